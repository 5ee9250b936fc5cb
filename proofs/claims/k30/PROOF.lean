import PyProof.Rows.All
import Wide.All
import OpenK.AllK
import Wide.FinOn
import HandS.ForMost
import HandS.ForExc
import HandS.Defaults
import HandS.IsInst
import HandS.Star
import HandS.ClsMeth
import HandS.Wide
import HandS.Conv
import HandS.Walk
import HandS.HeadEnd
import HandS.Style
import HandS.TupAny
import HandS.Strs
import HandS.CallSlots
import HandS.Deep
import HandS.TupLe
import HandS.RaiseMore
import HandS.TupLen
import HandS.Codes
import KE.GoesMore
import KE.KUnpackStar
import PyProof.InstNe
import KE.KStateDown
import HandS.Head0
import HandS.Head1
import HandS.Head2
import HandS.HeadHook1
import HandS.HeadHook2
import HandS.EndBits
import PySem.Challenge.RW_scaleways_k30_misfits_on_large_scales
set_option Elab.async false
set_option linter.all false
set_option maxRecDepth 100000
set_option maxHeartbeats 0
namespace TW
open PySem PySem.Spec PyProof.Rows L2

/-- what never changes, as a tree -/
inductive T where
  | non | bl (b : Bool) | int (i : Int) | str (s : Str)
  | lst (ts : List T) | tup (ts : List T)
  | dK (ks : List Key) (ts : List T) | dT (ks : List (List Key)) (ts : List T)
  | ins (c : Str) (ns : List Str) (ts : List T)
  | ty (n : String) | cls (c : Str) | scr (ns : List Int)
/-- a value of a slot: a tree, an object of the store, a source -/
inductive W where
  | im (t : T) | mr (k : Nat) | src (j : Nat)
/-- an object of the store -/
inductive MO where
  | lst (ws : List W) | dK (ks : List Key) (ws : List W) | dT (ks : List (List Key)) (ws : List W) | ins (c : Str) (ns : List Str) (ws : List W)
abbrev Sto := List MO
/-- where the store's objects and the sources stand -/
structure RC where
  mu : List Addr
  be : List (List Addr)
  /-- what is being made (a comprehension's list): nobody else sees it -/
  hi : List Addr
def Mu (c : RC) (a : Addr) : Prop := a ∈ c.mu ∨ (∃ r ∈ c.be, a ∈ r) ∨ a ∈ c.hi

/-- the written part, where each own class stands -/
structure Gr where
  K : PySem.W.Frag
  cl : Str → Addr
  cs : List Str
/-- a list of the written part -/
def KLst (K : PySem.W.Frag) (a : Addr) (xs : List V) : Prop := ∃ o its n, List.lookup a K = some o ∧ o.cls = Value.type "list" ∧ o.dict = none ∧ o.data = Data.seq its n ∧ its.size ≤ sizeLine ∧ Vals xs its.toList
/-- the class x, its fields ns -/
structure InsOk (G : Gr) (x : Str) (ns : List Str) : Prop where
  mem : x ∈ G.cs
  cls : Cls G.K (G.cl x)
  no : ∀ f ∈ ns, NoAttr G.K (G.cl x) f
section
variable (G : Gr)
mutual
/-- the value v is the tree t -/
def Rep (c : RC) (H : Hp) : T → V → Prop
  | .non, v => v = .non
  | .bl b, v => v = .bl b
  | .int i, v => v = .int i
  | .str s, v => v = .str s
  | .ty n, v => v = .ty n
  | .cls x, v => v = .ref (G.cl x) ∧ x ∈ G.cs
  | .scr ns, v => ∃ a, v = .ref a ∧ ((∃ o, H a = some (.frz o (.lst (ns.map V.int))) ∧ ¬ Mu c a) ∨ KLst G.K a (ns.map V.int))
  | .lst ts, v => ∃ a vs, v = .ref a ∧ ¬ Mu c a ∧ H a = some (.lst vs) ∧ Reps c H ts vs
  | .tup ts, v => ∃ a vs, v = .ref a ∧ ¬ Mu c a ∧ H a = some (.tup vs) ∧ Reps c H ts vs
  | .dK ks ts, v => ∃ a vs, v = .ref a ∧ ¬ Mu c a ∧ H a = some (.dK (ks.zip vs)) ∧ ks.length = vs.length ∧ Reps c H ts vs
  | .dT ks ts, v => ∃ a vs, v = .ref a ∧ ¬ Mu c a ∧ H a = some (.dT (ks.zip vs)) ∧ ks.length = vs.length ∧ Reps c H ts vs
  | .ins x ns ts, v => ∃ a dx vs, v = .ref a ∧ ¬ Mu c a ∧ H a = some (.ins (G.cl x) dx (ns.zip vs)) ∧ ns.length = vs.length ∧ InsOk G x ns ∧ Reps c H ts vs
def Reps (c : RC) (H : Hp) : List T → List V → Prop
  | [], vs => vs = []
  | t :: ts, vs => ∃ v r, vs = v :: r ∧ Rep c H t v ∧ Reps c H ts r
end
def RepW (c : RC) (H : Hp) : W → V → Prop
  | .im t, v => Rep G c H t v
  | .mr k, v => ∃ a, c.mu[k]? = some a ∧ v = .ref a
  | .src j, v => ∃ a r, c.be[j / 2]? = some (a :: r) ∧ v = .ref a ∧ r.length = j % 2
def RepWs (c : RC) (H : Hp) : List W → List V → Prop
  | [], vs => vs = []
  | t :: ts, vs => ∃ v r, vs = v :: r ∧ RepW G c H t v ∧ RepWs c H ts r
def RepO (c : RC) (H : Hp) (a : Addr) : MO → Prop
  | .lst ws => ∃ vs, H a = some (.lst vs) ∧ RepWs G c H ws vs
  | .dK ks ws => ∃ vs, H a = some (.dK (ks.zip vs)) ∧ ks.length = vs.length ∧ RepWs G c H ws vs
  | .dT ks ws => ∃ vs, H a = some (.dT (ks.zip vs)) ∧ ks.length = vs.length ∧ RepWs G c H ws vs
  | .ins x ns ws => ∃ dx vs, H a = some (.ins (G.cl x) dx (ns.zip vs)) ∧ ns.length = vs.length ∧ InsOk G x ns ∧ RepWs G c H ws vs
end
theorem nodup_ix {l : List Addr} (h : l.Nodup) {i j : Nat} (hi : i < l.length) (hj : j < l.length) (e : l[i] = l[j]) : i = j := by
  rcases Nat.lt_trichotomy i j with q | q | q
  · exact absurd e (List.pairwise_iff_getElem.mp h i j hi hj q)
  · exact q
  · exact absurd e.symm (List.pairwise_iff_getElem.mp h j i hj hi q)
/-- a source: a list of two numbers; or a dict of a list of numbers and a number -/
inductive RegOk (H : Hp) : List Addr → Prop
  | box {a : Addr} {x y : Int} (h : H a = some (.lst [.int x, .int y])) (hx : 0 ≤ x) (hy : 0 ≤ y ∧ y < 2 ^ 32) : RegOk H [a]
  | deal {d g : Addr} {ns : List Int} {m : Int} (h : H d = some (.dK [(Sum.inr "great", .ref g), (Sum.inr "mixed", .int m)])) (hg : H g = some (.lst (ns.map V.int))) (hl : ns.length ≤ 100) (hn : ∀ n ∈ ns, 0 ≤ n) (hm : 0 ≤ m ∧ m < 2 ^ 32) (ne : d ≠ g) : RegOk H [d, g]
structure RelS (G : Gr) (c : RC) (H : Hp) (S : Sto) : Prop where
  len : c.mu.length = S.length
  nd : c.mu.Nodup
  obj : ∀ (k : Nat) (o : MO) (a : Addr), S[k]? = some o → c.mu[k]? = some a → RepO G c H a o
  reg : ∀ (j : Nat) (r : List Addr), c.be[j]? = some r → RegOk H r
  dis : ∀ (j : Nat) (r : List Addr), c.be[j]? = some r → ∀ a ∈ r, a ∉ c.mu
  apt : ∀ (j j' : Nat) (r r' : List Addr), c.be[j]? = some r → c.be[j']? = some r' → j ≠ j' → ∀ a ∈ r, a ∉ r'
  hid : ∀ a ∈ c.hi, H a ≠ none ∧ a ∉ c.mu ∧ ∀ (j : Nat) (r : List Addr), c.be[j]? = some r → a ∉ r
structure Grow0 (c : RC) (H : Hp) (c' : RC) (H' : Hp) : Prop where
  im : ∀ a o, H a = some o → ¬ Mu c a → H' a = some o ∧ ¬ Mu c' a
  mu : ∀ (k : Nat) (a : Addr), c.mu[k]? = some a → c'.mu[k]? = some a
  be : ∀ (j : Nat) (r : List Addr), c.be[j]? = some r → c'.be[j]? = some r
structure Grow (c : RC) (H : Hp) (c' : RC) (H' : Hp) : Prop where
  im : ∀ a o, H a = some o → ¬ Mu c a → H' a = some o ∧ ¬ Mu c' a
  mu : ∀ (k : Nat) (a : Addr), c.mu[k]? = some a → c'.mu[k]? = some a
  be : ∀ (j : Nat) (r : List Addr), c.be[j]? = some r → c'.be[j]? = some r
  hi : ∀ a ∈ c.hi, a ∈ c'.hi ∧ H' a = H a
theorem Grow.g0 {c c' : RC} {H H' : Hp} (g : Grow c H c' H') : Grow0 c H c' H' := ⟨g.im, g.mu, g.be⟩
theorem Grow.refl {c : RC} {H : Hp} : Grow c H c H := ⟨fun _ _ h n => ⟨h, n⟩, fun _ _ h => h, fun _ _ h => h, fun _ h => ⟨h, rfl⟩⟩
theorem Grow.trans {c c1 c2 : RC} {H H1 H2 : Hp} (g : Grow c H c1 H1) (g' : Grow c1 H1 c2 H2) : Grow c H c2 H2 :=
  ⟨fun a o h n => let ⟨h1, n1⟩ := g.im a o h n; g'.im a o h1 n1, fun k a h => g'.mu k a (g.mu k a h), fun j r h => g'.be j r (g.be j r h), fun a h => ⟨(g'.hi a (g.hi a h).1).1, (g'.hi a (g.hi a h).1).2.trans (g.hi a h).2⟩⟩
theorem Grow.rd {c c' : RC} {H H' : Hp} (g : Grow c H c' H') {a : Addr} {u : HO} (n : ¬ Mu c a) (h : Rd H a u) : Rd H' a u ∧ ¬ Mu c' a := by
  rcases h with h | ⟨o, h⟩
  · exact ⟨.inl (g.im a _ h n).1, (g.im a _ h n).2⟩
  · exact ⟨.inr ⟨o, (g.im a _ h n).1⟩, (g.im a _ h n).2⟩
section
variable {G : Gr} {c c' : RC} {H H' : Hp}
structure GrowI (c : RC) (H : Hp) (c' : RC) (H' : Hp) : Prop where
  im : ∀ a o, H a = some o → ¬ Mu c a → H' a = some o ∧ ¬ Mu c' a
mutual
theorem Rep.monoI (g : GrowI c H c' H') : ∀ (t : T) (v : V), Rep G c H t v → Rep G c' H' t v
  | .non, _, h => by rw [Rep] at h ⊢; exact h
  | .bl _, _, h => by rw [Rep] at h ⊢; exact h
  | .int _, _, h => by rw [Rep] at h ⊢; exact h
  | .str _, _, h => by rw [Rep] at h ⊢; exact h
  | .ty _, _, h => by rw [Rep] at h ⊢; exact h
  | .cls _, _, h => by rw [Rep] at h ⊢; exact h
  | .lst ts, v, h => by
    rw [Rep] at h ⊢
    obtain ⟨a, vs, e, n, r, q⟩ := h
    exact ⟨a, vs, e, (g.im a _ r n).2, (g.im a _ r n).1, Reps.monoI g ts vs q⟩
  | .tup ts, v, h => by
    rw [Rep] at h ⊢
    obtain ⟨a, vs, e, n, r, q⟩ := h
    exact ⟨a, vs, e, (g.im a _ r n).2, (g.im a _ r n).1, Reps.monoI g ts vs q⟩
  | .scr ns, v, h => by
    rw [Rep] at h ⊢
    obtain ⟨a, e, ⟨o, h, n⟩ | h⟩ := h
    · exact ⟨a, e, .inl ⟨o, (g.im a _ h n).1, (g.im a _ h n).2⟩⟩
    · exact ⟨a, e, .inr h⟩
  | .dK ks ts, v, h => by
    rw [Rep] at h ⊢
    obtain ⟨a, vs, e, n, r, l, q⟩ := h
    exact ⟨a, vs, e, (g.im a _ r n).2, (g.im a _ r n).1, l, Reps.monoI g ts vs q⟩
  | .dT ks ts, v, h => by
    rw [Rep] at h ⊢
    obtain ⟨a, vs, e, n, r, l, q⟩ := h
    exact ⟨a, vs, e, (g.im a _ r n).2, (g.im a _ r n).1, l, Reps.monoI g ts vs q⟩
  | .ins x ns ts, v, h => by
    rw [Rep] at h ⊢
    obtain ⟨a, dx, vs, e, n, r, l, io, q⟩ := h
    exact ⟨a, dx, vs, e, (g.im a _ r n).2, (g.im a _ r n).1, l, io, Reps.monoI g ts vs q⟩
theorem Reps.monoI (g : GrowI c H c' H') : ∀ (ts : List T) (vs : List V), Reps G c H ts vs → Reps G c' H' ts vs
  | [], _, h => by rw [Reps] at h ⊢; exact h
  | t :: ts, vs, h => by
    rw [Reps] at h ⊢
    obtain ⟨v, r, e, h1, h2⟩ := h
    exact ⟨v, r, e, Rep.monoI g t v h1, Reps.monoI g ts r h2⟩
end
theorem Rep.mono0 (g : Grow0 c H c' H') (t : T) (v : V) (h : Rep G c H t v) : Rep G c' H' t v := Rep.monoI ⟨g.im⟩ t v h
theorem Reps.mono0 (g : Grow0 c H c' H') (t : List T) (v : List V) (h : Reps G c H t v) : Reps G c' H' t v := Reps.monoI ⟨g.im⟩ t v h
theorem RepW.mono0 (g : Grow0 c H c' H') : ∀ (w : W) (v : V), RepW G c H w v → RepW G c' H' w v
  | .im t, v, h => Rep.mono0 g t v h
  | .mr k, v, ⟨a, h, e⟩ => ⟨a, g.mu k a h, e⟩
  | .src j, v, ⟨a, r, h, e⟩ => ⟨a, r, g.be _ _ h, e⟩
theorem RepWs.mono0 (g : Grow0 c H c' H') : ∀ (ws : List W) (vs : List V), RepWs G c H ws vs → RepWs G c' H' ws vs
  | [], _, h => h
  | w :: ws, _, ⟨v, r, e, h1, h2⟩ => ⟨v, r, e, RepW.mono0 g w v h1, RepWs.mono0 g ws r h2⟩
theorem Rep.mono (g : Grow c H c' H') : ∀ (t : T) (v : V), Rep G c H t v → Rep G c' H' t v := Rep.mono0 g.g0
theorem Reps.mono (g : Grow c H c' H') : ∀ (ts : List T) (vs : List V), Reps G c H ts vs → Reps G c' H' ts vs := Reps.mono0 g.g0
theorem RepW.mono (g : Grow c H c' H') : ∀ (w : W) (v : V), RepW G c H w v → RepW G c' H' w v := RepW.mono0 g.g0
theorem RepWs.mono (g : Grow c H c' H') : ∀ (ws : List W) (vs : List V), RepWs G c H ws vs → RepWs G c' H' ws vs := RepWs.mono0 g.g0
theorem RepWs.length : ∀ {ws : List W} {vs : List V}, RepWs G c H ws vs → vs.length = ws.length
  | [], _, h => by subst h; rfl
  | w :: ws, _, ⟨v, r, e, _, h2⟩ => by subst e; simp [RepWs.length h2]
theorem Reps.length : ∀ {ts : List T} {vs : List V}, Reps G c H ts vs → vs.length = ts.length
  | [], _, h => by rw [Reps] at h; subst h; rfl
  | t :: ts, _, h => by
    rw [Reps] at h
    obtain ⟨v, r, e, _, h2⟩ := h
    subst e
    simp [Reps.length h2]
theorem Reps.ws : ∀ {ts : List T} {vs : List V}, Reps G c H ts vs → RepWs G c H (ts.map W.im) vs
  | [], _, h => by rw [Reps] at h; exact h
  | t :: ts, _, h => by
    rw [Reps] at h
    obtain ⟨v, r, e, h1, h2⟩ := h
    exact ⟨v, r, e, h1, Reps.ws h2⟩
theorem RepWs.ts : ∀ {ts : List T} {vs : List V}, RepWs G c H (ts.map W.im) vs → Reps G c H ts vs
  | [], _, h => by rw [Reps]; exact h
  | t :: ts, _, ⟨v, r, e, h1, h2⟩ => by
    rw [Reps]
    exact ⟨v, r, e, h1, RepWs.ts h2⟩
theorem RepWs.append : ∀ {ws ws' : List W} {vs vs' : List V}, RepWs G c H ws vs → RepWs G c H ws' vs' → RepWs G c H (ws ++ ws') (vs ++ vs')
  | [], _, _, _, h, h' => by
    have e : _ = [] := h
    subst e
    exact h'
  | w :: ws, _, _, _, ⟨v, r, e, h1, h2⟩, h' => by
    subst e
    exact ⟨v, r ++ _, rfl, h1, RepWs.append h2 h'⟩
theorem RepWs.get : ∀ {ws : List W} {vs : List V} {i : Nat} {w : W}, RepWs G c H ws vs → ws[i]? = some w → ∃ v, vs[i]? = some v ∧ RepW G c H w v
  | [], _, _, _, _, h' => by simp at h'
  | w :: ws, _, 0, _, ⟨v, r, e, h1, h2⟩, h' => by
    subst e
    simp at h'
    subst h'
    exact ⟨v, rfl, h1⟩
  | w :: ws, _, i + 1, _, ⟨v, r, e, h1, h2⟩, h' => by
    subst e
    obtain ⟨v', e', q⟩ := RepWs.get h2 (i := i) (by simpa using h')
    exact ⟨v', by simpa using e', q⟩
theorem Reps.get {ts : List T} {vs : List V} {i : Nat} {t : T} (h : Reps G c H ts vs) (e : ts[i]? = some t) : ∃ v, vs[i]? = some v ∧ Rep G c H t v := by
  obtain ⟨v, e', q⟩ := RepWs.get h.ws (i := i) (w := .im t) (by simp [e])
  exact ⟨v, e', q⟩
theorem Reps.drop : ∀ {ts : List T} {vs : List V} (n : Nat), Reps G c H ts vs → Reps G c H (ts.drop n) (vs.drop n)
  | _, _, 0, h => h
  | [], _, n + 1, h => by
    rw [Reps] at h
    subst h
    rw [List.drop_nil, List.drop_nil, Reps]
  | t :: ts, _, n + 1, h => by
    rw [Reps] at h
    obtain ⟨v, r, e, _, h2⟩ := h
    subst e
    exact Reps.drop n h2
theorem Reps.take : ∀ {ts : List T} {vs : List V} (n : Nat), Reps G c H ts vs → Reps G c H (ts.take n) (vs.take n)
  | _, _, 0, h => by rw [List.take_zero, List.take_zero, Reps]
  | [], _, n + 1, h => by
    rw [Reps] at h
    subst h
    rw [List.take_nil, List.take_nil, Reps]
  | t :: ts, _, n + 1, h => by
    rw [Reps] at h
    obtain ⟨v, r, e, h1, h2⟩ := h
    subst e
    rw [List.take_succ_cons, List.take_succ_cons, Reps]
    exact ⟨v, _, rfl, h1, Reps.take n h2⟩
theorem Reps.append {ts ts' : List T} {vs vs' : List V} (h : Reps G c H ts vs) (h' : Reps G c H ts' vs') : Reps G c H (ts ++ ts') (vs ++ vs') := by
  refine RepWs.ts ?_
  rw [List.map_append]
  exact h.ws.append h'.ws
theorem RepO.mono0 (g : Grow0 c H c' H') {a : Addr} (e : H' a = H a) : ∀ {o : MO}, RepO G c H a o → RepO G c' H' a o
  | .lst ws, ⟨vs, h, r⟩ => ⟨vs, e.trans h, r.mono0 g⟩
  | .dK ks ws, ⟨vs, h, l, r⟩ => ⟨vs, e.trans h, l, r.mono0 g⟩
  | .dT ks ws, ⟨vs, h, l, r⟩ => ⟨vs, e.trans h, l, r.mono0 g⟩
  | .ins x ns ws, ⟨dx, vs, h, l, io, r⟩ => ⟨dx, vs, e.trans h, l, io, r.mono0 g⟩
theorem RepO.mono (g : Grow c H c' H') {a : Addr} (e : H' a = H a) {o : MO} : RepO G c H a o → RepO G c' H' a o := RepO.mono0 g.g0 e
theorem RepO.there {a : Addr} : ∀ {o : MO}, RepO G c H a o → H a ≠ none
  | .lst ws, ⟨vs, h, r⟩ => by rw [h]; simp
  | .dK ks ws, ⟨vs, h, l, r⟩ => by rw [h]; simp
  | .dT ks ws, ⟨vs, h, l, r⟩ => by rw [h]; simp
  | .ins x ns ws, ⟨dx, vs, h, l, r⟩ => by rw [h]; simp
theorem RegOk.there {r : List Addr} (h : RegOk H r) : ∀ a ∈ r, H a ≠ none := by
  intro a ha
  cases h with
  | box h =>
    simp at ha
    subst ha
    rw [h]
    simp
  | deal h hg =>
    simp at ha
    rcases ha with rfl | rfl
    · rw [h]; simp
    · rw [hg]; simp
theorem RelS.there {S : Sto} (r : RelS G c H S) {a : Addr} (m : Mu c a) : H a ≠ none := by
  rcases m with m | ⟨g, hg, m⟩ | m
  rotate_left 2
  · exact (r.hid a m).1
  · obtain ⟨k, hk, e⟩ := List.getElem_of_mem m
    have e1 : c.mu[k]? = some a := by rw [List.getElem?_eq_getElem hk, e]
    have hk' : k < S.length := by rw [← r.len]; exact hk
    exact (r.obj k _ a (List.getElem?_eq_getElem hk') e1).there
  · obtain ⟨j, hj, e⟩ := List.getElem_of_mem hg
    exact (r.reg j g (by rw [List.getElem?_eq_getElem hj, e])).there a m
theorem RelS.free {S : Sto} (r : RelS G c H S) {p : Addr} (np : H p = none) : ¬ Mu c p := fun m => r.there m np
theorem RegOk.keep {r : List Addr} (h : RegOk H r) (k : ∀ a ∈ r, H' a = H a) : RegOk H' r := by
  cases h with
  | box h hx hy => exact .box ((k _ (by simp)).trans h) hx hy
  | deal h hg hl hn hm ne => exact .deal ((k _ (by simp)).trans h) ((k _ (by simp)).trans hg) hl hn hm ne
/-- a new thing that never changes -/
theorem Grow.new {S : Sto} {p : Addr} {o : HO} (r : RelS G c H S) (np : H p = none) : Grow c H c (upd H p o) :=
  ⟨fun a x h n => ⟨by rw [upd_ne (ne_of_none h np)]; exact h, n⟩, fun _ _ h => h, fun _ _ h => h, fun a h => ⟨h, upd_ne fun e => (r.hid a h).1 (by rw [e]; exact np)⟩⟩
theorem RelS.new {S : Sto} {p : Addr} {o : HO} (r : RelS G c H S) (np : H p = none) : RelS G c (upd H p o) S where
  len := r.len
  nd := r.nd
  obj := fun k x a h1 h2 => RepO.mono (Grow.new r np) (upd_ne fun e => by
    subst e
    exact (r.obj k x _ h1 h2).there np) (r.obj k x a h1 h2)
  reg := fun j g h => (r.reg j g h).keep fun a ha => upd_ne fun e => by
    subst e
    exact (r.reg j g h).there _ ha np
  dis := r.dis
  apt := r.apt
  hid := fun a ha => ⟨by
    by_cases e : a = p
    · subst e; rw [upd_same]; simp
    · rw [upd_ne e]; exact (r.hid a ha).1, (r.hid a ha).2⟩
/-- a new object of the store -/
def RC.push (c : RC) (p : Addr) : RC := ⟨c.mu ++ [p], c.be, c.hi⟩
theorem Grow.push {S : Sto} (r : RelS G c H S) {p : Addr} {o : HO} (np : H p = none) : Grow c H (c.push p) (upd H p o) where
  im := fun a x h n => ⟨by rw [upd_ne (ne_of_none h np)]; exact h, fun m => by
    rcases m with m | m
    · rcases List.mem_append.mp m with m | m
      · exact n (.inl m)
      · simp at m
        subst m
        rw [np] at h
        cases h
    · exact n (.inr m)⟩
  mu := fun k a h => by
    show (c.mu ++ [p])[k]? = some a
    rw [List.getElem?_append_left (List.getElem?_eq_some_iff.mp h).1]
    exact h
  be := fun _ _ h => h
  hi := fun a h => ⟨h, upd_ne fun e => (r.hid a h).1 (by rw [e]; exact np)⟩
theorem RelS.push {S : Sto} {p : Addr} {o : HO} {m : MO} (r : RelS G c H S) (np : H p = none) (h : RepO G (c.push p) (upd H p o) p m) : RelS G (c.push p) (upd H p o) (S ++ [m]) where
  len := by simp [RC.push, r.len]
  nd := by
    show (c.mu ++ [p]).Nodup
    rw [List.nodup_append]
    refine ⟨r.nd, by simp, fun a ha b hb e => ?_⟩
    simp at hb
    subst hb
    subst e
    exact r.there (.inl ha) np
  obj := fun k x a h1 h2 => by
    have h2' : (c.mu ++ [p])[k]? = some a := h2
    by_cases hk : k < S.length
    · rw [List.getElem?_append_left hk] at h1
      rw [List.getElem?_append_left (by rw [r.len]; exact hk)] at h2'
      refine RepO.mono (Grow.push r np) (upd_ne fun e => ?_) (r.obj k x a h1 h2')
      subst e
      exact (r.obj k x _ h1 h2').there np
    · have hl : k = S.length := by
        have := (List.getElem?_eq_some_iff.mp h1).1
        rw [List.length_append] at this
        simp at this
        omega
      subst hl
      rw [List.getElem?_append_right (Nat.le_refl _)] at h1
      rw [List.getElem?_append_right (by rw [r.len]; exact Nat.le_refl _), r.len] at h2'
      simp at h1 h2'
      subst h1
      subst h2'
      exact h
  reg := fun j g h => (r.reg j g h).keep fun a ha => upd_ne fun e => by
    subst e
    exact (r.reg j g h).there _ ha np
  dis := fun j g hg a ha m => by
    rcases List.mem_append.mp m with m | m
    · exact r.dis j g hg a ha m
    · simp at m
      subst m
      exact (r.reg j g hg).there _ ha np
  apt := r.apt
  hid := fun a ha => ⟨by
    by_cases e : a = p
    · subst e; rw [upd_same]; simp
    · rw [upd_ne e]; exact (r.hid a ha).1, fun m => by
      rcases List.mem_append.mp m with m | m
      · exact (r.hid a ha).2.1 m
      · simp at m
        subst m
        exact (r.hid _ ha).1 np, (r.hid a ha).2.2⟩
/-- an object of the store is changed -/
theorem Grow.set {S : Sto} {k : Nat} {a : Addr} {o : HO} (r : RelS G c H S) (hk : c.mu[k]? = some a) : Grow c H c (upd H a o) :=
  ⟨fun b x h n => ⟨by rw [upd_ne fun e => n (by rw [e]; exact .inl (List.mem_of_getElem? hk))]; exact h, n⟩, fun _ _ h => h, fun _ _ h => h, fun b h => ⟨h, upd_ne fun e => (r.hid b h).2.1 (by rw [e]; exact List.mem_of_getElem? hk)⟩⟩
theorem RelS.set {S : Sto} {k : Nat} {a : Addr} {o : HO} {m : MO} (r : RelS G c H S) (hk : c.mu[k]? = some a) (h : RepO G c (upd H a o) a m) : RelS G c (upd H a o) (S.set k m) where
  len := by simp [r.len]
  nd := r.nd
  obj := fun k' x b h1 h2 => by
    by_cases e : k' = k
    · subst e
      rw [hk] at h2
      cases h2
      have hl : k' < S.length := by rw [← r.len]; exact (List.getElem?_eq_some_iff.mp hk).1
      rw [List.getElem?_set_self hl] at h1
      cases h1
      exact h
    · rw [List.getElem?_set_ne (Ne.symm e)] at h1
      refine RepO.mono (Grow.set r hk) (upd_ne fun z => e ?_) (r.obj k' x b h1 h2)
      subst z
      have i1 := (List.getElem?_eq_some_iff.mp h2)
      have i2 := (List.getElem?_eq_some_iff.mp hk)
      exact nodup_ix r.nd i1.1 i2.1 (i1.2.trans i2.2.symm)
  reg := fun j g hg => (r.reg j g hg).keep fun b hb => upd_ne fun e => by
    subst e
    exact r.dis j g hg _ hb (List.mem_of_getElem? hk)
  dis := r.dis
  apt := r.apt
  hid := fun b hb => ⟨by
    by_cases e : b = a
    · subst e; rw [upd_same]; simp
    · rw [upd_ne e]; exact (r.hid b hb).1, (r.hid b hb).2⟩
/-- a hidden list is made -/
def RC.hide (c : RC) (p : Addr) : RC := ⟨c.mu, c.be, p :: c.hi⟩
theorem Grow.hide {S : Sto} {p : Addr} {o : HO} (r : RelS G c H S) (np : H p = none) : Grow c H (c.hide p) (upd H p o) where
  im := fun a x h n => ⟨by rw [upd_ne (ne_of_none h np)]; exact h, fun m => by
    rcases m with m | m | m
    · exact n (.inl m)
    · exact n (.inr (.inl m))
    · rcases List.mem_cons.mp m with e | m
      · rw [e, np] at h
        cases h
      · exact n (.inr (.inr m))⟩
  mu := fun _ _ h => h
  be := fun _ _ h => h
  hi := fun a h => ⟨List.mem_cons_of_mem _ h, upd_ne fun e => (r.hid a h).1 (by rw [e]; exact np)⟩
theorem RelS.hide {S : Sto} {p : Addr} {o : HO} (r : RelS G c H S) (np : H p = none) : RelS G (c.hide p) (upd H p o) S where
  len := r.len
  nd := r.nd
  obj := fun k x a h1 h2 => RepO.mono (Grow.hide r np) (upd_ne fun e => by
    subst e
    exact (r.obj k x _ h1 h2).there np) (r.obj k x a h1 h2)
  reg := fun j g h => (r.reg j g h).keep fun a ha => upd_ne fun e => by
    subst e
    exact (r.reg j g h).there _ ha np
  dis := r.dis
  apt := r.apt
  hid := fun a ha => by
    rcases List.mem_cons.mp ha with e | ha
    · subst e
      exact ⟨by rw [upd_same]; simp, fun m => r.there (.inl m) np, fun j g h m => (r.reg j g h).there _ m np⟩
    · exact ⟨by
        by_cases e : a = p
        · subst e; rw [upd_same]; simp
        · rw [upd_ne e]; exact (r.hid a ha).1, (r.hid a ha).2⟩
/-- the hidden list changes -/
theorem Grow0.hup {p : Addr} {o : HO} (hp : p ∈ c.hi) : Grow0 c H c (upd H p o) :=
  ⟨fun a x h n => ⟨by rw [upd_ne fun e => n (by rw [e]; exact .inr (.inr hp))]; exact h, n⟩, fun _ _ h => h, fun _ _ h => h⟩
theorem RelS.hup {S : Sto} {p : Addr} {o : HO} (r : RelS G c H S) (hp : p ∈ c.hi) : RelS G c (upd H p o) S where
  len := r.len
  nd := r.nd
  obj := fun k x a h1 h2 => RepO.mono0 (Grow0.hup hp) (upd_ne fun e => by
    subst e
    exact (r.hid _ hp).2.1 (List.mem_of_getElem? h2)) (r.obj k x a h1 h2)
  reg := fun j g h => (r.reg j g h).keep fun a ha => upd_ne fun e => by
    subst e
    exact (r.hid _ hp).2.2 j g h ha
  dis := r.dis
  apt := r.apt
  hid := fun a ha => ⟨by
    by_cases e : a = p
    · subst e; rw [upd_same]; simp
    · rw [upd_ne e]; exact (r.hid a ha).1, (r.hid a ha).2⟩
/-- fewer are hidden -/
theorem Grow0.unhide {l : List Addr} (hl : ∀ a ∈ l, a ∈ c.hi) : Grow0 c H ⟨c.mu, c.be, l⟩ H :=
  ⟨fun a x h n => ⟨h, fun m => n (by
    rcases m with m | m | m
    · exact .inl m
    · exact .inr (.inl m)
    · exact .inr (.inr (hl a m)))⟩, fun _ _ h => h, fun _ _ h => h⟩
theorem RelS.unhide {S : Sto} {l : List Addr} (r : RelS G c H S) (hl : ∀ a ∈ l, a ∈ c.hi) : RelS G ⟨c.mu, c.be, l⟩ H S where
  len := r.len
  nd := r.nd
  obj := fun k x a h1 h2 => RepO.mono0 (Grow0.unhide hl) rfl (r.obj k x a h1 h2)
  reg := r.reg
  dis := r.dis
  apt := r.apt
  hid := fun a ha => r.hid a (hl a ha)
end
end TW

namespace TW
open PySem L2

abbrev SE := List (Option W)
def getS : SE → Nat → Option W
  | [], _ => none
  | x :: _, 0 => x
  | _ :: r, n + 1 => getS r n
def setS : SE → Nat → Option W → SE
  | [], _, _ => []
  | _ :: r, 0, w => w :: r
  | x :: r, n + 1, w => x :: setS r n w
def setAll : SE → List Nat → List W → SE
  | ρ, i :: is, w :: ws => setAll (setS ρ i (some w)) is ws
  | ρ, _, _ => ρ
/-- an error: its class (.cls or .ty), its fields -/
structure Exc where
  c : T
  ns : List Str
  ws : List W
abbrev VQ := W → Sto → Prop
abbrev XQ := Exc → Sto → Prop
abbrev Spec := List W → Sto → VQ → XQ → Prop

def imAll : List W → Option (List T)
  | [] => some []
  | .im t :: r => (imAll r).map (t :: ·)
  | _ :: _ => none
/-- the items of a list (not the script) -/
def lstN (S : Sto) : W → Option (List T)
  | .im (.lst ts) => some ts
  | .mr k => match S[k]? with
    | some (.lst ws) => imAll ws
    | _ => none
  | _ => none
/-- the items of a list -/
def lstOf (S : Sto) : W → Option (List T)
  | .im (.scr ns) => some (ns.map T.int)
  | w => lstN S w
/-- the items of a list or a tuple -/
def seqOf (S : Sto) : W → Option (List T)
  | .im (.tup ts) => some ts
  | w => lstOf S w
/-- the tree of a value -/
def toT (S : Sto) : W → Option T
  | .im t => some t
  | .mr k => match S[k]? with
    | some (.lst ws) => (imAll ws).map T.lst
    | _ => none
  | _ => none
def lenW (S : Sto) : W → Option Nat
  | .im (.str s) => some s.length
  | .im (.dK ks _) => some ks.length
  | .im (.dT ks _) => some ks.length
  | .mr k => match S[k]? with
    | some (.lst ws) => some ws.length
    | some (.dK ks _) => some ks.length
    | some (.dT ks _) => some ks.length
    | _ => none
  | w => (seqOf S w).map List.length
def lookF {α : Type} (f : Str) : List Str → List α → Option α
  | n :: ns, t :: ts => if f = n then some t else lookF f ns ts
  | _, _ => none
def putW (f : Str) (w : W) : List Str → List W → List Str × List W
  | n :: ns, t :: ts => if f = n then (n :: ns, w :: ts) else let p := putW f w ns ts; (n :: p.1, t :: p.2)
  | _, _ => ([f], [w])
/-- the attribute f -/
def attrW (S : Sto) (f : Str) : W → Option W
  | .im (.ins _ ns ts) => (lookF f ns ts).map W.im
  | .mr k => match S[k]? with
    | some (.ins _ ns ws) => lookF f ns ws
    | _ => none
  | _ => none
/-- the class of an instance -/
def clsW (S : Sto) : W → Option Str
  | .im (.ins c _ _) => some c
  | .mr k => match S[k]? with
    | some (.ins c _ _) => some c
    | _ => none
  | _ => none
mutual
/-- plain data -/
def pd : T → Option PyData
  | .non => some .none
  | .bl b => some (.bool b)
  | .int i => some (.int i)
  | .str s => some (.str s)
  | .lst ts => (pds ts).map PyData.list
  | .tup ts => (pds ts).map PyData.tuple
  | _ => none
def pds : List T → Option (List PyData)
  | [] => some []
  | t :: ts => (pd t).bind fun d => (pds ts).map (d :: ·)
end
def pdW (S : Sto) (w : W) : Option PyData := (toT S w).bind pd
/-- the classes that isinstance is asked of -/
def tys : List String := ["int", "bool", "str", "list", "tuple"]
/-- the class of a value: a built-in one, an own one -/
def tagT : T → Option (Sum String Str)
  | .int _ => some (.inl "int")
  | .bl _ => some (.inl "bool")
  | .str _ => some (.inl "str")
  | .lst _ => some (.inl "list")
  | .scr _ => some (.inl "list")
  | .tup _ => some (.inl "tuple")
  | .non => some (.inl "NoneType")
  | .ins c _ _ => some (.inr c)
  | _ => none
def tagW (S : Sto) : W → Option (Sum String Str)
  | .im t => tagT t
  | .mr k => match S[k]? with
    | some (.lst _) => some (.inl "list")
    | some (.ins c _ _) => some (.inr c)
    | _ => none
  | _ => none
def isiTag : Sum String Str → T → Option Bool
  | .inl a, .ty n => if tys.contains n then some (a == n || (a == "bool" && n == "int")) else none
  | .inr _, .ty n => if tys.contains n then some false else none
  | .inl _, .cls _ => some false
  | .inr c, .cls c' => some (decide (c = c'))
  | _, _ => none
def isiTags (g : Sum String Str) : List T → Option Bool
  | [] => some false
  | c :: r => (isiTag g c).bind fun b => (isiTags g r).bind fun b' => some (b || b')
def isiW (S : Sto) (w : W) : W → Option Bool
  | .im (.tup cs) => (tagW S w).bind fun g => isiTags g cs
  | .im c => (tagW S w).bind fun g => isiTag g c
  | _ => none
/-- a number, a text, a truth value, None -/
def flatT : T → Option V
  | .int i => some (.int i)
  | .str i => some (.str i)
  | .bl i => some (.bl i)
  | .non => some .non
  | _ => none
def flatTs : List T → Option (List V)
  | [] => some []
  | t :: ts => (flatT t).bind fun v => (flatTs ts).map (v :: ·)

inductive Bi where
  | len | abs | min2 | max2 | int1 | str1 | tuple1 | list1 | all1 | any1 | sorted1 | isi | lenset | max1 | min1
inductive Bm where
  | append | extend | pop0 | pop1 | join | split
inductive Pr where
  | bin (op : Operator) | cmp (op : CmpOp) | un (op : UnaryOp)
  | blt (b : Bi) | attr (f : Str) | ix | sl (lo hi : Bool) | rev | tup | lst | nlst
def boolsT : List T → Option (List Bool)
  | [] => some []
  | .bl b :: r => (boolsT r).map (b :: ·)
  | _ => none
def intsT : List T → Option (List Int)
  | [] => some []
  | .int b :: r => (intsT r).map (b :: ·)
  | _ => none
def strsT : List T → Option (List Str)
  | [] => some []
  | .str b :: r => (strsT r).map (b :: ·)
  | _ => none
/-- a slice's ends -/
def cutT {α : Type} (xs : List α) (lo hi : Option Int) : List α := (xs.drop (HT.sIx xs.length 0 lo)).take (HT.sIx xs.length xs.length hi - HT.sIx xs.length 0 lo)
def wideMul (i j : Int) : Prop := CMulW i j
def wideDiv (i j : Int) : Prop := CDivW i j
def isNon : T → Bool
  | .non => true
  | _ => false
def binP (S : Sto) : Operator → W → W → VQ → Prop
  | .Add, .im (.int i), .im (.int j), Q => Q (.im (.int (i + j))) S
  | .Add, .im (.str i), .im (.str j), Q => i.length + j.length ≤ sizeLine ∧ Q (.im (.str (i ++ j))) S
  | .Add, .im (.tup i), .im (.tup j), Q => i.length + j.length ≤ sizeLine ∧ Q (.im (.tup (i ++ j))) S
  | .Add, a, b, Q => ∃ i j, lstN S a = some i ∧ lstN S b = some j ∧ i.length + j.length ≤ sizeLine ∧ Q (.im (.lst (i ++ j))) S
  | .Sub, .im (.int i), .im (.int j), Q => Q (.im (.int (i - j))) S
  | .Mult, .im (.int i), .im (.int j), Q => wideMul i j ∧ Q (.im (.int (i * j))) S
  | .FloorDiv, .im (.int i), .im (.int j), Q => wideDiv i j ∧ Q (.im (.int (i / j))) S
  | .Mod, .im (.int i), .im (.int j), Q => 0 < j ∧ Q (.im (.int (i % j))) S
  | .Pow, .im (.int i), .im (.int j), Q => CPow i j ∧ Q (.im (.int (i ^ j.toNat))) S
  | _, _, _, _ => False
def inP (S : Sto) (a b : W) (Q : Bool → Prop) : Prop :=
  match a, b with
  | .im (.str i), .im (.str j) => ∃ c, i = ⟨#[c]⟩ ∧ Q (decide (c ∈ j.cps.toList))
  | .im a, b => ∃ x ts vs, flatT a = some x ∧ seqOf S b = some ts ∧ flatTs ts = some vs ∧ Q (inV x vs)
  | _, _ => False
def cmpP (S : Sto) : CmpOp → W → W → VQ → Prop
  | .Lt, .im (.int i), .im (.int j), Q => Q (.im (.bl (decide (i < j)))) S
  | .Lt, .im (.tup [.int a, .int b]), .im (.tup [.int c, .int d]), Q => Q (.im (.bl (if a = c then decide (b < d) else decide (a < c)))) S
  | .LtE, .im (.int i), .im (.int j), Q => Q (.im (.bl (decide (i ≤ j)))) S
  | .Gt, .im (.int i), .im (.int j), Q => Q (.im (.bl (decide (j < i)))) S
  | .GtE, .im (.int i), .im (.int j), Q => Q (.im (.bl (decide (j ≤ i)))) S
  | .Is, .im a, .im .non, Q => Q (.im (.bl (isNon a))) S
  | .IsNot, .im a, .im .non, Q => Q (.im (.bl (!isNon a))) S
  | .Eq, .im (.int i), .im (.int j), Q => Q (.im (.bl (decide (i = j)))) S
  | .NotEq, .im (.int i), .im (.int j), Q => Q (.im (.bl (!decide (i = j)))) S
  | .Eq, .im (.bl i), .im (.bl j), Q => Q (.im (.bl (decide (i = j)))) S
  | .NotEq, .im (.bl i), .im (.bl j), Q => Q (.im (.bl (!decide (i = j)))) S
  | .Eq, .im (.str i), .im (.str j), Q => Q (.im (.bl (decide (i = j)))) S
  | .NotEq, .im (.str i), .im (.str j), Q => Q (.im (.bl (!decide (i = j)))) S
  | .Eq, a, b, Q => ∃ x y, pdW S a = some x ∧ pdW S b = some y ∧ SeqAt.shaped x = true ∧ SeqAt.shaped y = true ∧ Q (.im (.bl (PyData.eqv x y))) S
  | .NotEq, a, b, Q => ∃ x y, pdW S a = some x ∧ pdW S b = some y ∧ SeqAt.shaped x = true ∧ SeqAt.shaped y = true ∧ Q (.im (.bl (!PyData.eqv x y))) S
  | .In, a, b, Q => inP S a b fun k => Q (.im (.bl k)) S
  | .NotIn, a, b, Q => inP S a b fun k => Q (.im (.bl (!k))) S
  | _, _, _, _ => False
def unP (S : Sto) : UnaryOp → W → VQ → Prop
  | .USub, .im (.int i), Q => Q (.im (.int (-i))) S
  | _, _, _ => False
def biP (S : Sto) : Bi → List W → VQ → Prop
  | .len, [w], Q => ∃ n, lenW S w = some n ∧ n ≤ sizeLine ∧ Q (.im (.int (n : Int))) S
  | .abs, [.im (.int i)], Q => Q (.im (.int (if i < 0 then -i else i))) S
  | .min2, [.im (.int i), .im (.int j)], Q => Q (.im (.int (if j < i then j else i))) S
  | .max2, [.im (.int i), .im (.int j)], Q => Q (.im (.int (if j > i then j else i))) S
  | .int1, [.im (.int i)], Q => Q (.im (.int i)) S
  | .int1, [.im (.bl i)], Q => Q (.im (.int (if i then 1 else 0))) S
  | .int1, [.im (.str a)], Q => ∃ n, PySem.intText? a = some n ∧ a.length ≤ 640 ∧ Q (.im (.int n)) S
  | .str1, [.im (.int i)], Q => i.natAbs.log2 < 1920 ∧ Q (.im (.str (toString i))) S
  | .str1, [.im (.str i)], Q => Q (.im (.str i)) S
  | .tuple1, [w], Q => ∃ ts, seqOf S w = some ts ∧ Q (.im (.tup ts)) S
  | .list1, [w], Q => ∃ ts, seqOf S w = some ts ∧ Q (.im (.lst ts)) S
  | .all1, [w], Q => ∃ ts bs, lstOf S w = some ts ∧ boolsT ts = some bs ∧ Q (.im (.bl (bs.all id))) S
  | .any1, [w], Q => ∃ ts bs, lstOf S w = some ts ∧ boolsT ts = some bs ∧ Q (.im (.bl (bs.any id))) S
  | .sorted1, [w], Q => ∃ ts, lstOf S w = some ts ∧ ts.length < 64 ∧
      ((∃ ns, intsT ts = some ns ∧ ∀ ns' : List Int, ns'.Perm ns → ns'.Pairwise (· ≤ ·) → Q (.im (.lst (ns'.map T.int))) S) ∨
       (∃ ns, strsT ts = some ns ∧ ∀ ns' : List Str, ns'.Perm ns → PyProof.Rows.sortedS ns' = true → Q (.im (.lst (ns'.map T.str))) S))
  | .isi, [w, c], Q => ∃ b, isiW S w c = some b ∧ Q (.im (.bl b)) S
  | .max1, [w], Q => ∃ ts ns, lstOf S w = some ts ∧ intsT ts = some ns ∧ 0 < ns.length ∧ ∀ m, m ∈ ns → (∀ y, y ∈ ns → y ≤ m) → Q (.im (.int m)) S
  | .min1, [w], Q => ∃ ts ns, lstOf S w = some ts ∧ intsT ts = some ns ∧ 0 < ns.length ∧ ∀ m, m ∈ ns → (∀ y, y ∈ ns → m ≤ y) → Q (.im (.int m)) S
  | _, _, _ => False
def bmP (S : Sto) : Bm → List W → VQ → Prop
  | .append, [.mr k, w], Q => ∃ ws, S[k]? = some (.lst ws) ∧ ws.length < sizeLine ∧ Q (.im .non) (S.set k (.lst (ws ++ [w])))
  | .extend, [.mr k, w], Q => ∃ ws ts, S[k]? = some (.lst ws) ∧ lstN S w = some ts ∧ ws.length + ts.length ≤ sizeLine ∧ Q (.im .non) (S.set k (.lst (ws ++ ts.map W.im)))
  | .pop0, [.mr k], Q => ∃ ws w, S[k]? = some (.lst ws) ∧ ws[ws.length - 1]? = some w ∧ Q w (S.set k (.lst ws.dropLast))
  | .pop1, [.mr k, .im (.int i)], Q => ∃ ws j w, S[k]? = some (.lst ws) ∧ -(2 ^ 63) ≤ i ∧ i < 2 ^ 63 ∧ seqIndex? i ws.length = some j ∧ ws[j]? = some w ∧ Q w (S.set k (.lst (ws.eraseIdx j)))
  | .join, [.im (.str a), w], Q => ∃ ts ss, seqOf S w = some ts ∧ strsT ts = some ss ∧ (ss.map (·.length)).sum + ss.length * a.length ≤ 16777216 ∧ Q (.im (.str (Txt.join a ss))) S
  | .split, [.im (.str a), .im (.str b)], Q => (b.length == 0) = false ∧ a.length + 2 ≤ sizeLine ∧ Q (.im (.lst ((Txt.split a b).map T.str))) S
  | _, _, _ => False
def ixP (S : Sto) : W → W → VQ → Prop
  | .im (.str z), .im (.int i), Q => ∃ c, z.length ≤ sizeLine ∧ atI z.cps.toList i = some c ∧ Q (.im (.str ⟨#[c]⟩)) S
  | .im (.tup ts), .im (.int i), Q => ∃ t, atI ts i = some t ∧ Q (.im t) S
  | .im (.lst ts), .im (.int i), Q => ∃ t, atI ts i = some t ∧ Q (.im t) S
  | .im (.scr ts), .im (.int i), Q => ∃ t, atI ts i = some t ∧ Q (.im (.int t)) S
  | .mr k, .im (.int i), Q => ∃ ws w, S[k]? = some (.lst ws) ∧ atI ws i = some w ∧ Q w S
  | _, _, _ => False
def partW : Bool → List W → Option (Option Int × List W)
  | false, ws => some (none, ws)
  | true, .im (.int i) :: ws => some (some i, ws)
  | true, _ => none
def slP (S : Sto) (w : W) (lo hi : Option Int) (Q : VQ) : Prop :=
  match w with
  | .im (.tup ts) => ∃ r, r = cutT ts lo hi ∧ Q (.im (.tup r)) S
  | .im (.str z) => z.length ≤ sizeLine ∧ Q (.im (.str ⟨(cutT z.cps.toList lo hi).toArray⟩)) S
  | w => ∃ ts, lstOf S w = some ts ∧ Q (.im (.lst (cutT ts lo hi))) S
/-- what an operation asks of its operands, and what it gives -/
def prSp : Pr → Spec
  | .bin op, [a, b], S, Q, _ => binP S op a b Q
  | .cmp op, [a, b], S, Q, _ => cmpP S op a b Q
  | .un op, [a], S, Q, _ => unP S op a Q
  | .blt b, ws, S, Q, _ => biP S b ws Q
  | .attr f, [w], S, Q, _ => ∃ x, attrW S f w = some x ∧ Q x S
  | .ix, [a, b], S, Q, _ => ixP S a b Q
  | .sl l h, w :: ws, S, Q, _ => ∃ lo r1, partW l ws = some (lo, r1) ∧ ∃ hi r2, partW h r1 = some (hi, r2) ∧ slP S w lo hi Q
  | .rev, [w], S, Q, _ => ∃ ts, lstOf S w = some ts ∧ Q (.im (.lst ts.reverse)) S
  | .tup, ws, S, Q, _ => ∃ ts, imAll ws = some ts ∧ ts.length ≤ sizeLine ∧ Q (.im (.tup ts)) S
  | .lst, ws, S, Q, _ => ∃ ts, imAll ws = some ts ∧ ts.length ≤ sizeLine ∧ Q (.im (.lst ts)) S
  | .nlst, ws, S, Q, _ => ws.length ≤ sizeLine ∧ Q (.mr S.length) (S ++ [.lst ws])
  | _, _, _, _, _ => False

/-- what a method is asked of -/
def recv : Bm → Sto → W → Prop
  | .join, _, w => ∃ s, w = .im (.str s)
  | .split, _, w => ∃ s, w = .im (.str s)
  | _, S, w => ∃ k ws, w = .mr k ∧ S[k]? = some (.lst ws)
/-- the class and the fields of an instance -/
def nsW (S : Sto) : W → Option (Str × List Str)
  | .im (.ins c ns _) => some (c, ns)
  | .mr k => match S[k]? with
    | some (.ins c ns _) => some (c, ns)
    | _ => none
  | _ => none
def noF (m : Str) (ns : List Str) : Bool := ns.all fun n => !decide (n = m)

/-- how an own thing is called -/
inductive Ap where
  | fn (x : Str)            -- a def of the module
  | mk (c : Str)            -- an instance that never changes
  | fb (x : Str)            -- a def that is lent lists
  | mb (c : Str)            -- an instance whose __init__ is lent lists
  | mkm (c : Str)           -- an instance that changes
  | cm (c m : Str)          -- a class method, by the class's name
  | cls (m : Str)           -- cls(..) in a class method of the class m
  | bo (op : Operator) (c : Str)   -- an own operator
  | co (op : CmpOp) (c : Str)      -- an own comparison
  | ne (c : Str)            -- != by an own __eq__
  | dn (c : Str)            -- .. or of None and None
  | ln (c : Str)            -- len of an instance
  | st (c : Str)            -- str of an instance
mutual
inductive Pat where
  | nm (i : Nat) | tp (ps : Pats)
inductive Pats where
  | nil | cons (p : Pat) (r : Pats)
end
mutual
inductive E where
  | var (i : Nat)
  | con (t : T)
  | glo (x : Str) (t : T)
  | pr (p : Pr) (as : Es)
  | ap (k : Ap) (sp : Spec) (as : Es)
  | and (a b : E) | or (a b : E) | not (a : E)
  | ife (c a b : E)
  | chain (o1 o2 : CmpOp) (a b c : E)
  | cho (c : Str) (o1 o2 : CmpOp) (s1 s2 : Spec) (a b e : E)
  | sl2 (a lo hi : E)
  | bm (m : Bm) (o : E) (as : Es)
  | me (c m : Str) (sp : Spec) (o : E) (as : Es)
  | ic (c : Str) (sp : Spec) (o : E) (as : Es)
  | vc (c : Str) (sp : Spec) (o : E) (as : Es)
  | lc (elt : E) (p : Pat) (it : It) (cond : Es) (own : List Nat)
inductive Es where
  | nil | cons (e : E) (r : Es) | star (e : E) (r : Es)
inductive It where
  | seq (e : E) | rng (e : E) | rng2 (a b : E) | enm (e : E) | zip (a b : E) | chars (e : E)
end
mutual
inductive C where
  | asg (i : Nat) (e : E)
  | par (is : List Nat) (as : Es)
  | unp (p : Pat) (e : E)
  | sta (i j : Nat) (e : E)
  | aug (i : Nat) (op : Operator) (e : E)
  | ifs (c : E) (a b : Cs)
  | fo (p : Pat) (it : It) (b : Cs)
  | wh (c : E) (b : Cs)
  | ret (e : E) | ex (e : E)
  | setI (o i e : E)
  | setA (c : Str) (o : E) (f : Str) (e : E)
  | fail | cont | brk | pass
inductive Cs where
  | nil | cons (c : C) (r : Cs)
end

mutual
/-- no list in it -/
def noLst : T → Bool
  | .lst _ => false
  | .tup ts => noLsts ts
  | .dK _ ts => noLsts ts
  | .dT _ ts => noLsts ts
  | .ins _ _ ts => noLsts ts
  | _ => true
def noLsts : List T → Bool
  | [] => true
  | t :: ts => noLst t && noLsts ts
end
/-- lists of the store (that may hold lists of the store), as trees -/
def allB (f : W → Option T) : List W → Option (List T)
  | [] => some []
  | w :: r => (f w).bind fun t => (allB f r).map (t :: ·)
def toB (S : Sto) : Nat → W → Option T
  | _, .im t => some t
  | n + 1, .mr k => match S[k]? with
    | some (.lst ws) => (allB (toB S n) ws).map T.lst
    | _ => none
  | _, _ => none
/-- lists of the store, lent as trees -/
def borWs (S : Sto) : List W → Option (List W)
  | [] => some []
  | .src j :: r => (borWs S r).map (W.src j :: ·)
  | w :: r => (toB S 3 w).bind fun t => (borWs S r).map (W.im t :: ·)
/-- a thing of the heap -/
def refT : T → Bool
  | .non => false
  | .bl _ => false
  | .int _ => false
  | .str _ => false
  | .ty _ => false
  | _ => true
def refW : W → Bool
  | .im t => refT t
  | _ => true
/-- which lists of the store are lent -/
def rch (S : Sto) : Nat → W → List Nat
  | n + 1, .mr k => k :: match S[k]? with
    | some (.lst ws) => ws.flatMap (rch S n)
    | _ => []
  | _, _ => []
/-- a list that is none of the lent ones -/
def newL (S : Sto) (R : List Nat) (t : T) : Prop := ∃ ts, t = .lst ts ∧ noLsts ts = true ∧ ∀ k ∈ R, ∃ ls, S[k]? = some (.lst ls) ∧ ls.head?.map refW ≠ ts.head?.map refT
def borSp (sp : Spec) : Spec := fun ws S Q X => ∃ us, borWs S ws = some us ∧ sp us [] (fun w S' => S' = [] ∧ ∃ t, w = .im t ∧ (noLst t = true ∨ newL S (ws.flatMap (rch S 3)) t) ∧ Q (.im t) S) (fun _ _ => False)
/-- a new instance: its __init__ fills it -/
def mkSp (c : Str) (sp : Spec) : Spec := fun ws S Q X => sp (.mr S.length :: ws) (S ++ [.ins c [] []]) (fun w S' => w = .im .non ∧ ∃ ns ts, S' = S ++ [.ins c ns (ts.map W.im)] ∧ Q (.im (.ins c ns ts)) S) (fun x S' => S'.take S.length = S ∧ (∃ ts, imAll x.ws = some ts) ∧ X x S)
/-- an own thing's promise, with what its kind asks of the operands -/
def apSp : Ap → Spec → Spec
  | .bo _ c, sp => fun ws S Q X => (∀ w ∈ ws, ∃ ns, nsW S w = some (c, ns)) ∧ sp ws S Q X
  | .co _ c, sp => fun ws S Q X => (∀ w ∈ ws, ∃ ns, nsW S w = some (c, ns)) ∧ sp ws S Q X
  | .ne c, sp => fun ws S Q X => (∀ w ∈ ws, ∃ ns, nsW S w = some (c, ns)) ∧ sp ws S (fun w S' => ∃ b, w = .im (.bl b) ∧ Q (.im (.bl (!b))) S') X
  | .dn c, sp => fun ws S Q X => (ws = [.im .non, .im .non] ∧ Q (.im (.bl false)) S) ∨ ((∀ w ∈ ws, ∃ ns, nsW S w = some (c, ns)) ∧ sp ws S (fun w S' => ∃ b, w = .im (.bl b) ∧ Q (.im (.bl (!b))) S') X)
  | .ln c, sp => fun ws S Q X => (∀ w ∈ ws, ∃ ns, nsW S w = some (c, ns)) ∧ sp ws S Q X
  | .st c, sp => fun ws S Q X => (∀ w ∈ ws, ∃ ns, nsW S w = some (c, ns)) ∧ sp ws S Q X
  | .mk c, sp => mkSp c sp
  | .fb _, sp => borSp sp
  | .mb c, sp => borSp (mkSp c sp)
  | .cm c _, sp => fun ws S Q X => sp (.im (.cls c) :: ws) S Q X
  | .mkm c, sp => fun ws S Q X => sp (.mr S.length :: ws) (S ++ [.ins c [] []]) (fun w S' => w = .im .non ∧ Q (.mr S.length) S') X
  | _, sp => sp

mutual
def wpP : Pat → T → SE → (SE → Prop) → Prop
  | .nm i, t, ρ, Q => Q (setS ρ i (some (.im t)))
  | .tp ps, t, ρ, Q => ∃ ts, (t = .tup ts ∨ t = .lst ts) ∧ wpPs ps ts ρ Q
def wpPs : Pats → List T → SE → (SE → Prop) → Prop
  | .nil, ts, ρ, Q => ts = [] ∧ Q ρ
  | .cons p r, ts, ρ, Q => ∃ t u, ts = t :: u ∧ wpP p t ρ fun ρ' => wpPs r u ρ' Q
end
/-- a comprehension: over the items -/
def lcW (we : SE → Sto → VQ → XQ → Prop) (wc : SE → Sto → (List W → Sto → Prop) → XQ → Prop) (p : Pat) (stab : Sto → Prop) : List T → SE → Sto → List T → (List T → Sto → Prop) → Prop
  | [], ρ, S, acc, Q => stab S ∧ acc.length ≤ sizeLine ∧ Q acc S
  | t :: ts, ρ, S, acc, Q => stab S ∧ wpP p t ρ fun ρ' => wc ρ' S (fun bs S1 => ∃ b, (bs = [] ∧ b = true ∨ bs = [.im (.bl b)]) ∧
      if b = true then we ρ' S1 (fun w S2 => ∃ x, w = .im x ∧ acc.length < sizeLine ∧ lcW we wc p stab ts ρ S2 (acc ++ [x]) Q) (fun _ _ => False) else lcW we wc p stab ts ρ S1 acc Q) (fun _ _ => False)
def wipeS : SE → List Nat → SE
  | ρ, [] => ρ
  | ρ, v :: vs => setS (wipeS ρ vs) v none
/-- what a for walks: the items; what of the store must stay while it walks -/
abbrev ItQ := List T → (Sto → Prop) → Sto → Prop
def stabW (S : Sto) : W → Sto → Prop
  | .mr k, S' => S'[k]? = S[k]?
  | _, _ => True
mutual
def wpE : E → SE → Sto → VQ → XQ → Prop
  | .var i, ρ, S, Q, _ => ∃ w, getS ρ i = some w ∧ Q w S
  | .con t, _, S, Q, _ => Q (.im t) S
  | .glo _ t, _, S, Q, _ => Q (.im t) S
  | .pr p as, ρ, S, Q, X => wpEs as ρ S (fun ws S1 => prSp p ws S1 Q X) X
  | .ap k sp as, ρ, S, Q, X => wpEs as ρ S (fun ws S1 => apSp k sp ws S1 Q X) X
  | .sl2 a l h, ρ, S, Q, X => wpE a ρ S (fun x S1 => wpE l ρ S1 (fun y S2 => ∃ i, y = .im (.int i) ∧ wpE h ρ S2 (fun z S3 => ∃ j, z = .im (.int j) ∧ slP S3 x (some i) (some j) Q) X) X) X
  | .bm m o as, ρ, S, Q, X => wpE o ρ S (fun w S1 => recv m S1 w ∧ wpEs as ρ S1 (fun ws S2 => bmP S2 m (w :: ws) Q) X) X
  | .me c m sp o as, ρ, S, Q, X => wpE o ρ S (fun w S1 => (∃ ns, nsW S1 w = some (c, ns) ∧ noF m ns = true) ∧ wpEs as ρ S1 (fun ws S2 => sp (w :: ws) S2 Q X) X) X
  | .ic c sp o as, ρ, S, Q, X => wpE o ρ S (fun w S1 => (∃ ns ts, w = .im (.ins c ns ts)) ∧ wpEs as ρ S1 (fun ws S2 => sp (w :: ws) S2 Q X) X) X
  | .vc c sp o as, ρ, S, Q, X => wpE o ρ S (fun w S1 => w = .im (.cls c) ∧ wpEs as ρ S1 (fun ws S2 => mkSp c sp ws S2 Q X) X) X
  | .and a b, ρ, S, Q, X => wpE a ρ S (fun w S1 => ∃ k, w = .im (.bl k) ∧ if k = true then wpE b ρ S1 Q X else Q (.im (.bl false)) S1) X
  | .or a b, ρ, S, Q, X => wpE a ρ S (fun w S1 => ∃ k, w = .im (.bl k) ∧ if k = true then Q (.im (.bl true)) S1 else wpE b ρ S1 Q X) X
  | .not a, ρ, S, Q, X => wpE a ρ S (fun w S1 => ∃ k, w = .im (.bl k) ∧ Q (.im (.bl (!k))) S1) X
  | .ife c a b, ρ, S, Q, X => wpE c ρ S (fun w S1 => ∃ k, w = .im (.bl k) ∧ if k = true then wpE a ρ S1 Q X else wpE b ρ S1 Q X) X
  | .chain o1 o2 a b c, ρ, S, Q, X => wpE a ρ S (fun x S1 => wpE b ρ S1 (fun y S2 => cmpP S2 o1 x y fun z S3 => ∃ k, z = .im (.bl k) ∧ if k = true then wpE c ρ S3 (fun u S4 => cmpP S4 o2 y u Q) X else Q (.im (.bl false)) S3) X) X
  | .cho c o1 o2 s1 s2 a b e, ρ, S, Q, X => wpE a ρ S (fun x S1 => wpE b ρ S1 (fun y S2 => apSp (.co o1 c) s1 [x, y] S2 (fun z S3 => ∃ k, z = .im (.bl k) ∧ if k = true then wpE e ρ S3 (fun u S4 => apSp (.co o2 c) s2 [y, u] S4 Q (fun _ _ => False)) X else Q (.im (.bl false)) S3) (fun _ _ => False)) X) X
  | .lc elt p it cond own, ρ, S, Q, X => wpI it ρ S (fun ts stab S1 => lcW (wpE elt) (wpEs cond) p stab ts (wipeS ρ own) S1 [] fun r S2 => Q (.im (.lst r)) S2) X
def wpEs : Es → SE → Sto → (List W → Sto → Prop) → XQ → Prop
  | .nil, _, S, Q, _ => Q [] S
  | .cons e r, ρ, S, Q, X => wpE e ρ S (fun w S1 => wpEs r ρ S1 (fun ws S2 => Q (w :: ws) S2) X) X
  | .star e r, ρ, S, Q, X => wpE e ρ S (fun w S1 => ∃ ts, seqOf S1 w = some ts ∧ wpEs r ρ S1 (fun ws S2 => Q (ts.map W.im ++ ws) S2) X) X
def wpI : It → SE → Sto → ItQ → XQ → Prop
  | .seq e, ρ, S, Q, X => wpE e ρ S (fun w S1 => ∃ ts, seqOf S1 w = some ts ∧ Q ts (stabW S1 w) S1) X
  | .rng e, ρ, S, Q, X => wpE e ρ S (fun w S1 => ∃ j : Int, w = .im (.int j) ∧ -(2 ^ 62) ≤ j ∧ j < 2 ^ 62 ∧ Q ((List.range j.toNat).map fun (k : Nat) => T.int (k : Int)) (fun _ => True) S1) X
  | .rng2 a b, ρ, S, Q, X => wpE a ρ S (fun w S1 => wpE b ρ S1 (fun w' S2 => ∃ i j : Int, w = .im (.int i) ∧ w' = .im (.int j) ∧ (-(2 ^ 62) ≤ i ∧ i < 2 ^ 62 ∧ -(2 ^ 62) ≤ j ∧ j < 2 ^ 62) ∧ Q ((List.range (j - i).toNat).map fun (k : Nat) => T.int (i + (k : Int))) (fun _ => True) S2) X) X
  | .enm e, ρ, S, Q, X => wpE e ρ S (fun w S1 => ∃ ts, seqOf S1 w = some ts ∧ Q (ts.zipIdx.map fun p => T.tup [.int (p.2 : Int), p.1]) (stabW S1 w) S1) X
  | .zip a b, ρ, S, Q, X => wpE a ρ S (fun w S1 => wpE b ρ S1 (fun w' S2 => ∃ ts us, lstOf S2 w = some ts ∧ lstOf S2 w' = some us ∧ Q ((ts.zip us).map fun p => T.tup [p.1, p.2]) (fun S3 => stabW S2 w S3 ∧ stabW S2 w' S3) S2) X) X
  | .chars e, ρ, S, Q, X => wpE e ρ S (fun w S1 => ∃ z : Str, w = .im (.str z) ∧ Q (z.cps.toList.map fun k => T.str ⟨#[k]⟩) (fun _ => True) S1) X
end
structure Post where
  nx : SE → Sto → Prop
  rt : VQ
  bk : SE → Sto → Prop
  ct : SE → Sto → Prop
  xc : Exc → SE → Sto → Prop
def forW (wb : SE → Sto → Post → Prop) (p : Pat) (stab : Sto → Prop) : List T → SE → Sto → Post → Prop
  | [], ρ, S, K => stab S ∧ K.nx ρ S
  | t :: ts, ρ, S, K => stab S ∧ wpP p t ρ fun ρ' => wb ρ' S { K with nx := fun ρ2 S2 => forW wb p stab ts ρ2 S2 K, ct := fun ρ2 S2 => forW wb p stab ts ρ2 S2 K, bk := K.nx }
def whW (wc : SE → Sto → VQ → XQ → Prop) (wb : SE → Sto → Post → Prop) : Nat → SE → Sto → Post → Prop
  | 0, _, _, _ => False
  | n + 1, ρ, S, K => wc ρ S (fun w S1 => ∃ k, w = .im (.bl k) ∧ if k = true then wb ρ S1 { K with nx := fun ρ2 S2 => whW wc wb n ρ2 S2 K, ct := fun ρ2 S2 => whW wc wb n ρ2 S2 K, bk := K.nx } else K.nx ρ S1) (fun x S1 => K.xc x ρ S1)
def setIP (S : Sto) : W → W → W → (Sto → Prop) → Prop
  | .mr k, .im (.int i), w, Q => ∃ ws j, S[k]? = some (.lst ws) ∧ ixN ws.length i = some j ∧ Q (S.set k (.lst (ws.set j w)))
  | _, _, _, _ => False
/-- name op= e: numbers -/
def augP : Operator → W → W → (W → Prop) → Prop
  | .Add, .im (.int i), .im (.int j), Q => Q (.im (.int (i + j)))
  | .Sub, .im (.int i), .im (.int j), Q => Q (.im (.int (i - j)))
  | _, _, _, _ => False
mutual
def wpC : C → SE → Sto → Post → Prop
  | .asg i e, ρ, S, K => wpE e ρ S (fun w S1 => K.nx (setS ρ i (some w)) S1) (fun x S1 => K.xc x ρ S1)
  | .par is as, ρ, S, K => wpEs as ρ S (fun ws S1 => ws.length = is.length ∧ K.nx (setAll ρ is ws) S1) (fun x S1 => K.xc x ρ S1)
  | .unp p e, ρ, S, K => wpE e ρ S (fun w S1 => ∃ t, w = .im t ∧ wpP p t ρ fun ρ' => K.nx ρ' S1) (fun x S1 => K.xc x ρ S1)
  | .sta i j e, ρ, S, K => wpE e ρ S (fun w S1 => ∃ ts t, lstOf S1 w = some (ts ++ [t]) ∧ ts.length < sizeLine ∧ K.nx (setS (setS ρ i (some (.im (.lst ts)))) j (some (.im t))) S1) (fun x S1 => K.xc x ρ S1)
  | .aug i op e, ρ, S, K => ∃ w0, getS ρ i = some w0 ∧ wpE e ρ S (fun w S1 => augP op w0 w fun z => K.nx (setS ρ i (some z)) S1) (fun x S1 => K.xc x ρ S1)
  | .ifs c a b, ρ, S, K => wpE c ρ S (fun w S1 => ∃ k, w = .im (.bl k) ∧ if k = true then wpCs a ρ S1 K else wpCs b ρ S1 K) (fun x S1 => K.xc x ρ S1)
  | .fo p it b, ρ, S, K => wpI it ρ S (fun ts stab S1 => forW (wpCs b) p stab ts ρ S1 K) (fun x S1 => K.xc x ρ S1)
  | .wh c b, ρ, S, K => ∃ n, whW (wpE c) (wpCs b) n ρ S K
  | .ret e, ρ, S, K => wpE e ρ S K.rt (fun x S1 => K.xc x ρ S1)
  | .ex e, ρ, S, K => wpE e ρ S (fun _ S1 => K.nx ρ S1) (fun x S1 => K.xc x ρ S1)
  | .setI o i e, ρ, S, K => wpE e ρ S (fun w S1 => wpE o ρ S1 (fun wo S2 => wpE i ρ S2 (fun wi S3 => setIP S3 wo wi w fun S4 => K.nx ρ S4) (fun x S1 => K.xc x ρ S1)) (fun x S1 => K.xc x ρ S1)) (fun x S1 => K.xc x ρ S1)
  | .setA c o f e, ρ, S, K => wpE e ρ S (fun w S1 => wpE o ρ S1 (fun wo S2 => ∃ k ns ws, wo = .mr k ∧ S2[k]? = some (.ins c ns ws) ∧ ns.length < 1000 ∧ K.nx ρ (S2.set k (.ins c (putW f w ns ws).1 (putW f w ns ws).2))) (fun x S1 => K.xc x ρ S1)) (fun x S1 => K.xc x ρ S1)
  | .fail, _, _, _ => False
  | .cont, ρ, S, K => K.ct ρ S
  | .brk, ρ, S, K => K.bk ρ S
  | .pass, ρ, S, K => K.nx ρ S
def wpCs : Cs → SE → Sto → Post → Prop
  | .nil, ρ, S, K => K.nx ρ S
  | .cons c r, ρ, S, K => wpC c ρ S { K with nx := fun ρ1 S1 => wpCs r ρ1 S1 K }
end
end TW

namespace TW
open PySem L2

def visB (sc : Scope) (x : Str) : Bool := match sc.names.lookup x with
  | some .local => true | some .cell => true | some .free => true | _ => false
def locB (top : Str → Bool) (sc : Scope) (x : Str) : Bool := match sc.names.lookup x with
  | some .local => true | some .cell => top x | _ => false
def glB (sc : Scope) (x : Str) : Bool := match sc.names.lookup x with
  | some .globalImplicit => true | _ => false
def okName (x : Str) : Bool := !(x == ("__debug__" : Str)) && !(x == ("__classdict__" : Str)) && !(x == ("__name__" : Str))
def noStar : Expr → Bool
  | .Starred _ _ => false | _ => true
/-- an expression whose test is its value's truth -/
def plainT : Expr → Bool
  | .UnaryOp .Not _ _ => false | .BoolOp _ _ _ => false | .IfExp _ _ _ _ => false | .Compare _ _ _ _ => false | _ => true
def baseOk : Expr → Bool
  | .Call (.Name _ _) [] [] _ => false | _ => true
def noComp : Expr → Bool
  | .ListComp _ _ _ _ => false | .SetComp _ _ _ _ => false | .DictComp _ _ _ _ _ => false | _ => true
def noSet : Expr → Bool
  | .Set _ _ _ => false | _ => true
def noSlice : Expr → Bool
  | .Slice _ _ _ _ => false | _ => true
def Bi.nm : Bi → Str
  | .len => "len" | .abs => "abs" | .min2 => "min" | .max2 => "max" | .int1 => "int" | .str1 => "str" | .tuple1 => "tuple" | .list1 => "list" | .all1 => "all" | .any1 => "any" | .sorted1 => "sorted" | .isi => "isinstance" | .lenset => "len" | .max1 => "max" | .min1 => "min"
def Bm.nm : Bm → Str
  | .append => "append" | .extend => "extend" | .pop0 => "pop" | .pop1 => "pop" | .join => "join" | .split => "split"
def Bm.ar : Bm → Nat
  | .pop0 => 0 | _ => 1
/-- the operands of an operation in a text -/
def subP (sc : Scope) : Pr → Expr → Option (List Expr)
  | .bin op, .BinOp a op' b _ => if op = op' then some [a, b] else none
  | .cmp op, .Compare a [op'] [b] _ => if op = op' && noSet b then some [a, b] else none
  | .un op, .UnaryOp op' a _ => if op = op' then some [a] else none
  | .blt b, .Call (.Name x _) es [] _ => if x = b.nm && glB sc x then some es else none
  | .attr f, .Attribute o f' _ => if f = f' && baseOk o then some [o] else none
  | .ix, .Subscript a b _ => if noSlice b then some [a, b] else none
  | .sl false false, .Subscript a (.Slice none none none _) _ => some [a]
  | .sl true false, .Subscript a (.Slice (some l) none none _) _ => some [a, l]
  | .sl false true, .Subscript a (.Slice none (some h) none _) _ => some [a, h]
  | .rev, .Subscript a (.Slice none none (some (.UnaryOp .USub (.Constant (.int 1) _ _) _)) _) _ => some [a]
  | .tup, .Tuple es _ _ => some es
  | .lst, .List es _ => some es
  | .nlst, .List es _ => some es
  | _, _ => none
/-- .. of an own thing's call -/
def subA (sc : Scope) : Ap → Expr → Option (List Expr)
  | .fn x, .Call (.Name x' _) (e :: es) [] _ => if x = x' && glB sc x && okName x then some (e :: es) else none
  | .mk c, .Call (.Name x _) (e :: es) [] _ => if x = c && glB sc x && okName x then some (e :: es) else none
  | .mkm c, .Call (.Name x _) (e :: es) [] _ => if x = c && glB sc x && okName x then some (e :: es) else none
  | .bo op _, .BinOp a op' b _ => if op = op' then some [a, b] else none
  | .co op _, .Compare a [op'] [b] _ => if op = op' && noSet b then some [a, b] else none
  | .ne _, .Compare a [.NotEq] [b] _ => if noSet b then some [a, b] else none
  | .dn _, .Compare a [.NotEq] [b] _ => if noSet b then some [a, b] else none
  | .ln _, .Call (.Name x _) [e] [] _ => if x = ("len" : Str) && glB sc x then some [e] else none
  | .st _, .Call (.Name x _) [e] [] _ => if x = ("str" : Str) && glB sc x then some [e] else none
  | .fb x, .Call (.Name x' _) (e :: es) [] _ => if x = x' && glB sc x && okName x then some (e :: es) else none
  | .mb c, .Call (.Name x _) (e :: es) [] _ => if x = c && glB sc x && okName x then some (e :: es) else none
  | .cm c m, .Call (.Attribute (.Name x _) f ap) (e :: es) [] cp => if x = c && f = m && glB sc x && okName x && ap.endLine == cp.line && decide ((e :: es).length < 30) then some (e :: es) else none
  | _, _ => none
def conB : T → Const → Bool
  | .non, .none => true
  | .bl b, .bool b' => b == b'
  | .int i, .int j => i == j
  | .str i, .str j => decide (i = j)
  | _, _ => false
/-- a name of the module or a class that is built in -/
def gloB : T → Str → Bool
  | .ty n, x => decide (x = Str.ofString n) && (n == "int" || n == "bool" || n == "str" || n == "list" || n == "tuple")
  | .cls c, x => decide (x = c)
  | .str _, _ => true
  | .int _, _ => true
  | _, _ => false
mutual
def chkPat (N : List Str) (top : Str → Bool) (sc : Scope) : Pat → Expr → Bool
  | .nm i, .Name x _ => decide (N[i]? = some x) && locB top sc x
  | .tp ps, .Tuple es _ _ => chkPats N top sc ps es
  | _, _ => false
def chkPats (N : List Str) (top : Str → Bool) (sc : Scope) : Pats → List Expr → Bool
  | .nil, [] => true
  | .cons p r, e :: es => noStar e && chkPat N top sc p e && chkPats N top sc r es
  | _, _ => false
end
mutual
def pslB : Pat → List Nat
  | .nm i => [i]
  | .tp ps => pslsB ps
def pslsB : Pats → List Nat
  | .nil => []
  | .cons p r => pslB p ++ pslsB r
end
def patTup : Pat → Bool
  | .tp _ => true | _ => false
/-- the slots of a pattern -/
def starOk : Pr → Bool
  | .lst => true | .nlst => true | .tup => true | _ => false
def ownOf (N : List Str) (own : List Nat) : List (Str × Nat) := own.map fun i => (N.getD i "", i)
mutual
def chkE (N : List Str) (sc : Scope) : E → Expr → Bool
  | .var i, .Name x _ => decide (N[i]? = some x) && visB sc x && okName x
  | .con t, .Constant c _ _ => conB t c
  | .glo x t, .Name x' _ => decide (x = x') && glB sc x && okName x && gloB t x
  | .pr p as, e => match subP sc p e with
    | some es => chkEs N sc (starOk p) as es
    | none => false
  | .ap k _ as, e => match subA sc k e with
    | some es => chkEs N sc false as es
    | none => false
  | .sl2 a l h, .Subscript x (.Slice (some y) (some z) none _) _ => chkE N sc a x && chkE N sc l y && chkE N sc h z
  | .bm m o as, .Call (.Attribute x f ap) es [] cp => decide (f = m.nm) && baseOk x && ap.endLine == cp.line && decide (es.length = m.ar) && chkE N sc o x && chkEs N sc false as es
  | .me _ m _ o as, .Call (.Attribute x f ap) es [] cp => decide (f = m) && baseOk x && ap.endLine == cp.line && decide (es.length < 30) && chkE N sc o x && chkEs N sc false as es
  | .ic _ _ (.var i) as, .Call (.Name x _) (e :: es) [] _ => decide (N[i]? = some x) && visB sc x && okName x && chkEs N sc false as (e :: es)
  | .vc _ _ (.var i) as, .Call (.Name x _) (e :: es) [] _ => decide (N[i]? = some x) && visB sc x && okName x && chkEs N sc false as (e :: es)
  | .and a b, .BoolOp .And (x :: y :: r) p => chkE N sc a x && (match r with | [] => chkE N sc b y | _ => chkE N sc b (.BoolOp .And (y :: r) p))
  | .or a b, .BoolOp .Or (x :: y :: r) p => chkE N sc a x && (match r with | [] => chkE N sc b y | _ => chkE N sc b (.BoolOp .Or (y :: r) p))
  | .not a, .UnaryOp .Not x _ => chkE N sc a x
  | .ife c a b, .IfExp x y z _ => chkE N sc c x && tstOk c x && chkE N sc a y && chkE N sc b z
  | .chain o1 o2 a b c, .Compare x [p1, p2] [y, z] _ => decide (o1 = p1) && decide (o2 = p2) && noSet z && chkE N sc a x && chkE N sc b y && chkE N sc c z
  | .cho _ o1 o2 _ _ a b c, .Compare x [p1, p2] [y, z] _ => decide (o1 = p1) && decide (o2 = p2) && noSet z && chkE N sc a x && chkE N sc b y && chkE N sc c z
  | .lc elt p it cond own, .ListComp x [⟨tg, iter, ifs, isa⟩] scope _ =>
    decide (isa = 0) && blkC N sc scope (ownOf N own) && own.all (fun i => decide (i < N.length)) && (pslB p).all (fun i => own.contains i) && noSet iter && chkI N sc it tg iter && chkPat N (fun x => scope.names.lookup x == some .cell) (relS scope sc) p tg && chkE N (relS scope sc) elt x && chkTs N (relS scope sc) cond ifs
  | _, _ => false
def chkEs (N : List Str) (sc : Scope) (st : Bool) : Es → List Expr → Bool
  | .nil, [] => true
  | .cons e r, x :: xs => noStar x && chkE N sc e x && chkEs N sc st r xs
  | .star e r, .Starred x _ :: xs => st && chkE N sc e x && chkEs N sc st r xs
  | _, _ => false
/-- at most one test -/
def chkTs (N : List Str) (sc : Scope) : Es → List Expr → Bool
  | .nil, [] => true
  | .cons e .nil, [x] => chkE N sc e x && tstOk e x
  | _, _ => false
def chkI (N : List Str) (sc : Scope) : It → Expr → Expr → Bool
  | .seq e, _, x => chkE N sc e x
  | .rng e, _, .Call (.Name f _) [x] [] _ => decide (f = ("range" : Str)) && glB sc f && noStar x && chkE N sc e x
  | .rng2 a b, _, .Call (.Name f _) [x, y] [] _ => decide (f = ("range" : Str)) && glB sc f && noStar x && noStar y && chkE N sc a x && chkE N sc b y
  | .enm e, .Tuple _ _ _, .Call (.Name f _) [x] [] _ => decide (f = ("enumerate" : Str)) && glB sc f && noStar x && chkE N sc e x
  | .zip a b, .Tuple _ _ _, .Call (.Name f _) [x, y] [] _ => decide (f = ("zip" : Str)) && glB sc f && noStar x && noStar y && chkE N sc a x && chkE N sc b y
  | .chars e, _, x => chkE N sc e x
  | _, _, _ => false
/-- as a test -/
def tstOk : E → Expr → Bool
  | .and a b, .BoolOp .And (x :: y :: r) p => tstOk a x && (match r with | [] => tstOk b y | _ => tstOk b (.BoolOp .And (y :: r) p))
  | .or a b, .BoolOp .Or (x :: y :: r) p => tstOk a x && (match r with | [] => tstOk b y | _ => tstOk b (.BoolOp .Or (y :: r) p))
  | .not a, .UnaryOp .Not x _ => tstOk a x
  | .chain _ _ _ _ _, _ => true
  | .cho _ _ _ _ _ _ _ _, _ => true
  | .pr (.cmp _) _, _ => true
  | .ap (.co _ _) _ _, _ => true
  | .ap (.ne _) _ _, _ => true
  | .ap (.dn _) _ _, _ => true
  | _, e => plainT e
end
/-- swapsWith of a comprehension that is given to a name -/
def swB (sc : Scope) (scope : Scope) (t : Str) (line vline : Nat) : Bool :=
  (if sc.kind.isAnnotationScope then ScopeKind.function else sc.kind) == .function && sc.names.lookup t == some .local && line == vline && !(scope.names.any fun (n, k) => n == t && (k == .local || k == .cell))
/-- whether the stores of a, b = x, y are swapped (none: not told) -/
def swS (sc : Scope) (ts vs : List Expr) : Option Bool :=
  if !(ts.length == 2 || ts.length == 3) || vs.length != ts.length || (if sc.kind.isAnnotationScope then ScopeKind.function else sc.kind) != .function then some false
  else if vs.any (fun e => !noStar e) then some false
  else
    let line := (ts.head?.map (·.pos.line)).getD 0
    let names := ts.filterMap fun
      | .Name id pos => if sc.names.lookup id == some .local && pos.line == line then some id else none
      | _ => none
    if names.length != ts.length || names.eraseDups.length != names.length then some false
    else if vs.all (foldedForSure 8) then some false
    else if vs.all (constantsAlone 8) then none
    else some true
def namesOf (N : List Str) (is : List Nat) : List Str := is.map fun i => N.getD i ""
def chkNames (N : List Str) (sc : Scope) : List Nat → List Expr → Bool
  | [], [] => true
  | i :: is, .Name x _ :: r => decide (N[i]? = some x) && locB (fun _ => true) sc x && chkNames N sc is r
  | _, _ => false
def isLc : E → Expr → Bool
  | .lc _ _ _ _ _, .ListComp _ _ _ _ => true
  | _, _ => false
def noTup : Expr → Bool
  | .Tuple _ _ _ => false
  | _ => true
def asgN : Stmt → Option (Str × Pos × Expr × Pos)
  | .Assign [.Name x p] v q => some (x, p, v, q)
  | _ => none
def asgP : Stmt → Option (List Expr × Nat × Pos × List Expr × Nat × Pos × Pos)
  | .Assign [.Tuple ts k p] (.Tuple vs k2 p2) q => some (ts, k, p, vs, k2, p2, q)
  | _ => none
def asgT : Stmt → Option (List Expr × Nat × Pos × Expr × Pos)
  | .Assign [.Tuple ts k p] v q => some (ts, k, p, v, q)
  | _ => none
def asgS : Stmt → Option (Str × Str × Pos × Pos × Pos × Nat × Pos × Expr × Pos)
  | .Assign [.Tuple [.Starred (.Name x p1) p2, .Name y p3] k p4] v q => some (x, y, p1, p2, p3, k, p4, v, q)
  | _ => none
def asgI : Stmt → Option (Expr × Expr × Pos × Expr × Pos)
  | .Assign [.Subscript x y p] v q => some (x, y, p, v, q)
  | _ => none
def asgA : Stmt → Option (Expr × Str × Pos × Expr × Pos)
  | .Assign [.Attribute x f p] v q => some (x, f, p, v, q)
  | _ => none
def augN : Stmt → Option (Str × Pos × Operator × Expr × Pos)
  | .AugAssign (.Name x p) op v q => some (x, p, op, v, q)
  | _ => none
/-- what never is reached -/
def isF : C → Cs → Bool
  | .fail, .nil => true
  | _, _ => false
mutual
def chkC (N : List Str) (sc : Scope) : C → Stmt → Bool
  | .asg i e, st => match asgN st with
    | some (x, _, v, _) => decide (N[i]? = some x) && locB (fun _ => true) sc x && chkE N sc e v && (noComp v || isLc e v)
    | none => false
  | .par is as, st => match asgP st with
    | some (ts, _, _, vs, _, _, _) => chkNames N sc is ts && chkEs N sc false as vs && decide (ts.length = vs.length) && decide (ts.length = 2 ∨ ts.length = 3) && decide is.Nodup && (swS sc ts vs).isSome
    | none => false
  | .unp p e, st => match asgT st with
    | some (ts, k, q, v, _) => patTup p && chkPat N (fun _ => true) sc p (.Tuple ts k q) && chkE N sc e v && noTup v && true
    | none => false
  | .sta i j e, st => match asgS st with
    | some (x, y, _, _, _, _, _, v, _) => decide (N[i]? = some x) && locB (fun _ => true) sc x && decide (N[j]? = some y) && locB (fun _ => true) sc y && chkE N sc e v && noTup v && true
    | none => false
  | .aug i op e, st => match augN st with
    | some (x, _, op', v, _) => decide (N[i]? = some x) && locB (fun _ => true) sc x && decide (op = op') && chkE N sc e v
    | none => false
  | .ifs c a b, .If x y z _ => chkE N sc c x && tstOk c x && chkCs N sc a y && chkCs N sc b z
  | .fo p it b, .For tg iter body [] _ => noSet iter && chkI N sc it tg iter && chkPat N (fun _ => true) sc p tg && chkCs N sc b body
  | .wh c b, .While x body [] _ => chkE N sc c x && tstOk c x && chkCs N sc b body
  | .ret e, .Return (some x) _ => chkE N sc e x
  | .ex e, .Expr x _ => chkE N sc e x && noComp x
  | .setI o i e, st => match asgI st with
    | some (x, y, _, v, _) => chkE N sc o x && chkE N sc i y && noSlice y && chkE N sc e v && true
    | none => false
  | .setA _ o f e, st => match asgA st with
    | some (x, f', _, v, _) => decide (f = f') && chkE N sc o x && chkE N sc e v && noComp v
    | none => false
  | .fail, _ => true
  | .cont, .Continue _ => true
  | .brk, .Break _ => true
  | .pass, .Pass _ => true
  | _, _ => false
def chkCs (N : List Str) (sc : Scope) : Cs → List Stmt → Bool
  | .nil, [] => true
  | .nil, _ :: _ => false
  | .cons _ _, [] => false
  | .cons c r, s :: ss => isF c r || (chkC N sc c s && chkCs N sc r ss)
end
theorem asgN_of {st : Stmt} {x p v q} (h : asgN st = some (x, p, v, q)) : st = .Assign [.Name x p] v q := by
  unfold asgN at h
  split at h
  · cases h; rfl
  · cases h
theorem asgP_of {st : Stmt} {ts k p vs k2 p2 q} (h : asgP st = some (ts, k, p, vs, k2, p2, q)) : st = .Assign [.Tuple ts k p] (.Tuple vs k2 p2) q := by
  unfold asgP at h
  split at h
  · cases h; rfl
  · cases h
theorem asgT_of {st : Stmt} {ts k p v q} (h : asgT st = some (ts, k, p, v, q)) : st = .Assign [.Tuple ts k p] v q := by
  unfold asgT at h
  split at h
  · cases h; rfl
  · cases h
theorem asgS_of {st : Stmt} {x y p1 p2 p3 k p4 v q} (h : asgS st = some (x, y, p1, p2, p3, k, p4, v, q)) : st = .Assign [.Tuple [.Starred (.Name x p1) p2, .Name y p3] k p4] v q := by
  unfold asgS at h
  split at h
  · cases h; rfl
  · cases h
theorem asgI_of {st : Stmt} {x y p v q} (h : asgI st = some (x, y, p, v, q)) : st = .Assign [.Subscript x y p] v q := by
  unfold asgI at h
  split at h
  · cases h; rfl
  · cases h
theorem asgA_of {st : Stmt} {x y p v q} (h : asgA st = some (x, y, p, v, q)) : st = .Assign [.Attribute x y p] v q := by
  unfold asgA at h
  split at h
  · cases h; rfl
  · cases h
theorem augN_of {st : Stmt} {x p op v q} (h : augN st = some (x, p, op, v, q)) : st = .AugAssign (.Name x p) op v q := by
  unfold augN at h
  split at h
  · cases h; rfl
  · cases h
end TW

namespace TW
open PySem PySem.Spec PyProof.Rows L2

def RepX (G : Gr) (c : RC) (H : Hp) (x : Exc) (cls : Value) (d : Option Addr) : Prop :=
  (match x.c with | .cls n => cls = .ref (G.cl n) | .ty n => cls = .type n | _ => False) ∧
  ((x.ns = [] ∧ d = none) ∨ ∃ dx vs, d = some dx ∧ H dx = some (.xd (x.ns.zip vs)) ∧ ¬ Mu c dx ∧ x.ns.length = vs.length ∧ RepWs G c H x.ws vs)
structure Slots (G : Gr) (c : RC) (H : Hp) (σ : L2.St) (ρ : SE) : Prop where
  len : σ.length = ρ.length
  at_ : ∀ (i : Nat) (w : W), getS ρ i = some w → ∃ v, σ[i]? = some (some v) ∧ RepW G c H w v
theorem Slots.mono {G : Gr} {c c' : RC} {H H' : Hp} {σ : L2.St} {ρ : SE} (s : Slots G c H σ ρ) (g : Grow c H c' H') : Slots G c' H' σ ρ :=
  ⟨s.len, fun i w e => let ⟨v, h1, h2⟩ := s.at_ i w e; ⟨v, h1, RepW.mono g w v h2⟩⟩
theorem setS_length : ∀ (ρ : SE) (i : Nat) (w : Option W), (setS ρ i w).length = ρ.length
  | [], _, _ => rfl
  | _ :: _, 0, _ => rfl
  | x :: r, n + 1, w => by simp [setS, setS_length r n w]
theorem getS_setS : ∀ (ρ : SE) (i j : Nat) (w : Option W), getS (setS ρ i w) j = if i = j then (if i < ρ.length then w else none) else getS ρ j
  | [], i, j, w => by simp [setS, getS]
  | x :: r, 0, 0, w => by simp [setS, getS]
  | x :: r, 0, j + 1, w => by simp [setS, getS]
  | x :: r, i + 1, 0, w => by simp [setS, getS]
  | x :: r, i + 1, j + 1, w => by simp [setS, getS, getS_setS r i j w]
theorem Slots.set {G : Gr} {c : RC} {H : Hp} {σ : L2.St} {ρ : SE} (s : Slots G c H σ ρ) {i : Nat} {w : W} {v : V} (r : RepW G c H w v) : Slots G c H (σ.set i (some v)) (setS ρ i (some w)) := by
  refine ⟨by rw [List.length_set, setS_length, s.len], fun j w' e => ?_⟩
  rw [getS_setS] at e
  by_cases hij : i = j
  · subst hij
    rw [if_pos rfl] at e
    by_cases hl : i < ρ.length
    · rw [if_pos hl] at e
      cases e
      exact ⟨v, List.getElem?_set_self (by rw [s.len]; exact hl), r⟩
    · rw [if_neg hl] at e
      cases e
  · rw [if_neg hij] at e
    obtain ⟨v', h1, h2⟩ := s.at_ j w' e
    exact ⟨v', by rw [List.getElem?_set_ne hij]; exact h1, h2⟩
theorem Slots.unset {G : Gr} {c : RC} {H : Hp} {σ : L2.St} {ρ : SE} (s : Slots G c H σ ρ) {i : Nat} : Slots G c H (σ.set i none) (setS ρ i none) := by
  refine ⟨by rw [List.length_set, setS_length, s.len], fun j w' e => ?_⟩
  rw [getS_setS] at e
  by_cases hij : i = j
  · subst hij
    rw [if_pos rfl] at e
    by_cases hl : i < ρ.length
    · rw [if_pos hl] at e; cases e
    · rw [if_neg hl] at e; cases e
  · rw [if_neg hij] at e
    obtain ⟨v', h1, h2⟩ := s.at_ j w' e
    exact ⟨v', by rw [List.getElem?_set_ne hij]; exact h1, h2⟩
theorem Slots.wipe {G : Gr} {c : RC} {H : Hp} {σ : L2.St} {ρ : SE} (s : Slots G c H σ ρ) : ∀ own : List Nat, Slots G c H (L2.wipe σ own) (wipeS ρ own)
  | [] => s
  | v :: vs => (Slots.wipe s vs).unset

def Lift {α β : Type} (G : Gr) (Wx : WX) (σ : L2.St) (H : Hp) (wp : SE → Sto → (α → Sto → Prop) → XQ → Prop) (Rp : RC → Hp → α → β → Prop) (Q : β → Hp → Prop) : Prop :=
  ∃ (c : RC) (ρ : SE) (S : Sto) (P : α → Sto → Prop) (XP : XQ), RelS G c H S ∧ Slots G c H σ ρ ∧ wp ρ S P XP ∧
    (∀ b H' c' S' a, Grow c H c' H' → RelS G c' H' S' → Rp c' H' a b → P a S' → Q b H') ∧
    (∀ cls d H' c' S' x, Grow c H c' H' → RelS G c' H' S' → RepX G c' H' x cls d → XP x S' → Wx cls d σ H')
theorem Lift.imp {α β : Type} {G : Gr} {Wx : WX} {σ : L2.St} {H : Hp} {wp : SE → Sto → (α → Sto → Prop) → XQ → Prop} {Rp : RC → Hp → α → β → Prop} {Q Q' : β → Hp → Prop} (h : Lift G Wx σ H wp Rp Q) (i : ∀ b H', Q b H' → Q' b H') : Lift G Wx σ H wp Rp Q' := by
  obtain ⟨c, ρ, S, P, XP, r, s, w, k, kx⟩ := h
  exact ⟨c, ρ, S, P, XP, r, s, w, fun b H' c' S' a g r' rp p => i _ _ (k b H' c' S' a g r' rp p), kx⟩
def wpT (e : E) : SE → Sto → (Bool → Sto → Prop) → XQ → Prop := fun ρ S Q X => wpE e ρ S (fun w S1 => ∃ k, w = .im (.bl k) ∧ Q k S1) X
def tE (G : Gr) (Wx : WX) (e : E) : TE := fun σ H Q => Lift G Wx σ H (wpE e) (RepW G) Q
def tEs (G : Gr) (Wx : WX) (es : Es) : TA := fun σ H Q => Lift G Wx σ H (wpEs es) (RepWs G) Q
def tT (G : Gr) (Wx : WX) (e : E) : TT := fun σ H Q => Lift G Wx σ H (wpT e) (fun _ _ a b => a = b) Q
/-- a spec, by values -/
def liftV (G : Gr) (sp : Spec) (X : XK) : List V → Hp → VK → Prop := fun vs H Q =>
  ∃ (c : RC) (ws : List W) (S : Sto) (P : VQ) (XP : XQ), RelS G c H S ∧ RepWs G c H ws vs ∧ sp ws S P XP ∧
    (∀ v H' c' S' w, Grow c H c' H' → RelS G c' H' S' → RepW G c' H' w v → P w S' → Q v H') ∧
    (∀ cls d H' c' S' x, Grow c H c' H' → RelS G c' H' S' → RepX G c' H' x cls d → XP x S' → X cls d H')
section
variable {G : Gr} {Wx : WX} {σ : L2.St} {H : Hp}
theorem tEs_nil {Q : List V → Hp → Prop} (h : tEs G Wx .nil σ H Q) : Q [] H := by
  obtain ⟨c, ρ, S, P, XP, r, s, w, k, kx⟩ := h
  simp only [wpEs] at w
  exact k [] H c S [] .refl r rfl w
theorem tEs_cons {e : E} {es : Es} {Q : List V → Hp → Prop} (h : tEs G Wx (.cons e es) σ H Q) : tE G Wx e σ H fun x H1 => tEs G Wx es σ H1 fun xs H2 => Q (x :: xs) H2 := by
  obtain ⟨c, ρ, S, P, XP, r, s, w, k, kx⟩ := h
  simp only [wpEs] at w
  refine ⟨c, ρ, S, _, XP, r, s, w, fun x H1 c1 S1 a g1 r1 rp w1 => ?_, kx⟩
  refine ⟨c1, ρ, S1, _, XP, r1, s.mono g1, w1, fun xs H2 c2 S2 as g2 r2 rp2 w2 => ?_, fun cls d H' c' S' x g => kx cls d H' c' S' x (g1.trans g)⟩
  exact k _ H2 c2 S2 (a :: as) (g1.trans g2) r2 ⟨x, xs, rfl, RepW.mono g2 a x rp, rp2⟩ w2
theorem tEs_pr {p : Pr} {as : Es} {Q : VK} (h : tE G Wx (.pr p as) σ H Q) : tEs G Wx as σ H fun vs H1 => liftV G (prSp p) (fun cls d H' => Wx cls d σ H') vs H1 Q := by
  obtain ⟨c, ρ, S, P, XP, r, s, w, k, kx⟩ := h
  simp only [wpE] at w
  refine ⟨c, ρ, S, _, XP, r, s, w, fun vs H1 c1 S1 ws g1 r1 rp w1 => ?_, kx⟩
  exact ⟨c1, ws, S1, P, XP, r1, rp, w1, fun v H' c' S' u g => k v H' c' S' u (g1.trans g), fun cls d H' c' S' x g => kx cls d H' c' S' x (g1.trans g)⟩
theorem tEs_ap {a : Ap} {sp : Spec} {as : Es} {Q : VK} (h : tE G Wx (.ap a sp as) σ H Q) : tEs G Wx as σ H fun vs H1 => liftV G (apSp a sp) (fun cls d H' => Wx cls d σ H') vs H1 Q := by
  obtain ⟨c, ρ, S, P, XP, r, s, w, k, kx⟩ := h
  simp only [wpE] at w
  refine ⟨c, ρ, S, _, XP, r, s, w, fun vs H1 c1 S1 ws g1 r1 rp w1 => ?_, kx⟩
  exact ⟨c1, ws, S1, P, XP, r1, rp, w1, fun v H' c' S' u g => k v H' c' S' u (g1.trans g), fun cls d H' c' S' x g => kx cls d H' c' S' x (g1.trans g)⟩
/-- a test, by its value -/
theorem tT_of {e : E} {Q : Bool → Hp → Prop} (h : tT G Wx e σ H Q) : tE G Wx e σ H fun x H' => ∃ k, x = .bl k ∧ Q k H' := by
  obtain ⟨c, ρ, S, P, XP, r, s, w, k, kx⟩ := h
  unfold wpT at w
  refine ⟨c, ρ, S, _, XP, r, s, w, fun x H1 c1 S1 a g1 r1 rp w1 => ?_, kx⟩
  obtain ⟨b, rfl, q⟩ := w1
  have e : x = .bl b := by
    have z : Rep G c1 H1 (.bl b) x := rp
    rw [Rep] at z
    exact z
  exact ⟨b, e, k b H1 c1 S1 b g1 r1 rfl q⟩
theorem tT_and {a b : E} {Q : Bool → Hp → Prop} (h : tT G Wx (.and a b) σ H Q) : tAnd (tT G Wx a) (tT G Wx b) σ H Q := by
  obtain ⟨c, ρ, S, P, XP, r, s, w, k, kx⟩ := h
  unfold wpT at w
  simp only [wpE] at w
  refine ⟨c, ρ, S, fun kb S1 => if kb = true then wpE b ρ S1 (fun w S2 => ∃ k, w = .im (.bl k) ∧ P k S2) XP else P false S1, XP, r, s, ?_, fun x H1 c1 S1 a g1 r1 e w1 => ?_, kx⟩
  · unfold wpT
    refine cast ?_ w
    congr 1
    funext u S1
    refine propext ⟨fun ⟨kb, e, q⟩ => ⟨kb, e, ?_⟩, fun ⟨kb, e, q⟩ => ⟨kb, e, ?_⟩⟩
    · cases kb
      · obtain ⟨k', e', q'⟩ := q
        cases e'
        exact q'
      · exact q
    · cases kb
      · exact ⟨false, rfl, q⟩
      · exact q
  · subst e
    cases a
    · exact k false H1 c1 S1 false g1 r1 rfl w1
    · exact ⟨c1, ρ, S1, P, XP, r1, s.mono g1, w1, fun x H' c' S' u g => k x H' c' S' u (g1.trans g), fun cls d H' c' S' x g => kx cls d H' c' S' x (g1.trans g)⟩
theorem tT_or {a b : E} {Q : Bool → Hp → Prop} (h : tT G Wx (.or a b) σ H Q) : tOr (tT G Wx a) (tT G Wx b) σ H Q := by
  obtain ⟨c, ρ, S, P, XP, r, s, w, k, kx⟩ := h
  unfold wpT at w
  simp only [wpE] at w
  refine ⟨c, ρ, S, fun kb S1 => if kb = true then P true S1 else wpE b ρ S1 (fun w S2 => ∃ k, w = .im (.bl k) ∧ P k S2) XP, XP, r, s, ?_, fun x H1 c1 S1 a g1 r1 e w1 => ?_, kx⟩
  · unfold wpT
    refine cast ?_ w
    congr 1
    funext u S1
    refine propext ⟨fun ⟨kb, e, q⟩ => ⟨kb, e, ?_⟩, fun ⟨kb, e, q⟩ => ⟨kb, e, ?_⟩⟩
    · cases kb
      · exact q
      · obtain ⟨k', e', q'⟩ := q
        cases e'
        exact q'
    · cases kb
      · exact q
      · exact ⟨true, rfl, q⟩
  · subst e
    cases a
    · exact ⟨c1, ρ, S1, P, XP, r1, s.mono g1, w1, fun x H' c' S' u g => k x H' c' S' u (g1.trans g), fun cls d H' c' S' x g => kx cls d H' c' S' x (g1.trans g)⟩
    · exact k true H1 c1 S1 true g1 r1 rfl w1
theorem tT_not {a : E} {Q : Bool → Hp → Prop} (h : tT G Wx (.not a) σ H Q) : tNot (tT G Wx a) σ H Q := by
  obtain ⟨c, ρ, S, P, XP, r, s, w, k, kx⟩ := h
  unfold wpT at w
  simp only [wpE] at w
  refine ⟨c, ρ, S, fun kb S1 => P (!kb) S1, XP, r, s, ?_, fun x H1 c1 S1 a g1 r1 e w1 => ?_, kx⟩
  · unfold wpT
    refine cast ?_ w
    congr 1
    funext u S1
    refine propext ⟨fun ⟨kb, e, k', e', q⟩ => ⟨kb, e, ?_⟩, fun ⟨kb, e, q⟩ => ⟨kb, e, _, rfl, q⟩⟩
    cases e'
    exact q
  · subst e
    exact k _ H1 c1 S1 _ g1 r1 rfl w1
theorem rep_bl {c : RC} {H : Hp} {b : Bool} {x : V} (z : RepW G c H (.im (.bl b)) x) : x = .bl b := by
  have z' : Rep G c H (.bl b) x := z
  rw [Rep] at z'
  exact z'
theorem rep_int {c : RC} {H : Hp} {b : Int} {x : V} (z : RepW G c H (.im (.int b)) x) : x = .int b := by
  have z' : Rep G c H (.int b) x := z
  rw [Rep] at z'
  exact z'
theorem rep_str {c : RC} {H : Hp} {b : Str} {x : V} (z : RepW G c H (.im (.str b)) x) : x = .str b := by
  have z' : Rep G c H (.str b) x := z
  rw [Rep] at z'
  exact z'
theorem rep_non {c : RC} {H : Hp} {x : V} (z : RepW G c H (.im .non) x) : x = .non := by
  have z' : Rep G c H .non x := z
  rw [Rep] at z'
  exact z'
theorem bl_rep {c : RC} {H : Hp} {b : Bool} : RepW G c H (.im (.bl b)) (.bl b) := by
  show Rep G c H (.bl b) (.bl b)
  rw [Rep]
theorem int_rep {c : RC} {H : Hp} {b : Int} : RepW G c H (.im (.int b)) (.int b) := by
  show Rep G c H (.int b) (.int b)
  rw [Rep]
theorem str_rep {c : RC} {H : Hp} {b : Str} : RepW G c H (.im (.str b)) (.str b) := by
  show Rep G c H (.str b) (.str b)
  rw [Rep]
theorem non_rep {c : RC} {H : Hp} : RepW G c H (.im .non) .non := by
  show Rep G c H .non .non
  rw [Rep]
theorem tE_and {a b : E} {Q : VK} (h : tE G Wx (.and a b) σ H Q) : tAndV (tE G Wx a) (tE G Wx b) σ H Q := by
  obtain ⟨c, ρ, S, P, XP, r, s, w, k, kx⟩ := h
  simp only [wpE] at w
  refine ⟨c, ρ, S, _, XP, r, s, w, fun x H1 c1 S1 a g1 r1 rp w1 => ?_, kx⟩
  obtain ⟨kb, rfl, w1⟩ := w1
  refine ⟨kb, rep_bl rp, ?_⟩
  cases kb
  · exact k _ H1 c1 S1 _ g1 r1 bl_rep w1
  · exact ⟨c1, ρ, S1, P, XP, r1, s.mono g1, w1, fun x H' c' S' u g => k x H' c' S' u (g1.trans g), fun cls d H' c' S' x g => kx cls d H' c' S' x (g1.trans g)⟩
theorem tE_or {a b : E} {Q : VK} (h : tE G Wx (.or a b) σ H Q) : tOrV (tE G Wx a) (tE G Wx b) σ H Q := by
  obtain ⟨c, ρ, S, P, XP, r, s, w, k, kx⟩ := h
  simp only [wpE] at w
  refine ⟨c, ρ, S, _, XP, r, s, w, fun x H1 c1 S1 a g1 r1 rp w1 => ?_, kx⟩
  obtain ⟨kb, rfl, w1⟩ := w1
  refine ⟨kb, rep_bl rp, ?_⟩
  cases kb
  · exact ⟨c1, ρ, S1, P, XP, r1, s.mono g1, w1, fun x H' c' S' u g => k x H' c' S' u (g1.trans g), fun cls d H' c' S' x g => kx cls d H' c' S' x (g1.trans g)⟩
  · exact k _ H1 c1 S1 _ g1 r1 bl_rep w1
theorem tE_not {a : E} {Q : VK} (h : tE G Wx (.not a) σ H Q) : tNotV (tE G Wx a) σ H Q := by
  obtain ⟨c, ρ, S, P, XP, r, s, w, k, kx⟩ := h
  simp only [wpE] at w
  refine ⟨c, ρ, S, _, XP, r, s, w, fun x H1 c1 S1 a g1 r1 rp w1 => ?_, kx⟩
  obtain ⟨kb, rfl, w1⟩ := w1
  exact ⟨kb, rep_bl rp, k _ H1 c1 S1 _ g1 r1 bl_rep w1⟩
theorem tE_ife {t a b : E} {Q : VK} (h : tE G Wx (.ife t a b) σ H Q) : tIf (tT G Wx t) (tE G Wx a) (tE G Wx b) σ H Q := by
  obtain ⟨c, ρ, S, P, XP, r, s, w, k, kx⟩ := h
  simp only [wpE] at w
  refine ⟨c, ρ, S, fun kb S1 => if kb = true then wpE a ρ S1 P XP else wpE b ρ S1 P XP, XP, r, s, w, fun x H1 c1 S1 a g1 r1 e w1 => ?_, kx⟩
  subst e
  cases a <;> exact ⟨c1, ρ, S1, P, XP, r1, s.mono g1, w1, fun x H' c' S' u g => k x H' c' S' u (g1.trans g), fun cls d H' c' S' x g => kx cls d H' c' S' x (g1.trans g)⟩
theorem tE_var {i : Nat} {Q : VK} (h : tE G Wx (.var i) σ H Q) : tVar i σ H Q := by
  obtain ⟨c, ρ, S, P, XP, r, s, w, k, kx⟩ := h
  simp only [wpE] at w
  obtain ⟨x, e, w⟩ := w
  obtain ⟨v, e1, rp⟩ := s.at_ i x e
  exact ⟨v, e1, k v H c S x .refl r rp w⟩
theorem tE_con {t : T} {v : V} {Q : VK} (h : tE G Wx (.con t) σ H Q) (hv : ∀ c H, Rep G c H t v) : Q v H := by
  obtain ⟨c, ρ, S, P, XP, r, s, w, k, kx⟩ := h
  simp only [wpE] at w
  exact k v H c S (.im t) .refl r (hv c H) w
theorem tE_glo {x : Str} {t : T} {v : V} {Q : VK} (h : tE G Wx (.glo x t) σ H Q) (hv : ∀ c H, Rep G c H t v) : Q v H := by
  obtain ⟨c, ρ, S, P, XP, r, s, w, k, kx⟩ := h
  simp only [wpE] at w
  exact k v H c S (.im t) .refl r (hv c H) w
end
end TW

namespace TW
open PySem PySem.Spec PyProof.Rows L2
section
variable {G : Gr} {c c' : RC} {H H' : Hp} {S : Sto}
theorem reps0 {ws : List W} (h : RepWs G c H ws []) : ws = [] := by
  cases ws with
  | nil => rfl
  | cons w r => obtain ⟨v, r, e, _⟩ := h; cases e
theorem reps1 {ws : List W} {x : V} {vs : List V} (h : RepWs G c H ws (x :: vs)) : ∃ a r, ws = a :: r ∧ RepW G c H a x ∧ RepWs G c H r vs := by
  cases ws with
  | nil => cases h
  | cons w r =>
    obtain ⟨v, r', e, h1, h2⟩ := h
    cases e
    exact ⟨w, r, rfl, h1, h2⟩
theorem reps2 {ws : List W} {x y : V} (h : RepWs G c H ws [x, y]) : ∃ a b, ws = [a, b] ∧ RepW G c H a x ∧ RepW G c H b y := by
  obtain ⟨a, r, rfl, h1, h2⟩ := reps1 h
  obtain ⟨b, r, rfl, h3, h4⟩ := reps1 h2
  obtain rfl := reps0 h4
  exact ⟨a, b, rfl, h1, h3⟩
theorem reps11 {ws : List W} {x : V} (h : RepWs G c H ws [x]) : ∃ a, ws = [a] ∧ RepW G c H a x := by
  obtain ⟨a, r, rfl, h1, h2⟩ := reps1 h
  obtain rfl := reps0 h2
  exact ⟨a, rfl, h1⟩
theorem repsV0 {vs : List V} (h : RepWs G c H [] vs) : vs = [] := h
theorem repsV1 {w : W} {ws : List W} {vs : List V} (h : RepWs G c H (w :: ws) vs) : ∃ x r, vs = x :: r ∧ RepW G c H w x ∧ RepWs G c H ws r := h
theorem imAll_eq : ∀ {ws : List W} {ts : List T}, imAll ws = some ts → ws = ts.map W.im
  | [], ts, h => by
    simp [imAll] at h
    subst h
    rfl
  | .im t :: r, ts, h => by
    simp only [imAll, Option.map_eq_some_iff] at h
    obtain ⟨us, h1, h2⟩ := h
    subst h2
    rw [imAll_eq h1]
    rfl
  | .mr k :: r, ts, h => by simp [imAll] at h
  | .src k :: r, ts, h => by simp [imAll] at h
/-- a list that may be joined -/
theorem rd_lstN {w : W} {v : V} {ts : List T} (r : RelS G c H S) (rp : RepW G c H w v) (e : lstN S w = some ts) : ∃ a vs, v = .ref a ∧ H a = some (.lst vs) ∧ Reps G c H ts vs := by
  cases w with
  | im t =>
    cases t with
    | lst us =>
      have e' : us = ts := Option.some.inj e
      subst e'
      have rp' : Rep G c H (.lst us) v := rp
      rw [Rep] at rp'
      obtain ⟨a, vs, h1, _, h2, h3⟩ := rp'
      exact ⟨a, vs, h1, h2, h3⟩
    | _ => cases e
  | mr k =>
    obtain ⟨a, hk, rfl⟩ := rp
    have e1 : (match S[k]? with | some (.lst ws) => imAll ws | _ => none) = some ts := e
    split at e1
    · rename_i ws hs
      obtain ⟨vs, h1, h2⟩ := r.obj k _ a hs hk
      rw [imAll_eq e1] at h2
      exact ⟨a, vs, rfl, h1, h2.ts⟩
    · cases e1
  | src j => cases e
theorem reps_int : ∀ {ns : List Int} , Reps G c H (ns.map T.int) (ns.map V.int)
  | [] => by rw [List.map_nil, List.map_nil, Reps]
  | n :: ns => by
    rw [List.map_cons, List.map_cons, Reps]
    exact ⟨_, _, rfl, by rw [Rep], reps_int⟩
theorem rd_lst {w : W} {v : V} {ts : List T} (r : RelS G c H S) (rp : RepW G c H w v) (e : lstOf S w = some ts) : ∃ a vs, v = .ref a ∧ SqL G.K H a vs ∧ Reps G c H ts vs := by
  by_cases hs : ∃ ns, w = .im (.scr ns)
  · obtain ⟨ns, rfl⟩ := hs
    have e' : ns.map T.int = ts := Option.some.inj e
    subst e'
    have rp' : Rep G c H (.scr ns) v := rp
    rw [Rep] at rp'
    obtain ⟨a, rfl, ⟨o, h, _⟩ | h⟩ := rp'
    · exact ⟨a, _, rfl, .inl (.inr ⟨o, h⟩), reps_int⟩
    · exact ⟨a, _, rfl, .inr h, reps_int⟩
  · have e2 : lstN S w = some ts := by
      cases w with
      | im t =>
        cases t with
        | scr ns => exact absurd ⟨ns, rfl⟩ hs
        | _ => exact e
      | mr k => exact e
      | src j => exact e
    obtain ⟨a, vs, h1, h2, h3⟩ := rd_lstN r rp e2
    exact ⟨a, vs, h1, .inl (.inl h2), h3⟩
theorem rd_seq {w : W} {v : V} {ts : List T} (r : RelS G c H S) (rp : RepW G c H w v) (e : seqOf S w = some ts) : ∃ a vs, v = .ref a ∧ (SqL G.K H a vs ∨ SqT G.K H a vs) ∧ Reps G c H ts vs := by
  by_cases hs : ∃ us, w = .im (.tup us)
  · obtain ⟨us, rfl⟩ := hs
    have e' : us = ts := Option.some.inj e
    subst e'
    have rp' : Rep G c H (.tup us) v := rp
    rw [Rep] at rp'
    obtain ⟨a, vs, h1, _, h2, h3⟩ := rp'
    exact ⟨a, vs, h1, .inr (.inl (.inl h2)), h3⟩
  · have e2 : lstOf S w = some ts := by
      cases w with
      | im t =>
        cases t with
        | tup us => exact absurd ⟨us, rfl⟩ hs
        | _ => exact e
      | mr k => exact e
      | src j => exact e
    obtain ⟨a, vs, h1, h2, h3⟩ := rd_lst r rp e2
    exact ⟨a, vs, h1, .inl h2, h3⟩
theorem rd_tup {us : List T} {v : V} (rp : RepW G c H (.im (.tup us)) v) : ∃ a vs, v = .ref a ∧ H a = some (.tup vs) ∧ Reps G c H us vs := by
  have rp' : Rep G c H (.tup us) v := rp
  rw [Rep] at rp'
  obtain ⟨a, vs, h1, _, h2, h3⟩ := rp'
  exact ⟨a, vs, h1, h2, h3⟩
theorem new_lst {p : Addr} {ts : List T} {vs : List V} (r : RelS G c H S) (np : H p = none) (h : Reps G c H ts vs) : RepW G c (upd H p (.lst vs)) (.im (.lst ts)) (.ref p) := by
  show Rep G c (upd H p (.lst vs)) (.lst ts) (.ref p)
  rw [Rep]
  exact ⟨p, vs, rfl, r.free np, upd_same, h.mono (Grow.new r np)⟩
theorem new_tup {p : Addr} {ts : List T} {vs : List V} (r : RelS G c H S) (np : H p = none) (h : Reps G c H ts vs) : RepW G c (upd H p (.tup vs)) (.im (.tup ts)) (.ref p) := by
  show Rep G c (upd H p (.tup vs)) (.tup ts) (.ref p)
  rw [Rep]
  exact ⟨p, vs, rfl, r.free np, upd_same, h.mono (Grow.new r np)⟩
theorem sqL_new {a p : Addr} {xs : List V} {o : HO} {K : PySem.W.Frag} (np : H p = none) (h : SqL K H a xs) : SqL K (upd H p o) a xs := by
  rcases h with (h | ⟨q, h⟩) | h
  · exact .inl (.inl (by rw [upd_ne (ne_of_none h np)]; exact h))
  · exact .inl (.inr ⟨q, by rw [upd_ne (ne_of_none h np)]; exact h⟩)
  · exact .inr h
mutual
theorem dp_of : ∀ (t : T) (v : V) (d : PyData), Rep G c H t v → pd t = some d → Dp G.K H v d
  | .non, v, d, h, e => by rw [Rep] at h; subst h; cases (Option.some.inj e); exact .non
  | .bl b, v, d, h, e => by rw [Rep] at h; subst h; cases (Option.some.inj e); exact .bl b
  | .int b, v, d, h, e => by rw [Rep] at h; subst h; cases (Option.some.inj e); exact .int b
  | .str b, v, d, h, e => by rw [Rep] at h; subst h; cases (Option.some.inj e); exact .str b
  | .lst ts, v, d, h, e => by
    rw [Rep] at h
    obtain ⟨a, vs, rfl, _, h1, h2⟩ := h
    rw [pd, Option.map_eq_some_iff] at e
    obtain ⟨ds, e1, rfl⟩ := e
    exact .lst (.inl (.inl h1)) (dps_of ts vs ds h2 e1)
  | .tup ts, v, d, h, e => by
    rw [Rep] at h
    obtain ⟨a, vs, rfl, _, h1, h2⟩ := h
    rw [pd, Option.map_eq_some_iff] at e
    obtain ⟨ds, e1, rfl⟩ := e
    exact .tup (.inl (.inl h1)) (dps_of ts vs ds h2 e1)
  | .dK _ _, v, d, h, e => by cases e
  | .dT _ _, v, d, h, e => by cases e
  | .ins _ _ _, v, d, h, e => by cases e
  | .ty _, v, d, h, e => by cases e
  | .cls _, v, d, h, e => by cases e
  | .scr _, v, d, h, e => by cases e
theorem dps_of : ∀ (ts : List T) (vs : List V) (ds : List PyData), Reps G c H ts vs → pds ts = some ds → DpAll G.K H vs ds
  | [], vs, ds, h, e => by rw [Reps] at h; subst h; cases (Option.some.inj e); exact .nil
  | t :: ts, vs, ds, h, e => by
    rw [Reps] at h
    obtain ⟨v, r, rfl, h1, h2⟩ := h
    rw [pds, Option.bind_eq_some_iff] at e
    obtain ⟨d, e1, e2⟩ := e
    rw [Option.map_eq_some_iff] at e2
    obtain ⟨ds', e3, rfl⟩ := e2
    exact .cons (dp_of t v d h1 e1) (dps_of ts r ds' h2 e3)
end
theorem dpW {w : W} {v : V} {d : PyData} (r : RelS G c H S) (rp : RepW G c H w v) (e : pdW S w = some d) : Dp G.K H v d := by
  unfold pdW at e
  rw [Option.bind_eq_some_iff] at e
  obtain ⟨t, e1, e2⟩ := e
  cases w with
  | im t' =>
    cases (Option.some.inj e1)
    exact dp_of t v d rp e2
  | mr k =>
    obtain ⟨a, hk, rfl⟩ := rp
    have e1 : (match S[k]? with | some (.lst ws) => (imAll ws).map T.lst | _ => none) = some t := e1
    split at e1
    · rename_i ws hs
      rw [Option.map_eq_some_iff] at e1
      obtain ⟨ts, e3, rfl⟩ := e1
      obtain ⟨vs, h1, h2⟩ := r.obj k _ a hs hk
      rw [imAll_eq e3] at h2
      rw [pd, Option.map_eq_some_iff] at e2
      obtain ⟨ds, e4, rfl⟩ := e2
      exact .lst (.inl (.inl h1)) (dps_of ts vs ds h2.ts e4)
    · cases e1
  | src j => cases e1
theorem flat_of {t : T} {v x : V} (rp : Rep G c H t v) (e : flatT t = some x) : v = x ∧ flatV v = true := by
  cases t <;> first
    | (rw [Rep] at rp; cases (Option.some.inj e); subst rp; exact ⟨rfl, rfl⟩)
    | cases e
theorem flats_of : ∀ {ts : List T} {vs xs : List V}, Reps G c H ts vs → flatTs ts = some xs → vs = xs ∧ vs.all flatV = true
  | [], vs, xs, h, e => by rw [Reps] at h; subst h; cases (Option.some.inj e); exact ⟨rfl, rfl⟩
  | t :: ts, vs, xs, h, e => by
    rw [Reps] at h
    obtain ⟨v, r, rfl, h1, h2⟩ := h
    rw [flatTs, Option.bind_eq_some_iff] at e
    obtain ⟨d, e1, e2⟩ := e
    rw [Option.map_eq_some_iff] at e2
    obtain ⟨ds', e3, rfl⟩ := e2
    obtain ⟨rfl, f1⟩ := flat_of h1 e1
    obtain ⟨rfl, f2⟩ := flats_of h2 e3
    exact ⟨rfl, by rw [List.all_cons, f1, f2]; rfl⟩
theorem bools_of : ∀ {ts : List T} {vs : List V} {bs : List Bool}, Reps G c H ts vs → boolsT ts = some bs → vs = bs.map V.bl
  | [], vs, bs, h, e => by rw [Reps] at h; subst h; cases (Option.some.inj e); rfl
  | t :: ts, vs, bs, h, e => by
    rw [Reps] at h
    obtain ⟨v, r, rfl, h1, h2⟩ := h
    cases t <;> first
      | cases e
      | (simp only [boolsT, Option.map_eq_some_iff] at e
         obtain ⟨bs', e1, rfl⟩ := e
         rw [Rep] at h1
         subst h1
         rw [bools_of h2 e1]
         rfl)
theorem ints_of : ∀ {ts : List T} {vs : List V} {bs : List Int}, Reps G c H ts vs → intsT ts = some bs → vs = bs.map V.int
  | [], vs, bs, h, e => by rw [Reps] at h; subst h; cases (Option.some.inj e); rfl
  | t :: ts, vs, bs, h, e => by
    rw [Reps] at h
    obtain ⟨v, r, rfl, h1, h2⟩ := h
    cases t <;> first
      | cases e
      | (simp only [intsT, Option.map_eq_some_iff] at e
         obtain ⟨bs', e1, rfl⟩ := e
         rw [Rep] at h1
         subst h1
         rw [ints_of h2 e1]
         rfl)
theorem strs_of : ∀ {ts : List T} {vs : List V} {bs : List Str}, Reps G c H ts vs → strsT ts = some bs → vs = bs.map V.str
  | [], vs, bs, h, e => by rw [Reps] at h; subst h; cases (Option.some.inj e); rfl
  | t :: ts, vs, bs, h, e => by
    rw [Reps] at h
    obtain ⟨v, r, rfl, h1, h2⟩ := h
    cases t <;> first
      | cases e
      | (simp only [strsT, Option.map_eq_some_iff] at e
         obtain ⟨bs', e1, rfl⟩ := e
         rw [Rep] at h1
         subst h1
         rw [strs_of h2 e1]
         rfl)
theorem reps_str : ∀ {ns : List Str} , Reps G c H (ns.map T.str) (ns.map V.str)
  | [] => by rw [List.map_nil, List.map_nil, Reps]
  | n :: ns => by
    rw [List.map_cons, List.map_cons, Reps]
    exact ⟨_, _, rfl, by rw [Rep], reps_str⟩
theorem intsT_len : ∀ {ts : List T} {ns : List Int}, intsT ts = some ns → ns.length = ts.length
  | [], ns, e => by cases (Option.some.inj e); rfl
  | t :: ts, ns, e => by
    cases t <;> first
      | cases e
      | (simp only [intsT, Option.map_eq_some_iff] at e
         obtain ⟨bs', e1, rfl⟩ := e
         simp [intsT_len e1])
theorem strsT_len : ∀ {ts : List T} {ns : List Str}, strsT ts = some ns → ns.length = ts.length
  | [], ns, e => by cases (Option.some.inj e); rfl
  | t :: ts, ns, e => by
    cases t <;> first
      | cases e
      | (simp only [strsT, Option.map_eq_some_iff] at e
         obtain ⟨bs', e1, rfl⟩ := e
         simp [strsT_len e1])
end

section
variable {G : Gr} {X : XK} {H : Hp} {Q : VK} {x y : V}
def rBin (G : Gr) : Operator → R2
  | .Add => fun x y H Q => (rI0 (fun i j => .int (i + j)) x y H Q ∨ (∃ i j, x = .str i ∧ y = .str j ∧ i.length + j.length ≤ sizeLine ∧ Q (.str (i ++ j)) H)) ∨ (rCatA G.K x y H Q ∨ rCat x y H Q)
  | .Sub => rI0 fun i j => .int (i - j)
  | .Mult => rI CMulW fun i j => .int (i * j)
  | .FloorDiv => rI CDivW fun i j => .int (i / j)
  | .Mod => rI (fun _ j => 0 < j) fun i j => .int (i % j)
  | .Pow => rI CPow fun i j => .int (i ^ j.toNat)
  | _ => fun _ _ _ _ => False
theorem op_false {X : Cx} {f : Value → Value → Sem Value} : OpR X f (fun _ _ _ _ => False) := fun _ _ _ _ _ _ _ _ _ _ _ _ h => h.elim
theorem op_bin {X : Cx} (hK : X.K = G.K) : ∀ op : Operator, OpR X (binaryOp op) (rBin G op) := by
  intro op
  cases op <;> first
    | exact op_false
    | exact op_sub
    | exact op_mulW
    | exact op_fdivW
    | exact op_mod
    | exact op_pow
    | (unfold rBin; rw [← hK]; exact OpR.or (OpR.or op_add op_add_str) (OpR.or op_catA op_cat))
theorem pr_bin {op : Operator} (h : liftV G (prSp (.bin op)) X [x, y] H Q) : rBin G op x y H Q := by
  obtain ⟨c, ws, S, P, XP, r, rp, w, k, kx⟩ := h
  obtain ⟨a, b, rfl, ra, rb⟩ := reps2 rp
  clear rp
  change binP S op a b P at w
  unfold binP at w
  split at w
  · cases rep_int ra; cases rep_int rb
    exact .inl (.inl ⟨_, _, rfl, rfl, k _ H c S _ .refl r int_rep w⟩)
  · cases rep_str ra; cases rep_str rb
    exact .inl (.inr ⟨_, _, rfl, rfl, w.1, k _ H c S _ .refl r str_rep w.2⟩)
  · rename_i i j
    obtain ⟨p, vs, rfl, h1, h2⟩ := rd_tup ra
    obtain ⟨q, us, rfl, h3, h4⟩ := rd_tup rb
    have l1 := h2.length
    have l2 := h4.length
    refine .inr (.inl ⟨p, q, vs, us, rfl, rfl, .inl (.inl h1), .inl (.inl h3), by rw [l1, l2]; exact w.1, fun e => ?_, fun n e => ?_, fun n n' p' np => ?_⟩)
    · subst e
      have : i = [] := List.length_eq_zero_iff.mp l1.symm
      subst this
      exact k _ H c S _ .refl r rb w.2
    · subst e
      have : j = [] := List.length_eq_zero_iff.mp l2.symm
      subst this
      have w2 := w.2
      rw [List.append_nil] at w2
      exact k _ H c S _ .refl r ra w2
    · exact k _ _ c S _ (Grow.new r np) (r.new np) (new_tup r np (h2.append h4)) w.2
  · obtain ⟨i, j, e1, e2, hl, q⟩ := w
    obtain ⟨p, vs, rfl, h1, h2⟩ := rd_lstN r ra e1
    obtain ⟨p', us, rfl, h3, h4⟩ := rd_lstN r rb e2
    have l1 := h2.length
    have l2 := h4.length
    exact .inr (.inr ⟨p, p', vs, us, rfl, rfl, h1, h3, by rw [l1, l2]; exact hl, fun n np => k _ _ c S _ (Grow.new r np) (r.new np) (new_lst r np (h2.append h4)) q⟩)
  · cases rep_int ra; cases rep_int rb
    exact ⟨_, _, rfl, rfl, k _ H c S _ .refl r int_rep w⟩
  · cases rep_int ra; cases rep_int rb
    exact ⟨_, _, rfl, rfl, w.1, k _ H c S _ .refl r int_rep w.2⟩
  · cases rep_int ra; cases rep_int rb
    exact ⟨_, _, rfl, rfl, w.1, k _ H c S _ .refl r int_rep w.2⟩
  · cases rep_int ra; cases rep_int rb
    exact ⟨_, _, rfl, rfl, w.1, k _ H c S _ .refl r int_rep w.2⟩
  · cases rep_int ra; cases rep_int rb
    exact ⟨_, _, rfl, rfl, w.1, k _ H c S _ .refl r int_rep w.2⟩
  · exact w.elim
/-- two pairs of numbers -/
def rLtT (K : PySem.W.Frag) : R2 := fun x y H Q => ∃ (p q : Addr) (a b c d : Int), x = .ref p ∧ y = .ref q ∧ SqT K H p [.int a, .int b] ∧ SqT K H q [.int c, .int d] ∧ Q (.bl (if a = c then decide (b < d) else decide (a < c))) H
theorem op_ltT {X : Cx} (hu : X.A.units < cLine) : OpR X (compareOp .Lt) (rLtT X.K) := by
  intro pins s σ H x y v u Q I rx ry h
  obtain ⟨a, b, a1, a2, b1, b2, rfl, rfl, ha, hb, q⟩ := h
  cases rx
  cases ry
  obtain ⟨its, r1, p1, _⟩ := I.tuple ha
  obtain ⟨its2, r2, p2, _⟩ := I.tuple hb
  obtain ⟨ns, en⟩ : ∃ ns, ns = [a1, a2] := ⟨_, rfl⟩
  obtain ⟨ms, em⟩ : ∃ ms, ms = [b1, b2] := ⟨_, rfl⟩
  have i1 : IntsAre its ns := Vals.ints (by rw [en]; exact r1)
  have i2 : IntsAre its2 ms := Vals.ints (by rw [em]; exact r2)
  have e1 : its.toArray.size = ns.length := by rw [List.size_toArray]; exact i1.length
  have e2 : its2.toArray.size = ms.length := by rw [List.size_toArray]; exact i2.length
  have at1 : ∀ j (h1 : j < its.toArray.size), ∃ t, its.toArray[j] = .int (ns.getD j 0) t := fun j h1 => PyProof.Rows.IntsAre.int_at i1 _ _ (by simp at h1; simp [h1])
  have at2 : ∀ j (h1 : j < its2.toArray.size), ∃ t, its2.toArray[j] = .int (ms.getD j 0) t := fun j h1 => PyProof.Rows.IntsAre.int_at i2 _ _ (by simp at h1; simp [h1])
  have R := Ob.RcOp.tuples_lt (A := X.A) (s := s) (e := fun j => decide (ns.getD j 0 = ms.getD j 0)) (r := fun j => decide (ns.getD j 0 < ms.getD j 0)) p1 p2 hu (fun j h1 h2 => by
    obtain ⟨t, et⟩ := at1 j h1
    obtain ⟨t', et'⟩ := at2 j h2
    rw [et, et']
    have z : (ns.getD j 0 == ms.getD j 0) = decide (ns.getD j 0 = ms.getD j 0) := by
      by_cases q : ns.getD j 0 = ms.getD j 0
      · rw [decide_eq_true q]; exact beq_iff_eq.mpr q
      · rw [decide_eq_false q]; exact beq_eq_false_iff_ne.mpr q
    rw [← z]
    exact SeqAt.EqAt.int_int _ _ _ _) (fun j h1 h2 _ => by
    obtain ⟨t, et⟩ := at1 j h1
    obtain ⟨t', et'⟩ := at2 j h2
    rw [et, et']
    exact Ob.RcOp.lt_int _ _ _ _)
  rw [e1, e2] at R
  subst en em
  have ez : Ob.lexAt (fun j => decide (([a1, a2] : List Int).getD j 0 = ([b1, b2] : List Int).getD j 0)) (fun j => decide (([a1, a2] : List Int).getD j 0 < ([b1, b2] : List Int).getD j 0)) (decide (([a1, a2] : List Int).length < ([b1, b2] : List Int).length)) 0 (min ([a1, a2] : List Int).length ([b1, b2] : List Int).length) = if a1 = b1 then decide (a2 < b2) else decide (a1 < b1) := by
    show (if decide (a1 = b1) = true then (if decide (a2 = b2) = true then decide (2 < 2) else decide (a2 < b2)) else decide (a1 < b1)) = _
    by_cases k1 : a1 = b1 <;> by_cases k2 : a2 = b2 <;> simp [k1, k2]
  rw [ez] at R
  have z : wpAny (model X.prog X.w) X.A (compareOp .Lt (.ref a) (.ref b)) (EP X pins σ Q) X.xe s := R X.prog X.w X.xe (EP X pins σ Q) ⟨.bl _, H, I, rfl, q⟩
  exact z
def rCmp (G : Gr) : CmpOp → R2
  | .Lt => fun x y H Q => rI0 (fun i j => .bl (decide (i < j))) x y H Q ∨ rLtT G.K x y H Q
  | .LtE => rI0 fun i j => .bl (decide (i ≤ j))
  | .Gt => rI0 fun i j => .bl (decide (j < i))
  | .GtE => rI0 fun i j => .bl (decide (j ≤ i))
  | .Is => fun x y H Q => y = .non ∧ Q (.bl (decide (x = .non))) H
  | .IsNot => fun x y H Q => y = .non ∧ Q (.bl (!decide (x = .non))) H
  | .Eq => fun x y H Q => rEq x y H Q ∨ rEqD G.K x y H Q
  | .NotEq => fun x y H Q => rNe x y H Q ∨ rNeD G.K x y H Q
  | .In => fun x y H Q => (∃ (c : Nat) (z : Str), x = .str ⟨#[c]⟩ ∧ y = .str z ∧ Q (.bl (decide (c ∈ z.cps.toList))) H) ∨ rIn G.K false x y H Q
  | .NotIn => fun x y H Q => (∃ (c : Nat) (z : Str), x = .str ⟨#[c]⟩ ∧ y = .str z ∧ Q (.bl (!decide (c ∈ z.cps.toList))) H) ∨ rIn G.K true x y H Q
theorem op_cmp {X : Cx} (hK : X.K = G.K) (hu : X.A.units + 64 < cLine) : ∀ op : CmpOp, OpR X (compareOp op) (rCmp G op) := by
  intro op
  cases op <;> first
    | (unfold rCmp; rw [← hK]; exact OpR.or op_lt (op_ltT (by omega)))
    | exact op_le
    | exact op_gt
    | exact op_ge
    | exact op_isN
    | exact op_notN
    | (unfold rCmp; rw [← hK]; exact OpR.or op_eq (op_eqD hu))
    | (unfold rCmp; rw [← hK]; exact OpR.or op_ne (op_neD hu))
    | (unfold rCmp; rw [← hK]; exact OpR.or op_in_sign op_in_seq)
    | (unfold rCmp; rw [← hK]; exact OpR.or op_notIn_sign op_notIn_seq)
theorem isNon_of {c : RC} {t : T} {v : V} (h : Rep G c H t v) : decide (v = .non) = isNon t := by
  cases t <;> (rw [Rep] at h) <;> first
    | (subst h; rfl)
    | (obtain ⟨a, _, rfl, _⟩ := h; rfl)
    | (obtain ⟨a, rfl, _⟩ := h; rfl)
    | (obtain ⟨rfl, _⟩ := h; rfl)
    | (obtain ⟨a, _, _, rfl, _⟩ := h; rfl)
theorem inP_of {S : Sto} {c : RC} {a b : W} {P : Bool → Prop} (r : RelS G c H S) (ra : RepW G c H a x) (rb : RepW G c H b y) (w : inP S a b P) :
    (∃ (n : Nat) (z : Str), x = .str ⟨#[n]⟩ ∧ y = .str z ∧ P (decide (n ∈ z.cps.toList))) ∨ ∃ p xs, y = .ref p ∧ (SqL G.K H p xs ∨ SqT G.K H p xs) ∧ flatV x = true ∧ xs.all flatV = true ∧ P (inV x xs) := by
  unfold inP at w
  split at w
  · obtain ⟨n, rfl, q⟩ := w
    cases rep_str ra; cases rep_str rb
    exact .inl ⟨n, _, rfl, rfl, q⟩
  · obtain ⟨v, ts, vs, e1, e2, e3, q⟩ := w
    obtain ⟨p, us, rfl, h1, h2⟩ := rd_seq r rb e2
    obtain ⟨rfl, f1⟩ := flat_of ra e1
    obtain ⟨rfl, f2⟩ := flats_of h2 e3
    exact .inr ⟨p, us, rfl, h1, f1, f2, q⟩
  · exact w.elim
theorem dec_int (i j : Int) : decide (V.int i = V.int j) = decide (i = j) := by simp
theorem dec_bl (i j : Bool) : decide (V.bl i = V.bl j) = decide (i = j) := by simp
theorem dec_str (i j : Str) : decide (V.str i = V.str j) = decide (i = j) := by simp
theorem rep_pair {c : RC} {v : V} {a b : Int} (h : RepW G c H (.im (.tup [.int a, .int b])) v) : ∃ p, v = .ref p ∧ SqT G.K H p [.int a, .int b] := by
  obtain ⟨p, vs, rfl, h1, h2⟩ := rd_tup h
  rw [Reps] at h2
  obtain ⟨v1, q1, rfl, r1, h2⟩ := h2
  rw [Reps] at h2
  obtain ⟨v2, q2, rfl, r2, h2⟩ := h2
  rw [Reps] at h2
  subst h2
  rw [Rep] at r1 r2
  subst r1 r2
  exact ⟨p, rfl, .inl (.inl h1)⟩
theorem pr_cmpP {op : CmpOp} {S : Sto} {c : RC} {a b : W} {P : VQ} (r : RelS G c H S) (ra : RepW G c H a x) (rb : RepW G c H b y) (w : cmpP S op a b P)
    (k : ∀ v H' c' S' w, Grow c H c' H' → RelS G c' H' S' → RepW G c' H' w v → P w S' → Q v H') : rCmp G op x y H Q := by
  unfold cmpP at w
  split at w
  all_goals try (cases rep_int ra; cases rep_int rb; exact ⟨_, _, rfl, rfl, k _ H c S _ .refl r bl_rep w⟩)
  all_goals try (cases rep_int ra; cases rep_int rb; exact .inl ⟨_, _, rfl, rfl, k _ H c S _ .refl r bl_rep w⟩)
  all_goals try (cases rep_int ra; cases rep_int rb; exact .inl ⟨rfl, k _ H c S _ .refl r bl_rep (by
    rw [dec_int]
    exact w)⟩)
  all_goals try (cases rep_bl ra; cases rep_bl rb; exact .inl ⟨rfl, k _ H c S _ .refl r bl_rep (by
    rw [dec_bl]
    exact w)⟩)
  all_goals try (cases rep_str ra; cases rep_str rb; exact .inl ⟨rfl, k _ H c S _ .refl r bl_rep (by
    rw [dec_str]
    exact w)⟩)
  · obtain ⟨p1, rfl, s1⟩ := rep_pair ra
    obtain ⟨p2, rfl, s2⟩ := rep_pair rb
    exact .inr ⟨_, _, _, _, _, _, rfl, rfl, s1, s2, k _ H c S _ .refl r bl_rep w⟩
  · cases rep_non rb
    refine ⟨rfl, ?_⟩
    rw [isNon_of ra]
    exact k _ H c S _ .refl r bl_rep w
  · cases rep_non rb
    refine ⟨rfl, ?_⟩
    rw [isNon_of ra]
    exact k _ H c S _ .refl r bl_rep w
  · obtain ⟨d, e, h1, h2, s1, s2, q⟩ := w
    exact .inr ⟨d, e, dpW r ra h1, dpW r rb h2, s1, s2, k _ H c S _ .refl r bl_rep q⟩
  · obtain ⟨d, e, h1, h2, s1, s2, q⟩ := w
    exact .inr ⟨d, e, dpW r ra h1, dpW r rb h2, s1, s2, k _ H c S _ .refl r bl_rep q⟩
  · rcases inP_of r ra rb w with ⟨n, z, h1, h2, q⟩ | ⟨p, xs, h1, h2, h3, h4, q⟩
    · exact .inl ⟨n, z, h1, h2, k _ H c S _ .refl r bl_rep q⟩
    · exact .inr ⟨p, xs, h1, h2, h3, h4, k _ H c S _ .refl r bl_rep q⟩
  · rcases inP_of r ra rb w with ⟨n, z, h1, h2, q⟩ | ⟨p, xs, h1, h2, h3, h4, q⟩
    · exact .inl ⟨n, z, h1, h2, k _ H c S _ .refl r bl_rep q⟩
    · exact .inr ⟨p, xs, h1, h2, h3, h4, k _ H c S _ .refl r bl_rep q⟩
  · exact w.elim
theorem pr_cmp {op : CmpOp} (h : liftV G (prSp (.cmp op)) X [x, y] H Q) : rCmp G op x y H Q := by
  obtain ⟨c, ws, S, P, XP, r, rp, w, k, kx⟩ := h
  obtain ⟨a, b, rfl, ra, rb⟩ := reps2 rp
  clear rp
  exact pr_cmpP r ra rb w k
end
end TW

namespace TW
open PySem PySem.Spec PyProof.Rows L2 C8
/-- what is known of the own classes -/
structure GOk (G : Gr) : Prop where
  ins : ∀ c ∈ G.cs, InsC G.K (G.cl c)
  cc : ∀ c ∈ G.cs, ∀ c' ∈ G.cs, PySem.W.kitOne G.K (.ref (G.cl c)) (.ref (G.cl c')) = some (decide (c = c'))
  ct : ∀ c ∈ G.cs, ∀ n ∈ tys, PySem.W.kitOne G.K (.ref (G.cl c)) (.type n) = some false
  tc : ∀ c ∈ G.cs, ∀ n ∈ ["int", "bool", "str", "list", "tuple", "NoneType"], PySem.W.kitOne G.K (.type n) (.ref (G.cl c)) = some false
section
variable {G : Gr} {X : XK} {H : Hp} {Q : VK} {c : RC} {S : Sto}
theorem kitTab : ∀ a ∈ ["int", "bool", "str", "list", "tuple", "NoneType"], ∀ n ∈ tys, kitB a n = some (a == n || (a == "bool" && n == "int")) := by decide +kernel
def tagV (G : Gr) : Sum String Str → Value
  | .inl a => .type a
  | .inr c => .ref (G.cl c)
def TagOk (G : Gr) : Sum String Str → Prop
  | .inl a => a ∈ ["int", "bool", "str", "list", "tuple", "NoneType"]
  | .inr c => c ∈ G.cs
theorem kit_tag (g : GOk G) {tg : Sum String Str} {t : T} {v : V} {b : Bool} (hg : TagOk G tg) (h : Rep G c H t v) (e : isiTag tg t = some b) : ∃ u, ClsV v u ∧ PySem.W.kitOne G.K (tagV G tg) u = some b := by
  cases t with
  | ty n =>
    rw [Rep] at h
    subst h
    refine ⟨_, .ty n, ?_⟩
    cases tg with
    | inl a =>
      have e : (if tys.contains n then some (a == n || (a == "bool" && n == "int")) else none) = some b := e
      split at e
      · rename_i hn
        rw [← e]
        exact kit_ty (kitTab a hg n (by simpa using hn))
      · cases e
    | inr x =>
      have e : (if tys.contains n then some false else none) = some b := e
      split at e
      · rename_i hn
        rw [← e]
        exact g.ct x hg n (by simpa using hn)
      · cases e
  | cls y =>
    rw [Rep] at h
    obtain ⟨rfl, hm⟩ := h
    refine ⟨_, .own _, ?_⟩
    cases tg with
    | inl a => rw [← e]; exact g.tc y hm a hg
    | inr x => rw [← e]; exact g.cc x hg y hm
  | _ => cases tg <;> cases e
theorem kit_tags (g : GOk G) {tg : Sum String Str} (hg : TagOk G tg) : ∀ {ts : List T} {vs : List V} {b : Bool}, Reps G c H ts vs → isiTags tg ts = some b → ∃ us, Paired ClsV vs us ∧ PySem.W.kitAny G.K (tagV G tg) us = some b
  | [], vs, b, h, e => by
    rw [Reps] at h
    subst h
    cases (Option.some.inj e)
    exact ⟨[], .nil, rfl⟩
  | t :: ts, vs, b, h, e => by
    rw [Reps] at h
    obtain ⟨v, r, rfl, h1, h2⟩ := h
    rw [isiTags, Option.bind_eq_some_iff] at e
    obtain ⟨b1, e1, e⟩ := e
    rw [Option.bind_eq_some_iff] at e
    obtain ⟨b2, e2, e⟩ := e
    obtain ⟨u, k1, k2⟩ := kit_tag g hg h1 e1
    obtain ⟨us, k3, k4⟩ := kit_tags g hg h2 e2
    refine ⟨u :: us, .cons k1 k3, kitAny_cons k2 (fun z => ?_) (fun z => ?_)⟩
    · subst z
      cases e
      exact k4
    · subst z
      cases e
      rfl
theorem tag_ok (g : GOk G) {w : W} {tg : Sum String Str} {v : V} (r : RelS G c H S) (rp : RepW G c H w v) (e : tagW S w = some tg) : TagOk G tg ∧ TyX G.K H v (tagV G tg) := by
  cases w with
  | im s =>
    have rp : Rep G c H s v := rp
    cases s <;> first
      | (cases e; done)
      | (cases (Option.some.inj e)
         rw [Rep] at rp
         first
          | (subst rp; exact ⟨by show _ ∈ _; decide, .base .non⟩)
          | (subst rp; exact ⟨by show _ ∈ _; decide, .base (.int _)⟩)
          | (subst rp; exact ⟨by show _ ∈ _; decide, .base (.bl _)⟩)
          | (subst rp; exact ⟨by show _ ∈ _; decide, .base (.str _)⟩)
          | (obtain ⟨a, vs, rfl, _, h, _⟩ := rp; exact ⟨by show _ ∈ _; decide, .base (.lst h)⟩)
          | (obtain ⟨a, vs, rfl, _, h, _⟩ := rp; exact ⟨by show _ ∈ _; decide, .base (.tup h)⟩)
          | (obtain ⟨a, rfl, ⟨o, h, _⟩ | ⟨o, its, n, h1, h2, _⟩⟩ := rp
             · exact ⟨by show _ ∈ _; decide, .base (.frz h)⟩
             · exact ⟨by show _ ∈ _; decide, .kList h1 h2⟩)
          | (obtain ⟨a, dx, vs, rfl, _, h, _, io, _⟩ := rp
             have i := g.ins _ io.mem
             exact ⟨io.mem, .base (.ins h io.cls i.ha i.hn i.htk i.hm)⟩))
  | mr k =>
    obtain ⟨a, hk, rfl⟩ := rp
    have e : (match S[k]? with | some (.lst _) => some (.inl "list") | some (.ins c _ _) => some (.inr c) | _ => none) = some tg := e
    split at e
    · rename_i hs
      cases e
      obtain ⟨vs, h1, _⟩ := r.obj k _ a hs hk
      exact ⟨by show _ ∈ _; decide, .base (.lst h1)⟩
    · rename_i hs
      cases e
      obtain ⟨dx, vs, h1, _, io, _⟩ := r.obj k _ a hs hk
      have i := g.ins _ io.mem
      exact ⟨io.mem, .base (.ins h1 io.cls i.ha i.hn i.htk i.hm)⟩
    · cases e
  | src j => cases e

theorem repW_seqLen {w : W} {v : V} {n : Nat} (r : RelS G c H S) (rp : RepW G c H w v) (e : lenW S w = some n) :
    (∃ z, v = .str z ∧ n = z.length) ∨ (∃ p ys, v = .ref p ∧ (SqL G.K H p ys ∨ SqT G.K H p ys) ∧ n = ys.length) ∨ (∃ p kvs, v = .ref p ∧ H p = some (.dK kvs) ∧ n = kvs.length) ∨ (∃ p kvs, v = .ref p ∧ H p = some (.dT kvs) ∧ n = kvs.length) := by
  have sq : ∀ ts, seqOf S w = some ts → ts.length = n → (∃ z, v = .str z ∧ n = z.length) ∨ (∃ p ys, v = .ref p ∧ (SqL G.K H p ys ∨ SqT G.K H p ys) ∧ n = ys.length) ∨ (∃ p kvs, v = .ref p ∧ H p = some (.dK kvs) ∧ n = kvs.length) ∨ (∃ p kvs, v = .ref p ∧ H p = some (.dT kvs) ∧ n = kvs.length) := fun ts e1 e2 => by
    obtain ⟨a, vs, rfl, h1, h2⟩ := rd_seq r rp e1
    exact .inr (.inl ⟨a, vs, rfl, h1, by rw [h2.length, e2]⟩)
  cases w with
  | im t =>
    cases t with
    | str z => cases rep_str rp; exact .inl ⟨z, rfl, (Option.some.inj e).symm⟩
    | dK ks ts =>
      have rp : Rep G c H (.dK ks ts) v := rp
      rw [Rep] at rp
      obtain ⟨a, vs, rfl, _, h1, h2, _⟩ := rp
      refine .inr (.inr (.inl ⟨a, _, rfl, h1, ?_⟩))
      rw [List.length_zip, ← h2, Nat.min_self]
      exact (Option.some.inj e).symm
    | dT ks ts =>
      have rp : Rep G c H (.dT ks ts) v := rp
      rw [Rep] at rp
      obtain ⟨a, vs, rfl, _, h1, h2, _⟩ := rp
      refine .inr (.inr (.inr ⟨a, _, rfl, h1, ?_⟩))
      rw [List.length_zip, ← h2, Nat.min_self]
      exact (Option.some.inj e).symm
    | _ =>
      simp only [lenW, Option.map_eq_some_iff] at e
      obtain ⟨ts, e1, e2⟩ := e
      exact sq ts e1 e2
  | mr k =>
    obtain ⟨a, hk, rfl⟩ := rp
    have e : (match S[k]? with | some (.lst ws) => some ws.length | some (.dK ks _) => some ks.length | some (.dT ks _) => some ks.length | _ => none) = some n := e
    split at e
    · rename_i hs
      obtain ⟨vs, h1, h2⟩ := r.obj k _ a hs hk
      exact .inr (.inl ⟨a, vs, rfl, .inl (.inl (.inl h1)), by rw [h2.length]; exact (Option.some.inj e).symm⟩)
    · rename_i hs
      obtain ⟨vs, h1, h2, _⟩ := r.obj k _ a hs hk
      refine .inr (.inr (.inl ⟨a, _, rfl, h1, ?_⟩))
      rw [List.length_zip, ← h2, Nat.min_self]
      exact (Option.some.inj e).symm
    · rename_i hs
      obtain ⟨vs, h1, h2, _⟩ := r.obj k _ a hs hk
      refine .inr (.inr (.inr ⟨a, _, rfl, h1, ?_⟩))
      rw [List.length_zip, ← h2, Nat.min_self]
      exact (Option.some.inj e).symm
    · cases e
  | src j =>
    have e : (seqOf S (.src j)).map List.length = some n := e
    rw [Option.map_eq_some_iff] at e
    obtain ⟨ts, e1, e2⟩ := e
    exact sq ts e1 e2
end
/-- the built-in functions by the layer's rules -/
def rBi (G : Gr) : Bi → List V → Hp → VK → Prop
  | .len => fun xs H Q => ((∃ p ys, xs = [.ref p] ∧ (SqL G.K H p ys ∨ SqT G.K H p ys) ∧ Q (.int (ys.length : Nat)) H) ∨ (∃ z, xs = [.str z] ∧ z.length ≤ sizeLine ∧ Q (.int (z.length : Nat)) H)) ∨ ((∃ a kvs, xs = [.ref a] ∧ H a = some (.dK kvs) ∧ Q (.int (kvs.length : Nat)) H) ∨ rLenT xs H Q)
  | .abs => fun xs H Q => ∃ i, xs = [.int i] ∧ Q (.int (if i < 0 then -i else i)) H
  | .min2 => fun xs H Q => ∃ i j, xs = [.int i, .int j] ∧ Q (.int (if j < i then j else i)) H
  | .max2 => fun xs H Q => ∃ i j, xs = [.int i, .int j] ∧ Q (.int (if j > i then j else i)) H
  | .int1 => fun xs H Q => ((∃ i, xs = [.int i] ∧ Q (.int i) H) ∨ ∃ k, xs = [.bl k] ∧ Q (.int (if k then 1 else 0)) H) ∨ ∃ a n, xs = [.str a] ∧ PySem.intText? a = some n ∧ a.length ≤ 640 ∧ Q (.int n) H
  | .str1 => fun xs H Q => (∃ i, xs = [.int i] ∧ i.natAbs.log2 < 1920 ∧ Q (.str (toString i)) H) ∨ ∃ a, xs = [.str a] ∧ Q (.str a) H
  | .tuple1 => fun xs H Q => ∃ p ys, xs = [.ref p] ∧ ((SqL G.K H p ys ∧ ∀ l, H l = none → Q (.ref l) (upd H l (.tup ys))) ∨ (SqT G.K H p ys ∧ Q (.ref p) H))
  | .list1 => fun xs H Q => ∃ p ys, xs = [.ref p] ∧ (SqL G.K H p ys ∨ SqT G.K H p ys) ∧ ∀ l, H l = none → Q (.ref l) (upd H l (.lst ys))
  | .all1 => rAll G.K
  | .any1 => rAny G.K
  | .sorted1 => fun xs H Q => rSorted G.K xs H Q ∨ rSortedS G.K xs H Q
  | .isi => fun xs H Q => rIsi G.K xs H Q ∨ rIsiT G.K xs H Q
  | .lenset => fun _ _ _ => False
  | .max1 => rMax G.K
  | .min1 => rMin G.K
def Bi.val : Bi → Value
  | .len => .builtin "len" | .abs => .builtin "abs" | .min2 => .builtin "min" | .max2 => .builtin "max" | .int1 => .type "int" | .str1 => .type "str" | .tuple1 => .type "tuple" | .list1 => .type "list" | .all1 => .builtin "all" | .any1 => .builtin "any" | .sorted1 => .builtin "sorted" | .isi => .builtin "isinstance" | .lenset => .builtin "len" | .max1 => .builtin "max" | .min1 => .builtin "min"
theorem call_bi {G : Gr} {X : Cx} (hK : X.K = G.K) (hc : X.calm = true) : ∀ b : Bi, CallR X b.val (rBi G b) := by
  intro b
  cases b <;> (unfold rBi Bi.val; try rw [← hK]) <;> first
    | exact CallR.or (CallR.or call_len_seq call_len_str) (CallR.or call_lenD call_len_dT)
    | exact call_abs
    | exact call_min2 hc
    | exact call_max2 hc
    | exact CallR.or call_int1 call_int_str
    | exact CallR.or call_str_int SkE.call_str_str
    | exact call_tuple_of
    | exact call_list_of
    | exact cr_all hc
    | exact cr_any hc
    | exact CallR.or cr_sorted cr_sortedS
    | exact CallR.or call_isi call_isiT
    | exact cr_max hc
    | exact cr_min hc
    | exact fun _ _ _ _ _ _ _ _ _ h => h.elim
section
variable {G : Gr} {X : XK} {H : Hp} {Q : VK} {c : RC} {S : Sto}
theorem pr_bi (g : GOk G) {b : Bi} {vs : List V} (h : liftV G (prSp (.blt b)) X vs H Q) : rBi G b vs H Q := by
  obtain ⟨c, ws, S, P, XP, r, rp, w, k, kx⟩ := h
  change biP S b ws P at w
  unfold biP at w
  split at w
  · obtain ⟨v, rs, rfl, ra, rp⟩ := repsV1 rp
    obtain rfl := repsV0 rp
    obtain ⟨n, e, hn, q⟩ := w
    have q' := k _ H c S _ .refl r int_rep q
    rcases repW_seqLen r ra e with ⟨z, rfl, rfl⟩ | ⟨p, ys, rfl, h1, rfl⟩ | ⟨p, kvs, rfl, h1, rfl⟩ | ⟨p, kvs, rfl, h1, rfl⟩
    · exact .inl (.inr ⟨z, rfl, hn, q'⟩)
    · exact .inl (.inl ⟨p, ys, rfl, h1, q'⟩)
    · exact .inr (.inl ⟨p, kvs, rfl, h1, q'⟩)
    · exact .inr (.inr ⟨p, kvs, rfl, h1, q'⟩)
  · obtain ⟨v, rs, rfl, ra, rp⟩ := repsV1 rp
    obtain rfl := repsV0 rp
    cases rep_int ra
    exact ⟨_, rfl, k _ H c S _ .refl r int_rep w⟩
  · obtain ⟨v, rs, rfl, ra, rp⟩ := repsV1 rp
    obtain ⟨v', rs, rfl, rb, rp⟩ := repsV1 rp
    obtain rfl := repsV0 rp
    cases rep_int ra; cases rep_int rb
    exact ⟨_, _, rfl, k _ H c S _ .refl r int_rep w⟩
  · obtain ⟨v, rs, rfl, ra, rp⟩ := repsV1 rp
    obtain ⟨v', rs, rfl, rb, rp⟩ := repsV1 rp
    obtain rfl := repsV0 rp
    cases rep_int ra; cases rep_int rb
    exact ⟨_, _, rfl, k _ H c S _ .refl r int_rep w⟩
  · obtain ⟨v, rs, rfl, ra, rp⟩ := repsV1 rp
    obtain rfl := repsV0 rp
    cases rep_int ra
    exact .inl (.inl ⟨_, rfl, k _ H c S _ .refl r int_rep w⟩)
  · obtain ⟨v, rs, rfl, ra, rp⟩ := repsV1 rp
    obtain rfl := repsV0 rp
    cases rep_bl ra
    exact .inl (.inr ⟨_, rfl, k _ H c S _ .refl r int_rep w⟩)
  · obtain ⟨v, rs, rfl, ra, rp⟩ := repsV1 rp
    obtain rfl := repsV0 rp
    cases rep_str ra
    obtain ⟨n, e, hl, q⟩ := w
    exact .inr ⟨_, n, rfl, e, hl, k _ H c S _ .refl r int_rep q⟩
  · obtain ⟨v, rs, rfl, ra, rp⟩ := repsV1 rp
    obtain rfl := repsV0 rp
    cases rep_int ra
    exact .inl ⟨_, rfl, w.1, k _ H c S _ .refl r str_rep w.2⟩
  · obtain ⟨v, rs, rfl, ra, rp⟩ := repsV1 rp
    obtain rfl := repsV0 rp
    cases rep_str ra
    exact .inr ⟨_, rfl, k _ H c S _ .refl r str_rep w⟩
  · obtain ⟨v, rs, rfl, ra, rp⟩ := repsV1 rp
    obtain rfl := repsV0 rp
    obtain ⟨ts, e, q⟩ := w
    rename_i w0 _
    by_cases hs : ∃ us, w0 = .im (.tup us)
    · obtain ⟨us, rfl⟩ := hs
      have e' : us = ts := Option.some.inj e
      subst e'
      obtain ⟨a, vs, rfl, h1, h2⟩ := rd_tup ra
      exact ⟨a, vs, rfl, .inr ⟨.inl (.inl h1), k _ H c S _ .refl r ra q⟩⟩
    · have e2 : lstOf S w0 = some ts := by
        cases w0 with
        | im t =>
          cases t with
          | tup us => exact absurd ⟨us, rfl⟩ hs
          | _ => exact e
        | mr k => exact e
        | src j => exact e
      obtain ⟨a, vs, rfl, h1, h2⟩ := rd_lst r ra e2
      exact ⟨a, vs, rfl, .inl ⟨h1, fun l hl => k _ _ c S _ (Grow.new r hl) (r.new hl) (new_tup r hl h2) q⟩⟩
  · obtain ⟨v, rs, rfl, ra, rp⟩ := repsV1 rp
    obtain rfl := repsV0 rp
    obtain ⟨ts, e, q⟩ := w
    obtain ⟨a, vs, rfl, h1, h2⟩ := rd_seq r ra e
    exact ⟨a, vs, rfl, h1, fun l hl => k _ _ c S _ (Grow.new r hl) (r.new hl) (new_lst r hl h2) q⟩
  · obtain ⟨v, rs, rfl, ra, rp⟩ := repsV1 rp
    obtain rfl := repsV0 rp
    obtain ⟨ts, bs, e, e2, q⟩ := w
    obtain ⟨a, vs, rfl, h1, h2⟩ := rd_lst r ra e
    obtain rfl := bools_of h2 e2
    exact ⟨a, bs, rfl, h1, k _ H c S _ .refl r bl_rep q⟩
  · obtain ⟨v, rs, rfl, ra, rp⟩ := repsV1 rp
    obtain rfl := repsV0 rp
    obtain ⟨ts, bs, e, e2, q⟩ := w
    obtain ⟨a, vs, rfl, h1, h2⟩ := rd_lst r ra e
    obtain rfl := bools_of h2 e2
    exact ⟨a, bs, rfl, h1, k _ H c S _ .refl r bl_rep q⟩
  · obtain ⟨v, rs, rfl, ra, rp⟩ := repsV1 rp
    obtain rfl := repsV0 rp
    obtain ⟨ts, e, hl, q⟩ := w
    obtain ⟨a, vs, rfl, h1, h2⟩ := rd_lst r ra e
    rcases q with ⟨ns, e2, q⟩ | ⟨ns, e2, q⟩
    · obtain rfl := ints_of h2 e2
      exact .inl ⟨a, ns, rfl, h1, by rw [intsT_len e2]; exact hl, fun ns' p h3 h4 np => k _ _ c S _ (Grow.new r np) (r.new np) (new_lst r np reps_int) (q ns' h3 h4)⟩
    · obtain rfl := strs_of h2 e2
      exact .inr ⟨a, ns, rfl, h1, by rw [strsT_len e2]; exact hl, fun ns' p h3 h4 np => k _ _ c S _ (Grow.new r np) (r.new np) (new_lst r np reps_str) (q ns' h3 h4)⟩
  · obtain ⟨v, rs, rfl, ra, rp⟩ := repsV1 rp
    obtain ⟨v', rs, rfl, rb, rp⟩ := repsV1 rp
    obtain rfl := repsV0 rp
    obtain ⟨b, e, q⟩ := w
    rename_i w0 w1 _ _
    have q' := k _ H c S _ .refl r bl_rep q
    cases w1 with
    | im t =>
      by_cases ht : ∃ cs, t = .tup cs
      · obtain ⟨cs, rfl⟩ := ht
        have e : ((tagW S w0).bind fun g => isiTags g cs) = some b := e
        rw [Option.bind_eq_some_iff] at e
        obtain ⟨tg, e1, e2⟩ := e
        obtain ⟨a, vs, rfl, h1, h2⟩ := rd_tup rb
        obtain ⟨t1, t2⟩ := tag_ok g r ra e1
        obtain ⟨us, h3, h4⟩ := kit_tags g t1 h2 e2
        exact .inr ⟨v, a, vs, _, us, b, rfl, h1, h3, t2, h4, q'⟩
      · have e : ((tagW S w0).bind fun g => isiTag g t) = some b := by
          cases t with
          | tup cs => exact absurd ⟨cs, rfl⟩ ht
          | _ => exact e
        rw [Option.bind_eq_some_iff] at e
        obtain ⟨tg, e1, e2⟩ := e
        obtain ⟨t1, t2⟩ := tag_ok g r ra e1
        obtain ⟨u, h3, h4⟩ := kit_tag g t1 rb e2
        exact .inl ⟨v, v', _, u, b, rfl, h3, t2, h4, q'⟩
    | mr k => cases e
    | src j => cases e
  · obtain ⟨v, rs, rfl, ra, rp⟩ := repsV1 rp
    obtain rfl := repsV0 rp
    obtain ⟨ts, ns, e, e2, hl, q⟩ := w
    obtain ⟨a, vs, rfl, h1, h2⟩ := rd_lst r ra e
    obtain rfl := ints_of h2 e2
    exact ⟨a, ns, rfl, h1, hl, fun m h3 h4 => k _ H c S _ .refl r int_rep (q m h3 h4)⟩
  · obtain ⟨v, rs, rfl, ra, rp⟩ := repsV1 rp
    obtain rfl := repsV0 rp
    obtain ⟨ts, ns, e, e2, hl, q⟩ := w
    obtain ⟨a, vs, rfl, h1, h2⟩ := rd_lst r ra e
    obtain rfl := ints_of h2 e2
    exact ⟨a, ns, rfl, h1, hl, fun m h3 h4 => k _ H c S _ .refl r int_rep (q m h3 h4)⟩
  · exact w.elim
end
end TW

namespace TW
open PySem PySem.Spec PyProof.Rows L2 C8
section
variable {G : Gr} {X : XK} {H : Hp} {Q : VK} {c : RC} {S : Sto}
theorem look_zip {f : Str} : ∀ {ns : List Str} {ws : List W} {vs : List V} {w : W}, RepWs G c H ws vs → ns.length = vs.length → lookF f ns ws = some w → ∃ v, (ns.zip vs).lookup f = some v ∧ RepW G c H w v ∧ f ∈ ns
  | [], ws, vs, w, _, _, e => by cases ws <;> cases e
  | n :: ns, [], vs, w, _, _, e => by cases e
  | n :: ns, u :: ws, vs, w, h, hl, e => by
    obtain ⟨v, r, rfl, h1, h2⟩ := h
    by_cases hf : f = n
    · subst hf
      rw [lookF, if_pos rfl] at e
      cases e
      exact ⟨v, by simp, h1, by simp⟩
    · rw [lookF, if_neg hf] at e
      obtain ⟨v', q1, q2, q3⟩ := look_zip h2 (by simpa using hl) e
      refine ⟨v', ?_, q2, List.mem_cons_of_mem _ q3⟩
      rw [List.zip_cons_cons, List.lookup_cons, show (f == n) = false from beq_eq_false_iff_ne.mpr hf]
      exact q1
theorem lookF_map {f : Str} : ∀ {ns : List Str} {ts : List T}, (lookF f ns ts).map W.im = lookF f ns (ts.map W.im)
  | [], ts => by cases ts <;> rfl
  | n :: ns, [] => rfl
  | n :: ns, t :: ts => by
    rw [List.map_cons, lookF, lookF]
    split
    · rfl
    · exact lookF_map
theorem pr_attr {f : Str} {x : V} (h : liftV G (prSp (.attr f)) X [x] H Q) : ∃ a C dx fs v, x = .ref a ∧ H a = some (.ins C dx fs) ∧ Cls G.K C ∧ NoAttr G.K C f ∧ fs.lookup f = some v ∧ Q v H := by
  obtain ⟨c, ws, S, P, XP, r, rp, w, k, kx⟩ := h
  obtain ⟨w0, rfl, ra⟩ := reps11 rp
  change ∃ x, attrW S f w0 = some x ∧ P x S at w
  obtain ⟨u, e, q⟩ := w
  cases w0 with
  | im t =>
    cases t with
    | ins y ns ts =>
      have ra : Rep G c H (.ins y ns ts) x := ra
      rw [Rep] at ra
      obtain ⟨a, dx, vs, rfl, _, h1, h2, io, h3⟩ := ra
      have e : (lookF f ns ts).map W.im = some u := e
      rw [lookF_map] at e
      obtain ⟨v, q1, q2, q3⟩ := look_zip h3.ws h2 e
      exact ⟨a, _, dx, _, v, rfl, h1, io.cls, io.no f q3, q1, k v H c S u .refl r q2 q⟩
    | _ => cases e
  | mr j =>
    obtain ⟨a, hk, rfl⟩ := ra
    have e : (match S[j]? with | some (.ins _ ns ws) => lookF f ns ws | _ => none) = some u := e
    split at e
    · rename_i hs
      obtain ⟨dx, vs, h1, h2, io, h3⟩ := r.obj j _ a hs hk
      obtain ⟨v, q1, q2, q3⟩ := look_zip h3 h2 e
      exact ⟨a, _, dx, _, v, rfl, h1, io.cls, io.no f q3, q1, k v H c S u .refl r q2 q⟩
    · cases e
  | src j => cases e
theorem atI_reps {ts : List T} {vs : List V} {i : Int} {t : T} (h : Reps G c H ts vs) (e : atI ts i = some t) : ∃ v, atI vs i = some v ∧ Rep G c H t v := by
  unfold atI at e ⊢
  rw [Option.bind_eq_some_iff] at e
  obtain ⟨j, e1, e2⟩ := e
  obtain ⟨v, e3, q⟩ := h.get e2
  exact ⟨v, by rw [h.length, e1]; exact e3, q⟩
theorem atI_repsW {ts : List W} {vs : List V} {i : Int} {t : W} (h : RepWs G c H ts vs) (e : atI ts i = some t) : ∃ v, atI vs i = some v ∧ RepW G c H t v := by
  unfold atI at e ⊢
  rw [Option.bind_eq_some_iff] at e
  obtain ⟨j, e1, e2⟩ := e
  obtain ⟨v, e3, q⟩ := h.get e2
  exact ⟨v, by rw [h.length, e1]; exact e3, q⟩
theorem pr_ix {x y : V} (h : liftV G (prSp .ix) X [x, y] H Q) : rIx G.K x y H Q := by
  obtain ⟨c, ws, S, P, XP, r, rp, w, k, kx⟩ := h
  obtain ⟨a, b, rfl, ra, rb⟩ := reps2 rp
  clear rp
  change ixP S a b P at w
  unfold ixP at w
  split at w
  · obtain ⟨n, hl, e, q⟩ := w
    cases rep_str ra; cases rep_int rb
    exact .inr (.inr ⟨_, _, n, rfl, rfl, hl, e, k _ H c S _ .refl r str_rep q⟩)
  · obtain ⟨t, e, q⟩ := w
    cases rep_int rb
    obtain ⟨p, vs, rfl, h1, h2⟩ := rd_tup ra
    obtain ⟨v, e2, q2⟩ := atI_reps h2 e
    exact .inr (.inl ⟨p, vs, _, v, rfl, rfl, .inl (.inl h1), e2, k _ H c S (.im t) .refl r q2 q⟩)
  · obtain ⟨t, e, q⟩ := w
    cases rep_int rb
    obtain ⟨p, vs, rfl, h1, h2⟩ := rd_lst (w := .im (.lst _)) r ra rfl
    obtain ⟨v, e2, q2⟩ := atI_reps h2 e
    exact .inl ⟨p, vs, _, v, rfl, rfl, h1, e2, k _ H c S (.im t) .refl r q2 q⟩
  · obtain ⟨t, e, q⟩ := w
    cases rep_int rb
    obtain ⟨p, vs, rfl, h1, h2⟩ := rd_lst (w := .im (.scr _)) r ra rfl
    rename_i ns i
    have e' : atI (ns.map T.int) i = some (.int t) := by
      unfold atI at e ⊢
      rw [Option.bind_eq_some_iff] at e
      obtain ⟨j, e1, e2⟩ := e
      rw [List.length_map, e1]
      simp [e2]
    obtain ⟨v, e2, q2⟩ := atI_reps h2 e'
    exact .inl ⟨p, vs, _, v, rfl, rfl, h1, e2, k _ H c S (.im (.int t)) .refl r q2 q⟩
  · obtain ⟨ws, u, hs, e, q⟩ := w
    cases rep_int rb
    obtain ⟨p, hk, rfl⟩ := ra
    obtain ⟨vs, h1, h2⟩ := r.obj _ _ p hs hk
    obtain ⟨v, e2, q2⟩ := atI_repsW h2 e
    exact .inl ⟨p, vs, _, v, rfl, rfl, .inl (.inl h1), e2, k _ H c S _ .refl r q2 q⟩
  · exact w.elim
theorem cut_reps {ts : List T} {vs : List V} {lo hi : Option Int} (h : Reps G c H ts vs) : Reps G c H (cutT ts lo hi) (cutV vs lo hi) := by
  unfold cutT cutV
  rw [h.length]
  exact (h.drop _).take _
def rSl (G : Gr) : V → Option Int → Option Int → Hp → VK → Prop := fun x lo hi H Q => (rSlA G.K x lo hi H Q ∨ rSlS x lo hi H Q) ∨ rSlL G.K x lo hi H Q
theorem sl_any {X : Cx} (hK : X.K = G.K) : SlR X (rSl G) := by
  unfold rSl
  rw [← hK]
  exact SlR.or (SlR.or sl_tupA sl_str) sl_list
theorem slP_of {w : W} {x : V} {lo hi : Option Int} {P : VQ} (r : RelS G c H S) (ra : RepW G c H w x) (h : slP S w lo hi P)
    (k : ∀ v H' c' S' w, Grow c H c' H' → RelS G c' H' S' → RepW G c' H' w v → P w S' → Q v H') : rSl G x lo hi H Q := by
  unfold slP at h
  split at h
  · obtain ⟨rr, rfl, q⟩ := h
    obtain ⟨p, vs, rfl, h1, h2⟩ := rd_tup ra
    refine .inl (.inl ⟨p, vs, rfl, .inl (.inl h1), fun e => ?_, fun _ p' np => ?_⟩)
    · rename_i ts
      have e2 : cutT ts lo hi = ts := by
        unfold cutT
        rw [← h2.length, e.1, e.2]
        rw [List.drop_zero, Nat.sub_zero, h2.length, List.take_length]
      rw [e2] at q
      exact k _ H c S _ .refl r ra q
    · exact k _ _ c S _ (Grow.new r np) (r.new np) (new_tup r np (cut_reps h2)) q
  · cases rep_str ra
    refine .inl (.inr ⟨_, rfl, h.1, ?_⟩)
    refine k _ H c S _ .refl r str_rep ?_
    exact h.2
  · obtain ⟨ts, e, q⟩ := h
    obtain ⟨p, vs, rfl, h1, h2⟩ := rd_lst r ra e
    exact .inr ⟨p, vs, rfl, h1, fun p' np => k _ _ c S _ (Grow.new r np) (r.new np) (new_lst r np (cut_reps h2)) q⟩
theorem reps_rev {ts : List T} {vs : List V} (h : Reps G c H ts vs) : Reps G c H ts.reverse vs.reverse := by
  induction ts generalizing vs with
  | nil => rw [Reps] at h; subst h; rw [List.reverse_nil, List.reverse_nil, Reps]
  | cons t ts ih =>
    rw [Reps] at h
    obtain ⟨v, r, rfl, h1, h2⟩ := h
    rw [List.reverse_cons, List.reverse_cons]
    refine (ih h2).append ?_
    rw [Reps]
    exact ⟨v, [], rfl, h1, by rw [Reps]⟩
theorem pr_rev {x : V} (h : liftV G (prSp .rev) X [x] H Q) : ∃ a xs, x = .ref a ∧ SqL G.K H a xs ∧ ∀ p, H p = none → Q (.ref p) (upd H p (.lst xs.reverse)) := by
  obtain ⟨c, ws, S, P, XP, r, rp, w, k, kx⟩ := h
  obtain ⟨w0, rfl, ra⟩ := reps11 rp
  obtain ⟨ts, e, q⟩ := w
  obtain ⟨p, vs, rfl, h1, h2⟩ := rd_lst r ra e
  exact ⟨p, vs, rfl, h1, fun p' np => k _ _ c S _ (Grow.new r np) (r.new np) (new_lst r np (reps_rev h2)) q⟩
theorem pr_tup {vs : List V} (h : liftV G (prSp .tup) X vs H Q) : vs.length ≤ sizeLine ∧ ∀ p, H p = none → Q (.ref p) (upd H p (.tup vs)) := by
  obtain ⟨c, ws, S, P, XP, r, rp, w, k, kx⟩ := h
  obtain ⟨ts, e, hl, q⟩ := w
  rw [imAll_eq e] at rp
  refine ⟨by rw [rp.ts.length]; exact hl, fun p np => k _ _ c S _ (Grow.new r np) (r.new np) (new_tup r np rp.ts) q⟩
theorem pr_lst {vs : List V} (h : liftV G (prSp .lst) X vs H Q) : vs.length ≤ sizeLine ∧ ∀ p, H p = none → Q (.ref p) (upd H p (.lst vs)) := by
  obtain ⟨c, ws, S, P, XP, r, rp, w, k, kx⟩ := h
  obtain ⟨ts, e, hl, q⟩ := w
  rw [imAll_eq e] at rp
  refine ⟨by rw [rp.ts.length]; exact hl, fun p np => k _ _ c S _ (Grow.new r np) (r.new np) (new_lst r np rp.ts) q⟩
/-- a new object of the store, by its address -/
theorem push_at {S : Sto} {p : Addr} (r : RelS G c H S) : (c.push p).mu[S.length]? = some p := by
  show (c.mu ++ [p])[S.length]? = some p
  rw [← r.len]
  simp
theorem pr_nlst {vs : List V} (h : liftV G (prSp .nlst) X vs H Q) : vs.length ≤ sizeLine ∧ ∀ p, H p = none → Q (.ref p) (upd H p (.lst vs)) := by
  obtain ⟨c, ws, S, P, XP, r, rp, w, k, kx⟩ := h
  obtain ⟨hl, q⟩ := w
  refine ⟨by rw [rp.length]; exact hl, fun p np => k _ _ (c.push p) (S ++ [.lst ws]) (.mr S.length) (Grow.push r np) (r.push (m := .lst ws) np ⟨vs, upd_same, RepWs.mono (Grow.push r np) ws vs rp⟩) ⟨p, push_at r, rfl⟩ q⟩
theorem rep1 {w : W} {v : V} (h : RepW G c H w v) : RepWs G c H [w] [v] := ⟨v, [], rfl, h, rfl⟩
theorem repsL_dropLast {ws : List W} {vs : List V} (h : RepWs G c H ws vs) : RepWs G c H ws.dropLast vs.dropLast := by
  induction ws generalizing vs with
  | nil => obtain rfl := repsV0 h; rfl
  | cons w ws ih =>
    obtain ⟨v, r, rfl, h1, h2⟩ := h
    cases ws with
    | nil => obtain rfl := repsV0 h2; rfl
    | cons w' ws' =>
      obtain ⟨v', r', rfl, h3, h4⟩ := id h2
      exact ⟨v, _, rfl, h1, ih h2⟩
theorem repsL_erase : ∀ {ws : List W} {vs : List V} {i : Nat}, RepWs G c H ws vs → RepWs G c H (ws.eraseIdx i) (vs.eraseIdx i)
  | [], vs, i, h => by
    obtain rfl := repsV0 h
    simp
    rfl
  | w :: ws, vs, 0, h => by
    obtain ⟨v, r, rfl, h1, h2⟩ := h
    exact h2
  | w :: ws, vs, i + 1, h => by
    obtain ⟨v, r, rfl, h1, h2⟩ := h
    exact ⟨v, _, rfl, h1, repsL_erase h2⟩
theorem repsL_set : ∀ {ws : List W} {vs : List V} {i : Nat} {w : W} {v : V}, RepWs G c H ws vs → RepW G c H w v → RepWs G c H (ws.set i w) (vs.set i v)
  | [], vs, i, _, _, h, _ => by
    obtain rfl := repsV0 h
    simp
    rfl
  | w :: ws, vs, 0, _, _, h, q => by
    obtain ⟨v, r, rfl, h1, h2⟩ := h
    exact ⟨_, r, rfl, q, h2⟩
  | w :: ws, vs, i + 1, _, _, h, q => by
    obtain ⟨v, r, rfl, h1, h2⟩ := h
    exact ⟨v, _, rfl, h1, repsL_set h2 q⟩
/-- a list of the store is changed -/
theorem set_lst {k : Nat} {a : Addr} {ws : List W} {vs : List V} (r : RelS G c H S) (hk : c.mu[k]? = some a) (h : RepWs G c H ws vs) : RelS G c (upd H a (.lst vs)) (S.set k (.lst ws)) :=
  r.set hk ⟨vs, upd_same, h.mono (Grow.set r hk)⟩
def rBm (G : Gr) : Bm → V → List V → Hp → VK → Prop
  | .append => rAppend
  | .extend => rExtend
  | .pop0 => rPop
  | .pop1 => rPopAt
  | .join => fun x xs H Q => ∃ a p, ∃ ys : List Str, x = .str a ∧ xs = [.ref p] ∧ (SqL G.K H p (ys.map V.str) ∨ SqT G.K H p (ys.map V.str)) ∧ (ys.map (·.length)).sum + ys.length * a.length ≤ 16777216 ∧ Q (.str (Txt.join a ys)) H
  | .split => fun x xs H Q => ∃ a b, x = .str a ∧ xs = [.str b] ∧ (b.length == 0) = false ∧ a.length + 2 ≤ sizeLine ∧ rNewStrs (Txt.split a b) H Q
theorem pr_bm {m : Bm} {x : V} {vs : List V} {w0 : W} {ws : List W} {P : VQ} (r : RelS G c H S) (ra : RepW G c H w0 x) (rp : RepWs G c H ws vs) (w : bmP S m (w0 :: ws) P)
    (k : ∀ v H' c' S' w, Grow c H c' H' → RelS G c' H' S' → RepW G c' H' w v → P w S' → Q v H') : rBm G m x vs H Q := by
  generalize hq : w0 :: ws = zs at w
  unfold bmP at w
  split at w
  · cases hq
    obtain ⟨y, rs, rfl, rb, rp⟩ := repsV1 rp
    obtain rfl := repsV0 rp
    obtain ⟨us, hs, hl, q⟩ := w
    obtain ⟨p, hk, rfl⟩ := ra
    obtain ⟨xs, h1, h2⟩ := r.obj _ _ p hs hk
    refine ⟨p, xs, y, rfl, rfl, h1, by rw [h2.length]; exact hl, ?_⟩
    exact k _ _ c _ _ (Grow.set r hk) (set_lst r hk (h2.append (rep1 rb))) non_rep q
  · cases hq
    obtain ⟨y, rs, rfl, rb, rp⟩ := repsV1 rp
    obtain rfl := repsV0 rp
    obtain ⟨us, ts, hs, e, hl, q⟩ := w
    obtain ⟨p, hk, rfl⟩ := ra
    obtain ⟨xs, h1, h2⟩ := r.obj _ _ p hs hk
    obtain ⟨p', zs, rfl, h3, h4⟩ := rd_lstN r rb e
    refine ⟨p, p', xs, zs, rfl, rfl, h1, h3, by rw [h2.length, h4.length]; exact hl, ?_⟩
    exact k _ _ c _ _ (Grow.set r hk) (set_lst r hk (h2.append h4.ws)) non_rep q
  · cases hq
    obtain rfl := repsV0 rp
    obtain ⟨us, u, hs, e, q⟩ := w
    obtain ⟨p, hk, rfl⟩ := ra
    obtain ⟨xs, h1, h2⟩ := r.obj _ _ p hs hk
    obtain ⟨y, e2, rb⟩ := h2.get e
    rw [← h2.length] at e2
    refine ⟨p, xs, y, rfl, rfl, h1, e2, ?_⟩
    have gr : Grow c H c (upd H p (.lst xs.dropLast)) := Grow.set r hk
    exact k _ _ c _ _ gr (set_lst r hk (repsL_dropLast h2)) (RepW.mono gr _ _ rb) q
  · cases hq
    obtain ⟨y, rs, rfl, rb, rp⟩ := repsV1 rp
    obtain rfl := repsV0 rp
    cases rep_int rb
    obtain ⟨us, j, u, hs, b1, b2, ei, e, q⟩ := w
    obtain ⟨p, hk, rfl⟩ := ra
    obtain ⟨xs, h1, h2⟩ := r.obj _ _ p hs hk
    obtain ⟨y, e2, rb⟩ := h2.get e
    rw [← h2.length] at ei
    refine ⟨p, xs, _, j, y, rfl, rfl, h1, b1, b2, ei, e2, ?_⟩
    have gr : Grow c H c (upd H p (.lst (xs.eraseIdx j))) := Grow.set r hk
    exact k _ _ c _ _ gr (set_lst r hk (repsL_erase h2)) (RepW.mono gr _ _ rb) q
  · cases hq
    obtain ⟨y, rs, rfl, rb, rp⟩ := repsV1 rp
    obtain rfl := repsV0 rp
    cases rep_str ra
    obtain ⟨ts, ss, e, e2, hl, q⟩ := w
    obtain ⟨p, vs, rfl, h1, h2⟩ := rd_seq r rb e
    obtain rfl := strs_of h2 e2
    exact ⟨_, p, ss, rfl, rfl, h1, hl, k _ H c S _ .refl r str_rep q⟩
  · cases hq
    obtain ⟨y, rs, rfl, rb, rp⟩ := repsV1 rp
    obtain rfl := repsV0 rp
    cases rep_str ra; cases rep_str rb
    exact ⟨_, _, rfl, rfl, w.1, w.2.1, fun p np => k _ _ c S _ (Grow.new r np) (r.new np) (new_lst r np reps_str) w.2.2⟩
  · exact w.elim
end
end TW

namespace TW
open PySem PySem.Spec PyProof.Rows L2 C8
theorem star_cons {e : Expr} {es : List Expr} {env : Env} (h : noStar e = true) : starEach (e :: es) env = (false, eval e env) :: starEach es env := by
  cases e <;> first
    | rfl
    | cases h
theorem star_any : ∀ {es : List Expr} {env : Env} {pos : Pos}, es.all noStar = true → (backTo pos (starEach es env)).any (·.1) = false
  | [], _, _, _ => rfl
  | e :: es, env, pos, h => by
    rw [List.all_cons, Bool.and_eq_true] at h
    rw [star_cons h.1]
    show (false || (backTo pos (starEach es env)).any (·.1)) = false
    rw [star_any h.2]
    rfl
theorem star_all : ∀ {es : List Expr} {env : Env} {pos : Pos}, es.all noStar = true → (backTo pos (starEach es env)).all (fun x => !x.1) = true
  | [], _, _, _ => rfl
  | e :: es, env, pos, h => by
    rw [List.all_cons, Bool.and_eq_true] at h
    rw [star_cons h.1]
    show (true && (backTo pos (starEach es env)).all (fun x => !x.1)) = true
    rw [star_all h.2]
    rfl
theorem ab_ok {o : Expr} {f : Str} {env : Env} {w : Sem Value} (h : baseOk o = true) : attributeBase o f env w = w := by
  unfold attributeBase
  split
  · cases h
  · rfl
theorem tru_ok' {e : Expr} {env : Env} (h : plainT e = true) : ∀ whole, isTrue e env whole = (do let v ← whole; standAt e.pos; holding [v] (truthy v)) := by
  intro whole
  cases e <;> first
    | rfl
    | (cases h; done)
    | (rename_i op _ _; cases op <;> first | rfl | cases h)
theorem sw_ok {e : Expr} {t : Option Expr} {l : Nat} {env : Env} (h : noComp e = true) : swapsWith e t l env = pure false := by
  cases e <;> first
    | rfl
    | cases h
theorem meth_form {o : Expr} {m : Str} {apos pos : Pos} {es : List Expr} {env : Env} (h : baseOk o = true) (hs : es.all noStar = true) (hl : (apos.endLine == pos.line) = true) (hn : es.length < 30) :
    eval (.Call (.Attribute o m apos) es [] pos) env = (do
      let ov ← eval o env
      standAt apos.atName
      let (f, first) ← holding [ov] (getMethod ov m (do return (← importBound o env).getD true))
      callWith pos f first (backTo pos (starEach es env)) (backToKw pos (keywordEach [] env))) := by
  have e1 : methodCallForm (es.length + ([] : List Keyword).length) (backTo pos (starEach es env)) (backToKw pos (keywordEach [] env)) = true := by
    unfold methodCallForm
    rw [star_all hs]
    show (true && decide (es.length + 0 + 0 < 30)) = true
    simp
    omega
  rw [eval]
  rw [ab_ok h]
  unfold methodCall calleeOf methodCallPos
  rw [e1, hl]
  rfl
theorem pix_ok {b : Expr} (h : noSlice b = true) : PlainIx b := by
  intro o i
  cases b <;> first
    | rfl
    | cases h
theorem fold_ok {e : Expr} {env : Env} (h : noSet e = true) : ∀ x, foldedSetIterable e env x = pure x := by
  intro x
  cases e <;> first
    | rfl
    | cases h
theorem marks_ok {op : CmpOp} {e : Expr} (h : noSet e = true) : behindInMarks op e = false := by
  cases e <;> first
    | rfl
    | cases h
theorem marks2_ok {o1 o2 : CmpOp} {y e : Expr} (h : noSet e = true) : lastMarks [o1, o2] [y, e] = false := by
  show behindInMarks o2 e = false
  exact marks_ok h
theorem vis_ok {sc : Scope} {x : Str} (h : visB sc x = true) : Vis sc x := by
  unfold visB at h
  unfold Vis
  split at h <;> simp_all
theorem gl_ok {X : Cx} {x : Str} (h : glB X.env.scope x = true) : Gl X x := by
  unfold glB at h
  unfold Gl Env.kindOf
  split at h
  · assumption
  · cases h
theorem loc_ok {sc : Scope} {top : Str → Bool} {x : Str} (h : locB top sc x = true) : L2.Loc sc x ∧ (top x = true ∨ sc.names.lookup x = some .local) := by
  unfold locB at h
  unfold L2.Loc
  split at h
  · rename_i e
    exact ⟨.inl e, .inr e⟩
  · rename_i e
    exact ⟨.inr e, .inl h⟩
  · cases h
theorem okN1 {x : Str} (h : okName x = true) : (x == ("__debug__" : Str)) = false := by
  unfold okName at h
  simp only [Bool.and_eq_true, Bool.not_eq_true'] at h
  exact h.1.1
theorem okN2 {x : Str} (h : okName x = true) : (x == ("__classdict__" : Str)) = false := by
  unfold okName at h
  simp only [Bool.and_eq_true, Bool.not_eq_true'] at h
  exact h.1.2
theorem okN3 {x : Str} (h : okName x = true) : x ≠ "__name__" := by
  unfold okName at h
  simp only [Bool.and_eq_true, Bool.not_eq_true'] at h
  exact beq_eq_false_iff_ne.mp h.2
section
variable {X : Cx}
theorem _root_.L2.PE.imp {e : Expr} {t t' : TE} (h : PE X e t) (i : ∀ σ H Q, t' σ H Q → t σ H Q) : PE X e t' := ⟨fun pins s σ H Q I w => h.run pins s σ H Q I (i σ H Q w)⟩
theorem _root_.L2.PT.imp {e : Expr} {t t' : TT} (h : PT X e t) (i : ∀ σ H Q, t' σ H Q → t σ H Q) : PT X e t' := ⟨fun pins s σ H Q I w => h.run pins s σ H Q I (i σ H Q w)⟩
theorem _root_.L2.PW.imp {e : Expr} {t t' : TT} (h : PW X e t) (i : ∀ σ H Q, t' σ H Q → t σ H Q) : PW X e t' := ⟨fun wh pins s σ H Q I w => h.run wh pins s σ H Q I (i σ H Q w)⟩
theorem _root_.L2.PA.imp {e : List Expr} {t t' : TA} (h : PA X e t) (i : ∀ σ H Q, t' σ H Q → t σ H Q) : PA X e t' := ⟨fun pos pins s σ H Q I w => h.run pos pins s σ H Q I (i σ H Q w)⟩
theorem _root_.L2.PS.imp {e : Stmt} {t t' : TS} (h : PS X e t) (i : ∀ D σ H, t' D σ H → t D σ H) : PS X e t' := ⟨fun pins s σ H D I w => h.run pins s σ H D I (i D σ H w)⟩
theorem _root_.L2.PSs.imp {e : List Stmt} {t t' : TS} (h : PSs X e t) (i : ∀ D σ H, t' D σ H → t D σ H) : PSs X e t' := ⟨fun pins s σ H D I w => h.run pins s σ H D I (i D σ H w)⟩
theorem _root_.L2.PI.imp {tg e : Expr} {t t' : TI} (h : PI X tg e t) (i : ∀ σ H R, t' σ H R → t σ H R) : PI X tg e t' := ⟨fun pins s σ H R I w => h.run pins s σ H R I (i σ H R w)⟩
theorem _root_.L2.PG.imp {e : Expr} {t t' : TG} (h : PG X e t) (i : ∀ v σ H Q, t' v σ H Q → t v σ H Q) : PG X e t' := by
  obtain ⟨h⟩ := h
  exact ⟨fun pins s σ H x v Q I r w => h pins s σ H x v Q I r (i _ σ H Q w)⟩
end
end TW

namespace TW
open PySem PySem.Spec PyProof.Rows L2
/-- where a def runs -/
structure Gd where
  P : Program
  w : World
  mg : Str → Option Value
  base : Heap
  G : Gr
  lv : Nat
structure GX (D : Gd) (X : Cx) : Prop where
  pr : X.prog = D.P
  wo : X.w = D.w
  k : X.K = D.G.K
  mg : X.mg = D.mg
  ba : X.base = D.base
  calm : X.calm = true
  nd : X.N.Nodup
  room : Room D.lv X.A
def liftSp (G : Gr) (sp : Spec) : Sp := fun vs H Q E => liftV G sp E vs H Q
def blts : List Str := ["len", "abs", "min", "max", "int", "str", "tuple", "list", "all", "any", "sorted", "isinstance", "range", "enumerate", "zip", "bool", "set", "repr"]
structure DOk (D : Gd) : Prop where
  g : GOk D.G
  blt : ∀ x ∈ blts, D.mg x = none
def CalW (D : Gd) (u : Value) (sp : Spec) : Prop := ∀ (X : Cx), GX D X → ∀ (Wx : WX), Takes X Wx → ∀ (pins : List (Addr × Obj)) (s : Shared) (σ : L2.St) (H : Hp) (xs : List V) (us : List Value) (Q : VK),
  Inv X pins σ H s → Vals xs us → liftV D.G sp (fun cls d H' => Wx cls d σ H') xs H Q → wpAny (model X.prog X.w) X.A (call u us) (EP X pins σ Q) X.xe s
def CalOk (D : Gd) (u : Value) (sp : Spec) : Prop := ∀ (X : Cx), GX D X → ∀ (Wx : WX), Takes X Wx → ∀ (pins : List (Addr × Obj)) (s : Shared) (σ : L2.St) (H : Hp) (xs : List V) (us : List Value) (Q : VK),
  Inv X pins σ H s → Vals xs us → liftV D.G sp (fun cls d H' => Wx cls d σ H') xs H Q →
  codeAny (model X.prog X.w) X.A (.call u ⟨us, []⟩) (fun r s' => match r with | .ok (.ret v) => EP X pins σ Q v s' | .ok _ => False | .error e => X.xe e s') s
theorem CalOk.w {D : Gd} {u : Value} {sp : Spec} (c : CalOk D u sp) : CalW D u sp := fun X g Wx tk pins s σ H xs us Q I r h => wpAny_call (c X g Wx tk pins s σ H xs us Q I r h)
def BinOk (D : Gd) (f : Value → Value → Sem Value) (sp : Spec) : Prop := ∀ (X : Cx), GX D X → ∀ (Wx : WX), Takes X Wx → ∀ (pins : List (Addr × Obj)) (s : Shared) (σ : L2.St) (H : Hp) (x y : V) (v u : Value) (Q : VK),
  Inv X pins σ H s → RelV x v → RelV y u → liftV D.G sp (fun cls d H' => Wx cls d σ H') [x, y] H Q → wpAny (model X.prog X.w) X.A (f v u) (EP X pins σ Q) X.xe s
/-- an instance of the class c is called -/
def InsCal (D : Gd) (c : Str) (sp : Spec) : Prop := ∃ g, StX.CallO D.G.K (D.G.cl c) g ∧ CalOk D (.ref g) sp
/-- what must be known of the own things of a term -/
def okA (D : Gd) : Ap → Spec → Prop
  | .fn x, sp => ∃ u, D.mg x = some u ∧ PySem.W.keepIn D.G.K u = true ∧ CalOk D u sp
  | .fb x, sp => ∃ u, D.mg x = some u ∧ PySem.W.keepIn D.G.K u = true ∧ CalOk D u sp
  | .mb c, sp => ∃ u, D.mg c = some u ∧ PySem.W.keepIn D.G.K u = true ∧ CalOk D u (apSp (.mk c) sp)
  | .mk c, sp => ∃ u, D.mg c = some u ∧ PySem.W.keepIn D.G.K u = true ∧ CalOk D u (apSp (.mk c) sp)
  | .mkm c, sp => ∃ u, D.mg c = some u ∧ PySem.W.keepIn D.G.K u = true ∧ CalOk D u (apSp (.mkm c) sp)
  | .bo op c, sp => BinOk D (binaryOp op) (apSp (.bo op c) sp)
  | .co op c, sp => BinOk D (compareOp op) (apSp (.co op c) sp)
  | .ne c, sp => BinOk D (compareOp .NotEq) (apSp (.ne c) sp)
  | .dn c, sp => BinOk D (compareOp .NotEq) (apSp (.ne c) sp)
  | .ln c, sp => CalW D (.builtin "len") (apSp (.ln c) sp)
  | .st c, sp => CalW D (.type "str") (apSp (.st c) sp)
  | .cm c m, sp => ∃ (mc : Value) (p g : Addr), (D.mg c = some (.ref (D.G.cl c)) ∧ c ∈ D.G.cs) ∧ ClX.CRead D.G.K (D.G.cl c) mc ∧ ClX.CMet D.G.K (D.G.cl c) mc m p g ∧ CalOk D (.ref g) sp
  | _, _ => False
/-- a class that a name holds -/
def okV (D : Gd) (c : Str) (sp : Spec) : Prop := ∃ u, u = Value.ref (D.G.cl c) ∧ PySem.W.keepIn D.G.K u = true ∧ CalOk D u (mkSp c sp)
def okM (D : Gd) (c m : Str) (sp : Spec) : Prop := ∃ f, Cls D.G.K (D.G.cl c) ∧ Meth D.G.K (D.G.cl c) m f ∧ CalOk D (.ref f) sp
def okG (D : Gd) (x : Str) : T → Prop
  | .ty n => True
  | .cls c => D.mg x = some (.ref (D.G.cl c)) ∧ c ∈ D.G.cs
  | .str z => ∃ t, D.mg x = some (.str z t)
  | .int z => ∃ t, D.mg x = some (.int z t)
  | _ => False
mutual
def okE (D : Gd) : E → Prop
  | .var _ => True
  | .con _ => True
  | .glo x t => okG D x t
  | .pr _ as => okEs D as
  | .ap k sp as => okA D k sp ∧ okEs D as
  | .sl2 a l h => okE D a ∧ okE D l ∧ okE D h
  | .bm _ o as => okE D o ∧ okEs D as
  | .me c m sp o as => okM D c m sp ∧ okE D o ∧ okEs D as
  | .ic c sp o as => InsCal D c sp ∧ okE D o ∧ okEs D as
  | .vc c sp o as => okV D c sp ∧ okE D o ∧ okEs D as
  | .and a b => okE D a ∧ okE D b
  | .or a b => okE D a ∧ okE D b
  | .not a => okE D a
  | .ife c a b => okE D c ∧ okE D a ∧ okE D b
  | .chain _ _ a b c => okE D a ∧ okE D b ∧ okE D c
  | .cho k o1 o2 s1 s2 a b c => (okA D (.co o1 k) s1 ∧ okA D (.co o2 k) s2) ∧ okE D a ∧ okE D b ∧ okE D c
  | .lc elt _ it cond _ => okE D elt ∧ okI D it ∧ okEs D cond
def okEs (D : Gd) : Es → Prop
  | .nil => True
  | .cons e r => okE D e ∧ okEs D r
  | .star e r => okE D e ∧ okEs D r
def okI (D : Gd) : It → Prop
  | .seq e => okE D e
  | .rng e => okE D e
  | .rng2 a b => okE D a ∧ okE D b
  | .enm e => okE D e
  | .zip a b => okE D a ∧ okE D b
  | .chars e => okE D e
end
section
variable {D : Gd} {X : Cx} {Wx : WX}
theorem GX.blk (g : GX D X) {s : Shared} {H : Hp} {scope : Scope} {cenv : Env} {fp : List Addr} : GX D (X.blk s H scope cenv fp) := ⟨g.pr, g.wo, g.k, g.mg, g.ba, g.calm, g.nd, g.room⟩
theorem GX.hu (g : GX D X) : X.A.units + 64 < cLine := by
  have := g.room.un
  omega
/-- a name that holds what is called -/
theorem pe_name {x : Str} {u : Value} {sp : Spec} {p pos : Pos} {e : Expr} {es : List Expr} {as : Es} (g : GX D X) (tk : Takes X Wx) (hg : Gl X x) (hm : D.mg x = some u) (hk : PySem.W.keepIn D.G.K u = true) (c : CalOk D u sp)
    (ha : PA X (e :: es) (tEs D.G Wx as)) (hx : okName x = true) (hs : (e :: es).all noStar = true) :
    PE X (.Call (.Name x p) (e :: es) [] pos) (fun σ H Q => tEs D.G Wx as σ H fun vs H1 => liftV D.G sp (fun cls d H' => Wx cls d σ H') vs H1 Q) := by
  rw [List.all_cons, Bool.and_eq_true] at hs
  refine ⟨fun pins s σ H Q I h => ?_⟩
  refine wpAny_Call_Name_kw (ld_glob I hg (by rw [g.mg]; exact hm) ?_ (okN1 hx))
  refine PySem.W.callWith_K (h₀ := X.base) I.ok.mod.kin (by rw [g.k]; exact hk) (thn (ha.run pos pins s σ H _ I h) fun us s1 ⟨vs, H1, I1, r, q⟩ => ⟨I1.kIn, ?_⟩) (star_cons hs.1) (star_any hs.2)
  exact c.w X g Wx tk pins s1 σ H1 vs us Q I1 r q
/-- a method -/
theorem pe_method {m c : Str} {sp : Spec} {o : E} {x : Expr} {apos pos : Pos} {es : List Expr} {as : Es} (g : GX D X) (tk : Takes X Wx) (hm : okM D c m sp) (he : PE X x (tE D.G Wx o)) (ha : PA X es (tEs D.G Wx as))
    (hb : baseOk x = true) (hs : es.all noStar = true) (hl : (apos.endLine == pos.line) = true) (hn : es.length < 30) (h0 : es = [] → as = .nil) :
    PE X (.Call (.Attribute x m apos) es [] pos) (tE D.G Wx (.me c m sp o as)) := by
  obtain ⟨f, cls, me, cal⟩ := hm
  refine ⟨fun pins s σ H Q I h => ?_⟩
  obtain ⟨c0, ρ, S, P, XP, r, sl, w, k, kx⟩ := h
  simp only [wpE] at w
  have h1 : tE D.G Wx o σ H fun v H1 => ∃ c1 S1 w1, v = v ∧ Grow c0 H c1 H1 ∧ RelS D.G c1 H1 S1 ∧ RepW D.G c1 H1 w1 v ∧ (∃ ns, nsW S1 w1 = some (c, ns) ∧ noF m ns = true) ∧ wpEs as ρ S1 (fun ws S2 => sp (w1 :: ws) S2 P XP) XP :=
    ⟨c0, ρ, S, _, XP, r, sl, w, fun v H1 c1 S1 w1 g1 r1 rp q => ⟨c1, S1, w1, rfl, g1, r1, rp, q.1, q.2⟩, kx⟩
  refine PySem.W.methodCall_KW (thn (he.run pins s σ H _ I h1) fun u s1 ⟨v, H1, I1, rx, c1, S1, w1, _, g1, r1, rp, ⟨ns, e1, e2⟩, q⟩ => ?_) (meth_form hb hs hl hn)
  -- the receiver
  have ins : ∃ a dx fs, v = .ref a ∧ H1 a = some (.ins (D.G.cl c) dx fs) ∧ fs.lookup m = none := by
    have key : ∀ (vs : List V), ns.length = vs.length → (ns.zip vs).lookup m = none := fun vs _ => by
      rw [List.lookup_eq_none_iff]
      intro p hp
      have hn : p.1 ∈ ns := (List.of_mem_zip hp).1
      unfold noF at e2
      rw [List.all_eq_true] at e2
      have := e2 p.1 hn
      simp only [Bool.not_eq_true', decide_eq_false_iff_not] at this
      simpa [beq_eq_false_iff_ne] using fun z => this z.symm
    cases w1 with
    | im t =>
      cases t with
      | ins y ns' ts =>
        cases (Option.some.inj e1)
        have rp : Rep D.G c1 H1 (.ins c ns ts) v := rp
        rw [Rep] at rp
        obtain ⟨a, dx, vs, rfl, _, h1, h2, io, h3⟩ := rp
        exact ⟨a, dx, _, rfl, h1, key vs h2⟩
      | _ => cases e1
    | mr j =>
      obtain ⟨a, hk, rfl⟩ := rp
      have e1 : (match S1[j]? with | some (.ins c ns _) => some (c, ns) | _ => none) = some (c, ns) := e1
      split at e1
      · rename_i hs
        cases e1
        obtain ⟨dx, vs, h1, h2, io, h3⟩ := r1.obj j _ a hs hk
        exact ⟨a, dx, _, rfl, h1, key vs h2⟩
      · cases e1
    | src j => cases e1
  obtain ⟨a, dx, fs, rfl, ea, l⟩ := ins
  obtain rfl : u = Value.ref a := rx
  refine getmeth_ok I1 ea (by rw [g.k]; exact cls) (by rw [g.k]; exact me) l ?_
  have h2 : tEs D.G Wx as σ H1 fun vs H2 => liftV D.G sp (fun cls d H' => Wx cls d σ H') (.ref a :: vs) H2 Q :=
    ⟨c1, ρ, S1, _, XP, r1, sl.mono g1, q, fun vs H2 c2 S2 ws g2 r2 rp2 w2 => ⟨c2, w1 :: ws, S2, P, XP, r2, ⟨_, vs, rfl, RepW.mono g2 _ _ rp, rp2⟩, w2, fun v H' c' S' u gg => k v H' c' S' u ((g1.trans g2).trans gg), fun cls d H' c' S' x gg => kx cls d H' c' S' x ((g1.trans g2).trans gg)⟩,
      fun cls d H' c' S' x gg => kx cls d H' c' S' x (g1.trans gg)⟩
  cases es with
  | nil =>
    obtain rfl := h0 rfl
    have h3 := tEs_nil h2
    exact PySem.W.callWith_K0 (first := [.ref a]) I1.kIn (by rw [g.k]; exact me.kp) (cal.w X g Wx tk pins s1 σ H1 [.ref a] [.ref a] Q I1 (.cons rfl .nil) h3)
  | cons e es =>
    rw [List.all_cons, Bool.and_eq_true] at hs
    refine PySem.W.callWith_K (first := [.ref a]) (h₀ := X.base) I.ok.mod.kin (by rw [g.k]; exact me.kp) (thn (ha.run pos pins s1 σ H1 _ I1 h2) fun us s2 ⟨vs, H2, I2, r, q2⟩ => ⟨I2.kIn, ?_⟩) (star_cons hs.1) (star_any hs.2)
    exact cal.w X g Wx tk pins s2 σ H2 (.ref a :: vs) (.ref a :: us) Q I2 (.cons rfl r) q2
theorem ins_of {c : Str} {c1 : RC} {H1 : Hp} {S1 : Sto} {w1 : W} {v : V} {ns : List Str} (r1 : RelS D.G c1 H1 S1) (rp : RepW D.G c1 H1 w1 v) (e1 : nsW S1 w1 = some (c, ns)) : ∃ a dx fs, v = .ref a ∧ H1 a = some (.ins (D.G.cl c) dx fs) := by
  cases w1 with
  | im t =>
    cases t with
    | ins y ns' ts =>
      cases (Option.some.inj e1)
      have rp : Rep D.G c1 H1 (.ins c ns ts) v := rp
      rw [Rep] at rp
      obtain ⟨a, dx, vs, rfl, _, h1, h2, io, h3⟩ := rp
      exact ⟨a, dx, _, rfl, h1⟩
    | _ => cases e1
  | mr j =>
    obtain ⟨a, hk, rfl⟩ := rp
    have e1 : (match S1[j]? with | some (.ins c ns _) => some (c, ns) | _ => none) = some (c, ns) := e1
    split at e1
    · rename_i hs
      cases e1
      obtain ⟨dx, vs, h1, h2, io, h3⟩ := r1.obj j _ a hs hk
      exact ⟨a, dx, _, rfl, h1⟩
    · cases e1
  | src j => cases e1
/-- an instance that a name holds is called -/
theorem pe_inst {c : Str} {sp : Spec} {o : E} {fe : Expr} {pos : Pos} {e : Expr} {es : List Expr} {as : Es} (g : GX D X) (tk : Takes X Wx) (hc : InsCal D c sp) (he : PE X fe (tE D.G Wx o)) (ha : PA X (e :: es) (tEs D.G Wx as))
    (hs : (e :: es).all noStar = true) (ht : eval (.Call fe (e :: es) [] pos) X.env = (do callWith pos (← eval fe X.env) [] (backTo pos (starEach (e :: es) X.env)) (backToKw pos (keywordEach [] X.env)))) :
    PE X (.Call fe (e :: es) [] pos) (tE D.G Wx (.ic c sp o as)) := by
  obtain ⟨f, co, cal⟩ := hc
  rw [List.all_cons, Bool.and_eq_true] at hs
  refine ⟨fun pins s σ H Q I h => ?_⟩
  obtain ⟨c0, ρ, S, P, XP, r, sl, w, k, kx⟩ := h
  simp only [wpE] at w
  have h1 : tE D.G Wx o σ H fun v H1 => ∃ c1 S1 w1, v = v ∧ Grow c0 H c1 H1 ∧ RelS D.G c1 H1 S1 ∧ RepW D.G c1 H1 w1 v ∧ (∃ ns ts, w1 = .im (.ins c ns ts)) ∧ wpEs as ρ S1 (fun ws S2 => sp (w1 :: ws) S2 P XP) XP :=
    ⟨c0, ρ, S, _, XP, r, sl, w, fun v H1 c1 S1 w1 g1 r1 rp q => ⟨c1, S1, w1, rfl, g1, r1, rp, q.1, q.2⟩, kx⟩
  refine Call_ (thn (he.run pins s σ H _ I h1) fun u s1 ⟨v, H1, I1, rx, c1, S1, w1, _, g1, r1, rp, ⟨ns, ts, e1⟩, q⟩ => ?_) ht
  subst e1
  obtain ⟨a, dx, fs, rfl, ea⟩ := ins_of (c := c) (ns := ns) r1 rp rfl
  obtain rfl : u = Value.ref a := rx
  have h2 : tEs D.G Wx as σ H1 fun vs H2 => (∃ dx fs, H2 a = some (.ins (D.G.cl c) dx fs)) ∧ liftV D.G sp (fun cls d H' => Wx cls d σ H') (.ref a :: vs) H2 Q :=
    ⟨c1, ρ, S1, _, XP, r1, sl.mono g1, q, fun vs H2 c2 S2 ws g2 r2 rp2 w2 => by
      have rq := RepW.mono g2 _ _ rp
      obtain ⟨a', dx, fs, e', ea'⟩ := ins_of (c := c) (ns := ns) r2 rq rfl
      cases e'
      exact ⟨⟨dx, fs, ea'⟩, c2, _ :: ws, S2, P, XP, r2, ⟨_, vs, rfl, rq, rp2⟩, w2, fun v H' c' S' u gg => k v H' c' S' u ((g1.trans g2).trans gg), fun cls d H' c' S' x gg => kx cls d H' c' S' x ((g1.trans g2).trans gg)⟩,
      fun cls d H' c' S' x gg => kx cls d H' c' S' x (g1.trans gg)⟩
  refine StX.callO_with (thn (ha.run pos pins s1 σ H1 _ I1 h2) fun us s2 ⟨vs, H2, I2, r, ⟨dx, fs, ea2⟩, q2⟩ => ?_) (star_cons hs.1) (star_any hs.2)
  obtain ⟨ox, od, J, hd⟩ := StX.insC_at I2 (C := D.G.cl c) (.inr ⟨dx, fs, ea2⟩)
  refine ⟨⟨_, ox, od, J, hd⟩, ?_⟩
  have kin : D.G.K.In s2.heap := by rw [← g.k]; exact I2.kIn
  have run := cal X g Wx tk pins s2 σ H2 (.ref a :: vs) (.ref a :: us) Q I2 (.cons rfl r) q2
  exact wpAny_call (PySem.W.kco_code kin J hd co.at_ co.fn co.fi run)
/-- a class that a name holds is called -/
theorem pe_cls {c : Str} {sp : Spec} {o : E} {fe : Expr} {pos : Pos} {e : Expr} {es : List Expr} {as : Es} (g : GX D X) (tk : Takes X Wx) (hc : ∃ u, u = Value.ref (D.G.cl c) ∧ PySem.W.keepIn D.G.K u = true ∧ CalOk D u (mkSp c sp)) (he : PE X fe (tE D.G Wx o)) (ha : PA X (e :: es) (tEs D.G Wx as))
    (hs : (e :: es).all noStar = true) (ht : eval (.Call fe (e :: es) [] pos) X.env = (do callWith pos (← eval fe X.env) [] (backTo pos (starEach (e :: es) X.env)) (backToKw pos (keywordEach [] X.env)))) :
    PE X (.Call fe (e :: es) [] pos) (tE D.G Wx (.vc c sp o as)) := by
  obtain ⟨_, rfl, hk, cal⟩ := hc
  rw [List.all_cons, Bool.and_eq_true] at hs
  refine ⟨fun pins s σ H Q I h => ?_⟩
  obtain ⟨c0, ρ, S, P, XP, r, sl, w, k, kx⟩ := h
  simp only [wpE] at w
  have h1 : tE D.G Wx o σ H fun v H1 => ∃ c1 S1, v = .ref (D.G.cl c) ∧ Grow c0 H c1 H1 ∧ RelS D.G c1 H1 S1 ∧ wpEs as ρ S1 (fun ws S2 => mkSp c sp ws S2 P XP) XP :=
    ⟨c0, ρ, S, _, XP, r, sl, w, fun v H1 c1 S1 w1 g1 r1 rp q => ⟨c1, S1, by
      obtain ⟨rfl, _⟩ := q
      have rp : Rep D.G c1 H1 (.cls c) v := rp
      rw [Rep] at rp
      exact rp.1, g1, r1, q.2⟩, kx⟩
  refine Call_ (thn (he.run pins s σ H _ I h1) fun u s1 ⟨v, H1, I1, rx, c1, S1, ev, g1, r1, q⟩ => ?_) ht
  subst ev
  obtain rfl : u = Value.ref (D.G.cl c) := rx
  have h2 : tEs D.G Wx as σ H1 fun vs H2 => liftV D.G (mkSp c sp) (fun cls d H' => Wx cls d σ H') vs H2 Q :=
    ⟨c1, ρ, S1, _, XP, r1, sl.mono g1, q, fun vs H2 c2 S2 ws g2 r2 rp2 w2 => ⟨c2, ws, S2, P, XP, r2, rp2, w2, fun v H' c' S' u gg => k v H' c' S' u ((g1.trans g2).trans gg), fun cls d H' c' S' x gg => kx cls d H' c' S' x ((g1.trans g2).trans gg)⟩,
      fun cls d H' c' S' x gg => kx cls d H' c' S' x (g1.trans gg)⟩
  refine PySem.W.callWith_K (h₀ := X.base) I.ok.mod.kin (by rw [g.k]; exact hk) (thn (ha.run pos pins s1 σ H1 _ I1 h2) fun us s2 ⟨vs, H2, I2, r, q⟩ => ⟨I2.kIn, ?_⟩) (star_cons hs.1) (star_any hs.2)
  exact cal.w X g Wx tk pins s2 σ H2 vs us Q I2 r q
/-- a class method, by the class's name -/
theorem pe_clsm {c m : Str} {sp : Spec} {p apos pos : Pos} {e : Expr} {es : List Expr} {as : Es} (g : GX D X) (tk : Takes X Wx) (hg : Gl X c) (hx : okName c = true) (ok : okA D (.cm c m) sp) (ha : PA X (e :: es) (tEs D.G Wx as))
    (hs : (e :: es).all noStar = true) (hl : (apos.endLine == pos.line) = true) (hn : (e :: es).length < 30) :
    PE X (.Call (.Attribute (.Name c p) m apos) (e :: es) [] pos) (fun σ H Q => tEs D.G Wx as σ H fun vs H1 => liftV D.G sp (fun cls d H' => Wx cls d σ H') (.ref (D.G.cl c) :: vs) H1 Q) := by
  obtain ⟨mc, q, f, ⟨hm, hc⟩, rd, cme, cal⟩ := ok
  rw [← g.k] at rd cme
  refine ⟨fun pins s σ H Q I h => ?_⟩
  have hs' := hs
  rw [List.all_cons, Bool.and_eq_true] at hs'
  refine PySem.W.methodCall_KW (thn ((pe_glob (X := X) (v := .ref (D.G.cl c)) hg (by rw [g.mg]; exact hm) rfl (okN1 hx)).run pins s σ H (fun v H1 => v = .ref (D.G.cl c) ∧ H1 = H) I ⟨rfl, rfl⟩) fun u s1 ⟨v, H1, I1, rx, ev, eh⟩ => ?_) (meth_form rfl hs hl hn)
  subst ev eh
  obtain rfl : u = Value.ref (D.G.cl c) := rx
  refine ClX.getmethcm_ok I1 rd cme fun s2 I2 => ?_
  refine ClX.callwith_cm I2 (ClX.base_none I1 (Nat.le_refl _)) cme.fi (thn (ha.run pos _ s2 σ H1 _ I2 h) fun us s3 ⟨vs, H2, I3, rv, q2⟩ => ⟨⟨ClX.pin_at I3, I3.kIn⟩, ?_⟩) (star_cons hs'.1) (star_any hs'.2)
  have z := wpAny_call (PySem.W.method_call (ClX.pin_at I3) (cal X g Wx tk _ s3 σ H2 (.ref (D.G.cl c) :: vs) (.ref (D.G.cl c) :: us) Q I3 (.cons rfl rv) q2))
  exact thn z fun _ _ y => ClX.unpinE y
def Ops (G : Gr) (X : Cx) (Wx : WX) : Es → List Expr → Prop
  | .nil, [] => True
  | .cons a r, x :: xs => PE X x (tE G Wx a) ∧ noStar x = true ∧ Ops G X Wx r xs
  | _, _ => False
end
end TW

namespace TW
open PySem PySem.Spec PyProof.Rows L2
section
variable {D : Gd} {X : Cx} {Wx : WX} {G : Gr} {σ : L2.St} {H : Hp}
theorem ops0 {as : Es} (h : Ops G X Wx as []) : as = .nil := by
  cases as with
  | nil => rfl
  | cons a r => exact h.elim
  | star a r => exact h.elim
theorem ops1 {as : Es} {x : Expr} {xs : List Expr} (h : Ops G X Wx as (x :: xs)) : ∃ a r, as = .cons a r ∧ PE X x (tE G Wx a) ∧ noStar x = true ∧ Ops G X Wx r xs := by
  cases as with
  | nil => exact h.elim
  | cons a r => exact ⟨a, r, rfl, h.1, h.2.1, h.2.2⟩
  | star a r => exact h.elim
theorem ops_all : ∀ {as : Es} {xs : List Expr}, Ops G X Wx as xs → xs.all noStar = true
  | as, [], h => rfl
  | as, x :: xs, h => by
    obtain ⟨a, r, rfl, _, h1, h2⟩ := ops1 h
    rw [List.all_cons, h1, ops_all h2]
    rfl
theorem tone {a : E} {F : List V → Hp → Prop} (h : tEs G Wx (.cons a .nil) σ H F) : tE G Wx a σ H fun x H1 => F [x] H1 := (tEs_cons h).imp fun _ _ h1 => tEs_nil h1
theorem ttwo {a b : E} {F : List V → Hp → Prop} (h : tEs G Wx (.cons a (.cons b .nil)) σ H F) : tE G Wx a σ H fun x H1 => tE G Wx b σ H1 fun y H2 => F [x, y] H2 := (tEs_cons h).imp fun _ _ h1 => tone h1
theorem tthree {a b c : E} {F : List V → Hp → Prop} (h : tEs G Wx (.cons a (.cons b (.cons c .nil))) σ H F) : tE G Wx a σ H fun x H1 => tE G Wx b σ H1 fun y H2 => tE G Wx c σ H2 fun z H3 => F [x, y, z] H3 := (tEs_cons h).imp fun _ _ h1 => ttwo h1
theorem boot_bi : ∀ b : Bi, bootBuiltins b.nm = some b.val := by
  intro b
  cases b <;> decide +kernel
theorem nm_mem : ∀ b : Bi, b.nm ∈ blts := by
  intro b
  cases b <;> decide +kernel
theorem bi_ne : ∀ b : Bi, okName b.nm = true := by
  intro b
  cases b <;> decide +kernel
theorem pr_slice {a : E} {x : V} {l h : Bool} {vs : List V} {Q : VK} {XK : XK} (w : liftV G (prSp (.sl l h)) XK (x :: vs) H Q) :
    (l = false → h = false → rSl G x none none H Q) ∧ (∀ i, l = true → h = false → vs = [i] → ∃ n, i = .int n ∧ rSl G x (some n) none H Q) ∧
    (∀ i, l = false → h = true → vs = [i] → ∃ n, i = .int n ∧ rSl G x none (some n) H Q) ∧ (∀ i j, l = true → h = true → vs = [i, j] → ∃ n m, i = .int n ∧ j = .int m ∧ rSl G x (some n) (some m) H Q) := by
  obtain ⟨c, ws, S, P, XP, r, rp, w, k, kx⟩ := w
  obtain ⟨w0, ws, rfl, ra, rp⟩ := reps1 rp
  obtain ⟨lo, r1, e1, hi, r2, e2, w⟩ := w
  have int1 : ∀ {u : W} {v : V} {n : Int} {us : List W} {rest : List W}, RepW G c H u v → partW true (u :: us) = some (some n, rest) → v = .int n ∧ rest = us := fun {u v n us rest} ru e => by
    cases u with
    | im t =>
      cases t with
      | int z =>
        have e := Option.some.inj e
        cases e
        exact ⟨rep_int ru, rfl⟩
      | _ => cases e
    | mr j => cases e
    | src j => cases e
  have some1 : ∀ {u : W} {us : List W} {o : Option Int} {rest : List W}, partW true (u :: us) = some (o, rest) → ∃ n, o = some n := fun {u us o rest} e => by
    cases u with
    | im t =>
      cases t with
      | int z =>
        have e := Option.some.inj e
        cases e
        exact ⟨z, rfl⟩
      | _ => cases e
    | mr j => cases e
    | src j => cases e
  refine ⟨?_, ?_, ?_, ?_⟩
  · rintro rfl rfl
    cases e1
    cases e2
    exact slP_of r ra w k
  · rintro i rfl rfl rfl
    obtain ⟨u, us, rfl, ru, rp⟩ := reps1 rp
    obtain ⟨n, rfl⟩ := some1 e1
    obtain ⟨rfl, rfl⟩ := int1 ru e1
    cases e2
    exact ⟨n, rfl, slP_of r ra w k⟩
  · rintro i rfl rfl rfl
    obtain ⟨u, us, rfl, ru, rp⟩ := reps1 rp
    cases e1
    obtain ⟨n, rfl⟩ := some1 e2
    obtain ⟨rfl, rfl⟩ := int1 ru e2
    exact ⟨n, rfl, slP_of r ra w k⟩
  · rintro i j rfl rfl rfl
    obtain ⟨u, us, rfl, ru, rp⟩ := reps1 rp
    obtain ⟨u', us', rfl, ru', rp⟩ := reps1 rp
    obtain ⟨n, rfl⟩ := some1 e1
    obtain ⟨rfl, rfl⟩ := int1 ru e1
    obtain ⟨m, rfl⟩ := some1 e2
    obtain ⟨rfl, rfl⟩ := int1 ru' e2
    exact ⟨n, m, rfl, rfl, slP_of r ra w k⟩
theorem pr_un {op : UnaryOp} {x : V} {Q : VK} {XK : XK} (h : liftV G (prSp (.un op)) XK [x] H Q) : op = .USub ∧ rU (fun i => .int (-i)) x H Q := by
  obtain ⟨c, ws, S, P, XP, r, rp, w, k, kx⟩ := h
  obtain ⟨w0, rfl, ra⟩ := reps11 rp
  change unP S op w0 P at w
  unfold unP at w
  split at w
  · cases rep_int ra
    exact ⟨rfl, _, rfl, k _ H c S _ .refl r int_rep w⟩
  · exact w.elim
theorem pe_un1 {op : UnaryOp} {a : Expr} {a' : E} {pos : Pos} (pa : PE X a (tE D.G Wx a')) : PE X (.UnaryOp op a pos) (tE D.G Wx (.pr (.un op) (.cons a' .nil))) := by
  by_cases hu : op = .USub
  · subst hu
    exact (pe_un un_neg pa).imp fun σ H Q h => (tone (tEs_pr h)).imp fun x H1 h1 => (pr_un h1).2
  · have unf : UnR X (unaryOp op) (fun _ _ _ => False) := by
      intro _ _ _ _ _ _ _ _ _ h
      exact h.elim
    exact (pe_un unf pa).imp fun σ H Q h => (tone (tEs_pr h)).imp fun x H1 h1 => hu (pr_un h1).1
theorem pe_bi (d : DOk D) (g : GX D X) {b : Bi} {as : Es} {es : List Expr} {p0 pos : Pos} (hg : glB X.env.scope b.nm = true) (ha : PA X es (tEs D.G Wx as)) (ho : Ops D.G X Wx as es) : PE X (.Call (.Name b.nm p0) es [] pos) (tE D.G Wx (.pr (.blt b) as)) := by
  have hall := ops_all ho
  have hm : X.mg b.nm = none := by rw [g.mg]; exact d.blt _ (nm_mem b)
  cases as with
  | nil =>
    refine ⟨fun pins s σ H Q I h => ?_⟩
    have h := tEs_nil (tEs_pr h)
    obtain ⟨c, ws, S, P, XP, r, rp, w, k, kx⟩ := h
    obtain rfl := reps0 rp
    exfalso
    cases b <;> exact w
  | star a r => exact ho.elim
  | cons a r =>
    cases es with
    | nil => exact ho.elim
    | cons e0 es0 =>
      rw [List.all_cons, Bool.and_eq_true] at hall
      have key : ∀ σ H Q, tE D.G Wx (.pr (.blt b) (.cons a r)) σ H Q → tCB (rBi D.G b) (tEs D.G Wx (.cons a r)) σ H Q := fun σ H Q h => (tEs_pr h).imp fun vs H1 h1 => pr_bi d.g h1
      have hb := boot_bi b
      have hc := call_bi g.k g.calm b
      cases hv : b.val with
      | builtin id =>
        rw [hv] at hb hc
        exact (pe_callB hc (gl_ok hg) hm hb ha (okN3 (bi_ne b)) (okN1 (bi_ne b)) (star_cons hall.1) (star_any hall.2)).imp key
      | type id =>
        rw [hv] at hb hc
        exact (pe_callTy hc (gl_ok hg) hm hb ha (okN3 (bi_ne b)) (okN1 (bi_ne b)) (star_cons hall.1) (star_any hall.2)).imp key
      | _ => cases b <;> cases hv
theorem pr_snd (d : DOk D) (g : GX D X) {p : Pr} {as : Es} {e : Expr} {es : List Expr} (hs : subP X.env.scope p e = some es) (ha : PA X es (tEs D.G Wx as)) (ho : starOk p = false → Ops D.G X Wx as es) : PE X e (tE D.G Wx (.pr p as)) := by
  have hK := g.k
  unfold subP at hs
  split at hs
  · -- bin
    split at hs
    · rename_i hop
      subst hop
      cases hs
      obtain ⟨a', r, rfl, pa, _, o⟩ := ops1 (ho rfl)
      obtain ⟨b', r, rfl, pb, _, o⟩ := ops1 o
      obtain rfl := ops0 o
      exact (pe_op (op_bin hK _) pa pb).imp fun σ H Q h => (ttwo (tEs_pr h)).imp fun x H1 h1 => h1.imp fun y H2 h2 => pr_bin h2
    · cases hs
  · -- cmp
    split at hs
    · rename_i hop
      rw [Bool.and_eq_true, decide_eq_true_eq] at hop
      obtain ⟨rfl, hn⟩ := hop
      cases hs
      obtain ⟨a', r, rfl, pa, _, o⟩ := ops1 (ho rfl)
      obtain ⟨b', r, rfl, pb, _, o⟩ := ops1 o
      obtain rfl := ops0 o
      exact (pe_cmpR (op_cmp hK g.hu _) pa pb (marks_ok hn)).imp fun σ H Q h => (ttwo (tEs_pr h)).imp fun x H1 h1 => h1.imp fun y H2 h2 => pr_cmp h2
    · cases hs
  · -- un
    split at hs
    · rename_i hop
      subst hop
      cases hs
      obtain ⟨a', r, rfl, pa, _, o⟩ := ops1 (ho rfl)
      obtain rfl := ops0 o
      exact pe_un1 pa
    · cases hs
  · -- blt
    split at hs
    · rename_i hop
      rw [Bool.and_eq_true, decide_eq_true_eq] at hop
      obtain ⟨rfl, hg⟩ := hop
      cases hs
      exact pe_bi d g hg ha (ho rfl)
    · cases hs
  · -- attr
    split at hs
    · rename_i hop
      rw [Bool.and_eq_true, decide_eq_true_eq] at hop
      obtain ⟨rfl, hb⟩ := hop
      cases hs
      obtain ⟨a', r, rfl, pa, _, o⟩ := ops1 (ho rfl)
      obtain rfl := ops0 o
      refine (pe_fld pa (ab_ok hb)).imp fun σ H Q h => ?_
      rw [hK]
      exact (tone (tEs_pr h)).imp fun x H1 h1 => pr_attr h1
    · cases hs
  · -- ix
    split at hs
    · rename_i hn
      cases hs
      obtain ⟨a', r, rfl, pa, _, o⟩ := ops1 (ho rfl)
      obtain ⟨b', r, rfl, pb, _, o⟩ := ops1 o
      obtain rfl := ops0 o
      refine (pe_ix ix_seq pa pb (pix_ok hn)).imp fun σ H Q h => ?_
      rw [hK]
      exact (ttwo (tEs_pr h)).imp fun x H1 h1 => h1.imp fun y H2 h2 => pr_ix h2
    · cases hs
  · -- sl
    cases hs
    obtain ⟨a', r, rfl, pa, _, o⟩ := ops1 (ho rfl)
    obtain rfl := ops0 o
    exact (pe_slice (sl_any hK) pa po_none po_none).imp fun σ H Q h => (tone (tEs_pr h)).imp fun x H1 h1 => (pr_slice (a := a') h1).1 rfl rfl
  · cases hs
    obtain ⟨a', r, rfl, pa, _, o⟩ := ops1 (ho rfl)
    obtain ⟨b', r, rfl, pb, _, o⟩ := ops1 o
    obtain rfl := ops0 o
    exact (pe_slice (sl_any hK) pa (po_some pb) po_none).imp fun σ H Q h => (ttwo (tEs_pr h)).imp fun x H1 h1 => h1.imp fun y H2 h2 => (pr_slice (a := a') h2).2.1 _ rfl rfl rfl
  · cases hs
    obtain ⟨a', r, rfl, pa, _, o⟩ := ops1 (ho rfl)
    obtain ⟨b', r, rfl, pb, _, o⟩ := ops1 o
    obtain rfl := ops0 o
    exact (pe_slice (sl_any hK) pa po_none (po_some pb)).imp fun σ H Q h => (ttwo (tEs_pr h)).imp fun x H1 h1 => h1.imp fun y H2 h2 => (pr_slice (a := a') h2).2.2.1 _ rfl rfl rfl
  · -- rev
    cases hs
    obtain ⟨a', r, rfl, pa, _, o⟩ := ops1 (ho rfl)
    obtain rfl := ops0 o
    refine (pe_revL pa).imp fun σ H Q h => ?_
    rw [hK]
    exact (tone (tEs_pr h)).imp fun x H1 h1 => pr_rev h1
  · cases hs
    exact (pe_tup ha).imp fun σ H Q h => (tEs_pr h).imp fun vs H1 h1 => pr_tup h1
  · cases hs
    exact (pe_lst ha).imp fun σ H Q h => (tEs_pr h).imp fun vs H1 h1 => pr_lst h1
  · cases hs
    exact (pe_lst ha).imp fun σ H Q h => (tEs_pr h).imp fun vs H1 h1 => pr_nlst h1
  · cases hs
end
end TW

namespace TW
open PySem PySem.Spec PyProof.Rows L2
theorem meets_enumerate_newT (l : Addr) (items : Array Value) (n : Nat) (dct : Option Addr) (sl : Array (Option Value)) :
    Meets (Builtin.«enumerate.__new__» ⟨[.type "enumerate", .ref l], []⟩) (fun _ R s => s.heap.get? l = some { cls := .type "tuple", dict := dct, data := .seq items n, slots := sl } ∧
      R (.ok (.ret (.ref (s.heap.push { cls := .type "tuple_iterator", data := .fields #[.ref l, .int 0 0] }).objs.size)))
        { s with heap := (s.heap.push { cls := .type "tuple_iterator", data := .fields #[.ref l, .int 0 0] }).push { cls := .type "enumerate", data := .fields #[.none, .bool false, .ref s.heap.objs.size, rawInt 0, .none, .none] } }) :=
  .of_wp fun prog w A R s h => by
    obtain ⟨hp, g, d, tk, os⟩ := s; obtain ⟨hl, h⟩ := h
    have hsub := sub_enumerate
    have hL : Heap.IsTuple (Shared.heap ⟨hp, g, d, tk, os⟩) l items := ⟨_, hl, rfl, n, rfl⟩
    wp_walk using AutoSeq1.wpAny_loadPart' hl
    refine wpAny_stack_any fun st => wpAny_pure ?_
    split
    · rename_i c _ _ _ _ _
      cases (c == Value.type "enumerate")
      · wp_walk using AutoSeq1.wpAny_loadPart' hl, wpAny_pyIter_tuple hL
        exact ⟨_, rfl, h⟩
      · wp_walk using AutoSeq1.wpAny_loadPart' hl, wpAny_pyIter_tuple hL
        exact ⟨_, rfl, h⟩
    · wp_walk using AutoSeq1.wpAny_loadPart' hl, wpAny_pyIter_tuple hL
      exact ⟨_, rfl, h⟩
theorem call_enumerate_tuple {prog : Program} {w : World} {A : Around} {E : Value → Shared → Prop} {s : Shared} {l : Addr} {items : Array Value} {Q : Value → Shared → Prop} (hL : s.heap.IsTuple l items)
    (h : ∀ h', IsEnum h' (s.heap.objs.size + 1) s.heap.objs.size 0 .none → h'.IsTupleIter s.heap.objs.size l 0 → h'.objs.size = s.heap.objs.size + 2 →
      (∀ b o, s.heap.get? b = some o → h'.get? b = some o) → Q (.ref (s.heap.objs.size + 1)) { s with heap := h' }) :
    wpAny (model prog w) A (call (.type "enumerate") [.ref l]) Q E s := by
  obtain ⟨⟨c, dct, dt, sl⟩, hl, hc, n, hd⟩ := hL
  replace hc : c = .type "tuple" := hc
  replace hd : dt = .seq items n := hd
  subst hc hd
  refine callType_new F.called_enumerate (by decide) (F.typeCall_enumerate_1 _) (F.newCall_enumerate_1 _) (fun obj => F.args_object_init_2 obj _) F.entry_enumerate_new
    (meets_enumerate_newT l items n dct sl) ⟨hl, ?_⟩
  have hz : (s.heap.push { cls := .type "tuple_iterator", data := .fields #[.ref l, .int 0 0] }).objs.size = s.heap.objs.size + 1 := Heap.size_push ..
  show _ ∧ _
  rw [hz]
  have he : IsEnum ((s.heap.push { cls := .type "tuple_iterator", data := .fields #[.ref l, .int 0 0] }).push
      { cls := .type "enumerate", data := .fields #[.none, .bool false, .ref s.heap.objs.size, rawInt 0, .none, .none] }) (s.heap.objs.size + 1) s.heap.objs.size 0 .none := by
    have := Heap.get?_push_size (s.heap.push { cls := .type "tuple_iterator", data := .fields #[.ref l, .int 0 0] })
      (o := { cls := .type "enumerate", data := .fields #[.none, .bool false, .ref s.heap.objs.size, rawInt 0, .none, .none] }) rfl
    rw [hz] at this; exact this
  refine ⟨⟨_, he, rfl⟩, h _ he ⟨_, Heap.get?_push_of_some _ (Heap.get?_push_size _ rfl), rfl, rfl⟩ (by rw [Heap.size_push, hz]) fun b o x => Heap.get?_push_of_some _ (Heap.get?_push_of_some _ x)⟩
theorem pyNext_enum_endT {prog : Program} {w : World} {A : Around} {E : Value → Shared → Prop} {s : Shared} {e it l : Addr} {i : Nat} {items : Array Value} {old : Value} {Q : Option Value → Shared → Prop} (hh : A.handled = none)
    (he : IsEnum s.heap e it i old) (hit : s.heap.IsTupleIter it l i) (hl : s.heap.IsTuple l items) (hx : items[i]? = none)
    (hQ : ∀ h', Heap.ExtBut it s.heap h' → Q none { s with heap := h' }) : wpAny (model prog w) A (pyNext (.ref e)) Q E s := by
  have hT : s.TypeIs (.ref e) "enumerate" := ⟨_, he, rfl⟩
  unfold pyNext
  refine wpAny_bind (wpAny_attempt (wpAny_callSpecial?_slot (name := Str.ofString "__next__") hT F.slot_enumerate_next
    (wpAny_call_entry F.slot_enumerate_next hT F.entry_enumerate_next ?_ (F.args_enumerate_next_1 _))))
  show wpAny _ _ (field (.ref e) 2 >>= _) _ _ _
  refine wpAny_bind (wpAny_field he rfl (x := .ref it) rfl ?_)
  refine wpAny_bind (wpAny_nextOf_tuple_end hh hit hl hx fun h' x he' hx' => ?_)
  obtain ⟨o, ho, hc⟩ := hx'
  refine wpAny_bind (wpAny_isInstance (T := "StopIteration") (b := true) ⟨o, ho, hc⟩ isSubtype_stop ?_)
  exact wpAny_pure (hQ _ he')
/-- the tuple at a, its items in new pairs behind their numbers -/
def IteT (K : PySem.W.Frag) (a : Addr) : L2.It :=
  ⟨fun i H => ∃ (xs : List V) (x : V), SqT K H a xs ∧ xs[i]? = some x, fun i H v H' => ∃ T x, v = .ref T ∧ H T = none ∧ H' = upd H T (.tup [.int (i : Nat), x]) ∧ ∀ xs, SqT K H a xs → xs[i]? = some x, fun i H => ∃ xs : List V, SqT K H a xs ∧ xs.length ≤ i⟩
theorem turn_enumT {P : Program} {w : World} {K : PySem.W.Frag} {elts : List Expr} {kk : Nat} {tpos : Pos} (a e it : Addr) :
    Turn P w K (.Tuple elts kk tpos) (IteT K a) [e, it] e (fun i h => (∃ old, IsEnum h e it ((i : Nat) : Int) old) ∧ h.IsTupleIter it a i ∧ e ≠ it) where
  mem := by simp
  obj := fun i h st b hb => by
    obtain ⟨⟨old, he⟩, ⟨o, ho, hc, hd⟩, _⟩ := st
    have e' : b = e ∨ b = it := by simpa using hb
    rcases e' with z | z
    · rw [z]; exact ⟨_, he, fun v q => nomatch q⟩
    · rw [z]; exact ⟨o, ho, fun v q => by rw [hd] at q; cases q⟩
  keep := fun i h h' st k => let ⟨⟨old, he⟩, hi, hne⟩ := st; ⟨⟨old, k e (by simp) _ he⟩, hi.at fun o q => k it (by simp) o q, hne⟩
  item := by
    intro X hP hw hK hc i pins s σ H E I hf st hg
    subst hP hw hK
    obtain ⟨⟨old, he⟩, hit, hne⟩ := st
    obtain ⟨xs, x, hq, hx⟩ := hg
    obtain ⟨its, rv, p, hz⟩ := I.tuple hq
    obtain ⟨u, hu, ru⟩ := rv.get hx
    have hel : e < s.heap.objs.size := Heap.lt_size he
    have hil : it < s.heap.objs.size := by obtain ⟨_, q, _⟩ := hit; exact Heap.lt_size q
    have hT0 : s.heap.IsTuple a its.toArray := p
    have nai : a ≠ it := fun z => by
      obtain ⟨o, q, c, _⟩ := hT0
      obtain ⟨o', q', c', _⟩ := hit
      rw [z, q'] at q
      cases q
      rw [c] at c'
      exact absurd c' (by simp)
    have nae : a ≠ e := fun z => by
      obtain ⟨o, q, c, _⟩ := hT0
      have q' : s.heap.get? e = some _ := he
      rw [z, q'] at q
      cases q
      exact absurd c (by simp)
    have hlt : i < its.toArray.size := by
      have := (List.getElem?_eq_some_iff.mp hu).1
      simpa using this
    refine wpAny_pyNext_enum_itemD (Draws.tuple (prog := X.prog) (w := X.w) (A := X.A.in1) (show X.A.in1.handled = none from I.ok.hd hc) it a nai its.toArray) he ⟨hit, hT0⟩ hlt hne (by simp [hne, Ne.symm nae]) fun x0 h' tk hx0 ho hst' hT hsz hk => ?_
    have hu0 : x0 = u := by
      have z : its.toArray[i]? = some x0 := hx0
      rw [List.getElem?_toArray, hu] at z
      exact (Option.some.inj z).symm
    subst hu0
    refine ⟨_, rfl, wpAny_letOwnedTupleGo_enum (s := { s with heap := h', toks := tk + 1 }) ho fun h'' he' sb => ?_⟩
    have hT2 : h''.get? s.heap.objs.size = some { cls := .type "tuple", data := .seq #[.int i tk, x0] } := (sb.2 _ (Nat.ne_of_gt hel)).trans hT
    have new : ObjOk X.prog X.w (upd H s.heap.objs.size (.tup [.int (i : Nat), x])) h'' s.heap.objs.size (.tup [.int (i : Nat), x]) :=
      ⟨by show 2 ≤ sizeLine; decide, [.int i tk, x0], .cons ⟨_, rfl⟩ (.cons ru .nil), ⟨_, hT2, rfl, _, rfl⟩⟩
    have I1 : Inv X pins σ (upd H s.heap.objs.size (.tup [.int (i : Nat), x])) { s with heap := h'', toks := tk + 1 } :=
      I.turnedNew (ch := [e, it]) (fun b ob hb q => (sb.2 b (fun z => hb (by simp [z]))).trans (hk b ob (fun z => hb (by simp [z])) (fun z => hb (by simp [z])) q)) hf (Nat.le_refl _) new
    refine ⟨.ref s.heap.objs.size, _, I1, rfl, ⟨_, x, rfl, I.hok.fresh (Nat.le_refl _), rfl, fun ys hy => by rw [I.tuple_inj hy hq]; exact hx⟩, ⟨⟨x0, ?_⟩, hst'.1.at fun o q => (sb.2 it (Ne.symm hne)).trans q, hne⟩, fun b hb => ?_⟩
    · have e1 : ((i + 1 : Nat) : Int) = (i : Int) + 1 := by omega
      rw [e1]; exact he'
    · have hb' : b < s.heap.objs.size := by
        have e' : b = e ∨ b = it := by simpa using hb
        rcases e' with z | z
        · rw [z]; exact hel
        · rw [z]; exact hil
      rw [upd_ne (Nat.ne_of_lt hb')]
      exact (hf b hb).1
  done := by
    intro X hP hw hK hc i pins s σ H E I hf st hg
    subst hP hw hK
    obtain ⟨⟨old, he⟩, hit, hne⟩ := st
    obtain ⟨xs, hq, hx⟩ := hg
    obtain ⟨its, rv, p, hz⟩ := I.tuple hq
    obtain ⟨f0, f1, f2, f3, f4, f5⟩ := hf it (by simp)
    have hl := rv.length
    have hT0 : s.heap.IsTuple a its.toArray := p
    exact pyNext_enum_endT (I.ok.hd hc) he hit hT0 (by simp; omega) fun h' eb => ⟨rfl, I.turned (t' := s.toks) (fun b o hb q => eb b o hb q) f0 f1 f3 f4 f5⟩
  self := fun A i s Q E st h => let ⟨⟨_, he⟩, _⟩ := st; wpAny_pyIter_enum he h
/-- a list or a tuple, by numbers -/
def iEnumA (K : PySem.W.Frag) (ta : TA) : TI := fun σ H R => ta σ H fun vs H1 => ∃ a xs, vs = [.ref a] ∧ ((SqL K H1 a xs ∧ R (Ite K a) H1) ∨ (SqT K H1 a xs ∧ R (IteT K a) H1))
theorem pi_enumA {X : Cx} {e : Expr} {ta : TA} {p pos tpos : Pos} {elts : List Expr} {kk : Nat} (hg : Gl X "enumerate") (hm : X.mg "enumerate" = none) (ha : PA X [e] ta) (hs : starEach [e] X.env = [(false, eval e X.env)]) :
    PI X (.Tuple elts kk tpos) (.Call (.Name "enumerate" p) [e] [] pos) (iEnumA X.K ta) := by
  refine ⟨fun pins s σ H R I h => ?_⟩
  refine Call_ (ld_blt I hg hm boot_enumerate (PyProof.Rows.callWith_type1 (thn (ha.run pos pins s σ H _ I h) fun us s1 ⟨vs, H1, I1, r1, q1⟩ => ?_) hs rfl))
  obtain ⟨a, xs, ex, q1⟩ := q1
  subst ex
  cases r1 with
  | cons r rr =>
    cases rr
    cases r
    rcases q1 with ⟨hq, q⟩ | ⟨hq, q⟩
    · obtain ⟨its, rv, p', hz⟩ := I1.list hq
      refine call_enumerate_list p'.isList fun h' he hit hsz hk => wpAny_pyIter_enum he ?_
      have I2 : Inv X pins σ H1 { s1 with heap := h' } := I1.kept (t' := s1.toks) hk
      refine ⟨s1.heap.objs.size + 1, [s1.heap.objs.size + 1, s1.heap.objs.size], _, _, H1, rfl, I2, turn_enum a (s1.heap.objs.size + 1) s1.heap.objs.size, ⟨⟨.none, he⟩, hit, Nat.succ_ne_self _⟩, fun b hb => ?_, q⟩
      have e' : b = s1.heap.objs.size + 1 ∨ b = s1.heap.objs.size := by simpa using hb
      have hle : s1.heap.objs.size ≤ b := by
        rcases e' with z | z
        · rw [z]; exact Nat.le_add_right _ _
        · rw [z]; exact Nat.le_refl _
      exact I1.fpOk hle (I1.hok.fresh hle)
    · obtain ⟨its, rv, p', hz⟩ := I1.tuple hq
      refine call_enumerate_tuple (show s1.heap.IsTuple a its.toArray from p') fun h' he hit hsz hk => wpAny_pyIter_enum he ?_
      have I2 : Inv X pins σ H1 { s1 with heap := h' } := I1.kept (t' := s1.toks) hk
      refine ⟨s1.heap.objs.size + 1, [s1.heap.objs.size + 1, s1.heap.objs.size], _, _, H1, rfl, I2, turn_enumT a (s1.heap.objs.size + 1) s1.heap.objs.size, ⟨⟨.none, he⟩, hit, Nat.succ_ne_self _⟩, fun b hb => ?_, q⟩
      have e' : b = s1.heap.objs.size + 1 ∨ b = s1.heap.objs.size := by simpa using hb
      have hle : s1.heap.objs.size ≤ b := by
        rcases e' with z | z
        · rw [z]; exact Nat.le_add_right _ _
        · rw [z]; exact Nat.le_refl _
      exact I1.fpOk hle (I1.hok.fresh hle)
/-- a list or a tuple -/
def iSeqA (K : PySem.W.Frag) (tl : TE) : TI := fun σ H R => tl σ H fun x H1 => ∃ a xs, x = .ref a ∧ ((SqL K H1 a xs ∧ R (Itl K a) H1) ∨ (SqT K H1 a xs ∧ R (Itt K a) H1))
theorem pi_seqA {X : Cx} {tg l : Expr} {tl : TE} (hl : PE X l tl) : PI X tg l (iSeqA X.K tl) := by
  refine ⟨fun pins s σ H R I h => ?_⟩
  refine thn (hl.run pins s σ H _ I h) fun v s1 ⟨x, H1, I1, r1, q1⟩ => ?_
  obtain ⟨a, xs, e, q1⟩ := q1
  subst e
  cases r1
  rcases q1 with ⟨hq, q⟩ | ⟨hq, q⟩
  · obtain ⟨its, rv, p, hz⟩ := I1.list hq
    refine wpAny_pyIter_list p.isList ?_
    refine ⟨s1.heap.objs.size, [s1.heap.objs.size], _, _, H1, rfl, I1.kept (t' := s1.toks) fun b o e => Heap.get?_push_of_some _ e, turn_list a _, ⟨_, Heap.get?_push_size _ rfl, rfl, rfl⟩, fun b hb => ?_, q⟩
    have e : b = s1.heap.objs.size := by simpa using hb
    subst e
    exact I1.fpOk (Nat.le_refl _) (I1.hok.fresh (Nat.le_refl _))
  · obtain ⟨its, rv, p, hz⟩ := I1.tuple hq
    refine wpAny_pyIter_tuple (show s1.heap.IsTuple a its.toArray from p) ?_
    refine ⟨s1.heap.objs.size, [s1.heap.objs.size], _, _, H1, rfl, I1.kept (t' := s1.toks) fun b o e => Heap.get?_push_of_some _ e, turn_tuple a _, ⟨_, Heap.get?_push_size _ rfl, rfl, rfl⟩, fun b hb => ?_, q⟩
    have e : b = s1.heap.objs.size := by simpa using hb
    subst e
    exact I1.fpOk (Nat.le_refl _) (I1.hok.fresh (Nat.le_refl _))
end TW

namespace TW
open PySem PySem.Spec PyProof.Rows L2
/-- the slots but those of l are as before -/
def Agree (l : List Nat) (σ σ' : L2.St) : Prop := σ'.length = σ.length ∧ ∀ j, j ∉ l → σ'[j]? = σ[j]?
def gP (G : Gr) (p : Pat) : TG := fun v σ H Q => ∃ (c : RC) (ρ : SE) (S : Sto) (t : T) (P : SE → Prop), RelS G c H S ∧ Slots G c H σ ρ ∧ Rep G c H t v ∧ wpP p t ρ P ∧ ∀ σ' ρ', Slots G c H σ' ρ' → Agree (pslB p) σ σ' → P ρ' → Q σ' H
def gPs (G : Gr) (ps : Pats) : TGs := fun vs σ H Q => ∃ (c : RC) (ρ : SE) (S : Sto) (ts : List T) (P : SE → Prop), RelS G c H S ∧ Slots G c H σ ρ ∧ Reps G c H ts vs ∧ wpPs ps ts ρ P ∧ ∀ σ' ρ', Slots G c H σ' ρ' → Agree (pslsB ps) σ σ' → P ρ' → Q σ' H
theorem pg_or {X : Cx} {e : Expr} {t t' : TG} (h : PG X e t) (h' : PG X e t') : PG X e (fun v σ H Q => t v σ H Q ∨ t' v σ H Q) :=
  ⟨fun pins s σ H v u Q I r w => w.elim (h.run pins s σ H v u Q I r) (h'.run pins s σ H v u Q I r)⟩
theorem asg_cons {e : Expr} {es : List Expr} {env : Env} (h : noStar e = true) : assignEach (e :: es) env = (false, assign e env) :: assignEach es env := by
  cases e <;> first
    | rfl
    | cases h
theorem asg_len : ∀ {es : List Expr} {env : Env}, (assignEach es env).length = es.length
  | [], _ => rfl
  | e :: es, env => by
    cases e <;> exact congrArg (· + 1) (asg_len (es := es) (env := env))
theorem asg_find : ∀ {es : List Expr} {env : Env}, es.all noStar = true → (assignEach es env).findIdx? (·.1) = none
  | [], _, _ => rfl
  | e :: es, env, h => by
    rw [List.all_cons, Bool.and_eq_true] at h
    rw [asg_cons h.1, List.findIdx?_cons]
    simp [asg_find h.2]
theorem pats_all {N : List Str} {top : Str → Bool} {sc : Scope} : ∀ {ps : Pats} {es : List Expr}, chkPats N top sc ps es = true → es.all noStar = true
  | .nil, [], _ => rfl
  | .nil, _ :: _, h => by simp [chkPats] at h
  | .cons p r, [], h => by simp [chkPats] at h
  | .cons p r, e :: es, h => by
    rw [chkPats, Bool.and_eq_true, Bool.and_eq_true] at h
    rw [List.all_cons, h.1.1, pats_all h.2]
    rfl
mutual
theorem wpP_ex : ∀ (p : Pat) {t : T} {ρ : SE} {P : SE → Prop}, wpP p t ρ P → ∃ ρ', P ρ'
  | .nm i, t, ρ, P, h => by
    rw [wpP] at h
    exact ⟨_, h⟩
  | .tp ps, t, ρ, P, h => by
    rw [wpP] at h
    obtain ⟨ts, _, h⟩ := h
    exact wpPs_ex ps h
theorem wpPs_ex : ∀ (ps : Pats) {ts : List T} {ρ : SE} {P : SE → Prop}, wpPs ps ts ρ P → ∃ ρ', P ρ'
  | .nil, ts, ρ, P, h => by
    rw [wpPs] at h
    exact ⟨_, h.2⟩
  | .cons p r, ts, ρ, P, h => by
    rw [wpPs] at h
    obtain ⟨t, u, _, h⟩ := h
    obtain ⟨ρ', h⟩ := wpP_ex p h
    exact wpPs_ex r h
end
theorem patsLen {N : List Str} {top : Str → Bool} {sc : Scope} : ∀ {ps : Pats} {ts : List T} {es : List Expr} {ρ : SE} {P : SE → Prop}, wpPs ps ts ρ P → chkPats N top sc ps es = true → ts.length = es.length
  | .nil, ts, [], ρ, P, w, h => by rw [wpPs] at w; rw [w.1]; rfl
  | .nil, ts, _ :: _, ρ, P, w, h => by simp [chkPats] at h
  | .cons p r, ts, [], ρ, P, w, h => by simp [chkPats] at h
  | .cons p r, ts, e :: es, ρ, P, w, h => by
    rw [chkPats, Bool.and_eq_true, Bool.and_eq_true] at h
    rw [wpPs] at w
    obtain ⟨t, u, rfl, w⟩ := w
    obtain ⟨ρ', w⟩ := wpP_ex p w
    simp [patsLen w h.2]
section
variable {D : Gd} {X : Cx}
mutual
theorem sndPat (g : GX D X) {top : Str → Bool} (ht : ∀ x, top x = true → X.fn x = true) : ∀ (p : Pat) (e : Expr), chkPat X.N top X.env.scope p e = true → PG X e (gP D.G p)
  | .nm i, e, h => by
    cases e with
    | Name x pos =>
      rw [chkPat, Bool.and_eq_true, decide_eq_true_eq] at h
      obtain ⟨l1, l2⟩ := loc_ok h.2
      have hf : X.fn x = true ∨ X.env.scope.names.lookup x = some .local := by
        rcases l2 with l2 | l2
        · exact .inl (ht x l2)
        · exact .inr l2
      refine (pg_name g.nd h.1 l1 hf).imp fun v σ H Q w => ?_
      obtain ⟨c, ρ, S, t, P, r, s, rp, w, k⟩ := w
      rw [wpP] at w
      exact k _ _ (s.set (w := .im t) rp) ⟨by simp, fun j hj => by
        rw [pslB, List.mem_singleton] at hj
        exact List.getElem?_set_ne (Ne.symm hj)⟩ w
    | _ => simp [chkPat] at h
  | .tp ps, e, h => by
    cases e with
    | Tuple es kk pos =>
      rw [chkPat] at h
      have hp := sndPats g ht ps es h
      have ha := pats_all h
      refine (pg_or (pg_tup g.calm hp asg_len (asg_find ha)) (pg_lst g.calm hp asg_len (asg_find ha))).imp fun v σ H Q w => ?_
      obtain ⟨c, ρ, S, t, P, r, s, rp, w, k⟩ := w
      rw [wpP] at w
      obtain ⟨ts, e, w⟩ := w
      have hl : ts.length = es.length := patsLen w h
      rcases e with rfl | rfl
      · rw [Rep] at rp
        obtain ⟨a, vs, rfl, _, h1, h2⟩ := rp
        exact .inl ⟨a, vs, rfl, .inl (.inl h1), by rw [h2.length]; exact hl, c, ρ, S, ts, P, r, s, h2, w, fun σ' ρ' s' ag => k σ' ρ' s' (by rw [pslB]; exact ag)⟩
      · rw [Rep] at rp
        obtain ⟨a, vs, rfl, _, h1, h2⟩ := rp
        exact .inr ⟨a, vs, rfl, .inl (.inl h1), by rw [h2.length]; exact hl, c, ρ, S, ts, P, r, s, h2, w, fun σ' ρ' s' ag => k σ' ρ' s' (by rw [pslB]; exact ag)⟩
    | _ => simp [chkPat] at h
theorem sndPats (g : GX D X) {top : Str → Bool} (ht : ∀ x, top x = true → X.fn x = true) : ∀ (ps : Pats) (es : List Expr), chkPats X.N top X.env.scope ps es = true → PGs X es (gPs D.G ps)
  | .nil, [], h => by
    refine ⟨fun pins s σ H vs us Q I r w => pgs_nil.run pins s σ H vs us Q I r ?_⟩
    obtain ⟨c, ρ, S, ts, P, rr, sl, rp, w, k⟩ := w
    rw [wpPs] at w
    obtain ⟨rfl, w⟩ := w
    rw [Reps] at rp
    exact ⟨rp, k _ _ sl ⟨rfl, fun _ _ => rfl⟩ w⟩
  | .nil, _ :: _, h => by simp [chkPats] at h
  | .cons p r, [], h => by simp [chkPats] at h
  | .cons p r, e :: es, h => by
    rw [chkPats, Bool.and_eq_true, Bool.and_eq_true] at h
    have h1 := sndPat g ht p e h.1.2
    have h2 := sndPats g ht r es h.2
    have hc := pgs_cons h1 h2 (by rw [asg_cons h.1.1]; rfl)
    refine ⟨fun pins s σ H vs us Q I rr w => hc.run pins s σ H vs us Q I rr ?_⟩
    obtain ⟨c, ρ, S, ts, P, rl, sl, rp, w, k⟩ := w
    rw [wpPs] at w
    obtain ⟨t, u, rfl, w⟩ := w
    rw [Reps] at rp
    obtain ⟨v, vr, rfl, q1, q2⟩ := rp
    exact ⟨v, vr, rfl, c, ρ, S, t, _, rl, sl, q1, w, fun σ' ρ' s' ag w' => ⟨c, ρ', S, u, P, rl, s', q2, w', fun σ2 ρ2 s2 ag2 w2 => k σ2 ρ2 s2 ⟨ag2.1.trans ag.1, fun j hj => by
      rw [pslsB, List.mem_append, not_or] at hj
      exact (ag2.2 j hj.2).trans (ag.2 j hj.1)⟩ w2⟩⟩
end
end
/-- J walks the items ts, while stab holds of the store -/
def WalkT (G : Gr) (J : L2.It) (ts : List T) (stab : Sto → Prop) (c0 : RC) (H0 : Hp) : Prop :=
  ∀ (c : RC) (H : Hp) (S : Sto), Grow c0 H0 c H → RelS G c H S → stab S →
    (∀ i, i < ts.length → J.go i H) ∧ J.stop ts.length H ∧ ∀ i t x H', ts[i]? = some t → J.yld i H x H' → Grow c H c H' ∧ RelS G c H' S ∧ Rep G c H' t x
def tI (G : Gr) (Wx : WX) (it : It) : TI := fun σ H R => ∃ (c : RC) (ρ : SE) (S : Sto) (P : ItQ) (XP : XQ), RelS G c H S ∧ Slots G c H σ ρ ∧ wpI it ρ S P XP ∧
    (∀ J H' c' S' ts stab, Grow c H c' H' → RelS G c' H' S' → WalkT G J ts stab c' H' → P ts stab S' → R J H') ∧
    (∀ cls d H' c' S' x, Grow c H c' H' → RelS G c' H' S' → RepX G c' H' x cls d → XP x S' → Wx cls d σ H')
section
variable {G : Gr} {c0 : RC} {H0 : Hp} {S0 : Sto}
/-- a sequence, as it stands later -/
theorem seq_later {w : W} {v : V} {ts : List T} (r0 : RelS G c0 H0 S0) (rp : RepW G c0 H0 w v) (e : seqOf S0 w = some ts) : ∃ a, v = .ref a ∧
    ((∃ xs, SqL G.K H0 a xs) ∧ (∀ (c : RC) (H : Hp) (S : Sto), Grow c0 H0 c H → RelS G c H S → stabW S0 w S → ∃ vs, SqL G.K H a vs ∧ Reps G c H ts vs) ∨
     (∃ xs, SqT G.K H0 a xs) ∧ (∀ (c : RC) (H : Hp) (S : Sto), Grow c0 H0 c H → RelS G c H S → stabW S0 w S → ∃ vs, SqT G.K H a vs ∧ Reps G c H ts vs)) := by
  by_cases hs : ∃ us, w = .im (.tup us)
  · obtain ⟨us, rfl⟩ := hs
    have e' : us = ts := Option.some.inj e
    subst e'
    obtain ⟨a, vs, rfl, h1, h2⟩ := rd_tup rp
    refine ⟨a, rfl, .inr ⟨⟨vs, .inl (.inl h1)⟩, fun c H S g r _ => ?_⟩⟩
    obtain ⟨a', vs', e, h3, h4⟩ := rd_tup (RepW.mono g _ _ rp)
    cases e
    exact ⟨vs', .inl (.inl h3), h4⟩
  · have e2 : lstOf S0 w = some ts := by
      cases w with
      | im t =>
        cases t with
        | tup us => exact absurd ⟨us, rfl⟩ hs
        | _ => exact e
      | mr k => exact e
      | src j => exact e
    obtain ⟨a, vs, rfl, h1, h2⟩ := rd_lst r0 rp e2
    refine ⟨a, rfl, .inl ⟨⟨vs, h1⟩, fun c H S g r st => ?_⟩⟩
    have e3 : lstOf S w = some ts := by
      cases w with
      | im t => cases t <;> exact e2
      | mr k =>
        have st : S[k]? = S0[k]? := st
        have e2 : (match S0[k]? with | some (.lst ws) => imAll ws | _ => none) = some ts := e2
        show (match S[k]? with | some (.lst ws) => imAll ws | _ => none) = some ts
        rw [st]
        exact e2
      | src j => exact e2
    obtain ⟨a', vs', e, h3, h4⟩ := rd_lst r (RepW.mono g _ _ rp) e3
    cases e
    exact ⟨vs', h3, h4⟩
theorem walk_seqL {a : Addr} {ts : List T} {stab : Sto → Prop} (h : ∀ (c : RC) (H : Hp) (S : Sto), Grow c0 H0 c H → RelS G c H S → stab S → ∃ vs, SqL G.K H a vs ∧ Reps G c H ts vs) : WalkT G (Itl G.K a) ts stab c0 H0 := fun c H S g r st => by
  obtain ⟨vs, h1, h2⟩ := h c H S g r st
  refine ⟨fun i hi => ⟨vs, vs[i]'(by rw [h2.length]; exact hi), h1, by simp⟩, ⟨vs, h1, by rw [h2.length]; exact Nat.le_refl _⟩, fun i t x H' e y => ?_⟩
  obtain ⟨rfl, y⟩ := y
  obtain ⟨v, e2, q⟩ := h2.get e
  have := (y vs h1).symm.trans e2
  cases this
  exact ⟨.refl, r, q⟩
theorem walk_seqT {a : Addr} {ts : List T} {stab : Sto → Prop} (h : ∀ (c : RC) (H : Hp) (S : Sto), Grow c0 H0 c H → RelS G c H S → stab S → ∃ vs, SqT G.K H a vs ∧ Reps G c H ts vs) : WalkT G (Itt G.K a) ts stab c0 H0 := fun c H S g r st => by
  obtain ⟨vs, h1, h2⟩ := h c H S g r st
  refine ⟨fun i hi => ⟨vs, vs[i]'(by rw [h2.length]; exact hi), h1, by simp⟩, ⟨vs, h1, by rw [h2.length]; exact Nat.le_refl _⟩, fun i t x H' e y => ?_⟩
  obtain ⟨rfl, y⟩ := y
  obtain ⟨v, e2, q⟩ := h2.get e
  have := (y vs h1).symm.trans e2
  cases this
  exact ⟨.refl, r, q⟩
theorem pair_rep {c : RC} {H : Hp} {S : Sto} {p : Addr} {t u : T} {x y : V} (r : RelS G c H S) (np : H p = none) (h1 : Rep G c H t x) (h2 : Rep G c H u y) : Rep G c (upd H p (.tup [x, y])) (.tup [t, u]) (.ref p) := by
  refine new_tup r np ?_
  rw [Reps]
  refine ⟨x, [y], rfl, h1, ?_⟩
  rw [Reps]
  exact ⟨y, [], rfl, h2, by rw [Reps]⟩
theorem enum_get {ts : List T} {i : Nat} {t : T} (e : (ts.zipIdx.map fun p => T.tup [.int (p.2 : Int), p.1])[i]? = some t) : ∃ u, ts[i]? = some u ∧ t = .tup [.int (i : Int), u] := by
  rw [List.getElem?_map, List.getElem?_zipIdx] at e
  cases h : ts[i]? with
  | none => rw [h] at e; cases e
  | some u =>
    rw [h] at e
    simp at e
    exact ⟨u, rfl, e.symm⟩
theorem walk_enumL {a : Addr} {ts : List T} {stab : Sto → Prop} (h : ∀ (c : RC) (H : Hp) (S : Sto), Grow c0 H0 c H → RelS G c H S → stab S → ∃ vs, SqL G.K H a vs ∧ Reps G c H ts vs) : WalkT G (Ite G.K a) (ts.zipIdx.map fun p => T.tup [.int (p.2 : Int), p.1]) stab c0 H0 := fun c H S g r st => by
  obtain ⟨vs, h1, h2⟩ := h c H S g r st
  refine ⟨fun i hi => ⟨vs, vs[i]'(by rw [h2.length]; simpa using hi), h1, by simp⟩, ⟨vs, h1, by rw [h2.length]; simp⟩, fun i t x H' e y => ?_⟩
  obtain ⟨p, x0, rfl, np, rfl, y⟩ := y
  obtain ⟨u, e1, rfl⟩ := enum_get e
  obtain ⟨v, e2, q⟩ := h2.get e1
  have := (y vs h1).symm.trans e2
  cases this
  exact ⟨.new r np, r.new np, pair_rep r np (by rw [Rep]) q⟩
theorem walk_enumT {a : Addr} {ts : List T} {stab : Sto → Prop} (h : ∀ (c : RC) (H : Hp) (S : Sto), Grow c0 H0 c H → RelS G c H S → stab S → ∃ vs, SqT G.K H a vs ∧ Reps G c H ts vs) : WalkT G (IteT G.K a) (ts.zipIdx.map fun p => T.tup [.int (p.2 : Int), p.1]) stab c0 H0 := fun c H S g r st => by
  obtain ⟨vs, h1, h2⟩ := h c H S g r st
  refine ⟨fun i hi => ⟨vs, vs[i]'(by rw [h2.length]; simpa using hi), h1, by simp⟩, ⟨vs, h1, by rw [h2.length]; simp⟩, fun i t x H' e y => ?_⟩
  obtain ⟨p, x0, rfl, np, rfl, y⟩ := y
  obtain ⟨u, e1, rfl⟩ := enum_get e
  obtain ⟨v, e2, q⟩ := h2.get e1
  have := (y vs h1).symm.trans e2
  cases this
  exact ⟨.new r np, r.new np, pair_rep r np (by rw [Rep]) q⟩
theorem walk_zipL {a b : Addr} {ts us : List T} {stab : Sto → Prop} (h : ∀ (c : RC) (H : Hp) (S : Sto), Grow c0 H0 c H → RelS G c H S → stab S → ∃ vs, SqL G.K H a vs ∧ Reps G c H ts vs)
    (h' : ∀ (c : RC) (H : Hp) (S : Sto), Grow c0 H0 c H → RelS G c H S → stab S → ∃ vs, SqL G.K H b vs ∧ Reps G c H us vs) : WalkT G (Itz G.K a b) ((ts.zip us).map fun p => T.tup [p.1, p.2]) stab c0 H0 := fun c H S g r st => by
  obtain ⟨vs, h1, h2⟩ := h c H S g r st
  obtain ⟨ws, h3, h4⟩ := h' c H S g r st
  refine ⟨fun i hi => ?_, ⟨vs, ws, h1, h3, ?_⟩, fun i t x H' e y => ?_⟩
  · rw [List.length_map, List.length_zip] at hi
    exact ⟨vs, ws, vs[i]'(by rw [h2.length]; omega), ws[i]'(by rw [h4.length]; omega), h1, h3, by simp, by simp⟩
  · rw [List.length_map, List.length_zip, h2.length, h4.length]
    omega
  · obtain ⟨p, x1, x2, rfl, np, rfl, y1, y2⟩ := y
    rw [List.getElem?_map] at e
    cases hz : (ts.zip us)[i]? with
    | none => rw [hz] at e; cases e
    | some pr =>
      rw [hz] at e
      cases e
      rw [List.getElem?_zip_eq_some] at hz
      obtain ⟨v, e2, q⟩ := h2.get hz.1
      obtain ⟨v', e3, q'⟩ := h4.get hz.2
      have z := (y1 vs h1).symm.trans e2
      cases z
      have z := (y2 ws h3).symm.trans e3
      cases z
      exact ⟨.new r np, r.new np, pair_rep r np q q'⟩
theorem walk_rng {lo : Int} {n : Nat} {stab : Sto → Prop} : WalkT G (Itr lo n) ((List.range n).map fun (k : Nat) => T.int (lo + (k : Int))) stab c0 H0 := fun c H S g r st => by
  refine ⟨fun i hi => by show i < n; simpa using hi, by show n ≤ _; simp, fun i t x H' e y => ?_⟩
  obtain ⟨rfl, rfl⟩ := y
  rw [List.getElem?_map] at e
  have hi : i < n := by
    rw [Option.map_eq_some_iff] at e
    obtain ⟨k, e1, _⟩ := e
    have := (List.getElem?_eq_some_iff.mp e1).1
    simpa using this
  rw [List.getElem?_range hi] at e
  cases e
  exact ⟨.refl, r, by rw [Rep]⟩
theorem walk_chars {z : Str} {stab : Sto → Prop} : WalkT G (Its z) (z.cps.toList.map fun k => T.str ⟨#[k]⟩) stab c0 H0 := fun c H S g r st => by
  refine ⟨fun i hi => by show i < z.cps.size; simpa using hi, by show z.cps.size ≤ _; simp, fun i t x H' e y => ?_⟩
  obtain ⟨rfl, k, e1, rfl⟩ := y
  rw [List.getElem?_map] at e
  have e2 : z.cps.toList[i]? = some k := by simpa using e1
  rw [e2] at e
  cases e
  exact ⟨.refl, r, by rw [Rep]⟩
end
end TW

namespace TW
open PySem PySem.Spec PyProof.Rows L2
section
variable {D : Gd} {X : Cx} {Wx : WX} {G : Gr} {σ : L2.St} {H : Hp}
theorem pc_own {f : CmpOp} {sp : Spec} {a b : Expr} {a' b' : E} (g : GX D X) (tk : Takes X Wx) (ok : BinOk D (compareOp f) sp) (ha : PE X a (tE D.G Wx a')) (hb : PE X b (tE D.G Wx b')) :
    PC X f a b (fun σ H Q => tE D.G Wx a' σ H fun x H1 => tE D.G Wx b' σ H1 fun y H2 => liftV D.G sp (fun cls d H' => Wx cls d σ H') [x, y] H2 Q) :=
  ⟨fun pins s σ H Q I h => bin ha hb I h fun v u s2 x y H2 I2 rx ry q => ok X g Wx tk pins s2 σ H2 x y v u Q I2 rx ry q⟩
theorem pe_own {f : Operator} {sp : Spec} {a b : Expr} {a' b' : E} {pos : Pos} (g : GX D X) (tk : Takes X Wx) (ok : BinOk D (binaryOp f) sp) (ha : PE X a (tE D.G Wx a')) (hb : PE X b (tE D.G Wx b')) :
    PE X (.BinOp a f b pos) (fun σ H Q => tE D.G Wx a' σ H fun x H1 => tE D.G Wx b' σ H1 fun y H2 => liftV D.G sp (fun cls d H' => Wx cls d σ H') [x, y] H2 Q) :=
  ⟨fun pins s σ H Q I h => wpAny_BinOp (bin ha hb I h fun v u s2 x y H2 I2 rx ry q => ok X g Wx tk pins s2 σ H2 x y v u Q I2 rx ry q)⟩
/-- by its test: a bool -/
theorem tT_ap {k : Ap} {sp : Spec} {as : Es} {Q : Bool → Hp → Prop} (h : tT G Wx (.ap k sp as) σ H Q) : tEs G Wx as σ H fun vs H1 => liftV G (apSp k sp) (fun cls d H' => Wx cls d σ H') vs H1 fun x H' => ∃ b, x = .bl b ∧ Q b H' := tEs_ap (tT_of h)
theorem ap_call {x : Str} {p pos : Pos} {e : Expr} {es : List Expr} {as : Es} {k : Ap} {sp : Spec} (g : GX D X) (tk : Takes X Wx) (hg : glB X.env.scope x = true) (hx : okName x = true) (ok : ∃ u, D.mg x = some u ∧ PySem.W.keepIn D.G.K u = true ∧ CalOk D u (apSp k sp)) (ha : PA X (e :: es) (tEs D.G Wx as)) (hall : (e :: es).all noStar = true) :
    PE X (.Call (.Name x p) (e :: es) [] pos) (tE D.G Wx (.ap k sp as)) := by
  obtain ⟨u, hm, hk, c⟩ := ok
  exact (pe_name g tk (gl_ok hg) hm hk c ha hx hall).imp fun σ H Q w => tEs_ap w
theorem ap_len {p pos : Pos} {e : Expr} {as : Es} {c : Str} {sp : Spec} (d : DOk D) (g : GX D X) (tk : Takes X Wx) (hg : glB X.env.scope "len" = true) (ok : CalW D (.builtin "len") (apSp (.ln c) sp)) (ha : PA X [e] (tEs D.G Wx as)) (hall : noStar e = true) :
    PE X (.Call (.Name "len" p) [e] [] pos) (tE D.G Wx (.ap (.ln c) sp as)) := by
  have hm : X.mg "len" = none := by rw [g.mg]; exact d.blt _ (by decide +kernel)
  refine ⟨fun pins s σ H Q I w => ?_⟩
  refine wpAny_Call_Name_kw (ld_blt I (gl_ok hg) hm PySem.boot_len ?_ (by decide) (by decide))
  exact PyProof.Rows.callWith_builtin1 (thn (ha.run pos pins s σ H _ I (tEs_ap w)) fun us s1 ⟨vs, H1, I1, r, q⟩ => ok X g Wx tk pins s1 σ H1 vs us Q I1 r q) (star_cons hall) rfl
theorem ap_str {p pos : Pos} {e : Expr} {as : Es} {c : Str} {sp : Spec} (d : DOk D) (g : GX D X) (tk : Takes X Wx) (hg : glB X.env.scope "str" = true) (ok : CalW D (.type "str") (apSp (.st c) sp)) (ha : PA X [e] (tEs D.G Wx as)) (hall : noStar e = true) :
    PE X (.Call (.Name "str" p) [e] [] pos) (tE D.G Wx (.ap (.st c) sp as)) := by
  have hm : X.mg "str" = none := by rw [g.mg]; exact d.blt _ (by decide +kernel)
  refine ⟨fun pins s σ H Q I w => ?_⟩
  refine wpAny_Call_Name_kw (ld_blt I (gl_ok hg) hm (boot_bi .str1) ?_ (by decide) (by decide))
  exact PyProof.Rows.callWith_type1 (thn (ha.run pos pins s σ H _ I (tEs_ap w)) fun us s1 ⟨vs, H1, I1, r, q⟩ => ok X g Wx tk pins s1 σ H1 vs us Q I1 r q) (star_cons hall) rfl
section
variable {c c' c2 : RC} {H' : Hp}
mutual
theorem Rep.noL (h : ∀ b, Mu c2 b → Mu c' b ∨ ∃ vs, H' b = some (.lst vs)) : ∀ (t : T) (v : V), noLst t = true → Rep G c' H' t v → Rep G c2 H' t v
  | .non, _, _, r => by rw [Rep] at r ⊢; exact r
  | .bl _, _, _, r => by rw [Rep] at r ⊢; exact r
  | .int _, _, _, r => by rw [Rep] at r ⊢; exact r
  | .str _, _, _, r => by rw [Rep] at r ⊢; exact r
  | .ty _, _, _, r => by rw [Rep] at r ⊢; exact r
  | .cls _, _, _, r => by rw [Rep] at r ⊢; exact r
  | .lst _, _, n, _ => by simp [noLst] at n
  | .scr ns, v, _, r => by
    rw [Rep] at r ⊢
    obtain ⟨a, e, ⟨o, q, n⟩ | q⟩ := r
    · refine ⟨a, e, .inl ⟨o, q, fun z => ?_⟩⟩
      rcases h a z with z | ⟨vs, z⟩
      · exact n z
      · rw [q] at z; cases z
    · exact ⟨a, e, .inr q⟩
  | .tup ts, v, n, r => by
    rw [Rep] at r ⊢
    rw [noLst] at n
    obtain ⟨a, vs, e, m, q, rs⟩ := r
    refine ⟨a, vs, e, fun z => ?_, q, Reps.noL h ts vs n rs⟩
    rcases h a z with z | ⟨vs, z⟩
    · exact m z
    · rw [q] at z; cases z
  | .dK ks ts, v, n, r => by
    rw [Rep] at r ⊢
    rw [noLst] at n
    obtain ⟨a, vs, e, m, q, l, rs⟩ := r
    refine ⟨a, vs, e, fun z => ?_, q, l, Reps.noL h ts vs n rs⟩
    rcases h a z with z | ⟨vs, z⟩
    · exact m z
    · rw [q] at z; cases z
  | .dT ks ts, v, n, r => by
    rw [Rep] at r ⊢
    rw [noLst] at n
    obtain ⟨a, vs, e, m, q, l, rs⟩ := r
    refine ⟨a, vs, e, fun z => ?_, q, l, Reps.noL h ts vs n rs⟩
    rcases h a z with z | ⟨vs, z⟩
    · exact m z
    · rw [q] at z; cases z
  | .ins x ns ts, v, n, r => by
    rw [Rep] at r ⊢
    rw [noLst] at n
    obtain ⟨a, dx, vs, e, m, q, l, io, rs⟩ := r
    refine ⟨a, dx, vs, e, fun z => ?_, q, l, io, Reps.noL h ts vs n rs⟩
    rcases h a z with z | ⟨vs, z⟩
    · exact m z
    · rw [q] at z; cases z
theorem Reps.noL (h : ∀ b, Mu c2 b → Mu c' b ∨ ∃ vs, H' b = some (.lst vs)) : ∀ (ts : List T) (vs : List V), noLsts ts = true → Reps G c' H' ts vs → Reps G c2 H' ts vs
  | [], _, _, r => by rw [Reps] at r ⊢; exact r
  | t :: ts, vs, n, r => by
    rw [noLsts, Bool.and_eq_true] at n
    rw [Reps] at r ⊢
    obtain ⟨v, q, e, r1, r2⟩ := r
    exact ⟨v, q, e, Rep.noL h t v n.1 r1, Reps.noL h ts q n.2 r2⟩
end
end
def isRef : V → Bool
  | .ref _ => true
  | _ => false
theorem ref_t {c : RC} {H : Hp} {t : T} {v : V} (h : Rep G c H t v) : refT t = isRef v := by
  cases t <;> rw [Rep] at h
  case non => subst h; rfl
  case bl => subst h; rfl
  case int => subst h; rfl
  case str => subst h; rfl
  case ty => subst h; rfl
  case cls => obtain ⟨rfl, _⟩ := h; rfl
  case scr => obtain ⟨a, rfl, _⟩ := h; rfl
  case lst => obtain ⟨a, vs, rfl, _⟩ := h; rfl
  case tup => obtain ⟨a, vs, rfl, _⟩ := h; rfl
  case dK => obtain ⟨a, vs, rfl, _⟩ := h; rfl
  case dT => obtain ⟨a, vs, rfl, _⟩ := h; rfl
  case ins => obtain ⟨a, dx, vs, rfl, _⟩ := h; rfl
theorem ref_w {c : RC} {H : Hp} {w : W} {v : V} (h : RepW G c H w v) : refW w = isRef v := by
  cases w with
  | im t => exact ref_t h
  | mr k => obtain ⟨a, _, rfl⟩ := h; rfl
  | src k => obtain ⟨a, r, _, rfl, _⟩ := h; rfl
theorem ref_same {c c' : RC} {H H' : Hp} {w : W} {t : T} {v : V} (h : RepW G c H w v) (h' : Rep G c' H' t v) : refW w = refT t := (ref_w h).trans (ref_t h').symm
/-- lists of the store are lent to a callee that gives back something else -/
theorem bor_lift {sp : Spec} {E : XK} {xs : List V} {Q : VK} (w : liftV G (borSp sp) E xs H Q) : liftV G sp E xs H Q := by
  obtain ⟨c, ws, S, P, XP, r, rp, ⟨us, hu, w⟩, k, kx⟩ := w
  -- the lent addresses
  let R : List Nat := ws.flatMap (rch S 3)
  let lent : Addr → Prop := fun a => ∃ (j : Nat) (ls : List W), c.mu[j]? = some a ∧ S[j]? = some (.lst ls) ∧ j ∈ R
  have dl : ∀ a, Decidable (lent a) := fun a => Classical.propDecidable _
  let c1 : RC := ⟨[], c.be, c.mu.filter (fun a => !decide (lent a)) ++ c.hi⟩
  have m1 : ∀ b, Mu c1 b → Mu c b := by
    rintro b (z | z | z)
    · cases z
    · exact .inr (.inl z)
    · rcases List.mem_append.mp z with z | z
      · exact .inl (List.mem_filter.mp z).1
      · exact .inr (.inr z)
  have lentH : ∀ a, lent a → ∃ vs, H a = some (.lst vs) := by
    rintro a ⟨j, ts, h1, h2, _⟩
    obtain ⟨vs, h3, _⟩ := r.obj j _ a h2 h1
    exact ⟨vs, h3⟩
  have lentM : ∀ a, lent a → a ∈ c.mu := fun a ⟨j, ts, h1, _⟩ => List.mem_of_getElem? h1
  have lentN : ∀ a, lent a → ¬ Mu c1 a := by
    rintro a ha (z | ⟨g, hg, z⟩ | z)
    · cases z
    · obtain ⟨j, hj, e⟩ := List.getElem_of_mem hg
      exact r.dis j g (by rw [← e]; exact List.getElem?_eq_getElem hj) a z (lentM a ha)
    · rcases List.mem_append.mp z with z | z
      · have := (List.mem_filter.mp z).2
        simp [ha] at this
      · exact (r.hid a z).2.1 (lentM a ha)
  have gi : GrowI c H c1 H := ⟨fun b o h n => ⟨h, fun z => n (m1 b z)⟩⟩
  have r1 : RelS G c1 H [] := by
    refine ⟨rfl, .nil, fun j o b h => (by simp at h), r.reg, fun j g hg a ha z => (by cases z), r.apt, fun b hb => ⟨?_, fun z => (by cases z), fun j g hg z => ?_⟩⟩
    · exact r.there (m1 b (.inr (.inr hb)))
    · rcases List.mem_append.mp hb with hb | hb
      · exact r.dis j g hg b z (List.mem_filter.mp hb).1
      · exact (r.hid b hb).2.2 j g hg z
  have rpT : ∀ (n : Nat) (w : W) (t : T) (v : V), RepW G c H w v → toB S n w = some t → (∀ k ∈ rch S n w, k ∈ R) → Rep G c1 H t v := by
    intro n
    induction n with
    | zero =>
      intro w t v h1 h2 _
      cases w with
      | im u => cases h2; exact Rep.monoI gi _ v h1
      | mr j => cases h2
      | src j => cases h2
    | succ n ih =>
      intro w t v h1 h2 hR
      cases w with
      | im u => cases h2; exact Rep.monoI gi _ v h1
      | src j => cases h2
      | mr j =>
        obtain ⟨a, ha, rfl⟩ := h1
        have h2 : (match S[j]? with | some (.lst ws) => (allB (toB S n) ws).map T.lst | _ => none) = some t := h2
        split at h2
        · rename_i ls hs
          rw [Option.map_eq_some_iff] at h2
          obtain ⟨ts, e1, rfl⟩ := h2
          obtain ⟨vs, h3, h4⟩ := r.obj j _ a hs ha
          rw [Rep]
          refine ⟨a, vs, rfl, lentN a ⟨j, ls, ha, hs, hR j (by simp [rch])⟩, h3, ?_⟩
          have hR' : ∀ k ∈ ls.flatMap (rch S n), k ∈ R := fun k hk => hR k (by
            show k ∈ j :: _
            rw [hs]
            exact List.mem_cons_of_mem _ hk)
          have all : ∀ (ls : List W) (ts : List T) (vs : List V), RepWs G c H ls vs → allB (toB S n) ls = some ts → (∀ k ∈ ls.flatMap (rch S n), k ∈ R) → Reps G c1 H ts vs := by
            intro ls
            induction ls with
            | nil =>
              intro ts vs h1 h2 _
              cases h2
              rw [Reps]
              exact h1
            | cons l ls ihl =>
              rintro ts vs ⟨v, q, e, h1, h2⟩ h3 h4
              simp only [allB, Option.bind_eq_some_iff, Option.map_eq_some_iff] at h3
              obtain ⟨t, e3, ts', e4, rfl⟩ := h3
              rw [Reps]
              rw [List.flatMap_cons] at h4
              exact ⟨v, q, e, ih l t v h1 e3 fun k hk => h4 k (List.mem_append_left _ hk), ihl ts' q h2 e4 fun k hk => h4 k (List.mem_append_right _ hk)⟩
          exact all ls ts vs h4 e1 hR'
        · cases h2
  have rp1 : ∀ {ws : List W} {xs : List V} {us : List W}, RepWs G c H ws xs → borWs S ws = some us → (∀ k ∈ ws.flatMap (rch S 3), k ∈ R) → RepWs G c1 H us xs := by
    intro ws
    induction ws with
    | nil =>
      intro xs us h1 h2 _
      cases h2
      exact h1
    | cons w ws ih =>
      rintro xs us ⟨v, q, e, h1, h2⟩ hb hR
      subst e
      rw [List.flatMap_cons] at hR
      have hRl : ∀ k ∈ rch S 3 w, k ∈ R := fun k hk => hR k (List.mem_append_left _ hk)
      have hRr : ∀ k ∈ ws.flatMap (rch S 3), k ∈ R := fun k hk => hR k (List.mem_append_right _ hk)
      cases w with
      | src j =>
        simp only [borWs, Option.map_eq_some_iff] at hb
        obtain ⟨us', hb, rfl⟩ := hb
        exact ⟨v, q, rfl, h1, ih h2 hb hRr⟩
      | im t =>
        simp only [borWs, Option.bind_eq_some_iff, Option.map_eq_some_iff] at hb
        obtain ⟨t, ht, us', hb, rfl⟩ := hb
        exact ⟨v, q, rfl, rpT 3 _ t v h1 ht hRl, ih h2 hb hRr⟩
      | mr j =>
        simp only [borWs, Option.bind_eq_some_iff, Option.map_eq_some_iff] at hb
        obtain ⟨t, ht, us', hb, rfl⟩ := hb
        exact ⟨v, q, rfl, rpT 3 _ t v h1 ht hRl, ih h2 hb hRr⟩
  refine ⟨c1, us, [], _, _, r1, rp1 rp hu (fun _ h => h), w, fun v H' c' S' w' g' r' rp' q => ?_, fun _ _ _ _ _ _ _ _ _ z => z.elim⟩
  obtain ⟨rfl, t, rfl, nl, q⟩ := q
  have keepL : ∀ a, lent a → H' a = H a ∧ ¬ Mu c' a := fun a ha => by
    obtain ⟨vs, h3⟩ := lentH a ha
    have := g'.im a _ h3 (lentN a ha)
    exact ⟨this.1.trans h3.symm, this.2⟩
  have keepH : ∀ a ∈ c1.hi, H' a = H a := fun a ha => (g'.hi a ha).2
  have keepM : ∀ a ∈ c.mu, H' a = H a := fun a ha => by
    by_cases l : lent a
    · exact (keepL a l).1
    · exact keepH a (List.mem_append_left _ (List.mem_filter.mpr ⟨ha, by simp [l]⟩))
  let c2 : RC := ⟨c.mu, c'.be, c.hi⟩
  have m2 : ∀ b, Mu c2 b → Mu c' b ∨ lent b := by
    rintro b (z | z | z)
    · by_cases l : lent b
      · exact .inr l
      · exact .inl (.inr (.inr (g'.hi b (List.mem_append_left _ (List.mem_filter.mpr ⟨z, by simp [l]⟩))).1))
    · exact .inl (.inr (.inl z))
    · exact .inl (.inr (.inr (g'.hi b (List.mem_append_right _ z)).1))
  have im2 : ∀ b o, H b = some o → ¬ Mu c b → H' b = some o ∧ ¬ Mu c2 b := fun b o h n => by
    have := g'.im b o h fun z => n (m1 b z)
    refine ⟨this.1, fun z => ?_⟩
    rcases m2 b z with z | z
    · exact this.2 z
    · exact n (.inl (lentM b z))
  have be2 : ∀ j g, c.be[j]? = some g → c'.be[j]? = some g := g'.be
  have g2 : Grow c H c2 H' := ⟨im2, fun _ _ h => h, be2, fun a ha => ⟨ha, keepH a (List.mem_append_right _ ha)⟩⟩
  have r2 : RelS G c2 H' S := by
    refine ⟨r.len, r.nd, fun j o b h1 h2 => RepO.mono g2 (keepM b (List.mem_of_getElem? h2)) (r.obj j o b h1 h2), r'.reg, fun j g hg a ha z => ?_, r'.apt, fun b hb => ⟨by rw [keepH b (List.mem_append_right _ hb)]; exact (r.hid b hb).1, (r.hid b hb).2.1, fun j g hg z => ?_⟩⟩
    · by_cases l : lent a
      · exact (keepL a l).2 (.inr (.inl ⟨g, List.mem_of_getElem? hg, ha⟩))
      · exact (r'.hid a (g'.hi a (List.mem_append_left _ (List.mem_filter.mpr ⟨z, by simp [l]⟩))).1).2.2 j g hg ha
    · exact (r'.hid b (g'.hi b (List.mem_append_right _ hb)).1).2.2 j g hg z
  have no2 : ∀ b, Mu c2 b → Mu c' b ∨ ∃ vs, H' b = some (.lst vs) := fun b z => by
    rcases m2 b z with z | z
    · exact .inl z
    · obtain ⟨vs, h3⟩ := lentH b z
      exact .inr ⟨vs, (keepL b z).1.trans h3⟩
  refine k v H' c2 S (.im t) g2 r2 ?_ q
  rcases nl with nl | ⟨ts, rfl, nl, nd⟩
  · exact Rep.noL no2 t v nl rp'
  · have rp' : Rep G c' H' (.lst ts) v := rp'
    show Rep G c2 H' (.lst ts) v
    rw [Rep] at rp' ⊢
    obtain ⟨a, vs, e, na, h1, h2⟩ := rp'
    refine ⟨a, vs, e, fun z => ?_, h1, Reps.noL no2 ts vs nl h2⟩
    rcases m2 a z with z | z
    · exact na z
    · have ke := (keepL a z).1
      obtain ⟨j, ls, l1, l2, l3⟩ := z
      obtain ⟨ls', l4, hd⟩ := nd j l3
      rw [l2] at l4
      cases l4
      obtain ⟨vs', l5, l6⟩ := r.obj j _ a l2 l1
      rw [ke, l5] at h1
      cases h1
      apply hd
      cases ts with
      | nil =>
        rw [Reps] at h2
        subst h2
        have := l6.length
        cases ls with
        | nil => rfl
        | cons w ls => simp at this
      | cons t ts =>
        rw [Reps] at h2
        obtain ⟨x, y, rfl, h3, _⟩ := h2
        cases ls with
        | nil => have := l6.length; simp at this
        | cons w ls =>
          obtain ⟨x', y', e', h4, _⟩ := l6
          cases e'
          simp only [List.head?_cons, Option.map_some, Option.some.injEq]
          exact ref_same h4 h3
theorem bor_cal {u : Value} {sp : Spec} (h : CalOk D u sp) : CalOk D u (borSp sp) :=
  fun X g Wx tk pins s σ H xs us Q I r w => h X g Wx tk pins s σ H xs us Q I r (bor_lift w)
theorem dn_ok {c : Str} {sp : Spec} (ok : BinOk D (compareOp .NotEq) (apSp (.ne c) sp)) : BinOk D (compareOp .NotEq) (apSp (.dn c) sp) := by
  intro X g Wx tk pins s σ H x y v u Q I rx ry h
  obtain ⟨c0, ws, S, P, XP, r, rp, w, k, kx⟩ := h
  rcases w with ⟨rfl, w⟩ | w
  · obtain ⟨w1, w2, ew, r1, r2⟩ := reps2 rp
    simp only [List.cons.injEq, and_true] at ew
    obtain ⟨rfl, rfl⟩ := ew
    refine op_cmp g.k g.hu .NotEq pins s σ H x y v u Q I rx ry (pr_cmpP (G := D.G) (S := S) r r1 r2 (P := P) ?_ k)
    exact ⟨.none, .none, rfl, rfl, rfl, rfl, w⟩
  · exact ok X g Wx tk pins s σ H x y v u Q I rx ry ⟨c0, ws, S, P, XP, r, rp, w, k, kx⟩
theorem ap_snd (d : DOk D) (g : GX D X) (tk : Takes X Wx) {k : Ap} {sp : Spec} {as : Es} {e : Expr} {es : List Expr} (ok : okA D k sp) (hs : subA X.env.scope k e = some es) (ha : PA X es (tEs D.G Wx as)) (ho : Ops D.G X Wx as es) :
    PE X e (tE D.G Wx (.ap k sp as)) ∧ (tstOk (.ap k sp as) e = true → PT X e (tT D.G Wx (.ap k sp as))) := by
  have hall := ops_all ho
  have plain : PE X e (tE D.G Wx (.ap k sp as)) → plainT e = true → PT X e (tT D.G Wx (.ap k sp as)) := fun h hp => (pt_val h (tru_ok' hp)).imp fun σ H Q w => tT_of w
  unfold subA at hs
  split at hs
  · split at hs
    · rename_i hop
      rw [Bool.and_eq_true, Bool.and_eq_true, decide_eq_true_eq] at hop
      obtain ⟨⟨rfl, hg⟩, hx⟩ := hop
      cases hs
      suffices h : PE X _ (tE D.G Wx (.ap (.fn _) sp as)) from ⟨h, plain h⟩
      exact ap_call g tk hg hx ok ha hall
    · cases hs
  · split at hs
    · rename_i hop
      rw [Bool.and_eq_true, Bool.and_eq_true, decide_eq_true_eq] at hop
      obtain ⟨⟨rfl, hg⟩, hx⟩ := hop
      cases hs
      suffices h : PE X _ (tE D.G Wx (.ap (.mk _) sp as)) from ⟨h, plain h⟩
      exact ap_call g tk hg hx ok ha hall
    · cases hs
  · split at hs
    · rename_i hop
      rw [Bool.and_eq_true, Bool.and_eq_true, decide_eq_true_eq] at hop
      obtain ⟨⟨rfl, hg⟩, hx⟩ := hop
      cases hs
      suffices h : PE X _ (tE D.G Wx (.ap (.mkm _) sp as)) from ⟨h, plain h⟩
      exact ap_call g tk hg hx ok ha hall
    · cases hs
  · split at hs
    · rename_i hop
      subst hop
      cases hs
      obtain ⟨a', r, rfl, pa, _, o⟩ := ops1 ho
      obtain ⟨b', r, rfl, pb, _, o⟩ := ops1 o
      obtain rfl := ops0 o
      suffices h : PE X _ (tE D.G Wx (.ap (.bo _ _) sp _)) from ⟨h, plain h⟩
      exact (pe_own g tk ok pa pb).imp fun σ H Q w => ttwo (tEs_ap w)
    · cases hs
  · split at hs
    · rename_i hop
      rw [Bool.and_eq_true, decide_eq_true_eq] at hop
      obtain ⟨rfl, hn⟩ := hop
      cases hs
      obtain ⟨a', r, rfl, pa, _, o⟩ := ops1 ho
      obtain ⟨b', r, rfl, pb, _, o⟩ := ops1 o
      obtain rfl := ops0 o
      have h := pc_own g tk ok pa pb
      exact ⟨(pe_cmp h (marks_ok hn)).imp fun σ H Q w => ttwo (tEs_ap w), fun _ => (pt_cmp h (marks_ok hn)).imp fun σ H Q w => ttwo (tT_ap w)⟩
    · cases hs
  · split at hs
    · rename_i hn
      cases hs
      obtain ⟨a', r, rfl, pa, _, o⟩ := ops1 ho
      obtain ⟨b', r, rfl, pb, _, o⟩ := ops1 o
      obtain rfl := ops0 o
      have h := pc_own g tk ok pa pb
      exact ⟨(pe_cmp h (marks_ok hn)).imp fun σ H Q w => ttwo (tEs_ap w), fun _ => (pt_cmp h (marks_ok hn)).imp fun σ H Q w => ttwo (tT_ap w)⟩
    · cases hs
  · split at hs
    · rename_i hn
      cases hs
      obtain ⟨a', r, rfl, pa, _, o⟩ := ops1 ho
      obtain ⟨b', r, rfl, pb, _, o⟩ := ops1 o
      obtain rfl := ops0 o
      have h := pc_own g tk (dn_ok ok) pa pb
      exact ⟨(pe_cmp h (marks_ok hn)).imp fun σ H Q w => ttwo (tEs_ap w), fun _ => (pt_cmp h (marks_ok hn)).imp fun σ H Q w => ttwo (tT_ap w)⟩
    · cases hs
  · split at hs
    · rename_i hop
      rw [Bool.and_eq_true, decide_eq_true_eq] at hop
      obtain ⟨rfl, hg⟩ := hop
      cases hs
      rw [List.all_cons, Bool.and_eq_true] at hall
      suffices h : PE X _ (tE D.G Wx (.ap (.ln _) sp as)) from ⟨h, plain h⟩
      exact ap_len d g tk hg ok ha hall.1
    · cases hs
  · split at hs
    · rename_i hop
      rw [Bool.and_eq_true, decide_eq_true_eq] at hop
      obtain ⟨rfl, hg⟩ := hop
      cases hs
      rw [List.all_cons, Bool.and_eq_true] at hall
      suffices h : PE X _ (tE D.G Wx (.ap (.st _) sp as)) from ⟨h, plain h⟩
      exact ap_str d g tk hg ok ha hall.1
    · cases hs
  · split at hs
    · rename_i hop
      rw [Bool.and_eq_true, Bool.and_eq_true, decide_eq_true_eq] at hop
      obtain ⟨⟨rfl, hg⟩, hx⟩ := hop
      cases hs
      suffices h : PE X _ (tE D.G Wx (.ap (.fb _) sp as)) from ⟨h, plain h⟩
      obtain ⟨u, h1, h2, h3⟩ := ok
      exact ap_call g tk hg hx ⟨u, h1, h2, bor_cal h3⟩ ha hall
    · cases hs
  · split at hs
    · rename_i hop
      rw [Bool.and_eq_true, Bool.and_eq_true, decide_eq_true_eq] at hop
      obtain ⟨⟨rfl, hg⟩, hx⟩ := hop
      cases hs
      suffices h : PE X _ (tE D.G Wx (.ap (.mb _) sp as)) from ⟨h, plain h⟩
      obtain ⟨u, h1, h2, h3⟩ := ok
      exact ap_call g tk hg hx ⟨u, h1, h2, bor_cal h3⟩ ha hall
    · cases hs
  · split at hs
    · rename_i hop
      simp only [Bool.and_eq_true, decide_eq_true_eq] at hop
      obtain ⟨⟨⟨⟨⟨rfl, rfl⟩, hg⟩, hx⟩, hl⟩, hn⟩ := hop
      cases hs
      suffices h : PE X _ (tE D.G Wx (.ap (.cm _ _) sp as)) from ⟨h, plain h⟩
      have hc := ok
      obtain ⟨mc, q, f, ⟨hm, hcs⟩, _⟩ := hc
      refine (pe_clsm g tk (gl_ok hg) hx ok ha hall hl hn).imp fun σ H Q w => (tEs_ap w).imp fun vs H1 z => ?_
      obtain ⟨c0, ws, S, P, XP, r, rp, w, k, kx⟩ := z
      refine ⟨c0, .im (.cls _) :: ws, S, P, XP, r, ⟨_, vs, rfl, ?_, rp⟩, w, k, kx⟩
      show Rep D.G c0 H1 (.cls _) _
      rw [Rep]
      exact ⟨rfl, hcs⟩
    · cases hs
  · cases hs
def RcvV (G : Gr) : Bm → V → Hp → Prop
  | .join, x, _ => ∃ s, x = .str s
  | .split, x, _ => ∃ s, x = .str s
  | _, x, H => ∃ a xs, x = .ref a ∧ SqL G.K H a xs
theorem tE_bm {m : Bm} {o : E} {as : Es} {Q : VK} (h : tE G Wx (.bm m o as) σ H Q) : tE G Wx o σ H fun x H1 => RcvV G m x H1 ∧ tEs G Wx as σ H1 fun vs H2 => rBm G m x vs H2 Q := by
  obtain ⟨c, ρ, S, P, XP, r, s, w, k, kx⟩ := h
  simp only [wpE] at w
  refine ⟨c, ρ, S, _, XP, r, s, w, fun x H1 c1 S1 w1 g1 r1 rp q => ⟨?_, ?_⟩, kx⟩
  · have q1 := q.1
    cases m <;> first
      | (obtain ⟨z, rfl⟩ := q1; exact ⟨z, rep_str rp⟩)
      | (obtain ⟨j, ws, rfl, hs⟩ := q1
         obtain ⟨a, hk, rfl⟩ := rp
         obtain ⟨vs, h1, _⟩ := r1.obj j _ a hs hk
         exact ⟨a, vs, rfl, .inl (.inl h1)⟩)
  · exact ⟨c1, ρ, S1, _, XP, r1, s.mono g1, q.2, fun vs H2 c2 S2 ws g2 r2 rp2 w2 => pr_bm r2 (RepW.mono g2 _ _ rp) rp2 w2 fun v H' c' S' u gg => k v H' c' S' u ((g1.trans g2).trans gg),
      fun cls d H' c' S' x gg => kx cls d H' c' S' x (g1.trans gg)⟩
theorem bm_snd (g : GX D X) {m : Bm} {o : E} {as : Es} {x : Expr} {es : List Expr} {ap cp : Pos} (hb : baseOk x = true) (hl : (ap.endLine == cp.line) = true) (hn : es.length = m.ar) (he : PE X x (tE D.G Wx o)) (ha : PA X es (tEs D.G Wx as)) (ho : Ops D.G X Wx as es) :
    PE X (.Call (.Attribute x m.nm ap) es [] cp) (tE D.G Wx (.bm m o as)) := by
  have hall := ops_all ho
  have hK := g.k
  have lst : ∀ {x : V} {H1 : Hp}, (∃ a xs, x = V.ref a ∧ SqL D.G.K H1 a xs) → tyV X.K "list" x H1 := by
    rintro x H1 ⟨a, xs, rfl, h⟩
    rw [hK]
    exact .inl ⟨rfl, xs, h⟩
  by_cases h0 : m = .pop0
  · subst h0
    have e0 : es = [] := List.length_eq_zero_iff.mp hn
    subst e0
    obtain rfl := ops0 ho
    exact (pe_bm0 PySem.F.plainAttrs_list PySem.F.slot_list_pop PySem.F.type_list_pop mt_pop he (ab_ok hb) hl).imp fun σ H Q w => (tE_bm w).imp fun x H1 q => ⟨lst q.1, tEs_nil q.2⟩
  · have hn1 : es.length = 1 := by
      rw [hn]
      cases m <;> first | rfl | exact absurd rfl h0
    obtain ⟨e, rfl⟩ : ∃ e, es = [e] := by
      match es, hn1 with
      | [e], _ => exact ⟨e, rfl⟩
    obtain ⟨a', r, rfl, pa, hs, o1⟩ := ops1 ho
    obtain rfl := ops0 o1
    have form : (((backTo cp (starEach [e] X.env)).all (!·.1) && (backToKw cp (keywordEach [] X.env)).all (·.1.isSome)) && decide ([e].length + ([] : List Keyword).length + (if ([] : List Keyword).isEmpty = true then 0 else 1) < 30)) = true := by
      rw [star_all hall]
      rfl
    cases m with
    | append => exact (pe_bm PySem.F.plainAttrs_list PySem.F.slot_list_append PySem.F.type_list_append mt_append he ha (ab_ok hb) form hl (star_cons hs) rfl).imp fun σ H Q w => (tE_bm w).imp fun x H1 q => ⟨lst q.1, q.2⟩
    | extend => exact (pe_bm PySem.F.plainAttrs_list PySem.F.slot_list_extend PySem.F.type_list_extend mt_extend he ha (ab_ok hb) form hl (star_cons hs) rfl).imp fun σ H Q w => (tE_bm w).imp fun x H1 q => ⟨lst q.1, q.2⟩
    | pop0 => exact absurd rfl h0
    | pop1 => exact (pe_bm PySem.F.plainAttrs_list PySem.F.slot_list_pop PySem.F.type_list_pop mt_popAt he ha (ab_ok hb) form hl (star_cons hs) rfl).imp fun σ H Q w => (tE_bm w).imp fun x H1 q => ⟨lst q.1, q.2⟩
    | join =>
      refine (pe_join he pa (star_cons hs) (ab_ok hb) hl).imp fun σ H Q w => (tE_bm w).imp fun x H1 q => ⟨q.1, (tone q.2).imp fun y H2 q2 => ?_⟩
      rw [hK]
      exact q2
    | split => exact (pe_split he pa (star_cons hs) (ab_ok hb) hl).imp fun σ H Q w => (tE_bm w).imp fun x H1 q => ⟨q.1, (tone q.2).imp fun y H2 q2 => q2⟩
end
end TW

namespace TW
open PySem PySem.Spec PyProof.Rows L2
section
variable {D : Gd} {X : Cx} {Wx : WX} {G : Gr} {σ : L2.St} {H : Hp}
theorem tE_chain {o1 o2 : CmpOp} {a b e : E} {Q : VK} (h : tE G Wx (.chain o1 o2 a b e) σ H Q) : tChain (rCmp G o1) (rCmp G o2) (tE G Wx a) (tE G Wx b) (tE G Wx e) σ H Q := by
  obtain ⟨c, ρ, S, P, XP, r, s, w, k, kx⟩ := h
  simp only [wpE] at w
  refine ⟨c, ρ, S, _, XP, r, s, w, fun x H1 c1 S1 w1 g1 r1 rp1 q1 => ?_, kx⟩
  refine ⟨c1, ρ, S1, _, XP, r1, s.mono g1, q1, fun y H2 c2 S2 w2 g2 r2 rp2 q2 => ?_, fun cls d H' c' S' x gg => kx cls d H' c' S' x (g1.trans gg)⟩
  refine pr_cmpP r2 (RepW.mono g2 _ _ rp1) rp2 q2 fun z H3 c3 S3 w3 g3 r3 rp3 q3 => ?_
  obtain ⟨kb, rfl, q3⟩ := q3
  refine ⟨kb, rep_bl rp3, ?_⟩
  have g03 := (g1.trans g2).trans g3
  cases kb
  · exact k _ H3 c3 S3 _ g03 r3 bl_rep q3
  · refine ⟨c3, ρ, S3, _, XP, r3, s.mono g03, q3, fun u H4 c4 S4 w4 g4 r4 rp4 q4 => ?_, fun cls d H' c' S' x gg => kx cls d H' c' S' x (g03.trans gg)⟩
    exact pr_cmpP r4 (RepW.mono (g3.trans g4) _ _ rp2) rp4 q4 fun v H' c' S' u gg => k v H' c' S' u ((g03.trans g4).trans gg)
/-- an own comparison that raises nothing -/
def rOwn (G : Gr) (sp : Spec) : R2 := fun x y H Q => liftV G sp (fun _ _ _ => False) [x, y] H Q
theorem op_own {o : CmpOp} {sp : Spec} (g : GX D X) (tk : Takes X Wx) (ok : BinOk D (compareOp o) sp) : OpR X (compareOp o) (rOwn D.G sp) := by
  intro pins s σ H x y v u Q I rx ry h
  obtain ⟨c, ws, S, P, XP, r, rp, w, k, kx⟩ := h
  exact ok X g Wx tk pins s σ H x y v u Q I rx ry ⟨c, ws, S, P, XP, r, rp, w, k, fun cls d H' c' S' x' a b e f => (kx cls d H' c' S' x' a b e f).elim⟩
theorem tE_cho {c0 : Str} {o1 o2 : CmpOp} {s1 s2 : Spec} {a b e : E} {Q : VK} (h : tE G Wx (.cho c0 o1 o2 s1 s2 a b e) σ H Q) : tChain (rOwn G (apSp (.co o1 c0) s1)) (rOwn G (apSp (.co o2 c0) s2)) (tE G Wx a) (tE G Wx b) (tE G Wx e) σ H Q := by
  obtain ⟨c, ρ, S, P, XP, r, s, w, k, kx⟩ := h
  simp only [wpE] at w
  refine ⟨c, ρ, S, _, XP, r, s, w, fun x H1 c1 S1 w1 g1 r1 rp1 q1 => ?_, kx⟩
  refine ⟨c1, ρ, S1, _, XP, r1, s.mono g1, q1, fun y H2 c2 S2 w2 g2 r2 rp2 q2 => ?_, fun cls d H' c' S' x gg => kx cls d H' c' S' x (g1.trans gg)⟩
  refine ⟨c2, [w1, w2], S2, _, _, r2, ⟨_, _, rfl, RepW.mono g2 _ _ rp1, _, _, rfl, rp2, rfl⟩, q2, fun z H3 c3 S3 w3 g3 r3 rp3 q3 => ?_, fun _ _ _ _ _ _ _ _ _ z => z⟩
  obtain ⟨kb, rfl, q3⟩ := q3
  refine ⟨kb, rep_bl rp3, ?_⟩
  have g03 := (g1.trans g2).trans g3
  cases kb
  · exact k _ H3 c3 S3 _ g03 r3 bl_rep q3
  · refine ⟨c3, ρ, S3, _, XP, r3, s.mono g03, q3, fun u H4 c4 S4 w4 g4 r4 rp4 q4 => ?_, fun cls d H' c' S' x gg => kx cls d H' c' S' x (g03.trans gg)⟩
    exact ⟨c4, [w2, w4], S4, _, _, r4, ⟨_, _, rfl, RepW.mono (g3.trans g4) _ _ rp2, _, _, rfl, rp4, rfl⟩, q4, fun v H' c' S' u gg => k v H' c' S' u ((g03.trans g4).trans gg), fun _ _ _ _ _ _ _ _ _ z => z⟩
theorem tE_sl2 {a l h : E} {Q : VK} (w : tE G Wx (.sl2 a l h) σ H Q) : tSl (rSl G) (tE G Wx a) (tPart (tE G Wx l)) (tPart (tE G Wx h)) σ H Q := by
  obtain ⟨c, ρ, S, P, XP, r, s, w, k, kx⟩ := w
  simp only [wpE] at w
  refine ⟨c, ρ, S, _, XP, r, s, w, fun x H1 c1 S1 w1 g1 r1 rp1 q1 => ?_, kx⟩
  refine ⟨c1, ρ, S1, _, XP, r1, s.mono g1, q1, fun y H2 c2 S2 w2 g2 r2 rp2 q2 => ?_, fun cls d H' c' S' x gg => kx cls d H' c' S' x (g1.trans gg)⟩
  obtain ⟨i, rfl, q2⟩ := q2
  refine ⟨i, rep_int rp2, ?_⟩
  have g02 := g1.trans g2
  refine ⟨c2, ρ, S2, _, XP, r2, s.mono g02, q2, fun z H3 c3 S3 w3 g3 r3 rp3 q3 => ?_, fun cls d H' c' S' x gg => kx cls d H' c' S' x (g02.trans gg)⟩
  obtain ⟨j, rfl, q3⟩ := q3
  refine ⟨j, rep_int rp3, ?_⟩
  exact slP_of r3 (RepW.mono (g2.trans g3) _ _ rp1) q3 fun v H' c' S' u gg => k v H' c' S' u ((g02.trans g3).trans gg)
/-- the tests of a comprehension: none or one -/
def tTs (G : Gr) (Wx : WX) (cond : Es) : TT := fun σ H Q => Lift G Wx σ H (fun ρ S P X => wpEs cond ρ S (fun bs S1 => ∃ b, (bs = [] ∧ b = true ∨ bs = [.im (.bl b)]) ∧ P b S1) X) (fun _ _ a b => a = b) Q
theorem tTs_nil {Q : Bool → Hp → Prop} (h : tTs G Wx .nil σ H Q) : tYes σ H Q := by
  obtain ⟨c, ρ, S, P, XP, r, s, w, k, kx⟩ := h
  simp only [wpEs] at w
  obtain ⟨b, e, q⟩ := w
  rcases e with ⟨_, rfl⟩ | e
  · exact k true H c S true .refl r rfl q
  · cases e
theorem tTs_one {e : E} {Q : Bool → Hp → Prop} (h : tTs G Wx (.cons e .nil) σ H Q) : tT G Wx e σ H Q := by
  obtain ⟨c, ρ, S, P, XP, r, s, w, k, kx⟩ := h
  simp only [wpEs] at w
  refine ⟨c, ρ, S, P, XP, r, s, ?_, k, kx⟩
  unfold wpT
  refine cast ?_ w
  congr 1
  funext u S1
  refine propext ⟨fun ⟨b, e, q⟩ => ?_, fun ⟨b, e, q⟩ => ⟨b, .inr (by rw [e]), q⟩⟩
  rcases e with ⟨e, _⟩ | e
  · cases e
  · cases e
    exact ⟨b, rfl, q⟩
theorem wipe_get : ∀ (vs : List Nat) (σ : L2.St) (j : Nat), (wipe σ vs)[j]? = if j ∈ vs then (if j < σ.length then some none else none) else σ[j]?
  | [], σ, j => by simp [wipe]
  | v :: vs, σ, j => by
    rw [wipe]
    by_cases e : v = j
    · subst e
      rw [if_pos (by simp)]
      by_cases hl : v < σ.length
      · rw [List.getElem?_set_self (by rw [wipe_length]; exact hl), if_pos hl]
      · rw [List.getElem?_eq_none (by rw [List.length_set, wipe_length]; omega), if_neg hl]
    · rw [List.getElem?_set_ne e, wipe_get vs σ j]
      have : (j ∈ v :: vs) ↔ j ∈ vs := by
        rw [List.mem_cons]
        exact ⟨fun h => h.resolve_left fun z => e z.symm, .inr⟩
      simp only [this]
theorem wipe_agree {l own : List Nat} {σ σ2 : L2.St} (hl : ∀ i ∈ l, i ∈ own) (ag : Agree l (wipe σ own) σ2) : wipe σ2 own = wipe σ own := by
  refine List.ext_getElem? fun j => ?_
  rw [wipe_get, wipe_get]
  have e1 : σ2.length = σ.length := by rw [ag.1, wipe_length]
  by_cases h : j ∈ own
  · rw [if_pos h, if_pos h, e1]
  · rw [if_neg h, if_neg h, ag.2 j fun z => h (hl j z), wipe_get, if_neg h]
/-- a comprehension, by its turns -/
theorem tE_lc {elt : E} {p : Pat} {it : It} {cond : Es} {own : List Nat} {Q : VK} (hown : ∀ i ∈ pslB p, i ∈ own) (h : tE G Wx (.lc elt p it cond own) σ H Q) :
    tLc (tI G Wx it) (gP G p) (tTs G (fun _ _ _ _ => False) cond) (tE G (fun _ _ _ _ => False) elt) own σ H Q := by
  obtain ⟨c, ρ, S, P, XP, r, s, w, k, kx⟩ := h
  simp only [wpE] at w
  refine ⟨c, ρ, S, _, XP, r, s, w, fun J H1 c1 S1 ts stab g1 r1 wk q D nD => ?_, kx⟩
  have D1 : D ∉ c1.hi := fun z => (r1.hid D z).1 nD
  refine ⟨fun i m H2 => m = ts.length - i ∧ i ≤ ts.length ∧ ∃ (cc : RC) (SS : Sto) (acc : List T) (vs : List V), Grow c1 H1 cc H2 ∧ D ∈ cc.hi ∧ RelS G cc H2 SS ∧ H2 D = some (.lst vs) ∧ Reps G cc H2 acc vs ∧
      lcW (wpE elt) (wpEs cond) p stab (ts.drop i) (wipeS ρ own) SS acc (fun rr S2 => P (.im (.lst rr)) S2),
    ⟨ts.length, by omega, Nat.zero_le _, c1.hide D, S1, [], [], Grow.hide r1 nD, by simp [RC.hide], r1.hide nD, upd_same, by rw [Reps], q⟩, ?_⟩
  rintro i m H2 ⟨rfl, hi, cc, SS, acc, vs, gc, hD, rc, eD, ra, q2⟩
  by_cases hlt : i < ts.length
  · -- a turn
    obtain ⟨t, ht⟩ : ∃ t, ts[i]? = some t := ⟨ts[i], List.getElem?_eq_getElem hlt⟩
    have hd : ts.drop i = t :: ts.drop (i + 1) := by
      rw [List.drop_eq_getElem_cons hlt]
      congr 1
      rw [List.getElem?_eq_getElem hlt] at ht
      exact Option.some.inj ht
    rw [hd, lcW] at q2
    obtain ⟨st, q2⟩ := q2
    obtain ⟨w1, w2, w3⟩ := wk cc H2 SS gc rc st
    refine .inr ⟨w1 i hlt, fun H' => ∃ m', m' < ts.length - i ∧ (m' = ts.length - (i + 1) ∧ i + 1 ≤ ts.length ∧ ∃ (cc : RC) (SS : Sto) (acc : List T) (vs : List V), Grow c1 H1 cc H' ∧ D ∈ cc.hi ∧ RelS G cc H' SS ∧ H' D = some (.lst vs) ∧ Reps G cc H' acc vs ∧
      lcW (wpE elt) (wpEs cond) p stab (ts.drop (i + 1)) (wipeS ρ own) SS acc (fun rr S2 => P (.im (.lst rr)) S2)), fun H' z => z, fun x H' y => ?_⟩
    obtain ⟨gy, ry, rp⟩ := w3 i t x H' ht y
    have eD' : H' D = some (.lst vs) := (gy.hi D hD).2.trans eD
    have sl : Slots G cc H' (wipe σ own) (wipeS ρ own) := (s.mono ((g1.trans gc).trans gy)).wipe own
    refine ⟨cc, wipeS ρ own, SS, t, _, ry, sl, rp, q2, fun σ2 ρ2 s2 ag q3 => ⟨wipe_agree hown ag, ?_⟩⟩
    refine ⟨cc, ρ2, SS, fun b S3 => if b = true then wpE elt ρ2 S3 (fun w S4 => ∃ x, w = .im x ∧ acc.length < sizeLine ∧ lcW (wpE elt) (wpEs cond) p stab (ts.drop (i + 1)) (wipeS ρ own) S4 (acc ++ [x]) (fun rr S2 => P (.im (.lst rr)) S2)) (fun _ _ => False)
      else lcW (wpE elt) (wpEs cond) p stab (ts.drop (i + 1)) (wipeS ρ own) S3 acc (fun rr S2 => P (.im (.lst rr)) S2), fun _ _ => False, ry, s2, q3, fun b H3 c3 S3 a g3 r3 e q4 => ?_, fun _ _ _ _ _ _ _ _ _ z => z⟩
    subst e
    have hD3 := (g3.hi D hD).1
    have eD3 : H3 D = some (.lst vs) := (g3.hi D hD).2.trans eD'
    have gall := (gc.trans gy).trans g3
    cases a with
    | false =>
      refine ⟨_, by omega, rfl, hlt, c3, S3, acc, vs, gall, hD3, r3, eD3, ?_, q4⟩
      exact (ra.mono gy).mono g3
    | true =>
      refine ⟨c3, ρ2, S3, _, fun _ _ => False, r3, s2.mono g3, q4, fun y H4 c4 S4 w4 g4 r4 rp4 q5 => ?_, fun _ _ _ _ _ _ _ _ _ z => z⟩
      obtain ⟨u, rfl, hl, q5⟩ := q5
      have hD4 := (g4.hi D hD3).1
      have eD4 : H4 D = some (.lst vs) := (g4.hi D hD3).2.trans eD3
      have ra4 : Reps G c4 H4 acc vs := ((ra.mono gy).mono g3).mono g4
      refine ⟨vs, eD4, by rw [ra.length]; exact hl, _, by omega, rfl, hlt, c4, S4, acc ++ [u], vs ++ [y], ?_, hD4, r4.hup hD4, upd_same, ?_, q5⟩
      · have g14 := gall.trans g4
        exact ⟨fun a o h n => ⟨by rw [upd_ne (ne_of_none h nD)]; exact (g14.im a o h n).1, (g14.im a o h n).2⟩, g14.mu, g14.be, fun a h => ⟨(g14.hi a h).1, by rw [upd_ne fun e => D1 (by rw [← e]; exact h)]; exact (g14.hi a h).2⟩⟩
      · refine Reps.mono0 (Grow0.hup hD4) _ _ (ra4.append ?_)
        rw [Reps]
        exact ⟨y, [], rfl, rp4, by rw [Reps]⟩
  · -- the end
    have e : i = ts.length := by omega
    subst e
    rw [List.drop_length, lcW] at q2
    obtain ⟨st, hl, q2⟩ := q2
    obtain ⟨w1, w2, w3⟩ := wk cc H2 SS gc rc st
    refine .inl ⟨w2, ?_⟩
    have hsub : ∀ a ∈ c1.hi, a ∈ cc.hi := fun a h => (gc.hi a h).1
    have u0 : Grow0 cc H2 ⟨cc.mu, cc.be, c1.hi⟩ H2 := Grow0.unhide hsub
    have gf : Grow c H ⟨cc.mu, cc.be, c1.hi⟩ H2 := by
      have g0 := g1.trans gc
      exact ⟨fun a o h n => ⟨(g0.im a o h n).1, (u0.im a _ (g0.im a o h n).1 (g0.im a o h n).2).2⟩, g0.mu, g0.be, fun a h => ⟨(g1.hi a h).1, (g0.hi a h).2⟩⟩
    refine k _ H2 _ SS _ gf (rc.unhide hsub) ?_ q2
    show Rep G _ H2 (.lst acc) (.ref D)
    rw [Rep]
    refine ⟨D, vs, rfl, fun m => ?_, eD, Reps.mono0 u0 _ _ ra⟩
    rcases m with m | ⟨g, hg, m⟩ | m
    · exact (rc.hid D hD).2.1 m
    · obtain ⟨j, hj, e⟩ := List.getElem_of_mem hg
      exact (rc.hid D hD).2.2 j g (by rw [List.getElem?_eq_getElem hj, e]) m
    · exact D1 m
end
end TW

namespace TW
open PySem PySem.Spec PyProof.Rows L2
theorem con_ok {t : T} {k : Const} (h : conB t k = true) : ∃ v, (∀ (G : Gr) c H, Rep G c H t v) ∧ ∀ (X : Cx) j pos, PE X (.Constant k j pos) (tC v) := by
  cases t <;> cases k <;> first
    | (cases h; done)
    | exact ⟨.non, fun G c H => by rw [Rep], fun X j pos => pe_non⟩
    | (have e := beq_iff_eq.mp h; subst e; exact ⟨.bl _, fun G c H => by rw [Rep], fun X j pos => pe_bl⟩)
    | (have e := beq_iff_eq.mp h; subst e; exact ⟨.int _, fun G c H => by rw [Rep], fun X j pos => pe_int⟩)
    | (have e := of_decide_eq_true h; subst e; exact ⟨.str _, fun G c H => by rw [Rep], fun X j pos => pe_str⟩)
theorem boot_ty : ∀ n ∈ ["int", "bool", "str", "list", "tuple"], bootBuiltins (Str.ofString n) = some (.type n) ∧ Str.ofString n ∈ blts := by decide +kernel
section
variable {D : Gd}
theorem glo_ok' (d : DOk D) {X : Cx} (g : GX D X) {x : Str} {t : T} {pos : Pos} (hg : glB X.env.scope x = true) (hx : okName x = true) (hb : gloB t x = true) (ok : okG D x t) : ∃ v, (∀ c H, Rep D.G c H t v) ∧ PE X (.Name x pos) (tC v) := by
  cases t with
  | ty n =>
    unfold gloB at hb
    rw [Bool.and_eq_true, decide_eq_true_eq] at hb
    obtain ⟨rfl, hn⟩ := hb
    have hm : n ∈ ["int", "bool", "str", "list", "tuple"] := by
      simp only [Bool.or_eq_true, beq_iff_eq] at hn
      simp
      rcases hn with (((h | h) | h) | h) | h <;> simp [h]
    obtain ⟨b1, b2⟩ := boot_ty n hm
    exact ⟨.ty n, fun c H => by rw [Rep], pe_bltn (gl_ok hg) (by rw [g.mg]; exact d.blt _ b2) b1 rfl (okN3 hx) (okN1 hx)⟩
  | cls c =>
    obtain rfl : x = c := of_decide_eq_true hb
    exact ⟨.ref (D.G.cl x), fun c H => by rw [Rep]; exact ⟨rfl, ok.2⟩, pe_glob (gl_ok hg) (by rw [g.mg]; exact ok.1) rfl (okN1 hx)⟩
  | str z =>
    obtain ⟨t, e⟩ := ok
    exact ⟨.str z, fun c H => by rw [Rep], pe_glob (gl_ok hg) (by rw [g.mg]; exact e) ⟨t, rfl⟩ (okN1 hx)⟩
  | int z =>
    obtain ⟨t, e⟩ := ok
    exact ⟨.int z, fun c H => by rw [Rep], pe_glob (gl_ok hg) (by rw [g.mg]; exact e) ⟨t, rfl⟩ (okN1 hx)⟩
  | _ => cases ok
theorem andB {a b : Bool} (h : (a && b) = true) : a = true ∧ b = true := Bool.and_eq_true_iff.mp h
theorem own_ok {N : List Str} {own : List Nat} : (ownOf N own).map (·.2) = own := by
  unfold ownOf
  rw [List.map_map]
  exact List.map_id own
theorem blk_scope {X : Cx} {s : Shared} {H : Hp} {scope : Scope} {cl : List (Str × Addr)} {C : Addr} {fp : List Addr} : (X.blk s H scope (compEnvC scope cl C X.env) fp).env.scope = relS scope X.env.scope := rfl
/-- the plain way from a value to its test -/
theorem both {X : Cx} {Wx : WX} {e : Expr} {ir : E} (h : PE X e (tE D.G Wx ir)) (ht : tstOk ir e = true → plainT e = true) : PE X e (tE D.G Wx ir) ∧ (tstOk ir e = true → PT X e (tT D.G Wx ir)) :=
  ⟨h, fun hp => (pt_val h (tru_ok' (ht hp))).imp fun σ H Q w => tT_of w⟩
theorem pr_cmpT {X : Cx} {Wx : WX} (g : GX D X) {op : CmpOp} {as : Es} {e : Expr} {es : List Expr} (hs : subP X.env.scope (.cmp op) e = some es) (ho : Ops D.G X Wx as es) : PT X e (tT D.G Wx (.pr (.cmp op) as)) := by
  cases e with
  | Compare a ops bs pos =>
    match ops, bs, hs with
    | [op'], [b], hs =>
      rw [subP] at hs
      split at hs
      · rename_i hop
        rw [Bool.and_eq_true, decide_eq_true_eq] at hop
        obtain ⟨rfl, hn⟩ := hop
        cases hs
        obtain ⟨a', r, rfl, pa, _, o⟩ := ops1 ho
        obtain ⟨b', r, rfl, pb, _, o⟩ := ops1 o
        obtain rfl := ops0 o
        exact (pt_cmpR (op_cmp g.k g.hu _) pa pb (marks_ok hn)).imp fun σ H Q h => (ttwo (tEs_pr (tT_of h))).imp fun x H1 h1 => h1.imp fun y H2 h2 => pr_cmp h2
      · cases hs
    | [], _, hs => simp [subP] at hs
    | _ :: _ :: _, _, hs => simp [subP] at hs
    | [_], [], hs => simp [subP] at hs
    | [_], _ :: _ :: _, hs => simp [subP] at hs
  | _ => simp [subP] at hs
/-- a chain of and, or: whatever its whole is -/
theorem pw_of {X : Cx} {op : BoolOp} {vs : List Expr} {p : Pos} {t : TT} (h : PT X (.BoolOp op vs p) t) : PW X (.BoolOp op vs p) t := ⟨fun wh pins s σ H Q I w => h.run pins s σ H Q I w⟩
theorem tEs_star {G : Gr} {Wx : WX} {σ : L2.St} {H : Hp} {a : E} {r : Es} {Q : List V → Hp → Prop} (h : tEs G Wx (.star a r) σ H Q) : StX.tStar G.K (tE G Wx a) (tEs G Wx r) σ H Q := by
  obtain ⟨c, ρ, S, P, XP, rr, s, w, k, kx⟩ := h
  simp only [wpEs] at w
  refine ⟨c, ρ, S, _, XP, rr, s, w, fun x H1 c1 S1 w1 g1 r1 rp q => ?_, kx⟩
  obtain ⟨ts, e, q⟩ := q
  obtain ⟨p, vs, rfl, h1, h2⟩ := rd_seq r1 rp e
  refine ⟨p, vs, rfl, h1.symm, c1, ρ, S1, _, XP, r1, s.mono g1, q, fun ys H2 c2 S2 ws g2 r2 rp2 q2 => ?_, fun cls d H' c' S' x gg => kx cls d H' c' S' x (g1.trans gg)⟩
  exact k _ H2 c2 S2 _ (g1.trans g2) r2 ((RepWs.mono g2 _ _ h2.ws).append rp2) q2
theorem tI_seq {G : Gr} {Wx : WX} {σ : L2.St} {H : Hp} {e : E} {R : L2.It → Hp → Prop} (h : tI G Wx (.seq e) σ H R) : iSeqA G.K (tE G Wx e) σ H R := by
  obtain ⟨c, ρ, S, P, XP, rr, s, w, k, kx⟩ := h
  simp only [wpI] at w
  refine ⟨c, ρ, S, _, XP, rr, s, w, fun x H1 c1 S1 w1 g1 r1 rp q => ?_, kx⟩
  obtain ⟨ts, e, q⟩ := q
  obtain ⟨a, rfl, ⟨⟨xs, h1⟩, h2⟩ | ⟨⟨xs, h1⟩, h2⟩⟩ := seq_later r1 rp e
  · exact ⟨a, xs, rfl, .inl ⟨h1, k _ H1 c1 S1 ts _ g1 r1 (walk_seqL h2) q⟩⟩
  · exact ⟨a, xs, rfl, .inr ⟨h1, k _ H1 c1 S1 ts _ g1 r1 (walk_seqT h2) q⟩⟩
theorem tI_enm {G : Gr} {Wx : WX} {σ : L2.St} {H : Hp} {e : E} {R : L2.It → Hp → Prop} (h : tI G Wx (.enm e) σ H R) : iEnumA G.K (tEs G Wx (.cons e .nil)) σ H R := by
  obtain ⟨c, ρ, S, P, XP, rr, s, w, k, kx⟩ := h
  simp only [wpI] at w
  refine ⟨c, ρ, S, fun ws S1 => ∃ w, ws = [w] ∧ ∃ ts, seqOf S1 w = some ts ∧ P (ts.zipIdx.map fun p => T.tup [.int (p.2 : Int), p.1]) (stabW S1 w) S1, XP, rr, s, ?_, fun vs H1 c1 S1 ws g1 r1 rp q => ?_, kx⟩
  · simp only [wpEs]
    refine cast ?_ w
    congr 1
    funext u S1
    exact propext ⟨fun q => ⟨u, rfl, q⟩, fun ⟨u', e, q⟩ => by cases e; exact q⟩
  · obtain ⟨w1, rfl, ts, e, q⟩ := q
    obtain ⟨v, r, rfl, rp1, z⟩ := repsV1 rp
    obtain rfl := repsV0 z
    obtain ⟨a, rfl, ⟨⟨xs, h1⟩, h2⟩ | ⟨⟨xs, h1⟩, h2⟩⟩ := seq_later r1 rp1 e
    · exact ⟨a, xs, rfl, .inl ⟨h1, k _ H1 c1 S1 _ _ g1 r1 (walk_enumL h2) q⟩⟩
    · exact ⟨a, xs, rfl, .inr ⟨h1, k _ H1 c1 S1 _ _ g1 r1 (walk_enumT h2) q⟩⟩
theorem lst_later {G : Gr} {c0 : RC} {H0 : Hp} {S0 : Sto} {w : W} {v : V} {ts : List T} (r0 : RelS G c0 H0 S0) (rp : RepW G c0 H0 w v) (e : lstOf S0 w = some ts) : ∃ a xs, v = .ref a ∧ SqL G.K H0 a xs ∧
    (∀ (c : RC) (H : Hp) (S : Sto), Grow c0 H0 c H → RelS G c H S → stabW S0 w S → ∃ vs, SqL G.K H a vs ∧ Reps G c H ts vs) := by
  obtain ⟨a, vs, rfl, h1, h2⟩ := rd_lst r0 rp e
  refine ⟨a, vs, rfl, h1, fun c H S g r st => ?_⟩
  have e3 : lstOf S w = some ts := by
    cases w with
    | im t => cases t <;> exact e
    | mr k =>
      have st : S[k]? = S0[k]? := st
      have e : (match S0[k]? with | some (.lst ws) => imAll ws | _ => none) = some ts := e
      show (match S[k]? with | some (.lst ws) => imAll ws | _ => none) = some ts
      rw [st]
      exact e
    | src j => exact e
  obtain ⟨a', vs', e, h3, h4⟩ := rd_lst r (RepW.mono g _ _ rp) e3
  cases e
  exact ⟨vs', h3, h4⟩
theorem tI_zip {G : Gr} {Wx : WX} {σ : L2.St} {H : Hp} {a b : E} {R : L2.It → Hp → Prop} (h : tI G Wx (.zip a b) σ H R) : iZip G.K (tEs G Wx (.cons a (.cons b .nil))) σ H R := by
  obtain ⟨c, ρ, S, P, XP, rr, s, w, k, kx⟩ := h
  simp only [wpI] at w
  refine ⟨c, ρ, S, fun ws S2 => ∃ w w', ws = [w, w'] ∧ ∃ ts us, lstOf S2 w = some ts ∧ lstOf S2 w' = some us ∧ P ((ts.zip us).map fun p => T.tup [p.1, p.2]) (fun S3 => stabW S2 w S3 ∧ stabW S2 w' S3) S2, XP, rr, s, ?_, fun vs H1 c1 S1 ws g1 r1 rp q => ?_, kx⟩
  · simp only [wpEs]
    refine cast ?_ w
    congr 1
    funext u S1
    congr 1
    funext u2 S2
    exact propext ⟨fun q => ⟨u, u2, rfl, q⟩, fun ⟨u', u2', e, q⟩ => by cases e; exact q⟩
  · obtain ⟨w1, w2, rfl, ts, us, e, e', q⟩ := q
    obtain ⟨v, r, rfl, rp1, z⟩ := repsV1 rp
    obtain ⟨v', r, rfl, rp2, z⟩ := repsV1 z
    obtain rfl := repsV0 z
    obtain ⟨x, xs, rfl, h1, h2⟩ := lst_later r1 rp1 e
    obtain ⟨y, ys, rfl, h3, h4⟩ := lst_later r1 rp2 e'
    exact ⟨x, y, xs, ys, rfl, h1, h3, k _ H1 c1 S1 _ _ g1 r1 (walk_zipL (fun c H S g r st => h2 c H S g r st.1) (fun c H S g r st => h4 c H S g r st.2)) q⟩
theorem tI_rng {G : Gr} {Wx : WX} {σ : L2.St} {H : Hp} {e : E} {R : L2.It → Hp → Prop} (h : tI G Wx (.rng e) σ H R) : iRng1 (tEs G Wx (.cons e .nil)) σ H R := by
  obtain ⟨c, ρ, S, P, XP, rr, s, w, k, kx⟩ := h
  simp only [wpI] at w
  refine ⟨c, ρ, S, fun ws S1 => ∃ j : Int, ws = [.im (.int j)] ∧ -(2 ^ 62) ≤ j ∧ j < 2 ^ 62 ∧ P ((List.range j.toNat).map fun (k : Nat) => T.int (k : Int)) (fun _ => True) S1, XP, rr, s, ?_, fun vs H1 c1 S1 ws g1 r1 rp q => ?_, kx⟩
  · simp only [wpEs]
    refine cast ?_ w
    congr 1
    funext u S1
    exact propext ⟨fun ⟨j, e, q⟩ => ⟨j, by rw [e], q⟩, fun ⟨j, e, q⟩ => ⟨j, by cases e; rfl, q⟩⟩
  · obtain ⟨j, rfl, b1, b2, q⟩ := q
    obtain ⟨v, r, rfl, rp1, z⟩ := repsV1 rp
    obtain rfl := repsV0 z
    cases rep_int rp1
    have wk := walk_rng (G := G) (lo := 0) (n := j.toNat) (stab := fun _ => True) (c0 := c1) (H0 := H1)
    simp only [Int.zero_add] at wk
    exact ⟨j, rfl, b1, b2, k _ H1 c1 S1 _ _ g1 r1 wk q⟩
theorem tI_rng2 {G : Gr} {Wx : WX} {σ : L2.St} {H : Hp} {a b : E} {R : L2.It → Hp → Prop} (h : tI G Wx (.rng2 a b) σ H R) : iRng2 (tEs G Wx (.cons a (.cons b .nil))) σ H R := by
  obtain ⟨c, ρ, S, P, XP, rr, s, w, k, kx⟩ := h
  simp only [wpI] at w
  refine ⟨c, ρ, S, fun ws S2 => ∃ i j : Int, ws = [.im (.int i), .im (.int j)] ∧ (-(2 ^ 62) ≤ i ∧ i < 2 ^ 62 ∧ -(2 ^ 62) ≤ j ∧ j < 2 ^ 62) ∧ P ((List.range (j - i).toNat).map fun (k : Nat) => T.int (i + (k : Int))) (fun _ => True) S2, XP, rr, s, ?_, fun vs H1 c1 S1 ws g1 r1 rp q => ?_, kx⟩
  · simp only [wpEs]
    refine cast ?_ w
    congr 1
    funext u S1
    congr 1
    funext u2 S2
    exact propext ⟨fun ⟨i, j, e, e', q⟩ => ⟨i, j, by rw [e, e'], q⟩, fun ⟨i, j, e, q⟩ => ⟨i, j, by cases e; rfl, by cases e; rfl, q⟩⟩
  · obtain ⟨i, j, rfl, b1, q⟩ := q
    obtain ⟨v, r, rfl, rp1, z⟩ := repsV1 rp
    obtain ⟨v', r, rfl, rp2, z⟩ := repsV1 z
    obtain rfl := repsV0 z
    cases rep_int rp1; cases rep_int rp2
    exact ⟨i, j, rfl, b1, k _ H1 c1 S1 _ _ g1 r1 walk_rng q⟩
theorem tI_chars {G : Gr} {Wx : WX} {σ : L2.St} {H : Hp} {e : E} {R : L2.It → Hp → Prop} (h : tI G Wx (.chars e) σ H R) : iStr (tE G Wx e) σ H R := by
  obtain ⟨c, ρ, S, P, XP, rr, s, w, k, kx⟩ := h
  simp only [wpI] at w
  refine ⟨c, ρ, S, _, XP, rr, s, w, fun x H1 c1 S1 w1 g1 r1 rp q => ?_, kx⟩
  obtain ⟨z, rfl, q⟩ := q
  cases rep_str rp
  exact ⟨z, rfl, k _ H1 c1 S1 _ _ g1 r1 walk_chars q⟩
mutual
theorem sndE (d : DOk D) : ∀ (ir : E) (e : Expr) (X : Cx) (Wx : WX), GX D X → Takes X Wx → chkE X.N X.env.scope ir e = true → okE D ir → PE X e (tE D.G Wx ir) ∧ (tstOk ir e = true → PT X e (tT D.G Wx ir))
  | .var i, e, X, Wx, g, tk, h, ok => by
    cases e with
    | Name x pos =>
      rw [chkE] at h
      obtain ⟨h, hx⟩ := andB h
      obtain ⟨hi, hv⟩ := andB h
      exact both ((pe_var (of_decide_eq_true hi) (vis_ok hv) (okN1 hx) (okN2 hx)).imp fun σ H Q w => tE_var w) fun _ => rfl
    | _ => simp [chkE] at h
  | .con t, e, X, Wx, g, tk, h, ok => by
    cases e with
    | Constant k j pos =>
      rw [chkE] at h
      obtain ⟨v, hv, hp⟩ := con_ok h
      exact both ((hp X j pos).imp fun σ H Q w => tE_con w (hv D.G)) fun _ => rfl
    | _ => simp [chkE] at h
  | .glo x t, e, X, Wx, g, tk, h, ok => by
    cases e with
    | Name x' pos =>
      rw [chkE] at h
      obtain ⟨h, hb⟩ := andB h
      obtain ⟨h, hx⟩ := andB h
      obtain ⟨h, hg⟩ := andB h
      obtain rfl := of_decide_eq_true h
      rw [okE] at ok
      obtain ⟨v, hv, hp⟩ := glo_ok' d g (pos := pos) hg hx hb ok
      exact both (hp.imp fun σ H Q w => tE_glo w hv) fun _ => rfl
    | _ => simp [chkE] at h
  | .pr p as, e, X, Wx, g, tk, h, ok => by
    rw [chkE] at h
    rw [okE] at ok
    cases hs : subP X.env.scope p e with
    | none => rw [hs] at h; cases h
    | some es =>
      rw [hs] at h
      obtain ⟨ha, ho⟩ := sndEs d as es (starOk p) X Wx g tk h ok
      have hp := pr_snd d g hs ha fun z => ho z
      cases p with
      | cmp op => exact ⟨hp, fun _ => pr_cmpT g hs (ho rfl)⟩
      | _ => exact both hp fun z => z
  | .ap k sp as, e, X, Wx, g, tk, h, ok => by
    rw [chkE] at h
    rw [okE] at ok
    cases hs : subA X.env.scope k e with
    | none => rw [hs] at h; cases h
    | some es =>
      rw [hs] at h
      obtain ⟨ha, ho⟩ := sndEs d as es false X Wx g tk h ok.2
      exact ap_snd d g tk ok.1 hs ha (ho rfl)
  | .sl2 a l u, e, X, Wx, g, tk, h, ok => by
    cases e with
    | Subscript x i pos =>
      cases i with
      | Slice lo hi st p =>
        match lo, hi, st, h with
        | some y, some z, none, h =>
          rw [chkE] at h
          rw [okE] at ok
          obtain ⟨h, h3⟩ := andB h
          obtain ⟨h1, h2⟩ := andB h
          obtain ⟨p1, _⟩ := sndE d a x X Wx g tk h1 ok.1
          obtain ⟨p2, _⟩ := sndE d l y X Wx g tk h2 ok.2.1
          obtain ⟨p3, _⟩ := sndE d u z X Wx g tk h3 ok.2.2
          exact both ((pe_slice (sl_any g.k) p1 (po_some p2) (po_some p3)).imp fun σ H Q w => tE_sl2 w) fun _ => rfl
        | none, _, _, h => simp [chkE] at h
        | some _, none, _, h => simp [chkE] at h
        | some _, some _, some _, h => simp [chkE] at h
      | _ => simp [chkE] at h
    | _ => simp [chkE] at h
  | .bm m o as, e, X, Wx, g, tk, h, ok => by
    cases e with
    | Call f es ks cp =>
      cases f with
      | Attribute x f ap =>
        cases ks with
        | nil =>
          rw [chkE] at h
          rw [okE] at ok
          obtain ⟨h, h6⟩ := andB h
          obtain ⟨h, h5⟩ := andB h
          obtain ⟨h, h4⟩ := andB h
          obtain ⟨h, h3⟩ := andB h
          obtain ⟨h1, h2⟩ := andB h
          obtain rfl := of_decide_eq_true h1
          obtain ⟨p1, _⟩ := sndE d o x X Wx g tk h5 ok.1
          obtain ⟨p2, o2⟩ := sndEs d as es false X Wx g tk h6 ok.2
          exact both (bm_snd g h2 h3 (of_decide_eq_true h4) p1 p2 (o2 rfl)) fun _ => rfl
        | cons _ _ => simp [chkE] at h
      | _ => simp [chkE] at h
    | _ => simp [chkE] at h
  | .me c m sp o as, e, X, Wx, g, tk, h, ok => by
    cases e with
    | Call f es ks cp =>
      cases f with
      | Attribute x f ap =>
        cases ks with
        | nil =>
          rw [chkE] at h
          rw [okE] at ok
          obtain ⟨h, h6⟩ := andB h
          obtain ⟨h, h5⟩ := andB h
          obtain ⟨h, h4⟩ := andB h
          obtain ⟨h, h3⟩ := andB h
          obtain ⟨h1, h2⟩ := andB h
          obtain rfl := of_decide_eq_true h1
          obtain ⟨p1, _⟩ := sndE d o x X Wx g tk h5 ok.2.1
          obtain ⟨p2, o2⟩ := sndEs d as es false X Wx g tk h6 ok.2.2
          have o3 := o2 rfl
          exact both (pe_method g tk ok.1 p1 p2 h2 (ops_all o3) h3 (of_decide_eq_true h4) fun z => by subst z; exact ops0 o3) fun _ => rfl
        | cons _ _ => simp [chkE] at h
      | _ => simp [chkE] at h
    | _ => simp [chkE] at h
  | .ic c sp o as, e, X, Wx, g, tk, h, ok => by
    cases o with
    | var i =>
      cases e with
      | Call f es ks cp =>
        cases f with
        | Name x p =>
          match es, ks, h with
          | e :: es, [], h =>
            rw [chkE] at h
            rw [okE] at ok
            obtain ⟨h, h4⟩ := andB h
            obtain ⟨h, h3⟩ := andB h
            obtain ⟨h1, h2⟩ := andB h
            have p1 : PE X (.Name x p) (tE D.G Wx (.var i)) := (pe_var (of_decide_eq_true h1) (vis_ok h2) (okN1 h3) (okN2 h3)).imp fun σ H Q w => tE_var w
            obtain ⟨p2, o2⟩ := sndEs d as (e :: es) false X Wx g tk h4 ok.2.2
            exact both (pe_inst g tk ok.1 p1 p2 (ops_all (o2 rfl)) rfl) fun _ => rfl
          | [], _, h => simp [chkE] at h
          | _ :: _, _ :: _, h => simp [chkE] at h
        | _ => simp [chkE] at h
      | _ => simp [chkE] at h
    | _ => simp [chkE] at h
  | .vc c sp o as, e, X, Wx, g, tk, h, ok => by
    cases o with
    | var i =>
      cases e with
      | Call f es ks cp =>
        cases f with
        | Name x p =>
          match es, ks, h with
          | e :: es, [], h =>
            rw [chkE] at h
            rw [okE] at ok
            obtain ⟨h, h4⟩ := andB h
            obtain ⟨h, h3⟩ := andB h
            obtain ⟨h1, h2⟩ := andB h
            have p1 : PE X (.Name x p) (tE D.G Wx (.var i)) := (pe_var (of_decide_eq_true h1) (vis_ok h2) (okN1 h3) (okN2 h3)).imp fun σ H Q w => tE_var w
            obtain ⟨p2, o2⟩ := sndEs d as (e :: es) false X Wx g tk h4 ok.2.2
            exact both (pe_cls g tk ok.1 p1 p2 (ops_all (o2 rfl)) rfl) fun _ => rfl
          | [], _, h => simp [chkE] at h
          | _ :: _, _ :: _, h => simp [chkE] at h
        | _ => simp [chkE] at h
      | _ => simp [chkE] at h
    | _ => simp [chkE] at h
  | .and a b, e, X, Wx, g, tk, h, ok => by
    cases e with
    | BoolOp op vs p =>
      match op, vs, h with
      | .And, [x, y], h =>
        rw [chkE] at h
        rw [okE] at ok
        obtain ⟨h1, h2⟩ := andB h
        obtain ⟨p1, t1⟩ := sndE d a x X Wx g tk h1 ok.1
        obtain ⟨p2, t2⟩ := sndE d b y X Wx g tk h2 ok.2
        refine ⟨(pe_and p1 (pe_one p2)).imp fun σ H Q w => tE_and w, fun ht => ?_⟩
        rw [tstOk] at ht
        obtain ⟨h3, h4⟩ := andB ht
        exact (pw_and (t1 h3) (pw_and1 (t2 h4))).pt.imp fun σ H Q w => tT_and w
      | .And, x :: y :: z :: r, h =>
        simp only [chkE] at h
        rw [okE] at ok
        obtain ⟨h1, h2⟩ := andB h
        obtain ⟨p1, t1⟩ := sndE d a x X Wx g tk h1 ok.1
        obtain ⟨p2, t2⟩ := sndE d b (.BoolOp .And (y :: z :: r) p) X Wx g tk h2 ok.2
        refine ⟨(pe_and p1 p2).imp fun σ H Q w => tE_and w, fun ht => ?_⟩
        simp only [tstOk] at ht
        obtain ⟨h3, h4⟩ := andB ht
        exact (pw_and (t1 h3) (pw_of (t2 h4))).pt.imp fun σ H Q w => tT_and w
      | .And, [], h => simp [chkE] at h
      | .And, [_], h => simp [chkE] at h
      | .Or, _, h => simp [chkE] at h
    | _ => simp [chkE] at h
  | .or a b, e, X, Wx, g, tk, h, ok => by
    cases e with
    | BoolOp op vs p =>
      match op, vs, h with
      | .Or, [x, y], h =>
        rw [chkE] at h
        rw [okE] at ok
        obtain ⟨h1, h2⟩ := andB h
        obtain ⟨p1, t1⟩ := sndE d a x X Wx g tk h1 ok.1
        obtain ⟨p2, t2⟩ := sndE d b y X Wx g tk h2 ok.2
        refine ⟨(pe_or p1 (pe_one p2)).imp fun σ H Q w => tE_or w, fun ht => ?_⟩
        rw [tstOk] at ht
        obtain ⟨h3, h4⟩ := andB ht
        exact (pw_or (t1 h3) (pw_or1 (t2 h4))).pt.imp fun σ H Q w => tT_or w
      | .Or, x :: y :: z :: r, h =>
        simp only [chkE] at h
        rw [okE] at ok
        obtain ⟨h1, h2⟩ := andB h
        obtain ⟨p1, t1⟩ := sndE d a x X Wx g tk h1 ok.1
        obtain ⟨p2, t2⟩ := sndE d b (.BoolOp .Or (y :: z :: r) p) X Wx g tk h2 ok.2
        refine ⟨(pe_or p1 p2).imp fun σ H Q w => tE_or w, fun ht => ?_⟩
        simp only [tstOk] at ht
        obtain ⟨h3, h4⟩ := andB ht
        exact (pw_or (t1 h3) (pw_of (t2 h4))).pt.imp fun σ H Q w => tT_or w
      | .Or, [], h => simp [chkE] at h
      | .Or, [_], h => simp [chkE] at h
      | .And, _, h => simp [chkE] at h
    | _ => simp [chkE] at h
  | .not a, e, X, Wx, g, tk, h, ok => by
    cases e with
    | UnaryOp op x p =>
      cases op with
      | Not =>
        rw [chkE] at h
        rw [okE] at ok
        obtain ⟨p1, t1⟩ := sndE d a x X Wx g tk h ok
        refine ⟨(pe_not p1).imp fun σ H Q w => tE_not w, fun ht => ?_⟩
        rw [tstOk] at ht
        exact (pt_not (t1 ht)).imp fun σ H Q w => tT_not w
      | _ => simp [chkE] at h
    | _ => simp [chkE] at h
  | .ife c a b, e, X, Wx, g, tk, h, ok => by
    cases e with
    | IfExp x y z p =>
      rw [chkE] at h
      rw [okE] at ok
      obtain ⟨h, h4⟩ := andB h
      obtain ⟨h, h3⟩ := andB h
      obtain ⟨h1, h2⟩ := andB h
      obtain ⟨_, t1⟩ := sndE d c x X Wx g tk h1 ok.1
      obtain ⟨p2, _⟩ := sndE d a y X Wx g tk h3 ok.2.1
      obtain ⟨p3, _⟩ := sndE d b z X Wx g tk h4 ok.2.2
      exact both ((pe_ifExp (t1 h2) p2 p3).imp fun σ H Q w => tE_ife w) fun z => z
    | _ => simp [chkE] at h
  | .chain o1 o2 a b c, e, X, Wx, g, tk, h, ok => by
    cases e with
    | Compare x ops cs p =>
      match ops, cs, h with
      | [p1, p2], [y, z], h =>
        rw [chkE] at h
        rw [okE] at ok
        obtain ⟨h, h6⟩ := andB h
        obtain ⟨h, h5⟩ := andB h
        obtain ⟨h, h4⟩ := andB h
        obtain ⟨h, h3⟩ := andB h
        obtain ⟨h1, h2⟩ := andB h
        obtain rfl := of_decide_eq_true h1
        obtain rfl := of_decide_eq_true h2
        obtain ⟨q1, _⟩ := sndE d a x X Wx g tk h4 ok.1
        obtain ⟨q2, _⟩ := sndE d b y X Wx g tk h5 ok.2.1
        obtain ⟨q3, _⟩ := sndE d c z X Wx g tk h6 ok.2.2
        exact ⟨(pe_chain (op_cmp g.k g.hu _) (op_cmp g.k g.hu _) q1 q2 q3 (marks2_ok h3)).imp fun σ H Q w => tE_chain w, fun _ => (pt_chain (op_cmp g.k g.hu _) (op_cmp g.k g.hu _) q1 q2 q3 (marks2_ok h3)).imp fun σ H Q w => tE_chain (tT_of w)⟩
      | [], _, h => simp [chkE] at h
      | [_], _, h => simp [chkE] at h
      | _ :: _ :: _ :: _, _, h => simp [chkE] at h
      | [_, _], [], h => simp [chkE] at h
      | [_, _], [_], h => simp [chkE] at h
      | [_, _], _ :: _ :: _ :: _, h => simp [chkE] at h
    | _ => simp [chkE] at h
  | .cho k0 o1 o2 s1 s2 a b c, e, X, Wx, g, tk, h, ok => by
    cases e with
    | Compare x ops cs p =>
      match ops, cs, h with
      | [p1, p2], [y, z], h =>
        rw [chkE] at h
        rw [okE] at ok
        obtain ⟨h, h6⟩ := andB h
        obtain ⟨h, h5⟩ := andB h
        obtain ⟨h, h4⟩ := andB h
        obtain ⟨h, h3⟩ := andB h
        obtain ⟨h1, h2⟩ := andB h
        obtain rfl := of_decide_eq_true h1
        obtain rfl := of_decide_eq_true h2
        obtain ⟨q1, _⟩ := sndE d a x X Wx g tk h4 ok.2.1
        obtain ⟨q2, _⟩ := sndE d b y X Wx g tk h5 ok.2.2.1
        obtain ⟨q3, _⟩ := sndE d c z X Wx g tk h6 ok.2.2.2
        exact ⟨(pe_chain (op_own g tk ok.1.1) (op_own g tk ok.1.2) q1 q2 q3 (marks2_ok h3)).imp fun σ H Q w => tE_cho w, fun _ => (pt_chain (op_own g tk ok.1.1) (op_own g tk ok.1.2) q1 q2 q3 (marks2_ok h3)).imp fun σ H Q w => tE_cho (tT_of w)⟩
      | [], _, h => simp [chkE] at h
      | [_], _, h => simp [chkE] at h
      | _ :: _ :: _ :: _, _, h => simp [chkE] at h
      | [_, _], [], h => simp [chkE] at h
      | [_, _], [_], h => simp [chkE] at h
      | [_, _], _ :: _ :: _ :: _, h => simp [chkE] at h
    | _ => simp [chkE] at h
  | .lc elt p it cond own, e, X, Wx, g, tk, h, ok => by
    cases e with
    | ListComp x gens scope pos =>
      match gens, h with
      | [⟨tg, iter, ifs, isa⟩], h =>
        rw [chkE] at h
        rw [okE] at ok
        obtain ⟨h, h9⟩ := andB h
        obtain ⟨h, h8⟩ := andB h
        obtain ⟨h, h7⟩ := andB h
        obtain ⟨h, h6⟩ := andB h
        obtain ⟨h, h5⟩ := andB h
        obtain ⟨h, h4⟩ := andB h
        obtain ⟨h, h3⟩ := andB h
        obtain ⟨h1, h2⟩ := andB h
        obtain rfl := of_decide_eq_true h1
        have pI := sndI d it tg iter X Wx g tk h6 ok.2.1
        have hlc := pe_lc (pos := pos) g.calm g.nd pI (blkOk_by h2)
          (fun s H C cl fp => sndPat (D := D) (g.blk) (top := fun x => scope.names.lookup x == some .cell) (fun x z => z) p tg h7)
          (fun s H C cl fp => sndTs d cond ifs (X.blk s H scope (compEnvC scope cl C X.env) fp) (fun _ _ _ _ => False) g.blk takes0 h9 ok.2.2)
          (fun s H C cl fp => (sndE d elt x (X.blk s H scope (compEnvC scope cl C X.env) fp) (fun _ _ _ _ => False) g.blk takes0 h8 ok.1).1) (fold_ok h5)
        refine both (hlc.imp fun σ H Q w => ?_) fun _ => rfl
        rw [own_ok]
        exact tE_lc (fun i hi => by
          have := List.all_eq_true.mp h4 i hi
          simpa using this) w
      | [], h => simp [chkE] at h
      | _ :: _ :: _, h => simp [chkE] at h
    | _ => simp [chkE] at h
theorem sndEs (d : DOk D) : ∀ (as : Es) (es : List Expr) (st : Bool) (X : Cx) (Wx : WX), GX D X → Takes X Wx → chkEs X.N X.env.scope st as es = true → okEs D as → PA X es (tEs D.G Wx as) ∧ (st = false → Ops D.G X Wx as es)
  | .nil, es, st, X, Wx, g, tk, h, ok => by
    cases es with
    | nil => exact ⟨pa_nil.imp fun σ H Q w => tEs_nil w, fun _ => trivial⟩
    | cons e es => simp [chkEs] at h
  | .cons a r, es, st, X, Wx, g, tk, h, ok => by
    cases es with
    | nil => simp [chkEs] at h
    | cons e es =>
      rw [chkEs] at h
      rw [okEs] at ok
      obtain ⟨h, h3⟩ := andB h
      obtain ⟨h1, h2⟩ := andB h
      obtain ⟨p1, _⟩ := sndE d a e X Wx g tk h2 ok.1
      obtain ⟨p2, o2⟩ := sndEs d r es st X Wx g tk h3 ok.2
      exact ⟨(pa_cons p1 p2 (star_cons h1)).imp fun σ H Q w => tEs_cons w, fun z => ⟨p1, h1, o2 z⟩⟩
  | .star a r, es, st, X, Wx, g, tk, h, ok => by
    cases es with
    | nil => simp [chkEs] at h
    | cons e es =>
      cases e with
      | Starred e pos =>
        rw [chkEs] at h
        rw [okEs] at ok
        obtain ⟨h, h3⟩ := andB h
        obtain ⟨h1, h2⟩ := andB h
        obtain ⟨p1, _⟩ := sndE d a e X Wx g tk h2 ok.1
        obtain ⟨p2, o2⟩ := sndEs d r es st X Wx g tk h3 ok.2
        refine ⟨(StX.pa_star p1 p2).imp fun σ H Q w => ?_, fun z => by rw [z] at h1; cases h1⟩
        rw [g.k]
        exact tEs_star w
      | _ => simp [chkEs] at h
theorem sndTs (d : DOk D) : ∀ (as : Es) (es : List Expr) (X : Cx) (Wx : WX), GX D X → Takes X Wx → chkTs X.N X.env.scope as es = true → okEs D as → PTs X es (tTs D.G Wx as)
  | .nil, es, X, Wx, g, tk, h, ok => by
    cases es with
    | nil => exact ⟨fun pins s σ H Q I w => pts_nil.run pins s σ H Q I (tTs_nil w)⟩
    | cons e es => simp [chkTs] at h
  | .cons a .nil, es, X, Wx, g, tk, h, ok => by
    match es, h with
    | [x], h =>
      rw [chkTs] at h
      rw [okEs] at ok
      obtain ⟨h1, h2⟩ := andB h
      obtain ⟨_, t1⟩ := sndE d a x X Wx g tk h1 ok.1
      exact ⟨fun pins s σ H Q I w => (pts_one (t1 h2)).run pins s σ H Q I (tTs_one w)⟩
    | [], h => simp [chkTs] at h
    | _ :: _ :: _, h => simp [chkTs] at h
  | .cons a (.cons _ _), es, X, Wx, g, tk, h, ok => by simp [chkTs] at h
  | .cons a (.star _ _), es, X, Wx, g, tk, h, ok => by simp [chkTs] at h
  | .star a r, es, X, Wx, g, tk, h, ok => by simp [chkTs] at h
theorem sndI (d : DOk D) : ∀ (it : It) (tg x : Expr) (X : Cx) (Wx : WX), GX D X → Takes X Wx → chkI X.N X.env.scope it tg x = true → okI D it → PI X tg x (tI D.G Wx it)
  | .seq e, tg, x, X, Wx, g, tk, h, ok => by
    rw [chkI] at h
    rw [okI] at ok
    obtain ⟨p1, _⟩ := sndE d e x X Wx g tk h ok
    refine (pi_seqA p1).imp fun σ H R w => ?_
    rw [g.k]
    exact tI_seq w
  | .rng e, tg, x, X, Wx, g, tk, h, ok => by
    cases x with
    | Call f es ks pos =>
      cases f with
      | Name f p =>
        match es, ks, h with
        | [x], [], h =>
          rw [chkI] at h
          rw [okI] at ok
          obtain ⟨h, h4⟩ := andB h
          obtain ⟨h, h3⟩ := andB h
          obtain ⟨h1, h2⟩ := andB h
          obtain rfl := of_decide_eq_true h1
          obtain ⟨p1, _⟩ := sndE d e x X Wx g tk h4 ok
          have pa : PA X [x] (tEs D.G Wx (.cons e .nil)) := (pa_cons p1 pa_nil (star_cons h3)).imp fun σ H Q w => (tEs_cons w).imp fun x H1 w1 => tEs_nil w1
          exact (pi_range1 (gl_ok h2) (by rw [g.mg]; exact d.blt _ (by decide +kernel)) pa (star_cons h3)).imp fun σ H R w => tI_rng w
        | [], _, h => simp [chkI] at h
        | _ :: _ :: _, _, h => simp [chkI] at h
        | [_], _ :: _, h => simp [chkI] at h
      | _ => simp [chkI] at h
    | _ => simp [chkI] at h
  | .rng2 a b, tg, x, X, Wx, g, tk, h, ok => by
    cases x with
    | Call f es ks pos =>
      cases f with
      | Name f p =>
        match es, ks, h with
        | [x, y], [], h =>
          rw [chkI] at h
          rw [okI] at ok
          obtain ⟨h, h6⟩ := andB h
          obtain ⟨h, h5⟩ := andB h
          obtain ⟨h, h4⟩ := andB h
          obtain ⟨h, h3⟩ := andB h
          obtain ⟨h1, h2⟩ := andB h
          obtain rfl := of_decide_eq_true h1
          obtain ⟨p1, _⟩ := sndE d a x X Wx g tk h5 ok.1
          obtain ⟨p2, _⟩ := sndE d b y X Wx g tk h6 ok.2
          have pa : PA X [x, y] (tEs D.G Wx (.cons a (.cons b .nil))) := (pa_cons p1 (pa_cons p2 pa_nil (star_cons h4)) (star_cons h3)).imp fun σ H Q w => (tEs_cons w).imp fun x H1 w1 => (tEs_cons w1).imp fun y H2 w2 => tEs_nil w2
          exact (pi_range2 (gl_ok h2) (by rw [g.mg]; exact d.blt _ (by decide +kernel)) pa (by rw [star_cons h3, star_cons h4]; rfl) (star_cons h4)).imp fun σ H R w => tI_rng2 w
        | [], _, h => simp [chkI] at h
        | [_], _, h => simp [chkI] at h
        | _ :: _ :: _ :: _, _, h => simp [chkI] at h
        | [_, _], _ :: _, h => simp [chkI] at h
      | _ => simp [chkI] at h
    | _ => simp [chkI] at h
  | .enm e, tg, x, X, Wx, g, tk, h, ok => by
    cases tg with
    | Tuple elts kk tp =>
      cases x with
      | Call f es ks pos =>
        cases f with
        | Name f p =>
          match es, ks, h with
          | [x], [], h =>
            rw [chkI] at h
            rw [okI] at ok
            obtain ⟨h, h4⟩ := andB h
            obtain ⟨h, h3⟩ := andB h
            obtain ⟨h1, h2⟩ := andB h
            obtain rfl := of_decide_eq_true h1
            obtain ⟨p1, _⟩ := sndE d e x X Wx g tk h4 ok
            have pa : PA X [x] (tEs D.G Wx (.cons e .nil)) := (pa_cons p1 pa_nil (star_cons h3)).imp fun σ H Q w => (tEs_cons w).imp fun x H1 w1 => tEs_nil w1
            refine (pi_enumA (gl_ok h2) (by rw [g.mg]; exact d.blt _ (by decide +kernel)) pa (star_cons h3)).imp fun σ H R w => ?_
            rw [g.k]
            exact tI_enm w
          | [], _, h => simp [chkI] at h
          | _ :: _ :: _, _, h => simp [chkI] at h
          | [_], _ :: _, h => simp [chkI] at h
        | _ => simp [chkI] at h
      | _ => simp [chkI] at h
    | _ => simp [chkI] at h
  | .zip a b, tg, x, X, Wx, g, tk, h, ok => by
    cases tg with
    | Tuple elts kk tp =>
      cases x with
      | Call f es ks pos =>
        cases f with
        | Name f p =>
          match es, ks, h with
          | [x, y], [], h =>
            rw [chkI] at h
            rw [okI] at ok
            obtain ⟨h, h6⟩ := andB h
            obtain ⟨h, h5⟩ := andB h
            obtain ⟨h, h4⟩ := andB h
            obtain ⟨h, h3⟩ := andB h
            obtain ⟨h1, h2⟩ := andB h
            obtain rfl := of_decide_eq_true h1
            obtain ⟨p1, _⟩ := sndE d a x X Wx g tk h5 ok.1
            obtain ⟨p2, _⟩ := sndE d b y X Wx g tk h6 ok.2
            have pa : PA X [x, y] (tEs D.G Wx (.cons a (.cons b .nil))) := (pa_cons p1 (pa_cons p2 pa_nil (star_cons h4)) (star_cons h3)).imp fun σ H Q w => (tEs_cons w).imp fun x H1 w1 => (tEs_cons w1).imp fun y H2 w2 => tEs_nil w2
            refine (pi_zip (gl_ok h2) (by rw [g.mg]; exact d.blt _ (by decide +kernel)) pa (star_cons h3) (star_any (by rw [List.all_cons, h4]; rfl))).imp fun σ H R w => ?_
            rw [g.k]
            exact tI_zip w
          | [], _, h => simp [chkI] at h
          | [_], _, h => simp [chkI] at h
          | _ :: _ :: _ :: _, _, h => simp [chkI] at h
          | [_, _], _ :: _, h => simp [chkI] at h
        | _ => simp [chkI] at h
      | _ => simp [chkI] at h
    | _ => simp [chkI] at h
  | .chars e, tg, x, X, Wx, g, tk, h, ok => by
    rw [chkI] at h
    rw [okI] at ok
    obtain ⟨p1, _⟩ := sndE d e x X Wx g tk h ok
    exact (pi_str p1).imp fun σ H R w => tI_chars w
end
end
end TW

namespace TW
open PySem PySem.Spec PyProof.Rows L2
/-- where a statement stands: what leaves it is wished for by Wx -/
structure GS (D : Gd) (X : Cx) (Wx : WX) : Prop where
  g : GX D X
  tk : Takes X Wx
  pas : PassesOwn (model X.prog X.w) X.A X.env X.xe
  fn : ∀ x, X.fn x = true
/-- a statement's reading -/
def LiftS (G : Gr) (Wx : WX) (wp : SE → Sto → Post → Prop) : TS := fun E σ H => ∃ (c : RC) (ρ : SE) (S : Sto) (K : Post), RelS G c H S ∧ Slots G c H σ ρ ∧ wp ρ S K ∧
  (∀ σ' H' c' ρ' S', Grow c H c' H' → RelS G c' H' S' → Slots G c' H' σ' ρ' → K.nx ρ' S' → E.nx σ' H') ∧
  (∀ v H' c' S' w, Grow c H c' H' → RelS G c' H' S' → RepW G c' H' w v → K.rt w S' → E.rt v H') ∧
  (∀ σ' H' c' ρ' S', Grow c H c' H' → RelS G c' H' S' → Slots G c' H' σ' ρ' → K.bk ρ' S' → E.bk σ' H') ∧
  (∀ σ' H' c' ρ' S', Grow c H c' H' → RelS G c' H' S' → Slots G c' H' σ' ρ' → K.ct ρ' S' → E.ct σ' H') ∧
  (∀ cls d σ' H' c' ρ' S' x, Grow c H c' H' → RelS G c' H' S' → Slots G c' H' σ' ρ' → RepX G c' H' x cls d → K.xc x ρ' S' → Wx cls d σ' H')
def tC1 (G : Gr) (Wx : WX) (s : C) : TS := LiftS G Wx (wpC s)
def tCs (G : Gr) (Wx : WX) (s : Cs) : TS := LiftS G Wx (wpCs s)
mutual
def okC (D : Gd) : C → Prop
  | .asg _ e => okE D e
  | .par _ as => okEs D as
  | .unp _ e => okE D e
  | .sta _ _ e => okE D e
  | .aug _ _ e => okE D e
  | .ifs c a b => okE D c ∧ okCs D a ∧ okCs D b
  | .fo _ it b => okI D it ∧ okCs D b
  | .wh c b => okE D c ∧ okCs D b
  | .ret e => okE D e
  | .ex e => okE D e
  | .setI o i e => okE D o ∧ okE D i ∧ okE D e
  | .setA c o f e => (c ∈ D.G.cs ∧ Cls D.G.K (D.G.cl c) ∧ NoAttr D.G.K (D.G.cl c) f) ∧ okE D o ∧ okE D e
  | _ => True
def okCs (D : Gd) : Cs → Prop
  | .nil => True
  | .cons c r => okC D c ∧ okCs D r
end
section
variable {D : Gd} {X : Cx} {Wx : WX} {G : Gr} {σ : L2.St} {H : Hp} {E : Ends}
/-- an expression within a statement -/
theorem LiftS.e {wp : SE → Sto → Post → Prop} {e : TW.E} {Q : VK} {R : SE → Post → VQ} (h : LiftS G Wx wp E σ H)
    (hw : ∀ ρ S K, wp ρ S K → wpE e ρ S (R ρ K) (fun x S1 => K.xc x ρ S1))
    (k : ∀ c ρ S K, RelS G c H S → Slots G c H σ ρ →
      (∀ σ' H' c' ρ' S', Grow c H c' H' → RelS G c' H' S' → Slots G c' H' σ' ρ' → K.nx ρ' S' → E.nx σ' H') →
      (∀ v H' c' S' w, Grow c H c' H' → RelS G c' H' S' → RepW G c' H' w v → K.rt w S' → E.rt v H') →
      (∀ σ' H' c' ρ' S', Grow c H c' H' → RelS G c' H' S' → Slots G c' H' σ' ρ' → K.bk ρ' S' → E.bk σ' H') →
      (∀ σ' H' c' ρ' S', Grow c H c' H' → RelS G c' H' S' → Slots G c' H' σ' ρ' → K.ct ρ' S' → E.ct σ' H') →
      (∀ cls d σ' H' c' ρ' S' x, Grow c H c' H' → RelS G c' H' S' → Slots G c' H' σ' ρ' → RepX G c' H' x cls d → K.xc x ρ' S' → Wx cls d σ' H') →
      ∀ v H1 c1 S1 w, Grow c H c1 H1 → RelS G c1 H1 S1 → Slots G c1 H1 σ ρ → RepW G c1 H1 w v → R ρ K w S1 → Q v H1) : tE G Wx e σ H Q := by
  obtain ⟨c, ρ, S, K, r, s, w, k1, k2, k3, k4, k5⟩ := h
  exact ⟨c, ρ, S, R ρ K, fun x S1 => K.xc x ρ S1, r, s, hw ρ S K w, fun v H1 c1 S1 w1 g1 r1 rp q => k c ρ S K r s k1 k2 k3 k4 k5 v H1 c1 S1 w1 g1 r1 (s.mono g1) rp q,
    fun cls d H' c' S' x gg rr rx q => k5 cls d σ H' c' ρ S' x gg rr (s.mono gg) rx q⟩
theorem tC_asg {i : Nat} {e : TW.E} (h : tC1 G Wx (.asg i e) E σ H) : tE G Wx e σ H fun x H1 => E.nx (σ.set i (some x)) H1 :=
  LiftS.e (R := fun ρ K w S1 => K.nx (setS ρ i (some w)) S1) h (fun ρ S K w => by simpa only [wpC] using w) fun c ρ S K r s k1 k2 k3 k4 k5 v H1 c1 S1 w g1 r1 s1 rp q => k1 _ H1 c1 _ S1 g1 r1 (s1.set rp) q
theorem tC_ret {e : TW.E} (h : tC1 G Wx (.ret e) E σ H) : tE G Wx e σ H E.rt :=
  LiftS.e (R := fun ρ K => K.rt) h (fun ρ S K w => by simpa only [wpC] using w) fun c ρ S K r s k1 k2 k3 k4 k5 v H1 c1 S1 w g1 r1 s1 rp q => k2 v H1 c1 S1 w g1 r1 rp q
theorem tC_ex {e : TW.E} (h : tC1 G Wx (.ex e) E σ H) : tE G Wx e σ H fun _ H1 => E.nx σ H1 :=
  LiftS.e (R := fun ρ K w S1 => K.nx ρ S1) h (fun ρ S K w => by simpa only [wpC] using w) fun c ρ S K r s k1 k2 k3 k4 k5 v H1 c1 S1 w g1 r1 s1 rp q => k1 _ H1 c1 _ S1 g1 r1 s1 q
theorem tC_unp {p : Pat} {e : TW.E} (h : tC1 G Wx (.unp p e) E σ H) : tE G Wx e σ H fun x H1 => gP G p x σ H1 E.nx :=
  LiftS.e (R := fun ρ K w S1 => ∃ t, w = .im t ∧ wpP p t ρ fun ρ' => K.nx ρ' S1) h (fun ρ S K w => by simpa only [wpC] using w) fun c ρ S K r s k1 k2 k3 k4 k5 v H1 c1 S1 w g1 r1 s1 rp q => by
    obtain ⟨t, rfl, q⟩ := q
    exact ⟨c1, ρ, S1, t, _, r1, s1, rp, q, fun σ' ρ' s' _ q' => k1 σ' H1 c1 ρ' S1 g1 r1 s' q'⟩
theorem tC_if {t : TW.E} {a b : Cs} (h : tC1 G Wx (.ifs t a b) E σ H) : tT G Wx t σ H fun kb H1 => if kb = true then tCs G Wx a E σ H1 else tCs G Wx b E σ H1 := by
  obtain ⟨c, ρ, S, K, r, s, w, k1, k2, k3, k4, k5⟩ := h
  simp only [wpC] at w
  refine ⟨c, ρ, S, fun kb S1 => if kb = true then wpCs a ρ S1 K else wpCs b ρ S1 K, fun x S1 => K.xc x ρ S1, r, s, w, fun kb H1 c1 S1 kb' g1 r1 e q => ?_, fun cls d H' c' S' x gg rr rx q => k5 cls d σ H' c' ρ S' x gg rr (s.mono gg) rx q⟩
  subst e
  have mk : ∀ {cs : Cs}, wpCs cs ρ S1 K → tCs G Wx cs E σ H1 := fun w' => ⟨c1, ρ, S1, K, r1, s.mono g1, w', fun σ' H' c' ρ' S' gg => k1 σ' H' c' ρ' S' (g1.trans gg), fun v H' c' S' w gg => k2 v H' c' S' w (g1.trans gg),
    fun σ' H' c' ρ' S' gg => k3 σ' H' c' ρ' S' (g1.trans gg), fun σ' H' c' ρ' S' gg => k4 σ' H' c' ρ' S' (g1.trans gg), fun cls d σ' H' c' ρ' S' x gg => k5 cls d σ' H' c' ρ' S' x (g1.trans gg)⟩
  cases kb'
  · exact mk q
  · exact mk q
theorem tC_seq {a : C} {r : Cs} (h : tCs G Wx (.cons a r) E σ H) : tSeq (tC1 G Wx a) (tCs G Wx r) E σ H := by
  obtain ⟨c, ρ, S, K, rr, s, w, k1, k2, k3, k4, k5⟩ := h
  simp only [wpCs] at w
  refine ⟨c, ρ, S, _, rr, s, w, fun σ1 H1 c1 ρ1 S1 g1 r1 s1 q => ?_, k2, k3, k4, k5⟩
  exact ⟨c1, ρ1, S1, K, r1, s1, q, fun σ' H' c' ρ' S' gg => k1 σ' H' c' ρ' S' (g1.trans gg), fun v H' c' S' w gg => k2 v H' c' S' w (g1.trans gg),
    fun σ' H' c' ρ' S' gg => k3 σ' H' c' ρ' S' (g1.trans gg), fun σ' H' c' ρ' S' gg => k4 σ' H' c' ρ' S' (g1.trans gg), fun cls d σ' H' c' ρ' S' x gg => k5 cls d σ' H' c' ρ' S' x (g1.trans gg)⟩
theorem tC_for {p : Pat} {it : TW.It} {b : Cs} (h : tC1 G Wx (.fo p it b) E σ H) : tFor (tI G Wx it) (gP G p) (tCs G Wx b) E σ H := by
  obtain ⟨c, ρ, S, K, r, s, w, k1, k2, k3, k4, k5⟩ := h
  simp only [wpC] at w
  refine ⟨c, ρ, S, fun ts stab S1 => forW (wpCs b) p stab ts ρ S1 K, fun x S1 => K.xc x ρ S1, r, s, w, fun J H1 c1 S1 ts stab g1 r1 wk q => ?_, fun cls d H' c' S' x gg rr rx q => k5 cls d σ H' c' ρ S' x gg rr (s.mono gg) rx q⟩
  refine ⟨fun i m σ2 H2 => m = ts.length - i ∧ i ≤ ts.length ∧ ∃ (cc : RC) (ρ2 : SE) (SS : Sto), Grow c1 H1 cc H2 ∧ RelS G cc H2 SS ∧ Slots G cc H2 σ2 ρ2 ∧ forW (wpCs b) p stab (ts.drop i) ρ2 SS K,
    ⟨ts.length, by omega, Nat.zero_le _, c1, ρ, S1, .refl, r1, s.mono g1, q⟩, ?_⟩
  rintro i m σ2 H2 ⟨rfl, hi, cc, ρ2, SS, gc, rc, sc, q2⟩
  by_cases hlt : i < ts.length
  · obtain ⟨t, ht⟩ : ∃ t, ts[i]? = some t := ⟨ts[i], List.getElem?_eq_getElem hlt⟩
    have hd : ts.drop i = t :: ts.drop (i + 1) := by
      rw [List.drop_eq_getElem_cons hlt]
      congr 1
      rw [List.getElem?_eq_getElem hlt] at ht
      exact Option.some.inj ht
    rw [hd, forW] at q2
    obtain ⟨st, q2⟩ := q2
    obtain ⟨w1, w2, w3⟩ := wk cc H2 SS gc rc st
    refine .inr ⟨w1 i hlt, fun σ' H' => ∃ m', m' < ts.length - i ∧ (m' = ts.length - (i + 1) ∧ i + 1 ≤ ts.length ∧ ∃ (cc : RC) (ρ2 : SE) (SS : Sto), Grow c1 H1 cc H' ∧ RelS G cc H' SS ∧ Slots G cc H' σ' ρ2 ∧ forW (wpCs b) p stab (ts.drop (i + 1)) ρ2 SS K), fun σ' H' z => z, fun x H' y => ?_⟩
    obtain ⟨gy, ry, rp⟩ := w3 i t x H' ht y
    refine ⟨cc, ρ2, SS, t, _, ry, sc.mono gy, rp, q2, fun σ3 ρ3 s3 _ q3 => ?_⟩
    have g0 := g1.trans (gc.trans gy)
    refine ⟨cc, ρ3, SS, _, ry, s3, q3, fun σ' H' c' ρ' S' gg rr ss q4 => ?_, fun v H' c' S' w gg => k2 v H' c' S' w (g0.trans gg), fun σ' H' c' ρ' S' gg => k1 σ' H' c' ρ' S' (g0.trans gg), fun σ' H' c' ρ' S' gg rr ss q4 => ?_, fun cls d σ' H' c' ρ' S' x gg => k5 cls d σ' H' c' ρ' S' x (g0.trans gg)⟩
    · exact ⟨_, by omega, rfl, hlt, c', ρ', S', (gc.trans gy).trans gg, rr, ss, q4⟩
    · exact ⟨_, by omega, rfl, hlt, c', ρ', S', (gc.trans gy).trans gg, rr, ss, q4⟩
  · have e : i = ts.length := by omega
    subst e
    rw [List.drop_length, forW] at q2
    obtain ⟨st, q2⟩ := q2
    obtain ⟨w1, w2, w3⟩ := wk cc H2 SS gc rc st
    exact .inl ⟨w2, k1 σ2 H2 cc ρ2 SS (g1.trans gc) rc sc q2⟩
theorem tC_wh {t : TW.E} {b : Cs} (h : tC1 G Wx (.wh t b) E σ H) : tWhile (tT G Wx t) (tCs G Wx b) E σ H := by
  obtain ⟨c, ρ, S, K, r, s, w, k1, k2, k3, k4, k5⟩ := h
  simp only [wpC] at w
  obtain ⟨n, w⟩ := w
  refine ⟨fun m σ2 H2 => ∃ (cc : RC) (ρ2 : SE) (SS : Sto), Grow c H cc H2 ∧ RelS G cc H2 SS ∧ Slots G cc H2 σ2 ρ2 ∧ whW (wpE t) (wpCs b) m ρ2 SS K, ⟨n, c, ρ, S, .refl, r, s, w⟩, ?_⟩
  rintro m σ2 H2 ⟨cc, ρ2, SS, gc, rc, sc, q⟩
  cases m with
  | zero => exact q.elim
  | succ m =>
    rw [whW] at q
    refine ⟨cc, ρ2, SS, fun kb S1 => if kb = true then wpCs b ρ2 S1 { K with nx := fun ρ2 S2 => whW (wpE t) (wpCs b) m ρ2 S2 K, ct := fun ρ2 S2 => whW (wpE t) (wpCs b) m ρ2 S2 K, bk := K.nx } else K.nx ρ2 S1, fun x S1 => K.xc x ρ2 S1, rc, sc, q, fun kb H1 c1 S1 kb' g1 r1 e q => ?_, fun cls d H' c' S' x gg rr rx q => k5 cls d σ2 H' c' ρ2 S' x (gc.trans gg) rr (sc.mono gg) rx q⟩
    subst e
    have g0 := gc.trans g1
    cases kb'
    · exact k1 σ2 H1 c1 ρ2 S1 g0 r1 (sc.mono g1) q
    · refine ⟨fun σ' H' => ∃ m', m' < m + 1 ∧ ∃ (cc : RC) (ρ2 : SE) (SS : Sto), Grow c H cc H' ∧ RelS G cc H' SS ∧ Slots G cc H' σ' ρ2 ∧ whW (wpE t) (wpCs b) m' ρ2 SS K, fun σ' H' z => z, ?_⟩
      refine ⟨c1, ρ2, S1, _, r1, sc.mono g1, q, fun σ' H' c' ρ' S' gg rr ss q4 => ⟨m, Nat.lt_succ_self m, c', ρ', S', g0.trans gg, rr, ss, q4⟩, fun v H' c' S' w gg => k2 v H' c' S' w (g0.trans gg), fun σ' H' c' ρ' S' gg => k1 σ' H' c' ρ' S' (g0.trans gg),
        fun σ' H' c' ρ' S' gg rr ss q4 => ⟨m, Nat.lt_succ_self m, c', ρ', S', g0.trans gg, rr, ss, q4⟩, fun cls d σ' H' c' ρ' S' x gg => k5 cls d σ' H' c' ρ' S' x (g0.trans gg)⟩
end
end TW

namespace TW
open PySem PySem.Spec PyProof.Rows L2
/-- several names -/
def gNms : List Nat → TGs
  | [] => gNil
  | i :: is => gCons (gName i) (gNms is)
theorem names_ok {X : Cx} (nd : X.N.Nodup) (hf : ∀ x, X.fn x = true) : ∀ (is : List Nat) (es : List Expr), chkNames X.N X.env.scope is es = true →
    PGs X es (gNms is) ∧ (assignEach es X.env).length = is.length ∧ (assignEach es X.env).findIdx? (·.1) = none
  | [], [], _ => ⟨pgs_nil, rfl, rfl⟩
  | i :: is, .Name x p :: r, h => by
    rw [chkNames] at h
    obtain ⟨h, h3⟩ := andB h
    obtain ⟨h1, h2⟩ := andB h
    obtain ⟨a, b, c⟩ := names_ok nd hf is r h3
    refine ⟨pgs_cons (pg_name nd (of_decide_eq_true h1) (loc_ok h2).1 (.inl (hf x))) a rfl, ?_, ?_⟩
    · show (assignEach r X.env).length + 1 = is.length + 1
      rw [b]
    · show ((false, assign (.Name x p) X.env) :: assignEach r X.env).findIdx? (·.1) = none
      rw [List.findIdx?_cons, c]
      rfl
  | [], _ :: _, h => by simp [chkNames] at h
  | _ :: _, [], h => by simp [chkNames] at h
  | _ :: _, .Constant .. :: _, h => by simp [chkNames] at h
  | _ :: _, .BoolOp .. :: _, h => by simp [chkNames] at h
  | _ :: _, .NamedExpr .. :: _, h => by simp [chkNames] at h
  | _ :: _, .BinOp .. :: _, h => by simp [chkNames] at h
  | _ :: _, .UnaryOp .. :: _, h => by simp [chkNames] at h
  | _ :: _, .Lambda .. :: _, h => by simp [chkNames] at h
  | _ :: _, .IfExp .. :: _, h => by simp [chkNames] at h
  | _ :: _, .Dict .. :: _, h => by simp [chkNames] at h
  | _ :: _, .Set .. :: _, h => by simp [chkNames] at h
  | _ :: _, .ListComp .. :: _, h => by simp [chkNames] at h
  | _ :: _, .SetComp .. :: _, h => by simp [chkNames] at h
  | _ :: _, .DictComp .. :: _, h => by simp [chkNames] at h
  | _ :: _, .GeneratorExp .. :: _, h => by simp [chkNames] at h
  | _ :: _, .Await .. :: _, h => by simp [chkNames] at h
  | _ :: _, .Yield .. :: _, h => by simp [chkNames] at h
  | _ :: _, .YieldFrom .. :: _, h => by simp [chkNames] at h
  | _ :: _, .Compare .. :: _, h => by simp [chkNames] at h
  | _ :: _, .Call .. :: _, h => by simp [chkNames] at h
  | _ :: _, .FormattedValue .. :: _, h => by simp [chkNames] at h
  | _ :: _, .JoinedStr .. :: _, h => by simp [chkNames] at h
  | _ :: _, .Attribute .. :: _, h => by simp [chkNames] at h
  | _ :: _, .Subscript .. :: _, h => by simp [chkNames] at h
  | _ :: _, .Starred .. :: _, h => by simp [chkNames] at h
  | _ :: _, .List .. :: _, h => by simp [chkNames] at h
  | _ :: _, .Tuple .. :: _, h => by simp [chkNames] at h
  | _ :: _, .Slice .. :: _, h => by simp [chkNames] at h
theorem any_star : ∀ (vs : List Expr), (vs.any fun | .Starred .. => true | _ => false) = vs.any (fun e => !noStar e)
  | [] => rfl
  | e :: es => by
    rw [List.any_cons, List.any_cons, any_star es]
    cases e <;> rfl
theorem swS_some {env : Env} {ts vs : List Expr} {k k2 : Nat} {p p2 : Pos} (h : swS env.scope ts vs = some true) :
    swappedStores [.Tuple ts k p] (.Tuple vs k2 p2) env = pure (some (ts.filterMap fun
      | .Name id pos => if env.scope.names.lookup id == some .local && pos.line == (ts.head?.map (·.pos.line)).getD 0 then some id else none
      | _ => none)) ∧ (ts.filterMap fun
      | .Name id pos => if env.scope.names.lookup id == some .local && pos.line == (ts.head?.map (·.pos.line)).getD 0 then some id else none
      | _ => none).length = ts.length := by
  unfold swS at h
  unfold swappedStores
  simp only
  have e0 : ((if env.scope.kind.isAnnotationScope then ScopeKind.function else env.scope.kind) != .function) = (env.blockKind != .function) := rfl
  rw [e0] at h
  split at h
  · cases h
  rename_i c1
  rw [← any_star] at h
  split at h
  · cases h
  rename_i c2
  simp only at h
  split at h
  · cases h
  rename_i c3
  split at h
  · cases h
  rename_i c4
  split at h
  · cases h
  rename_i c5
  refine ⟨(if_neg c1).trans ((if_neg ?_).trans ((if_neg ?_).trans ((if_neg c4).trans ((if_neg c5).trans ?_)))), ?_⟩
  · exact c2
  · exact c3
  · rfl
  simp only [Bool.or_eq_true, not_or, bne_iff_ne, ne_eq, Classical.not_not] at c3
  exact c3.1
theorem swS_none {env : Env} {ts vs : List Expr} {k k2 : Nat} {p p2 : Pos} (h : swS env.scope ts vs = some false) : swappedStores [.Tuple ts k p] (.Tuple vs k2 p2) env = pure none := by
  unfold swS at h
  unfold swappedStores
  simp only
  have e0 : ((if env.scope.kind.isAnnotationScope then ScopeKind.function else env.scope.kind) != .function) = (env.blockKind != .function) := rfl
  rw [e0] at h
  split at h
  · rename_i c1
    exact if_pos c1
  rename_i c1
  rw [← any_star] at h
  refine (if_neg c1).trans ?_
  split at h
  · rename_i c2
    exact if_pos c2
  rename_i c2
  refine (if_neg c2).trans ?_
  simp only at h
  split at h
  · rename_i c3
    exact if_pos c3
  rename_i c3
  refine (if_neg c3).trans ?_
  split at h
  · rename_i c4
    exact if_pos c4
  rename_i c4
  split at h <;> cases h
section
variable {X : Cx}
theorem vals_snoc : ∀ {xs : List V} {z : V} {its : List Value}, Vals (xs ++ [z]) its → ∃ us uz, its = us ++ [uz] ∧ Vals xs us ∧ RelV z uz
  | [], z, its, rv => by
    cases rv with
    | cons p q => cases q; exact ⟨[], _, rfl, .nil, p⟩
  | w :: xs, z, its, rv => by
    cases rv with
    | cons p q =>
      obtain ⟨us, uz, e, a, b⟩ := vals_snoc q
      subst e
      exact ⟨_ :: us, uz, rfl, .cons p a, b⟩
/-- *xs, y = a list -/
def gStarL (K : PySem.W.Frag) (i j : Nat) : TG := fun v σ H1 Q => ∃ a xs z, v = .ref a ∧ SqL K H1 a (xs ++ [z]) ∧ xs.length < sizeLine ∧ ∀ p, H1 p = none → Q ((σ.set i (some (.ref p))).set j (some z)) (upd H1 p (.lst xs))
theorem pg_starL {i j : Nat} {x y : Str} {p1 p2 p3 p4 : Pos} {k : Nat} (hc : X.calm = true) (hN : X.N.Nodup) (hi : X.N[i]? = some x) (hj : X.N[j]? = some y) (hx : L2.Loc X.env.scope x) (hy : L2.Loc X.env.scope y) (hf : ∀ x, X.fn x = true) :
    PG X (.Tuple [.Starred (.Name x p1) p2, .Name y p3] k p4) (gStarL X.K i j) := by
  refine ⟨fun pins s σ H v u Q I r hw => ?_⟩
  obtain ⟨a, xs, z, ev, hl, hz, q⟩ := hw
  subst ev
  obtain rfl : u = Value.ref a := r
  obtain ⟨its, rv, pl, hz'⟩ := I.list hl
  obtain ⟨us, uz, rfl, rxs, rz⟩ := vals_snoc rv
  have hls : s.heap.IsList a (us ++ [uz]).toArray := by
    obtain ⟨o, n, e, c, d, dd⟩ := pl
    exact ⟨o, e, c, n, dd⟩
  have hlt : a ≠ s.heap.objs.size := by obtain ⟨o, ho, _⟩ := hls; exact Nat.ne_of_lt (Heap.lt_size ho)
  have hh : X.A.handled = none := I.ok.hd hc
  have hsz : (us ++ [uz]).toArray.size = us.length + 1 := by simp
  have hul : us.length = xs.length := rxs.length.symm
  rw [assign_Tuple]
  refine wpAny_bind (wpAny_standAt ?_)
  show wpAny _ _ (holding [.ref a] (unpackItems (.ref a) 2 (some 0)) >>= fun z => assignInOrder [assign (.Name x p1) X.env, assign (.Name y p3) X.env] z) _ _ _
  refine wpAny_bind (wpAny_holding ?_)
  unfold unpackItems
  refine wpAny_bind ?_
  unfold notIterableAtAll
  refine wpAny_bind (wpAny_specialOf hls.typeIs slot_list_iter.lookup ?_)
  refine wpAny_pure ?_
  simp only [Bool.false_eq_true, if_false]
  refine wpAny_bind (wpAny_holding (wpAny_pyIter_list hls ?_))
  refine wpAny_bind (wpAny_holding (PySem.W.kun_draw hlt 0 0 _ _ ⟨_, Heap.get?_push_size _ rfl, rfl, rfl⟩ (hls.push _) (by omega) fun h₁ hit₁ hs₁ => ?_))
  have hl₁ : h₁.IsList a (us ++ [uz]).toArray := (hls.push _).extBut hs₁.extBut hlt
  have hit₁' := hit₁
  obtain ⟨oi, hoi, _⟩ := hit₁'
  have hl₁' := hl₁
  obtain ⟨ol, hol, _⟩ := hl₁'
  rw [List.take_zero]
  rw [if_neg (show ¬ (([] : List Value).length < 0) from Nat.not_lt_zero _)]
  refine wpAny_bind (wpAny_holding (PySem.W.kun_collect (s := { s with heap := h₁ }) (T := "list_iterator") (.inr (.inr (.inl rfl))) (Walks.list (A := X.A.in1) hh s.heap.objs.size a hlt (us ++ [uz]).toArray) (fun j u st => st.1.typeIs) (k := 0) (by omega) ⟨hit₁, hl₁⟩ (Heap.lt_size hoi) (Heap.lt_size hol) (fun h₂ tk hk => ?_) (by omega)))
  show wpAny _ _ (if (us ++ [uz]).length < 2 - 1 - 0 then _ else _) _ _ _
  rw [if_neg (by rw [List.length_append]; simp)]
  show wpAny _ _ (newList ((us ++ [uz]).take ((us ++ [uz]).length - (2 - 1 - 0))) >>= fun d => pure ([] ++ [d] ++ (us ++ [uz]).drop ((us ++ [uz]).length - (2 - 1 - 0)))) _ _ _
  have e1 : (us ++ [uz]).length - (2 - 1 - 0) = us.length := by simp
  rw [e1, List.take_left', List.drop_left'] <;> try rfl
  have he : Heap.ExtBut s.heap.objs.size s.heap h₂ := fun b o hb e => hk b o hb (hs₁.extBut b o hb (Heap.get?_push_of_some _ e))
  refine wpAny_bind (wpAny_newList (s := { s with heap := h₂, toks := tk }) (wpAny_pure ?_) (by omega))
  have I2 : Inv X pins σ H { s with heap := h₂, toks := tk } := I.kept (h' := h₂) (t' := tk) fun b o e => he b o (Nat.ne_of_lt (Heap.lt_size e)) e
  have hfr : H h₂.objs.size = none := I2.hok.fresh (Nat.le_refl _)
  have I3 : Inv X pins σ (upd H h₂.objs.size (.lst xs)) { s with heap := h₂.push { cls := .type "list", data := .seq us.toArray }, toks := tk } :=
    I2.laid (t' := tk) (fun b u e => Heap.get?_push_of_some _ e) (Nat.le_refl _) ⟨by omega, us, 0, rxs, Heap.get?_push_size _ rfl⟩
  refine assignInOrder_cons (wpAny_assign_Name (store_ok (v := V.ref h₂.objs.size) I3 hN hi hx rfl (fun s2 I4 => ?_) (.inl (hf x))))
  exact assignInOrder_cons (wpAny_assign_Name (store_ok I4 hN hj hy rz (fun s3 I5 => assignInOrder_nil ⟨_, _, I5, q _ hfr⟩) (.inl (hf y))))
/-- name += e, numbers -/
def rAug (op : Operator) : TIp := fun x y H Q => ∃ i j : Int, x = .int i ∧ y = .int j ∧ ((op = .Add ∧ Q (.int (i + j)) H) ∨ (op = .Sub ∧ Q (.int (i - j)) H))
theorem pip_aug (op : Operator) : PIp X op (rAug op) := by
  intro pins s σ H x y v u Q I rx ry h
  obtain ⟨i, j, rfl, rfl, ⟨rfl, q⟩ | ⟨rfl, q⟩⟩ := h
  · exact iop_add pins s σ H _ _ v u Q I rx ry ⟨i, j, rfl, rfl, q⟩
  · exact iop_sub pins s σ H _ _ v u Q I rx ry ⟨i, j, rfl, rfl, q⟩
end
section
variable {D : Gd} {X : Cx} {Wx : WX} {G : Gr} {σ : L2.St} {H : Hp} {E : Ends}
theorem tC_sta {i j : Nat} {e : TW.E} (h : tC1 G Wx (.sta i j e) E σ H) : tE G Wx e σ H fun x H1 => gStarL G.K i j x σ H1 E.nx :=
  LiftS.e (R := fun ρ K w S1 => ∃ ts t, lstOf S1 w = some (ts ++ [t]) ∧ ts.length < sizeLine ∧ K.nx (setS (setS ρ i (some (.im (.lst ts)))) j (some (.im t))) S1) h (fun ρ S K w => by simpa only [wpC] using w) fun c ρ S K r s k1 k2 k3 k4 k5 v H1 c1 S1 w g1 r1 s1 rp q => by
    obtain ⟨ts, t, e, hz, q⟩ := q
    obtain ⟨a, vs, rfl, hl, rs⟩ := rd_lst r1 rp e
    have hlen := rs.length
    rw [List.length_append] at hlen
    obtain ⟨xs, z, rfl, rxs, rz⟩ : ∃ xs z, vs = xs ++ [z] ∧ Reps G c1 H1 ts xs ∧ Rep G c1 H1 t z := by
      have h1 := Reps.take ts.length rs
      have h2 := Reps.drop ts.length rs
      rw [List.take_left' rfl] at h1
      rw [List.drop_left' rfl, Reps] at h2
      obtain ⟨z, r, e2, rz, rr⟩ := h2
      rw [Reps] at rr
      subst rr
      exact ⟨vs.take ts.length, z, by rw [← e2]; exact (List.take_append_drop _ _).symm, h1, rz⟩
    refine ⟨a, xs, z, rfl, hl, by rw [rxs.length]; exact hz, fun p np => ?_⟩
    have gn := Grow.new (o := .lst xs) r1 np
    exact k1 _ _ c1 _ S1 (g1.trans gn) (r1.new np) (((s1.mono gn).set (new_lst r1 np rxs)).set (RepW.mono gn (.im t) z rz)) q
theorem tC_aug {i : Nat} {op : Operator} {e : TW.E} (h : tC1 G Wx (.aug i op e) E σ H) : tAug i (tE G Wx e) (rAug op) E σ H := by
  obtain ⟨c, ρ, S, K, r, s, w, k1, k2, k3, k4, k5⟩ := h
  simp only [wpC] at w
  obtain ⟨w0, e0, w⟩ := w
  obtain ⟨v0, hv, rp0⟩ := s.at_ i w0 e0
  refine ⟨v0, hv, c, ρ, S, _, _, r, s, w, fun x H1 c1 S1 w1 g1 r1 rp q => ?_, fun cls d H' c' S' x gg rr rx q => k5 cls d σ H' c' ρ S' x gg rr (s.mono gg) rx q⟩
  have rp0' := RepW.mono g1 _ _ rp0
  unfold augP at q
  split at q
  · refine ⟨_, _, rep_int rp0', rep_int rp, .inl ⟨rfl, k1 _ H1 c1 _ S1 g1 r1 ((s.mono g1).set int_rep) q⟩⟩
  · refine ⟨_, _, rep_int rp0', rep_int rp, .inr ⟨rfl, k1 _ H1 c1 _ S1 g1 r1 ((s.mono g1).set int_rep) q⟩⟩
  · exact q.elim
/-- several names at once -/
def setsV : L2.St → List Nat → List V → L2.St
  | σ, i :: is, v :: vs => setsV (σ.set i (some v)) is vs
  | σ, _, _ => σ
theorem Slots.sets {c : RC} : ∀ {is : List Nat} {ws : List W} {vs : List V} {σ : L2.St} {ρ : SE}, Slots G c H σ ρ → RepWs G c H ws vs → Slots G c H (setsV σ is vs) (setAll ρ is ws)
  | [], ws, vs, σ, ρ, s, _ => by
    cases ws <;> exact s
  | i :: is, [], vs, σ, ρ, s, h => by
    have e : vs = [] := h
    subst e
    exact s
  | i :: is, w :: ws, _, σ, ρ, s, ⟨v, r, e, h1, h2⟩ => by
    subst e
    exact Slots.sets (is := is) (s.set h1) h2
theorem tC_par {is : List Nat} {as : Es} (h : tC1 G Wx (.par is as) E σ H) : tEs G Wx as σ H fun vs H1 => vs.length = is.length ∧ E.nx (setsV σ is vs) H1 ∧ ∀ p, H1 p = none → E.nx (setsV σ is vs) (upd H1 p (.tup vs)) := by
  obtain ⟨c, ρ, S, K, r, s, w, k1, k2, k3, k4, k5⟩ := h
  simp only [wpC] at w
  refine ⟨c, ρ, S, _, _, r, s, w, fun vs H1 c1 S1 ws g1 r1 rp q => ?_, fun cls d H' c' S' x gg rr rx q => k5 cls d σ H' c' ρ S' x gg rr (s.mono gg) rx q⟩
  obtain ⟨hl, q⟩ := q
  refine ⟨by rw [rp.length]; exact hl, k1 _ H1 c1 _ S1 g1 r1 ((s.mono g1).sets rp) q, fun p np => ?_⟩
  have gn := Grow.new (o := .tup vs) r1 np
  exact k1 _ _ c1 _ S1 (g1.trans gn) (r1.new np) ((s.mono (g1.trans gn)).sets (RepWs.mono gn _ _ rp)) q
theorem gNms_ok : ∀ {is : List Nat} {vs : List V} {σ : L2.St} {H : Hp} {Q : L2.St → Hp → Prop}, vs.length = is.length → Q (setsV σ is vs) H → gNms is vs σ H Q
  | [], [], _, _, _, _, h => ⟨rfl, h⟩
  | i :: is, v :: vs, _, _, _, hl, h => ⟨v, vs, rfl, gNms_ok (is := is) (by simpa using hl) h⟩
  | [], _ :: _, _, _, _, hl, _ => by simp at hl
  | _ :: _, [], _, _, _, hl, _ => by simp at hl
theorem tC_setI {o i e : TW.E} (h : tC1 G Wx (.setI o i e) E σ H) : tAsg (tE G Wx e) (gSub (tE G Wx o) (tE G Wx i) rSetL) E σ H := by
  obtain ⟨c, ρ, S, K, r, s, w, k1, k2, k3, k4, k5⟩ := h
  simp only [wpC] at w
  have kx : ∀ {c' : RC} {H' : Hp}, Grow c H c' H' → ∀ cls d H2 c2 S2 x, Grow c' H' c2 H2 → RelS G c2 H2 S2 → RepX G c2 H2 x cls d → K.xc x ρ S2 → Wx cls d σ H2 := fun g0 cls d H2 c2 S2 x gg rr rx q => k5 cls d σ H2 c2 ρ S2 x (g0.trans gg) rr (s.mono (g0.trans gg)) rx q
  refine ⟨c, ρ, S, _, _, r, s, w, fun v H1 c1 S1 w1 g1 r1 rp q => ?_, kx .refl⟩
  refine ⟨c1, ρ, S1, _, _, r1, s.mono g1, q, fun vo H2 c2 S2 w2 g2 r2 rp2 q => ?_, kx g1⟩
  refine ⟨c2, ρ, S2, _, _, r2, s.mono (g1.trans g2), q, fun vi H3 c3 S3 w3 g3 r3 rp3 q => ?_, kx (g1.trans g2)⟩
  have key : ∃ k i ws j, w2 = .mr k ∧ w3 = .im (.int i) ∧ S3[k]? = some (.lst ws) ∧ ixN ws.length i = some j ∧ K.nx ρ (S3.set k (.lst (ws.set j w1))) := by
    unfold setIP at q
    split at q
    · obtain ⟨ws, j, hk, hj, q⟩ := q
      exact ⟨_, _, ws, j, rfl, rfl, hk, hj, q⟩
    · exact q.elim
  · obtain ⟨k, i, ws, j, rfl, rfl, hk, hj, q⟩ := key
    obtain ⟨a, ha, rfl⟩ := RepW.mono g3 _ _ rp2
    obtain ⟨vs, hv, rv⟩ := r3.obj k _ a hk ha
    have rpv := RepW.mono (g2.trans g3) _ _ rp
    refine ⟨a, vs, i, j, rfl, rep_int rp3, hv, by rw [rv.length]; exact hj, ?_⟩
    have gs := Grow.set (o := .lst (vs.set j v)) r3 ha
    have g0 := ((g1.trans g2).trans g3).trans gs
    exact k1 σ _ c3 ρ _ g0 (set_lst r3 ha (repsL_set rv rpv)) (s.mono g0) q
theorem putW_zip {c : RC} {f : Str} {w : W} {v : V} (rp : RepW G c H w v) : ∀ {ns : List Str} {ws : List W} {vs : List V}, RepWs G c H ws vs → ns.length = vs.length →
    ∃ vs', putF f v (ns.zip vs) = (putW f w ns ws).1.zip vs' ∧ (putW f w ns ws).1.length = vs'.length ∧ RepWs G c H (putW f w ns ws).2 vs' ∧ ∀ n ∈ (putW f w ns ws).1, n = f ∨ n ∈ ns
  | [], ws, vs, h, hl => by
    cases vs with
    | nil =>
      have : ws = [] := reps0 h
      subst this
      exact ⟨[v], rfl, rfl, ⟨v, [], rfl, rp, rfl⟩, fun n hn => .inl (by simpa [putW] using hn)⟩
    | cons _ _ => simp at hl
  | n :: ns, ws, vs, h, hl => by
    cases vs with
    | nil => simp at hl
    | cons x vs =>
      obtain ⟨a, r, rfl, h1, h2⟩ := reps1 h
      by_cases e : f = n
      · subst e
        refine ⟨v :: vs, ?_, ?_, ?_, fun m hm => ?_⟩
        · simp [putF, putW]
        · simpa [putW] using hl
        · simp only [putW, if_true]
          exact ⟨v, vs, rfl, rp, h2⟩
        · simp only [putW, if_true] at hm
          exact .inr hm
      · obtain ⟨vs', e1, e2, e3, e4⟩ := putW_zip rp (ns := ns) h2 (by simpa using hl)
        refine ⟨x :: vs', ?_, ?_, ?_, fun m hm => ?_⟩
        · simp only [putW, if_neg e, List.zip_cons_cons, putF, if_neg (fun z : n = f => e z.symm)]
          rw [e1]
        · simp only [putW, if_neg e, List.length_cons]
          rw [e2]
        · simp only [putW, if_neg e]
          exact ⟨x, vs', rfl, h1, e3⟩
        · simp only [putW, if_neg e, List.mem_cons] at hm
          rcases hm with hm | hm
          · exact .inr (by simp [hm])
          · rcases e4 m hm with z | z
            · exact .inl z
            · exact .inr (List.mem_cons_of_mem _ z)
theorem tC_setA {x f : Str} {o e : TW.E} (no : Cls G.K (G.cl x) ∧ NoAttr G.K (G.cl x) f) (h : tC1 G Wx (.setA x o f e) E σ H) : sFld G.K (tE G Wx o) (tE G Wx e) f E σ H := by
  obtain ⟨c, ρ, S, K, r, s, w, k1, k2, k3, k4, k5⟩ := h
  simp only [wpC] at w
  have kx : ∀ {c' : RC} {H' : Hp}, Grow c H c' H' → ∀ cls d H2 c2 S2 x, Grow c' H' c2 H2 → RelS G c2 H2 S2 → RepX G c2 H2 x cls d → K.xc x ρ S2 → Wx cls d σ H2 := fun g0 cls d H2 c2 S2 x gg rr rx q => k5 cls d σ H2 c2 ρ S2 x (g0.trans gg) rr (s.mono (g0.trans gg)) rx q
  refine ⟨c, ρ, S, _, _, r, s, w, fun v H1 c1 S1 w1 g1 r1 rp q => ?_, kx .refl⟩
  refine ⟨c1, ρ, S1, _, _, r1, s.mono g1, q, fun vo H2 c2 S2 w2 g2 r2 rp2 q => ?_, kx g1⟩
  obtain ⟨k, ns, ws, rfl, hk, hn, q⟩ := q
  obtain ⟨a, ha, rfl⟩ := rp2
  obtain ⟨dx, vs, hv, hl, io, rv⟩ := r2.obj k _ a hk ha
  have rpv := RepW.mono g2 _ _ rp
  refine ⟨a, G.cl x, dx, ns.zip vs, rfl, hv, no.1, no.2, by rw [List.length_zip]; omega, ?_⟩
  obtain ⟨vs', e1, e2, e3, e4⟩ := putW_zip (f := f) rpv rv hl
  have gs := Grow.set (o := .ins (G.cl x) dx (putF f v (ns.zip vs))) r2 ha
  have g0 := (g1.trans g2).trans gs
  refine k1 σ _ c2 ρ _ g0 (r2.set (m := .ins x (putW f w1 ns ws).1 (putW f w1 ns ws).2) ha ⟨dx, vs', by rw [upd_same, e1], e2, ⟨io.mem, io.cls, fun n hn => ?_⟩, RepWs.mono gs _ _ e3⟩) (s.mono g0) q
  rcases e4 n hn with z | z
  · subst z; exact no.2
  · exact io.no n z
theorem tC_pass (h : tC1 G Wx .pass E σ H) : tNext E σ H := by
  obtain ⟨c, ρ, S, K, r, s, w, k1, k2, k3, k4, k5⟩ := h
  simp only [wpC] at w
  exact k1 σ H c ρ S .refl r s w
theorem tC_brk (h : tC1 G Wx .brk E σ H) : tBreak E σ H := by
  obtain ⟨c, ρ, S, K, r, s, w, k1, k2, k3, k4, k5⟩ := h
  simp only [wpC] at w
  exact k3 σ H c ρ S .refl r s w
theorem tC_cont (h : tC1 G Wx .cont E σ H) : tCont E σ H := by
  obtain ⟨c, ρ, S, K, r, s, w, k1, k2, k3, k4, k5⟩ := h
  simp only [wpC] at w
  exact k4 σ H c ρ S .refl r s w
theorem tC_fail (h : tC1 G Wx .fail E σ H) : False := by
  obtain ⟨c, ρ, S, K, r, s, w, k1, k2, k3, k4, k5⟩ := h
  simp only [wpC] at w
theorem tCs_nil (h : tCs G Wx .nil E σ H) : tNext E σ H := by
  obtain ⟨c, ρ, S, K, r, s, w, k1, k2, k3, k4, k5⟩ := h
  simp only [wpCs] at w
  exact k1 σ H c ρ S .refl r s w
theorem tCs_fail (h : tCs G Wx (.cons .fail .nil) E σ H) : tNever E σ H := by
  obtain ⟨c, ρ, S, K, r, s, w, k1, k2, k3, k4, k5⟩ := h
  simp only [wpCs, wpC] at w
end
end TW

namespace TW
open PySem PySem.Spec PyProof.Rows L2
theorem sw_lc {elt : Expr} {gs : List Comprehension} {scope : Scope} {pos py : Pos} {y : Str} {l : Nat} {env : Env} : swapsWith (.ListComp elt gs scope pos) (some (.Name y py)) l env = pure (swB env.scope scope y py.line pos.line) := rfl
section
variable {D : Gd} {X : Cx} {Wx : WX}
theorem asg_snd (d : DOk D) (s : GS D X Wx) {i : Nat} {e : TW.E} {x : Str} {v : Expr} {pn pos : Pos} (hi : X.N[i]? = some x) (hx : L2.Loc X.env.scope x) (hE : chkE X.N X.env.scope e v = true) (ok : okE D e)
    (hv : (noComp v || isLc e v) = true) : PS X (.Assign [.Name x pn] v pos) (tC1 D.G Wx (.asg i e)) := by
  have pe := (sndE d e v X Wx s.g s.tk hE ok).1
  by_cases hn : noComp v = true
  · exact (ps_set s.g.nd hi hx pe (sw_ok hn) (.inl (s.fn x))).imp fun E σ H w => tC_asg w
  · have hn : noComp v = false := by simpa using hn
    rw [hn, Bool.false_or] at hv
    obtain ⟨elt, p, it, cond, own, ex, gens, scope, lpos, rfl, rfl⟩ : ∃ elt p it cond own ex gens scope lpos, e = .lc elt p it cond own ∧ v = .ListComp ex gens scope lpos := by
      unfold isLc at hv
      split at hv
      · exact ⟨_, _, _, _, _, _, _, _, _, rfl, rfl⟩
      · cases hv
    · match gens, hE with
      | [⟨tg, iter, ifs, isa⟩], h =>
        by_cases hsw : swB X.env.scope scope x pn.line lpos.line = true
        · rw [chkE] at h
          rw [okE] at ok
          obtain ⟨h, h9⟩ := andB h
          obtain ⟨h, h8⟩ := andB h
          obtain ⟨h, h7⟩ := andB h
          obtain ⟨h, h6⟩ := andB h
          obtain ⟨h, h5⟩ := andB h
          obtain ⟨h, h4⟩ := andB h
          obtain ⟨h, h3⟩ := andB h
          obtain ⟨h1, h2⟩ := andB h
          obtain rfl := of_decide_eq_true h1
          have pI := sndI d it tg iter X Wx s.g s.tk h6 ok.2.1
          have hy : X.env.scope.names.lookup x = some .local := by
            unfold swB at hsw
            simp only [Bool.and_eq_true, beq_iff_eq] at hsw
            exact hsw.1.1.2
          have hlc := ps_setLc (py := pn) (spos := pos) (pos := lpos) s.g.calm s.g.nd hi hy (by rw [sw_lc, hsw]) pI (blkOk_by h2)
            (fun _ H C cl fp => sndPat (D := D) (s.g.blk) (top := fun x => scope.names.lookup x == some .cell) (fun x z => z) p tg h7)
            (fun _ H C cl fp => sndTs d cond ifs (X.blk _ H scope (compEnvC scope cl C X.env) fp) (fun _ _ _ _ => False) s.g.blk takes0 h9 ok.2.2)
            (fun _ H C cl fp => (sndE d elt ex (X.blk _ H scope (compEnvC scope cl C X.env) fp) (fun _ _ _ _ => False) s.g.blk takes0 h8 ok.1).1) (fold_ok h5)
          refine hlc.imp fun E σ H w => ?_
          rw [own_ok]
          exact tE_lc (fun i hi => by
            have := List.all_eq_true.mp h4 i hi
            simpa using this) (tC_asg w)
        · have hsw : swB X.env.scope scope x pn.line lpos.line = false := by simpa using hsw
          exact (ps_set s.g.nd hi hx pe (by rw [sw_lc, hsw]) (.inl (s.fn x))).imp fun E σ H w => tC_asg w
      | [], h => simp [chkE] at h
      | _ :: _ :: _, h => simp [chkE] at h
theorem fm_names {sc : Scope} {l : Nat} : ∀ {ts : List Expr} {N : List Str} {is : List Nat}, chkNames N sc is ts = true → (ts.filterMap fun
      | .Name id pos => if sc.names.lookup id == some .local && pos.line == l then some id else none
      | _ => none).length = ts.length → (ts.filterMap fun
      | .Name id pos => if sc.names.lookup id == some .local && pos.line == l then some id else none
      | _ => none) = is.map (fun i => N.getD i "") ∧ ∀ i ∈ is, ∃ x, N[i]? = some x ∧ sc.names.lookup x = some .local := by
  intro ts
  induction ts with
  | nil =>
    intro N is h _
    cases is with
    | nil => exact ⟨rfl, fun i hi => by cases hi⟩
    | cons _ _ => simp [chkNames] at h
  | cons t ts ih =>
    intro N is h hl
    cases is with
    | nil => simp [chkNames] at h
    | cons i is =>
      cases t with
      | Name x p =>
        rw [chkNames] at h
        obtain ⟨h, h3⟩ := andB h
        obtain ⟨h1, h2⟩ := andB h
        have h1 := of_decide_eq_true h1
        rw [List.filterMap_cons] at hl ⊢
        simp only at hl ⊢
        by_cases hc : (sc.names.lookup x == some .local && p.line == l) = true
        · rw [if_pos hc] at hl ⊢
          simp only [List.length_cons, Nat.add_right_cancel_iff] at hl
          obtain ⟨e1, e2⟩ := ih h3 hl
          rw [Bool.and_eq_true, beq_iff_eq] at hc
          refine ⟨?_, fun j hj => ?_⟩
          · simp only [List.map_cons]
            rw [e1]
            simp [h1, List.getD]
          · rcases List.mem_cons.mp hj with z | z
            · subst z; exact ⟨x, h1, hc.1⟩
            · exact e2 j z
        · rw [if_neg hc] at hl
          simp only [List.length_cons] at hl
          have := List.length_filterMap_le (fun
            | .Name id pos => if sc.names.lookup id == some .local && pos.line == l then some id else none
            | _ => none) ts
          omega
      | _ => simp [chkNames] at h
theorem names_cons {N : List Str} {sc : Scope} {is : List Nat} {t : Expr} {ts : List Expr} (h : chkNames N sc is (t :: ts) = true) : ∃ i r x p, is = i :: r ∧ t = .Name x p ∧ N[i]? = some x ∧ chkNames N sc r ts = true := by
  cases is with
  | nil => simp [chkNames] at h
  | cons i is =>
    cases t with
    | Name x p =>
      rw [chkNames] at h
      obtain ⟨h, h3⟩ := andB h
      obtain ⟨h1, h2⟩ := andB h
      exact ⟨i, is, x, p, rfl, rfl, of_decide_eq_true h1, h3⟩
    | _ => simp [chkNames] at h
theorem names_nil {N : List Str} {sc : Scope} {is : List Nat} (h : chkNames N sc is [] = true) : is = [] := by
  cases is with
  | nil => rfl
  | cons i is => simp [chkNames] at h
theorem par_snd (d : DOk D) (s : GS D X Wx) {is : List Nat} {as : Es} {ts vs : List Expr} {k k2 : Nat} {p p2 pos : Pos} (hn : chkNames X.N X.env.scope is ts = true) (he : chkEs X.N X.env.scope false as vs = true) (hl : ts.length = vs.length) (h23 : ts.length = 2 ∨ ts.length = 3)
    (nd : is.Nodup) (hw : (swS X.env.scope ts vs).isSome = true) (ok : okEs D as) : PS X (.Assign [.Tuple ts k p] (.Tuple vs k2 p2) pos) (tC1 D.G Wx (.par is as)) := by
  have pa := (sndEs d as vs false X Wx s.g s.tk he ok).1
  obtain ⟨n1, n2, n3⟩ := names_ok s.g.nd s.fn is ts hn
  rw [asg_len] at n2
  cases hs : swS X.env.scope ts vs with
  | none => rw [hs] at hw; cases hw
  | some b =>
    cases b with
    | false =>
      refine (ps_asg (pe_tup pa) (pg_tup s.g.calm n1 rfl n3) rfl (swS_none hs) rfl).imp fun E σ H w => ?_
      refine (tC_par w).imp fun vs H1 q => ⟨?_, fun p np => ⟨p, vs, rfl, .inl (.inl (upd_same ..)), ?_, gNms_ok q.1 (q.2.2 p np)⟩⟩
      · rw [q.1, ← n2]
        rcases h23 with z | z <;> rw [z] <;> decide
      · rw [q.1, asg_len, n2]
    | true =>
      obtain ⟨w1, w2⟩ := swS_some (k := k) (p := p) (k2 := k2) (p2 := p2) hs
      obtain ⟨e1, e2⟩ := fm_names hn w2
      have w1 : swappedStores [.Tuple ts k p] (.Tuple vs k2 p2) X.env = pure (some (is.map (fun i => X.N.getD i ""))) := w1.trans (congrArg (fun z => pure (some z)) e1)
      have get : ∀ {i : Nat} {x : Str}, X.N[i]? = some x → X.N.getD i "" = x := fun h => by simp [List.getD, h]
      have loc : ∀ {i : Nat} {x : Str}, i ∈ is → X.N[i]? = some x → X.env.scope.names.lookup x = some .local := fun hi hx => by
        obtain ⟨x', h1, h2⟩ := e2 _ hi
        rw [hx] at h1
        cases h1
        exact h2
      rcases h23 with z | z
      · obtain ⟨t1, t2, rfl⟩ : ∃ t1 t2, ts = [t1, t2] := by
          match ts, z with
          | [a, b], _ => exact ⟨a, b, rfl⟩
        obtain ⟨v1, v2, rfl⟩ : ∃ t1 t2, vs = [t1, t2] := by
          match vs, hl with
          | [a, b], _ => exact ⟨a, b, rfl⟩
        obtain ⟨i, r, x, px, rfl, rfl, hi, hn⟩ := names_cons hn
        obtain ⟨j, r, y, py, rfl, rfl, hj, hn⟩ := names_cons hn
        obtain rfl := names_nil hn
        have hij : i ≠ j := by simpa using nd
        have li := loc (i := i) (by simp) hi
        have lj := loc (i := j) (by simp) hj
        simp only [List.map_cons, List.map_nil] at w1
        rw [get hi, get hj] at w1
        refine (ps_par s.g.calm s.g.nd hi hj hij li lj pa w1 rfl).imp fun E σ H w => ?_
        refine (tC_par w).imp fun vs H1 q => ?_
        obtain ⟨a, b, rfl⟩ : ∃ a b, vs = [a, b] := by
          match vs, q.1 with
          | [a, b], _ => exact ⟨a, b, rfl⟩
        exact ⟨a, b, rfl, q.2.1⟩
      · obtain ⟨t1, t2, t3, rfl⟩ : ∃ t1 t2 t3, ts = [t1, t2, t3] := by
          match ts, z with
          | [a, b, c], _ => exact ⟨a, b, c, rfl⟩
        obtain ⟨v1, v2, v3, rfl⟩ : ∃ t1 t2 t3, vs = [t1, t2, t3] := by
          match vs, hl with
          | [a, b, c], _ => exact ⟨a, b, c, rfl⟩
        obtain ⟨i, r, x, px, rfl, rfl, hi, hn⟩ := names_cons hn
        obtain ⟨j, r, y, py, rfl, rfl, hj, hn⟩ := names_cons hn
        obtain ⟨l, r, y', pz, rfl, rfl, hk, hn⟩ := names_cons hn
        obtain rfl := names_nil hn
        simp only [List.nodup_cons, List.mem_cons, List.not_mem_nil, or_false, not_or] at nd
        have li := loc (i := i) (by simp) hi
        have lj := loc (i := j) (by simp) hj
        have ll := loc (i := l) (by simp) hk
        simp only [List.map_cons, List.map_nil] at w1
        rw [get hi, get hj, get hk] at w1
        refine (ps_par3 s.g.calm s.g.nd hi hj hk nd.1.1 nd.1.2 nd.2.1 li lj ll pa w1 rfl).imp fun E σ H w => ?_
        refine (tC_par w).imp fun vs H1 q => ?_
        obtain ⟨a, b, c, rfl⟩ : ∃ a b c, vs = [a, b, c] := by
          match vs, q.1 with
          | [a, b, c], _ => exact ⟨a, b, c, rfl⟩
        exact ⟨a, b, c, rfl, q.2.1⟩
theorem sw_any {t v : Expr} {l : Nat} {env : Env} (h : ∀ x p, t ≠ .Name x p) : swapsWithSole [t] v l env = pure false := by
  show swapsWith v (some t) l env = pure false
  cases v <;> first
    | rfl
    | (cases t <;> first | rfl | exact absurd rfl (h _ _))
theorem sw_sole {t v : Expr} {l : Nat} {env : Env} (h : noComp v = true) : swapsWithSole [t] v l env = pure false := sw_ok h
theorem sws_no {ts : List Expr} {k : Nat} {p : Pos} {v : Expr} {env : Env} (h : noTup v = true) : swappedStores [.Tuple ts k p] v env = pure none := by
  cases v <;> first
    | rfl
    | cases h
theorem sws_sub {o i : Expr} {p : Pos} {v : Expr} {env : Env} : swappedStores [.Subscript o i p] v env = pure none := by
  cases v <;> rfl
mutual
theorem sndC (d : DOk D) : ∀ (c : C) (st : Stmt) (X : Cx) (Wx : WX), GS D X Wx → chkC X.N X.env.scope c st = true → okC D c → PS X st (tC1 D.G Wx c)
  | .asg i e, st, X, Wx, s, h, ok => by
    rw [chkC] at h
    rw [okC] at ok
    split at h
    · rename_i x pn v pos hs
      obtain rfl := asgN_of hs
      obtain ⟨h, h4⟩ := andB h
      obtain ⟨h, h3⟩ := andB h
      obtain ⟨h1, h2⟩ := andB h
      exact asg_snd d s (of_decide_eq_true h1) (loc_ok h2).1 h3 ok h4
    · cases h
  | .par is as, st, X, Wx, s, h, ok => by
    rw [chkC] at h
    rw [okC] at ok
    split at h
    · rename_i hs
      obtain rfl := asgP_of hs
      obtain ⟨h, h6⟩ := andB h
      obtain ⟨h, h5⟩ := andB h
      obtain ⟨h, h4⟩ := andB h
      obtain ⟨h, h3⟩ := andB h
      obtain ⟨h1, h2⟩ := andB h
      exact par_snd d s h1 h2 (of_decide_eq_true h3) (of_decide_eq_true h4) (of_decide_eq_true h5) h6 ok
    · cases h
  | .unp p e, st, X, Wx, s, h, ok => by
    rw [chkC] at h
    rw [okC] at ok
    split at h
    · rename_i ts k q v pos hs
      obtain rfl := asgT_of hs
      obtain ⟨h, h5⟩ := andB h
      obtain ⟨h, h4⟩ := andB h
      obtain ⟨h, h3⟩ := andB h
      obtain ⟨h1, h2⟩ := andB h
      exact (ps_asg (sndE d e v X Wx s.g s.tk h3 ok).1 (sndPat s.g (top := fun _ => true) (fun x _ => s.fn x) p _ h2) (sw_any fun _ _ z => by cases z) (sws_no h4) rfl).imp fun E σ H w => tC_unp w
    · cases h
  | .sta i j e, st, X, Wx, s, h, ok => by
    rw [chkC] at h
    rw [okC] at ok
    split at h
    · rename_i hs
      obtain rfl := asgS_of hs
      obtain ⟨h, h7⟩ := andB h
      obtain ⟨h, h6⟩ := andB h
      obtain ⟨h, h5⟩ := andB h
      obtain ⟨h, h4⟩ := andB h
      obtain ⟨h, h3⟩ := andB h
      obtain ⟨h1, h2⟩ := andB h
      refine (ps_asg (sndE d e _ X Wx s.g s.tk h5 ok).1 (pg_starL s.g.calm s.g.nd (of_decide_eq_true h1) (of_decide_eq_true h3) (loc_ok h2).1 (loc_ok h4).1 s.fn) (sw_any fun _ _ z => by cases z) (sws_no h6) rfl).imp fun E σ H w => ?_
      have := tC_sta w
      rw [← s.g.k] at this
      exact this
    · cases h
  | .aug i op e, st, X, Wx, s, h, ok => by
    rw [chkC] at h
    rw [okC] at ok
    split at h
    · rename_i hs
      obtain rfl := augN_of hs
      obtain ⟨h, h4⟩ := andB h
      obtain ⟨h, h3⟩ := andB h
      obtain ⟨h1, h2⟩ := andB h
      obtain rfl := of_decide_eq_true h3
      exact (ps_aug s.g.nd (of_decide_eq_true h1) (loc_ok h2).1 (sndE d e _ X Wx s.g s.tk h4 ok).1 (pip_aug _) (.inl (s.fn _))).imp fun E σ H w => tC_aug w
    · cases h
  | .ifs c a b, st, X, Wx, s, h, ok => by
    cases st with
    | If x y z pos =>
      rw [chkC] at h
      rw [okC] at ok
      obtain ⟨h, h4⟩ := andB h
      obtain ⟨h, h3⟩ := andB h
      obtain ⟨h1, h2⟩ := andB h
      exact (ps_if ((sndE d c x X Wx s.g s.tk h1 ok.1).2 h2) (sndCs d a y X Wx s h3 ok.2.1) (sndCs d b z X Wx s h4 ok.2.2)).imp fun E σ H w => tC_if w
    | _ => simp [chkC] at h
  | .fo p it b, st, X, Wx, s, h, ok => by
    cases st with
    | For tg iter body orelse pos =>
      cases orelse with
      | nil =>
        rw [chkC] at h
        rw [okC] at ok
        obtain ⟨h, h4⟩ := andB h
        obtain ⟨h, h3⟩ := andB h
        obtain ⟨h1, h2⟩ := andB h
        exact (ps_for s.pas s.g.calm (sndI d it tg iter X Wx s.g s.tk h2 ok.1) (sndPat s.g (top := fun _ => true) (fun x _ => s.fn x) p _ h3) (sndCs d b body X Wx s h4 ok.2) (fold_ok h1)).imp fun E σ H w => tC_for w
      | cons _ _ => simp [chkC] at h
    | _ => simp [chkC] at h
  | .wh c b, st, X, Wx, s, h, ok => by
    cases st with
    | While x body orelse pos =>
      cases orelse with
      | nil =>
        rw [chkC] at h
        rw [okC] at ok
        obtain ⟨h, h3⟩ := andB h
        obtain ⟨h1, h2⟩ := andB h
        exact (ps_while s.pas ((sndE d c x X Wx s.g s.tk h1 ok.1).2 h2) (sndCs d b body X Wx s h3 ok.2)).imp fun E σ H w => tC_wh w
      | cons _ _ => simp [chkC] at h
    | _ => simp [chkC] at h
  | .ret e, st, X, Wx, s, h, ok => by
    cases st with
    | Return v pos =>
      cases v with
      | some x =>
        rw [chkC] at h
        rw [okC] at ok
        exact (ps_ret (sndE d e x X Wx s.g s.tk h ok).1).imp fun E σ H w => tC_ret w
      | none => simp [chkC] at h
    | _ => simp [chkC] at h
  | .ex e, st, X, Wx, s, h, ok => by
    cases st with
    | Expr x pos =>
      rw [chkC] at h
      rw [okC] at ok
      obtain ⟨h1, h2⟩ := andB h
      exact (ps_expr (sndE d e x X Wx s.g s.tk h1 ok).1 (sw_ok h2)).imp fun E σ H w => tC_ex w
    | _ => simp [chkC] at h
  | .setI o i e, st, X, Wx, s, h, ok => by
    rw [chkC] at h
    rw [okC] at ok
    split at h
    · rename_i x y p v pos hs
      obtain rfl := asgI_of hs
      obtain ⟨h, h5⟩ := andB h
      obtain ⟨h, h4⟩ := andB h
      obtain ⟨h, h3⟩ := andB h
      obtain ⟨h1, h2⟩ := andB h
      refine (ps_asg (sndE d e v X Wx s.g s.tk h4 ok.2.2).1 (pg_sub (sndE d o x X Wx s.g s.tk h1 ok.1).1 (sndE d i y X Wx s.g s.tk h2 ok.2.1).1 set_list ?_) (sw_any fun _ _ z => by cases z) sws_sub rfl).imp fun E σ H w => tC_setI w
      intro u
      cases y <;> first
        | rfl
        | cases h3
    · cases h
  | .setA c o f e, st, X, Wx, s, h, ok => by
    rw [chkC] at h
    rw [okC] at ok
    split at h
    · rename_i x f' p v pos hs
      obtain rfl := asgA_of hs
      obtain ⟨h, h4⟩ := andB h
      obtain ⟨h, h3⟩ := andB h
      obtain ⟨h1, h2⟩ := andB h
      obtain rfl := of_decide_eq_true h1
      refine (ps_fld (sndE d o x X Wx s.g s.tk h2 ok.2.1).1 (sndE d e v X Wx s.g s.tk h3 ok.2.2).1 (sw_ok h4)).imp fun E σ H w => ?_
      rw [s.g.k]
      exact tC_setA ok.1.2 w
    · cases h
  | .fail, st, X, Wx, s, h, ok => ps_never.imp fun E σ H w => (tC_fail w).elim
  | .cont, st, X, Wx, s, h, ok => by
    cases st with
    | Continue pos => exact ps_continue.imp fun E σ H w => tC_cont w
    | _ => simp [chkC] at h
  | .brk, st, X, Wx, s, h, ok => by
    cases st with
    | Break pos => exact ps_break.imp fun E σ H w => tC_brk w
    | _ => simp [chkC] at h
  | .pass, st, X, Wx, s, h, ok => by
    cases st with
    | Pass pos => exact ps_pass.imp fun E σ H w => tC_pass w
    | _ => simp [chkC] at h
theorem sndCs (d : DOk D) : ∀ (c : Cs) (st : List Stmt) (X : Cx) (Wx : WX), GS D X Wx → chkCs X.N X.env.scope c st = true → okCs D c → PSs X st (tCs D.G Wx c)
  | .nil, st, X, Wx, s, h, ok => by
    cases st with
    | nil => exact pss_nil.imp fun E σ H w => tCs_nil w
    | cons _ _ => simp [chkCs] at h
  | .cons c r, st, X, Wx, s, h, ok => by
    cases st with
    | nil => simp [chkCs] at h
    | cons a ss =>
      rw [chkCs] at h
      rw [okCs] at ok
      rcases Bool.or_eq_true_iff.mp h with h | h
      · unfold isF at h
        split at h
        · exact pss_never.imp fun E σ H w => tCs_fail w
        · cases h
      · obtain ⟨h1, h2⟩ := andB h
        exact (pss_cons (sndC d c a X Wx s h1 ok.1) (sndCs d r ss X Wx s h2 ok.2)).imp fun E σ H w => tC_seq w
end
end
end TW

namespace TW
open PySem PySem.Spec PyProof.Rows L2
/-- the tree of what is given back -/
def frz (n : Nat) (S : Sto) : W → Option T
  | .im t => some t
  | .mr k => if k < n then none else match S[k]? with
    | some (.lst ws) => (imAll ws).map T.lst
    | some (.ins c ns ws) => (imAll ws).map (T.ins c ns)
    | _ => none
  | _ => none
def cloW (n : Nat) : W → Bool
  | .mr k => decide (k < n)
  | _ => true
def cloO (n : Nat) : MO → Bool
  | .lst ws => ws.all (cloW n)
  | .dK _ ws => ws.all (cloW n)
  | .dT _ ws => ws.all (cloW n)
  | .ins _ _ ws => ws.all (cloW n)
/-- the older objects speak of older ones only -/
def Old (S S' : Sto) : Prop := ∀ k o, k < S.length → S'[k]? = some o → S[k]? = some o ∨ cloO S.length o = true
/-- what a def leaves of the store, and what it gives back -/
inductive Exit (S : Sto) : W → Sto → W → Sto → Prop
  | keep {w : W} {S' : Sto} : Exit S w S' w S'
  | drop {w : W} {S' : Sto} {t : T} (o : Old S S') (h : frz S.length S' w = some t) : Exit S w S' (.im t) (S'.take S.length)
  | mv {k : Nat} {S' : Sto} {x : MO} (o : Old S S') (hk : S.length ≤ k) (h : S'[k]? = some x) (hc : cloO S.length x = true) : Exit S (.mr k) S' (.mr S.length) (S'.take S.length ++ [x])
  | old {w : W} {S' : Sto} (o : Old S S') (h : cloW S.length w = true) : Exit S w S' w (S'.take S.length)
inductive ExitX (S : Sto) : Exc → Sto → Exc → Sto → Prop
  | keep {x : Exc} {S' : Sto} : ExitX S x S' x S'
  | drop {x : Exc} {S' : Sto} (o : Old S S') (h : x.ws.all (cloW S.length) = true) : ExitX S x S' x (S'.take S.length)
/-- the wishes at a def's ends -/
def exitP (S : Sto) (Q : VQ) (X : XQ) : Post where
  nx := fun _ S' => ∃ w1 S1, Exit S (.im .non) S' w1 S1 ∧ Q w1 S1
  rt := fun w S' => ∃ w1 S1, Exit S w S' w1 S1 ∧ Q w1 S1
  bk := fun _ _ => False
  ct := fun _ _ => False
  xc := fun x _ S' => ∃ x1 S1, ExitX S x S' x1 S1 ∧ X x1 S1
theorem exit_pure {S S' : Sto} {w : W} {t : T} {Q : VQ} (h : S'.take S.length = S) (hf : frz S.length S' w = some t) (q : Q (.im t) S) : ∃ w1 S1, Exit S w S' w1 S1 ∧ Q w1 S1 :=
  ⟨.im t, S'.take S.length, .drop (fun k o hk e => .inl (by rw [← h, List.getElem?_take_of_lt hk]; exact e)) hf, by rw [h]; exact q⟩
def startS (N : List Str) (ws : List W) : SE := ws.map some ++ List.replicate (N.length - ws.length) none
theorem getS_eq : ∀ (ρ : SE) (i : Nat), getS ρ i = (ρ[i]?).join
  | [], i => by simp [getS]
  | x :: r, 0 => by simp [getS]
  | x :: r, n + 1 => by simp [getS, getS_eq r n]
section
variable {G : Gr} {c : RC} {H : Hp} {S : Sto}
theorem start_ok {N : List Str} : ∀ {ws : List W} {vs : List V}, RepWs G c H ws vs → Slots G c H (L2.start N vs) (startS N ws) := by
  intro ws vs h
  have hl := h.length
  refine ⟨?_, fun i w e => ?_⟩
  · unfold L2.start startS
    simp [hl]
  · rw [getS_eq] at e
    unfold startS at e
    by_cases hi : i < ws.length
    · rw [List.getElem?_append_left (by simpa using hi), List.getElem?_map] at e
      cases e1 : ws[i]? with
      | none => rw [e1] at e; cases e
      | some w' =>
        rw [e1] at e
        obtain ⟨v, e2, rp⟩ := h.get e1
        have : w' = w := by simpa using e
        subst this
        refine ⟨v, ?_, rp⟩
        unfold L2.start
        rw [List.getElem?_append_left (by simp; omega), List.getElem?_map, e2]
        rfl
    · rw [List.getElem?_append_right (by simpa using hi), List.getElem?_replicate] at e
      split at e <;> cases e
/-- fewer objects -/
def RC.cut (c : RC) (n : Nat) : RC := ⟨c.mu.take n, c.be, c.hi⟩
theorem cut_mu {c : RC} {n : Nat} {a : Addr} (h : Mu (c.cut n) a) : Mu c a := by
  rcases h with h | h | h
  · exact .inl (List.mem_of_mem_take h)
  · exact .inr (.inl h)
  · exact .inr (.inr h)
theorem GrowI.cut {n : Nat} : GrowI c H (c.cut n) H := ⟨fun a o h m => ⟨h, fun z => m (cut_mu z)⟩⟩
theorem RepW.cut {n : Nat} : ∀ {w : W} {v : V}, RepW G c H w v → cloW n w = true → RepW G (c.cut n) H w v
  | .im t, v, h, _ => Rep.monoI GrowI.cut t v h
  | .mr k, v, ⟨a, h, e⟩, hc => ⟨a, by
      show (c.mu.take n)[k]? = some a
      rw [List.getElem?_take_of_lt (of_decide_eq_true hc)]
      exact h, e⟩
  | .src j, v, h, _ => h
theorem RepWs.cut {n : Nat} : ∀ {ws : List W} {vs : List V}, RepWs G c H ws vs → ws.all (cloW n) = true → RepWs G (c.cut n) H ws vs
  | [], _, h, _ => h
  | w :: ws, _, ⟨v, r, e, h1, h2⟩, hc => by
    rw [List.all_cons, Bool.and_eq_true] at hc
    exact ⟨v, r, e, h1.cut hc.1, RepWs.cut h2 hc.2⟩
theorem RepO.cut {n : Nat} {a : Addr} : ∀ {o : MO}, RepO G c H a o → cloO n o = true → RepO G (c.cut n) H a o
  | .lst ws, ⟨vs, h, r⟩, hc => ⟨vs, h, r.cut hc⟩
  | .dK ks ws, ⟨vs, h, l, r⟩, hc => ⟨vs, h, l, r.cut hc⟩
  | .dT ks ws, ⟨vs, h, l, r⟩, hc => ⟨vs, h, l, r.cut hc⟩
  | .ins x ns ws, ⟨dx, vs, h, l, io, r⟩, hc => ⟨dx, vs, h, l, io, r.cut hc⟩
theorem clo_of {n : Nat} (hn : c.mu.length = n) : ∀ {ws : List W} {vs : List V}, RepWs G c H ws vs → ws.all (cloW n) = true
  | [], _, _ => rfl
  | w :: ws, _, ⟨v, r, e, h1, h2⟩ => by
    rw [List.all_cons, clo_of hn h2, Bool.and_true]
    cases w with
    | im t => rfl
    | src j => rfl
    | mr k =>
      obtain ⟨a, h, _⟩ := h1
      show decide (k < n) = true
      rw [decide_eq_true_eq, ← hn]
      exact (List.getElem?_eq_some_iff.mp h).1
theorem cloO_of {n : Nat} (hn : c.mu.length = n) {a : Addr} : ∀ {o : MO}, RepO G c H a o → cloO n o = true
  | .lst ws, ⟨vs, h, r⟩ => clo_of hn r
  | .dK ks ws, ⟨vs, h, l, r⟩ => clo_of hn r
  | .dT ks ws, ⟨vs, h, l, r⟩ => clo_of hn r
  | .ins x ns ws, ⟨dx, vs, h, l, io, r⟩ => clo_of hn r
variable {c' : RC} {H' : Hp} {S' : Sto}
theorem mu_len (g : Grow c H c' H') : c.mu.length ≤ c'.mu.length := by
  rcases Nat.lt_or_ge c'.mu.length c.mu.length with h | h
  · have e : c.mu[c'.mu.length]? = some c.mu[c'.mu.length] := List.getElem?_eq_getElem h
    have := (List.getElem?_eq_some_iff.mp (g.mu _ _ e)).1
    omega
  · exact h
theorem Grow.cut (r : RelS G c H S) (g : Grow c H c' H') : Grow c H (c'.cut S.length) H' :=
  ⟨fun a o h n => ⟨(g.im a o h n).1, fun z => (g.im a o h n).2 (cut_mu z)⟩, fun k a h => by
    show (c'.mu.take S.length)[k]? = some a
    rw [List.getElem?_take_of_lt (by rw [← r.len]; exact (List.getElem?_eq_some_iff.mp h).1)]
    exact g.mu k a h, g.be, g.hi⟩
theorem RelS.cut (r : RelS G c H S) (g : Grow c H c' H') (r' : RelS G c' H' S') (o : Old S S') : RelS G (c'.cut S.length) H' (S'.take S.length) where
  len := by
    show (c'.mu.take S.length).length = _
    rw [List.length_take, List.length_take, r'.len]
  nd := r'.nd.sublist (List.take_sublist _ _)
  obj := fun k x a h1 h2 => by
    have hk : k < S.length := by
      have := (List.getElem?_eq_some_iff.mp h1).1
      rw [List.length_take] at this
      omega
    have h2' : (c'.mu.take S.length)[k]? = some a := h2
    rw [List.getElem?_take_of_lt hk] at h1 h2'
    refine (r'.obj k x a h1 h2').cut ?_
    rcases o k x hk h1 with e | e
    · have hk' : k < c.mu.length := by rw [r.len]; exact hk
      exact cloO_of r.len (r.obj k x _ e (List.getElem?_eq_getElem hk'))
    · exact e
  reg := r'.reg
  dis := fun j g' hg a ha m => r'.dis j g' hg a ha (List.mem_of_mem_take m)
  apt := r'.apt
  hid := fun a ha => ⟨(r'.hid a ha).1, fun m => (r'.hid a ha).2.1 (List.mem_of_mem_take m), (r'.hid a ha).2.2⟩
theorem cut_free {n k : Nat} {a : Addr} (r' : RelS G c' H' S') (h : c'.mu[k]? = some a) (hk : n ≤ k) : ¬ Mu (c'.cut n) a := by
  rintro (z | ⟨g, hg, z⟩ | z)
  · obtain ⟨i, hi, e⟩ := List.getElem_of_mem z
    have hi' : i < c'.mu.length := by rw [RC.cut, List.length_take] at hi; omega
    have e' : c'.mu[i] = a := by rw [← e]; exact (List.getElem_take ..).symm
    have hk' := List.getElem?_eq_some_iff.mp h
    have := nodup_ix r'.nd hi' hk'.1 (e'.trans hk'.2.symm)
    rw [RC.cut, List.length_take] at hi
    omega
  · obtain ⟨j, hj, e⟩ := List.getElem_of_mem hg
    exact r'.dis j g (by rw [← e]; exact List.getElem?_eq_getElem hj) a z (List.mem_of_getElem? h)
  · exact (r'.hid a z).2.1 (List.mem_of_getElem? h)
theorem imAll_all {n : Nat} {ws : List W} {ts : List T} (e : imAll ws = some ts) : ws.all (cloW n) = true := by
  rw [imAll_eq e]
  simp [cloW]
theorem RepW.frz {w : W} {v : V} {t : T} (r' : RelS G c' H' S') (rp : RepW G c' H' w v) (e : frz S.length S' w = some t) : RepW G (c'.cut S.length) H' (.im t) v := by
  cases w with
  | im t' =>
    cases e
    exact rp.cut rfl
  | src j => cases e
  | mr k =>
    obtain ⟨a, hk, rfl⟩ := rp
    unfold TW.frz at e
    simp only at e
    split at e
    · cases e
    · rename_i hn
      have nm := cut_free r' hk (Nat.le_of_not_lt hn)
      split at e
      · rename_i ws hs
        cases e1 : imAll ws with
        | none => rw [e1] at e; cases e
        | some ts =>
          rw [e1] at e
          cases e
          obtain ⟨vs, h, rv⟩ := r'.obj k _ a hs hk
          show Rep G _ H' (.lst ts) (.ref a)
          rw [Rep]
          refine ⟨a, vs, rfl, nm, h, RepWs.ts ?_⟩
          rw [← imAll_eq e1]
          exact rv.cut (imAll_all e1)
      · rename_i x ns ws hs
        cases e1 : imAll ws with
        | none => rw [e1] at e; cases e
        | some ts =>
          rw [e1] at e
          cases e
          obtain ⟨dx, vs, h, l, io, rv⟩ := r'.obj k _ a hs hk
          show Rep G _ H' (.ins x ns ts) (.ref a)
          rw [Rep]
          refine ⟨a, dx, vs, rfl, nm, h, l, io, RepWs.ts ?_⟩
          rw [← imAll_eq e1]
          exact rv.cut (imAll_all e1)
      · cases e
/-- fewer objects, and one of the others -/
def RC.mv (c : RC) (n : Nat) (a : Addr) : RC := ⟨c.mu.take n ++ [a], c.be, c.hi⟩
theorem mv_mu {c : RC} {n k : Nat} {a b : Addr} (hk : c.mu[k]? = some a) (h : Mu (c.mv n a) b) : Mu c b := by
  rcases h with h | h | h
  · rcases List.mem_append.mp h with h | h
    · exact .inl (List.mem_of_mem_take h)
    · simp at h
      subst h
      exact .inl (List.mem_of_getElem? hk)
  · exact .inr (.inl h)
  · exact .inr (.inr h)
theorem mv_at {c : RC} {n j : Nat} {a b : Addr} (hj : j < n) (h : c.mu[j]? = some b) : (c.mv n a).mu[j]? = some b := by
  show (c.mu.take n ++ [a])[j]? = some b
  have hl := (List.getElem?_eq_some_iff.mp h).1
  rw [List.getElem?_append_left (by rw [List.length_take]; omega), List.getElem?_take_of_lt hj]
  exact h
theorem RepW.mv {n k : Nat} {a : Addr} (hk : c.mu[k]? = some a) : ∀ {w : W} {v : V}, RepW G c H w v → cloW n w = true → RepW G (c.mv n a) H w v
  | .im t, v, h, _ => Rep.monoI ⟨fun b o h m => ⟨h, fun z => m (mv_mu hk z)⟩⟩ t v h
  | .mr j, v, ⟨b, h, e⟩, hc => ⟨b, mv_at (of_decide_eq_true hc) h, e⟩
  | .src j, v, h, _ => h
theorem RepWs.mv {n k : Nat} {a : Addr} (hk : c.mu[k]? = some a) : ∀ {ws : List W} {vs : List V}, RepWs G c H ws vs → ws.all (cloW n) = true → RepWs G (c.mv n a) H ws vs
  | [], _, h, _ => h
  | w :: ws, _, ⟨v, r, e, h1, h2⟩, hc => by
    rw [List.all_cons, Bool.and_eq_true] at hc
    exact ⟨v, r, e, h1.mv hk hc.1, RepWs.mv hk h2 hc.2⟩
theorem RepO.mv {n k : Nat} {a b : Addr} (hk : c.mu[k]? = some a) : ∀ {o : MO}, RepO G c H b o → cloO n o = true → RepO G (c.mv n a) H b o
  | .lst ws, ⟨vs, h, r⟩, hc => ⟨vs, h, r.mv hk hc⟩
  | .dK ks ws, ⟨vs, h, l, r⟩, hc => ⟨vs, h, l, r.mv hk hc⟩
  | .dT ks ws, ⟨vs, h, l, r⟩, hc => ⟨vs, h, l, r.mv hk hc⟩
  | .ins x ns ws, ⟨dx, vs, h, l, io, r⟩, hc => ⟨dx, vs, h, l, io, r.mv hk hc⟩
theorem mv_ok {k : Nat} {x : MO} {v : V} (r : RelS G c H S) (g : Grow c H c' H') (r' : RelS G c' H' S') (rp : RepW G c' H' (.mr k) v) (o : Old S S') (hk : S.length ≤ k) (h : S'[k]? = some x) (hc : cloO S.length x = true) :
    ∃ c1, Grow c H c1 H' ∧ RelS G c1 H' (S'.take S.length ++ [x]) ∧ RepW G c1 H' (.mr S.length) v := by
  obtain ⟨a, ha, rfl⟩ := rp
  have hkl := (List.getElem?_eq_some_iff.mp h).1
  have hn : S.length ≤ c'.mu.length := by rw [r'.len]; omega
  have ln : (c'.mu.take S.length).length = S.length := by rw [List.length_take]; omega
  have na := cut_free (n := S.length) r' ha hk
  have am : a ∈ c'.mu := List.mem_of_getElem? ha
  have last : (c'.mv S.length a).mu[S.length]? = some a := by
    show (c'.mu.take S.length ++ [a])[S.length]? = some a
    rw [List.getElem?_append_right (by omega), ln]
    simp
  refine ⟨c'.mv S.length a, ⟨fun b u hb n => ⟨(g.im b u hb n).1, fun z => (g.im b u hb n).2 (mv_mu ha z)⟩, fun j b hb => mv_at (by rw [← r.len]; exact (List.getElem?_eq_some_iff.mp hb).1) (g.mu j b hb), g.be, g.hi⟩, ?_, ⟨a, last, rfl⟩⟩
  refine ⟨?_, ?_, fun j u b h1 h2 => ?_, r'.reg, fun j q hq b hb z => ?_, r'.apt, fun b hb => ⟨(r'.hid b hb).1, fun z => ?_, (r'.hid b hb).2.2⟩⟩
  · show (c'.mu.take S.length ++ [a]).length = _
    rw [List.length_append, List.length_append, ln, List.length_take]
    simp
    omega
  · show (c'.mu.take S.length ++ [a]).Nodup
    rw [List.nodup_append]
    refine ⟨r'.nd.sublist (List.take_sublist _ _), by simp, fun b hb d hd e => ?_⟩
    simp at hd
    subst hd
    subst e
    exact na (.inl hb)
  · have lt : (S'.take S.length).length = S.length := by rw [List.length_take]; omega
    by_cases hj : j < S.length
    · rw [List.getElem?_append_left (by omega), List.getElem?_take_of_lt hj] at h1
      have h2' : (c'.mu.take S.length ++ [a])[j]? = some b := h2
      rw [List.getElem?_append_left (by omega), List.getElem?_take_of_lt hj] at h2'
      refine (r'.obj j u b h1 h2').mv ha ?_
      rcases o j u hj h1 with e | e
      · exact cloO_of r.len (r.obj j u _ e (List.getElem?_eq_getElem (by rw [r.len]; exact hj)))
      · exact e
    · have hj' : j = S.length := by
        have := (List.getElem?_eq_some_iff.mp h1).1
        rw [List.length_append, lt] at this
        simp at this
        omega
      subst hj'
      rw [last] at h2
      cases h2
      rw [List.getElem?_append_right (by omega), lt] at h1
      simp at h1
      subst h1
      exact (r'.obj k x a h ha).mv ha hc
  · rcases List.mem_append.mp z with z | z
    · exact r'.dis j q hq b hb (List.mem_of_mem_take z)
    · simp at z
      subst z
      exact r'.dis j q hq b hb am
  · rcases List.mem_append.mp z with z | z
    · exact (r'.hid b hb).2.1 (List.mem_of_mem_take z)
    · simp at z
      subst z
      exact (r'.hid b hb).2.1 am
/-- at a def's end -/
theorem exit_ok {w w1 : W} {v : V} {S1 : Sto} (r : RelS G c H S) (g : Grow c H c' H') (r' : RelS G c' H' S') (rp : RepW G c' H' w v) (e : Exit S w S' w1 S1) : ∃ c1, Grow c H c1 H' ∧ RelS G c1 H' S1 ∧ RepW G c1 H' w1 v := by
  cases e with
  | keep => exact ⟨c', g, r', rp⟩
  | drop o h => exact ⟨_, Grow.cut r g, RelS.cut r g r' o, RepW.frz r' rp h⟩
  | old o h => exact ⟨_, Grow.cut r g, RelS.cut r g r' o, rp.cut h⟩
  | mv o hk h hc => exact mv_ok r g r' rp o hk h hc
theorem exitX_ok {x x1 : Exc} {cls : Value} {d : Option Addr} {S1 : Sto} (r : RelS G c H S) (g : Grow c H c' H') (r' : RelS G c' H' S') (rp : RepX G c' H' x cls d) (e : ExitX S x S' x1 S1) : ∃ c1, Grow c H c1 H' ∧ RelS G c1 H' S1 ∧ RepX G c1 H' x1 cls d := by
  cases e with
  | keep => exact ⟨c', g, r', rp⟩
  | drop o h =>
    refine ⟨_, Grow.cut r g, RelS.cut r g r' o, rp.1, ?_⟩
    rcases rp.2 with z | ⟨dx, vs, e1, e2, e3, e4, e5⟩
    · exact .inl z
    · exact .inr ⟨dx, vs, e1, e2, fun z => e3 (cut_mu z), e4, e5.cut h⟩
end
/-- one level more -/
def Gd.up (D : Gd) (n : Nat) : Gd := { D with lv := D.lv + n }
section
variable {D : Gd}
/-- a def keeps its promise -/
theorem fn_ok {x qual : Str} {params : Arguments} {body : List Stmt} {scope : Scope} {dvs : List V} {kws : List (Str × V)} {f : Addr} {fd : FuncData} {N ps : List Str} {ir : Cs} {sp : Spec} (d : DOk D) (F : FunD D.G.K x qual params body scope dvs kws f fd) (Sc : FnScope N ps scope)
    (hchk : chkCs N scope ir body = true) (ok : okCs D ir) (hsp : ∀ ws S Q X, sp ws S Q X → ws.length = ps.length ∧ wpCs ir (startS N ws) S (exitP S Q X)) :
    FnOk D.P D.w D.G.K D.mg D.base (L2.CX D.P D.w) (D.lv + 1) f fd ps (liftSp D.G sp) := by
  refine F.ok Sc (fun vs H Q E h => ?_) fun cdv A outer s H vs Q E hr h => ?_
  · obtain ⟨c, ws, S, P, XP, r, rp, w, _⟩ := h
    rw [rp.length]
    exact (hsp ws S P XP w).1
  · obtain ⟨c, ws, S, P, XP, r, rp, w, k, kx⟩ := h
    have gs : GS D (cxOf (L2.CX D.P D.w) D.P D.w D.G.K D.mg D.base N qual scope f cdv A outer s H E) (fun cls d _ H => E cls d H) :=
      ⟨⟨rfl, rfl, rfl, rfl, rfl, rfl, Sc.nd, hr⟩, takes_of rfl rfl rfl rfl, passes_of rfl, fun _ => rfl⟩
    refine ⟨_, sndCs d ir body _ _ gs hchk ok, c, startS N ws, S, exitP S P XP, r, start_ok rp, (hsp ws S P XP w).2, ?_, ?_, ?_, ?_, ?_⟩
    · rintro σ' H' c' ρ' S' g r' s' ⟨w1, S1, e, q⟩
      obtain ⟨c1, g1, r1, rp1⟩ := exit_ok r g r' non_rep e
      exact k _ H' c1 S1 w1 g1 r1 rp1 q
    · rintro v H' c' S' w g r' rp' ⟨w1, S1, e, q⟩
      obtain ⟨c1, g1, r1, rp1⟩ := exit_ok r g r' rp' e
      exact k _ H' c1 S1 w1 g1 r1 rp1 q
    · rintro σ' H' c' ρ' S' g r' s' q
      exact q.elim
    · rintro σ' H' c' ρ' S' g r' s' q
      exact q.elim
    · rintro cls dd σ' H' c' ρ' S' x g r' s' rx ⟨x1, S1, e, q⟩
      obtain ⟨c1, g1, r1, rp1⟩ := exitX_ok r g r' rx e
      exact kx cls dd H' c1 S1 x1 g1 r1 rp1 q
/-- how it is called -/
theorem cal_of {f : Addr} {fd : FuncData} {ps : List Str} {sp : Spec} {n : Nat} (F : FnOk D.P D.w D.G.K D.mg D.base (L2.CX D.P D.w) n f fd ps (liftSp D.G sp)) (hn : n ≤ D.lv) (hb : Binds D.G.K fd ps []) : CalOk D (.ref f) sp := by
  intro X g Wx tk pins s σ H xs us Q I r h
  have hl : us.length = ps.length := by rw [← r.length]; exact F.len _ _ _ _ h
  have e0 := I.env0
  rw [g.pr, g.wo, g.k, g.mg, g.ba] at e0
  have kin : D.G.K.In s.heap := by rw [← g.k]; exact I.kIn
  have hb' := hb s us kin (by rw [List.append_nil]; exact hl)
  rw [List.append_nil] at hb'
  rw [g.pr, g.wo]
  refine codeAny_mono (F.run X.A X.stack s H ⟨us, []⟩ us xs Q _ (g.room.mono hn) e0 hb' r h) fun r s' hq => ?_
  cases r with
  | error e =>
    have hq : L2.CX D.P D.w X.stack H s (fun cls d H' => Wx cls d σ H') e s' := hq
    rw [← g.pr, ← g.wo] at hq
    exact tk e s' (XE.of_call I (fun cls d H' h => h) hq)
  | ok fl =>
    cases fl with
    | ret u =>
      have hq : CE X.stack D.P D.w H s Q u s' := hq
      rw [← g.pr, ← g.wo] at hq
      exact I.after hq
    | next => exact False.elim hq
    | brk => exact False.elim hq
    | cont => exact False.elim hq
end
end TW

namespace TW
open PySem PySem.Spec PyProof.Rows L2
abbrev FnD (D : Gd) (n : Nat) (f : Addr) (fd : FuncData) (ps : List Str) (sp : Spec) : Prop := FnOk D.P D.w D.G.K D.mg D.base (L2.CX D.P D.w) n f fd ps (liftSp D.G sp)
section
variable {D : Gd}
/-- the callee runs, from anywhere below the body -/
theorem run_any {X : Cx} (g : GX D X) {Wx : WX} (tk : Takes X Wx) {f : Addr} {fd : FuncData} {ps : List Str} {sp : Spec} {n : Nat} (F : FnD D n f fd ps sp) (hb : Binds D.G.K fd ps []) {A : Around} (hr : Room n A) {pins : List (Addr × Obj)} {s : Shared} {σ : L2.St} {H : Hp} {xs : List V} {us : List Value} {Q : VK}
    (e0 : Env0 D.P D.w D.G.K D.mg D.base A X.stack s H) (I : Inv X pins σ H s) (r : Vals xs us) (h : liftV D.G sp (fun cls d H' => Wx cls d σ H') xs H Q) :
    codeAny (model X.prog X.w) A (.call (.ref f) ⟨us, []⟩) (fun r s' => match r with | .ok (.ret v) => EP X pins σ Q v s' | .ok _ => False | .error e => X.xe e s') s := by
  have hl : us.length = ps.length := by rw [← r.length]; exact F.len _ _ _ _ h
  have kin : D.G.K.In s.heap := by rw [← g.k]; exact I.kIn
  have hb' := hb s us kin (by rw [List.append_nil]; exact hl)
  rw [List.append_nil] at hb'
  rw [g.pr, g.wo]
  refine codeAny_mono (F.run A X.stack s H ⟨us, []⟩ us xs Q _ hr e0 hb' r h) fun r s' hq => ?_
  cases r with
  | error e =>
    have hq : L2.CX D.P D.w X.stack H s (fun cls d H' => Wx cls d σ H') e s' := hq
    rw [← g.pr, ← g.wo] at hq
    exact tk e s' (XE.of_call I (fun cls d H' h => h) hq)
  | ok fl =>
    cases fl with
    | ret u =>
      have hq : CE X.stack D.P D.w H s Q u s' := hq
      rw [← g.pr, ← g.wo] at hq
      exact I.after hq
    | next => exact False.elim hq
    | brk => exact False.elim hq
    | cont => exact False.elim hq
theorem env_of {X : Cx} (g : GX D X) {pins : List (Addr × Obj)} {s : Shared} {σ : L2.St} {H : Hp} (I : Inv X pins σ H s) : Env0 D.P D.w D.G.K D.mg D.base X.A X.stack s H := by
  have e0 := I.env0
  rw [g.pr, g.wo, g.k, g.mg, g.ba] at e0
  exact e0
/-- a new instance: its __init__ fills it -/
theorem mk_lift {c : Str} {sp : Spec} {E : XK} {vs : List V} {H : Hp} {Q : VK} {x dx : Addr} (hc : c ∈ D.G.cs) (cls : Cls D.G.K (D.G.cl c)) (hx : H x = none) (hdx : H dx = none) (ne : dx ≠ x) (h : liftV D.G (apSp (.mk c) sp) E vs H Q) :
    liftV D.G sp E (.ref x :: vs) (upd (upd H dx (.own x)) x (.ins (D.G.cl c) dx [])) (fun v H2 => v = .non ∧ Q (.ref x) H2) := by
  obtain ⟨c0, ws, S, P, XP, r, rp, w, k, kx⟩ := h
  have w : sp (.mr S.length :: ws) (S ++ [.ins c [] []]) (fun w S' => w = .im .non ∧ ∃ ns ts, S' = S ++ [.ins c ns (ts.map W.im)] ∧ P (.im (.ins c ns ts)) S) (fun x S' => S'.take S.length = S ∧ (∃ ts, imAll x.ws = some ts) ∧ XP x S) := w
  have g1 := Grow.new (o := .own x) r hdx
  have r1 := r.new (o := .own x) hdx
  have hx1 : upd H dx (.own x) x = none := by rw [upd_ne (Ne.symm ne)]; exact hx
  have g2 := Grow.push (o := .ins (D.G.cl c) dx []) r1 hx1
  have r2 := r1.push (o := .ins (D.G.cl c) dx []) (m := .ins c [] []) hx1 ⟨dx, [], upd_same .., rfl, ⟨hc, cls, fun f hf => by cases hf⟩, rfl⟩
  have rw2 : RepWs D.G (c0.push x) (upd (upd H dx (.own x)) x (.ins (D.G.cl c) dx [])) (.mr S.length :: ws) (.ref x :: vs) := ⟨_, vs, rfl, ⟨x, push_at r1, rfl⟩, RepWs.mono (g1.trans g2) _ _ rp⟩
  refine ⟨c0.push x, _, _, _, _, r2, rw2, w, fun v H' c' S' w' g' r' rp' q => ?_, fun cls d H' c' S' x' g' r' rx q => ?_⟩
  · obtain ⟨rfl, ns, ts, rfl, q⟩ := q
    refine ⟨rep_non rp', ?_⟩
    have g0 := (g1.trans g2).trans g'
    have hm : c'.mu[S.length]? = some x := g'.mu _ _ (push_at r1)
    have rx : RepW D.G c' H' (.mr S.length) (.ref x) := ⟨x, hm, rfl⟩
    have old : Old S (S ++ [.ins c ns (ts.map W.im)]) := fun k o hk e => .inl (by rw [List.getElem?_append_left hk] at e; exact e)
    have ef : frz S.length (S ++ [MO.ins c ns (ts.map W.im)]) (.mr S.length) = some (.ins c ns ts) := by
      have ei : ∀ ts : List T, imAll (ts.map W.im) = some ts := by
        intro ts
        induction ts with
        | nil => rfl
        | cons t ts ih => simp [imAll, ih]
      simp [frz, ei]
    obtain ⟨c1, g3, r3, rp3⟩ := exit_ok r g0 r' rx (.drop old ef)
    refine k _ H' c1 S _ g3 ?_ rp3 q
    have : (S ++ [MO.ins c ns (ts.map W.im)]).take S.length = S := List.take_left' rfl
    rw [this] at r3
    exact r3
  · obtain ⟨hS, ⟨ts, hi⟩, q⟩ := q
    have g0 := (g1.trans g2).trans g'
    obtain ⟨c1, g3, r3, rp3⟩ := exitX_ok r g0 r' rx (.drop (fun k o hk e => .inl (by rw [← hS, List.getElem?_take_of_lt hk]; exact e)) (imAll_all hi))
    rw [hS] at r3
    exact kx cls d H' c1 S x' g3 r3 rp3 q
theorem mkm_lift {c : Str} {sp : Spec} {E : XK} {vs : List V} {H : Hp} {Q : VK} {x dx : Addr} (hc : c ∈ D.G.cs) (cls : Cls D.G.K (D.G.cl c)) (hx : H x = none) (hdx : H dx = none) (ne : dx ≠ x) (h : liftV D.G (apSp (.mkm c) sp) E vs H Q) :
    liftV D.G sp E (.ref x :: vs) (upd (upd H dx (.own x)) x (.ins (D.G.cl c) dx [])) (fun v H2 => v = .non ∧ Q (.ref x) H2) := by
  obtain ⟨c0, ws, S, P, XP, r, rp, w, k, kx⟩ := h
  have w : sp (.mr S.length :: ws) (S ++ [.ins c [] []]) (fun w S' => w = .im .non ∧ P (.mr S.length) S') XP := w
  have g1 := Grow.new (o := .own x) r hdx
  have r1 := r.new (o := .own x) hdx
  have hx1 : upd H dx (.own x) x = none := by rw [upd_ne (Ne.symm ne)]; exact hx
  have g2 := Grow.push (o := .ins (D.G.cl c) dx []) r1 hx1
  have r2 := r1.push (o := .ins (D.G.cl c) dx []) (m := .ins c [] []) hx1 ⟨dx, [], upd_same .., rfl, ⟨hc, cls, fun f hf => by cases hf⟩, rfl⟩
  have rw2 : RepWs D.G (c0.push x) (upd (upd H dx (.own x)) x (.ins (D.G.cl c) dx [])) (.mr S.length :: ws) (.ref x :: vs) := ⟨_, vs, rfl, ⟨x, push_at r1, rfl⟩, RepWs.mono (g1.trans g2) _ _ rp⟩
  refine ⟨c0.push x, _, _, _, _, r2, rw2, w, fun v H' c' S' w' g' r' rp' q => ?_, fun cls d H' c' S' x' g' r' rx q => kx cls d H' c' S' x' ((g1.trans g2).trans g') r' rx q⟩
  obtain ⟨rfl, q⟩ := q
  exact ⟨rep_non rp', k _ H' c' S' (.mr S.length) ((g1.trans g2).trans g') r' ⟨x, g'.mu _ _ (push_at r1), rfl⟩ q⟩
theorem mk_cal {c : Str} {k : Ap} (hk : k = .mk c ∨ k = .mkm c) {f : Addr} {fd : FuncData} {ps : List Str} {sp : Spec} {n : Nat} (hc : c ∈ D.G.cs) (cls : Cls D.G.K (D.G.cl c)) (M : Mk D.G.K (D.G.cl c) f) (F : FnD D n f fd ps sp) (hn : n + 1 ≤ D.lv) (hb : Binds D.G.K fd ps []) : CalOk D (.ref (D.G.cl c)) (apSp k sp) := by
  intro X g Wx tk pins s σ H xs us Q I r h
  have M' : Mk X.K (D.G.cl c) f := by rw [g.k]; exact M
  have I2 := Inv.made (C := D.G.cl c) I
  have hq : liftV D.G sp (fun cls d H' => Wx cls d σ H') (.ref (s.heap.objs.size + 1) :: xs) (upd (upd H s.heap.objs.size (.own (s.heap.objs.size + 1))) (s.heap.objs.size + 1) (.ins (D.G.cl c) s.heap.objs.size [])) (fun v H2 => v = .non ∧ Q (.ref (s.heap.objs.size + 1)) H2) := by
    rcases hk with rfl | rfl
    · exact mk_lift hc cls (I.hok.fresh (Nat.le_succ _)) (I.hok.fresh (Nat.le_refl _)) (Nat.ne_of_lt (Nat.lt_succ_self _)) h
    · exact mkm_lift hc cls (I.hok.fresh (Nat.le_succ _)) (I.hok.fresh (Nat.le_refl _)) (Nat.ne_of_lt (Nat.lt_succ_self _)) h
  have hr : Room n (X.A.under (.builtin "type.__call__" ⟨.ref (D.G.cl c) :: us, []⟩)) := Room.make (g.room.mono hn) _ _ _
  refine make_map (f := f) I.kIn M'.makes M'.init (beq_iff_eq.mp M'.fn) (codeAny_mono (run_any (xs := .ref (s.heap.objs.size + 1) :: xs) g tk F hb hr ((env_of g I2).make (D.G.cl c) us []) I2 (.cons rfl r) hq) fun r s' hq' => ?_)
  cases r with
  | error e => exact hq'
  | ok fl =>
    cases fl with
    | ret u =>
      obtain ⟨v, H', I3, rv, ev, q3⟩ := (show EP X pins σ _ u s' from hq')
      subst ev
      exact ⟨rv, ⟨V.ref (s.heap.objs.size + 1), H', I3, rfl, q3⟩⟩
    | next => exact False.elim hq'
    | brk => exact False.elim hq'
    | cont => exact False.elim hq'
/-- two instances of one class -/
theorem two_ins {c : Str} {sp : Spec} {E : XK} {x y : V} {H : Hp} {Q : VK} (h : liftV D.G (fun ws S Q X => (∀ w ∈ ws, ∃ ns, nsW S w = some (c, ns)) ∧ sp ws S Q X) E [x, y] H Q) :
    (∃ a b dx dy fs gs, x = .ref a ∧ y = .ref b ∧ H a = some (.ins (D.G.cl c) dx fs) ∧ H b = some (.ins (D.G.cl c) dy gs)) ∧ liftV D.G sp E [x, y] H Q := by
  obtain ⟨c0, ws, S, P, XP, r, rp, ⟨wi, w⟩, k, kx⟩ := h
  refine ⟨?_, c0, ws, S, P, XP, r, rp, w, k, kx⟩
  obtain ⟨w1, w2, rfl, r1, r2⟩ := reps2 rp
  obtain ⟨ns, e1⟩ := wi w1 (by simp)
  obtain ⟨ms, e2⟩ := wi w2 (by simp)
  obtain ⟨a, dx, fs, rfl, ha⟩ := ins_of (D := D) r r1 e1
  obtain ⟨b, dy, gs, rfl, hb⟩ := ins_of (D := D) r r2 e2
  exact ⟨a, b, dx, dy, fs, gs, rfl, rfl, ha, hb⟩
theorem cmpback' {v : V} {u : Value} {Q : Value → Shared → Prop} {s : Shared} (r : RelV v u) (h : Q u s) : PySem.W.CmpBack Q u s := by
  cases v with
  | non => cases (show u = Value.none from r); exact h
  | bl b => cases (show u = Value.bool b from r); exact h
  | int i =>
    obtain ⟨t, e⟩ := (show ∃ t, u = Value.int i t from r)
    cases e
    exact h
  | str i =>
    obtain ⟨t, e⟩ := (show ∃ t, u = Value.str i t from r)
    cases e
    exact h
  | byt b =>
    obtain ⟨t, e⟩ := (show ∃ t, u = Value.bytes b t from r)
    cases e
    exact h
  | flt b =>
    obtain ⟨t, e⟩ := (show ∃ t, u = Value.float b t from r)
    cases e
    exact h
  | ref a => cases (show u = Value.ref a from r); exact h
  | ty n => cases (show u = Value.type n from r); exact h
/-- x op y, an own operator -/
theorem bo_ok {op : Operator} {c : Str} {f : Addr} {fd : FuncData} {ps : List Str} {sp : Spec} {n : Nat} (F : FnD D n f fd ps sp) (hn : n ≤ D.lv) (hb : Binds D.G.K fd ps [])
    (hc : PySem.W.selfFirst D.G.K (D.G.cl c) = true) (hs : PySem.W.findIn D.G.K (.ref (D.G.cl c)) (PySem.dunder op.info.2) = some (some (.ref f))) (hf : PySem.W.isFn D.G.K (.ref f) = true) : BinOk D (binaryOp op) (apSp (.bo op c) sp) := by
  intro X g Wx tk pins s σ H x y v u Q I rx ry h
  obtain ⟨⟨a, b, dx, dy, fs, gs, rfl, rfl, ha, hb'⟩, hl⟩ := two_ins h
  cases (show v = Value.ref a from rx)
  cases (show u = Value.ref b from ry)
  obtain ⟨mA, J, _⟩ := ins_get I.hok ha
  obtain ⟨mB, J', _⟩ := ins_get I.hok hb'
  obtain ⟨od, J, _⟩ := J.look
  obtain ⟨od', J', _⟩ := J'.look
  obtain ⟨m, hF⟩ := I.fr
  rw [← g.k] at hc hs hf
  refine PySem.W.binop_K (op := op) hF I.ok.mod.kin J J'.type hc hs hf ?_
  refine wpAny_mono (wpAny_call (run_any g tk F hb (g.room.mono hn) (env_of g I) I (xs := [.ref a, .ref b]) (us := [.ref a, .ref b]) (.cons rfl (.cons rfl .nil)) hl)) (fun w s' z => ?_) fun _ _ x => x
  obtain ⟨z', H', I', rz, qz⟩ := z
  exact cmpback' rz ⟨z', H', I', rz, qz⟩
/-- .. an own comparison -/
theorem co_ok {op : CmpOp} {c : Str} {f : Addr} {fd : FuncData} {ps : List Str} {sp : Spec} {n : Nat} (F : FnD D n f fd ps sp) (hn : n ≤ D.lv) (hb : Binds D.G.K fd ps []) (hop : ∀ a b, compareOp op a b = richCompare op a b)
    (hs : PySem.W.findIn D.G.K (.ref (D.G.cl c)) (cmpInfo op).2.1 = some (some (.ref f))) (hf : PySem.W.isFn D.G.K (.ref f) = true) : BinOk D (compareOp op) (apSp (.co op c) sp) := by
  intro X g Wx tk pins s σ H x y v u Q I rx ry h
  obtain ⟨⟨a, b, dx, dy, fs, gs, rfl, rfl, ha, hb'⟩, hl⟩ := two_ins h
  cases (show v = Value.ref a from rx)
  cases (show u = Value.ref b from ry)
  obtain ⟨mA, J, _⟩ := ins_get I.hok ha
  obtain ⟨mB, J', _⟩ := ins_get I.hok hb'
  obtain ⟨od, J, _⟩ := J.look
  obtain ⟨od', J', _⟩ := J'.look
  obtain ⟨m, hF⟩ := I.fr
  rw [← g.k] at hs hf
  rw [hop]
  refine PySem.W.cmp_K (op := op) (tb := .ref (D.G.cl c)) (by have := g.hu; omega) hF I.ok.mod.kin J J'.type (by simp [PySem.W.notFirst]) hs hf ?_
  refine wpAny_mono (wpAny_call (run_any g tk F hb (g.room.mono hn) (env_of g I) I (xs := [.ref a, .ref b]) (us := [.ref a, .ref b]) (.cons rfl (.cons rfl .nil)) hl)) (fun w s' z => ?_) fun _ _ x => x
  obtain ⟨z', H', I', rz, qz⟩ := z
  exact cmpback' rz ⟨z', H', I', rz, qz⟩
end
end TW

namespace TW
open PySem PySem.Spec PyProof.Rows L2
theorem ne_slot : Slot "object" "__ne__" "object.__ne__" := Slot.of (T := "object") (name := "__ne__") (owner := "object") (n := "__ne__") (by rw [typeLookup_type, builtinLookup_eq_fast]; kernel_rfl) (by decide +kernel) (by decide +kernel) (by decide +kernel) (.inl (by decide +kernel)) (by rw [isSubtype_type]; kernel_rfl)
section
variable {prog : Program} {w : World} {A : Around} {E : Value → Shared → Prop} {s : Shared} {K : PySem.W.Frag} {x C f : Addr} {ox : Obj} {od : Option Obj} {b : Value}
theorem bound_slot {M : Model} {name : Str} {id : String} {args : List Value} {Q : Option Value → Shared → Prop} (X : K.In s.heap) (I : PySem.W.InstAt s.heap x ox C od) (hs : PySem.W.findIn K (.ref C) name = some (some (.builtin id))) (hb : ∀ self, bindSpecial (.builtin id) self = pure (.builtin id, [self]))
    (h : wpAny M A (call (.builtin id) (.ref x :: args)) (fun v => Q (some v)) E s) : wpAny M A (callSpecialIfBound? (.ref x) name args) Q E s := by
  simp only [callSpecialIfBound?, bindSpecialIfBound?]
  refine wpAny_holding (wpAny_bind (wpAny_bind (wpAny_bind (I.type.here ((PySem.W.looks_findIn X hs).here ?_)))))
  simp only [hb]
  refine wpAny_bind (wpAny_askSetting (wpAny_ite ?_))
  have fin : wpAny M A (call (.builtin id) ([.ref x] ++ args) >>= fun v => pure (some v)) Q E s := wpAny_bind (wpAny_mono h (fun v s' h' => wpAny_pure h') fun _ _ h' => h')
  split
  · exact wpAny_bind (wpAny_pure (wpAny_pure fin))
  · exact wpAny_tryCatch (wpAny_bind (wpAny_pure (wpAny_pure fin)))
theorem objNe_own (hu : A.units < cLine) (X : K.In s.heap) (I : PySem.W.InstAt s.heap x ox C od) (hs : PySem.W.findIn K (.ref C) "__eq__" = some (some (.ref f))) (hf : PySem.W.isFn K (.ref f) = true) {Q : PySem.Fin → Shared → Prop}
    (hcall : wpAny (model prog w) A (call (.ref f) [.ref x, b]) (fun v s' => ∃ r, v = .bool r ∧ Q (.done (.ret (.bool (!r)))) s') E s) : wpAny (model prog w) A (Builtin.«object.__ne__» ⟨[.ref x, b], []⟩) Q E s := by
  unfold Builtin.«object.__ne__»
  repeat (first
    | with_reducible refine wpAny_cRoomFor hu ?_
    | (refine wpAny_bind (m := callSpecialIfBound? (.ref x) (Str.ofString "__eq__") [b])
        (PySem.W.ifBound_K X I hs hf (wpAny_mono hcall (fun r s' hr => by
          obtain ⟨b, rfl, hq⟩ := hr
          repeat (first | exact hq | exact wpAny_pure hq | exact wpAny_truthy_bool hq | (refine wpAny_bind (m := truthy (.bool _)) (wpAny_truthy_bool ?_)) | wp_step)) fun _ _ e => e)))
    | wp_step)
theorem ne_own {y : Addr} {oy : Obj} {od' : Option Obj} (hu : A.units + 1 < cLine) (X : K.In s.heap) (I : PySem.W.InstAt s.heap x ox C od) (J : PySem.W.InstAt s.heap y oy C od') (hn : PySem.W.findIn K (.ref C) "__ne__" = some (some (.builtin "object.__ne__")))
    (ho : PySem.W.subIn K (.ref C) (.type "object") = some true) (hs : PySem.W.findIn K (.ref C) "__eq__" = some (some (.ref f))) (hf : PySem.W.isFn K (.ref f) = true) {Q : Value → Shared → Prop}
    (hcall : wpAny (model prog w) A.in1 (call (.ref f) [.ref x, .ref y]) (fun v s' => ∃ r, v = .bool r ∧ Q (.bool (!r)) s') E s) : wpAny (model prog w) A (richCompare .NotEq (.ref x) (.ref y)) Q E s := by
  have one : wpAny (model prog w) A (tryCompare (.ref x) "__ne__" (.ref y)) (fun r s' => ∃ v, r = some (Value.bool v) ∧ Q (.bool v) s') E s := by
    unfold tryCompare
    refine wpAny_bind (bound_slot X I hn (fun self => ne_slot.bind self) (wpAny_call (codeAny_call_builtin ne_slot.plain F.cmpEntry_ne
      (@PySem.W.check_slot (model prog w) _ _ s "object.__ne__" "object" "__ne__" (.ref x) [.ref y] [] _ F.cmpKind_ne F.cmpSplit_ne (I.type.andThen (PySem.W.looks_subIn X ho)) (F.cmpArgs_ne _ _)
        (objNe_own (A := A.in1) hu X I hs hf (wpAny_mono hcall (fun v s' hv => ?_) fun _ _ e => e))))))
    obtain ⟨r, rfl, q⟩ := hv
    exact ⟨r, rfl, wpAny_pure ⟨_, rfl, q⟩⟩
  unfold richCompare
  simp only [oneThing_ref]
  refine wpAny_holding (wpAny_bind (wpAny_cRoomFor (Nat.lt_of_succ_lt hu) ?_))
  refine wpAny_bind (I.type.here (wpAny_bind (J.type.here ?_)))
  rw [show (Value.ref C != Value.ref C) = false from by simp]
  simp only [Bool.false_eq_true, if_false]
  refine wpAny_bind (wpAny_pure ?_)
  simp only [Bool.false_eq_true, if_false]
  refine wpAny_bind (wpAny_mono one (fun r s' z => ?_) fun _ _ e => e)
  obtain ⟨v, rfl, hq⟩ := z
  exact wpAny_pure hq
end
section
variable {D : Gd}
theorem ne_ok {c : Str} {f : Addr} {fd : FuncData} {ps : List Str} {sp : Spec} {n : Nat} (F : FnD D n f fd ps sp) (hn : n + 1 ≤ D.lv) (hb : Binds D.G.K fd ps []) (hne : PySem.W.findIn D.G.K (.ref (D.G.cl c)) "__ne__" = some (some (.builtin "object.__ne__")))
    (ho : PySem.W.subIn D.G.K (.ref (D.G.cl c)) (.type "object") = some true) (hs : PySem.W.findIn D.G.K (.ref (D.G.cl c)) "__eq__" = some (some (.ref f))) (hf : PySem.W.isFn D.G.K (.ref f) = true) : BinOk D (compareOp .NotEq) (apSp (.ne c) sp) := by
  intro X g Wx tk pins s σ H x y v u Q I rx ry h
  obtain ⟨⟨a, b, dx, dy, fs, gs, rfl, rfl, ha, hb'⟩, hl⟩ := two_ins h
  cases (show v = Value.ref a from rx)
  cases (show u = Value.ref b from ry)
  obtain ⟨mA, J, _⟩ := ins_get I.hok ha
  obtain ⟨mB, J', _⟩ := ins_get I.hok hb'
  obtain ⟨od, J, _⟩ := J.look
  obtain ⟨od', J', _⟩ := J'.look
  have kin : D.G.K.In s.heap := by rw [← g.k]; exact I.kIn
  have hl2 : liftV D.G sp (fun cls d H' => Wx cls d σ H') [.ref a, .ref b] H (fun v H' => ∃ r, v = .bl r ∧ Q (.bl (!r)) H') := by
    obtain ⟨c0, ws, S, P, XP, r, rp, w, k, kx⟩ := hl
    refine ⟨c0, ws, S, _, XP, r, rp, w, fun v H' c' S' w' g' r' rp' q => ?_, kx⟩
    obtain ⟨b, rfl, q⟩ := q
    exact ⟨b, rep_bl rp', k _ H' c' S' _ g' r' bl_rep q⟩
  refine ne_own (f := f) (by have := g.hu; omega) kin J J' hne ho hs hf ?_
  refine wpAny_mono (wpAny_call (run_any g tk F hb (g.room.mono hn).in1 (env_of g I).in1 I (xs := [.ref a, .ref b]) (us := [.ref a, .ref b]) (.cons rfl (.cons rfl .nil)) hl2)) (fun w s' z => ?_) fun _ _ x => x
  obtain ⟨z', H', I', rz, r, rfl, qz⟩ := z
  cases (show w = Value.bool r from rz)
  exact ⟨r, rfl, .bl (!r), H', I', rfl, qz⟩
end
end TW

namespace TW
open PySem PySem.Spec PyProof.Rows L2
theorem CalOk.imp {D : Gd} {u : Value} {sp sp' : Spec} (c : CalOk D u sp) (h : ∀ E xs H Q, liftV D.G sp' E xs H Q → liftV D.G sp E xs H Q) : CalOk D u sp' :=
  fun X g Wx tk pins s σ H xs us Q I r w => c X g Wx tk pins s σ H xs us Q I r (h _ _ _ _ w)
/-- a spec that asks less -/
theorem liftV_imp {G : Gr} {sp sp' : Spec} (h : ∀ ws S Q X, sp' ws S Q X → sp ws S Q X) {E : XK} {xs : List V} {H : Hp} {Q : VK} (w : liftV G sp' E xs H Q) : liftV G sp E xs H Q := by
  obtain ⟨c0, ws, S, P, XP, r, rp, w, k, kx⟩ := w
  exact ⟨c0, ws, S, P, XP, r, rp, h _ _ _ _ w, k, kx⟩
def boxOk (x y : Int) : Prop := 0 ≤ x ∧ 0 ≤ y ∧ y < 2 ^ 32
/-- what a def does with a box that is a list, told of a source -/
def srcSp (sp : Spec) : Spec := fun ws S Q X => ∃ (j : Nat) (ts : List T), ws = .src j :: ts.map W.im ∧ j % 2 = 0 ∧ ∀ x y, boxOk x y →
  sp (.mr 0 :: ts.map W.im) [.lst [.im (.int x), .im (.int y)]] (fun w S' => ∃ t x' y', w = .im t ∧ boxOk x' y' ∧ S' = [.lst [.im (.int x'), .im (.int y')]] ∧ Q (.im t) S) (fun _ _ => False)
section
variable {G : Gr}
theorem im_cloned {c c1 : RC} {H : Hp} (h : GrowI c H c1 H) : ∀ {ts : List T} {vs : List V}, RepWs G c H (ts.map W.im) vs → RepWs G c1 H (ts.map W.im) vs := fun r => (Reps.monoI h _ _ r.ts).ws
theorem src_lift {sp : Spec} {E : XK} {xs : List V} {H : Hp} {Q : VK} (w : liftV G (srcSp sp) E xs H Q) : liftV G sp E xs H Q := by
  obtain ⟨c, ws, S, P, XP, r, rp, ⟨j, ts, rfl, hj, w⟩, k, kx⟩ := w
  obtain ⟨v, vs, rfl, ⟨a, rg, hb, rfl, hl⟩, rp⟩ := rp
  rw [hj] at hl
  obtain rfl : rg = [] := List.length_eq_zero_iff.mp hl
  have hreg := r.reg _ _ hb
  obtain ⟨x, y, ha, hxy⟩ : ∃ x y, H a = some (.lst [.int x, .int y]) ∧ boxOk x y := by
    cases hreg with
    | box h hx hy => exact ⟨_, _, h, hx, hy⟩
  have amem : [a] ∈ c.be := List.mem_of_getElem? hb
  let c1 : RC := ⟨[a], [], c.mu ++ c.be.flatten.filter (· ≠ a) ++ c.hi⟩
  have m1 : ∀ b, Mu c1 b → Mu c b := by
    rintro b (z | ⟨g, hg, z⟩ | z)
    · obtain rfl : b = a := by simpa [c1] using z
      exact .inr (.inl ⟨_, amem, by simp⟩)
    · cases hg
    · have z : b ∈ c.mu ++ c.be.flatten.filter (· ≠ a) ++ c.hi := z
      rcases List.mem_append.mp z with z | z
      · rcases List.mem_append.mp z with z | z
        · exact .inl z
        · obtain ⟨z, _⟩ := List.mem_filter.mp z
          obtain ⟨g, hg, z⟩ := List.mem_flatten.mp z
          exact .inr (.inl ⟨g, hg, z⟩)
      · exact .inr (.inr z)
  have m2 : ∀ b, Mu c b → b = a ∨ b ∈ c1.hi := by
    rintro b (z | ⟨g, hg, z⟩ | z)
    · exact .inr (List.mem_append_left _ (List.mem_append_left _ z))
    · by_cases e : b = a
      · exact .inl e
      · exact .inr (List.mem_append_left _ (List.mem_append_right _ (List.mem_filter.mpr ⟨List.mem_flatten.mpr ⟨g, hg, z⟩, by simpa using e⟩)))
    · exact .inr (List.mem_append_right _ z)
  have gi : GrowI c H c1 H := ⟨fun b o h n => ⟨h, fun z => n (m1 b z)⟩⟩
  have r1 : RelS G c1 H [.lst [.im (.int x), .im (.int y)]] := by
    refine ⟨rfl, by simp [c1], fun k o b h1 h2 => ?_, fun j r h => (by cases h), fun j r h => (by cases h), fun j j' r r' h => (by cases h), fun b hb' => ?_⟩
    · have hk : k = 0 := by
        have := (List.getElem?_eq_some_iff.mp h1).1
        simpa using this
      subst hk
      obtain rfl : a = b := by simpa [c1] using h2
      obtain rfl : _ = o := by simpa using h1
      exact ⟨[.int x, .int y], ha, ⟨_, _, rfl, int_rep, _, _, rfl, int_rep, rfl⟩⟩
    · refine ⟨?_, ?_, fun j r h => (by cases h)⟩
      · exact r.there (m1 b (.inr (.inr hb')))
      · have nb : b ≠ a := by
          have hb1 : b ∈ c.mu ++ c.be.flatten.filter (· ≠ a) ++ c.hi := hb'
          rcases List.mem_append.mp hb1 with z | z
          · rcases List.mem_append.mp z with z | z
            · intro e
              exact r.dis _ _ hb b (by simp [e]) z
            · simpa using (List.mem_filter.mp z).2
          · intro e
            exact (r.hid b z).2.2 _ _ hb (by simp [e])
        simpa [c1] using nb
  refine ⟨c1, .mr 0 :: ts.map W.im, _, _, _, r1, ⟨_, vs, rfl, ⟨a, rfl, rfl⟩, im_cloned gi rp⟩, w x y hxy, fun u H' c' S' w' g' r' rp' q => ?_, fun _ _ _ _ _ _ _ _ _ z => z.elim⟩
  obtain ⟨t, x', y', rfl, hxy', rfl, q⟩ := q
  have ha' : H' a = some (.lst [.int x', .int y']) := by
    obtain ⟨vs', h1, v1, q1, e1, z1, v2, q2, e2, z2, e3⟩ := r'.obj 0 _ a rfl (g'.mu 0 a rfl)
    subst e1 e2
    have e3 : q2 = [] := e3
    subst e3
    rw [h1, rep_int z1, rep_int z2]
  have m3 : ∀ b, Mu c b → Mu c' b := fun b z => by
    rcases m2 b z with rfl | z
    · exact .inl (List.mem_of_getElem? (g'.mu 0 b rfl))
    · exact .inr (.inr (g'.hi b z).1)
  have keep : ∀ b, Mu c b → b ≠ a → H' b = H b := fun b z ne => by
    rcases m2 b z with e | z
    · exact absurd e ne
    · exact (g'.hi b z).2
  have imm : ∀ b o, H b = some o → ¬ Mu c b → H' b = some o := fun b o h n => (g'.im b o h fun z => n (m1 b z)).1
  have gg : Grow0 c H c H' := ⟨fun b o h n => ⟨imm b o h n, n⟩, fun _ _ h => h, fun _ _ h => h⟩
  have hhi : ∀ b ∈ c.hi, H' b = H b := fun b hb' => keep b (.inr (.inr hb')) (by rintro rfl; exact (r.hid b hb').2.2 _ _ hb (by simp))
  have g2 : Grow c H c H' := ⟨gg.im, gg.mu, gg.be, fun b hb' => ⟨hb', hhi b hb'⟩⟩
  have r2 : RelS G c H' S := by
    refine ⟨r.len, r.nd, fun k o b h1 h2 => ?_, fun i g hg => ?_, r.dis, r.apt, fun b hb' => ⟨by rw [hhi b hb']; exact (r.hid b hb').1, (r.hid b hb').2⟩⟩
    · exact RepO.mono0 gg (keep b (.inl (List.mem_of_getElem? h2)) (by rintro rfl; exact r.dis _ _ hb b (by simp) (List.mem_of_getElem? h2))) (r.obj k o b h1 h2)
    · by_cases e : i = j / 2
      · subst e
        rw [hb] at hg
        cases hg
        exact .box ha' hxy'.1 hxy'.2
      · exact (r.reg i g hg).keep fun b hb' => keep b (.inr (.inl ⟨g, List.mem_of_getElem? hg, hb'⟩)) (by
          rintro rfl
          exact r.apt i (j / 2) g _ hg hb e b hb' (by simp))
  have ru : RepW G c H' (.im t) u := Rep.monoI ⟨fun b o h n => ⟨h, fun z => n (m3 b z)⟩⟩ t u rp'
  exact k u H' c S (.im t) g2 r2 ru q
/-- a def that makes a box -/
def seedSp (sp : Spec) : Spec := fun ws S Q X => sp ws S (fun w S' => ∃ x y, w = .mr S.length ∧ boxOk x y ∧ S' = S ++ [.lst [.im (.int x), .im (.int y)]] ∧ ∀ j, j % 2 = 0 → Q (.src j) S) (fun _ _ => False)
theorem seed_lift {sp : Spec} {E : XK} {xs : List V} {H : Hp} {Q : VK} (w : liftV G (seedSp sp) E xs H Q) : liftV G sp E xs H Q := by
  obtain ⟨c, ws, S, P, XP, r, rp, w, k, kx⟩ := w
  refine ⟨c, ws, S, _, _, r, rp, w, fun u H' c' S' w' g' r' rp' q => ?_, fun _ _ _ _ _ _ _ _ _ z => z.elim⟩
  obtain ⟨x, y, rfl, hxy, rfl, q⟩ := q
  obtain ⟨a, ha, rfl⟩ := rp'
  have hH : H' a = some (.lst [.int x, .int y]) := by
    obtain ⟨vs', h1, v1, q1, e1, z1, v2, q2, e2, z2, e3⟩ := r'.obj S.length (.lst [.im (.int x), .im (.int y)]) a (by simp) ha
    subst e1 e2
    have e3 : q2 = [] := e3
    subst e3
    rw [h1, rep_int z1, rep_int z2]
  have am : a ∈ c'.mu := List.mem_of_getElem? ha
  have na : a ∉ c'.mu.take S.length := fun z => by
    have := cut_free (n := S.length) r' ha (Nat.le_refl _)
    exact this (.inl z)
  let c2 : RC := ⟨c'.mu.take S.length, c'.be ++ [[a]], c'.hi⟩
  have m : ∀ b, Mu c2 b → Mu c' b := by
    rintro b (z | ⟨g, hg, z⟩ | z)
    · exact .inl (List.mem_of_mem_take z)
    · rcases List.mem_append.mp hg with hg | hg
      · exact .inr (.inl ⟨g, hg, z⟩)
      · obtain rfl : g = [a] := by simpa using hg
        obtain rfl : b = a := by simpa using z
        exact .inl am
    · exact .inr (.inr z)
  have mu2 : ∀ (k : Nat) (b : Addr), k < S.length → c'.mu[k]? = some b → c2.mu[k]? = some b := fun k b hk h => by
    show (c'.mu.take S.length)[k]? = some b
    rw [List.getElem?_take_of_lt hk]
    exact h
  have be2 : ∀ (j : Nat) (g : List Addr), c'.be[j]? = some g → c2.be[j]? = some g := fun j g h => by
    show (c'.be ++ [[a]])[j]? = some g
    rw [List.getElem?_append_left (List.getElem?_eq_some_iff.mp h).1]
    exact h
  have g2 : Grow c H c2 H' := ⟨fun b o h n => ⟨(g'.im b o h n).1, fun z => (g'.im b o h n).2 (m b z)⟩, fun k b h => mu2 k b (by rw [← r.len]; exact (List.getElem?_eq_some_iff.mp h).1) (g'.mu k b h), fun j g h => be2 j g (g'.be j g h), g'.hi⟩
  have gi : GrowI c' H' c2 H' := ⟨fun b o h n => ⟨h, fun z => n (m b z)⟩⟩
  have rw2 : ∀ {w : W} {v : V}, RepW G c' H' w v → cloW S.length w = true → RepW G c2 H' w v := by
    intro w v h hc
    cases w with
    | im t => exact Rep.monoI gi t v h
    | mr k =>
      obtain ⟨b, h1, e⟩ := h
      exact ⟨b, mu2 k b (of_decide_eq_true hc) h1, e⟩
    | src j =>
      obtain ⟨b, rr, h1, e⟩ := h
      exact ⟨b, rr, be2 _ _ h1, e⟩
  have rws2 : ∀ {ws : List W} {vs : List V}, RepWs G c' H' ws vs → ws.all (cloW S.length) = true → RepWs G c2 H' ws vs := by
    intro ws
    induction ws with
    | nil => exact fun h _ => h
    | cons w ws ih =>
      rintro vs ⟨v, q, e, h1, h2⟩ hc
      rw [List.all_cons, Bool.and_eq_true] at hc
      exact ⟨v, q, e, rw2 h1 hc.1, ih h2 hc.2⟩
  have r2 : RelS G c2 H' S := by
    refine ⟨?_, r'.nd.sublist (List.take_sublist _ _), fun k o b h1 h2 => ?_, fun j g hg => ?_, fun j g hg b hb' z => ?_, fun j j' g g' hg hg' ne b hb' z => ?_, fun b hb' => ⟨(r'.hid b hb').1, fun z => (r'.hid b hb').2.1 (List.mem_of_mem_take z), fun j g hg z => ?_⟩⟩
    · show (c'.mu.take S.length).length = _
      rw [List.length_take, r'.len]
      simp
    · have hk : k < S.length := (List.getElem?_eq_some_iff.mp h1).1
      have h2' : (c'.mu.take S.length)[k]? = some b := h2
      rw [List.getElem?_take_of_lt hk] at h2'
      have ho := r'.obj k o b (by rw [List.getElem?_append_left hk]; exact h1) h2'
      have hk' : k < c.mu.length := by rw [r.len]; exact hk
      have cl := cloO_of r.len (r.obj k o _ h1 (List.getElem?_eq_getElem hk'))
      cases o with
      | lst ws =>
        obtain ⟨vs, e1, e2⟩ := ho
        exact ⟨vs, e1, rws2 e2 cl⟩
      | dK ks ws =>
        obtain ⟨vs, e1, l, e2⟩ := ho
        exact ⟨vs, e1, l, rws2 e2 cl⟩
      | dT ks ws =>
        obtain ⟨vs, e1, l, e2⟩ := ho
        exact ⟨vs, e1, l, rws2 e2 cl⟩
      | ins x ns ws =>
        obtain ⟨dx, vs, e1, l, io, e2⟩ := ho
        exact ⟨dx, vs, e1, l, io, rws2 e2 cl⟩
    · replace hg : (c'.be ++ [[a]])[j]? = some g := hg
      by_cases hj : j < c'.be.length
      · rw [List.getElem?_append_left hj] at hg
        exact r'.reg j g hg
      · rw [List.getElem?_append_right (Nat.le_of_not_lt hj)] at hg
        obtain rfl : g = [a] := by
          have := List.mem_of_getElem? hg
          simpa using this
        exact .box hH hxy.1 hxy.2
    · replace hg : (c'.be ++ [[a]])[j]? = some g := hg
      by_cases hj : j < c'.be.length
      · rw [List.getElem?_append_left hj] at hg
        exact r'.dis j g hg b hb' (List.mem_of_mem_take z)
      · rw [List.getElem?_append_right (Nat.le_of_not_lt hj)] at hg
        obtain rfl : g = [a] := by
          have := List.mem_of_getElem? hg
          simpa using this
        obtain rfl : b = a := by simpa using hb'
        exact na z
    · replace hg : (c'.be ++ [[a]])[j]? = some g := hg
      replace hg' : (c'.be ++ [[a]])[j']? = some g' := hg'
      by_cases hj : j < c'.be.length
      · rw [List.getElem?_append_left hj] at hg
        by_cases hj' : j' < c'.be.length
        · rw [List.getElem?_append_left hj'] at hg'
          exact r'.apt j j' g g' hg hg' ne b hb' z
        · rw [List.getElem?_append_right (Nat.le_of_not_lt hj')] at hg'
          obtain rfl : g' = [a] := by
            have := List.mem_of_getElem? hg'
            simpa using this
          obtain rfl : b = a := by simpa using z
          exact r'.dis j g hg b hb' am
      · by_cases hj' : j' < c'.be.length
        · rw [List.getElem?_append_left hj'] at hg'
          rw [List.getElem?_append_right (Nat.le_of_not_lt hj)] at hg
          obtain rfl : g = [a] := by
            have := List.mem_of_getElem? hg
            simpa using this
          obtain rfl : b = a := by simpa using hb'
          exact r'.dis j' g' hg' b z am
        · have l1 := (List.getElem?_eq_some_iff.mp hg).1
          have l2 := (List.getElem?_eq_some_iff.mp hg').1
          rw [List.length_append] at l1 l2
          simp at l1 l2
          omega
    · replace hg : (c'.be ++ [[a]])[j]? = some g := hg
      by_cases hj : j < c'.be.length
      · rw [List.getElem?_append_left hj] at hg
        exact (r'.hid b hb').2.2 j g hg z
      · rw [List.getElem?_append_right (Nat.le_of_not_lt hj)] at hg
        obtain rfl : g = [a] := by
          have := List.mem_of_getElem? hg
          simpa using this
        obtain rfl : b = a := by simpa using z
        exact (r'.hid b hb').2.1 am
  refine k _ H' c2 S (.src (2 * c'.be.length)) g2 r2 ⟨a, [], ?_, rfl, by simp⟩ (q _ (by omega))
  rw [Nat.mul_div_cancel_left _ (by decide : 0 < 2)]
  show (c'.be ++ [[a]])[c'.be.length]? = _
  simp
end
end TW

namespace TW
open PySem L2
section
variable {S : Sto} {Q : VQ} {X : XQ}
theorem w_bin {op : Operator} {a b : W} : prSp (.bin op) [a, b] S Q X = binP S op a b Q := rfl
theorem w_cmp {op : CmpOp} {a b : W} : prSp (.cmp op) [a, b] S Q X = cmpP S op a b Q := rfl
theorem w_un {op : UnaryOp} {a : W} : prSp (.un op) [a] S Q X = unP S op a Q := rfl
theorem w_blt {b : Bi} {ws : List W} : prSp (.blt b) ws S Q X = biP S b ws Q := by cases ws <;> rfl
theorem w_attr {f : Str} {w : W} : prSp (.attr f) [w] S Q X = ∃ x, attrW S f w = some x ∧ Q x S := rfl
theorem w_ix {a b : W} : prSp .ix [a, b] S Q X = ixP S a b Q := rfl
theorem w_sl0 {w : W} : prSp (.sl false false) [w] S Q X = slP S w none none Q := by simp [prSp, partW]
theorem w_sl1 {w : W} {i : Int} : prSp (.sl true false) [w, .im (.int i)] S Q X = slP S w (some i) none Q := by simp [prSp, partW]
theorem w_sl2 {w : W} {i : Int} : prSp (.sl false true) [w, .im (.int i)] S Q X = slP S w none (some i) Q := by
  refine propext ⟨?_, fun h => ⟨none, _, rfl, some i, _, rfl, h⟩⟩
  rintro ⟨lo, r1, e1, hi, r2, e2, h⟩
  cases e1
  cases e2
  exact h
theorem w_rev {w : W} : prSp .rev [w] S Q X = ∃ ts, lstOf S w = some ts ∧ Q (.im (.lst ts.reverse)) S := rfl
theorem w_tup {ws : List W} : prSp .tup ws S Q X = ∃ ts, imAll ws = some ts ∧ ts.length ≤ sizeLine ∧ Q (.im (.tup ts)) S := by cases ws <;> rfl
theorem w_lst {ws : List W} : prSp .lst ws S Q X = ∃ ts, imAll ws = some ts ∧ ts.length ≤ sizeLine ∧ Q (.im (.lst ts)) S := by cases ws <;> rfl
theorem w_nlst {ws : List W} : prSp .nlst ws S Q X = (ws.length ≤ sizeLine ∧ Q (.mr S.length) (S ++ [.lst ws])) := by cases ws <;> rfl
theorem b_addI {i j : Int} : binP S .Add (.im (.int i)) (.im (.int j)) Q = Q (.im (.int (i + j))) S := rfl
theorem b_addS {i j : Str} : binP S .Add (.im (.str i)) (.im (.str j)) Q = (i.length + j.length ≤ sizeLine ∧ Q (.im (.str (i ++ j))) S) := rfl
theorem b_addT {i j : List T} : binP S .Add (.im (.tup i)) (.im (.tup j)) Q = (i.length + j.length ≤ sizeLine ∧ Q (.im (.tup (i ++ j))) S) := rfl
theorem b_addL {i j : List T} : binP S .Add (.im (.lst i)) (.im (.lst j)) Q = (i.length + j.length ≤ sizeLine ∧ Q (.im (.lst (i ++ j))) S) := by simp [binP, lstN]
theorem b_subI {i j : Int} : binP S .Sub (.im (.int i)) (.im (.int j)) Q = Q (.im (.int (i - j))) S := rfl
theorem b_mulI {i j : Int} : binP S .Mult (.im (.int i)) (.im (.int j)) Q = (wideMul i j ∧ Q (.im (.int (i * j))) S) := rfl
theorem b_divI {i j : Int} : binP S .FloorDiv (.im (.int i)) (.im (.int j)) Q = (wideDiv i j ∧ Q (.im (.int (i / j))) S) := rfl
theorem b_modI {i j : Int} : binP S .Mod (.im (.int i)) (.im (.int j)) Q = (0 < j ∧ Q (.im (.int (i % j))) S) := rfl
theorem b_powI {i j : Int} : binP S .Pow (.im (.int i)) (.im (.int j)) Q = (CPow i j ∧ Q (.im (.int (i ^ j.toNat))) S) := rfl
theorem c_lt {i j : Int} : cmpP S .Lt (.im (.int i)) (.im (.int j)) Q = Q (.im (.bl (decide (i < j)))) S := rfl
theorem c_le {i j : Int} : cmpP S .LtE (.im (.int i)) (.im (.int j)) Q = Q (.im (.bl (decide (i ≤ j)))) S := rfl
theorem c_gt {i j : Int} : cmpP S .Gt (.im (.int i)) (.im (.int j)) Q = Q (.im (.bl (decide (j < i)))) S := rfl
theorem c_ge {i j : Int} : cmpP S .GtE (.im (.int i)) (.im (.int j)) Q = Q (.im (.bl (decide (j ≤ i)))) S := rfl
theorem c_is {a : T} : cmpP S .Is (.im a) (.im .non) Q = Q (.im (.bl (isNon a))) S := by cases a <;> rfl
theorem c_isn {a : T} : cmpP S .IsNot (.im a) (.im .non) Q = Q (.im (.bl (!isNon a))) S := by cases a <;> rfl
theorem c_eqI {i j : Int} : cmpP S .Eq (.im (.int i)) (.im (.int j)) Q = Q (.im (.bl (decide (i = j)))) S := rfl
theorem c_neI {i j : Int} : cmpP S .NotEq (.im (.int i)) (.im (.int j)) Q = Q (.im (.bl (!decide (i = j)))) S := rfl
theorem c_eqB {i j : Bool} : cmpP S .Eq (.im (.bl i)) (.im (.bl j)) Q = Q (.im (.bl (decide (i = j)))) S := rfl
theorem c_neB {i j : Bool} : cmpP S .NotEq (.im (.bl i)) (.im (.bl j)) Q = Q (.im (.bl (!decide (i = j)))) S := rfl
theorem c_eqS {i j : Str} : cmpP S .Eq (.im (.str i)) (.im (.str j)) Q = Q (.im (.bl (decide (i = j)))) S := rfl
theorem c_neS {i j : Str} : cmpP S .NotEq (.im (.str i)) (.im (.str j)) Q = Q (.im (.bl (!decide (i = j)))) S := rfl
theorem c_eqN {j : Int} : cmpP S .Eq (.im .non) (.im (.int j)) Q = Q (.im (.bl false)) S := by
  refine propext ⟨?_, fun h => ⟨.none, .int j, rfl, rfl, rfl, rfl, h⟩⟩
  rintro ⟨x, y, e1, e2, _, _, h⟩
  cases e1
  cases e2
  exact h
theorem c_in {a b : W} : cmpP S .In a b Q = inP S a b fun k => Q (.im (.bl k)) S := by
  cases a <;> cases b <;> first | rfl | (rename_i a b; cases a <;> cases b <;> rfl) | (rename_i a _; cases a <;> rfl)
theorem c_nin {a b : W} : cmpP S .NotIn a b Q = inP S a b fun k => Q (.im (.bl (!k))) S := by
  cases a <;> cases b <;> first | rfl | (rename_i a b; cases a <;> cases b <;> rfl) | (rename_i a _; cases a <;> rfl)
theorem n_intI {i : Int} {b : W} {R : Bool → Prop} : inP S (.im (.int i)) b R = ∃ ts, seqOf S b = some ts ∧ ∃ vs, flatTs ts = some vs ∧ R (inV (.int i) vs) := by
  have key : (∃ x ts vs, flatT (.int i) = some x ∧ seqOf S b = some ts ∧ flatTs ts = some vs ∧ R (inV x vs)) = ∃ ts, seqOf S b = some ts ∧ ∃ vs, flatTs ts = some vs ∧ R (inV (.int i) vs) := by
    refine propext ⟨?_, fun ⟨ts, h1, vs, h2, h3⟩ => ⟨_, ts, vs, rfl, h1, h2, h3⟩⟩
    rintro ⟨x, ts, vs, h0, h1, h2, h3⟩
    cases h0
    exact ⟨ts, h1, vs, h2, h3⟩
  rw [← key]
  cases b with
  | im b => cases b <;> rfl
  | mr b => rfl
  | src b => rfl
theorem n_non {b : W} {R : Bool → Prop} : inP S (.im .non) b R = ∃ ts, seqOf S b = some ts ∧ ∃ vs, flatTs ts = some vs ∧ R (inV .non vs) := by
  have key : (∃ x ts vs, flatT .non = some x ∧ seqOf S b = some ts ∧ flatTs ts = some vs ∧ R (inV x vs)) = ∃ ts, seqOf S b = some ts ∧ ∃ vs, flatTs ts = some vs ∧ R (inV .non vs) := by
    refine propext ⟨?_, fun ⟨ts, h1, vs, h2, h3⟩ => ⟨_, ts, vs, rfl, h1, h2, h3⟩⟩
    rintro ⟨x, ts, vs, h0, h1, h2, h3⟩
    cases h0
    exact ⟨ts, h1, vs, h2, h3⟩
  rw [← key]
  cases b with
  | im b => cases b <;> rfl
  | mr b => rfl
  | src b => rfl
theorem ex2 {α β : Type} {A : α → Prop} {B : α → β → Prop} : (∃ x y, A x ∧ B x y) = ∃ x, A x ∧ ∃ y, B x y := propext ⟨fun ⟨x, y, a, b⟩ => ⟨x, a, y, b⟩, fun ⟨x, a, y, b⟩ => ⟨x, y, a, b⟩⟩
theorem u_neg {i : Int} : unP S .USub (.im (.int i)) Q = Q (.im (.int (-i))) S := rfl
theorem i_len {w : W} : biP S .len [w] Q = ∃ n, lenW S w = some n ∧ n ≤ sizeLine ∧ Q (.im (.int (n : Int))) S := rfl
theorem i_abs {i : Int} : biP S .abs [.im (.int i)] Q = Q (.im (.int (if i < 0 then -i else i))) S := rfl
theorem i_min {i j : Int} : biP S .min2 [.im (.int i), .im (.int j)] Q = Q (.im (.int (if j < i then j else i))) S := rfl
theorem i_max {i j : Int} : biP S .max2 [.im (.int i), .im (.int j)] Q = Q (.im (.int (if j > i then j else i))) S := rfl
theorem i_intI {i : Int} : biP S .int1 [.im (.int i)] Q = Q (.im (.int i)) S := rfl
theorem i_intB {i : Bool} : biP S .int1 [.im (.bl i)] Q = Q (.im (.int (if i then 1 else 0))) S := rfl
theorem i_tuple {w : W} : biP S .tuple1 [w] Q = ∃ ts, seqOf S w = some ts ∧ Q (.im (.tup ts)) S := rfl
theorem i_list {w : W} : biP S .list1 [w] Q = ∃ ts, seqOf S w = some ts ∧ Q (.im (.lst ts)) S := rfl
theorem i_isi {w c : W} : biP S .isi [w, c] Q = ∃ b, isiW S w c = some b ∧ Q (.im (.bl b)) S := by cases w <;> cases c <;> rfl
theorem i_sorted {w : W} : biP S .sorted1 [w] Q = ∃ ts, lstOf S w = some ts ∧ ts.length < 64 ∧
      ((∃ ns, intsT ts = some ns ∧ ∀ ns' : List Int, ns'.Perm ns → ns'.Pairwise (· ≤ ·) → Q (.im (.lst (ns'.map T.int))) S) ∨
       (∃ ns, strsT ts = some ns ∧ ∀ ns' : List Str, ns'.Perm ns → PyProof.Rows.sortedS ns' = true → Q (.im (.lst (ns'.map T.str))) S)) := rfl
theorem i_max1 {w : W} : biP S .max1 [w] Q = ∃ ts, lstOf S w = some ts ∧ ∃ ns, intsT ts = some ns ∧ 0 < ns.length ∧ ∀ m, m ∈ ns → (∀ y, y ∈ ns → y ≤ m) → Q (.im (.int m)) S := ex2
theorem i_min1 {w : W} : biP S .min1 [w] Q = ∃ ts, lstOf S w = some ts ∧ ∃ ns, intsT ts = some ns ∧ 0 < ns.length ∧ ∀ m, m ∈ ns → (∀ y, y ∈ ns → m ≤ y) → Q (.im (.int m)) S := ex2
theorem x_lst {ts : List T} {i : Int} : ixP S (.im (.lst ts)) (.im (.int i)) Q = ∃ t, atI ts i = some t ∧ Q (.im t) S := rfl
theorem x_tup {ts : List T} {i : Int} : ixP S (.im (.tup ts)) (.im (.int i)) Q = ∃ t, atI ts i = some t ∧ Q (.im t) S := rfl
theorem x_scr {ts : List Int} {i : Int} : ixP S (.im (.scr ts)) (.im (.int i)) Q = ∃ t, atI ts i = some t ∧ Q (.im (.int t)) S := rfl
theorem s_tup {ts : List T} {l h : Option Int} : slP S (.im (.tup ts)) l h Q = Q (.im (.tup (cutT ts l h))) S := by simp [slP]
theorem s_lst {ts : List T} {l h : Option Int} : slP S (.im (.lst ts)) l h Q = Q (.im (.lst (cutT ts l h))) S := by simp [slP, lstOf, lstN]
theorem q_lst {ts : List T} : seqOf S (.im (.lst ts)) = some ts := rfl
theorem q_tup {ts : List T} : seqOf S (.im (.tup ts)) = some ts := rfl
theorem q_scr {ts : List Int} : seqOf S (.im (.scr ts)) = some (ts.map T.int) := rfl
theorem l_lst {ts : List T} : lstOf S (.im (.lst ts)) = some ts := rfl
theorem l_scr {ts : List Int} : lstOf S (.im (.scr ts)) = some (ts.map T.int) := rfl
theorem ln_lst {ts : List T} : lstN S (.im (.lst ts)) = some ts := rfl
theorem k_lst {ts : List T} : lenW S (.im (.lst ts)) = some ts.length := rfl
theorem k_tup {ts : List T} : lenW S (.im (.tup ts)) = some ts.length := rfl
theorem k_scr {ts : List Int} : lenW S (.im (.scr ts)) = some (ts.map T.int).length := rfl
theorem k_str {s : Str} : lenW S (.im (.str s)) = some s.length := rfl
theorem j_ty {t : T} {n : String} : isiW S (.im t) (.im (.ty n)) = (tagT t).bind fun g => isiTag g (.ty n) := rfl
theorem j_cls {t : T} {n : Str} : isiW S (.im t) (.im (.cls n)) = (tagT t).bind fun g => isiTag g (.cls n) := rfl
theorem j_tup {t : T} {cs : List T} : isiW S (.im t) (.im (.tup cs)) = (tagT t).bind fun g => isiTags g cs := rfl
theorem m_app {k : Nat} {w : W} : bmP S .append [.mr k, w] Q = ∃ ws, S[k]? = some (.lst ws) ∧ ws.length < sizeLine ∧ Q (.im .non) (S.set k (.lst (ws ++ [w]))) := rfl
theorem r_app {k : Nat} : recv .append S (.mr k) = ∃ ws, S[k]? = some (.lst ws) := by simp [recv]
theorem r_ext {k : Nat} : recv .extend S (.mr k) = ∃ ws, S[k]? = some (.lst ws) := by simp [recv]
theorem p_nm {i : Nat} {t : T} {ρ : SE} {R : SE → Prop} : wpP (.nm i) t ρ R = R (setS ρ i (some (.im t))) := by rw [wpP]
theorem p_tup {ps : Pats} {us : List T} {ρ : SE} {R : SE → Prop} : wpP (.tp ps) (.tup us) ρ R = wpPs ps us ρ R := by
  rw [wpP]
  simp
theorem p_lst {ps : Pats} {us : List T} {ρ : SE} {R : SE → Prop} : wpP (.tp ps) (.lst us) ρ R = wpPs ps us ρ R := by
  rw [wpP]
  simp
theorem p_nil {ρ : SE} {R : SE → Prop} : wpPs .nil [] ρ R = R ρ := by
  rw [wpPs]
  simp
theorem p_cons {p : Pat} {ps : Pats} {t : T} {us : List T} {ρ : SE} {R : SE → Prop} : wpPs (.cons p ps) (t :: us) ρ R = wpP p t ρ fun ρ' => wpPs ps us ρ' R := by
  rw [wpPs]
  refine propext ⟨?_, fun h => ⟨t, us, rfl, h⟩⟩
  rintro ⟨t', u, e, h⟩
  cases e
  exact h
theorem i_all {w : W} : biP S .all1 [w] Q = ∃ ts, lstOf S w = some ts ∧ ∃ bs, boolsT ts = some bs ∧ Q (.im (.bl (bs.all id))) S := ex2
theorem i_any {w : W} : biP S .any1 [w] Q = ∃ ts, lstOf S w = some ts ∧ ∃ bs, boolsT ts = some bs ∧ Q (.im (.bl (bs.any id))) S := ex2
theorem x_mr {k : Nat} {i : Int} : ixP S (.mr k) (.im (.int i)) Q = ∃ ws, S[k]? = some (.lst ws) ∧ ∃ w, atI ws i = some w ∧ Q w S := ex2
theorem m_ext {k : Nat} {w : W} : bmP S .extend [.mr k, w] Q = ∃ ws, S[k]? = some (.lst ws) ∧ ∃ ts, lstN S w = some ts ∧ ws.length + ts.length ≤ sizeLine ∧ Q (.im .non) (S.set k (.lst (ws ++ ts.map W.im))) := ex2
theorem e_set {k : Nat} {i : Int} {w : W} {R : Sto → Prop} : setIP S (.mr k) (.im (.int i)) w R = ∃ ws, S[k]? = some (.lst ws) ∧ ∃ j, ixN ws.length i = some j ∧ R (S.set k (.lst (ws.set j w))) := ex2
theorem c_eqT {i j : List T} : cmpP S .Eq (.im (.tup i)) (.im (.tup j)) Q = ∃ x, pdW S (.im (.tup i)) = some x ∧ ∃ y, pdW S (.im (.tup j)) = some y ∧ SeqAt.shaped x = true ∧ SeqAt.shaped y = true ∧ Q (.im (.bl (PyData.eqv x y))) S := ex2
theorem c_neT {i j : List T} : cmpP S .NotEq (.im (.tup i)) (.im (.tup j)) Q = ∃ x, pdW S (.im (.tup i)) = some x ∧ ∃ y, pdW S (.im (.tup j)) = some y ∧ SeqAt.shaped x = true ∧ SeqAt.shaped y = true ∧ Q (.im (.bl (!PyData.eqv x y))) S := ex2
theorem c_eqL {i j : List T} : cmpP S .Eq (.im (.lst i)) (.im (.lst j)) Q = ∃ x, pdW S (.im (.lst i)) = some x ∧ ∃ y, pdW S (.im (.lst j)) = some y ∧ SeqAt.shaped x = true ∧ SeqAt.shaped y = true ∧ Q (.im (.bl (PyData.eqv x y))) S := ex2
theorem c_neL {i j : List T} : cmpP S .NotEq (.im (.lst i)) (.im (.lst j)) Q = ∃ x, pdW S (.im (.lst i)) = some x ∧ ∃ y, pdW S (.im (.lst j)) = some y ∧ SeqAt.shaped x = true ∧ SeqAt.shaped y = true ∧ Q (.im (.bl (!PyData.eqv x y))) S := ex2
theorem a_fn {x : Str} {sp : Spec} : apSp (.fn x) sp = sp := rfl
end
end TW

namespace TW
open PySem L2
/-- what a def's term must do -/
def Does (ir : Cs) (N : List Str) (n : Nat) (sp : Spec) : Prop := ∀ ws S Q X, sp ws S Q X → ws.length = n ∧ wpCs ir (startS N ws) S (exitP S Q X)
theorem rt_im {S : Sto} {Q : VQ} {X : XQ} {t : T} (h : Q (.im t) S) : (exitP S Q X).rt (.im t) S := exit_pure List.take_length rfl h
theorem rt_more {S L : Sto} {Q : VQ} {X : XQ} {t : T} (h : Q (.im t) S) : (exitP S Q X).rt (.im t) (S ++ L) := exit_pure (by simp) rfl h
theorem nx_keep {S S' : Sto} {Q : VQ} {X : XQ} {ρ : SE} (h : Q (.im .non) S') : (exitP S Q X).nx ρ S' := ⟨_, _, .keep, h⟩
theorem get_set {S : Sto} {k : Nat} {o x : MO} (h : S[k]? = some o) : (S.set k x)[k]? = some x := List.getElem?_set_self (List.getElem?_eq_some_iff.mp h).1
theorem imAll_map : ∀ (ts : List T), imAll (ts.map W.im) = some ts
  | [] => rfl
  | t :: ts => by simp [imAll, imAll_map ts]
theorem rt_lst {S L : Sto} {Q : VQ} {X : XQ} {ts : List T} (h : Q (.im (.lst ts)) S) : (exitP S Q X).rt (.mr S.length) (S ++ .lst (ts.map W.im) :: L) := exit_pure (by simp) (by simp [frz, imAll_map]) h
/-- a kind of data -/
structure Ty (α : Type) where
  enc : α → T
  dec : T → Option α
  ok : ∀ x, dec (enc x) = some x
def tInt : Ty Int := ⟨T.int, fun | .int i => some i | _ => none, fun _ => rfl⟩
def tBl : Ty Bool := ⟨T.bl, fun | .bl i => some i | _ => none, fun _ => rfl⟩
def tStr : Ty Str := ⟨T.str, fun | .str i => some i | _ => none, fun _ => rfl⟩
def tAny : Ty T := ⟨id, some, fun _ => rfl⟩
def decs {α : Type} (A : Ty α) : List T → Option (List α)
  | [] => some []
  | t :: ts => (A.dec t).bind fun x => (decs A ts).map (x :: ·)
theorem decs_ok {α : Type} (A : Ty α) : ∀ xs : List α, decs A (xs.map A.enc) = some xs
  | [] => rfl
  | x :: xs => by simp [decs, A.ok, decs_ok A xs]
def tLst {α : Type} (A : Ty α) : Ty (List α) := ⟨fun xs => .lst (xs.map A.enc), fun | .lst ts => decs A ts | _ => none, fun xs => decs_ok A xs⟩
def tTup {α : Type} (A : Ty α) : Ty (List α) := ⟨fun xs => .tup (xs.map A.enc), fun | .tup ts => decs A ts | _ => none, fun xs => decs_ok A xs⟩
/-- a list or a tuple -/
def tPair {α β : Type} (A : Ty α) (B : Ty β) : Ty (α × β) := ⟨fun p => .tup [A.enc p.1, B.enc p.2], fun | .tup [a, b] => (A.dec a).bind fun x => (B.dec b).map fun y => (x, y) | _ => none, fun p => by simp [A.ok, B.ok]⟩
/-- a list that a value holds, as the store has it -/
def isLst {α : Type} (A : Ty α) (S : Sto) (w : W) (xs : List α) : Prop := lstN S w = some (xs.map A.enc)
section
variable {α β γ δ ε : Type}
def fsp1 (A : Ty α) (C : Ty γ) (pre : α → Prop) (f : α → γ) : Spec
  | [.im a], S, Q, _ => ∃ x, A.dec a = some x ∧ pre x ∧ Q (.im (C.enc (f x))) S
  | _, _, _, _ => False
def fsp2 (A : Ty α) (B : Ty β) (C : Ty γ) (pre : α → β → Prop) (f : α → β → γ) : Spec
  | [.im a, .im b], S, Q, _ => ∃ x, A.dec a = some x ∧ ∃ y, B.dec b = some y ∧ pre x y ∧ Q (.im (C.enc (f x y))) S
  | _, _, _, _ => False
def fsp3 (A : Ty α) (B : Ty β) (B' : Ty δ) (C : Ty γ) (pre : α → β → δ → Prop) (f : α → β → δ → γ) : Spec
  | [.im a, .im b, .im c], S, Q, _ => ∃ x, A.dec a = some x ∧ ∃ y, B.dec b = some y ∧ ∃ z, B'.dec c = some z ∧ pre x y z ∧ Q (.im (C.enc (f x y z))) S
  | _, _, _, _ => False
theorem does1 {A : Ty α} {C : Ty γ} {pre : α → Prop} {f : α → γ} {ir : Cs} {N : List Str}
    (h : ∀ (a : T) (x : α) (S : Sto) (Q : VQ) (X : XQ), A.dec a = some x → pre x → Q (.im (C.enc (f x))) S → wpCs ir (startS N [.im a]) S (exitP S Q X)) : Does ir N 1 (fsp1 A C pre f) := by
  intro ws S Q X w
  unfold fsp1 at w
  split at w
  · obtain ⟨x, hx, p, q⟩ := w
    exact ⟨rfl, h _ x _ _ _ hx p q⟩
  · exact w.elim
theorem does2 {A : Ty α} {B : Ty β} {C : Ty γ} {pre : α → β → Prop} {f : α → β → γ} {ir : Cs} {N : List Str}
    (h : ∀ (a b : T) (x : α) (y : β) (S : Sto) (Q : VQ) (X : XQ), A.dec a = some x → B.dec b = some y → pre x y → Q (.im (C.enc (f x y))) S → wpCs ir (startS N [.im a, .im b]) S (exitP S Q X)) : Does ir N 2 (fsp2 A B C pre f) := by
  intro ws S Q X w
  unfold fsp2 at w
  split at w
  · obtain ⟨x, hx, y, hy, p, q⟩ := w
    exact ⟨rfl, h _ _ x y _ _ _ hx hy p q⟩
  · exact w.elim
theorem does3 {A : Ty α} {B : Ty β} {B' : Ty δ} {C : Ty γ} {pre : α → β → δ → Prop} {f : α → β → δ → γ} {ir : Cs} {N : List Str}
    (h : ∀ (a b c : T) (x : α) (y : β) (z : δ) (S : Sto) (Q : VQ) (X : XQ), A.dec a = some x → B.dec b = some y → B'.dec c = some z → pre x y z → Q (.im (C.enc (f x y z))) S → wpCs ir (startS N [.im a, .im b, .im c]) S (exitP S Q X)) : Does ir N 3 (fsp3 A B B' C pre f) := by
  intro ws S Q X w
  unfold fsp3 at w
  split at w
  · obtain ⟨x, hx, y, hy, z, hz, p, q⟩ := w
    exact ⟨rfl, h _ _ _ x y z _ _ _ hx hy hz p q⟩
  · exact w.elim
/-- a kind whose trees are those that it writes -/
def Ty.Ex (A : Ty α) : Prop := ∀ t x, A.dec t = some x → t = A.enc x
theorem exInt : tInt.Ex := fun t x h => by
  cases t <;> first | (cases h; done) | (cases h; rfl)
theorem exBl : tBl.Ex := fun t x h => by
  cases t <;> first | (cases h; done) | (cases h; rfl)
theorem exStr : tStr.Ex := fun t x h => by
  cases t <;> first | (cases h; done) | (cases h; rfl)
theorem decs_ex {A : Ty α} (h : A.Ex) : ∀ {ts : List T} {xs : List α}, decs A ts = some xs → ts = xs.map A.enc
  | [], xs, e => by cases e; rfl
  | t :: ts, xs, e => by
    simp only [decs, Option.bind_eq_some_iff, Option.map_eq_some_iff] at e
    obtain ⟨x, e1, ys, e2, rfl⟩ := e
    rw [h t x e1, decs_ex h e2]
    rfl
theorem exLst {A : Ty α} (h : A.Ex) : (tLst A).Ex := fun t x e => by
  cases t <;> first | (cases e; done) | (rw [decs_ex h e]; rfl)
theorem exTup {A : Ty α} (h : A.Ex) : (tTup A).Ex := fun t x e => by
  cases t <;> first | (cases e; done) | (rw [decs_ex h e]; rfl)
theorem exPair {A : Ty α} {B : Ty β} (h : A.Ex) (h' : B.Ex) : (tPair A B).Ex := fun t x e => by
  unfold tPair at e
  simp only at e
  split at e
  · simp only [Option.bind_eq_some_iff, Option.map_eq_some_iff] at e
    obtain ⟨a, e1, b, e2, rfl⟩ := e
    rw [h _ a e1, h' _ b e2]
    rfl
  · cases e
mutual
theorem wpP_mono : ∀ (p : Pat) {t : T} {ρ : SE} {P P' : SE → Prop}, (∀ ρ', P ρ' → P' ρ') → wpP p t ρ P → wpP p t ρ P'
  | .nm i, t, ρ, P, P', h, w => by
    rw [wpP] at w ⊢
    exact h _ w
  | .tp ps, t, ρ, P, P', h, w => by
    rw [wpP] at w ⊢
    obtain ⟨ts, e, w⟩ := w
    exact ⟨ts, e, wpPs_mono ps h w⟩
theorem wpPs_mono : ∀ (ps : Pats) {ts : List T} {ρ : SE} {P P' : SE → Prop}, (∀ ρ', P ρ' → P' ρ') → wpPs ps ts ρ P → wpPs ps ts ρ P'
  | .nil, ts, ρ, P, P', h, w => by
    rw [wpPs] at w ⊢
    exact ⟨w.1, h _ w.2⟩
  | .cons p r, ts, ρ, P, P', h, w => by
    rw [wpPs] at w ⊢
    obtain ⟨t, u, e, w⟩ := w
    exact ⟨t, u, e, wpP_mono p (fun ρ' w' => wpPs_mono r h w') w⟩
end
/-- comprehensions whose items are told by a function -/
theorem lc_pure {we : SE → Sto → VQ → XQ → Prop} {wc : SE → Sto → (List W → Sto → Prop) → XQ → Prop} {p : Pat} {stab : Sto → Prop} {ρ : SE} {S : Sto} (f : T → T) (hc : ∀ ρ' S' R X', R [] S' → wc ρ' S' R X') (hs : stab S) : ∀ (ts acc : List T) (Q : List T → Sto → Prop), acc.length + ts.length ≤ sizeLine →
    (∀ t ∈ ts, ∀ R : VQ, R (.im (f t)) S → wpP p t ρ fun ρ' => we ρ' S R (fun _ _ => False)) → Q (acc ++ ts.map f) S → lcW we wc p stab ts ρ S acc Q
  | [], acc, Q, hl, _, q => by
    rw [lcW]
    exact ⟨hs, by simpa using hl, by simpa using q⟩
  | t :: ts, acc, Q, hl, h, q => by
    rw [lcW]
    have hl' : acc.length + (ts.length + 1) ≤ sizeLine := hl
    refine ⟨hs, ?_⟩
    have key := h t (by simp) (fun w S2 => ∃ x, w = .im x ∧ acc.length < sizeLine ∧ lcW we wc p stab ts ρ S2 (acc ++ [x]) Q)
      ⟨f t, rfl, by omega, lc_pure f hc hs ts (acc ++ [f t]) Q (by simp; omega) (fun u hu => h u (by simp [hu])) (by simpa using q)⟩
    refine wpP_mono p (fun ρ' w => ?_) key
    refine hc _ _ _ _ ⟨true, .inl ⟨rfl, rfl⟩, ?_⟩
    rw [if_pos rfl]
    exact w
theorem lc_map {α : Type} {we : SE → Sto → VQ → XQ → Prop} {wc : SE → Sto → (List W → Sto → Prop) → XQ → Prop} {p : Pat} {stab : Sto → Prop} {ρ : SE} {S : Sto} (g f : α → T) (hc : ∀ ρ' S' R X', R [] S' → wc ρ' S' R X') (hs : stab S) : ∀ (xs : List α) (acc : List T) (Q : List T → Sto → Prop), acc.length + xs.length ≤ sizeLine →
    (∀ x ∈ xs, ∀ R : VQ, R (.im (f x)) S → wpP p (g x) ρ fun ρ' => we ρ' S R (fun _ _ => False)) → Q (acc ++ xs.map f) S → lcW we wc p stab (xs.map g) ρ S acc Q
  | [], acc, Q, hl, _, q => by
    rw [List.map_nil, lcW]
    exact ⟨hs, by simpa using hl, by simpa using q⟩
  | x :: xs, acc, Q, hl, h, q => by
    rw [List.map_cons, lcW]
    have hl' : acc.length + (xs.length + 1) ≤ sizeLine := hl
    refine ⟨hs, ?_⟩
    have key := h x (by simp) (fun w S2 => ∃ x, w = .im x ∧ acc.length < sizeLine ∧ lcW we wc p stab (xs.map g) ρ S2 (acc ++ [x]) Q)
      ⟨f x, rfl, by omega, lc_map g f hc hs xs (acc ++ [f x]) Q (by simp; omega) (fun u hu => h u (by simp [hu])) (by simpa using q)⟩
    refine wpP_mono p (fun ρ' w => ?_) key
    refine hc _ _ _ _ ⟨true, .inl ⟨rfl, rfl⟩, ?_⟩
    rw [if_pos rfl]
    exact w
/-- .. with a test -/
theorem lc_filter {α : Type} {we : SE → Sto → VQ → XQ → Prop} {wc : SE → Sto → (List W → Sto → Prop) → XQ → Prop} {p : Pat} {stab : Sto → Prop} {ρ : SE} {S : Sto} (g f : α → T) (b : α → Bool) (hs : stab S) : ∀ (xs : List α) (acc : List T) (Q : List T → Sto → Prop), acc.length + xs.length ≤ sizeLine →
    (∀ x ∈ xs, wpP p (g x) ρ fun ρ' => (∀ R : List W → Sto → Prop, R [.im (.bl (b x))] S → wc ρ' S R (fun _ _ => False)) ∧ (b x = true → ∀ R : VQ, R (.im (f x)) S → we ρ' S R (fun _ _ => False))) →
    Q (acc ++ (xs.filter b).map f) S → lcW we wc p stab (xs.map g) ρ S acc Q
  | [], acc, Q, hl, _, q => by
    rw [List.map_nil, lcW]
    exact ⟨hs, by simpa using hl, by simpa using q⟩
  | x :: xs, acc, Q, hl, h, q => by
    rw [List.map_cons, lcW]
    have hl' : acc.length + (xs.length + 1) ≤ sizeLine := hl
    refine ⟨hs, ?_⟩
    refine wpP_mono p (fun ρ' w => ?_) (h x (by simp))
    refine w.1 _ ⟨b x, .inr rfl, ?_⟩
    cases hb : b x with
    | true =>
      rw [if_pos rfl]
      refine w.2 hb _ ⟨f x, rfl, by omega, lc_filter g f b hs xs (acc ++ [f x]) Q (by simp; omega) (fun u hu => h u (by simp [hu])) ?_⟩
      simpa [List.filter_cons, hb] using q
    | false =>
      rw [if_neg (by decide)]
      refine lc_filter g f b hs xs acc Q (by omega) (fun u hu => h u (by simp [hu])) ?_
      simpa [List.filter_cons, hb] using q
/-- comprehensions that draw -/
theorem lc_rel {we : SE → Sto → VQ → XQ → Prop} {wc : SE → Sto → (List W → Sto → Prop) → XQ → Prop} {p : Pat} {stab : Sto → Prop} {ρ : SE} {S : Sto} (G : T → T → Prop) (hc : ∀ ρ' S' R X', R [] S' → wc ρ' S' R X') (hs : stab S) : ∀ (ts acc : List T) (Q : List T → Sto → Prop), acc.length + ts.length ≤ sizeLine →
    (∀ t ∈ ts, ∀ R : VQ, (∀ x, G t x → R (.im x) S) → wpP p t ρ fun ρ' => we ρ' S R (fun _ _ => False)) → (∀ xs : List T, xs.length = ts.length → (∀ (i : Nat) (t x : T), ts[i]? = some t → xs[i]? = some x → G t x) → Q (acc ++ xs) S) → lcW we wc p stab ts ρ S acc Q
  | [], acc, Q, hl, _, q => by
    rw [lcW]
    exact ⟨hs, by simpa using hl, by simpa using q [] rfl (fun i t x h => by simp at h)⟩
  | t :: ts, acc, Q, hl, h, q => by
    rw [lcW]
    have hl' : acc.length + (ts.length + 1) ≤ sizeLine := hl
    refine ⟨hs, ?_⟩
    have key := h t (by simp) (fun w S2 => ∃ x, w = .im x ∧ acc.length < sizeLine ∧ lcW we wc p stab ts ρ S2 (acc ++ [x]) Q)
      (fun x hx => ⟨x, rfl, by omega, lc_rel G hc hs ts (acc ++ [x]) Q (by simp; omega) (fun u hu => h u (by simp [hu])) (fun xs hl hg => by
        have := q (x :: xs) (by simp [hl]) (fun i t' x' h1 h2 => by
          cases i with
          | zero =>
            simp at h1 h2
            subst h1 h2
            exact hx
          | succ i => exact hg i t' x' (by simpa using h1) (by simpa using h2))
        simpa using this)⟩)
    refine wpP_mono p (fun ρ' w => ?_) key
    refine hc _ _ _ _ ⟨true, .inl ⟨rfl, rfl⟩, ?_⟩
    rw [if_pos rfl]
    exact w
end
end TW

namespace TW
open PySem L2
def isIntT : T → Bool
  | .int _ => true
  | _ => false
def isNumT : T → Bool
  | .int i => decide (0 ≤ i)
  | _ => false
/-- list or tuple -/
def isSeqT : T → Bool
  | .lst _ => true
  | .scr _ => true
  | .tup _ => true
  | _ => false
def tagged (t : T) : Prop := (tagT t).isSome = true
def sp_is_integer : Spec := fsp1 tAny tBl tagged isIntT
def sp_is_number : Spec := fsp1 tAny tBl tagged isNumT
def sp_is_sequence : Spec := fsp1 tAny tBl tagged isSeqT
/-- a stretch, its first result, whether it rises -/
structure Pt where
  lo : Int
  hi : Int
  f : Int
  r : Bool
deriving DecidableEq
def ptNs : List Str := ["low", "high", "first", "is_rising"]
def Pt.t (p : Pt) : T := .ins "Part" ptNs [.int p.lo, .int p.hi, .int p.f, .bl p.r]
def Pt.res (p : Pt) (x : Int) : Int := p.f + if p.r = true then x - p.lo else 0
def Pt.last (p : Pt) : Int := p.res p.hi
def Pt.cut (p : Pt) (l h : Int) : Pt := ⟨l, h, p.res l, p.r⟩
def decPt : T → Option Pt
  | .ins c ns [.int a, .int b, .int d, .bl r] => if c = "Part" ∧ ns = ptNs then some ⟨a, b, d, r⟩ else none
  | _ => none
def tPt : Ty Pt := ⟨Pt.t, decPt, fun p => by simp [decPt, Pt.t]⟩
theorem exPt : tPt.Ex := fun t x e => by
  have e : decPt t = some x := e
  unfold decPt at e
  split at e
  · split at e
    · rename_i h
      cases e
      rw [h.1, h.2]
      rfl
    · cases e
  · cases e
def sp_Part___init__ : Spec
  | [.mr k, .im (.int a), .im (.int b), .im (.int d), .im (.bl r)], S, Q, _ => S[k]? = some (.ins "Part" [] []) ∧ Q (.im .non) (S.set k (.ins "Part" ptNs [.im (.int a), .im (.int b), .im (.int d), .im (.bl r)]))
  | _, _, _, _ => False
def sp_Part_result : Spec := fsp2 tPt tInt tInt (fun _ _ => True) Pt.res
def sp_Part_last : Spec := fsp1 tPt tInt (fun _ => True) Pt.last
def sp_Part_cut : Spec := fsp3 tPt tInt tInt tPt (fun _ _ _ => True) Pt.cut
def ps_is_integer : List Str := ["value"]
def nm_is_integer : List Str := ["value"]
def ir_is_integer : Cs :=
  (.cons (.ret (.and (.pr (.blt .isi) (.cons (.var 0) (.cons (.glo "int" (.ty "int")) .nil))) (.not (.pr (.blt .isi) (.cons (.var 0) (.cons (.glo "bool" (.ty "bool")) .nil)))))) .nil)
def ps_is_number : List Str := ["value"]
def nm_is_number : List Str := ["value"]
def ir_is_number : Cs :=
  (.cons (.ret (.and (.ap (.fn "is_integer") sp_is_integer (.cons (.var 0) .nil)) (.pr (.cmp .GtE) (.cons (.var 0) (.cons (.con (.int 0)) .nil))))) .nil)
def ps_is_sequence : List Str := ["value"]
def nm_is_sequence : List Str := ["value"]
def ir_is_sequence : Cs :=
  (.cons (.ret (.pr (.blt .isi) (.cons (.var 0) (.cons (.pr .tup (.cons (.glo "list" (.ty "list")) (.cons (.glo "tuple" (.ty "tuple")) .nil))) .nil)))) .nil)
def ps_Part___init__ : List Str := ["self", "low", "high", "first", "is_rising"]
def nm_Part___init__ : List Str := ["self", "low", "high", "first", "is_rising"]
def ir_Part___init__ : Cs :=
  (.cons (.setA "Part" (.var 0) "low" (.var 1))
  (.cons (.setA "Part" (.var 0) "high" (.var 2))
  (.cons (.setA "Part" (.var 0) "first" (.var 3))
  (.cons (.setA "Part" (.var 0) "is_rising" (.var 4)) .nil))))
def ps_Part_result : List Str := ["self", "x"]
def nm_Part_result : List Str := ["self", "x"]
def ir_Part_result : Cs :=
  (.cons (.ret (.pr (.bin .Add) (.cons (.pr (.attr "first") (.cons (.var 0) .nil)) (.cons (.ife (.pr (.attr "is_rising") (.cons (.var 0) .nil)) (.pr (.bin .Sub) (.cons (.var 1) (.cons (.pr (.attr "low") (.cons (.var 0) .nil)) .nil))) (.con (.int 0))) .nil)))) .nil)
def ps_Part_last : List Str := ["self"]
def nm_Part_last : List Str := ["self"]
def ir_Part_last : Cs :=
  (.cons (.ret (.me "Part" "result" sp_Part_result (.var 0) (.cons (.pr (.attr "high") (.cons (.var 0) .nil)) .nil))) .nil)
def ps_Part_cut : List Str := ["self", "low", "high"]
def nm_Part_cut : List Str := ["self", "low", "high"]
def ir_Part_cut : Cs :=
  (.cons (.ret (.ap (.mk "Part") sp_Part___init__ (.cons (.var 1) (.cons (.var 2) (.cons (.me "Part" "result" sp_Part_result (.var 0) (.cons (.var 1) .nil)) (.cons (.pr (.attr "is_rising") (.cons (.var 0) .nil)) .nil)))))) .nil)
theorem does_is_integer : Does ir_is_integer nm_is_integer 1 sp_is_integer := does1 fun a x S Q X hx hp hq => by
  cases hx
  simp only [ir_is_integer, nm_is_integer, wpCs, wpC, wpE, wpEs, wpI, p_nm, p_tup, p_lst, p_nil, p_cons, if_true, if_false, reduceIte, Bool.false_eq_true, startS, getS, setS, setAll, wipeS, List.map_cons, List.map_nil, List.length_cons, List.length_nil, List.cons_append, List.nil_append, List.append_nil, Nat.reduceAdd, Nat.reduceSub, Nat.zero_add, List.replicate_succ, List.replicate_zero, imAll, Option.map_some, Option.bind_some, exists_eq_left, exists_eq_left', Option.some.injEq, W.im.injEq, T.int.injEq, T.bl.injEq, T.str.injEq, T.tup.injEq, T.lst.injEq, w_bin, w_cmp, w_un, w_blt, w_attr, w_ix, w_sl0, w_sl1, w_sl2, w_rev, w_tup, w_lst, w_nlst, b_addI, b_addS, b_addT, b_addL, b_subI, b_mulI, b_divI, b_modI, b_powI, c_lt, c_le, c_gt, c_ge, c_is, c_isn, c_eqI, c_neI, c_eqB, c_neB, c_eqS, c_neS, c_eqN, c_in, c_nin, n_intI, n_non, u_neg, i_len, i_abs, i_min, i_max, i_intI, i_intB, i_tuple, i_list, i_all, i_any, i_isi, i_sorted, i_max1, i_min1, x_lst, x_tup, x_scr, x_mr, s_tup, s_lst, q_lst, q_tup, q_scr, l_lst, l_scr, ln_lst, k_lst, k_tup, k_scr, k_str, j_ty, j_cls, j_tup, m_app, m_ext, e_set, r_app, r_ext, a_fn, stabW, true_and, and_true]
  unfold tagged at hp
  cases a <;> first
    | (cases hp; done)
    | (simp [tagT, isiTag, tys, List.contains, List.elem]; exact rt_im hq)
theorem does_is_sequence : Does ir_is_sequence nm_is_sequence 1 sp_is_sequence := does1 fun a x S Q X hx hp hq => by
  cases hx
  simp only [ir_is_sequence, nm_is_sequence, wpCs, wpC, wpE, wpEs, wpI, p_nm, p_tup, p_lst, p_nil, p_cons, if_true, if_false, reduceIte, Bool.false_eq_true, startS, getS, setS, setAll, wipeS, List.map_cons, List.map_nil, List.length_cons, List.length_nil, List.cons_append, List.nil_append, List.append_nil, Nat.reduceAdd, Nat.reduceSub, Nat.zero_add, List.replicate_succ, List.replicate_zero, imAll, Option.map_some, Option.bind_some, exists_eq_left, exists_eq_left', Option.some.injEq, W.im.injEq, T.int.injEq, T.bl.injEq, T.str.injEq, T.tup.injEq, T.lst.injEq, w_bin, w_cmp, w_un, w_blt, w_attr, w_ix, w_sl0, w_sl1, w_sl2, w_rev, w_tup, w_lst, w_nlst, b_addI, b_addS, b_addT, b_addL, b_subI, b_mulI, b_divI, b_modI, b_powI, c_lt, c_le, c_gt, c_ge, c_is, c_isn, c_eqI, c_neI, c_eqB, c_neB, c_eqS, c_neS, c_eqN, c_in, c_nin, n_intI, n_non, u_neg, i_len, i_abs, i_min, i_max, i_intI, i_intB, i_tuple, i_list, i_all, i_any, i_isi, i_sorted, i_max1, i_min1, x_lst, x_tup, x_scr, x_mr, s_tup, s_lst, q_lst, q_tup, q_scr, l_lst, l_scr, ln_lst, k_lst, k_tup, k_scr, k_str, j_ty, j_cls, j_tup, m_app, m_ext, e_set, r_app, r_ext, a_fn, stabW, true_and, and_true]
  unfold tagged at hp
  cases a <;> first
    | (cases hp; done)
    | (simp [tagT, isiTag, isiTags, tys, List.contains, List.elem, sizeLine]; exact rt_im hq)
theorem u_is_integer {t : T} {S : Sto} {Q : VQ} {X : XQ} : sp_is_integer [.im t] S Q X ↔ tagged t ∧ Q (.im (.bl (isIntT t))) S := by
  simp [sp_is_integer, fsp1, tAny, tBl]
theorem u_is_number {t : T} {S : Sto} {Q : VQ} {X : XQ} : sp_is_number [.im t] S Q X ↔ tagged t ∧ Q (.im (.bl (isNumT t))) S := by
  simp [sp_is_number, fsp1, tAny, tBl]
theorem u_is_sequence {t : T} {S : Sto} {Q : VQ} {X : XQ} : sp_is_sequence [.im t] S Q X ↔ tagged t ∧ Q (.im (.bl (isSeqT t))) S := by
  simp [sp_is_sequence, fsp1, tAny, tBl]
theorem does_is_number : Does ir_is_number nm_is_number 1 sp_is_number := does1 fun a x S Q X hx hp hq => by
  cases hx
  simp only [ir_is_number, nm_is_number, u_is_integer, wpCs, wpC, wpE, wpEs, wpI, p_nm, p_tup, p_lst, p_nil, p_cons, if_true, if_false, reduceIte, Bool.false_eq_true, startS, getS, setS, setAll, wipeS, List.map_cons, List.map_nil, List.length_cons, List.length_nil, List.cons_append, List.nil_append, List.append_nil, Nat.reduceAdd, Nat.reduceSub, Nat.zero_add, List.replicate_succ, List.replicate_zero, imAll, Option.map_some, Option.bind_some, exists_eq_left, exists_eq_left', Option.some.injEq, W.im.injEq, T.int.injEq, T.bl.injEq, T.str.injEq, T.tup.injEq, T.lst.injEq, w_bin, w_cmp, w_un, w_blt, w_attr, w_ix, w_sl0, w_sl1, w_sl2, w_rev, w_tup, w_lst, w_nlst, b_addI, b_addS, b_addT, b_addL, b_subI, b_mulI, b_divI, b_modI, b_powI, c_lt, c_le, c_gt, c_ge, c_is, c_isn, c_eqI, c_neI, c_eqB, c_neB, c_eqS, c_neS, c_eqN, c_in, c_nin, n_intI, n_non, u_neg, i_len, i_abs, i_min, i_max, i_intI, i_intB, i_tuple, i_list, i_all, i_any, i_isi, i_sorted, i_max1, i_min1, x_lst, x_tup, x_scr, x_mr, s_tup, s_lst, q_lst, q_tup, q_scr, l_lst, l_scr, ln_lst, k_lst, k_tup, k_scr, k_str, j_ty, j_cls, j_tup, m_app, m_ext, e_set, r_app, r_ext, a_fn, stabW, true_and, and_true]
  refine ⟨hp, ?_⟩
  cases a <;> first
    | (simp [isIntT]; exact rt_im hq)
theorem does_Part___init__ : Does ir_Part___init__ nm_Part___init__ 5 sp_Part___init__ := by
  intro ws S Q X h
  unfold sp_Part___init__ at h
  split at h
  · rename_i k a b d r S Q X
    obtain ⟨h1, h2⟩ := h
    refine ⟨rfl, ?_⟩
    simp only [ir_Part___init__, nm_Part___init__, wpCs, wpC, wpE, wpEs, wpI, p_nm, p_tup, p_lst, p_nil, p_cons, if_true, if_false, reduceIte, Bool.false_eq_true, startS, getS, setS, setAll, wipeS, List.map_cons, List.map_nil, List.length_cons, List.length_nil, List.cons_append, List.nil_append, List.append_nil, Nat.reduceAdd, Nat.reduceSub, Nat.zero_add, List.replicate_succ, List.replicate_zero, imAll, Option.map_some, Option.bind_some, exists_eq_left, exists_eq_left', Option.some.injEq, W.im.injEq, T.int.injEq, T.bl.injEq, T.str.injEq, T.tup.injEq, T.lst.injEq, w_bin, w_cmp, w_un, w_blt, w_attr, w_ix, w_sl0, w_sl1, w_sl2, w_rev, w_tup, w_lst, w_nlst, b_addI, b_addS, b_addT, b_addL, b_subI, b_mulI, b_divI, b_modI, b_powI, c_lt, c_le, c_gt, c_ge, c_is, c_isn, c_eqI, c_neI, c_eqB, c_neB, c_eqS, c_neS, c_eqN, c_in, c_nin, n_intI, n_non, u_neg, i_len, i_abs, i_min, i_max, i_intI, i_intB, i_tuple, i_list, i_all, i_any, i_isi, i_sorted, i_max1, i_min1, x_lst, x_tup, x_scr, x_mr, s_tup, s_lst, q_lst, q_tup, q_scr, l_lst, l_scr, ln_lst, k_lst, k_tup, k_scr, k_str, j_ty, j_cls, j_tup, m_app, m_ext, e_set, r_app, r_ext, a_fn, stabW, true_and, and_true]
    refine ⟨_, [], [], rfl, h1, by decide, _, ["low"], [_], rfl, get_set h1, by decide, _, ["low", "high"], [_, _], rfl, get_set (get_set h1), by decide, _, ["low", "high", "first"], [_, _, _], rfl, get_set (get_set (get_set h1)), by decide, nx_keep ?_⟩
    simp only [List.set_set]
    exact h2
  · exact h.elim
theorem u_mkPart {a b d : Int} {r : Bool} {S : Sto} {Q : VQ} {X : XQ} : apSp (.mk "Part") sp_Part___init__ [.im (.int a), .im (.int b), .im (.int d), .im (.bl r)] S Q X ↔ Q (.im (Pt.t ⟨a, b, d, r⟩)) S := by
  simp only [apSp, mkSp, sp_Part___init__]
  constructor
  · rintro ⟨_, _, ns, ts, e, q⟩
    rw [List.set_append_right _ _ (Nat.le_refl _), Nat.sub_self, List.set_cons_zero] at e
    have e := List.append_cancel_left e
    simp only [List.cons.injEq, MO.ins.injEq, and_true, true_and] at e
    obtain ⟨e1, e2⟩ := e
    subst e1
    have : ts = [.int a, .int b, .int d, .bl r] := by
      have := congrArg imAll e2
      rw [imAll_map] at this
      exact (Option.some.inj this).symm
    subst this
    exact q
  · intro q
    refine ⟨by simp, by trivial, ptNs, [.int a, .int b, .int d, .bl r], ?_, q⟩
    rw [List.set_append_right _ _ (Nat.le_refl _), Nat.sub_self]
    rfl
theorem at_lo {p : Pt} {S : Sto} : attrW S "low" (.im p.t) = some (.im (.int p.lo)) := by rfl
theorem at_hi {p : Pt} {S : Sto} : attrW S "high" (.im p.t) = some (.im (.int p.hi)) := by rfl
theorem at_f {p : Pt} {S : Sto} : attrW S "first" (.im p.t) = some (.im (.int p.f)) := by rfl
theorem at_r {p : Pt} {S : Sto} : attrW S "is_rising" (.im p.t) = some (.im (.bl p.r)) := by rfl
theorem ns_Pt {p : Pt} {S : Sto} : nsW S (.im p.t) = some (("Part" : Str), ptNs) := rfl
theorem does_Part_result : Does ir_Part_result nm_Part_result 2 sp_Part_result := does2 fun a b p x S Q X ha hb hp hq => by
  obtain rfl := exPt _ _ ha
  obtain rfl := exInt _ _ hb
  show wpCs _ (startS _ [.im p.t, .im (.int x)]) _ _
  simp only [ir_Part_result, nm_Part_result, at_f, at_r, at_lo, wpCs, wpC, wpE, wpEs, wpI, p_nm, p_tup, p_lst, p_nil, p_cons, if_true, if_false, reduceIte, Bool.false_eq_true, startS, getS, setS, setAll, wipeS, List.map_cons, List.map_nil, List.length_cons, List.length_nil, List.cons_append, List.nil_append, List.append_nil, Nat.reduceAdd, Nat.reduceSub, Nat.zero_add, List.replicate_succ, List.replicate_zero, imAll, Option.map_some, Option.bind_some, exists_eq_left, exists_eq_left', Option.some.injEq, W.im.injEq, T.int.injEq, T.bl.injEq, T.str.injEq, T.tup.injEq, T.lst.injEq, w_bin, w_cmp, w_un, w_blt, w_attr, w_ix, w_sl0, w_sl1, w_sl2, w_rev, w_tup, w_lst, w_nlst, b_addI, b_addS, b_addT, b_addL, b_subI, b_mulI, b_divI, b_modI, b_powI, c_lt, c_le, c_gt, c_ge, c_is, c_isn, c_eqI, c_neI, c_eqB, c_neB, c_eqS, c_neS, c_eqN, c_in, c_nin, n_intI, n_non, u_neg, i_len, i_abs, i_min, i_max, i_intI, i_intB, i_tuple, i_list, i_all, i_any, i_isi, i_sorted, i_max1, i_min1, x_lst, x_tup, x_scr, x_mr, s_tup, s_lst, q_lst, q_tup, q_scr, l_lst, l_scr, ln_lst, k_lst, k_tup, k_scr, k_str, j_ty, j_cls, j_tup, m_app, m_ext, e_set, r_app, r_ext, a_fn, stabW, true_and, and_true]
  have hq : Q (.im (.int (p.f + if p.r = true then x - p.lo else 0))) S := hq
  split
  · rename_i h
    rw [if_pos h] at hq
    exact rt_im hq
  · rename_i h
    rw [if_neg h] at hq
    exact rt_im hq
theorem u_result {p : Pt} {x : Int} {S : Sto} {Q : VQ} {X : XQ} : sp_Part_result [.im p.t, .im (.int x)] S Q X ↔ Q (.im (.int (p.res x))) S := by
  have := tPt.ok p
  simp only [sp_Part_result, fsp2, tPt, tInt] at this ⊢
  simp [this]
theorem u_last {p : Pt} {S : Sto} {Q : VQ} {X : XQ} : sp_Part_last [.im p.t] S Q X ↔ Q (.im (.int p.last)) S := by
  have := tPt.ok p
  simp only [sp_Part_last, fsp1, tPt, tInt] at this ⊢
  simp [this]
theorem u_cut {p : Pt} {a b : Int} {S : Sto} {Q : VQ} {X : XQ} : sp_Part_cut [.im p.t, .im (.int a), .im (.int b)] S Q X ↔ Q (.im (p.cut a b).t) S := by
  have := tPt.ok p
  simp only [sp_Part_cut, fsp3, tPt, tInt] at this ⊢
  simp [this]
theorem nf_Pt {m : Str} {p : Pt} {S : Sto} (h : noF m ptNs = true) : (∃ ns, nsW S (.im p.t) = some (("Part" : Str), ns) ∧ noF m ns = true) ↔ True := ⟨fun _ => trivial, fun _ => ⟨ptNs, rfl, h⟩⟩
theorem nf_result : noF "result" ptNs = true := by decide
theorem nf_last : noF "last" ptNs = true := by decide
theorem nf_cut : noF "cut" ptNs = true := by decide
theorem does_Part_last : Does ir_Part_last nm_Part_last 1 sp_Part_last := does1 fun a p S Q X ha hp hq => by
  obtain rfl := exPt _ _ ha
  show wpCs _ (startS _ [.im p.t]) _ _
  simp only [ir_Part_last, nm_Part_last, at_hi, nf_Pt nf_result, u_result, wpCs, wpC, wpE, wpEs, wpI, p_nm, p_tup, p_lst, p_nil, p_cons, if_true, if_false, reduceIte, Bool.false_eq_true, startS, getS, setS, setAll, wipeS, List.map_cons, List.map_nil, List.length_cons, List.length_nil, List.cons_append, List.nil_append, List.append_nil, Nat.reduceAdd, Nat.reduceSub, Nat.zero_add, List.replicate_succ, List.replicate_zero, imAll, Option.map_some, Option.bind_some, exists_eq_left, exists_eq_left', Option.some.injEq, W.im.injEq, T.int.injEq, T.bl.injEq, T.str.injEq, T.tup.injEq, T.lst.injEq, w_bin, w_cmp, w_un, w_blt, w_attr, w_ix, w_sl0, w_sl1, w_sl2, w_rev, w_tup, w_lst, w_nlst, b_addI, b_addS, b_addT, b_addL, b_subI, b_mulI, b_divI, b_modI, b_powI, c_lt, c_le, c_gt, c_ge, c_is, c_isn, c_eqI, c_neI, c_eqB, c_neB, c_eqS, c_neS, c_eqN, c_in, c_nin, n_intI, n_non, u_neg, i_len, i_abs, i_min, i_max, i_intI, i_intB, i_tuple, i_list, i_all, i_any, i_isi, i_sorted, i_max1, i_min1, x_lst, x_tup, x_scr, x_mr, s_tup, s_lst, q_lst, q_tup, q_scr, l_lst, l_scr, ln_lst, k_lst, k_tup, k_scr, k_str, j_ty, j_cls, j_tup, m_app, m_ext, e_set, r_app, r_ext, a_fn, stabW, true_and, and_true]
  exact rt_im hq
theorem does_Part_cut : Does ir_Part_cut nm_Part_cut 3 sp_Part_cut := does3 fun a b c p x y S Q X ha hb hc hp hq => by
  obtain rfl := exPt _ _ ha
  obtain rfl := exInt _ _ hb
  obtain rfl := exInt _ _ hc
  show wpCs _ (startS _ [.im p.t, .im (.int x), .im (.int y)]) _ _
  simp only [ir_Part_cut, nm_Part_cut, at_r, nf_Pt nf_result, u_result, u_mkPart, wpCs, wpC, wpE, wpEs, wpI, p_nm, p_tup, p_lst, p_nil, p_cons, if_true, if_false, reduceIte, Bool.false_eq_true, startS, getS, setS, setAll, wipeS, List.map_cons, List.map_nil, List.length_cons, List.length_nil, List.cons_append, List.nil_append, List.append_nil, Nat.reduceAdd, Nat.reduceSub, Nat.zero_add, List.replicate_succ, List.replicate_zero, imAll, Option.map_some, Option.bind_some, exists_eq_left, exists_eq_left', Option.some.injEq, W.im.injEq, T.int.injEq, T.bl.injEq, T.str.injEq, T.tup.injEq, T.lst.injEq, w_bin, w_cmp, w_un, w_blt, w_attr, w_ix, w_sl0, w_sl1, w_sl2, w_rev, w_tup, w_lst, w_nlst, b_addI, b_addS, b_addT, b_addL, b_subI, b_mulI, b_divI, b_modI, b_powI, c_lt, c_le, c_gt, c_ge, c_is, c_isn, c_eqI, c_neI, c_eqB, c_neB, c_eqS, c_neS, c_eqN, c_in, c_nin, n_intI, n_non, u_neg, i_len, i_abs, i_min, i_max, i_intI, i_intB, i_tuple, i_list, i_all, i_any, i_isi, i_sorted, i_max1, i_min1, x_lst, x_tup, x_scr, x_mr, s_tup, s_lst, q_lst, q_tup, q_scr, l_lst, l_scr, ln_lst, k_lst, k_tup, k_scr, k_str, j_ty, j_cls, j_tup, m_app, m_ext, e_set, r_app, r_ext, a_fn, stabW, true_and, and_true]
  exact rt_im hq
end TW

namespace TW
open PySem L2
structure Pc where
  s : Int
  f : Int
  r : Bool
deriving DecidableEq
def Pc.t (p : Pc) : T := .tup [.int p.s, .int p.f, .bl p.r]
def decPc : T → Option Pc
  | .tup [.int a, .int b, .bl r] => some ⟨a, b, r⟩
  | _ => none
def tPc : Ty Pc := ⟨Pc.t, decPc, fun p => rfl⟩
theorem exPc : tPc.Ex := fun t x e => by
  have e : decPc t = some x := e
  unfold decPc at e
  split at e
  · cases e; rfl
  · cases e
structure Ps where
  top : Int
  tgt : Int
  pcs : List Pc
deriving DecidableEq
def psNs : List Str := ["top", "target", "pieces"]
def Ps.t (p : Ps) : T := .ins "Passage" psNs [.int p.top, .int p.tgt, .tup (p.pcs.map Pc.t)]
def decPs : T → Option Ps
  | .ins c ns [.int a, .int b, .tup ts] => if c = "Passage" ∧ ns = psNs then (decs tPc ts).map fun l => ⟨a, b, l⟩ else none
  | _ => none
def tPs : Ty Ps := ⟨Ps.t, decPs, fun p => by
  have := decs_ok tPc p.pcs
  simp only [decPs, Ps.t]
  rw [if_pos (by exact ⟨by trivial, by trivial⟩)]
  show (decs tPc (p.pcs.map tPc.enc)).map _ = _
  rw [this]
  rfl⟩
theorem exPs : tPs.Ex := fun t x e => by
  have e : decPs t = some x := e
  unfold decPs at e
  split at e
  · split at e
    · rename_i h
      rw [Option.map_eq_some_iff] at e
      obtain ⟨l, e1, rfl⟩ := e
      rw [h.1, h.2, decs_ex exPc e1]
      rfl
    · cases e
  · cases e
/-- the stretches of pieces -/
def partsOf (top : Int) : List Pc → List Pt
  | [] => []
  | [a] => [⟨a.s, top, a.f, a.r⟩]
  | a :: b :: r => ⟨a.s, b.s - 1, a.f, a.r⟩ :: partsOf top (b :: r)
/-- a piece that is being made -/
structure Rn where
  b : Int
  f : Int
  st : Option Int
  e : Int
deriving DecidableEq
def stT : Option Int → T
  | none => .non
  | some i => .int i
def Rn.t (r : Rn) : T := .tup [.int r.b, .int r.f, stT r.st, .int r.e]
def decRn : T → Option Rn
  | .tup [.int a, .int b, .non, .int e] => some ⟨a, b, none, e⟩
  | .tup [.int a, .int b, .int s, .int e] => some ⟨a, b, some s, e⟩
  | _ => none
def tRn : Ty Rn := ⟨Rn.t, decRn, fun p => by
  obtain ⟨a, b, st, e⟩ := p
  cases st <;> rfl⟩
theorem exRn : tRn.Ex := fun t x e => by
  have e : decRn t = some x := e
  unfold decRn at e
  split at e
  · cases e; rfl
  · cases e; rfl
  · cases e
def b01 (b : Bool) : Int := if b then 1 else 0
def begun (p : Pt) : Rn := ⟨p.lo, p.f, if p.lo = p.hi then none else some (b01 p.r), p.last⟩
def stOk : Option Int → Int → Bool
  | none, _ => true
  | some s, j => decide (s = j)
def jumpOk (r : Rn) (p : Pt) : Bool := (decide (p.f - r.e = 0) || decide (p.f - r.e = 1)) && stOk r.st (p.f - r.e)
def longer (r : Rn) (p : Pt) : List Rn :=
  if jumpOk r p = false then [r, begun p]
  else if p.lo = p.hi ∨ b01 p.r = p.f - r.e then [⟨r.b, r.f, some (p.f - r.e), p.last⟩]
  else [⟨r.b, r.f, some (p.f - r.e), p.f⟩, begun (p.cut (p.lo + 1) p.hi)]
def addRun (rs : List Rn) (p : Pt) : List Rn := match rs.getLast? with
  | some r => rs.dropLast ++ longer r p
  | none => []
def runsOf : List Pt → List Rn
  | [] => []
  | p :: ps => ps.foldl addRun [begun p]
def Rn.pc (r : Rn) : Pc := ⟨r.b, r.f, decide (r.st = some 1)⟩
def normal (ps : List Pt) : List Pc := (runsOf ps).map Rn.pc
/-- pieces that are right -/
def endOf (top : Int) : List Pc → Int
  | [] => top
  | b :: _ => b.s - 1
def chkP (top tgt : Int) : Int → List Pc → Bool
  | last, [] => decide (last ≤ tgt)
  | last, a :: r => if a.f < last then false else chkP top tgt (a.f + if a.r = true then endOf top r - a.s else 0) r
def incr : List Pc → Bool
  | a :: b :: r => decide (a.s < b.s) && incr (b :: r)
  | _ => true
def lastS (d : Int) : List Pc → Int
  | [] => d
  | a :: r => lastS a.s r
def pieceOk (p : Pc) : Bool := decide (0 ≤ p.s) && decide (0 ≤ p.f)
def arePieces (top tgt : Int) (l : List Pc) : Bool := match l with
  | [] => false
  | a :: r => (a :: r).all pieceOk && decide (a.s = 0) && decide (lastS 0 (a :: r) ≤ top) && incr (a :: r) && chkP top tgt 0 (a :: r)
def few (n : Nat) : Prop := n ≤ 1000000
def sp_begun_run : Spec := fsp1 tPt tRn (fun _ => True) begun
def sp_longer_run : Spec := fsp2 tRn tPt (tLst tRn) (fun _ _ => True) longer
def sp_normal_pieces : Spec
  | [w], S, Q, _ => ∃ l, lstN S w = some (l.map Pt.t) ∧ (l ≠ [] ∧ few l.length) ∧ Q (.im (.tup ((normal l).map Pc.t))) S
  | _, _, _, _ => False
def sp_parts_of : Spec := fsp1 tPs (tLst tPt) (fun p => few p.pcs.length) fun p => partsOf p.top p.pcs
/-- a list or a tuple of pieces -/
def tPcs : Ty (List Pc) := ⟨fun xs => .lst (xs.map Pc.t), fun | .lst ts => decs tPc ts | .tup ts => decs tPc ts | _ => none, fun xs => decs_ok tPc xs⟩
def sp_raw_parts : Spec := fsp2 tInt tPcs (tLst tPt) (fun _ l => few l.length) partsOf
def sp_is_piece : Spec := fsp1 tPc tBl (fun _ => True) pieceOk
def sp_are_pieces : Spec := fsp3 tInt tInt tPcs tBl (fun _ _ l => few l.length) arePieces
def ps_begun_run : List Str := ["part"]
def nm_begun_run : List Str := ["part"]
def ir_begun_run : Cs :=
  (.cons (.ret (.pr .tup (.cons (.pr (.attr "low") (.cons (.var 0) .nil)) (.cons (.pr (.attr "first") (.cons (.var 0) .nil)) (.cons (.ife (.pr (.cmp .Eq) (.cons (.pr (.attr "low") (.cons (.var 0) .nil)) (.cons (.pr (.attr "high") (.cons (.var 0) .nil)) .nil))) (.con .non) (.pr (.blt .int1) (.cons (.pr (.attr "is_rising") (.cons (.var 0) .nil)) .nil))) (.cons (.me "Part" "last" sp_Part_last (.var 0) .nil) .nil)))))) .nil)
def ps_longer_run : List Str := ["run", "part"]
def nm_longer_run : List Str := ["run", "part", "jump", "begin", "first", "step", "end"]
def ir_longer_run : Cs :=
  (.cons (.unp (.tp (.cons (.nm 3) (.cons (.nm 4) (.cons (.nm 5) (.cons (.nm 6) .nil))))) (.var 0))
  (.cons (.asg 2 (.pr (.bin .Sub) (.cons (.pr (.attr "first") (.cons (.var 1) .nil)) (.cons (.var 6) .nil))))
  (.cons (.ifs (.or (.pr (.cmp .NotIn) (.cons (.var 2) (.cons (.pr .tup (.cons (.con (.int 0)) (.cons (.con (.int 1)) .nil))) .nil))) (.and (.pr (.cmp .IsNot) (.cons (.var 5) (.cons (.con .non) .nil))) (.pr (.cmp .NotEq) (.cons (.var 5) (.cons (.var 2) .nil))))) (.cons (.ret (.pr .lst (.cons (.var 0) (.cons (.ap (.fn "begun_run") sp_begun_run (.cons (.var 1) .nil)) .nil)))) .nil) .nil)
  (.cons (.ifs (.or (.pr (.cmp .Eq) (.cons (.pr (.attr "low") (.cons (.var 1) .nil)) (.cons (.pr (.attr "high") (.cons (.var 1) .nil)) .nil))) (.pr (.cmp .Eq) (.cons (.pr (.blt .int1) (.cons (.pr (.attr "is_rising") (.cons (.var 1) .nil)) .nil)) (.cons (.var 2) .nil)))) (.cons (.ret (.pr .lst (.cons (.pr .tup (.cons (.var 3) (.cons (.var 4) (.cons (.var 2) (.cons (.me "Part" "last" sp_Part_last (.var 1) .nil) .nil))))) .nil))) .nil) .nil)
  (.cons (.ret (.pr .lst (.cons (.pr .tup (.cons (.var 3) (.cons (.var 4) (.cons (.var 2) (.cons (.pr (.attr "first") (.cons (.var 1) .nil)) .nil))))) (.cons (.ap (.fn "begun_run") sp_begun_run (.cons (.me "Part" "cut" sp_Part_cut (.var 1) (.cons (.pr (.bin .Add) (.cons (.pr (.attr "low") (.cons (.var 1) .nil)) (.cons (.con (.int 1)) .nil))) (.cons (.pr (.attr "high") (.cons (.var 1) .nil)) .nil))) .nil)) .nil)))) .nil)))))
def ps_normal_pieces : List Str := ["parts"]
def nm_normal_pieces : List Str := ["parts", "runs", "part", "last", "others", "begin", "first", "step", "end"]
def bd_normal_pieces_1 : Cs :=
  (.cons (.sta 4 3 (.var 1))
  (.cons (.asg 1 (.pr .lst (.star (.var 4) (.star (.ap (.fn "longer_run") sp_longer_run (.cons (.var 3) (.cons (.var 2) .nil))) .nil)))) .nil))
def ir_normal_pieces : Cs :=
  (.cons (.asg 1 (.pr .lst (.cons (.ap (.fn "begun_run") sp_begun_run (.cons (.pr .ix (.cons (.var 0) (.cons (.con (.int 0)) .nil))) .nil)) .nil)))
  (.cons (.fo (.nm 2) (.seq (.pr (.sl true false) (.cons (.var 0) (.cons (.con (.int 1)) .nil)))) bd_normal_pieces_1)
  (.cons (.ret (.pr (.blt .tuple1) (.cons (.lc (.pr .tup (.cons (.var 5) (.cons (.var 6) (.cons (.pr (.cmp .Eq) (.cons (.var 7) (.cons (.con (.int 1)) .nil))) .nil)))) (.tp (.cons (.nm 5) (.cons (.nm 6) (.cons (.nm 7) (.cons (.nm 8) .nil))))) (.seq (.var 1)) .nil [5, 6, 7, 8]) .nil))) .nil)))
def ps_parts_of : List Str := ["passage"]
def nm_parts_of : List Str := ["passage", "starts", "piece", "at", "start", "first", "rises"]
def ir_parts_of : Cs :=
  (.cons (.asg 1 (.pr (.bin .Add) (.cons (.lc (.pr .ix (.cons (.var 2) (.cons (.con (.int 0)) .nil))) (.nm 2) (.seq (.pr (.attr "pieces") (.cons (.var 0) .nil))) .nil [2]) (.cons (.pr .lst (.cons (.pr (.bin .Add) (.cons (.pr (.attr "top") (.cons (.var 0) .nil)) (.cons (.con (.int 1)) .nil))) .nil)) .nil))))
  (.cons (.ret (.lc (.ap (.mk "Part") sp_Part___init__ (.cons (.var 4) (.cons (.pr (.bin .Sub) (.cons (.pr .ix (.cons (.var 1) (.cons (.pr (.bin .Add) (.cons (.var 3) (.cons (.con (.int 1)) .nil))) .nil))) (.cons (.con (.int 1)) .nil))) (.cons (.var 5) (.cons (.var 6) .nil))))) (.tp (.cons (.nm 3) (.cons (.tp (.cons (.nm 4) (.cons (.nm 5) (.cons (.nm 6) .nil)))) .nil))) (.enm (.pr (.attr "pieces") (.cons (.var 0) .nil))) .nil [3, 4, 5, 6])) .nil))
def ps_raw_parts : List Str := ["top", "pieces"]
def nm_raw_parts : List Str := ["top", "pieces", "starts", "piece", "at", "start", "first", "rises"]
def ir_raw_parts : Cs :=
  (.cons (.asg 2 (.pr (.bin .Add) (.cons (.lc (.pr .ix (.cons (.var 3) (.cons (.con (.int 0)) .nil))) (.nm 3) (.seq (.var 1)) .nil [3]) (.cons (.pr .lst (.cons (.pr (.bin .Add) (.cons (.var 0) (.cons (.con (.int 1)) .nil))) .nil)) .nil))))
  (.cons (.ret (.lc (.ap (.mk "Part") sp_Part___init__ (.cons (.var 5) (.cons (.pr (.bin .Sub) (.cons (.pr .ix (.cons (.var 2) (.cons (.pr (.bin .Add) (.cons (.var 4) (.cons (.con (.int 1)) .nil))) .nil))) (.cons (.con (.int 1)) .nil))) (.cons (.var 6) (.cons (.var 7) .nil))))) (.tp (.cons (.nm 4) (.cons (.tp (.cons (.nm 5) (.cons (.nm 6) (.cons (.nm 7) .nil)))) .nil))) (.enm (.var 1)) .nil [4, 5, 6, 7])) .nil))
def ps_is_piece : List Str := ["value"]
def nm_is_piece : List Str := ["value"]
def ir_is_piece : Cs :=
  (.cons (.ifs (.or (.not (.pr (.blt .isi) (.cons (.var 0) (.cons (.glo "tuple" (.ty "tuple")) .nil)))) (.or (.pr (.cmp .NotEq) (.cons (.pr (.blt .len) (.cons (.var 0) .nil)) (.cons (.con (.int 3)) .nil))) (.not (.pr (.blt .isi) (.cons (.pr .ix (.cons (.var 0) (.cons (.con (.int 2)) .nil))) (.cons (.glo "bool" (.ty "bool")) .nil)))))) (.cons (.ret (.con (.bl false))) .nil) .nil)
  (.cons (.ret (.and (.ap (.fn "is_number") sp_is_number (.cons (.pr .ix (.cons (.var 0) (.cons (.con (.int 0)) .nil))) .nil)) (.ap (.fn "is_number") sp_is_number (.cons (.pr .ix (.cons (.var 0) (.cons (.con (.int 1)) .nil))) .nil)))) .nil))
theorem at_top {p : Ps} {S : Sto} : attrW S "top" (.im p.t) = some (.im (.int p.top)) := by rfl
theorem at_tgt {p : Ps} {S : Sto} : attrW S "target" (.im p.t) = some (.im (.int p.tgt)) := by rfl
theorem at_pcs {p : Ps} {S : Sto} : attrW S "pieces" (.im p.t) = some (.im (.tup (p.pcs.map Pc.t))) := by rfl
theorem few_sz {n : Nat} (h : few n) : n + 10 ≤ sizeLine := by
  unfold few at h
  have : sizeLine = 16777216 := rfl
  omega
theorem does_begun_run : Does ir_begun_run nm_begun_run 1 sp_begun_run := does1 fun a p S Q X ha hp hq => by
  obtain rfl := exPt _ _ ha
  show wpCs _ (startS _ [.im p.t]) _ _
  have hq : Q (.im (Rn.t ⟨p.lo, p.f, if p.lo = p.hi then none else some (b01 p.r), p.last⟩)) S := hq
  simp only [ir_begun_run, nm_begun_run, at_lo, at_hi, at_f, at_r, nf_Pt nf_last, u_last, wpCs, wpC, wpE, wpEs, wpI, p_nm, p_tup, p_lst, p_nil, p_cons, if_true, if_false, reduceIte, Bool.false_eq_true, startS, getS, setS, setAll, wipeS, List.map_cons, List.map_nil, List.length_cons, List.length_nil, List.cons_append, List.nil_append, List.append_nil, Nat.reduceAdd, Nat.reduceSub, Nat.zero_add, List.replicate_succ, List.replicate_zero, imAll, Option.map_some, Option.bind_some, exists_eq_left, exists_eq_left', Option.some.injEq, W.im.injEq, T.int.injEq, T.bl.injEq, T.str.injEq, T.tup.injEq, T.lst.injEq, w_bin, w_cmp, w_un, w_blt, w_attr, w_ix, w_sl0, w_sl1, w_sl2, w_rev, w_tup, w_lst, w_nlst, b_addI, b_addS, b_addT, b_addL, b_subI, b_mulI, b_divI, b_modI, b_powI, c_lt, c_le, c_gt, c_ge, c_is, c_isn, c_eqI, c_neI, c_eqB, c_neB, c_eqS, c_neS, c_eqN, c_in, c_nin, n_intI, n_non, u_neg, i_len, i_abs, i_min, i_max, i_intI, i_intB, i_tuple, i_list, i_all, i_any, i_isi, i_sorted, i_max1, i_min1, x_lst, x_tup, x_scr, x_mr, s_tup, s_lst, q_lst, q_tup, q_scr, l_lst, l_scr, ln_lst, k_lst, k_tup, k_scr, k_str, j_ty, j_cls, j_tup, m_app, m_ext, e_set, r_app, r_ext, a_fn, stabW, true_and, and_true]
  split
  · rename_i h
    rw [if_pos (of_decide_eq_true h)] at hq
    exact ⟨by decide, rt_im hq⟩
  · rename_i h
    rw [if_neg (fun z => h (decide_eq_true z))] at hq
    exact ⟨by decide, rt_im hq⟩
theorem u_begun {p : Pt} {S : Sto} {Q : VQ} {X : XQ} : sp_begun_run [.im p.t] S Q X ↔ Q (.im (begun p).t) S := by
  have := tPt.ok p
  simp only [sp_begun_run, fsp1, tPt, tRn] at this ⊢
  simp [this]
theorem flat2 {a b : Int} : flatTs [.int a, .int b] = some [.int a, .int b] := rfl
theorem in01 {i : Int} : inV (.int i) [.int 0, .int 1] = (decide (i = 0) || decide (i = 1)) := by
  simp only [inV, eqV, List.any_cons, List.any_nil, Bool.or_false]
  have e : ∀ a b : Int, (a == b) = decide (b = a) := fun a b => by
    by_cases h : b = a
    · simp [h]
    · simp [h, Ne.symm h]
  rw [e, e]
theorem does_longer_run : Does ir_longer_run nm_longer_run 2 sp_longer_run := does2 fun a b r p S Q X ha hb hp hq => by
  obtain rfl := exRn _ _ ha
  obtain rfl := exPt _ _ hb
  show wpCs _ (startS _ [.im r.t, .im p.t]) _ _
  have hq : Q (.im (.lst ((longer r p).map Rn.t))) S := hq
  unfold longer at hq
  obtain ⟨rb, rf, st, re⟩ := r
  simp only [ir_longer_run, nm_longer_run, Rn.t, at_lo, at_hi, at_f, at_r, nf_Pt nf_last, nf_Pt nf_cut, u_last, u_cut, u_begun, flat2, in01, wpCs, wpC, wpE, wpEs, wpI, p_nm, p_tup, p_lst, p_nil, p_cons, if_true, if_false, reduceIte, Bool.false_eq_true, startS, getS, setS, setAll, wipeS, List.map_cons, List.map_nil, List.length_cons, List.length_nil, List.cons_append, List.nil_append, List.append_nil, Nat.reduceAdd, Nat.reduceSub, Nat.zero_add, List.replicate_succ, List.replicate_zero, imAll, Option.map_some, Option.bind_some, exists_eq_left, exists_eq_left', Option.some.injEq, W.im.injEq, T.int.injEq, T.bl.injEq, T.str.injEq, T.tup.injEq, T.lst.injEq, w_bin, w_cmp, w_un, w_blt, w_attr, w_ix, w_sl0, w_sl1, w_sl2, w_rev, w_tup, w_lst, w_nlst, b_addI, b_addS, b_addT, b_addL, b_subI, b_mulI, b_divI, b_modI, b_powI, c_lt, c_le, c_gt, c_ge, c_is, c_isn, c_eqI, c_neI, c_eqB, c_neB, c_eqS, c_neS, c_eqN, c_in, c_nin, n_intI, n_non, u_neg, i_len, i_abs, i_min, i_max, i_intI, i_intB, i_tuple, i_list, i_all, i_any, i_isi, i_sorted, i_max1, i_min1, x_lst, x_tup, x_scr, x_mr, s_tup, s_lst, q_lst, q_tup, q_scr, l_lst, l_scr, ln_lst, k_lst, k_tup, k_scr, k_str, j_ty, j_cls, j_tup, m_app, m_ext, e_set, r_app, r_ext, a_fn, stabW, true_and, and_true]
  refine ⟨by decide, ?_⟩
  have s1 : 1 ≤ sizeLine := by decide
  have s2 : 2 ≤ sizeLine := by decide
  have s4 : 4 ≤ sizeLine := by decide
  have fin : ∀ t, Q (.im t) S → (exitP S Q X).rt (.im t) S := fun t h => rt_im h
  simp only at hq
  have hb : (if p.r = true then (1 : Int) else 0) = b01 p.r := rfl
  simp only [hb, s1, s2, s4, true_and]
  by_cases c1 : (decide (p.f - re = 0) || decide (p.f - re = 1)) = true
  · have c1' : jumpOk ⟨rb, rf, st, re⟩ p = stOk st (p.f - re) := by
      unfold jumpOk
      simp only [c1, Bool.true_and]
    rw [c1'] at hq
    simp only [c1, Bool.not_true, Bool.false_eq_true, if_false]
    cases st with
    | none =>
      simp only [stOk, stT, isNon, Bool.not_true, Bool.false_eq_true, if_false, reduceCtorEq, decide_eq_true_eq] at hq ⊢
      by_cases c2 : p.lo = p.hi
      · simp only [c2, true_or, if_true] at hq ⊢
        exact fin _ hq
      · by_cases c3 : b01 p.r = p.f - re
        · simp only [c2, c3, or_true, if_true, if_false] at hq ⊢
          exact fin _ hq
        · simp only [c2, c3, or_self, if_false] at hq ⊢
          exact fin _ hq
    | some s =>
      simp only [stOk, stT, isNon, Bool.not_false, if_true, c_neI, W.im.injEq, T.bl.injEq, exists_eq_left', decide_eq_true_eq, Bool.not_eq_true', decide_eq_false_iff_not] at hq ⊢
      by_cases c0 : s = p.f - re
      · simp only [c0, not_true_eq_false, if_false] at hq ⊢
        by_cases c2 : p.lo = p.hi
        · simp only [c2, true_or, if_true] at hq ⊢
          exact fin _ hq
        · by_cases c3 : b01 p.r = p.f - re
          · simp only [c2, c3, or_true, if_true, if_false] at hq ⊢
            exact fin _ hq
          · simp only [c2, c3, or_self, if_false] at hq ⊢
            exact fin _ hq
      · simp only [c0, not_false_eq_true, if_true] at hq ⊢
        exact fin _ hq
  · have c1 : (decide (p.f - re = 0) || decide (p.f - re = 1)) = false := by simpa using c1
    have c1' : jumpOk ⟨rb, rf, st, re⟩ p = false := by
      unfold jumpOk
      simp only [c1, Bool.false_and]
    simp only [c1, c1', Bool.not_false, if_true] at hq ⊢
    exact fin _ hq
theorem u_longer {r : Rn} {p : Pt} {S : Sto} {Q : VQ} {X : XQ} : sp_longer_run [.im r.t, .im p.t] S Q X ↔ Q (.im (.lst ((longer r p).map Rn.t))) S := by
  have h1 := tPt.ok p
  have h2 := tRn.ok r
  simp only [sp_longer_run, fsp2, tPt, tRn, tLst] at h1 h2 ⊢
  simp [h1, h2]
theorem longer_len {r : Rn} {p : Pt} : (longer r p).length ≤ 2 ∧ longer r p ≠ [] := by
  unfold longer
  split
  · simp
  · split <;> simp
theorem add_snoc {rs : List Rn} {r : Rn} {p : Pt} : addRun (rs ++ [r]) p = rs ++ longer r p := by
  simp [addRun]
theorem snoc_of {α : Type} : ∀ {rs : List α}, rs ≠ [] → ∃ qs r, rs = qs ++ [r] := fun {rs} h => ⟨rs.dropLast, rs.getLast h, (List.dropLast_concat_getLast h).symm⟩
theorem add_ne {rs : List Rn} {p : Pt} (h : rs ≠ []) : addRun rs p ≠ [] ∧ (addRun rs p).length ≤ rs.length + 1 := by
  obtain ⟨qs, r, rfl⟩ := snoc_of h
  rw [add_snoc]
  have := longer_len (r := r) (p := p)
  refine ⟨fun z => this.2 (List.append_eq_nil_iff.mp z).2, ?_⟩
  simp only [List.length_append, List.length_cons, List.length_nil]
  omega
theorem norm_body {S : Sto} {K : Post} {pt : W} {qs : List Rn} {r : Rn} {p : Pt} {x3 x4 : Option W} (hl : qs.length + 2 ≤ sizeLine) (k : K.nx [some pt, some (.im (.lst ((addRun (qs ++ [r]) p).map Rn.t))), some (.im p.t), some (.im r.t), some (.im (.lst (qs.map Rn.t))), none, none, none, none] S) :
    wpCs bd_normal_pieces_1 [some pt, some (.im (.lst ((qs ++ [r]).map Rn.t))), some (.im p.t), x3, x4, none, none, none, none] S K := by
  have hl2 := longer_len (r := r) (p := p)
  simp only [bd_normal_pieces_1, wpCs, wpC, wpE, wpEs, wpI, p_nm, p_tup, p_lst, p_nil, p_cons, if_true, if_false, reduceIte, Bool.false_eq_true, startS, getS, setS, setAll, wipeS, List.map_cons, List.map_nil, List.length_cons, List.length_nil, List.cons_append, List.nil_append, List.append_nil, Nat.reduceAdd, Nat.reduceSub, Nat.zero_add, List.replicate_succ, List.replicate_zero, imAll, Option.map_some, Option.bind_some, exists_eq_left, exists_eq_left', Option.some.injEq, W.im.injEq, T.int.injEq, T.bl.injEq, T.str.injEq, T.tup.injEq, T.lst.injEq, w_bin, w_cmp, w_un, w_blt, w_attr, w_ix, w_sl0, w_sl1, w_sl2, w_rev, w_tup, w_lst, w_nlst, b_addI, b_addS, b_addT, b_addL, b_subI, b_mulI, b_divI, b_modI, b_powI, c_lt, c_le, c_gt, c_ge, c_is, c_isn, c_eqI, c_neI, c_eqB, c_neB, c_eqS, c_neS, c_eqN, c_in, c_nin, n_intI, n_non, u_neg, i_len, i_abs, i_min, i_max, i_intI, i_intB, i_tuple, i_list, i_all, i_any, i_isi, i_sorted, i_max1, i_min1, x_lst, x_tup, x_scr, x_mr, s_tup, s_lst, q_lst, q_tup, q_scr, l_lst, l_scr, ln_lst, k_lst, k_tup, k_scr, k_str, j_ty, j_cls, j_tup, m_app, m_ext, e_set, r_app, r_ext, a_fn, stabW, true_and, and_true]
  refine ⟨qs.map Rn.t, r.t, by simp, by simp; omega, ?_⟩
  simp only [u_longer, wpCs, wpC, wpE, wpEs, wpI, p_nm, p_tup, p_lst, p_nil, p_cons, if_true, if_false, reduceIte, Bool.false_eq_true, startS, getS, setS, setAll, wipeS, List.map_cons, List.map_nil, List.length_cons, List.length_nil, List.cons_append, List.nil_append, List.append_nil, Nat.reduceAdd, Nat.reduceSub, Nat.zero_add, List.replicate_succ, List.replicate_zero, imAll, Option.map_some, Option.bind_some, exists_eq_left, exists_eq_left', Option.some.injEq, W.im.injEq, T.int.injEq, T.bl.injEq, T.str.injEq, T.tup.injEq, T.lst.injEq, w_bin, w_cmp, w_un, w_blt, w_attr, w_ix, w_sl0, w_sl1, w_sl2, w_rev, w_tup, w_lst, w_nlst, b_addI, b_addS, b_addT, b_addL, b_subI, b_mulI, b_divI, b_modI, b_powI, c_lt, c_le, c_gt, c_ge, c_is, c_isn, c_eqI, c_neI, c_eqB, c_neB, c_eqS, c_neS, c_eqN, c_in, c_nin, n_intI, n_non, u_neg, i_len, i_abs, i_min, i_max, i_intI, i_intB, i_tuple, i_list, i_all, i_any, i_isi, i_sorted, i_max1, i_min1, x_lst, x_tup, x_scr, x_mr, s_tup, s_lst, q_lst, q_tup, q_scr, l_lst, l_scr, ln_lst, k_lst, k_tup, k_scr, k_str, j_ty, j_cls, j_tup, m_app, m_ext, e_set, r_app, r_ext, a_fn, stabW, true_and, and_true]
  refine ⟨qs.map Rn.t ++ (longer r p).map Rn.t, ?_, ?_, ?_⟩
  · rw [← List.map_append, imAll_map]
  · simp; omega
  · rw [← List.map_append, ← add_snoc]
    exact k
theorem norm_loop {S : Sto} {K : Post} {pt : W} {stab : Sto → Prop} (hs : stab S) : ∀ (ps : List Pt) (rs : List Rn) (x2 x3 x4 : Option W), rs ≠ [] → rs.length + ps.length ≤ 2000000 →
    (∀ x2 x3 x4, K.nx [some pt, some (.im (.lst ((ps.foldl addRun rs).map Rn.t))), x2, x3, x4, none, none, none, none] S) →
    forW (wpCs bd_normal_pieces_1) (.nm 2) stab (ps.map Pt.t) [some pt, some (.im (.lst (rs.map Rn.t))), x2, x3, x4, none, none, none, none] S K
  | [], rs, x2, x3, x4, hn, hl, k => by
    rw [List.map_nil, forW]
    exact ⟨hs, k x2 x3 x4⟩
  | p :: ps, rs, x2, x3, x4, hn, hl, k => by
    rw [List.map_cons, forW]
    refine ⟨hs, ?_⟩
    obtain ⟨qs, r, rfl⟩ := snoc_of hn
    have hz : sizeLine = 16777216 := rfl
    simp only [List.length_append, List.length_cons, List.length_nil] at hl
    rw [p_nm]
    refine norm_body (by omega) ?_
    refine norm_loop hs ps _ _ _ _ (add_ne hn).1 ?_ k
    have := (add_ne (p := p) hn).2
    simp only [List.length_append, List.length_cons, List.length_nil] at this
    omega
theorem runs_len : ∀ (ps : List Pt) (rs : List Rn), rs ≠ [] → (ps.foldl addRun rs) ≠ [] ∧ (ps.foldl addRun rs).length ≤ rs.length + ps.length
  | [], rs, h => ⟨h, by simp⟩
  | p :: ps, rs, h => by
    have h1 := add_ne (p := p) h
    have h2 := runs_len ps _ h1.1
    rw [List.foldl_cons]
    refine ⟨h2.1, ?_⟩
    simp only [List.length_cons]
    omega
theorem cut1 {α : Type} {a : α} {l : List α} : cutT (a :: l) (some 1) none = l := by
  simp [cutT, HT.sIx]
theorem at0 {α : Type} {a : α} {l : List α} : atI (a :: l) 0 = some a := by
  simp [atI, ixN]
theorem lstN_im {S : Sto} {w : W} {ts : List T} (h : lstN S w = some ts) : (∃ us, w = .im (.lst us) ∧ us = ts) ∨ ∃ k, w = .mr k ∧ S[k]? = some (.lst (ts.map W.im)) := by
  cases w with
  | im t =>
    cases t <;> first | (cases h; done) | (cases h; exact .inl ⟨_, rfl, rfl⟩)
  | mr k =>
    have h : (match S[k]? with | some (.lst ws) => imAll ws | _ => none) = some ts := h
    split at h
    · rename_i ws e
      rw [imAll_eq h] at e
      exact .inr ⟨k, rfl, e⟩
    · cases h
  | src j => cases h
theorem ix_of {S : Sto} {w : W} {ts : List T} {i : Int} {t : T} {Q : VQ} (h : lstN S w = some ts) (e : atI ts i = some t) (q : Q (.im t) S) : ixP S w (.im (.int i)) Q := by
  rcases lstN_im h with ⟨us, rfl, rfl⟩ | ⟨k, rfl, hk⟩
  · exact ⟨t, e, q⟩
  · refine ⟨_, .im t, hk, ?_, q⟩
    unfold atI at e ⊢
    rw [List.length_map]
    cases h : ixN ts.length i with
    | none => rw [h] at e; cases e
    | some j =>
      rw [h] at e
      simp only [Option.bind_some, List.getElem?_map] at e ⊢
      rw [e]
      rfl
theorem lstOf_of {S : Sto} {w : W} {ts : List T} (h : lstN S w = some ts) : lstOf S w = some ts := by
  rcases lstN_im h with ⟨us, rfl, rfl⟩ | ⟨k, rfl, hk⟩
  · rfl
  · exact h
theorem seqOf_of {S : Sto} {w : W} {ts : List T} (h : lstN S w = some ts) : seqOf S w = some ts := by
  rcases lstN_im h with ⟨us, rfl, rfl⟩ | ⟨k, rfl, hk⟩
  · rfl
  · exact h
theorem sl_of {S : Sto} {w : W} {ts : List T} {l h : Option Int} {Q : VQ} (e : lstN S w = some ts) (q : Q (.im (.lst (cutT ts l h))) S) : slP S w l h Q := by
  rcases lstN_im e with ⟨us, rfl, rfl⟩ | ⟨k, rfl, hk⟩
  · rw [s_lst]; exact q
  · exact ⟨ts, e, q⟩
theorem does_normal_pieces : Does ir_normal_pieces nm_normal_pieces 1 sp_normal_pieces := by
  intro ws S Q X h
  unfold sp_normal_pieces at h
  split at h
  rotate_left
  · exact h.elim
  rename_i Sx Qx Xx w
  obtain ⟨l, hw, ⟨hn, hf⟩, hq⟩ := h
  refine ⟨rfl, ?_⟩
  cases l with
  | nil => exact absurd rfl hn
  | cons p ps =>
    have hz : sizeLine = 16777216 := rfl
    unfold few at hf
    simp only [List.length_cons] at hf
    simp only [ir_normal_pieces, nm_normal_pieces, wpCs, wpC, wpE, wpEs, wpI, p_nm, p_tup, p_lst, p_nil, p_cons, if_true, if_false, reduceIte, Bool.false_eq_true, startS, getS, setS, setAll, wipeS, List.map_cons, List.map_nil, List.length_cons, List.length_nil, List.cons_append, List.nil_append, List.append_nil, Nat.reduceAdd, Nat.reduceSub, Nat.zero_add, List.replicate_succ, List.replicate_zero, imAll, Option.map_some, Option.bind_some, exists_eq_left, exists_eq_left', Option.some.injEq, W.im.injEq, T.int.injEq, T.bl.injEq, T.str.injEq, T.tup.injEq, T.lst.injEq, w_bin, w_cmp, w_un, w_blt, w_attr, w_ix, w_sl0, w_sl1, w_sl2, w_rev, w_tup, w_lst, w_nlst, b_addI, b_addS, b_addT, b_addL, b_subI, b_mulI, b_divI, b_modI, b_powI, c_lt, c_le, c_gt, c_ge, c_is, c_isn, c_eqI, c_neI, c_eqB, c_neB, c_eqS, c_neS, c_eqN, c_in, c_nin, n_intI, n_non, u_neg, i_len, i_abs, i_min, i_max, i_intI, i_intB, i_tuple, i_list, i_all, i_any, i_isi, i_sorted, i_max1, i_min1, x_lst, x_tup, x_scr, x_mr, s_tup, s_lst, q_lst, q_tup, q_scr, l_lst, l_scr, ln_lst, k_lst, k_tup, k_scr, k_str, j_ty, j_cls, j_tup, m_app, m_ext, e_set, r_app, r_ext, a_fn, stabW, true_and, and_true]
    refine ix_of hw at0 ?_
    simp only [u_begun, wpCs, wpC, wpE, wpEs, wpI, p_nm, p_tup, p_lst, p_nil, p_cons, if_true, if_false, reduceIte, Bool.false_eq_true, startS, getS, setS, setAll, wipeS, List.map_cons, List.map_nil, List.length_cons, List.length_nil, List.cons_append, List.nil_append, List.append_nil, Nat.reduceAdd, Nat.reduceSub, Nat.zero_add, List.replicate_succ, List.replicate_zero, imAll, Option.map_some, Option.bind_some, exists_eq_left, exists_eq_left', Option.some.injEq, W.im.injEq, T.int.injEq, T.bl.injEq, T.str.injEq, T.tup.injEq, T.lst.injEq, w_bin, w_cmp, w_un, w_blt, w_attr, w_ix, w_sl0, w_sl1, w_sl2, w_rev, w_tup, w_lst, w_nlst, b_addI, b_addS, b_addT, b_addL, b_subI, b_mulI, b_divI, b_modI, b_powI, c_lt, c_le, c_gt, c_ge, c_is, c_isn, c_eqI, c_neI, c_eqB, c_neB, c_eqS, c_neS, c_eqN, c_in, c_nin, n_intI, n_non, u_neg, i_len, i_abs, i_min, i_max, i_intI, i_intB, i_tuple, i_list, i_all, i_any, i_isi, i_sorted, i_max1, i_min1, x_lst, x_tup, x_scr, x_mr, s_tup, s_lst, q_lst, q_tup, q_scr, l_lst, l_scr, ln_lst, k_lst, k_tup, k_scr, k_str, j_ty, j_cls, j_tup, m_app, m_ext, e_set, r_app, r_ext, a_fn, stabW, true_and, and_true]
    refine ⟨by decide, ?_⟩
    refine sl_of hw ?_
    rw [List.map_cons, cut1]
    simp only [wpCs, wpC, wpE, wpEs, wpI, p_nm, p_tup, p_lst, p_nil, p_cons, if_true, if_false, reduceIte, Bool.false_eq_true, startS, getS, setS, setAll, wipeS, List.map_cons, List.map_nil, List.length_cons, List.length_nil, List.cons_append, List.nil_append, List.append_nil, Nat.reduceAdd, Nat.reduceSub, Nat.zero_add, List.replicate_succ, List.replicate_zero, imAll, Option.map_some, Option.bind_some, exists_eq_left, exists_eq_left', Option.some.injEq, W.im.injEq, T.int.injEq, T.bl.injEq, T.str.injEq, T.tup.injEq, T.lst.injEq, w_bin, w_cmp, w_un, w_blt, w_attr, w_ix, w_sl0, w_sl1, w_sl2, w_rev, w_tup, w_lst, w_nlst, b_addI, b_addS, b_addT, b_addL, b_subI, b_mulI, b_divI, b_modI, b_powI, c_lt, c_le, c_gt, c_ge, c_is, c_isn, c_eqI, c_neI, c_eqB, c_neB, c_eqS, c_neS, c_eqN, c_in, c_nin, n_intI, n_non, u_neg, i_len, i_abs, i_min, i_max, i_intI, i_intB, i_tuple, i_list, i_all, i_any, i_isi, i_sorted, i_max1, i_min1, x_lst, x_tup, x_scr, x_mr, s_tup, s_lst, q_lst, q_tup, q_scr, l_lst, l_scr, ln_lst, k_lst, k_tup, k_scr, k_str, j_ty, j_cls, j_tup, m_app, m_ext, e_set, r_app, r_ext, a_fn, stabW, true_and, and_true]
    refine norm_loop trivial ps [begun p] none none none (by simp) (by simp; omega) fun x2 x3 x4 => ?_
    simp only [wpCs, wpC, wpE, wpEs, wpI, p_nm, p_tup, p_lst, p_nil, p_cons, if_true, if_false, reduceIte, Bool.false_eq_true, startS, getS, setS, setAll, wipeS, List.map_cons, List.map_nil, List.length_cons, List.length_nil, List.cons_append, List.nil_append, List.append_nil, Nat.reduceAdd, Nat.reduceSub, Nat.zero_add, List.replicate_succ, List.replicate_zero, imAll, Option.map_some, Option.bind_some, exists_eq_left, exists_eq_left', Option.some.injEq, W.im.injEq, T.int.injEq, T.bl.injEq, T.str.injEq, T.tup.injEq, T.lst.injEq, w_bin, w_cmp, w_un, w_blt, w_attr, w_ix, w_sl0, w_sl1, w_sl2, w_rev, w_tup, w_lst, w_nlst, b_addI, b_addS, b_addT, b_addL, b_subI, b_mulI, b_divI, b_modI, b_powI, c_lt, c_le, c_gt, c_ge, c_is, c_isn, c_eqI, c_neI, c_eqB, c_neB, c_eqS, c_neS, c_eqN, c_in, c_nin, n_intI, n_non, u_neg, i_len, i_abs, i_min, i_max, i_intI, i_intB, i_tuple, i_list, i_all, i_any, i_isi, i_sorted, i_max1, i_min1, x_lst, x_tup, x_scr, x_mr, s_tup, s_lst, q_lst, q_tup, q_scr, l_lst, l_scr, ln_lst, k_lst, k_tup, k_scr, k_str, j_ty, j_cls, j_tup, m_app, m_ext, e_set, r_app, r_ext, a_fn, stabW, true_and, and_true]
    have rl := runs_len ps [begun p] (by simp)
    simp only [List.length_cons, List.length_nil] at rl
    refine lc_map (α := Rn) Rn.t (fun r => (Rn.pc r).t) (fun _ _ _ _ h => h) trivial (ps.foldl addRun [begun p]) [] _ ?_ (fun r _ R hR => ?_) ?_
    · simp only [List.length_nil]
      omega
    · obtain ⟨b, f, st, e⟩ := r
      simp only [Rn.t, wpCs, wpC, wpE, wpEs, wpI, p_nm, p_tup, p_lst, p_nil, p_cons, if_true, if_false, reduceIte, Bool.false_eq_true, startS, getS, setS, setAll, wipeS, List.map_cons, List.map_nil, List.length_cons, List.length_nil, List.cons_append, List.nil_append, List.append_nil, Nat.reduceAdd, Nat.reduceSub, Nat.zero_add, List.replicate_succ, List.replicate_zero, imAll, Option.map_some, Option.bind_some, exists_eq_left, exists_eq_left', Option.some.injEq, W.im.injEq, T.int.injEq, T.bl.injEq, T.str.injEq, T.tup.injEq, T.lst.injEq, w_bin, w_cmp, w_un, w_blt, w_attr, w_ix, w_sl0, w_sl1, w_sl2, w_rev, w_tup, w_lst, w_nlst, b_addI, b_addS, b_addT, b_addL, b_subI, b_mulI, b_divI, b_modI, b_powI, c_lt, c_le, c_gt, c_ge, c_is, c_isn, c_eqI, c_neI, c_eqB, c_neB, c_eqS, c_neS, c_eqN, c_in, c_nin, n_intI, n_non, u_neg, i_len, i_abs, i_min, i_max, i_intI, i_intB, i_tuple, i_list, i_all, i_any, i_isi, i_sorted, i_max1, i_min1, x_lst, x_tup, x_scr, x_mr, s_tup, s_lst, q_lst, q_tup, q_scr, l_lst, l_scr, ln_lst, k_lst, k_tup, k_scr, k_str, j_ty, j_cls, j_tup, m_app, m_ext, e_set, r_app, r_ext, a_fn, stabW, true_and, and_true]
      cases st with
      | none =>
        simp only [stT, wpCs, wpC, wpE, wpEs, wpI, p_nm, p_tup, p_lst, p_nil, p_cons, if_true, if_false, reduceIte, Bool.false_eq_true, startS, getS, setS, setAll, wipeS, List.map_cons, List.map_nil, List.length_cons, List.length_nil, List.cons_append, List.nil_append, List.append_nil, Nat.reduceAdd, Nat.reduceSub, Nat.zero_add, List.replicate_succ, List.replicate_zero, imAll, Option.map_some, Option.bind_some, exists_eq_left, exists_eq_left', Option.some.injEq, W.im.injEq, T.int.injEq, T.bl.injEq, T.str.injEq, T.tup.injEq, T.lst.injEq, w_bin, w_cmp, w_un, w_blt, w_attr, w_ix, w_sl0, w_sl1, w_sl2, w_rev, w_tup, w_lst, w_nlst, b_addI, b_addS, b_addT, b_addL, b_subI, b_mulI, b_divI, b_modI, b_powI, c_lt, c_le, c_gt, c_ge, c_is, c_isn, c_eqI, c_neI, c_eqB, c_neB, c_eqS, c_neS, c_eqN, c_in, c_nin, n_intI, n_non, u_neg, i_len, i_abs, i_min, i_max, i_intI, i_intB, i_tuple, i_list, i_all, i_any, i_isi, i_sorted, i_max1, i_min1, x_lst, x_tup, x_scr, x_mr, s_tup, s_lst, q_lst, q_tup, q_scr, l_lst, l_scr, ln_lst, k_lst, k_tup, k_scr, k_str, j_ty, j_cls, j_tup, m_app, m_ext, e_set, r_app, r_ext, a_fn, stabW, true_and, and_true]
        exact ⟨by decide, hR⟩
      | some i =>
        simp only [stT, wpCs, wpC, wpE, wpEs, wpI, p_nm, p_tup, p_lst, p_nil, p_cons, if_true, if_false, reduceIte, Bool.false_eq_true, startS, getS, setS, setAll, wipeS, List.map_cons, List.map_nil, List.length_cons, List.length_nil, List.cons_append, List.nil_append, List.append_nil, Nat.reduceAdd, Nat.reduceSub, Nat.zero_add, List.replicate_succ, List.replicate_zero, imAll, Option.map_some, Option.bind_some, exists_eq_left, exists_eq_left', Option.some.injEq, W.im.injEq, T.int.injEq, T.bl.injEq, T.str.injEq, T.tup.injEq, T.lst.injEq, w_bin, w_cmp, w_un, w_blt, w_attr, w_ix, w_sl0, w_sl1, w_sl2, w_rev, w_tup, w_lst, w_nlst, b_addI, b_addS, b_addT, b_addL, b_subI, b_mulI, b_divI, b_modI, b_powI, c_lt, c_le, c_gt, c_ge, c_is, c_isn, c_eqI, c_neI, c_eqB, c_neB, c_eqS, c_neS, c_eqN, c_in, c_nin, n_intI, n_non, u_neg, i_len, i_abs, i_min, i_max, i_intI, i_intB, i_tuple, i_list, i_all, i_any, i_isi, i_sorted, i_max1, i_min1, x_lst, x_tup, x_scr, x_mr, s_tup, s_lst, q_lst, q_tup, q_scr, l_lst, l_scr, ln_lst, k_lst, k_tup, k_scr, k_str, j_ty, j_cls, j_tup, m_app, m_ext, e_set, r_app, r_ext, a_fn, stabW, true_and, and_true]
        refine ⟨by decide, ?_⟩
        have : decide (i = 1) = decide (some i = some (1 : Int)) := by simp
        rw [this]
        exact hR
    · refine rt_im ?_
      have hq : Q (.im (.tup (((ps.foldl addRun [begun p]).map Rn.pc).map Pc.t))) S := hq
      rw [List.map_map] at hq
      exact hq
theorem enum_map {α : Type} (g : α → T) (xs : List α) : ((xs.map g).zipIdx.map fun p => T.tup [.int (p.2 : Int), p.1]) = xs.zipIdx.map fun q => T.tup [.int (q.2 : Int), g q.1] := by
  rw [List.zipIdx_map, List.map_map]
  rfl
def stAt (top : Int) (l : List Pc) (i : Nat) : Int := (l.map Pc.s ++ [top + 1]).getD i 0
theorem parts_zip (top : Int) : ∀ (l pre : List Pc), (l.zipIdx pre.length).map (fun q => (⟨q.1.s, stAt top (pre ++ l) (q.2 + 1) - 1, q.1.f, q.1.r⟩ : Pt)) = partsOf top l
  | [], pre => rfl
  | [a], pre => by
    simp only [List.zipIdx_cons, List.zipIdx_nil, List.map_cons, List.map_nil, partsOf, List.cons.injEq, and_true, Pt.mk.injEq, true_and]
    simp [stAt, List.getD]
  | a :: b :: r, pre => by
    rw [List.zipIdx_cons, List.map_cons, partsOf]
    congr 1
    · simp [stAt, List.getD]
    · have := parts_zip top (b :: r) (pre ++ [a])
      rw [← this]
      simp
theorem partsOf_len (top : Int) : ∀ l : List Pc, (partsOf top l).length = l.length
  | [] => rfl
  | [a] => rfl
  | a :: b :: r => by
    show (partsOf top (b :: r)).length + 1 = (r.length + 1) + 1
    rw [partsOf_len top (b :: r)]
    rfl
theorem atI_nat {α : Type} {l : List α} {i : Nat} {x : α} (h : l[i]? = some x) : atI l (i : Int) = some x := by
  have hi := (List.getElem?_eq_some_iff.mp h).1
  unfold atI ixN
  rw [if_pos (by omega), if_pos (by omega)]
  simpa using h
theorem st_at (top : Int) (l : List Pc) (i : Nat) (h : i < l.length) : atI (l.map (fun p => T.int p.s) ++ [.int (top + 1)]) ((i : Int) + 1) = some (.int (stAt top l (i + 1))) := by
  have e : (i : Int) + 1 = ((i + 1 : Nat) : Int) := by omega
  rw [e]
  refine atI_nat ?_
  have e2 : l.map (fun p => T.int p.s) ++ [.int (top + 1)] = (l.map Pc.s ++ [top + 1]).map T.int := by simp
  have hi : i + 1 < (l.map Pc.s ++ [top + 1]).length := by simp; omega
  rw [e2, List.getElem?_map, List.getElem?_eq_getElem hi, stAt, List.getD, List.getElem?_eq_getElem hi]
  rfl
theorem zip_mem {α : Type} {l : List α} {q : α × Nat} (h : q ∈ l.zipIdx) : q.2 < l.length := by
  have := List.mem_zipIdx h
  omega
theorem parts_core {S : Sto} {Q : VQ} {X : XQ} {top : Int} {l : List Pc} {ρ0 : SE} {R : VQ} (hq : Q (.im (.lst ((partsOf top l).map Pt.t))) S) : Q (.im (.lst (l.zipIdx.map fun q => Pt.t ⟨q.1.s, stAt top l (q.2 + 1) - 1, q.1.f, q.1.r⟩))) S := by
  have := parts_zip top l []
  simp only [List.length_nil, List.nil_append] at this
  rw [← this, List.map_map] at hq
  exact hq
theorem does_raw_parts : Does ir_raw_parts nm_raw_parts 2 sp_raw_parts := does2 fun a b top l S Q X ha hb hp hq => by
  obtain rfl := exInt _ _ ha
  have hf := few_sz hp
  have key : ∀ (w : T), (seqOf S (.im w) = some (l.map Pc.t)) → wpCs ir_raw_parts (startS nm_raw_parts [.im (.int top), .im w]) S (exitP S Q X) := by
    intro w hw
    simp only [ir_raw_parts, nm_raw_parts, hw, wpCs, wpC, wpE, wpEs, wpI, p_nm, p_tup, p_lst, p_nil, p_cons, if_true, if_false, reduceIte, Bool.false_eq_true, startS, getS, setS, setAll, wipeS, List.map_cons, List.map_nil, List.length_cons, List.length_nil, List.cons_append, List.nil_append, List.append_nil, Nat.reduceAdd, Nat.reduceSub, Nat.zero_add, List.replicate_succ, List.replicate_zero, imAll, Option.map_some, Option.bind_some, exists_eq_left, exists_eq_left', Option.some.injEq, W.im.injEq, T.int.injEq, T.bl.injEq, T.str.injEq, T.tup.injEq, T.lst.injEq, w_bin, w_cmp, w_un, w_blt, w_attr, w_ix, w_sl0, w_sl1, w_sl2, w_rev, w_tup, w_lst, w_nlst, b_addI, b_addS, b_addT, b_addL, b_subI, b_mulI, b_divI, b_modI, b_powI, c_lt, c_le, c_gt, c_ge, c_is, c_isn, c_eqI, c_neI, c_eqB, c_neB, c_eqS, c_neS, c_eqN, c_in, c_nin, n_intI, n_non, u_neg, i_len, i_abs, i_min, i_max, i_intI, i_intB, i_tuple, i_list, i_all, i_any, i_isi, i_sorted, i_max1, i_min1, x_lst, x_tup, x_scr, x_mr, s_tup, s_lst, q_lst, q_tup, q_scr, l_lst, l_scr, ln_lst, k_lst, k_tup, k_scr, k_str, j_ty, j_cls, j_tup, m_app, m_ext, e_set, r_app, r_ext, a_fn, stabW, true_and, and_true]
    refine lc_map (α := Pc) Pc.t (fun p => .int p.s) (fun _ _ _ _ h => h) (by cases w <;> trivial) l [] _ (by simp; omega) (fun p _ R hR => ?_) ?_
    · simp only [Pc.t, at0, wpCs, wpC, wpE, wpEs, wpI, p_nm, p_tup, p_lst, p_nil, p_cons, if_true, if_false, reduceIte, Bool.false_eq_true, startS, getS, setS, setAll, wipeS, List.map_cons, List.map_nil, List.length_cons, List.length_nil, List.cons_append, List.nil_append, List.append_nil, Nat.reduceAdd, Nat.reduceSub, Nat.zero_add, List.replicate_succ, List.replicate_zero, imAll, Option.map_some, Option.bind_some, exists_eq_left, exists_eq_left', Option.some.injEq, W.im.injEq, T.int.injEq, T.bl.injEq, T.str.injEq, T.tup.injEq, T.lst.injEq, w_bin, w_cmp, w_un, w_blt, w_attr, w_ix, w_sl0, w_sl1, w_sl2, w_rev, w_tup, w_lst, w_nlst, b_addI, b_addS, b_addT, b_addL, b_subI, b_mulI, b_divI, b_modI, b_powI, c_lt, c_le, c_gt, c_ge, c_is, c_isn, c_eqI, c_neI, c_eqB, c_neB, c_eqS, c_neS, c_eqN, c_in, c_nin, n_intI, n_non, u_neg, i_len, i_abs, i_min, i_max, i_intI, i_intB, i_tuple, i_list, i_all, i_any, i_isi, i_sorted, i_max1, i_min1, x_lst, x_tup, x_scr, x_mr, s_tup, s_lst, q_lst, q_tup, q_scr, l_lst, l_scr, ln_lst, k_lst, k_tup, k_scr, k_str, j_ty, j_cls, j_tup, m_app, m_ext, e_set, r_app, r_ext, a_fn, stabW, true_and, and_true]
      exact hR
    · simp only [List.nil_append, wpCs, wpC, wpE, wpEs, wpI, p_nm, p_tup, p_lst, p_nil, p_cons, if_true, if_false, reduceIte, Bool.false_eq_true, startS, getS, setS, setAll, wipeS, List.map_cons, List.map_nil, List.length_cons, List.length_nil, List.cons_append, List.nil_append, List.append_nil, Nat.reduceAdd, Nat.reduceSub, Nat.zero_add, List.replicate_succ, List.replicate_zero, imAll, Option.map_some, Option.bind_some, exists_eq_left, exists_eq_left', Option.some.injEq, W.im.injEq, T.int.injEq, T.bl.injEq, T.str.injEq, T.tup.injEq, T.lst.injEq, w_bin, w_cmp, w_un, w_blt, w_attr, w_ix, w_sl0, w_sl1, w_sl2, w_rev, w_tup, w_lst, w_nlst, b_addI, b_addS, b_addT, b_addL, b_subI, b_mulI, b_divI, b_modI, b_powI, c_lt, c_le, c_gt, c_ge, c_is, c_isn, c_eqI, c_neI, c_eqB, c_neB, c_eqS, c_neS, c_eqN, c_in, c_nin, n_intI, n_non, u_neg, i_len, i_abs, i_min, i_max, i_intI, i_intB, i_tuple, i_list, i_all, i_any, i_isi, i_sorted, i_max1, i_min1, x_lst, x_tup, x_scr, x_mr, s_tup, s_lst, q_lst, q_tup, q_scr, l_lst, l_scr, ln_lst, k_lst, k_tup, k_scr, k_str, j_ty, j_cls, j_tup, m_app, m_ext, e_set, r_app, r_ext, a_fn, stabW, true_and, and_true]
      refine ⟨by decide, by simp; omega, ?_⟩
      rw [hw]
      simp only [wpCs, wpC, wpE, wpEs, wpI, p_nm, p_tup, p_lst, p_nil, p_cons, if_true, if_false, reduceIte, Bool.false_eq_true, startS, getS, setS, setAll, wipeS, List.map_cons, List.map_nil, List.length_cons, List.length_nil, List.cons_append, List.nil_append, List.append_nil, Nat.reduceAdd, Nat.reduceSub, Nat.zero_add, List.replicate_succ, List.replicate_zero, imAll, Option.map_some, Option.bind_some, exists_eq_left, exists_eq_left', Option.some.injEq, W.im.injEq, T.int.injEq, T.bl.injEq, T.str.injEq, T.tup.injEq, T.lst.injEq, w_bin, w_cmp, w_un, w_blt, w_attr, w_ix, w_sl0, w_sl1, w_sl2, w_rev, w_tup, w_lst, w_nlst, b_addI, b_addS, b_addT, b_addL, b_subI, b_mulI, b_divI, b_modI, b_powI, c_lt, c_le, c_gt, c_ge, c_is, c_isn, c_eqI, c_neI, c_eqB, c_neB, c_eqS, c_neS, c_eqN, c_in, c_nin, n_intI, n_non, u_neg, i_len, i_abs, i_min, i_max, i_intI, i_intB, i_tuple, i_list, i_all, i_any, i_isi, i_sorted, i_max1, i_min1, x_lst, x_tup, x_scr, x_mr, s_tup, s_lst, q_lst, q_tup, q_scr, l_lst, l_scr, ln_lst, k_lst, k_tup, k_scr, k_str, j_ty, j_cls, j_tup, m_app, m_ext, e_set, r_app, r_ext, a_fn, stabW, true_and, and_true, enum_map]
      refine lc_map (α := Pc × Nat) (fun q => T.tup [.int (q.2 : Int), q.1.t]) (fun q => Pt.t ⟨q.1.s, stAt top l (q.2 + 1) - 1, q.1.f, q.1.r⟩) (fun _ _ _ _ h => h) (by cases w <;> trivial) l.zipIdx [] _ (by simp; omega) (fun q hqm R hR => ?_) ?_
      · simp only [Pc.t, u_mkPart, st_at top l q.2 (zip_mem hqm), wpCs, wpC, wpE, wpEs, wpI, p_nm, p_tup, p_lst, p_nil, p_cons, if_true, if_false, reduceIte, Bool.false_eq_true, startS, getS, setS, setAll, wipeS, List.map_cons, List.map_nil, List.length_cons, List.length_nil, List.cons_append, List.nil_append, List.append_nil, Nat.reduceAdd, Nat.reduceSub, Nat.zero_add, List.replicate_succ, List.replicate_zero, imAll, Option.map_some, Option.bind_some, exists_eq_left, exists_eq_left', Option.some.injEq, W.im.injEq, T.int.injEq, T.bl.injEq, T.str.injEq, T.tup.injEq, T.lst.injEq, w_bin, w_cmp, w_un, w_blt, w_attr, w_ix, w_sl0, w_sl1, w_sl2, w_rev, w_tup, w_lst, w_nlst, b_addI, b_addS, b_addT, b_addL, b_subI, b_mulI, b_divI, b_modI, b_powI, c_lt, c_le, c_gt, c_ge, c_is, c_isn, c_eqI, c_neI, c_eqB, c_neB, c_eqS, c_neS, c_eqN, c_in, c_nin, n_intI, n_non, u_neg, i_len, i_abs, i_min, i_max, i_intI, i_intB, i_tuple, i_list, i_all, i_any, i_isi, i_sorted, i_max1, i_min1, x_lst, x_tup, x_scr, x_mr, s_tup, s_lst, q_lst, q_tup, q_scr, l_lst, l_scr, ln_lst, k_lst, k_tup, k_scr, k_str, j_ty, j_cls, j_tup, m_app, m_ext, e_set, r_app, r_ext, a_fn, stabW, true_and, and_true]
        exact hR
      · refine rt_im ?_
        exact parts_core (X := X) (R := Q) (ρ0 := []) hq
  cases b <;> first
    | (cases hb; done)
    | (have e := decs_ex exPc hb; exact key _ (by rw [e]; rfl))
theorem does_parts_of : Does ir_parts_of nm_parts_of 1 sp_parts_of := does1 fun a p S Q X ha hp hq => by
  obtain rfl := exPs _ _ ha
  have hf := few_sz hp
  show wpCs _ (startS _ [.im p.t]) _ _
  simp only [ir_parts_of, nm_parts_of, at_pcs, at_top, wpCs, wpC, wpE, wpEs, wpI, p_nm, p_tup, p_lst, p_nil, p_cons, if_true, if_false, reduceIte, Bool.false_eq_true, startS, getS, setS, setAll, wipeS, List.map_cons, List.map_nil, List.length_cons, List.length_nil, List.cons_append, List.nil_append, List.append_nil, Nat.reduceAdd, Nat.reduceSub, Nat.zero_add, List.replicate_succ, List.replicate_zero, imAll, Option.map_some, Option.bind_some, exists_eq_left, exists_eq_left', Option.some.injEq, W.im.injEq, T.int.injEq, T.bl.injEq, T.str.injEq, T.tup.injEq, T.lst.injEq, w_bin, w_cmp, w_un, w_blt, w_attr, w_ix, w_sl0, w_sl1, w_sl2, w_rev, w_tup, w_lst, w_nlst, b_addI, b_addS, b_addT, b_addL, b_subI, b_mulI, b_divI, b_modI, b_powI, c_lt, c_le, c_gt, c_ge, c_is, c_isn, c_eqI, c_neI, c_eqB, c_neB, c_eqS, c_neS, c_eqN, c_in, c_nin, n_intI, n_non, u_neg, i_len, i_abs, i_min, i_max, i_intI, i_intB, i_tuple, i_list, i_all, i_any, i_isi, i_sorted, i_max1, i_min1, x_lst, x_tup, x_scr, x_mr, s_tup, s_lst, q_lst, q_tup, q_scr, l_lst, l_scr, ln_lst, k_lst, k_tup, k_scr, k_str, j_ty, j_cls, j_tup, m_app, m_ext, e_set, r_app, r_ext, a_fn, stabW, true_and, and_true]
  refine lc_map (α := Pc) Pc.t (fun p => .int p.s) (fun _ _ _ _ h => h) trivial p.pcs [] _ (by simp; omega) (fun c _ R hR => ?_) ?_
  · simp only [Pc.t, at0, wpCs, wpC, wpE, wpEs, wpI, p_nm, p_tup, p_lst, p_nil, p_cons, if_true, if_false, reduceIte, Bool.false_eq_true, startS, getS, setS, setAll, wipeS, List.map_cons, List.map_nil, List.length_cons, List.length_nil, List.cons_append, List.nil_append, List.append_nil, Nat.reduceAdd, Nat.reduceSub, Nat.zero_add, List.replicate_succ, List.replicate_zero, imAll, Option.map_some, Option.bind_some, exists_eq_left, exists_eq_left', Option.some.injEq, W.im.injEq, T.int.injEq, T.bl.injEq, T.str.injEq, T.tup.injEq, T.lst.injEq, w_bin, w_cmp, w_un, w_blt, w_attr, w_ix, w_sl0, w_sl1, w_sl2, w_rev, w_tup, w_lst, w_nlst, b_addI, b_addS, b_addT, b_addL, b_subI, b_mulI, b_divI, b_modI, b_powI, c_lt, c_le, c_gt, c_ge, c_is, c_isn, c_eqI, c_neI, c_eqB, c_neB, c_eqS, c_neS, c_eqN, c_in, c_nin, n_intI, n_non, u_neg, i_len, i_abs, i_min, i_max, i_intI, i_intB, i_tuple, i_list, i_all, i_any, i_isi, i_sorted, i_max1, i_min1, x_lst, x_tup, x_scr, x_mr, s_tup, s_lst, q_lst, q_tup, q_scr, l_lst, l_scr, ln_lst, k_lst, k_tup, k_scr, k_str, j_ty, j_cls, j_tup, m_app, m_ext, e_set, r_app, r_ext, a_fn, stabW, true_and, and_true]
    exact hR
  · simp only [List.nil_append, wpCs, wpC, wpE, wpEs, wpI, p_nm, p_tup, p_lst, p_nil, p_cons, if_true, if_false, reduceIte, Bool.false_eq_true, startS, getS, setS, setAll, wipeS, List.map_cons, List.map_nil, List.length_cons, List.length_nil, List.cons_append, List.nil_append, List.append_nil, Nat.reduceAdd, Nat.reduceSub, Nat.zero_add, List.replicate_succ, List.replicate_zero, imAll, Option.map_some, Option.bind_some, exists_eq_left, exists_eq_left', Option.some.injEq, W.im.injEq, T.int.injEq, T.bl.injEq, T.str.injEq, T.tup.injEq, T.lst.injEq, w_bin, w_cmp, w_un, w_blt, w_attr, w_ix, w_sl0, w_sl1, w_sl2, w_rev, w_tup, w_lst, w_nlst, b_addI, b_addS, b_addT, b_addL, b_subI, b_mulI, b_divI, b_modI, b_powI, c_lt, c_le, c_gt, c_ge, c_is, c_isn, c_eqI, c_neI, c_eqB, c_neB, c_eqS, c_neS, c_eqN, c_in, c_nin, n_intI, n_non, u_neg, i_len, i_abs, i_min, i_max, i_intI, i_intB, i_tuple, i_list, i_all, i_any, i_isi, i_sorted, i_max1, i_min1, x_lst, x_tup, x_scr, x_mr, s_tup, s_lst, q_lst, q_tup, q_scr, l_lst, l_scr, ln_lst, k_lst, k_tup, k_scr, k_str, j_ty, j_cls, j_tup, m_app, m_ext, e_set, r_app, r_ext, a_fn, stabW, true_and, and_true]
    refine ⟨by decide, by simp; omega, ?_⟩
    simp only [wpCs, wpC, wpE, wpEs, wpI, p_nm, p_tup, p_lst, p_nil, p_cons, if_true, if_false, reduceIte, Bool.false_eq_true, startS, getS, setS, setAll, wipeS, List.map_cons, List.map_nil, List.length_cons, List.length_nil, List.cons_append, List.nil_append, List.append_nil, Nat.reduceAdd, Nat.reduceSub, Nat.zero_add, List.replicate_succ, List.replicate_zero, imAll, Option.map_some, Option.bind_some, exists_eq_left, exists_eq_left', Option.some.injEq, W.im.injEq, T.int.injEq, T.bl.injEq, T.str.injEq, T.tup.injEq, T.lst.injEq, w_bin, w_cmp, w_un, w_blt, w_attr, w_ix, w_sl0, w_sl1, w_sl2, w_rev, w_tup, w_lst, w_nlst, b_addI, b_addS, b_addT, b_addL, b_subI, b_mulI, b_divI, b_modI, b_powI, c_lt, c_le, c_gt, c_ge, c_is, c_isn, c_eqI, c_neI, c_eqB, c_neB, c_eqS, c_neS, c_eqN, c_in, c_nin, n_intI, n_non, u_neg, i_len, i_abs, i_min, i_max, i_intI, i_intB, i_tuple, i_list, i_all, i_any, i_isi, i_sorted, i_max1, i_min1, x_lst, x_tup, x_scr, x_mr, s_tup, s_lst, q_lst, q_tup, q_scr, l_lst, l_scr, ln_lst, k_lst, k_tup, k_scr, k_str, j_ty, j_cls, j_tup, m_app, m_ext, e_set, r_app, r_ext, a_fn, stabW, true_and, and_true, at_pcs, enum_map]
    refine lc_map (α := Pc × Nat) (fun q => T.tup [.int (q.2 : Int), q.1.t]) (fun q => Pt.t ⟨q.1.s, stAt p.top p.pcs (q.2 + 1) - 1, q.1.f, q.1.r⟩) (fun _ _ _ _ h => h) trivial p.pcs.zipIdx [] _ (by simp; omega) (fun q hqm R hR => ?_) ?_
    · simp only [Pc.t, u_mkPart, st_at p.top p.pcs q.2 (zip_mem hqm), wpCs, wpC, wpE, wpEs, wpI, p_nm, p_tup, p_lst, p_nil, p_cons, if_true, if_false, reduceIte, Bool.false_eq_true, startS, getS, setS, setAll, wipeS, List.map_cons, List.map_nil, List.length_cons, List.length_nil, List.cons_append, List.nil_append, List.append_nil, Nat.reduceAdd, Nat.reduceSub, Nat.zero_add, List.replicate_succ, List.replicate_zero, imAll, Option.map_some, Option.bind_some, exists_eq_left, exists_eq_left', Option.some.injEq, W.im.injEq, T.int.injEq, T.bl.injEq, T.str.injEq, T.tup.injEq, T.lst.injEq, w_bin, w_cmp, w_un, w_blt, w_attr, w_ix, w_sl0, w_sl1, w_sl2, w_rev, w_tup, w_lst, w_nlst, b_addI, b_addS, b_addT, b_addL, b_subI, b_mulI, b_divI, b_modI, b_powI, c_lt, c_le, c_gt, c_ge, c_is, c_isn, c_eqI, c_neI, c_eqB, c_neB, c_eqS, c_neS, c_eqN, c_in, c_nin, n_intI, n_non, u_neg, i_len, i_abs, i_min, i_max, i_intI, i_intB, i_tuple, i_list, i_all, i_any, i_isi, i_sorted, i_max1, i_min1, x_lst, x_tup, x_scr, x_mr, s_tup, s_lst, q_lst, q_tup, q_scr, l_lst, l_scr, ln_lst, k_lst, k_tup, k_scr, k_str, j_ty, j_cls, j_tup, m_app, m_ext, e_set, r_app, r_ext, a_fn, stabW, true_and, and_true]
      exact hR
    · refine rt_im ?_
      exact parts_core (X := X) (R := Q) (ρ0 := []) hq
theorem u_parts {p : Ps} {S : Sto} {Q : VQ} {X : XQ} : sp_parts_of [.im p.t] S Q X ↔ few p.pcs.length ∧ Q (.im (.lst ((partsOf p.top p.pcs).map Pt.t))) S := by
  have := tPs.ok p
  simp only [sp_parts_of, fsp1, tPs, tLst, tPt] at this ⊢
  simp [this]
theorem tag_Pc {p : Pc} : tagged p.t := rfl
theorem does_is_piece : Does ir_is_piece nm_is_piece 1 sp_is_piece := does1 fun a p S Q X ha hp hq => by
  obtain rfl := exPc _ _ ha
  show wpCs _ (startS _ [.im (.tup [.int p.s, .int p.f, .bl p.r])]) _ _
  have a1 : atI [T.int p.s, .int p.f, .bl p.r] 2 = some (.bl p.r) := rfl
  have a2 : atI [T.int p.s, .int p.f, .bl p.r] 1 = some (.int p.f) := rfl
  simp only [ir_is_piece, nm_is_piece, tagT, isiTag, at0, a1, a2, u_is_number, wpCs, wpC, wpE, wpEs, wpI, p_nm, p_tup, p_lst, p_nil, p_cons, if_true, if_false, reduceIte, Bool.false_eq_true, startS, getS, setS, setAll, wipeS, List.map_cons, List.map_nil, List.length_cons, List.length_nil, List.cons_append, List.nil_append, List.append_nil, Nat.reduceAdd, Nat.reduceSub, Nat.zero_add, List.replicate_succ, List.replicate_zero, imAll, Option.map_some, Option.bind_some, exists_eq_left, exists_eq_left', Option.some.injEq, W.im.injEq, T.int.injEq, T.bl.injEq, T.str.injEq, T.tup.injEq, T.lst.injEq, w_bin, w_cmp, w_un, w_blt, w_attr, w_ix, w_sl0, w_sl1, w_sl2, w_rev, w_tup, w_lst, w_nlst, b_addI, b_addS, b_addT, b_addL, b_subI, b_mulI, b_divI, b_modI, b_powI, c_lt, c_le, c_gt, c_ge, c_is, c_isn, c_eqI, c_neI, c_eqB, c_neB, c_eqS, c_neS, c_eqN, c_in, c_nin, n_intI, n_non, u_neg, i_len, i_abs, i_min, i_max, i_intI, i_intB, i_tuple, i_list, i_all, i_any, i_isi, i_sorted, i_max1, i_min1, x_lst, x_tup, x_scr, x_mr, s_tup, s_lst, q_lst, q_tup, q_scr, l_lst, l_scr, ln_lst, k_lst, k_tup, k_scr, k_str, j_ty, j_cls, j_tup, m_app, m_ext, e_set, r_app, r_ext, a_fn, stabW, true_and, and_true]
  have s3 : 3 ≤ sizeLine := by decide
  have hq : Q (.im (.bl (decide (0 ≤ p.s) && decide (0 ≤ p.f)))) S := hq
  simp [tys, s3, tagged, tagT, isNumT]
  by_cases h : 0 ≤ p.s
  · simp only [h, decide_true, Bool.true_and] at hq
    simp only [h, if_true]
    exact rt_im hq
  · simp only [h, decide_false, Bool.false_and] at hq
    simp only [h, if_false]
    exact rt_im hq
end TW

namespace TW
open PySem L2
def sp_Passage___init__ : Spec
  | [.mr k, .im (.int a), .im (.int b), .im w], S, Q, _ => S[k]? = some (.ins "Passage" [] []) ∧ ∃ l, tPcs.dec w = some l ∧ few l.length ∧ 0 ≤ a ∧ 0 ≤ b ∧ arePieces a b l = true ∧
      Q (.im .non) (S.set k (.ins "Passage" psNs [.im (.int a), .im (.int b), .im (.tup ((normal (partsOf a l)).map Pc.t))]))
  | _, _, _, _ => False
/-- the passage that is made of pieces -/
def mkPs (a b : Int) (l : List Pc) : Ps := ⟨a, b, normal (partsOf a l)⟩
def ps_are_pieces : List Str := ["top", "target", "value"]
def nm_are_pieces : List Str := ["top", "target", "value", "starts", "last", "at", "end", "piece", "start", "first", "rises", "one", "other"]
def bd_are_pieces_1 : Cs :=
  (.cons (.asg 6 (.ife (.pr (.cmp .Lt) (.cons (.pr (.bin .Add) (.cons (.var 5) (.cons (.con (.int 1)) .nil))) (.cons (.pr (.blt .len) (.cons (.var 3) .nil)) .nil))) (.pr (.bin .Sub) (.cons (.pr .ix (.cons (.var 3) (.cons (.pr (.bin .Add) (.cons (.var 5) (.cons (.con (.int 1)) .nil))) .nil))) (.cons (.con (.int 1)) .nil))) (.var 0)))
  (.cons (.ifs (.pr (.cmp .Lt) (.cons (.var 9) (.cons (.var 4) .nil))) (.cons (.ret (.con (.bl false))) .nil) .nil)
  (.cons (.asg 4 (.pr (.bin .Add) (.cons (.var 9) (.cons (.ife (.var 10) (.pr (.bin .Sub) (.cons (.var 6) (.cons (.var 8) .nil))) (.con (.int 0))) .nil)))) .nil)))
def ir_are_pieces : Cs :=
  (.cons (.ifs (.or (.not (.ap (.fn "is_sequence") sp_is_sequence (.cons (.var 2) .nil))) (.or (.pr (.cmp .Eq) (.cons (.pr (.blt .len) (.cons (.var 2) .nil)) (.cons (.con (.int 0)) .nil))) (.not (.pr (.blt .all1) (.cons (.lc (.ap (.fn "is_piece") sp_is_piece (.cons (.var 7) .nil)) (.nm 7) (.seq (.var 2)) .nil [7]) .nil))))) (.cons (.ret (.con (.bl false))) .nil) .nil)
  (.cons (.asg 3 (.lc (.pr .ix (.cons (.var 7) (.cons (.con (.int 0)) .nil))) (.nm 7) (.seq (.var 2)) .nil [7]))
  (.cons (.ifs (.or (.pr (.cmp .NotEq) (.cons (.pr .ix (.cons (.var 3) (.cons (.con (.int 0)) .nil))) (.cons (.con (.int 0)) .nil))) (.or (.pr (.cmp .Gt) (.cons (.pr .ix (.cons (.var 3) (.cons (.pr (.un .USub) (.cons (.con (.int 1)) .nil)) .nil))) (.cons (.var 0) .nil))) (.pr (.blt .any1) (.cons (.lc (.pr (.cmp .GtE) (.cons (.var 11) (.cons (.var 12) .nil))) (.tp (.cons (.nm 11) (.cons (.nm 12) .nil))) (.zip (.var 3) (.pr (.sl true false) (.cons (.var 3) (.cons (.con (.int 1)) .nil)))) .nil [11, 12]) .nil)))) (.cons (.ret (.con (.bl false))) .nil) .nil)
  (.cons (.asg 4 (.con (.int 0)))
  (.cons (.fo (.tp (.cons (.nm 5) (.cons (.tp (.cons (.nm 8) (.cons (.nm 9) (.cons (.nm 10) .nil)))) .nil))) (.enm (.var 2)) bd_are_pieces_1)
  (.cons (.ret (.pr (.cmp .LtE) (.cons (.var 4) (.cons (.var 1) .nil)))) .nil))))))
def ps_Passage___init__ : List Str := ["self", "top", "target", "pieces"]
def nm_Passage___init__ : List Str := ["self", "top", "target", "pieces"]
def ir_Passage___init__ : Cs :=
  (.cons (.ifs (.not (.ap (.fn "is_number") sp_is_number (.cons (.var 1) .nil))) (.cons .fail .nil) .nil)
  (.cons (.ifs (.not (.ap (.fn "is_number") sp_is_number (.cons (.var 2) .nil))) (.cons .fail .nil) .nil)
  (.cons (.ifs (.not (.ap (.fn "are_pieces") sp_are_pieces (.cons (.var 1) (.cons (.var 2) (.cons (.var 3) .nil))))) (.cons .fail .nil) .nil)
  (.cons (.setA "Passage" (.var 0) "top" (.var 1))
  (.cons (.setA "Passage" (.var 0) "target" (.var 2))
  (.cons (.setA "Passage" (.var 0) "pieces" (.ap (.fn "normal_pieces") sp_normal_pieces (.cons (.ap (.fn "raw_parts") sp_raw_parts (.cons (.var 1) (.cons (.var 3) .nil))) .nil))) .nil))))))
theorem bools_map : ∀ bs : List Bool, boolsT (bs.map T.bl) = some bs
  | [] => rfl
  | b :: bs => by simp [boolsT, bools_map bs]
theorem u_piece {p : Pc} {S : Sto} {Q : VQ} {X : XQ} : sp_is_piece [.im p.t] S Q X ↔ Q (.im (.bl (pieceOk p))) S := by
  have := tPc.ok p
  simp only [sp_is_piece, fsp1, tPc, tBl] at this ⊢
  simp [this]
/-- the loop -/
theorem ap_body {S : Sto} {K : Post} {top tgt last : Int} {w : T} {l : List Pc} {i : Nat} {p : Pc} {x5 x6 x7 x8 x9 x10 x11 x12 : Option W} (hi : l[i]? = some p)
    (hl : l.length ≤ sizeLine) (e : Int) (he : e = if i + 1 < l.length then (l.map Pc.s).getD (i + 1) 0 - 1 else top)
    (hr : p.f < last → K.rt (.im (.bl false)) S)
    (k : ¬ p.f < last → K.nx [some (.im (.int top)), some (.im (.int tgt)), some (.im w), some (.im (.lst (l.map fun p => T.int p.s))), some (.im (.int (p.f + if p.r = true then e - p.s else 0))), some (.im (.int (i : Int))), some (.im (.int e)), x7, some (.im (.int p.s)), some (.im (.int p.f)), some (.im (.bl p.r)), x11, x12] S) :
    wpCs bd_are_pieces_1 [some (.im (.int top)), some (.im (.int tgt)), some (.im w), some (.im (.lst (l.map fun p => T.int p.s))), some (.im (.int last)), some (.im (.int (i : Int))), x6, x7, some (.im (.int p.s)), some (.im (.int p.f)), some (.im (.bl p.r)), x11, x12] S K := by
  simp only [bd_are_pieces_1, wpCs, wpC, wpE, wpEs, wpI, p_nm, p_tup, p_lst, p_nil, p_cons, if_true, if_false, reduceIte, Bool.false_eq_true, startS, getS, setS, setAll, wipeS, List.map_cons, List.map_nil, List.length_cons, List.length_nil, List.cons_append, List.nil_append, List.append_nil, Nat.reduceAdd, Nat.reduceSub, Nat.zero_add, List.replicate_succ, List.replicate_zero, imAll, Option.map_some, Option.bind_some, exists_eq_left, exists_eq_left', Option.some.injEq, W.im.injEq, T.int.injEq, T.bl.injEq, T.str.injEq, T.tup.injEq, T.lst.injEq, w_bin, w_cmp, w_un, w_blt, w_attr, w_ix, w_sl0, w_sl1, w_sl2, w_rev, w_tup, w_lst, w_nlst, b_addI, b_addS, b_addT, b_addL, b_subI, b_mulI, b_divI, b_modI, b_powI, c_lt, c_le, c_gt, c_ge, c_is, c_isn, c_eqI, c_neI, c_eqB, c_neB, c_eqS, c_neS, c_eqN, c_in, c_nin, n_intI, n_non, u_neg, i_len, i_abs, i_min, i_max, i_intI, i_intB, i_tuple, i_list, i_all, i_any, i_isi, i_sorted, i_max1, i_min1, x_lst, x_tup, x_scr, x_mr, s_tup, s_lst, q_lst, q_tup, q_scr, l_lst, l_scr, ln_lst, k_lst, k_tup, k_scr, k_str, j_ty, j_cls, j_tup, m_app, m_ext, e_set, r_app, r_ext, a_fn, stabW, true_and, and_true]
  refine ⟨by simpa using hl, ?_⟩
  have hz : sizeLine = 16777216 := rfl
  by_cases h : i + 1 < l.length
  · rw [if_pos h] at he
    have h' : decide ((i : Int) + 1 < ((l.map fun p => T.int p.s).length : Int)) = true := by
      rw [decide_eq_true_eq, List.length_map]
      omega
    have hx : atI (l.map fun p => T.int p.s) ((i : Int) + 1) = some (.int ((l.map Pc.s).getD (i + 1) 0)) := by
      have e1 : (i : Int) + 1 = ((i + 1 : Nat) : Int) := by omega
      rw [e1]
      refine atI_nat ?_
      rw [List.getElem?_map, List.getElem?_eq_getElem h]
      simp [List.getD, List.getElem?_eq_getElem h]
    simp only [h', hx, wpCs, wpC, wpE, wpEs, wpI, p_nm, p_tup, p_lst, p_nil, p_cons, if_true, if_false, reduceIte, Bool.false_eq_true, startS, getS, setS, setAll, wipeS, List.map_cons, List.map_nil, List.length_cons, List.length_nil, List.cons_append, List.nil_append, List.append_nil, Nat.reduceAdd, Nat.reduceSub, Nat.zero_add, List.replicate_succ, List.replicate_zero, imAll, Option.map_some, Option.bind_some, exists_eq_left, exists_eq_left', Option.some.injEq, W.im.injEq, T.int.injEq, T.bl.injEq, T.str.injEq, T.tup.injEq, T.lst.injEq, w_bin, w_cmp, w_un, w_blt, w_attr, w_ix, w_sl0, w_sl1, w_sl2, w_rev, w_tup, w_lst, w_nlst, b_addI, b_addS, b_addT, b_addL, b_subI, b_mulI, b_divI, b_modI, b_powI, c_lt, c_le, c_gt, c_ge, c_is, c_isn, c_eqI, c_neI, c_eqB, c_neB, c_eqS, c_neS, c_eqN, c_in, c_nin, n_intI, n_non, u_neg, i_len, i_abs, i_min, i_max, i_intI, i_intB, i_tuple, i_list, i_all, i_any, i_isi, i_sorted, i_max1, i_min1, x_lst, x_tup, x_scr, x_mr, s_tup, s_lst, q_lst, q_tup, q_scr, l_lst, l_scr, ln_lst, k_lst, k_tup, k_scr, k_str, j_ty, j_cls, j_tup, m_app, m_ext, e_set, r_app, r_ext, a_fn, stabW, true_and, and_true]
    rw [← he]
    by_cases h2 : p.f < last
    · simp only [h2, decide_true, if_true]
      exact hr h2
    · simp only [h2, decide_false, Bool.false_eq_true, if_false]
      have k := k h2
      split
      · rename_i h3
        rw [if_pos h3] at k
        exact k
      · rename_i h3
        rw [if_neg h3] at k
        exact k
  · rw [if_neg h] at he
    subst he
    have h' : decide ((i : Int) + 1 < ((l.map fun p => T.int p.s).length : Int)) = false := by
      rw [decide_eq_false_iff_not, List.length_map]
      omega
    simp only [h', wpCs, wpC, wpE, wpEs, wpI, p_nm, p_tup, p_lst, p_nil, p_cons, if_true, if_false, reduceIte, Bool.false_eq_true, startS, getS, setS, setAll, wipeS, List.map_cons, List.map_nil, List.length_cons, List.length_nil, List.cons_append, List.nil_append, List.append_nil, Nat.reduceAdd, Nat.reduceSub, Nat.zero_add, List.replicate_succ, List.replicate_zero, imAll, Option.map_some, Option.bind_some, exists_eq_left, exists_eq_left', Option.some.injEq, W.im.injEq, T.int.injEq, T.bl.injEq, T.str.injEq, T.tup.injEq, T.lst.injEq, w_bin, w_cmp, w_un, w_blt, w_attr, w_ix, w_sl0, w_sl1, w_sl2, w_rev, w_tup, w_lst, w_nlst, b_addI, b_addS, b_addT, b_addL, b_subI, b_mulI, b_divI, b_modI, b_powI, c_lt, c_le, c_gt, c_ge, c_is, c_isn, c_eqI, c_neI, c_eqB, c_neB, c_eqS, c_neS, c_eqN, c_in, c_nin, n_intI, n_non, u_neg, i_len, i_abs, i_min, i_max, i_intI, i_intB, i_tuple, i_list, i_all, i_any, i_isi, i_sorted, i_max1, i_min1, x_lst, x_tup, x_scr, x_mr, s_tup, s_lst, q_lst, q_tup, q_scr, l_lst, l_scr, ln_lst, k_lst, k_tup, k_scr, k_str, j_ty, j_cls, j_tup, m_app, m_ext, e_set, r_app, r_ext, a_fn, stabW, true_and, and_true]
    by_cases h2 : p.f < last
    · simp only [h2, decide_true, if_true]
      exact hr h2
    · simp only [h2, decide_false, Bool.false_eq_true, if_false]
      have k := k h2
      split
      · rename_i h3
        rw [if_pos h3] at k
        exact k
      · rename_i h3
        rw [if_neg h3] at k
        exact k
def loopP (top : Int) : Int → List Pc → Option Int
  | last, [] => some last
  | last, a :: r => if a.f < last then none else loopP top (a.f + if a.r = true then endOf top r - a.s else 0) r
theorem chkP_eq {top tgt : Int} : ∀ {last : Int} {l : List Pc}, chkP top tgt last l = (match loopP top last l with | none => false | some z => decide (z ≤ tgt))
  | last, [] => rfl
  | last, a :: r => by
    unfold chkP loopP
    by_cases h : a.f < last
    · rw [if_pos h, if_pos h]
    · rw [if_neg h, if_neg h]
      exact chkP_eq
theorem ap_loop {S : Sto} {K : Post} {top tgt : Int} {w : T} {stab : Sto → Prop} (hs : stab S) {l : List Pc} {x11 x12 : Option W} (hl : l.length ≤ sizeLine) : ∀ (l2 pre : List Pc) (last : Int) (x5 x6 x7 x8 x9 x10 : Option W), l = pre ++ l2 →
    (loopP top last l2 = none → K.rt (.im (.bl false)) S) →
    (∀ z x5 x6 x7 x8 x9 x10, loopP top last l2 = some z → K.nx [some (.im (.int top)), some (.im (.int tgt)), some (.im w), some (.im (.lst (l.map fun p => T.int p.s))), some (.im (.int z)), x5, x6, x7, x8, x9, x10, x11, x12] S) →
    forW (wpCs bd_are_pieces_1) (.tp (.cons (.nm 5) (.cons (.tp (.cons (.nm 8) (.cons (.nm 9) (.cons (.nm 10) .nil)))) .nil))) stab ((l2.zipIdx pre.length).map fun q => T.tup [.int (q.2 : Int), q.1.t])
      [some (.im (.int top)), some (.im (.int tgt)), some (.im w), some (.im (.lst (l.map fun p => T.int p.s))), some (.im (.int last)), x5, x6, x7, x8, x9, x10, x11, x12] S K
  | [], pre, last, x5, x6, x7, x8, x9, x10, e, hr, k => by
    rw [List.zipIdx_nil, List.map_nil, forW]
    exact ⟨hs, k last x5 x6 x7 x8 x9 x10 rfl⟩
  | p :: r, pre, last, x5, x6, x7, x8, x9, x10, e, hr, k => by
    rw [List.zipIdx_cons, List.map_cons, forW]
    refine ⟨hs, ?_⟩
    simp only [p_nm, p_tup, p_cons, p_nil, Pc.t, setS]
    have hi : l[pre.length]? = some p := by rw [e]; simp
    refine ap_body (tgt := tgt) (x5 := none) (x8 := none) (x9 := none) (x10 := none) hi hl (endOf top r) ?_ ?_ ?_
    · subst e
      cases r with
      | nil => simp [endOf]
      | cons b r =>
        rw [if_pos (by simp)]
        simp [endOf, List.getD]
    · intro h
      refine hr ?_
      unfold loopP
      rw [if_pos h]
    · intro h
      have e2 : loopP top last (p :: r) = loopP top (p.f + if p.r = true then endOf top r - p.s else 0) r := by
        rw [loopP, if_neg h]
      rw [e2] at hr k
      have := ap_loop (tgt := tgt) (w := w) (x11 := x11) (x12 := x12) hs hl r (pre ++ [p]) (p.f + if p.r = true then endOf top r - p.s else 0) (some (.im (.int (pre.length : Int)))) (some (.im (.int (endOf top r)))) x7 (some (.im (.int p.s))) (some (.im (.int p.f))) (some (.im (.bl p.r))) (by simp [e]) hr k
      rw [List.length_append] at this
      exact this
theorem lastS_get : ∀ (a : Pc) (l : List Pc) (d : Int), ((a :: l).map Pc.s)[l.length]? = some (lastS d (a :: l))
  | a, [], d => rfl
  | a, b :: l, d => by
    have := lastS_get b l a.s
    rw [List.map_cons, List.length_cons, List.getElem?_cons_succ, this]
    rfl
theorem at_m1 {α : Type} {l : List α} {x : α} (h : l[l.length - 1]? = some x) : atI l (-1) = some x := by
  have hi := (List.getElem?_eq_some_iff.mp h).1
  unfold atI ixN
  rw [if_neg (by omega), if_pos (by omega)]
  have : ((-1 : Int) + (l.length : Int)).toNat = l.length - 1 := by omega
  rw [this]
  exact h
theorem incr_zip : ∀ l : List Pc, (l.zip l.tail).any (fun q => decide (q.2.s ≤ q.1.s)) = !incr l
  | [] => rfl
  | [a] => rfl
  | a :: b :: r => by
    have := incr_zip (b :: r)
    simp only [List.tail_cons, List.zip_cons_cons, List.any_cons, incr] at this ⊢
    rw [this]
    by_cases h : a.s < b.s
    · simp [h, Int.not_le.mpr h]
    · simp [h, Int.not_lt.mp h]
theorem does_are_pieces : Does ir_are_pieces nm_are_pieces 3 sp_are_pieces := does3 fun a b c top tgt l S Q X ha hb hc hp hq => by
  obtain rfl := exInt _ _ ha
  obtain rfl := exInt _ _ hb
  have hf := few_sz hp
  have hq : Q (.im (.bl (arePieces top tgt l))) S := hq
  have fin : ∀ t, Q (.im t) S → (exitP S Q X).rt (.im t) S := fun t h => rt_im h
  have key : ∀ (w : T), seqOf S (.im w) = some (l.map Pc.t) → isSeqT w = true → tagged w → lenW S (.im w) = some l.length → wpCs ir_are_pieces (startS nm_are_pieces [.im (.int top), .im (.int tgt), .im w]) S (exitP S Q X) := by
    intro w hw h1 h2 h3
    have stb : stabW S (.im w) S := by cases w <;> trivial
    simp only [ir_are_pieces, nm_are_pieces, u_is_sequence, hw, h1, h2, h3, Bool.not_true, wpCs, wpC, wpE, wpEs, wpI, p_nm, p_tup, p_lst, p_nil, p_cons, if_true, if_false, reduceIte, Bool.false_eq_true, startS, getS, setS, setAll, wipeS, List.map_cons, List.map_nil, List.length_cons, List.length_nil, List.cons_append, List.nil_append, List.append_nil, Nat.reduceAdd, Nat.reduceSub, Nat.zero_add, List.replicate_succ, List.replicate_zero, imAll, Option.map_some, Option.bind_some, exists_eq_left, exists_eq_left', Option.some.injEq, W.im.injEq, T.int.injEq, T.bl.injEq, T.str.injEq, T.tup.injEq, T.lst.injEq, w_bin, w_cmp, w_un, w_blt, w_attr, w_ix, w_sl0, w_sl1, w_sl2, w_rev, w_tup, w_lst, w_nlst, b_addI, b_addS, b_addT, b_addL, b_subI, b_mulI, b_divI, b_modI, b_powI, c_lt, c_le, c_gt, c_ge, c_is, c_isn, c_eqI, c_neI, c_eqB, c_neB, c_eqS, c_neS, c_eqN, c_in, c_nin, n_intI, n_non, u_neg, i_len, i_abs, i_min, i_max, i_intI, i_intB, i_tuple, i_list, i_all, i_any, i_isi, i_sorted, i_max1, i_min1, x_lst, x_tup, x_scr, x_mr, s_tup, s_lst, q_lst, q_tup, q_scr, l_lst, l_scr, ln_lst, k_lst, k_tup, k_scr, k_str, j_ty, j_cls, j_tup, m_app, m_ext, e_set, r_app, r_ext, a_fn, stabW, true_and, and_true]
    refine ⟨by omega, ?_⟩
    cases l with
    | nil =>
      simp only [List.length_nil, wpCs, wpC, wpE, wpEs, wpI, p_nm, p_tup, p_lst, p_nil, p_cons, if_true, if_false, reduceIte, Bool.false_eq_true, startS, getS, setS, setAll, wipeS, List.map_cons, List.map_nil, List.length_cons, List.length_nil, List.cons_append, List.nil_append, List.append_nil, Nat.reduceAdd, Nat.reduceSub, Nat.zero_add, List.replicate_succ, List.replicate_zero, imAll, Option.map_some, Option.bind_some, exists_eq_left, exists_eq_left', Option.some.injEq, W.im.injEq, T.int.injEq, T.bl.injEq, T.str.injEq, T.tup.injEq, T.lst.injEq, w_bin, w_cmp, w_un, w_blt, w_attr, w_ix, w_sl0, w_sl1, w_sl2, w_rev, w_tup, w_lst, w_nlst, b_addI, b_addS, b_addT, b_addL, b_subI, b_mulI, b_divI, b_modI, b_powI, c_lt, c_le, c_gt, c_ge, c_is, c_isn, c_eqI, c_neI, c_eqB, c_neB, c_eqS, c_neS, c_eqN, c_in, c_nin, n_intI, n_non, u_neg, i_len, i_abs, i_min, i_max, i_intI, i_intB, i_tuple, i_list, i_all, i_any, i_isi, i_sorted, i_max1, i_min1, x_lst, x_tup, x_scr, x_mr, s_tup, s_lst, q_lst, q_tup, q_scr, l_lst, l_scr, ln_lst, k_lst, k_tup, k_scr, k_str, j_ty, j_cls, j_tup, m_app, m_ext, e_set, r_app, r_ext, a_fn, stabW, true_and, and_true]
      exact fin _ hq
    | cons p r =>
      have n0 : decide (((p :: r).length : Int) = 0) = false := by simp; omega
      simp only [n0, wpCs, wpC, wpE, wpEs, wpI, p_nm, p_tup, p_lst, p_nil, p_cons, if_true, if_false, reduceIte, Bool.false_eq_true, startS, getS, setS, setAll, wipeS, List.map_cons, List.map_nil, List.length_cons, List.length_nil, List.cons_append, List.nil_append, List.append_nil, Nat.reduceAdd, Nat.reduceSub, Nat.zero_add, List.replicate_succ, List.replicate_zero, imAll, Option.map_some, Option.bind_some, exists_eq_left, exists_eq_left', Option.some.injEq, W.im.injEq, T.int.injEq, T.bl.injEq, T.str.injEq, T.tup.injEq, T.lst.injEq, w_bin, w_cmp, w_un, w_blt, w_attr, w_ix, w_sl0, w_sl1, w_sl2, w_rev, w_tup, w_lst, w_nlst, b_addI, b_addS, b_addT, b_addL, b_subI, b_mulI, b_divI, b_modI, b_powI, c_lt, c_le, c_gt, c_ge, c_is, c_isn, c_eqI, c_neI, c_eqB, c_neB, c_eqS, c_neS, c_eqN, c_in, c_nin, n_intI, n_non, u_neg, i_len, i_abs, i_min, i_max, i_intI, i_intB, i_tuple, i_list, i_all, i_any, i_isi, i_sorted, i_max1, i_min1, x_lst, x_tup, x_scr, x_mr, s_tup, s_lst, q_lst, q_tup, q_scr, l_lst, l_scr, ln_lst, k_lst, k_tup, k_scr, k_str, j_ty, j_cls, j_tup, m_app, m_ext, e_set, r_app, r_ext, a_fn, stabW, true_and, and_true]
      rw [if_neg (by simp; omega)]
      have hz : sizeLine = 16777216 := rfl
      have hf' : r.length + 1 + 10 ≤ sizeLine := hf
      have ap : arePieces top tgt (p :: r) = ((p :: r).all pieceOk && decide (p.s = 0) && decide (lastS 0 (p :: r) ≤ top) && incr (p :: r) && chkP top tgt 0 (p :: r)) := rfl
      rw [ap] at hq
      refine lc_map (α := Pc) Pc.t (fun p => .bl (pieceOk p)) (fun _ _ _ _ h => h) stb (p :: r) [] _ (by simp; omega) (fun q _ R hR => ?_) ?_
      · simp only [u_piece, wpCs, wpC, wpE, wpEs, wpI, p_nm, p_tup, p_lst, p_nil, p_cons, if_true, if_false, reduceIte, Bool.false_eq_true, startS, getS, setS, setAll, wipeS, List.map_cons, List.map_nil, List.length_cons, List.length_nil, List.cons_append, List.nil_append, List.append_nil, Nat.reduceAdd, Nat.reduceSub, Nat.zero_add, List.replicate_succ, List.replicate_zero, imAll, Option.map_some, Option.bind_some, exists_eq_left, exists_eq_left', Option.some.injEq, W.im.injEq, T.int.injEq, T.bl.injEq, T.str.injEq, T.tup.injEq, T.lst.injEq, w_bin, w_cmp, w_un, w_blt, w_attr, w_ix, w_sl0, w_sl1, w_sl2, w_rev, w_tup, w_lst, w_nlst, b_addI, b_addS, b_addT, b_addL, b_subI, b_mulI, b_divI, b_modI, b_powI, c_lt, c_le, c_gt, c_ge, c_is, c_isn, c_eqI, c_neI, c_eqB, c_neB, c_eqS, c_neS, c_eqN, c_in, c_nin, n_intI, n_non, u_neg, i_len, i_abs, i_min, i_max, i_intI, i_intB, i_tuple, i_list, i_all, i_any, i_isi, i_sorted, i_max1, i_min1, x_lst, x_tup, x_scr, x_mr, s_tup, s_lst, q_lst, q_tup, q_scr, l_lst, l_scr, ln_lst, k_lst, k_tup, k_scr, k_str, j_ty, j_cls, j_tup, m_app, m_ext, e_set, r_app, r_ext, a_fn, stabW, true_and, and_true]
        exact hR
      refine ⟨(p :: r).map pieceOk, ?_, ?_⟩
      · rw [List.nil_append]
        have := bools_map ((p :: r).map pieceOk)
        rw [List.map_map] at this
        exact this
      have e0 : ((p :: r).map pieceOk).all id = (p :: r).all pieceOk := by
        rw [List.all_map]
        rfl
      rw [e0]
      by_cases g0 : (p :: r).all pieceOk = true
      · rw [g0] at hq ⊢
        simp only [Bool.not_true, Bool.false_eq_true, if_false, Bool.true_and] at hq ⊢
        refine ⟨_, hw, ?_⟩
        refine lc_map (α := Pc) Pc.t (fun p => .int p.s) (fun _ _ _ _ h => h) stb (p :: r) [] _ (by simp; omega) (fun q _ R hR => ?_) ?_
        · simp only [Pc.t, at0, wpCs, wpC, wpE, wpEs, wpI, p_nm, p_tup, p_lst, p_nil, p_cons, if_true, if_false, reduceIte, Bool.false_eq_true, startS, getS, setS, setAll, wipeS, List.map_cons, List.map_nil, List.length_cons, List.length_nil, List.cons_append, List.nil_append, List.append_nil, Nat.reduceAdd, Nat.reduceSub, Nat.zero_add, List.replicate_succ, List.replicate_zero, imAll, Option.map_some, Option.bind_some, exists_eq_left, exists_eq_left', Option.some.injEq, W.im.injEq, T.int.injEq, T.bl.injEq, T.str.injEq, T.tup.injEq, T.lst.injEq, w_bin, w_cmp, w_un, w_blt, w_attr, w_ix, w_sl0, w_sl1, w_sl2, w_rev, w_tup, w_lst, w_nlst, b_addI, b_addS, b_addT, b_addL, b_subI, b_mulI, b_divI, b_modI, b_powI, c_lt, c_le, c_gt, c_ge, c_is, c_isn, c_eqI, c_neI, c_eqB, c_neB, c_eqS, c_neS, c_eqN, c_in, c_nin, n_intI, n_non, u_neg, i_len, i_abs, i_min, i_max, i_intI, i_intB, i_tuple, i_list, i_all, i_any, i_isi, i_sorted, i_max1, i_min1, x_lst, x_tup, x_scr, x_mr, s_tup, s_lst, q_lst, q_tup, q_scr, l_lst, l_scr, ln_lst, k_lst, k_tup, k_scr, k_str, j_ty, j_cls, j_tup, m_app, m_ext, e_set, r_app, r_ext, a_fn, stabW, true_and, and_true]
          exact hR
        simp only [List.nil_append]
        refine ⟨_, at0, ?_⟩
        simp only [wpCs, wpC, wpE, wpEs, wpI, p_nm, p_tup, p_lst, p_nil, p_cons, if_true, if_false, reduceIte, Bool.false_eq_true, startS, getS, setS, setAll, wipeS, List.map_cons, List.map_nil, List.length_cons, List.length_nil, List.cons_append, List.nil_append, List.append_nil, Nat.reduceAdd, Nat.reduceSub, Nat.zero_add, List.replicate_succ, List.replicate_zero, imAll, Option.map_some, Option.bind_some, exists_eq_left, exists_eq_left', Option.some.injEq, W.im.injEq, T.int.injEq, T.bl.injEq, T.str.injEq, T.tup.injEq, T.lst.injEq, w_bin, w_cmp, w_un, w_blt, w_attr, w_ix, w_sl0, w_sl1, w_sl2, w_rev, w_tup, w_lst, w_nlst, b_addI, b_addS, b_addT, b_addL, b_subI, b_mulI, b_divI, b_modI, b_powI, c_lt, c_le, c_gt, c_ge, c_is, c_isn, c_eqI, c_neI, c_eqB, c_neB, c_eqS, c_neS, c_eqN, c_in, c_nin, n_intI, n_non, u_neg, i_len, i_abs, i_min, i_max, i_intI, i_intB, i_tuple, i_list, i_all, i_any, i_isi, i_sorted, i_max1, i_min1, x_lst, x_tup, x_scr, x_mr, s_tup, s_lst, q_lst, q_tup, q_scr, l_lst, l_scr, ln_lst, k_lst, k_tup, k_scr, k_str, j_ty, j_cls, j_tup, m_app, m_ext, e_set, r_app, r_ext, a_fn, stabW, true_and, and_true]
        by_cases g1 : p.s = 0
        · simp only [g1, decide_true, Bool.not_true, Bool.true_and, wpCs, wpC, wpE, wpEs, wpI, p_nm, p_tup, p_lst, p_nil, p_cons, if_true, if_false, reduceIte, Bool.false_eq_true, startS, getS, setS, setAll, wipeS, List.map_cons, List.map_nil, List.length_cons, List.length_nil, List.cons_append, List.nil_append, List.append_nil, Nat.reduceAdd, Nat.reduceSub, Nat.zero_add, List.replicate_succ, List.replicate_zero, imAll, Option.map_some, Option.bind_some, exists_eq_left, exists_eq_left', Option.some.injEq, W.im.injEq, T.int.injEq, T.bl.injEq, T.str.injEq, T.tup.injEq, T.lst.injEq, w_bin, w_cmp, w_un, w_blt, w_attr, w_ix, w_sl0, w_sl1, w_sl2, w_rev, w_tup, w_lst, w_nlst, b_addI, b_addS, b_addT, b_addL, b_subI, b_mulI, b_divI, b_modI, b_powI, c_lt, c_le, c_gt, c_ge, c_is, c_isn, c_eqI, c_neI, c_eqB, c_neB, c_eqS, c_neS, c_eqN, c_in, c_nin, n_intI, n_non, u_neg, i_len, i_abs, i_min, i_max, i_intI, i_intB, i_tuple, i_list, i_all, i_any, i_isi, i_sorted, i_max1, i_min1, x_lst, x_tup, x_scr, x_mr, s_tup, s_lst, q_lst, q_tup, q_scr, l_lst, l_scr, ln_lst, k_lst, k_tup, k_scr, k_str, j_ty, j_cls, j_tup, m_app, m_ext, e_set, r_app, r_ext, a_fn, stabW, true_and, and_true] at hq ⊢
          have am : atI (T.int 0 :: r.map fun p => T.int p.s) (-1) = some (.int (lastS 0 (p :: r))) := by
            refine at_m1 ?_
            have := lastS_get p r 0
            have e : (T.int 0 :: r.map fun p => T.int p.s) = ((p :: r).map Pc.s).map T.int := by simp [g1]
            rw [e, List.getElem?_map, List.length_map, List.length_map, List.length_cons, Nat.add_sub_cancel, this]
            rfl
          simp only [am, wpCs, wpC, wpE, wpEs, wpI, p_nm, p_tup, p_lst, p_nil, p_cons, if_true, if_false, reduceIte, Bool.false_eq_true, startS, getS, setS, setAll, wipeS, List.map_cons, List.map_nil, List.length_cons, List.length_nil, List.cons_append, List.nil_append, List.append_nil, Nat.reduceAdd, Nat.reduceSub, Nat.zero_add, List.replicate_succ, List.replicate_zero, imAll, Option.map_some, Option.bind_some, exists_eq_left, exists_eq_left', Option.some.injEq, W.im.injEq, T.int.injEq, T.bl.injEq, T.str.injEq, T.tup.injEq, T.lst.injEq, w_bin, w_cmp, w_un, w_blt, w_attr, w_ix, w_sl0, w_sl1, w_sl2, w_rev, w_tup, w_lst, w_nlst, b_addI, b_addS, b_addT, b_addL, b_subI, b_mulI, b_divI, b_modI, b_powI, c_lt, c_le, c_gt, c_ge, c_is, c_isn, c_eqI, c_neI, c_eqB, c_neB, c_eqS, c_neS, c_eqN, c_in, c_nin, n_intI, n_non, u_neg, i_len, i_abs, i_min, i_max, i_intI, i_intB, i_tuple, i_list, i_all, i_any, i_isi, i_sorted, i_max1, i_min1, x_lst, x_tup, x_scr, x_mr, s_tup, s_lst, q_lst, q_tup, q_scr, l_lst, l_scr, ln_lst, k_lst, k_tup, k_scr, k_str, j_ty, j_cls, j_tup, m_app, m_ext, e_set, r_app, r_ext, a_fn, stabW, true_and, and_true]
          by_cases g2 : top < lastS 0 (p :: r)
          · simp only [g2, Int.not_le.mpr g2, decide_true, decide_false, Bool.false_and, wpCs, wpC, wpE, wpEs, wpI, p_nm, p_tup, p_lst, p_nil, p_cons, if_true, if_false, reduceIte, Bool.false_eq_true, startS, getS, setS, setAll, wipeS, List.map_cons, List.map_nil, List.length_cons, List.length_nil, List.cons_append, List.nil_append, List.append_nil, Nat.reduceAdd, Nat.reduceSub, Nat.zero_add, List.replicate_succ, List.replicate_zero, imAll, Option.map_some, Option.bind_some, exists_eq_left, exists_eq_left', Option.some.injEq, W.im.injEq, T.int.injEq, T.bl.injEq, T.str.injEq, T.tup.injEq, T.lst.injEq, w_bin, w_cmp, w_un, w_blt, w_attr, w_ix, w_sl0, w_sl1, w_sl2, w_rev, w_tup, w_lst, w_nlst, b_addI, b_addS, b_addT, b_addL, b_subI, b_mulI, b_divI, b_modI, b_powI, c_lt, c_le, c_gt, c_ge, c_is, c_isn, c_eqI, c_neI, c_eqB, c_neB, c_eqS, c_neS, c_eqN, c_in, c_nin, n_intI, n_non, u_neg, i_len, i_abs, i_min, i_max, i_intI, i_intB, i_tuple, i_list, i_all, i_any, i_isi, i_sorted, i_max1, i_min1, x_lst, x_tup, x_scr, x_mr, s_tup, s_lst, q_lst, q_tup, q_scr, l_lst, l_scr, ln_lst, k_lst, k_tup, k_scr, k_str, j_ty, j_cls, j_tup, m_app, m_ext, e_set, r_app, r_ext, a_fn, stabW, true_and, and_true] at hq ⊢
            exact fin _ hq
          · simp only [g2, Int.not_lt.mp g2, decide_true, decide_false, Bool.true_and, wpCs, wpC, wpE, wpEs, wpI, p_nm, p_tup, p_lst, p_nil, p_cons, if_true, if_false, reduceIte, Bool.false_eq_true, startS, getS, setS, setAll, wipeS, List.map_cons, List.map_nil, List.length_cons, List.length_nil, List.cons_append, List.nil_append, List.append_nil, Nat.reduceAdd, Nat.reduceSub, Nat.zero_add, List.replicate_succ, List.replicate_zero, imAll, Option.map_some, Option.bind_some, exists_eq_left, exists_eq_left', Option.some.injEq, W.im.injEq, T.int.injEq, T.bl.injEq, T.str.injEq, T.tup.injEq, T.lst.injEq, w_bin, w_cmp, w_un, w_blt, w_attr, w_ix, w_sl0, w_sl1, w_sl2, w_rev, w_tup, w_lst, w_nlst, b_addI, b_addS, b_addT, b_addL, b_subI, b_mulI, b_divI, b_modI, b_powI, c_lt, c_le, c_gt, c_ge, c_is, c_isn, c_eqI, c_neI, c_eqB, c_neB, c_eqS, c_neS, c_eqN, c_in, c_nin, n_intI, n_non, u_neg, i_len, i_abs, i_min, i_max, i_intI, i_intB, i_tuple, i_list, i_all, i_any, i_isi, i_sorted, i_max1, i_min1, x_lst, x_tup, x_scr, x_mr, s_tup, s_lst, q_lst, q_tup, q_scr, l_lst, l_scr, ln_lst, k_lst, k_tup, k_scr, k_str, j_ty, j_cls, j_tup, m_app, m_ext, e_set, r_app, r_ext, a_fn, stabW, true_and, and_true] at hq ⊢
            refine ⟨_, _, rfl, rfl, ?_⟩
            have el : (T.int 0 :: r.map fun p => T.int p.s) = (p :: r).map fun p => T.int p.s := by simp [g1]
            rw [el]
            have ez : (((p :: r).map fun p => T.int p.s).zip (cutT ((p :: r).map fun p => T.int p.s) (some 1) none)).map (fun q => T.tup [q.1, q.2]) = ((p :: r).zip (p :: r).tail).map fun q => T.tup [.int q.1.s, .int q.2.s] := by
              rw [List.map_cons, cut1, ← List.map_cons (f := fun p : Pc => T.int p.s), List.tail_cons, List.zip_map, List.map_map]
              rfl
            rw [ez]
            refine lc_map (α := Pc × Pc) (fun q => T.tup [.int q.1.s, .int q.2.s]) (fun q => .bl (decide (q.2.s ≤ q.1.s))) (fun _ _ _ _ h => h) trivial ((p :: r).zip (p :: r).tail) [] _ (by simp; omega) (fun q _ R hR => ?_) ?_
            · simp only [wpCs, wpC, wpE, wpEs, wpI, p_nm, p_tup, p_lst, p_nil, p_cons, if_true, if_false, reduceIte, Bool.false_eq_true, startS, getS, setS, setAll, wipeS, List.map_cons, List.map_nil, List.length_cons, List.length_nil, List.cons_append, List.nil_append, List.append_nil, Nat.reduceAdd, Nat.reduceSub, Nat.zero_add, List.replicate_succ, List.replicate_zero, imAll, Option.map_some, Option.bind_some, exists_eq_left, exists_eq_left', Option.some.injEq, W.im.injEq, T.int.injEq, T.bl.injEq, T.str.injEq, T.tup.injEq, T.lst.injEq, w_bin, w_cmp, w_un, w_blt, w_attr, w_ix, w_sl0, w_sl1, w_sl2, w_rev, w_tup, w_lst, w_nlst, b_addI, b_addS, b_addT, b_addL, b_subI, b_mulI, b_divI, b_modI, b_powI, c_lt, c_le, c_gt, c_ge, c_is, c_isn, c_eqI, c_neI, c_eqB, c_neB, c_eqS, c_neS, c_eqN, c_in, c_nin, n_intI, n_non, u_neg, i_len, i_abs, i_min, i_max, i_intI, i_intB, i_tuple, i_list, i_all, i_any, i_isi, i_sorted, i_max1, i_min1, x_lst, x_tup, x_scr, x_mr, s_tup, s_lst, q_lst, q_tup, q_scr, l_lst, l_scr, ln_lst, k_lst, k_tup, k_scr, k_str, j_ty, j_cls, j_tup, m_app, m_ext, e_set, r_app, r_ext, a_fn, stabW, true_and, and_true]
              exact hR
            refine ⟨((p :: r).zip (p :: r).tail).map fun q => decide (q.2.s ≤ q.1.s), ?_, ?_⟩
            · rw [List.nil_append]
              have := bools_map (((p :: r).zip (p :: r).tail).map fun q => decide (q.2.s ≤ q.1.s))
              rw [List.map_map] at this
              exact this
            have e1 : (((p :: r).zip (p :: r).tail).map fun q => decide (q.2.s ≤ q.1.s)).any id = !incr (p :: r) := by
              rw [List.any_map, ← incr_zip]
              rfl
            rw [e1]
            by_cases g3 : incr (p :: r) = true
            · rw [g3] at hq ⊢
              simp only [Bool.not_true, Bool.false_eq_true, if_false, Bool.true_and] at hq ⊢
              refine ⟨_, hw, ?_⟩
              rw [enum_map]
              have := ap_loop (S := S) (tgt := tgt) (top := top) (w := w) (stab := stabW S (.im w)) stb (l := p :: r) (x11 := none) (x12 := none) (K := { nx := fun ρ1 S1 => ∃ w, getS ρ1 4 = some w ∧ ∃ w_1, getS ρ1 1 = some w_1 ∧ cmpP S1 CmpOp.LtE w w_1 (exitP S Q X).rt, rt := (exitP S Q X).rt, bk := (exitP S Q X).bk, ct := (exitP S Q X).ct, xc := (exitP S Q X).xc }) (by omega) (p :: r) [] 0 none none none none none none rfl
                (fun h => by
                  rw [chkP_eq, h] at hq
                  exact fin _ hq) (fun z x5 x6 x7 x8 x9 x10 h => by
                  rw [chkP_eq, h] at hq
                  simp only [wpCs, wpC, wpE, wpEs, wpI, p_nm, p_tup, p_lst, p_nil, p_cons, if_true, if_false, reduceIte, Bool.false_eq_true, startS, getS, setS, setAll, wipeS, List.map_cons, List.map_nil, List.length_cons, List.length_nil, List.cons_append, List.nil_append, List.append_nil, Nat.reduceAdd, Nat.reduceSub, Nat.zero_add, List.replicate_succ, List.replicate_zero, imAll, Option.map_some, Option.bind_some, exists_eq_left, exists_eq_left', Option.some.injEq, W.im.injEq, T.int.injEq, T.bl.injEq, T.str.injEq, T.tup.injEq, T.lst.injEq, w_bin, w_cmp, w_un, w_blt, w_attr, w_ix, w_sl0, w_sl1, w_sl2, w_rev, w_tup, w_lst, w_nlst, b_addI, b_addS, b_addT, b_addL, b_subI, b_mulI, b_divI, b_modI, b_powI, c_lt, c_le, c_gt, c_ge, c_is, c_isn, c_eqI, c_neI, c_eqB, c_neB, c_eqS, c_neS, c_eqN, c_in, c_nin, n_intI, n_non, u_neg, i_len, i_abs, i_min, i_max, i_intI, i_intB, i_tuple, i_list, i_all, i_any, i_isi, i_sorted, i_max1, i_min1, x_lst, x_tup, x_scr, x_mr, s_tup, s_lst, q_lst, q_tup, q_scr, l_lst, l_scr, ln_lst, k_lst, k_tup, k_scr, k_str, j_ty, j_cls, j_tup, m_app, m_ext, e_set, r_app, r_ext, a_fn, stabW, true_and, and_true]
                  exact fin _ hq)
              exact this
            · have g3 : incr (p :: r) = false := by simpa using g3
              rw [g3] at hq ⊢
              simp only [Bool.not_false, if_true, Bool.false_and] at hq ⊢
              exact fin _ hq
        · simp only [g1, decide_false, Bool.not_false, Bool.false_and, wpCs, wpC, wpE, wpEs, wpI, p_nm, p_tup, p_lst, p_nil, p_cons, if_true, if_false, reduceIte, Bool.false_eq_true, startS, getS, setS, setAll, wipeS, List.map_cons, List.map_nil, List.length_cons, List.length_nil, List.cons_append, List.nil_append, List.append_nil, Nat.reduceAdd, Nat.reduceSub, Nat.zero_add, List.replicate_succ, List.replicate_zero, imAll, Option.map_some, Option.bind_some, exists_eq_left, exists_eq_left', Option.some.injEq, W.im.injEq, T.int.injEq, T.bl.injEq, T.str.injEq, T.tup.injEq, T.lst.injEq, w_bin, w_cmp, w_un, w_blt, w_attr, w_ix, w_sl0, w_sl1, w_sl2, w_rev, w_tup, w_lst, w_nlst, b_addI, b_addS, b_addT, b_addL, b_subI, b_mulI, b_divI, b_modI, b_powI, c_lt, c_le, c_gt, c_ge, c_is, c_isn, c_eqI, c_neI, c_eqB, c_neB, c_eqS, c_neS, c_eqN, c_in, c_nin, n_intI, n_non, u_neg, i_len, i_abs, i_min, i_max, i_intI, i_intB, i_tuple, i_list, i_all, i_any, i_isi, i_sorted, i_max1, i_min1, x_lst, x_tup, x_scr, x_mr, s_tup, s_lst, q_lst, q_tup, q_scr, l_lst, l_scr, ln_lst, k_lst, k_tup, k_scr, k_str, j_ty, j_cls, j_tup, m_app, m_ext, e_set, r_app, r_ext, a_fn, stabW, true_and, and_true] at hq ⊢
          exact fin _ hq
      · have g0 : (p :: r).all pieceOk = false := by simpa using g0
        rw [g0] at hq ⊢
        simp only [Bool.not_false, if_true, Bool.false_and] at hq ⊢
        exact fin _ hq
  cases c <;> first
    | (cases hc; done)
    | (have e := decs_ex exPc hc; exact key _ (by rw [e]; rfl) rfl rfl (by rw [e]; show some (l.map Pc.t).length = _; rw [List.length_map]))
theorem u_are {a b : Int} {w : T} {S : Sto} {Q : VQ} {X : XQ} {l : List Pc} (h : tPcs.dec w = some l) : sp_are_pieces [.im (.int a), .im (.int b), .im w] S Q X ↔ few l.length ∧ Q (.im (.bl (arePieces a b l))) S := by
  simp only [sp_are_pieces, fsp3, tInt, tBl]
  simp [h]
theorem u_raw {a : Int} {w : T} {S : Sto} {Q : VQ} {X : XQ} {l : List Pc} (h : tPcs.dec w = some l) : sp_raw_parts [.im (.int a), .im w] S Q X ↔ few l.length ∧ Q (.im (.lst ((partsOf a l).map Pt.t))) S := by
  simp only [sp_raw_parts, fsp2, tInt, tLst, tPt]
  simp [h]
theorem map_inj {α : Type} {A : Ty α} {l l' : List α} (h : l.map A.enc = l'.map A.enc) : l = l' := by
  have := congrArg (decs A) h
  rw [decs_ok, decs_ok] at this
  exact Option.some.inj this
theorem u_normal {l : List Pt} {S : Sto} {w : W} {Q : VQ} {X : XQ} (hw : lstN S w = some (l.map Pt.t)) : sp_normal_pieces [w] S Q X ↔ (l ≠ [] ∧ few l.length) ∧ Q (.im (.tup ((normal l).map Pc.t))) S := by
  simp only [sp_normal_pieces]
  constructor
  · rintro ⟨l', e, h, q⟩
    rw [hw] at e
    obtain rfl := map_inj (A := tPt) (Option.some.inj e)
    exact ⟨h, q⟩
  · rintro ⟨h, q⟩
    exact ⟨l, hw, h, q⟩
theorem u_normal' {l : List Pt} {S : Sto} {Q : VQ} {X : XQ} : sp_normal_pieces [.im (.lst (l.map Pt.t))] S Q X ↔ (l ≠ [] ∧ few l.length) ∧ Q (.im (.tup ((normal l).map Pc.t))) S := u_normal rfl
theorem are_ne {a b : Int} {l : List Pc} (h : arePieces a b l = true) : l ≠ [] := by
  rintro rfl
  cases h
theorem parts_ne {top : Int} {l : List Pc} (h : l ≠ []) : partsOf top l ≠ [] := by
  intro z
  have := partsOf_len top l
  rw [z] at this
  exact h (List.length_eq_zero_iff.mp this.symm)
theorem does_Passage___init__ : Does ir_Passage___init__ nm_Passage___init__ 4 sp_Passage___init__ := by
  intro ws S Q X h
  unfold sp_Passage___init__ at h
  split at h
  · rename_i Sx Qx Xx k a b w
    obtain ⟨h1, l, hl, hf, ha, hb, hp, h2⟩ := h
    refine ⟨rfl, ?_⟩
    have t1 : tagged (.int a) := rfl
    have t2 : tagged (.int b) := rfl
    have n1 : isNumT (.int a) = true := decide_eq_true ha
    have n2 : isNumT (.int b) = true := decide_eq_true hb
    simp only [ir_Passage___init__, nm_Passage___init__, u_is_number, u_are hl, u_raw hl, u_normal', t1, t2, n1, n2, hf, hp, Bool.not_true, wpCs, wpC, wpE, wpEs, wpI, p_nm, p_tup, p_lst, p_nil, p_cons, if_true, if_false, reduceIte, Bool.false_eq_true, startS, getS, setS, setAll, wipeS, List.map_cons, List.map_nil, List.length_cons, List.length_nil, List.cons_append, List.nil_append, List.append_nil, Nat.reduceAdd, Nat.reduceSub, Nat.zero_add, List.replicate_succ, List.replicate_zero, imAll, Option.map_some, Option.bind_some, exists_eq_left, exists_eq_left', Option.some.injEq, W.im.injEq, T.int.injEq, T.bl.injEq, T.str.injEq, T.tup.injEq, T.lst.injEq, w_bin, w_cmp, w_un, w_blt, w_attr, w_ix, w_sl0, w_sl1, w_sl2, w_rev, w_tup, w_lst, w_nlst, b_addI, b_addS, b_addT, b_addL, b_subI, b_mulI, b_divI, b_modI, b_powI, c_lt, c_le, c_gt, c_ge, c_is, c_isn, c_eqI, c_neI, c_eqB, c_neB, c_eqS, c_neS, c_eqN, c_in, c_nin, n_intI, n_non, u_neg, i_len, i_abs, i_min, i_max, i_intI, i_intB, i_tuple, i_list, i_all, i_any, i_isi, i_sorted, i_max1, i_min1, x_lst, x_tup, x_scr, x_mr, s_tup, s_lst, q_lst, q_tup, q_scr, l_lst, l_scr, ln_lst, k_lst, k_tup, k_scr, k_str, j_ty, j_cls, j_tup, m_app, m_ext, e_set, r_app, r_ext, a_fn, stabW, true_and, and_true]
    refine ⟨_, [], [], rfl, h1, by decide, _, ["top"], [_], rfl, get_set h1, by decide, ⟨parts_ne (are_ne hp), by rw [partsOf_len]; exact hf⟩, _, ["top", "target"], [_, _], rfl, get_set (get_set h1), by decide, nx_keep ?_⟩
    simp only [List.set_set]
    exact h2
  · exact h.elim
theorem u_mkPassage {a b : Int} {w : T} {l : List Pc} {S : Sto} {Q : VQ} {X : XQ} (h : tPcs.dec w = some l) : apSp (.mk "Passage") sp_Passage___init__ [.im (.int a), .im (.int b), .im w] S Q X ↔ (few l.length ∧ 0 ≤ a ∧ 0 ≤ b ∧ arePieces a b l = true) ∧ Q (.im (mkPs a b l).t) S := by
  simp only [apSp, mkSp, sp_Passage___init__]
  constructor
  · rintro ⟨_, l', hl, hf, ha, hb, hp, _, ns, ts, e, q⟩
    rw [h] at hl
    cases hl
    refine ⟨⟨hf, ha, hb, hp⟩, ?_⟩
    rw [List.set_append_right _ _ (Nat.le_refl _), Nat.sub_self, List.set_cons_zero] at e
    have e := List.append_cancel_left e
    simp only [List.cons.injEq, MO.ins.injEq, and_true, true_and] at e
    obtain ⟨e1, e2⟩ := e
    subst e1
    have : ts = [.int a, .int b, .tup ((normal (partsOf a l)).map Pc.t)] := by
      have := congrArg imAll e2
      rw [imAll_map] at this
      exact (Option.some.inj this).symm
    subst this
    exact q
  · rintro ⟨⟨hf, ha, hb, hp⟩, q⟩
    refine ⟨by simp, l, h, hf, ha, hb, hp, by trivial, psNs, [.int a, .int b, .tup ((normal (partsOf a l)).map Pc.t)], ?_, q⟩
    rw [List.set_append_right _ _ (Nat.le_refl _), Nat.sub_self]
    rfl
end TW

namespace TW
open PySem L2
/-- a passage of stretches may be made -/
def madeOk (top tgt : Int) (l : List Pt) : Prop := (l ≠ [] ∧ few l.length) ∧ 0 ≤ top ∧ 0 ≤ tgt ∧ arePieces top tgt (normal l) = true
def madeOf (top tgt : Int) (l : List Pt) : Ps := mkPs top tgt (normal l)
def sp_made_of : Spec
  | [.im (.int a), .im (.int b), w], S, Q, _ => ∃ l, lstN S w = some (l.map Pt.t) ∧ madeOk a b l ∧ Q (.im (madeOf a b l).t) S
  | _, _, _, _ => False
def extreme (one other : Pt) (g : Bool) : List Pt :=
  if one.r = other.r then [if decide (other.f ≤ one.f) = g then one else other]
  else
    let fr := if one.r = true then (other, one) else (one, other)
    let be := if g = true then (fr.1, fr.2) else (fr.2, fr.1)
    let turn := fr.1.lo + fr.1.f - fr.2.f
    if turn < fr.1.lo then [be.2]
    else if fr.1.hi ≤ turn then [be.1]
    else [be.1.cut fr.1.lo turn, be.2.cut (turn + 1) fr.1.hi]
def sp_extreme_parts : Spec := fsp3 tPt tPt tBl (tLst tPt) (fun _ _ _ => True) extreme
def mn (i j : Int) : Int := if j < i then j else i
def mx (i j : Int) : Int := if j > i then j else i
def common : Nat → List Pt → List Pt → Int → List (Pt × Pt)
  | n + 1, a :: as, b :: bs, low => (a.cut low (mn a.hi b.hi), b.cut low (mn a.hi b.hi)) :: common n (if a.hi = mn a.hi b.hi then as else a :: as) (if b.hi = mn a.hi b.hi then bs else b :: bs) (mn a.hi b.hi + 1)
  | _, _, _, _ => []
def commonOf (p q : Ps) : List (Pt × Pt) := common (p.pcs.length + q.pcs.length) (partsOf p.top p.pcs) (partsOf q.top q.pcs) 0
def sp_common_parts : Spec := fsp2 tPs tPs (tLst (tPair tPt tPt)) (fun p q => few (p.pcs.length + q.pcs.length)) commonOf
def joinParts (p q : Ps) (g : Bool) : List Pt := (commonOf p q).flatMap fun c => extreme c.1 c.2 g
def joinOk (p q : Ps) (g : Bool) : Prop := p.top = q.top ∧ p.tgt = q.tgt ∧ few (p.pcs.length + q.pcs.length) ∧ madeOk p.top p.tgt (joinParts p q g)
def joinPs (p q : Ps) (g : Bool) : Ps := madeOf p.top p.tgt (joinParts p q g)
def sp_joined : Spec := fsp3 tPs tPs tBl tPs joinOk joinPs
def inPt (x : Int) (p : Pt) : Bool := decide (p.lo ≤ x) && decide (x ≤ p.hi)
def resIn (l : List Pt) (x : Int) : Int := ((l.filter (inPt x)).head?.map (·.res x)).getD 0
def sp_result_in : Spec := fsp2 (tLst tPt) tInt tInt (fun l x => few l.length ∧ (l.filter (inPt x)) ≠ []) resIn
def mulOne (p o : Pt) : List Pt :=
  if mx o.lo p.f ≤ mn o.hi p.last then [⟨mx o.lo p.f + (p.lo - p.f), mn o.hi p.last + (p.lo - p.f), o.res (mx o.lo p.f), o.r⟩] else []
def mulPart (os : List Pt) (p : Pt) : List Pt := if p.r = false then [⟨p.lo, p.hi, resIn os p.f, false⟩] else os.flatMap (mulOne p)
def mulParts (p q : Ps) : List Pt := (partsOf p.top p.pcs).flatMap (mulPart (partsOf q.top q.pcs))
def mulOk (p q : Ps) : Prop := p.tgt = q.top ∧ few (p.pcs.length * (q.pcs.length + 1)) ∧ few q.pcs.length ∧ (∀ a ∈ partsOf p.top p.pcs, a.r = false → (partsOf q.top q.pcs).filter (inPt a.f) ≠ []) ∧ madeOk p.top q.tgt (mulParts p q)
def mulPs (p q : Ps) : Ps := madeOf p.top q.tgt (mulParts p q)
def sp_multiplied : Spec := fsp2 tPs tPs tPs mulOk mulPs
def ps_made_of : List Str := ["top", "target", "parts"]
def nm_made_of : List Str := ["top", "target", "parts"]
def ir_made_of : Cs :=
  (.cons (.ret (.ap (.mk "Passage") sp_Passage___init__ (.cons (.var 0) (.cons (.var 1) (.cons (.ap (.fn "normal_pieces") sp_normal_pieces (.cons (.var 2) .nil)) .nil))))) .nil)
def ps_extreme_parts : List Str := ["one", "other", "is_greater"]
def nm_extreme_parts : List Str := ["one", "other", "is_greater", "turn", "flat", "rising", "begin", "end"]
def ir_extreme_parts : Cs :=
  (.cons (.ifs (.pr (.cmp .Eq) (.cons (.pr (.attr "is_rising") (.cons (.var 0) .nil)) (.cons (.pr (.attr "is_rising") (.cons (.var 1) .nil)) .nil))) (.cons (.ret (.pr .lst (.cons (.ife (.pr (.cmp .Eq) (.cons (.pr (.cmp .GtE) (.cons (.pr (.attr "first") (.cons (.var 0) .nil)) (.cons (.pr (.attr "first") (.cons (.var 1) .nil)) .nil))) (.cons (.var 2) .nil))) (.var 0) (.var 1)) .nil))) .nil) .nil)
  (.cons (.unp (.tp (.cons (.nm 4) (.cons (.nm 5) .nil))) (.ife (.pr (.attr "is_rising") (.cons (.var 0) .nil)) (.pr .tup (.cons (.var 1) (.cons (.var 0) .nil))) (.pr .tup (.cons (.var 0) (.cons (.var 1) .nil)))))
  (.cons (.unp (.tp (.cons (.nm 6) (.cons (.nm 7) .nil))) (.ife (.var 2) (.pr .tup (.cons (.var 4) (.cons (.var 5) .nil))) (.pr .tup (.cons (.var 5) (.cons (.var 4) .nil)))))
  (.cons (.asg 3 (.pr (.bin .Sub) (.cons (.pr (.bin .Add) (.cons (.pr (.attr "low") (.cons (.var 4) .nil)) (.cons (.pr (.attr "first") (.cons (.var 4) .nil)) .nil))) (.cons (.pr (.attr "first") (.cons (.var 5) .nil)) .nil))))
  (.cons (.ifs (.pr (.cmp .Lt) (.cons (.var 3) (.cons (.pr (.attr "low") (.cons (.var 4) .nil)) .nil))) (.cons (.ret (.pr .lst (.cons (.var 7) .nil))) .nil) .nil)
  (.cons (.ifs (.pr (.cmp .GtE) (.cons (.var 3) (.cons (.pr (.attr "high") (.cons (.var 4) .nil)) .nil))) (.cons (.ret (.pr .lst (.cons (.var 6) .nil))) .nil) .nil)
  (.cons (.ret (.pr .lst (.cons (.me "Part" "cut" sp_Part_cut (.var 6) (.cons (.pr (.attr "low") (.cons (.var 4) .nil)) (.cons (.var 3) .nil))) (.cons (.me "Part" "cut" sp_Part_cut (.var 7) (.cons (.pr (.bin .Add) (.cons (.var 3) (.cons (.con (.int 1)) .nil))) (.cons (.pr (.attr "high") (.cons (.var 4) .nil)) .nil))) .nil)))) .nil)))))))
def ps_common_parts : List Str := ["p", "q"]
def nm_common_parts : List Str := ["p", "q", "found", "here", "there", "at", "spot", "low", "high"]
def cn_common_parts_1 : E :=
  (.and (.pr (.cmp .Lt) (.cons (.var 5) (.cons (.pr (.blt .len) (.cons (.var 3) .nil)) .nil))) (.pr (.cmp .Lt) (.cons (.var 6) (.cons (.pr (.blt .len) (.cons (.var 4) .nil)) .nil))))
def bd_common_parts_1 : Cs :=
  (.cons (.asg 8 (.pr (.blt .min2) (.cons (.pr (.blt .int1) (.cons (.pr (.attr "high") (.cons (.pr .ix (.cons (.var 3) (.cons (.var 5) .nil))) .nil)) .nil)) (.cons (.pr (.blt .int1) (.cons (.pr (.attr "high") (.cons (.pr .ix (.cons (.var 4) (.cons (.var 6) .nil))) .nil)) .nil)) .nil))))
  (.cons (.ex (.bm .append (.var 2) (.cons (.pr .tup (.cons (.me "Part" "cut" sp_Part_cut (.pr .ix (.cons (.var 3) (.cons (.var 5) .nil))) (.cons (.var 7) (.cons (.var 8) .nil))) (.cons (.me "Part" "cut" sp_Part_cut (.pr .ix (.cons (.var 4) (.cons (.var 6) .nil))) (.cons (.var 7) (.cons (.var 8) .nil))) .nil))) .nil)))
  (.cons (.par [5, 6] (.cons (.pr (.bin .Add) (.cons (.var 5) (.cons (.pr (.blt .int1) (.cons (.pr (.cmp .Eq) (.cons (.pr (.attr "high") (.cons (.pr .ix (.cons (.var 3) (.cons (.var 5) .nil))) .nil)) (.cons (.var 8) .nil))) .nil)) .nil))) (.cons (.pr (.bin .Add) (.cons (.var 6) (.cons (.pr (.blt .int1) (.cons (.pr (.cmp .Eq) (.cons (.pr (.attr "high") (.cons (.pr .ix (.cons (.var 4) (.cons (.var 6) .nil))) .nil)) (.cons (.var 8) .nil))) .nil)) .nil))) .nil)))
  (.cons (.asg 7 (.pr (.bin .Add) (.cons (.var 8) (.cons (.con (.int 1)) .nil)))) .nil))))
def ir_common_parts : Cs :=
  (.cons (.par [3, 4] (.cons (.ap (.fn "parts_of") sp_parts_of (.cons (.var 0) .nil)) (.cons (.ap (.fn "parts_of") sp_parts_of (.cons (.var 1) .nil)) .nil)))
  (.cons (.asg 2 (.pr .nlst .nil))
  (.cons (.par [5, 6, 7] (.cons (.con (.int 0)) (.cons (.con (.int 0)) (.cons (.con (.int 0)) .nil))))
  (.cons (.wh cn_common_parts_1 bd_common_parts_1)
  (.cons (.ret (.var 2)) .nil)))))
def ps_joined : List Str := ["p", "q", "is_greater"]
def nm_joined : List Str := ["p", "q", "is_greater", "found", "one", "other"]
def bd_joined_1 : Cs :=
  (.cons (.ex (.bm .extend (.var 3) (.cons (.ap (.fn "extreme_parts") sp_extreme_parts (.cons (.var 4) (.cons (.var 5) (.cons (.var 2) .nil)))) .nil))) .nil)
def ir_joined : Cs :=
  (.cons (.ifs (.or (.pr (.cmp .NotEq) (.cons (.pr (.attr "top") (.cons (.var 0) .nil)) (.cons (.pr (.attr "top") (.cons (.var 1) .nil)) .nil))) (.pr (.cmp .NotEq) (.cons (.pr (.attr "target") (.cons (.var 0) .nil)) (.cons (.pr (.attr "target") (.cons (.var 1) .nil)) .nil)))) (.cons .fail .nil) .nil)
  (.cons (.asg 3 (.pr .nlst .nil))
  (.cons (.fo (.tp (.cons (.nm 4) (.cons (.nm 5) .nil))) (.seq (.ap (.fn "common_parts") sp_common_parts (.cons (.var 0) (.cons (.var 1) .nil)))) bd_joined_1)
  (.cons (.ret (.ap (.fn "made_of") sp_made_of (.cons (.pr (.attr "top") (.cons (.var 0) .nil)) (.cons (.pr (.attr "target") (.cons (.var 0) .nil)) (.cons (.var 3) .nil))))) .nil))))
def ps_result_in : List Str := ["parts", "x"]
def nm_result_in : List Str := ["parts", "x", "part"]
def ir_result_in : Cs :=
  (.cons (.ret (.pr .ix (.cons (.lc (.me "Part" "result" sp_Part_result (.var 2) (.cons (.var 1) .nil)) (.nm 2) (.seq (.var 0)) (.cons (.chain .LtE .LtE (.pr (.attr "low") (.cons (.var 2) .nil)) (.var 1) (.pr (.attr "high") (.cons (.var 2) .nil))) .nil) [2]) (.cons (.con (.int 0)) .nil)))) .nil)
def ps_multiplied : List Str := ["p", "q"]
def nm_multiplied : List Str := ["p", "q", "others", "found", "part", "other", "low", "high", "shift"]
def bd_multiplied_1 : Cs :=
  (.cons (.par [6, 7] (.cons (.pr (.blt .max2) (.cons (.pr (.blt .int1) (.cons (.pr (.attr "low") (.cons (.var 5) .nil)) .nil)) (.cons (.pr (.blt .int1) (.cons (.pr (.attr "first") (.cons (.var 4) .nil)) .nil)) .nil))) (.cons (.pr (.blt .min2) (.cons (.pr (.blt .int1) (.cons (.pr (.attr "high") (.cons (.var 5) .nil)) .nil)) (.cons (.pr (.blt .int1) (.cons (.me "Part" "last" sp_Part_last (.var 4) .nil) .nil)) .nil))) .nil)))
  (.cons (.ifs (.pr (.cmp .LtE) (.cons (.var 6) (.cons (.var 7) .nil))) (.cons (.asg 8 (.pr (.bin .Sub) (.cons (.pr (.attr "low") (.cons (.var 4) .nil)) (.cons (.pr (.attr "first") (.cons (.var 4) .nil)) .nil))))
  (.cons (.ex (.bm .append (.var 3) (.cons (.ap (.mk "Part") sp_Part___init__ (.cons (.pr (.bin .Add) (.cons (.var 6) (.cons (.var 8) .nil))) (.cons (.pr (.bin .Add) (.cons (.var 7) (.cons (.var 8) .nil))) (.cons (.me "Part" "result" sp_Part_result (.var 5) (.cons (.var 6) .nil)) (.cons (.pr (.attr "is_rising") (.cons (.var 5) .nil)) .nil))))) .nil))) .nil)) .nil) .nil))
def bd_multiplied_2 : Cs :=
  (.cons (.ifs (.not (.pr (.attr "is_rising") (.cons (.var 4) .nil))) (.cons (.ex (.bm .append (.var 3) (.cons (.ap (.mk "Part") sp_Part___init__ (.cons (.pr (.attr "low") (.cons (.var 4) .nil)) (.cons (.pr (.attr "high") (.cons (.var 4) .nil)) (.cons (.ap (.fn "result_in") sp_result_in (.cons (.var 2) (.cons (.pr (.attr "first") (.cons (.var 4) .nil)) .nil))) (.cons (.con (.bl false)) .nil))))) .nil)))
  (.cons .cont .nil)) .nil)
  (.cons (.fo (.nm 5) (.seq (.var 2)) bd_multiplied_1) .nil))
def ir_multiplied : Cs :=
  (.cons (.ifs (.pr (.cmp .NotEq) (.cons (.pr (.attr "target") (.cons (.var 0) .nil)) (.cons (.pr (.attr "top") (.cons (.var 1) .nil)) .nil))) (.cons .fail .nil) .nil)
  (.cons (.asg 2 (.ap (.fn "parts_of") sp_parts_of (.cons (.var 1) .nil)))
  (.cons (.asg 3 (.pr .nlst .nil))
  (.cons (.fo (.nm 4) (.seq (.ap (.fn "parts_of") sp_parts_of (.cons (.var 0) .nil))) bd_multiplied_2)
  (.cons (.ret (.ap (.fn "made_of") sp_made_of (.cons (.pr (.attr "top") (.cons (.var 0) .nil)) (.cons (.pr (.attr "target") (.cons (.var 1) .nil)) (.cons (.var 3) .nil))))) .nil)))))
theorem pcs_dec {l : List Pc} : tPcs.dec (.tup (l.map Pc.t)) = some l := decs_ok tPc l
theorem normal_len {l : List Pt} : (normal l).length ≤ l.length := by
  cases l with
  | nil => simp [normal, runsOf]
  | cons p ps =>
    have := runs_len ps [begun p] (by simp)
    simp only [normal, runsOf, List.length_map, List.length_cons, List.length_nil] at this ⊢
    omega
theorem does_made_of : Does ir_made_of nm_made_of 3 sp_made_of := by
  intro ws S Q X h
  unfold sp_made_of at h
  split at h
  rotate_left
  · exact h.elim
  rename_i Sx Qx Xx a b w
  obtain ⟨l, hw, hm, hq⟩ := h
  refine ⟨rfl, ?_⟩
  simp only [ir_made_of, nm_made_of, u_normal hw, u_mkPassage pcs_dec, wpCs, wpC, wpE, wpEs, wpI, p_nm, p_tup, p_lst, p_nil, p_cons, if_true, if_false, reduceIte, Bool.false_eq_true, startS, getS, setS, setAll, wipeS, List.map_cons, List.map_nil, List.length_cons, List.length_nil, List.cons_append, List.nil_append, List.append_nil, Nat.reduceAdd, Nat.reduceSub, Nat.zero_add, List.replicate_succ, List.replicate_zero, imAll, Option.map_some, Option.bind_some, exists_eq_left, exists_eq_left', Option.some.injEq, W.im.injEq, T.int.injEq, T.bl.injEq, T.str.injEq, T.tup.injEq, T.lst.injEq, w_bin, w_cmp, w_un, w_blt, w_attr, w_ix, w_sl0, w_sl1, w_sl2, w_rev, w_tup, w_lst, w_nlst, b_addI, b_addS, b_addT, b_addL, b_subI, b_mulI, b_divI, b_modI, b_powI, c_lt, c_le, c_gt, c_ge, c_is, c_isn, c_eqI, c_neI, c_eqB, c_neB, c_eqS, c_neS, c_eqN, c_in, c_nin, n_intI, n_non, u_neg, i_len, i_abs, i_min, i_max, i_intI, i_intB, i_tuple, i_list, i_all, i_any, i_isi, i_sorted, i_max1, i_min1, x_lst, x_tup, x_scr, x_mr, s_tup, s_lst, q_lst, q_tup, q_scr, l_lst, l_scr, ln_lst, k_lst, k_tup, k_scr, k_str, j_ty, j_cls, j_tup, m_app, m_ext, e_set, r_app, r_ext, a_fn, stabW, true_and, and_true]
  have hn := normal_len (l := l)
  exact ⟨hm.1, ⟨by unfold few at *; have := hm.1.2; unfold few at this; omega, hm.2.1, hm.2.2.1, hm.2.2.2⟩, rt_im hq⟩
theorem u_made {a b : Int} {l : List Pt} {S : Sto} {w : W} {Q : VQ} {X : XQ} (hw : lstN S w = some (l.map Pt.t)) : sp_made_of [.im (.int a), .im (.int b), w] S Q X ↔ madeOk a b l ∧ Q (.im (madeOf a b l).t) S := by
  simp only [sp_made_of]
  constructor
  · rintro ⟨l', e, h, q⟩
    rw [hw] at e
    obtain rfl := map_inj (A := tPt) (Option.some.inj e)
    exact ⟨h, q⟩
  · rintro ⟨h, q⟩
    exact ⟨l, hw, h, q⟩
theorem does_extreme_parts : Does ir_extreme_parts nm_extreme_parts 3 sp_extreme_parts := does3 fun a b c one other g S Q X ha hb hc hp hq => by
  obtain rfl := exPt _ _ ha
  obtain rfl := exPt _ _ hb
  obtain rfl := exBl _ _ hc
  show wpCs _ (startS _ [.im one.t, .im other.t, .im (.bl g)]) _ _
  have hq : Q (.im (.lst ((extreme one other g).map Pt.t))) S := hq
  have fin : ∀ t, Q (.im t) S → (exitP S Q X).rt (.im t) S := fun t h => rt_im h
  have s1 : 1 ≤ sizeLine := by decide
  have s2 : 2 ≤ sizeLine := by decide
  unfold extreme at hq
  simp only [ir_extreme_parts, nm_extreme_parts, at_lo, at_hi, at_f, at_r, nf_Pt nf_cut, u_cut, s1, s2, wpCs, wpC, wpE, wpEs, wpI, p_nm, p_tup, p_lst, p_nil, p_cons, if_true, if_false, reduceIte, Bool.false_eq_true, startS, getS, setS, setAll, wipeS, List.map_cons, List.map_nil, List.length_cons, List.length_nil, List.cons_append, List.nil_append, List.append_nil, Nat.reduceAdd, Nat.reduceSub, Nat.zero_add, List.replicate_succ, List.replicate_zero, imAll, Option.map_some, Option.bind_some, exists_eq_left, exists_eq_left', Option.some.injEq, W.im.injEq, T.int.injEq, T.bl.injEq, T.str.injEq, T.tup.injEq, T.lst.injEq, w_bin, w_cmp, w_un, w_blt, w_attr, w_ix, w_sl0, w_sl1, w_sl2, w_rev, w_tup, w_lst, w_nlst, b_addI, b_addS, b_addT, b_addL, b_subI, b_mulI, b_divI, b_modI, b_powI, c_lt, c_le, c_gt, c_ge, c_is, c_isn, c_eqI, c_neI, c_eqB, c_neB, c_eqS, c_neS, c_eqN, c_in, c_nin, n_intI, n_non, u_neg, i_len, i_abs, i_min, i_max, i_intI, i_intB, i_tuple, i_list, i_all, i_any, i_isi, i_sorted, i_max1, i_min1, x_lst, x_tup, x_scr, x_mr, s_tup, s_lst, q_lst, q_tup, q_scr, l_lst, l_scr, ln_lst, k_lst, k_tup, k_scr, k_str, j_ty, j_cls, j_tup, m_app, m_ext, e_set, r_app, r_ext, a_fn, stabW, true_and, and_true]
  by_cases h1 : one.r = other.r
  · simp only [h1, decide_true, wpCs, wpC, wpE, wpEs, wpI, p_nm, p_tup, p_lst, p_nil, p_cons, if_true, if_false, reduceIte, Bool.false_eq_true, startS, getS, setS, setAll, wipeS, List.map_cons, List.map_nil, List.length_cons, List.length_nil, List.cons_append, List.nil_append, List.append_nil, Nat.reduceAdd, Nat.reduceSub, Nat.zero_add, List.replicate_succ, List.replicate_zero, imAll, Option.map_some, Option.bind_some, exists_eq_left, exists_eq_left', Option.some.injEq, W.im.injEq, T.int.injEq, T.bl.injEq, T.str.injEq, T.tup.injEq, T.lst.injEq, w_bin, w_cmp, w_un, w_blt, w_attr, w_ix, w_sl0, w_sl1, w_sl2, w_rev, w_tup, w_lst, w_nlst, b_addI, b_addS, b_addT, b_addL, b_subI, b_mulI, b_divI, b_modI, b_powI, c_lt, c_le, c_gt, c_ge, c_is, c_isn, c_eqI, c_neI, c_eqB, c_neB, c_eqS, c_neS, c_eqN, c_in, c_nin, n_intI, n_non, u_neg, i_len, i_abs, i_min, i_max, i_intI, i_intB, i_tuple, i_list, i_all, i_any, i_isi, i_sorted, i_max1, i_min1, x_lst, x_tup, x_scr, x_mr, s_tup, s_lst, q_lst, q_tup, q_scr, l_lst, l_scr, ln_lst, k_lst, k_tup, k_scr, k_str, j_ty, j_cls, j_tup, m_app, m_ext, e_set, r_app, r_ext, a_fn, stabW, true_and, and_true] at hq ⊢
    by_cases h2 : decide (other.f ≤ one.f) = g
    · simp only [h2, decide_true, wpCs, wpC, wpE, wpEs, wpI, p_nm, p_tup, p_lst, p_nil, p_cons, if_true, if_false, reduceIte, Bool.false_eq_true, startS, getS, setS, setAll, wipeS, List.map_cons, List.map_nil, List.length_cons, List.length_nil, List.cons_append, List.nil_append, List.append_nil, Nat.reduceAdd, Nat.reduceSub, Nat.zero_add, List.replicate_succ, List.replicate_zero, imAll, Option.map_some, Option.bind_some, exists_eq_left, exists_eq_left', Option.some.injEq, W.im.injEq, T.int.injEq, T.bl.injEq, T.str.injEq, T.tup.injEq, T.lst.injEq, w_bin, w_cmp, w_un, w_blt, w_attr, w_ix, w_sl0, w_sl1, w_sl2, w_rev, w_tup, w_lst, w_nlst, b_addI, b_addS, b_addT, b_addL, b_subI, b_mulI, b_divI, b_modI, b_powI, c_lt, c_le, c_gt, c_ge, c_is, c_isn, c_eqI, c_neI, c_eqB, c_neB, c_eqS, c_neS, c_eqN, c_in, c_nin, n_intI, n_non, u_neg, i_len, i_abs, i_min, i_max, i_intI, i_intB, i_tuple, i_list, i_all, i_any, i_isi, i_sorted, i_max1, i_min1, x_lst, x_tup, x_scr, x_mr, s_tup, s_lst, q_lst, q_tup, q_scr, l_lst, l_scr, ln_lst, k_lst, k_tup, k_scr, k_str, j_ty, j_cls, j_tup, m_app, m_ext, e_set, r_app, r_ext, a_fn, stabW, true_and, and_true] at hq ⊢
      exact fin _ hq
    · simp only [h2, decide_false, wpCs, wpC, wpE, wpEs, wpI, p_nm, p_tup, p_lst, p_nil, p_cons, if_true, if_false, reduceIte, Bool.false_eq_true, startS, getS, setS, setAll, wipeS, List.map_cons, List.map_nil, List.length_cons, List.length_nil, List.cons_append, List.nil_append, List.append_nil, Nat.reduceAdd, Nat.reduceSub, Nat.zero_add, List.replicate_succ, List.replicate_zero, imAll, Option.map_some, Option.bind_some, exists_eq_left, exists_eq_left', Option.some.injEq, W.im.injEq, T.int.injEq, T.bl.injEq, T.str.injEq, T.tup.injEq, T.lst.injEq, w_bin, w_cmp, w_un, w_blt, w_attr, w_ix, w_sl0, w_sl1, w_sl2, w_rev, w_tup, w_lst, w_nlst, b_addI, b_addS, b_addT, b_addL, b_subI, b_mulI, b_divI, b_modI, b_powI, c_lt, c_le, c_gt, c_ge, c_is, c_isn, c_eqI, c_neI, c_eqB, c_neB, c_eqS, c_neS, c_eqN, c_in, c_nin, n_intI, n_non, u_neg, i_len, i_abs, i_min, i_max, i_intI, i_intB, i_tuple, i_list, i_all, i_any, i_isi, i_sorted, i_max1, i_min1, x_lst, x_tup, x_scr, x_mr, s_tup, s_lst, q_lst, q_tup, q_scr, l_lst, l_scr, ln_lst, k_lst, k_tup, k_scr, k_str, j_ty, j_cls, j_tup, m_app, m_ext, e_set, r_app, r_ext, a_fn, stabW, true_and, and_true] at hq ⊢
      exact fin _ hq
  · simp only [h1, decide_false, wpCs, wpC, wpE, wpEs, wpI, p_nm, p_tup, p_lst, p_nil, p_cons, if_true, if_false, reduceIte, Bool.false_eq_true, startS, getS, setS, setAll, wipeS, List.map_cons, List.map_nil, List.length_cons, List.length_nil, List.cons_append, List.nil_append, List.append_nil, Nat.reduceAdd, Nat.reduceSub, Nat.zero_add, List.replicate_succ, List.replicate_zero, imAll, Option.map_some, Option.bind_some, exists_eq_left, exists_eq_left', Option.some.injEq, W.im.injEq, T.int.injEq, T.bl.injEq, T.str.injEq, T.tup.injEq, T.lst.injEq, w_bin, w_cmp, w_un, w_blt, w_attr, w_ix, w_sl0, w_sl1, w_sl2, w_rev, w_tup, w_lst, w_nlst, b_addI, b_addS, b_addT, b_addL, b_subI, b_mulI, b_divI, b_modI, b_powI, c_lt, c_le, c_gt, c_ge, c_is, c_isn, c_eqI, c_neI, c_eqB, c_neB, c_eqS, c_neS, c_eqN, c_in, c_nin, n_intI, n_non, u_neg, i_len, i_abs, i_min, i_max, i_intI, i_intB, i_tuple, i_list, i_all, i_any, i_isi, i_sorted, i_max1, i_min1, x_lst, x_tup, x_scr, x_mr, s_tup, s_lst, q_lst, q_tup, q_scr, l_lst, l_scr, ln_lst, k_lst, k_tup, k_scr, k_str, j_ty, j_cls, j_tup, m_app, m_ext, e_set, r_app, r_ext, a_fn, stabW, true_and, and_true] at hq ⊢
    have leaf : ∀ (A B : Prop) [Decidable A] [Decidable B] (x y z : List Pt), Q (.im (.lst (List.map Pt.t (if A then x else if B then y else z)))) S →
        if A then (exitP S Q X).rt (.im (.lst (x.map Pt.t))) S else if B then (exitP S Q X).rt (.im (.lst (y.map Pt.t))) S else (exitP S Q X).rt (.im (.lst (z.map Pt.t))) S := by
      intro A B _ _ x y z h
      by_cases hA : A
      · rw [if_pos hA] at h ⊢
        exact fin _ h
      · rw [if_neg hA] at h ⊢
        by_cases hB : B
        · rw [if_pos hB] at h ⊢
          exact fin _ h
        · rw [if_neg hB] at h ⊢
          exact fin _ h
    simp only [decide_eq_true_eq]
    by_cases hr : one.r = true
    · simp only [hr, if_true] at hq ⊢
      cases g
      · simp only [Bool.false_eq_true, if_false] at hq ⊢
        exact leaf _ _ _ _ _ hq
      · simp only [if_true] at hq ⊢
        exact leaf _ _ _ _ _ hq
    · simp only [hr, if_false] at hq ⊢
      cases g
      · simp only [Bool.false_eq_true, if_false] at hq ⊢
        exact leaf _ _ _ _ _ hq
      · simp only [if_true] at hq ⊢
        exact leaf _ _ _ _ _ hq
theorem u_extreme {a b : Pt} {g : Bool} {S : Sto} {Q : VQ} {X : XQ} : sp_extreme_parts [.im a.t, .im b.t, .im (.bl g)] S Q X ↔ Q (.im (.lst ((extreme a b g).map Pt.t))) S := by
  have h1 := tPt.ok a
  have h2 := tPt.ok b
  simp only [sp_extreme_parts, fsp3, tPt, tBl, tLst] at h1 h2 ⊢
  simp [h1, h2]
/-- the loop of common_parts -/
theorem cm_body {S : Sto} {K : Post} {p q : T} {k : Nat} {here there : List Pt} {acc : List (Pt × Pt)} {i j : Nat} {low : Int} {a b : Pt} {x8 : Option W} (ha : here[i]? = some a) (hb : there[j]? = some b) (hS : S[k]? = some (.lst ((acc.map fun c => T.tup [c.1.t, c.2.t]).map W.im))) (hl : acc.length < sizeLine)
    (kk : K.nx [some (.im p), some (.im q), some (.mr k), some (.im (.lst (here.map Pt.t))), some (.im (.lst (there.map Pt.t))), some (.im (.int ((i : Int) + if decide (a.hi = mn a.hi b.hi) = true then 1 else 0))), some (.im (.int ((j : Int) + if decide (b.hi = mn a.hi b.hi) = true then 1 else 0))), some (.im (.int (mn a.hi b.hi + 1))), some (.im (.int (mn a.hi b.hi)))]
      (S.set k (.lst (((acc ++ [(a.cut low (mn a.hi b.hi), b.cut low (mn a.hi b.hi))]).map fun c => T.tup [c.1.t, c.2.t]).map W.im)))) :
    wpCs bd_common_parts_1 [some (.im p), some (.im q), some (.mr k), some (.im (.lst (here.map Pt.t))), some (.im (.lst (there.map Pt.t))), some (.im (.int (i : Int))), some (.im (.int (j : Int))), some (.im (.int low)), x8] S K := by
  have h1 : atI (here.map Pt.t) (i : Int) = some a.t := atI_nat (by rw [List.getElem?_map, ha]; rfl)
  have h2 : atI (there.map Pt.t) (j : Int) = some b.t := atI_nat (by rw [List.getElem?_map, hb]; rfl)
  have s2 : 2 ≤ sizeLine := by decide
  simp only [bd_common_parts_1, h1, h2, at_hi, nf_Pt nf_cut, u_cut, s2, hS, wpCs, wpC, wpE, wpEs, wpI, p_nm, p_tup, p_lst, p_nil, p_cons, if_true, if_false, reduceIte, Bool.false_eq_true, startS, getS, setS, setAll, wipeS, List.map_cons, List.map_nil, List.length_cons, List.length_nil, List.cons_append, List.nil_append, List.append_nil, Nat.reduceAdd, Nat.reduceSub, Nat.zero_add, List.replicate_succ, List.replicate_zero, imAll, Option.map_some, Option.bind_some, exists_eq_left, exists_eq_left', Option.some.injEq, W.im.injEq, T.int.injEq, T.bl.injEq, T.str.injEq, T.tup.injEq, T.lst.injEq, w_bin, w_cmp, w_un, w_blt, w_attr, w_ix, w_sl0, w_sl1, w_sl2, w_rev, w_tup, w_lst, w_nlst, b_addI, b_addS, b_addT, b_addL, b_subI, b_mulI, b_divI, b_modI, b_powI, c_lt, c_le, c_gt, c_ge, c_is, c_isn, c_eqI, c_neI, c_eqB, c_neB, c_eqS, c_neS, c_eqN, c_in, c_nin, n_intI, n_non, u_neg, i_len, i_abs, i_min, i_max, i_intI, i_intB, i_tuple, i_list, i_all, i_any, i_isi, i_sorted, i_max1, i_min1, x_lst, x_tup, x_scr, x_mr, s_tup, s_lst, q_lst, q_tup, q_scr, l_lst, l_scr, ln_lst, k_lst, k_tup, k_scr, k_str, j_ty, j_cls, j_tup, m_app, m_ext, e_set, r_app, r_ext, a_fn, stabW, true_and, and_true]
  refine ⟨⟨_, rfl⟩, _, rfl, by simpa using hl, ?_⟩
  have : (acc.map fun c => T.tup [c.1.t, c.2.t]).map W.im ++ [.im (.tup [(a.cut low (mn a.hi b.hi)).t, (b.cut low (mn a.hi b.hi)).t])] = ((acc ++ [(a.cut low (mn a.hi b.hi), b.cut low (mn a.hi b.hi))]).map fun c => T.tup [c.1.t, c.2.t]).map W.im := by simp
  rw [← this] at kk
  exact kk
theorem drop_cons {α : Type} {l : List α} {i : Nat} {a : α} {r : List α} (h : l.drop i = a :: r) : l[i]? = some a ∧ l.drop (i + 1) = r ∧ i < l.length := by
  have hi : i < l.length := by
    rcases Nat.lt_or_ge i l.length with z | z
    · exact z
    · rw [List.drop_eq_nil_of_le z] at h
      cases h
  rw [List.drop_eq_getElem_cons hi] at h
  cases h
  exact ⟨List.getElem?_eq_getElem hi, rfl, hi⟩
theorem set_same {S : Sto} {k : Nat} {o : MO} (h : S[k]? = some o) : S.set k o = S := by
  apply List.ext_getElem?
  intro j
  by_cases e : k = j
  · subst e
    rw [get_set h, h]
  · rw [List.getElem?_set_ne e]
theorem drop_nil {α : Type} {l : List α} {i : Nat} (h : l.drop i = []) : l.length ≤ i := List.drop_eq_nil_iff.mp h
theorem mn_or (a b : Int) : a = mn a b ∨ b = mn a b := by
  unfold mn
  split
  · exact .inr rfl
  · exact .inl rfl
theorem cm_cond {S : Sto} {R : VQ} {X : XQ} {p q w2 : W} {here there : List Pt} {i j : Nat} {x7 x8 : Option W} (l1 : here.length + there.length + 10 ≤ sizeLine) (h : R (.im (.bl (decide (i < here.length) && decide (j < there.length)))) S) :
    wpE cn_common_parts_1 [some p, some q, some w2, some (.im (.lst (here.map Pt.t))), some (.im (.lst (there.map Pt.t))), some (.im (.int (i : Int))), some (.im (.int (j : Int))), x7, x8] S R X := by
  simp only [cn_common_parts_1, wpCs, wpC, wpE, wpEs, wpI, p_nm, p_tup, p_lst, p_nil, p_cons, if_true, if_false, reduceIte, Bool.false_eq_true, startS, getS, setS, setAll, wipeS, List.map_cons, List.map_nil, List.length_cons, List.length_nil, List.cons_append, List.nil_append, List.append_nil, Nat.reduceAdd, Nat.reduceSub, Nat.zero_add, List.replicate_succ, List.replicate_zero, imAll, Option.map_some, Option.bind_some, exists_eq_left, exists_eq_left', Option.some.injEq, W.im.injEq, T.int.injEq, T.bl.injEq, T.str.injEq, T.tup.injEq, T.lst.injEq, w_bin, w_cmp, w_un, w_blt, w_attr, w_ix, w_sl0, w_sl1, w_sl2, w_rev, w_tup, w_lst, w_nlst, b_addI, b_addS, b_addT, b_addL, b_subI, b_mulI, b_divI, b_modI, b_powI, c_lt, c_le, c_gt, c_ge, c_is, c_isn, c_eqI, c_neI, c_eqB, c_neB, c_eqS, c_neS, c_eqN, c_in, c_nin, n_intI, n_non, u_neg, i_len, i_abs, i_min, i_max, i_intI, i_intB, i_tuple, i_list, i_all, i_any, i_isi, i_sorted, i_max1, i_min1, x_lst, x_tup, x_scr, x_mr, s_tup, s_lst, q_lst, q_tup, q_scr, l_lst, l_scr, ln_lst, k_lst, k_tup, k_scr, k_str, j_ty, j_cls, j_tup, m_app, m_ext, e_set, r_app, r_ext, a_fn, stabW, true_and, and_true]
  refine ⟨by simp; omega, ?_⟩
  have c1 : decide ((i : Int) < ((here.map Pt.t).length : Int)) = decide (i < here.length) := by simp
  have c2 : decide ((j : Int) < ((there.map Pt.t).length : Int)) = decide (j < there.length) := by simp
  rw [c1, c2]
  by_cases b1 : i < here.length
  · simp only [b1, decide_true, Bool.true_and, if_true] at h ⊢
    exact ⟨by simp; omega, h⟩
  · simp only [b1, decide_false, Bool.false_and, wpCs, wpC, wpE, wpEs, wpI, p_nm, p_tup, p_lst, p_nil, p_cons, if_true, if_false, reduceIte, Bool.false_eq_true, startS, getS, setS, setAll, wipeS, List.map_cons, List.map_nil, List.length_cons, List.length_nil, List.cons_append, List.nil_append, List.append_nil, Nat.reduceAdd, Nat.reduceSub, Nat.zero_add, List.replicate_succ, List.replicate_zero, imAll, Option.map_some, Option.bind_some, exists_eq_left, exists_eq_left', Option.some.injEq, W.im.injEq, T.int.injEq, T.bl.injEq, T.str.injEq, T.tup.injEq, T.lst.injEq, w_bin, w_cmp, w_un, w_blt, w_attr, w_ix, w_sl0, w_sl1, w_sl2, w_rev, w_tup, w_lst, w_nlst, b_addI, b_addS, b_addT, b_addL, b_subI, b_mulI, b_divI, b_modI, b_powI, c_lt, c_le, c_gt, c_ge, c_is, c_isn, c_eqI, c_neI, c_eqB, c_neB, c_eqS, c_neS, c_eqN, c_in, c_nin, n_intI, n_non, u_neg, i_len, i_abs, i_min, i_max, i_intI, i_intB, i_tuple, i_list, i_all, i_any, i_isi, i_sorted, i_max1, i_min1, x_lst, x_tup, x_scr, x_mr, s_tup, s_lst, q_lst, q_tup, q_scr, l_lst, l_scr, ln_lst, k_lst, k_tup, k_scr, k_str, j_ty, j_cls, j_tup, m_app, m_ext, e_set, r_app, r_ext, a_fn, stabW, true_and, and_true] at h ⊢
    exact h
theorem cm_loop {K : Post} {p q : T} {k : Nat} {here there : List Pt} (l1 : here.length + there.length + 10 ≤ sizeLine) : ∀ (n : Nat) (hs ts : List Pt) (i j : Nat) (low : Int) (acc : List (Pt × Pt)) (S : Sto) (x8 : Option W), here.drop i = hs → there.drop j = ts → hs.length + ts.length ≤ n → acc.length + n ≤ here.length + there.length →
    S[k]? = some (.lst ((acc.map fun c => T.tup [c.1.t, c.2.t]).map W.im)) →
    (∀ x5 x6 x7 x8, K.nx [some (.im p), some (.im q), some (.mr k), some (.im (.lst (here.map Pt.t))), some (.im (.lst (there.map Pt.t))), x5, x6, x7, x8] (S.set k (.lst (((acc ++ common n hs ts low).map fun c => T.tup [c.1.t, c.2.t]).map W.im)))) →
    whW (wpE cn_common_parts_1) (wpCs bd_common_parts_1) (n + 1) [some (.im p), some (.im q), some (.mr k), some (.im (.lst (here.map Pt.t))), some (.im (.lst (there.map Pt.t))), some (.im (.int (i : Int))), some (.im (.int (j : Int))), some (.im (.int low)), x8] S K := by
  intro n
  induction n with
  | zero =>
    intro hs ts i j low acc S x8 h1 h2 hl ha hS kk
    have e1 : hs = [] := List.length_eq_zero_iff.mp (by omega)
    subst e1
    have hi := drop_nil h1
    rw [whW]
    refine cm_cond l1 ⟨_, rfl, ?_⟩
    have b1 : decide (i < here.length) = false := by rw [decide_eq_false_iff_not]; omega
    rw [b1, Bool.false_and, if_neg (by decide)]
    have := kk (some (.im (.int (i : Int)))) (some (.im (.int (j : Int)))) (some (.im (.int low))) x8
    rw [show common 0 [] ts low = [] from rfl, List.append_nil, set_same hS] at this
    exact this
  | succ n ih =>
    intro hs ts i j low acc S x8 h1 h2 hl ha hS kk
    rw [whW]
    refine cm_cond l1 ⟨_, rfl, ?_⟩
    have stop : common (n + 1) hs ts low = [] → K.nx [some (.im p), some (.im q), some (.mr k), some (.im (.lst (here.map Pt.t))), some (.im (.lst (there.map Pt.t))), some (.im (.int (i : Int))), some (.im (.int (j : Int))), some (.im (.int low)), x8] S := by
      intro ec
      have fin := kk (some (.im (.int (i : Int)))) (some (.im (.int (j : Int)))) (some (.im (.int low))) x8
      rw [ec, List.append_nil, set_same hS] at fin
      exact fin
    cases hs with
    | nil =>
      have := drop_nil h1
      have b1 : decide (i < here.length) = false := by rw [decide_eq_false_iff_not]; omega
      rw [b1, Bool.false_and, if_neg (by decide)]
      exact stop rfl
    | cons a as =>
      cases ts with
      | nil =>
        have := drop_nil h2
        have b1 : decide (j < there.length) = false := by rw [decide_eq_false_iff_not]; omega
        rw [b1, Bool.and_false, if_neg (by decide)]
        exact stop rfl
      | cons b bs =>
        obtain ⟨ga, da, la⟩ := drop_cons h1
        obtain ⟨gb, db, lb⟩ := drop_cons h2
        rw [decide_eq_true la, decide_eq_true lb, Bool.and_true, if_pos rfl]
        refine cm_body ga gb hS (by omega) ?_
        dsimp only
        have ci : ∀ (i : Nat) (c : Prop) [Decidable c], ((i : Int) + if decide c = true then 1 else 0) = ((i + (if c then 1 else 0) : Nat) : Int) := by
          intro i c _
          by_cases h : c <;> simp [h]
        rw [ci, ci]
        have dr : ∀ {l : List Pt} {i : Nat} {a : Pt} {as : List Pt} (c : Prop) [Decidable c], l.drop i = a :: as → l.drop (i + 1) = as → l.drop (i + (if c then 1 else 0)) = if c then as else a :: as := by
          intro l i a as c _ e1 e2
          by_cases h : c
          · rw [if_pos h, if_pos h]; exact e2
          · rw [if_neg h, if_neg h]; exact e1
        refine ih (if a.hi = mn a.hi b.hi then as else a :: as) (if b.hi = mn a.hi b.hi then bs else b :: bs) _ _ (mn a.hi b.hi + 1) (acc ++ [(a.cut low (mn a.hi b.hi), b.cut low (mn a.hi b.hi))]) _ _ (dr _ h1 da) (dr _ h2 db) ?_ ?_ (get_set hS) ?_
        · have e0 : (a :: as).length + (b :: bs).length ≤ n + 1 := hl
          simp only [List.length_cons] at e0
          rcases mn_or a.hi b.hi with z | z
          · rw [if_pos z]
            split <;> (try simp only [List.length_cons]) <;> omega
          · rw [if_pos z]
            split <;> (try simp only [List.length_cons]) <;> omega
        · simp only [List.length_append, List.length_cons, List.length_nil]
          omega
        · intro x5 x6 x7 x8
          rw [List.set_set, List.append_assoc]
          exact kk x5 x6 x7 x8
theorem does_common_parts : Does ir_common_parts nm_common_parts 2 sp_common_parts := does2 fun a b p q S Q X ha hb hp hq => by
  obtain rfl := exPs _ _ ha
  obtain rfl := exPs _ _ hb
  have hz : sizeLine = 16777216 := rfl
  unfold few at hp
  show wpCs _ (startS _ [.im p.t, .im q.t]) _ _
  have hq : Q (.im (.lst ((commonOf p q).map fun c => T.tup [c.1.t, c.2.t]))) S := hq
  simp only [ir_common_parts, nm_common_parts, u_parts, wpCs, wpC, wpE, wpEs, wpI, p_nm, p_tup, p_lst, p_nil, p_cons, if_true, if_false, reduceIte, Bool.false_eq_true, startS, getS, setS, setAll, wipeS, List.map_cons, List.map_nil, List.length_cons, List.length_nil, List.cons_append, List.nil_append, List.append_nil, Nat.reduceAdd, Nat.reduceSub, Nat.zero_add, List.replicate_succ, List.replicate_zero, imAll, Option.map_some, Option.bind_some, exists_eq_left, exists_eq_left', Option.some.injEq, W.im.injEq, T.int.injEq, T.bl.injEq, T.str.injEq, T.tup.injEq, T.lst.injEq, w_bin, w_cmp, w_un, w_blt, w_attr, w_ix, w_sl0, w_sl1, w_sl2, w_rev, w_tup, w_lst, w_nlst, b_addI, b_addS, b_addT, b_addL, b_subI, b_mulI, b_divI, b_modI, b_powI, c_lt, c_le, c_gt, c_ge, c_is, c_isn, c_eqI, c_neI, c_eqB, c_neB, c_eqS, c_neS, c_eqN, c_in, c_nin, n_intI, n_non, u_neg, i_len, i_abs, i_min, i_max, i_intI, i_intB, i_tuple, i_list, i_all, i_any, i_isi, i_sorted, i_max1, i_min1, x_lst, x_tup, x_scr, x_mr, s_tup, s_lst, q_lst, q_tup, q_scr, l_lst, l_scr, ln_lst, k_lst, k_tup, k_scr, k_str, j_ty, j_cls, j_tup, m_app, m_ext, e_set, r_app, r_ext, a_fn, stabW, true_and, and_true]
  refine ⟨by unfold few; omega, by unfold few; omega, by omega, _, cm_loop (n := p.pcs.length + q.pcs.length) (k := S.length) (by rw [partsOf_len, partsOf_len]; omega) (partsOf p.top p.pcs) (partsOf q.top q.pcs) 0 0 0 [] _ none rfl rfl (by rw [partsOf_len, partsOf_len]; exact Nat.le_refl _) (by rw [partsOf_len, partsOf_len]; simp) (by simp) ?_⟩
  intro x5 x6 x7 x8
  simp only [List.nil_append, wpCs, wpC, wpE, wpEs, wpI, p_nm, p_tup, p_lst, p_nil, p_cons, if_true, if_false, reduceIte, Bool.false_eq_true, startS, getS, setS, setAll, wipeS, List.map_cons, List.map_nil, List.length_cons, List.length_nil, List.cons_append, List.nil_append, List.append_nil, Nat.reduceAdd, Nat.reduceSub, Nat.zero_add, List.replicate_succ, List.replicate_zero, imAll, Option.map_some, Option.bind_some, exists_eq_left, exists_eq_left', Option.some.injEq, W.im.injEq, T.int.injEq, T.bl.injEq, T.str.injEq, T.tup.injEq, T.lst.injEq, w_bin, w_cmp, w_un, w_blt, w_attr, w_ix, w_sl0, w_sl1, w_sl2, w_rev, w_tup, w_lst, w_nlst, b_addI, b_addS, b_addT, b_addL, b_subI, b_mulI, b_divI, b_modI, b_powI, c_lt, c_le, c_gt, c_ge, c_is, c_isn, c_eqI, c_neI, c_eqB, c_neB, c_eqS, c_neS, c_eqN, c_in, c_nin, n_intI, n_non, u_neg, i_len, i_abs, i_min, i_max, i_intI, i_intB, i_tuple, i_list, i_all, i_any, i_isi, i_sorted, i_max1, i_min1, x_lst, x_tup, x_scr, x_mr, s_tup, s_lst, q_lst, q_tup, q_scr, l_lst, l_scr, ln_lst, k_lst, k_tup, k_scr, k_str, j_ty, j_cls, j_tup, m_app, m_ext, e_set, r_app, r_ext, a_fn, stabW, true_and, and_true]
  have : (S ++ [MO.lst []]).set S.length (.lst (((commonOf p q).map fun c => T.tup [c.1.t, c.2.t]).map W.im)) = S ++ [.lst (((commonOf p q).map fun c => T.tup [c.1.t, c.2.t]).map W.im)] := by
    rw [List.set_append_right _ _ (Nat.le_refl _), Nat.sub_self]
    rfl
  have key := rt_lst (X := X) (L := []) hq
  rw [← this] at key
  exact key
theorem u_common {p q : Ps} {S : Sto} {Q : VQ} {X : XQ} : sp_common_parts [.im p.t, .im q.t] S Q X ↔ few (p.pcs.length + q.pcs.length) ∧ Q (.im (.lst ((commonOf p q).map fun c => T.tup [c.1.t, c.2.t]))) S := by
  have h1 := tPs.ok p
  have h2 := tPs.ok q
  simp only [sp_common_parts, fsp2, tPs, tPt, tLst, tPair] at h1 h2 ⊢
  simp [h1, h2]
theorem common_len : ∀ (n : Nat) (a b : List Pt) (l : Int), (common n a b l).length ≤ n
  | 0, a, b, l => by simp [common]
  | n + 1, [], b, l => by simp [common]
  | n + 1, a :: as, [], l => by simp [common]
  | n + 1, a :: as, b :: bs, l => by
    rw [common, List.length_cons]
    have := common_len n (if a.hi = mn a.hi b.hi then as else a :: as) (if b.hi = mn a.hi b.hi then bs else b :: bs) (mn a.hi b.hi + 1)
    omega
theorem extreme_len {a b : Pt} {g : Bool} : (extreme a b g).length ≤ 2 ∧ extreme a b g ≠ [] := by
  unfold extreme
  have key : ∀ (A B : Prop) [Decidable A] [Decidable B] (x y z w : Pt), (if A then [x] else if B then [y] else [z, w]).length ≤ 2 ∧ (if A then [x] else if B then [y] else [z, w]) ≠ [] := by
    intro A B _ _ x y z w
    by_cases hA : A
    · rw [if_pos hA]; simp
    · rw [if_neg hA]
      by_cases hB : B
      · rw [if_pos hB]; simp
      · rw [if_neg hB]; simp
  by_cases h : a.r = b.r
  · rw [if_pos h]; simp
  · rw [if_neg h]
    exact key _ _ _ _ _ _
theorem jn_body {S : Sto} {K : Post} {p q : W} {g : Bool} {k : Nat} {acc : List Pt} {a b : Pt} (hS : S[k]? = some (.lst ((acc.map Pt.t).map W.im))) (hl : acc.length + 2 ≤ sizeLine)
    (kk : K.nx [some p, some q, some (.im (.bl g)), some (.mr k), some (.im a.t), some (.im b.t)] (S.set k (.lst (((acc ++ extreme a b g).map Pt.t).map W.im)))) :
    wpCs bd_joined_1 [some p, some q, some (.im (.bl g)), some (.mr k), some (.im a.t), some (.im b.t)] S K := by
  have he := extreme_len (a := a) (b := b) (g := g)
  simp only [bd_joined_1, hS, u_extreme, wpCs, wpC, wpE, wpEs, wpI, p_nm, p_tup, p_lst, p_nil, p_cons, if_true, if_false, reduceIte, Bool.false_eq_true, startS, getS, setS, setAll, wipeS, List.map_cons, List.map_nil, List.length_cons, List.length_nil, List.cons_append, List.nil_append, List.append_nil, Nat.reduceAdd, Nat.reduceSub, Nat.zero_add, List.replicate_succ, List.replicate_zero, imAll, Option.map_some, Option.bind_some, exists_eq_left, exists_eq_left', Option.some.injEq, W.im.injEq, T.int.injEq, T.bl.injEq, T.str.injEq, T.tup.injEq, T.lst.injEq, w_bin, w_cmp, w_un, w_blt, w_attr, w_ix, w_sl0, w_sl1, w_sl2, w_rev, w_tup, w_lst, w_nlst, b_addI, b_addS, b_addT, b_addL, b_subI, b_mulI, b_divI, b_modI, b_powI, c_lt, c_le, c_gt, c_ge, c_is, c_isn, c_eqI, c_neI, c_eqB, c_neB, c_eqS, c_neS, c_eqN, c_in, c_nin, n_intI, n_non, u_neg, i_len, i_abs, i_min, i_max, i_intI, i_intB, i_tuple, i_list, i_all, i_any, i_isi, i_sorted, i_max1, i_min1, x_lst, x_tup, x_scr, x_mr, s_tup, s_lst, q_lst, q_tup, q_scr, l_lst, l_scr, ln_lst, k_lst, k_tup, k_scr, k_str, j_ty, j_cls, j_tup, m_app, m_ext, e_set, r_app, r_ext, a_fn, stabW, true_and, and_true]
  refine ⟨⟨_, rfl⟩, _, rfl, by simp; omega, ?_⟩
  rw [List.map_append, List.map_append] at kk
  exact kk
theorem jn_loop {K : Post} {p q : W} {g : Bool} {k : Nat} {stab : Sto → Prop} (hs : ∀ S, stab S) : ∀ (cs : List (Pt × Pt)) (acc : List Pt) (S : Sto) (x4 x5 : Option W), S[k]? = some (.lst ((acc.map Pt.t).map W.im)) → acc.length + 2 * cs.length + 2 ≤ sizeLine →
    (∀ x4 x5, K.nx [some p, some q, some (.im (.bl g)), some (.mr k), x4, x5] (S.set k (.lst (((acc ++ cs.flatMap fun c => extreme c.1 c.2 g).map Pt.t).map W.im)))) →
    forW (wpCs bd_joined_1) (.tp (.cons (.nm 4) (.cons (.nm 5) .nil))) stab (cs.map fun c => T.tup [c.1.t, c.2.t]) [some p, some q, some (.im (.bl g)), some (.mr k), x4, x5] S K
  | [], acc, S, x4, x5, hS, hl, kk => by
    rw [List.map_nil, forW]
    refine ⟨hs S, ?_⟩
    have := kk x4 x5
    rw [List.flatMap_nil, List.append_nil, set_same hS] at this
    exact this
  | c :: cs, acc, S, x4, x5, hS, hl, kk => by
    rw [List.map_cons, forW]
    refine ⟨hs S, ?_⟩
    simp only [List.length_cons] at hl
    simp only [p_nm, p_tup, p_cons, p_nil, setS]
    refine jn_body hS (by omega) ?_
    have he := extreme_len (a := c.1) (b := c.2) (g := g)
    refine jn_loop hs cs (acc ++ extreme c.1 c.2 g) _ _ _ (get_set hS) (by simp; omega) fun x4 x5 => ?_
    rw [List.set_set, List.append_assoc]
    exact kk x4 x5
theorem lstN_set {S : Sto} {k : Nat} {ts : List T} (h : S[k]? = some (.lst (ts.map W.im))) : lstN S (.mr k) = some ts := by
  show (match S[k]? with | some (.lst ws) => imAll ws | _ => none) = _
  rw [h]
  exact imAll_map ts
theorem does_joined : Does ir_joined nm_joined 3 sp_joined := does3 fun a b c p q g S Q X ha hb hc hp hq => by
  obtain rfl := exPs _ _ ha
  obtain rfl := exPs _ _ hb
  obtain rfl := exBl _ _ hc
  obtain ⟨h1, h2, h3, h4⟩ := hp
  have hz : sizeLine = 16777216 := rfl
  show wpCs _ (startS _ [.im p.t, .im q.t, .im (.bl g)]) _ _
  have cl := common_len (p.pcs.length + q.pcs.length) (partsOf p.top p.pcs) (partsOf q.top q.pcs) 0
  have h3' := h3
  unfold few at h3'
  simp only [ir_joined, nm_joined, at_top, at_tgt, h1, h2, u_common, decide_true, Bool.not_true, wpCs, wpC, wpE, wpEs, wpI, p_nm, p_tup, p_lst, p_nil, p_cons, if_true, if_false, reduceIte, Bool.false_eq_true, startS, getS, setS, setAll, wipeS, List.map_cons, List.map_nil, List.length_cons, List.length_nil, List.cons_append, List.nil_append, List.append_nil, Nat.reduceAdd, Nat.reduceSub, Nat.zero_add, List.replicate_succ, List.replicate_zero, imAll, Option.map_some, Option.bind_some, exists_eq_left, exists_eq_left', Option.some.injEq, W.im.injEq, T.int.injEq, T.bl.injEq, T.str.injEq, T.tup.injEq, T.lst.injEq, w_bin, w_cmp, w_un, w_blt, w_attr, w_ix, w_sl0, w_sl1, w_sl2, w_rev, w_tup, w_lst, w_nlst, b_addI, b_addS, b_addT, b_addL, b_subI, b_mulI, b_divI, b_modI, b_powI, c_lt, c_le, c_gt, c_ge, c_is, c_isn, c_eqI, c_neI, c_eqB, c_neB, c_eqS, c_neS, c_eqN, c_in, c_nin, n_intI, n_non, u_neg, i_len, i_abs, i_min, i_max, i_intI, i_intB, i_tuple, i_list, i_all, i_any, i_isi, i_sorted, i_max1, i_min1, x_lst, x_tup, x_scr, x_mr, s_tup, s_lst, q_lst, q_tup, q_scr, l_lst, l_scr, ln_lst, k_lst, k_tup, k_scr, k_str, j_ty, j_cls, j_tup, m_app, m_ext, e_set, r_app, r_ext, a_fn, stabW, true_and, and_true]
  refine ⟨by omega, h3, ?_⟩
  refine jn_loop (fun _ => trivial) (commonOf p q) [] _ _ _ (k := S.length) (by simp) (by unfold commonOf; simp; omega) fun x4 x5 => ?_
  simp only [List.nil_append, at_top, at_tgt, wpCs, wpC, wpE, wpEs, wpI, p_nm, p_tup, p_lst, p_nil, p_cons, if_true, if_false, reduceIte, Bool.false_eq_true, startS, getS, setS, setAll, wipeS, List.map_cons, List.map_nil, List.length_cons, List.length_nil, List.cons_append, List.nil_append, List.append_nil, Nat.reduceAdd, Nat.reduceSub, Nat.zero_add, List.replicate_succ, List.replicate_zero, imAll, Option.map_some, Option.bind_some, exists_eq_left, exists_eq_left', Option.some.injEq, W.im.injEq, T.int.injEq, T.bl.injEq, T.str.injEq, T.tup.injEq, T.lst.injEq, w_bin, w_cmp, w_un, w_blt, w_attr, w_ix, w_sl0, w_sl1, w_sl2, w_rev, w_tup, w_lst, w_nlst, b_addI, b_addS, b_addT, b_addL, b_subI, b_mulI, b_divI, b_modI, b_powI, c_lt, c_le, c_gt, c_ge, c_is, c_isn, c_eqI, c_neI, c_eqB, c_neB, c_eqS, c_neS, c_eqN, c_in, c_nin, n_intI, n_non, u_neg, i_len, i_abs, i_min, i_max, i_intI, i_intB, i_tuple, i_list, i_all, i_any, i_isi, i_sorted, i_max1, i_min1, x_lst, x_tup, x_scr, x_mr, s_tup, s_lst, q_lst, q_tup, q_scr, l_lst, l_scr, ln_lst, k_lst, k_tup, k_scr, k_str, j_ty, j_cls, j_tup, m_app, m_ext, e_set, r_app, r_ext, a_fn, stabW, true_and, and_true]
  have e0 : (S ++ [MO.lst []]).set S.length (.lst (((joinParts p q g).map Pt.t).map W.im)) = S ++ [.lst (((joinParts p q g).map Pt.t).map W.im)] := by
    rw [List.set_append_right _ _ (Nat.le_refl _), Nat.sub_self]
    rfl
  show sp_made_of [.im (.int p.top), .im (.int p.tgt), .mr S.length] ((S ++ [MO.lst []]).set S.length (.lst (((joinParts p q g).map Pt.t).map W.im))) _ _
  rw [e0]
  rw [u_made (l := joinParts p q g) (lstN_set (by simp))]
  exact ⟨h4, rt_more hq⟩
theorem does_result_in : Does ir_result_in nm_result_in 2 sp_result_in := does2 fun a b l x S Q X ha hb hp hq => by
  obtain rfl := exLst exPt _ _ ha
  obtain rfl := exInt _ _ hb
  obtain ⟨hf, hn⟩ := hp
  have hz := few_sz hf
  show wpCs _ (startS _ [.im (.lst (l.map Pt.t)), .im (.int x)]) _ _
  simp only [ir_result_in, nm_result_in, wpCs, wpC, wpE, wpEs, wpI, p_nm, p_tup, p_lst, p_nil, p_cons, if_true, if_false, reduceIte, Bool.false_eq_true, startS, getS, setS, setAll, wipeS, List.map_cons, List.map_nil, List.length_cons, List.length_nil, List.cons_append, List.nil_append, List.append_nil, Nat.reduceAdd, Nat.reduceSub, Nat.zero_add, List.replicate_succ, List.replicate_zero, imAll, Option.map_some, Option.bind_some, exists_eq_left, exists_eq_left', Option.some.injEq, W.im.injEq, T.int.injEq, T.bl.injEq, T.str.injEq, T.tup.injEq, T.lst.injEq, w_bin, w_cmp, w_un, w_blt, w_attr, w_ix, w_sl0, w_sl1, w_sl2, w_rev, w_tup, w_lst, w_nlst, b_addI, b_addS, b_addT, b_addL, b_subI, b_mulI, b_divI, b_modI, b_powI, c_lt, c_le, c_gt, c_ge, c_is, c_isn, c_eqI, c_neI, c_eqB, c_neB, c_eqS, c_neS, c_eqN, c_in, c_nin, n_intI, n_non, u_neg, i_len, i_abs, i_min, i_max, i_intI, i_intB, i_tuple, i_list, i_all, i_any, i_isi, i_sorted, i_max1, i_min1, x_lst, x_tup, x_scr, x_mr, s_tup, s_lst, q_lst, q_tup, q_scr, l_lst, l_scr, ln_lst, k_lst, k_tup, k_scr, k_str, j_ty, j_cls, j_tup, m_app, m_ext, e_set, r_app, r_ext, a_fn, stabW, true_and, and_true]
  refine lc_filter (α := Pt) Pt.t (fun p => .int (p.res x)) (inPt x) trivial l [] _ (by simp; omega) (fun p _ => ?_) ?_
  · simp only [p_nm, setS, getS, at_lo, at_hi, nf_Pt nf_result, u_result, wpCs, wpC, wpE, wpEs, wpI, p_nm, p_tup, p_lst, p_nil, p_cons, if_true, if_false, reduceIte, Bool.false_eq_true, startS, getS, setS, setAll, wipeS, List.map_cons, List.map_nil, List.length_cons, List.length_nil, List.cons_append, List.nil_append, List.append_nil, Nat.reduceAdd, Nat.reduceSub, Nat.zero_add, List.replicate_succ, List.replicate_zero, imAll, Option.map_some, Option.bind_some, exists_eq_left, exists_eq_left', Option.some.injEq, W.im.injEq, T.int.injEq, T.bl.injEq, T.str.injEq, T.tup.injEq, T.lst.injEq, w_bin, w_cmp, w_un, w_blt, w_attr, w_ix, w_sl0, w_sl1, w_sl2, w_rev, w_tup, w_lst, w_nlst, b_addI, b_addS, b_addT, b_addL, b_subI, b_mulI, b_divI, b_modI, b_powI, c_lt, c_le, c_gt, c_ge, c_is, c_isn, c_eqI, c_neI, c_eqB, c_neB, c_eqS, c_neS, c_eqN, c_in, c_nin, n_intI, n_non, u_neg, i_len, i_abs, i_min, i_max, i_intI, i_intB, i_tuple, i_list, i_all, i_any, i_isi, i_sorted, i_max1, i_min1, x_lst, x_tup, x_scr, x_mr, s_tup, s_lst, q_lst, q_tup, q_scr, l_lst, l_scr, ln_lst, k_lst, k_tup, k_scr, k_str, j_ty, j_cls, j_tup, m_app, m_ext, e_set, r_app, r_ext, a_fn, stabW, true_and, and_true]
    refine ⟨fun R hR => ?_, fun _ R hR => hR⟩
    unfold inPt at hR
    by_cases h : p.lo ≤ x
    · simp only [h, decide_true, Bool.true_and, if_true] at hR ⊢
      exact hR
    · simp only [h, decide_false, Bool.false_and, wpCs, wpC, wpE, wpEs, wpI, p_nm, p_tup, p_lst, p_nil, p_cons, if_true, if_false, reduceIte, Bool.false_eq_true, startS, getS, setS, setAll, wipeS, List.map_cons, List.map_nil, List.length_cons, List.length_nil, List.cons_append, List.nil_append, List.append_nil, Nat.reduceAdd, Nat.reduceSub, Nat.zero_add, List.replicate_succ, List.replicate_zero, imAll, Option.map_some, Option.bind_some, exists_eq_left, exists_eq_left', Option.some.injEq, W.im.injEq, T.int.injEq, T.bl.injEq, T.str.injEq, T.tup.injEq, T.lst.injEq, w_bin, w_cmp, w_un, w_blt, w_attr, w_ix, w_sl0, w_sl1, w_sl2, w_rev, w_tup, w_lst, w_nlst, b_addI, b_addS, b_addT, b_addL, b_subI, b_mulI, b_divI, b_modI, b_powI, c_lt, c_le, c_gt, c_ge, c_is, c_isn, c_eqI, c_neI, c_eqB, c_neB, c_eqS, c_neS, c_eqN, c_in, c_nin, n_intI, n_non, u_neg, i_len, i_abs, i_min, i_max, i_intI, i_intB, i_tuple, i_list, i_all, i_any, i_isi, i_sorted, i_max1, i_min1, x_lst, x_tup, x_scr, x_mr, s_tup, s_lst, q_lst, q_tup, q_scr, l_lst, l_scr, ln_lst, k_lst, k_tup, k_scr, k_str, j_ty, j_cls, j_tup, m_app, m_ext, e_set, r_app, r_ext, a_fn, stabW, true_and, and_true] at hR ⊢
      exact hR
  · simp only [List.nil_append]
    cases h : l.filter (inPt x) with
    | nil => exact absurd h hn
    | cons p r =>
      refine ⟨_, at0, rt_im ?_⟩
      have hq : Q (.im (.int (resIn l x))) S := hq
      unfold resIn at hq
      rw [h] at hq
      exact hq
theorem u_resIn {l : List Pt} {x : Int} {S : Sto} {Q : VQ} {X : XQ} : sp_result_in [.im (.lst (l.map Pt.t)), .im (.int x)] S Q X ↔ (few l.length ∧ l.filter (inPt x) ≠ []) ∧ Q (.im (.int (resIn l x))) S := by
  have h1 := (tLst tPt).ok l
  simp only [sp_result_in, fsp2, tPt, tLst, tInt] at h1 ⊢
  simp only [h1, exists_eq_left', Option.some.injEq]
theorem ml_body {S : Sto} {K : Post} {p q w2 : W} {k : Nat} {acc : List Pt} {a o : Pt} {x6 x7 x8 : Option W} (hS : S[k]? = some (.lst ((acc.map Pt.t).map W.im))) (hl : acc.length < sizeLine)
    (kk : ∀ x6 x7 x8, K.nx [some p, some q, some w2, some (.mr k), some (.im a.t), some (.im o.t), x6, x7, x8] (S.set k (.lst (((acc ++ mulOne a o).map Pt.t).map W.im)))) :
    wpCs bd_multiplied_1 [some p, some q, some w2, some (.mr k), some (.im a.t), some (.im o.t), x6, x7, x8] S K := by
  simp only [bd_multiplied_1, at_lo, at_hi, at_f, at_r, nf_Pt nf_last, nf_Pt nf_result, u_last, u_result, hS, u_mkPart, wpCs, wpC, wpE, wpEs, wpI, p_nm, p_tup, p_lst, p_nil, p_cons, if_true, if_false, reduceIte, Bool.false_eq_true, startS, getS, setS, setAll, wipeS, List.map_cons, List.map_nil, List.length_cons, List.length_nil, List.cons_append, List.nil_append, List.append_nil, Nat.reduceAdd, Nat.reduceSub, Nat.zero_add, List.replicate_succ, List.replicate_zero, imAll, Option.map_some, Option.bind_some, exists_eq_left, exists_eq_left', Option.some.injEq, W.im.injEq, T.int.injEq, T.bl.injEq, T.str.injEq, T.tup.injEq, T.lst.injEq, w_bin, w_cmp, w_un, w_blt, w_attr, w_ix, w_sl0, w_sl1, w_sl2, w_rev, w_tup, w_lst, w_nlst, b_addI, b_addS, b_addT, b_addL, b_subI, b_mulI, b_divI, b_modI, b_powI, c_lt, c_le, c_gt, c_ge, c_is, c_isn, c_eqI, c_neI, c_eqB, c_neB, c_eqS, c_neS, c_eqN, c_in, c_nin, n_intI, n_non, u_neg, i_len, i_abs, i_min, i_max, i_intI, i_intB, i_tuple, i_list, i_all, i_any, i_isi, i_sorted, i_max1, i_min1, x_lst, x_tup, x_scr, x_mr, s_tup, s_lst, q_lst, q_tup, q_scr, l_lst, l_scr, ln_lst, k_lst, k_tup, k_scr, k_str, j_ty, j_cls, j_tup, m_app, m_ext, e_set, r_app, r_ext, a_fn, stabW, true_and, and_true]
  have m1 : (if a.f > o.lo then a.f else o.lo) = mx o.lo a.f := rfl
  have m2 : (if a.last < o.hi then a.last else o.hi) = mn o.hi a.last := rfl
  simp only [m1, m2]
  unfold mulOne at kk
  by_cases h : mx o.lo a.f ≤ mn o.hi a.last
  · simp only [h, decide_true, if_true] at kk ⊢
    refine ⟨⟨_, rfl⟩, _, rfl, by simpa using hl, ?_⟩
    have := kk (some (.im (.int (mx o.lo a.f)))) (some (.im (.int (mn o.hi a.last)))) (some (.im (.int (a.lo - a.f))))
    rw [List.map_append, List.map_append] at this
    exact this
  · simp only [h, decide_false, Bool.false_eq_true, if_false] at kk ⊢
    have := kk (some (.im (.int (mx o.lo a.f)))) (some (.im (.int (mn o.hi a.last)))) x8
    rw [List.append_nil, set_same hS] at this
    exact this
theorem mulOne_len {a o : Pt} : (mulOne a o).length ≤ 1 := by
  unfold mulOne
  split <;> simp
theorem ml_loop {K : Post} {p q w2 : W} {k : Nat} {a : Pt} {stab : Sto → Prop} (hs : ∀ S, stab S) : ∀ (os acc : List Pt) (S : Sto) (x5 x6 x7 x8 : Option W), S[k]? = some (.lst ((acc.map Pt.t).map W.im)) → acc.length + os.length ≤ sizeLine →
    (∀ x5 x6 x7 x8, K.nx [some p, some q, some w2, some (.mr k), some (.im a.t), x5, x6, x7, x8] (S.set k (.lst (((acc ++ os.flatMap (mulOne a)).map Pt.t).map W.im)))) →
    forW (wpCs bd_multiplied_1) (.nm 5) stab (os.map Pt.t) [some p, some q, some w2, some (.mr k), some (.im a.t), x5, x6, x7, x8] S K
  | [], acc, S, x5, x6, x7, x8, hS, hl, kk => by
    rw [List.map_nil, forW]
    refine ⟨hs S, ?_⟩
    have := kk x5 x6 x7 x8
    rw [List.flatMap_nil, List.append_nil, set_same hS] at this
    exact this
  | o :: os, acc, S, x5, x6, x7, x8, hS, hl, kk => by
    rw [List.map_cons, forW]
    refine ⟨hs S, ?_⟩
    simp only [List.length_cons] at hl
    rw [p_nm]
    have h1 := mulOne_len (a := a) (o := o)
    refine ml_body hS (by omega) fun x6 x7 x8 => ?_
    refine ml_loop hs os (acc ++ mulOne a o) _ _ _ _ _ (get_set hS) (by simp; omega) fun x5 x6 x7 x8 => ?_
    rw [List.set_set, List.append_assoc]
    exact kk x5 x6 x7 x8
theorem mp_body {S : Sto} {K : Post} {p q : W} {k : Nat} {acc os : List Pt} {a : Pt} {x5 x6 x7 x8 : Option W} (hS : S[k]? = some (.lst ((acc.map Pt.t).map W.im))) (hl : acc.length + os.length < sizeLine) (hf : few os.length) (hn : a.r = false → os.filter (inPt a.f) ≠ [])
    (kk : ∀ x5 x6 x7 x8, K.nx [some p, some q, some (.im (.lst (os.map Pt.t))), some (.mr k), some (.im a.t), x5, x6, x7, x8] (S.set k (.lst (((acc ++ mulPart os a).map Pt.t).map W.im))))
    (kc : ∀ x5 x6 x7 x8, K.ct [some p, some q, some (.im (.lst (os.map Pt.t))), some (.mr k), some (.im a.t), x5, x6, x7, x8] (S.set k (.lst (((acc ++ mulPart os a).map Pt.t).map W.im)))) :
    wpCs bd_multiplied_2 [some p, some q, some (.im (.lst (os.map Pt.t))), some (.mr k), some (.im a.t), x5, x6, x7, x8] S K := by
  unfold mulPart at kk kc
  cases hr : a.r with
  | false =>
    rw [if_pos hr] at kk kc
    simp only [bd_multiplied_2, at_lo, at_hi, at_f, at_r, hr, Bool.not_false, hS, u_resIn, u_mkPart, wpCs, wpC, wpE, wpEs, wpI, p_nm, p_tup, p_lst, p_nil, p_cons, if_true, if_false, reduceIte, Bool.false_eq_true, startS, getS, setS, setAll, wipeS, List.map_cons, List.map_nil, List.length_cons, List.length_nil, List.cons_append, List.nil_append, List.append_nil, Nat.reduceAdd, Nat.reduceSub, Nat.zero_add, List.replicate_succ, List.replicate_zero, imAll, Option.map_some, Option.bind_some, exists_eq_left, exists_eq_left', Option.some.injEq, W.im.injEq, T.int.injEq, T.bl.injEq, T.str.injEq, T.tup.injEq, T.lst.injEq, w_bin, w_cmp, w_un, w_blt, w_attr, w_ix, w_sl0, w_sl1, w_sl2, w_rev, w_tup, w_lst, w_nlst, b_addI, b_addS, b_addT, b_addL, b_subI, b_mulI, b_divI, b_modI, b_powI, c_lt, c_le, c_gt, c_ge, c_is, c_isn, c_eqI, c_neI, c_eqB, c_neB, c_eqS, c_neS, c_eqN, c_in, c_nin, n_intI, n_non, u_neg, i_len, i_abs, i_min, i_max, i_intI, i_intB, i_tuple, i_list, i_all, i_any, i_isi, i_sorted, i_max1, i_min1, x_lst, x_tup, x_scr, x_mr, s_tup, s_lst, q_lst, q_tup, q_scr, l_lst, l_scr, ln_lst, k_lst, k_tup, k_scr, k_str, j_ty, j_cls, j_tup, m_app, m_ext, e_set, r_app, r_ext, a_fn, stabW, true_and, and_true]
    refine ⟨⟨_, rfl⟩, ⟨hf, hn hr⟩, _, rfl, by simp; omega, ?_⟩
    have := kc x5 x6 x7 x8
    rw [List.map_append, List.map_append] at this
    exact this
  | true =>
    rw [if_neg (by simp [hr])] at kk kc
    simp only [bd_multiplied_2, at_r, hr, Bool.not_true, wpCs, wpC, wpE, wpEs, wpI, p_nm, p_tup, p_lst, p_nil, p_cons, if_true, if_false, reduceIte, Bool.false_eq_true, startS, getS, setS, setAll, wipeS, List.map_cons, List.map_nil, List.length_cons, List.length_nil, List.cons_append, List.nil_append, List.append_nil, Nat.reduceAdd, Nat.reduceSub, Nat.zero_add, List.replicate_succ, List.replicate_zero, imAll, Option.map_some, Option.bind_some, exists_eq_left, exists_eq_left', Option.some.injEq, W.im.injEq, T.int.injEq, T.bl.injEq, T.str.injEq, T.tup.injEq, T.lst.injEq, w_bin, w_cmp, w_un, w_blt, w_attr, w_ix, w_sl0, w_sl1, w_sl2, w_rev, w_tup, w_lst, w_nlst, b_addI, b_addS, b_addT, b_addL, b_subI, b_mulI, b_divI, b_modI, b_powI, c_lt, c_le, c_gt, c_ge, c_is, c_isn, c_eqI, c_neI, c_eqB, c_neB, c_eqS, c_neS, c_eqN, c_in, c_nin, n_intI, n_non, u_neg, i_len, i_abs, i_min, i_max, i_intI, i_intB, i_tuple, i_list, i_all, i_any, i_isi, i_sorted, i_max1, i_min1, x_lst, x_tup, x_scr, x_mr, s_tup, s_lst, q_lst, q_tup, q_scr, l_lst, l_scr, ln_lst, k_lst, k_tup, k_scr, k_str, j_ty, j_cls, j_tup, m_app, m_ext, e_set, r_app, r_ext, a_fn, stabW, true_and, and_true]
    exact ml_loop (fun _ => trivial) os acc S _ _ _ _ hS (by omega) kk
theorem mulMap_len {a : Pt} : ∀ os : List Pt, (os.flatMap (mulOne a)).length ≤ os.length
  | [] => by simp
  | o :: os => by
    have h1 := mulOne_len (a := a) (o := o)
    have h2 := mulMap_len (a := a) os
    simp only [List.flatMap_cons, List.length_append, List.length_cons]
    omega
theorem mulPart_len {os : List Pt} {a : Pt} : (mulPart os a).length ≤ os.length + 1 := by
  unfold mulPart
  split
  · simp
  · have := mulMap_len (a := a) os
    omega
theorem mp_loop {K : Post} {p q : W} {k : Nat} {os : List Pt} {stab : Sto → Prop} (hs : ∀ S, stab S) (hf : few os.length) : ∀ (as acc : List Pt) (S : Sto) (x4 x5 x6 x7 x8 : Option W), (∀ a ∈ as, a.r = false → os.filter (inPt a.f) ≠ []) → S[k]? = some (.lst ((acc.map Pt.t).map W.im)) → acc.length + as.length * (os.length + 1) < sizeLine →
    (∀ x4 x5 x6 x7 x8, K.nx [some p, some q, some (.im (.lst (os.map Pt.t))), some (.mr k), x4, x5, x6, x7, x8] (S.set k (.lst (((acc ++ as.flatMap (mulPart os)).map Pt.t).map W.im)))) →
    forW (wpCs bd_multiplied_2) (.nm 4) stab (as.map Pt.t) [some p, some q, some (.im (.lst (os.map Pt.t))), some (.mr k), x4, x5, x6, x7, x8] S K
  | [], acc, S, x4, x5, x6, x7, x8, hn, hS, hl, kk => by
    rw [List.map_nil, forW]
    refine ⟨hs S, ?_⟩
    have := kk x4 x5 x6 x7 x8
    rw [List.flatMap_nil, List.append_nil, set_same hS] at this
    exact this
  | a :: as, acc, S, x4, x5, x6, x7, x8, hn, hS, hl, kk => by
    rw [List.map_cons, forW]
    refine ⟨hs S, ?_⟩
    rw [List.length_cons, Nat.succ_mul] at hl
    rw [p_nm]
    have h1 := mulPart_len (os := os) (a := a)
    have next : ∀ x5 x6 x7 x8, forW (wpCs bd_multiplied_2) (.nm 4) stab (as.map Pt.t) [some p, some q, some (.im (.lst (os.map Pt.t))), some (.mr k), some (.im a.t), x5, x6, x7, x8] (S.set k (.lst (((acc ++ mulPart os a).map Pt.t).map W.im))) K := by
      intro x5 x6 x7 x8
      refine mp_loop hs hf as (acc ++ mulPart os a) _ _ _ _ _ _ (fun b hb => hn b (by simp [hb])) (get_set hS) (by simp only [List.length_append]; omega) fun x4 x5 x6 x7 x8 => ?_
      rw [List.set_set, List.append_assoc]
      exact kk x4 x5 x6 x7 x8
    exact mp_body hS (by omega) hf (hn a (by simp)) next next
theorem does_multiplied : Does ir_multiplied nm_multiplied 2 sp_multiplied := does2 fun a b p q S Q X ha hb hp hq => by
  obtain rfl := exPs _ _ ha
  obtain rfl := exPs _ _ hb
  obtain ⟨h1, h2, h3, h4, h5⟩ := hp
  have hz : sizeLine = 16777216 := rfl
  show wpCs _ (startS _ [.im p.t, .im q.t]) _ _
  have fp : few p.pcs.length := by
    unfold few at h2 ⊢
    have : p.pcs.length * 1 ≤ p.pcs.length * (q.pcs.length + 1) := Nat.mul_le_mul_left _ (by omega)
    omega
  simp only [ir_multiplied, nm_multiplied, at_top, at_tgt, h1, u_parts, decide_true, Bool.not_true, wpCs, wpC, wpE, wpEs, wpI, p_nm, p_tup, p_lst, p_nil, p_cons, if_true, if_false, reduceIte, Bool.false_eq_true, startS, getS, setS, setAll, wipeS, List.map_cons, List.map_nil, List.length_cons, List.length_nil, List.cons_append, List.nil_append, List.append_nil, Nat.reduceAdd, Nat.reduceSub, Nat.zero_add, List.replicate_succ, List.replicate_zero, imAll, Option.map_some, Option.bind_some, exists_eq_left, exists_eq_left', Option.some.injEq, W.im.injEq, T.int.injEq, T.bl.injEq, T.str.injEq, T.tup.injEq, T.lst.injEq, w_bin, w_cmp, w_un, w_blt, w_attr, w_ix, w_sl0, w_sl1, w_sl2, w_rev, w_tup, w_lst, w_nlst, b_addI, b_addS, b_addT, b_addL, b_subI, b_mulI, b_divI, b_modI, b_powI, c_lt, c_le, c_gt, c_ge, c_is, c_isn, c_eqI, c_neI, c_eqB, c_neB, c_eqS, c_neS, c_eqN, c_in, c_nin, n_intI, n_non, u_neg, i_len, i_abs, i_min, i_max, i_intI, i_intB, i_tuple, i_list, i_all, i_any, i_isi, i_sorted, i_max1, i_min1, x_lst, x_tup, x_scr, x_mr, s_tup, s_lst, q_lst, q_tup, q_scr, l_lst, l_scr, ln_lst, k_lst, k_tup, k_scr, k_str, j_ty, j_cls, j_tup, m_app, m_ext, e_set, r_app, r_ext, a_fn, stabW, true_and, and_true]
  refine ⟨h3, by omega, fp, ?_⟩
  refine mp_loop (os := partsOf q.top q.pcs) (fun _ => trivial) (by rw [partsOf_len]; exact h3) (partsOf p.top p.pcs) [] _ _ _ _ _ _ (k := S.length) h4 (by simp) (by rw [partsOf_len, partsOf_len]; unfold few at h2; simp; omega) fun x4 x5 x6 x7 x8 => ?_
  simp only [List.nil_append, at_top, at_tgt, wpCs, wpC, wpE, wpEs, wpI, p_nm, p_tup, p_lst, p_nil, p_cons, if_true, if_false, reduceIte, Bool.false_eq_true, startS, getS, setS, setAll, wipeS, List.map_cons, List.map_nil, List.length_cons, List.length_nil, List.cons_append, List.nil_append, List.append_nil, Nat.reduceAdd, Nat.reduceSub, Nat.zero_add, List.replicate_succ, List.replicate_zero, imAll, Option.map_some, Option.bind_some, exists_eq_left, exists_eq_left', Option.some.injEq, W.im.injEq, T.int.injEq, T.bl.injEq, T.str.injEq, T.tup.injEq, T.lst.injEq, w_bin, w_cmp, w_un, w_blt, w_attr, w_ix, w_sl0, w_sl1, w_sl2, w_rev, w_tup, w_lst, w_nlst, b_addI, b_addS, b_addT, b_addL, b_subI, b_mulI, b_divI, b_modI, b_powI, c_lt, c_le, c_gt, c_ge, c_is, c_isn, c_eqI, c_neI, c_eqB, c_neB, c_eqS, c_neS, c_eqN, c_in, c_nin, n_intI, n_non, u_neg, i_len, i_abs, i_min, i_max, i_intI, i_intB, i_tuple, i_list, i_all, i_any, i_isi, i_sorted, i_max1, i_min1, x_lst, x_tup, x_scr, x_mr, s_tup, s_lst, q_lst, q_tup, q_scr, l_lst, l_scr, ln_lst, k_lst, k_tup, k_scr, k_str, j_ty, j_cls, j_tup, m_app, m_ext, e_set, r_app, r_ext, a_fn, stabW, true_and, and_true]
  have e0 : (S ++ [MO.lst []]).set S.length (.lst (((mulParts p q).map Pt.t).map W.im)) = S ++ [.lst (((mulParts p q).map Pt.t).map W.im)] := by
    rw [List.set_append_right _ _ (Nat.le_refl _), Nat.sub_self]
    rfl
  show sp_made_of [.im (.int p.top), .im (.int q.tgt), .mr S.length] ((S ++ [MO.lst []]).set S.length (.lst (((mulParts p q).map Pt.t).map W.im))) _ _
  rw [e0]
  rw [u_made (l := mulParts p q) (lstN_set (by simp))]
  exact ⟨h5, rt_more hq⟩
theorem u_joined {p q : Ps} {g : Bool} {S : Sto} {Q : VQ} {X : XQ} : sp_joined [.im p.t, .im q.t, .im (.bl g)] S Q X ↔ joinOk p q g ∧ Q (.im (joinPs p q g).t) S := by
  have h1 := tPs.ok p
  have h2 := tPs.ok q
  simp only [sp_joined, fsp3, tPs, tBl] at h1 h2 ⊢
  simp [h1, h2]
theorem u_multiplied {p q : Ps} {S : Sto} {Q : VQ} {X : XQ} : sp_multiplied [.im p.t, .im q.t] S Q X ↔ mulOk p q ∧ Q (.im (mulPs p q).t) S := by
  have h1 := tPs.ok p
  have h2 := tPs.ok q
  simp only [sp_multiplied, fsp2, tPs] at h1 h2 ⊢
  simp [h1, h2]
end TW

namespace TW
/-- the stretches tell F from lo to top -/
def Til (F : Int → Int) : Int → List Pt → Int → Prop
  | lo, [], top => lo = top + 1
  | lo, p :: r, top => p.lo = lo ∧ lo ≤ p.hi ∧ (∀ x, lo ≤ x → x ≤ p.hi → F x = p.res x) ∧ Til F (p.hi + 1) r top
theorem res_t {p : Pt} (h : p.r = true) (x : Int) : p.res x = p.f + (x - p.lo) := by simp [Pt.res, h]
theorem res_f {p : Pt} (h : p.r = false) (x : Int) : p.res x = p.f := by simp [Pt.res, h]
theorem res_lo {p : Pt} : p.res p.lo = p.f := by
  unfold Pt.res
  split <;> omega
structure Run (F : Int → Int) (r : Rn) (a c : Int) : Prop where
  b : r.b = a
  f : r.f = F a
  e : r.e = F (c - 1)
  lt : a < c
  st : (r.st = none ∧ c = a + 1) ∨ (∃ k : Bool, r.st = some (b01 k) ∧ a + 1 < c ∧ ∀ x, a ≤ x → x < c → F x = F a + if k = true then x - a else 0)
def Maxi (F : Int → Int) (r : Rn) (c : Int) : Prop := match r.st with
  | none => F c - F (c - 1) ≠ 0 ∧ F c - F (c - 1) ≠ 1
  | some j => F c - F (c - 1) ≠ j
def Seg (F : Int → Int) : Int → List Rn → Int → Prop
  | a, [], b => a = b
  | a, r :: rs, b => ∃ c, Run F r a c ∧ Maxi F r c ∧ Seg F c rs b
theorem Seg.append {F : Int → Int} : ∀ {rs qs : List Rn} {a b c : Int}, Seg F a rs b → Seg F b qs c → Seg F a (rs ++ qs) c
  | [], qs, a, b, c, h, h' => by
    have h : a = b := h
    subst h
    exact h'
  | r :: rs, qs, a, b, c, ⟨d, h1, h2, h3⟩, h' => ⟨d, h1, h2, Seg.append h3 h'⟩
/-- runs up to hi -/
def Upto (F : Int → Int) (lo : Int) (rs : List Rn) (hi : Int) : Prop := ∃ qs r b, rs = qs ++ [r] ∧ Seg F lo qs b ∧ Run F r b (hi + 1)
theorem b01t : b01 true = 1 := rfl
theorem b01f : b01 false = 0 := rfl
theorem begun_run {F : Int → Int} {p : Pt} (hl : p.lo ≤ p.hi) (h : ∀ x, p.lo ≤ x → x ≤ p.hi → F x = p.res x) : Run F (begun p) p.lo (p.hi + 1) := by
  have e0 : F p.lo = p.f := by rw [h p.lo (by omega) hl, res_lo]
  refine ⟨rfl, e0.symm, ?_, by omega, ?_⟩
  · show p.last = _
    rw [show p.hi + 1 - 1 = p.hi by omega, h p.hi hl (by omega)]
    rfl
  · by_cases e : p.lo = p.hi
    · exact .inl ⟨by simp [begun, e], by omega⟩
    · refine .inr ⟨p.r, by simp [begun, e], by omega, fun x h1 h2 => ?_⟩
      rw [h x h1 (by omega), e0]
      rfl
theorem add_upto {F : Int → Int} {lo hi : Int} {rs : List Rn} {p : Pt} (u : Upto F lo rs hi) (h0 : p.lo = hi + 1) (hl : p.lo ≤ p.hi) (h : ∀ x, p.lo ≤ x → x ≤ p.hi → F x = p.res x) : Upto F lo (addRun rs p) p.hi := by
  obtain ⟨qs, r, b, rfl, s, R⟩ := u
  rw [add_snoc]
  have e0 : F p.lo = p.f := by rw [h p.lo (by omega) hl, res_lo]
  have e1 : r.e = F (p.lo - 1) := by rw [R.e, h0]
  have ej : p.f - r.e = F p.lo - F (p.lo - 1) := by rw [e0, e1]
  unfold longer
  by_cases c1 : jumpOk r p = false
  · rw [if_pos c1]
    refine ⟨qs ++ [r], begun p, p.lo, by simp, s.append ⟨p.lo, by rw [h0]; exact R, ?_, rfl⟩, begun_run hl h⟩
    unfold jumpOk at c1
    unfold Maxi
    rw [← ej]
    rcases R.st with ⟨e, _⟩ | ⟨k, e, _⟩
    · rw [e] at c1 ⊢
      simp only [stOk, Bool.and_true, Bool.or_eq_false_iff, decide_eq_false_iff_not] at c1
      exact c1
    · rw [e] at c1 ⊢
      simp only [stOk, Bool.and_eq_false_iff, Bool.or_eq_false_iff, decide_eq_false_iff_not] at c1
      intro z
      rcases c1 with ⟨c, c'⟩ | c
      · cases k
        · exact c z
        · exact c' z
      · exact c z.symm
  · rw [if_neg c1]
    have c1 : jumpOk r p = true := by simpa using c1
    unfold jumpOk at c1
    rw [Bool.and_eq_true, Bool.or_eq_true, decide_eq_true_eq, decide_eq_true_eq] at c1
    obtain ⟨j, hj⟩ : ∃ j : Bool, p.f - r.e = b01 j := by
      rcases c1.1 with z | z
      · exact ⟨false, z⟩
      · exact ⟨true, z⟩
    -- the old values by the jump
    have old : ∀ x, b ≤ x → x < p.lo → F x = F b + if j = true then x - b else 0 := by
      intro x h1 h2
      rcases R.st with ⟨e, e'⟩ | ⟨k, e, _, g⟩
      · have : x = b := by omega
        subst this
        simp
      · have hk : k = j := by
          have c2 := c1.2
          rw [e, hj] at c2
          simp only [stOk, decide_eq_true_eq] at c2
          cases k <;> cases j <;> first | rfl | (simp [b01] at c2)
        subst hk
        exact g x h1 (by omega)
    have at1 : F p.lo = F b + if j = true then p.lo - b else 0 := by
      have hb : b < p.lo := by have := R.lt; omega
      have o := old (p.lo - 1) (by omega) (by omega)
      rw [hj] at ej
      cases j
      · simp only [b01f, Bool.false_eq_true, if_false] at *
        omega
      · simp only [b01t, if_true] at *
        omega
    have hb : b < p.lo := by have := R.lt; omega
    by_cases c2 : p.lo = p.hi ∨ b01 p.r = p.f - r.e
    · rw [if_pos c2]
      refine ⟨qs, _, b, rfl, s, ⟨R.b, R.f, ?_, by omega, .inr ⟨j, by rw [hj], by omega, fun x h1 h2 => ?_⟩⟩⟩
      · show p.last = _
        rw [show p.hi + 1 - 1 = p.hi by omega, h p.hi hl (by omega)]
        rfl
      · by_cases c3 : x < p.lo
        · exact old x h1 c3
        · rcases c2 with c2 | c2
          · have : x = p.lo := by omega
            subst this
            exact at1
          · rw [hj] at c2
            have hr : p.r = j := by
              cases hp : p.r <;> cases j <;> first | rfl | (rw [hp] at c2; simp [b01] at c2)
            have v := h x (by omega) (by omega)
            cases j
            · rw [res_f hr] at v
              simp only [Bool.false_eq_true, if_false] at *
              omega
            · rw [res_t hr] at v
              simp only [if_true] at *
              omega
    · rw [if_neg c2]
      have cl : p.lo < p.hi := by omega
      have hr : p.r = !j := by
        have c3 : b01 p.r ≠ b01 j := fun z => c2 (.inr (by rw [hj]; exact z))
        cases hp : p.r <;> cases j <;> first | rfl | (rw [hp] at c3; exact absurd rfl c3)
      refine ⟨qs ++ [⟨r.b, r.f, some (p.f - r.e), p.f⟩], begun (p.cut (p.lo + 1) p.hi), p.lo + 1, by simp, s.append ⟨p.lo + 1, ⟨R.b, R.f, ?_, by omega, .inr ⟨j, by rw [hj], by omega, fun x h1 h2 => ?_⟩⟩, ?_, rfl⟩, ?_⟩
      · show p.f = _
        rw [show p.lo + 1 - 1 = p.lo by omega, e0]
      · by_cases c3 : x < p.lo
        · exact old x h1 c3
        · have : x = p.lo := by omega
          subst this
          exact at1
      · show F (p.lo + 1) - F (p.lo + 1 - 1) ≠ p.f - r.e
        rw [show p.lo + 1 - 1 = p.lo by omega, hj]
        have v := h (p.lo + 1) (by omega) (by omega)
        cases j
        · rw [res_t hr] at v
          rw [b01f]
          omega
        · rw [res_f hr] at v
          rw [b01t]
          omega
      · refine begun_run (p := p.cut (p.lo + 1) p.hi) (F := F) (show p.lo + 1 ≤ p.hi by omega) fun x h1 h2 => ?_
        have h1 : p.lo + 1 ≤ x := h1
        have h2 : x ≤ p.hi := h2
        rw [h x (by omega) h2]
        cases hp : p.r
        · rw [res_f hp, res_f (show (p.cut (p.lo + 1) p.hi).r = false from hp)]
          show _ = p.res _
          rw [res_f hp]
        · rw [res_t hp, res_t (show (p.cut (p.lo + 1) p.hi).r = true from hp)]
          show _ = p.res _ + (x - (p.lo + 1))
          rw [res_t hp]
          omega
theorem fold_upto {F : Int → Int} {lo : Int} {top : Int} : ∀ {ps : List Pt} {rs : List Rn} {hi : Int}, Upto F lo rs hi → Til F (hi + 1) ps top → Upto F lo (ps.foldl addRun rs) top
  | [], rs, hi, u, t => by
    have t : hi + 1 = top + 1 := t
    obtain rfl : hi = top := by omega
    exact u
  | p :: ps, rs, hi, u, ⟨t1, t2, t3, t4⟩ => by
    rw [List.foldl_cons]
    refine fold_upto (hi := p.hi) (add_upto u t1 (by omega) ?_) t4
    rw [t1]
    exact t3
theorem runs_upto {F : Int → Int} {lo top : Int} {l : List Pt} (hn : l ≠ []) (t : Til F lo l top) : Upto F lo (runsOf l) top := by
  cases l with
  | nil => exact absurd rfl hn
  | cons p ps =>
    obtain ⟨t1, t2, t3, t4⟩ := t
    subst t1
    exact fold_upto (hi := p.hi) ⟨[], begun p, p.lo, rfl, rfl, begun_run t2 t3⟩ t4
def nxS (top : Int) : List Pc → Int
  | [] => top + 1
  | b :: _ => b.s
def Can (F : Int → Int) (top : Int) : List Pc → Prop
  | [] => False
  | a :: r => a.f = F a.s ∧ a.s < nxS top r ∧ (∀ x, a.s ≤ x → x < nxS top r → F x = F a.s + if a.r = true then x - a.s else 0) ∧ (nxS top r = a.s + 1 → a.r = false) ∧
    (r = [] ∨ ((nxS top r = a.s + 1 → F (nxS top r) - F (nxS top r - 1) ≠ 0 ∧ F (nxS top r) - F (nxS top r - 1) ≠ 1) ∧ (a.s + 1 < nxS top r → F (nxS top r) - F (nxS top r - 1) ≠ b01 a.r) ∧ Can F top r))
theorem Can.le {F : Int → Int} {top : Int} : ∀ {a : Pc} {r : List Pc}, Can F top (a :: r) → a.s ≤ top
  | a, [], ⟨_, h, _⟩ => by
    have h : a.s < top + 1 := h
    omega
  | a, b :: r, ⟨_, h, _, _, q⟩ => by
    rcases q with q | ⟨_, _, q⟩
    · cases q
    · have := Can.le q
      have h : a.s < b.s := h
      omega
theorem Can.nx {F : Int → Int} {top : Int} {a : Pc} {r : List Pc} (h : Can F top (a :: r)) : nxS top r ≤ top + 1 ∧ (r ≠ [] → nxS top r ≤ top ∧ Can F top r) := by
  obtain ⟨_, _, _, _, q⟩ := h
  rcases q with rfl | ⟨_, _, q⟩
  · exact ⟨Int.le_refl _, fun z => absurd rfl z⟩
  · cases r with
    | nil => cases q
    | cons b r =>
      have := q.le
      exact ⟨show b.s ≤ _ by omega, fun _ => ⟨this, q⟩⟩
theorem can_lt {F : Int → Int} {top : Int} {a a' : Pc} {r r' : List Pc} (h : Can F top (a :: r)) (h' : Can F top (a' :: r')) (e : a.s = a'.s) : ¬ nxS top r < nxS top r' := by
  intro z
  have n := h.nx
  have n' := h'.nx
  have hr : r ≠ [] := by
    rintro rfl
    have : top + 1 < nxS top r' := z
    omega
  obtain ⟨h1, h2, h3, h4, h5⟩ := h
  obtain ⟨g1, g2, g3, g4, g5⟩ := h'
  rcases h5 with h5 | ⟨h5, h6, _⟩
  · exact hr h5
  · generalize nxS top r = c at *
    generalize nxS top r' = c' at *
    have v1 := g3 c (by omega) z
    have v2 := g3 (c - 1) (by omega) (by omega)
    by_cases k : c = a.s + 1
    · have := h5 k
      cases hr' : a'.r
      · rw [hr'] at v1 v2
        simp only [Bool.false_eq_true, if_false] at v1 v2
        omega
      · rw [hr'] at v1 v2
        simp only [if_true] at v1 v2
        omega
    · have q := h6 (by omega)
      have w1 := h3 (a.s + 1) (by omega) (by omega)
      have w2 := g3 (a.s + 1) (by omega) (by omega)
      rw [e] at w1 w2
      cases hr' : a'.r <;> cases hr : a.r <;> rw [hr'] at v1 v2 w2 <;> rw [hr] at w1 q <;> simp only [Bool.false_eq_true, if_false, if_true, b01t, b01f] at v1 v2 w1 w2 q <;> omega
theorem can_eq {F : Int → Int} {top : Int} : ∀ {l l' : List Pc}, Can F top l → Can F top l' → l.head?.map (·.s) = l'.head?.map (·.s) → l = l'
  | [], _, h, _, _ => h.elim
  | _ :: _, [], _, h, _ => h.elim
  | a :: r, a' :: r', h, h', e => by
    have e : a.s = a'.s := by simpa using e
    have n1 := can_lt h h' e
    have n2 := can_lt h' h e.symm
    have en : nxS top r = nxS top r' := by omega
    have m := h.nx
    have m' := h'.nx
    have hc := h
    have hc' := h'
    obtain ⟨h1, h2, h3, h4, h5⟩ := h
    obtain ⟨g1, g2, g3, g4, g5⟩ := h'
    have er : a.r = a'.r := by
      by_cases k : nxS top r = a.s + 1
      · rw [h4 k, g4 (by omega)]
      · have w1 := h3 (a.s + 1) (by omega) (by omega)
        have w2 := g3 (a.s + 1) (by omega) (by omega)
        rw [e] at w1 w2
        cases hr' : a'.r <;> cases hr : a.r <;> first | rfl | (rw [hr'] at w2; rw [hr] at w1; simp only [Bool.false_eq_true, if_false, if_true] at w1 w2; omega)
    have ea : a = a' := by
      obtain ⟨s, f, r⟩ := a
      obtain ⟨s', f', r'⟩ := a'
      simp only at e er h1 g1
      subst e er
      rw [h1, g1]
    subst ea
    cases r with
    | nil =>
      cases r' with
      | nil => rfl
      | cons b' r' =>
        have := (m'.2 (by simp)).1
        rw [← en] at this
        have : top + 1 ≤ top := this
        omega
    | cons b r =>
      cases r' with
      | nil =>
        have := (m.2 (by simp)).1
        rw [en] at this
        have : top + 1 ≤ top := this
        omega
      | cons b' r' =>
        have e2 : b.s = b'.s := en
        rw [can_eq (m.2 (by simp)).2 (m'.2 (by simp)).2 (by simp [e2])]
theorem Can.congr {F G : Int → Int} {top : Int} : ∀ {l : List Pc} {s : Int}, Can F top l → l.head?.map (·.s) = some s → (∀ x, s ≤ x → x ≤ top → F x = G x) → Can G top l
  | [], _, h, _, _ => h.elim
  | a :: r, s, h, e, k => by
    obtain rfl : a.s = s := by simpa using e
    have m := h.nx
    obtain ⟨h1, h2, h3, h4, h5⟩ := h
    have e1 := k a.s (by omega) (by omega)
    refine ⟨by rw [h1, e1], h2, fun x p q => by rw [← k x p (by omega), h3 x p q, e1], h4, ?_⟩
    rcases h5 with h5 | ⟨h5, h6, h7⟩
    · exact .inl h5
    · cases r with
      | nil => exact .inl rfl
      | cons b r =>
        have m2 := m.2 (by simp)
        have k1 := k (nxS top (b :: r)) (by omega) m2.1
        have k2 := k (nxS top (b :: r) - 1) (by omega) (by omega)
        refine .inr ⟨?_, ?_, Can.congr h7 rfl fun x p q => k x (by have p : b.s ≤ x := p; have h2 : a.s < b.s := h2; omega) q⟩
        · rw [← k1, ← k2]; exact h5
        · rw [← k1, ← k2]; exact h6
theorem Run.pc {F : Int → Int} {r : Rn} {a c : Int} (h : Run F r a c) : r.pc.s = a ∧ r.pc.f = F a ∧ (∀ x, a ≤ x → x < c → F x = F a + if r.pc.r = true then x - a else 0) ∧ (c = a + 1 → r.pc.r = false) := by
  refine ⟨h.b, h.f, ?_⟩
  rcases h.st with ⟨e, e'⟩ | ⟨k, e, hl, g⟩
  · have hr : r.pc.r = false := by simp [Rn.pc, e]
    rw [hr]
    refine ⟨fun x h1 h2 => ?_, fun _ => rfl⟩
    have : x = a := by omega
    subst this
    simp
  · have hr : r.pc.r = k := by
      show decide (r.st = some 1) = k
      rw [e]
      cases k <;> simp [b01]
    rw [hr]
    exact ⟨g, fun z => by omega⟩
theorem seg_can {F : Int → Int} {top : Int} {r : Rn} {b : Int} (R : Run F r b (top + 1)) : ∀ {qs : List Rn} {a : Int}, Seg F a qs b → Can F top ((qs ++ [r]).map Rn.pc) ∧ ((qs ++ [r]).map Rn.pc).head?.map (·.s) = some a
  | [], a, s => by
    have s : a = b := s
    subst s
    obtain ⟨p1, p2, p3, p4⟩ := R.pc
    have lt := R.lt
    refine ⟨⟨by rw [p1]; exact p2, by rw [p1]; exact lt, ?_, ?_, .inl rfl⟩, by simpa using p1⟩
    · rw [p1]; exact p3
    · rw [p1]; exact p4
  | q :: qs, a, ⟨c, R1, M, s⟩ => by
    obtain ⟨ih1, ih2⟩ := seg_can R s
    obtain ⟨p1, p2, p3, p4⟩ := R1.pc
    have lt := R1.lt
    rw [List.cons_append, List.map_cons]
    cases hl : (qs ++ [r]).map Rn.pc with
    | nil => simp at hl
    | cons d ds =>
      rw [hl] at ih1 ih2
      obtain rfl : d.s = c := by simpa using ih2
      refine ⟨⟨by rw [p1]; exact p2, by rw [p1]; exact lt, ?_, ?_, .inr ⟨fun k => ?_, fun k => ?_, ih1⟩⟩, by simpa using p1⟩
      · rw [p1]; exact p3
      · rw [p1]; exact p4
      · have k : d.s = q.pc.s + 1 := k
        show F d.s - F (d.s - 1) ≠ 0 ∧ F d.s - F (d.s - 1) ≠ 1
        unfold Maxi at M
        rcases R1.st with ⟨e, _⟩ | ⟨k', e, hl, _⟩
        · rw [e] at M
          exact M
        · omega
      · have k : q.pc.s + 1 < d.s := k
        show F d.s - F (d.s - 1) ≠ b01 q.pc.r
        unfold Maxi at M
        rcases R1.st with ⟨e, _⟩ | ⟨k', e, hl, _⟩
        · omega
        · rw [e] at M
          have hr : q.pc.r = k' := by
            show decide (q.st = some 1) = k'
            rw [e]
            cases k' <;> simp [b01]
          rw [hr]
          exact M
theorem normal_can {F : Int → Int} {lo top : Int} {l : List Pt} (hn : l ≠ []) (t : Til F lo l top) : Can F top (normal l) ∧ (normal l).head?.map (·.s) = some lo := by
  obtain ⟨qs, r, b, e, s, R⟩ := runs_upto hn t
  unfold normal
  rw [e]
  exact seg_can R s
theorem Can.til {F : Int → Int} {top : Int} : ∀ {l : List Pc} {s : Int}, Can F top l → l.head?.map (·.s) = some s → Til F s (partsOf top l) top
  | [], _, h, _ => h.elim
  | [a], s, h, e => by
    obtain rfl : a.s = s := by simpa using e
    obtain ⟨h1, h2, h3, h4, h5⟩ := h
    have h2 : a.s < top + 1 := h2
    refine ⟨rfl, by show a.s ≤ top; omega, fun x p q => ?_, rfl⟩
    have q : x ≤ top := q
    rw [h3 x p (show x < top + 1 by omega), ← h1]
    rfl
  | a :: b :: r, s, h, e => by
    obtain rfl : a.s = s := by simpa using e
    have m := h.nx
    obtain ⟨h1, h2, h3, h4, h5⟩ := h
    have h2 : a.s < b.s := h2
    have m2 := (m.2 (by simp)).2
    refine ⟨rfl, by show a.s ≤ b.s - 1; omega, fun x p q => ?_, ?_⟩
    · have q : x ≤ b.s - 1 := q
      rw [h3 x p (show x < b.s by omega), ← h1]
      rfl
    · show Til F (b.s - 1 + 1) _ _
      rw [show b.s - 1 + 1 = b.s by omega]
      exact m2.til rfl
end TW

namespace TW
theorem Til.append {F : Int → Int} {m top : Int} {l' : List Pt} : ∀ {l : List Pt} {lo : Int}, Til F lo l m → Til F (m + 1) l' top → Til F lo (l ++ l') top
  | [], lo, t, t' => by
    have t : lo = m + 1 := t
    subst t
    exact t'
  | p :: r, lo, ⟨t1, t2, t3, t4⟩, t' => ⟨t1, t2, t3, Til.append t4 t'⟩
theorem Til.flatMap {F H : Int → Int} {g : Pt → List Pt} {top : Int} : ∀ {l : List Pt} {lo : Int}, Til F lo l top → (∀ a ∈ l, lo ≤ a.lo → a.lo ≤ a.hi → a.hi ≤ top → (∀ x, a.lo ≤ x → x ≤ a.hi → F x = a.res x) → Til H a.lo (g a) a.hi) → Til H lo (l.flatMap g) top
  | [], lo, t, _ => t
  | p :: r, lo, ⟨t1, t2, t3, t4⟩, h => by
    subst t1
    have le : ∀ {l : List Pt} {lo : Int}, Til F lo l top → lo ≤ top + 1 := by
      intro l
      induction l with
      | nil => intro lo t; have t : lo = top + 1 := t; omega
      | cons q l ih => intro lo ⟨s1, s2, s3, s4⟩; have := ih s4; omega
    rw [List.flatMap_cons]
    have l4 := le t4
    refine (h p (by simp) (by omega) t2 (by omega) t3).append (Til.flatMap t4 fun a ha h1 => h a (by simp [ha]) (by omega))
theorem Til.le {F : Int → Int} {top : Int} : ∀ {l : List Pt} {lo : Int}, Til F lo l top → lo ≤ top + 1
  | [], lo, t => by
    have t : lo = top + 1 := t
    omega
  | p :: r, lo, ⟨t1, t2, t3, t4⟩ => by
    have := t4.le
    omega
theorem Til.ne {F : Int → Int} {top lo : Int} {l : List Pt} (t : Til F lo l top) (h : lo ≤ top) : l ≠ [] := by
  rintro rfl
  have t : lo = top + 1 := t
  omega
/-- the value -/
theorem Til.resIn {F : Int → Int} {top : Int} {x : Int} : ∀ {l : List Pt} {lo : Int}, Til F lo l top → lo ≤ x → x ≤ top → (l.filter (inPt x)) ≠ [] ∧ resIn l x = F x
  | [], lo, t, h1, h2 => by
    have t : lo = top + 1 := t
    omega
  | p :: r, lo, ⟨t1, t2, t3, t4⟩, h1, h2 => by
    subst t1
    by_cases hx : x ≤ p.hi
    · have e : inPt x p = true := by simp [inPt, h1, hx]
      unfold TW.resIn
      rw [List.filter_cons, if_pos e]
      exact ⟨by simp, by simp [t3 x h1 hx]⟩
    · have e : inPt x p = false := by simp [inPt, hx]
      have ih := t4.resIn (x := x) (by omega) h2
      unfold TW.resIn at ih ⊢
      rw [List.filter_cons, if_neg (by rw [e]; decide)]
      exact ih
theorem pLen {top : Int} : ∀ {l : List Pc}, (partsOf top l).length = l.length
  | [] => rfl
  | [a] => rfl
  | a :: b :: r => by
    rw [partsOf, List.length_cons, pLen (l := b :: r)]
    rfl
/-- the passage p is the function F -/
structure PsOk (n : Nat) (p : Ps) (F : Int → Int) : Prop where
  top : 0 ≤ p.top
  tgt : 0 ≤ p.tgt
  len : p.pcs.length ≤ n
  can : Can F p.top p.pcs
  st : p.pcs.head?.map (·.s) = some 0
  mono : ∀ x y, 0 ≤ x → x ≤ y → y ≤ p.top → F x ≤ F y
  rng : ∀ x, 0 ≤ x → x ≤ p.top → 0 ≤ F x ∧ F x ≤ p.tgt
section
variable {F G : Int → Int} {top tgt : Int}
theorem chk_of (mono : ∀ x y, 0 ≤ x → x ≤ y → y ≤ top → F x ≤ F y) (rng : ∀ x, 0 ≤ x → x ≤ top → 0 ≤ F x ∧ F x ≤ tgt) : ∀ {l : List Pc} {s last : Int}, Can F top l → l.head?.map (·.s) = some s → 0 ≤ s → last ≤ F s → chkP top tgt last l = true
  | [], _, _, h, _, _, _ => h.elim
  | a :: r, s, last, h, e, h0, hl => by
    obtain rfl : a.s = s := by simpa using e
    have m := h.nx
    obtain ⟨h1, h2, h3, h4, h5⟩ := h
    rw [chkP, if_neg (by omega)]
    have v := h3 (nxS top r - 1) (by omega) (by omega)
    have ee : endOf top r = nxS top r - 1 := by
      cases r with
      | nil => show top = top + 1 - 1; omega
      | cons b r => rfl
    have v' : (a.f + if a.r = true then endOf top r - a.s else 0) = F (nxS top r - 1) := by rw [v, h1, ee]
    rw [v']
    cases r with
    | nil =>
      have := rng (nxS top [] - 1) (by omega) (by omega)
      rw [chkP]
      exact decide_eq_true this.2
    | cons b r =>
      obtain ⟨m1, m2⟩ := m.2 (by simp)
      exact chk_of mono rng m2 rfl (show 0 ≤ b.s by have h2 : a.s < b.s := h2; omega) (mono _ _ (by omega) (show nxS top (b :: r) - 1 ≤ nxS top (b :: r) by omega) m1)
theorem low_of (rng : ∀ x, 0 ≤ x → x ≤ top → 0 ≤ F x ∧ F x ≤ tgt) : ∀ {l : List Pc} {s : Int} (d : Int), Can F top l → l.head?.map (·.s) = some s → 0 ≤ s → l.all pieceOk = true ∧ lastS d l ≤ top ∧ incr l = true
  | [], _, _, h, _, _ => h.elim
  | [a], s, d, h, e, h0 => by
    obtain rfl : a.s = s := by simpa using e
    have le := h.le
    obtain ⟨h1, h2, h3, h4, h5⟩ := h
    have := (rng a.s h0 le).1
    refine ⟨?_, le, rfl⟩
    simp only [List.all_cons, List.all_nil, Bool.and_true, pieceOk, Bool.and_eq_true, decide_eq_true_eq]
    omega
  | a :: b :: r, s, d, h, e, h0 => by
    obtain rfl : a.s = s := by simpa using e
    have le := h.le
    have m := (h.nx.2 (by simp)).2
    obtain ⟨h1, h2, h3, h4, h5⟩ := h
    have h2 : a.s < b.s := h2
    have := (rng a.s h0 le).1
    obtain ⟨i1, i2, i3⟩ := low_of rng (s := b.s) a.s m rfl (by omega)
    refine ⟨?_, i2, ?_⟩
    · rw [List.all_cons, i1, Bool.and_true]
      simp only [pieceOk, Bool.and_eq_true, decide_eq_true_eq]
      omega
    · rw [incr, i3, Bool.and_true]
      exact decide_eq_true h2
theorem are_of {l : List Pc} (mono : ∀ x y, 0 ≤ x → x ≤ y → y ≤ top → F x ≤ F y) (rng : ∀ x, 0 ≤ x → x ≤ top → 0 ≤ F x ∧ F x ≤ tgt) (c : Can F top l) (s : l.head?.map (·.s) = some 0) : arePieces top tgt l = true := by
  cases l with
  | nil => exact c.elim
  | cons a r =>
    have le := c.le
    have e : a.s = 0 := by simpa using s
    obtain ⟨i1, i2, i3⟩ := low_of rng 0 c s (Int.le_refl _)
    have i4 := chk_of mono rng c s (Int.le_refl _) (rng 0 (by omega) (by omega)).1
    unfold arePieces
    simp only [i1, i3, i4, e, decide_true, Bool.and_true]
    exact decide_eq_true i2
/-- a passage of stretches -/
theorem made_ok {n : Nat} {l : List Pt} (h0 : 0 ≤ top) (hn : l.length ≤ n) (n6 : n ≤ 1000000) (t : Til F 0 l top) (mono : ∀ x y, 0 ≤ x → x ≤ y → y ≤ top → F x ≤ F y) (rng : ∀ x, 0 ≤ x → x ≤ top → 0 ≤ F x ∧ F x ≤ tgt) : madeOk top tgt l ∧ PsOk n (madeOf top tgt l) F := by
  have hne := t.ne h0
  obtain ⟨c, s⟩ := normal_can hne t
  have t2 := c.til s
  have hne2 := t2.ne h0
  obtain ⟨c2, s2⟩ := normal_can hne2 t2
  have l1 := normal_len (l := l)
  have l2 := normal_len (l := partsOf top (normal l))
  rw [pLen] at l2
  have ht : 0 ≤ tgt := by have := rng 0 (by omega) h0; omega
  exact ⟨⟨⟨hne, by unfold few; omega⟩, h0, ht, are_of mono rng c s⟩, ⟨h0, ht, Nat.le_trans l2 (Nat.le_trans l1 hn), c2, s2, mono, rng⟩⟩
end
section
variable {F G : Int → Int} {n m : Nat} {p q : Ps}
theorem PsOk.til (h : PsOk n p F) : Til F 0 (partsOf p.top p.pcs) p.top := h.can.til h.st
theorem PsOk.val (h : PsOk n p F) {x : Int} (h0 : 0 ≤ x) (h1 : x ≤ p.top) : resIn (partsOf p.top p.pcs) x = F x := (h.til.resIn h0 h1).2
theorem PsOk.mono' {k : Nat} (h : PsOk n p F) (hk : n ≤ k) : PsOk k p F := { h with len := Nat.le_trans h.len hk }
theorem PsOk.eq (h : PsOk n p F) (h' : PsOk m q G) (e1 : p.top = q.top) (e2 : p.tgt = q.tgt) : p = q ↔ ∀ x, 0 ≤ x → x ≤ p.top → F x = G x := by
  constructor
  · rintro rfl x h0 h1
    rw [← h.val h0 h1, ← h'.val h0 h1]
  · intro k
    have c := h'.can
    have c2 := (h.can.congr h.st k)
    rw [e1] at c2
    have := can_eq c2 c (by rw [h.st, h'.st])
    obtain ⟨a, b, l⟩ := p
    obtain ⟨a', b', l'⟩ := q
    simp only at e1 e2 this
    rw [e1, e2, this]
theorem mul_one {a : Pt} (hr : a.r = true) (hl : a.lo ≤ a.hi) (hF : ∀ x, a.lo ≤ x → x ≤ a.hi → F x = a.res x) {T : Int} (hT : a.last ≤ T) : ∀ {os : List Pt} {c : Int}, Til G c os T → Til (fun x => G (F x)) (mn (mx c a.f) (a.last + 1) + (a.lo - a.f)) (os.flatMap (mulOne a)) a.hi
  | [], c, t => by
    have t : c = T + 1 := t
    have el : a.last = a.f + (a.hi - a.lo) := res_t hr _
    show mn (mx c a.f) (a.last + 1) + (a.lo - a.f) = a.hi + 1
    unfold mn mx
    split <;> split at * <;> omega
  | o :: os, c, ⟨t1, t2, t3, t4⟩ => by
    subst t1
    have ih := mul_one hr hl hF hT t4
    have el : a.last = a.f + (a.hi - a.lo) := res_t hr _
    rw [List.flatMap_cons]
    by_cases k : mx o.lo a.f ≤ mn o.hi a.last
    · rw [show mulOne a o = [⟨mx o.lo a.f + (a.lo - a.f), mn o.hi a.last + (a.lo - a.f), o.res (mx o.lo a.f), o.r⟩] from if_pos k]
      have s1 : mn (mx o.lo a.f) (a.last + 1) = mx o.lo a.f := by
        unfold mn mx at *
        split <;> split at * <;> split at * <;> omega
      rw [s1]
      refine ⟨rfl, by show _ ≤ mn o.hi a.last + (a.lo - a.f); omega, fun x h1 h2 => ?_, ?_⟩
      · have h2 : x ≤ mn o.hi a.last + (a.lo - a.f) := h2
        have b1 : a.lo ≤ x := by
          unfold mx at h1
          split at h1 <;> omega
        have b2 : x ≤ a.hi := by
          unfold mn at h2
          split at h2 <;> omega
        have f1 := hF x b1 b2
        rw [res_t hr] at f1
        show G (F x) = _
        have b3 : o.lo ≤ F x := by
          unfold mx at h1
          split at h1 <;> omega
        have b4 : F x ≤ o.hi := by
          unfold mn at h2
          split at h2 <;> omega
        rw [t3 _ b3 b4]
        cases ho : o.r
        · rw [res_f ho, res_f rfl]
          show _ = o.res _
          rw [res_f ho]
        · rw [res_t ho, res_t rfl]
          show _ = o.res _ + (x - (mx o.lo a.f + (a.lo - a.f)))
          rw [res_t ho, f1]
          omega
      · have e : mn (mx (o.hi + 1) a.f) (a.last + 1) + (a.lo - a.f) = mn o.hi a.last + (a.lo - a.f) + 1 := by
          unfold mn mx at *
          split <;> split at * <;> split at * <;> split at * <;> omega
        rw [e] at ih
        exact ih
    · rw [show mulOne a o = [] from if_neg k, List.nil_append]
      have e : mn (mx (o.hi + 1) a.f) (a.last + 1) = mn (mx o.lo a.f) (a.last + 1) := by
        unfold mn mx at *
        split <;> split at * <;> split at * <;> split at * <;> omega
      rw [e] at ih
      exact ih
theorem mpLen {os : List Pt} {a : Pt} : (mulPart os a).length ≤ os.length + 1 := by
  unfold mulPart
  split
  · simp
  · have : ∀ l : List Pt, (l.flatMap (mulOne a)).length ≤ l.length := by
      intro l
      induction l with
      | nil => simp
      | cons o l ih =>
        rw [List.flatMap_cons, List.length_append, List.length_cons]
        have : (mulOne a o).length ≤ 1 := by
          unfold mulOne
          split <;> simp
        omega
    have := this os
    omega
theorem flat_len {α β : Type} {g : α → List β} {k : Nat} (h : ∀ a, (g a).length ≤ k) : ∀ l : List α, (l.flatMap g).length ≤ l.length * k
  | [] => by simp
  | a :: l => by
    rw [List.flatMap_cons, List.length_append, List.length_cons, Nat.succ_mul]
    have := h a
    have := flat_len h l
    omega
theorem mul_til (h : PsOk n p F) (h' : PsOk m q G) (e : p.tgt = q.top) : Til (fun x => G (F x)) 0 (mulParts p q) p.top := by
  refine h.til.flatMap fun a _ b1 b2 b3 hF => ?_
  have r1 := h.rng a.lo b1 (by omega)
  have r2 := h.rng a.hi (by omega) b3
  have v1 := hF a.lo (Int.le_refl _) b2
  have v2 := hF a.hi b2 (Int.le_refl _)
  rw [res_lo] at v1
  have v2 : F a.hi = a.last := v2
  unfold mulPart
  cases hr : a.r
  · rw [if_pos rfl]
    refine ⟨rfl, b2, fun x x1 x2 => ?_, rfl⟩
    rw [res_f rfl]
    show G (F x) = resIn _ a.f
    have := hF x x1 x2
    rw [res_f hr] at this
    rw [this, h'.val (by omega) (by omega)]
  · rw [if_neg (by decide)]
    have t := mul_one hr b2 hF (T := q.top) (by omega) h'.til
    have e2 : mn (mx 0 a.f) (a.last + 1) + (a.lo - a.f) = a.lo := by
      have : a.f ≤ a.last := by rw [← v1, ← v2]; exact h.mono _ _ b1 b2 b3
      unfold mn mx
      split <;> split at * <;> omega
    rw [e2] at t
    exact t
theorem mul_ok (h : PsOk n p F) (h' : PsOk m q G) (e : p.tgt = q.top) (k : Nat) (hk : n * (m + 1) ≤ k) (k6 : k ≤ 1000000) : mulOk p q ∧ PsOk k (mulPs p q) (fun x => G (F x)) := by
  have l1 : (mulParts p q).length ≤ p.pcs.length * (q.pcs.length + 1) := by
    have := flat_len (fun a => mpLen (os := partsOf q.top q.pcs) (a := a)) (partsOf p.top p.pcs)
    rw [pLen, pLen] at this
    exact this
  have l2 : p.pcs.length * (q.pcs.length + 1) ≤ n * (m + 1) := Nat.mul_le_mul h.len (Nat.succ_le_succ h'.len)
  have hp1 : 1 ≤ p.pcs.length := by
    have := h.st
    cases hh : p.pcs with
    | nil => rw [hh] at this; cases this
    | cons a l => simp
  have l3 : q.pcs.length + 1 ≤ p.pcs.length * (q.pcs.length + 1) := Nat.le_mul_of_pos_left _ (by omega)
  have M := made_ok (tgt := q.tgt) h.top (Nat.le_trans l1 (Nat.le_trans l2 hk)) k6 (mul_til h h' e) (fun x y h0 h1 h2 => h'.mono _ _ (h.rng x h0 (by omega)).1 (h.mono x y h0 h1 h2) (by rw [← e]; exact (h.rng y (by omega) h2).2)) (fun x h0 h1 => h'.rng _ (h.rng x h0 h1).1 (by rw [← e]; exact (h.rng x h0 h1).2))
  refine ⟨⟨e, by unfold few; omega, by unfold few; omega, fun a ha hr => ?_, M.1⟩, M.2⟩
  have key : ∀ {l : List Pt} {lo top : Int}, Til F lo l top → a ∈ l → lo ≤ a.lo ∧ a.lo ≤ top ∧ F a.lo = a.f := by
    intro l
    induction l with
    | nil => intro lo top t ha; cases ha
    | cons b l ih =>
      intro lo top ⟨t1, t2, t3, t4⟩ ha
      have := t4.le
      rcases List.mem_cons.mp ha with rfl | ha
      · refine ⟨by omega, by omega, ?_⟩
        rw [t3 _ (by omega) (by omega), res_lo]
      · have := ih t4 ha
        exact ⟨by omega, this.2.1, this.2.2⟩
  obtain ⟨k1, k2, k3⟩ := key h.til ha
  have r := h.rng a.lo k1 k2
  exact (h'.til.resIn (x := a.f) (by omega) (by omega)).1
def Til2 (F G : Int → Int) : Int → List (Pt × Pt) → Int → Prop
  | lo, [], top => lo = top + 1
  | lo, c :: r, top => c.1.lo = lo ∧ c.2.lo = lo ∧ c.1.hi = c.2.hi ∧ lo ≤ c.1.hi ∧ (∀ x, lo ≤ x → x ≤ c.1.hi → F x = c.1.res x ∧ G x = c.2.res x) ∧ Til2 F G (c.1.hi + 1) r top
/-- stretches whose first is begun -/
def Rest (F : Int → Int) (low : Int) (l : List Pt) (top : Int) : Prop := match l with
  | [] => low = top + 1
  | a :: r => low ≤ a.hi ∧ (∀ x, low ≤ x → x ≤ a.hi → F x = a.res x) ∧ Til F (a.hi + 1) r top
theorem Til.rest {low top : Int} {l : List Pt} (t : Til F low l top) : Rest F low l top := by
  cases l with
  | nil => exact t
  | cons a r =>
    obtain ⟨t1, t2, t3, t4⟩ := t
    exact ⟨t2, t3, t4⟩
theorem Rest.le {low top : Int} {l : List Pt} (t : Rest F low l top) : low ≤ top + 1 := by
  cases l with
  | nil => have t : low = top + 1 := t; omega
  | cons a r =>
    obtain ⟨t2, t3, t4⟩ := t
    have := t4.le
    omega
theorem cut_res {a : Pt} {l h x : Int} : (a.cut l h).res x = a.res x := by
  cases hr : a.r
  · rw [res_f (show (a.cut l h).r = false from hr), res_f hr]
    show a.res l = _
    rw [res_f hr]
  · rw [res_t (show (a.cut l h).r = true from hr), res_t hr]
    show a.res l + (x - l) = _
    rw [res_t hr]
    omega
theorem common_til {top : Int} : ∀ {k : Nat} {as bs : List Pt} {low : Int}, as.length + bs.length ≤ k → Rest F low as top → Rest G low bs top → Til2 F G low (common k as bs low) top ∧ (common k as bs low).length ≤ k
  | 0, as, bs, low, hk, r1, r2 => by
    have e1 : as = [] := List.length_eq_zero_iff.mp (by omega)
    subst e1
    exact ⟨r1, by simp [common]⟩
  | k + 1, [], bs, low, hk, r1, r2 => ⟨r1, by simp [common]⟩
  | k + 1, a :: as, [], low, hk, r1, r2 => ⟨r2, by simp [common]⟩
  | k + 1, a :: as, b :: bs, low, hk, ⟨a1, a2, a3⟩, ⟨b1, b2, b3⟩ => by
    rw [common]
    have hm : mn a.hi b.hi ≤ a.hi ∧ mn a.hi b.hi ≤ b.hi ∧ low ≤ mn a.hi b.hi := by
      unfold mn
      split <;> omega
    have ra : Rest F (mn a.hi b.hi + 1) (if a.hi = mn a.hi b.hi then as else a :: as) top := by
      split
      · rename_i e
        rw [← e]
        exact a3.rest
      · exact ⟨by omega, fun x x1 x2 => a2 x (by omega) x2, a3⟩
    have rb : Rest G (mn a.hi b.hi + 1) (if b.hi = mn a.hi b.hi then bs else b :: bs) top := by
      split
      · rename_i e
        rw [← e]
        exact b3.rest
      · exact ⟨by omega, fun x x1 x2 => b2 x (by omega) x2, b3⟩
    have hl : (if a.hi = mn a.hi b.hi then as else a :: as).length + (if b.hi = mn a.hi b.hi then bs else b :: bs).length ≤ k := by
      simp only [List.length_cons] at hk
      rcases mn_or a.hi b.hi with e | e
      · rw [if_pos e]
        split <;> first | omega | (simp only [List.length_cons]; omega)
      · rw [if_pos e]
        split <;> first | omega | (simp only [List.length_cons]; omega)
    obtain ⟨i1, i2⟩ := common_til hl ra rb
    refine ⟨⟨rfl, rfl, rfl, hm.2.2, fun x x1 x2 => ?_, i1⟩, by simp only [List.length_cons]; omega⟩
    have x2 : x ≤ mn a.hi b.hi := x2
    rw [cut_res, cut_res]
    exact ⟨a2 x x1 (by omega), b2 x x1 (by omega)⟩
def ext (g : Bool) (i j : Int) : Int := if g = true then mx i j else mn i j
theorem extreme_til {a b : Pt} {g : Bool} (e1 : a.lo = b.lo) (e2 : a.hi = b.hi) (hl : a.lo ≤ a.hi) (h : ∀ x, a.lo ≤ x → x ≤ a.hi → F x = a.res x ∧ G x = b.res x) : Til (fun x => ext g (F x) (G x)) a.lo (extreme a b g) a.hi := by
  have one : ∀ (c : Pt), c.lo = a.lo → c.hi = a.hi → (∀ x, a.lo ≤ x → x ≤ a.hi → ext g (a.res x) (b.res x) = c.res x) → Til (fun x => ext g (F x) (G x)) a.lo [c] a.hi := by
    intro c c1 c2 c3
    refine ⟨c1, by omega, fun x x1 x2 => ?_, by show c.hi + 1 = _; omega⟩
    obtain ⟨u, v⟩ := h x x1 (by omega)
    show ext g (F x) (G x) = _
    rw [u, v]
    exact c3 x x1 (by omega)
  have two : ∀ (c d : Pt) (t : Int), a.lo ≤ t → t < a.hi → c.lo = a.lo → c.hi = t → d.lo = t + 1 → d.hi = a.hi → (∀ x, a.lo ≤ x → x ≤ t → ext g (a.res x) (b.res x) = c.res x) → (∀ x, t < x → x ≤ a.hi → ext g (a.res x) (b.res x) = d.res x) → Til (fun x => ext g (F x) (G x)) a.lo [c, d] a.hi := by
    intro c d t t1 t2 c1 c2 d1 d2 hc hd
    refine ⟨c1, by omega, fun x x1 x2 => ?_, by omega, by omega, fun x x1 x2 => ?_, by show d.hi + 1 = _; omega⟩
    · obtain ⟨u, v⟩ := h x x1 (by omega)
      show ext g (F x) (G x) = _
      rw [u, v]
      exact hc x x1 (by omega)
    · obtain ⟨u, v⟩ := h x (by omega) (by omega)
      show ext g (F x) (G x) = _
      rw [u, v]
      exact hd x (by omega) (by omega)
  unfold extreme
  by_cases hr : a.r = b.r
  · rw [if_pos hr]
    refine one _ ?_ ?_ fun x x1 x2 => ?_
    · split <;> first | rfl | exact e1.symm
    · split <;> first | rfl | exact e2.symm
    · have ra : a.res x - a.f = b.res x - b.f := by
        unfold Pt.res
        rw [hr, e1]
        omega
      cases g <;> by_cases k : b.f ≤ a.f <;> simp only [k, decide_true, decide_false, ext, Bool.true_eq_false, Bool.false_eq_true, if_false, if_true, mx, mn] <;> split <;> omega
  · rw [if_neg hr]
    simp only
    cases har : a.r
    · have hbr : b.r = true := by
        cases hb : b.r
        · exact absurd (har.trans hb.symm) hr
        · rfl
      have ra : ∀ x, a.res x = a.f := fun x => res_f har x
      have rb : ∀ x, b.res x = b.f + (x - b.lo) := fun x => res_t hbr x
      simp only [Bool.false_eq_true, if_false]
      by_cases k1 : a.lo + a.f - b.f < a.lo
      · rw [if_pos k1]
        cases g
        · refine one _ rfl rfl fun x x1 x2 => ?_
          simp only [ext, mx, mn, ra, rb, Bool.false_eq_true, if_false, if_true]
          split <;> omega
        · refine one _ e1.symm e2.symm fun x x1 x2 => ?_
          simp only [ext, mx, mn, ra, rb, Bool.false_eq_true, if_false, if_true]
          split <;> omega
      · rw [if_neg k1]
        by_cases k2 : a.hi ≤ a.lo + a.f - b.f
        · rw [if_pos k2]
          cases g
          · refine one _ e1.symm e2.symm fun x x1 x2 => ?_
            simp only [ext, mx, mn, ra, rb, Bool.false_eq_true, if_false, if_true]
            split <;> omega
          · refine one _ rfl rfl fun x x1 x2 => ?_
            simp only [ext, mx, mn, ra, rb, Bool.false_eq_true, if_false, if_true]
            split <;> omega
        · rw [if_neg k2]
          cases g
          · refine two _ _ (a.lo + a.f - b.f) (by omega) (by omega) rfl rfl rfl rfl (fun x x1 x2 => ?_) (fun x x1 x2 => ?_)
            · simp only [Bool.false_eq_true, if_false, if_true]
              rw [cut_res]
              simp only [ext, mx, mn, ra, rb, Bool.false_eq_true, if_false, if_true]
              split <;> omega
            · simp only [Bool.false_eq_true, if_false, if_true]
              rw [cut_res]
              simp only [ext, mx, mn, ra, rb, Bool.false_eq_true, if_false, if_true]
              split <;> omega
          · refine two _ _ (a.lo + a.f - b.f) (by omega) (by omega) rfl rfl rfl rfl (fun x x1 x2 => ?_) (fun x x1 x2 => ?_)
            · simp only [Bool.false_eq_true, if_false, if_true]
              rw [cut_res]
              simp only [ext, mx, mn, ra, rb, Bool.false_eq_true, if_false, if_true]
              split <;> omega
            · simp only [Bool.false_eq_true, if_false, if_true]
              rw [cut_res]
              simp only [ext, mx, mn, ra, rb, Bool.false_eq_true, if_false, if_true]
              split <;> omega
    · have hbr : b.r = false := by
        cases hb : b.r
        · rfl
        · exact absurd (har.trans hb.symm) hr
      have ra : ∀ x, a.res x = a.f + (x - a.lo) := fun x => res_t har x
      have rb : ∀ x, b.res x = b.f := fun x => res_f hbr x
      simp only [if_true]
      by_cases k1 : b.lo + b.f - a.f < b.lo
      · rw [if_pos k1]
        cases g
        · refine one _ e1.symm e2.symm fun x x1 x2 => ?_
          simp only [ext, mx, mn, ra, rb, Bool.false_eq_true, if_false, if_true]
          split <;> omega
        · refine one _ rfl rfl fun x x1 x2 => ?_
          simp only [ext, mx, mn, ra, rb, Bool.false_eq_true, if_false, if_true]
          split <;> omega
      · rw [if_neg k1]
        by_cases k2 : b.hi ≤ b.lo + b.f - a.f
        · rw [if_pos k2]
          cases g
          · refine one _ rfl rfl fun x x1 x2 => ?_
            simp only [ext, mx, mn, ra, rb, Bool.false_eq_true, if_false, if_true]
            split <;> omega
          · refine one _ e1.symm e2.symm fun x x1 x2 => ?_
            simp only [ext, mx, mn, ra, rb, Bool.false_eq_true, if_false, if_true]
            split <;> omega
        · rw [if_neg k2]
          cases g
          · refine two _ _ (b.lo + b.f - a.f) (by omega) (by omega) e1.symm rfl rfl e2.symm (fun x x1 x2 => ?_) (fun x x1 x2 => ?_)
            · simp only [Bool.false_eq_true, if_false, if_true]
              rw [cut_res]
              simp only [ext, mx, mn, ra, rb, Bool.false_eq_true, if_false, if_true]
              split <;> omega
            · simp only [Bool.false_eq_true, if_false, if_true]
              rw [cut_res]
              simp only [ext, mx, mn, ra, rb, Bool.false_eq_true, if_false, if_true]
              split <;> omega
          · refine two _ _ (b.lo + b.f - a.f) (by omega) (by omega) e1.symm rfl rfl e2.symm (fun x x1 x2 => ?_) (fun x x1 x2 => ?_)
            · simp only [Bool.false_eq_true, if_false, if_true]
              rw [cut_res]
              simp only [ext, mx, mn, ra, rb, Bool.false_eq_true, if_false, if_true]
              split <;> omega
            · simp only [Bool.false_eq_true, if_false, if_true]
              rw [cut_res]
              simp only [ext, mx, mn, ra, rb, Bool.false_eq_true, if_false, if_true]
              split <;> omega
theorem exLen {a b : Pt} {g : Bool} : (extreme a b g).length ≤ 2 := extreme_len.1
theorem join_til2 {g : Bool} {top : Int} : ∀ {cs : List (Pt × Pt)} {lo : Int}, Til2 F G lo cs top → Til (fun x => ext g (F x) (G x)) lo (cs.flatMap fun c => extreme c.1 c.2 g) top
  | [], lo, t => t
  | c :: cs, lo, ⟨t1, t2, t3, t4, t5, t6⟩ => by
    rw [List.flatMap_cons]
    have e := extreme_til (F := F) (G := G) (g := g) (t1.trans t2.symm) t3 (by omega) (fun x x1 x2 => t5 x (by omega) x2)
    rw [t1] at e
    exact e.append (join_til2 t6)
theorem join_ok {g : Bool} (h : PsOk n p F) (h' : PsOk m q G) (e1 : p.top = q.top) (e2 : p.tgt = q.tgt) (k : Nat) (hk : (n + m) * 2 ≤ k) (k6 : k ≤ 1000000) : joinOk p q g ∧ PsOk k (joinPs p q g) (fun x => ext g (F x) (G x)) := by
  have tq := h'.til
  rw [← e1] at tq
  have c := common_til (k := p.pcs.length + q.pcs.length) (by rw [pLen, pLen]; exact Nat.le_refl _) h.til.rest tq.rest
  have ec : commonOf p q = common (p.pcs.length + q.pcs.length) (partsOf p.top p.pcs) (partsOf p.top q.pcs) 0 := by unfold commonOf; rw [← e1]
  rw [← ec] at c
  have l1 := flat_len (fun c : Pt × Pt => exLen (a := c.1) (b := c.2) (g := g)) (commonOf p q)
  have h1 := h.len
  have h2 := h'.len
  have M := made_ok (tgt := p.tgt) h.top (Nat.le_trans l1 (Nat.le_trans (Nat.mul_le_mul_right 2 (Nat.le_trans c.2 (Nat.add_le_add h1 h2))) hk)) k6 (join_til2 (g := g) c.1) (fun x y h0 h1 h2 => by
      have a1 := h.mono x y h0 h1 h2
      have a2 := h'.mono x y h0 h1 (by omega)
      unfold ext mx mn
      cases g <;> simp only [Bool.false_eq_true, if_false, if_true] <;> split <;> split <;> omega) (fun x h0 h1 => by
      have a1 := h.rng x h0 h1
      have a2 := h'.rng x h0 (by omega)
      unfold ext mx mn
      cases g <;> simp only [Bool.false_eq_true, if_false, if_true] <;> split <;> omega)
  exact ⟨⟨e1, e2, by unfold few; omega, M.1⟩, M.2⟩
end
end TW

namespace TW
theorem resIn_in {p : Pt} {r : List Pt} {x : Int} (h1 : p.lo ≤ x) (h2 : x ≤ p.hi) : resIn (p :: r) x = p.res x := by
  have e : inPt x p = true := by simp [inPt, h1, h2]
  unfold resIn
  rw [List.filter_cons, if_pos e]
  rfl
theorem resIn_out {p : Pt} {r : List Pt} {x : Int} (h2 : p.hi < x) : resIn (p :: r) x = resIn r x := by
  have e : inPt x p = false := by
    have : ¬ x ≤ p.hi := by omega
    simp [inPt, this]
  unfold resIn
  rw [List.filter_cons, if_neg (by rw [e]; decide)]
theorem til_res {top : Int} : ∀ {l : List Pc} {s d : Int} {F : Int → Int}, l.head?.map (·.s) = some s → incr l = true → lastS d l ≤ top → (∀ x, s ≤ x → x ≤ top → F x = resIn (partsOf top l) x) → Til F s (partsOf top l) top
  | [], _, _, _, e, _, _, _ => by cases e
  | [a], s, d, F, e, h1, h2, h => by
    obtain rfl : a.s = s := by simpa using e
    have h2 : a.s ≤ top := h2
    refine ⟨rfl, h2, fun x x1 x2 => ?_, rfl⟩
    rw [h x x1 x2]
    exact resIn_in (p := ⟨a.s, top, a.f, a.r⟩) x1 x2
  | a :: b :: r, s, d, F, e, h1, h2, h => by
    obtain rfl : a.s = s := by simpa using e
    rw [incr, Bool.and_eq_true, decide_eq_true_eq] at h1
    have t := fun (k : ∀ x, b.s ≤ x → x ≤ top → F x = resIn (partsOf top (b :: r)) x) => til_res (l := b :: r) (s := b.s) (d := a.s) (F := F) rfl h1.2 h2 k
    have le := fun k => (t k).le
    have key : ∀ x, b.s ≤ x → x ≤ top → F x = resIn (partsOf top (b :: r)) x := fun x x1 x2 => by
      rw [h x (by omega) x2]
      exact resIn_out (p := ⟨a.s, b.s - 1, a.f, a.r⟩) (show b.s - 1 < x by omega)
    have le := le key
    refine ⟨rfl, by show a.s ≤ b.s - 1; omega, fun x x1 x2 => ?_, ?_⟩
    · have x2 : x ≤ b.s - 1 := x2
      rw [h x x1 (by omega)]
      exact resIn_in (p := ⟨a.s, b.s - 1, a.f, a.r⟩) x1 x2
    · show Til F (b.s - 1 + 1) _ _
      rw [show b.s - 1 + 1 = b.s by omega]
      exact t key
theorem chk_til {top tgt : Int} {F : Int → Int} : ∀ {l : List Pc} {s last : Int}, l.head?.map (·.s) = some s → Til F s (partsOf top l) top → chkP top tgt last l = true →
    (∀ x, s ≤ x → x ≤ top → last ≤ F x ∧ F x ≤ tgt) ∧ (∀ x y, s ≤ x → x ≤ y → y ≤ top → F x ≤ F y)
  | [], _, _, e, _, _ => by cases e
  | [a], s, last, e, ⟨t1, t2, t3, t4⟩, c => by
    obtain rfl : a.s = s := by simpa using e
    rw [chkP] at c
    split at c
    · cases c
    · rename_i c1
      rw [chkP, decide_eq_true_eq] at c
      have v : ∀ x, a.s ≤ x → x ≤ top → F x = a.f + if a.r = true then x - a.s else 0 := fun x x1 x2 => t3 x x1 x2
      have c : (a.f + if a.r = true then top - a.s else 0) ≤ tgt := c
      refine ⟨fun x x1 x2 => ?_, fun x y x1 x2 x3 => ?_⟩
      · rw [v x x1 x2]
        split <;> rename_i hr <;> simp only [hr, if_true, if_false] at c <;> omega
      · rw [v x x1 (by omega), v y (by omega) x3]
        split <;> omega
  | a :: b :: r, s, last, e, ⟨t1, t2, t3, t4⟩, c => by
    obtain rfl : a.s = s := by simpa using e
    have t2 : a.s ≤ b.s - 1 := t2
    have t4 : Til F (b.s - 1 + 1) (partsOf top (b :: r)) top := t4
    rw [show b.s - 1 + 1 = b.s by omega] at t4
    have le := t4.le
    have bt : b.s ≤ top := by
      cases r with
      | nil => exact t4.2.1
      | cons c' r =>
        have k1 : b.s ≤ c'.s - 1 := t4.2.1
        have k2 := t4.2.2.2.le
        have k2 : c'.s - 1 + 1 ≤ top + 1 := k2
        omega
    rw [chkP] at c
    split at c
    · cases c
    · rename_i c1
      have v : ∀ x, a.s ≤ x → x ≤ b.s - 1 → F x = a.f + if a.r = true then x - a.s else 0 := fun x x1 x2 => t3 x x1 x2
      obtain ⟨i1, i2⟩ := chk_til (l := b :: r) (s := b.s) rfl t4 c
      have i0 := i1 b.s (by omega) bt
      have i0 : (a.f + if a.r = true then b.s - 1 - a.s else 0) ≤ F b.s ∧ F b.s ≤ tgt := i0
      have j1 : ∀ x, b.s ≤ x → x ≤ top → (a.f + if a.r = true then b.s - 1 - a.s else 0) ≤ F x ∧ F x ≤ tgt := i1
      refine ⟨fun x x1 x2 => ?_, fun x y x1 x2 x3 => ?_⟩
      · by_cases k : x ≤ b.s - 1
        · rw [v x x1 k]
          split <;> rename_i hr <;> simp only [hr, if_true, if_false] at i0 <;> omega
        · have := j1 x (by omega) x2
          split at this <;> omega
      · by_cases k : y ≤ b.s - 1
        · rw [v x x1 (by omega), v y (by omega) k]
          split <;> omega
        · by_cases k' : x ≤ b.s - 1
          · have := (j1 y (by omega) x3).1
            rw [v x x1 k']
            cases hr : a.r <;> simp only [hr, Bool.false_eq_true, if_true, if_false] at this ⊢ <;> omega
          · exact i2 x y (by omega) x2 x3
/-- the function of pieces -/
def pcF (top : Int) (l : List Pc) : Int → Int := resIn (partsOf top l)
theorem are_til {top tgt : Int} {l : List Pc} (h : arePieces top tgt l = true) : Til (pcF top l) 0 (partsOf top l) top ∧ (∀ x, 0 ≤ x → x ≤ top → 0 ≤ pcF top l x ∧ pcF top l x ≤ tgt) ∧ (∀ x y, 0 ≤ x → x ≤ y → y ≤ top → pcF top l x ≤ pcF top l y) := by
  cases l with
  | nil => cases h
  | cons a r =>
    simp only [arePieces, Bool.and_eq_true, decide_eq_true_eq] at h
    obtain ⟨⟨⟨⟨h1, h2⟩, h3⟩, h4⟩, h5⟩ := h
    have t := til_res (top := top) (l := a :: r) (s := 0) (d := 0) (F := pcF top (a :: r)) (by simp [h2]) h4 h3 fun _ _ _ => rfl
    obtain ⟨c1, c2⟩ := chk_til (l := a :: r) (s := 0) (by simp [h2]) t h5
    exact ⟨t, c1, c2⟩
theorem pieces_ok {n : Nat} {top tgt : Int} {l : List Pc} (h0 : 0 ≤ top) (h : arePieces top tgt l = true) (hl : l.length ≤ n) : PsOk n (mkPs top tgt l) (pcF top l) := by
  obtain ⟨t, r, m⟩ := are_til h
  have hne := t.ne h0
  obtain ⟨c, s⟩ := normal_can hne t
  have l2 := normal_len (l := partsOf top l)
  rw [pLen] at l2
  have := r 0 (by omega) h0
  exact ⟨h0, by show 0 ≤ tgt; omega, Nat.le_trans l2 hl, c, s, m, r⟩
theorem mul_top (p q : Ps) : (mulPs p q).top = p.top := rfl
theorem mul_tgt (p q : Ps) : (mulPs p q).tgt = q.tgt := rfl
theorem join_top (p q : Ps) (g : Bool) : (joinPs p q g).top = p.top := rfl
theorem join_tgt (p q : Ps) (g : Bool) : (joinPs p q g).tgt = p.tgt := rfl
end TW

namespace TW
/-- the value at x -/
def Ps.v (p : Ps) (x : Int) : Int := resIn (partsOf p.top p.pcs) x
/-- p is a passage of at most n pieces -/
def Pok (n : Nat) (p : Ps) : Prop := PsOk n p p.v
section
variable {F : Int → Int} {n m : Nat} {p q : Ps}
theorem PsOk.congr {G : Int → Int} (h : PsOk n p F) (k : ∀ x, 0 ≤ x → x ≤ p.top → F x = G x) : PsOk n p G where
  top := h.top
  tgt := h.tgt
  len := h.len
  can := h.can.congr h.st k
  st := h.st
  mono := fun x y h0 h1 h2 => by rw [← k x h0 (by omega), ← k y (by omega) h2]; exact h.mono x y h0 h1 h2
  rng := fun x h0 h1 => by rw [← k x h0 h1]; exact h.rng x h0 h1
theorem PsOk.v (h : PsOk n p F) {x : Int} (h0 : 0 ≤ x) (h1 : x ≤ p.top) : p.v x = F x := h.val h0 h1
theorem PsOk.pok (h : PsOk n p F) : Pok n p := h.congr fun x h0 h1 => (h.v h0 h1).symm
theorem Pok.up {k : Nat} (h : Pok n p) (hk : n ≤ k) : Pok k p := h.mono' hk
theorem Pok.eq (h : Pok n p) (h' : Pok m q) (e1 : p.top = q.top) (e2 : p.tgt = q.tgt) : p = q ↔ ∀ x, 0 ≤ x → x ≤ p.top → p.v x = q.v x := PsOk.eq h h' e1 e2
theorem Pok.rg (h : Pok n p) {x : Int} (h0 : 0 ≤ x) (h1 : x ≤ p.top) : 0 ≤ p.v x ∧ p.v x ≤ p.tgt := h.rng x h0 h1
theorem Pok.le (h : Pok n p) {x y : Int} (h0 : 0 ≤ x) (h1 : x ≤ y) (h2 : y ≤ p.top) : p.v x ≤ p.v y := h.mono x y h0 h1 h2
theorem Pok.mul (h : Pok n p) (h' : Pok m q) (e : p.tgt = q.top) (k : Nat) (hk : n * (m + 1) ≤ k) (k6 : k ≤ 1000000) : mulOk p q ∧ Pok k (mulPs p q) ∧ ∀ x, 0 ≤ x → x ≤ p.top → (mulPs p q).v x = q.v (p.v x) := by
  obtain ⟨a, b⟩ := mul_ok h h' e k hk k6
  exact ⟨a, b.pok, fun x h0 h1 => b.v h0 h1⟩
theorem Pok.join (h : Pok n p) (h' : Pok m q) (g : Bool) (e1 : p.top = q.top) (e2 : p.tgt = q.tgt) (k : Nat) (hk : (n + m) * 2 ≤ k) (k6 : k ≤ 1000000) : joinOk p q g ∧ Pok k (joinPs p q g) ∧ ∀ x, 0 ≤ x → x ≤ p.top → (joinPs p q g).v x = ext g (p.v x) (q.v x) := by
  obtain ⟨a, b⟩ := join_ok (g := g) h h' e1 e2 k hk k6
  exact ⟨a, b.pok, fun x h0 h1 => b.v h0 h1⟩
theorem Pok.made {top tgt : Int} {l : List Pt} (h0 : 0 ≤ top) (hn : l.length ≤ n) (n6 : n ≤ 1000000) (t : Til F 0 l top) (mono : ∀ x y, 0 ≤ x → x ≤ y → y ≤ top → F x ≤ F y) (rng : ∀ x, 0 ≤ x → x ≤ top → 0 ≤ F x ∧ F x ≤ tgt) : madeOk top tgt l ∧ Pok n (madeOf top tgt l) ∧ ∀ x, 0 ≤ x → x ≤ top → (madeOf top tgt l).v x = F x := by
  obtain ⟨a, b⟩ := made_ok h0 hn n6 t mono rng
  exact ⟨a, b.pok, fun x h0 h1 => b.v h0 h1⟩
theorem Pok.pieces {top tgt : Int} {l : List Pc} (h0 : 0 ≤ top) (h : arePieces top tgt l = true) (hl : l.length ≤ n) : Pok n (mkPs top tgt l) ∧ ∀ x, 0 ≤ x → x ≤ top → (mkPs top tgt l).v x = pcF top l x := by
  have b := pieces_ok h0 h hl
  exact ⟨b.pok, fun x h0 h1 => b.v h0 h1⟩
end
def samePs (t : Int) : Ps := mkPs t t [⟨0, 0, true⟩]
theorem same_are {t : Int} (h : 0 ≤ t) : arePieces t t [⟨0, 0, true⟩] = true := by
  simp [arePieces, pieceOk, lastS, incr, chkP, endOf, h]
theorem same_ok {t : Int} (h : 0 ≤ t) : Pok 1 (samePs t) ∧ ∀ x, 0 ≤ x → x ≤ t → (samePs t).v x = x := by
  obtain ⟨a, b⟩ := Pok.pieces (n := 1) h (same_are h) (by simp)
  refine ⟨a, fun x h0 h1 => ?_⟩
  rw [show (samePs t).v x = (mkPs t t [⟨0, 0, true⟩]).v x from rfl, b x h0 h1]
  show resIn [⟨0, t, 0, true⟩] x = x
  rw [resIn_in (p := ⟨0, t, 0, true⟩) h0 h1]
  simp [Pt.res]
structure Tab (tgt : Int) (ns : List Int) : Prop where
  ne : ns ≠ []
  up : ns.Pairwise (· ≤ ·)
  rg : ∀ n ∈ ns, 0 ≤ n ∧ n ≤ tgt
def tabFrom (i : Nat) (ns : List Int) : List Pc := (ns.zipIdx i).map fun p => ⟨(p.2 : Int), p.1, false⟩
def tabPcs (ns : List Int) : List Pc := tabFrom 0 ns
theorem tabFrom_cons {i : Nat} {n : Int} {ns : List Int} : tabFrom i (n :: ns) = ⟨(i : Int), n, false⟩ :: tabFrom (i + 1) ns := by
  simp [tabFrom, List.zipIdx_cons]
theorem tab_len {i : Nat} {ns : List Int} : (tabFrom i ns).length = ns.length := by simp [tabFrom]
theorem tab_incr : ∀ (ns : List Int) (i : Nat), incr (tabFrom i ns) = true
  | [], i => rfl
  | [n], i => rfl
  | n :: m :: ns, i => by
    have ih := tab_incr (m :: ns) (i + 1)
    rw [tabFrom_cons] at ih ⊢
    rw [tabFrom_cons, incr, ih, Bool.and_true]
    exact decide_eq_true (by show (i : Int) < ((i + 1 : Nat) : Int); omega)
theorem tab_last : ∀ (ns : List Int) (i : Nat) (d : Int), ns ≠ [] → lastS d (tabFrom i ns) = (i : Int) + ns.length - 1
  | [], i, d, h => absurd rfl h
  | [n], i, d, h => by
    rw [tabFrom_cons]
    show (i : Int) = _
    simp only [List.length_cons, List.length_nil]
    omega
  | n :: m :: ns, i, d, h => by
    rw [tabFrom_cons]
    show lastS (i : Int) (tabFrom (i + 1) (m :: ns)) = _
    rw [tab_last (m :: ns) (i + 1) (i : Int) (by simp)]
    simp only [List.length_cons]
    omega
theorem tab_chk {top tgt : Int} : ∀ (ns : List Int) (i : Nat) (last : Int), (∀ n ∈ ns, last ≤ n ∧ n ≤ tgt) → ns.Pairwise (· ≤ ·) → last ≤ tgt → chkP top tgt last (tabFrom i ns) = true
  | [], i, last, h, p, hl => by
    show decide (last ≤ tgt) = true
    exact decide_eq_true hl
  | n :: ns, i, last, h, p, hl => by
    rw [tabFrom_cons, chkP]
    rw [List.pairwise_cons] at p
    have := h n (by simp)
    rw [if_neg (by show ¬ n < last; omega)]
    simp only [Bool.false_eq_true, if_false]
    rw [show n + (0 : Int) = n by omega]
    exact tab_chk ns (i + 1) n (fun m hm => ⟨p.1 m hm, (h m (by simp [hm])).2⟩) p.2 this.2
theorem tab_are {tgt : Int} {ns : List Int} (t : Tab tgt ns) : arePieces ((ns.length : Int) - 1) tgt (tabPcs ns) = true := by
  cases ns with
  | nil => exact absurd rfl t.ne
  | cons n ns =>
    have h1 := tab_incr (n :: ns) 0
    have h2 := tab_last (n :: ns) 0 0 (by simp)
    have h3 := tab_chk (top := ((n :: ns).length : Int) - 1) (n :: ns) 0 0 t.rg t.up (by have := t.rg n (by simp); omega)
    have h4 : (tabFrom 0 (n :: ns)).all pieceOk = true := by
      rw [List.all_eq_true]
      intro p hp
      rw [tabFrom, List.mem_map] at hp
      obtain ⟨⟨v, k⟩, hv, rfl⟩ := hp
      simp only [pieceOk, Bool.and_eq_true, decide_eq_true_eq]
      have hv2 := (List.mem_zipIdx hv).2.2
      have : v ∈ n :: ns := by rw [hv2]; exact List.getElem_mem _
      exact ⟨by omega, (t.rg v this).1⟩
    unfold tabPcs arePieces
    rw [tabFrom_cons] at h1 h2 h3 h4 ⊢
    simp only [h1, h3, h4, Bool.and_true, Bool.true_and, Bool.and_eq_true, decide_eq_true_eq]
    exact ⟨rfl, by rw [h2]; omega⟩
theorem tab_res {top : Int} : ∀ (ns : List Int) (i k : Nat) (v : Int), top = (i : Int) + ns.length - 1 → ns[k]? = some v → resIn (partsOf top (tabFrom i ns)) ((i + k : Nat) : Int) = v
  | [], i, k, v, ht, h => by simp at h
  | [n], i, k, v, ht, h => by
    have hk : k = 0 := by
      have := (List.getElem?_eq_some_iff.mp h).1
      simpa using this
    subst hk
    have : n = v := by simpa using h
    subst this
    simp only [List.length_cons, List.length_nil] at ht
    rw [tabFrom_cons]
    show resIn [⟨(i : Int), top, n, false⟩] _ = n
    rw [resIn_in (p := ⟨(i : Int), top, n, false⟩) (by show (i : Int) ≤ _; omega) (by show _ ≤ top; omega)]
    simp [Pt.res]
  | n :: m :: ns, i, k, v, ht, h => by
    simp only [List.length_cons] at ht
    rw [tabFrom_cons, tabFrom_cons]
    show resIn (⟨(i : Int), ((i + 1 : Nat) : Int) - 1, n, false⟩ :: partsOf top (⟨((i + 1 : Nat) : Int), m, false⟩ :: tabFrom (i + 1 + 1) ns)) _ = v
    cases k with
    | zero =>
      have : n = v := by simpa using h
      subst this
      rw [resIn_in (p := ⟨(i : Int), ((i + 1 : Nat) : Int) - 1, n, false⟩) (by show (i : Int) ≤ ((i + 0 : Nat) : Int); omega) (by show ((i + 0 : Nat) : Int) ≤ ((i + 1 : Nat) : Int) - 1; omega)]
      simp [Pt.res]
    | succ k =>
      rw [resIn_out (p := ⟨(i : Int), ((i + 1 : Nat) : Int) - 1, n, false⟩) (by show ((i + 1 : Nat) : Int) - 1 < ((i + (k + 1) : Nat) : Int); omega), ← tabFrom_cons]
      have := tab_res (top := top) (m :: ns) (i + 1) k v (by simp only [List.length_cons]; omega) (by simpa using h)
      rw [show i + (k + 1) = i + 1 + k by omega]
      exact this
def tabPs (tgt : Int) (ns : List Int) : Ps := mkPs ((ns.length : Int) - 1) tgt (tabPcs ns)
theorem tab_ok {n : Nat} {tgt : Int} {ns : List Int} (t : Tab tgt ns) (hn : ns.length ≤ n) : Pok n (tabPs tgt ns) ∧ ∀ (k : Nat) v, ns[k]? = some v → (tabPs tgt ns).v (k : Int) = v := by
  have hp : 0 < ns.length := List.length_pos_iff.mpr t.ne
  obtain ⟨a, b⟩ := Pok.pieces (n := n) (by omega) (tab_are t) (by unfold tabPcs; rw [tab_len]; exact hn)
  refine ⟨a, fun k v h => ?_⟩
  have hk := (List.getElem?_eq_some_iff.mp h).1
  rw [show (tabPs tgt ns).v (k : Int) = (mkPs ((ns.length : Int) - 1) tgt (tabPcs ns)).v (k : Int) from rfl, b (k : Int) (by omega) (by omega)]
  have := tab_res (top := (ns.length : Int) - 1) ns 0 k v (by omega) h
  rw [Nat.zero_add] at this
  exact this
end TW

namespace TW
/-- the greatest x up to n with F x at most y (0 if none) -/
def gm (F : Int → Int) (y : Int) : Nat → Int
  | 0 => 0
  | n + 1 => if F ((n + 1 : Nat) : Int) ≤ y then ((n + 1 : Nat) : Int) else gm F y n
theorem gm_spec {F : Int → Int} {y : Int} (h : F 0 ≤ y) : ∀ n : Nat, (0 ≤ gm F y n ∧ gm F y n ≤ n) ∧ F (gm F y n) ≤ y ∧ ∀ x, gm F y n < x → x ≤ n → y < F x
  | 0 => ⟨⟨by simp [gm], by simp [gm]⟩, by simpa [gm] using h, fun x h1 h2 => by simp only [gm] at h1; omega⟩
  | n + 1 => by
    obtain ⟨i1, i2, i3⟩ := gm_spec h n
    unfold gm
    split
    · rename_i c
      exact ⟨by omega, c, fun x h1 h2 => by omega⟩
    · rename_i c
      refine ⟨by omega, i2, fun x h1 h2 => ?_⟩
      by_cases e : x = ((n + 1 : Nat) : Int)
      · rw [e]; omega
      · exact i3 x h1 (by omega)
/-- the least x up to n with F x at least y (n if none below) -/
def lm (F : Int → Int) (y : Int) : Nat → Int
  | 0 => 0
  | n + 1 => if y ≤ F (n : Int) then lm F y n else ((n + 1 : Nat) : Int)
theorem lm_spec {F : Int → Int} {y : Int} : ∀ (n : Nat), (∀ x x', 0 ≤ x → x ≤ x' → x' ≤ (n : Int) → F x ≤ F x') → y ≤ F (n : Int) → (0 ≤ lm F y n ∧ lm F y n ≤ n) ∧ y ≤ F (lm F y n) ∧ ∀ x, 0 ≤ x → x < lm F y n → F x < y
  | 0, m, h => ⟨⟨by simp [lm], by simp [lm]⟩, by simpa [lm] using h, fun x h1 h2 => by simp only [lm] at h2; omega⟩
  | n + 1, m, h => by
    unfold lm
    split
    · rename_i c
      obtain ⟨i1, i2, i3⟩ := lm_spec n (fun x x' a b d => m x x' a b (by omega)) c
      exact ⟨by omega, i2, i3⟩
    · rename_i c
      refine ⟨by omega, h, fun x h1 h2 => ?_⟩
      have := m x (n : Int) h1 (by omega) (by omega)
      omega
section
variable {n : Nat} {p : Ps}
def amF (p : Ps) (y : Int) : Int := gm p.v y p.top.toNat
def alF (p : Ps) (y : Int) : Int := lm p.v y p.top.toNat
theorem Pok.am (h : Pok n p) (h0 : p.v 0 = 0) {y : Int} (hy : 0 ≤ y) : (0 ≤ amF p y ∧ amF p y ≤ p.top) ∧ p.v (amF p y) ≤ y ∧ ∀ x, amF p y < x → x ≤ p.top → y < p.v x := by
  obtain ⟨a, b, c⟩ := gm_spec (F := p.v) (y := y) (by omega) p.top.toNat
  have := h.top
  refine ⟨⟨a.1, ?_⟩, b, fun x h1 h2 => c x h1 (by omega)⟩
  have := a.2
  unfold amF
  omega
/-- at most, as a fit -/
theorem Pok.am_iff (h : Pok n p) (h0 : p.v 0 = 0) {x y : Int} (hy : 0 ≤ y) (hx : 0 ≤ x) (hx' : x ≤ p.top) : p.v x ≤ y ↔ x ≤ amF p y := by
  obtain ⟨a, b, c⟩ := h.am h0 hy
  constructor
  · intro k
    rcases Int.lt_or_le (amF p y) x with z | z
    · have := c x z hx'; omega
    · exact z
  · intro k
    have := h.le hx k a.2
    omega
theorem Pok.am_uniq (h : Pok n p) (h0 : p.v 0 = 0) {x y : Int} (hy : 0 ≤ y) (hx : 0 ≤ x) (hx' : x ≤ p.top) (k1 : p.v x ≤ y) (k2 : x < p.top → y < p.v (x + 1)) : amF p y = x := by
  have a := (h.am_iff h0 hy hx hx').mp k1
  obtain ⟨b1, b2, b3⟩ := h.am h0 hy
  by_cases e : x < p.top
  · have k2 := k2 e
    have := (not_congr (h.am_iff h0 (x := x + 1) hy (by omega) (by omega))).mp (by omega)
    omega
  · omega
theorem Pok.al (h : Pok n p) {y : Int} (hy : y ≤ p.v p.top) : (0 ≤ alF p y ∧ alF p y ≤ p.top) ∧ y ≤ p.v (alF p y) ∧ ∀ x, 0 ≤ x → x < alF p y → p.v x < y := by
  have ht := h.top
  have e : ((p.top.toNat : Nat) : Int) = p.top := by omega
  obtain ⟨a, b, c⟩ := lm_spec (F := p.v) (y := y) p.top.toNat (fun x x' h1 h2 h3 => h.le h1 h2 (by omega)) (by rw [e]; exact hy)
  exact ⟨⟨a.1, by have := a.2; unfold alF; omega⟩, b, c⟩
theorem Pok.al_iff (h : Pok n p) {x y : Int} (hy : y ≤ p.v p.top) (hx : 0 ≤ x) (hx' : x ≤ p.top) : y ≤ p.v x ↔ alF p y ≤ x := by
  obtain ⟨a, b, c⟩ := h.al hy
  constructor
  · intro k
    rcases Int.lt_or_le x (alF p y) with z | z
    · have := c x hx z; omega
    · exact z
  · intro k
    have := h.le a.1 k hx'
    omega
theorem Pok.al_uniq (h : Pok n p) {x y : Int} (hy : y ≤ p.v p.top) (hx : 0 ≤ x) (hx' : x ≤ p.top) (k1 : y ≤ p.v x) (k2 : 0 < x → p.v (x - 1) < y) : alF p y = x := by
  have a := (h.al_iff hy hx hx').mp k1
  obtain ⟨b1, b2, b3⟩ := h.al hy
  by_cases e : 0 < x
  · have k2 := k2 e
    have := (not_congr (h.al_iff (x := x - 1) hy (by omega) (by omega))).mp (by omega)
    omega
  · omega
end
/-- what greatest_sources makes -/
def gsrc (tgt top : Int) (at_ : Int) : List Pt → List Pt
  | [] => [⟨at_, tgt, top, false⟩]
  | a :: r => (if at_ < a.f then [⟨at_, a.f - 1, a.lo - 1, false⟩] else []) ++ ((if a.f < a.last then [⟨a.f, a.last - 1, a.lo, true⟩] else []) ++ gsrc tgt top a.last r)
/-- what least_sources makes -/
def lsrc (at_ : Int) : List Pt → List Pt
  | [] => []
  | a :: r => (if at_ ≤ a.f then [⟨at_, a.f, a.lo, false⟩] else []) ++ ((if a.f < a.last then [⟨a.f + 1, a.last, a.lo + 1, true⟩] else []) ++ lsrc (a.last + 1) r)
theorem gsrc_len {tgt top : Int} : ∀ (l : List Pt) (a : Int), (gsrc tgt top a l).length ≤ 2 * l.length + 1
  | [], a => by simp [gsrc]
  | b :: r, a => by
    have := gsrc_len (tgt := tgt) (top := top) r b.last
    simp only [gsrc, List.length_append, List.length_cons]
    split <;> split <;> simp only [List.length_cons, List.length_nil] <;> omega
theorem lsrc_len : ∀ (l : List Pt) (a : Int), (lsrc a l).length ≤ 2 * l.length
  | [], a => by simp [lsrc]
  | b :: r, a => by
    have := lsrc_len r (b.last + 1)
    simp only [lsrc, List.length_append, List.length_cons]
    split <;> split <;> simp only [List.length_cons, List.length_nil] <;> omega
theorem Til.one {F : Int → Int} {c : Pt} (hl : c.lo ≤ c.hi) (h : ∀ x, c.lo ≤ x → x ≤ c.hi → F x = c.res x) : Til F c.lo [c] c.hi := ⟨rfl, hl, h, rfl⟩
theorem Til.opt {F : Int → Int} {A : Prop} [Decidable A] {c : Pt} {lo m top : Int} {r : List Pt} (h1 : A → lo = c.lo ∧ c.lo ≤ c.hi ∧ m = c.hi + 1 ∧ ∀ x, c.lo ≤ x → x ≤ c.hi → F x = c.res x) (h2 : ¬ A → lo = m) (t : Til F m r top) : Til F lo ((if A then [c] else []) ++ r) top := by
  by_cases a : A
  · rw [if_pos a]
    obtain ⟨rfl, e2, rfl, e4⟩ := h1 a
    exact (Til.one e2 e4).append t
  · rw [if_neg a, List.nil_append, h2 a]
    exact t
section
variable {n : Nat} {p : Ps}
theorem gsrc_til (h : Pok n p) (h0 : p.v 0 = 0) : ∀ (l : List Pt) (lo : Int), Til p.v lo l p.top → 0 ≤ lo → lo ≤ p.top + 1 → ∀ a : Int, a = (if lo = 0 then 0 else p.v (lo - 1)) → Til (amF p) a (gsrc p.tgt p.top a l) p.tgt
  | [], lo, t, l0, l1, a, ha => by
    have t : lo = p.top + 1 := t
    have ht := h.top
    rw [if_neg (by omega)] at ha
    have rg := h.rg (x := lo - 1) (by omega) (by omega)
    refine ⟨rfl, by show a ≤ p.tgt; omega, fun y y1 y2 => ?_, rfl⟩
    rw [res_f rfl]
    show amF p y = p.top
    have ea : a = p.v p.top := by rw [ha, show lo - 1 = p.top by omega]
    have y1 : a ≤ y := y1
    exact h.am_uniq h0 (by omega) ht (Int.le_refl _) (by omega) (fun z => absurd z (Int.lt_irrefl _))
  | b :: r, lo, ⟨t1, t2, t3, t4⟩, l0, l1, a, ha => by
    subst t1
    have le := t4.le
    have v1 := t3 b.lo (Int.le_refl _) t2
    have v2 := t3 b.hi t2 (Int.le_refl _)
    rw [res_lo] at v1
    have v2 : p.v b.hi = b.last := v2
    have rg := h.rg l0 (by omega : b.lo ≤ p.top)
    have m1 := h.le l0 t2 (by omega)
    have ha2 : 0 ≤ a ∧ a ≤ b.f ∧ (b.lo = 0 → a = b.f) ∧ (b.lo ≠ 0 → a = p.v (b.lo - 1)) := by
      by_cases e : b.lo = 0
      · rw [if_pos e] at ha
        rw [e, h0] at v1
        omega
      · rw [if_neg e] at ha
        have := h.le (x := b.lo - 1) (y := b.lo) (by omega) (by omega) (by omega)
        have := h.rg (x := b.lo - 1) (by omega) (by omega)
        omega
    unfold gsrc
    refine Til.opt (m := b.f) (fun c => ⟨rfl, by show a ≤ b.f - 1; omega, by show b.f = b.f - 1 + 1; omega, fun y y1 y2 => ?_⟩) (fun c => by omega) (Til.opt (m := b.last) (fun c => ⟨rfl, by show b.f ≤ b.last - 1; omega, by show b.last = b.last - 1 + 1; omega, fun y y1 y2 => ?_⟩) (fun c => by omega) ?_)
    · have y1 : a ≤ y := y1
      have y2 : y ≤ b.f - 1 := y2
      rw [res_f rfl]
      show amF p y = b.lo - 1
      have e : b.lo ≠ 0 := fun e => by have := ha2.2.2.1 e; omega
      exact h.am_uniq h0 (by omega) (by omega) (by omega) (by have := ha2.2.2.2 e; omega) (fun _ => by rw [show b.lo - 1 + 1 = b.lo by omega]; omega)
    · have y1 : b.f ≤ y := y1
      have y2 : y ≤ b.last - 1 := y2
      rw [res_t rfl]
      show amF p y = b.lo + (y - b.f)
      have hr : b.r = true := by
        cases hr : b.r
        · have : b.last = b.f := res_f hr _
          omega
        · rfl
      have el : b.last = b.f + (b.hi - b.lo) := res_t hr _
      have w1 := t3 (b.lo + (y - b.f)) (by omega) (by omega)
      have w2 := t3 (b.lo + (y - b.f) + 1) (by omega) (by omega)
      rw [res_t hr] at w1 w2
      exact h.am_uniq h0 (by omega) (by omega) (by omega) (by omega) (fun _ => by omega)
    · refine gsrc_til h h0 r (b.hi + 1) t4 (by omega) (by omega) _ ?_
      rw [if_neg (by omega), show b.hi + 1 - 1 = b.hi by omega, v2]
theorem lsrc_til (h : Pok n p) : ∀ (l : List Pt) (lo : Int), Til p.v lo l p.top → 0 ≤ lo → lo ≤ p.top + 1 → ∀ a : Int, a = (if lo = 0 then 0 else p.v (lo - 1) + 1) → Til (alF p) a (lsrc a l) (p.v p.top)
  | [], lo, t, l0, l1, a, ha => by
    have t : lo = p.top + 1 := t
    have ht := h.top
    rw [if_neg (by omega)] at ha
    show a = p.v p.top + 1
    rw [ha, show lo - 1 = p.top by omega]
  | b :: r, lo, ⟨t1, t2, t3, t4⟩, l0, l1, a, ha => by
    subst t1
    have le := t4.le
    have v1 := t3 b.lo (Int.le_refl _) t2
    have v2 := t3 b.hi t2 (Int.le_refl _)
    rw [res_lo] at v1
    have v2 : p.v b.hi = b.last := v2
    have rg := h.rg l0 (by omega : b.lo ≤ p.top)
    have m1 := h.le l0 t2 (by omega)
    have m2 := h.le (x := b.hi) (y := p.top) (by omega) (by omega) (Int.le_refl _)
    have ha2 : 0 ≤ a ∧ a ≤ b.f + 1 ∧ (b.lo ≠ 0 → a = p.v (b.lo - 1) + 1) ∧ (b.lo = 0 → a = 0) := by
      by_cases e : b.lo = 0
      · rw [if_pos e] at ha
        omega
      · rw [if_neg e] at ha
        have := h.le (x := b.lo - 1) (y := b.lo) (by omega) (by omega) (by omega)
        have := h.rg (x := b.lo - 1) (by omega) (by omega)
        omega
    unfold lsrc
    refine Til.opt (m := b.f + 1) (fun c => ⟨rfl, c, rfl, fun y y1 y2 => ?_⟩) (fun c => by omega) (Til.opt (m := b.last + 1) (fun c => ⟨rfl, by show b.f + 1 ≤ b.last; omega, rfl, fun y y1 y2 => ?_⟩) (fun c => by omega) ?_)
    · have y1 : a ≤ y := y1
      have y2 : y ≤ b.f := y2
      rw [res_f rfl]
      show alF p y = b.lo
      exact h.al_uniq (by omega) l0 (by omega) (by omega) (fun z => by have := ha2.2.2.1 (by omega); omega)
    · have y1 : b.f + 1 ≤ y := y1
      have y2 : y ≤ b.last := y2
      rw [res_t rfl]
      show alF p y = b.lo + 1 + (y - (b.f + 1))
      have hr : b.r = true := by
        cases hr : b.r
        · have : b.last = b.f := res_f hr _
          omega
        · rfl
      have el : b.last = b.f + (b.hi - b.lo) := res_t hr _
      have w1 := t3 (b.lo + 1 + (y - (b.f + 1))) (by omega) (by omega)
      have w2 := t3 (b.lo + 1 + (y - (b.f + 1)) - 1) (by omega) (by omega)
      rw [res_t hr] at w1 w2
      exact h.al_uniq (by omega) (by omega) (by omega) (by omega) (fun _ => by omega)
    · refine lsrc_til h r (b.hi + 1) t4 (by omega) (by omega) _ ?_
      rw [if_neg (by omega), show b.hi + 1 - 1 = b.hi by omega, v2]
def amPs (p : Ps) : Ps := madeOf p.tgt p.top (gsrc p.tgt p.top 0 (partsOf p.top p.pcs))
def alPs (p : Ps) : Ps := madeOf p.tgt p.top (lsrc 0 (partsOf p.top p.pcs))
theorem amF_mono (h : Pok n p) (h0 : p.v 0 = 0) {y y' : Int} (a : 0 ≤ y) (b : y ≤ y') : amF p y ≤ amF p y' := by
  obtain ⟨c1, c2, _⟩ := h.am h0 a
  exact (h.am_iff h0 (by omega) c1.1 c1.2).mp (by omega)
theorem alF_mono (h : Pok n p) {y y' : Int} (b : y ≤ y') (c : y' ≤ p.v p.top) : alF p y ≤ alF p y' := by
  obtain ⟨c1, c2, _⟩ := h.al c
  exact (h.al_iff (by omega) c1.1 c1.2).mp (by omega)
theorem Pok.amPs (h : Pok n p) (h0 : p.v 0 = 0) (k : Nat) (hk : 2 * n + 1 ≤ k) (k6 : k ≤ 1000000) : madeOk p.tgt p.top (gsrc p.tgt p.top 0 (partsOf p.top p.pcs)) ∧ Pok k (amPs p) ∧ ∀ y, 0 ≤ y → y ≤ p.tgt → (TW.amPs p).v y = amF p y := by
  have t := gsrc_til h h0 _ 0 h.til (Int.le_refl _) (by have := h.top; omega) 0 (by simp)
  have l1 := gsrc_len (tgt := p.tgt) (top := p.top) (partsOf p.top p.pcs) 0
  rw [pLen] at l1
  have l2 := h.len
  exact Pok.made (F := amF p) h.tgt (by omega) k6 t (fun x y a b c => amF_mono h h0 a b) (fun x a b => (h.am h0 a).1)
theorem Pok.alPs (h : Pok n p) (h0 : p.v p.top = p.tgt) (k : Nat) (hk : 2 * n ≤ k) (k6 : k ≤ 1000000) : madeOk p.tgt p.top (lsrc 0 (partsOf p.top p.pcs)) ∧ Pok k (alPs p) ∧ ∀ y, 0 ≤ y → y ≤ p.tgt → (TW.alPs p).v y = alF p y := by
  have t := lsrc_til h _ 0 h.til (Int.le_refl _) (by have := h.top; omega) 0 (by simp)
  rw [h0] at t
  have l1 := lsrc_len (partsOf p.top p.pcs) 0
  rw [pLen] at l1
  have l2 := h.len
  exact Pok.made (F := alF p) h.tgt (by omega) k6 t (fun x y a b c => alF_mono h b (by omega)) (fun x a b => (h.al (by omega)).1)
end
end TW

namespace TW
open PySem L2
def sp_Passage___rshift__ : Spec := fsp2 tPs tPs tPs mulOk mulPs
def sp_Passage___or__ : Spec := fsp2 tPs tPs tPs (fun p q => joinOk p q true) (fun p q => joinPs p q true)
def sp_Passage___and__ : Spec := fsp2 tPs tPs tPs (fun p q => joinOk p q false) (fun p q => joinPs p q false)
def sp_Passage___eq__ : Spec := fsp2 tPs tPs tBl (fun _ _ => True) (fun p q => decide (p = q))
def sp_Passage___le__ : Spec := fsp2 tPs tPs tBl (fun p q => joinOk p q true) (fun p q => decide (joinPs p q true = q))
def sp_Passage___ge__ : Spec := fsp2 tPs tPs tBl (fun p q => joinOk p q true) (fun p q => decide (joinPs p q true = p))
def sp_Passage___lt__ : Spec := fsp2 tPs tPs tBl (fun p q => joinOk p q true) (fun p q => decide (joinPs p q true = q) && !decide (p = q))
def sp_Passage___gt__ : Spec := fsp2 tPs tPs tBl (fun p q => joinOk p q true) (fun p q => decide (joinPs p q true = p) && !decide (p = q))
def ps_Passage___rshift__ : List Str := ["self", "other"]
def nm_Passage___rshift__ : List Str := ["self", "other"]
def ir_Passage___rshift__ : Cs :=
  (.cons (.ifs (.not (.pr (.blt .isi) (.cons (.var 1) (.cons (.glo "Passage" (.cls "Passage")) .nil)))) (.cons .fail .nil) .nil)
  (.cons (.ret (.ap (.fn "multiplied") sp_multiplied (.cons (.var 0) (.cons (.var 1) .nil)))) .nil))
def ps_Passage___or__ : List Str := ["self", "other"]
def nm_Passage___or__ : List Str := ["self", "other"]
def ir_Passage___or__ : Cs :=
  (.cons (.ifs (.not (.pr (.blt .isi) (.cons (.var 1) (.cons (.glo "Passage" (.cls "Passage")) .nil)))) (.cons .fail .nil) .nil)
  (.cons (.ret (.ap (.fn "joined") sp_joined (.cons (.var 0) (.cons (.var 1) (.cons (.con (.bl true)) .nil))))) .nil))
def ps_Passage___and__ : List Str := ["self", "other"]
def nm_Passage___and__ : List Str := ["self", "other"]
def ir_Passage___and__ : Cs :=
  (.cons (.ifs (.not (.pr (.blt .isi) (.cons (.var 1) (.cons (.glo "Passage" (.cls "Passage")) .nil)))) (.cons .fail .nil) .nil)
  (.cons (.ret (.ap (.fn "joined") sp_joined (.cons (.var 0) (.cons (.var 1) (.cons (.con (.bl false)) .nil))))) .nil))
def ps_Passage___le__ : List Str := ["self", "other"]
def nm_Passage___le__ : List Str := ["self", "other"]
def ir_Passage___le__ : Cs :=
  (.cons (.ifs (.not (.pr (.blt .isi) (.cons (.var 1) (.cons (.glo "Passage" (.cls "Passage")) .nil)))) (.cons .fail .nil) .nil)
  (.cons (.ret (.ap (.co .Eq "Passage") sp_Passage___eq__ (.cons (.ap (.fn "joined") sp_joined (.cons (.var 0) (.cons (.var 1) (.cons (.con (.bl true)) .nil)))) (.cons (.var 1) .nil)))) .nil))
def ps_Passage___ge__ : List Str := ["self", "other"]
def nm_Passage___ge__ : List Str := ["self", "other"]
def ir_Passage___ge__ : Cs :=
  (.cons (.ifs (.not (.pr (.blt .isi) (.cons (.var 1) (.cons (.glo "Passage" (.cls "Passage")) .nil)))) (.cons .fail .nil) .nil)
  (.cons (.ret (.ap (.co .Eq "Passage") sp_Passage___eq__ (.cons (.ap (.fn "joined") sp_joined (.cons (.var 0) (.cons (.var 1) (.cons (.con (.bl true)) .nil)))) (.cons (.var 0) .nil)))) .nil))
def ps_Passage___lt__ : List Str := ["self", "other"]
def nm_Passage___lt__ : List Str := ["self", "other"]
def ir_Passage___lt__ : Cs :=
  (.cons (.ifs (.not (.pr (.blt .isi) (.cons (.var 1) (.cons (.glo "Passage" (.cls "Passage")) .nil)))) (.cons .fail .nil) .nil)
  (.cons (.ret (.and (.ap (.co .Eq "Passage") sp_Passage___eq__ (.cons (.ap (.fn "joined") sp_joined (.cons (.var 0) (.cons (.var 1) (.cons (.con (.bl true)) .nil)))) (.cons (.var 1) .nil))) (.ap (.ne "Passage") sp_Passage___eq__ (.cons (.var 0) (.cons (.var 1) .nil))))) .nil))
def ps_Passage___gt__ : List Str := ["self", "other"]
def nm_Passage___gt__ : List Str := ["self", "other"]
def ir_Passage___gt__ : Cs :=
  (.cons (.ifs (.not (.pr (.blt .isi) (.cons (.var 1) (.cons (.glo "Passage" (.cls "Passage")) .nil)))) (.cons .fail .nil) .nil)
  (.cons (.ret (.and (.ap (.co .Eq "Passage") sp_Passage___eq__ (.cons (.ap (.fn "joined") sp_joined (.cons (.var 0) (.cons (.var 1) (.cons (.con (.bl true)) .nil)))) (.cons (.var 0) .nil))) (.ap (.ne "Passage") sp_Passage___eq__ (.cons (.var 0) (.cons (.var 1) .nil))))) .nil))
def ps_Passage___eq__ : List Str := ["self", "other"]
def nm_Passage___eq__ : List Str := ["self", "other"]
def ir_Passage___eq__ : Cs :=
  (.cons (.ifs (.not (.pr (.blt .isi) (.cons (.var 1) (.cons (.glo "Passage" (.cls "Passage")) .nil)))) (.cons (.ret (.con (.bl false))) .nil) .nil)
  (.cons (.ret (.pr (.cmp .Eq) (.cons (.pr .tup (.cons (.pr (.attr "top") (.cons (.var 0) .nil)) (.cons (.pr (.attr "target") (.cons (.var 0) .nil)) (.cons (.pr (.attr "pieces") (.cons (.var 0) .nil)) .nil)))) (.cons (.pr .tup (.cons (.pr (.attr "top") (.cons (.var 1) .nil)) (.cons (.pr (.attr "target") (.cons (.var 1) .nil)) (.cons (.pr (.attr "pieces") (.cons (.var 1) .nil)) .nil)))) .nil)))) .nil))
theorem isi_Ps {p : Ps} : ((tagT p.t).bind fun g => isiTag g (.cls "Passage")) = some true := by
  show some (decide (("Passage" : Str) = "Passage")) = some true
  simp
theorem does_Passage___rshift__ : Does ir_Passage___rshift__ nm_Passage___rshift__ 2 sp_Passage___rshift__ := does2 fun a b p q S Q X ha hb hp hq => by
  obtain rfl := exPs _ _ ha
  obtain rfl := exPs _ _ hb
  show wpCs _ (startS _ [.im p.t, .im q.t]) _ _
  simp only [ir_Passage___rshift__, nm_Passage___rshift__, isi_Ps, Bool.not_true, u_multiplied, wpCs, wpC, wpE, wpEs, wpI, p_nm, p_tup, p_lst, p_nil, p_cons, if_true, if_false, reduceIte, Bool.false_eq_true, startS, getS, setS, setAll, wipeS, List.map_cons, List.map_nil, List.length_cons, List.length_nil, List.cons_append, List.nil_append, List.append_nil, Nat.reduceAdd, Nat.reduceSub, Nat.zero_add, List.replicate_succ, List.replicate_zero, imAll, Option.map_some, Option.bind_some, exists_eq_left, exists_eq_left', Option.some.injEq, W.im.injEq, T.int.injEq, T.bl.injEq, T.str.injEq, T.tup.injEq, T.lst.injEq, w_bin, w_cmp, w_un, w_blt, w_attr, w_ix, w_sl0, w_sl1, w_sl2, w_rev, w_tup, w_lst, w_nlst, b_addI, b_addS, b_addT, b_addL, b_subI, b_mulI, b_divI, b_modI, b_powI, c_lt, c_le, c_gt, c_ge, c_is, c_isn, c_eqI, c_neI, c_eqB, c_neB, c_eqS, c_neS, c_eqN, c_in, c_nin, n_intI, n_non, u_neg, i_len, i_abs, i_min, i_max, i_intI, i_intB, i_tuple, i_list, i_all, i_any, i_isi, i_sorted, i_max1, i_min1, x_lst, x_tup, x_scr, x_mr, s_tup, s_lst, q_lst, q_tup, q_scr, l_lst, l_scr, ln_lst, k_lst, k_tup, k_scr, k_str, j_ty, j_cls, j_tup, m_app, m_ext, e_set, r_app, r_ext, a_fn, stabW, true_and, and_true]
  exact ⟨hp, rt_im hq⟩
theorem does_Passage___or__ : Does ir_Passage___or__ nm_Passage___or__ 2 sp_Passage___or__ := does2 fun a b p q S Q X ha hb hp hq => by
  obtain rfl := exPs _ _ ha
  obtain rfl := exPs _ _ hb
  show wpCs _ (startS _ [.im p.t, .im q.t]) _ _
  simp only [ir_Passage___or__, nm_Passage___or__, isi_Ps, Bool.not_true, u_joined, wpCs, wpC, wpE, wpEs, wpI, p_nm, p_tup, p_lst, p_nil, p_cons, if_true, if_false, reduceIte, Bool.false_eq_true, startS, getS, setS, setAll, wipeS, List.map_cons, List.map_nil, List.length_cons, List.length_nil, List.cons_append, List.nil_append, List.append_nil, Nat.reduceAdd, Nat.reduceSub, Nat.zero_add, List.replicate_succ, List.replicate_zero, imAll, Option.map_some, Option.bind_some, exists_eq_left, exists_eq_left', Option.some.injEq, W.im.injEq, T.int.injEq, T.bl.injEq, T.str.injEq, T.tup.injEq, T.lst.injEq, w_bin, w_cmp, w_un, w_blt, w_attr, w_ix, w_sl0, w_sl1, w_sl2, w_rev, w_tup, w_lst, w_nlst, b_addI, b_addS, b_addT, b_addL, b_subI, b_mulI, b_divI, b_modI, b_powI, c_lt, c_le, c_gt, c_ge, c_is, c_isn, c_eqI, c_neI, c_eqB, c_neB, c_eqS, c_neS, c_eqN, c_in, c_nin, n_intI, n_non, u_neg, i_len, i_abs, i_min, i_max, i_intI, i_intB, i_tuple, i_list, i_all, i_any, i_isi, i_sorted, i_max1, i_min1, x_lst, x_tup, x_scr, x_mr, s_tup, s_lst, q_lst, q_tup, q_scr, l_lst, l_scr, ln_lst, k_lst, k_tup, k_scr, k_str, j_ty, j_cls, j_tup, m_app, m_ext, e_set, r_app, r_ext, a_fn, stabW, true_and, and_true]
  exact ⟨hp, rt_im hq⟩
theorem does_Passage___and__ : Does ir_Passage___and__ nm_Passage___and__ 2 sp_Passage___and__ := does2 fun a b p q S Q X ha hb hp hq => by
  obtain rfl := exPs _ _ ha
  obtain rfl := exPs _ _ hb
  show wpCs _ (startS _ [.im p.t, .im q.t]) _ _
  simp only [ir_Passage___and__, nm_Passage___and__, isi_Ps, Bool.not_true, u_joined, wpCs, wpC, wpE, wpEs, wpI, p_nm, p_tup, p_lst, p_nil, p_cons, if_true, if_false, reduceIte, Bool.false_eq_true, startS, getS, setS, setAll, wipeS, List.map_cons, List.map_nil, List.length_cons, List.length_nil, List.cons_append, List.nil_append, List.append_nil, Nat.reduceAdd, Nat.reduceSub, Nat.zero_add, List.replicate_succ, List.replicate_zero, imAll, Option.map_some, Option.bind_some, exists_eq_left, exists_eq_left', Option.some.injEq, W.im.injEq, T.int.injEq, T.bl.injEq, T.str.injEq, T.tup.injEq, T.lst.injEq, w_bin, w_cmp, w_un, w_blt, w_attr, w_ix, w_sl0, w_sl1, w_sl2, w_rev, w_tup, w_lst, w_nlst, b_addI, b_addS, b_addT, b_addL, b_subI, b_mulI, b_divI, b_modI, b_powI, c_lt, c_le, c_gt, c_ge, c_is, c_isn, c_eqI, c_neI, c_eqB, c_neB, c_eqS, c_neS, c_eqN, c_in, c_nin, n_intI, n_non, u_neg, i_len, i_abs, i_min, i_max, i_intI, i_intB, i_tuple, i_list, i_all, i_any, i_isi, i_sorted, i_max1, i_min1, x_lst, x_tup, x_scr, x_mr, s_tup, s_lst, q_lst, q_tup, q_scr, l_lst, l_scr, ln_lst, k_lst, k_tup, k_scr, k_str, j_ty, j_cls, j_tup, m_app, m_ext, e_set, r_app, r_ext, a_fn, stabW, true_and, and_true]
  exact ⟨hp, rt_im hq⟩
def Pc.d (p : Pc) : PyData := .tuple [.int p.s, .int p.f, .bool p.r]
theorem pds_pcs : ∀ l : List Pc, pds (l.map Pc.t) = some (l.map Pc.d)
  | [] => rfl
  | p :: l => by
    rw [List.map_cons, pds, pds_pcs l]
    rfl
def Ps.d (p : Ps) : PyData := .tuple [.int p.top, .int p.tgt, .tuple (p.pcs.map Pc.d)]
theorem pd_ps {p : Ps} {S : Sto} : pdW S (.im (.tup [.int p.top, .int p.tgt, .tup (p.pcs.map Pc.t)])) = some p.d := by
  simp [pdW, toT, pd, pds, pds_pcs, Ps.d]
theorem eqv_pc {p q : Pc} : PyData.eqv p.d q.d = decide (p = q) := by
  obtain ⟨a, b, c⟩ := p
  obtain ⟨a', b', c'⟩ := q
  simp only [Pc.d, PyData.eqv, PyData.eqvAll, Bool.and_true, Pc.mk.injEq]
  by_cases h1 : a = a' <;> by_cases h2 : b = b' <;> by_cases h3 : c = c' <;> simp [h1, h2, h3]
theorem eqv_pcs : ∀ {l m : List Pc}, PyData.eqvAll (l.map Pc.d) (m.map Pc.d) = decide (l = m)
  | [], [] => rfl
  | [], b :: m => by simp [PyData.eqvAll]
  | a :: l, [] => by simp [PyData.eqvAll]
  | a :: l, b :: m => by
    rw [List.map_cons, List.map_cons, PyData.eqvAll, eqv_pc, eqv_pcs]
    by_cases h1 : a = b <;> by_cases h2 : l = m <;> simp [h1, h2]
theorem eqv_ps {p q : Ps} : PyData.eqv p.d q.d = decide (p = q) := by
  obtain ⟨a, b, c⟩ := p
  obtain ⟨a', b', c'⟩ := q
  simp only [Ps.d, PyData.eqv, PyData.eqvAll, Bool.and_true, eqv_pcs, Ps.mk.injEq]
  by_cases h1 : a = a' <;> by_cases h2 : b = b' <;> by_cases h3 : c = c' <;> simp [h1, h2, h3]
theorem lay_pcs : ∀ l : List Pc, PyData.canLayAll0 (l.map Pc.d) = true
  | [] => rfl
  | p :: l => by
    rw [List.map_cons, PyData.canLayAll0, lay_pcs l]
    rfl
theorem dep_pcs : ∀ l : List Pc, PyData.depthAll (l.map Pc.d) ≤ 1
  | [] => by simp [PyData.depthAll]
  | p :: l => by
    rw [List.map_cons, PyData.depthAll]
    have := dep_pcs l
    have h : p.d.depth = 1 := rfl
    omega
theorem shp_ps {p : Ps} : SeqAt.shaped p.d = true := by
  unfold SeqAt.shaped Ps.d
  simp only [PyData.canLay0, PyData.canLayAll0, lay_pcs, PyData.depth, PyData.depthAll, Bool.and_true, Bool.true_and, decide_eq_true_eq]
  have := dep_pcs p.pcs
  exact decide_eq_true (by omega)
theorem does_Passage___eq__ : Does ir_Passage___eq__ nm_Passage___eq__ 2 sp_Passage___eq__ := does2 fun a b p q S Q X ha hb hp hq => by
  obtain rfl := exPs _ _ ha
  obtain rfl := exPs _ _ hb
  show wpCs _ (startS _ [.im p.t, .im q.t]) _ _
  have s3 : 3 ≤ sizeLine := by decide
  simp only [ir_Passage___eq__, nm_Passage___eq__, isi_Ps, Bool.not_true, at_top, at_tgt, at_pcs, s3, c_eqT, pd_ps, shp_ps, wpCs, wpC, wpE, wpEs, wpI, p_nm, p_tup, p_lst, p_nil, p_cons, if_true, if_false, reduceIte, Bool.false_eq_true, startS, getS, setS, setAll, wipeS, List.map_cons, List.map_nil, List.length_cons, List.length_nil, List.cons_append, List.nil_append, List.append_nil, Nat.reduceAdd, Nat.reduceSub, Nat.zero_add, List.replicate_succ, List.replicate_zero, imAll, Option.map_some, Option.bind_some, exists_eq_left, exists_eq_left', Option.some.injEq, W.im.injEq, T.int.injEq, T.bl.injEq, T.str.injEq, T.tup.injEq, T.lst.injEq, w_bin, w_cmp, w_un, w_blt, w_attr, w_ix, w_sl0, w_sl1, w_sl2, w_rev, w_tup, w_lst, w_nlst, b_addI, b_addS, b_addT, b_addL, b_subI, b_mulI, b_divI, b_modI, b_powI, c_lt, c_le, c_gt, c_ge, c_is, c_isn, c_eqI, c_neI, c_eqB, c_neB, c_eqS, c_neS, c_eqN, c_in, c_nin, n_intI, n_non, u_neg, i_len, i_abs, i_min, i_max, i_intI, i_intB, i_tuple, i_list, i_all, i_any, i_isi, i_sorted, i_max1, i_min1, x_lst, x_tup, x_scr, x_mr, s_tup, s_lst, q_lst, q_tup, q_scr, l_lst, l_scr, ln_lst, k_lst, k_tup, k_scr, k_str, j_ty, j_cls, j_tup, m_app, m_ext, e_set, r_app, r_ext, a_fn, stabW, true_and, and_true]
  rw [eqv_ps]
  exact rt_im hq
theorem u_eq {p q : Ps} {S : Sto} {Q : VQ} {X : XQ} : sp_Passage___eq__ [.im p.t, .im q.t] S Q X ↔ Q (.im (.bl (decide (p = q)))) S := by
  have h1 := tPs.ok p
  have h2 := tPs.ok q
  simp only [sp_Passage___eq__, fsp2, tPs, tBl] at h1 h2 ⊢
  simp [h1, h2]
theorem ins2 {p q : Ps} {S : Sto} : (∀ w ∈ [W.im p.t, W.im q.t], ∃ ns, nsW S w = some (("Passage" : Str), ns)) ↔ True := by
  refine ⟨fun _ => trivial, fun _ w hw => ?_⟩
  simp only [List.mem_cons, List.not_mem_nil, or_false] at hw
  rcases hw with rfl | rfl
  · exact ⟨psNs, rfl⟩
  · exact ⟨psNs, rfl⟩
theorem a_eq {p q : Ps} {S : Sto} {Q : VQ} {X : XQ} : apSp (.co .Eq "Passage") sp_Passage___eq__ [.im p.t, .im q.t] S Q X ↔ Q (.im (.bl (decide (p = q)))) S := by
  simp only [apSp, ins2, u_eq, true_and]
theorem a_ne {p q : Ps} {S : Sto} {Q : VQ} {X : XQ} : apSp (.ne "Passage") sp_Passage___eq__ [.im p.t, .im q.t] S Q X ↔ Q (.im (.bl (!decide (p = q)))) S := by
  simp only [apSp, ins2, u_eq, true_and]
  simp
theorem does_Passage___le__ : Does ir_Passage___le__ nm_Passage___le__ 2 sp_Passage___le__ := does2 fun a b p q S Q X ha hb hp hq => by
  obtain rfl := exPs _ _ ha
  obtain rfl := exPs _ _ hb
  show wpCs _ (startS _ [.im p.t, .im q.t]) _ _
  simp only [ir_Passage___le__, nm_Passage___le__, isi_Ps, Bool.not_true, u_joined, a_eq, wpCs, wpC, wpE, wpEs, wpI, p_nm, p_tup, p_lst, p_nil, p_cons, if_true, if_false, reduceIte, Bool.false_eq_true, startS, getS, setS, setAll, wipeS, List.map_cons, List.map_nil, List.length_cons, List.length_nil, List.cons_append, List.nil_append, List.append_nil, Nat.reduceAdd, Nat.reduceSub, Nat.zero_add, List.replicate_succ, List.replicate_zero, imAll, Option.map_some, Option.bind_some, exists_eq_left, exists_eq_left', Option.some.injEq, W.im.injEq, T.int.injEq, T.bl.injEq, T.str.injEq, T.tup.injEq, T.lst.injEq, w_bin, w_cmp, w_un, w_blt, w_attr, w_ix, w_sl0, w_sl1, w_sl2, w_rev, w_tup, w_lst, w_nlst, b_addI, b_addS, b_addT, b_addL, b_subI, b_mulI, b_divI, b_modI, b_powI, c_lt, c_le, c_gt, c_ge, c_is, c_isn, c_eqI, c_neI, c_eqB, c_neB, c_eqS, c_neS, c_eqN, c_in, c_nin, n_intI, n_non, u_neg, i_len, i_abs, i_min, i_max, i_intI, i_intB, i_tuple, i_list, i_all, i_any, i_isi, i_sorted, i_max1, i_min1, x_lst, x_tup, x_scr, x_mr, s_tup, s_lst, q_lst, q_tup, q_scr, l_lst, l_scr, ln_lst, k_lst, k_tup, k_scr, k_str, j_ty, j_cls, j_tup, m_app, m_ext, e_set, r_app, r_ext, a_fn, stabW, true_and, and_true]
  exact ⟨hp, rt_im hq⟩
theorem does_Passage___ge__ : Does ir_Passage___ge__ nm_Passage___ge__ 2 sp_Passage___ge__ := does2 fun a b p q S Q X ha hb hp hq => by
  obtain rfl := exPs _ _ ha
  obtain rfl := exPs _ _ hb
  show wpCs _ (startS _ [.im p.t, .im q.t]) _ _
  simp only [ir_Passage___ge__, nm_Passage___ge__, isi_Ps, Bool.not_true, u_joined, a_eq, wpCs, wpC, wpE, wpEs, wpI, p_nm, p_tup, p_lst, p_nil, p_cons, if_true, if_false, reduceIte, Bool.false_eq_true, startS, getS, setS, setAll, wipeS, List.map_cons, List.map_nil, List.length_cons, List.length_nil, List.cons_append, List.nil_append, List.append_nil, Nat.reduceAdd, Nat.reduceSub, Nat.zero_add, List.replicate_succ, List.replicate_zero, imAll, Option.map_some, Option.bind_some, exists_eq_left, exists_eq_left', Option.some.injEq, W.im.injEq, T.int.injEq, T.bl.injEq, T.str.injEq, T.tup.injEq, T.lst.injEq, w_bin, w_cmp, w_un, w_blt, w_attr, w_ix, w_sl0, w_sl1, w_sl2, w_rev, w_tup, w_lst, w_nlst, b_addI, b_addS, b_addT, b_addL, b_subI, b_mulI, b_divI, b_modI, b_powI, c_lt, c_le, c_gt, c_ge, c_is, c_isn, c_eqI, c_neI, c_eqB, c_neB, c_eqS, c_neS, c_eqN, c_in, c_nin, n_intI, n_non, u_neg, i_len, i_abs, i_min, i_max, i_intI, i_intB, i_tuple, i_list, i_all, i_any, i_isi, i_sorted, i_max1, i_min1, x_lst, x_tup, x_scr, x_mr, s_tup, s_lst, q_lst, q_tup, q_scr, l_lst, l_scr, ln_lst, k_lst, k_tup, k_scr, k_str, j_ty, j_cls, j_tup, m_app, m_ext, e_set, r_app, r_ext, a_fn, stabW, true_and, and_true]
  exact ⟨hp, rt_im hq⟩
theorem does_Passage___lt__ : Does ir_Passage___lt__ nm_Passage___lt__ 2 sp_Passage___lt__ := does2 fun a b p q S Q X ha hb hp hq => by
  obtain rfl := exPs _ _ ha
  obtain rfl := exPs _ _ hb
  show wpCs _ (startS _ [.im p.t, .im q.t]) _ _
  simp only [ir_Passage___lt__, nm_Passage___lt__, isi_Ps, Bool.not_true, u_joined, a_eq, a_ne, wpCs, wpC, wpE, wpEs, wpI, p_nm, p_tup, p_lst, p_nil, p_cons, if_true, if_false, reduceIte, Bool.false_eq_true, startS, getS, setS, setAll, wipeS, List.map_cons, List.map_nil, List.length_cons, List.length_nil, List.cons_append, List.nil_append, List.append_nil, Nat.reduceAdd, Nat.reduceSub, Nat.zero_add, List.replicate_succ, List.replicate_zero, imAll, Option.map_some, Option.bind_some, exists_eq_left, exists_eq_left', Option.some.injEq, W.im.injEq, T.int.injEq, T.bl.injEq, T.str.injEq, T.tup.injEq, T.lst.injEq, w_bin, w_cmp, w_un, w_blt, w_attr, w_ix, w_sl0, w_sl1, w_sl2, w_rev, w_tup, w_lst, w_nlst, b_addI, b_addS, b_addT, b_addL, b_subI, b_mulI, b_divI, b_modI, b_powI, c_lt, c_le, c_gt, c_ge, c_is, c_isn, c_eqI, c_neI, c_eqB, c_neB, c_eqS, c_neS, c_eqN, c_in, c_nin, n_intI, n_non, u_neg, i_len, i_abs, i_min, i_max, i_intI, i_intB, i_tuple, i_list, i_all, i_any, i_isi, i_sorted, i_max1, i_min1, x_lst, x_tup, x_scr, x_mr, s_tup, s_lst, q_lst, q_tup, q_scr, l_lst, l_scr, ln_lst, k_lst, k_tup, k_scr, k_str, j_ty, j_cls, j_tup, m_app, m_ext, e_set, r_app, r_ext, a_fn, stabW, true_and, and_true]
  refine ⟨hp, ?_⟩
  have hq : Q (.im (.bl (decide (joinPs p q true = q) && !decide (p = q)))) S := hq
  by_cases h : joinPs p q true = q
  · simp only [h, decide_true, Bool.true_and, if_true] at hq ⊢
    exact rt_im hq
  · simp only [h, decide_false, Bool.false_and, wpCs, wpC, wpE, wpEs, wpI, p_nm, p_tup, p_lst, p_nil, p_cons, if_true, if_false, reduceIte, Bool.false_eq_true, startS, getS, setS, setAll, wipeS, List.map_cons, List.map_nil, List.length_cons, List.length_nil, List.cons_append, List.nil_append, List.append_nil, Nat.reduceAdd, Nat.reduceSub, Nat.zero_add, List.replicate_succ, List.replicate_zero, imAll, Option.map_some, Option.bind_some, exists_eq_left, exists_eq_left', Option.some.injEq, W.im.injEq, T.int.injEq, T.bl.injEq, T.str.injEq, T.tup.injEq, T.lst.injEq, w_bin, w_cmp, w_un, w_blt, w_attr, w_ix, w_sl0, w_sl1, w_sl2, w_rev, w_tup, w_lst, w_nlst, b_addI, b_addS, b_addT, b_addL, b_subI, b_mulI, b_divI, b_modI, b_powI, c_lt, c_le, c_gt, c_ge, c_is, c_isn, c_eqI, c_neI, c_eqB, c_neB, c_eqS, c_neS, c_eqN, c_in, c_nin, n_intI, n_non, u_neg, i_len, i_abs, i_min, i_max, i_intI, i_intB, i_tuple, i_list, i_all, i_any, i_isi, i_sorted, i_max1, i_min1, x_lst, x_tup, x_scr, x_mr, s_tup, s_lst, q_lst, q_tup, q_scr, l_lst, l_scr, ln_lst, k_lst, k_tup, k_scr, k_str, j_ty, j_cls, j_tup, m_app, m_ext, e_set, r_app, r_ext, a_fn, stabW, true_and, and_true] at hq ⊢
    exact rt_im hq
theorem does_Passage___gt__ : Does ir_Passage___gt__ nm_Passage___gt__ 2 sp_Passage___gt__ := does2 fun a b p q S Q X ha hb hp hq => by
  obtain rfl := exPs _ _ ha
  obtain rfl := exPs _ _ hb
  show wpCs _ (startS _ [.im p.t, .im q.t]) _ _
  simp only [ir_Passage___gt__, nm_Passage___gt__, isi_Ps, Bool.not_true, u_joined, a_eq, a_ne, wpCs, wpC, wpE, wpEs, wpI, p_nm, p_tup, p_lst, p_nil, p_cons, if_true, if_false, reduceIte, Bool.false_eq_true, startS, getS, setS, setAll, wipeS, List.map_cons, List.map_nil, List.length_cons, List.length_nil, List.cons_append, List.nil_append, List.append_nil, Nat.reduceAdd, Nat.reduceSub, Nat.zero_add, List.replicate_succ, List.replicate_zero, imAll, Option.map_some, Option.bind_some, exists_eq_left, exists_eq_left', Option.some.injEq, W.im.injEq, T.int.injEq, T.bl.injEq, T.str.injEq, T.tup.injEq, T.lst.injEq, w_bin, w_cmp, w_un, w_blt, w_attr, w_ix, w_sl0, w_sl1, w_sl2, w_rev, w_tup, w_lst, w_nlst, b_addI, b_addS, b_addT, b_addL, b_subI, b_mulI, b_divI, b_modI, b_powI, c_lt, c_le, c_gt, c_ge, c_is, c_isn, c_eqI, c_neI, c_eqB, c_neB, c_eqS, c_neS, c_eqN, c_in, c_nin, n_intI, n_non, u_neg, i_len, i_abs, i_min, i_max, i_intI, i_intB, i_tuple, i_list, i_all, i_any, i_isi, i_sorted, i_max1, i_min1, x_lst, x_tup, x_scr, x_mr, s_tup, s_lst, q_lst, q_tup, q_scr, l_lst, l_scr, ln_lst, k_lst, k_tup, k_scr, k_str, j_ty, j_cls, j_tup, m_app, m_ext, e_set, r_app, r_ext, a_fn, stabW, true_and, and_true]
  refine ⟨hp, ?_⟩
  have hq : Q (.im (.bl (decide (joinPs p q true = p) && !decide (p = q)))) S := hq
  by_cases h : joinPs p q true = p
  · simp only [h, decide_true, Bool.true_and, if_true] at hq ⊢
    exact rt_im hq
  · simp only [h, decide_false, Bool.false_and, wpCs, wpC, wpE, wpEs, wpI, p_nm, p_tup, p_lst, p_nil, p_cons, if_true, if_false, reduceIte, Bool.false_eq_true, startS, getS, setS, setAll, wipeS, List.map_cons, List.map_nil, List.length_cons, List.length_nil, List.cons_append, List.nil_append, List.append_nil, Nat.reduceAdd, Nat.reduceSub, Nat.zero_add, List.replicate_succ, List.replicate_zero, imAll, Option.map_some, Option.bind_some, exists_eq_left, exists_eq_left', Option.some.injEq, W.im.injEq, T.int.injEq, T.bl.injEq, T.str.injEq, T.tup.injEq, T.lst.injEq, w_bin, w_cmp, w_un, w_blt, w_attr, w_ix, w_sl0, w_sl1, w_sl2, w_rev, w_tup, w_lst, w_nlst, b_addI, b_addS, b_addT, b_addL, b_subI, b_mulI, b_divI, b_modI, b_powI, c_lt, c_le, c_gt, c_ge, c_is, c_isn, c_eqI, c_neI, c_eqB, c_neB, c_eqS, c_neS, c_eqN, c_in, c_nin, n_intI, n_non, u_neg, i_len, i_abs, i_min, i_max, i_intI, i_intB, i_tuple, i_list, i_all, i_any, i_isi, i_sorted, i_max1, i_min1, x_lst, x_tup, x_scr, x_mr, s_tup, s_lst, q_lst, q_tup, q_scr, l_lst, l_scr, ln_lst, k_lst, k_tup, k_scr, k_str, j_ty, j_cls, j_tup, m_app, m_ext, e_set, r_app, r_ext, a_fn, stabW, true_and, and_true] at hq ⊢
    exact rt_im hq
theorem u2 {C : Type} {tC : Ty C} {pre : Ps → Ps → Prop} {f : Ps → Ps → C} {p q : Ps} {S : Sto} {Q : VQ} {X : XQ} : fsp2 tPs tPs tC pre f [.im p.t, .im q.t] S Q X ↔ pre p q ∧ Q (.im (tC.enc (f p q))) S := by
  have h1 := tPs.ok p
  have h2 := tPs.ok q
  simp only [fsp2, tPs] at h1 h2 ⊢
  simp [h1, h2]
theorem a_mul {p q : Ps} {S : Sto} {Q : VQ} {X : XQ} : apSp (.bo .RShift "Passage") sp_Passage___rshift__ [.im p.t, .im q.t] S Q X ↔ mulOk p q ∧ Q (.im (mulPs p q).t) S := by
  simp only [apSp, ins2, true_and]
  exact u2
theorem a_or {p q : Ps} {S : Sto} {Q : VQ} {X : XQ} : apSp (.bo .BitOr "Passage") sp_Passage___or__ [.im p.t, .im q.t] S Q X ↔ joinOk p q true ∧ Q (.im (joinPs p q true).t) S := by
  simp only [apSp, ins2, true_and]
  exact u2
theorem a_and {p q : Ps} {S : Sto} {Q : VQ} {X : XQ} : apSp (.bo .BitAnd "Passage") sp_Passage___and__ [.im p.t, .im q.t] S Q X ↔ joinOk p q false ∧ Q (.im (joinPs p q false).t) S := by
  simp only [apSp, ins2, true_and]
  exact u2
theorem a_le {p q : Ps} {S : Sto} {Q : VQ} {X : XQ} : apSp (.co .LtE "Passage") sp_Passage___le__ [.im p.t, .im q.t] S Q X ↔ joinOk p q true ∧ Q (.im (.bl (decide (joinPs p q true = q)))) S := by
  simp only [apSp, ins2, true_and]
  exact u2
theorem a_ge {p q : Ps} {S : Sto} {Q : VQ} {X : XQ} : apSp (.co .GtE "Passage") sp_Passage___ge__ [.im p.t, .im q.t] S Q X ↔ joinOk p q true ∧ Q (.im (.bl (decide (joinPs p q true = p)))) S := by
  simp only [apSp, ins2, true_and]
  exact u2
theorem a_lt {p q : Ps} {S : Sto} {Q : VQ} {X : XQ} : apSp (.co .Lt "Passage") sp_Passage___lt__ [.im p.t, .im q.t] S Q X ↔ joinOk p q true ∧ Q (.im (.bl (decide (joinPs p q true = q) && !decide (p = q)))) S := by
  simp only [apSp, ins2, true_and]
  exact u2
theorem a_gt {p q : Ps} {S : Sto} {Q : VQ} {X : XQ} : apSp (.co .Gt "Passage") sp_Passage___gt__ [.im p.t, .im q.t] S Q X ↔ joinOk p q true ∧ Q (.im (.bl (decide (joinPs p q true = p) && !decide (p = q)))) S := by
  simp only [apSp, ins2, true_and]
  exact u2
end TW

namespace TW
open PySem PySem.Spec PyProof.Rows L2
def topS (P : Program) (i : Nat) : Stmt := P.main.body.getD i (.Pass ⟨0, 0, 0, 0⟩)
def memS (s : Stmt) (j : Nat) : Stmt := (match s with
  | .ClassDef (body := b) .. => b
  | _ => []).getD j (.Pass ⟨0, 0, 0, 0⟩)
def fnWE (K : PySem.W.Frag) (a : Addr) : He.FnW := match K.lookup a with
  | some ⟨_, _, .func fd, _⟩ => some (fd.name, fd.qualname, fd.params, fd.body, fd.scope, fd.globals, fd.closure, fd.builtins)
  | _ => none
structure DefE where
  ad : PySem.W.Frag → Addr
  name : Str
  qual : Str
  params : Arguments
  body : List Stmt
  scope : Scope
  dfl : List He.Dv := []
def DefE.val (d : DefE) : He.FnW := some (d.name, d.qual, d.params, .stmts d.body, d.scope, mainGlobals, [], builtinsNs)
def DefE.dvs (K : PySem.W.Frag) (d : DefE) : List V := d.dfl.map (He.Dv.v K)
def DefE.ok (K : PySem.W.Frag) (d : DefE) : Bool := PySem.W.keepIn K (.ref (d.ad K)) && (match K.lookup (d.ad K) with
  | some ⟨_, _, .func fd, _⟩ => PySem.W.codeIn K fd.code d.qual && He.dflB K fd.defaults (d.dvs K)
  | _ => false)
theorem DefE.funD {K : PySem.W.Frag} {d : DefE} (e : fnWE K (d.ad K) = d.val) (c : d.ok K = true) : ∃ fd, FunD K d.name d.qual d.params d.body d.scope (d.dvs K) [] (d.ad K) fd := by
  obtain ⟨kp, c2⟩ := He.ba c
  unfold fnWE at e
  cases q : K.lookup (d.ad K) with
  | none =>
    rw [q] at c2
    cases c2
  | some o =>
    obtain ⟨oc, od, dt, osl⟩ := o
    rw [q] at c2 e
    cases dt with
    | func fd =>
      obtain ⟨n1, n2, n3, n4, n5, n6, n7, n8, n9, n10, n11, n12, n13, n14, n15⟩ := fd
      have e2 : (some (n1, n2, n3, n4, n5, n6, n7, n15) : He.FnW) = some (d.name, d.qual, d.params, .stmts d.body, d.scope, mainGlobals, [], builtinsNs) := e
      simp only [Option.some.injEq, Prod.mk.injEq] at e2
      obtain ⟨h1, h2, h3, h4, h5, h6, h7, h8⟩ := e2
      subst h1 h2 h3 h4 h5 h6 h7 h8
      have c3 : (PySem.W.codeIn K n13 d.qual && He.dflB K n8 (d.dvs K)) = true := c2
      obtain ⟨k1, k3⟩ := He.ba c3
      exact ⟨_, ⟨oc, od, n8, n9, n10, n11, n12, n13, n14, osl, rfl, q, k1, He.dflB_ok k3, .inl rfl⟩, kp⟩
    | _ => cases c2
/-- a class method's function -/
def cmAd (c m : Str) (K : PySem.W.Frag) : Addr := match PySem.W.recIn K (He.ma K (He.ga K c) m) "classmethod" with
  | some (.ref g :: _) => g
  | _ => 0
def fnAd (x : Str) (m : Option Str) (K : PySem.W.Frag) : Addr := He.fAd K (x, m)
abbrev mkD (ad : PySem.W.Frag → Addr) (name qual : Str) (s : Stmt) : DefE := ⟨ad, name, qual, defArgs s, defBody s, defScope s, []⟩
/-- what the module's names reach -/
def asE (g : Addr → Option Obj) : Nat → List Addr
  | 0 => [mainGlobals, cStatics]
  | n + 1 => He.growD g (asE g n)
section
variable (fb : PySem.W.Frag → Bool) (fn : List DefE)
def obsB (K : PySem.W.Frag) : He.AlD := (fb K && fn.all fun d => d.ok K, fn.map fun d => fnWE K (d.ad K))
def valB : He.AlD := (true, fn.map DefE.val)
def SaysB (K : PySem.W.Frag) : Prop := obsB fb fn K = valB fn
def obsBG (n : Nat) (g : Addr → Option Obj) : He.AlD := obsB fb fn (He.frG g (asE g n))
def hookB (n : Nat) : PySem.W.Hook where
  α := He.AlD
  obs := fun s => obsBG fb fn n s.heap.get?
  val := fun _ => valB fn
  says := fun _ h => ∃ K : PySem.W.Frag, K.In h ∧ SaysB fb fn K
  of := fun _ _ e => ⟨_, He.frG_in, e⟩
  keeps := fun _ _ _ ⟨K, hK, c⟩ k => ⟨K, PySem.W.Frag.In.keeps hK k, c⟩
end
theorem obsBG_eq {fb : PySem.W.Frag → Bool} {fn : List DefE} {n : Nat} {g : Addr → Option Obj} {s : Shared} (h : ∀ a, g a = s.heap.get? a) : obsBG fb fn n g = (hookB fb fn n).obs s := by
  have e : g = s.heap.get? := funext h
  rw [e] <;> rfl
section
variable {fb : PySem.W.Frag → Bool} {fn : List DefE} {K : PySem.W.Frag}
theorem SaysB.fact (c : SaysB fb fn K) : fb K = true :=
  (He.ba (show (fb K && fn.all fun d => d.ok K) = true from congrArg (fun z : He.AlD => z.1) c)).1
theorem SaysB.def_ (c : SaysB fb fn K) (i : Nat) {d : DefE} (h : fn[i]? = some d) : ∃ fd, FunD K d.name d.qual d.params d.body d.scope (d.dvs K) [] (d.ad K) fd := by
  have c2 := (He.ba (show (fb K && fn.all fun d => d.ok K) = true from congrArg (fun z : He.AlD => z.1) c)).2
  have e : fn.map (fun d => fnWE K (d.ad K)) = fn.map DefE.val := congrArg (fun z : He.AlD => z.2) c
  have e2 : (fn.map fun d => fnWE K (d.ad K))[i]? = (fn.map DefE.val)[i]? := by rw [e]
  rw [List.getElem?_map, List.getElem?_map, h] at e2
  exact DefE.funD (Option.some.inj e2) (List.all_eq_true.mp c2 d (List.mem_of_getElem? h))
end
def insB (K : PySem.W.Frag) (c : Str) : Bool := (He.Fa.cls c).ok K && (He.eqO (PySem.W.findIn K (.ref (He.ga K c)) "__class__") (some (some (.builtin "object.__class__"))) &&
  (He.eqO (PySem.W.specialIn K (.builtin "object.__class__") "__get__") (some (some (.builtin "getset_descriptor.__get__"))) && (decide (PySem.W.takesIn K (.builtin "object.__class__") = some true) &&
  (decide (PySem.W.mroIn K (He.ga K c) (.type "object") = some true) && decide (PySem.W.kitOne K (.ref (He.ga K c)) (.ref (He.ga K c)) = some true)))))
theorem insB_ok {K : PySem.W.Frag} {c : Str} (h : insB K c = true) : C8.InsC K (He.ga K c) := by
  obtain ⟨h1, h⟩ := He.ba h
  obtain ⟨h2, h⟩ := He.ba h
  obtain ⟨h3, h⟩ := He.ba h
  obtain ⟨h4, h⟩ := He.ba h
  obtain ⟨h5, h6⟩ := He.ba h
  exact ⟨He.cls_ok h1, He.eqO_ok h2, He.eqO_ok h3, of_decide_eq_true h4, of_decide_eq_true h5, of_decide_eq_true h6⟩
def clsB (K : PySem.W.Frag) (cs : List Str) : Bool := cs.all fun c => insB K c && (cs.all (fun c' => decide (PySem.W.kitOne K (.ref (He.ga K c)) (.ref (He.ga K c')) = some (decide (c = c')))) &&
  (tys.all (fun n => decide (PySem.W.kitOne K (.ref (He.ga K c)) (.type n) = some false)) && ["int", "bool", "str", "list", "tuple", "NoneType"].all (fun n => decide (PySem.W.kitOne K (.type n) (.ref (He.ga K c)) = some false))))
theorem clsB_ok {K : PySem.W.Frag} {cs : List Str} (h : clsB K cs = true) : GOk ⟨K, He.ga K, cs⟩ := by
  have h := List.all_eq_true.mp h
  refine ⟨fun c hc => insB_ok (He.ba (h c hc)).1, fun c hc c' hc' => ?_, fun c hc n hn => ?_, fun c hc n hn => ?_⟩
  · exact of_decide_eq_true (List.all_eq_true.mp (He.ba (He.ba (h c hc)).2).1 c' hc')
  · exact of_decide_eq_true (List.all_eq_true.mp (He.ba (He.ba (He.ba (h c hc)).2).2).1 n hn)
  · exact of_decide_eq_true (List.all_eq_true.mp (He.ba (He.ba (He.ba (h c hc)).2).2).2 n hn)
/-- a class method of a class -/
def cmB (K : PySem.W.Frag) (c m : Str) : Bool := PySem.W.readsIn K (He.ga K c) (.type "type") && (He.eqO (PySem.W.specialIn K (.ref (He.ga K c)) "__getattribute__") (some (some (.builtin "type.__getattribute__"))) &&
  ((match PySem.W.findCls K (.ref (He.ga K c)) (.type "type") m with
    | some (.get (.builtin s) (.ref p) .none (.ref C)) => decide (s = "classmethod.__get__") && (decide (p = He.ma K (He.ga K c) m) && decide (C = He.ga K c))
    | _ => false) && ((match PySem.W.recIn K (He.ma K (He.ga K c) m) "classmethod" with
    | some (.ref g :: _) => true
    | _ => false) && PySem.W.fnIn K (cmAd c m K))))
theorem cmB_ok {K : PySem.W.Frag} {c m : Str} (h : cmB K c m = true) : ClX.CRead K (He.ga K c) (.type "type") ∧ ClX.CMet K (He.ga K c) (.type "type") m (He.ma K (He.ga K c) m) (cmAd c m K) := by
  obtain ⟨h1, h⟩ := He.ba h
  obtain ⟨h2, h⟩ := He.ba h
  obtain ⟨h3, h⟩ := He.ba h
  obtain ⟨h4, h5⟩ := He.ba h
  refine ⟨⟨h1, He.eqO_ok h2⟩, ⟨?_, ?_, h5⟩⟩
  · split at h3
    · rename_i s p C e
      obtain ⟨a, b⟩ := He.ba h3
      obtain ⟨b, d⟩ := He.ba b
      rw [e, of_decide_eq_true a, of_decide_eq_true b, of_decide_eq_true d]
    · cases h3
  · unfold cmAd
    split at h4
    · rename_i g r e
      rw [e]
      exact ⟨r, rfl⟩
    · cases h4
inductive Fx where
  | sf (c : Str) | ne (c : Str) | fi (c m : Str) | cm (c m : Str) | fg (c m : Str)
def Fx.ok (K : PySem.W.Frag) : Fx → Bool
  | .sf c => PySem.W.selfFirst K (He.ga K c)
  | .ne c => He.eqO (PySem.W.findIn K (.ref (He.ga K c)) "__ne__") (some (some (.builtin "object.__ne__"))) && decide (PySem.W.subIn K (.ref (He.ga K c)) (.type "object") = some true)
  | .fi c m => PySem.W.fnIn K (He.ma K (He.ga K c) m)
  | .cm c m => cmB K c m
  | .fg c m => PySem.W.isFn K (.ref (He.ma K (He.ga K c) m))
/-- what a row's top has -/
structure Lay where
  cs : List Str
  fa : List He.Fa
  fx : List Fx
  fn : List DefE
def Lay.fb (l : Lay) (K : PySem.W.Frag) : Bool := clsB K l.cs && (l.fa.all (fun f => f.ok K) && (l.fx.all (fun f => f.ok K) && blts.all fun x => (He.Fa.free x).ok K))
structure Hd (l : Lay) (D : Gd) : Prop where
  gr : D.G = ⟨D.G.K, He.ga D.G.K, l.cs⟩
  says : SaysB l.fb l.fn D.G.K
  mg : ∃ h : Heap, D.G.K.In h ∧ h.Ns mainGlobals D.mg
section
variable {l : Lay} {D : Gd}
theorem Hd.lv (h : Hd l D) (n : Nat) : Hd l { D with lv := n } := ⟨h.gr, h.says, h.mg⟩
theorem Hd.cl (h : Hd l D) (c : Str) : D.G.cl c = He.ga D.G.K c := by rw [h.gr]
theorem Hd.cs (h : Hd l D) : D.G.cs = l.cs := by rw [h.gr]
theorem Hd.fact (h : Hd l D) {i : Nat} {f : He.Fa} (e : l.fa[i]? = some f) : f.ok D.G.K = true :=
  List.all_eq_true.mp (He.ba (He.ba h.says.fact).2).1 f (List.mem_of_getElem? e)
theorem Hd.fac (h : Hd l D) {i : Nat} {f : Fx} (e : l.fx[i]? = some f) : f.ok D.G.K = true :=
  List.all_eq_true.mp (He.ba (He.ba (He.ba h.says.fact).2).2).1 f (List.mem_of_getElem? e)
theorem Hd.glo (h : Hd l D) {i : Nat} {x : Str} (e : l.fa[i]? = some (.glo x)) : D.mg x = some (.ref (He.ga D.G.K x)) := by
  obtain ⟨hp, k, ns⟩ := h.mg
  exact He.glo_ok k ns (h.fact e)
theorem Hd.dok (h : Hd l D) : DOk D := by
  refine ⟨?_, fun x hx => ?_⟩
  · rw [h.gr]
    exact clsB_ok (He.ba h.says.fact).1
  · obtain ⟨hp, k, ns⟩ := h.mg
    exact He.free_ok k ns (List.all_eq_true.mp (He.ba (He.ba (He.ba h.says.fact).2).2).2 x hx)
/-- a def of the row -/
structure Rt (l : Lay) (i : Nat) (ad : PySem.W.Frag → Addr) (st : Stmt) (ps nm : List Str) (ir : Cs) : Prop where
  at_ : ∃ name qual, l.fn[i]? = some (mkD ad name qual st) ∧ ∀ (kV doc pm : Value) (an : Option Addr) (cdv ct : Value) (us : List Value), us.length = ps.length → bindArgs (PySem.W.fnOf name qual (defArgs st) (defBody st) (defScope st) .none kV doc pm an cdv ct) ⟨us, []⟩ = pure (ps.zip us)
  sc : FnScope nm ps (defScope st)
  chk : chkCs nm (defScope st) ir (defBody st) = true
/-- it keeps its promise -/
theorem Hd.ok (h : Hd l D) {i : Nat} {ad : PySem.W.Frag → Addr} {st : Stmt} {ps nm : List Str} {ir : Cs} {sp : Spec} (t : Rt l i ad st ps nm ir) (L : Nat) (ok : ∀ D', Hd l D' → D'.lv = L → okCs D' ir) (does : Does ir nm ps.length sp) :
    ∃ fd, FnD D (L + 1) (ad D.G.K) fd ps sp ∧ Binds D.G.K fd ps [] ∧ PySem.W.keepIn D.G.K (.ref (ad D.G.K)) = true := by
  obtain ⟨name, qual, e, b⟩ := t.at_
  obtain ⟨fd, F⟩ := h.says.def_ i e
  have F : FunD D.G.K name qual (defArgs st) (defBody st) (defScope st) [] [] (ad D.G.K) fd := F
  refine ⟨fd, ?_, FunD.bindsN F b, F.kp⟩
  exact fn_ok (D := { D with lv := L }) (h.lv L).dok F t.sc t.chk (ok _ (h.lv L) rfl) does
theorem Hd.fn (h : Hd l D) {i j : Nat} {x : Str} {st : Stmt} {ps nm : List Str} {ir : Cs} {sp : Spec} (t : Rt l i (fnAd x none) st ps nm ir) (g : l.fa[j]? = some (.glo x)) (L : Nat) (ok : ∀ D', Hd l D' → D'.lv = L → okCs D' ir) (does : Does ir nm ps.length sp) (hl : L + 1 ≤ D.lv) : okA D (.fn x) sp := by
  obtain ⟨fd, F, B, kp⟩ := h.ok t L ok does
  exact ⟨_, h.glo g, kp, cal_of F hl B⟩
theorem Hd.clsOk (h : Hd l D) {c : Str} (hc : c ∈ l.cs) : Cls D.G.K (D.G.cl c) := (h.dok.g.ins c (by rw [h.cs]; exact hc)).cl
theorem Hd.me (h : Hd l D) {i j : Nat} {c m : Str} {st : Stmt} {ps nm : List Str} {ir : Cs} {sp : Spec} (t : Rt l i (fnAd c (some m)) st ps nm ir) (hc : c ∈ l.cs) (g : l.fa[j]? = some (.meth c m)) (L : Nat) (ok : ∀ D', Hd l D' → D'.lv = L → okCs D' ir) (does : Does ir nm ps.length sp) (hl : L + 1 ≤ D.lv) : okM D c m sp := by
  obtain ⟨fd, F, B, kp⟩ := h.ok t L ok does
  refine ⟨_, h.clsOk hc, ?_, cal_of F hl B⟩
  rw [h.cl c]
  exact He.meth_ok (h.fact g)
theorem Hd.nw (h : Hd l D) {i j j' : Nat} {c : Str} {st : Stmt} {ps nm : List Str} {ir : Cs} {sp : Spec} (t : Rt l i (fnAd c (some "__init__")) st ps nm ir) (hc : c ∈ l.cs) (g : l.fa[j]? = some (.mkr c)) (g' : l.fa[j']? = some (.glo c)) (L : Nat) (ok : ∀ D', Hd l D' → D'.lv = L → okCs D' ir) (does : Does ir nm ps.length sp) (hl : L + 2 ≤ D.lv) : okA D (.mk c) sp := by
  obtain ⟨fd, F, B, kp⟩ := h.ok t L ok does
  have M := He.mkr_ok (h.fact g)
  have M' : Mk D.G.K (D.G.cl c) (He.ma D.G.K (He.ga D.G.K c) "__init__") := by rw [h.cl c]; exact M
  refine ⟨.ref (D.G.cl c), ?_, M'.kp, mk_cal (.inl rfl) (by rw [h.cs]; exact hc) (h.clsOk hc) M' F hl B⟩
  rw [h.cl c]
  exact h.glo g'
theorem Hd.vc (h : Hd l D) {i j : Nat} {c : Str} {st : Stmt} {ps nm : List Str} {ir : Cs} {sp : Spec} (t : Rt l i (fnAd c (some "__init__")) st ps nm ir) (hc : c ∈ l.cs) (g : l.fa[j]? = some (.mkr c)) (L : Nat) (ok : ∀ D', Hd l D' → D'.lv = L → okCs D' ir) (does : Does ir nm ps.length sp) (hl : L + 2 ≤ D.lv) : okV D c sp := by
  obtain ⟨fd, F, B, kp⟩ := h.ok t L ok does
  have M := He.mkr_ok (h.fact g)
  have M' : Mk D.G.K (D.G.cl c) (He.ma D.G.K (He.ga D.G.K c) "__init__") := by rw [h.cl c]; exact M
  exact ⟨.ref (D.G.cl c), rfl, M'.kp, mk_cal (.inl rfl) (by rw [h.cs]; exact hc) (h.clsOk hc) M' F hl B⟩
theorem Hd.cm (h : Hd l D) {i j k : Nat} {c m : Str} {st : Stmt} {ps nm : List Str} {ir : Cs} {sp : Spec} (t : Rt l i (cmAd c m) st ps nm ir) (hc : c ∈ l.cs) (g : l.fa[j]? = some (.glo c)) (s : l.fx[k]? = some (.cm c m)) (L : Nat) (ok : ∀ D', Hd l D' → D'.lv = L → okCs D' ir) (does : Does ir nm ps.length sp) (hl : L + 1 ≤ D.lv) : okA D (.cm c m) sp := by
  obtain ⟨fd, F, B, kp⟩ := h.ok t L ok does
  obtain ⟨c1, c2⟩ := cmB_ok (h.fac s)
  refine ⟨.type "type", He.ma D.G.K (He.ga D.G.K c) m, cmAd c m D.G.K, ⟨?_, by rw [h.cs]; exact hc⟩, ?_, ?_, cal_of F hl B⟩
  · rw [h.cl c]
    exact h.glo g
  · rw [h.cl c]
    exact c1
  · rw [h.cl c]
    exact c2
theorem Hd.bo (h : Hd l D) {i j k : Nat} {op : Operator} {c m : Str} {st : Stmt} {ps nm : List Str} {ir : Cs} {sp : Spec} (t : Rt l i (fnAd c (some m)) st ps nm ir) (hm : PySem.dunder op.info.2 = m) (g : l.fa[j]? = some (.meth c m)) (s : l.fx[k]? = some (.sf c)) (L : Nat) (ok : ∀ D', Hd l D' → D'.lv = L → okCs D' ir) (does : Does ir nm ps.length sp) (hl : L + 1 ≤ D.lv) : okA D (.bo op c) sp := by
  obtain ⟨fd, F, B, kp⟩ := h.ok t L ok does
  have M := He.meth_ok (h.fact g)
  refine bo_ok F hl B ?_ ?_ M.fn
  · rw [h.cl c]
    exact h.fac s
  · rw [h.cl c, hm]
    exact M.at_
theorem Hd.co (h : Hd l D) {i j : Nat} {op : CmpOp} {c m : Str} {st : Stmt} {ps nm : List Str} {ir : Cs} {sp : Spec} (t : Rt l i (fnAd c (some m)) st ps nm ir) (hop : ∀ a b, compareOp op a b = richCompare op a b) (hm : (cmpInfo op).2.1 = m) (g : l.fa[j]? = some (.meth c m)) (L : Nat) (ok : ∀ D', Hd l D' → D'.lv = L → okCs D' ir) (does : Does ir nm ps.length sp) (hl : L + 1 ≤ D.lv) : okA D (.co op c) sp := by
  obtain ⟨fd, F, B, kp⟩ := h.ok t L ok does
  have M := He.meth_ok (h.fact g)
  refine co_ok F hl B hop ?_ M.fn
  rw [h.cl c, hm]
  exact M.at_
theorem Hd.ne (h : Hd l D) {i j k : Nat} {c : Str} {st : Stmt} {ps nm : List Str} {ir : Cs} {sp : Spec} (t : Rt l i (fnAd c (some "__eq__")) st ps nm ir) (g : l.fa[j]? = some (.meth c "__eq__")) (s : l.fx[k]? = some (.ne c)) (L : Nat) (ok : ∀ D', Hd l D' → D'.lv = L → okCs D' ir) (does : Does ir nm ps.length sp) (hl : L + 2 ≤ D.lv) : okA D (.ne c) sp := by
  obtain ⟨fd, F, B, kp⟩ := h.ok t L ok does
  have M := He.meth_ok (h.fact g)
  obtain ⟨s1, s2⟩ := He.ba (show (He.eqO _ _ && decide _) = true from h.fac s)
  refine ne_ok F hl B ?_ ?_ ?_ M.fn
  · rw [h.cl c]
    exact He.eqO_ok s1
  · rw [h.cl c]
    exact of_decide_eq_true s2
  · rw [h.cl c]
    exact M.at_
theorem Hd.ic (h : Hd l D) {i j k : Nat} {c : Str} {st : Stmt} {ps nm : List Str} {ir : Cs} {sp : Spec} (t : Rt l i (fnAd c (some "__call__")) st ps nm ir) (g : l.fa[j]? = some (.meth c "__call__")) (s : l.fx[k]? = some (.fi c "__call__")) (L : Nat) (ok : ∀ D', Hd l D' → D'.lv = L → okCs D' ir) (does : Does ir nm ps.length sp) (hl : L + 1 ≤ D.lv) : InsCal D c sp := by
  obtain ⟨fd, F, B, kp⟩ := h.ok t L ok does
  have M := He.meth_ok (h.fact g)
  refine ⟨_, ⟨?_, M.fn, h.fac s⟩, cal_of F hl B⟩
  rw [h.cl c]
  exact M.at_
theorem Hd.no (h : Hd l D) {j : Nat} {c f : Str} (hc : c ∈ l.cs) (g : l.fa[j]? = some (.noat c f)) : c ∈ D.G.cs ∧ Cls D.G.K (D.G.cl c) ∧ NoAttr D.G.K (D.G.cl c) f := by
  refine ⟨by rw [h.cs]; exact hc, h.clsOk hc, ?_⟩
  rw [h.cl c]
  exact He.noat_ok (h.fact g)
theorem okG_ty {x : Str} {n : String} : okG D x (.ty n) = True := rfl
theorem Hd.gint (h : Hd l D) {j : Nat} {x : Str} {z : Int} (g : l.fa[j]? = some (.int x z)) : okG D x (.int z) := by
  obtain ⟨hp, k, ns⟩ := h.mg
  exact He.int_ok k ns (h.fact g)
theorem Hd.gstr (h : Hd l D) {j : Nat} {x z : Str} (g : l.fa[j]? = some (.str x z)) : okG D x (.str z) := by
  obtain ⟨hp, k, ns⟩ := h.mg
  exact He.str_ok k ns (h.fact g)
theorem Hd.gc (h : Hd l D) {j : Nat} {c : Str} (hc : c ∈ l.cs) (g : l.fa[j]? = some (.glo c)) : okG D c (.cls c) := by
  refine ⟨?_, by rw [h.cs]; exact hc⟩
  rw [h.cl c]
  exact h.glo g
end
theorem Does.nm {ir : Cs} {N N' : List Str} {n : Nat} {sp : Spec} (h : N.length = N'.length) (d : Does ir N n sp) : Does ir N' n sp := by
  intro ws S Q X w
  have := d ws S Q X w
  unfold startS at *
  rw [← h]
  exact this
def sp_law : Spec := fun ws S Q _ => ∃ ns : List Int, ws = [.im (.scr ns)] ∧ ns.length ≤ 63 ∧ (∀ n ∈ ns, Builtin.Int.intBits n ≤ 1048576) ∧ Q (.im (.bl true)) S
theorem law_lift {G : Gr} {H : Hp} {a : Addr} {ns : List Int} (hl : ns.length ≤ 63) (hb : ∀ n ∈ ns, Builtin.Int.intBits n ≤ 1048576) (hO : Only H) (hS : SqL G.K H a (ns.map V.int)) : liftSp G sp_law [.ref a] H (fun v _ => v = .bl true) fun _ _ _ => False := by
  refine ⟨⟨[], [], []⟩, [.im (.scr ns)], [], fun w _ => w = .im (.bl true), fun _ _ => False, ⟨rfl, .nil, fun k o a h => (by simp at h), fun j r h => (by simp at h), fun j r h => (by simp at h), fun j j' r r' h => (by simp at h), fun a h => (by simp at h)⟩, ⟨_, _, rfl, ?_, rfl⟩, ⟨ns, rfl, hl, hb, rfl⟩, ?_, fun _ _ _ _ _ _ _ _ _ z => z⟩
  · show Rep G _ H (.scr ns) (.ref a)
    rw [Rep]
    refine ⟨a, rfl, ?_⟩
    rcases hS with hS | hS
    · rcases hS with h | ⟨o, h⟩
      · rcases hO a with e | ⟨o, xs, e⟩
        · rw [e] at h; cases h
        · rw [e] at h; cases h
      · exact .inl ⟨o, h, by rintro (z | ⟨r, z, _⟩ | z) <;> simp at z⟩
    · exact .inr hS
  · intro v H' c' S' w g r rp e
    subst e
    have rp : Rep G c' H' (.bl true) v := rp
    rw [Rep] at rp
    exact rp
theorem law_end {l : PySem.W.OpenLaw} {ly : Lay} {i j L : Nat} {st : Stmt} {nm : List Str} {ir : Cs} {q : Program} {loose : List Str} {XP : (Str → Option Value) → Heap → Prop} {d : DefRec} (hn : l.most = some 63) (hdf : d.params.defaults = []) (hname : d.name = "law")
    (t : Rt ly i (fnAd "law" none) st ["_law_script"] nm ir) (g : ly.fa[j]? = some (.glo "law")) (hL : L ≤ 200) (ok : ∀ D', Hd ly D' → D'.lv = L → okCs D' ir) (does : Does ir nm 1 sp_law) :
    PySem.W.WalkO q loose XP (hookB ly.fb ly.fn 5).says l.row.toRowW d [] (fun f vs => PySem.call f vs) := by
  refine Att.attach_callB hn hdf fun w s₀ s₁ mg mb fa o pm cd doc a vs ns G Y ho hd hcd hmg hobj hints hlen hbits hg => ?_
  obtain ⟨K, KX, c⟩ := Y
  obtain ⟨name, qual, e, b⟩ := t.at_
  obtain ⟨fd, F⟩ := c.def_ i e
  have F : FunD K name qual (defArgs st) (defBody st) (defScope st) [] [] (He.ga K "law") fd := F
  rw [hname] at hmg
  have hd0 : ∀ base : Heap, Hd ly (⟨l.prog, w, mg, base, ⟨K, He.ga K, ly.cs⟩, L⟩ : Gd) := fun base => ⟨rfl, c, _, KX, G.T.g⟩
  have e2 := hmg.symm.trans ((hd0 s₁.heap).glo g)
  cases e2
  refine law_call (CX := L2.CX l.prog w) (k := L + 1) (x := "_law_script") (sp := liftSp ⟨K, He.ga K, ly.cs⟩ sp_law) KX G.T.g G.T.b G.T.builtins G.T.nolimit hg hobj hints (Nat.le_trans hlen (by decide)) ⟨rfl, by show 1 + claimMargin + 3 * (L + 1) + 5 < recursionLimit; unfold claimMargin recursionLimit; omega, by show 4 + 16 * (L + 1) + 200 < cLine; unfold cLine; omega⟩ (fun base hK hN => ?_) (fun s u => FunD.bindsA F b s [u] rfl) (fun H hO hS => law_lift hlen hbits hO hS) ?_
  · exact fn_ok (D := ⟨l.prog, w, mg, base, ⟨K, He.ga K, ly.cs⟩, L⟩) (hd0 base).dok F t.sc t.chk (ok _ (hd0 base) rfl) does
  · rintro H e s' ⟨_, _, _, _, _, _, _, _, _, _, _, _, z⟩
    exact z
end TW

namespace TW
open PySem L2
theorem okA_src {D : Gd} {x : Str} {sp0 sp : Spec} (h : okA D (.fn x) sp0) (i : ∀ ws S Q X, sp ws S Q X → srcSp sp0 ws S Q X) : okA D (.fn x) sp := by
  obtain ⟨u, e, k, c⟩ := h
  exact ⟨u, e, k, c.imp fun E xs H Q w => src_lift (liftV_imp i w)⟩
theorem okA_seed {D : Gd} {x : Str} {sp0 sp : Spec} (h : okA D (.fn x) sp0) (i : ∀ ws S Q X, sp ws S Q X → seedSp sp0 ws S Q X) : okA D (.fn x) sp := by
  obtain ⟨u, e, k, c⟩ := h
  exact ⟨u, e, k, c.imp fun E xs H Q w => seed_lift (liftV_imp i w)⟩
def boxO (x y : Int) : MO := .lst [.im (.int x), .im (.int y)]
/-- a count that may be drawn -/
def cntOk (n : Int) : Prop := 0 < n ∧ n ≤ 1000000000000000000
def sp0__law_choose : Spec := fun ws S Q _ => ∃ n, ws = [.mr 0, .im (.int n)] ∧ cntOk n ∧ ∃ x y, S = [boxO x y] ∧ boxOk x y ∧ ∀ i x' y', 0 ≤ i → i < n → boxOk x' y' → Q (.im (.int i)) [boxO x' y']
def sp__law_choose : Spec := fun ws S Q _ => ∃ j n, ws = [.src j, .im (.int n)] ∧ j % 2 = 0 ∧ cntOk n ∧ ∀ i, 0 ≤ i → i < n → Q (.im (.int i)) S
def sp0__law_seed : Spec := fun ws S Q _ => ∃ ns k, ws = [.im (.scr ns), .im (.int k)] ∧ ns.length ≤ 63 ∧ (0 ≤ k ∧ k < 1000) ∧ ∀ x y, boxOk x y → Q (.mr S.length) (S ++ [boxO x y])
def sp__law_seed : Spec := fun ws S Q _ => ∃ ns k, ws = [.im (.scr ns), .im (.int k)] ∧ ns.length ≤ 63 ∧ (0 ≤ k ∧ k < 1000) ∧ ∀ j, j % 2 = 0 → Q (.src j) S
def sp__law_one_of : Spec := fun ws S Q _ => ∃ j ts, ws = [.src j, .im (.lst ts)] ∧ j % 2 = 0 ∧ (ts ≠ [] ∧ few ts.length) ∧ ∀ t, t ∈ ts → Q (.im t) S
def sp__law_pieces : Spec := fun ws S Q _ => ∃ j top tgt many, ws = [.src j, .im (.int top), .im (.int tgt), .im (.int many)] ∧ j % 2 = 0 ∧ (0 ≤ top ∧ top ≤ 1000000000000) ∧ (0 ≤ tgt ∧ tgt ≤ 1000000000000) ∧ (0 < many ∧ many < 60) ∧ ∀ l, arePieces top tgt l = true → (l.length : Int) ≤ many → Q (.im (.lst (l.map Pc.t))) S
def sp__law_pieces_m : Spec := fun ws S Q _ => ∃ j top tgt many, ws = [.src j, .im (.int top), .im (.int tgt), .im (.int many)] ∧ j % 2 = 0 ∧ (0 ≤ top ∧ top ≤ 1000000000000) ∧ (0 ≤ tgt ∧ tgt ≤ 1000000000000) ∧ (0 < many ∧ many < 60) ∧ ∀ l, arePieces top tgt l = true → (l.length : Int) ≤ many → Q (.mr S.length) (S ++ [.lst ((l.map Pc.t).map W.im)])
def ps__law_seed : List Str := ["_law_script", "_law_k"]
def nm__law_seed : List Str := ["_law_script", "_law_k", "_law_cell"]
def ir__law_seed : Cs :=
  (.cons (.asg 2 (.pr (.bin .Add) (.cons (.pr (.bin .Mult) (.cons (.con (.int 6151)) (.cons (.var 1) .nil))) (.cons (.con (.int 83)) .nil))))
  (.cons (.ifs (.pr (.cmp .Lt) (.cons (.var 1) (.cons (.pr (.blt .len) (.cons (.var 0) .nil)) .nil))) (.cons (.asg 2 (.pr (.blt .abs) (.cons (.pr .ix (.cons (.var 0) (.cons (.var 1) .nil))) .nil))) .nil) (.cons (.ifs (.pr (.cmp .Gt) (.cons (.pr (.blt .len) (.cons (.var 0) .nil)) (.cons (.con (.int 0)) .nil))) (.cons (.asg 2 (.pr (.bin .Add) (.cons (.var 2) (.cons (.pr (.bin .Mult) (.cons (.pr (.bin .Mod) (.cons (.pr (.blt .int1) (.cons (.pr (.blt .abs) (.cons (.pr .ix (.cons (.var 0) (.cons (.pr (.bin .Mod) (.cons (.pr (.blt .int1) (.cons (.var 1) .nil)) (.cons (.pr (.blt .len) (.cons (.var 0) .nil)) .nil))) .nil))) .nil)) .nil)) (.cons (.con (.int 2147483629)) .nil))) (.cons (.con (.int 40093)) .nil))) .nil)))) .nil) .nil) .nil))
  (.cons (.ret (.pr .nlst (.cons (.ife (.pr (.cmp .GtE) (.cons (.var 2) (.cons (.pr (.bin .Pow) (.cons (.con (.int 10)) (.cons (.con (.int 18)) .nil))) .nil))) (.var 2) (.con (.int 0))) (.cons (.pr (.bin .Add) (.cons (.pr (.bin .Mod) (.cons (.pr (.blt .int1) (.cons (.pr (.bin .Add) (.cons (.pr (.bin .Mult) (.cons (.pr (.bin .Mod) (.cons (.pr (.blt .int1) (.cons (.var 2) .nil)) (.cons (.con (.int 2147483629)) .nil))) (.cons (.con (.int 48271)) .nil))) (.cons (.pr (.bin .Mult) (.cons (.con (.int 30011)) (.cons (.var 1) .nil))) .nil))) .nil)) (.cons (.con (.int 2147483629)) .nil))) (.cons (.con (.int 1)) .nil))) .nil)))) .nil)))
def ps__law_choose : List Str := ["_law_box", "_law_many"]
def nm__law_choose : List Str := ["_law_box", "_law_many", "_law_raw", "_law_digit"]
def ir__law_choose : Cs :=
  (.cons (.ifs (.pr (.cmp .Gt) (.cons (.pr .ix (.cons (.var 0) (.cons (.con (.int 0)) .nil))) (.cons (.con (.int 0)) .nil))) (.cons (.asg 3 (.pr (.bin .Mod) (.cons (.pr (.blt .int1) (.cons (.pr .ix (.cons (.var 0) (.cons (.con (.int 0)) .nil))) .nil)) (.cons (.var 1) .nil))))
  (.cons (.setI (.var 0) (.con (.int 0)) (.pr (.bin .FloorDiv) (.cons (.pr .ix (.cons (.var 0) (.cons (.con (.int 0)) .nil))) (.cons (.var 1) .nil))))
  (.cons (.ret (.var 3)) .nil))) .nil)
  (.cons (.asg 2 (.pr (.bin .Mod) (.cons (.pr (.blt .int1) (.cons (.pr (.bin .Add) (.cons (.pr (.bin .Mult) (.cons (.pr .ix (.cons (.var 0) (.cons (.con (.int 1)) .nil))) (.cons (.con (.int 40014)) .nil))) (.cons (.con (.int 53)) .nil))) .nil)) (.cons (.con (.int 2147483563)) .nil))))
  (.cons (.setI (.var 0) (.con (.int 1)) (.pr (.bin .Add) (.cons (.pr (.bin .Mod) (.cons (.pr (.blt .int1) (.cons (.pr (.bin .Add) (.cons (.pr (.bin .Mult) (.cons (.var 2) (.cons (.con (.int 40692)) .nil))) (.cons (.con (.int 4201)) .nil))) .nil)) (.cons (.con (.int 2147483629)) .nil))) (.cons (.con (.int 1)) .nil))))
  (.cons (.ret (.pr (.bin .Mod) (.cons (.pr (.blt .int1) (.cons (.pr (.bin .FloorDiv) (.cons (.pr (.bin .Add) (.cons (.pr (.bin .Mult) (.cons (.var 2) (.cons (.con (.int 2147483647)) .nil))) (.cons (.pr .ix (.cons (.var 0) (.cons (.con (.int 1)) .nil))) .nil))) (.cons (.con (.int 8191)) .nil))) .nil)) (.cons (.var 1) .nil)))) .nil))))
def ps__law_one_of : List Str := ["_law_box", "_law_some"]
def nm__law_one_of : List Str := ["_law_box", "_law_some"]
def ir__law_one_of : Cs :=
  (.cons (.ret (.pr .ix (.cons (.var 1) (.cons (.ap (.fn "_law_choose") sp__law_choose (.cons (.var 0) (.cons (.pr (.blt .len) (.cons (.var 1) .nil)) .nil))) .nil)))) .nil)
def ps__law_pieces : List Str := ["_law_box", "_law_top", "_law_target", "_law_many"]
def nm__law_pieces : List Str := ["_law_box", "_law_top", "_law_target", "_law_many", "_law_starts", "_law_turn", "_law_start", "_law_found", "_law_last", "_law_at", "_law_end", "_law_room", "_law_first", "_law_rises"]
def bd__law_pieces_1 : Cs :=
  (.cons (.asg 6 (.ife (.pr (.cmp .Gt) (.cons (.var 1) (.cons (.con (.int 0)) .nil))) (.pr (.bin .Add) (.cons (.con (.int 1)) (.cons (.ap (.fn "_law_choose") sp__law_choose (.cons (.var 0) (.cons (.var 1) .nil))) .nil))) (.con (.int 0))))
  (.cons (.ifs (.pr (.cmp .NotIn) (.cons (.var 6) (.cons (.var 4) .nil))) (.cons (.ex (.bm .append (.var 4) (.cons (.var 6) .nil))) .nil) .nil) .nil))
def bd__law_pieces_2 : Cs :=
  (.cons (.asg 10 (.ife (.pr (.cmp .Lt) (.cons (.pr (.bin .Add) (.cons (.var 9) (.cons (.con (.int 1)) .nil))) (.cons (.pr (.blt .len) (.cons (.var 4) .nil)) .nil))) (.pr (.bin .Sub) (.cons (.pr .ix (.cons (.var 4) (.cons (.pr (.bin .Add) (.cons (.var 9) (.cons (.con (.int 1)) .nil))) .nil))) (.cons (.con (.int 1)) .nil))) (.var 1)))
  (.cons (.asg 11 (.pr (.bin .Sub) (.cons (.var 2) (.cons (.var 8) .nil))))
  (.cons (.asg 12 (.pr (.bin .Add) (.cons (.var 8) (.cons (.ap (.fn "_law_one_of") sp__law_one_of (.cons (.var 0) (.cons (.pr .lst (.cons (.con (.int 0)) (.cons (.con (.int 0)) (.cons (.con (.int 1)) (.cons (.pr (.bin .FloorDiv) (.cons (.var 11) (.cons (.con (.int 3)) .nil))) (.cons (.pr (.bin .FloorDiv) (.cons (.var 11) (.cons (.con (.int 2)) .nil))) .nil)))))) .nil))) .nil))))
  (.cons (.asg 12 (.pr (.blt .min2) (.cons (.pr (.blt .int1) (.cons (.var 12) .nil)) (.cons (.pr (.blt .int1) (.cons (.var 2) .nil)) .nil))))
  (.cons (.asg 13 (.and (.pr (.cmp .Gt) (.cons (.ap (.fn "_law_choose") sp__law_choose (.cons (.var 0) (.cons (.con (.int 3)) .nil))) (.cons (.con (.int 0)) .nil))) (.pr (.cmp .LtE) (.cons (.pr (.bin .Sub) (.cons (.pr (.bin .Add) (.cons (.var 12) (.cons (.var 10) .nil))) (.cons (.var 6) .nil))) (.cons (.var 2) .nil)))))
  (.cons (.ex (.bm .append (.var 7) (.cons (.pr .tup (.cons (.var 6) (.cons (.var 12) (.cons (.var 13) .nil)))) .nil)))
  (.cons (.asg 8 (.ife (.var 13) (.pr (.bin .Sub) (.cons (.pr (.bin .Add) (.cons (.var 12) (.cons (.var 10) .nil))) (.cons (.var 6) .nil))) (.var 12))) .nil)))))))
def ir__law_pieces : Cs :=
  (.cons (.asg 4 (.pr .nlst (.cons (.con (.int 0)) .nil)))
  (.cons (.fo (.nm 5) (.rng (.ap (.fn "_law_choose") sp__law_choose (.cons (.var 0) (.cons (.var 3) .nil)))) bd__law_pieces_1)
  (.cons (.asg 4 (.pr (.blt .sorted1) (.cons (.lc (.pr (.blt .int1) (.cons (.var 6) .nil)) (.nm 6) (.seq (.var 4)) .nil [6]) .nil)))
  (.cons (.par [7, 8] (.cons (.pr .nlst .nil) (.cons (.con (.int 0)) .nil)))
  (.cons (.fo (.tp (.cons (.nm 9) (.cons (.nm 6) .nil))) (.enm (.var 4)) bd__law_pieces_2)
  (.cons (.ret (.var 7)) .nil))))))
theorem log_small {n : Int} (h : cntOk n) : n.natAbs.log2 < 9000 := by
  have : n.natAbs < 2 ^ 60 := by
    have := h.1
    have := h.2
    omega
  have := (Nat.log2_lt (by have := h.1; omega)).mpr this
  omega
theorem mul_small {i j : Int} (hi : i.natAbs < 2 ^ 70) (hj : j.natAbs < 2 ^ 70) : wideMul i j := by
  have : ∀ x : Int, x.natAbs < 2 ^ 70 → x.natAbs.log2 < 70 := by
    intro x h
    by_cases e : x.natAbs = 0
    · rw [e]; decide
    · exact (Nat.log2_lt e).mpr h
  have a := this i hi
  have b := this j hj
  show i.natAbs.log2 + j.natAbs.log2 < 1000000
  omega
theorem div_small {i n : Int} (h : cntOk n) : wideDiv i n := ⟨h.1, log_small h⟩
theorem bx_get {o : MO} : ([o] : Sto)[0]? = some o := rfl
theorem bx_a0 {a b : W} : atI [a, b] 0 = some a := by simp [atI, ixN]
theorem bx_a1 {a b : W} : atI [a, b] 1 = some b := by simp [atI, ixN]
theorem bx_i0 : ixN 2 0 = some 0 := by decide
theorem bx_i1 : ixN 2 1 = some 1 := by decide
theorem bx_s {o o' : MO} : List.set ([o] : Sto) 0 o' = [o'] := rfl
theorem bx_s0 {a b c : W} : [a, b].set 0 c = [c, b] := rfl
theorem bx_s1 {a b c : W} : [a, b].set 1 c = [a, c] := rfl
theorem mo_lst {a b : List W} : (MO.lst a = MO.lst b) = (a = b) := by simp
theorem rt_keep {S S' : Sto} {Q : VQ} {X : XQ} {w : W} (h : Q w S') : (exitP S Q X).rt w S' := ⟨_, _, .keep, h⟩
theorem does0__law_choose : Does ir__law_choose nm__law_choose 2 sp0__law_choose := by
  rintro ws S Q X ⟨n, rfl, hn, x, y, rfl, hb, h⟩
  refine ⟨rfl, ?_⟩
  have hn' := hn
  obtain ⟨hn1, hn2⟩ := hn'
  obtain ⟨hb1, hb2, hb3⟩ := hb
  simp only [ir__law_choose, nm__law_choose, boxO, bx_get, bx_a0, bx_a1, bx_i0, bx_i1, bx_s, bx_s0, bx_s1, MO.lst.injEq, wpCs, wpC, wpE, wpEs, wpI, p_nm, p_tup, p_lst, p_nil, p_cons, if_true, if_false, reduceIte, Bool.false_eq_true, startS, getS, setS, setAll, wipeS, List.map_cons, List.map_nil, List.length_cons, List.length_nil, List.cons_append, List.nil_append, List.append_nil, Nat.reduceAdd, Nat.reduceSub, Nat.zero_add, List.replicate_succ, List.replicate_zero, imAll, Option.map_some, Option.bind_some, exists_eq_left, exists_eq_left', Option.some.injEq, W.im.injEq, T.int.injEq, T.bl.injEq, T.str.injEq, T.tup.injEq, T.lst.injEq, w_bin, w_cmp, w_un, w_blt, w_attr, w_ix, w_sl0, w_sl1, w_sl2, w_rev, w_tup, w_lst, w_nlst, b_addI, b_addS, b_addT, b_addL, b_subI, b_mulI, b_divI, b_modI, b_powI, c_lt, c_le, c_gt, c_ge, c_is, c_isn, c_eqI, c_neI, c_eqB, c_neB, c_eqS, c_neS, c_eqN, c_in, c_nin, n_intI, n_non, u_neg, i_len, i_abs, i_min, i_max, i_intI, i_intB, i_tuple, i_list, i_all, i_any, i_isi, i_sorted, i_max1, i_min1, x_lst, x_tup, x_scr, x_mr, s_tup, s_lst, q_lst, q_tup, q_scr, l_lst, l_scr, ln_lst, k_lst, k_tup, k_scr, k_str, j_ty, j_cls, j_tup, m_app, m_ext, e_set, r_app, r_ext, a_fn, stabW, true_and, and_true]
  by_cases c : 0 < x
  · simp only [c, decide_true, if_true]
    refine ⟨hn1, div_small hn, rt_keep (h _ _ _ (Int.emod_nonneg _ (by omega)) (Int.emod_lt_of_pos _ hn1) ⟨Int.ediv_nonneg hb1 (by omega), hb2, hb3⟩)⟩
  · simp only [c, decide_false, Bool.false_eq_true, if_false]
    have m1 : 0 ≤ (y * 40014 + 53) % 2147483563 := Int.emod_nonneg _ (by omega)
    have m2 : (y * 40014 + 53) % 2147483563 < 2147483563 := Int.emod_lt_of_pos _ (by omega)
    generalize (y * 40014 + 53) % 2147483563 = r at *
    have m3 : 0 ≤ (r * 40692 + 4201) % 2147483629 := Int.emod_nonneg _ (by omega)
    have m4 : (r * 40692 + 4201) % 2147483629 < 2147483629 := Int.emod_lt_of_pos _ (by omega)
    refine ⟨mul_small (by omega) (by omega), by omega, mul_small (by omega) (by omega), by omega, mul_small (by omega) (by omega), div_small ⟨by omega, by omega⟩, hn1, rt_keep (h _ _ _ (Int.emod_nonneg _ (by omega)) (Int.emod_lt_of_pos _ hn1) ⟨hb1, by omega, by omega⟩)⟩
theorem i__law_choose : ∀ ws S Q X, sp__law_choose ws S Q X → srcSp sp0__law_choose ws S Q X := by
  rintro ws S Q X ⟨j, n, rfl, hj, hn, h⟩
  refine ⟨j, [.int n], rfl, hj, fun x y hb => ?_⟩
  exact ⟨n, rfl, hn, x, y, rfl, hb, fun i x' y' h1 h2 h3 => ⟨_, x', y', rfl, h3, rfl, h i h1 h2⟩⟩
theorem abs_nn (x : Int) : 0 ≤ (if x < 0 then -x else x) := by split <;> omega
theorem at_scr {ns : List Int} {k : Int} (h0 : 0 ≤ k) (h1 : k < (ns.length : Int)) : ∃ c, atI ns k = some c := by
  have e : k = ((k.toNat : Nat) : Int) := by omega
  rw [e]
  exact ⟨_, atI_nat (List.getElem?_eq_getElem (by omega))⟩
theorem cpow18 : CPow 10 18 := ⟨by decide, by decide, by decide⟩
theorem seed_fin {S : Sto} {Q : VQ} {X : XQ} {k : Int} (hk1 : 0 ≤ k) (hk2 : k < 1000) (h : ∀ x y, boxOk x y → Q (.mr S.length) (S ++ [boxO x y])) (cell : Int) (hc : 0 ≤ cell) {A : Prop} {dA : Decidable A} : 
    if A then 0 < (2147483629 : Int) ∧ wideMul (cell % 2147483629) 48271 ∧ wideMul 30011 k ∧ 0 < (2147483629 : Int) ∧ 2 ≤ sizeLine ∧ (exitP S Q X).rt (.mr S.length) (S ++ [.lst [.im (.int cell), .im (.int ((cell % 2147483629 * 48271 + 30011 * k) % 2147483629 + 1))]])
      else 0 < (2147483629 : Int) ∧ wideMul (cell % 2147483629) 48271 ∧ wideMul 30011 k ∧ 0 < (2147483629 : Int) ∧ 2 ≤ sizeLine ∧ (exitP S Q X).rt (.mr S.length) (S ++ [.lst [.im (.int 0), .im (.int ((cell % 2147483629 * 48271 + 30011 * k) % 2147483629 + 1))]]) := by
  have hz : sizeLine = 16777216 := rfl
  have m1 : 0 ≤ cell % 2147483629 := Int.emod_nonneg _ (by omega)
  have m2 : cell % 2147483629 < 2147483629 := Int.emod_lt_of_pos _ (by omega)
  have m3 : 0 ≤ (cell % 2147483629 * 48271 + 30011 * k) % 2147483629 := Int.emod_nonneg _ (by omega)
  have m4 : (cell % 2147483629 * 48271 + 30011 * k) % 2147483629 < 2147483629 := Int.emod_lt_of_pos _ (by omega)
  split
  · exact ⟨by omega, mul_small (by omega) (by omega), mul_small (by omega) (by omega), by omega, by omega, rt_keep (h _ _ ⟨hc, by omega, by omega⟩)⟩
  · exact ⟨by omega, mul_small (by omega) (by omega), mul_small (by omega) (by omega), by omega, by omega, rt_keep (h _ _ ⟨by omega, by omega, by omega⟩)⟩
theorem does0__law_seed : Does ir__law_seed nm__law_seed 2 sp0__law_seed := by
  rintro ws S Q X ⟨ns, k, rfl, hn, ⟨hk1, hk2⟩, h⟩
  refine ⟨rfl, ?_⟩
  have hz : sizeLine = 16777216 := rfl
  simp only [ir__law_seed, nm__law_seed, wpCs, wpC, wpE, wpEs, wpI, p_nm, p_tup, p_lst, p_nil, p_cons, if_true, if_false, reduceIte, Bool.false_eq_true, startS, getS, setS, setAll, wipeS, List.map_cons, List.map_nil, List.length_cons, List.length_nil, List.cons_append, List.nil_append, List.append_nil, Nat.reduceAdd, Nat.reduceSub, Nat.zero_add, List.replicate_succ, List.replicate_zero, imAll, Option.map_some, Option.bind_some, exists_eq_left, exists_eq_left', Option.some.injEq, W.im.injEq, T.int.injEq, T.bl.injEq, T.str.injEq, T.tup.injEq, T.lst.injEq, w_bin, w_cmp, w_un, w_blt, w_attr, w_ix, w_sl0, w_sl1, w_sl2, w_rev, w_tup, w_lst, w_nlst, b_addI, b_addS, b_addT, b_addL, b_subI, b_mulI, b_divI, b_modI, b_powI, c_lt, c_le, c_gt, c_ge, c_is, c_isn, c_eqI, c_neI, c_eqB, c_neB, c_eqS, c_neS, c_eqN, c_in, c_nin, n_intI, n_non, u_neg, i_len, i_abs, i_min, i_max, i_intI, i_intB, i_tuple, i_list, i_all, i_any, i_isi, i_sorted, i_max1, i_min1, x_lst, x_tup, x_scr, x_mr, s_tup, s_lst, q_lst, q_tup, q_scr, l_lst, l_scr, ln_lst, k_lst, k_tup, k_scr, k_str, j_ty, j_cls, j_tup, m_app, m_ext, e_set, r_app, r_ext, a_fn, stabW, true_and, and_true, List.length_map]
  have fin := fun cell hc {A : Prop} {dA : Decidable A} => seed_fin (X := X) hk1 hk2 h cell hc (A := A) (dA := dA)
  refine ⟨mul_small (by omega) (by omega), by omega, ?_⟩
  by_cases c1 : k < (ns.length : Int)
  · simp only [c1, decide_true, if_true]
    obtain ⟨c, hc⟩ := at_scr hk1 c1
    refine ⟨c, hc, ?_⟩
    exact ⟨cpow18, fin _ (abs_nn c)⟩
  · simp only [c1, decide_false, Bool.false_eq_true, if_false]
    refine ⟨by omega, ?_⟩
    by_cases c2 : 0 < (ns.length : Int)
    · simp only [c2, decide_true, if_true]
      have b1 : 0 ≤ k % (ns.length : Int) := Int.emod_nonneg _ (by omega)
      have b2 : k % (ns.length : Int) < (ns.length : Int) := Int.emod_lt_of_pos _ c2
      obtain ⟨c, hc⟩ := at_scr b1 b2
      refine ⟨by omega, trivial, c, hc, by omega, ?_, cpow18, ?_⟩
      · have m1 := Int.emod_nonneg (if c < 0 then -c else c) (show (2147483629 : Int) ≠ 0 by omega)
        have m2 := Int.emod_lt_of_pos (if c < 0 then -c else c) (show (0 : Int) < 2147483629 by omega)
        exact mul_small (by omega) (by omega)
      · have m1 := Int.emod_nonneg (if c < 0 then -c else c) (show (2147483629 : Int) ≠ 0 by omega)
        exact fin _ (by omega)
    · simp only [c2, decide_false, Bool.false_eq_true, if_false]
      exact ⟨cpow18, fin _ (by omega)⟩
theorem i__law_seed : ∀ ws S Q X, sp__law_seed ws S Q X → seedSp sp0__law_seed ws S Q X := by
  rintro ws S Q X ⟨ns, k, rfl, hn, hk, h⟩
  exact ⟨ns, k, rfl, hn, hk, fun x y hb => ⟨x, y, rfl, hb, rfl, h⟩⟩
theorem u_choose {j : Nat} {n : Int} {S : Sto} {Q : VQ} {X : XQ} : sp__law_choose [.src j, .im (.int n)] S Q X ↔ j % 2 = 0 ∧ cntOk n ∧ ∀ i, 0 ≤ i → i < n → Q (.im (.int i)) S := by
  constructor
  · rintro ⟨j', n', e, h⟩
    simp only [List.cons.injEq, W.src.injEq, W.im.injEq, T.int.injEq, and_true] at e
    obtain ⟨rfl, rfl⟩ := e
    exact h
  · intro h
    exact ⟨j, n, rfl, h⟩
theorem u_one_of {j : Nat} {ts : List T} {S : Sto} {Q : VQ} {X : XQ} : sp__law_one_of [.src j, .im (.lst ts)] S Q X ↔ j % 2 = 0 ∧ (ts ≠ [] ∧ few ts.length) ∧ ∀ t, t ∈ ts → Q (.im t) S := by
  constructor
  · rintro ⟨j', n', e, h⟩
    simp only [List.cons.injEq, W.src.injEq, W.im.injEq, T.lst.injEq, and_true] at e
    obtain ⟨rfl, rfl⟩ := e
    exact h
  · intro h
    exact ⟨j, ts, rfl, h⟩
theorem u_pieces {j : Nat} {top tgt many : Int} {S : Sto} {Q : VQ} {X : XQ} : sp__law_pieces [.src j, .im (.int top), .im (.int tgt), .im (.int many)] S Q X ↔ j % 2 = 0 ∧ (0 ≤ top ∧ top ≤ 1000000000000) ∧ (0 ≤ tgt ∧ tgt ≤ 1000000000000) ∧ (0 < many ∧ many < 60) ∧ ∀ l, arePieces top tgt l = true → (l.length : Int) ≤ many → Q (.im (.lst (l.map Pc.t))) S := by
  constructor
  · rintro ⟨j', a, b, c, e, h⟩
    simp only [List.cons.injEq, W.src.injEq, W.im.injEq, T.int.injEq, and_true] at e
    obtain ⟨rfl, rfl, rfl, rfl⟩ := e
    exact h
  · intro h
    exact ⟨j, _, _, _, rfl, h⟩
theorem u_seed {ns : List Int} {k : Int} {S : Sto} {Q : VQ} {X : XQ} : sp__law_seed [.im (.scr ns), .im (.int k)] S Q X ↔ ns.length ≤ 63 ∧ (0 ≤ k ∧ k < 1000) ∧ ∀ j, j % 2 = 0 → Q (.src j) S := by
  constructor
  · rintro ⟨j', a, e, h⟩
    simp only [List.cons.injEq, W.im.injEq, T.int.injEq, T.scr.injEq, and_true] at e
    obtain ⟨rfl, rfl⟩ := e
    exact h
  · intro h
    exact ⟨_, _, rfl, h⟩
theorem at_any {α : Type} {l : List α} {i : Int} (h0 : 0 ≤ i) (h1 : i < (l.length : Int)) : ∃ c, atI l i = some c ∧ c ∈ l := by
  have e : i = ((i.toNat : Nat) : Int) := by omega
  have hi : i.toNat < l.length := by omega
  rw [e]
  exact ⟨l[i.toNat], atI_nat (List.getElem?_eq_getElem hi), List.getElem_mem hi⟩
theorem does__law_one_of : Does ir__law_one_of nm__law_one_of 2 sp__law_one_of := by
  rintro ws S Q X ⟨j, ts, rfl, hj, ⟨hn, hf⟩, h⟩
  refine ⟨rfl, ?_⟩
  have hz : sizeLine = 16777216 := rfl
  have hp : 0 < ts.length := List.length_pos_iff.mpr hn
  unfold few at hf
  simp only [ir__law_one_of, nm__law_one_of, u_choose, wpCs, wpC, wpE, wpEs, wpI, p_nm, p_tup, p_lst, p_nil, p_cons, if_true, if_false, reduceIte, Bool.false_eq_true, startS, getS, setS, setAll, wipeS, List.map_cons, List.map_nil, List.length_cons, List.length_nil, List.cons_append, List.nil_append, List.append_nil, Nat.reduceAdd, Nat.reduceSub, Nat.zero_add, List.replicate_succ, List.replicate_zero, imAll, Option.map_some, Option.bind_some, exists_eq_left, exists_eq_left', Option.some.injEq, W.im.injEq, T.int.injEq, T.bl.injEq, T.str.injEq, T.tup.injEq, T.lst.injEq, w_bin, w_cmp, w_un, w_blt, w_attr, w_ix, w_sl0, w_sl1, w_sl2, w_rev, w_tup, w_lst, w_nlst, b_addI, b_addS, b_addT, b_addL, b_subI, b_mulI, b_divI, b_modI, b_powI, c_lt, c_le, c_gt, c_ge, c_is, c_isn, c_eqI, c_neI, c_eqB, c_neB, c_eqS, c_neS, c_eqN, c_in, c_nin, n_intI, n_non, u_neg, i_len, i_abs, i_min, i_max, i_intI, i_intB, i_tuple, i_list, i_all, i_any, i_isi, i_sorted, i_max1, i_min1, x_lst, x_tup, x_scr, x_mr, s_tup, s_lst, q_lst, q_tup, q_scr, l_lst, l_scr, ln_lst, k_lst, k_tup, k_scr, k_str, j_ty, j_cls, j_tup, m_app, m_ext, e_set, r_app, r_ext, a_fn, stabW, true_and, and_true]
  refine ⟨by omega, hj, ⟨by omega, by omega⟩, fun i h0 h1 => ?_⟩
  obtain ⟨c, e, m⟩ := at_any h0 h1
  exact ⟨c, e, rt_im (h c m)⟩
theorem flat_ints : ∀ (ns : List Int), flatTs (ns.map T.int) = some (ns.map V.int)
  | [] => rfl
  | n :: ns => by
    rw [List.map_cons, flatTs, flat_ints ns]
    rfl
theorem inV_ints {i : Int} : ∀ (ns : List Int), inV (.int i) (ns.map V.int) = decide (i ∈ ns)
  | [] => rfl
  | n :: ns => by
    have ih := inV_ints (i := i) ns
    simp only [inV, List.map_cons, List.any_cons, eqV] at ih ⊢
    rw [ih]
    by_cases h : i = n
    · simp [h]
    · simp [h, Ne.symm h]
theorem ints_ok : ∀ (ns : List Int), intsT (ns.map T.int) = some ns
  | [] => rfl
  | n :: ns => by
    rw [List.map_cons, intsT, ints_ok ns]
    rfl
theorem seq_mr {S : Sto} {k : Nat} {ts : List T} (h : S[k]? = some (.lst (ts.map W.im))) : seqOf S (.mr k) = some ts := by
  show (match S[k]? with | some (.lst ws) => imAll ws | _ => none) = some ts
  rw [h]
  exact imAll_map ts
/-- the starts so far -/
structure St (top : Int) (ns : List Int) : Prop where
  z : 0 ∈ ns
  nd : ns.Nodup
  b : ∀ n ∈ ns, 0 ≤ n ∧ n ≤ top
theorem st_loop {j : Nat} (hj : j % 2 = 0) {top tgt many : Int} (ht : 0 ≤ top ∧ top ≤ 1000000000000) {S0 : Sto} {K : Post} {k : Nat} (hk : k = S0.length) : ∀ (ts : List T) (ns : List Int) (x5 x6 : Option W), St top ns → ns.length + ts.length < 60 →
    (∀ ns' x5 x6, St top ns' → ns'.length ≤ ns.length + ts.length → K.nx [some (.src j), some (.im (.int top)), some (.im (.int tgt)), some (.im (.int many)), some (.mr k), x5, x6, none, none, none, none, none, none, none] (S0 ++ [.lst ((ns'.map T.int).map W.im)])) →
    forW (wpCs bd__law_pieces_1) (.nm 5) (fun _ => True) ts [some (.src j), some (.im (.int top)), some (.im (.int tgt)), some (.im (.int many)), some (.mr k), x5, x6, none, none, none, none, none, none, none] (S0 ++ [.lst ((ns.map T.int).map W.im)]) K
  | [], ns, x5, x6, st, hl, kk => by
    rw [forW]
    exact ⟨trivial, kk ns x5 x6 st (by simp)⟩
  | t :: ts, ns, x5, x6, st, hl, kk => by
    have hz : sizeLine = 16777216 := rfl
    simp only [List.length_cons] at hl
    have hget : (S0 ++ [MO.lst ((ns.map T.int).map W.im)])[k]? = some (.lst ((ns.map T.int).map W.im)) := by rw [hk]; simp
    rw [forW]
    refine ⟨trivial, ?_⟩
    have step : ∀ s : Int, 0 ≤ s → s ≤ top → ∀ x5, ∀ x6,
        (s ∈ ns → forW (wpCs bd__law_pieces_1) (.nm 5) (fun _ => True) ts [some (.src j), some (.im (.int top)), some (.im (.int tgt)), some (.im (.int many)), some (.mr k), x5, x6, none, none, none, none, none, none, none] (S0 ++ [.lst ((ns.map T.int).map W.im)]) K) ∧
        (s ∉ ns → forW (wpCs bd__law_pieces_1) (.nm 5) (fun _ => True) ts [some (.src j), some (.im (.int top)), some (.im (.int tgt)), some (.im (.int many)), some (.mr k), x5, x6, none, none, none, none, none, none, none] (S0 ++ [.lst (((ns ++ [s]).map T.int).map W.im)]) K) := by
      intro s s0 s1 x5 x6
      refine ⟨fun _ => st_loop hj ht hk ts ns x5 x6 st (by omega) fun ns' a b st' hl' => kk ns' a b st' (by simp only [List.length_cons]; omega), fun hs => st_loop hj ht hk ts (ns ++ [s]) x5 x6 ⟨by simp [st.z], ?_, ?_⟩ (by simp; omega) fun ns' a b st' hl' => kk ns' a b st' (by simp at hl' ⊢; omega)⟩
      · rw [List.nodup_append]
        refine ⟨st.nd, by simp, fun a ha b hb e => ?_⟩
        simp at hb
        subst hb
        subst e
        exact hs ha
      · intro n hn
        rcases List.mem_append.mp hn with hn | hn
        · exact st.b n hn
        · simp at hn
          subst hn
          exact ⟨s0, s1⟩
    have fin : ∀ s : Int, 0 ≤ s → s ≤ top → ∀ x5, 
        if (!decide (s ∈ ns)) = true then (∃ ws, (S0 ++ [MO.lst ((ns.map T.int).map W.im)])[k]? = some (.lst ws)) ∧ ∃ ws, (S0 ++ [MO.lst ((ns.map T.int).map W.im)])[k]? = some (.lst ws) ∧ ws.length < sizeLine ∧ forW (wpCs bd__law_pieces_1) (.nm 5) (fun _ => True) ts [some (.src j), some (.im (.int top)), some (.im (.int tgt)), some (.im (.int many)), some (.mr k), x5, some (.im (.int s)), none, none, none, none, none, none, none] ((S0 ++ [MO.lst ((ns.map T.int).map W.im)]).set k (.lst (ws ++ [.im (.int s)]))) K
        else forW (wpCs bd__law_pieces_1) (.nm 5) (fun _ => True) ts [some (.src j), some (.im (.int top)), some (.im (.int tgt)), some (.im (.int many)), some (.mr k), x5, some (.im (.int s)), none, none, none, none, none, none, none] (S0 ++ [.lst ((ns.map T.int).map W.im)]) K := by
      intro s s0 s1 x5
      by_cases hs : s ∈ ns
      · simp only [hs, decide_true, Bool.not_true, Bool.false_eq_true, if_false]
        exact (step s s0 s1 x5 _).1 hs
      · simp only [hs, decide_false, Bool.not_false, if_true]
        refine ⟨⟨_, hget⟩, _, hget, by simp; omega, ?_⟩
        have := (step s s0 s1 x5 (some (.im (.int s)))).2 hs
        have e : (S0 ++ [MO.lst ((ns.map T.int).map W.im)]).set k (.lst ((ns.map T.int).map W.im ++ [.im (.int s)])) = S0 ++ [.lst (((ns ++ [s]).map T.int).map W.im)] := by
          rw [hk, List.set_append_right _ _ (Nat.le_refl _), Nat.sub_self]
          simp
        rw [e]
        exact this
    simp only [bd__law_pieces_1, u_choose, seq_mr hget, flat_ints, inV_ints, wpCs, wpC, wpE, wpEs, wpI, p_nm, p_tup, p_lst, p_nil, p_cons, if_true, if_false, reduceIte, Bool.false_eq_true, startS, getS, setS, setAll, wipeS, List.map_cons, List.map_nil, List.length_cons, List.length_nil, List.cons_append, List.nil_append, List.append_nil, Nat.reduceAdd, Nat.reduceSub, Nat.zero_add, List.replicate_succ, List.replicate_zero, imAll, Option.map_some, Option.bind_some, exists_eq_left, exists_eq_left', Option.some.injEq, W.im.injEq, T.int.injEq, T.bl.injEq, T.str.injEq, T.tup.injEq, T.lst.injEq, w_bin, w_cmp, w_un, w_blt, w_attr, w_ix, w_sl0, w_sl1, w_sl2, w_rev, w_tup, w_lst, w_nlst, b_addI, b_addS, b_addT, b_addL, b_subI, b_mulI, b_divI, b_modI, b_powI, c_lt, c_le, c_gt, c_ge, c_is, c_isn, c_eqI, c_neI, c_eqB, c_neB, c_eqS, c_neS, c_eqN, c_in, c_nin, n_intI, n_non, u_neg, i_len, i_abs, i_min, i_max, i_intI, i_intB, i_tuple, i_list, i_all, i_any, i_isi, i_sorted, i_max1, i_min1, x_lst, x_tup, x_scr, x_mr, s_tup, s_lst, q_lst, q_tup, q_scr, l_lst, l_scr, ln_lst, k_lst, k_tup, k_scr, k_str, j_ty, j_cls, j_tup, m_app, m_ext, e_set, r_app, r_ext, a_fn, stabW, true_and, and_true] at fin ⊢
    by_cases c : 0 < top
    · simp only [c, decide_true, if_true]
      refine ⟨hj, ⟨by omega, by omega⟩, fun i i0 i1 => ?_⟩
      exact fin (1 + i) (by omega) (by omega) _
    · simp only [c, decide_false, Bool.false_eq_true, if_false]
      exact fin 0 (by omega) (by omega) _
theorem ascend {ns : List Int} (h : ns.Pairwise (· ≤ ·)) (nd : ns.Nodup) : ns.Pairwise (· < ·) := by
  induction ns with
  | nil => exact .nil
  | cons a l ih =>
    rw [List.pairwise_cons] at h
    rw [List.nodup_cons] at nd
    rw [List.pairwise_cons]
    refine ⟨fun b hb => ?_, ih h.2 nd.2⟩
    have := h.1 b hb
    have : a ≠ b := fun e => nd.1 (by rw [e]; exact hb)
    omega
/-- the end of the stretch that begins with the first of these starts -/
def endI (top : Int) : List Int → Int
  | [] => top
  | b :: _ => b - 1
theorem endOf_map {top : Int} : ∀ (r : List Pc), endOf top r = endI top (r.map (·.s))
  | [] => rfl
  | _ :: _ => rfl
theorem pc_body {j : Nat} (hj : j % 2 = 0) {top tgt last s : Int} {many : W} {i : Nat} {ns rest : List Int} {acc : List Pc} {S : Sto} {k : Nat} {K : Post} {x5 x10 x11 x12 x13 : Option W} (hb : 0 ≤ last ∧ last ≤ tgt) (hS : S[k]? = some (.lst ((acc.map Pc.t).map W.im))) (ha : acc.length < 1000) (hn : ns.length < 1000) (hd : ns.drop i = s :: rest)
    (kk : ∀ (f : Int) (r : Bool) x10 x11 x12 x13, last ≤ f → f ≤ tgt → (r = true → f + (endI top rest - s) ≤ tgt) → K.nx [some (.src j), some (.im (.int top)), some (.im (.int tgt)), some many, some (.im (.lst (ns.map T.int))), x5, some (.im (.int s)), some (.mr k), some (.im (.int (f + if r = true then endI top rest - s else 0))), some (.im (.int (i : Int))), x10, x11, x12, x13] (S.set k (.lst (((acc ++ [Pc.mk s f r]).map Pc.t).map W.im)))) :
    wpCs bd__law_pieces_2 [some (.src j), some (.im (.int top)), some (.im (.int tgt)), some many, some (.im (.lst (ns.map T.int))), x5, some (.im (.int s)), some (.mr k), some (.im (.int last)), some (.im (.int (i : Int))), x10, x11, x12, x13] S K := by
  have hz : sizeLine = 16777216 := rfl
  obtain ⟨d1, d2, d3⟩ := drop_cons hd
  simp only [bd__law_pieces_2, u_choose, u_one_of, hS, MO.lst.injEq, List.length_map, wpCs, wpC, wpE, wpEs, wpI, p_nm, p_tup, p_lst, p_nil, p_cons, if_true, if_false, reduceIte, Bool.false_eq_true, startS, getS, setS, setAll, wipeS, List.map_cons, List.map_nil, List.length_cons, List.length_nil, List.cons_append, List.nil_append, List.append_nil, Nat.reduceAdd, Nat.reduceSub, Nat.zero_add, List.replicate_succ, List.replicate_zero, imAll, Option.map_some, Option.bind_some, exists_eq_left, exists_eq_left', Option.some.injEq, W.im.injEq, T.int.injEq, T.bl.injEq, T.str.injEq, T.tup.injEq, T.lst.injEq, w_bin, w_cmp, w_un, w_blt, w_attr, w_ix, w_sl0, w_sl1, w_sl2, w_rev, w_tup, w_lst, w_nlst, b_addI, b_addS, b_addT, b_addL, b_subI, b_mulI, b_divI, b_modI, b_powI, c_lt, c_le, c_gt, c_ge, c_is, c_isn, c_eqI, c_neI, c_eqB, c_neB, c_eqS, c_neS, c_eqN, c_in, c_nin, n_intI, n_non, u_neg, i_len, i_abs, i_min, i_max, i_intI, i_intB, i_tuple, i_list, i_all, i_any, i_isi, i_sorted, i_max1, i_min1, x_lst, x_tup, x_scr, x_mr, s_tup, s_lst, q_lst, q_tup, q_scr, l_lst, l_scr, ln_lst, k_lst, k_tup, k_scr, k_str, j_ty, j_cls, j_tup, m_app, m_ext, e_set, r_app, r_ext, a_fn, stabW, true_and, and_true]
  refine ⟨by omega, ?_⟩
  have kk2 : ∀ (f : Int) (r : Bool) (d : Int) x10 x11 x12 x13, last ≤ f → f ≤ tgt → (r = true → f + (endI top rest - s) ≤ tgt) → d = (f + if r = true then endI top rest - s else 0) → K.nx [some (.src j), some (.im (.int top)), some (.im (.int tgt)), some many, some (.im (.lst (ns.map T.int))), x5, some (.im (.int s)), some (.mr k), some (.im (.int d)), some (.im (.int (i : Int))), x10, x11, x12, x13] (S.set k (.lst ((acc.map Pc.t).map W.im ++ [.im (.tup [.int s, .int f, .bl r])]))) := by
    intro f r d x10 x11 x12 x13 h1 h2 h3 h4
    have := kk f r x10 x11 x12 x13 h1 h2 h3
    rw [← h4] at this
    simpa [Pc.t] using this
  have mid : ∀ (e : Int), e = endI top rest → ∀ t, t ∈ [T.int 0, T.int 0, T.int 1, T.int ((tgt - last) / 3), T.int ((tgt - last) / 2)] → ∃ v, t = .int v ∧ 0 ≤ v := by
    intro e he t ht
    simp only [List.mem_cons, List.not_mem_nil, or_false] at ht
    rcases ht with rfl | rfl | rfl | rfl | rfl
    · exact ⟨_, rfl, by omega⟩
    · exact ⟨_, rfl, by omega⟩
    · exact ⟨_, rfl, by omega⟩
    · exact ⟨_, rfl, by omega⟩
    · exact ⟨_, rfl, by omega⟩
  have d3w : wideDiv (tgt - last) 3 := div_small ⟨by omega, by omega⟩
  have d2w : wideDiv (tgt - last) 2 := div_small ⟨by omega, by omega⟩
  have fmn : ∀ v : Int, 0 ≤ v → last ≤ (if tgt < last + v then tgt else last + v) ∧ (if tgt < last + v then tgt else last + v) ≤ tgt := by
    intro v hv
    split <;> omega
  cases rest with
  | nil =>
    have e1 : ¬ ((i : Int) + 1 < (ns.length : Int)) := by
      have := drop_nil d2
      omega
    simp only [e1, decide_false, Bool.false_eq_true, if_false]
    refine ⟨d3w, d2w, by omega, hj, ⟨by simp, by unfold few; omega⟩, fun t ht => ?_⟩
    obtain ⟨v, rfl, hv⟩ := mid top rfl t ht
    obtain ⟨f0, f1⟩ := fmn v hv
    simp only [hS, MO.lst.injEq, wpCs, wpC, wpE, wpEs, wpI, p_nm, p_tup, p_lst, p_nil, p_cons, if_true, if_false, reduceIte, Bool.false_eq_true, startS, getS, setS, setAll, wipeS, List.map_cons, List.map_nil, List.length_cons, List.length_nil, List.cons_append, List.nil_append, List.append_nil, Nat.reduceAdd, Nat.reduceSub, Nat.zero_add, List.replicate_succ, List.replicate_zero, imAll, Option.map_some, Option.bind_some, exists_eq_left, exists_eq_left', Option.some.injEq, W.im.injEq, T.int.injEq, T.bl.injEq, T.str.injEq, T.tup.injEq, T.lst.injEq, w_bin, w_cmp, w_un, w_blt, w_attr, w_ix, w_sl0, w_sl1, w_sl2, w_rev, w_tup, w_lst, w_nlst, b_addI, b_addS, b_addT, b_addL, b_subI, b_mulI, b_divI, b_modI, b_powI, c_lt, c_le, c_gt, c_ge, c_is, c_isn, c_eqI, c_neI, c_eqB, c_neB, c_eqS, c_neS, c_eqN, c_in, c_nin, n_intI, n_non, u_neg, i_len, i_abs, i_min, i_max, i_intI, i_intB, i_tuple, i_list, i_all, i_any, i_isi, i_sorted, i_max1, i_min1, x_lst, x_tup, x_scr, x_mr, s_tup, s_lst, q_lst, q_tup, q_scr, l_lst, l_scr, ln_lst, k_lst, k_tup, k_scr, k_str, j_ty, j_cls, j_tup, m_app, m_ext, e_set, r_app, r_ext, a_fn, stabW, true_and, and_true]
    generalize (if tgt < last + v then tgt else last + v) = f at f0 f1 ⊢
    refine ⟨hj, ⟨by omega, by omega⟩, fun q q0 q1 => ?_⟩
    split
    · refine ⟨⟨_, rfl⟩, by omega, by simp; omega, ?_⟩
      split
      · rename_i h
        have h := of_decide_eq_true h
        have z := kk2 f true (f + top - s) (some (.im (.int top))) (some (.im (.int (tgt - last)))) (some (.im (.int f))) (some (.im (.bl true))) f0 f1 (fun _ => by show f + (top - s) ≤ tgt; omega) (by show _ = f + (top - s); omega)
        simp only [decide_eq_true h]
        exact z
      · rename_i h
        have h : decide (f + top - s ≤ tgt) = false := by simpa using h
        simp only [h]
        exact kk2 f false f _ _ _ _ f0 f1 (fun z => by cases z) (by simp)
    · refine ⟨⟨_, rfl⟩, by omega, by simp; omega, ?_⟩
      exact kk2 f false f _ _ _ _ f0 f1 (fun z => by cases z) (by simp)
  | cons b rest =>
    obtain ⟨b1, b2, b3⟩ := drop_cons d2
    have e1 : ((i : Int) + 1 < (ns.length : Int)) := by omega
    have e2 : atI (ns.map T.int) ((i : Int) + 1) = some (.int b) := by
      have : ((i : Int) + 1) = ((i + 1 : Nat) : Int) := by omega
      rw [this]
      exact atI_nat (by rw [List.getElem?_map, b1]; rfl)
    simp only [e1, e2, decide_true, if_true, wpCs, wpC, wpE, wpEs, wpI, p_nm, p_tup, p_lst, p_nil, p_cons, if_true, if_false, reduceIte, Bool.false_eq_true, startS, getS, setS, setAll, wipeS, List.map_cons, List.map_nil, List.length_cons, List.length_nil, List.cons_append, List.nil_append, List.append_nil, Nat.reduceAdd, Nat.reduceSub, Nat.zero_add, List.replicate_succ, List.replicate_zero, imAll, Option.map_some, Option.bind_some, exists_eq_left, exists_eq_left', Option.some.injEq, W.im.injEq, T.int.injEq, T.bl.injEq, T.str.injEq, T.tup.injEq, T.lst.injEq, w_bin, w_cmp, w_un, w_blt, w_attr, w_ix, w_sl0, w_sl1, w_sl2, w_rev, w_tup, w_lst, w_nlst, b_addI, b_addS, b_addT, b_addL, b_subI, b_mulI, b_divI, b_modI, b_powI, c_lt, c_le, c_gt, c_ge, c_is, c_isn, c_eqI, c_neI, c_eqB, c_neB, c_eqS, c_neS, c_eqN, c_in, c_nin, n_intI, n_non, u_neg, i_len, i_abs, i_min, i_max, i_intI, i_intB, i_tuple, i_list, i_all, i_any, i_isi, i_sorted, i_max1, i_min1, x_lst, x_tup, x_scr, x_mr, s_tup, s_lst, q_lst, q_tup, q_scr, l_lst, l_scr, ln_lst, k_lst, k_tup, k_scr, k_str, j_ty, j_cls, j_tup, m_app, m_ext, e_set, r_app, r_ext, a_fn, stabW, true_and, and_true]
    refine ⟨d3w, d2w, by omega, hj, ⟨by simp, by unfold few; omega⟩, fun t ht => ?_⟩
    obtain ⟨v, rfl, hv⟩ := mid (b - 1) rfl t ht
    obtain ⟨f0, f1⟩ := fmn v hv
    simp only [hS, MO.lst.injEq, wpCs, wpC, wpE, wpEs, wpI, p_nm, p_tup, p_lst, p_nil, p_cons, if_true, if_false, reduceIte, Bool.false_eq_true, startS, getS, setS, setAll, wipeS, List.map_cons, List.map_nil, List.length_cons, List.length_nil, List.cons_append, List.nil_append, List.append_nil, Nat.reduceAdd, Nat.reduceSub, Nat.zero_add, List.replicate_succ, List.replicate_zero, imAll, Option.map_some, Option.bind_some, exists_eq_left, exists_eq_left', Option.some.injEq, W.im.injEq, T.int.injEq, T.bl.injEq, T.str.injEq, T.tup.injEq, T.lst.injEq, w_bin, w_cmp, w_un, w_blt, w_attr, w_ix, w_sl0, w_sl1, w_sl2, w_rev, w_tup, w_lst, w_nlst, b_addI, b_addS, b_addT, b_addL, b_subI, b_mulI, b_divI, b_modI, b_powI, c_lt, c_le, c_gt, c_ge, c_is, c_isn, c_eqI, c_neI, c_eqB, c_neB, c_eqS, c_neS, c_eqN, c_in, c_nin, n_intI, n_non, u_neg, i_len, i_abs, i_min, i_max, i_intI, i_intB, i_tuple, i_list, i_all, i_any, i_isi, i_sorted, i_max1, i_min1, x_lst, x_tup, x_scr, x_mr, s_tup, s_lst, q_lst, q_tup, q_scr, l_lst, l_scr, ln_lst, k_lst, k_tup, k_scr, k_str, j_ty, j_cls, j_tup, m_app, m_ext, e_set, r_app, r_ext, a_fn, stabW, true_and, and_true]
    generalize (if tgt < last + v then tgt else last + v) = f at f0 f1 ⊢
    refine ⟨hj, ⟨by omega, by omega⟩, fun q q0 q1 => ?_⟩
    split
    · refine ⟨⟨_, rfl⟩, by omega, by simp; omega, ?_⟩
      split
      · rename_i h
        have h := of_decide_eq_true h
        have z := kk2 f true (f + (b - 1) - s) (some (.im (.int (b - 1)))) (some (.im (.int (tgt - last)))) (some (.im (.int f))) (some (.im (.bl true))) f0 f1 (fun _ => by show f + (b - 1 - s) ≤ tgt; omega) (by show _ = f + (b - 1 - s); omega)
        simp only [decide_eq_true h]
        exact z
      · rename_i h
        have h : decide (f + (b - 1) - s ≤ tgt) = false := by simpa using h
        simp only [h]
        exact kk2 f false f _ _ _ _ f0 f1 (fun z => by cases z) (by simp)
    · refine ⟨⟨_, rfl⟩, by omega, by simp; omega, ?_⟩
      exact kk2 f false f _ _ _ _ f0 f1 (fun z => by cases z) (by simp)
theorem pc_loop {j : Nat} (hj : j % 2 = 0) {top tgt : Int} {many : W} {ns : List Int} {k : Nat} {K : Post} {stab : Sto → Prop} (hst : ∀ S, stab S) (hn : ns.length < 1000) : ∀ (rest : List Int) (i : Nat) (last : Int) (acc : List Pc) (S : Sto) (x5 x6 x9 x10 x11 x12 x13 : Option W), (0 ≤ last ∧ last ≤ tgt) → S[k]? = some (.lst ((acc.map Pc.t).map W.im)) → acc.length + rest.length < 1000 → ns.drop i = rest → (∀ s ∈ rest, s ≤ endI top [] ) → rest.Pairwise (· < ·) →
    (∀ (r : List Pc) x5 x6 x8 x9 x10 x11 x12 x13, r.map (·.s) = rest → chkP top tgt last r = true → (∀ p ∈ r, 0 ≤ p.f) → K.nx [some (.src j), some (.im (.int top)), some (.im (.int tgt)), some many, some (.im (.lst (ns.map T.int))), x5, x6, some (.mr k), x8, x9, x10, x11, x12, x13] (S.set k (.lst (((acc ++ r).map Pc.t).map W.im)))) →
    forW (wpCs bd__law_pieces_2) (.tp (.cons (.nm 9) (.cons (.nm 6) .nil))) stab ((rest.zipIdx i).map fun p => T.tup [.int (p.2 : Int), .int p.1]) [some (.src j), some (.im (.int top)), some (.im (.int tgt)), some many, some (.im (.lst (ns.map T.int))), x5, x6, some (.mr k), some (.im (.int last)), x9, x10, x11, x12, x13] S K
  | [], i, last, acc, S, x5, x6, x9, x10, x11, x12, x13, hb, hS, ha, hd, hr, hp, kk => by
    rw [List.zipIdx_nil, List.map_nil, forW]
    refine ⟨hst _, ?_⟩
    have := kk [] x5 x6 (some (.im (.int last))) x9 x10 x11 x12 x13 rfl (by rw [chkP]; exact decide_eq_true hb.2) (by simp)
    rw [List.append_nil, set_same hS] at this
    exact this
  | s :: rest, i, last, acc, S, x5, x6, x9, x10, x11, x12, x13, hb, hS, ha, hd, hr, hp, kk => by
    simp only [List.length_cons] at ha
    rw [List.zipIdx_cons, List.map_cons, forW]
    refine ⟨hst _, ?_⟩
    simp only [p_tup, p_cons, p_nm, p_nil, setS]
    rw [List.pairwise_cons] at hp
    have he : s ≤ endI top rest := by
      cases rest with
      | nil => exact hr s (by simp)
      | cons b rest => have := hp.1 b (by simp); show s ≤ b - 1; omega
    refine pc_body hj hb hS (by omega) hn hd fun f r x10 x11 x12 x13 h1 h2 h3 => ?_
    refine pc_loop hj hst hn rest (i + 1) (f + if r = true then endI top rest - s else 0) (acc ++ [⟨s, f, r⟩]) _ _ _ _ _ _ _ _ ?_ (get_set hS) (by simp; omega) (drop_cons hd).2.1 (fun a h => hr a (by simp [h])) hp.2 fun q y5 y6 y8 y9 y10 y11 y12 y13 g1 g2 g3 => ?_
    · cases r
      · simp only [Bool.false_eq_true, if_false]; omega
      · have := h3 rfl
        simp only [if_true]; omega
    · have := kk (⟨s, f, r⟩ :: q) y5 y6 y8 y9 y10 y11 y12 y13 (by simp [g1]) (by
        rw [chkP, if_neg (by show ¬ f < last; omega), endOf_map, g1]
        exact g2) (fun p hp => by
        rcases List.mem_cons.mp hp with rfl | hp
        · show 0 ≤ f; omega
        · exact g3 p hp)
      simpa [List.set_set] using this
theorem incr_of : ∀ {l : List Pc}, (l.map (·.s)).Pairwise (· < ·) → incr l = true
  | [], _ => rfl
  | [a], _ => rfl
  | a :: b :: r, h => by
    simp only [List.map_cons] at h
    rw [List.pairwise_cons] at h
    rw [incr, incr_of (l := b :: r) (by simpa using h.2), Bool.and_true]
    exact decide_eq_true (h.1 b.s (by simp))
theorem lastS_of {top : Int} : ∀ {l : List Pc} {d : Int}, d ≤ top → (∀ p ∈ l, p.s ≤ top) → lastS d l ≤ top
  | [], d, h, _ => h
  | a :: r, d, h, h' => lastS_of (l := r) (h' a (by simp)) fun p hp => h' p (by simp [hp])
theorem stab_refl {S : Sto} {w : W} : stabW S w S := by
  cases w <;> first | trivial | rfl
theorem pieces_wp {S : Sto} {Q : VQ} {X : XQ} {j : Nat} {top tgt many : Int} (hj : j % 2 = 0) (ht : 0 ≤ top ∧ top ≤ 1000000000000) (hg : 0 ≤ tgt ∧ tgt ≤ 1000000000000) (hm : 0 < many ∧ many < 60)
    (h : ∀ (ns : List Int) (l : List Pc), arePieces top tgt l = true → (l.length : Int) ≤ many → (exitP S Q X).rt (.mr (S ++ [MO.lst ((ns.map T.int).map W.im)]).length) (S ++ [.lst ((ns.map T.int).map W.im), .lst ((l.map Pc.t).map W.im)])) :
    wpCs ir__law_pieces (startS nm__law_pieces [.src j, .im (.int top), .im (.int tgt), .im (.int many)]) S (exitP S Q X) := by
  have hz : sizeLine = 16777216 := rfl
  simp only [ir__law_pieces, nm__law_pieces, u_choose, wpCs, wpC, wpE, wpEs, wpI, p_nm, p_tup, p_lst, p_nil, p_cons, if_true, if_false, reduceIte, Bool.false_eq_true, startS, getS, setS, setAll, wipeS, List.map_cons, List.map_nil, List.length_cons, List.length_nil, List.cons_append, List.nil_append, List.append_nil, Nat.reduceAdd, Nat.reduceSub, Nat.zero_add, List.replicate_succ, List.replicate_zero, imAll, Option.map_some, Option.bind_some, exists_eq_left, exists_eq_left', Option.some.injEq, W.im.injEq, T.int.injEq, T.bl.injEq, T.str.injEq, T.tup.injEq, T.lst.injEq, w_bin, w_cmp, w_un, w_blt, w_attr, w_ix, w_sl0, w_sl1, w_sl2, w_rev, w_tup, w_lst, w_nlst, b_addI, b_addS, b_addT, b_addL, b_subI, b_mulI, b_divI, b_modI, b_powI, c_lt, c_le, c_gt, c_ge, c_is, c_isn, c_eqI, c_neI, c_eqB, c_neB, c_eqS, c_neS, c_eqN, c_in, c_nin, n_intI, n_non, u_neg, i_len, i_abs, i_min, i_max, i_intI, i_intB, i_tuple, i_list, i_all, i_any, i_isi, i_sorted, i_max1, i_min1, x_lst, x_tup, x_scr, x_mr, s_tup, s_lst, q_lst, q_tup, q_scr, l_lst, l_scr, ln_lst, k_lst, k_tup, k_scr, k_str, j_ty, j_cls, j_tup, m_app, m_ext, e_set, r_app, r_ext, a_fn, stabW, true_and, and_true]
  refine ⟨by omega, hj, ⟨by omega, by omega⟩, fun c c0 c1 => ⟨by omega, by omega, ?_⟩⟩
  refine st_loop hj ht rfl _ [0] _ _ ⟨by simp, by simp, fun n hn => by simp at hn; subst hn; omega⟩ (by simp; omega) fun ns x5 x6 st hl => ?_
  have hl : (ns.length : Int) ≤ many := by simp at hl; omega
  have hget : (S ++ [MO.lst ((ns.map T.int).map W.im)])[S.length]? = some (.lst ((ns.map T.int).map W.im)) := by simp
  simp only [seq_mr hget, wpCs, wpC, wpE, wpEs, wpI, p_nm, p_tup, p_lst, p_nil, p_cons, if_true, if_false, reduceIte, Bool.false_eq_true, startS, getS, setS, setAll, wipeS, List.map_cons, List.map_nil, List.length_cons, List.length_nil, List.cons_append, List.nil_append, List.append_nil, Nat.reduceAdd, Nat.reduceSub, Nat.zero_add, List.replicate_succ, List.replicate_zero, imAll, Option.map_some, Option.bind_some, exists_eq_left, exists_eq_left', Option.some.injEq, W.im.injEq, T.int.injEq, T.bl.injEq, T.str.injEq, T.tup.injEq, T.lst.injEq, w_bin, w_cmp, w_un, w_blt, w_attr, w_ix, w_sl0, w_sl1, w_sl2, w_rev, w_tup, w_lst, w_nlst, b_addI, b_addS, b_addT, b_addL, b_subI, b_mulI, b_divI, b_modI, b_powI, c_lt, c_le, c_gt, c_ge, c_is, c_isn, c_eqI, c_neI, c_eqB, c_neB, c_eqS, c_neS, c_eqN, c_in, c_nin, n_intI, n_non, u_neg, i_len, i_abs, i_min, i_max, i_intI, i_intB, i_tuple, i_list, i_all, i_any, i_isi, i_sorted, i_max1, i_min1, x_lst, x_tup, x_scr, x_mr, s_tup, s_lst, q_lst, q_tup, q_scr, l_lst, l_scr, ln_lst, k_lst, k_tup, k_scr, k_str, j_ty, j_cls, j_tup, m_app, m_ext, e_set, r_app, r_ext, a_fn, stabW, true_and, and_true]
  refine lc_map T.int T.int (fun _ _ _ _ h => h) stab_refl ns [] _ (by simp; omega) (fun n _ R hR => ?_) ?_
  · simp only [wpCs, wpC, wpE, wpEs, wpI, p_nm, p_tup, p_lst, p_nil, p_cons, if_true, if_false, reduceIte, Bool.false_eq_true, startS, getS, setS, setAll, wipeS, List.map_cons, List.map_nil, List.length_cons, List.length_nil, List.cons_append, List.nil_append, List.append_nil, Nat.reduceAdd, Nat.reduceSub, Nat.zero_add, List.replicate_succ, List.replicate_zero, imAll, Option.map_some, Option.bind_some, exists_eq_left, exists_eq_left', Option.some.injEq, W.im.injEq, T.int.injEq, T.bl.injEq, T.str.injEq, T.tup.injEq, T.lst.injEq, w_bin, w_cmp, w_un, w_blt, w_attr, w_ix, w_sl0, w_sl1, w_sl2, w_rev, w_tup, w_lst, w_nlst, b_addI, b_addS, b_addT, b_addL, b_subI, b_mulI, b_divI, b_modI, b_powI, c_lt, c_le, c_gt, c_ge, c_is, c_isn, c_eqI, c_neI, c_eqB, c_neB, c_eqS, c_neS, c_eqN, c_in, c_nin, n_intI, n_non, u_neg, i_len, i_abs, i_min, i_max, i_intI, i_intB, i_tuple, i_list, i_all, i_any, i_isi, i_sorted, i_max1, i_min1, x_lst, x_tup, x_scr, x_mr, s_tup, s_lst, q_lst, q_tup, q_scr, l_lst, l_scr, ln_lst, k_lst, k_tup, k_scr, k_str, j_ty, j_cls, j_tup, m_app, m_ext, e_set, r_app, r_ext, a_fn, stabW, true_and, and_true]
    exact hR
  · simp only [wpCs, wpC, wpE, wpEs, wpI, p_nm, p_tup, p_lst, p_nil, p_cons, if_true, if_false, reduceIte, Bool.false_eq_true, startS, getS, setS, setAll, wipeS, List.map_cons, List.map_nil, List.length_cons, List.length_nil, List.cons_append, List.nil_append, List.append_nil, Nat.reduceAdd, Nat.reduceSub, Nat.zero_add, List.replicate_succ, List.replicate_zero, imAll, Option.map_some, Option.bind_some, exists_eq_left, exists_eq_left', Option.some.injEq, W.im.injEq, T.int.injEq, T.bl.injEq, T.str.injEq, T.tup.injEq, T.lst.injEq, w_bin, w_cmp, w_un, w_blt, w_attr, w_ix, w_sl0, w_sl1, w_sl2, w_rev, w_tup, w_lst, w_nlst, b_addI, b_addS, b_addT, b_addL, b_subI, b_mulI, b_divI, b_modI, b_powI, c_lt, c_le, c_gt, c_ge, c_is, c_isn, c_eqI, c_neI, c_eqB, c_neB, c_eqS, c_neS, c_eqN, c_in, c_nin, n_intI, n_non, u_neg, i_len, i_abs, i_min, i_max, i_intI, i_intB, i_tuple, i_list, i_all, i_any, i_isi, i_sorted, i_max1, i_min1, x_lst, x_tup, x_scr, x_mr, s_tup, s_lst, q_lst, q_tup, q_scr, l_lst, l_scr, ln_lst, k_lst, k_tup, k_scr, k_str, j_ty, j_cls, j_tup, m_app, m_ext, e_set, r_app, r_ext, a_fn, stabW, true_and, and_true]
    refine ⟨by simp; omega, .inl ⟨ns, ints_ok ns, fun ns' hp hs => ?_⟩⟩
    have st' : St top ns' := ⟨hp.symm.mem_iff.mp st.z, hp.symm.nodup st.nd, fun n hn => st.b n (hp.mem_iff.mp hn)⟩
    have asc := ascend hs st'.nd
    have l' : ns'.length = ns.length := hp.length_eq
    refine ⟨by omega, ?_⟩
    have ez : ((ns'.map T.int).zipIdx.map fun p => T.tup [.int (p.2 : Int), p.1]) = ((ns'.zipIdx 0).map fun p => T.tup [.int (p.2 : Int), .int p.1]) := by
      rw [List.zipIdx_map, List.map_map]
      rfl
    rw [ez]
    refine pc_loop hj (fun _ => trivial) (by omega) ns' 0 0 [] _ _ _ _ _ _ _ _ (by omega) (by simp) (by simp; omega) rfl (fun s hs => (st'.b s hs).2) asc fun r y5 y6 y8 y9 y10 y11 y12 y13 g1 g2 g3 => ?_
    have rl : r.length = ns'.length := by rw [← g1, List.length_map]
    rw [List.nil_append]
    have key : arePieces top tgt r = true := by
      have r0 : ∀ p ∈ r, 0 ≤ p.s ∧ p.s ≤ top := fun p hp => st'.b p.s (by rw [← g1]; exact List.mem_map_of_mem hp)
      cases r with
      | nil => 
        have := st'.z
        rw [← g1] at this
        cases this
      | cons a r =>
        have a0 : a.s = 0 := by
          have z := st'.z
          rw [← g1, List.map_cons] at z asc
          rw [List.pairwise_cons] at asc
          rcases List.mem_cons.mp z with z | z
          · exact z.symm
          · have := asc.1 0 z
            have := (r0 a (by simp)).1
            omega
        unfold arePieces
        rw [← g1] at asc
        simp only [g2, incr_of asc, a0, decide_true, Bool.and_true, Bool.and_eq_true, decide_eq_true_eq]
        refine ⟨List.all_eq_true.mpr fun p hp => ?_, lastS_of (by omega) fun p hp => (r0 p hp).2⟩
        simp only [pieceOk, Bool.and_eq_true, decide_eq_true_eq]
        exact ⟨(r0 p hp).1, g3 p hp⟩
    have e : ((S ++ [MO.lst ((ns.map T.int).map W.im)]) ++ [MO.lst []]).set (S ++ [MO.lst ((ns.map T.int).map W.im)]).length (.lst ((r.map Pc.t).map W.im)) = S ++ .lst ((ns.map T.int).map W.im) :: [.lst ((r.map Pc.t).map W.im)] := by
      rw [List.set_append_right _ _ (Nat.le_refl _), Nat.sub_self]
      simp
    simp only [wpCs, wpC, wpE, wpEs, wpI, p_nm, p_tup, p_lst, p_nil, p_cons, if_true, if_false, reduceIte, Bool.false_eq_true, startS, getS, setS, setAll, wipeS, List.map_cons, List.map_nil, List.length_cons, List.length_nil, List.cons_append, List.nil_append, List.append_nil, Nat.reduceAdd, Nat.reduceSub, Nat.zero_add, List.replicate_succ, List.replicate_zero, imAll, Option.map_some, Option.bind_some, exists_eq_left, exists_eq_left', Option.some.injEq, W.im.injEq, T.int.injEq, T.bl.injEq, T.str.injEq, T.tup.injEq, T.lst.injEq, w_bin, w_cmp, w_un, w_blt, w_attr, w_ix, w_sl0, w_sl1, w_sl2, w_rev, w_tup, w_lst, w_nlst, b_addI, b_addS, b_addT, b_addL, b_subI, b_mulI, b_divI, b_modI, b_powI, c_lt, c_le, c_gt, c_ge, c_is, c_isn, c_eqI, c_neI, c_eqB, c_neB, c_eqS, c_neS, c_eqN, c_in, c_nin, n_intI, n_non, u_neg, i_len, i_abs, i_min, i_max, i_intI, i_intB, i_tuple, i_list, i_all, i_any, i_isi, i_sorted, i_max1, i_min1, x_lst, x_tup, x_scr, x_mr, s_tup, s_lst, q_lst, q_tup, q_scr, l_lst, l_scr, ln_lst, k_lst, k_tup, k_scr, k_str, j_ty, j_cls, j_tup, m_app, m_ext, e_set, r_app, r_ext, a_fn, stabW, true_and, and_true]
    rw [e]
    exact h ns r key (by omega)
theorem does__law_pieces : Does ir__law_pieces nm__law_pieces 4 sp__law_pieces := by
  rintro ws S Q X ⟨j, top, tgt, many, rfl, hj, ht, hg, hm, h⟩
  refine ⟨rfl, pieces_wp hj ht hg hm fun ns r key hl => ?_⟩
  exact exit_pure (t := .lst (r.map Pc.t)) (by simp) (by
      have := imAll_map (r.map Pc.t)
      simp only [List.map_map] at this
      simp [frz, this]) (h r key hl)
/-- a list of data, as it may be changed -/
theorem clo_im {n : Nat} (ts : List T) : cloO n (.lst (ts.map W.im)) = true := by
  show (ts.map W.im).all (cloW n) = true
  simp [cloW]
theorem rt_mv {S L : Sto} {Q : VQ} {X : XQ} {k : Nat} {ts : List T} (hk : S.length ≤ k) (h : (S ++ L)[k]? = some (.lst (ts.map W.im))) (q : Q (.mr S.length) (S ++ [.lst (ts.map W.im)])) : (exitP S Q X).rt (.mr k) (S ++ L) :=
  ⟨.mr S.length, (S ++ L).take S.length ++ [.lst (ts.map W.im)], .mv (fun i o hi e => .inl (by rw [List.getElem?_append_left hi] at e; exact e)) hk h (clo_im ts), by
    rw [show (S ++ L).take S.length = S by simp]
    exact q⟩
theorem does__law_pieces_m : Does ir__law_pieces nm__law_pieces 4 sp__law_pieces_m := by
  rintro ws S Q X ⟨j, top, tgt, many, rfl, hj, ht, hg, hm, h⟩
  refine ⟨rfl, pieces_wp hj ht hg hm fun ns r key hl => ?_⟩
  exact rt_mv (by simp) (by simp) (h r key hl)
theorem u_pieces_m {j : Nat} {top tgt many : Int} {S : Sto} {Q : VQ} {X : XQ} : sp__law_pieces_m [.src j, .im (.int top), .im (.int tgt), .im (.int many)] S Q X ↔ j % 2 = 0 ∧ (0 ≤ top ∧ top ≤ 1000000000000) ∧ (0 ≤ tgt ∧ tgt ≤ 1000000000000) ∧ (0 < many ∧ many < 60) ∧ ∀ l, arePieces top tgt l = true → (l.length : Int) ≤ many → Q (.mr S.length) (S ++ [.lst ((l.map Pc.t).map W.im)]) := by
  constructor
  · rintro ⟨j', a, b, c, e, h⟩
    simp only [List.cons.injEq, W.src.injEq, W.im.injEq, T.int.injEq, and_true] at e
    obtain ⟨rfl, rfl, rfl, rfl⟩ := e
    exact h
  · intro h
    exact ⟨j, _, _, _, rfl, h⟩
end TW

namespace TW
open PySem L2
/-- a list of numbers -/
def sp_Passage_table : Spec := fun ws S Q _ => ∃ ns tgt, ws = [.im (.cls "Passage"), .im (.lst (ns.map T.int)), .im (.int tgt)] ∧ Tab tgt ns ∧ few ns.length ∧ Q (.im (tabPs tgt ns).t) S
def sp_Passage_same : Spec := fun ws S Q _ => ∃ t, ws = [.im (.cls "Passage"), .im (.int t)] ∧ 0 ≤ t ∧ Q (.im (samePs t).t) S
def sp_Passage___call__ : Spec := fun ws S Q _ => ∃ p x, ws = [.im (Ps.t p), .im (.int x)] ∧ (∃ n, Pok n p ∧ n ≤ 1000000) ∧ (0 ≤ x ∧ x ≤ p.top) ∧ Q (.im (.int (p.v x))) S
def sp_Passage___len__ : Spec := fun ws S Q _ => ∃ p, ws = [.im (Ps.t p)] ∧ few p.pcs.length ∧ Q (.im (.int (p.pcs.length : Int))) S
def ps_Passage_table : List Str := ["cls", "values", "target"]
def nm_Passage_table : List Str := ["cls", "values", "target", "pieces", "at", "value"]
def ir_Passage_table : Cs :=
  (.cons (.ifs (.not (.ap (.fn "is_number") sp_is_number (.cons (.var 2) .nil))) (.cons .fail .nil) .nil)
  (.cons (.ifs (.or (.not (.ap (.fn "is_sequence") sp_is_sequence (.cons (.var 1) .nil))) (.pr (.cmp .Eq) (.cons (.pr (.blt .len) (.cons (.var 1) .nil)) (.cons (.con (.int 0)) .nil)))) (.cons .fail .nil) .nil)
  (.cons (.asg 3 (.lc (.pr .tup (.cons (.var 4) (.cons (.var 5) (.cons (.con (.bl false)) .nil)))) (.tp (.cons (.nm 4) (.cons (.nm 5) .nil))) (.enm (.var 1)) .nil [4, 5]))
  (.cons (.ifs (.not (.ap (.fn "are_pieces") sp_are_pieces (.cons (.pr (.bin .Sub) (.cons (.pr (.blt .len) (.cons (.var 1) .nil)) (.cons (.con (.int 1)) .nil))) (.cons (.var 2) (.cons (.var 3) .nil))))) (.cons .fail .nil) .nil)
  (.cons (.ret (.vc "Passage" sp_Passage___init__ (.var 0) (.cons (.pr (.bin .Sub) (.cons (.pr (.blt .len) (.cons (.var 1) .nil)) (.cons (.con (.int 1)) .nil))) (.cons (.var 2) (.cons (.var 3) .nil))))) .nil)))))
def ps_Passage_same : List Str := ["cls", "top"]
def nm_Passage_same : List Str := ["cls", "top"]
def ir_Passage_same : Cs :=
  (.cons (.ret (.vc "Passage" sp_Passage___init__ (.var 0) (.cons (.var 1) (.cons (.var 1) (.cons (.pr .lst (.cons (.pr .tup (.cons (.con (.int 0)) (.cons (.con (.int 0)) (.cons (.con (.bl true)) .nil)))) .nil)) .nil))))) .nil)
def ps_Passage___call__ : List Str := ["self", "x"]
def nm_Passage___call__ : List Str := ["self", "x"]
def ir_Passage___call__ : Cs :=
  (.cons (.ifs (.or (.not (.ap (.fn "is_number") sp_is_number (.cons (.var 1) .nil))) (.pr (.cmp .Gt) (.cons (.var 1) (.cons (.pr (.attr "top") (.cons (.var 0) .nil)) .nil)))) (.cons .fail .nil) .nil)
  (.cons (.ret (.ap (.fn "result_in") sp_result_in (.cons (.ap (.fn "parts_of") sp_parts_of (.cons (.var 0) .nil)) (.cons (.var 1) .nil)))) .nil))
def ps_Passage___len__ : List Str := ["self"]
def nm_Passage___len__ : List Str := ["self"]
def ir_Passage___len__ : Cs :=
  (.cons (.ret (.pr (.blt .len) (.cons (.pr (.attr "pieces") (.cons (.var 0) .nil)) .nil))) .nil)
theorem lcs_dec' (l : List Pc) : tPcs.dec (.lst (l.map Pc.t)) = some l := decs_ok tPc l
theorem u_res {l : List Pt} {x : Int} {S : Sto} {Q : VQ} {X : XQ} : sp_result_in [.im (.lst (l.map Pt.t)), .im (.int x)] S Q X ↔ (few l.length ∧ (l.filter (inPt x)) ≠ []) ∧ Q (.im (.int (resIn l x))) S := by
  have h1 := decs_ok tPt l
  simp only [sp_result_in, fsp2, tLst, tPt, tInt] at h1 ⊢
  simp [h1]
theorem Ps.t_inj {p q : Ps} : p.t = q.t ↔ p = q := by
  constructor
  · intro h
    have h1 := tPs.ok p
    have h2 := tPs.ok q
    have : tPs.enc p = tPs.enc q := h
    rw [this, h2] at h1
    exact (Option.some.inj h1).symm
  · rintro rfl
    rfl
theorem ints_inj : ∀ {l m : List Int}, l.map T.int = m.map T.int ↔ l = m := by
  intro l m
  constructor
  · intro h
    have := congrArg intsT h
    rw [ints_ok, ints_ok] at this
    exact Option.some.inj this
  · rintro rfl
    rfl
theorem u_table {ns : List Int} {tgt : Int} {S : Sto} {Q : VQ} {X : XQ} : apSp (.cm "Passage" "table") sp_Passage_table [.im (.lst (ns.map T.int)), .im (.int tgt)] S Q X ↔ (Tab tgt ns ∧ few ns.length) ∧ Q (.im (tabPs tgt ns).t) S := by
  simp only [apSp, sp_Passage_table]
  constructor
  · rintro ⟨ns', t', e, h1, h2, h3⟩
    simp only [List.cons.injEq, W.im.injEq, T.lst.injEq, T.int.injEq, ints_inj, and_true, true_and] at e
    obtain ⟨rfl, rfl⟩ := e
    exact ⟨⟨h1, h2⟩, h3⟩
  · rintro ⟨⟨h1, h2⟩, h3⟩
    exact ⟨ns, tgt, rfl, h1, h2, h3⟩
theorem u_same {t : Int} {S : Sto} {Q : VQ} {X : XQ} : apSp (.cm "Passage" "same") sp_Passage_same [.im (.int t)] S Q X ↔ 0 ≤ t ∧ Q (.im (samePs t).t) S := by
  simp only [apSp, sp_Passage_same]
  constructor
  · rintro ⟨t', e, h⟩
    simp only [List.cons.injEq, W.im.injEq, T.int.injEq, and_true, true_and] at e
    subst e
    exact h
  · intro h
    exact ⟨t, rfl, h⟩
theorem u_call {p : Ps} {x : Int} {S : Sto} {Q : VQ} {X : XQ} : sp_Passage___call__ [.im p.t, .im (.int x)] S Q X ↔ ((∃ n, Pok n p ∧ n ≤ 1000000) ∧ (0 ≤ x ∧ x ≤ p.top)) ∧ Q (.im (.int (p.v x))) S := by
  simp only [sp_Passage___call__]
  constructor
  · rintro ⟨p', x', e, h1, h2, h3⟩
    simp only [List.cons.injEq, W.im.injEq, T.int.injEq, Ps.t_inj, and_true] at e
    obtain ⟨rfl, rfl⟩ := e
    exact ⟨⟨h1, h2⟩, h3⟩
  · rintro ⟨⟨h1, h2⟩, h3⟩
    exact ⟨p, x, rfl, h1, h2, h3⟩
theorem u_len {p : Ps} {S : Sto} {Q : VQ} {X : XQ} : sp_Passage___len__ [.im p.t] S Q X ↔ few p.pcs.length ∧ Q (.im (.int (p.pcs.length : Int))) S := by
  simp only [sp_Passage___len__]
  constructor
  · rintro ⟨p', e, h⟩
    simp only [List.cons.injEq, W.im.injEq, Ps.t_inj, and_true] at e
    subst e
    exact h
  · intro h
    exact ⟨p, rfl, h⟩
theorem ins_im {c : Str} {ns : List Str} {ts : List T} : (∃ ns' ts', W.im (.ins c ns ts) = .im (.ins c ns' ts')) ↔ True := ⟨fun _ => trivial, fun _ => ⟨_, _, rfl⟩⟩
theorem ic_Ps {p : Ps} : (∃ ns ts, W.im p.t = .im (.ins "Passage" ns ts)) ↔ True := ins_im
theorem ic_Ps' {p : Ps} : (∃ ns ts, p.t = .ins "Passage" ns ts) ↔ True := ⟨fun _ => trivial, fun _ => ⟨_, _, rfl⟩⟩
theorem tg_int {i : Int} : tagged (.int i) ↔ True := by simp [tagged, tagT]
theorem tg_lst {l : List T} : tagged (.lst l) ↔ True := by simp [tagged, tagT]
theorem tg_tup {l : List T} : tagged (.tup l) ↔ True := by simp [tagged, tagT]
theorem tg_ps {p : Ps} : tagged p.t ↔ True := by simp [tagged, tagT, Ps.t]
theorem does_Passage___call__ : Does ir_Passage___call__ nm_Passage___call__ 2 sp_Passage___call__ := by
  rintro ws S Q X ⟨p, x, rfl, ⟨n, hp, hn⟩, ⟨h0, h1⟩, h⟩
  refine ⟨rfl, ?_⟩
  have hl := hp.len
  have hf := (hp.til.resIn h0 h1).1
  simp only [ir_Passage___call__, nm_Passage___call__, u_is_number, tg_int, isNumT, at_top, u_parts, u_res, h0, decide_true, Bool.not_true, wpCs, wpC, wpE, wpEs, wpI, p_nm, p_tup, p_lst, p_nil, p_cons, if_true, if_false, reduceIte, Bool.false_eq_true, startS, getS, setS, setAll, wipeS, List.map_cons, List.map_nil, List.length_cons, List.length_nil, List.cons_append, List.nil_append, List.append_nil, Nat.reduceAdd, Nat.reduceSub, Nat.zero_add, List.replicate_succ, List.replicate_zero, imAll, Option.map_some, Option.bind_some, exists_eq_left, exists_eq_left', Option.some.injEq, W.im.injEq, T.int.injEq, T.bl.injEq, T.str.injEq, T.tup.injEq, T.lst.injEq, w_bin, w_cmp, w_un, w_blt, w_attr, w_ix, w_sl0, w_sl1, w_sl2, w_rev, w_tup, w_lst, w_nlst, b_addI, b_addS, b_addT, b_addL, b_subI, b_mulI, b_divI, b_modI, b_powI, c_lt, c_le, c_gt, c_ge, c_is, c_isn, c_eqI, c_neI, c_eqB, c_neB, c_eqS, c_neS, c_eqN, c_in, c_nin, n_intI, n_non, u_neg, i_len, i_abs, i_min, i_max, i_intI, i_intB, i_tuple, i_list, i_all, i_any, i_isi, i_sorted, i_max1, i_min1, x_lst, x_tup, x_scr, x_mr, s_tup, s_lst, q_lst, q_tup, q_scr, l_lst, l_scr, ln_lst, k_lst, k_tup, k_scr, k_str, j_ty, j_cls, j_tup, m_app, m_ext, e_set, r_app, r_ext, a_fn, stabW, true_and, and_true]
  have : ¬ p.top < x := by omega
  simp only [this, decide_false, wpCs, wpC, wpE, wpEs, wpI, p_nm, p_tup, p_lst, p_nil, p_cons, if_true, if_false, reduceIte, Bool.false_eq_true, startS, getS, setS, setAll, wipeS, List.map_cons, List.map_nil, List.length_cons, List.length_nil, List.cons_append, List.nil_append, List.append_nil, Nat.reduceAdd, Nat.reduceSub, Nat.zero_add, List.replicate_succ, List.replicate_zero, imAll, Option.map_some, Option.bind_some, exists_eq_left, exists_eq_left', Option.some.injEq, W.im.injEq, T.int.injEq, T.bl.injEq, T.str.injEq, T.tup.injEq, T.lst.injEq, w_bin, w_cmp, w_un, w_blt, w_attr, w_ix, w_sl0, w_sl1, w_sl2, w_rev, w_tup, w_lst, w_nlst, b_addI, b_addS, b_addT, b_addL, b_subI, b_mulI, b_divI, b_modI, b_powI, c_lt, c_le, c_gt, c_ge, c_is, c_isn, c_eqI, c_neI, c_eqB, c_neB, c_eqS, c_neS, c_eqN, c_in, c_nin, n_intI, n_non, u_neg, i_len, i_abs, i_min, i_max, i_intI, i_intB, i_tuple, i_list, i_all, i_any, i_isi, i_sorted, i_max1, i_min1, x_lst, x_tup, x_scr, x_mr, s_tup, s_lst, q_lst, q_tup, q_scr, l_lst, l_scr, ln_lst, k_lst, k_tup, k_scr, k_str, j_ty, j_cls, j_tup, m_app, m_ext, e_set, r_app, r_ext, a_fn, stabW, true_and, and_true]
  exact ⟨by unfold few; omega, ⟨by unfold few; rw [pLen]; omega, hf⟩, rt_im h⟩
theorem does_Passage___len__ : Does ir_Passage___len__ nm_Passage___len__ 1 sp_Passage___len__ := by
  rintro ws S Q X ⟨p, rfl, hf, h⟩
  refine ⟨rfl, ?_⟩
  have := few_sz hf
  simp only [ir_Passage___len__, nm_Passage___len__, at_pcs, List.length_map, wpCs, wpC, wpE, wpEs, wpI, p_nm, p_tup, p_lst, p_nil, p_cons, if_true, if_false, reduceIte, Bool.false_eq_true, startS, getS, setS, setAll, wipeS, List.map_cons, List.map_nil, List.length_cons, List.length_nil, List.cons_append, List.nil_append, List.append_nil, Nat.reduceAdd, Nat.reduceSub, Nat.zero_add, List.replicate_succ, List.replicate_zero, imAll, Option.map_some, Option.bind_some, exists_eq_left, exists_eq_left', Option.some.injEq, W.im.injEq, T.int.injEq, T.bl.injEq, T.str.injEq, T.tup.injEq, T.lst.injEq, w_bin, w_cmp, w_un, w_blt, w_attr, w_ix, w_sl0, w_sl1, w_sl2, w_rev, w_tup, w_lst, w_nlst, b_addI, b_addS, b_addT, b_addL, b_subI, b_mulI, b_divI, b_modI, b_powI, c_lt, c_le, c_gt, c_ge, c_is, c_isn, c_eqI, c_neI, c_eqB, c_neB, c_eqS, c_neS, c_eqN, c_in, c_nin, n_intI, n_non, u_neg, i_len, i_abs, i_min, i_max, i_intI, i_intB, i_tuple, i_list, i_all, i_any, i_isi, i_sorted, i_max1, i_min1, x_lst, x_tup, x_scr, x_mr, s_tup, s_lst, q_lst, q_tup, q_scr, l_lst, l_scr, ln_lst, k_lst, k_tup, k_scr, k_str, j_ty, j_cls, j_tup, m_app, m_ext, e_set, r_app, r_ext, a_fn, stabW, true_and, and_true]
  exact ⟨by omega, rt_im h⟩
theorem vc_Ps {a b : Int} {w : T} {l : List Pc} {S : Sto} {Q : VQ} {X : XQ} (h : tPcs.dec w = some l) : mkSp "Passage" sp_Passage___init__ [.im (.int a), .im (.int b), .im w] S Q X ↔ (few l.length ∧ 0 ≤ a ∧ 0 ≤ b ∧ arePieces a b l = true) ∧ Q (.im (mkPs a b l).t) S := u_mkPassage h
theorem does_Passage_same : Does ir_Passage_same nm_Passage_same 2 sp_Passage_same := by
  rintro ws S Q X ⟨t, rfl, h0, h⟩
  refine ⟨rfl, ?_⟩
  have e : tPcs.dec (.lst [.tup [.int 0, .int 0, .bl true]]) = some [⟨0, 0, true⟩] := lcs_dec' [⟨0, 0, true⟩]
  simp only [ir_Passage_same, nm_Passage_same, vc_Ps e, wpCs, wpC, wpE, wpEs, wpI, p_nm, p_tup, p_lst, p_nil, p_cons, if_true, if_false, reduceIte, Bool.false_eq_true, startS, getS, setS, setAll, wipeS, List.map_cons, List.map_nil, List.length_cons, List.length_nil, List.cons_append, List.nil_append, List.append_nil, Nat.reduceAdd, Nat.reduceSub, Nat.zero_add, List.replicate_succ, List.replicate_zero, imAll, Option.map_some, Option.bind_some, exists_eq_left, exists_eq_left', Option.some.injEq, W.im.injEq, T.int.injEq, T.bl.injEq, T.str.injEq, T.tup.injEq, T.lst.injEq, w_bin, w_cmp, w_un, w_blt, w_attr, w_ix, w_sl0, w_sl1, w_sl2, w_rev, w_tup, w_lst, w_nlst, b_addI, b_addS, b_addT, b_addL, b_subI, b_mulI, b_divI, b_modI, b_powI, c_lt, c_le, c_gt, c_ge, c_is, c_isn, c_eqI, c_neI, c_eqB, c_neB, c_eqS, c_neS, c_eqN, c_in, c_nin, n_intI, n_non, u_neg, i_len, i_abs, i_min, i_max, i_intI, i_intB, i_tuple, i_list, i_all, i_any, i_isi, i_sorted, i_max1, i_min1, x_lst, x_tup, x_scr, x_mr, s_tup, s_lst, q_lst, q_tup, q_scr, l_lst, l_scr, ln_lst, k_lst, k_tup, k_scr, k_str, j_ty, j_cls, j_tup, m_app, m_ext, e_set, r_app, r_ext, a_fn, stabW, true_and, and_true]
  exact ⟨by decide, by decide, ⟨by unfold few; decide, h0, h0, same_are h0⟩, rt_im h⟩
theorem does_Passage_table : Does ir_Passage_table nm_Passage_table 3 sp_Passage_table := by
  rintro ws S Q X ⟨ns, tgt, rfl, t, hf, h⟩
  refine ⟨rfl, ?_⟩
  have hz := few_sz hf
  have hp : 0 < ns.length := List.length_pos_iff.mpr t.ne
  have ht : 0 ≤ tgt := by
    cases ns with
    | nil => exact absurd rfl t.ne
    | cons n ns => have := t.rg n (by simp); omega
  simp only [ir_Passage_table, nm_Passage_table, u_is_number, u_is_sequence, tg_int, tg_lst, isNumT, isSeqT, ht, decide_true, Bool.not_true, List.length_map, wpCs, wpC, wpE, wpEs, wpI, p_nm, p_tup, p_lst, p_nil, p_cons, if_true, if_false, reduceIte, Bool.false_eq_true, startS, getS, setS, setAll, wipeS, List.map_cons, List.map_nil, List.length_cons, List.length_nil, List.cons_append, List.nil_append, List.append_nil, Nat.reduceAdd, Nat.reduceSub, Nat.zero_add, List.replicate_succ, List.replicate_zero, imAll, Option.map_some, Option.bind_some, exists_eq_left, exists_eq_left', Option.some.injEq, W.im.injEq, T.int.injEq, T.bl.injEq, T.str.injEq, T.tup.injEq, T.lst.injEq, w_bin, w_cmp, w_un, w_blt, w_attr, w_ix, w_sl0, w_sl1, w_sl2, w_rev, w_tup, w_lst, w_nlst, b_addI, b_addS, b_addT, b_addL, b_subI, b_mulI, b_divI, b_modI, b_powI, c_lt, c_le, c_gt, c_ge, c_is, c_isn, c_eqI, c_neI, c_eqB, c_neB, c_eqS, c_neS, c_eqN, c_in, c_nin, n_intI, n_non, u_neg, i_len, i_abs, i_min, i_max, i_intI, i_intB, i_tuple, i_list, i_all, i_any, i_isi, i_sorted, i_max1, i_min1, x_lst, x_tup, x_scr, x_mr, s_tup, s_lst, q_lst, q_tup, q_scr, l_lst, l_scr, ln_lst, k_lst, k_tup, k_scr, k_str, j_ty, j_cls, j_tup, m_app, m_ext, e_set, r_app, r_ext, a_fn, stabW, true_and, and_true]
  have e0 : decide ((ns.length : Int) = 0) = false := by rw [decide_eq_false_iff_not]; omega
  refine ⟨by omega, ?_⟩
  simp only [e0, wpCs, wpC, wpE, wpEs, wpI, p_nm, p_tup, p_lst, p_nil, p_cons, if_true, if_false, reduceIte, Bool.false_eq_true, startS, getS, setS, setAll, wipeS, List.map_cons, List.map_nil, List.length_cons, List.length_nil, List.cons_append, List.nil_append, List.append_nil, Nat.reduceAdd, Nat.reduceSub, Nat.zero_add, List.replicate_succ, List.replicate_zero, imAll, Option.map_some, Option.bind_some, exists_eq_left, exists_eq_left', Option.some.injEq, W.im.injEq, T.int.injEq, T.bl.injEq, T.str.injEq, T.tup.injEq, T.lst.injEq, w_bin, w_cmp, w_un, w_blt, w_attr, w_ix, w_sl0, w_sl1, w_sl2, w_rev, w_tup, w_lst, w_nlst, b_addI, b_addS, b_addT, b_addL, b_subI, b_mulI, b_divI, b_modI, b_powI, c_lt, c_le, c_gt, c_ge, c_is, c_isn, c_eqI, c_neI, c_eqB, c_neB, c_eqS, c_neS, c_eqN, c_in, c_nin, n_intI, n_non, u_neg, i_len, i_abs, i_min, i_max, i_intI, i_intB, i_tuple, i_list, i_all, i_any, i_isi, i_sorted, i_max1, i_min1, x_lst, x_tup, x_scr, x_mr, s_tup, s_lst, q_lst, q_tup, q_scr, l_lst, l_scr, ln_lst, k_lst, k_tup, k_scr, k_str, j_ty, j_cls, j_tup, m_app, m_ext, e_set, r_app, r_ext, a_fn, stabW, true_and, and_true]
  have ez : ((ns.map T.int).zipIdx.map fun p => T.tup [.int (p.2 : Int), p.1]) = ((ns.zipIdx 0).map fun p => T.tup [.int (p.2 : Int), .int p.1]) := by
    rw [List.zipIdx_map, List.map_map]
    rfl
  rw [ez]
  refine lc_map (fun p : Int × Nat => T.tup [.int (p.2 : Int), .int p.1]) (fun p => T.tup [.int (p.2 : Int), .int p.1, .bl false]) (fun _ _ _ _ h => h) trivial (ns.zipIdx 0) [] _ (by simp; omega) (fun p _ R hR => ?_) ?_
  · simp only [wpCs, wpC, wpE, wpEs, wpI, p_nm, p_tup, p_lst, p_nil, p_cons, if_true, if_false, reduceIte, Bool.false_eq_true, startS, getS, setS, setAll, wipeS, List.map_cons, List.map_nil, List.length_cons, List.length_nil, List.cons_append, List.nil_append, List.append_nil, Nat.reduceAdd, Nat.reduceSub, Nat.zero_add, List.replicate_succ, List.replicate_zero, imAll, Option.map_some, Option.bind_some, exists_eq_left, exists_eq_left', Option.some.injEq, W.im.injEq, T.int.injEq, T.bl.injEq, T.str.injEq, T.tup.injEq, T.lst.injEq, w_bin, w_cmp, w_un, w_blt, w_attr, w_ix, w_sl0, w_sl1, w_sl2, w_rev, w_tup, w_lst, w_nlst, b_addI, b_addS, b_addT, b_addL, b_subI, b_mulI, b_divI, b_modI, b_powI, c_lt, c_le, c_gt, c_ge, c_is, c_isn, c_eqI, c_neI, c_eqB, c_neB, c_eqS, c_neS, c_eqN, c_in, c_nin, n_intI, n_non, u_neg, i_len, i_abs, i_min, i_max, i_intI, i_intB, i_tuple, i_list, i_all, i_any, i_isi, i_sorted, i_max1, i_min1, x_lst, x_tup, x_scr, x_mr, s_tup, s_lst, q_lst, q_tup, q_scr, l_lst, l_scr, ln_lst, k_lst, k_tup, k_scr, k_str, j_ty, j_cls, j_tup, m_app, m_ext, e_set, r_app, r_ext, a_fn, stabW, true_and, and_true]
    exact ⟨by decide, hR⟩
  · have el : (ns.zipIdx 0).map (fun p => T.tup [.int (p.2 : Int), .int p.1, .bl false]) = (tabPcs ns).map Pc.t := by
      rw [tabPcs, tabFrom, List.map_map]
      rfl
    rw [List.nil_append, el]
    have hd : tPcs.dec (.lst ((tabPcs ns).map Pc.t)) = some (tabPcs ns) := lcs_dec' _
    have fl : few (tabPcs ns).length := by unfold tabPcs; rw [tab_len]; exact hf
    simp only [u_are hd, vc_Ps hd, tab_are t, List.length_map, Bool.not_true, wpCs, wpC, wpE, wpEs, wpI, p_nm, p_tup, p_lst, p_nil, p_cons, if_true, if_false, reduceIte, Bool.false_eq_true, startS, getS, setS, setAll, wipeS, List.map_cons, List.map_nil, List.length_cons, List.length_nil, List.cons_append, List.nil_append, List.append_nil, Nat.reduceAdd, Nat.reduceSub, Nat.zero_add, List.replicate_succ, List.replicate_zero, imAll, Option.map_some, Option.bind_some, exists_eq_left, exists_eq_left', Option.some.injEq, W.im.injEq, T.int.injEq, T.bl.injEq, T.str.injEq, T.tup.injEq, T.lst.injEq, w_bin, w_cmp, w_un, w_blt, w_attr, w_ix, w_sl0, w_sl1, w_sl2, w_rev, w_tup, w_lst, w_nlst, b_addI, b_addS, b_addT, b_addL, b_subI, b_mulI, b_divI, b_modI, b_powI, c_lt, c_le, c_gt, c_ge, c_is, c_isn, c_eqI, c_neI, c_eqB, c_neB, c_eqS, c_neS, c_eqN, c_in, c_nin, n_intI, n_non, u_neg, i_len, i_abs, i_min, i_max, i_intI, i_intB, i_tuple, i_list, i_all, i_any, i_isi, i_sorted, i_max1, i_min1, x_lst, x_tup, x_scr, x_mr, s_tup, s_lst, q_lst, q_tup, q_scr, l_lst, l_scr, ln_lst, k_lst, k_tup, k_scr, k_str, j_ty, j_cls, j_tup, m_app, m_ext, e_set, r_app, r_ext, a_fn, stabW, true_and, and_true]
    exact ⟨by omega, fl, by omega, ⟨fl, by omega, ht⟩, rt_im h⟩
end TW

namespace TW
open PySem L2
def sp__law_table : Spec := fun ws S Q _ => ∃ j top tgt, ws = [.src j, .im (.int top), .im (.int tgt)] ∧ j % 2 = 0 ∧ (0 ≤ top ∧ top ≤ 1000) ∧ 0 ≤ tgt ∧ ∀ ns, Tab tgt ns → (ns.length : Int) = top + 1 → Q (.im (.lst (ns.map T.int))) S
def sp__law_small : Spec := fun ws S Q _ => ∃ j, ws = [.src j] ∧ j % 2 = 0 ∧ ∀ n : Int, 0 ≤ n → n ≤ 12 → Q (.im (.int n)) S
def sp__law_passage : Spec := fun ws S Q _ => ∃ ns tgt, ws = [.im (.lst (ns.map T.int)), .im (.int tgt)] ∧ Tab tgt ns ∧ few ns.length ∧ Q (.im (tabPs tgt ns).t) S
def resL (p : Ps) : List Int := (List.range (p.top + 1).toNat).map fun (k : Nat) => p.v (k : Int)
def sp__law_results : Spec := fun ws S Q _ => ∃ p, ws = [.im (Ps.t p)] ∧ (∃ n, Pok n p ∧ n ≤ 1000000) ∧ p.top ≤ 100000 ∧ Q (.im (.lst ((resL p).map T.int))) S
def atF (acc : Int) (x : Int) : List Pc → Int
  | [] => acc
  | a :: r => atF (if a.s ≤ x then (if a.r = true then a.f + x - a.s else a.f) else acc) x r
def sp__law_at : Spec := fun ws S Q _ => ∃ l x, ws = [.im (.lst (l.map Pc.t)), .im (.int x)] ∧ Q (.im (.int (atF 0 x l))) S
def sp__law_probes : Spec := fun ws S Q _ => ∃ (j : Nat) (top : Int) (ls : List T), ws = [.src j, .im (.int top), .im (.lst ls)] ∧ j % 2 = 0 ∧ (0 ≤ top ∧ top ≤ 1000000000000) ∧ ls.length ≤ 10 ∧ (∀ t ∈ ls, ∃ l : List Pc, (t = .lst (l.map Pc.t) ∨ t = .tup (l.map Pc.t)) ∧ l.length ≤ 100000) ∧ ∀ xs : List Int, xs.length ≤ 4000000 → (∀ x ∈ xs, 0 ≤ x ∧ x ≤ top) → Q (.im (.lst (xs.map T.int))) S
def ps__law_table : List Str := ["_law_box", "_law_top", "_law_target"]
def nm__law_table : List Str := ["_law_box", "_law_top", "_law_target", "_law_x", "_law_form", "_law_found", "_law_last", "_law_step"]
def bd__law_table_1 : Cs :=
  (.cons (.ex (.bm .append (.var 5) (.cons (.var 6) .nil)))
  (.cons (.asg 7 (.ap (.fn "_law_one_of") sp__law_one_of (.cons (.var 0) (.cons (.pr .lst (.cons (.con (.int 0)) (.cons (.con (.int 0)) (.cons (.con (.int 1)) (.cons (.con (.int 1)) (.cons (.con (.int 1)) (.cons (.con (.int 2)) (.cons (.con (.int 3)) .nil)))))))) .nil))))
  (.cons (.asg 6 (.pr (.blt .min2) (.cons (.pr (.blt .int1) (.cons (.var 2) .nil)) (.cons (.pr (.blt .int1) (.cons (.pr (.bin .Add) (.cons (.var 6) (.cons (.var 7) .nil))) .nil)) .nil)))) .nil)))
def ir__law_table : Cs :=
  (.cons (.par [5, 6] (.cons (.pr .nlst .nil) (.cons (.ife (.pr (.cmp .Gt) (.cons (.var 2) (.cons (.con (.int 2)) .nil))) (.ap (.fn "_law_choose") sp__law_choose (.cons (.var 0) (.cons (.con (.int 3)) .nil))) (.con (.int 0))) .nil)))
  (.cons (.fo (.nm 3) (.rng (.pr (.bin .Add) (.cons (.var 1) (.cons (.con (.int 1)) .nil)))) bd__law_table_1)
  (.cons (.asg 4 (.ap (.fn "_law_choose") sp__law_choose (.cons (.var 0) (.cons (.con (.int 4)) .nil))))
  (.cons (.ifs (.pr (.cmp .Eq) (.cons (.var 4) (.cons (.con (.int 0)) .nil))) (.cons (.setI (.var 5) (.pr (.un .USub) (.cons (.con (.int 1)) .nil)) (.var 2)) .nil) .nil)
  (.cons (.ifs (.pr (.cmp .Eq) (.cons (.var 4) (.cons (.con (.int 1)) .nil))) (.cons (.asg 5 (.pr (.bin .Add) (.cons (.pr .lst (.cons (.con (.int 0)) .nil)) (.cons (.pr (.sl true false) (.cons (.var 5) (.cons (.con (.int 1)) .nil))) .nil)))) .nil) .nil)
  (.cons (.ret (.var 5)) .nil))))))
def ps__law_small : List Str := ["_law_box"]
def nm__law_small : List Str := ["_law_box"]
def ir__law_small : Cs :=
  (.cons (.ret (.ap (.fn "_law_one_of") sp__law_one_of (.cons (.var 0) (.cons (.pr .lst (.cons (.con (.int 0)) (.cons (.con (.int 1)) (.cons (.con (.int 2)) (.cons (.con (.int 3)) (.cons (.con (.int 5)) (.cons (.con (.int 7)) (.cons (.con (.int 9)) (.cons (.con (.int 12)) .nil))))))))) .nil)))) .nil)
def ps__law_passage : List Str := ["_law_table_here", "_law_target"]
def nm__law_passage : List Str := ["_law_table_here", "_law_target"]
def ir__law_passage : Cs :=
  (.cons (.ret (.ap (.cm "Passage" "table") sp_Passage_table (.cons (.var 0) (.cons (.var 1) .nil)))) .nil)
def ps__law_results : List Str := ["_law_passage_here"]
def nm__law_results : List Str := ["_law_passage_here", "_law_x"]
def ir__law_results : Cs :=
  (.cons (.ret (.lc (.ic "Passage" sp_Passage___call__ (.var 0) (.cons (.var 1) .nil)) (.nm 1) (.rng (.pr (.bin .Add) (.cons (.pr (.attr "top") (.cons (.var 0) .nil)) (.cons (.con (.int 1)) .nil)))) .nil [1])) .nil)
def ps__law_at : List Str := ["_law_pieces_here", "_law_x"]
def nm__law_at : List Str := ["_law_pieces_here", "_law_x", "_law_found", "_law_start", "_law_first", "_law_rises"]
def bd__law_at_1 : Cs :=
  (.cons (.ifs (.pr (.cmp .LtE) (.cons (.var 3) (.cons (.var 1) .nil))) (.cons (.asg 2 (.ife (.var 5) (.pr (.bin .Sub) (.cons (.pr (.bin .Add) (.cons (.var 4) (.cons (.var 1) .nil))) (.cons (.var 3) .nil))) (.var 4))) .nil) .nil) .nil)
def ir__law_at : Cs :=
  (.cons (.asg 2 (.con (.int 0)))
  (.cons (.fo (.tp (.cons (.nm 3) (.cons (.nm 4) (.cons (.nm 5) .nil)))) (.seq (.var 0)) bd__law_at_1)
  (.cons (.ret (.var 2)) .nil)))
def ps__law_probes : List Str := ["_law_box", "_law_top", "_law_lists"]
def nm__law_probes : List Str := ["_law_box", "_law_top", "_law_lists", "_law_found", "_law_pieces_here", "_law_start", "_law_first", "_law_rises", "_law_x"]
def bd__law_probes_1 : Cs :=
  (.cons (.ex (.bm .extend (.var 3) (.cons (.pr .lst (.cons (.pr (.bin .Sub) (.cons (.var 5) (.cons (.con (.int 1)) .nil))) (.cons (.var 5) (.cons (.pr (.bin .Add) (.cons (.var 5) (.cons (.con (.int 1)) .nil))) .nil)))) .nil))) .nil)
def bd__law_probes_2 : Cs :=
  (.cons (.fo (.tp (.cons (.nm 5) (.cons (.nm 6) (.cons (.nm 7) .nil)))) (.seq (.var 4)) bd__law_probes_1) .nil)
def ir__law_probes : Cs :=
  (.cons (.asg 3 (.pr .nlst (.cons (.con (.int 0)) (.cons (.var 1) (.cons (.pr (.bin .FloorDiv) (.cons (.var 1) (.cons (.con (.int 2)) .nil))) (.cons (.ap (.fn "_law_choose") sp__law_choose (.cons (.var 0) (.cons (.pr (.bin .Add) (.cons (.var 1) (.cons (.con (.int 1)) .nil))) .nil))) (.cons (.ap (.fn "_law_choose") sp__law_choose (.cons (.var 0) (.cons (.pr (.bin .Add) (.cons (.var 1) (.cons (.con (.int 1)) .nil))) .nil))) .nil)))))))
  (.cons (.fo (.nm 4) (.seq (.var 2)) bd__law_probes_2)
  (.cons (.ret (.lc (.var 8) (.nm 8) (.seq (.var 3)) (.cons (.chain .LtE .LtE (.con (.int 0)) (.var 8) (.var 1)) .nil) [8])) .nil)))
theorem u_tab {j : Nat} {top tgt : Int} {S : Sto} {Q : VQ} {X : XQ} : sp__law_table [.src j, .im (.int top), .im (.int tgt)] S Q X ↔ j % 2 = 0 ∧ (0 ≤ top ∧ top ≤ 1000) ∧ 0 ≤ tgt ∧ ∀ ns, Tab tgt ns → (ns.length : Int) = top + 1 → Q (.im (.lst (ns.map T.int))) S := by
  constructor
  · rintro ⟨j', a, b, e, h⟩
    simp only [List.cons.injEq, W.src.injEq, W.im.injEq, T.int.injEq, and_true] at e
    obtain ⟨rfl, rfl, rfl⟩ := e
    exact h
  · intro h
    exact ⟨j, _, _, rfl, h⟩
theorem u_small {j : Nat} {S : Sto} {Q : VQ} {X : XQ} : sp__law_small [.src j] S Q X ↔ j % 2 = 0 ∧ ∀ n : Int, 0 ≤ n → n ≤ 12 → Q (.im (.int n)) S := by
  constructor
  · rintro ⟨j', e, h⟩
    simp only [List.cons.injEq, W.src.injEq, and_true] at e
    subst e
    exact h
  · intro h
    exact ⟨j, rfl, h⟩
theorem u_psg {ns : List Int} {tgt : Int} {S : Sto} {Q : VQ} {X : XQ} : sp__law_passage [.im (.lst (ns.map T.int)), .im (.int tgt)] S Q X ↔ (Tab tgt ns ∧ few ns.length) ∧ Q (.im (tabPs tgt ns).t) S := by
  constructor
  · rintro ⟨ns', t', e, h1, h2, h3⟩
    simp only [List.cons.injEq, W.im.injEq, T.lst.injEq, T.int.injEq, ints_inj, and_true, true_and] at e
    obtain ⟨rfl, rfl⟩ := e
    exact ⟨⟨h1, h2⟩, h3⟩
  · rintro ⟨⟨h1, h2⟩, h3⟩
    exact ⟨ns, tgt, rfl, h1, h2, h3⟩
theorem u_results {p : Ps} {S : Sto} {Q : VQ} {X : XQ} : sp__law_results [.im p.t] S Q X ↔ ((∃ n, Pok n p ∧ n ≤ 1000000) ∧ p.top ≤ 100000) ∧ Q (.im (.lst ((resL p).map T.int))) S := by
  constructor
  · rintro ⟨p', e, h1, h2, h3⟩
    simp only [List.cons.injEq, W.im.injEq, Ps.t_inj, and_true] at e
    subst e
    exact ⟨⟨h1, h2⟩, h3⟩
  · rintro ⟨⟨h1, h2⟩, h3⟩
    exact ⟨p, rfl, h1, h2, h3⟩
theorem pcs_inj {l m : List Pc} : l.map Pc.t = m.map Pc.t ↔ l = m := by
  constructor
  · intro h
    exact map_inj (A := tPc) h
  · rintro rfl
    rfl
theorem u_at {l : List Pc} {x : Int} {S : Sto} {Q : VQ} {X : XQ} : sp__law_at [.im (.lst (l.map Pc.t)), .im (.int x)] S Q X ↔ Q (.im (.int (atF 0 x l))) S := by
  constructor
  · rintro ⟨l', x', e, h⟩
    simp only [List.cons.injEq, W.im.injEq, T.lst.injEq, T.int.injEq, pcs_inj, and_true] at e
    obtain ⟨rfl, rfl⟩ := e
    exact h
  · intro h
    exact ⟨l, x, rfl, h⟩
theorem u_probes {j : Nat} {top : Int} {ls : List T} {S : Sto} {Q : VQ} {X : XQ} : sp__law_probes [.src j, .im (.int top), .im (.lst ls)] S Q X ↔ j % 2 = 0 ∧ (0 ≤ top ∧ top ≤ 1000000000000) ∧ ls.length ≤ 10 ∧ (∀ t ∈ ls, ∃ l : List Pc, (t = .lst (l.map Pc.t) ∨ t = .tup (l.map Pc.t)) ∧ l.length ≤ 100000) ∧ ∀ xs : List Int, xs.length ≤ 4000000 → (∀ x ∈ xs, 0 ≤ x ∧ x ≤ top) → Q (.im (.lst (xs.map T.int))) S := by
  constructor
  · rintro ⟨j', a, b, e, h⟩
    simp only [List.cons.injEq, W.src.injEq, W.im.injEq, T.int.injEq, T.lst.injEq, and_true] at e
    obtain ⟨rfl, rfl, rfl⟩ := e
    exact h
  · intro h
    exact ⟨j, _, _, rfl, h⟩
theorem does__law_small : Does ir__law_small nm__law_small 1 sp__law_small := by
  rintro ws S Q X ⟨j, rfl, hj, h⟩
  refine ⟨rfl, ?_⟩
  simp only [ir__law_small, nm__law_small, u_one_of, wpCs, wpC, wpE, wpEs, wpI, p_nm, p_tup, p_lst, p_nil, p_cons, if_true, if_false, reduceIte, Bool.false_eq_true, startS, getS, setS, setAll, wipeS, List.map_cons, List.map_nil, List.length_cons, List.length_nil, List.cons_append, List.nil_append, List.append_nil, Nat.reduceAdd, Nat.reduceSub, Nat.zero_add, List.replicate_succ, List.replicate_zero, imAll, Option.map_some, Option.bind_some, exists_eq_left, exists_eq_left', Option.some.injEq, W.im.injEq, T.int.injEq, T.bl.injEq, T.str.injEq, T.tup.injEq, T.lst.injEq, w_bin, w_cmp, w_un, w_blt, w_attr, w_ix, w_sl0, w_sl1, w_sl2, w_rev, w_tup, w_lst, w_nlst, b_addI, b_addS, b_addT, b_addL, b_subI, b_mulI, b_divI, b_modI, b_powI, c_lt, c_le, c_gt, c_ge, c_is, c_isn, c_eqI, c_neI, c_eqB, c_neB, c_eqS, c_neS, c_eqN, c_in, c_nin, n_intI, n_non, u_neg, i_len, i_abs, i_min, i_max, i_intI, i_intB, i_tuple, i_list, i_all, i_any, i_isi, i_sorted, i_max1, i_min1, x_lst, x_tup, x_scr, x_mr, s_tup, s_lst, q_lst, q_tup, q_scr, l_lst, l_scr, ln_lst, k_lst, k_tup, k_scr, k_str, j_ty, j_cls, j_tup, m_app, m_ext, e_set, r_app, r_ext, a_fn, stabW, true_and, and_true]
  refine ⟨by decide, hj, ⟨by simp, by unfold few; decide⟩, fun t ht => ?_⟩
  simp only [List.mem_cons, List.not_mem_nil, or_false] at ht
  rcases ht with rfl | rfl | rfl | rfl | rfl | rfl | rfl | rfl <;> exact rt_im (h _ (by decide) (by decide))
theorem does__law_passage : Does ir__law_passage nm__law_passage 2 sp__law_passage := by
  rintro ws S Q X ⟨ns, tgt, rfl, h1, h2, h⟩
  refine ⟨rfl, ?_⟩
  simp only [ir__law_passage, nm__law_passage, u_table, wpCs, wpC, wpE, wpEs, wpI, p_nm, p_tup, p_lst, p_nil, p_cons, if_true, if_false, reduceIte, Bool.false_eq_true, startS, getS, setS, setAll, wipeS, List.map_cons, List.map_nil, List.length_cons, List.length_nil, List.cons_append, List.nil_append, List.append_nil, Nat.reduceAdd, Nat.reduceSub, Nat.zero_add, List.replicate_succ, List.replicate_zero, imAll, Option.map_some, Option.bind_some, exists_eq_left, exists_eq_left', Option.some.injEq, W.im.injEq, T.int.injEq, T.bl.injEq, T.str.injEq, T.tup.injEq, T.lst.injEq, w_bin, w_cmp, w_un, w_blt, w_attr, w_ix, w_sl0, w_sl1, w_sl2, w_rev, w_tup, w_lst, w_nlst, b_addI, b_addS, b_addT, b_addL, b_subI, b_mulI, b_divI, b_modI, b_powI, c_lt, c_le, c_gt, c_ge, c_is, c_isn, c_eqI, c_neI, c_eqB, c_neB, c_eqS, c_neS, c_eqN, c_in, c_nin, n_intI, n_non, u_neg, i_len, i_abs, i_min, i_max, i_intI, i_intB, i_tuple, i_list, i_all, i_any, i_isi, i_sorted, i_max1, i_min1, x_lst, x_tup, x_scr, x_mr, s_tup, s_lst, q_lst, q_tup, q_scr, l_lst, l_scr, ln_lst, k_lst, k_tup, k_scr, k_str, j_ty, j_cls, j_tup, m_app, m_ext, e_set, r_app, r_ext, a_fn, stabW, true_and, and_true]
  exact ⟨⟨h1, h2⟩, rt_im h⟩
theorem does__law_results : Does ir__law_results nm__law_results 1 sp__law_results := by
  rintro ws S Q X ⟨p, rfl, ⟨n, hp, hn⟩, ht, h⟩
  refine ⟨rfl, ?_⟩
  have hz : sizeLine = 16777216 := rfl
  have h0 := hp.top
  simp only [ir__law_results, nm__law_results, at_top, wpCs, wpC, wpE, wpEs, wpI, p_nm, p_tup, p_lst, p_nil, p_cons, if_true, if_false, reduceIte, Bool.false_eq_true, startS, getS, setS, setAll, wipeS, List.map_cons, List.map_nil, List.length_cons, List.length_nil, List.cons_append, List.nil_append, List.append_nil, Nat.reduceAdd, Nat.reduceSub, Nat.zero_add, List.replicate_succ, List.replicate_zero, imAll, Option.map_some, Option.bind_some, exists_eq_left, exists_eq_left', Option.some.injEq, W.im.injEq, T.int.injEq, T.bl.injEq, T.str.injEq, T.tup.injEq, T.lst.injEq, w_bin, w_cmp, w_un, w_blt, w_attr, w_ix, w_sl0, w_sl1, w_sl2, w_rev, w_tup, w_lst, w_nlst, b_addI, b_addS, b_addT, b_addL, b_subI, b_mulI, b_divI, b_modI, b_powI, c_lt, c_le, c_gt, c_ge, c_is, c_isn, c_eqI, c_neI, c_eqB, c_neB, c_eqS, c_neS, c_eqN, c_in, c_nin, n_intI, n_non, u_neg, i_len, i_abs, i_min, i_max, i_intI, i_intB, i_tuple, i_list, i_all, i_any, i_isi, i_sorted, i_max1, i_min1, x_lst, x_tup, x_scr, x_mr, s_tup, s_lst, q_lst, q_tup, q_scr, l_lst, l_scr, ln_lst, k_lst, k_tup, k_scr, k_str, j_ty, j_cls, j_tup, m_app, m_ext, e_set, r_app, r_ext, a_fn, stabW, true_and, and_true]
  refine ⟨by omega, by omega, ?_⟩
  refine lc_map (fun k : Nat => T.int (k : Int)) (fun k => T.int (p.v (k : Int))) (fun _ _ _ _ h => h) trivial (List.range (p.top + 1).toNat) [] _ (by simp; omega) (fun k hk R hR => ?_) ?_
  · rw [List.mem_range] at hk
    simp only [ic_Ps, ic_Ps', u_call, wpCs, wpC, wpE, wpEs, wpI, p_nm, p_tup, p_lst, p_nil, p_cons, if_true, if_false, reduceIte, Bool.false_eq_true, startS, getS, setS, setAll, wipeS, List.map_cons, List.map_nil, List.length_cons, List.length_nil, List.cons_append, List.nil_append, List.append_nil, Nat.reduceAdd, Nat.reduceSub, Nat.zero_add, List.replicate_succ, List.replicate_zero, imAll, Option.map_some, Option.bind_some, exists_eq_left, exists_eq_left', Option.some.injEq, W.im.injEq, T.int.injEq, T.bl.injEq, T.str.injEq, T.tup.injEq, T.lst.injEq, w_bin, w_cmp, w_un, w_blt, w_attr, w_ix, w_sl0, w_sl1, w_sl2, w_rev, w_tup, w_lst, w_nlst, b_addI, b_addS, b_addT, b_addL, b_subI, b_mulI, b_divI, b_modI, b_powI, c_lt, c_le, c_gt, c_ge, c_is, c_isn, c_eqI, c_neI, c_eqB, c_neB, c_eqS, c_neS, c_eqN, c_in, c_nin, n_intI, n_non, u_neg, i_len, i_abs, i_min, i_max, i_intI, i_intB, i_tuple, i_list, i_all, i_any, i_isi, i_sorted, i_max1, i_min1, x_lst, x_tup, x_scr, x_mr, s_tup, s_lst, q_lst, q_tup, q_scr, l_lst, l_scr, ln_lst, k_lst, k_tup, k_scr, k_str, j_ty, j_cls, j_tup, m_app, m_ext, e_set, r_app, r_ext, a_fn, stabW, true_and, and_true]
    exact ⟨⟨⟨n, hp, hn⟩, by omega, by omega⟩, hR⟩
  · have e : (List.range (p.top + 1).toNat).map (fun k : Nat => T.int (p.v (k : Int))) = (resL p).map T.int := by
      rw [resL, List.map_map]
      rfl
    rw [List.nil_append, e]
    exact rt_im h
theorem at_loop {x : Int} {S : Sto} {K : Post} {w0 : Option W} {stab : Sto → Prop} (hs : stab S) : ∀ (l : List Pc) (acc : Int) (x3 x4 x5 : Option W),
    (∀ x3 x4 x5, K.nx [w0, some (.im (.int x)), some (.im (.int (atF acc x l))), x3, x4, x5] S) →
    forW (wpCs bd__law_at_1) (.tp (.cons (.nm 3) (.cons (.nm 4) (.cons (.nm 5) .nil)))) stab (l.map Pc.t) [w0, some (.im (.int x)), some (.im (.int acc)), x3, x4, x5] S K
  | [], acc, x3, x4, x5, kk => by
    rw [List.map_nil, forW]
    exact ⟨hs, kk _ _ _⟩
  | a :: l, acc, x3, x4, x5, kk => by
    rw [List.map_cons, forW]
    refine ⟨hs, ?_⟩
    simp only [Pc.t, bd__law_at_1, wpCs, wpC, wpE, wpEs, wpI, p_nm, p_tup, p_lst, p_nil, p_cons, if_true, if_false, reduceIte, Bool.false_eq_true, startS, getS, setS, setAll, wipeS, List.map_cons, List.map_nil, List.length_cons, List.length_nil, List.cons_append, List.nil_append, List.append_nil, Nat.reduceAdd, Nat.reduceSub, Nat.zero_add, List.replicate_succ, List.replicate_zero, imAll, Option.map_some, Option.bind_some, exists_eq_left, exists_eq_left', Option.some.injEq, W.im.injEq, T.int.injEq, T.bl.injEq, T.str.injEq, T.tup.injEq, T.lst.injEq, w_bin, w_cmp, w_un, w_blt, w_attr, w_ix, w_sl0, w_sl1, w_sl2, w_rev, w_tup, w_lst, w_nlst, b_addI, b_addS, b_addT, b_addL, b_subI, b_mulI, b_divI, b_modI, b_powI, c_lt, c_le, c_gt, c_ge, c_is, c_isn, c_eqI, c_neI, c_eqB, c_neB, c_eqS, c_neS, c_eqN, c_in, c_nin, n_intI, n_non, u_neg, i_len, i_abs, i_min, i_max, i_intI, i_intB, i_tuple, i_list, i_all, i_any, i_isi, i_sorted, i_max1, i_min1, x_lst, x_tup, x_scr, x_mr, s_tup, s_lst, q_lst, q_tup, q_scr, l_lst, l_scr, ln_lst, k_lst, k_tup, k_scr, k_str, j_ty, j_cls, j_tup, m_app, m_ext, e_set, r_app, r_ext, a_fn, stabW, true_and, and_true]
    have go := fun acc' (e : acc' = (if a.s ≤ x then (if a.r = true then a.f + x - a.s else a.f) else acc)) => at_loop (w0 := w0) hs l acc' (some (.im (.int a.s))) (some (.im (.int a.f))) (some (.im (.bl a.r))) (fun y3 y4 y5 => by
      have := kk y3 y4 y5
      rw [atF, ← e] at this
      exact this)
    by_cases c1 : a.s ≤ x
    · simp only [c1, decide_true, if_true] at go ⊢
      by_cases c2 : a.r = true
      · simp only [c2, if_true] at go ⊢
        exact go _ rfl
      · simp only [c2, if_false] at go ⊢
        exact go _ rfl
    · simp only [c1, decide_false, Bool.false_eq_true, if_false] at go ⊢
      exact go _ rfl
theorem does__law_at : Does ir__law_at nm__law_at 2 sp__law_at := by
  rintro ws S Q X ⟨l, x, rfl, h⟩
  refine ⟨rfl, ?_⟩
  simp only [ir__law_at, nm__law_at, wpCs, wpC, wpE, wpEs, wpI, p_nm, p_tup, p_lst, p_nil, p_cons, if_true, if_false, reduceIte, Bool.false_eq_true, startS, getS, setS, setAll, wipeS, List.map_cons, List.map_nil, List.length_cons, List.length_nil, List.cons_append, List.nil_append, List.append_nil, Nat.reduceAdd, Nat.reduceSub, Nat.zero_add, List.replicate_succ, List.replicate_zero, imAll, Option.map_some, Option.bind_some, exists_eq_left, exists_eq_left', Option.some.injEq, W.im.injEq, T.int.injEq, T.bl.injEq, T.str.injEq, T.tup.injEq, T.lst.injEq, w_bin, w_cmp, w_un, w_blt, w_attr, w_ix, w_sl0, w_sl1, w_sl2, w_rev, w_tup, w_lst, w_nlst, b_addI, b_addS, b_addT, b_addL, b_subI, b_mulI, b_divI, b_modI, b_powI, c_lt, c_le, c_gt, c_ge, c_is, c_isn, c_eqI, c_neI, c_eqB, c_neB, c_eqS, c_neS, c_eqN, c_in, c_nin, n_intI, n_non, u_neg, i_len, i_abs, i_min, i_max, i_intI, i_intB, i_tuple, i_list, i_all, i_any, i_isi, i_sorted, i_max1, i_min1, x_lst, x_tup, x_scr, x_mr, s_tup, s_lst, q_lst, q_tup, q_scr, l_lst, l_scr, ln_lst, k_lst, k_tup, k_scr, k_str, j_ty, j_cls, j_tup, m_app, m_ext, e_set, r_app, r_ext, a_fn, stabW, true_and, and_true]
  refine at_loop (by trivial) l 0 _ _ _ fun x3 x4 x5 => ?_
  simp only [wpCs, wpC, wpE, wpEs, wpI, p_nm, p_tup, p_lst, p_nil, p_cons, if_true, if_false, reduceIte, Bool.false_eq_true, startS, getS, setS, setAll, wipeS, List.map_cons, List.map_nil, List.length_cons, List.length_nil, List.cons_append, List.nil_append, List.append_nil, Nat.reduceAdd, Nat.reduceSub, Nat.zero_add, List.replicate_succ, List.replicate_zero, imAll, Option.map_some, Option.bind_some, exists_eq_left, exists_eq_left', Option.some.injEq, W.im.injEq, T.int.injEq, T.bl.injEq, T.str.injEq, T.tup.injEq, T.lst.injEq, w_bin, w_cmp, w_un, w_blt, w_attr, w_ix, w_sl0, w_sl1, w_sl2, w_rev, w_tup, w_lst, w_nlst, b_addI, b_addS, b_addT, b_addL, b_subI, b_mulI, b_divI, b_modI, b_powI, c_lt, c_le, c_gt, c_ge, c_is, c_isn, c_eqI, c_neI, c_eqB, c_neB, c_eqS, c_neS, c_eqN, c_in, c_nin, n_intI, n_non, u_neg, i_len, i_abs, i_min, i_max, i_intI, i_intB, i_tuple, i_list, i_all, i_any, i_isi, i_sorted, i_max1, i_min1, x_lst, x_tup, x_scr, x_mr, s_tup, s_lst, q_lst, q_tup, q_scr, l_lst, l_scr, ln_lst, k_lst, k_tup, k_scr, k_str, j_ty, j_cls, j_tup, m_app, m_ext, e_set, r_app, r_ext, a_fn, stabW, true_and, and_true]
  exact rt_im h
structure Tb (tgt last : Int) (ns : List Int) : Prop where
  up : ns.Pairwise (· ≤ ·)
  rg : ∀ n ∈ ns, 0 ≤ n ∧ n ≤ last
  la : 0 ≤ last ∧ last ≤ tgt
theorem Tb.add {tgt last last' : Int} {ns : List Int} (t : Tb tgt last ns) (h : last ≤ last') (h' : last' ≤ tgt) : Tb tgt last' (ns ++ [last]) := by
  refine ⟨?_, ?_, by have := t.la; omega⟩
  · rw [List.pairwise_append]
    refine ⟨t.up, by simp, fun a ha b hb => ?_⟩
    simp at hb
    subst hb
    exact (t.rg a ha).2
  · intro n hn
    rcases List.mem_append.mp hn with hn | hn
    · have := t.rg n hn; omega
    · simp at hn
      have := t.la
      omega
theorem tb_loop {j : Nat} (hj : j % 2 = 0) {top tgt : Int} {S0 : Sto} {K : Post} {k : Nat} (hk : k = S0.length) : ∀ (ts : List T) (ns : List Int) (last : Int) (x3 x7 : Option W), Tb tgt last ns → ns.length + ts.length < 2000 →
    (∀ ns' last' x3 x7, Tb tgt last' ns' → ns'.length = ns.length + ts.length → K.nx [some (.src j), some (.im (.int top)), some (.im (.int tgt)), x3, none, some (.mr k), some (.im (.int last')), x7] (S0 ++ [.lst ((ns'.map T.int).map W.im)])) →
    forW (wpCs bd__law_table_1) (.nm 3) (fun _ => True) ts [some (.src j), some (.im (.int top)), some (.im (.int tgt)), x3, none, some (.mr k), some (.im (.int last)), x7] (S0 ++ [.lst ((ns.map T.int).map W.im)]) K
  | [], ns, last, x3, x7, t, hl, kk => by
    rw [forW]
    exact ⟨trivial, kk ns last x3 x7 t (by simp)⟩
  | x :: ts, ns, last, x3, x7, t, hl, kk => by
    have hz : sizeLine = 16777216 := rfl
    simp only [List.length_cons] at hl
    have hget : (S0 ++ [MO.lst ((ns.map T.int).map W.im)])[k]? = some (.lst ((ns.map T.int).map W.im)) := by rw [hk]; simp
    have e : (S0 ++ [MO.lst ((ns.map T.int).map W.im)]).set k (.lst ((ns.map T.int).map W.im ++ [.im (.int last)])) = S0 ++ [.lst (((ns ++ [last]).map T.int).map W.im)] := by
      rw [hk, List.set_append_right _ _ (Nat.le_refl _), Nat.sub_self]
      simp
    rw [forW]
    refine ⟨trivial, ?_⟩
    have go : ∀ st : Int, 0 ≤ st → ∀ x7, forW (wpCs bd__law_table_1) (.nm 3) (fun _ => True) ts [some (.src j), some (.im (.int top)), some (.im (.int tgt)), some (.im x), none, some (.mr k), some (.im (.int (if last + st < tgt then last + st else tgt))), x7] (S0 ++ [.lst (((ns ++ [last]).map T.int).map W.im)]) K := by
      intro st h0 x7
      have la := t.la
      refine tb_loop hj hk ts (ns ++ [last]) _ _ _ (t.add (by split <;> omega) (by split <;> omega)) (by simp; omega) fun ns' l' a b t' hl' => kk ns' l' a b t' (by simp at hl' ⊢; omega)
    simp only [bd__law_table_1, u_one_of, hget, e, MO.lst.injEq, wpCs, wpC, wpE, wpEs, wpI, p_nm, p_tup, p_lst, p_nil, p_cons, if_true, if_false, reduceIte, Bool.false_eq_true, startS, getS, setS, setAll, wipeS, List.map_cons, List.map_nil, List.length_cons, List.length_nil, List.cons_append, List.nil_append, List.append_nil, Nat.reduceAdd, Nat.reduceSub, Nat.zero_add, List.replicate_succ, List.replicate_zero, imAll, Option.map_some, Option.bind_some, exists_eq_left, exists_eq_left', Option.some.injEq, W.im.injEq, T.int.injEq, T.bl.injEq, T.str.injEq, T.tup.injEq, T.lst.injEq, w_bin, w_cmp, w_un, w_blt, w_attr, w_ix, w_sl0, w_sl1, w_sl2, w_rev, w_tup, w_lst, w_nlst, b_addI, b_addS, b_addT, b_addL, b_subI, b_mulI, b_divI, b_modI, b_powI, c_lt, c_le, c_gt, c_ge, c_is, c_isn, c_eqI, c_neI, c_eqB, c_neB, c_eqS, c_neS, c_eqN, c_in, c_nin, n_intI, n_non, u_neg, i_len, i_abs, i_min, i_max, i_intI, i_intB, i_tuple, i_list, i_all, i_any, i_isi, i_sorted, i_max1, i_min1, x_lst, x_tup, x_scr, x_mr, s_tup, s_lst, q_lst, q_tup, q_scr, l_lst, l_scr, ln_lst, k_lst, k_tup, k_scr, k_str, j_ty, j_cls, j_tup, m_app, m_ext, e_set, r_app, r_ext, a_fn, stabW, true_and, and_true] at go ⊢
    refine ⟨⟨_, rfl⟩, by simp; omega, by omega, hj, ⟨by simp, by unfold few; omega⟩, fun s hs => ?_⟩
    simp only [List.mem_cons, List.not_mem_nil, or_false] at hs
    rcases hs with rfl | rfl | rfl | rfl | rfl | rfl | rfl <;> exact go _ (by omega) _
theorem tab_of {tgt last : Int} {ns : List Int} (t : Tb tgt last ns) (h : ns ≠ []) : Tab tgt ns := ⟨h, t.up, fun n hn => by have := t.rg n hn; have := t.la; omega⟩
theorem tab_last_set {tgt : Int} {ns : List Int} (t : Tab tgt ns) (h : 0 ≤ tgt) : Tab tgt (ns.set (ns.length - 1) tgt) := by
  obtain ⟨qs, r, rfl⟩ := snoc_of t.ne
  have e : (qs ++ [r]).set ((qs ++ [r]).length - 1) tgt = qs ++ [tgt] := by
    rw [List.length_append, List.length_singleton, Nat.add_sub_cancel, List.set_append_right _ _ (Nat.le_refl _), Nat.sub_self]
    rfl
  rw [e]
  have up := t.up
  rw [List.pairwise_append] at up
  refine ⟨by simp, ?_, ?_⟩
  · rw [List.pairwise_append]
    refine ⟨up.1, by simp, fun a ha b hb => ?_⟩
    simp at hb
    subst hb
    exact (t.rg a (by simp [ha])).2
  · intro n hn
    rcases List.mem_append.mp hn with hn | hn
    · exact t.rg n (by simp [hn])
    · simp at hn
      omega
theorem tab_zero {tgt n : Int} {ns : List Int} (t : Tab tgt (n :: ns)) (h : 0 ≤ tgt) : Tab tgt (0 :: ns) := by
  have up := t.up
  rw [List.pairwise_cons] at up
  refine ⟨by simp, ?_, ?_⟩
  · rw [List.pairwise_cons]
    exact ⟨fun b hb => (t.rg b (by simp [hb])).1, up.2⟩
  · intro m hm
    rcases List.mem_cons.mp hm with rfl | hm
    · omega
    · exact t.rg m (by simp [hm])
theorem ix_last {n : Nat} (h : 0 < n) : ixN n (-1) = some (n - 1) := by
  unfold ixN
  rw [if_neg (by omega), if_pos (by omega)]
  congr 1
  omega
theorem does__law_table : Does ir__law_table nm__law_table 3 sp__law_table := by
  rintro ws S Q X ⟨j, top, tgt, rfl, hj, ht, hg, h⟩
  refine ⟨rfl, ?_⟩
  have hz : sizeLine = 16777216 := rfl
  have go : ∀ last : Int, 0 ≤ last → last ≤ tgt → forW (wpCs bd__law_table_1) (.nm 3) (fun _ => True) ((List.range (top + 1).toNat).map fun (k : Nat) => T.int (k : Int)) [some (.src j), some (.im (.int top)), some (.im (.int tgt)), none, none, some (.mr S.length), some (.im (.int last)), none] (S ++ [.lst []])
      { (exitP S Q X) with nx := fun ρ1 S1 => wpCs (.cons (.asg 4 (.ap (.fn "_law_choose") sp__law_choose (.cons (.var 0) (.cons (.con (.int 4)) .nil))))
  (.cons (.ifs (.pr (.cmp .Eq) (.cons (.var 4) (.cons (.con (.int 0)) .nil))) (.cons (.setI (.var 5) (.pr (.un .USub) (.cons (.con (.int 1)) .nil)) (.var 2)) .nil) .nil)
  (.cons (.ifs (.pr (.cmp .Eq) (.cons (.var 4) (.cons (.con (.int 1)) .nil))) (.cons (.asg 5 (.pr (.bin .Add) (.cons (.pr .lst (.cons (.con (.int 0)) .nil)) (.cons (.pr (.sl true false) (.cons (.var 5) (.cons (.con (.int 1)) .nil))) .nil)))) .nil) .nil)
  (.cons (.ret (.var 5)) .nil)))) ρ1 S1 (exitP S Q X) } := by
    intro last l0 l1
    refine tb_loop hj rfl _ [] last _ _ ⟨.nil, by simp, l0, l1⟩ (by simp; omega) fun ns last' x3 x7 t hl => ?_
    have hl : (ns.length : Int) = top + 1 := by simp at hl; omega
    have hne : ns ≠ [] := by rintro rfl; simp at hl; omega
    have tb := tab_of t hne
    have hget : (S ++ [MO.lst ((ns.map T.int).map W.im)])[S.length]? = some (.lst ((ns.map T.int).map W.im)) := by simp
    have fin : ∀ ns', Tab tgt ns' → (ns'.length : Int) = top + 1 → (exitP S Q X).rt (.mr S.length) (S ++ [.lst ((ns'.map T.int).map W.im)]) := fun ns' t' l' => rt_lst (L := []) (h ns' t' l')
    simp only [u_choose, hget, MO.lst.injEq, wpCs, wpC, wpE, wpEs, wpI, p_nm, p_tup, p_lst, p_nil, p_cons, if_true, if_false, reduceIte, Bool.false_eq_true, startS, getS, setS, setAll, wipeS, List.map_cons, List.map_nil, List.length_cons, List.length_nil, List.cons_append, List.nil_append, List.append_nil, Nat.reduceAdd, Nat.reduceSub, Nat.zero_add, List.replicate_succ, List.replicate_zero, imAll, Option.map_some, Option.bind_some, exists_eq_left, exists_eq_left', Option.some.injEq, W.im.injEq, T.int.injEq, T.bl.injEq, T.str.injEq, T.tup.injEq, T.lst.injEq, w_bin, w_cmp, w_un, w_blt, w_attr, w_ix, w_sl0, w_sl1, w_sl2, w_rev, w_tup, w_lst, w_nlst, b_addI, b_addS, b_addT, b_addL, b_subI, b_mulI, b_divI, b_modI, b_powI, c_lt, c_le, c_gt, c_ge, c_is, c_isn, c_eqI, c_neI, c_eqB, c_neB, c_eqS, c_neS, c_eqN, c_in, c_nin, n_intI, n_non, u_neg, i_len, i_abs, i_min, i_max, i_intI, i_intB, i_tuple, i_list, i_all, i_any, i_isi, i_sorted, i_max1, i_min1, x_lst, x_tup, x_scr, x_mr, s_tup, s_lst, q_lst, q_tup, q_scr, l_lst, l_scr, ln_lst, k_lst, k_tup, k_scr, k_str, j_ty, j_cls, j_tup, m_app, m_ext, e_set, r_app, r_ext, a_fn, stabW, true_and, and_true]
    refine ⟨hj, ⟨by omega, by omega⟩, fun c c0 c1 => ?_⟩
    by_cases k0 : c = 0
    · subst k0
      simp only [decide_true, if_true, List.length_map, ix_last (List.length_pos_iff.mpr hne), wpCs, wpC, wpE, wpEs, wpI, p_nm, p_tup, p_lst, p_nil, p_cons, if_true, if_false, reduceIte, Bool.false_eq_true, startS, getS, setS, setAll, wipeS, List.map_cons, List.map_nil, List.length_cons, List.length_nil, List.cons_append, List.nil_append, List.append_nil, Nat.reduceAdd, Nat.reduceSub, Nat.zero_add, List.replicate_succ, List.replicate_zero, imAll, Option.map_some, Option.bind_some, exists_eq_left, exists_eq_left', Option.some.injEq, W.im.injEq, T.int.injEq, T.bl.injEq, T.str.injEq, T.tup.injEq, T.lst.injEq, w_bin, w_cmp, w_un, w_blt, w_attr, w_ix, w_sl0, w_sl1, w_sl2, w_rev, w_tup, w_lst, w_nlst, b_addI, b_addS, b_addT, b_addL, b_subI, b_mulI, b_divI, b_modI, b_powI, c_lt, c_le, c_gt, c_ge, c_is, c_isn, c_eqI, c_neI, c_eqB, c_neB, c_eqS, c_neS, c_eqN, c_in, c_nin, n_intI, n_non, u_neg, i_len, i_abs, i_min, i_max, i_intI, i_intB, i_tuple, i_list, i_all, i_any, i_isi, i_sorted, i_max1, i_min1, x_lst, x_tup, x_scr, x_mr, s_tup, s_lst, q_lst, q_tup, q_scr, l_lst, l_scr, ln_lst, k_lst, k_tup, k_scr, k_str, j_ty, j_cls, j_tup, m_app, m_ext, e_set, r_app, r_ext, a_fn, stabW, true_and, and_true]
      have e1 : decide ((0 : Int) = 1) = false := by decide
      simp only [e1, wpCs, wpC, wpE, wpEs, wpI, p_nm, p_tup, p_lst, p_nil, p_cons, if_true, if_false, reduceIte, Bool.false_eq_true, startS, getS, setS, setAll, wipeS, List.map_cons, List.map_nil, List.length_cons, List.length_nil, List.cons_append, List.nil_append, List.append_nil, Nat.reduceAdd, Nat.reduceSub, Nat.zero_add, List.replicate_succ, List.replicate_zero, imAll, Option.map_some, Option.bind_some, exists_eq_left, exists_eq_left', Option.some.injEq, W.im.injEq, T.int.injEq, T.bl.injEq, T.str.injEq, T.tup.injEq, T.lst.injEq, w_bin, w_cmp, w_un, w_blt, w_attr, w_ix, w_sl0, w_sl1, w_sl2, w_rev, w_tup, w_lst, w_nlst, b_addI, b_addS, b_addT, b_addL, b_subI, b_mulI, b_divI, b_modI, b_powI, c_lt, c_le, c_gt, c_ge, c_is, c_isn, c_eqI, c_neI, c_eqB, c_neB, c_eqS, c_neS, c_eqN, c_in, c_nin, n_intI, n_non, u_neg, i_len, i_abs, i_min, i_max, i_intI, i_intB, i_tuple, i_list, i_all, i_any, i_isi, i_sorted, i_max1, i_min1, x_lst, x_tup, x_scr, x_mr, s_tup, s_lst, q_lst, q_tup, q_scr, l_lst, l_scr, ln_lst, k_lst, k_tup, k_scr, k_str, j_ty, j_cls, j_tup, m_app, m_ext, e_set, r_app, r_ext, a_fn, stabW, true_and, and_true]
      have := fin _ (tab_last_set tb hg) (by rw [List.length_set]; exact hl)
      have e : (S ++ [MO.lst ((ns.map T.int).map W.im)]).set S.length (.lst (((ns.map T.int).map W.im).set (ns.length - 1) (.im (.int tgt)))) = S ++ [.lst (((ns.set (ns.length - 1) tgt).map T.int).map W.im)] := by
        rw [List.set_append_right _ _ (Nat.le_refl _), Nat.sub_self]
        simp [List.map_set]
      rw [e]
      exact this
    · have e0 : decide (c = 0) = false := by rw [decide_eq_false_iff_not]; exact k0
      simp only [e0, wpCs, wpC, wpE, wpEs, wpI, p_nm, p_tup, p_lst, p_nil, p_cons, if_true, if_false, reduceIte, Bool.false_eq_true, startS, getS, setS, setAll, wipeS, List.map_cons, List.map_nil, List.length_cons, List.length_nil, List.cons_append, List.nil_append, List.append_nil, Nat.reduceAdd, Nat.reduceSub, Nat.zero_add, List.replicate_succ, List.replicate_zero, imAll, Option.map_some, Option.bind_some, exists_eq_left, exists_eq_left', Option.some.injEq, W.im.injEq, T.int.injEq, T.bl.injEq, T.str.injEq, T.tup.injEq, T.lst.injEq, w_bin, w_cmp, w_un, w_blt, w_attr, w_ix, w_sl0, w_sl1, w_sl2, w_rev, w_tup, w_lst, w_nlst, b_addI, b_addS, b_addT, b_addL, b_subI, b_mulI, b_divI, b_modI, b_powI, c_lt, c_le, c_gt, c_ge, c_is, c_isn, c_eqI, c_neI, c_eqB, c_neB, c_eqS, c_neS, c_eqN, c_in, c_nin, n_intI, n_non, u_neg, i_len, i_abs, i_min, i_max, i_intI, i_intB, i_tuple, i_list, i_all, i_any, i_isi, i_sorted, i_max1, i_min1, x_lst, x_tup, x_scr, x_mr, s_tup, s_lst, q_lst, q_tup, q_scr, l_lst, l_scr, ln_lst, k_lst, k_tup, k_scr, k_str, j_ty, j_cls, j_tup, m_app, m_ext, e_set, r_app, r_ext, a_fn, stabW, true_and, and_true]
      by_cases k1 : c = 1
      · subst k1
        simp only [decide_true, if_true]
        cases ns with
        | nil => exact absurd rfl hne
        | cons n ns =>
          refine ⟨by omega, ?_⟩
          have hn : lstN (S ++ [MO.lst (((n :: ns).map T.int).map W.im)]) (.mr S.length) = some ((n :: ns).map T.int) := seq_mr hget
          refine sl_of hn ?_
          rw [List.map_cons, cut1]
          simp only [wpCs, wpC, wpE, wpEs, wpI, p_nm, p_tup, p_lst, p_nil, p_cons, if_true, if_false, reduceIte, Bool.false_eq_true, startS, getS, setS, setAll, wipeS, List.map_cons, List.map_nil, List.length_cons, List.length_nil, List.cons_append, List.nil_append, List.append_nil, Nat.reduceAdd, Nat.reduceSub, Nat.zero_add, List.replicate_succ, List.replicate_zero, imAll, Option.map_some, Option.bind_some, exists_eq_left, exists_eq_left', Option.some.injEq, W.im.injEq, T.int.injEq, T.bl.injEq, T.str.injEq, T.tup.injEq, T.lst.injEq, w_bin, w_cmp, w_un, w_blt, w_attr, w_ix, w_sl0, w_sl1, w_sl2, w_rev, w_tup, w_lst, w_nlst, b_addI, b_addS, b_addT, b_addL, b_subI, b_mulI, b_divI, b_modI, b_powI, c_lt, c_le, c_gt, c_ge, c_is, c_isn, c_eqI, c_neI, c_eqB, c_neB, c_eqS, c_neS, c_eqN, c_in, c_nin, n_intI, n_non, u_neg, i_len, i_abs, i_min, i_max, i_intI, i_intB, i_tuple, i_list, i_all, i_any, i_isi, i_sorted, i_max1, i_min1, x_lst, x_tup, x_scr, x_mr, s_tup, s_lst, q_lst, q_tup, q_scr, l_lst, l_scr, ln_lst, k_lst, k_tup, k_scr, k_str, j_ty, j_cls, j_tup, m_app, m_ext, e_set, r_app, r_ext, a_fn, stabW, true_and, and_true]
          simp only [List.length_cons] at hl
          exact ⟨by simp; omega, rt_more (h (0 :: ns) (tab_zero tb hg) (by simp only [List.length_cons]; exact hl))⟩
      · have e1 : decide (c = 1) = false := by rw [decide_eq_false_iff_not]; exact k1
        simp only [e1, wpCs, wpC, wpE, wpEs, wpI, p_nm, p_tup, p_lst, p_nil, p_cons, if_true, if_false, reduceIte, Bool.false_eq_true, startS, getS, setS, setAll, wipeS, List.map_cons, List.map_nil, List.length_cons, List.length_nil, List.cons_append, List.nil_append, List.append_nil, Nat.reduceAdd, Nat.reduceSub, Nat.zero_add, List.replicate_succ, List.replicate_zero, imAll, Option.map_some, Option.bind_some, exists_eq_left, exists_eq_left', Option.some.injEq, W.im.injEq, T.int.injEq, T.bl.injEq, T.str.injEq, T.tup.injEq, T.lst.injEq, w_bin, w_cmp, w_un, w_blt, w_attr, w_ix, w_sl0, w_sl1, w_sl2, w_rev, w_tup, w_lst, w_nlst, b_addI, b_addS, b_addT, b_addL, b_subI, b_mulI, b_divI, b_modI, b_powI, c_lt, c_le, c_gt, c_ge, c_is, c_isn, c_eqI, c_neI, c_eqB, c_neB, c_eqS, c_neS, c_eqN, c_in, c_nin, n_intI, n_non, u_neg, i_len, i_abs, i_min, i_max, i_intI, i_intB, i_tuple, i_list, i_all, i_any, i_isi, i_sorted, i_max1, i_min1, x_lst, x_tup, x_scr, x_mr, s_tup, s_lst, q_lst, q_tup, q_scr, l_lst, l_scr, ln_lst, k_lst, k_tup, k_scr, k_str, j_ty, j_cls, j_tup, m_app, m_ext, e_set, r_app, r_ext, a_fn, stabW, true_and, and_true]
        exact fin ns tb hl
  simp only [ir__law_table, nm__law_table, u_choose, wpCs, wpC, wpE, wpEs, wpI, p_nm, p_tup, p_lst, p_nil, p_cons, if_true, if_false, reduceIte, Bool.false_eq_true, startS, getS, setS, setAll, wipeS, List.map_cons, List.map_nil, List.length_cons, List.length_nil, List.cons_append, List.nil_append, List.append_nil, Nat.reduceAdd, Nat.reduceSub, Nat.zero_add, List.replicate_succ, List.replicate_zero, imAll, Option.map_some, Option.bind_some, exists_eq_left, exists_eq_left', Option.some.injEq, W.im.injEq, T.int.injEq, T.bl.injEq, T.str.injEq, T.tup.injEq, T.lst.injEq, w_bin, w_cmp, w_un, w_blt, w_attr, w_ix, w_sl0, w_sl1, w_sl2, w_rev, w_tup, w_lst, w_nlst, b_addI, b_addS, b_addT, b_addL, b_subI, b_mulI, b_divI, b_modI, b_powI, c_lt, c_le, c_gt, c_ge, c_is, c_isn, c_eqI, c_neI, c_eqB, c_neB, c_eqS, c_neS, c_eqN, c_in, c_nin, n_intI, n_non, u_neg, i_len, i_abs, i_min, i_max, i_intI, i_intB, i_tuple, i_list, i_all, i_any, i_isi, i_sorted, i_max1, i_min1, x_lst, x_tup, x_scr, x_mr, s_tup, s_lst, q_lst, q_tup, q_scr, l_lst, l_scr, ln_lst, k_lst, k_tup, k_scr, k_str, j_ty, j_cls, j_tup, m_app, m_ext, e_set, r_app, r_ext, a_fn, stabW, true_and, and_true] at go ⊢
  refine ⟨by omega, ?_⟩
  by_cases c : 2 < tgt
  · simp only [c, decide_true, if_true]
    refine ⟨hj, ⟨by omega, by omega⟩, fun i i0 i1 => ⟨by omega, by omega, go i i0 (by omega)⟩⟩
  · simp only [c, decide_false, Bool.false_eq_true, if_false]
    exact ⟨by omega, by omega, go 0 (by omega) hg⟩
theorem pr_loop {w0 w1 w2 : Option W} {S0 : Sto} {K : Post} {k : Nat} (hk : k = S0.length) {stab : Sto → Prop} (hst : ∀ S, stab S) : ∀ (l : List Pc) (ns : List Int) (x4 x5 x6 x7 : Option W), ns.length + 3 * l.length ≤ 4000000 →
    (∀ (ns' : List Int) x5 x6 x7, ns'.length = ns.length + 3 * l.length → K.nx [w0, w1, w2, some (.mr k), x4, x5, x6, x7, none] (S0 ++ [.lst ((ns'.map T.int).map W.im)])) →
    forW (wpCs bd__law_probes_1) (.tp (.cons (.nm 5) (.cons (.nm 6) (.cons (.nm 7) .nil)))) stab (l.map Pc.t) [w0, w1, w2, some (.mr k), x4, x5, x6, x7, none] (S0 ++ [.lst ((ns.map T.int).map W.im)]) K
  | [], ns, x4, x5, x6, x7, hl, kk => by
    rw [List.map_nil, forW]
    exact ⟨hst _, kk ns _ _ _ (by simp)⟩
  | a :: l, ns, x4, x5, x6, x7, hl, kk => by
    have hz : sizeLine = 16777216 := rfl
    simp only [List.length_cons] at hl
    have hget : (S0 ++ [MO.lst ((ns.map T.int).map W.im)])[k]? = some (.lst ((ns.map T.int).map W.im)) := by rw [hk]; simp
    have e : (S0 ++ [MO.lst ((ns.map T.int).map W.im)]).set k (.lst ((ns.map T.int).map W.im ++ [.im (.int (a.s - 1)), .im (.int a.s), .im (.int (a.s + 1))])) = S0 ++ [.lst (((ns ++ [a.s - 1, a.s, a.s + 1]).map T.int).map W.im)] := by
      rw [hk, List.set_append_right _ _ (Nat.le_refl _), Nat.sub_self]
      simp
    rw [List.map_cons, forW]
    refine ⟨hst _, ?_⟩
    have go := pr_loop (w0 := w0) (w1 := w1) (w2 := w2) (K := K) hk hst l (ns ++ [a.s - 1, a.s, a.s + 1]) x4 (some (.im (.int a.s))) (some (.im (.int a.f))) (some (.im (.bl a.r))) (by simp; omega) fun ns' a b c hl' => kk ns' a b c (by simp at hl' ⊢; omega)
    simp only [Pc.t, bd__law_probes_1, hget, e, MO.lst.injEq, wpCs, wpC, wpE, wpEs, wpI, p_nm, p_tup, p_lst, p_nil, p_cons, if_true, if_false, reduceIte, Bool.false_eq_true, startS, getS, setS, setAll, wipeS, List.map_cons, List.map_nil, List.length_cons, List.length_nil, List.cons_append, List.nil_append, List.append_nil, Nat.reduceAdd, Nat.reduceSub, Nat.zero_add, List.replicate_succ, List.replicate_zero, imAll, Option.map_some, Option.bind_some, exists_eq_left, exists_eq_left', Option.some.injEq, W.im.injEq, T.int.injEq, T.bl.injEq, T.str.injEq, T.tup.injEq, T.lst.injEq, w_bin, w_cmp, w_un, w_blt, w_attr, w_ix, w_sl0, w_sl1, w_sl2, w_rev, w_tup, w_lst, w_nlst, b_addI, b_addS, b_addT, b_addL, b_subI, b_mulI, b_divI, b_modI, b_powI, c_lt, c_le, c_gt, c_ge, c_is, c_isn, c_eqI, c_neI, c_eqB, c_neB, c_eqS, c_neS, c_eqN, c_in, c_nin, n_intI, n_non, u_neg, i_len, i_abs, i_min, i_max, i_intI, i_intB, i_tuple, i_list, i_all, i_any, i_isi, i_sorted, i_max1, i_min1, x_lst, x_tup, x_scr, x_mr, s_tup, s_lst, q_lst, q_tup, q_scr, l_lst, l_scr, ln_lst, k_lst, k_tup, k_scr, k_str, j_ty, j_cls, j_tup, m_app, m_ext, e_set, r_app, r_ext, a_fn, stabW, true_and, and_true] at go ⊢
    exact ⟨⟨_, rfl⟩, by omega, by simp; omega, go⟩
theorem ps_loop {w0 w1 w2 : Option W} {S0 : Sto} {K : Post} {k : Nat} (hk : k = S0.length) {stab : Sto → Prop} (hst : ∀ S, stab S) : ∀ (ls : List T) (ns : List Int) (x4 x5 x6 x7 : Option W), ns.length + 300000 * ls.length ≤ 4000000 → (∀ t ∈ ls, ∃ l : List Pc, (t = .lst (l.map Pc.t) ∨ t = .tup (l.map Pc.t)) ∧ l.length ≤ 100000) →
    (∀ (ns' : List Int) x4 x5 x6 x7, ns'.length ≤ 4000000 → K.nx [w0, w1, w2, some (.mr k), x4, x5, x6, x7, none] (S0 ++ [.lst ((ns'.map T.int).map W.im)])) →
    forW (wpCs bd__law_probes_2) (.nm 4) stab ls [w0, w1, w2, some (.mr k), x4, x5, x6, x7, none] (S0 ++ [.lst ((ns.map T.int).map W.im)]) K
  | [], ns, x4, x5, x6, x7, hl, hp, kk => by
    rw [forW]
    exact ⟨hst _, kk ns _ _ _ _ (by simp at hl; omega)⟩
  | t :: ls, ns, x4, x5, x6, x7, hl, hp, kk => by
    simp only [List.length_cons] at hl
    rw [forW]
    refine ⟨hst _, ?_⟩
    obtain ⟨l, e, hb⟩ := hp t (by simp)
    have go := pr_loop (w0 := w0) (w1 := w1) (w2 := w2) (k := k) (stab := fun _ => True) hk (fun _ => trivial) l ns (some (.im t)) x5 x6 x7 (K := { K with nx := fun ρ2 S2 => forW (wpCs bd__law_probes_2) (.nm 4) stab ls ρ2 S2 K, ct := fun ρ2 S2 => forW (wpCs bd__law_probes_2) (.nm 4) stab ls ρ2 S2 K, bk := K.nx }) (by omega) fun ns' a b c hl' => ps_loop hk hst ls ns' _ _ _ _ (by omega) (fun u hu => hp u (by simp [hu])) kk
    rw [p_nm]
    simp only [bd__law_probes_2, wpCs, wpC, wpE, wpEs, wpI, p_nm, p_tup, p_lst, p_nil, p_cons, if_true, if_false, reduceIte, Bool.false_eq_true, startS, getS, setS, setAll, wipeS, List.map_cons, List.map_nil, List.length_cons, List.length_nil, List.cons_append, List.nil_append, List.append_nil, Nat.reduceAdd, Nat.reduceSub, Nat.zero_add, List.replicate_succ, List.replicate_zero, imAll, Option.map_some, Option.bind_some, exists_eq_left, exists_eq_left', Option.some.injEq, W.im.injEq, T.int.injEq, T.bl.injEq, T.str.injEq, T.tup.injEq, T.lst.injEq, w_bin, w_cmp, w_un, w_blt, w_attr, w_ix, w_sl0, w_sl1, w_sl2, w_rev, w_tup, w_lst, w_nlst, b_addI, b_addS, b_addT, b_addL, b_subI, b_mulI, b_divI, b_modI, b_powI, c_lt, c_le, c_gt, c_ge, c_is, c_isn, c_eqI, c_neI, c_eqB, c_neB, c_eqS, c_neS, c_eqN, c_in, c_nin, n_intI, n_non, u_neg, i_len, i_abs, i_min, i_max, i_intI, i_intB, i_tuple, i_list, i_all, i_any, i_isi, i_sorted, i_max1, i_min1, x_lst, x_tup, x_scr, x_mr, s_tup, s_lst, q_lst, q_tup, q_scr, l_lst, l_scr, ln_lst, k_lst, k_tup, k_scr, k_str, j_ty, j_cls, j_tup, m_app, m_ext, e_set, r_app, r_ext, a_fn, stabW, true_and, and_true] at go ⊢
    rcases e with rfl | rfl
    · simp only [wpCs, wpC, wpE, wpEs, wpI, p_nm, p_tup, p_lst, p_nil, p_cons, if_true, if_false, reduceIte, Bool.false_eq_true, startS, getS, setS, setAll, wipeS, List.map_cons, List.map_nil, List.length_cons, List.length_nil, List.cons_append, List.nil_append, List.append_nil, Nat.reduceAdd, Nat.reduceSub, Nat.zero_add, List.replicate_succ, List.replicate_zero, imAll, Option.map_some, Option.bind_some, exists_eq_left, exists_eq_left', Option.some.injEq, W.im.injEq, T.int.injEq, T.bl.injEq, T.str.injEq, T.tup.injEq, T.lst.injEq, w_bin, w_cmp, w_un, w_blt, w_attr, w_ix, w_sl0, w_sl1, w_sl2, w_rev, w_tup, w_lst, w_nlst, b_addI, b_addS, b_addT, b_addL, b_subI, b_mulI, b_divI, b_modI, b_powI, c_lt, c_le, c_gt, c_ge, c_is, c_isn, c_eqI, c_neI, c_eqB, c_neB, c_eqS, c_neS, c_eqN, c_in, c_nin, n_intI, n_non, u_neg, i_len, i_abs, i_min, i_max, i_intI, i_intB, i_tuple, i_list, i_all, i_any, i_isi, i_sorted, i_max1, i_min1, x_lst, x_tup, x_scr, x_mr, s_tup, s_lst, q_lst, q_tup, q_scr, l_lst, l_scr, ln_lst, k_lst, k_tup, k_scr, k_str, j_ty, j_cls, j_tup, m_app, m_ext, e_set, r_app, r_ext, a_fn, stabW, true_and, and_true]
      exact go
    · simp only [wpCs, wpC, wpE, wpEs, wpI, p_nm, p_tup, p_lst, p_nil, p_cons, if_true, if_false, reduceIte, Bool.false_eq_true, startS, getS, setS, setAll, wipeS, List.map_cons, List.map_nil, List.length_cons, List.length_nil, List.cons_append, List.nil_append, List.append_nil, Nat.reduceAdd, Nat.reduceSub, Nat.zero_add, List.replicate_succ, List.replicate_zero, imAll, Option.map_some, Option.bind_some, exists_eq_left, exists_eq_left', Option.some.injEq, W.im.injEq, T.int.injEq, T.bl.injEq, T.str.injEq, T.tup.injEq, T.lst.injEq, w_bin, w_cmp, w_un, w_blt, w_attr, w_ix, w_sl0, w_sl1, w_sl2, w_rev, w_tup, w_lst, w_nlst, b_addI, b_addS, b_addT, b_addL, b_subI, b_mulI, b_divI, b_modI, b_powI, c_lt, c_le, c_gt, c_ge, c_is, c_isn, c_eqI, c_neI, c_eqB, c_neB, c_eqS, c_neS, c_eqN, c_in, c_nin, n_intI, n_non, u_neg, i_len, i_abs, i_min, i_max, i_intI, i_intB, i_tuple, i_list, i_all, i_any, i_isi, i_sorted, i_max1, i_min1, x_lst, x_tup, x_scr, x_mr, s_tup, s_lst, q_lst, q_tup, q_scr, l_lst, l_scr, ln_lst, k_lst, k_tup, k_scr, k_str, j_ty, j_cls, j_tup, m_app, m_ext, e_set, r_app, r_ext, a_fn, stabW, true_and, and_true]
      exact go
theorem does__law_probes : Does ir__law_probes nm__law_probes 3 sp__law_probes := by
  rintro ws S Q X ⟨j, top, ls, rfl, hj, ht, hl, hp, h⟩
  refine ⟨rfl, ?_⟩
  have hz : sizeLine = 16777216 := rfl
  simp only [ir__law_probes, nm__law_probes, u_choose, wpCs, wpC, wpE, wpEs, wpI, p_nm, p_tup, p_lst, p_nil, p_cons, if_true, if_false, reduceIte, Bool.false_eq_true, startS, getS, setS, setAll, wipeS, List.map_cons, List.map_nil, List.length_cons, List.length_nil, List.cons_append, List.nil_append, List.append_nil, Nat.reduceAdd, Nat.reduceSub, Nat.zero_add, List.replicate_succ, List.replicate_zero, imAll, Option.map_some, Option.bind_some, exists_eq_left, exists_eq_left', Option.some.injEq, W.im.injEq, T.int.injEq, T.bl.injEq, T.str.injEq, T.tup.injEq, T.lst.injEq, w_bin, w_cmp, w_un, w_blt, w_attr, w_ix, w_sl0, w_sl1, w_sl2, w_rev, w_tup, w_lst, w_nlst, b_addI, b_addS, b_addT, b_addL, b_subI, b_mulI, b_divI, b_modI, b_powI, c_lt, c_le, c_gt, c_ge, c_is, c_isn, c_eqI, c_neI, c_eqB, c_neB, c_eqS, c_neS, c_eqN, c_in, c_nin, n_intI, n_non, u_neg, i_len, i_abs, i_min, i_max, i_intI, i_intB, i_tuple, i_list, i_all, i_any, i_isi, i_sorted, i_max1, i_min1, x_lst, x_tup, x_scr, x_mr, s_tup, s_lst, q_lst, q_tup, q_scr, l_lst, l_scr, ln_lst, k_lst, k_tup, k_scr, k_str, j_ty, j_cls, j_tup, m_app, m_ext, e_set, r_app, r_ext, a_fn, stabW, true_and, and_true]
  refine ⟨div_small ⟨by omega, by omega⟩, hj, ⟨by omega, by omega⟩, fun a a0 a1 => ⟨hj, ⟨by omega, by omega⟩, fun b b0 b1 => ⟨by omega, ?_⟩⟩⟩
  refine ps_loop rfl (fun _ => trivial) ls [0, top, top / 2, a, b] _ _ _ _ (by simp; omega) hp fun ns x4 x5 x6 x7 hn => ?_
  have hget : (S ++ [MO.lst ((ns.map T.int).map W.im)])[S.length]? = some (.lst ((ns.map T.int).map W.im)) := by simp
  simp only [seq_mr hget, wpCs, wpC, wpE, wpEs, wpI, p_nm, p_tup, p_lst, p_nil, p_cons, if_true, if_false, reduceIte, Bool.false_eq_true, startS, getS, setS, setAll, wipeS, List.map_cons, List.map_nil, List.length_cons, List.length_nil, List.cons_append, List.nil_append, List.append_nil, Nat.reduceAdd, Nat.reduceSub, Nat.zero_add, List.replicate_succ, List.replicate_zero, imAll, Option.map_some, Option.bind_some, exists_eq_left, exists_eq_left', Option.some.injEq, W.im.injEq, T.int.injEq, T.bl.injEq, T.str.injEq, T.tup.injEq, T.lst.injEq, w_bin, w_cmp, w_un, w_blt, w_attr, w_ix, w_sl0, w_sl1, w_sl2, w_rev, w_tup, w_lst, w_nlst, b_addI, b_addS, b_addT, b_addL, b_subI, b_mulI, b_divI, b_modI, b_powI, c_lt, c_le, c_gt, c_ge, c_is, c_isn, c_eqI, c_neI, c_eqB, c_neB, c_eqS, c_neS, c_eqN, c_in, c_nin, n_intI, n_non, u_neg, i_len, i_abs, i_min, i_max, i_intI, i_intB, i_tuple, i_list, i_all, i_any, i_isi, i_sorted, i_max1, i_min1, x_lst, x_tup, x_scr, x_mr, s_tup, s_lst, q_lst, q_tup, q_scr, l_lst, l_scr, ln_lst, k_lst, k_tup, k_scr, k_str, j_ty, j_cls, j_tup, m_app, m_ext, e_set, r_app, r_ext, a_fn, stabW, true_and, and_true]
  refine lc_filter T.int T.int (fun x => decide (0 ≤ x) && decide (x ≤ top)) stab_refl ns [] _ (by simp; omega) (fun x _ => ?_) ?_
  · simp only [wpCs, wpC, wpE, wpEs, wpI, p_nm, p_tup, p_lst, p_nil, p_cons, if_true, if_false, reduceIte, Bool.false_eq_true, startS, getS, setS, setAll, wipeS, List.map_cons, List.map_nil, List.length_cons, List.length_nil, List.cons_append, List.nil_append, List.append_nil, Nat.reduceAdd, Nat.reduceSub, Nat.zero_add, List.replicate_succ, List.replicate_zero, imAll, Option.map_some, Option.bind_some, exists_eq_left, exists_eq_left', Option.some.injEq, W.im.injEq, T.int.injEq, T.bl.injEq, T.str.injEq, T.tup.injEq, T.lst.injEq, w_bin, w_cmp, w_un, w_blt, w_attr, w_ix, w_sl0, w_sl1, w_sl2, w_rev, w_tup, w_lst, w_nlst, b_addI, b_addS, b_addT, b_addL, b_subI, b_mulI, b_divI, b_modI, b_powI, c_lt, c_le, c_gt, c_ge, c_is, c_isn, c_eqI, c_neI, c_eqB, c_neB, c_eqS, c_neS, c_eqN, c_in, c_nin, n_intI, n_non, u_neg, i_len, i_abs, i_min, i_max, i_intI, i_intB, i_tuple, i_list, i_all, i_any, i_isi, i_sorted, i_max1, i_min1, x_lst, x_tup, x_scr, x_mr, s_tup, s_lst, q_lst, q_tup, q_scr, l_lst, l_scr, ln_lst, k_lst, k_tup, k_scr, k_str, j_ty, j_cls, j_tup, m_app, m_ext, e_set, r_app, r_ext, a_fn, stabW, true_and, and_true]
    refine ⟨fun R hR => ?_, fun _ R hR => hR⟩
    by_cases c : 0 ≤ x
    · simp only [c, decide_true, Bool.true_and, if_true, wpCs, wpC, wpE, wpEs, wpI, p_nm, p_tup, p_lst, p_nil, p_cons, if_true, if_false, reduceIte, Bool.false_eq_true, startS, getS, setS, setAll, wipeS, List.map_cons, List.map_nil, List.length_cons, List.length_nil, List.cons_append, List.nil_append, List.append_nil, Nat.reduceAdd, Nat.reduceSub, Nat.zero_add, List.replicate_succ, List.replicate_zero, imAll, Option.map_some, Option.bind_some, exists_eq_left, exists_eq_left', Option.some.injEq, W.im.injEq, T.int.injEq, T.bl.injEq, T.str.injEq, T.tup.injEq, T.lst.injEq, w_bin, w_cmp, w_un, w_blt, w_attr, w_ix, w_sl0, w_sl1, w_sl2, w_rev, w_tup, w_lst, w_nlst, b_addI, b_addS, b_addT, b_addL, b_subI, b_mulI, b_divI, b_modI, b_powI, c_lt, c_le, c_gt, c_ge, c_is, c_isn, c_eqI, c_neI, c_eqB, c_neB, c_eqS, c_neS, c_eqN, c_in, c_nin, n_intI, n_non, u_neg, i_len, i_abs, i_min, i_max, i_intI, i_intB, i_tuple, i_list, i_all, i_any, i_isi, i_sorted, i_max1, i_min1, x_lst, x_tup, x_scr, x_mr, s_tup, s_lst, q_lst, q_tup, q_scr, l_lst, l_scr, ln_lst, k_lst, k_tup, k_scr, k_str, j_ty, j_cls, j_tup, m_app, m_ext, e_set, r_app, r_ext, a_fn, stabW, true_and, and_true] at hR ⊢
      exact hR
    · simp only [c, decide_false, Bool.false_and, Bool.false_eq_true, if_false] at hR ⊢
      exact hR
  · rw [List.nil_append]
    refine rt_more (h _ (Nat.le_trans (List.length_filter_le _ _) hn) fun x hx => ?_)
    have := (List.mem_filter.mp hx).2
    rw [Bool.and_eq_true, decide_eq_true_eq, decide_eq_true_eq] at this
    exact this
end TW

namespace TW
open PySem L2
def sp_greatest_sources : Spec := fun ws S Q _ => ∃ p, ws = [.im (Ps.t p)] ∧ few (10 * p.pcs.length) ∧ Q (.im (.lst ((gsrc p.tgt p.top 0 (partsOf p.top p.pcs)).map Pt.t))) S
def sp_least_sources : Spec := fun ws S Q _ => ∃ p, ws = [.im (Ps.t p)] ∧ few (10 * p.pcs.length) ∧ Q (.im (.lst ((lsrc 0 (partsOf p.top p.pcs)).map Pt.t))) S
/-- a passage whose pieces are few -/
def Pfew (p : Ps) : Prop := ∃ n, Pok n p ∧ n ≤ 100000
def sp_at_most : Spec := fun ws S Q _ => ∃ p, ws = [.im (Ps.t p)] ∧ Pfew p ∧ (0 < p.v 0 → Q (.im .non) S) ∧ (p.v 0 = 0 → Q (.im (amPs p).t) S)
def sp_at_least : Spec := fun ws S Q _ => ∃ p, ws = [.im (Ps.t p)] ∧ Pfew p ∧ (p.v p.top < p.tgt → Q (.im .non) S) ∧ (p.v p.top = p.tgt → Q (.im (alPs p).t) S)
/-- 0 to 0 -/
def lowParts (p : Ps) : List Pt := match partsOf p.top p.pcs with
  | [] => []
  | a :: r => ⟨0, 0, 0, false⟩ :: ((if 0 < a.hi then [a.cut 1 a.hi] else []) ++ r)
def lowPs (p : Ps) : Ps := if p.top = 0 then mkPs 0 p.tgt [⟨0, 0, false⟩] else madeOf p.top p.tgt (lowParts p)
def lowF (p : Ps) (x : Int) : Int := if x = 0 then 0 else p.v x
/-- the top to the target -/
def raParts (p : Ps) : List Pt := match (partsOf p.top p.pcs).getLast? with
  | none => []
  | some a => (partsOf p.top p.pcs).dropLast ++ ((if a.lo < a.hi then [a.cut a.lo (a.hi - 1)] else []) ++ [⟨p.top, p.top, p.tgt, false⟩])
def raPs (p : Ps) : Ps := if p.top = 0 then mkPs 0 p.tgt [⟨0, p.tgt, false⟩] else madeOf p.top p.tgt (raParts p)
def raF (p : Ps) (x : Int) : Int := if x = p.top then p.tgt else p.v x
def sp_lowered : Spec := fun ws S Q _ => ∃ p, ws = [.im (Ps.t p)] ∧ Pfew p ∧ Q (.im (lowPs p).t) S
def sp_raised : Spec := fun ws S Q _ => ∃ p, ws = [.im (Ps.t p)] ∧ Pfew p ∧ Q (.im (raPs p).t) S
def ps_greatest_sources : List Str := ["passage"]
def nm_greatest_sources : List Str := ["passage", "part", "found", "at"]
def bd_greatest_sources_1 : Cs :=
  (.cons (.ifs (.pr (.cmp .Lt) (.cons (.var 3) (.cons (.pr (.attr "first") (.cons (.var 1) .nil)) .nil))) (.cons (.ex (.bm .append (.var 2) (.cons (.ap (.mk "Part") sp_Part___init__ (.cons (.var 3) (.cons (.pr (.bin .Sub) (.cons (.pr (.attr "first") (.cons (.var 1) .nil)) (.cons (.con (.int 1)) .nil))) (.cons (.pr (.bin .Sub) (.cons (.pr (.attr "low") (.cons (.var 1) .nil)) (.cons (.con (.int 1)) .nil))) (.cons (.con (.bl false)) .nil))))) .nil))) .nil) .nil)
  (.cons (.ifs (.pr (.cmp .Lt) (.cons (.pr (.attr "first") (.cons (.var 1) .nil)) (.cons (.me "Part" "last" sp_Part_last (.var 1) .nil) .nil))) (.cons (.ex (.bm .append (.var 2) (.cons (.ap (.mk "Part") sp_Part___init__ (.cons (.pr (.attr "first") (.cons (.var 1) .nil)) (.cons (.pr (.bin .Sub) (.cons (.me "Part" "last" sp_Part_last (.var 1) .nil) (.cons (.con (.int 1)) .nil))) (.cons (.pr (.attr "low") (.cons (.var 1) .nil)) (.cons (.con (.bl true)) .nil))))) .nil))) .nil) .nil)
  (.cons (.asg 3 (.me "Part" "last" sp_Part_last (.var 1) .nil)) .nil)))
def ir_greatest_sources : Cs :=
  (.cons (.par [2, 3] (.cons (.pr .nlst .nil) (.cons (.con (.int 0)) .nil)))
  (.cons (.fo (.nm 1) (.seq (.ap (.fn "parts_of") sp_parts_of (.cons (.var 0) .nil))) bd_greatest_sources_1)
  (.cons (.ret (.pr .lst (.star (.var 2) (.cons (.ap (.mk "Part") sp_Part___init__ (.cons (.var 3) (.cons (.pr (.attr "target") (.cons (.var 0) .nil)) (.cons (.pr (.attr "top") (.cons (.var 0) .nil)) (.cons (.con (.bl false)) .nil))))) .nil)))) .nil)))
def ps_least_sources : List Str := ["passage"]
def nm_least_sources : List Str := ["passage", "part", "found", "at"]
def bd_least_sources_1 : Cs :=
  (.cons (.ifs (.pr (.cmp .LtE) (.cons (.var 3) (.cons (.pr (.attr "first") (.cons (.var 1) .nil)) .nil))) (.cons (.ex (.bm .append (.var 2) (.cons (.ap (.mk "Part") sp_Part___init__ (.cons (.var 3) (.cons (.pr (.attr "first") (.cons (.var 1) .nil)) (.cons (.pr (.attr "low") (.cons (.var 1) .nil)) (.cons (.con (.bl false)) .nil))))) .nil))) .nil) .nil)
  (.cons (.ifs (.pr (.cmp .Lt) (.cons (.pr (.attr "first") (.cons (.var 1) .nil)) (.cons (.me "Part" "last" sp_Part_last (.var 1) .nil) .nil))) (.cons (.ex (.bm .append (.var 2) (.cons (.ap (.mk "Part") sp_Part___init__ (.cons (.pr (.bin .Add) (.cons (.pr (.attr "first") (.cons (.var 1) .nil)) (.cons (.con (.int 1)) .nil))) (.cons (.me "Part" "last" sp_Part_last (.var 1) .nil) (.cons (.pr (.bin .Add) (.cons (.pr (.attr "low") (.cons (.var 1) .nil)) (.cons (.con (.int 1)) .nil))) (.cons (.con (.bl true)) .nil))))) .nil))) .nil) .nil)
  (.cons (.asg 3 (.pr (.bin .Add) (.cons (.me "Part" "last" sp_Part_last (.var 1) .nil) (.cons (.con (.int 1)) .nil)))) .nil)))
def ir_least_sources : Cs :=
  (.cons (.par [2, 3] (.cons (.pr .nlst .nil) (.cons (.con (.int 0)) .nil)))
  (.cons (.fo (.nm 1) (.seq (.ap (.fn "parts_of") sp_parts_of (.cons (.var 0) .nil))) bd_least_sources_1)
  (.cons (.ret (.var 2)) .nil)))
def ps_at_most : List Str := ["p"]
def nm_at_most : List Str := ["p"]
def ir_at_most : Cs :=
  (.cons (.ifs (.pr (.cmp .Gt) (.cons (.ic "Passage" sp_Passage___call__ (.var 0) (.cons (.con (.int 0)) .nil)) (.cons (.con (.int 0)) .nil))) (.cons (.ret (.con .non)) .nil) .nil)
  (.cons (.ret (.ap (.fn "made_of") sp_made_of (.cons (.pr (.attr "target") (.cons (.var 0) .nil)) (.cons (.pr (.attr "top") (.cons (.var 0) .nil)) (.cons (.ap (.fn "greatest_sources") sp_greatest_sources (.cons (.var 0) .nil)) .nil))))) .nil))
def ps_at_least : List Str := ["p"]
def nm_at_least : List Str := ["p"]
def ir_at_least : Cs :=
  (.cons (.ifs (.pr (.cmp .Lt) (.cons (.ic "Passage" sp_Passage___call__ (.var 0) (.cons (.pr (.attr "top") (.cons (.var 0) .nil)) .nil)) (.cons (.pr (.attr "target") (.cons (.var 0) .nil)) .nil))) (.cons (.ret (.con .non)) .nil) .nil)
  (.cons (.ret (.ap (.fn "made_of") sp_made_of (.cons (.pr (.attr "target") (.cons (.var 0) .nil)) (.cons (.pr (.attr "top") (.cons (.var 0) .nil)) (.cons (.ap (.fn "least_sources") sp_least_sources (.cons (.var 0) .nil)) .nil))))) .nil))
def ps_lowered : List Str := ["p"]
def nm_lowered : List Str := ["p", "first", "rest_of_first"]
def ir_lowered : Cs :=
  (.cons (.ifs (.pr (.cmp .Eq) (.cons (.pr (.attr "top") (.cons (.var 0) .nil)) (.cons (.con (.int 0)) .nil))) (.cons (.ret (.ap (.mk "Passage") sp_Passage___init__ (.cons (.con (.int 0)) (.cons (.pr (.attr "target") (.cons (.var 0) .nil)) (.cons (.pr .lst (.cons (.pr .tup (.cons (.con (.int 0)) (.cons (.con (.int 0)) (.cons (.con (.bl false)) .nil)))) .nil)) .nil))))) .nil) .nil)
  (.cons (.asg 1 (.pr .ix (.cons (.ap (.fn "parts_of") sp_parts_of (.cons (.var 0) .nil)) (.cons (.con (.int 0)) .nil))))
  (.cons (.asg 2 (.ife (.pr (.cmp .Gt) (.cons (.pr (.attr "high") (.cons (.var 1) .nil)) (.cons (.con (.int 0)) .nil))) (.pr .lst (.cons (.me "Part" "cut" sp_Part_cut (.var 1) (.cons (.con (.int 1)) (.cons (.pr (.attr "high") (.cons (.var 1) .nil)) .nil))) .nil)) (.pr .lst .nil)))
  (.cons (.ret (.ap (.fn "made_of") sp_made_of (.cons (.pr (.attr "top") (.cons (.var 0) .nil)) (.cons (.pr (.attr "target") (.cons (.var 0) .nil)) (.cons (.pr .lst (.cons (.ap (.mk "Part") sp_Part___init__ (.cons (.con (.int 0)) (.cons (.con (.int 0)) (.cons (.con (.int 0)) (.cons (.con (.bl false)) .nil))))) (.star (.var 2) (.star (.pr (.sl true false) (.cons (.ap (.fn "parts_of") sp_parts_of (.cons (.var 0) .nil)) (.cons (.con (.int 1)) .nil))) .nil)))) .nil))))) .nil))))
def ps_raised : List Str := ["p"]
def nm_raised : List Str := ["p", "rest_of_last", "last", "others"]
def ir_raised : Cs :=
  (.cons (.ifs (.pr (.cmp .Eq) (.cons (.pr (.attr "top") (.cons (.var 0) .nil)) (.cons (.con (.int 0)) .nil))) (.cons (.ret (.ap (.mk "Passage") sp_Passage___init__ (.cons (.con (.int 0)) (.cons (.pr (.attr "target") (.cons (.var 0) .nil)) (.cons (.pr .lst (.cons (.pr .tup (.cons (.con (.int 0)) (.cons (.pr (.attr "target") (.cons (.var 0) .nil)) (.cons (.con (.bl false)) .nil)))) .nil)) .nil))))) .nil) .nil)
  (.cons (.sta 3 2 (.ap (.fn "parts_of") sp_parts_of (.cons (.var 0) .nil)))
  (.cons (.asg 1 (.ife (.pr (.cmp .Lt) (.cons (.pr (.attr "low") (.cons (.var 2) .nil)) (.cons (.pr (.attr "high") (.cons (.var 2) .nil)) .nil))) (.pr .lst (.cons (.me "Part" "cut" sp_Part_cut (.var 2) (.cons (.pr (.attr "low") (.cons (.var 2) .nil)) (.cons (.pr (.bin .Sub) (.cons (.pr (.attr "high") (.cons (.var 2) .nil)) (.cons (.con (.int 1)) .nil))) .nil))) .nil)) (.pr .lst .nil)))
  (.cons (.ret (.ap (.fn "made_of") sp_made_of (.cons (.pr (.attr "top") (.cons (.var 0) .nil)) (.cons (.pr (.attr "target") (.cons (.var 0) .nil)) (.cons (.pr .lst (.star (.var 3) (.star (.var 1) (.cons (.ap (.mk "Part") sp_Part___init__ (.cons (.pr (.attr "top") (.cons (.var 0) .nil)) (.cons (.pr (.attr "top") (.cons (.var 0) .nil)) (.cons (.pr (.attr "target") (.cons (.var 0) .nil)) (.cons (.con (.bl false)) .nil))))) .nil)))) .nil))))) .nil))))
theorem one_inj {p q : Ps} : [W.im p.t] = [W.im q.t] ↔ p = q := by
  simp only [List.cons.injEq, W.im.injEq, Ps.t_inj, and_true]
theorem mu_app {S : Sto} {k : Nat} {l : List Pt} {a : Pt} (hk : k = S.length) : (S ++ [MO.lst ((l.map Pt.t).map W.im)]).set k (.lst ((l.map Pt.t).map W.im ++ [.im a.t])) = S ++ [.lst (((l ++ [a]).map Pt.t).map W.im)] := by
  rw [hk, List.set_append_right _ _ (Nat.le_refl _), Nat.sub_self]
  simp
theorem mu_get {S : Sto} {k : Nat} {ws : List W} (hk : k = S.length) : (S ++ [MO.lst ws])[k]? = some (.lst ws) := by rw [hk]; simp
/-- the loop of greatest_sources; its end -/
def gsIn : Int → List Pt → List Pt
  | _, [] => []
  | at_, a :: r => (if at_ < a.f then [⟨at_, a.f - 1, a.lo - 1, false⟩] else []) ++ ((if a.f < a.last then [⟨a.f, a.last - 1, a.lo, true⟩] else []) ++ gsIn a.last r)
def gsEnd : Int → List Pt → Int
  | at_, [] => at_
  | _, a :: r => gsEnd a.last r
theorem gs_split {tgt top : Int} : ∀ (l : List Pt) (a : Int), gsrc tgt top a l = gsIn a l ++ [⟨gsEnd a l, tgt, top, false⟩]
  | [], a => rfl
  | b :: r, a => by
    rw [gsrc, gsIn, gsEnd, gs_split r b.last]
    simp
theorem gs_loop {S0 : Sto} {K : Post} {k : Nat} {w0 : Option W} {stab : Sto → Prop} (hst : ∀ S, stab S) (hk : k = S0.length) : ∀ (l acc : List Pt) (at_ : Int) (x1 : Option W), acc.length + 2 * l.length ≤ 1000000 →
    (∀ x1, K.nx [w0, x1, some (.mr k), some (.im (.int (gsEnd at_ l)))] (S0 ++ [.lst (((acc ++ gsIn at_ l).map Pt.t).map W.im)])) →
    forW (wpCs bd_greatest_sources_1) (.nm 1) stab (l.map Pt.t) [w0, x1, some (.mr k), some (.im (.int at_))] (S0 ++ [.lst ((acc.map Pt.t).map W.im)]) K
  | [], acc, at_, x1, hl, kk => by
    rw [List.map_nil, forW]
    refine ⟨hst _, ?_⟩
    have := kk x1
    rw [gsIn, List.append_nil] at this
    exact this
  | a :: l, acc, at_, x1, hl, kk => by
    have hz : sizeLine = 16777216 := rfl
    simp only [List.length_cons] at hl
    rw [List.map_cons, forW]
    refine ⟨hst _, ?_⟩
    have go : ∀ (b : List Pt), b.length ≤ 2 → b = (if at_ < a.f then [⟨at_, a.f - 1, a.lo - 1, false⟩] else []) ++ (if a.f < a.last then [⟨a.f, a.last - 1, a.lo, true⟩] else []) → forW (wpCs bd_greatest_sources_1) (.nm 1) stab (l.map Pt.t) [w0, some (.im a.t), some (.mr k), some (.im (.int a.last))] (S0 ++ [.lst (((acc ++ b).map Pt.t).map W.im)]) K := by
      intro b hb e
      refine gs_loop hst hk l (acc ++ b) a.last _ (by simp; omega) fun x1 => ?_
      have := kk x1
      rw [gsIn, gsEnd, ← List.append_assoc (if at_ < a.f then _ else _), ← e, ← List.append_assoc] at this
      exact this
    have s1 : ∀ ws : List W, (∃ ws', MO.lst ws = .lst ws') := fun ws => ⟨_, rfl⟩
    rw [p_nm]
    simp only [bd_greatest_sources_1, at_f, at_lo, nf_Pt nf_last, u_last, u_mkPart, mu_get hk, MO.lst.injEq, wpCs, wpC, wpE, wpEs, wpI, p_nm, p_tup, p_lst, p_nil, p_cons, if_true, if_false, reduceIte, Bool.false_eq_true, startS, getS, setS, setAll, wipeS, List.map_cons, List.map_nil, List.length_cons, List.length_nil, List.cons_append, List.nil_append, List.append_nil, Nat.reduceAdd, Nat.reduceSub, Nat.zero_add, List.replicate_succ, List.replicate_zero, imAll, Option.map_some, Option.bind_some, exists_eq_left, exists_eq_left', Option.some.injEq, W.im.injEq, T.int.injEq, T.bl.injEq, T.str.injEq, T.tup.injEq, T.lst.injEq, w_bin, w_cmp, w_un, w_blt, w_attr, w_ix, w_sl0, w_sl1, w_sl2, w_rev, w_tup, w_lst, w_nlst, b_addI, b_addS, b_addT, b_addL, b_subI, b_mulI, b_divI, b_modI, b_powI, c_lt, c_le, c_gt, c_ge, c_is, c_isn, c_eqI, c_neI, c_eqB, c_neB, c_eqS, c_neS, c_eqN, c_in, c_nin, n_intI, n_non, u_neg, i_len, i_abs, i_min, i_max, i_intI, i_intB, i_tuple, i_list, i_all, i_any, i_isi, i_sorted, i_max1, i_min1, x_lst, x_tup, x_scr, x_mr, s_tup, s_lst, q_lst, q_tup, q_scr, l_lst, l_scr, ln_lst, k_lst, k_tup, k_scr, k_str, j_ty, j_cls, j_tup, m_app, m_ext, e_set, r_app, r_ext, a_fn, stabW, true_and, and_true]
    by_cases c1 : at_ < a.f
    · simp only [c1, decide_true, if_true, mu_get hk, mu_app hk, MO.lst.injEq, wpCs, wpC, wpE, wpEs, wpI, p_nm, p_tup, p_lst, p_nil, p_cons, if_true, if_false, reduceIte, Bool.false_eq_true, startS, getS, setS, setAll, wipeS, List.map_cons, List.map_nil, List.length_cons, List.length_nil, List.cons_append, List.nil_append, List.append_nil, Nat.reduceAdd, Nat.reduceSub, Nat.zero_add, List.replicate_succ, List.replicate_zero, imAll, Option.map_some, Option.bind_some, exists_eq_left, exists_eq_left', Option.some.injEq, W.im.injEq, T.int.injEq, T.bl.injEq, T.str.injEq, T.tup.injEq, T.lst.injEq, w_bin, w_cmp, w_un, w_blt, w_attr, w_ix, w_sl0, w_sl1, w_sl2, w_rev, w_tup, w_lst, w_nlst, b_addI, b_addS, b_addT, b_addL, b_subI, b_mulI, b_divI, b_modI, b_powI, c_lt, c_le, c_gt, c_ge, c_is, c_isn, c_eqI, c_neI, c_eqB, c_neB, c_eqS, c_neS, c_eqN, c_in, c_nin, n_intI, n_non, u_neg, i_len, i_abs, i_min, i_max, i_intI, i_intB, i_tuple, i_list, i_all, i_any, i_isi, i_sorted, i_max1, i_min1, x_lst, x_tup, x_scr, x_mr, s_tup, s_lst, q_lst, q_tup, q_scr, l_lst, l_scr, ln_lst, k_lst, k_tup, k_scr, k_str, j_ty, j_cls, j_tup, m_app, m_ext, e_set, r_app, r_ext, a_fn, stabW, true_and, and_true] at go ⊢
      by_cases c2 : a.f < a.last
      · simp only [c2, decide_true, if_true, mu_get hk, mu_app hk, MO.lst.injEq, wpCs, wpC, wpE, wpEs, wpI, p_nm, p_tup, p_lst, p_nil, p_cons, if_true, if_false, reduceIte, Bool.false_eq_true, startS, getS, setS, setAll, wipeS, List.map_cons, List.map_nil, List.length_cons, List.length_nil, List.cons_append, List.nil_append, List.append_nil, Nat.reduceAdd, Nat.reduceSub, Nat.zero_add, List.replicate_succ, List.replicate_zero, imAll, Option.map_some, Option.bind_some, exists_eq_left, exists_eq_left', Option.some.injEq, W.im.injEq, T.int.injEq, T.bl.injEq, T.str.injEq, T.tup.injEq, T.lst.injEq, w_bin, w_cmp, w_un, w_blt, w_attr, w_ix, w_sl0, w_sl1, w_sl2, w_rev, w_tup, w_lst, w_nlst, b_addI, b_addS, b_addT, b_addL, b_subI, b_mulI, b_divI, b_modI, b_powI, c_lt, c_le, c_gt, c_ge, c_is, c_isn, c_eqI, c_neI, c_eqB, c_neB, c_eqS, c_neS, c_eqN, c_in, c_nin, n_intI, n_non, u_neg, i_len, i_abs, i_min, i_max, i_intI, i_intB, i_tuple, i_list, i_all, i_any, i_isi, i_sorted, i_max1, i_min1, x_lst, x_tup, x_scr, x_mr, s_tup, s_lst, q_lst, q_tup, q_scr, l_lst, l_scr, ln_lst, k_lst, k_tup, k_scr, k_str, j_ty, j_cls, j_tup, m_app, m_ext, e_set, r_app, r_ext, a_fn, stabW, true_and, and_true] at go ⊢
        refine ⟨⟨_, rfl⟩, by simp; omega, ⟨_, rfl⟩, by simp; omega, ?_⟩
        have := go [⟨at_, a.f - 1, a.lo - 1, false⟩, ⟨a.f, a.last - 1, a.lo, true⟩] (by simp) rfl
        rw [show acc ++ [⟨at_, a.f - 1, a.lo - 1, false⟩, ⟨a.f, a.last - 1, a.lo, true⟩] = acc ++ [⟨at_, a.f - 1, a.lo - 1, false⟩] ++ [⟨a.f, a.last - 1, a.lo, true⟩] by simp] at this
        exact this
      · simp only [c2, decide_false, Bool.false_eq_true, if_false, wpCs, wpC, wpE, wpEs, wpI, p_nm, p_tup, p_lst, p_nil, p_cons, if_true, if_false, reduceIte, Bool.false_eq_true, startS, getS, setS, setAll, wipeS, List.map_cons, List.map_nil, List.length_cons, List.length_nil, List.cons_append, List.nil_append, List.append_nil, Nat.reduceAdd, Nat.reduceSub, Nat.zero_add, List.replicate_succ, List.replicate_zero, imAll, Option.map_some, Option.bind_some, exists_eq_left, exists_eq_left', Option.some.injEq, W.im.injEq, T.int.injEq, T.bl.injEq, T.str.injEq, T.tup.injEq, T.lst.injEq, w_bin, w_cmp, w_un, w_blt, w_attr, w_ix, w_sl0, w_sl1, w_sl2, w_rev, w_tup, w_lst, w_nlst, b_addI, b_addS, b_addT, b_addL, b_subI, b_mulI, b_divI, b_modI, b_powI, c_lt, c_le, c_gt, c_ge, c_is, c_isn, c_eqI, c_neI, c_eqB, c_neB, c_eqS, c_neS, c_eqN, c_in, c_nin, n_intI, n_non, u_neg, i_len, i_abs, i_min, i_max, i_intI, i_intB, i_tuple, i_list, i_all, i_any, i_isi, i_sorted, i_max1, i_min1, x_lst, x_tup, x_scr, x_mr, s_tup, s_lst, q_lst, q_tup, q_scr, l_lst, l_scr, ln_lst, k_lst, k_tup, k_scr, k_str, j_ty, j_cls, j_tup, m_app, m_ext, e_set, r_app, r_ext, a_fn, stabW, true_and, and_true] at go ⊢
        refine ⟨⟨_, rfl⟩, by simp; omega, ?_⟩
        exact go [⟨at_, a.f - 1, a.lo - 1, false⟩] (by simp) rfl
    · simp only [c1, decide_false, Bool.false_eq_true, if_false, mu_get hk, MO.lst.injEq, wpCs, wpC, wpE, wpEs, wpI, p_nm, p_tup, p_lst, p_nil, p_cons, if_true, if_false, reduceIte, Bool.false_eq_true, startS, getS, setS, setAll, wipeS, List.map_cons, List.map_nil, List.length_cons, List.length_nil, List.cons_append, List.nil_append, List.append_nil, Nat.reduceAdd, Nat.reduceSub, Nat.zero_add, List.replicate_succ, List.replicate_zero, imAll, Option.map_some, Option.bind_some, exists_eq_left, exists_eq_left', Option.some.injEq, W.im.injEq, T.int.injEq, T.bl.injEq, T.str.injEq, T.tup.injEq, T.lst.injEq, w_bin, w_cmp, w_un, w_blt, w_attr, w_ix, w_sl0, w_sl1, w_sl2, w_rev, w_tup, w_lst, w_nlst, b_addI, b_addS, b_addT, b_addL, b_subI, b_mulI, b_divI, b_modI, b_powI, c_lt, c_le, c_gt, c_ge, c_is, c_isn, c_eqI, c_neI, c_eqB, c_neB, c_eqS, c_neS, c_eqN, c_in, c_nin, n_intI, n_non, u_neg, i_len, i_abs, i_min, i_max, i_intI, i_intB, i_tuple, i_list, i_all, i_any, i_isi, i_sorted, i_max1, i_min1, x_lst, x_tup, x_scr, x_mr, s_tup, s_lst, q_lst, q_tup, q_scr, l_lst, l_scr, ln_lst, k_lst, k_tup, k_scr, k_str, j_ty, j_cls, j_tup, m_app, m_ext, e_set, r_app, r_ext, a_fn, stabW, true_and, and_true] at go ⊢
      by_cases c2 : a.f < a.last
      · simp only [c2, decide_true, if_true, mu_get hk, mu_app hk, MO.lst.injEq, wpCs, wpC, wpE, wpEs, wpI, p_nm, p_tup, p_lst, p_nil, p_cons, if_true, if_false, reduceIte, Bool.false_eq_true, startS, getS, setS, setAll, wipeS, List.map_cons, List.map_nil, List.length_cons, List.length_nil, List.cons_append, List.nil_append, List.append_nil, Nat.reduceAdd, Nat.reduceSub, Nat.zero_add, List.replicate_succ, List.replicate_zero, imAll, Option.map_some, Option.bind_some, exists_eq_left, exists_eq_left', Option.some.injEq, W.im.injEq, T.int.injEq, T.bl.injEq, T.str.injEq, T.tup.injEq, T.lst.injEq, w_bin, w_cmp, w_un, w_blt, w_attr, w_ix, w_sl0, w_sl1, w_sl2, w_rev, w_tup, w_lst, w_nlst, b_addI, b_addS, b_addT, b_addL, b_subI, b_mulI, b_divI, b_modI, b_powI, c_lt, c_le, c_gt, c_ge, c_is, c_isn, c_eqI, c_neI, c_eqB, c_neB, c_eqS, c_neS, c_eqN, c_in, c_nin, n_intI, n_non, u_neg, i_len, i_abs, i_min, i_max, i_intI, i_intB, i_tuple, i_list, i_all, i_any, i_isi, i_sorted, i_max1, i_min1, x_lst, x_tup, x_scr, x_mr, s_tup, s_lst, q_lst, q_tup, q_scr, l_lst, l_scr, ln_lst, k_lst, k_tup, k_scr, k_str, j_ty, j_cls, j_tup, m_app, m_ext, e_set, r_app, r_ext, a_fn, stabW, true_and, and_true] at go ⊢
        refine ⟨⟨_, rfl⟩, by simp; omega, ?_⟩
        exact go [⟨a.f, a.last - 1, a.lo, true⟩] (by simp) rfl
      · simp only [c2, decide_false, Bool.false_eq_true, if_false, wpCs, wpC, wpE, wpEs, wpI, p_nm, p_tup, p_lst, p_nil, p_cons, if_true, if_false, reduceIte, Bool.false_eq_true, startS, getS, setS, setAll, wipeS, List.map_cons, List.map_nil, List.length_cons, List.length_nil, List.cons_append, List.nil_append, List.append_nil, Nat.reduceAdd, Nat.reduceSub, Nat.zero_add, List.replicate_succ, List.replicate_zero, imAll, Option.map_some, Option.bind_some, exists_eq_left, exists_eq_left', Option.some.injEq, W.im.injEq, T.int.injEq, T.bl.injEq, T.str.injEq, T.tup.injEq, T.lst.injEq, w_bin, w_cmp, w_un, w_blt, w_attr, w_ix, w_sl0, w_sl1, w_sl2, w_rev, w_tup, w_lst, w_nlst, b_addI, b_addS, b_addT, b_addL, b_subI, b_mulI, b_divI, b_modI, b_powI, c_lt, c_le, c_gt, c_ge, c_is, c_isn, c_eqI, c_neI, c_eqB, c_neB, c_eqS, c_neS, c_eqN, c_in, c_nin, n_intI, n_non, u_neg, i_len, i_abs, i_min, i_max, i_intI, i_intB, i_tuple, i_list, i_all, i_any, i_isi, i_sorted, i_max1, i_min1, x_lst, x_tup, x_scr, x_mr, s_tup, s_lst, q_lst, q_tup, q_scr, l_lst, l_scr, ln_lst, k_lst, k_tup, k_scr, k_str, j_ty, j_cls, j_tup, m_app, m_ext, e_set, r_app, r_ext, a_fn, stabW, true_and, and_true] at go ⊢
        have := go [] (by simp) rfl
        rw [List.append_nil] at this
        exact this
theorem gsIn_len : ∀ (l : List Pt) (a : Int), (gsIn a l).length ≤ 2 * l.length
  | [], a => by simp [gsIn]
  | b :: r, a => by
    have := gsIn_len r b.last
    simp only [gsIn, List.length_append, List.length_cons]
    split <;> split <;> simp only [List.length_cons, List.length_nil] <;> omega
theorem seq_mu {S : Sto} {ts : List T} : seqOf (S ++ [MO.lst (ts.map W.im)]) (.mr S.length) = some ts := seq_mr (mu_get rfl)
theorem does_greatest_sources : Does ir_greatest_sources nm_greatest_sources 1 sp_greatest_sources := by
  rintro ws S Q X ⟨p, rfl, hf, h⟩
  refine ⟨rfl, ?_⟩
  have hz : sizeLine = 16777216 := rfl
  unfold few at hf
  simp only [ir_greatest_sources, nm_greatest_sources, u_parts, wpCs, wpC, wpE, wpEs, wpI, p_nm, p_tup, p_lst, p_nil, p_cons, if_true, if_false, reduceIte, Bool.false_eq_true, startS, getS, setS, setAll, wipeS, List.map_cons, List.map_nil, List.length_cons, List.length_nil, List.cons_append, List.nil_append, List.append_nil, Nat.reduceAdd, Nat.reduceSub, Nat.zero_add, List.replicate_succ, List.replicate_zero, imAll, Option.map_some, Option.bind_some, exists_eq_left, exists_eq_left', Option.some.injEq, W.im.injEq, T.int.injEq, T.bl.injEq, T.str.injEq, T.tup.injEq, T.lst.injEq, w_bin, w_cmp, w_un, w_blt, w_attr, w_ix, w_sl0, w_sl1, w_sl2, w_rev, w_tup, w_lst, w_nlst, b_addI, b_addS, b_addT, b_addL, b_subI, b_mulI, b_divI, b_modI, b_powI, c_lt, c_le, c_gt, c_ge, c_is, c_isn, c_eqI, c_neI, c_eqB, c_neB, c_eqS, c_neS, c_eqN, c_in, c_nin, n_intI, n_non, u_neg, i_len, i_abs, i_min, i_max, i_intI, i_intB, i_tuple, i_list, i_all, i_any, i_isi, i_sorted, i_max1, i_min1, x_lst, x_tup, x_scr, x_mr, s_tup, s_lst, q_lst, q_tup, q_scr, l_lst, l_scr, ln_lst, k_lst, k_tup, k_scr, k_str, j_ty, j_cls, j_tup, m_app, m_ext, e_set, r_app, r_ext, a_fn, stabW, true_and, and_true]
  refine ⟨by omega, by unfold few; omega, ?_⟩
  refine gs_loop (by intro _; trivial) rfl (partsOf p.top p.pcs) [] 0 _ (by rw [pLen]; simp; omega) fun x1 => ?_
  have l1 := gsIn_len (partsOf p.top p.pcs) 0
  rw [pLen] at l1
  rw [List.nil_append]
  simp only [at_top, at_tgt, u_mkPart, seq_mu, wpCs, wpC, wpE, wpEs, wpI, p_nm, p_tup, p_lst, p_nil, p_cons, if_true, if_false, reduceIte, Bool.false_eq_true, startS, getS, setS, setAll, wipeS, List.map_cons, List.map_nil, List.length_cons, List.length_nil, List.cons_append, List.nil_append, List.append_nil, Nat.reduceAdd, Nat.reduceSub, Nat.zero_add, List.replicate_succ, List.replicate_zero, imAll, Option.map_some, Option.bind_some, exists_eq_left, exists_eq_left', Option.some.injEq, W.im.injEq, T.int.injEq, T.bl.injEq, T.str.injEq, T.tup.injEq, T.lst.injEq, w_bin, w_cmp, w_un, w_blt, w_attr, w_ix, w_sl0, w_sl1, w_sl2, w_rev, w_tup, w_lst, w_nlst, b_addI, b_addS, b_addT, b_addL, b_subI, b_mulI, b_divI, b_modI, b_powI, c_lt, c_le, c_gt, c_ge, c_is, c_isn, c_eqI, c_neI, c_eqB, c_neB, c_eqS, c_neS, c_eqN, c_in, c_nin, n_intI, n_non, u_neg, i_len, i_abs, i_min, i_max, i_intI, i_intB, i_tuple, i_list, i_all, i_any, i_isi, i_sorted, i_max1, i_min1, x_lst, x_tup, x_scr, x_mr, s_tup, s_lst, q_lst, q_tup, q_scr, l_lst, l_scr, ln_lst, k_lst, k_tup, k_scr, k_str, j_ty, j_cls, j_tup, m_app, m_ext, e_set, r_app, r_ext, a_fn, stabW, true_and, and_true]
  refine ⟨(gsrc p.tgt p.top 0 (partsOf p.top p.pcs)).map Pt.t, ?_, ?_, rt_more h⟩
  · rw [gs_split, ← imAll_map]
    simp
  · rw [gs_split]
    simp
    omega
def lsIn : Int → List Pt → List Pt := lsrc
theorem ls_loop {S0 : Sto} {K : Post} {k : Nat} {w0 : Option W} {stab : Sto → Prop} (hst : ∀ S, stab S) (hk : k = S0.length) : ∀ (l acc : List Pt) (at_ : Int) (x1 : Option W), acc.length + 2 * l.length ≤ 1000000 →
    (∀ x1 x3, K.nx [w0, x1, some (.mr k), x3] (S0 ++ [.lst (((acc ++ lsrc at_ l).map Pt.t).map W.im)])) →
    forW (wpCs bd_least_sources_1) (.nm 1) stab (l.map Pt.t) [w0, x1, some (.mr k), some (.im (.int at_))] (S0 ++ [.lst ((acc.map Pt.t).map W.im)]) K
  | [], acc, at_, x1, hl, kk => by
    rw [List.map_nil, forW]
    refine ⟨hst _, ?_⟩
    have := kk x1 (some (.im (.int at_)))
    rw [lsrc, List.append_nil] at this
    exact this
  | a :: l, acc, at_, x1, hl, kk => by
    have hz : sizeLine = 16777216 := rfl
    simp only [List.length_cons] at hl
    rw [List.map_cons, forW]
    refine ⟨hst _, ?_⟩
    have go : ∀ (b : List Pt), b.length ≤ 2 → b = (if at_ ≤ a.f then [⟨at_, a.f, a.lo, false⟩] else []) ++ (if a.f < a.last then [⟨a.f + 1, a.last, a.lo + 1, true⟩] else []) → forW (wpCs bd_least_sources_1) (.nm 1) stab (l.map Pt.t) [w0, some (.im a.t), some (.mr k), some (.im (.int (a.last + 1)))] (S0 ++ [.lst (((acc ++ b).map Pt.t).map W.im)]) K := by
      intro b hb e
      refine ls_loop hst hk l (acc ++ b) (a.last + 1) _ (by simp; omega) fun x1 x3 => ?_
      have := kk x1 x3
      rw [lsrc, ← List.append_assoc (if at_ ≤ a.f then _ else _), ← e, ← List.append_assoc] at this
      exact this
    rw [p_nm]
    simp only [bd_least_sources_1, at_f, at_lo, nf_Pt nf_last, u_last, u_mkPart, mu_get hk, MO.lst.injEq, wpCs, wpC, wpE, wpEs, wpI, p_nm, p_tup, p_lst, p_nil, p_cons, if_true, if_false, reduceIte, Bool.false_eq_true, startS, getS, setS, setAll, wipeS, List.map_cons, List.map_nil, List.length_cons, List.length_nil, List.cons_append, List.nil_append, List.append_nil, Nat.reduceAdd, Nat.reduceSub, Nat.zero_add, List.replicate_succ, List.replicate_zero, imAll, Option.map_some, Option.bind_some, exists_eq_left, exists_eq_left', Option.some.injEq, W.im.injEq, T.int.injEq, T.bl.injEq, T.str.injEq, T.tup.injEq, T.lst.injEq, w_bin, w_cmp, w_un, w_blt, w_attr, w_ix, w_sl0, w_sl1, w_sl2, w_rev, w_tup, w_lst, w_nlst, b_addI, b_addS, b_addT, b_addL, b_subI, b_mulI, b_divI, b_modI, b_powI, c_lt, c_le, c_gt, c_ge, c_is, c_isn, c_eqI, c_neI, c_eqB, c_neB, c_eqS, c_neS, c_eqN, c_in, c_nin, n_intI, n_non, u_neg, i_len, i_abs, i_min, i_max, i_intI, i_intB, i_tuple, i_list, i_all, i_any, i_isi, i_sorted, i_max1, i_min1, x_lst, x_tup, x_scr, x_mr, s_tup, s_lst, q_lst, q_tup, q_scr, l_lst, l_scr, ln_lst, k_lst, k_tup, k_scr, k_str, j_ty, j_cls, j_tup, m_app, m_ext, e_set, r_app, r_ext, a_fn, stabW, true_and, and_true]
    by_cases c1 : at_ ≤ a.f
    · simp only [c1, decide_true, if_true, mu_get hk, mu_app hk, MO.lst.injEq, wpCs, wpC, wpE, wpEs, wpI, p_nm, p_tup, p_lst, p_nil, p_cons, if_true, if_false, reduceIte, Bool.false_eq_true, startS, getS, setS, setAll, wipeS, List.map_cons, List.map_nil, List.length_cons, List.length_nil, List.cons_append, List.nil_append, List.append_nil, Nat.reduceAdd, Nat.reduceSub, Nat.zero_add, List.replicate_succ, List.replicate_zero, imAll, Option.map_some, Option.bind_some, exists_eq_left, exists_eq_left', Option.some.injEq, W.im.injEq, T.int.injEq, T.bl.injEq, T.str.injEq, T.tup.injEq, T.lst.injEq, w_bin, w_cmp, w_un, w_blt, w_attr, w_ix, w_sl0, w_sl1, w_sl2, w_rev, w_tup, w_lst, w_nlst, b_addI, b_addS, b_addT, b_addL, b_subI, b_mulI, b_divI, b_modI, b_powI, c_lt, c_le, c_gt, c_ge, c_is, c_isn, c_eqI, c_neI, c_eqB, c_neB, c_eqS, c_neS, c_eqN, c_in, c_nin, n_intI, n_non, u_neg, i_len, i_abs, i_min, i_max, i_intI, i_intB, i_tuple, i_list, i_all, i_any, i_isi, i_sorted, i_max1, i_min1, x_lst, x_tup, x_scr, x_mr, s_tup, s_lst, q_lst, q_tup, q_scr, l_lst, l_scr, ln_lst, k_lst, k_tup, k_scr, k_str, j_ty, j_cls, j_tup, m_app, m_ext, e_set, r_app, r_ext, a_fn, stabW, true_and, and_true] at go ⊢
      by_cases c2 : a.f < a.last
      · simp only [c2, decide_true, if_true, mu_get hk, mu_app hk, MO.lst.injEq, wpCs, wpC, wpE, wpEs, wpI, p_nm, p_tup, p_lst, p_nil, p_cons, if_true, if_false, reduceIte, Bool.false_eq_true, startS, getS, setS, setAll, wipeS, List.map_cons, List.map_nil, List.length_cons, List.length_nil, List.cons_append, List.nil_append, List.append_nil, Nat.reduceAdd, Nat.reduceSub, Nat.zero_add, List.replicate_succ, List.replicate_zero, imAll, Option.map_some, Option.bind_some, exists_eq_left, exists_eq_left', Option.some.injEq, W.im.injEq, T.int.injEq, T.bl.injEq, T.str.injEq, T.tup.injEq, T.lst.injEq, w_bin, w_cmp, w_un, w_blt, w_attr, w_ix, w_sl0, w_sl1, w_sl2, w_rev, w_tup, w_lst, w_nlst, b_addI, b_addS, b_addT, b_addL, b_subI, b_mulI, b_divI, b_modI, b_powI, c_lt, c_le, c_gt, c_ge, c_is, c_isn, c_eqI, c_neI, c_eqB, c_neB, c_eqS, c_neS, c_eqN, c_in, c_nin, n_intI, n_non, u_neg, i_len, i_abs, i_min, i_max, i_intI, i_intB, i_tuple, i_list, i_all, i_any, i_isi, i_sorted, i_max1, i_min1, x_lst, x_tup, x_scr, x_mr, s_tup, s_lst, q_lst, q_tup, q_scr, l_lst, l_scr, ln_lst, k_lst, k_tup, k_scr, k_str, j_ty, j_cls, j_tup, m_app, m_ext, e_set, r_app, r_ext, a_fn, stabW, true_and, and_true] at go ⊢
        refine ⟨⟨_, rfl⟩, by simp; omega, ⟨_, rfl⟩, by simp; omega, ?_⟩
        have := go [⟨at_, a.f, a.lo, false⟩, ⟨a.f + 1, a.last, a.lo + 1, true⟩] (by simp) rfl
        rw [show acc ++ [⟨at_, a.f, a.lo, false⟩, ⟨a.f + 1, a.last, a.lo + 1, true⟩] = acc ++ [⟨at_, a.f, a.lo, false⟩] ++ [⟨a.f + 1, a.last, a.lo + 1, true⟩] by simp] at this
        exact this
      · simp only [c2, decide_false, Bool.false_eq_true, if_false, wpCs, wpC, wpE, wpEs, wpI, p_nm, p_tup, p_lst, p_nil, p_cons, if_true, if_false, reduceIte, Bool.false_eq_true, startS, getS, setS, setAll, wipeS, List.map_cons, List.map_nil, List.length_cons, List.length_nil, List.cons_append, List.nil_append, List.append_nil, Nat.reduceAdd, Nat.reduceSub, Nat.zero_add, List.replicate_succ, List.replicate_zero, imAll, Option.map_some, Option.bind_some, exists_eq_left, exists_eq_left', Option.some.injEq, W.im.injEq, T.int.injEq, T.bl.injEq, T.str.injEq, T.tup.injEq, T.lst.injEq, w_bin, w_cmp, w_un, w_blt, w_attr, w_ix, w_sl0, w_sl1, w_sl2, w_rev, w_tup, w_lst, w_nlst, b_addI, b_addS, b_addT, b_addL, b_subI, b_mulI, b_divI, b_modI, b_powI, c_lt, c_le, c_gt, c_ge, c_is, c_isn, c_eqI, c_neI, c_eqB, c_neB, c_eqS, c_neS, c_eqN, c_in, c_nin, n_intI, n_non, u_neg, i_len, i_abs, i_min, i_max, i_intI, i_intB, i_tuple, i_list, i_all, i_any, i_isi, i_sorted, i_max1, i_min1, x_lst, x_tup, x_scr, x_mr, s_tup, s_lst, q_lst, q_tup, q_scr, l_lst, l_scr, ln_lst, k_lst, k_tup, k_scr, k_str, j_ty, j_cls, j_tup, m_app, m_ext, e_set, r_app, r_ext, a_fn, stabW, true_and, and_true] at go ⊢
        refine ⟨⟨_, rfl⟩, by simp; omega, ?_⟩
        exact go [⟨at_, a.f, a.lo, false⟩] (by simp) rfl
    · simp only [c1, decide_false, Bool.false_eq_true, if_false, mu_get hk, MO.lst.injEq, wpCs, wpC, wpE, wpEs, wpI, p_nm, p_tup, p_lst, p_nil, p_cons, if_true, if_false, reduceIte, Bool.false_eq_true, startS, getS, setS, setAll, wipeS, List.map_cons, List.map_nil, List.length_cons, List.length_nil, List.cons_append, List.nil_append, List.append_nil, Nat.reduceAdd, Nat.reduceSub, Nat.zero_add, List.replicate_succ, List.replicate_zero, imAll, Option.map_some, Option.bind_some, exists_eq_left, exists_eq_left', Option.some.injEq, W.im.injEq, T.int.injEq, T.bl.injEq, T.str.injEq, T.tup.injEq, T.lst.injEq, w_bin, w_cmp, w_un, w_blt, w_attr, w_ix, w_sl0, w_sl1, w_sl2, w_rev, w_tup, w_lst, w_nlst, b_addI, b_addS, b_addT, b_addL, b_subI, b_mulI, b_divI, b_modI, b_powI, c_lt, c_le, c_gt, c_ge, c_is, c_isn, c_eqI, c_neI, c_eqB, c_neB, c_eqS, c_neS, c_eqN, c_in, c_nin, n_intI, n_non, u_neg, i_len, i_abs, i_min, i_max, i_intI, i_intB, i_tuple, i_list, i_all, i_any, i_isi, i_sorted, i_max1, i_min1, x_lst, x_tup, x_scr, x_mr, s_tup, s_lst, q_lst, q_tup, q_scr, l_lst, l_scr, ln_lst, k_lst, k_tup, k_scr, k_str, j_ty, j_cls, j_tup, m_app, m_ext, e_set, r_app, r_ext, a_fn, stabW, true_and, and_true] at go ⊢
      by_cases c2 : a.f < a.last
      · simp only [c2, decide_true, if_true, mu_get hk, mu_app hk, MO.lst.injEq, wpCs, wpC, wpE, wpEs, wpI, p_nm, p_tup, p_lst, p_nil, p_cons, if_true, if_false, reduceIte, Bool.false_eq_true, startS, getS, setS, setAll, wipeS, List.map_cons, List.map_nil, List.length_cons, List.length_nil, List.cons_append, List.nil_append, List.append_nil, Nat.reduceAdd, Nat.reduceSub, Nat.zero_add, List.replicate_succ, List.replicate_zero, imAll, Option.map_some, Option.bind_some, exists_eq_left, exists_eq_left', Option.some.injEq, W.im.injEq, T.int.injEq, T.bl.injEq, T.str.injEq, T.tup.injEq, T.lst.injEq, w_bin, w_cmp, w_un, w_blt, w_attr, w_ix, w_sl0, w_sl1, w_sl2, w_rev, w_tup, w_lst, w_nlst, b_addI, b_addS, b_addT, b_addL, b_subI, b_mulI, b_divI, b_modI, b_powI, c_lt, c_le, c_gt, c_ge, c_is, c_isn, c_eqI, c_neI, c_eqB, c_neB, c_eqS, c_neS, c_eqN, c_in, c_nin, n_intI, n_non, u_neg, i_len, i_abs, i_min, i_max, i_intI, i_intB, i_tuple, i_list, i_all, i_any, i_isi, i_sorted, i_max1, i_min1, x_lst, x_tup, x_scr, x_mr, s_tup, s_lst, q_lst, q_tup, q_scr, l_lst, l_scr, ln_lst, k_lst, k_tup, k_scr, k_str, j_ty, j_cls, j_tup, m_app, m_ext, e_set, r_app, r_ext, a_fn, stabW, true_and, and_true] at go ⊢
        refine ⟨⟨_, rfl⟩, by simp; omega, ?_⟩
        exact go [⟨a.f + 1, a.last, a.lo + 1, true⟩] (by simp) rfl
      · simp only [c2, decide_false, Bool.false_eq_true, if_false, wpCs, wpC, wpE, wpEs, wpI, p_nm, p_tup, p_lst, p_nil, p_cons, if_true, if_false, reduceIte, Bool.false_eq_true, startS, getS, setS, setAll, wipeS, List.map_cons, List.map_nil, List.length_cons, List.length_nil, List.cons_append, List.nil_append, List.append_nil, Nat.reduceAdd, Nat.reduceSub, Nat.zero_add, List.replicate_succ, List.replicate_zero, imAll, Option.map_some, Option.bind_some, exists_eq_left, exists_eq_left', Option.some.injEq, W.im.injEq, T.int.injEq, T.bl.injEq, T.str.injEq, T.tup.injEq, T.lst.injEq, w_bin, w_cmp, w_un, w_blt, w_attr, w_ix, w_sl0, w_sl1, w_sl2, w_rev, w_tup, w_lst, w_nlst, b_addI, b_addS, b_addT, b_addL, b_subI, b_mulI, b_divI, b_modI, b_powI, c_lt, c_le, c_gt, c_ge, c_is, c_isn, c_eqI, c_neI, c_eqB, c_neB, c_eqS, c_neS, c_eqN, c_in, c_nin, n_intI, n_non, u_neg, i_len, i_abs, i_min, i_max, i_intI, i_intB, i_tuple, i_list, i_all, i_any, i_isi, i_sorted, i_max1, i_min1, x_lst, x_tup, x_scr, x_mr, s_tup, s_lst, q_lst, q_tup, q_scr, l_lst, l_scr, ln_lst, k_lst, k_tup, k_scr, k_str, j_ty, j_cls, j_tup, m_app, m_ext, e_set, r_app, r_ext, a_fn, stabW, true_and, and_true] at go ⊢
        have := go [] (by simp) rfl
        rw [List.append_nil] at this
        exact this
theorem does_least_sources : Does ir_least_sources nm_least_sources 1 sp_least_sources := by
  rintro ws S Q X ⟨p, rfl, hf, h⟩
  refine ⟨rfl, ?_⟩
  have hz : sizeLine = 16777216 := rfl
  unfold few at hf
  simp only [ir_least_sources, nm_least_sources, u_parts, wpCs, wpC, wpE, wpEs, wpI, p_nm, p_tup, p_lst, p_nil, p_cons, if_true, if_false, reduceIte, Bool.false_eq_true, startS, getS, setS, setAll, wipeS, List.map_cons, List.map_nil, List.length_cons, List.length_nil, List.cons_append, List.nil_append, List.append_nil, Nat.reduceAdd, Nat.reduceSub, Nat.zero_add, List.replicate_succ, List.replicate_zero, imAll, Option.map_some, Option.bind_some, exists_eq_left, exists_eq_left', Option.some.injEq, W.im.injEq, T.int.injEq, T.bl.injEq, T.str.injEq, T.tup.injEq, T.lst.injEq, w_bin, w_cmp, w_un, w_blt, w_attr, w_ix, w_sl0, w_sl1, w_sl2, w_rev, w_tup, w_lst, w_nlst, b_addI, b_addS, b_addT, b_addL, b_subI, b_mulI, b_divI, b_modI, b_powI, c_lt, c_le, c_gt, c_ge, c_is, c_isn, c_eqI, c_neI, c_eqB, c_neB, c_eqS, c_neS, c_eqN, c_in, c_nin, n_intI, n_non, u_neg, i_len, i_abs, i_min, i_max, i_intI, i_intB, i_tuple, i_list, i_all, i_any, i_isi, i_sorted, i_max1, i_min1, x_lst, x_tup, x_scr, x_mr, s_tup, s_lst, q_lst, q_tup, q_scr, l_lst, l_scr, ln_lst, k_lst, k_tup, k_scr, k_str, j_ty, j_cls, j_tup, m_app, m_ext, e_set, r_app, r_ext, a_fn, stabW, true_and, and_true]
  refine ⟨by omega, by unfold few; omega, ?_⟩
  refine ls_loop (by intro _; trivial) rfl (partsOf p.top p.pcs) [] 0 _ (by rw [pLen]; simp; omega) fun x1 x3 => ?_
  rw [List.nil_append]
  simp only [wpCs, wpC, wpE, wpEs, wpI, p_nm, p_tup, p_lst, p_nil, p_cons, if_true, if_false, reduceIte, Bool.false_eq_true, startS, getS, setS, setAll, wipeS, List.map_cons, List.map_nil, List.length_cons, List.length_nil, List.cons_append, List.nil_append, List.append_nil, Nat.reduceAdd, Nat.reduceSub, Nat.zero_add, List.replicate_succ, List.replicate_zero, imAll, Option.map_some, Option.bind_some, exists_eq_left, exists_eq_left', Option.some.injEq, W.im.injEq, T.int.injEq, T.bl.injEq, T.str.injEq, T.tup.injEq, T.lst.injEq, w_bin, w_cmp, w_un, w_blt, w_attr, w_ix, w_sl0, w_sl1, w_sl2, w_rev, w_tup, w_lst, w_nlst, b_addI, b_addS, b_addT, b_addL, b_subI, b_mulI, b_divI, b_modI, b_powI, c_lt, c_le, c_gt, c_ge, c_is, c_isn, c_eqI, c_neI, c_eqB, c_neB, c_eqS, c_neS, c_eqN, c_in, c_nin, n_intI, n_non, u_neg, i_len, i_abs, i_min, i_max, i_intI, i_intB, i_tuple, i_list, i_all, i_any, i_isi, i_sorted, i_max1, i_min1, x_lst, x_tup, x_scr, x_mr, s_tup, s_lst, q_lst, q_tup, q_scr, l_lst, l_scr, ln_lst, k_lst, k_tup, k_scr, k_str, j_ty, j_cls, j_tup, m_app, m_ext, e_set, r_app, r_ext, a_fn, stabW, true_and, and_true]
  exact rt_lst (L := []) h
theorem u_gs {p : Ps} {S : Sto} {Q : VQ} {X : XQ} : sp_greatest_sources [.im p.t] S Q X ↔ few (10 * p.pcs.length) ∧ Q (.im (.lst ((gsrc p.tgt p.top 0 (partsOf p.top p.pcs)).map Pt.t))) S := by
  constructor
  · rintro ⟨p', e, h⟩
    rw [one_inj] at e
    subst e
    exact h
  · exact fun h => ⟨p, rfl, h⟩
theorem u_ls {p : Ps} {S : Sto} {Q : VQ} {X : XQ} : sp_least_sources [.im p.t] S Q X ↔ few (10 * p.pcs.length) ∧ Q (.im (.lst ((lsrc 0 (partsOf p.top p.pcs)).map Pt.t))) S := by
  constructor
  · rintro ⟨p', e, h⟩
    rw [one_inj] at e
    subst e
    exact h
  · exact fun h => ⟨p, rfl, h⟩
theorem u_made' {a b : Int} {l : List Pt} {S : Sto} {Q : VQ} {X : XQ} : sp_made_of [.im (.int a), .im (.int b), .im (.lst (l.map Pt.t))] S Q X ↔ madeOk a b l ∧ Q (.im (madeOf a b l).t) S := u_made rfl
theorem does_at_most : Does ir_at_most nm_at_most 1 sp_at_most := by
  rintro ws S Q X ⟨p, rfl, ⟨n, hp, hn⟩, h1, h2⟩
  refine ⟨rfl, ?_⟩
  have l := hp.len
  have ht := hp.top
  have r0 := hp.rg (x := 0) (by omega) ht
  simp only [ir_at_most, nm_at_most, ic_Ps, ic_Ps', u_call, at_top, at_tgt, u_gs, u_made', wpCs, wpC, wpE, wpEs, wpI, p_nm, p_tup, p_lst, p_nil, p_cons, if_true, if_false, reduceIte, Bool.false_eq_true, startS, getS, setS, setAll, wipeS, List.map_cons, List.map_nil, List.length_cons, List.length_nil, List.cons_append, List.nil_append, List.append_nil, Nat.reduceAdd, Nat.reduceSub, Nat.zero_add, List.replicate_succ, List.replicate_zero, imAll, Option.map_some, Option.bind_some, exists_eq_left, exists_eq_left', Option.some.injEq, W.im.injEq, T.int.injEq, T.bl.injEq, T.str.injEq, T.tup.injEq, T.lst.injEq, w_bin, w_cmp, w_un, w_blt, w_attr, w_ix, w_sl0, w_sl1, w_sl2, w_rev, w_tup, w_lst, w_nlst, b_addI, b_addS, b_addT, b_addL, b_subI, b_mulI, b_divI, b_modI, b_powI, c_lt, c_le, c_gt, c_ge, c_is, c_isn, c_eqI, c_neI, c_eqB, c_neB, c_eqS, c_neS, c_eqN, c_in, c_nin, n_intI, n_non, u_neg, i_len, i_abs, i_min, i_max, i_intI, i_intB, i_tuple, i_list, i_all, i_any, i_isi, i_sorted, i_max1, i_min1, x_lst, x_tup, x_scr, x_mr, s_tup, s_lst, q_lst, q_tup, q_scr, l_lst, l_scr, ln_lst, k_lst, k_tup, k_scr, k_str, j_ty, j_cls, j_tup, m_app, m_ext, e_set, r_app, r_ext, a_fn, stabW, true_and, and_true]
  refine ⟨⟨⟨n, hp, by omega⟩, by omega, ht⟩, ?_⟩
  by_cases c : 0 < p.v 0
  · simp only [c, decide_true, if_true]
    exact rt_im (h1 c)
  · simp only [c, decide_false, Bool.false_eq_true, if_false]
    have h0 : p.v 0 = 0 := by omega
    exact ⟨by unfold few; omega, (hp.amPs h0 (2 * n + 1) (Nat.le_refl _) (by omega)).1, rt_im (h2 h0)⟩
theorem does_at_least : Does ir_at_least nm_at_least 1 sp_at_least := by
  rintro ws S Q X ⟨p, rfl, ⟨n, hp, hn⟩, h1, h2⟩
  refine ⟨rfl, ?_⟩
  have l := hp.len
  have ht := hp.top
  have r0 := hp.rg (x := p.top) ht (Int.le_refl _)
  simp only [ir_at_least, nm_at_least, ic_Ps, ic_Ps', u_call, at_top, at_tgt, u_ls, u_made', wpCs, wpC, wpE, wpEs, wpI, p_nm, p_tup, p_lst, p_nil, p_cons, if_true, if_false, reduceIte, Bool.false_eq_true, startS, getS, setS, setAll, wipeS, List.map_cons, List.map_nil, List.length_cons, List.length_nil, List.cons_append, List.nil_append, List.append_nil, Nat.reduceAdd, Nat.reduceSub, Nat.zero_add, List.replicate_succ, List.replicate_zero, imAll, Option.map_some, Option.bind_some, exists_eq_left, exists_eq_left', Option.some.injEq, W.im.injEq, T.int.injEq, T.bl.injEq, T.str.injEq, T.tup.injEq, T.lst.injEq, w_bin, w_cmp, w_un, w_blt, w_attr, w_ix, w_sl0, w_sl1, w_sl2, w_rev, w_tup, w_lst, w_nlst, b_addI, b_addS, b_addT, b_addL, b_subI, b_mulI, b_divI, b_modI, b_powI, c_lt, c_le, c_gt, c_ge, c_is, c_isn, c_eqI, c_neI, c_eqB, c_neB, c_eqS, c_neS, c_eqN, c_in, c_nin, n_intI, n_non, u_neg, i_len, i_abs, i_min, i_max, i_intI, i_intB, i_tuple, i_list, i_all, i_any, i_isi, i_sorted, i_max1, i_min1, x_lst, x_tup, x_scr, x_mr, s_tup, s_lst, q_lst, q_tup, q_scr, l_lst, l_scr, ln_lst, k_lst, k_tup, k_scr, k_str, j_ty, j_cls, j_tup, m_app, m_ext, e_set, r_app, r_ext, a_fn, stabW, true_and, and_true]
  refine ⟨⟨⟨n, hp, by omega⟩, ht, by omega⟩, ?_⟩
  by_cases c : p.v p.top < p.tgt
  · simp only [c, decide_true, if_true]
    exact rt_im (h1 c)
  · simp only [c, decide_false, Bool.false_eq_true, if_false]
    have h0 : p.v p.top = p.tgt := by omega
    exact ⟨by unfold few; omega, (hp.alPs h0 (2 * n) (Nat.le_refl _) (by omega)).1, rt_im (h2 h0)⟩
theorem u_am {p : Ps} {S : Sto} {Q : VQ} {X : XQ} : sp_at_most [.im p.t] S Q X ↔ Pfew p ∧ (0 < p.v 0 → Q (.im .non) S) ∧ (p.v 0 = 0 → Q (.im (amPs p).t) S) := by
  constructor
  · rintro ⟨p', e, h⟩
    rw [one_inj] at e
    subst e
    exact h
  · exact fun h => ⟨p, rfl, h⟩
theorem u_al {p : Ps} {S : Sto} {Q : VQ} {X : XQ} : sp_at_least [.im p.t] S Q X ↔ Pfew p ∧ (p.v p.top < p.tgt → Q (.im .non) S) ∧ (p.v p.top = p.tgt → Q (.im (alPs p).t) S) := by
  constructor
  · rintro ⟨p', e, h⟩
    rw [one_inj] at e
    subst e
    exact h
  · exact fun h => ⟨p, rfl, h⟩
theorem Til.congr {F G : Int → Int} {top : Int} : ∀ {l : List Pt} {lo : Int}, Til F lo l top → (∀ x, lo ≤ x → x ≤ top → F x = G x) → Til G lo l top
  | [], lo, t, _ => t
  | a :: r, lo, ⟨t1, t2, t3, t4⟩, h => by
    have := t4.le
    exact ⟨t1, t2, fun x h1 h2 => by rw [← h x h1 (by omega)]; exact t3 x h1 h2, t4.congr fun x h1 h2 => h x (by omega) h2⟩
theorem single_are {t c : Int} (h : 0 ≤ t) (h0 : 0 ≤ c) (h1 : c ≤ t) : arePieces 0 t [⟨0, c, false⟩] = true := by
  have : ¬ c < 0 := by omega
  simp [arePieces, pieceOk, lastS, incr, chkP, endOf, h0, h1, this]
theorem single_ok {t c : Int} (h : 0 ≤ t) (h0 : 0 ≤ c) (h1 : c ≤ t) : Pok 1 (mkPs 0 t [⟨0, c, false⟩]) ∧ (mkPs 0 t [⟨0, c, false⟩]).v 0 = c := by
  obtain ⟨a, b⟩ := Pok.pieces (n := 1) (Int.le_refl 0) (single_are h h0 h1) (by simp)
  refine ⟨a, ?_⟩
  rw [b 0 (by omega) (by omega)]
  show resIn [⟨0, 0, c, false⟩] 0 = c
  rw [resIn_in (p := ⟨0, 0, c, false⟩) (Int.le_refl 0) (Int.le_refl 0)]
  simp [Pt.res]
section
variable {n : Nat} {p : Ps}
theorem low_til (h : Pok n p) (h0 : p.top ≠ 0) : Til (lowF p) 0 (lowParts p) p.top ∧ (lowParts p).length ≤ n + 1 := by
  have t := h.til
  have ht := h.top
  have l := h.len
  rw [← pLen (top := p.top)] at l
  unfold lowParts
  cases e : partsOf p.top p.pcs with
  | nil =>
    rw [e] at t
    have t : (0 : Int) = p.top + 1 := t
    omega
  | cons a r =>
    rw [e] at t l
    obtain ⟨t1, t2, t3, t4⟩ := t
    have le := t4.le
    refine ⟨⟨rfl, Int.le_refl _, fun x h1 h2 => ?_, ?_⟩, ?_⟩
    · have h2 : x ≤ 0 := h2
      have : x = 0 := by omega
      subst this
      rw [res_f rfl]
      simp [lowF]
    · show Til (lowF p) (0 + 1) _ _
      refine Til.opt (m := a.hi + 1) (fun c => ⟨rfl, by show (1 : Int) ≤ a.hi; omega, rfl, fun x h1 h2 => ?_⟩) (fun c => by omega) (t4.congr fun x h1 h2 => by rw [lowF, if_neg (by omega)])
      have h1 : (1 : Int) ≤ x := h1
      have h2 : x ≤ a.hi := h2
      rw [cut_res, lowF, if_neg (by omega)]
      exact t3 x (by omega) h2
    · simp only [List.length_cons, List.length_append] at l ⊢
      split <;> simp only [List.length_cons, List.length_nil] <;> omega
theorem Pok.low (h : Pok n p) (h6 : n + 1 ≤ 1000000) : Pok (n + 1) (lowPs p) ∧ (lowPs p).top = p.top ∧ (lowPs p).tgt = p.tgt ∧ (∀ x, 0 ≤ x → x ≤ p.top → (lowPs p).v x = lowF p x) ∧ (p.top ≠ 0 → madeOk p.top p.tgt (lowParts p)) := by
  unfold lowPs
  by_cases h0 : p.top = 0
  · rw [if_pos h0]
    obtain ⟨a, b⟩ := single_ok h.tgt (Int.le_refl 0) h.tgt
    refine ⟨a.up (by omega), h0.symm, rfl, fun x h1 h2 => ?_, fun z => absurd h0 z⟩
    have : x = 0 := by omega
    subst this
    rw [b]
    simp [lowF]
  · rw [if_neg h0]
    obtain ⟨t, l⟩ := low_til h h0
    have M := Pok.made (F := lowF p) (tgt := p.tgt) h.top l h6 t (fun x y h1 h2 h3 => by
      unfold lowF
      by_cases e : x = 0
      · rw [if_pos e]
        split
        · omega
        · exact (h.rg (by omega) h3).1
      · rw [if_neg e, if_neg (by omega)]
        exact h.le h1 h2 h3) (fun x h1 h2 => by
      unfold lowF
      have := h.rg h1 h2
      split <;> omega)
    exact ⟨M.2.1, rfl, rfl, M.2.2, fun _ => M.1⟩
theorem ra_til (h : Pok n p) (h0 : p.top ≠ 0) : Til (raF p) 0 (raParts p) p.top ∧ (raParts p).length ≤ n + 1 := by
  have t := h.til
  have ht := h.top
  have l := h.len
  rw [← pLen (top := p.top)] at l
  have hne := t.ne ht
  obtain ⟨qs, a, e⟩ := snoc_of hne
  have e2 : raParts p = qs ++ ((if a.lo < a.hi then [a.cut a.lo (a.hi - 1)] else []) ++ [⟨p.top, p.top, p.tgt, false⟩]) := by
    unfold raParts
    rw [e]
    simp
  rw [e2]
  rw [e] at t l
  have key : ∀ {qs : List Pt} {lo : Int}, Til p.v lo (qs ++ [a]) p.top → 0 ≤ lo → Til (raF p) lo (qs ++ ((if a.lo < a.hi then [a.cut a.lo (a.hi - 1)] else []) ++ [⟨p.top, p.top, p.tgt, false⟩])) p.top := by
    intro qs
    induction qs with
    | nil =>
      intro lo t l0
      obtain ⟨t1, t2, t3, t4⟩ := t
      have t4 : a.hi + 1 = p.top + 1 := t4
      have eh : a.hi = p.top := by omega
      refine Til.opt (m := p.top) (fun c => ⟨t1.symm, by show a.lo ≤ a.hi - 1; omega, by show p.top = a.hi - 1 + 1; omega, fun x h1 h2 => ?_⟩) (fun c => by omega) ⟨rfl, Int.le_refl _, fun x h1 h2 => ?_, rfl⟩
      · have h1 : a.lo ≤ x := h1
        have h2 : x ≤ a.hi - 1 := h2
        rw [cut_res, raF, if_neg (by omega)]
        exact t3 x (by omega) (by omega)
      · have h2 : x ≤ p.top := h2
        rw [res_f rfl, raF, if_pos (by omega)]
    | cons b qs ih =>
      intro lo ⟨t1, t2, t3, t4⟩ l0
      have le := t4.le
      have hlt : b.hi < p.top := by
        have : ∀ {l : List Pt} {m : Int}, Til p.v m (l ++ [a]) p.top → m ≤ p.top := by
          intro l
          induction l with
          | nil => intro m ⟨s1, s2, s3, s4⟩; have := s4.le; omega
          | cons c l ih => intro m ⟨s1, s2, s3, s4⟩; have := ih s4; omega
        have := this t4
        omega
      exact ⟨t1, t2, fun x h1 h2 => by rw [raF, if_neg (by omega)]; exact t3 x h1 h2, ih t4 (by omega)⟩
  refine ⟨key t (Int.le_refl _), ?_⟩
  simp only [List.length_append, List.length_cons, List.length_nil] at l ⊢
  split <;> simp only [List.length_cons, List.length_nil] <;> omega
theorem Pok.ra (h : Pok n p) (h6 : n + 1 ≤ 1000000) : Pok (n + 1) (raPs p) ∧ (raPs p).top = p.top ∧ (raPs p).tgt = p.tgt ∧ (∀ x, 0 ≤ x → x ≤ p.top → (raPs p).v x = raF p x) ∧ (p.top ≠ 0 → madeOk p.top p.tgt (raParts p)) := by
  unfold raPs
  by_cases h0 : p.top = 0
  · rw [if_pos h0]
    obtain ⟨a, b⟩ := single_ok h.tgt h.tgt (Int.le_refl _)
    refine ⟨a.up (by omega), h0.symm, rfl, fun x h1 h2 => ?_, fun z => absurd h0 z⟩
    have : x = 0 := by omega
    subst this
    rw [b, raF, if_pos h0.symm]
  · rw [if_neg h0]
    obtain ⟨t, l⟩ := ra_til h h0
    have M := Pok.made (F := raF p) (tgt := p.tgt) h.top l h6 t (fun x y h1 h2 h3 => by
      unfold raF
      by_cases e : y = p.top
      · rw [if_pos e]
        split
        · omega
        · exact (h.rg h1 (by omega)).2
      · rw [if_neg e, if_neg (by omega)]
        exact h.le h1 h2 h3) (fun x h1 h2 => by
      unfold raF
      have := h.rg h1 h2
      have := h.tgt
      split <;> omega)
    exact ⟨M.2.1, rfl, rfl, M.2.2, fun _ => M.1⟩
end
theorem does_lowered : Does ir_lowered nm_lowered 1 sp_lowered := by
  rintro ws S Q X ⟨p, rfl, ⟨n, hp, hn⟩, h⟩
  refine ⟨rfl, ?_⟩
  have hz : sizeLine = 16777216 := rfl
  have l := hp.len
  have lw := hp.low (by omega)
  have e1 : tPcs.dec (.lst [.tup [.int 0, .int 0, .bl false]]) = some [⟨0, 0, false⟩] := lcs_dec' [⟨0, 0, false⟩]
  simp only [ir_lowered, nm_lowered, at_top, at_tgt, u_parts, u_mkPart, u_mkPassage e1, wpCs, wpC, wpE, wpEs, wpI, p_nm, p_tup, p_lst, p_nil, p_cons, if_true, if_false, reduceIte, Bool.false_eq_true, startS, getS, setS, setAll, wipeS, List.map_cons, List.map_nil, List.length_cons, List.length_nil, List.cons_append, List.nil_append, List.append_nil, Nat.reduceAdd, Nat.reduceSub, Nat.zero_add, List.replicate_succ, List.replicate_zero, imAll, Option.map_some, Option.bind_some, exists_eq_left, exists_eq_left', Option.some.injEq, W.im.injEq, T.int.injEq, T.bl.injEq, T.str.injEq, T.tup.injEq, T.lst.injEq, w_bin, w_cmp, w_un, w_blt, w_attr, w_ix, w_sl0, w_sl1, w_sl2, w_rev, w_tup, w_lst, w_nlst, b_addI, b_addS, b_addT, b_addL, b_subI, b_mulI, b_divI, b_modI, b_powI, c_lt, c_le, c_gt, c_ge, c_is, c_isn, c_eqI, c_neI, c_eqB, c_neB, c_eqS, c_neS, c_eqN, c_in, c_nin, n_intI, n_non, u_neg, i_len, i_abs, i_min, i_max, i_intI, i_intB, i_tuple, i_list, i_all, i_any, i_isi, i_sorted, i_max1, i_min1, x_lst, x_tup, x_scr, x_mr, s_tup, s_lst, q_lst, q_tup, q_scr, l_lst, l_scr, ln_lst, k_lst, k_tup, k_scr, k_str, j_ty, j_cls, j_tup, m_app, m_ext, e_set, r_app, r_ext, a_fn, stabW, true_and, and_true]
  by_cases c : p.top = 0
  · simp only [c, decide_true, if_true]
    rw [lowPs, if_pos c] at h
    exact ⟨by omega, by omega, ⟨by unfold few; decide, by omega, hp.tgt, single_are hp.tgt (Int.le_refl 0) hp.tgt⟩, rt_im h⟩
  · simp only [c, decide_false, Bool.false_eq_true, if_false]
    rw [lowPs, if_neg c] at h
    have M := lw.2.2.2.2 c
    unfold lowParts at M h
    have lp := pLen (top := p.top) (l := p.pcs)
    cases e : partsOf p.top p.pcs with
    | nil =>
      have t := hp.til
      rw [e] at t
      have t : (0 : Int) = p.top + 1 := t
      have := hp.top
      omega
    | cons a r =>
      rw [e] at M h lp
      simp only [List.length_cons] at lp
      simp only [List.map_cons, at0, at_hi, nf_Pt nf_cut, u_cut, cut1, wpCs, wpC, wpE, wpEs, wpI, p_nm, p_tup, p_lst, p_nil, p_cons, if_true, if_false, reduceIte, Bool.false_eq_true, startS, getS, setS, setAll, wipeS, List.map_cons, List.map_nil, List.length_cons, List.length_nil, List.cons_append, List.nil_append, List.append_nil, Nat.reduceAdd, Nat.reduceSub, Nat.zero_add, List.replicate_succ, List.replicate_zero, imAll, Option.map_some, Option.bind_some, exists_eq_left, exists_eq_left', Option.some.injEq, W.im.injEq, T.int.injEq, T.bl.injEq, T.str.injEq, T.tup.injEq, T.lst.injEq, w_bin, w_cmp, w_un, w_blt, w_attr, w_ix, w_sl0, w_sl1, w_sl2, w_rev, w_tup, w_lst, w_nlst, b_addI, b_addS, b_addT, b_addL, b_subI, b_mulI, b_divI, b_modI, b_powI, c_lt, c_le, c_gt, c_ge, c_is, c_isn, c_eqI, c_neI, c_eqB, c_neB, c_eqS, c_neS, c_eqN, c_in, c_nin, n_intI, n_non, u_neg, i_len, i_abs, i_min, i_max, i_intI, i_intB, i_tuple, i_list, i_all, i_any, i_isi, i_sorted, i_max1, i_min1, x_lst, x_tup, x_scr, x_mr, s_tup, s_lst, q_lst, q_tup, q_scr, l_lst, l_scr, ln_lst, k_lst, k_tup, k_scr, k_str, j_ty, j_cls, j_tup, m_app, m_ext, e_set, r_app, r_ext, a_fn, stabW, true_and, and_true]
      refine ⟨by unfold few; omega, ?_⟩
      by_cases c2 : 0 < a.hi
      · simp only [c2, decide_true, if_true] at M h ⊢
        refine ⟨by omega, by unfold few; omega, ?_⟩
        refine ⟨((⟨0, 0, 0, false⟩ :: ([a.cut 1 a.hi] ++ r) : List Pt)).map Pt.t, ?_, by simp; omega, ?_⟩
        · have im := imAll_map (r.map Pt.t)
          simp only [List.map_map] at im
          simp [im]
        · rw [u_made']
          exact ⟨M, rt_im h⟩
      · simp only [c2, decide_false, Bool.false_eq_true, if_false] at M h ⊢
        refine ⟨by omega, by unfold few; omega, ?_⟩
        refine ⟨((⟨0, 0, 0, false⟩ :: ([] ++ r) : List Pt)).map Pt.t, ?_, by simp; omega, ?_⟩
        · have im := imAll_map (r.map Pt.t)
          simp only [List.map_map] at im
          simp [im]
        · rw [u_made']
          exact ⟨M, rt_im h⟩
theorem does_raised : Does ir_raised nm_raised 1 sp_raised := by
  rintro ws S Q X ⟨p, rfl, ⟨n, hp, hn⟩, h⟩
  refine ⟨rfl, ?_⟩
  have hz : sizeLine = 16777216 := rfl
  have l := hp.len
  have lw := hp.ra (by omega)
  have e1 : tPcs.dec (.lst [.tup [.int 0, .int p.tgt, .bl false]]) = some [⟨0, p.tgt, false⟩] := lcs_dec' [⟨0, p.tgt, false⟩]
  simp only [ir_raised, nm_raised, at_top, at_tgt, u_parts, u_mkPart, u_mkPassage e1, wpCs, wpC, wpE, wpEs, wpI, p_nm, p_tup, p_lst, p_nil, p_cons, if_true, if_false, reduceIte, Bool.false_eq_true, startS, getS, setS, setAll, wipeS, List.map_cons, List.map_nil, List.length_cons, List.length_nil, List.cons_append, List.nil_append, List.append_nil, Nat.reduceAdd, Nat.reduceSub, Nat.zero_add, List.replicate_succ, List.replicate_zero, imAll, Option.map_some, Option.bind_some, exists_eq_left, exists_eq_left', Option.some.injEq, W.im.injEq, T.int.injEq, T.bl.injEq, T.str.injEq, T.tup.injEq, T.lst.injEq, w_bin, w_cmp, w_un, w_blt, w_attr, w_ix, w_sl0, w_sl1, w_sl2, w_rev, w_tup, w_lst, w_nlst, b_addI, b_addS, b_addT, b_addL, b_subI, b_mulI, b_divI, b_modI, b_powI, c_lt, c_le, c_gt, c_ge, c_is, c_isn, c_eqI, c_neI, c_eqB, c_neB, c_eqS, c_neS, c_eqN, c_in, c_nin, n_intI, n_non, u_neg, i_len, i_abs, i_min, i_max, i_intI, i_intB, i_tuple, i_list, i_all, i_any, i_isi, i_sorted, i_max1, i_min1, x_lst, x_tup, x_scr, x_mr, s_tup, s_lst, q_lst, q_tup, q_scr, l_lst, l_scr, ln_lst, k_lst, k_tup, k_scr, k_str, j_ty, j_cls, j_tup, m_app, m_ext, e_set, r_app, r_ext, a_fn, stabW, true_and, and_true]
  by_cases c : p.top = 0
  · simp only [c, decide_true, if_true]
    rw [raPs, if_pos c] at h
    exact ⟨by omega, by omega, ⟨by unfold few; decide, by omega, hp.tgt, single_are hp.tgt hp.tgt (Int.le_refl _)⟩, rt_im h⟩
  · simp only [c, decide_false, Bool.false_eq_true, if_false]
    rw [raPs, if_neg c] at h
    have M := lw.2.2.2.2 c
    obtain ⟨qs, a, e⟩ := snoc_of (hp.til.ne hp.top)
    have e2 : raParts p = qs ++ ((if a.lo < a.hi then [a.cut a.lo (a.hi - 1)] else []) ++ [⟨p.top, p.top, p.tgt, false⟩]) := by
      unfold raParts
      rw [e]
      simp
    rw [e2] at M h
    have lp := pLen (top := p.top) (l := p.pcs)
    rw [e] at lp ⊢
    simp only [List.length_append, List.length_cons, List.length_nil] at lp
    refine ⟨by unfold few; omega, qs.map Pt.t, a.t, by simp [lstOf, lstN], by simp; omega, ?_⟩
    simp only [at_lo, at_hi, nf_Pt nf_cut, u_cut, wpCs, wpC, wpE, wpEs, wpI, p_nm, p_tup, p_lst, p_nil, p_cons, if_true, if_false, reduceIte, Bool.false_eq_true, startS, getS, setS, setAll, wipeS, List.map_cons, List.map_nil, List.length_cons, List.length_nil, List.cons_append, List.nil_append, List.append_nil, Nat.reduceAdd, Nat.reduceSub, Nat.zero_add, List.replicate_succ, List.replicate_zero, imAll, Option.map_some, Option.bind_some, exists_eq_left, exists_eq_left', Option.some.injEq, W.im.injEq, T.int.injEq, T.bl.injEq, T.str.injEq, T.tup.injEq, T.lst.injEq, w_bin, w_cmp, w_un, w_blt, w_attr, w_ix, w_sl0, w_sl1, w_sl2, w_rev, w_tup, w_lst, w_nlst, b_addI, b_addS, b_addT, b_addL, b_subI, b_mulI, b_divI, b_modI, b_powI, c_lt, c_le, c_gt, c_ge, c_is, c_isn, c_eqI, c_neI, c_eqB, c_neB, c_eqS, c_neS, c_eqN, c_in, c_nin, n_intI, n_non, u_neg, i_len, i_abs, i_min, i_max, i_intI, i_intB, i_tuple, i_list, i_all, i_any, i_isi, i_sorted, i_max1, i_min1, x_lst, x_tup, x_scr, x_mr, s_tup, s_lst, q_lst, q_tup, q_scr, l_lst, l_scr, ln_lst, k_lst, k_tup, k_scr, k_str, j_ty, j_cls, j_tup, m_app, m_ext, e_set, r_app, r_ext, a_fn, stabW, true_and, and_true]
    have im := imAll_map (qs.map Pt.t)
    by_cases c2 : a.lo < a.hi
    · simp only [c2, decide_true, if_true] at M h ⊢
      refine ⟨by omega, ?_⟩
      refine ⟨((qs ++ ([a.cut a.lo (a.hi - 1)] ++ [⟨p.top, p.top, p.tgt, false⟩]) : List Pt)).map Pt.t, ?_, by simp; omega, ?_⟩
      · rw [← imAll_map]
        simp
      · rw [u_made']
        exact ⟨M, rt_im h⟩
    · simp only [c2, decide_false, Bool.false_eq_true, if_false] at M h ⊢
      refine ⟨by omega, ?_⟩
      refine ⟨((qs ++ ([] ++ [⟨p.top, p.top, p.tgt, false⟩]) : List Pt)).map Pt.t, ?_, by simp; omega, ?_⟩
      · rw [← imAll_map]
        simp
      · rw [u_made']
        exact ⟨M, rt_im h⟩
theorem u_low {p : Ps} {S : Sto} {Q : VQ} {X : XQ} : sp_lowered [.im p.t] S Q X ↔ Pfew p ∧ Q (.im (lowPs p).t) S := by
  constructor
  · rintro ⟨p', e, h⟩
    rw [one_inj] at e
    subst e
    exact h
  · exact fun h => ⟨p, rfl, h⟩
theorem u_ra {p : Ps} {S : Sto} {Q : VQ} {X : XQ} : sp_raised [.im p.t] S Q X ↔ Pfew p ∧ Q (.im (raPs p).t) S := by
  constructor
  · rintro ⟨p', e, h⟩
    rw [one_inj] at e
    subst e
    exact h
  · exact fun h => ⟨p, rfl, h⟩
end TW

namespace TW
open PySem L2
section
variable {n m : Nat} {p q : Ps}
theorem til_cong {F G : Int → Int} {top : Int} : ∀ {l : List Pt} {lo : Int}, Til F lo l top → (∀ x, lo ≤ x → x ≤ top → F x = G x) → Til G lo l top
  | [], lo, t, _ => t
  | a :: l, lo, ⟨t1, t2, t3, t4⟩, h => by
    have := t4.le
    exact ⟨t1, t2, fun x x0 x1 => (h x x0 (by omega)).symm.trans (t3 x x0 x1), til_cong t4 fun x x0 x1 => h x (by omega) x1⟩
/-- the least source whose result reaches x, or one more than all -/
def ndF (q : Ps) (x : Int) : Int := if x ≤ q.v q.top then alF q x else q.top + 1
def ndL (p q : Ps) : List Pt := lsrc 0 (partsOf q.top q.pcs) ++ (if q.v q.top < p.top then [⟨q.v q.top + 1, p.top, p.tgt + 1, false⟩] else [])
def ndPs (p q : Ps) : Ps := madeOf p.top (p.tgt + 1) (ndL p q)
theorem Pok.nd (h : Pok n p) (h' : Pok m q) (e1 : p.top = q.tgt) (e2 : p.tgt = q.top) (k : Nat) (hk : 2 * m + 1 ≤ k) (k6 : k ≤ 1000000) : madeOk p.top (p.tgt + 1) (ndL p q) ∧ Pok k (ndPs p q) ∧ ∀ x, 0 ≤ x → x ≤ p.top → (ndPs p q).v x = ndF q x := by
  have ht := h.top
  have ht' := h'.top
  have t := lsrc_til h' _ 0 h'.til (Int.le_refl _) (by omega) 0 (by simp)
  have rg := h'.rg (x := q.top) ht' (Int.le_refl _)
  have l1 := lsrc_len (partsOf q.top q.pcs) 0
  rw [pLen] at l1
  have l2 := h'.len
  have t1 : Til (ndF q) 0 (lsrc 0 (partsOf q.top q.pcs)) (q.v q.top) := til_cong t fun x x0 x1 => by rw [ndF, if_pos x1]
  have t2 : Til (ndF q) 0 (ndL p q) p.top := by
    unfold ndL
    by_cases c : q.v q.top < p.top
    · rw [if_pos c]
      refine t1.append (Til.one (F := ndF q) (c := ⟨q.v q.top + 1, p.top, p.tgt + 1, false⟩) (by simp; omega) fun x x0 x1 => ?_)
      have x0 : q.v q.top + 1 ≤ x := x0
      rw [ndF, if_neg (by omega), Pt.res]
      simp
      omega
    · rw [if_neg c, List.append_nil]
      have : q.v q.top = p.top := by omega
      rw [← this]
      exact t1
  have rng : ∀ x, 0 ≤ x → x ≤ p.top → 0 ≤ ndF q x ∧ ndF q x ≤ p.tgt + 1 := fun x x0 x1 => by
    unfold ndF
    split
    · rename_i c
      have := (h'.al c).1
      omega
    · omega
  refine Pok.made (F := ndF q) h.top ?_ k6 t2 (fun x y a b c => ?_) rng
  · unfold ndL
    rw [List.length_append]
    split
    · simp only [List.length_cons, List.length_nil]; omega
    · simp only [List.length_nil]; omega
  · unfold ndF
    by_cases c1 : y ≤ q.v q.top
    · rw [if_pos c1, if_pos (by omega)]
      exact alF_mono h' b c1
    · rw [if_neg c1]
      split
      · rename_i c2
        have := (h'.al c2).1
        omega
      · omega
/-- it fits where it is the least source -/
theorem nd_fit (h' : Pok m q) {x y : Int} (x0 : 0 ≤ x) (y0 : 0 ≤ y) (y1 : y ≤ q.top) : ndF q x ≤ y ↔ x ≤ q.v y := by
  unfold ndF
  have mono := h'.le y0 y1 (Int.le_refl _)
  by_cases c : x ≤ q.v q.top
  · rw [if_pos c, h'.al_iff c y0 y1]
  · rw [if_neg c]
    omega
end
/-- two stretches that agree at two neighbours agree -/
theorem two_same {a b : Pt} {x : Int} (e : a.lo = b.lo) (h1 : a.res a.lo = b.res a.lo) (h2 : a.res (a.lo + 1) = b.res (a.lo + 1)) : a.res x = b.res x := by
  unfold Pt.res at *
  rw [← e] at *
  cases ha : a.r <;> cases hb : b.r <;> simp only [ha, hb, if_true, Bool.false_eq_true, if_false] at * <;> omega
end TW

namespace TW
open PySem L2
def sp_need_pair : Spec := fun ws S Q _ => ∃ p q, ws = [.im (Ps.t p), .im (Ps.t q)] ∧ (p.top = q.tgt ∧ p.tgt = q.top) ∧ Q (.im .non) S
def sp_misfit : Spec := fun ws S Q _ => ∃ p q, ws = [.im (Ps.t p), .im (Ps.t q)] ∧ ((p.top = q.tgt ∧ p.tgt = q.top) ∧ Pfew p ∧ Pfew q) ∧ ((∀ x, 0 ≤ x → x ≤ p.top → p.v x = ndF q x) → Q (.im .non) S) ∧
  ∀ x, 0 ≤ x → x ≤ p.top → p.v x ≠ ndF q x → (∀ z, 0 ≤ z → z < x → p.v z = ndF q z) → Q (.im (.tup [.int x, .int (mn (p.v x) (ndF q x))])) S
def sp_fits : Spec := fun ws S Q _ => ∃ p q, ws = [.im (Ps.t p), .im (Ps.t q)] ∧ ((p.top = q.tgt ∧ p.tgt = q.top) ∧ Pfew p ∧ Pfew q) ∧ ((∀ x, 0 ≤ x → x ≤ p.top → p.v x = ndF q x) → Q (.im (.bl true)) S) ∧
  ((∃ x, 0 ≤ x ∧ x ≤ p.top ∧ p.v x ≠ ndF q x) → Q (.im (.bl false)) S)
def ps_need_pair : List Str := ["p", "q"]
def nm_need_pair : List Str := ["p", "q"]
def ir_need_pair : Cs :=
  (.cons (.ifs (.or (.pr (.cmp .NotEq) (.cons (.pr (.attr "top") (.cons (.var 0) .nil)) (.cons (.pr (.attr "target") (.cons (.var 1) .nil)) .nil))) (.pr (.cmp .NotEq) (.cons (.pr (.attr "target") (.cons (.var 0) .nil)) (.cons (.pr (.attr "top") (.cons (.var 1) .nil)) .nil)))) (.cons .fail .nil) .nil) .nil)
def ps_misfit : List Str := ["p", "q"]
def nm_misfit : List Str := ["p", "q", "needed", "parts", "most", "one", "other", "x"]
def bd_misfit_1 : Cs :=
  (.cons (.ifs (.and (.pr (.cmp .LtE) (.cons (.var 7) (.cons (.pr (.attr "high") (.cons (.var 5) .nil)) .nil))) (.pr (.cmp .NotEq) (.cons (.me "Part" "result" sp_Part_result (.var 5) (.cons (.var 7) .nil)) (.cons (.me "Part" "result" sp_Part_result (.var 6) (.cons (.var 7) .nil)) .nil)))) (.cons (.ret (.pr .tup (.cons (.var 7) (.cons (.pr (.blt .min2) (.cons (.pr (.blt .int1) (.cons (.me "Part" "result" sp_Part_result (.var 5) (.cons (.var 7) .nil)) .nil)) (.cons (.pr (.blt .int1) (.cons (.me "Part" "result" sp_Part_result (.var 6) (.cons (.var 7) .nil)) .nil)) .nil))) .nil)))) .nil) .nil) .nil)
def bd_misfit_2 : Cs :=
  (.cons (.fo (.nm 7) (.seq (.pr .tup (.cons (.pr (.attr "low") (.cons (.var 5) .nil)) (.cons (.pr (.bin .Add) (.cons (.pr (.attr "low") (.cons (.var 5) .nil)) (.cons (.con (.int 1)) .nil))) (.cons (.pr (.attr "high") (.cons (.var 5) .nil)) .nil))))) bd_misfit_1) .nil)
def ir_misfit : Cs :=
  (.cons (.ex (.ap (.fn "need_pair") sp_need_pair (.cons (.var 0) (.cons (.var 1) .nil))))
  (.cons (.par [3, 4] (.cons (.ap (.fn "least_sources") sp_least_sources (.cons (.var 1) .nil)) (.cons (.ic "Passage" sp_Passage___call__ (.var 1) (.cons (.pr (.attr "top") (.cons (.var 1) .nil)) .nil)) .nil)))
  (.cons (.ifs (.pr (.cmp .Lt) (.cons (.var 4) (.cons (.pr (.attr "top") (.cons (.var 0) .nil)) .nil))) (.cons (.asg 3 (.pr .lst (.star (.var 3) (.cons (.ap (.mk "Part") sp_Part___init__ (.cons (.pr (.bin .Add) (.cons (.var 4) (.cons (.con (.int 1)) .nil))) (.cons (.pr (.attr "top") (.cons (.var 0) .nil)) (.cons (.pr (.bin .Add) (.cons (.pr (.attr "target") (.cons (.var 0) .nil)) (.cons (.con (.int 1)) .nil))) (.cons (.con (.bl false)) .nil))))) .nil)))) .nil) .nil)
  (.cons (.asg 2 (.ap (.fn "made_of") sp_made_of (.cons (.pr (.attr "top") (.cons (.var 0) .nil)) (.cons (.pr (.bin .Add) (.cons (.pr (.attr "target") (.cons (.var 0) .nil)) (.cons (.con (.int 1)) .nil))) (.cons (.var 3) .nil)))))
  (.cons (.fo (.tp (.cons (.nm 5) (.cons (.nm 6) .nil))) (.seq (.ap (.fn "common_parts") sp_common_parts (.cons (.var 0) (.cons (.var 2) .nil)))) bd_misfit_2)
  (.cons (.ret (.con .non)) .nil))))))
def ps_fits : List Str := ["p", "q"]
def nm_fits : List Str := ["p", "q"]
def ir_fits : Cs :=
  (.cons (.ret (.pr (.cmp .Is) (.cons (.ap (.fn "misfit") sp_misfit (.cons (.var 0) (.cons (.var 1) .nil))) (.cons (.con .non) .nil)))) .nil)
theorem two_inj {p q p' q' : Ps} : ([W.im (Ps.t p), W.im (Ps.t q)] = [W.im (Ps.t p'), W.im (Ps.t q')]) ↔ p = p' ∧ q = q' := by
  constructor
  · intro e
    simp only [List.cons.injEq, and_true] at e
    have h1 : [W.im (Ps.t p)] = [W.im (Ps.t p')] := by rw [e.1]
    have h2 : [W.im (Ps.t q)] = [W.im (Ps.t q')] := by rw [e.2]
    rw [one_inj] at h1 h2
    exact ⟨h1, h2⟩
  · rintro ⟨rfl, rfl⟩
    rfl
theorem u_need {p q : Ps} {S : Sto} {Q : VQ} {X : XQ} : sp_need_pair [.im p.t, .im q.t] S Q X ↔ (p.top = q.tgt ∧ p.tgt = q.top) ∧ Q (.im .non) S := by
  constructor
  · rintro ⟨p', q', e, h⟩
    rw [two_inj] at e
    obtain ⟨rfl, rfl⟩ := e
    exact h
  · exact fun h => ⟨p, q, rfl, h⟩
theorem does_need_pair : Does ir_need_pair nm_need_pair 2 sp_need_pair := by
  rintro ws S Q X ⟨p, q, rfl, ⟨e1, e2⟩, h⟩
  refine ⟨rfl, ?_⟩
  simp only [ir_need_pair, nm_need_pair, at_top, at_tgt, e1, e2, wpCs, wpC, wpE, wpEs, wpI, p_nm, p_tup, p_lst, p_nil, p_cons, if_true, if_false, reduceIte, Bool.false_eq_true, startS, getS, setS, setAll, wipeS, List.map_cons, List.map_nil, List.length_cons, List.length_nil, List.cons_append, List.nil_append, List.append_nil, Nat.reduceAdd, Nat.reduceSub, Nat.zero_add, List.replicate_succ, List.replicate_zero, imAll, Option.map_some, Option.bind_some, exists_eq_left, exists_eq_left', Option.some.injEq, W.im.injEq, T.int.injEq, T.bl.injEq, T.str.injEq, T.tup.injEq, T.lst.injEq, w_bin, w_cmp, w_un, w_blt, w_attr, w_ix, w_sl0, w_sl1, w_sl2, w_rev, w_tup, w_lst, w_nlst, b_addI, b_addS, b_addT, b_addL, b_subI, b_mulI, b_divI, b_modI, b_powI, c_lt, c_le, c_gt, c_ge, c_is, c_isn, c_eqI, c_neI, c_eqB, c_neB, c_eqS, c_neS, c_eqN, c_in, c_nin, n_intI, n_non, u_neg, i_len, i_abs, i_min, i_max, i_intI, i_intB, i_tuple, i_list, i_all, i_any, i_isi, i_sorted, i_max1, i_min1, x_lst, x_tup, x_scr, x_mr, s_tup, s_lst, q_lst, q_tup, q_scr, l_lst, l_scr, ln_lst, k_lst, k_tup, k_scr, k_str, j_ty, j_cls, j_tup, m_app, m_ext, e_set, r_app, r_ext, a_fn, stabW, true_and, and_true]
  simp only [decide_true, Bool.not_true, Bool.false_eq_true, if_false, wpCs, wpC, wpE, wpEs, wpI, p_nm, p_tup, p_lst, p_nil, p_cons, if_true, if_false, reduceIte, Bool.false_eq_true, startS, getS, setS, setAll, wipeS, List.map_cons, List.map_nil, List.length_cons, List.length_nil, List.cons_append, List.nil_append, List.append_nil, Nat.reduceAdd, Nat.reduceSub, Nat.zero_add, List.replicate_succ, List.replicate_zero, imAll, Option.map_some, Option.bind_some, exists_eq_left, exists_eq_left', Option.some.injEq, W.im.injEq, T.int.injEq, T.bl.injEq, T.str.injEq, T.tup.injEq, T.lst.injEq, w_bin, w_cmp, w_un, w_blt, w_attr, w_ix, w_sl0, w_sl1, w_sl2, w_rev, w_tup, w_lst, w_nlst, b_addI, b_addS, b_addT, b_addL, b_subI, b_mulI, b_divI, b_modI, b_powI, c_lt, c_le, c_gt, c_ge, c_is, c_isn, c_eqI, c_neI, c_eqB, c_neB, c_eqS, c_neS, c_eqN, c_in, c_nin, n_intI, n_non, u_neg, i_len, i_abs, i_min, i_max, i_intI, i_intB, i_tuple, i_list, i_all, i_any, i_isi, i_sorted, i_max1, i_min1, x_lst, x_tup, x_scr, x_mr, s_tup, s_lst, q_lst, q_tup, q_scr, l_lst, l_scr, ln_lst, k_lst, k_tup, k_scr, k_str, j_ty, j_cls, j_tup, m_app, m_ext, e_set, r_app, r_ext, a_fn, stabW, true_and, and_true]
  exact nx_keep h
theorem mis_in {a b : Pt} {x : Int} {K : Post} {S : Sto} {w0 w1 w2 w3 w4 : Option W} (hne : x ≤ a.hi → a.res x ≠ b.res x → K.rt (.im (.tup [.int x, .int (mn (a.res x) (b.res x))])) S) (heq : (x ≤ a.hi → a.res x = b.res x) → K.nx [w0, w1, w2, w3, w4, some (.im a.t), some (.im b.t), some (.im (.int x))] S) :
    wpCs bd_misfit_1 [w0, w1, w2, w3, w4, some (.im a.t), some (.im b.t), some (.im (.int x))] S K := by
  have hz : sizeLine = 16777216 := rfl
  have z2 : 2 ≤ sizeLine := by omega
  simp only [bd_misfit_1, at_hi, nf_Pt nf_result, u_result, z2, wpCs, wpC, wpE, wpEs, wpI, p_nm, p_tup, p_lst, p_nil, p_cons, if_true, if_false, reduceIte, Bool.false_eq_true, startS, getS, setS, setAll, wipeS, List.map_cons, List.map_nil, List.length_cons, List.length_nil, List.cons_append, List.nil_append, List.append_nil, Nat.reduceAdd, Nat.reduceSub, Nat.zero_add, List.replicate_succ, List.replicate_zero, imAll, Option.map_some, Option.bind_some, exists_eq_left, exists_eq_left', Option.some.injEq, W.im.injEq, T.int.injEq, T.bl.injEq, T.str.injEq, T.tup.injEq, T.lst.injEq, w_bin, w_cmp, w_un, w_blt, w_attr, w_ix, w_sl0, w_sl1, w_sl2, w_rev, w_tup, w_lst, w_nlst, b_addI, b_addS, b_addT, b_addL, b_subI, b_mulI, b_divI, b_modI, b_powI, c_lt, c_le, c_gt, c_ge, c_is, c_isn, c_eqI, c_neI, c_eqB, c_neB, c_eqS, c_neS, c_eqN, c_in, c_nin, n_intI, n_non, u_neg, i_len, i_abs, i_min, i_max, i_intI, i_intB, i_tuple, i_list, i_all, i_any, i_isi, i_sorted, i_max1, i_min1, x_lst, x_tup, x_scr, x_mr, s_tup, s_lst, q_lst, q_tup, q_scr, l_lst, l_scr, ln_lst, k_lst, k_tup, k_scr, k_str, j_ty, j_cls, j_tup, m_app, m_ext, e_set, r_app, r_ext, a_fn, stabW, true_and, and_true]
  by_cases c1 : x ≤ a.hi
  · by_cases c2 : a.res x = b.res x
    · simp only [c1, c2, decide_true, Bool.not_true, Bool.false_eq_true, if_true, if_false, wpCs, wpC, wpE, wpEs, wpI, p_nm, p_tup, p_lst, p_nil, p_cons, if_true, if_false, reduceIte, Bool.false_eq_true, startS, getS, setS, setAll, wipeS, List.map_cons, List.map_nil, List.length_cons, List.length_nil, List.cons_append, List.nil_append, List.append_nil, Nat.reduceAdd, Nat.reduceSub, Nat.zero_add, List.replicate_succ, List.replicate_zero, imAll, Option.map_some, Option.bind_some, exists_eq_left, exists_eq_left', Option.some.injEq, W.im.injEq, T.int.injEq, T.bl.injEq, T.str.injEq, T.tup.injEq, T.lst.injEq, w_bin, w_cmp, w_un, w_blt, w_attr, w_ix, w_sl0, w_sl1, w_sl2, w_rev, w_tup, w_lst, w_nlst, b_addI, b_addS, b_addT, b_addL, b_subI, b_mulI, b_divI, b_modI, b_powI, c_lt, c_le, c_gt, c_ge, c_is, c_isn, c_eqI, c_neI, c_eqB, c_neB, c_eqS, c_neS, c_eqN, c_in, c_nin, n_intI, n_non, u_neg, i_len, i_abs, i_min, i_max, i_intI, i_intB, i_tuple, i_list, i_all, i_any, i_isi, i_sorted, i_max1, i_min1, x_lst, x_tup, x_scr, x_mr, s_tup, s_lst, q_lst, q_tup, q_scr, l_lst, l_scr, ln_lst, k_lst, k_tup, k_scr, k_str, j_ty, j_cls, j_tup, m_app, m_ext, e_set, r_app, r_ext, a_fn, stabW, true_and, and_true]
      exact heq fun _ => c2
    · simp only [c1, c2, decide_true, decide_false, Bool.not_false, if_true, if_false, wpCs, wpC, wpE, wpEs, wpI, p_nm, p_tup, p_lst, p_nil, p_cons, if_true, if_false, reduceIte, Bool.false_eq_true, startS, getS, setS, setAll, wipeS, List.map_cons, List.map_nil, List.length_cons, List.length_nil, List.cons_append, List.nil_append, List.append_nil, Nat.reduceAdd, Nat.reduceSub, Nat.zero_add, List.replicate_succ, List.replicate_zero, imAll, Option.map_some, Option.bind_some, exists_eq_left, exists_eq_left', Option.some.injEq, W.im.injEq, T.int.injEq, T.bl.injEq, T.str.injEq, T.tup.injEq, T.lst.injEq, w_bin, w_cmp, w_un, w_blt, w_attr, w_ix, w_sl0, w_sl1, w_sl2, w_rev, w_tup, w_lst, w_nlst, b_addI, b_addS, b_addT, b_addL, b_subI, b_mulI, b_divI, b_modI, b_powI, c_lt, c_le, c_gt, c_ge, c_is, c_isn, c_eqI, c_neI, c_eqB, c_neB, c_eqS, c_neS, c_eqN, c_in, c_nin, n_intI, n_non, u_neg, i_len, i_abs, i_min, i_max, i_intI, i_intB, i_tuple, i_list, i_all, i_any, i_isi, i_sorted, i_max1, i_min1, x_lst, x_tup, x_scr, x_mr, s_tup, s_lst, q_lst, q_tup, q_scr, l_lst, l_scr, ln_lst, k_lst, k_tup, k_scr, k_str, j_ty, j_cls, j_tup, m_app, m_ext, e_set, r_app, r_ext, a_fn, stabW, true_and, and_true]
      exact hne c1 c2
  · simp only [c1, decide_false, Bool.false_eq_true, if_false, wpCs, wpC, wpE, wpEs, wpI, p_nm, p_tup, p_lst, p_nil, p_cons, if_true, if_false, reduceIte, Bool.false_eq_true, startS, getS, setS, setAll, wipeS, List.map_cons, List.map_nil, List.length_cons, List.length_nil, List.cons_append, List.nil_append, List.append_nil, Nat.reduceAdd, Nat.reduceSub, Nat.zero_add, List.replicate_succ, List.replicate_zero, imAll, Option.map_some, Option.bind_some, exists_eq_left, exists_eq_left', Option.some.injEq, W.im.injEq, T.int.injEq, T.bl.injEq, T.str.injEq, T.tup.injEq, T.lst.injEq, w_bin, w_cmp, w_un, w_blt, w_attr, w_ix, w_sl0, w_sl1, w_sl2, w_rev, w_tup, w_lst, w_nlst, b_addI, b_addS, b_addT, b_addL, b_subI, b_mulI, b_divI, b_modI, b_powI, c_lt, c_le, c_gt, c_ge, c_is, c_isn, c_eqI, c_neI, c_eqB, c_neB, c_eqS, c_neS, c_eqN, c_in, c_nin, n_intI, n_non, u_neg, i_len, i_abs, i_min, i_max, i_intI, i_intB, i_tuple, i_list, i_all, i_any, i_isi, i_sorted, i_max1, i_min1, x_lst, x_tup, x_scr, x_mr, s_tup, s_lst, q_lst, q_tup, q_scr, l_lst, l_scr, ln_lst, k_lst, k_tup, k_scr, k_str, j_ty, j_cls, j_tup, m_app, m_ext, e_set, r_app, r_ext, a_fn, stabW, true_and, and_true]
    exact heq fun h => absurd h c1
theorem mis_c {a b : Pt} {K : Post} {S : Sto} {w0 w1 w2 w3 w4 x7 : Option W} (e : a.lo = b.lo) (hl : a.lo ≤ a.hi) (hne : ∀ x, a.lo ≤ x → x ≤ a.hi → a.res x ≠ b.res x → (∀ z, a.lo ≤ z → z < x → a.res z = b.res z) → K.rt (.im (.tup [.int x, .int (mn (a.res x) (b.res x))])) S)
    (heq : (∀ z, a.lo ≤ z → z ≤ a.hi → a.res z = b.res z) → ∀ x7, K.nx [w0, w1, w2, w3, w4, some (.im a.t), some (.im b.t), x7] S) :
    wpCs bd_misfit_2 [w0, w1, w2, w3, w4, some (.im a.t), some (.im b.t), x7] S K := by
  have hz : sizeLine = 16777216 := rfl
  have z3 : 3 ≤ sizeLine := by omega
  simp only [bd_misfit_2, at_lo, at_hi, z3, wpCs, wpC, wpE, wpEs, wpI, p_nm, p_tup, p_lst, p_nil, p_cons, if_true, if_false, reduceIte, Bool.false_eq_true, startS, getS, setS, setAll, wipeS, List.map_cons, List.map_nil, List.length_cons, List.length_nil, List.cons_append, List.nil_append, List.append_nil, Nat.reduceAdd, Nat.reduceSub, Nat.zero_add, List.replicate_succ, List.replicate_zero, imAll, Option.map_some, Option.bind_some, exists_eq_left, exists_eq_left', Option.some.injEq, W.im.injEq, T.int.injEq, T.bl.injEq, T.str.injEq, T.tup.injEq, T.lst.injEq, w_bin, w_cmp, w_un, w_blt, w_attr, w_ix, w_sl0, w_sl1, w_sl2, w_rev, w_tup, w_lst, w_nlst, b_addI, b_addS, b_addT, b_addL, b_subI, b_mulI, b_divI, b_modI, b_powI, c_lt, c_le, c_gt, c_ge, c_is, c_isn, c_eqI, c_neI, c_eqB, c_neB, c_eqS, c_neS, c_eqN, c_in, c_nin, n_intI, n_non, u_neg, i_len, i_abs, i_min, i_max, i_intI, i_intB, i_tuple, i_list, i_all, i_any, i_isi, i_sorted, i_max1, i_min1, x_lst, x_tup, x_scr, x_mr, s_tup, s_lst, q_lst, q_tup, q_scr, l_lst, l_scr, ln_lst, k_lst, k_tup, k_scr, k_str, j_ty, j_cls, j_tup, m_app, m_ext, e_set, r_app, r_ext, a_fn, stabW, true_and, and_true]
  rw [forW]
  refine ⟨trivial, ?_⟩
  rw [p_nm]
  refine mis_in (fun c1 c2 => hne _ (Int.le_refl _) c1 c2 fun z z0 z1 => by omega) fun e1 => ?_
  have e1 := e1 hl
  show forW _ _ _ _ _ _ _
  rw [forW]
  refine ⟨trivial, ?_⟩
  rw [p_nm]
  refine mis_in (fun c1 c2 => hne _ (by omega) c1 c2 fun z z0 z1 => by rw [show z = a.lo by omega]; exact e1) fun e2 => ?_
  have all : ∀ z, a.lo ≤ z → z ≤ a.hi → a.res z = b.res z := fun z z0 z1 => by
    by_cases c : a.lo + 1 ≤ a.hi
    · exact two_same e e1 (e2 c)
    · rw [show z = a.lo by omega]
      exact e1
  show forW _ _ _ _ _ _ _
  rw [forW]
  refine ⟨trivial, ?_⟩
  rw [p_nm]
  refine mis_in (fun c1 c2 => absurd (all _ hl (Int.le_refl _)) c2) fun e3 => ?_
  show forW _ _ _ _ _ _ _
  rw [forW]
  exact ⟨trivial, heq all _⟩
theorem mis_loop {F G : Int → Int} {top : Int} {K : Post} {S : Sto} {w0 w1 w2 w3 w4 : Option W} {stab : Sto → Prop} (hs : stab S)
    (hrt : ∀ x, 0 ≤ x → x ≤ top → F x ≠ G x → (∀ z, 0 ≤ z → z < x → F z = G z) → K.rt (.im (.tup [.int x, .int (mn (F x) (G x))])) S) (hnx : (∀ z, 0 ≤ z → z ≤ top → F z = G z) → ∀ ρ, K.nx ρ S) :
    ∀ (cs : List (Pt × Pt)) (lo : Int) (x5 x6 x7 : Option W), Til2 F G lo cs top → 0 ≤ lo → (∀ z, 0 ≤ z → z < lo → F z = G z) →
    forW (wpCs bd_misfit_2) (.tp (.cons (.nm 5) (.cons (.nm 6) .nil))) stab (cs.map fun c => T.tup [c.1.t, c.2.t]) [w0, w1, w2, w3, w4, x5, x6, x7] S K
  | [], lo, x5, x6, x7, t, l0, hz => by
    rw [List.map_nil, forW]
    have t : lo = top + 1 := t
    exact ⟨hs, hnx (fun z z0 z1 => hz z z0 (by omega)) _⟩
  | c :: cs, lo, x5, x6, x7, ⟨t1, t2, t3, t4, t5, t6⟩, l0, hz => by
    have hl : sizeLine = 16777216 := rfl
    have z3 : 3 ≤ sizeLine := by omega
    have tl : c.1.hi ≤ top := by
      have : ∀ {cs : List (Pt × Pt)} {lo : Int}, Til2 F G lo cs top → lo ≤ top + 1 := by
        intro cs
        induction cs with
        | nil => intro lo t; exact Int.le_of_eq t
        | cons d ds ih => rintro lo ⟨_, _, _, a, _, b⟩; have := ih b; omega
      have := this t6
      omega
    rw [List.map_cons, forW]
    refine ⟨hs, ?_⟩
    simp only [wpCs, wpC, wpE, wpEs, wpI, p_nm, p_tup, p_lst, p_nil, p_cons, if_true, if_false, reduceIte, Bool.false_eq_true, startS, getS, setS, setAll, wipeS, List.map_cons, List.map_nil, List.length_cons, List.length_nil, List.cons_append, List.nil_append, List.append_nil, Nat.reduceAdd, Nat.reduceSub, Nat.zero_add, List.replicate_succ, List.replicate_zero, imAll, Option.map_some, Option.bind_some, exists_eq_left, exists_eq_left', Option.some.injEq, W.im.injEq, T.int.injEq, T.bl.injEq, T.str.injEq, T.tup.injEq, T.lst.injEq, w_bin, w_cmp, w_un, w_blt, w_attr, w_ix, w_sl0, w_sl1, w_sl2, w_rev, w_tup, w_lst, w_nlst, b_addI, b_addS, b_addT, b_addL, b_subI, b_mulI, b_divI, b_modI, b_powI, c_lt, c_le, c_gt, c_ge, c_is, c_isn, c_eqI, c_neI, c_eqB, c_neB, c_eqS, c_neS, c_eqN, c_in, c_nin, n_intI, n_non, u_neg, i_len, i_abs, i_min, i_max, i_intI, i_intB, i_tuple, i_list, i_all, i_any, i_isi, i_sorted, i_max1, i_min1, x_lst, x_tup, x_scr, x_mr, s_tup, s_lst, q_lst, q_tup, q_scr, l_lst, l_scr, ln_lst, k_lst, k_tup, k_scr, k_str, j_ty, j_cls, j_tup, m_app, m_ext, e_set, r_app, r_ext, a_fn, stabW, true_and, and_true]
    refine mis_c (t1.trans t2.symm) (by omega) (fun x x0 x1 hd hb => ?_) fun hb x7 => ?_
    · obtain ⟨g1, g2⟩ := t5 x (by omega) x1
      rw [← g1, ← g2] at hd ⊢
      refine hrt x (by omega) (by omega) hd fun z z0 z1 => ?_
      by_cases k : z < lo
      · exact hz z z0 k
      · obtain ⟨g1, g2⟩ := t5 z (by omega) (by omega)
        rw [g1, g2]
        exact hb z (by omega) z1
    · refine mis_loop hs hrt hnx cs (c.1.hi + 1) _ _ _ t6 (by omega) fun z z0 z1 => ?_
      by_cases k : z < lo
      · exact hz z z0 k
      · obtain ⟨g1, g2⟩ := t5 z (by omega) (by omega)
        rw [g1, g2]
        exact hb z (by omega) (by omega)
theorem does_misfit : Does ir_misfit nm_misfit 2 sp_misfit := by
  rintro ws S Q X ⟨p, q, rfl, ⟨⟨e1, e2⟩, ⟨n, hp, hn⟩, m, hq, hm⟩, h1, h2⟩
  refine ⟨rfl, ?_⟩
  have l := hq.len
  have ht := hq.top
  have r0 := hq.rg (x := q.top) ht (Int.le_refl _)
  simp only [ir_misfit, nm_misfit, ic_Ps, ic_Ps', u_call, u_need, at_top, at_tgt, u_ls, wpCs, wpC, wpE, wpEs, wpI, p_nm, p_tup, p_lst, p_nil, p_cons, if_true, if_false, reduceIte, Bool.false_eq_true, startS, getS, setS, setAll, wipeS, List.map_cons, List.map_nil, List.length_cons, List.length_nil, List.cons_append, List.nil_append, List.append_nil, Nat.reduceAdd, Nat.reduceSub, Nat.zero_add, List.replicate_succ, List.replicate_zero, imAll, Option.map_some, Option.bind_some, exists_eq_left, exists_eq_left', Option.some.injEq, W.im.injEq, T.int.injEq, T.bl.injEq, T.str.injEq, T.tup.injEq, T.lst.injEq, w_bin, w_cmp, w_un, w_blt, w_attr, w_ix, w_sl0, w_sl1, w_sl2, w_rev, w_tup, w_lst, w_nlst, b_addI, b_addS, b_addT, b_addL, b_subI, b_mulI, b_divI, b_modI, b_powI, c_lt, c_le, c_gt, c_ge, c_is, c_isn, c_eqI, c_neI, c_eqB, c_neB, c_eqS, c_neS, c_eqN, c_in, c_nin, n_intI, n_non, u_neg, i_len, i_abs, i_min, i_max, i_intI, i_intB, i_tuple, i_list, i_all, i_any, i_isi, i_sorted, i_max1, i_min1, x_lst, x_tup, x_scr, x_mr, s_tup, s_lst, q_lst, q_tup, q_scr, l_lst, l_scr, ln_lst, k_lst, k_tup, k_scr, k_str, j_ty, j_cls, j_tup, m_app, m_ext, e_set, r_app, r_ext, a_fn, stabW, true_and, and_true]
  refine ⟨⟨e1, e2⟩, by unfold few; omega, ⟨⟨m, hq, by omega⟩, ht, by omega⟩, ?_⟩
  have hz : sizeLine = 16777216 := rfl
  obtain ⟨M, N1, N2⟩ := hp.nd hq e1 e2 (2 * m + 1) (Nat.le_refl _) (by omega)
  have nt : (ndPs p q).top = p.top := rfl
  have l1 := lsrc_len (partsOf q.top q.pcs) 0
  rw [pLen] at l1
  have lp := hp.len
  have ln := N1.len
  have tq := N1.til
  rw [nt] at tq
  have c := common_til (k := p.pcs.length + (ndPs p q).pcs.length) (by rw [pLen, pLen]; exact Nat.le_refl _) hp.til.rest tq.rest
  have ec : commonOf p (ndPs p q) = common (p.pcs.length + (ndPs p q).pcs.length) (partsOf p.top p.pcs) (partsOf p.top (ndPs p q).pcs) 0 := by unfold commonOf; rw [nt]
  rw [← ec] at c
  have fw : few (p.pcs.length + (ndPs p q).pcs.length) := by unfold few; omega
  have en : madeOf p.top (p.tgt + 1) (ndL p q) = ndPs p q := rfl
  have L : ∀ {K : Post} {w0 w1 w2 w3 w4 x5 x6 x7 : Option W} {stab : Sto → Prop}, stab S → K.rt = (exitP S Q X).rt → (∀ ρ, K.nx ρ S = (exitP S Q X).rt (.im .non) S) → forW (wpCs bd_misfit_2) (.tp (.cons (.nm 5) (.cons (.nm 6) .nil))) stab ((commonOf p (ndPs p q)).map fun c => T.tup [c.1.t, c.2.t]) [w0, w1, w2, w3, w4, x5, x6, x7] S K := by
    intro K w0 w1 w2 w3 w4 x5 x6 x7 stab hs hr hx
    refine mis_loop hs (fun x x0 x1 hd hb => ?_) (fun ha ρ => ?_) _ 0 _ _ _ c.1 (Int.le_refl _) (fun z z0 z1 => by omega)
    · rw [N2 x x0 x1] at hd ⊢
      rw [hr]
      refine rt_im (h2 x x0 x1 hd fun z z0 z1 => ?_)
      rw [hb z z0 z1, N2 z z0 (by omega)]
    · rw [hx]
      refine rt_im (h1 fun x x0 x1 => ?_)
      rw [ha x x0 x1, N2 x x0 x1]
  by_cases k : q.v q.top < p.top
  · have e : ndL p q = lsrc 0 (partsOf q.top q.pcs) ++ [⟨q.v q.top + 1, p.top, p.tgt + 1, false⟩] := by unfold ndL; rw [if_pos k]
    have ei : imAll (((lsrc 0 (partsOf q.top q.pcs)).map Pt.t).map W.im ++ [.im (Pt.t ⟨q.v q.top + 1, p.top, p.tgt + 1, false⟩)]) = some ((ndL p q).map Pt.t) := by
      rw [e, List.map_append]
      have := imAll_map ((lsrc 0 (partsOf q.top q.pcs)).map Pt.t ++ [Pt.t ⟨q.v q.top + 1, p.top, p.tgt + 1, false⟩])
      rw [List.map_append] at this
      exact this
    have el : ((ndL p q).map Pt.t).length ≤ sizeLine := by
      rw [List.length_map, e, List.length_append, List.length_singleton]
      omega
    simp only [k, decide_true, if_true, u_mkPart]
    refine ⟨_, ei, el, ?_⟩
    rw [u_made', en, u_common]
    exact ⟨M, fw, _, rfl, L trivial rfl fun _ => rfl⟩
  · have e : ndL p q = lsrc 0 (partsOf q.top q.pcs) := by unfold ndL; rw [if_neg k, List.append_nil]
    simp only [k, decide_false, Bool.false_eq_true, if_false]
    rw [← e, u_made', en, u_common]
    exact ⟨M, fw, _, rfl, L trivial rfl fun _ => rfl⟩
theorem u_misfit {p q : Ps} {S : Sto} {Q : VQ} {X : XQ} : sp_misfit [.im p.t, .im q.t] S Q X ↔ ((p.top = q.tgt ∧ p.tgt = q.top) ∧ Pfew p ∧ Pfew q) ∧ ((∀ x, 0 ≤ x → x ≤ p.top → p.v x = ndF q x) → Q (.im .non) S) ∧
    ∀ x, 0 ≤ x → x ≤ p.top → p.v x ≠ ndF q x → (∀ z, 0 ≤ z → z < x → p.v z = ndF q z) → Q (.im (.tup [.int x, .int (mn (p.v x) (ndF q x))])) S := by
  constructor
  · rintro ⟨p', q', e, h⟩
    rw [two_inj] at e
    obtain ⟨rfl, rfl⟩ := e
    exact h
  · exact fun h => ⟨p, q, rfl, h⟩
theorem does_fits : Does ir_fits nm_fits 2 sp_fits := by
  rintro ws S Q X ⟨p, q, rfl, h0, h1, h2⟩
  refine ⟨rfl, ?_⟩
  simp only [ir_fits, nm_fits, u_misfit, wpCs, wpC, wpE, wpEs, wpI, p_nm, p_tup, p_lst, p_nil, p_cons, if_true, if_false, reduceIte, Bool.false_eq_true, startS, getS, setS, setAll, wipeS, List.map_cons, List.map_nil, List.length_cons, List.length_nil, List.cons_append, List.nil_append, List.append_nil, Nat.reduceAdd, Nat.reduceSub, Nat.zero_add, List.replicate_succ, List.replicate_zero, imAll, Option.map_some, Option.bind_some, exists_eq_left, exists_eq_left', Option.some.injEq, W.im.injEq, T.int.injEq, T.bl.injEq, T.str.injEq, T.tup.injEq, T.lst.injEq, w_bin, w_cmp, w_un, w_blt, w_attr, w_ix, w_sl0, w_sl1, w_sl2, w_rev, w_tup, w_lst, w_nlst, b_addI, b_addS, b_addT, b_addL, b_subI, b_mulI, b_divI, b_modI, b_powI, c_lt, c_le, c_gt, c_ge, c_is, c_isn, c_eqI, c_neI, c_eqB, c_neB, c_eqS, c_neS, c_eqN, c_in, c_nin, n_intI, n_non, u_neg, i_len, i_abs, i_min, i_max, i_intI, i_intB, i_tuple, i_list, i_all, i_any, i_isi, i_sorted, i_max1, i_min1, x_lst, x_tup, x_scr, x_mr, s_tup, s_lst, q_lst, q_tup, q_scr, l_lst, l_scr, ln_lst, k_lst, k_tup, k_scr, k_str, j_ty, j_cls, j_tup, m_app, m_ext, e_set, r_app, r_ext, a_fn, stabW, true_and, and_true]
  refine ⟨h0, fun h => rt_im (h1 h), fun x x0 x1 hd _ => rt_im (h2 ⟨x, x0, x1, hd⟩)⟩
theorem u_fits {p q : Ps} {S : Sto} {Q : VQ} {X : XQ} : sp_fits [.im p.t, .im q.t] S Q X ↔ ((p.top = q.tgt ∧ p.tgt = q.top) ∧ Pfew p ∧ Pfew q) ∧ ((∀ x, 0 ≤ x → x ≤ p.top → p.v x = ndF q x) → Q (.im (.bl true)) S) ∧ ((∃ x, 0 ≤ x ∧ x ≤ p.top ∧ p.v x ≠ ndF q x) → Q (.im (.bl false)) S) := by
  constructor
  · rintro ⟨p', q', e, h⟩
    rw [two_inj] at e
    obtain ⟨rfl, rfl⟩ := e
    exact h
  · exact fun h => ⟨p, q, rfl, h⟩
end TW

namespace TW
open PySem L2
theorem for_inv {wb : SE → Sto → Post → Prop} {p : Pat} {stab : Sto → Prop} {K : Post} (I : SE → Sto → Prop) (hs : ∀ ρ S, I ρ S → stab S) (hk : ∀ ρ S, I ρ S → K.nx ρ S) : ∀ (ts : List T) (ρ : SE) (S : Sto), I ρ S →
    (∀ t ∈ ts, ∀ ρ S K', I ρ S → K'.rt = K.rt → K'.xc = K.xc → (∀ ρ S, I ρ S → K'.nx ρ S) → (∀ ρ S, I ρ S → K'.ct ρ S) → wpP p t ρ fun ρ' => wb ρ' S K') → forW wb p stab ts ρ S K
  | [], ρ, S, i, _ => by
    rw [forW]
    exact ⟨hs _ _ i, hk _ _ i⟩
  | t :: ts, ρ, S, i, h => by
    rw [forW]
    have ih : ∀ ρ S, I ρ S → forW wb p stab ts ρ S K := fun ρ S i => for_inv I hs hk ts ρ S i fun u hu => h u (by simp [hu])
    exact ⟨hs _ _ i, h t (by simp) ρ S _ i rfl rfl ih ih⟩
theorem ext_mono {G : Int → Int} (g : Bool) {a b top : Int} (mono : ∀ x y, 0 ≤ x → x ≤ y → y ≤ top → G x ≤ G y) (ha : 0 ≤ a ∧ a ≤ top) (hb : 0 ≤ b ∧ b ≤ top) : G (ext g a b) = ext g (G a) (G b) := by
  unfold ext mx mn
  rcases Int.le_total a b with h | h
  · have := mono a b ha.1 h hb.2
    cases g <;> simp only [Bool.false_eq_true, if_false, if_true]
    · by_cases e : b < a
      · omega
      · rw [if_neg e]
        split <;> omega
    · by_cases e : b > a
      · rw [if_pos e]
        split <;> omega
      · have : a = b := by omega
        subst this
        simp
  · have := mono b a hb.1 h ha.2
    cases g <;> simp only [Bool.false_eq_true, if_false, if_true]
    · by_cases e : b < a
      · rw [if_pos e]
        split <;> omega
      · have : a = b := by omega
        subst this
        simp
    · by_cases e : b > a
      · omega
      · rw [if_neg e]
        split <;> omega
/-- sizes of scales -/
def szOk (n : Int) : Prop := 0 ≤ n ∧ n ≤ 1000000000000
theorem lcs_dec {l : List Pc} : tPcs.dec (.lst (l.map Pc.t)) = some l := lcs_dec' l
theorem len2 {l : List T} (h : l.length = 2) : ∃ a b, l = [a, b] := by
  match l, h with
  | [a, b], _ => exact ⟨a, b, rfl⟩
theorem len3 {l : List T} (h : l.length = 3) : ∃ a b c, l = [a, b, c] := by
  match l, h with
  | [a, b, c], _ => exact ⟨a, b, c, rfl⟩
theorem len4 {l : List T} (h : l.length = 4) : ∃ a b c d, l = [a, b, c, d] := by
  match l, h with
  | [a, b, c, d], _ => exact ⟨a, b, c, d, rfl⟩
theorem atp1 : CPow 10 12 := ⟨by decide, by decide, by decide⟩
theorem atp2 : CPow 10 6 := ⟨by decide, by decide, by decide⟩
theorem pds_ints : ∀ ns : List Int, pds (ns.map T.int) = some (ns.map PyData.int)
  | [] => rfl
  | n :: ns => by
    rw [List.map_cons, pds, pds_ints ns]
    rfl
theorem eqv_ints : ∀ {l m : List Int}, PyData.eqvAll (l.map PyData.int) (m.map PyData.int) = decide (l = m)
  | [], [] => rfl
  | [], b :: m => by simp [PyData.eqvAll]
  | a :: l, [] => by simp [PyData.eqvAll]
  | a :: l, b :: m => by
    rw [List.map_cons, List.map_cons, PyData.eqvAll, eqv_ints]
    by_cases h1 : a = b <;> by_cases h2 : l = m <;> simp [PyData.eqv, h1, h2]
theorem lay_ints : ∀ l : List Int, PyData.canLayAll0 (l.map PyData.int) = true
  | [] => rfl
  | p :: l => by
    rw [List.map_cons, PyData.canLayAll0, lay_ints l]
    rfl
theorem dep_ints : ∀ l : List Int, PyData.depthAll (l.map PyData.int) = 0
  | [] => by simp [PyData.depthAll]
  | p :: l => by
    rw [List.map_cons, PyData.depthAll, dep_ints l]
    rfl
theorem shp_ints {l : List Int} : SeqAt.shaped (.list (l.map PyData.int)) = true := by
  unfold SeqAt.shaped
  simp only [PyData.canLay0, lay_ints, PyData.depth, dep_ints, Bool.true_and]
  decide
theorem ne_ints {S : Sto} {a b : List Int} {Q : VQ} : cmpP S .NotEq (.im (.lst (a.map T.int))) (.im (.lst (b.map T.int))) Q ↔ Q (.im (.bl (!decide (a = b)))) S := by
  have pa : ∀ a : List Int, pdW S (.im (.lst (a.map T.int))) = some (.list (a.map PyData.int)) := fun a => by simp [pdW, toT, pd, pds_ints]
  have e : PyData.eqv (.list (a.map PyData.int)) (.list (b.map PyData.int)) = decide (a = b) := by rw [PyData.eqv]; exact eqv_ints
  rw [c_neL, pa, pa]
  constructor
  · rintro ⟨x, ex, y, ey, _, _, q⟩
    cases ex
    cases ey
    rw [e] at q
    exact q
  · intro q
    exact ⟨_, rfl, _, rfl, shp_ints, shp_ints, by rw [e]; exact q⟩
theorem ne_nil {S : Sto} {a : List Int} {Q : VQ} : cmpP S .NotEq (.im (.lst (a.map T.int))) (.im (.lst [])) Q ↔ Q (.im (.bl (!decide (a = [])))) S := ne_ints (b := [])
theorem ne_nil0 {S : Sto} {Q : VQ} : cmpP S .NotEq (.im (.lst [])) (.im (.lst [])) Q ↔ Q (.im (.bl false)) S := by
  have := ne_ints (S := S) (a := []) (b := []) (Q := Q)
  simpa using this
theorem cutm1 {α : Type} {l : List α} {a : α} : cutT (l ++ [a]) none (some (-1)) = l := by
  simp only [cutT, HT.sIx, List.length_append, List.length_singleton]
  have : (-1 + ((l.length : Int) + 1)).toNat = l.length := by omega
  simp [this]
theorem atF_out {x : Int} : ∀ {l : List Pc} {acc : Int}, (∀ a ∈ l, x < a.s) → atF acc x l = acc
  | [], acc, _ => rfl
  | a :: l, acc, h => by
    have := h a (by simp)
    rw [atF, if_neg (by omega)]
    exact atF_out fun b hb => h b (by simp [hb])
theorem incr_all : ∀ {a : Pc} {l : List Pc}, incr (a :: l) = true → ∀ b ∈ l, a.s < b.s
  | a, [], _, b, hb => by cases hb
  | a, c :: l, h, b, hb => by
    rw [incr, Bool.and_eq_true, decide_eq_true_eq] at h
    rcases List.mem_cons.mp hb with rfl | hb
    · exact h.1
    · have := incr_all h.2 b hb
      omega
theorem atF_til {F : Int → Int} {top x : Int} : ∀ {l : List Pc} {s acc : Int}, l.head?.map (·.s) = some s → incr l = true → Til F s (partsOf top l) top → s ≤ x → x ≤ top → atF acc x l = F x
  | [], _, _, e, _, _, _, _ => by cases e
  | [a], s, acc, e, _, ⟨t1, t2, t3, t4⟩, h1, h2 => by
    obtain rfl : a.s = s := by simpa using e
    rw [atF, if_pos h1, t3 x h1 h2]
    show (if a.r = true then a.f + x - a.s else a.f) = a.f + if a.r = true then x - a.s else 0
    split <;> omega
  | a :: b :: r, s, acc, e, hi, ⟨t1, t2, t3, t4⟩, h1, h2 => by
    obtain rfl : a.s = s := by simpa using e
    have hi' := hi
    rw [incr, Bool.and_eq_true, decide_eq_true_eq] at hi
    have t4 : Til F (b.s - 1 + 1) (partsOf top (b :: r)) top := t4
    rw [show b.s - 1 + 1 = b.s by omega] at t4
    rw [atF, if_pos h1]
    by_cases c : b.s ≤ x
    · exact atF_til rfl hi.2 t4 c h2
    · rw [atF_out (fun d hd => by
        rcases List.mem_cons.mp hd with rfl | hd
        · omega
        · have := incr_all hi.2 d hd; omega)]
      have t3 := t3 x h1 (show x ≤ b.s - 1 by omega)
      rw [t3]
      show (if a.r = true then a.f + x - a.s else a.f) = a.f + if a.r = true then x - a.s else 0
      split <;> omega
theorem atF_pcF {top tgt x : Int} {l : List Pc} (h : arePieces top tgt l = true) (h0 : 0 ≤ x) (h1 : x ≤ top) : atF 0 x l = pcF top l x := by
  have t := (are_til h).1
  cases l with
  | nil => cases h
  | cons a r =>
    simp only [arePieces, Bool.and_eq_true, decide_eq_true_eq] at h
    obtain ⟨⟨⟨⟨_, h2⟩, _⟩, h4⟩, _⟩ := h
    exact atF_til (s := 0) (by simp [h2]) h4 t h0 h1
/-- a passage of drawn pieces -/
theorem drawn_ok {top tgt : Int} {l : List Pc} {n : Nat} (h0 : 0 ≤ top) (h : arePieces top tgt l = true) (hl : l.length ≤ n) : Pok n (mkPs top tgt l) ∧ ∀ x, 0 ≤ x → x ≤ top → atF 0 x l = (mkPs top tgt l).v x := by
  obtain ⟨a, b⟩ := Pok.pieces h0 h hl
  exact ⟨a, fun x x0 x1 => by rw [b x x0 x1, atF_pcF h x0 x1]⟩
theorem mk_top (a b : Int) (l : List Pc) : (mkPs a b l).top = a := rfl
theorem mk_tgt (a b : Int) (l : List Pc) : (mkPs a b l).tgt = b := rfl
theorem tab_top (t : Int) (ns : List Int) : (tabPs t ns).top = (ns.length : Int) - 1 := rfl
theorem tab_tgt (t : Int) (ns : List Int) : (tabPs t ns).tgt = t := rfl
/-- two tables -/
theorem tab_v {tgt : Int} {ns : List Int} (t : Tab tgt ns) {x : Int} (h0 : 0 ≤ x) (h1 : x ≤ (ns.length : Int) - 1) : ∃ h : x.toNat < ns.length, (tabPs tgt ns).v x = ns[x.toNat] := by
  have hx : x.toNat < ns.length := by omega
  refine ⟨hx, ?_⟩
  have := (tab_ok t (Nat.le_refl _)).2 x.toNat _ (List.getElem?_eq_getElem hx)
  rw [show ((x.toNat : Nat) : Int) = x by omega] at this
  exact this
theorem res_tab {tgt : Int} {ns : List Int} (t : Tab tgt ns) : resL (tabPs tgt ns) = ns := by
  have hp : 0 < ns.length := List.length_pos_iff.mpr t.ne
  unfold resL
  apply List.ext_getElem
  · rw [List.length_map, List.length_range, tab_top]
    omega
  · intro i h1 h2
    rw [List.getElem_map, List.getElem_range]
    exact (tab_ok t (Nat.le_refl _)).2 i _ (List.getElem?_eq_getElem h2)
/-- what at_most, at_least give -/
def amT (p : Ps) : T := if 0 < p.v 0 then .non else (amPs p).t
def alT (p : Ps) : T := if p.v p.top < p.tgt then .non else (alPs p).t
theorem non_am {p : Ps} : isNon (amT p) = decide (0 < p.v 0) := by
  unfold amT
  split
  · rename_i h
    rw [decide_eq_true h]
    rfl
  · rename_i h
    rw [decide_eq_false h]
    rfl
theorem non_al {p : Ps} : isNon (alT p) = decide (p.v p.top < p.tgt) := by
  unfold alT
  split
  · rename_i h
    rw [decide_eq_true h]
    rfl
  · rename_i h
    rw [decide_eq_false h]
    rfl
theorem u_amT {p : Ps} (h : Pfew p) {S : Sto} {Q : VQ} {X : XQ} : sp_at_most [.im p.t] S Q X ↔ Q (.im (amT p)) S := by
  obtain ⟨n, hp, hn⟩ := h
  have := hp.rg (x := 0) (by omega) hp.top
  rw [u_am]
  unfold amT
  constructor
  · rintro ⟨_, h1, h2⟩
    split
    · rename_i c
      exact h1 c
    · exact h2 (by omega)
  · intro q
    refine ⟨⟨n, hp, hn⟩, fun c => ?_, fun c => ?_⟩
    · rw [if_pos c] at q
      exact q
    · rw [if_neg (by omega)] at q
      exact q
theorem u_alT {p : Ps} (h : Pfew p) {S : Sto} {Q : VQ} {X : XQ} : sp_at_least [.im p.t] S Q X ↔ Q (.im (alT p)) S := by
  obtain ⟨n, hp, hn⟩ := h
  have := hp.rg (x := p.top) hp.top (Int.le_refl _)
  rw [u_al]
  unfold alT
  constructor
  · rintro ⟨_, h1, h2⟩
    split
    · rename_i c
      exact h1 c
    · exact h2 (by omega)
  · intro q
    refine ⟨⟨n, hp, hn⟩, fun c => ?_, fun c => ?_⟩
    · rw [if_pos c] at q
      exact q
    · rw [if_neg (by omega)] at q
      exact q
end TW

namespace TW
open PySem L2
theorem chk_le {top tgt : Int} : ∀ {l : List Pc} {a b : Int}, b ≤ a → chkP top tgt a l = true → chkP top tgt b l = true
  | [], a, b, h, c => by
    rw [chkP, decide_eq_true_eq] at c ⊢
    omega
  | p :: l, a, b, h, c => by
    rw [chkP] at c ⊢
    by_cases e : p.f < a
    · rw [if_pos e] at c; cases c
    · rw [if_neg e] at c
      rw [if_neg (by omega)]
      exact c
theorem chk_to {top tgt v : Int} : ∀ {l : List Pc} {last acc d : Int}, l ≠ [] → lastS d l ≤ top → incr l = true → chkP top tgt last l = true → atF acc top l ≤ v → chkP top v last l = true
  | [], _, _, _, h, _, _, _, _ => absurd rfl h
  | [p], last, acc, d, _, hl, _, c, hv => by
    have hl : p.s ≤ top := hl
    rw [chkP] at c ⊢
    by_cases e : p.f < last
    · rw [if_pos e] at c; cases c
    · rw [if_neg e, chkP, decide_eq_true_eq]
      rw [atF, if_pos hl] at hv
      rw [atF] at hv
      simp only [endOf]
      split at hv <;> rename_i c1 <;> simp only [c1, if_true, if_false, Bool.false_eq_true] <;> omega
  | p :: q :: l, last, acc, d, _, hl, hi, c, hv => by
    rw [chkP] at c ⊢
    rw [incr, Bool.and_eq_true] at hi
    by_cases e : p.f < last
    · rw [if_pos e] at c; cases c
    · rw [if_neg e] at c ⊢
      rw [atF] at hv
      exact chk_to (l := q :: l) (d := p.s) (by simp) hl hi.2 c hv
theorem are_zero {top tgt : Int} {a : Pc} {r : List Pc} (h : arePieces top tgt (a :: r) = true) : arePieces top tgt (⟨0, 0, a.r⟩ :: r) = true := by
  simp only [arePieces, Bool.and_eq_true, decide_eq_true_eq, List.all_cons] at h ⊢
  obtain ⟨⟨⟨⟨⟨h0, h1⟩, h2⟩, h3⟩, h4⟩, h5⟩ := h
  simp only [pieceOk, Bool.and_eq_true, decide_eq_true_eq] at h0
  refine ⟨⟨⟨⟨⟨by simp [pieceOk], h1⟩, trivial⟩, ?_⟩, ?_⟩, ?_⟩
  · simpa [lastS, h2] using h3
  · cases r with
    | nil => rfl
    | cons b r => simpa [incr, h2] using h4
  · rw [chkP] at h5 ⊢
    rw [if_neg (by omega)] at h5
    rw [if_neg (by simp)]
    refine chk_le ?_ h5
    simp only [h2]
    split <;> omega
theorem are_to {top tgt : Int} {l : List Pc} (h : arePieces top tgt l = true) : arePieces top (atF 0 top l) l = true := by
  cases l with
  | nil => cases h
  | cons a r =>
    simp only [arePieces, Bool.and_eq_true, decide_eq_true_eq] at h ⊢
    obtain ⟨⟨⟨⟨h1, h2⟩, h3⟩, h4⟩, h5⟩ := h
    exact ⟨⟨⟨⟨h1, h2⟩, h3⟩, h4⟩, chk_to (by simp) h3 h4 h5 (Int.le_refl _)⟩
theorem at_zero {top tgt : Int} {b : Bool} {r : List Pc} (h : arePieces top tgt (⟨0, 0, b⟩ :: r) = true) : atF 0 0 (⟨0, 0, b⟩ :: r) = 0 := by
  simp only [arePieces, Bool.and_eq_true, decide_eq_true_eq] at h
  have := incr_all h.1.2
  rw [atF, if_pos (by simp)]
  rw [atF_out fun c hc => this c hc]
  simp
theorem nol_pcs : ∀ l : List Pc, noLsts (l.map Pc.t) = true
  | [] => rfl
  | p :: l => by
    rw [List.map_cons, noLsts, nol_pcs l]
    rfl
theorem nol_ps {p : Ps} : noLst p.t = true := by
  simp [Ps.t, noLst, noLsts, nol_pcs]
theorem allB_im {S : Sto} {n : Nat} : ∀ ts : List T, allB (toB S n) (ts.map W.im) = some ts
  | [] => rfl
  | t :: ts => by
    cases n <;> simp [allB, toB, allB_im ts]
theorem toB_im {S : Sto} {n : Nat} {t : T} : toB S n (.im t) = some t := by cases n <;> rfl
theorem toB_mr {k n : Nat} {ts : List T} {S : Sto} (h : S[k]? = some (.lst (ts.map W.im))) : toB S (n + 1) (.mr k) = some (.lst ts) := by
  simp only [toB, h, allB_im, Option.map_some]
theorem to_mr {k : Nat} {l : List Pc} {S : Sto} (h : S[k]? = some (.lst ((l.map Pc.t).map W.im))) : toB S 3 (.mr k) = some (.lst (l.map Pc.t)) := toB_mr h
theorem u_mb {a b : Int} {k : Nat} {l : List Pc} {S : Sto} {Q : VQ} {X : XQ} (h : S[k]? = some (.lst ((l.map Pc.t).map W.im))) : apSp (.mb "Passage") sp_Passage___init__ [.im (.int a), .im (.int b), .mr k] S Q X ↔ (few l.length ∧ 0 ≤ a ∧ 0 ≤ b ∧ arePieces a b l = true) ∧ Q (.im (mkPs a b l).t) S := by
  have e : borWs S [.im (.int a), .im (.int b), .mr k] = some [.im (.int a), .im (.int b), .im (.lst (l.map Pc.t))] := by
    simp only [borWs, to_mr h, toB_im]
    rfl
  rw [show apSp (.mb "Passage") sp_Passage___init__ = borSp (apSp (.mk "Passage") sp_Passage___init__) from rfl, borSp, e]
  constructor
  · rintro ⟨us, e, w⟩
    cases e
    rw [u_mkPassage lcs_dec] at w
    obtain ⟨w, _, t, e, _, q⟩ := w
    cases e
    exact ⟨w, q⟩
  · rintro ⟨w, q⟩
    refine ⟨_, rfl, ?_⟩
    rw [u_mkPassage lcs_dec]
    exact ⟨w, rfl, _, rfl, .inl nol_ps, q⟩
theorem u_fb_at {x : Int} {k : Nat} {l : List Pc} {S : Sto} {Q : VQ} {X : XQ} (h : S[k]? = some (.lst ((l.map Pc.t).map W.im))) : apSp (.fb "_law_at") sp__law_at [.mr k, .im (.int x)] S Q X ↔ Q (.im (.int (atF 0 x l))) S := by
  have e : borWs S [.mr k, .im (.int x)] = some [.im (.lst (l.map Pc.t)), .im (.int x)] := by
    simp only [borWs, to_mr h, toB_im]
    rfl
  rw [show apSp (.fb "_law_at") sp__law_at = borSp sp__law_at from rfl, borSp, e]
  constructor
  · rintro ⟨us, e, w⟩
    cases e
    rw [u_at] at w
    obtain ⟨_, t, e, _, q⟩ := w
    cases e
    exact q
  · intro q
    refine ⟨_, rfl, ?_⟩
    rw [u_at]
    exact ⟨rfl, _, rfl, .inl rfl, q⟩
theorem shp_tup {l : List Int} : SeqAt.shaped (.tuple (l.map PyData.int)) = true := by
  unfold SeqAt.shaped
  simp only [PyData.canLay0, lay_ints, PyData.depth, dep_ints, Bool.true_and]
  decide
theorem ne_tups {S : Sto} {a b : List Int} {Q : VQ} : cmpP S .NotEq (.im (.tup (a.map T.int))) (.im (.tup (b.map T.int))) Q ↔ Q (.im (.bl (!decide (a = b)))) S := by
  have pa : ∀ a : List Int, pdW S (.im (.tup (a.map T.int))) = some (.tuple (a.map PyData.int)) := fun a => by simp [pdW, toT, pd, pds_ints]
  have e : PyData.eqv (.tuple (a.map PyData.int)) (.tuple (b.map PyData.int)) = decide (a = b) := by rw [PyData.eqv]; exact eqv_ints
  rw [c_neT, pa, pa]
  constructor
  · rintro ⟨x, ex, y, ey, _, _, q⟩
    cases ex
    cases ey
    rw [e] at q
    exact q
  · intro q
    exact ⟨_, rfl, _, rfl, shp_tup, shp_tup, by rw [e]; exact q⟩
theorem ne_pair {S : Sto} {a b : Int} {Q : VQ} : cmpP S .NotEq (.im (.tup [.int a, .int b])) (.im (.tup [.int a, .int b])) Q ↔ Q (.im (.bl false)) S := by
  have := ne_tups (S := S) (a := [a, b]) (b := [a, b]) (Q := Q)
  simpa using this
end TW

namespace TW
open PySem L2
def ps_law : List Str := ["_law_script"]
def nm_law : List Str := ["_law_script", "_law_k", "_law_box", "_law_turn", "_law_pieces_here", "_law_p", "_law_q", "_law_back", "_law_other", "_law_found", "_law_a", "_law_more", "_law_top", "_law_target", "_law_x", "_law_y", "_law_b", "_law_one"]
def bd_law_1 : Cs :=
  (.cons (.asg 16 (.ic "Passage" sp_Passage___call__ (.var 5) (.cons (.var 10) .nil)))
  (.cons (.ifs (.or (.pr (.cmp .Lt) (.cons (.ic "Passage" sp_Passage___call__ (.var 8) (.cons (.var 16) .nil)) (.cons (.var 10) .nil))) (.and (.pr (.cmp .Gt) (.cons (.var 16) (.cons (.con (.int 0)) .nil))) (.pr (.cmp .GtE) (.cons (.ic "Passage" sp_Passage___call__ (.var 8) (.cons (.pr (.bin .Sub) (.cons (.var 16) (.cons (.con (.int 1)) .nil))) .nil)) (.cons (.var 10) .nil))))) (.cons (.ret (.con (.bl false))) .nil) .nil) .nil))
def tl_law_2_2 : Cs :=
  (.cons (.ifs (.and (.pr (.cmp .Lt) (.cons (.pr .tup (.cons (.var 10) (.cons (.var 16) .nil))) (.cons (.pr .tup (.cons (.var 14) (.cons (.var 15) .nil))) .nil))) (.pr (.cmp .NotEq) (.cons (.pr (.cmp .LtE) (.cons (.ic "Passage" sp_Passage___call__ (.var 5) (.cons (.var 10) .nil)) (.cons (.var 16) .nil))) (.cons (.pr (.cmp .LtE) (.cons (.var 10) (.cons (.ic "Passage" sp_Passage___call__ (.var 8) (.cons (.var 16) .nil)) .nil))) .nil)))) (.cons (.ret (.con (.bl false))) .nil) .nil) .nil)
def bd_law_2 : Cs :=
  (.cons (.asg 10 (.ap (.fn "_law_choose") sp__law_choose (.cons (.var 2) (.cons (.pr (.bin .Add) (.cons (.var 14) (.cons (.con (.int 1)) .nil))) .nil))))
  (.cons (.asg 16 (.ife (.pr (.cmp .Lt) (.cons (.var 10) (.cons (.var 14) .nil))) (.ap (.fn "_law_choose") sp__law_choose (.cons (.var 2) (.cons (.pr (.bin .Add) (.cons (.var 13) (.cons (.con (.int 1)) .nil))) .nil))) (.ap (.fn "_law_choose") sp__law_choose (.cons (.var 2) (.cons (.pr (.bin .Add) (.cons (.var 15) (.cons (.con (.int 1)) .nil))) .nil))))) tl_law_2_2))
def tl_law_3_10 : Cs :=
  (.cons (.asg 9 (.ap (.fn "misfit") sp_misfit (.cons (.var 5) (.cons (.var 8) .nil))))
  (.cons (.ifs (.or (.pr (.cmp .Is) (.cons (.var 9) (.cons (.con .non) .nil))) (.ap (.fn "fits") sp_fits (.cons (.var 5) (.cons (.var 8) .nil)))) (.cons (.ret (.con (.bl false))) .nil) .nil)
  (.cons (.unp (.tp (.cons (.nm 14) (.cons (.nm 15) .nil))) (.var 9))
  (.cons (.ifs (.pr (.cmp .Eq) (.cons (.pr (.cmp .LtE) (.cons (.ic "Passage" sp_Passage___call__ (.var 5) (.cons (.var 14) .nil)) (.cons (.var 15) .nil))) (.cons (.pr (.cmp .LtE) (.cons (.var 14) (.cons (.ic "Passage" sp_Passage___call__ (.var 8) (.cons (.var 15) .nil)) .nil))) .nil))) (.cons (.ret (.con (.bl false))) .nil) .nil)
  (.cons (.fo (.nm 10) (.seq (.lc (.var 17) (.nm 17) (.seq (.ap (.fb "_law_probes") sp__law_probes (.cons (.var 2) (.cons (.var 12) (.cons (.pr .nlst (.cons (.var 4) (.cons (.pr .lst (.cons (.pr .tup (.cons (.var 14) (.cons (.con (.int 0)) (.cons (.con (.bl false)) .nil)))) .nil)) .nil))) .nil))))) (.cons (.pr (.cmp .Lt) (.cons (.var 17) (.cons (.var 14) .nil))) .nil) [17])) bd_law_1)
  (.cons (.ifs (.and (.pr (.cmp .Gt) (.cons (.var 15) (.cons (.con (.int 0)) .nil))) (.pr (.cmp .NotEq) (.cons (.pr (.cmp .LtE) (.cons (.ic "Passage" sp_Passage___call__ (.var 5) (.cons (.var 14) .nil)) (.cons (.pr (.bin .Sub) (.cons (.var 15) (.cons (.con (.int 1)) .nil))) .nil))) (.cons (.pr (.cmp .LtE) (.cons (.var 14) (.cons (.ic "Passage" sp_Passage___call__ (.var 8) (.cons (.pr (.bin .Sub) (.cons (.var 15) (.cons (.con (.int 1)) .nil))) .nil)) .nil))) .nil)))) (.cons (.ret (.con (.bl false))) .nil) .nil)
  (.cons (.fo (.nm 11) (.rng (.con (.int 12))) bd_law_2) .nil)))))))
def bd_law_3 : Cs :=
  (.cons (.par [12, 13] (.cons (.pr (.bin .Pow) (.cons (.con (.int 10)) (.cons (.con (.int 12)) .nil))) (.cons (.ap (.fn "_law_one_of") sp__law_one_of (.cons (.var 2) (.cons (.pr .lst (.cons (.pr (.bin .Pow) (.cons (.con (.int 10)) (.cons (.con (.int 12)) .nil))) (.cons (.pr (.bin .Pow) (.cons (.con (.int 10)) (.cons (.con (.int 6)) .nil))) (.cons (.con (.int 9)) .nil)))) .nil))) .nil)))
  (.cons (.asg 4 (.ap (.fn "_law_pieces") sp__law_pieces_m (.cons (.var 2) (.cons (.var 12) (.cons (.var 13) (.cons (.con (.int 8)) .nil))))))
  (.cons (.setI (.var 4) (.con (.int 0)) (.pr .tup (.cons (.con (.int 0)) (.cons (.con (.int 0)) (.cons (.pr .ix (.cons (.pr .ix (.cons (.var 4) (.cons (.con (.int 0)) .nil))) (.cons (.con (.int 2)) .nil))) .nil)))))
  (.cons (.asg 5 (.ap (.mb "Passage") sp_Passage___init__ (.cons (.var 12) (.cons (.var 13) (.cons (.var 4) .nil)))))
  (.cons (.asg 6 (.ap (.fn "at_most") sp_at_most (.cons (.var 5) .nil)))
  (.cons (.ifs (.or (.pr (.cmp .Is) (.cons (.var 6) (.cons (.con .non) .nil))) (.or (.not (.ap (.fn "fits") sp_fits (.cons (.var 5) (.cons (.var 6) .nil)))) (.pr (.cmp .IsNot) (.cons (.ap (.fn "misfit") sp_misfit (.cons (.var 5) (.cons (.var 6) .nil))) (.cons (.con .non) .nil))))) (.cons (.ret (.con (.bl false))) .nil) .nil)
  (.cons (.asg 7 (.ap (.fn "at_least") sp_at_least (.cons (.var 6) .nil)))
  (.cons (.ifs (.ap (.ne "Passage") sp_Passage___eq__ (.cons (.var 7) (.cons (.var 5) .nil))) (.cons (.ret (.con (.bl false))) .nil) .nil)
  (.cons (.asg 8 (.ap (.bo .BitAnd "Passage") sp_Passage___and__ (.cons (.var 6) (.cons (.ap (.mk "Passage") sp_Passage___init__ (.cons (.var 13) (.cons (.var 12) (.cons (.pr .lst (.cons (.pr .tup (.cons (.con (.int 0)) (.cons (.ap (.fn "_law_choose") sp__law_choose (.cons (.var 2) (.cons (.pr (.bin .Add) (.cons (.var 12) (.cons (.con (.int 1)) .nil))) .nil))) (.cons (.con (.bl false)) .nil)))) .nil)) .nil)))) .nil))))
  (.cons (.ifs (.ap (.co .Eq "Passage") sp_Passage___eq__ (.cons (.var 8) (.cons (.var 6) .nil))) (.cons .cont .nil) .nil) tl_law_3_10))))))))))
def bd_law_4 : Cs :=
  (.cons (.asg 2 (.ap (.fn "_law_seed") sp__law_seed (.cons (.var 0) (.cons (.var 1) .nil))))
  (.cons (.fo (.nm 3) (.rng (.con (.int 4))) bd_law_3) .nil))
def ir_law : Cs :=
  (.cons (.fo (.nm 1) (.rng (.pr (.blt .max2) (.cons (.con (.int 2)) (.cons (.pr (.blt .min2) (.cons (.con (.int 4)) (.cons (.pr (.blt .len) (.cons (.var 0) .nil)) .nil))) .nil)))) bd_law_4)
  (.cons (.ret (.con (.bl true))) .nil))
theorem nd_rg {m : Nat} {q : Ps} (hq : Pok m q) (x : Int) : 0 ≤ ndF q x ∧ ndF q x ≤ q.top + 1 := by
  unfold ndF
  have := hq.top
  split
  · rename_i c
    have := (hq.al c).1
    omega
  · omega
theorem nd_of_fit {n m : Nat} {p q : Ps} (hp : Pok n p) (hq : Pok m q) (e2 : p.tgt = q.top) (h : ∀ x y, 0 ≤ x → x ≤ p.top → 0 ≤ y → y ≤ p.tgt → (p.v x ≤ y ↔ x ≤ q.v y)) : ∀ x, 0 ≤ x → x ≤ p.top → p.v x = ndF q x := by
  intro x x0 x1
  have rg := hp.rg x0 x1
  have nr := nd_rg hq x
  have h1 := (nd_fit hq (x := x) (y := p.v x) x0 rg.1 (by omega)).mpr ((h x _ x0 x1 rg.1 rg.2).mp (Int.le_refl _))
  have h2 := (h x (ndF q x) x0 x1 nr.1 (by omega)).mpr ((nd_fit hq x0 nr.1 (by omega)).mp (Int.le_refl _))
  omega
theorem fits_t {p q : Ps} (h : (p.top = q.tgt ∧ p.tgt = q.top) ∧ Pfew p ∧ Pfew q) (e : ∀ x, 0 ≤ x → x ≤ p.top → p.v x = ndF q x) {S : Sto} {Q : VQ} {X : XQ} : sp_fits [.im p.t, .im q.t] S Q X ↔ Q (.im (.bl true)) S := by
  rw [u_fits]
  exact ⟨fun w => w.2.1 e, fun q => ⟨h, fun _ => q, fun ⟨x, a, b, c⟩ => absurd (e x a b) c⟩⟩
theorem fits_f {p q : Ps} (h : (p.top = q.tgt ∧ p.tgt = q.top) ∧ Pfew p ∧ Pfew q) (e : ∃ x, 0 ≤ x ∧ x ≤ p.top ∧ p.v x ≠ ndF q x) {S : Sto} {Q : VQ} {X : XQ} : sp_fits [.im p.t, .im q.t] S Q X ↔ Q (.im (.bl false)) S := by
  rw [u_fits]
  refine ⟨fun w => w.2.2 e, fun q => ⟨h, fun z => ?_, fun _ => q⟩⟩
  obtain ⟨x, a, b, c⟩ := e
  exact absurd (z x a b) c
theorem mis_n {p q : Ps} (h : (p.top = q.tgt ∧ p.tgt = q.top) ∧ Pfew p ∧ Pfew q) (e : ∀ x, 0 ≤ x → x ≤ p.top → p.v x = ndF q x) {S : Sto} {Q : VQ} {X : XQ} : sp_misfit [.im p.t, .im q.t] S Q X ↔ Q (.im .non) S := by
  rw [u_misfit]
  exact ⟨fun w => w.2.1 e, fun q => ⟨h, fun _ => q, fun x a b c => absurd (e x a b) c⟩⟩
theorem least_of {D : Int → Prop} : ∀ (n : Nat) (x : Int), 0 ≤ x → x ≤ n → D x → ∃ y, 0 ≤ y ∧ y ≤ x ∧ D y ∧ ∀ z, 0 ≤ z → z < y → ¬ D z
  | 0, x, h0, h1, d => ⟨x, h0, Int.le_refl _, d, fun z z0 z1 => by omega⟩
  | n + 1, x, h0, h1, d => by
    by_cases e : ∃ z, 0 ≤ z ∧ z < x ∧ D z
    · obtain ⟨z, z0, z1, dz⟩ := e
      obtain ⟨y, y0, y1, dy, yl⟩ := least_of n z z0 (by omega) dz
      exact ⟨y, y0, by omega, dy, yl⟩
    · exact ⟨x, h0, Int.le_refl _, d, fun z z0 z1 dz => e ⟨z, z0, z1, dz⟩⟩
theorem mis_f {p q : Ps} (h : (p.top = q.tgt ∧ p.tgt = q.top) ∧ Pfew p ∧ Pfew q) {x : Int} (x0 : 0 ≤ x) (x1 : x ≤ p.top) (d : p.v x ≠ ndF q x) (b : ∀ z, 0 ≤ z → z < x → p.v z = ndF q z) {S : Sto} {Q : VQ} {X : XQ} : sp_misfit [.im p.t, .im q.t] S Q X ↔ Q (.im (.tup [.int x, .int (mn (p.v x) (ndF q x))])) S := by
  rw [u_misfit]
  refine ⟨fun w => w.2.2 x x0 x1 d b, fun k => ⟨h, fun z => absurd (z x x0 x1) d, fun y y0 y1 dy by' => ?_⟩⟩
  have : y = x := by
    rcases Int.lt_trichotomy x y with c | c | c
    · exact absurd (by' x x0 c) d
    · exact c.symm
    · exact absurd (b y y0 c) dy
  rw [this]
  exact k
theorem nol_ints : ∀ ns : List Int, noLsts (ns.map T.int) = true
  | [] => rfl
  | n :: ns => by
    rw [List.map_cons, noLsts, nol_ints ns]
    rfl
theorem hd_ints (ns : List Int) : (ns.map T.int).head?.map refT ≠ some true := by
  cases ns with
  | nil => simp
  | cons n ns => simp [refT]
theorem fb_probes {j k k1 : Nat} {top : Int} {l m : List Pc} {S : Sto} {Q : VQ} {X : XQ} (hj : j % 2 = 0) (ht : 0 ≤ top ∧ top ≤ 1000000000000) (h1 : S[k]? = some (.lst [.mr k1, .im (.lst (m.map Pc.t))])) (h2 : S[k1]? = some (.lst ((l.map Pc.t).map W.im))) (hl : l ≠ []) (hb : l.length ≤ 100000 ∧ m.length ≤ 100000)
    (q : ∀ xs : List Int, xs.length ≤ 4000000 → (∀ x ∈ xs, 0 ≤ x ∧ x ≤ top) → Q (.im (.lst (xs.map T.int))) S) : apSp (.fb "_law_probes") sp__law_probes [.src j, .im (.int top), .mr k] S Q X := by
  refine ⟨[.src j, .im (.int top), .im (.lst [.lst (l.map Pc.t), .lst (m.map Pc.t)])], ?_, ?_⟩
  · have e1 : toB S 2 (.mr k1) = some (.lst (l.map Pc.t)) := toB_mr h2
    have e2 : toB S 3 (.mr k) = some (.lst [.lst (l.map Pc.t), .lst (m.map Pc.t)]) := by
      show (match S[k]? with | some (.lst ws) => (allB (toB S 2) ws).map T.lst | _ => none) = _
      rw [h1]
      simp only [allB, e1, toB_im, Option.bind_some, Option.map_some]
    simp only [borWs, e2, toB_im]
    rfl
  · rw [u_probes]
    refine ⟨hj, ht, by simp, fun t ht => ?_, fun xs a b => ⟨rfl, _, rfl, .inr ⟨_, rfl, nol_ints xs, fun i hi => ?_⟩, q xs a b⟩⟩
    · simp only [List.mem_cons, List.not_mem_nil, or_false] at ht
      rcases ht with rfl | rfl
      · exact ⟨_, .inl rfl, hb.1⟩
      · exact ⟨_, .inl rfl, hb.2⟩
    · have e : [W.src j, .im (.int top), .mr k].flatMap (rch S 3) = [k, k1] := by
        simp only [List.flatMap_cons, List.flatMap_nil, rch, h1, h2, List.nil_append, List.append_nil, List.cons_append]
        congr 2
        rw [List.flatMap_eq_nil_iff]
        intro w hw
        rw [List.mem_map] at hw
        obtain ⟨t, _, rfl⟩ := hw
        rfl
      rw [e] at hi
      simp only [List.mem_cons, List.not_mem_nil, or_false] at hi
      rcases hi with rfl | rfl
      · exact ⟨_, h1, fun z => hd_ints xs z.symm⟩
      · refine ⟨_, h2, fun z => hd_ints xs ?_⟩
        rw [← z]
        cases l with
        | nil => exact absurd rfl hl
        | cons a l => rfl
theorem in1 {S : Sto} {K : Post} {a : Int} {w0 w1 w2 w3 w4 w6 w7 w9 w11 w12 w13 w14 w15 x16 w17 : Option W} {p o : Ps} {n m : Nat} (hp : Pok n p) (hn : n ≤ 1000000) (ho : Pok m o) (hm : m ≤ 1000000) (ot : p.tgt = o.top) (ha : 0 ≤ a ∧ a ≤ p.top) (e : p.v a = ndF o a)
    (kk : ∀ x16, K.nx [w0, w1, w2, w3, w4, some (.im p.t), w6, w7, some (.im o.t), w9, some (.im (.int a)), w11, w12, w13, w14, w15, x16, w17] S) :
    wpCs bd_law_1 [w0, w1, w2, w3, w4, some (.im p.t), w6, w7, some (.im o.t), w9, some (.im (.int a)), w11, w12, w13, w14, w15, x16, w17] S K := by
  have f1 : ∃ n, Pok n p ∧ n ≤ 1000000 := ⟨n, hp, hn⟩
  have f2 : ∃ n, Pok n o ∧ n ≤ 1000000 := ⟨m, ho, hm⟩
  have rg := hp.rg ha.1 ha.2
  obtain ⟨b, eb⟩ : ∃ b, b = p.v a := ⟨_, rfl⟩
  rw [← eb] at rg e
  have hb : 0 ≤ b ∧ b ≤ o.top := by omega
  have c1 : ¬ o.v b < a := by
    have := (nd_fit ho (x := a) (y := b) ha.1 hb.1 hb.2).mp (by omega)
    omega
  simp only [bd_law_1, ic_Ps, ic_Ps', u_call, f1, f2, ha, ← eb, hb, c1, decide_false, wpCs, wpC, wpE, wpEs, wpI, p_nm, p_tup, p_lst, p_nil, p_cons, if_true, if_false, reduceIte, Bool.false_eq_true, startS, getS, setS, setAll, wipeS, List.map_cons, List.map_nil, List.length_cons, List.length_nil, List.cons_append, List.nil_append, List.append_nil, Nat.reduceAdd, Nat.reduceSub, Nat.zero_add, List.replicate_succ, List.replicate_zero, imAll, Option.map_some, Option.bind_some, exists_eq_left, exists_eq_left', Option.some.injEq, W.im.injEq, T.int.injEq, T.bl.injEq, T.str.injEq, T.tup.injEq, T.lst.injEq, w_bin, w_cmp, w_un, w_blt, w_attr, w_ix, w_sl0, w_sl1, w_sl2, w_rev, w_tup, w_lst, w_nlst, b_addI, b_addS, b_addT, b_addL, b_subI, b_mulI, b_divI, b_modI, b_powI, c_lt, c_le, c_gt, c_ge, c_is, c_isn, c_eqI, c_neI, c_eqB, c_neB, c_eqS, c_neS, c_eqN, c_in, c_nin, n_intI, n_non, u_neg, i_len, i_abs, i_min, i_max, i_intI, i_intB, i_tuple, i_list, i_all, i_any, i_isi, i_sorted, i_max1, i_min1, x_lst, x_tup, x_scr, x_mr, s_tup, s_lst, q_lst, q_tup, q_scr, l_lst, l_scr, ln_lst, k_lst, k_tup, k_scr, k_str, j_ty, j_cls, j_tup, m_app, m_ext, e_set, r_app, r_ext, a_fn, stabW, true_and, and_true]
  by_cases c2 : b > 0
  · have c3 : 0 ≤ b - 1 ∧ b - 1 ≤ o.top := by omega
    have c4 : ¬ o.v (b - 1) ≥ a := by
      have := (not_congr (nd_fit ho (x := a) (y := b - 1) ha.1 c3.1 c3.2)).mp (by omega)
      omega
    simp only [c2, c3, c4, decide_true, decide_false, wpCs, wpC, wpE, wpEs, wpI, p_nm, p_tup, p_lst, p_nil, p_cons, if_true, if_false, reduceIte, Bool.false_eq_true, startS, getS, setS, setAll, wipeS, List.map_cons, List.map_nil, List.length_cons, List.length_nil, List.cons_append, List.nil_append, List.append_nil, Nat.reduceAdd, Nat.reduceSub, Nat.zero_add, List.replicate_succ, List.replicate_zero, imAll, Option.map_some, Option.bind_some, exists_eq_left, exists_eq_left', Option.some.injEq, W.im.injEq, T.int.injEq, T.bl.injEq, T.str.injEq, T.tup.injEq, T.lst.injEq, w_bin, w_cmp, w_un, w_blt, w_attr, w_ix, w_sl0, w_sl1, w_sl2, w_rev, w_tup, w_lst, w_nlst, b_addI, b_addS, b_addT, b_addL, b_subI, b_mulI, b_divI, b_modI, b_powI, c_lt, c_le, c_gt, c_ge, c_is, c_isn, c_eqI, c_neI, c_eqB, c_neB, c_eqS, c_neS, c_eqN, c_in, c_nin, n_intI, n_non, u_neg, i_len, i_abs, i_min, i_max, i_intI, i_intB, i_tuple, i_list, i_all, i_any, i_isi, i_sorted, i_max1, i_min1, x_lst, x_tup, x_scr, x_mr, s_tup, s_lst, q_lst, q_tup, q_scr, l_lst, l_scr, ln_lst, k_lst, k_tup, k_scr, k_str, j_ty, j_cls, j_tup, m_app, m_ext, e_set, r_app, r_ext, a_fn, stabW, true_and, and_true]
    exact kk _
  · simp only [c2, decide_false, wpCs, wpC, wpE, wpEs, wpI, p_nm, p_tup, p_lst, p_nil, p_cons, if_true, if_false, reduceIte, Bool.false_eq_true, startS, getS, setS, setAll, wipeS, List.map_cons, List.map_nil, List.length_cons, List.length_nil, List.cons_append, List.nil_append, List.append_nil, Nat.reduceAdd, Nat.reduceSub, Nat.zero_add, List.replicate_succ, List.replicate_zero, imAll, Option.map_some, Option.bind_some, exists_eq_left, exists_eq_left', Option.some.injEq, W.im.injEq, T.int.injEq, T.bl.injEq, T.str.injEq, T.tup.injEq, T.lst.injEq, w_bin, w_cmp, w_un, w_blt, w_attr, w_ix, w_sl0, w_sl1, w_sl2, w_rev, w_tup, w_lst, w_nlst, b_addI, b_addS, b_addT, b_addL, b_subI, b_mulI, b_divI, b_modI, b_powI, c_lt, c_le, c_gt, c_ge, c_is, c_isn, c_eqI, c_neI, c_eqB, c_neB, c_eqS, c_neS, c_eqN, c_in, c_nin, n_intI, n_non, u_neg, i_len, i_abs, i_min, i_max, i_intI, i_intB, i_tuple, i_list, i_all, i_any, i_isi, i_sorted, i_max1, i_min1, x_lst, x_tup, x_scr, x_mr, s_tup, s_lst, q_lst, q_tup, q_scr, l_lst, l_scr, ln_lst, k_lst, k_tup, k_scr, k_str, j_ty, j_cls, j_tup, m_app, m_ext, e_set, r_app, r_ext, a_fn, stabW, true_and, and_true]
    exact kk _
theorem c_ltT {S : Sto} {a b c d : Int} {Q : VQ} : cmpP S .Lt (.im (.tup [.int a, .int b])) (.im (.tup [.int c, .int d])) Q = Q (.im (.bl (if a = c then decide (b < d) else decide (a < c)))) S := rfl
theorem in2t {j : Nat} {S : Sto} {K : Post} {x y tgt a b : Int} {w0 w1 w3 w4 w6 w7 w9 w11 w12 w17 : Option W} {p o : Ps} {n m : Nat} (hp : Pok n p) (hn : n ≤ 1000000) (ho : Pok m o) (hm : m ≤ 1000000) (hx : 0 ≤ x ∧ x ≤ p.top) (e2 : o.top = tgt) (all : ∀ z, 0 ≤ z → z < x → p.v z = ndF o z) (ey : ∀ b, b < y → b < p.v x ∧ b < ndF o x)
    (ha : 0 ≤ a ∧ a ≤ x) (hb : 0 ≤ b ∧ b ≤ tgt)
    (kk : K.nx [w0, w1, some (.src j), w3, w4, some (.im p.t), w6, w7, some (.im o.t), w9, some (.im (.int a)), w11, w12, some (.im (.int tgt)), some (.im (.int x)), some (.im (.int y)), some (.im (.int b)), w17] S) :
    wpCs tl_law_2_2 [w0, w1, some (.src j), w3, w4, some (.im p.t), w6, w7, some (.im o.t), w9, some (.im (.int a)), w11, w12, some (.im (.int tgt)), some (.im (.int x)), some (.im (.int y)), some (.im (.int b)), w17] S K := by
  have f1 : ∃ n, Pok n p ∧ n ≤ 1000000 := ⟨n, hp, hn⟩
  have f2 : ∃ n, Pok n o ∧ n ≤ 1000000 := ⟨m, ho, hm⟩
  have hz : sizeLine = 16777216 := rfl
  have z2 : 2 ≤ sizeLine := by omega
  have a1 : 0 ≤ a ∧ a ≤ p.top := by omega
  have b1 : 0 ≤ b ∧ b ≤ o.top := by omega
  have fit := nd_fit ho (x := a) (y := b) ha.1 b1.1 b1.2
  simp only [tl_law_2_2, z2, c_ltT, wpCs, wpC, wpE, wpEs, wpI, p_nm, p_tup, p_lst, p_nil, p_cons, if_true, if_false, reduceIte, Bool.false_eq_true, startS, getS, setS, setAll, wipeS, List.map_cons, List.map_nil, List.length_cons, List.length_nil, List.cons_append, List.nil_append, List.append_nil, Nat.reduceAdd, Nat.reduceSub, Nat.zero_add, List.replicate_succ, List.replicate_zero, imAll, Option.map_some, Option.bind_some, exists_eq_left, exists_eq_left', Option.some.injEq, W.im.injEq, T.int.injEq, T.bl.injEq, T.str.injEq, T.tup.injEq, T.lst.injEq, w_bin, w_cmp, w_un, w_blt, w_attr, w_ix, w_sl0, w_sl1, w_sl2, w_rev, w_tup, w_lst, w_nlst, b_addI, b_addS, b_addT, b_addL, b_subI, b_mulI, b_divI, b_modI, b_powI, c_lt, c_le, c_gt, c_ge, c_is, c_isn, c_eqI, c_neI, c_eqB, c_neB, c_eqS, c_neS, c_eqN, c_in, c_nin, n_intI, n_non, u_neg, i_len, i_abs, i_min, i_max, i_intI, i_intB, i_tuple, i_list, i_all, i_any, i_isi, i_sorted, i_max1, i_min1, x_lst, x_tup, x_scr, x_mr, s_tup, s_lst, q_lst, q_tup, q_scr, l_lst, l_scr, ln_lst, k_lst, k_tup, k_scr, k_str, j_ty, j_cls, j_tup, m_app, m_ext, e_set, r_app, r_ext, a_fn, stabW, true_and, and_true]
  by_cases c1 : (if a = x then decide (b < y) else decide (a < x)) = true
  · have e : decide (p.v a ≤ b) = decide (a ≤ o.v b) := by
      by_cases c : a = x
      · rw [if_pos c, decide_eq_true_eq] at c1
        obtain ⟨k1, k2⟩ := ey b c1
        rw [c] at fit ⊢
        rw [decide_eq_false (by omega), decide_eq_false (by omega)]
      · have := all a ha.1 (by omega)
        rw [this]
        exact decide_eq_decide.mpr fit
    simp only [c1, ic_Ps, ic_Ps', u_call, f1, f2, a1, b1, e, decide_true, Bool.not_true, wpCs, wpC, wpE, wpEs, wpI, p_nm, p_tup, p_lst, p_nil, p_cons, if_true, if_false, reduceIte, Bool.false_eq_true, startS, getS, setS, setAll, wipeS, List.map_cons, List.map_nil, List.length_cons, List.length_nil, List.cons_append, List.nil_append, List.append_nil, Nat.reduceAdd, Nat.reduceSub, Nat.zero_add, List.replicate_succ, List.replicate_zero, imAll, Option.map_some, Option.bind_some, exists_eq_left, exists_eq_left', Option.some.injEq, W.im.injEq, T.int.injEq, T.bl.injEq, T.str.injEq, T.tup.injEq, T.lst.injEq, w_bin, w_cmp, w_un, w_blt, w_attr, w_ix, w_sl0, w_sl1, w_sl2, w_rev, w_tup, w_lst, w_nlst, b_addI, b_addS, b_addT, b_addL, b_subI, b_mulI, b_divI, b_modI, b_powI, c_lt, c_le, c_gt, c_ge, c_is, c_isn, c_eqI, c_neI, c_eqB, c_neB, c_eqS, c_neS, c_eqN, c_in, c_nin, n_intI, n_non, u_neg, i_len, i_abs, i_min, i_max, i_intI, i_intB, i_tuple, i_list, i_all, i_any, i_isi, i_sorted, i_max1, i_min1, x_lst, x_tup, x_scr, x_mr, s_tup, s_lst, q_lst, q_tup, q_scr, l_lst, l_scr, ln_lst, k_lst, k_tup, k_scr, k_str, j_ty, j_cls, j_tup, m_app, m_ext, e_set, r_app, r_ext, a_fn, stabW, true_and, and_true]
    exact kk
  · have c1 : (if a = x then decide (b < y) else decide (a < x)) = false := Bool.eq_false_iff.mpr c1
    simp only [c1, wpCs, wpC, wpE, wpEs, wpI, p_nm, p_tup, p_lst, p_nil, p_cons, if_true, if_false, reduceIte, Bool.false_eq_true, startS, getS, setS, setAll, wipeS, List.map_cons, List.map_nil, List.length_cons, List.length_nil, List.cons_append, List.nil_append, List.append_nil, Nat.reduceAdd, Nat.reduceSub, Nat.zero_add, List.replicate_succ, List.replicate_zero, imAll, Option.map_some, Option.bind_some, exists_eq_left, exists_eq_left', Option.some.injEq, W.im.injEq, T.int.injEq, T.bl.injEq, T.str.injEq, T.tup.injEq, T.lst.injEq, w_bin, w_cmp, w_un, w_blt, w_attr, w_ix, w_sl0, w_sl1, w_sl2, w_rev, w_tup, w_lst, w_nlst, b_addI, b_addS, b_addT, b_addL, b_subI, b_mulI, b_divI, b_modI, b_powI, c_lt, c_le, c_gt, c_ge, c_is, c_isn, c_eqI, c_neI, c_eqB, c_neB, c_eqS, c_neS, c_eqN, c_in, c_nin, n_intI, n_non, u_neg, i_len, i_abs, i_min, i_max, i_intI, i_intB, i_tuple, i_list, i_all, i_any, i_isi, i_sorted, i_max1, i_min1, x_lst, x_tup, x_scr, x_mr, s_tup, s_lst, q_lst, q_tup, q_scr, l_lst, l_scr, ln_lst, k_lst, k_tup, k_scr, k_str, j_ty, j_cls, j_tup, m_app, m_ext, e_set, r_app, r_ext, a_fn, stabW, true_and, and_true]
    exact kk
theorem in2 {j : Nat} (hj : j % 2 = 0) {S : Sto} {K : Post} {x y tgt : Int} {w0 w1 w3 w4 w6 w7 w9 x10 w11 w12 x16 w17 : Option W} {p o : Ps} {n m : Nat} (hp : Pok n p) (hn : n ≤ 1000000) (ho : Pok m o) (hm : m ≤ 1000000) (hx : 0 ≤ x ∧ x ≤ p.top) (pt : p.top ≤ 1000000000000) (hy : 0 ≤ y ∧ y ≤ tgt) (gt : tgt ≤ 1000000000000) (e2 : o.top = tgt) (all : ∀ z, 0 ≤ z → z < x → p.v z = ndF o z) (ey : ∀ b, b < y → b < p.v x ∧ b < ndF o x)
    (kk : ∀ x10 x16, K.nx [w0, w1, some (.src j), w3, w4, some (.im p.t), w6, w7, some (.im o.t), w9, x10, w11, w12, some (.im (.int tgt)), some (.im (.int x)), some (.im (.int y)), x16, w17] S) :
    wpCs bd_law_2 [w0, w1, some (.src j), w3, w4, some (.im p.t), w6, w7, some (.im o.t), w9, x10, w11, w12, some (.im (.int tgt)), some (.im (.int x)), some (.im (.int y)), x16, w17] S K := by
  simp only [bd_law_2, u_choose, wpCs, wpC, wpE, wpEs, wpI, p_nm, p_tup, p_lst, p_nil, p_cons, if_true, if_false, reduceIte, Bool.false_eq_true, startS, getS, setS, setAll, wipeS, List.map_cons, List.map_nil, List.length_cons, List.length_nil, List.cons_append, List.nil_append, List.append_nil, Nat.reduceAdd, Nat.reduceSub, Nat.zero_add, List.replicate_succ, List.replicate_zero, imAll, Option.map_some, Option.bind_some, exists_eq_left, exists_eq_left', Option.some.injEq, W.im.injEq, T.int.injEq, T.bl.injEq, T.str.injEq, T.tup.injEq, T.lst.injEq, w_bin, w_cmp, w_un, w_blt, w_attr, w_ix, w_sl0, w_sl1, w_sl2, w_rev, w_tup, w_lst, w_nlst, b_addI, b_addS, b_addT, b_addL, b_subI, b_mulI, b_divI, b_modI, b_powI, c_lt, c_le, c_gt, c_ge, c_is, c_isn, c_eqI, c_neI, c_eqB, c_neB, c_eqS, c_neS, c_eqN, c_in, c_nin, n_intI, n_non, u_neg, i_len, i_abs, i_min, i_max, i_intI, i_intB, i_tuple, i_list, i_all, i_any, i_isi, i_sorted, i_max1, i_min1, x_lst, x_tup, x_scr, x_mr, s_tup, s_lst, q_lst, q_tup, q_scr, l_lst, l_scr, ln_lst, k_lst, k_tup, k_scr, k_str, j_ty, j_cls, j_tup, m_app, m_ext, e_set, r_app, r_ext, a_fn, stabW, true_and, and_true]
  refine ⟨hj, by unfold cntOk; omega, fun a a0 a1 => ?_⟩
  by_cases c : a < x
  · simp only [c, decide_true, if_true, u_choose]
    exact ⟨hj, by unfold cntOk; omega, fun b b0 b1 => in2t hp hn ho hm hx e2 all ey (by omega) (by omega) (kk _ _)⟩
  · simp only [c, decide_false, Bool.false_eq_true, if_false, u_choose]
    exact ⟨hj, by unfold cntOk; omega, fun b b0 b1 => in2t hp hn ho hm hx e2 all ey (by omega) (by omega) (kk _ _)⟩
theorem law_t {j k n m : Nat} (hj : j % 2 = 0) {K : Post} {S1 : Sto} {w0 w1 w3 w6 w7 x9 x10 x11 x14 x15 x16 x17 : Option W} {l : List Pc} {p o : Ps} {tgt : Int} (gk : S1[k]? = some (.lst ((l.map Pc.t).map W.im))) (hl : l ≠ []) (hl' : l.length ≤ 100000) (hp : Pok n p) (hn : n ≤ 100000) (ho : Pok m o) (hm : m ≤ 100000) (pt : p.top = 1000000000000) (pg : p.tgt = tgt) (ot : o.top = tgt) (og : o.tgt = 1000000000000) (hg : 0 ≤ tgt ∧ tgt ≤ 1000000000000)
    (hne : ∃ x, 0 ≤ x ∧ x ≤ p.top ∧ p.v x ≠ ndF o x) (kk : ∀ L x9 x10 x11 x14 x15 x16 x17, K.nx [w0, w1, some (.src j), w3, some (.mr k), some (.im p.t), w6, w7, some (.im o.t), x9, x10, x11, some (.im (.int 1000000000000)), some (.im (.int tgt)), x14, x15, x16, x17] (S1 ++ L)) :
    wpCs tl_law_3_10 [w0, w1, some (.src j), w3, some (.mr k), some (.im p.t), w6, w7, some (.im o.t), x9, x10, x11, some (.im (.int 1000000000000)), some (.im (.int tgt)), x14, x15, x16, x17] S1 K := by
  have hz : sizeLine = 16777216 := rfl
  have z1 : 1 ≤ sizeLine := by omega
  have z2 : 2 ≤ sizeLine := by omega
  have z3 : 3 ≤ sizeLine := by omega
  have cond : (p.top = o.tgt ∧ p.tgt = o.top) ∧ Pfew p ∧ Pfew o := ⟨⟨by omega, by omega⟩, ⟨n, hp, by omega⟩, ⟨m, ho, by omega⟩⟩
  have f1 : ∃ n, Pok n p ∧ n ≤ 1000000 := ⟨n, hp, by omega⟩
  have f2 : ∃ n, Pok n o ∧ n ≤ 1000000 := ⟨m, ho, by omega⟩
  have hff := hne
  obtain ⟨x', x0', x1', d'⟩ := hne
  obtain ⟨x, x0, x1, d, b⟩ := least_of (D := fun x => p.v x ≠ ndF o x) x'.toNat x' x0' (by omega) d'
  have b : ∀ z, 0 ≤ z → z < x → p.v z = ndF o z := fun z z0 z1 => by
    have := b z z0 z1
    omega
  have x1 : x ≤ p.top := by omega
  have rp := hp.rg x0 x1
  have rn := nd_rg ho x
  obtain ⟨y, ey⟩ : ∃ y, y = mn (p.v x) (ndF o x) := ⟨_, rfl⟩
  have y1 : 0 ≤ y ∧ y ≤ o.top ∧ (y = p.v x ∧ y < ndF o x ∨ y = ndF o x ∧ y < p.v x) := by
    rw [ey]
    unfold mn
    split <;> omega
  have hx : 0 ≤ x ∧ x ≤ p.top := ⟨x0, x1⟩
  have hy : 0 ≤ y ∧ y ≤ o.top := ⟨y1.1, y1.2.1⟩
  have fy := nd_fit ho (x := x) (y := y) x0 hy.1 hy.2
  have c1 : decide (decide (p.v x ≤ y) = decide (x ≤ o.v y)) = false := by
    rcases y1.2.2 with h | h
    · rw [decide_eq_true (show p.v x ≤ y by omega), decide_eq_false (show ¬ x ≤ o.v y by omega)]
      rfl
    · rw [decide_eq_false (show ¬ p.v x ≤ y by omega), decide_eq_true (show x ≤ o.v y by omega)]
      rfl
  have nn : isNon (.tup [.int x, .int y]) = false := rfl
  simp only [tl_law_3_10, mis_f cond x0 x1 d b, ← ey, fits_f cond hff, c_is, nn, ic_Ps, ic_Ps', u_call, f1, f2, hx, hy, c1, z1, z2, z3, and_self, wpCs, wpC, wpE, wpEs, wpI, p_nm, p_tup, p_lst, p_nil, p_cons, if_true, if_false, reduceIte, Bool.false_eq_true, startS, getS, setS, setAll, wipeS, List.map_cons, List.map_nil, List.length_cons, List.length_nil, List.cons_append, List.nil_append, List.append_nil, Nat.reduceAdd, Nat.reduceSub, Nat.zero_add, List.replicate_succ, List.replicate_zero, imAll, Option.map_some, Option.bind_some, exists_eq_left, exists_eq_left', Option.some.injEq, W.im.injEq, T.int.injEq, T.bl.injEq, T.str.injEq, T.tup.injEq, T.lst.injEq, w_bin, w_cmp, w_un, w_blt, w_attr, w_ix, w_sl0, w_sl1, w_sl2, w_rev, w_tup, w_lst, w_nlst, b_addI, b_addS, b_addT, b_addL, b_subI, b_mulI, b_divI, b_modI, b_powI, c_lt, c_le, c_gt, c_ge, c_is, c_isn, c_eqI, c_neI, c_eqB, c_neB, c_eqS, c_neS, c_eqN, c_in, c_nin, n_intI, n_non, u_neg, i_len, i_abs, i_min, i_max, i_intI, i_intB, i_tuple, i_list, i_all, i_any, i_isi, i_sorted, i_max1, i_min1, x_lst, x_tup, x_scr, x_mr, s_tup, s_lst, q_lst, q_tup, q_scr, l_lst, l_scr, ln_lst, k_lst, k_tup, k_scr, k_str, j_ty, j_cls, j_tup, m_app, m_ext, e_set, r_app, r_ext, a_fn, stabW, true_and, and_true]
  have gk1 : (S1 ++ [.lst [.mr k, .im (.lst [.tup [.int x, .int 0, .bl false]])]])[k]? = some (.lst ((l.map Pc.t).map W.im)) := by
    rw [List.getElem?_append_left (List.getElem?_eq_some_iff.mp gk).1]
    exact gk
  refine fb_probes (l := l) (m := [⟨x, 0, false⟩]) hj (by omega) (by simp [Pc.t]) gk1 hl ⟨hl', by simp⟩ fun xs hxl hxs => ?_
  refine ⟨_, rfl, ?_⟩
  refine lc_filter T.int T.int (fun a => decide (a < x)) trivial xs [] _ (by simp; omega) (fun a ha => ?_) ?_
  · simp only [wpCs, wpC, wpE, wpEs, wpI, p_nm, p_tup, p_lst, p_nil, p_cons, if_true, if_false, reduceIte, Bool.false_eq_true, startS, getS, setS, setAll, wipeS, List.map_cons, List.map_nil, List.length_cons, List.length_nil, List.cons_append, List.nil_append, List.append_nil, Nat.reduceAdd, Nat.reduceSub, Nat.zero_add, List.replicate_succ, List.replicate_zero, imAll, Option.map_some, Option.bind_some, exists_eq_left, exists_eq_left', Option.some.injEq, W.im.injEq, T.int.injEq, T.bl.injEq, T.str.injEq, T.tup.injEq, T.lst.injEq, w_bin, w_cmp, w_un, w_blt, w_attr, w_ix, w_sl0, w_sl1, w_sl2, w_rev, w_tup, w_lst, w_nlst, b_addI, b_addS, b_addT, b_addL, b_subI, b_mulI, b_divI, b_modI, b_powI, c_lt, c_le, c_gt, c_ge, c_is, c_isn, c_eqI, c_neI, c_eqB, c_neB, c_eqS, c_neS, c_eqN, c_in, c_nin, n_intI, n_non, u_neg, i_len, i_abs, i_min, i_max, i_intI, i_intB, i_tuple, i_list, i_all, i_any, i_isi, i_sorted, i_max1, i_min1, x_lst, x_tup, x_scr, x_mr, s_tup, s_lst, q_lst, q_tup, q_scr, l_lst, l_scr, ln_lst, k_lst, k_tup, k_scr, k_str, j_ty, j_cls, j_tup, m_app, m_ext, e_set, r_app, r_ext, a_fn, stabW, true_and, and_true]
    exact ⟨fun R h => h, fun _ R h => h⟩
  rw [List.nil_append]
  refine for_inv (fun ρ S' => S' = (S1 ++ [.lst [.mr k, .im (.lst [.tup [.int x, .int 0, .bl false]])]]) ∧ ∃ x10 x16, ρ = [w0, w1, some (.src j), w3, some (.mr k), some (.im p.t), w6, w7, some (.im o.t), some (.im (.tup [.int x, .int y])), x10, x11, some (.im (.int 1000000000000)), some (.im (.int tgt)), some (.im (.int x)), some (.im (.int y)), x16, x17]) (fun _ _ _ => trivial) ?_ _ _ _ ⟨rfl, _, _, rfl⟩ ?_
  rotate_left
  · rintro t ht ρ S' K' ⟨rfl, x10, x16, rfl⟩ _ _ hk _
    rw [List.mem_map] at ht
    obtain ⟨a, ha, rfl⟩ := ht
    rw [List.mem_filter, decide_eq_true_eq] at ha
    have ha1 := hxs a ha.1
    rw [p_nm]
    exact in1 hp (by omega) ho (by omega) (by omega) (by omega) (b a ha1.1 ha.2) fun x16 => hk _ _ ⟨rfl, _, _, rfl⟩
  rintro ρ S' ⟨rfl, x10, x16, rfl⟩
  have fin : ∀ x10 x16, wpCs (.cons (.fo (.nm 11) (.rng (.con (.int 12))) bd_law_2) .nil) [w0, w1, some (.src j), w3, some (.mr k), some (.im p.t), w6, w7, some (.im o.t), some (.im (.tup [.int x, .int y])), x10, x11, some (.im (.int 1000000000000)), some (.im (.int tgt)), some (.im (.int x)), some (.im (.int y)), x16, x17] (S1 ++ [.lst [.mr k, .im (.lst [.tup [.int x, .int 0, .bl false]])]]) K := by
    intro x10 x16
    simp only [wpCs, wpC, wpE, wpEs, wpI, p_nm, p_tup, p_lst, p_nil, p_cons, if_true, if_false, reduceIte, Bool.false_eq_true, startS, getS, setS, setAll, wipeS, List.map_cons, List.map_nil, List.length_cons, List.length_nil, List.cons_append, List.nil_append, List.append_nil, Nat.reduceAdd, Nat.reduceSub, Nat.zero_add, List.replicate_succ, List.replicate_zero, imAll, Option.map_some, Option.bind_some, exists_eq_left, exists_eq_left', Option.some.injEq, W.im.injEq, T.int.injEq, T.bl.injEq, T.str.injEq, T.tup.injEq, T.lst.injEq, w_bin, w_cmp, w_un, w_blt, w_attr, w_ix, w_sl0, w_sl1, w_sl2, w_rev, w_tup, w_lst, w_nlst, b_addI, b_addS, b_addT, b_addL, b_subI, b_mulI, b_divI, b_modI, b_powI, c_lt, c_le, c_gt, c_ge, c_is, c_isn, c_eqI, c_neI, c_eqB, c_neB, c_eqS, c_neS, c_eqN, c_in, c_nin, n_intI, n_non, u_neg, i_len, i_abs, i_min, i_max, i_intI, i_intB, i_tuple, i_list, i_all, i_any, i_isi, i_sorted, i_max1, i_min1, x_lst, x_tup, x_scr, x_mr, s_tup, s_lst, q_lst, q_tup, q_scr, l_lst, l_scr, ln_lst, k_lst, k_tup, k_scr, k_str, j_ty, j_cls, j_tup, m_app, m_ext, e_set, r_app, r_ext, a_fn, stabW, true_and, and_true]
    refine ⟨by decide, by decide, ?_⟩
    refine for_inv (fun ρ S' => S' = (S1 ++ [.lst [.mr k, .im (.lst [.tup [.int x, .int 0, .bl false]])]]) ∧ ∃ x10 x11 x16, ρ = [w0, w1, some (.src j), w3, some (.mr k), some (.im p.t), w6, w7, some (.im o.t), some (.im (.tup [.int x, .int y])), x10, x11, some (.im (.int 1000000000000)), some (.im (.int tgt)), some (.im (.int x)), some (.im (.int y)), x16, x17]) (fun _ _ _ => trivial) ?_ _ _ _ ⟨rfl, _, _, _, rfl⟩ ?_
    · rintro ρ S' ⟨rfl, x10, x11, x16, rfl⟩
      exact kk _ _ _ _ _ _ _ _
    · rintro t ht ρ S' K' ⟨rfl, x10, x11, x16, rfl⟩ _ _ hk _
      rw [p_nm]
      exact in2 hj hp (by omega) ho (by omega) hx (by omega) ⟨hy.1, by omega⟩ (by omega) ot b (fun b hb => by omega) fun x10 x16 => hk _ _ ⟨rfl, _, _, _, rfl⟩
  by_cases c2 : y > 0
  · have hy' : 0 ≤ y - 1 ∧ y - 1 ≤ o.top := by omega
    have fy' := nd_fit ho (x := x) (y := y - 1) x0 hy'.1 hy'.2
    have e : decide (p.v x ≤ y - 1) = decide (x ≤ o.v (y - 1)) := by rw [decide_eq_false (by omega), decide_eq_false (by omega)]
    simp only [c2, decide_true, hx, hy', f1, f2, e, ic_Ps, ic_Ps', u_call, Bool.not_true, wpCs, wpC, wpE, wpEs, wpI, p_nm, p_tup, p_lst, p_nil, p_cons, if_true, if_false, reduceIte, Bool.false_eq_true, startS, getS, setS, setAll, wipeS, List.map_cons, List.map_nil, List.length_cons, List.length_nil, List.cons_append, List.nil_append, List.append_nil, Nat.reduceAdd, Nat.reduceSub, Nat.zero_add, List.replicate_succ, List.replicate_zero, imAll, Option.map_some, Option.bind_some, exists_eq_left, exists_eq_left', Option.some.injEq, W.im.injEq, T.int.injEq, T.bl.injEq, T.str.injEq, T.tup.injEq, T.lst.injEq, w_bin, w_cmp, w_un, w_blt, w_attr, w_ix, w_sl0, w_sl1, w_sl2, w_rev, w_tup, w_lst, w_nlst, b_addI, b_addS, b_addT, b_addL, b_subI, b_mulI, b_divI, b_modI, b_powI, c_lt, c_le, c_gt, c_ge, c_is, c_isn, c_eqI, c_neI, c_eqB, c_neB, c_eqS, c_neS, c_eqN, c_in, c_nin, n_intI, n_non, u_neg, i_len, i_abs, i_min, i_max, i_intI, i_intB, i_tuple, i_list, i_all, i_any, i_isi, i_sorted, i_max1, i_min1, x_lst, x_tup, x_scr, x_mr, s_tup, s_lst, q_lst, q_tup, q_scr, l_lst, l_scr, ln_lst, k_lst, k_tup, k_scr, k_str, j_ty, j_cls, j_tup, m_app, m_ext, e_set, r_app, r_ext, a_fn, stabW, true_and, and_true] at fin ⊢
    exact fin _ _
  · simp only [c2, decide_false, wpCs, wpC, wpE, wpEs, wpI, p_nm, p_tup, p_lst, p_nil, p_cons, if_true, if_false, reduceIte, Bool.false_eq_true, startS, getS, setS, setAll, wipeS, List.map_cons, List.map_nil, List.length_cons, List.length_nil, List.cons_append, List.nil_append, List.append_nil, Nat.reduceAdd, Nat.reduceSub, Nat.zero_add, List.replicate_succ, List.replicate_zero, imAll, Option.map_some, Option.bind_some, exists_eq_left, exists_eq_left', Option.some.injEq, W.im.injEq, T.int.injEq, T.bl.injEq, T.str.injEq, T.tup.injEq, T.lst.injEq, w_bin, w_cmp, w_un, w_blt, w_attr, w_ix, w_sl0, w_sl1, w_sl2, w_rev, w_tup, w_lst, w_nlst, b_addI, b_addS, b_addT, b_addL, b_subI, b_mulI, b_divI, b_modI, b_powI, c_lt, c_le, c_gt, c_ge, c_is, c_isn, c_eqI, c_neI, c_eqB, c_neB, c_eqS, c_neS, c_eqN, c_in, c_nin, n_intI, n_non, u_neg, i_len, i_abs, i_min, i_max, i_intI, i_intB, i_tuple, i_list, i_all, i_any, i_isi, i_sorted, i_max1, i_min1, x_lst, x_tup, x_scr, x_mr, s_tup, s_lst, q_lst, q_tup, q_scr, l_lst, l_scr, ln_lst, k_lst, k_tup, k_scr, k_str, j_ty, j_cls, j_tup, m_app, m_ext, e_set, r_app, r_ext, a_fn, stabW, true_and, and_true] at fin ⊢
    exact fin _ _
theorem flat_ok {a t c : Int} (ha : 0 ≤ a) (h0 : 0 ≤ c) (h1 : c ≤ t) : arePieces a t [⟨0, c, false⟩] = true ∧ Pok 1 (mkPs a t [⟨0, c, false⟩]) ∧ ∀ x, 0 ≤ x → x ≤ a → (mkPs a t [⟨0, c, false⟩]).v x = c := by
  have k : arePieces a t [⟨0, c, false⟩] = true := by
    have : ¬ c < 0 := by omega
    simp [arePieces, pieceOk, lastS, incr, chkP, endOf, h0, h1, this, ha]
  obtain ⟨p1, p2⟩ := Pok.pieces (n := 1) ha k (by simp)
  refine ⟨k, p1, fun x x0 x1 => ?_⟩
  rw [p2 x x0 x1]
  show resIn [⟨0, a, c, false⟩] x = c
  rw [resIn_in (p := ⟨0, a, c, false⟩) x0 x1]
  simp [Pt.res]
theorem mk_flat {a t c : Int} (ha : 0 ≤ a) (h0 : 0 ≤ c) (h1 : c ≤ t) {S : Sto} {Q : VQ} {X : XQ} : apSp (.mk "Passage") sp_Passage___init__ [.im (.int a), .im (.int t), .im (.lst [.tup [.int 0, .int c, .bl false]])] S Q X ↔ Q (.im (mkPs a t [⟨0, c, false⟩]).t) S := by
  have k := u_mkPassage (a := a) (b := t) (S := S) (Q := Q) (X := X) (lcs_dec (l := [⟨0, c, false⟩]))
  have c1 : few [(⟨0, c, false⟩ : Pc)].length ∧ 0 ≤ a ∧ 0 ≤ t ∧ arePieces a t [⟨0, c, false⟩] = true := ⟨by unfold few; simp, ha, by omega, (flat_ok ha h0 h1).1⟩
  simp only [c1, true_and] at k
  exact k
theorem law_in {j : Nat} (hj : j % 2 = 0) {K : Post} {S : Sto} {w0 x1 x3 x4 x5 x6 x7 x8 x9 x10 x11 x12 x13 x14 x15 x16 x17 : Option W} (kk : ∀ L x4 x5 x6 x7 x8 x9 x10 x11 x12 x13 x14 x15 x16 x17, K.nx [w0, x1, some (.src j), x3, x4, x5, x6, x7, x8, x9, x10, x11, x12, x13, x14, x15, x16, x17] (S ++ L)) (kc : ∀ L x4 x5 x6 x7 x8 x9 x10 x11 x12 x13 x14 x15 x16 x17, K.ct [w0, x1, some (.src j), x3, x4, x5, x6, x7, x8, x9, x10, x11, x12, x13, x14, x15, x16, x17] (S ++ L)) :
    wpCs bd_law_3 [w0, x1, some (.src j), x3, x4, x5, x6, x7, x8, x9, x10, x11, x12, x13, x14, x15, x16, x17] S K := by
  have hz : sizeLine = 16777216 := rfl
  have z3 : 3 ≤ sizeLine := by omega
  have z2 : 2 ≤ sizeLine := by omega
  have z1 : 1 ≤ sizeLine := by omega
  simp only [bd_law_3, u_one_of, atp1, atp2, z3, z2, and_self, wpCs, wpC, wpE, wpEs, wpI, p_nm, p_tup, p_lst, p_nil, p_cons, if_true, if_false, reduceIte, Bool.false_eq_true, startS, getS, setS, setAll, wipeS, List.map_cons, List.map_nil, List.length_cons, List.length_nil, List.cons_append, List.nil_append, List.append_nil, Nat.reduceAdd, Nat.reduceSub, Nat.zero_add, List.replicate_succ, List.replicate_zero, imAll, Option.map_some, Option.bind_some, exists_eq_left, exists_eq_left', Option.some.injEq, W.im.injEq, T.int.injEq, T.bl.injEq, T.str.injEq, T.tup.injEq, T.lst.injEq, w_bin, w_cmp, w_un, w_blt, w_attr, w_ix, w_sl0, w_sl1, w_sl2, w_rev, w_tup, w_lst, w_nlst, b_addI, b_addS, b_addT, b_addL, b_subI, b_mulI, b_divI, b_modI, b_powI, c_lt, c_le, c_gt, c_ge, c_is, c_isn, c_eqI, c_neI, c_eqB, c_neB, c_eqS, c_neS, c_eqN, c_in, c_nin, n_intI, n_non, u_neg, i_len, i_abs, i_min, i_max, i_intI, i_intB, i_tuple, i_list, i_all, i_any, i_isi, i_sorted, i_max1, i_min1, x_lst, x_tup, x_scr, x_mr, s_tup, s_lst, q_lst, q_tup, q_scr, l_lst, l_scr, ln_lst, k_lst, k_tup, k_scr, k_str, j_ty, j_cls, j_tup, m_app, m_ext, e_set, r_app, r_ext, a_fn, stabW, true_and, and_true]
  have e12 : ((10 : Int) ^ Int.toNat 12) = 1000000000000 := by decide
  have e6 : ((10 : Int) ^ Int.toNat 6) = 1000000 := by decide
  refine ⟨hj, ⟨by simp, by unfold few; decide⟩, fun t hg' => ?_⟩
  obtain ⟨tgt, rfl, hg⟩ : ∃ top : Int, t = .int top ∧ 0 < top ∧ top ≤ 1000000000000 := by
    simp only [List.mem_cons, List.not_mem_nil, or_false, e12, e6] at hg'
    rcases hg' with rfl | rfl | rfl
    · exact ⟨_, rfl, by decide, by decide⟩
    · exact ⟨_, rfl, by decide, by decide⟩
    · exact ⟨_, rfl, by decide, by decide⟩
  simp only [u_pieces_m, e12, wpCs, wpC, wpE, wpEs, wpI, p_nm, p_tup, p_lst, p_nil, p_cons, if_true, if_false, reduceIte, Bool.false_eq_true, startS, getS, setS, setAll, wipeS, List.map_cons, List.map_nil, List.length_cons, List.length_nil, List.cons_append, List.nil_append, List.append_nil, Nat.reduceAdd, Nat.reduceSub, Nat.zero_add, List.replicate_succ, List.replicate_zero, imAll, Option.map_some, Option.bind_some, exists_eq_left, exists_eq_left', Option.some.injEq, W.im.injEq, T.int.injEq, T.bl.injEq, T.str.injEq, T.tup.injEq, T.lst.injEq, w_bin, w_cmp, w_un, w_blt, w_attr, w_ix, w_sl0, w_sl1, w_sl2, w_rev, w_tup, w_lst, w_nlst, b_addI, b_addS, b_addT, b_addL, b_subI, b_mulI, b_divI, b_modI, b_powI, c_lt, c_le, c_gt, c_ge, c_is, c_isn, c_eqI, c_neI, c_eqB, c_neB, c_eqS, c_neS, c_eqN, c_in, c_nin, n_intI, n_non, u_neg, i_len, i_abs, i_min, i_max, i_intI, i_intB, i_tuple, i_list, i_all, i_any, i_isi, i_sorted, i_max1, i_min1, x_lst, x_tup, x_scr, x_mr, s_tup, s_lst, q_lst, q_tup, q_scr, l_lst, l_scr, ln_lst, k_lst, k_tup, k_scr, k_str, j_ty, j_cls, j_tup, m_app, m_ext, e_set, r_app, r_ext, a_fn, stabW, true_and, and_true]
  refine ⟨hj, ⟨by omega, by omega⟩, ⟨by omega, by omega⟩, by omega, fun l la ll => ?_⟩
  cases l with
  | nil => cases la
  | cons a r =>
    have g1 : ∀ o : MO, (S ++ [o])[S.length]? = some o := fun o => by simp
    have la' := are_zero la
    have lz := at_zero la'
    obtain ⟨l, el⟩ : ∃ l : List Pc, l = ⟨0, 0, a.r⟩ :: r := ⟨_, rfl⟩
    have lne : l ≠ [] := by rw [el]; simp
    have hl : l.length ≤ 8 := by rw [el]; simp only [List.length_cons] at ll ⊢; omega
    have st : ((S ++ [MO.lst (((a :: r).map Pc.t).map W.im)]).set S.length (.lst ((((a :: r).map Pc.t).map W.im).set 0 (.im (.tup [.int 0, .int 0, .bl a.r]))))) = S ++ [.lst ((l.map Pc.t).map W.im)] := by rw [el]; simp [Pc.t]
    rw [← el] at la' lz
    refine ⟨_, g1 _, .im a.t, by simp [atI, ixN], ?_⟩
    rw [Pc.t, x_tup]
    refine ⟨.bl a.r, by simp [atI, ixN], _, rfl, z3, _, g1 _, 0, by simp [ixN], ?_⟩
    rw [st]
    obtain ⟨S1, eS⟩ : ∃ S1, S1 = S ++ [.lst ((l.map Pc.t).map W.im)] := ⟨_, rfl⟩
    have gk : S1[S.length]? = some (.lst ((l.map Pc.t).map W.im)) := by rw [eS]; exact g1 _
    have kk : ∀ L x4 x5 x6 x7 x8 x9 x10 x11 x12 x13 x14 x15 x16 x17, K.nx [w0, x1, some (.src j), x3, x4, x5, x6, x7, x8, x9, x10, x11, x12, x13, x14, x15, x16, x17] (S1 ++ L) := by rw [eS]; intro L; rw [List.append_assoc]; exact kk _
    have kc : ∀ x4 x5 x6 x7 x8 x9 x10 x11 x12 x13 x14 x15 x16 x17, K.ct [w0, x1, some (.src j), x3, x4, x5, x6, x7, x8, x9, x10, x11, x12, x13, x14, x15, x16, x17] S1 := by rw [eS]; exact kc _
    rw [← eS]
    rw [u_mb gk]
    refine ⟨⟨by unfold few; omega, by omega, by omega, la'⟩, ?_⟩
    obtain ⟨hp, hv⟩ := drawn_ok (n := 8) (by omega) la' (by omega)
    obtain ⟨p, ep⟩ : ∃ p, p = mkPs 1000000000000 tgt l := ⟨_, rfl⟩
    have pt : p.top = 1000000000000 := by rw [ep]; rfl
    have pg : p.tgt = tgt := by rw [ep]; rfl
    rw [← ep] at hp hv ⊢
    have f1 : Pfew p := ⟨8, hp, by omega⟩
    have v0 : p.v 0 = 0 := by rw [← hv 0 (by omega) (by omega)]; exact lz
    have lo : ¬ (0 < p.v 0) := by omega
    obtain ⟨_, q1, q2⟩ := hp.amPs v0 _ (Nat.le_refl _) (by omega)
    have ea : amT p = (amPs p).t := by unfold amT; rw [if_neg lo]
    obtain ⟨q, eq⟩ : ∃ q, q = amPs p := ⟨_, rfl⟩
    have qt : q.top = tgt := by rw [eq]; exact pg
    have qg : q.tgt = 1000000000000 := by rw [eq]; exact pt
    rw [← eq] at ea q1 q2
    have f2 : Pfew q := ⟨_, q1, by omega⟩
    have fit : ∀ x y, 0 ≤ x → x ≤ p.top → 0 ≤ y → y ≤ p.tgt → (p.v x ≤ y ↔ x ≤ q.v y) := fun x y x0 x1 y0 y1 => by
      rw [q2 y y0 y1]
      exact hp.am_iff v0 y0 x0 x1
    have nd := nd_of_fit hp q1 (by omega) fit
    have cond : (p.top = q.tgt ∧ p.tgt = q.top) ∧ Pfew p ∧ Pfew q := ⟨⟨by omega, by omega⟩, f1, f2⟩
    have qe : q.v q.top = q.tgt := by
      have := (fit p.top p.tgt hp.top (Int.le_refl _) hp.tgt (Int.le_refl _)).mp (hp.rg hp.top (Int.le_refl _)).2
      have := (q1.rg (x := q.top) q1.top (Int.le_refl _)).2
      rw [show q.top = p.tgt by omega] at *
      omega
    obtain ⟨_, b1, b2⟩ := q1.alPs qe _ (Nat.le_refl _) (by omega)
    have eb : alT q = (alPs q).t := by unfold alT; rw [if_neg (by omega)]
    have ebp : alPs q = p := by
      refine (b1.eq hp (show q.tgt = p.top by omega) (show q.top = p.tgt by omega)).mpr fun x x0 x1 => ?_
      have x1 : x ≤ q.tgt := x1
      rw [b2 x x0 x1, nd x x0 (by omega), ndF, if_pos (by omega)]
    have n1 : isNon q.t = false := rfl
    have n2 : isNon T.non = true := rfl
    simp only [u_amT f1, ea, c_is, c_isn, n1, n2, fits_t cond nd, mis_n cond nd, u_alT f2, eb, ebp, a_ne, u_choose, decide_true, Bool.not_true, wpCs, wpC, wpE, wpEs, wpI, p_nm, p_tup, p_lst, p_nil, p_cons, if_true, if_false, reduceIte, Bool.false_eq_true, startS, getS, setS, setAll, wipeS, List.map_cons, List.map_nil, List.length_cons, List.length_nil, List.cons_append, List.nil_append, List.append_nil, Nat.reduceAdd, Nat.reduceSub, Nat.zero_add, List.replicate_succ, List.replicate_zero, imAll, Option.map_some, Option.bind_some, exists_eq_left, exists_eq_left', Option.some.injEq, W.im.injEq, T.int.injEq, T.bl.injEq, T.str.injEq, T.tup.injEq, T.lst.injEq, w_bin, w_cmp, w_un, w_blt, w_attr, w_ix, w_sl0, w_sl1, w_sl2, w_rev, w_tup, w_lst, w_nlst, b_addI, b_addS, b_addT, b_addL, b_subI, b_mulI, b_divI, b_modI, b_powI, c_lt, c_le, c_gt, c_ge, c_is, c_isn, c_eqI, c_neI, c_eqB, c_neB, c_eqS, c_neS, c_eqN, c_in, c_nin, n_intI, n_non, u_neg, i_len, i_abs, i_min, i_max, i_intI, i_intB, i_tuple, i_list, i_all, i_any, i_isi, i_sorted, i_max1, i_min1, x_lst, x_tup, x_scr, x_mr, s_tup, s_lst, q_lst, q_tup, q_scr, l_lst, l_scr, ln_lst, k_lst, k_tup, k_scr, k_str, j_ty, j_cls, j_tup, m_app, m_ext, e_set, r_app, r_ext, a_fn, stabW, true_and, and_true]
    refine ⟨hj, by unfold cntOk; omega, fun c c0 c1 => ⟨z3, z1, ?_⟩⟩
    obtain ⟨_, o1, o2⟩ := flat_ok (a := tgt) (t := 1000000000000) (c := c) (by omega) c0 (by omega)
    obtain ⟨jk, o3, o4⟩ := q1.join o1 false (by rw [qt, mk_top]) (by rw [qg, mk_tgt]) ((2 * 8 + 1 + 1) * 2) (Nat.le_refl _) (by omega)
    rw [mk_flat (by omega) c0 (by omega)]
    simp only [a_and, jk, a_eq, true_and]
    obtain ⟨o, eo⟩ : ∃ o, o = joinPs q (mkPs tgt 1000000000000 [⟨0, c, false⟩]) false := ⟨_, rfl⟩
    have ot : o.top = tgt := by rw [eo, join_top]; exact qt
    have og : o.tgt = 1000000000000 := by rw [eo, join_tgt]; exact qg
    rw [← eo] at o3 ⊢
    by_cases ce : o = q
    · simp only [ce, decide_true, if_true, wpCs, wpC, wpE, wpEs, wpI, p_nm, p_tup, p_lst, p_nil, p_cons, if_true, if_false, reduceIte, Bool.false_eq_true, startS, getS, setS, setAll, wipeS, List.map_cons, List.map_nil, List.length_cons, List.length_nil, List.cons_append, List.nil_append, List.append_nil, Nat.reduceAdd, Nat.reduceSub, Nat.zero_add, List.replicate_succ, List.replicate_zero, imAll, Option.map_some, Option.bind_some, exists_eq_left, exists_eq_left', Option.some.injEq, W.im.injEq, T.int.injEq, T.bl.injEq, T.str.injEq, T.tup.injEq, T.lst.injEq, w_bin, w_cmp, w_un, w_blt, w_attr, w_ix, w_sl0, w_sl1, w_sl2, w_rev, w_tup, w_lst, w_nlst, b_addI, b_addS, b_addT, b_addL, b_subI, b_mulI, b_divI, b_modI, b_powI, c_lt, c_le, c_gt, c_ge, c_is, c_isn, c_eqI, c_neI, c_eqB, c_neB, c_eqS, c_neS, c_eqN, c_in, c_nin, n_intI, n_non, u_neg, i_len, i_abs, i_min, i_max, i_intI, i_intB, i_tuple, i_list, i_all, i_any, i_isi, i_sorted, i_max1, i_min1, x_lst, x_tup, x_scr, x_mr, s_tup, s_lst, q_lst, q_tup, q_scr, l_lst, l_scr, ln_lst, k_lst, k_tup, k_scr, k_str, j_ty, j_cls, j_tup, m_app, m_ext, e_set, r_app, r_ext, a_fn, stabW, true_and, and_true]
      exact kc _ _ _ _ _ _ _ _ _ _ _ _ _ _
    · simp only [ce, decide_false, wpCs, wpC, wpE, wpEs, wpI, p_nm, p_tup, p_lst, p_nil, p_cons, if_true, if_false, reduceIte, Bool.false_eq_true, startS, getS, setS, setAll, wipeS, List.map_cons, List.map_nil, List.length_cons, List.length_nil, List.cons_append, List.nil_append, List.append_nil, Nat.reduceAdd, Nat.reduceSub, Nat.zero_add, List.replicate_succ, List.replicate_zero, imAll, Option.map_some, Option.bind_some, exists_eq_left, exists_eq_left', Option.some.injEq, W.im.injEq, T.int.injEq, T.bl.injEq, T.str.injEq, T.tup.injEq, T.lst.injEq, w_bin, w_cmp, w_un, w_blt, w_attr, w_ix, w_sl0, w_sl1, w_sl2, w_rev, w_tup, w_lst, w_nlst, b_addI, b_addS, b_addT, b_addL, b_subI, b_mulI, b_divI, b_modI, b_powI, c_lt, c_le, c_gt, c_ge, c_is, c_isn, c_eqI, c_neI, c_eqB, c_neB, c_eqS, c_neS, c_eqN, c_in, c_nin, n_intI, n_non, u_neg, i_len, i_abs, i_min, i_max, i_intI, i_intB, i_tuple, i_list, i_all, i_any, i_isi, i_sorted, i_max1, i_min1, x_lst, x_tup, x_scr, x_mr, s_tup, s_lst, q_lst, q_tup, q_scr, l_lst, l_scr, ln_lst, k_lst, k_tup, k_scr, k_str, j_ty, j_cls, j_tup, m_app, m_ext, e_set, r_app, r_ext, a_fn, stabW, true_and, and_true]
      refine law_t hj gk lne (by omega) hp (by omega) o3 (by omega) pt pg ot og (by omega) ?_ (fun L _ _ _ _ _ _ _ => kk _ _ _ _ _ _ _ _ _ _ _ _ _ _ _)
      apply Classical.byContradiction
      intro hno
      have hall : ∀ x, 0 ≤ x → x ≤ p.top → p.v x = ndF o x := fun x x0 x1 => Classical.byContradiction fun h => hno ⟨x, x0, x1, h⟩
      apply ce
      refine (o3.eq q1 (by omega) (by omega)).mpr fun y y0 y1 => ?_
      have ro := o3.rg y0 y1
      have rq := q1.rg (x := y) y0 (by omega)
      have k1 := fit (o.v y) y ro.1 (by omega) y0 (by omega)
      rw [hall (o.v y) ro.1 (by omega), nd_fit o3 ro.1 y0 y1] at k1
      have k2 := fit (q.v y) y rq.1 (by omega) y0 (by omega)
      rw [hall (q.v y) rq.1 (by omega), nd_fit o3 rq.1 y0 y1] at k2
      have := k1.mp (Int.le_refl _)
      have := k2.mpr (Int.le_refl _)
      omega
theorem does_law : Does ir_law nm_law 1 sp_law := by
  rintro ws S Q X ⟨ns, rfl, hn, hbits, h⟩
  refine ⟨rfl, ?_⟩
  have hz : sizeLine = 16777216 := rfl
  simp only [ir_law, nm_law, List.length_map, wpCs, wpC, wpE, wpEs, wpI, p_nm, p_tup, p_lst, p_nil, p_cons, if_true, if_false, reduceIte, Bool.false_eq_true, startS, getS, setS, setAll, wipeS, List.map_cons, List.map_nil, List.length_cons, List.length_nil, List.cons_append, List.nil_append, List.append_nil, Nat.reduceAdd, Nat.reduceSub, Nat.zero_add, List.replicate_succ, List.replicate_zero, imAll, Option.map_some, Option.bind_some, exists_eq_left, exists_eq_left', Option.some.injEq, W.im.injEq, T.int.injEq, T.bl.injEq, T.str.injEq, T.tup.injEq, T.lst.injEq, w_bin, w_cmp, w_un, w_blt, w_attr, w_ix, w_sl0, w_sl1, w_sl2, w_rev, w_tup, w_lst, w_nlst, b_addI, b_addS, b_addT, b_addL, b_subI, b_mulI, b_divI, b_modI, b_powI, c_lt, c_le, c_gt, c_ge, c_is, c_isn, c_eqI, c_neI, c_eqB, c_neB, c_eqS, c_neS, c_eqN, c_in, c_nin, n_intI, n_non, u_neg, i_len, i_abs, i_min, i_max, i_intI, i_intB, i_tuple, i_list, i_all, i_any, i_isi, i_sorted, i_max1, i_min1, x_lst, x_tup, x_scr, x_mr, s_tup, s_lst, q_lst, q_tup, q_scr, l_lst, l_scr, ln_lst, k_lst, k_tup, k_scr, k_str, j_ty, j_cls, j_tup, m_app, m_ext, e_set, r_app, r_ext, a_fn, stabW, true_and, and_true]
  refine ⟨by omega, ?_, ?_, ?_⟩
  · split <;> split <;> omega
  · split <;> split <;> omega
  refine for_inv (fun ρ S' => (∃ L, S' = S ++ L) ∧ ∃ x1 x2 x3 x4 x5 x6 x7 x8 x9 x10 x11 x12 x13 x14 x15 x16 x17, ρ = [some (.im (.scr ns)), x1, x2, x3, x4, x5, x6, x7, x8, x9, x10, x11, x12, x13, x14, x15, x16, x17]) (fun _ _ _ => trivial) ?_ _ _ _ ⟨⟨[], (List.append_nil S).symm⟩, _, _, _, _, _, _, _, _, _, _, _, _, _, _, _, _, _, rfl⟩ ?_
  · rintro ρ S' ⟨⟨L, rfl⟩, x1, x2, x3, x4, x5, x6, x7, x8, x9, x10, x11, x12, x13, x14, x15, x16, x17, rfl⟩
    simp only [wpCs, wpC, wpE, wpEs, wpI, p_nm, p_tup, p_lst, p_nil, p_cons, if_true, if_false, reduceIte, Bool.false_eq_true, startS, getS, setS, setAll, wipeS, List.map_cons, List.map_nil, List.length_cons, List.length_nil, List.cons_append, List.nil_append, List.append_nil, Nat.reduceAdd, Nat.reduceSub, Nat.zero_add, List.replicate_succ, List.replicate_zero, imAll, Option.map_some, Option.bind_some, exists_eq_left, exists_eq_left', Option.some.injEq, W.im.injEq, T.int.injEq, T.bl.injEq, T.str.injEq, T.tup.injEq, T.lst.injEq, w_bin, w_cmp, w_un, w_blt, w_attr, w_ix, w_sl0, w_sl1, w_sl2, w_rev, w_tup, w_lst, w_nlst, b_addI, b_addS, b_addT, b_addL, b_subI, b_mulI, b_divI, b_modI, b_powI, c_lt, c_le, c_gt, c_ge, c_is, c_isn, c_eqI, c_neI, c_eqB, c_neB, c_eqS, c_neS, c_eqN, c_in, c_nin, n_intI, n_non, u_neg, i_len, i_abs, i_min, i_max, i_intI, i_intB, i_tuple, i_list, i_all, i_any, i_isi, i_sorted, i_max1, i_min1, x_lst, x_tup, x_scr, x_mr, s_tup, s_lst, q_lst, q_tup, q_scr, l_lst, l_scr, ln_lst, k_lst, k_tup, k_scr, k_str, j_ty, j_cls, j_tup, m_app, m_ext, e_set, r_app, r_ext, a_fn, stabW, true_and, and_true]
    exact rt_more h
  · rintro t ht ρ S' K' ⟨⟨L, rfl⟩, x1, x2, x3, x4, x5, x6, x7, x8, x9, x10, x11, x12, x13, x14, x15, x16, x17, rfl⟩ hr hx hk hc
    rw [List.mem_map] at ht
    obtain ⟨k, hk1, rfl⟩ := ht
    rw [List.mem_range] at hk1
    have k4 : k < 4 := by
      split at hk1 <;> split at hk1 <;> omega
    simp only [bd_law_4, u_seed, wpCs, wpC, wpE, wpEs, wpI, p_nm, p_tup, p_lst, p_nil, p_cons, if_true, if_false, reduceIte, Bool.false_eq_true, startS, getS, setS, setAll, wipeS, List.map_cons, List.map_nil, List.length_cons, List.length_nil, List.cons_append, List.nil_append, List.append_nil, Nat.reduceAdd, Nat.reduceSub, Nat.zero_add, List.replicate_succ, List.replicate_zero, imAll, Option.map_some, Option.bind_some, exists_eq_left, exists_eq_left', Option.some.injEq, W.im.injEq, T.int.injEq, T.bl.injEq, T.str.injEq, T.tup.injEq, T.lst.injEq, w_bin, w_cmp, w_un, w_blt, w_attr, w_ix, w_sl0, w_sl1, w_sl2, w_rev, w_tup, w_lst, w_nlst, b_addI, b_addS, b_addT, b_addL, b_subI, b_mulI, b_divI, b_modI, b_powI, c_lt, c_le, c_gt, c_ge, c_is, c_isn, c_eqI, c_neI, c_eqB, c_neB, c_eqS, c_neS, c_eqN, c_in, c_nin, n_intI, n_non, u_neg, i_len, i_abs, i_min, i_max, i_intI, i_intB, i_tuple, i_list, i_all, i_any, i_isi, i_sorted, i_max1, i_min1, x_lst, x_tup, x_scr, x_mr, s_tup, s_lst, q_lst, q_tup, q_scr, l_lst, l_scr, ln_lst, k_lst, k_tup, k_scr, k_str, j_ty, j_cls, j_tup, m_app, m_ext, e_set, r_app, r_ext, a_fn, stabW, true_and, and_true]
    refine ⟨hn, by omega, fun j hj => ⟨by omega, by omega, ?_⟩⟩
    refine for_inv (fun ρ S2 => (∃ L, S2 = S ++ L) ∧ ∃ x3 x4 x5 x6 x7 x8 x9 x10 x11 x12 x13 x14 x15 x16 x17, ρ = [some (.im (.scr ns)), some (.im (.int (k : Int))), some (.src j), x3, x4, x5, x6, x7, x8, x9, x10, x11, x12, x13, x14, x15, x16, x17]) (fun _ _ _ => trivial) ?_ _ _ _ ⟨⟨L, rfl⟩, _, _, _, _, _, _, _, _, _, _, _, _, _, _, _, rfl⟩ ?_
    · rintro ρ S' ⟨⟨L, rfl⟩, x3, x4, x5, x6, x7, x8, x9, x10, x11, x12, x13, x14, x15, x16, x17, rfl⟩
      exact hk _ _ ⟨⟨L, rfl⟩, _, _, _, _, _, _, _, _, _, _, _, _, _, _, _, _, _, rfl⟩
    · rintro t ht ρ S' K2 ⟨⟨L, rfl⟩, x3, x4, x5, x6, x7, x8, x9, x10, x11, x12, x13, x14, x15, x16, x17, rfl⟩ hr2 hx2 hk2 hc2
      rw [p_nm]
      exact law_in hj (fun L' x4 x5 x6 x7 x8 x9 x10 x11 x12 x13 x14 x15 x16 x17 => hk2 _ _ ⟨⟨L ++ L', List.append_assoc _ _ _⟩, _, _, _, _, _, _, _, _, _, _, _, _, _, _, _, rfl⟩) (fun L' x4 x5 x6 x7 x8 x9 x10 x11 x12 x13 x14 x15 x16 x17 => hc2 _ _ ⟨⟨L ++ L', List.append_assoc _ _ _⟩, _, _, _, _, _, _, _, _, _, _, _, _, _, _, _, rfl⟩)
end TW

namespace TW
open PySem PySem.Spec PyProof.Rows L2
abbrev st_Part___init__ : Stmt := (memS (topS PySem.Challenge.pw_scaleways_k30_misfits_on_large_scales 15) 0)
abbrev st_parts_of : Stmt := (topS PySem.Challenge.pw_scaleways_k30_misfits_on_large_scales 16)
abbrev st_Part_result : Stmt := (memS (topS PySem.Challenge.pw_scaleways_k30_misfits_on_large_scales 15) 1)
abbrev st_Part_cut : Stmt := (memS (topS PySem.Challenge.pw_scaleways_k30_misfits_on_large_scales 15) 3)
abbrev st_common_parts : Stmt := (topS PySem.Challenge.pw_scaleways_k30_misfits_on_large_scales 25)
abbrev st_extreme_parts : Stmt := (topS PySem.Challenge.pw_scaleways_k30_misfits_on_large_scales 26)
abbrev st_Part_last : Stmt := (memS (topS PySem.Challenge.pw_scaleways_k30_misfits_on_large_scales 15) 2)
abbrev st_begun_run : Stmt := (topS PySem.Challenge.pw_scaleways_k30_misfits_on_large_scales 17)
abbrev st_longer_run : Stmt := (topS PySem.Challenge.pw_scaleways_k30_misfits_on_large_scales 18)
abbrev st_normal_pieces : Stmt := (topS PySem.Challenge.pw_scaleways_k30_misfits_on_large_scales 19)
abbrev st_is_integer : Stmt := (topS PySem.Challenge.pw_scaleways_k30_misfits_on_large_scales 9)
abbrev st_is_number : Stmt := (topS PySem.Challenge.pw_scaleways_k30_misfits_on_large_scales 10)
abbrev st_is_piece : Stmt := (topS PySem.Challenge.pw_scaleways_k30_misfits_on_large_scales 21)
abbrev st_is_sequence : Stmt := (topS PySem.Challenge.pw_scaleways_k30_misfits_on_large_scales 11)
abbrev st_are_pieces : Stmt := (topS PySem.Challenge.pw_scaleways_k30_misfits_on_large_scales 22)
abbrev st_raw_parts : Stmt := (topS PySem.Challenge.pw_scaleways_k30_misfits_on_large_scales 23)
abbrev st_Passage___init__ : Stmt := (memS (topS PySem.Challenge.pw_scaleways_k30_misfits_on_large_scales 31) 0)
abbrev st_made_of : Stmt := (topS PySem.Challenge.pw_scaleways_k30_misfits_on_large_scales 20)
abbrev st_joined : Stmt := (topS PySem.Challenge.pw_scaleways_k30_misfits_on_large_scales 24)
abbrev st_Passage___and__ : Stmt := (memS (topS PySem.Challenge.pw_scaleways_k30_misfits_on_large_scales 31) 11)
abbrev st_Passage___eq__ : Stmt := (memS (topS PySem.Challenge.pw_scaleways_k30_misfits_on_large_scales 31) 16)
abbrev st__law_choose : Stmt := (topS PySem.Challenge.pw_scaleways_k30_misfits_on_large_scales 42)
abbrev st__law_one_of : Stmt := (topS PySem.Challenge.pw_scaleways_k30_misfits_on_large_scales 43)
abbrev st__law_probes : Stmt := (topS PySem.Challenge.pw_scaleways_k30_misfits_on_large_scales 45)
abbrev st__law_seed : Stmt := (topS PySem.Challenge.pw_scaleways_k30_misfits_on_large_scales 41)
abbrev st_least_sources : Stmt := (topS PySem.Challenge.pw_scaleways_k30_misfits_on_large_scales 34)
abbrev st_result_in : Stmt := (topS PySem.Challenge.pw_scaleways_k30_misfits_on_large_scales 27)
abbrev st_Passage___call__ : Stmt := (memS (topS PySem.Challenge.pw_scaleways_k30_misfits_on_large_scales 31) 6)
abbrev st_at_least : Stmt := (topS PySem.Challenge.pw_scaleways_k30_misfits_on_large_scales 36)
abbrev st_greatest_sources : Stmt := (topS PySem.Challenge.pw_scaleways_k30_misfits_on_large_scales 33)
abbrev st_at_most : Stmt := (topS PySem.Challenge.pw_scaleways_k30_misfits_on_large_scales 35)
abbrev st_need_pair : Stmt := (topS PySem.Challenge.pw_scaleways_k30_misfits_on_large_scales 37)
abbrev st_misfit : Stmt := (topS PySem.Challenge.pw_scaleways_k30_misfits_on_large_scales 38)
abbrev st_fits : Stmt := (topS PySem.Challenge.pw_scaleways_k30_misfits_on_large_scales 39)
abbrev st__law_pieces : Stmt := (topS PySem.Challenge.pw_scaleways_k30_misfits_on_large_scales 44)
abbrev st_law : Stmt := (topS PySem.Challenge.pw_scaleways_k30_misfits_on_large_scales 46)
def fn_ly : List DefE := ([mkD (fnAd "Part" (some "__init__")) "__init__" "Part.__init__" st_Part___init__, mkD (fnAd "parts_of" none) "parts_of" "parts_of" st_parts_of, mkD (fnAd "Part" (some "result")) "result" "Part.result" st_Part_result, mkD (fnAd "Part" (some "cut")) "cut" "Part.cut" st_Part_cut, mkD (fnAd "common_parts" none) "common_parts" "common_parts" st_common_parts, mkD (fnAd "extreme_parts" none) "extreme_parts" "extreme_parts" st_extreme_parts, mkD (fnAd "Part" (some "last")) "last" "Part.last" st_Part_last, mkD (fnAd "begun_run" none) "begun_run" "begun_run" st_begun_run, mkD (fnAd "longer_run" none) "longer_run" "longer_run" st_longer_run, mkD (fnAd "normal_pieces" none) "normal_pieces" "normal_pieces" st_normal_pieces, mkD (fnAd "is_integer" none) "is_integer" "is_integer" st_is_integer, mkD (fnAd "is_number" none) "is_number" "is_number" st_is_number, mkD (fnAd "is_piece" none) "is_piece" "is_piece" st_is_piece, mkD (fnAd "is_sequence" none) "is_sequence" "is_sequence" st_is_sequence, mkD (fnAd "are_pieces" none) "are_pieces" "are_pieces" st_are_pieces, mkD (fnAd "raw_parts" none) "raw_parts" "raw_parts" st_raw_parts, mkD (fnAd "Passage" (some "__init__")) "__init__" "Passage.__init__" st_Passage___init__, mkD (fnAd "made_of" none) "made_of" "made_of" st_made_of, mkD (fnAd "joined" none) "joined" "joined" st_joined, mkD (fnAd "Passage" (some "__and__")) "__and__" "Passage.__and__" st_Passage___and__] : List DefE) ++ ([mkD (fnAd "Passage" (some "__eq__")) "__eq__" "Passage.__eq__" st_Passage___eq__, mkD (fnAd "_law_choose" none) "_law_choose" "_law_choose" st__law_choose, mkD (fnAd "_law_one_of" none) "_law_one_of" "_law_one_of" st__law_one_of, mkD (fnAd "_law_probes" none) "_law_probes" "_law_probes" st__law_probes, mkD (fnAd "_law_seed" none) "_law_seed" "_law_seed" st__law_seed, mkD (fnAd "least_sources" none) "least_sources" "least_sources" st_least_sources, mkD (fnAd "result_in" none) "result_in" "result_in" st_result_in, mkD (fnAd "Passage" (some "__call__")) "__call__" "Passage.__call__" st_Passage___call__, mkD (fnAd "at_least" none) "at_least" "at_least" st_at_least, mkD (fnAd "greatest_sources" none) "greatest_sources" "greatest_sources" st_greatest_sources, mkD (fnAd "at_most" none) "at_most" "at_most" st_at_most, mkD (fnAd "need_pair" none) "need_pair" "need_pair" st_need_pair, mkD (fnAd "misfit" none) "misfit" "misfit" st_misfit, mkD (fnAd "fits" none) "fits" "fits" st_fits, mkD (fnAd "_law_pieces" none) "_law_pieces" "_law_pieces" st__law_pieces, mkD (fnAd "law" none) "law" "law" st_law] : List DefE)
def fa_ly : List He.Fa := ([.noat "Part" "first", .noat "Part" "high", .noat "Part" "is_rising", .noat "Part" "low", .mkr "Part", .glo "Part", .glo "parts_of", .meth "Part" "result", .meth "Part" "cut", .glo "common_parts", .glo "extreme_parts", .meth "Part" "last", .glo "begun_run", .glo "longer_run", .glo "normal_pieces", .glo "is_integer", .glo "is_number", .glo "is_piece", .glo "is_sequence", .glo "are_pieces", .glo "raw_parts", .noat "Passage" "pieces", .noat "Passage" "target", .noat "Passage" "top", .mkr "Passage", .glo "Passage", .glo "made_of", .glo "joined", .meth "Passage" "__and__", .meth "Passage" "__eq__"] : List He.Fa) ++ ([.glo "_law_choose", .glo "_law_one_of", .glo "_law_probes", .glo "_law_seed", .glo "least_sources", .glo "result_in", .meth "Passage" "__call__", .glo "at_least", .glo "greatest_sources", .glo "at_most", .glo "need_pair", .glo "misfit", .glo "fits", .glo "_law_pieces", .glo "law"] : List He.Fa)
def fx_ly : List Fx := ([.sf "Passage", .ne "Passage", .fi "Passage" "__call__"] : List Fx)
def ly : Lay := ⟨["Part", "Passage"], fa_ly, fx_ly, fn_ly⟩
abbrev hk : PySem.W.Hook := hookB ly.fb ly.fn 5
def ob (s : PySem.W.SharedT) : He.AlD := obsBG ly.fb ly.fn 5 (HandSHeadRun.getT s)
theorem ob_eq (s : PySem.W.SharedT) : ob s = hk.obs s.abs := obsBG_eq (HandSHeadRun.getT_eq s)
abbrev rwR : PySem.W.OpenRow := PySem.W.OpenLaw.row PySem.Challenge.rw_scaleways_k30_misfits_on_large_scales
def loose : List Str := (["_wall", "ScaleError", "InvalidPassage", "InvalidText", "Mismatch", "NoValue", "DIGITS", "is_integer", "is_number", "is_sequence", "number_in", "MOST_DIGITS", "Part", "parts_of", "begun_run", "longer_run", "normal_pieces", "made_of", "is_piece", "are_pieces", "raw_parts", "joined", "common_parts", "extreme_parts", "result_in", "multiplied", "piece_text", "piece_in", "Passage", "greatest_sources"] : List Str) ++ (["least_sources", "at_most", "at_least", "need_pair", "misfit", "fits", "_law_seed", "_law_choose", "_law_one_of", "_law_pieces", "_law_probes"] : List Str)
theorem run (w : World) : HandSHeadRun.RunEq rwR (PySem.W.view rwR.prog [46]) hk ob 4000 loose w := by
  intro os
  kernel_rfl
theorem rt_Part___init__ : Rt ly 0 (fnAd "Part" (some "__init__")) st_Part___init__ ["self", "low", "high", "first", "is_rising"] ["self", "low", "high", "first", "is_rising"] ir_Part___init__ := ⟨⟨_, _, rfl, fun _ _ _ _ _ _ us hl => match us, hl with | [_, _, _, _, _], _ => rfl⟩, ⟨rfl, rfl, rfl, by decide +kernel, rfl, by decide +kernel, by decide +kernel⟩, by decide +kernel⟩
theorem ok_Part___init__ (D : Gd) (h : Hd ly D) (e : D.lv = 0) : okCs D ir_Part___init__ := by
  simp only [ir_Part___init__, okCs, okC, okE, okEs, okI, okG_ty, and_true, true_and]
  try and_intros
  all_goals first | exact (h.no (by decide) (j := 0) rfl).1 | exact (h.no (by decide) (j := 0) rfl).2.1 | exact (h.no (by decide) (j := 0) rfl).2.2 | exact (h.no (by decide) (j := 1) rfl).1 | exact (h.no (by decide) (j := 1) rfl).2.1 | exact (h.no (by decide) (j := 1) rfl).2.2 | exact (h.no (by decide) (j := 2) rfl).1 | exact (h.no (by decide) (j := 2) rfl).2.1 | exact (h.no (by decide) (j := 2) rfl).2.2 | exact (h.no (by decide) (j := 3) rfl).1 | exact (h.no (by decide) (j := 3) rfl).2.1 | exact (h.no (by decide) (j := 3) rfl).2.2
theorem mk_Part___init__ {D : Gd} (h : Hd ly D) (hl : 0 + 2 ≤ D.lv) : okA D (.mk "Part") sp_Part___init__ := h.nw rt_Part___init__ (by decide) (j := 4) (j' := 5) rfl rfl 0 ok_Part___init__ (does_Part___init__.nm rfl) hl
theorem rt_parts_of : Rt ly 1 (fnAd "parts_of" none) st_parts_of ["passage"] ["passage", "starts", "piece", "at", "start", "first", "rises"] ir_parts_of := ⟨⟨_, _, rfl, fun _ _ _ _ _ _ us hl => match us, hl with | [_], _ => rfl⟩, ⟨rfl, rfl, rfl, by decide +kernel, rfl, by decide +kernel, by decide +kernel⟩, by decide +kernel⟩
theorem ok_parts_of (D : Gd) (h : Hd ly D) (e : D.lv = 2) : okCs D ir_parts_of := by
  simp only [ir_parts_of, okCs, okC, okE, okEs, okI, okG_ty, and_true, true_and]
  try and_intros
  all_goals first | exact mk_Part___init__ h (by omega)
theorem fn_parts_of {D : Gd} (h : Hd ly D) (hl : 2 + 1 ≤ D.lv) : okA D (.fn "parts_of") sp_parts_of := h.fn rt_parts_of (j := 6) rfl 2 ok_parts_of (does_parts_of.nm rfl) hl
theorem rt_Part_result : Rt ly 2 (fnAd "Part" (some "result")) st_Part_result ["self", "x"] ["self", "x"] ir_Part_result := ⟨⟨_, _, rfl, fun _ _ _ _ _ _ us hl => match us, hl with | [_, _], _ => rfl⟩, ⟨rfl, rfl, rfl, by decide +kernel, rfl, by decide +kernel, by decide +kernel⟩, by decide +kernel⟩
theorem ok_Part_result (D : Gd) (h : Hd ly D) (e : D.lv = 0) : okCs D ir_Part_result := by
  simp only [ir_Part_result, okCs, okC, okE, okEs, okI, okG_ty, and_true, true_and]
theorem me_Part_result {D : Gd} (h : Hd ly D) (hl : 0 + 1 ≤ D.lv) : okM D "Part" "result" sp_Part_result := h.me rt_Part_result (by decide) (j := 7) rfl 0 ok_Part_result (does_Part_result.nm rfl) hl
theorem rt_Part_cut : Rt ly 3 (fnAd "Part" (some "cut")) st_Part_cut ["self", "low", "high"] ["self", "low", "high"] ir_Part_cut := ⟨⟨_, _, rfl, fun _ _ _ _ _ _ us hl => match us, hl with | [_, _, _], _ => rfl⟩, ⟨rfl, rfl, rfl, by decide +kernel, rfl, by decide +kernel, by decide +kernel⟩, by decide +kernel⟩
theorem ok_Part_cut (D : Gd) (h : Hd ly D) (e : D.lv = 2) : okCs D ir_Part_cut := by
  simp only [ir_Part_cut, okCs, okC, okE, okEs, okI, okG_ty, and_true, true_and]
  try and_intros
  all_goals first | exact me_Part_result h (by omega) | exact mk_Part___init__ h (by omega)
theorem me_Part_cut {D : Gd} (h : Hd ly D) (hl : 2 + 1 ≤ D.lv) : okM D "Part" "cut" sp_Part_cut := h.me rt_Part_cut (by decide) (j := 8) rfl 2 ok_Part_cut (does_Part_cut.nm rfl) hl
theorem rt_common_parts : Rt ly 4 (fnAd "common_parts" none) st_common_parts ["p", "q"] ["p", "q", "found", "here", "there", "at", "spot", "low", "high"] ir_common_parts := ⟨⟨_, _, rfl, fun _ _ _ _ _ _ us hl => match us, hl with | [_, _], _ => rfl⟩, ⟨rfl, rfl, rfl, by decide +kernel, rfl, by decide +kernel, by decide +kernel⟩, by decide +kernel⟩
theorem ok_common_parts (D : Gd) (h : Hd ly D) (e : D.lv = 3) : okCs D ir_common_parts := by
  simp only [ir_common_parts, bd_common_parts_1, cn_common_parts_1, okCs, okC, okE, okEs, okI, okG_ty, and_true, true_and]
  try and_intros
  all_goals first | exact fn_parts_of h (by omega) | exact me_Part_cut h (by omega)
theorem fn_common_parts {D : Gd} (h : Hd ly D) (hl : 3 + 1 ≤ D.lv) : okA D (.fn "common_parts") sp_common_parts := h.fn rt_common_parts (j := 9) rfl 3 ok_common_parts (does_common_parts.nm rfl) hl
theorem rt_extreme_parts : Rt ly 5 (fnAd "extreme_parts" none) st_extreme_parts ["one", "other", "is_greater"] ["one", "other", "is_greater", "turn", "flat", "rising", "begin", "end"] ir_extreme_parts := ⟨⟨_, _, rfl, fun _ _ _ _ _ _ us hl => match us, hl with | [_, _, _], _ => rfl⟩, ⟨rfl, rfl, rfl, by decide +kernel, rfl, by decide +kernel, by decide +kernel⟩, by decide +kernel⟩
theorem ok_extreme_parts (D : Gd) (h : Hd ly D) (e : D.lv = 3) : okCs D ir_extreme_parts := by
  simp only [ir_extreme_parts, okCs, okC, okE, okEs, okI, okG_ty, and_true, true_and]
  try and_intros
  all_goals first | exact me_Part_cut h (by omega)
theorem fn_extreme_parts {D : Gd} (h : Hd ly D) (hl : 3 + 1 ≤ D.lv) : okA D (.fn "extreme_parts") sp_extreme_parts := h.fn rt_extreme_parts (j := 10) rfl 3 ok_extreme_parts (does_extreme_parts.nm rfl) hl
theorem rt_Part_last : Rt ly 6 (fnAd "Part" (some "last")) st_Part_last ["self"] ["self"] ir_Part_last := ⟨⟨_, _, rfl, fun _ _ _ _ _ _ us hl => match us, hl with | [_], _ => rfl⟩, ⟨rfl, rfl, rfl, by decide +kernel, rfl, by decide +kernel, by decide +kernel⟩, by decide +kernel⟩
theorem ok_Part_last (D : Gd) (h : Hd ly D) (e : D.lv = 1) : okCs D ir_Part_last := by
  simp only [ir_Part_last, okCs, okC, okE, okEs, okI, okG_ty, and_true, true_and]
  try and_intros
  all_goals first | exact me_Part_result h (by omega)
theorem me_Part_last {D : Gd} (h : Hd ly D) (hl : 1 + 1 ≤ D.lv) : okM D "Part" "last" sp_Part_last := h.me rt_Part_last (by decide) (j := 11) rfl 1 ok_Part_last (does_Part_last.nm rfl) hl
theorem rt_begun_run : Rt ly 7 (fnAd "begun_run" none) st_begun_run ["part"] ["part"] ir_begun_run := ⟨⟨_, _, rfl, fun _ _ _ _ _ _ us hl => match us, hl with | [_], _ => rfl⟩, ⟨rfl, rfl, rfl, by decide +kernel, rfl, by decide +kernel, by decide +kernel⟩, by decide +kernel⟩
theorem ok_begun_run (D : Gd) (h : Hd ly D) (e : D.lv = 2) : okCs D ir_begun_run := by
  simp only [ir_begun_run, okCs, okC, okE, okEs, okI, okG_ty, and_true, true_and]
  try and_intros
  all_goals first | exact me_Part_last h (by omega)
theorem fn_begun_run {D : Gd} (h : Hd ly D) (hl : 2 + 1 ≤ D.lv) : okA D (.fn "begun_run") sp_begun_run := h.fn rt_begun_run (j := 12) rfl 2 ok_begun_run (does_begun_run.nm rfl) hl
theorem rt_longer_run : Rt ly 8 (fnAd "longer_run" none) st_longer_run ["run", "part"] ["run", "part", "jump", "begin", "first", "step", "end"] ir_longer_run := ⟨⟨_, _, rfl, fun _ _ _ _ _ _ us hl => match us, hl with | [_, _], _ => rfl⟩, ⟨rfl, rfl, rfl, by decide +kernel, rfl, by decide +kernel, by decide +kernel⟩, by decide +kernel⟩
theorem ok_longer_run (D : Gd) (h : Hd ly D) (e : D.lv = 3) : okCs D ir_longer_run := by
  simp only [ir_longer_run, okCs, okC, okE, okEs, okI, okG_ty, and_true, true_and]
  try and_intros
  all_goals first | exact fn_begun_run h (by omega) | exact me_Part_cut h (by omega) | exact me_Part_last h (by omega)
theorem fn_longer_run {D : Gd} (h : Hd ly D) (hl : 3 + 1 ≤ D.lv) : okA D (.fn "longer_run") sp_longer_run := h.fn rt_longer_run (j := 13) rfl 3 ok_longer_run (does_longer_run.nm rfl) hl
theorem rt_normal_pieces : Rt ly 9 (fnAd "normal_pieces" none) st_normal_pieces ["parts"] ["parts", "runs", "part", "last", "others", "begin", "first", "step", "end"] ir_normal_pieces := ⟨⟨_, _, rfl, fun _ _ _ _ _ _ us hl => match us, hl with | [_], _ => rfl⟩, ⟨rfl, rfl, rfl, by decide +kernel, rfl, by decide +kernel, by decide +kernel⟩, by decide +kernel⟩
theorem ok_normal_pieces (D : Gd) (h : Hd ly D) (e : D.lv = 4) : okCs D ir_normal_pieces := by
  simp only [ir_normal_pieces, bd_normal_pieces_1, okCs, okC, okE, okEs, okI, okG_ty, and_true, true_and]
  try and_intros
  all_goals first | exact fn_begun_run h (by omega) | exact fn_longer_run h (by omega)
theorem fn_normal_pieces {D : Gd} (h : Hd ly D) (hl : 4 + 1 ≤ D.lv) : okA D (.fn "normal_pieces") sp_normal_pieces := h.fn rt_normal_pieces (j := 14) rfl 4 ok_normal_pieces (does_normal_pieces.nm rfl) hl
theorem rt_is_integer : Rt ly 10 (fnAd "is_integer" none) st_is_integer ["value"] ["value"] ir_is_integer := ⟨⟨_, _, rfl, fun _ _ _ _ _ _ us hl => match us, hl with | [_], _ => rfl⟩, ⟨rfl, rfl, rfl, by decide +kernel, rfl, by decide +kernel, by decide +kernel⟩, by decide +kernel⟩
theorem ok_is_integer (D : Gd) (h : Hd ly D) (e : D.lv = 0) : okCs D ir_is_integer := by
  simp only [ir_is_integer, okCs, okC, okE, okEs, okI, okG_ty, and_true, true_and]
theorem fn_is_integer {D : Gd} (h : Hd ly D) (hl : 0 + 1 ≤ D.lv) : okA D (.fn "is_integer") sp_is_integer := h.fn rt_is_integer (j := 15) rfl 0 ok_is_integer (does_is_integer.nm rfl) hl
theorem rt_is_number : Rt ly 11 (fnAd "is_number" none) st_is_number ["value"] ["value"] ir_is_number := ⟨⟨_, _, rfl, fun _ _ _ _ _ _ us hl => match us, hl with | [_], _ => rfl⟩, ⟨rfl, rfl, rfl, by decide +kernel, rfl, by decide +kernel, by decide +kernel⟩, by decide +kernel⟩
theorem ok_is_number (D : Gd) (h : Hd ly D) (e : D.lv = 1) : okCs D ir_is_number := by
  simp only [ir_is_number, okCs, okC, okE, okEs, okI, okG_ty, and_true, true_and]
  try and_intros
  all_goals first | exact fn_is_integer h (by omega)
theorem fn_is_number {D : Gd} (h : Hd ly D) (hl : 1 + 1 ≤ D.lv) : okA D (.fn "is_number") sp_is_number := h.fn rt_is_number (j := 16) rfl 1 ok_is_number (does_is_number.nm rfl) hl
theorem rt_is_piece : Rt ly 12 (fnAd "is_piece" none) st_is_piece ["value"] ["value"] ir_is_piece := ⟨⟨_, _, rfl, fun _ _ _ _ _ _ us hl => match us, hl with | [_], _ => rfl⟩, ⟨rfl, rfl, rfl, by decide +kernel, rfl, by decide +kernel, by decide +kernel⟩, by decide +kernel⟩
theorem ok_is_piece (D : Gd) (h : Hd ly D) (e : D.lv = 2) : okCs D ir_is_piece := by
  simp only [ir_is_piece, okCs, okC, okE, okEs, okI, okG_ty, and_true, true_and]
  try and_intros
  all_goals first | exact fn_is_number h (by omega)
theorem fn_is_piece {D : Gd} (h : Hd ly D) (hl : 2 + 1 ≤ D.lv) : okA D (.fn "is_piece") sp_is_piece := h.fn rt_is_piece (j := 17) rfl 2 ok_is_piece (does_is_piece.nm rfl) hl
theorem rt_is_sequence : Rt ly 13 (fnAd "is_sequence" none) st_is_sequence ["value"] ["value"] ir_is_sequence := ⟨⟨_, _, rfl, fun _ _ _ _ _ _ us hl => match us, hl with | [_], _ => rfl⟩, ⟨rfl, rfl, rfl, by decide +kernel, rfl, by decide +kernel, by decide +kernel⟩, by decide +kernel⟩
theorem ok_is_sequence (D : Gd) (h : Hd ly D) (e : D.lv = 0) : okCs D ir_is_sequence := by
  simp only [ir_is_sequence, okCs, okC, okE, okEs, okI, okG_ty, and_true, true_and]
theorem fn_is_sequence {D : Gd} (h : Hd ly D) (hl : 0 + 1 ≤ D.lv) : okA D (.fn "is_sequence") sp_is_sequence := h.fn rt_is_sequence (j := 18) rfl 0 ok_is_sequence (does_is_sequence.nm rfl) hl
theorem rt_are_pieces : Rt ly 14 (fnAd "are_pieces" none) st_are_pieces ["top", "target", "value"] ["top", "target", "value", "starts", "last", "at", "end", "piece", "start", "first", "rises", "one", "other"] ir_are_pieces := ⟨⟨_, _, rfl, fun _ _ _ _ _ _ us hl => match us, hl with | [_, _, _], _ => rfl⟩, ⟨rfl, rfl, rfl, by decide +kernel, rfl, by decide +kernel, by decide +kernel⟩, by decide +kernel⟩
theorem ok_are_pieces (D : Gd) (h : Hd ly D) (e : D.lv = 3) : okCs D ir_are_pieces := by
  simp only [ir_are_pieces, bd_are_pieces_1, okCs, okC, okE, okEs, okI, okG_ty, and_true, true_and]
  try and_intros
  all_goals first | exact fn_is_piece h (by omega) | exact fn_is_sequence h (by omega)
theorem fn_are_pieces {D : Gd} (h : Hd ly D) (hl : 3 + 1 ≤ D.lv) : okA D (.fn "are_pieces") sp_are_pieces := h.fn rt_are_pieces (j := 19) rfl 3 ok_are_pieces (does_are_pieces.nm rfl) hl
theorem rt_raw_parts : Rt ly 15 (fnAd "raw_parts" none) st_raw_parts ["top", "pieces"] ["top", "pieces", "starts", "piece", "at", "start", "first", "rises"] ir_raw_parts := ⟨⟨_, _, rfl, fun _ _ _ _ _ _ us hl => match us, hl with | [_, _], _ => rfl⟩, ⟨rfl, rfl, rfl, by decide +kernel, rfl, by decide +kernel, by decide +kernel⟩, by decide +kernel⟩
theorem ok_raw_parts (D : Gd) (h : Hd ly D) (e : D.lv = 2) : okCs D ir_raw_parts := by
  simp only [ir_raw_parts, okCs, okC, okE, okEs, okI, okG_ty, and_true, true_and]
  try and_intros
  all_goals first | exact mk_Part___init__ h (by omega)
theorem fn_raw_parts {D : Gd} (h : Hd ly D) (hl : 2 + 1 ≤ D.lv) : okA D (.fn "raw_parts") sp_raw_parts := h.fn rt_raw_parts (j := 20) rfl 2 ok_raw_parts (does_raw_parts.nm rfl) hl
theorem rt_Passage___init__ : Rt ly 16 (fnAd "Passage" (some "__init__")) st_Passage___init__ ["self", "top", "target", "pieces"] ["self", "top", "target", "pieces"] ir_Passage___init__ := ⟨⟨_, _, rfl, fun _ _ _ _ _ _ us hl => match us, hl with | [_, _, _, _], _ => rfl⟩, ⟨rfl, rfl, rfl, by decide +kernel, rfl, by decide +kernel, by decide +kernel⟩, by decide +kernel⟩
theorem ok_Passage___init__ (D : Gd) (h : Hd ly D) (e : D.lv = 5) : okCs D ir_Passage___init__ := by
  simp only [ir_Passage___init__, okCs, okC, okE, okEs, okI, okG_ty, and_true, true_and]
  try and_intros
  all_goals first | exact fn_are_pieces h (by omega) | exact fn_is_number h (by omega) | exact fn_normal_pieces h (by omega) | exact fn_raw_parts h (by omega) | exact (h.no (by decide) (j := 21) rfl).1 | exact (h.no (by decide) (j := 21) rfl).2.1 | exact (h.no (by decide) (j := 21) rfl).2.2 | exact (h.no (by decide) (j := 22) rfl).1 | exact (h.no (by decide) (j := 22) rfl).2.1 | exact (h.no (by decide) (j := 22) rfl).2.2 | exact (h.no (by decide) (j := 23) rfl).1 | exact (h.no (by decide) (j := 23) rfl).2.1 | exact (h.no (by decide) (j := 23) rfl).2.2
theorem mk_Passage___init__ {D : Gd} (h : Hd ly D) (hl : 5 + 2 ≤ D.lv) : okA D (.mk "Passage") sp_Passage___init__ := h.nw rt_Passage___init__ (by decide) (j := 24) (j' := 25) rfl rfl 5 ok_Passage___init__ (does_Passage___init__.nm rfl) hl
theorem rt_made_of : Rt ly 17 (fnAd "made_of" none) st_made_of ["top", "target", "parts"] ["top", "target", "parts"] ir_made_of := ⟨⟨_, _, rfl, fun _ _ _ _ _ _ us hl => match us, hl with | [_, _, _], _ => rfl⟩, ⟨rfl, rfl, rfl, by decide +kernel, rfl, by decide +kernel, by decide +kernel⟩, by decide +kernel⟩
theorem ok_made_of (D : Gd) (h : Hd ly D) (e : D.lv = 7) : okCs D ir_made_of := by
  simp only [ir_made_of, okCs, okC, okE, okEs, okI, okG_ty, and_true, true_and]
  try and_intros
  all_goals first | exact fn_normal_pieces h (by omega) | exact mk_Passage___init__ h (by omega)
theorem fn_made_of {D : Gd} (h : Hd ly D) (hl : 7 + 1 ≤ D.lv) : okA D (.fn "made_of") sp_made_of := h.fn rt_made_of (j := 26) rfl 7 ok_made_of (does_made_of.nm rfl) hl
theorem rt_joined : Rt ly 18 (fnAd "joined" none) st_joined ["p", "q", "is_greater"] ["p", "q", "is_greater", "found", "one", "other"] ir_joined := ⟨⟨_, _, rfl, fun _ _ _ _ _ _ us hl => match us, hl with | [_, _, _], _ => rfl⟩, ⟨rfl, rfl, rfl, by decide +kernel, rfl, by decide +kernel, by decide +kernel⟩, by decide +kernel⟩
theorem ok_joined (D : Gd) (h : Hd ly D) (e : D.lv = 8) : okCs D ir_joined := by
  simp only [ir_joined, bd_joined_1, okCs, okC, okE, okEs, okI, okG_ty, and_true, true_and]
  try and_intros
  all_goals first | exact fn_common_parts h (by omega) | exact fn_extreme_parts h (by omega) | exact fn_made_of h (by omega)
theorem fn_joined {D : Gd} (h : Hd ly D) (hl : 8 + 1 ≤ D.lv) : okA D (.fn "joined") sp_joined := h.fn rt_joined (j := 27) rfl 8 ok_joined (does_joined.nm rfl) hl
theorem rt_Passage___and__ : Rt ly 19 (fnAd "Passage" (some "__and__")) st_Passage___and__ ["self", "other"] ["self", "other"] ir_Passage___and__ := ⟨⟨_, _, rfl, fun _ _ _ _ _ _ us hl => match us, hl with | [_, _], _ => rfl⟩, ⟨rfl, rfl, rfl, by decide +kernel, rfl, by decide +kernel, by decide +kernel⟩, by decide +kernel⟩
theorem ok_Passage___and__ (D : Gd) (h : Hd ly D) (e : D.lv = 9) : okCs D ir_Passage___and__ := by
  simp only [ir_Passage___and__, okCs, okC, okE, okEs, okI, okG_ty, and_true, true_and]
  try and_intros
  all_goals first | exact fn_joined h (by omega) | exact (h.gc (by decide) (j := 25) rfl).1 | exact (h.gc (by decide) (j := 25) rfl).2
theorem bo_Passage___and__ {D : Gd} (h : Hd ly D) (hl : 9 + 1 ≤ D.lv) : okA D (.bo .BitAnd "Passage") sp_Passage___and__ := h.bo rt_Passage___and__ (by decide +kernel) (j := 28) rfl (k := 0) rfl 9 ok_Passage___and__ (does_Passage___and__.nm rfl) hl
theorem rt_Passage___eq__ : Rt ly 20 (fnAd "Passage" (some "__eq__")) st_Passage___eq__ ["self", "other"] ["self", "other"] ir_Passage___eq__ := ⟨⟨_, _, rfl, fun _ _ _ _ _ _ us hl => match us, hl with | [_, _], _ => rfl⟩, ⟨rfl, rfl, rfl, by decide +kernel, rfl, by decide +kernel, by decide +kernel⟩, by decide +kernel⟩
theorem ok_Passage___eq__ (D : Gd) (h : Hd ly D) (e : D.lv = 0) : okCs D ir_Passage___eq__ := by
  simp only [ir_Passage___eq__, okCs, okC, okE, okEs, okI, okG_ty, and_true, true_and]
  try and_intros
  all_goals first | exact (h.gc (by decide) (j := 25) rfl).1 | exact (h.gc (by decide) (j := 25) rfl).2
theorem co_Passage___eq__ {D : Gd} (h : Hd ly D) (hl : 0 + 1 ≤ D.lv) : okA D (.co .Eq "Passage") sp_Passage___eq__ := h.co rt_Passage___eq__ (fun _ _ => rfl) (by decide +kernel) (j := 29) rfl 0 ok_Passage___eq__ (does_Passage___eq__.nm rfl) hl
theorem ne_Passage___eq__ {D : Gd} (h : Hd ly D) (hl : 0 + 2 ≤ D.lv) : okA D (.ne "Passage") sp_Passage___eq__ := h.ne rt_Passage___eq__ (j := 29) rfl (k := 1) rfl 0 ok_Passage___eq__ (does_Passage___eq__.nm rfl) hl
theorem rt__law_choose : Rt ly 21 (fnAd "_law_choose" none) st__law_choose ["_law_box", "_law_many"] ["_law_box", "_law_many", "_law_raw", "_law_digit"] ir__law_choose := ⟨⟨_, _, rfl, fun _ _ _ _ _ _ us hl => match us, hl with | [_, _], _ => rfl⟩, ⟨rfl, rfl, rfl, by decide +kernel, rfl, by decide +kernel, by decide +kernel⟩, by decide +kernel⟩
theorem ok__law_choose (D : Gd) (h : Hd ly D) (e : D.lv = 0) : okCs D ir__law_choose := by
  simp only [ir__law_choose, okCs, okC, okE, okEs, okI, okG_ty, and_true, true_and]
theorem fn__law_choose {D : Gd} (h : Hd ly D) (hl : 0 + 1 ≤ D.lv) : okA D (.fn "_law_choose") sp__law_choose := okA_src (h.fn rt__law_choose (j := 30) rfl 0 ok__law_choose (does0__law_choose.nm rfl) hl) i__law_choose
theorem rt__law_one_of : Rt ly 22 (fnAd "_law_one_of" none) st__law_one_of ["_law_box", "_law_some"] ["_law_box", "_law_some"] ir__law_one_of := ⟨⟨_, _, rfl, fun _ _ _ _ _ _ us hl => match us, hl with | [_, _], _ => rfl⟩, ⟨rfl, rfl, rfl, by decide +kernel, rfl, by decide +kernel, by decide +kernel⟩, by decide +kernel⟩
theorem ok__law_one_of (D : Gd) (h : Hd ly D) (e : D.lv = 1) : okCs D ir__law_one_of := by
  simp only [ir__law_one_of, okCs, okC, okE, okEs, okI, okG_ty, and_true, true_and]
  try and_intros
  all_goals first | exact fn__law_choose h (by omega)
theorem fn__law_one_of {D : Gd} (h : Hd ly D) (hl : 1 + 1 ≤ D.lv) : okA D (.fn "_law_one_of") sp__law_one_of := h.fn rt__law_one_of (j := 31) rfl 1 ok__law_one_of (does__law_one_of.nm rfl) hl
theorem rt__law_probes : Rt ly 23 (fnAd "_law_probes" none) st__law_probes ["_law_box", "_law_top", "_law_lists"] ["_law_box", "_law_top", "_law_lists", "_law_found", "_law_pieces_here", "_law_start", "_law_first", "_law_rises", "_law_x"] ir__law_probes := ⟨⟨_, _, rfl, fun _ _ _ _ _ _ us hl => match us, hl with | [_, _, _], _ => rfl⟩, ⟨rfl, rfl, rfl, by decide +kernel, rfl, by decide +kernel, by decide +kernel⟩, by decide +kernel⟩
theorem ok__law_probes (D : Gd) (h : Hd ly D) (e : D.lv = 1) : okCs D ir__law_probes := by
  simp only [ir__law_probes, bd__law_probes_1, bd__law_probes_2, okCs, okC, okE, okEs, okI, okG_ty, and_true, true_and]
  try and_intros
  all_goals first | exact fn__law_choose h (by omega)
theorem fn__law_probes {D : Gd} (h : Hd ly D) (hl : 1 + 1 ≤ D.lv) : okA D (.fn "_law_probes") sp__law_probes := h.fn rt__law_probes (j := 32) rfl 1 ok__law_probes (does__law_probes.nm rfl) hl
theorem rt__law_seed : Rt ly 24 (fnAd "_law_seed" none) st__law_seed ["_law_script", "_law_k"] ["_law_script", "_law_k", "_law_cell"] ir__law_seed := ⟨⟨_, _, rfl, fun _ _ _ _ _ _ us hl => match us, hl with | [_, _], _ => rfl⟩, ⟨rfl, rfl, rfl, by decide +kernel, rfl, by decide +kernel, by decide +kernel⟩, by decide +kernel⟩
theorem ok__law_seed (D : Gd) (h : Hd ly D) (e : D.lv = 0) : okCs D ir__law_seed := by
  simp only [ir__law_seed, okCs, okC, okE, okEs, okI, okG_ty, and_true, true_and]
theorem fn__law_seed {D : Gd} (h : Hd ly D) (hl : 0 + 1 ≤ D.lv) : okA D (.fn "_law_seed") sp__law_seed := okA_seed (h.fn rt__law_seed (j := 33) rfl 0 ok__law_seed (does0__law_seed.nm rfl) hl) i__law_seed
theorem rt_least_sources : Rt ly 25 (fnAd "least_sources" none) st_least_sources ["passage"] ["passage", "part", "found", "at"] ir_least_sources := ⟨⟨_, _, rfl, fun _ _ _ _ _ _ us hl => match us, hl with | [_], _ => rfl⟩, ⟨rfl, rfl, rfl, by decide +kernel, rfl, by decide +kernel, by decide +kernel⟩, by decide +kernel⟩
theorem ok_least_sources (D : Gd) (h : Hd ly D) (e : D.lv = 3) : okCs D ir_least_sources := by
  simp only [ir_least_sources, bd_least_sources_1, okCs, okC, okE, okEs, okI, okG_ty, and_true, true_and]
  try and_intros
  all_goals first | exact fn_parts_of h (by omega) | exact me_Part_last h (by omega) | exact mk_Part___init__ h (by omega)
theorem fn_least_sources {D : Gd} (h : Hd ly D) (hl : 3 + 1 ≤ D.lv) : okA D (.fn "least_sources") sp_least_sources := h.fn rt_least_sources (j := 34) rfl 3 ok_least_sources (does_least_sources.nm rfl) hl
theorem rt_result_in : Rt ly 26 (fnAd "result_in" none) st_result_in ["parts", "x"] ["parts", "x", "part"] ir_result_in := ⟨⟨_, _, rfl, fun _ _ _ _ _ _ us hl => match us, hl with | [_, _], _ => rfl⟩, ⟨rfl, rfl, rfl, by decide +kernel, rfl, by decide +kernel, by decide +kernel⟩, by decide +kernel⟩
theorem ok_result_in (D : Gd) (h : Hd ly D) (e : D.lv = 1) : okCs D ir_result_in := by
  simp only [ir_result_in, okCs, okC, okE, okEs, okI, okG_ty, and_true, true_and]
  try and_intros
  all_goals first | exact me_Part_result h (by omega)
theorem fn_result_in {D : Gd} (h : Hd ly D) (hl : 1 + 1 ≤ D.lv) : okA D (.fn "result_in") sp_result_in := h.fn rt_result_in (j := 35) rfl 1 ok_result_in (does_result_in.nm rfl) hl
theorem rt_Passage___call__ : Rt ly 27 (fnAd "Passage" (some "__call__")) st_Passage___call__ ["self", "x"] ["self", "x"] ir_Passage___call__ := ⟨⟨_, _, rfl, fun _ _ _ _ _ _ us hl => match us, hl with | [_, _], _ => rfl⟩, ⟨rfl, rfl, rfl, by decide +kernel, rfl, by decide +kernel, by decide +kernel⟩, by decide +kernel⟩
theorem ok_Passage___call__ (D : Gd) (h : Hd ly D) (e : D.lv = 3) : okCs D ir_Passage___call__ := by
  simp only [ir_Passage___call__, okCs, okC, okE, okEs, okI, okG_ty, and_true, true_and]
  try and_intros
  all_goals first | exact fn_is_number h (by omega) | exact fn_parts_of h (by omega) | exact fn_result_in h (by omega)
theorem ic_Passage___call__ {D : Gd} (h : Hd ly D) (hl : 3 + 1 ≤ D.lv) : InsCal D "Passage" sp_Passage___call__ := h.ic rt_Passage___call__ (j := 36) rfl (k := 2) rfl 3 ok_Passage___call__ (does_Passage___call__.nm rfl) hl
theorem rt_at_least : Rt ly 28 (fnAd "at_least" none) st_at_least ["p"] ["p"] ir_at_least := ⟨⟨_, _, rfl, fun _ _ _ _ _ _ us hl => match us, hl with | [_], _ => rfl⟩, ⟨rfl, rfl, rfl, by decide +kernel, rfl, by decide +kernel, by decide +kernel⟩, by decide +kernel⟩
theorem ok_at_least (D : Gd) (h : Hd ly D) (e : D.lv = 8) : okCs D ir_at_least := by
  simp only [ir_at_least, okCs, okC, okE, okEs, okI, okG_ty, and_true, true_and]
  try and_intros
  all_goals first | exact fn_least_sources h (by omega) | exact fn_made_of h (by omega) | exact ic_Passage___call__ h (by omega)
theorem fn_at_least {D : Gd} (h : Hd ly D) (hl : 8 + 1 ≤ D.lv) : okA D (.fn "at_least") sp_at_least := h.fn rt_at_least (j := 37) rfl 8 ok_at_least (does_at_least.nm rfl) hl
theorem rt_greatest_sources : Rt ly 29 (fnAd "greatest_sources" none) st_greatest_sources ["passage"] ["passage", "part", "found", "at"] ir_greatest_sources := ⟨⟨_, _, rfl, fun _ _ _ _ _ _ us hl => match us, hl with | [_], _ => rfl⟩, ⟨rfl, rfl, rfl, by decide +kernel, rfl, by decide +kernel, by decide +kernel⟩, by decide +kernel⟩
theorem ok_greatest_sources (D : Gd) (h : Hd ly D) (e : D.lv = 3) : okCs D ir_greatest_sources := by
  simp only [ir_greatest_sources, bd_greatest_sources_1, okCs, okC, okE, okEs, okI, okG_ty, and_true, true_and]
  try and_intros
  all_goals first | exact fn_parts_of h (by omega) | exact me_Part_last h (by omega) | exact mk_Part___init__ h (by omega)
theorem fn_greatest_sources {D : Gd} (h : Hd ly D) (hl : 3 + 1 ≤ D.lv) : okA D (.fn "greatest_sources") sp_greatest_sources := h.fn rt_greatest_sources (j := 38) rfl 3 ok_greatest_sources (does_greatest_sources.nm rfl) hl
theorem rt_at_most : Rt ly 30 (fnAd "at_most" none) st_at_most ["p"] ["p"] ir_at_most := ⟨⟨_, _, rfl, fun _ _ _ _ _ _ us hl => match us, hl with | [_], _ => rfl⟩, ⟨rfl, rfl, rfl, by decide +kernel, rfl, by decide +kernel, by decide +kernel⟩, by decide +kernel⟩
theorem ok_at_most (D : Gd) (h : Hd ly D) (e : D.lv = 8) : okCs D ir_at_most := by
  simp only [ir_at_most, okCs, okC, okE, okEs, okI, okG_ty, and_true, true_and]
  try and_intros
  all_goals first | exact fn_greatest_sources h (by omega) | exact fn_made_of h (by omega) | exact ic_Passage___call__ h (by omega)
theorem fn_at_most {D : Gd} (h : Hd ly D) (hl : 8 + 1 ≤ D.lv) : okA D (.fn "at_most") sp_at_most := h.fn rt_at_most (j := 39) rfl 8 ok_at_most (does_at_most.nm rfl) hl
theorem rt_need_pair : Rt ly 31 (fnAd "need_pair" none) st_need_pair ["p", "q"] ["p", "q"] ir_need_pair := ⟨⟨_, _, rfl, fun _ _ _ _ _ _ us hl => match us, hl with | [_, _], _ => rfl⟩, ⟨rfl, rfl, rfl, by decide +kernel, rfl, by decide +kernel, by decide +kernel⟩, by decide +kernel⟩
theorem ok_need_pair (D : Gd) (h : Hd ly D) (e : D.lv = 0) : okCs D ir_need_pair := by
  simp only [ir_need_pair, okCs, okC, okE, okEs, okI, okG_ty, and_true, true_and]
theorem fn_need_pair {D : Gd} (h : Hd ly D) (hl : 0 + 1 ≤ D.lv) : okA D (.fn "need_pair") sp_need_pair := h.fn rt_need_pair (j := 40) rfl 0 ok_need_pair (does_need_pair.nm rfl) hl
theorem rt_misfit : Rt ly 32 (fnAd "misfit" none) st_misfit ["p", "q"] ["p", "q", "needed", "parts", "most", "one", "other", "x"] ir_misfit := ⟨⟨_, _, rfl, fun _ _ _ _ _ _ us hl => match us, hl with | [_, _], _ => rfl⟩, ⟨rfl, rfl, rfl, by decide +kernel, rfl, by decide +kernel, by decide +kernel⟩, by decide +kernel⟩
theorem ok_misfit (D : Gd) (h : Hd ly D) (e : D.lv = 8) : okCs D ir_misfit := by
  simp only [ir_misfit, bd_misfit_1, bd_misfit_2, okCs, okC, okE, okEs, okI, okG_ty, and_true, true_and]
  try and_intros
  all_goals first | exact fn_common_parts h (by omega) | exact fn_least_sources h (by omega) | exact fn_made_of h (by omega) | exact fn_need_pair h (by omega) | exact ic_Passage___call__ h (by omega) | exact me_Part_result h (by omega) | exact mk_Part___init__ h (by omega)
theorem fn_misfit {D : Gd} (h : Hd ly D) (hl : 8 + 1 ≤ D.lv) : okA D (.fn "misfit") sp_misfit := h.fn rt_misfit (j := 41) rfl 8 ok_misfit (does_misfit.nm rfl) hl
theorem rt_fits : Rt ly 33 (fnAd "fits" none) st_fits ["p", "q"] ["p", "q"] ir_fits := ⟨⟨_, _, rfl, fun _ _ _ _ _ _ us hl => match us, hl with | [_, _], _ => rfl⟩, ⟨rfl, rfl, rfl, by decide +kernel, rfl, by decide +kernel, by decide +kernel⟩, by decide +kernel⟩
theorem ok_fits (D : Gd) (h : Hd ly D) (e : D.lv = 9) : okCs D ir_fits := by
  simp only [ir_fits, okCs, okC, okE, okEs, okI, okG_ty, and_true, true_and]
  try and_intros
  all_goals first | exact fn_misfit h (by omega)
theorem fn_fits {D : Gd} (h : Hd ly D) (hl : 9 + 1 ≤ D.lv) : okA D (.fn "fits") sp_fits := h.fn rt_fits (j := 42) rfl 9 ok_fits (does_fits.nm rfl) hl
theorem rt__law_pieces : Rt ly 34 (fnAd "_law_pieces" none) st__law_pieces ["_law_box", "_law_top", "_law_target", "_law_many"] ["_law_box", "_law_top", "_law_target", "_law_many", "_law_starts", "_law_turn", "_law_start", "_law_found", "_law_last", "_law_at", "_law_end", "_law_room", "_law_first", "_law_rises"] ir__law_pieces := ⟨⟨_, _, rfl, fun _ _ _ _ _ _ us hl => match us, hl with | [_, _, _, _], _ => rfl⟩, ⟨rfl, rfl, rfl, by decide +kernel, rfl, by decide +kernel, by decide +kernel⟩, by decide +kernel⟩
theorem ok__law_pieces (D : Gd) (h : Hd ly D) (e : D.lv = 2) : okCs D ir__law_pieces := by
  simp only [ir__law_pieces, bd__law_pieces_1, bd__law_pieces_2, okCs, okC, okE, okEs, okI, okG_ty, and_true, true_and]
  try and_intros
  all_goals first | exact fn__law_choose h (by omega) | exact fn__law_one_of h (by omega)
theorem fn_m__law_pieces {D : Gd} (h : Hd ly D) (hl : 2 + 1 ≤ D.lv) : okA D (.fn "_law_pieces") sp__law_pieces_m := h.fn rt__law_pieces (j := 43) rfl 2 ok__law_pieces (does__law_pieces_m.nm rfl) hl
theorem rt_law : Rt ly 35 (fnAd "law" none) st_law ["_law_script"] ["_law_script", "_law_k", "_law_box", "_law_turn", "_law_pieces_here", "_law_p", "_law_q", "_law_back", "_law_other", "_law_found", "_law_a", "_law_more", "_law_top", "_law_target", "_law_x", "_law_y", "_law_b", "_law_one"] ir_law := ⟨⟨_, _, rfl, fun _ _ _ _ _ _ us hl => match us, hl with | [_], _ => rfl⟩, ⟨rfl, rfl, rfl, by decide +kernel, rfl, by decide +kernel, by decide +kernel⟩, by decide +kernel⟩
theorem ok_law (D : Gd) (h : Hd ly D) (e : D.lv = 10) : okCs D ir_law := by
  simp only [ir_law, bd_law_1, bd_law_2, bd_law_3, bd_law_4, tl_law_2_2, tl_law_3_10, okCs, okC, okE, okEs, okI, okG_ty, and_true, true_and]
  try and_intros
  all_goals first | exact bo_Passage___and__ h (by omega) | exact co_Passage___eq__ h (by omega) | exact fn__law_choose h (by omega) | exact fn__law_one_of h (by omega) | exact fn__law_probes h (by omega) | exact fn__law_seed h (by omega) | exact fn_at_least h (by omega) | exact fn_at_most h (by omega) | exact fn_fits h (by omega) | exact fn_misfit h (by omega) | exact fn_m__law_pieces h (by omega) | exact ic_Passage___call__ h (by omega) | exact mk_Passage___init__ h (by omega) | exact ne_Passage___eq__ h (by omega)
end TW
open PySem PySem.W PySem.Calls PyProof.Rows
theorem PySem.Challenge.cw_scaleways_k30_misfits_on_large_scales_holds : PySem.Challenge.rw_scaleways_k30_misfits_on_large_scales.Holds := by
  w_on; o_law
  refine HandSHeadRun.head_any (r := OpenLaw.row PySem.Challenge.rw_scaleways_k30_misfits_on_large_scales) (q := view (OpenLaw.row PySem.Challenge.rw_scaleways_k30_misfits_on_large_scales).prog [46]) (H := TW.hk) (ob := TW.ob) (M := 4000) (loose := TW.loose) (d := HandSHeadRun.topDef (OpenLaw.row PySem.Challenge.rw_scaleways_k30_misfits_on_large_scales).prog 46) (kwd := []) TW.ob_eq
    (by kernel_rfl) (fun s => by kernel_rfl) TW.run (by kernel_rfl) (by kernel_rfl) (by kernel_rfl) (by rfl) (by first | assumption | decide +kernel) (by decide +kernel) ⟨rfl, rfl, rfl, rfl, rfl, by decide +kernel⟩ ?hw ?hc
  case hw => w_witness2
  case hc => exact TW.law_end (j := 44) (L := 10) rfl (by kernel_rfl) (by kernel_rfl) TW.rt_law rfl (by decide) TW.ok_law (TW.does_law.nm rfl)
