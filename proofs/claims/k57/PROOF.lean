import PyProof.Rows.All
import HandS.ForMost
import HandS.ForExc
import HandS.Exc
import HandS.ExcInit
import HandS.Lambda
import HandS.Defaults
import HandS.IsInst
import HandS.TupSets
import HandS.Wide
import HandS.TupAny
import HandS.Style
import HandS.Zip
import HandS.Conv
import HandS.Flow
import HandS.More
import HandS.SetFor
import HandS.HeadHook4
import HandS.HeadWalk
import HandS.Star
import KE.GoesMore
import HandS.TryOnly
import HandS.ExcField
import KE.KExcIs
import HandS.ExcBuiltin
import HandS.Words
import HandS.Head2
import HandS.HeadEnd
import PySem.Challenge.RW_countsalone_k57_formulas_and_their_worth
set_option Elab.async false
set_option linter.all false
set_option maxRecDepth 100000
set_option maxHeartbeats 4000000
/-! DLa: data by value, a store by index; judgements that tell what code does to data. -/
namespace DL
open PySem L2

/-- data: values without addresses -/
inductive D where
  | non | bl (b : Bool) | int (i : Int) | str (s : Str)
  | tup (xs : List D) | lst (xs : List D) | lsk (xs : List D)
  | raw (v : V)
  | dic (ks : List Key) (xs : List D)
  | exc (C : Addr) (ns : List Str) (xs : List D)
/-- at a: an exception of the class cls with its dict at d, as a def holds it that caught it -/
def excO (a : Addr) (cls : Value) (d : Option Addr) : HO := .ext fun h => ∃ (o : Obj) (fs : Array Value), h.get? a = some o ∧ o.cls = cls ∧ o.dict = d ∧ o.data = .fields fs

mutual
/-- v bears the data, in the ground B that never changes -/
def R (K : PySem.W.Frag) (B : Hp) : D → V → Prop
  | .non, v => v = .non
  | .bl b, v => v = .bl b
  | .int i, v => v = .int i
  | .str s, v => v = .str s
  | .tup xs, v => ∃ a vs, v = .ref a ∧ SqT K B a vs ∧ RL K B xs vs
  | .lst xs, v => ∃ a vs, v = .ref a ∧ B a = some (.lst vs) ∧ RL K B xs vs
  | .lsk xs, v => ∃ a vs, v = .ref a ∧ SqL K B a vs ∧ RL K B xs vs
  | .raw u, v => v = u
  | .dic ks xs, v => ∃ a vs, v = .ref a ∧ B a = some (.dK (ks.zip vs)) ∧ ks.length = vs.length ∧ RL K B xs vs
  | .exc C ns xs, v => ∃ a dx vs, v = .ref a ∧ B a = some (excO a (.ref C) (some dx)) ∧ B dx = some (.xd (ns.zip vs)) ∧ ns.length = vs.length ∧ RL K B xs vs
def RL (K : PySem.W.Frag) (B : Hp) : List D → List V → Prop
  | [], vs => vs = []
  | x :: xs, vs => ∃ v ws, vs = v :: ws ∧ R K B x v ∧ RL K B xs ws
end

/-- what a slot holds: data, or an object of the store -/
inductive Va where
  | d (x : D) | m (k : Nat)
/-- an object of the store -/
inductive MO where
  | lst (xs : List Va)
  | dK (ks : List Key) (xs : List Va)
  | ins (C : Addr) (ns : List Str) (xs : List Va)
  | tab (P : Addr) (q : Str)
  | dead
abbrev Es := List (Option Va)
abbrev Mu := List MO

/-- all that H knows is known to H' -/
def Ex (H H' : Hp) : Prop := ∀ a o, H a = some o → H' a = some o
theorem Ex.rfl {H : Hp} : Ex H H := fun _ _ h => h
theorem Ex.tr {H H1 H2 : Hp} (a : Ex H H1) (b : Ex H1 H2) : Ex H H2 := fun x o h => b x o (a x o h)
theorem Ex.new {H : Hp} {p : Addr} {o : HO} (h : H p = none) : Ex H (upd H p o) := fun a u e => (upd_ne (ne_of_none e h)).trans e
theorem Ex.back {H H' : Hp} {p : Addr} (e : Ex H H') (h : H' p = none) : H p = none := by
  cases q : H p with
  | none => rfl
  | some o => exact absurd ((e p o q).symm.trans h) (fun z => nomatch z)
theorem Ex.rd {H H' : Hp} {a : Addr} {u : HO} (e : Ex H H') (h : Rd H a u) : Rd H' a u := h.elim (fun h => .inl (e _ _ h)) fun ⟨o, h⟩ => .inr ⟨o, e _ _ h⟩
theorem Ex.sqL {K : PySem.W.Frag} {H H' : Hp} {a : Addr} {xs : List V} (e : Ex H H') (h : SqL K H a xs) : SqL K H' a xs := h.elim (fun h => .inl (e.rd h)) .inr
theorem Ex.sqT {K : PySem.W.Frag} {H H' : Hp} {a : Addr} {xs : List V} (e : Ex H H') (h : SqT K H a xs) : SqT K H' a xs := h.elim (fun h => .inl (e.rd h)) .inr

mutual
theorem R.mono {K : PySem.W.Frag} {B B' : Hp} (e : Ex B B') : ∀ (x : D) {v : V}, R K B x v → R K B' x v
  | .non, _, h => h
  | .bl _, _, h => h
  | .int _, _, h => h
  | .str _, _, h => h
  | .raw _, _, h => h
  | .tup xs, _, h => by
    obtain ⟨a, vs, h1, h2, h3⟩ := h
    exact ⟨a, vs, h1, e.sqT h2, RL.mono e xs h3⟩
  | .lst xs, _, h => by
    obtain ⟨a, vs, h1, h2, h3⟩ := h
    exact ⟨a, vs, h1, e _ _ h2, RL.mono e xs h3⟩
  | .lsk xs, _, h => by
    obtain ⟨a, vs, h1, h2, h3⟩ := h
    exact ⟨a, vs, h1, e.sqL h2, RL.mono e xs h3⟩
  | .dic ks xs, _, h => by
    obtain ⟨a, vs, h1, h2, h3, h4⟩ := h
    exact ⟨a, vs, h1, e _ _ h2, h3, RL.mono e xs h4⟩
  | .exc C ns xs, _, h => by
    obtain ⟨a, dx, vs, h1, h2, h3, h4, h5⟩ := h
    exact ⟨a, dx, vs, h1, e _ _ h2, e _ _ h3, h4, RL.mono e xs h5⟩
theorem RL.mono {K : PySem.W.Frag} {B B' : Hp} (e : Ex B B') : ∀ (xs : List D) {vs : List V}, RL K B xs vs → RL K B' xs vs
  | [], _, h => h
  | x :: xs, _, h => by
    obtain ⟨v, ws, h1, h2, h3⟩ := h
    exact ⟨v, ws, h1, R.mono e x h2, RL.mono e xs h3⟩
end

theorem RL.len {K : PySem.W.Frag} {B : Hp} : ∀ {xs : List D} {vs : List V}, RL K B xs vs → xs.length = vs.length
  | [], vs, h => by
    have h : vs = [] := h
    rw [h]
    rfl
  | x :: xs, vs, h => by
    obtain ⟨v, ws, rfl, _, h3⟩ := h
    rw [List.length_cons, List.length_cons, RL.len h3]
theorem RL.at {K : PySem.W.Frag} {B : Hp} : ∀ {xs : List D} {vs : List V} {i : Nat} {x : D}, RL K B xs vs → xs[i]? = some x → ∃ v, vs[i]? = some v ∧ R K B x v
  | [], _, _, _, _, e => by simp at e
  | y :: ys, vs, 0, x, h, e => by
    obtain ⟨v, ws, rfl, h2, _⟩ := h
    simp at e
    subst e
    exact ⟨v, by simp, h2⟩
  | y :: ys, vs, i + 1, x, h, e => by
    obtain ⟨v, ws, rfl, _, h3⟩ := h
    obtain ⟨u, e1, e2⟩ := RL.at (i := i) (x := x) h3 (by simpa using e)
    exact ⟨u, by simpa using e1, e2⟩
theorem RL.app {K : PySem.W.Frag} {B : Hp} : ∀ {xs ys : List D} {vs ws : List V}, RL K B xs vs → RL K B ys ws → RL K B (xs ++ ys) (vs ++ ws)
  | [], _, vs, _, h, g => by
    have h : vs = [] := h
    rw [h]
    exact g
  | x :: xs, _, vs, _, h, g => by
    obtain ⟨v, us, rfl, h2, h3⟩ := h
    exact ⟨v, us ++ _, rfl, h2, RL.app h3 g⟩
theorem RL.cons {K : PySem.W.Frag} {B : Hp} {x : D} {v : V} {xs : List D} {vs : List V} (h : R K B x v) (g : RL K B xs vs) : RL K B (x :: xs) (v :: vs) := ⟨v, vs, rfl, h, g⟩
theorem RL.nil {K : PySem.W.Frag} {B : Hp} : RL K B [] [] := rfl
theorem RL.one {K : PySem.W.Frag} {B : Hp} {x : D} {v : V} (h : R K B x v) : RL K B [x] [v] := .cons h .nil
theorem RL.drop {K : PySem.W.Frag} {B : Hp} : ∀ (n : Nat) {xs : List D} {vs : List V}, RL K B xs vs → RL K B (xs.drop n) (vs.drop n)
  | 0, _, _, h => h
  | n + 1, [], vs, h => by
    have h : vs = [] := h
    rw [h]
    exact RL.nil
  | n + 1, x :: xs, vs, h => by
    obtain ⟨v, us, rfl, h2, h3⟩ := h
    exact RL.drop n h3
theorem RL.take {K : PySem.W.Frag} {B : Hp} : ∀ (n : Nat) {xs : List D} {vs : List V}, RL K B xs vs → RL K B (xs.take n) (vs.take n)
  | 0, _, _, h => RL.nil
  | n + 1, [], vs, h => by
    have h : vs = [] := h
    rw [h]
    exact RL.nil
  | n + 1, x :: xs, vs, h => by
    obtain ⟨v, us, rfl, h2, h3⟩ := h
    exact .cons h2 (RL.take n h3)

/-- what a slot's value is -/
def RV (K : PySem.W.Frag) (B : Hp) (θ : List Addr) : Va → V → Prop
  | .d x, v => R K B x v
  | .m k, v => ∃ a, θ[k]? = some a ∧ v = .ref a
abbrev RVs (K : PySem.W.Frag) (B : Hp) (θ : List Addr) : List Va → List V → Prop := Paired (RV K B θ)
def RM (K : PySem.W.Frag) (B : Hp) (θ : List Addr) (H : Hp) (a : Addr) : MO → Prop
  | .lst xs => B a = none ∧ ∃ vs, H a = some (.lst vs) ∧ RVs K B θ xs vs
  | .dK ks xs => B a = none ∧ ∃ vs, H a = some (.dK (ks.zip vs)) ∧ ks.length = vs.length ∧ RVs K B θ xs vs
  | .ins C ns xs => B a = none ∧ ∃ dx vs, H a = some (.ins C dx (ns.zip vs)) ∧ ns.length = vs.length ∧ RVs K B θ xs vs
  | .tab P q => B a = none ∧ a = P ∧ ∃ ps, H a = some (.tbl ps) ∧ TriplesOk ps.toList ∧ ∀ pos cv, codeAmong pos ps.toList = some cv → ∃ c, cv = .ref c ∧ B c = some (LamX.CodeO c q)
  | .dead => ∃ o, B a = some o
/-- the state: ground, addresses of the store, heap, store -/
structure Ok (K : PySem.W.Frag) (B : Hp) (θ : List Addr) (H : Hp) (μ : Mu) : Prop where
  ex : Ex B H
  len : θ.length = μ.length
  nd : θ.Nodup
  mu : ∀ (k : Nat) a m, θ[k]? = some a → μ[k]? = some m → RM K B θ H a m
  ntb : ∀ a ps, B a ≠ some (.tbl ps)
structure EnvOk (K : PySem.W.Frag) (B : Hp) (θ : List Addr) (es : Es) (σ : St) : Prop where
  len : es.length = σ.length
  at_ : ∀ (i : Nat) v, es[i]? = some (some v) → ∃ u, σ[i]? = some (some u) ∧ RV K B θ v u
/-- a list, a dict: what may be hidden while an expression runs -/
def Hdb : HO → Prop
  | .lst _ => True
  | .dK _ => True
  | _ => False
/-- how a state goes on -/
structure Gw (B : Hp) (θ : List Addr) (H : Hp) (B' : Hp) (θ' : List Addr) (H' : Hp) : Prop where
  ex : Ex B B'
  pre : θ <+: θ'
  new : ∀ a ∈ θ', a ∈ θ ∨ (B a = none → ∀ o, H a = some o → ¬ Hdb o)
  keep : ∀ a o, a ∉ θ → B a = none → H a = some o → Hdb o → H' a = some o ∧ B' a = none
theorem Gw.rfl {B : Hp} {θ : List Addr} {H : Hp} : Gw B θ H B θ H := ⟨Ex.rfl, List.prefix_rfl, fun _ h => .inl h, fun _ _ _ h e _ => ⟨e, h⟩⟩
theorem Gw.tr {B B1 B2 H H1 H2 : Hp} {θ θ1 θ2 : List Addr} (g : Gw B θ H B1 θ1 H1) (h : Gw B1 θ1 H1 B2 θ2 H2) : Gw B θ H B2 θ2 H2 where
  ex := g.ex.tr h.ex
  pre := g.pre.trans h.pre
  new := fun a ha => by
    rcases h.new a ha with q | q
    · exact g.new a q
    · by_cases hm : a ∈ θ
      · exact .inl hm
      · exact .inr fun b0 o e hd => let ⟨e1, e2⟩ := g.keep a o hm b0 e hd; q e2 o e1 hd
  keep := fun a ob h1 h2 h3 h4 => by
    obtain ⟨e1, e2⟩ := g.keep a ob h1 h2 h3 h4
    have n1 : a ∉ θ1 := fun z => by
      rcases g.new a z with q | q
      · exact h1 q
      · exact q h2 ob h3 h4
    exact h.keep a ob n1 e2 e1 h4

theorem RV.mono {K : PySem.W.Frag} {B B' : Hp} {θ θ' : List Addr} (e : Ex B B') (p : θ <+: θ') : ∀ {x : Va} {v : V}, RV K B θ x v → RV K B' θ' x v
  | .d x, _, h => R.mono e x h
  | .m k, _, ⟨a, h1, h2⟩ => by
    obtain ⟨l, rfl⟩ := p
    refine ⟨a, ?_, h2⟩
    have hk : k < θ.length := (List.getElem?_eq_some_iff.mp h1).1
    rw [List.getElem?_append_left hk]
    exact h1
theorem RVs.mono {K : PySem.W.Frag} {B B' : Hp} {θ θ' : List Addr} (e : Ex B B') (p : θ <+: θ') {xs : List Va} {vs : List V} (h : RVs K B θ xs vs) : RVs K B' θ' xs vs := Paired.mapP h fun _ _ q => RV.mono e p q
theorem EnvOk.mono {K : PySem.W.Frag} {B B' : Hp} {θ θ' : List Addr} {es : Es} {σ : St} (e : Ex B B') (p : θ <+: θ') (h : EnvOk K B θ es σ) : EnvOk K B' θ' es σ :=
  ⟨h.len, fun i v q => by
    obtain ⟨u, h1, h2⟩ := h.at_ i v q
    exact ⟨u, h1, RV.mono e p h2⟩⟩
theorem EnvOk.set {K : PySem.W.Frag} {B : Hp} {θ : List Addr} {es : Es} {σ : St} {i : Nat} {v : Va} {u : V} (h : EnvOk K B θ es σ) (r : RV K B θ v u) : EnvOk K B θ (es.set i (some v)) (σ.set i (some u)) := by
  refine ⟨by simp [h.len], fun j w q => ?_⟩
  by_cases hj : j = i
  · subst hj
    have hl : j < es.length := by
      have := (List.getElem?_eq_some_iff.mp q).1
      simpa using this
    rw [List.getElem?_set_self hl] at q
    cases q
    exact ⟨u, List.getElem?_set_self (by rw [← h.len]; exact hl), r⟩
  · rw [List.getElem?_set_ne (Ne.symm hj)] at q
    obtain ⟨u', h1, h2⟩ := h.at_ j w q
    exact ⟨u', by rw [List.getElem?_set_ne (Ne.symm hj)]; exact h1, h2⟩
theorem EnvOk.unset {K : PySem.W.Frag} {B : Hp} {θ : List Addr} {es : Es} {σ : St} {i : Nat} (h : EnvOk K B θ es σ) : EnvOk K B θ (es.set i none) (σ.set i none) := by
  refine ⟨by simp [h.len], fun j w q => ?_⟩
  by_cases hj : j = i
  · subst hj
    have hl : j < es.length := by
      have := (List.getElem?_eq_some_iff.mp q).1
      simpa using this
    rw [List.getElem?_set_self hl] at q
    cases q
  · rw [List.getElem?_set_ne (Ne.symm hj)] at q
    obtain ⟨u', h1, h2⟩ := h.at_ j w q
    exact ⟨u', by rw [List.getElem?_set_ne (Ne.symm hj)]; exact h1, h2⟩

theorem Ok.sto {K : PySem.W.Frag} {B H : Hp} {θ : List Addr} {μ : Mu} (o : Ok K B θ H μ) {a : Addr} (h : a ∈ θ) : H a ≠ none := by
  obtain ⟨k, hk, e⟩ := List.mem_iff_getElem.mp h
  have h1 : θ[k]? = some a := by rw [List.getElem?_eq_getElem hk, e]
  have hm : k < μ.length := by rw [← o.len]; exact hk
  have q := o.mu k a μ[k] h1 (List.getElem?_eq_getElem hm)
  cases em : μ[k] with
  | lst xs => rw [em] at q; obtain ⟨_, vs, h2, _⟩ := q; rw [h2]; exact fun z => nomatch z
  | dK ks xs => rw [em] at q; obtain ⟨_, vs, h2, _⟩ := q; rw [h2]; exact fun z => nomatch z
  | ins C ns xs => rw [em] at q; obtain ⟨_, dx, vs, h2, _⟩ := q; rw [h2]; exact fun z => nomatch z
  | tab P' q' => rw [em] at q; obtain ⟨_, _, vs, h2, _⟩ := q; rw [h2]; exact fun z => nomatch z
  | dead => rw [em] at q; obtain ⟨u, h2⟩ := q; rw [o.ex _ _ h2]; exact fun z => nomatch z
theorem Ok.fresh {K : PySem.W.Frag} {B H : Hp} {θ : List Addr} {μ : Mu} (o : Ok K B θ H μ) {p : Addr} (h : H p = none) : p ∉ θ ∧ B p = none := ⟨fun z => o.sto z h, o.ex.back h⟩

/-- an object's account in a later state in which it stands as it was -/
theorem RM.mono {K : PySem.W.Frag} {B B' H H' : Hp} {θ θ' : List Addr} {a : Addr} (e : Ex B B') (p : θ <+: θ') (hH : H' a = H a) (hB : B a = none → B' a = none) : ∀ {m : MO}, RM K B θ H a m → RM K B' θ' H' a m
  | .lst xs, ⟨h1, vs, h2, h3⟩ => ⟨hB h1, vs, hH.trans h2, RVs.mono e p h3⟩
  | .dK ks xs, ⟨h1, vs, h2, h3, h4⟩ => ⟨hB h1, vs, hH.trans h2, h3, RVs.mono e p h4⟩
  | .ins C ns xs, ⟨h1, dx, vs, h2, h3, h4⟩ => ⟨hB h1, dx, vs, hH.trans h2, h3, RVs.mono e p h4⟩
  | .tab P q, ⟨h1, h0, ps, h2, h3, h4⟩ => ⟨hB h1, h0, ps, hH.trans h2, h3, fun pos cv hc => by
      obtain ⟨c, e1, e2⟩ := h4 pos cv hc
      exact ⟨c, e1, e _ _ e2⟩⟩
  | .dead, ⟨o, h⟩ => ⟨o, e _ _ h⟩

/-- a new object of the ground -/
theorem Ok.lay {K : PySem.W.Frag} {B H : Hp} {θ : List Addr} {μ : Mu} (o : Ok K B θ H μ) {p : Addr} {ob : HO} (hp : H p = none) (nt : ∀ ps, ob ≠ .tbl ps) : Ok K (upd B p ob) θ (upd H p ob) μ ∧ Gw B θ H (upd B p ob) θ (upd H p ob) := by
  obtain ⟨n1, n2⟩ := o.fresh hp
  have exB : Ex B (upd B p ob) := Ex.new n2
  refine ⟨⟨fun a u e => ?_, o.len, o.nd, fun k a m h1 h2 => ?_, fun a ps e => ?_⟩, ⟨exB, List.prefix_rfl, fun a h => .inl h, fun a ob1 h1 h2 h3 _ => ?_⟩⟩
  · by_cases ha : a = p
    · subst ha
      rw [upd_same] at e ⊢
      exact e
    · rw [upd_ne ha] at e ⊢
      exact o.ex a u e
  · have ha : a ≠ p := fun z => n1 (z ▸ List.mem_of_getElem? h1)
    exact RM.mono exB List.prefix_rfl (upd_ne ha) (fun z => by rw [upd_ne ha]; exact z) (o.mu k a m h1 h2)
  · by_cases ha : a = p
    · subst ha
      rw [upd_same] at e
      exact nt ps (Option.some.inj e)
    · rw [upd_ne ha] at e
      exact o.ntb a ps e
  · have ha : a ≠ p := ne_of_none h3 hp
    exact ⟨(upd_ne ha).trans h3, by rw [upd_ne ha]; exact h2⟩
/-- a new object of the store -/
theorem Ok.put {K : PySem.W.Frag} {B H : Hp} {θ : List Addr} {μ : Mu} (o : Ok K B θ H μ) {p : Addr} {ob : HO} {m : MO} (hp : H p = none) (hm : RM K B (θ ++ [p]) (upd H p ob) p m) : Ok K B (θ ++ [p]) (upd H p ob) (μ ++ [m]) ∧ Gw B θ H B (θ ++ [p]) (upd H p ob) := by
  obtain ⟨n1, n2⟩ := o.fresh hp
  have ne : ∀ {a}, a ∈ θ → a ≠ p := fun {a} h z => n1 (z ▸ h)
  refine ⟨⟨o.ex.tr (Ex.new hp), by simp [o.len], ?_, fun k a m' h1 h2 => ?_, o.ntb⟩, ⟨Ex.rfl, List.prefix_append _ _, fun a h => ?_, fun a ob1 h1 h2 h3 _ => ?_⟩⟩
  · rw [List.nodup_append]
    refine ⟨o.nd, by simp, fun a ha b hb => ?_⟩
    have : b = p := by simpa using hb
    rw [this]
    exact ne ha
  · by_cases hk : k < θ.length
    · rw [List.getElem?_append_left hk] at h1
      rw [List.getElem?_append_left (by rw [← o.len]; exact hk)] at h2
      exact RM.mono Ex.rfl (List.prefix_append _ _) (upd_ne (ne (List.mem_of_getElem? h1))) (fun z => z) (o.mu k a m' h1 h2)
    · have hk' : θ.length ≤ k := by omega
      rw [List.getElem?_append_right hk'] at h1
      rw [List.getElem?_append_right (by rw [← o.len]; exact hk')] at h2
      have e0 : k - θ.length = 0 := by
        cases q : k - θ.length with
        | zero => rfl
        | succ n => rw [q] at h1; simp at h1
      rw [e0] at h1
      rw [← o.len, e0] at h2
      simp at h1 h2
      subst h1 h2
      exact hm
  · rcases List.mem_append.mp h with h | h
    · exact .inl h
    · have : a = p := by simpa using h
      rw [this]
      exact .inr fun _ o e => absurd e (by rw [hp]; exact fun z => nomatch z)
  · have ha : a ≠ p := ne_of_none h3 hp
    exact ⟨(upd_ne ha).trans h3, h2⟩
/-- an object of the store is written -/
theorem Ok.write {K : PySem.W.Frag} {B H : Hp} {θ : List Addr} {μ : Mu} (o : Ok K B θ H μ) {k : Nat} {a : Addr} {ob : HO} {m : MO} (hk : θ[k]? = some a) (hb : B a = none) (hm : RM K B θ (upd H a ob) a m) : Ok K B θ (upd H a ob) (μ.set k m) ∧ Gw B θ H B θ (upd H a ob) := by
  have hlt : k < θ.length := (List.getElem?_eq_some_iff.mp hk).1
  refine ⟨⟨fun b u e => ?_, by simp [o.len], o.nd, fun j b m' h1 h2 => ?_, o.ntb⟩, ⟨Ex.rfl, List.prefix_rfl, fun b h => .inl h, fun b ob1 h1 h2 h3 _ => ?_⟩⟩
  · rw [upd_ne (ne_of_none e hb)]
    exact o.ex b u e
  · by_cases hj : j = k
    · subst hj
      rw [hk] at h1
      cases h1
      rw [List.getElem?_set_self (by rw [← o.len]; exact hlt)] at h2
      cases h2
      exact hm
    · rw [List.getElem?_set_ne (Ne.symm hj)] at h2
      have hne : b ≠ a := fun z => hj (by
        subst z
        obtain ⟨l1, e1⟩ := List.getElem?_eq_some_iff.mp h1
        obtain ⟨l2, e2⟩ := List.getElem?_eq_some_iff.mp hk
        exact (List.getElem_inj o.nd).mp (e1.trans e2.symm))
      exact RM.mono Ex.rfl List.prefix_rfl (upd_ne hne) (fun z => z) (o.mu j b m' h1 h2)
  · have hne : b ≠ a := fun z => h1 (z ▸ List.mem_of_getElem? hk)
    exact ⟨(upd_ne hne).trans h3, h2⟩
end DL

/-! DLb: the judgements; names, constants, operators, displays, subscripts. -/
namespace DL
open PySem L2

abbrev EQ := Va → Mu → Prop
abbrev ET := Es → Mu → EQ → Prop
abbrev TQ := Bool → Mu → Prop
abbrev TTd := Es → Mu → TQ → Prop
abbrev AQ := List Va → Mu → Prop
abbrev ATd := Es → Mu → AQ → Prop
/-- where a def began -/
structure Anc where
  B : Hp
  θ : List Addr
  H : Hp
abbrev Rch (Z : Anc) (B : Hp) (θ : List Addr) (H : Hp) : Prop := Gw Z.B Z.θ Z.H B θ H
def Fo (K : PySem.W.Frag) (B : Hp) (θ : List Addr) (H : Hp) (Q : EQ) (Q' : VK) : Prop :=
  ∀ v B' θ' H' u μ', Q v μ' → Gw B θ H B' θ' H' → Ok K B' θ' H' μ' → RV K B' θ' v u → Q' u H'
def FoT (K : PySem.W.Frag) (B : Hp) (θ : List Addr) (H : Hp) (Q : TQ) (Q' : Bool → Hp → Prop) : Prop :=
  ∀ b B' θ' H' μ', Q b μ' → Gw B θ H B' θ' H' → Ok K B' θ' H' μ' → Q' b H'
def FoA (K : PySem.W.Frag) (B : Hp) (θ : List Addr) (H : Hp) (Q : AQ) (Q' : List V → Hp → Prop) : Prop :=
  ∀ vs B' θ' H' us μ', Q vs μ' → Gw B θ H B' θ' H' → Ok K B' θ' H' μ' → RVs K B' θ' vs us → Q' us H'
theorem Fo.tr {K : PySem.W.Frag} {B B1 H H1 : Hp} {θ θ1 : List Addr} {Q : EQ} {Q' : VK} (f : Fo K B θ H Q Q') (g : Gw B θ H B1 θ1 H1) : Fo K B1 θ1 H1 Q Q' :=
  fun v B' θ' H' u μ' q g' o r => f v B' θ' H' u μ' q (g.tr g') o r
theorem FoT.tr {K : PySem.W.Frag} {B B1 H H1 : Hp} {θ θ1 : List Addr} {Q : TQ} {Q' : Bool → Hp → Prop} (f : FoT K B θ H Q Q') (g : Gw B θ H B1 θ1 H1) : FoT K B1 θ1 H1 Q Q' :=
  fun v B' θ' H' μ' q g' o => f v B' θ' H' μ' q (g.tr g') o
theorem FoA.tr {K : PySem.W.Frag} {B B1 H H1 : Hp} {θ θ1 : List Addr} {Q : AQ} {Q' : List V → Hp → Prop} (f : FoA K B θ H Q Q') (g : Gw B θ H B1 θ1 H1) : FoA K B1 θ1 H1 Q Q' :=
  fun v B' θ' H' u μ' q g' o r => f v B' θ' H' u μ' q (g.tr g') o r
theorem Fo.here {K : PySem.W.Frag} {B H : Hp} {θ : List Addr} {μ : Mu} {Q : EQ} {Q' : VK} {v : Va} {u : V} (f : Fo K B θ H Q Q') (q : Q v μ) (o : Ok K B θ H μ) (r : RV K B θ v u) : Q' u H := f v B θ H u μ q Gw.rfl o r

def EW (K : PySem.W.Frag) (Z : Anc) (t : TE) (es : Es) (μ : Mu) (Q : EQ) : Prop := ∀ B θ σ H, Ok K B θ H μ → EnvOk K B θ es σ → Rch Z B θ H → ∀ Q' : VK, Fo K B θ H Q Q' → t σ H Q'
def TW (K : PySem.W.Frag) (Z : Anc) (t : TT) (es : Es) (μ : Mu) (Q : TQ) : Prop := ∀ B θ σ H, Ok K B θ H μ → EnvOk K B θ es σ → Rch Z B θ H → ∀ Q' : Bool → Hp → Prop, FoT K B θ H Q Q' → t σ H Q'
def AW (K : PySem.W.Frag) (Z : Anc) (t : TA) (es : Es) (μ : Mu) (Q : AQ) : Prop := ∀ B θ σ H, Ok K B θ H μ → EnvOk K B θ es σ → Rch Z B θ H → ∀ Q' : List V → Hp → Prop, FoA K B θ H Q Q' → t σ H Q'

/-- an expression, a test, an argument list, by what they do to data -/
structure DE (X : Cx) (Z : Anc) (e : Expr) (T : ET) : Prop where
  ex : ∃ t, PE X e t ∧ ∀ es μ Q, T es μ Q → EW X.K Z t es μ Q
structure DT (X : Cx) (Z : Anc) (e : Expr) (T : TTd) : Prop where
  ex : ∃ t, PT X e t ∧ ∀ es μ Q, T es μ Q → TW X.K Z t es μ Q
structure DW (X : Cx) (Z : Anc) (e : Expr) (T : TTd) : Prop where
  ex : ∃ t, PW X e t ∧ ∀ es μ Q, T es μ Q → TW X.K Z t es μ Q
structure DA (X : Cx) (Z : Anc) (e : List Expr) (T : ATd) : Prop where
  ex : ∃ t, PA X e t ∧ ∀ es μ Q, T es μ Q → AW X.K Z t es μ Q

/-! ### names, constants -/
def dVar (i : Nat) : ET := fun es μ Q => match es[i]? with
  | some (some v) => Q v μ
  | _ => False
def dC (x : D) : ET := fun _ μ Q => Q (.d x) μ
section
variable {X : Cx} {Z : Anc}
theorem de_var (i : Nat) {x : Str} {pos : Pos} (hN : X.N[i]? = some x := by rfl) (hv : Vis X.env.scope x := by first | exact Or.inl rfl | exact Or.inr (Or.inl rfl) | exact Or.inr (Or.inr rfl)) (hd : (x == ("__debug__" : Str)) = false := by decide)
    (hcd : (x == ("__classdict__" : Str)) = false := by decide) : DE X Z (.Name x pos) (dVar i) := by
  refine ⟨_, pe_var hN hv hd hcd, fun es μ Q h B θ σ H o en _ Q' f => ?_⟩
  unfold dVar at h
  split at h
  · rename_i v e
    obtain ⟨u, h1, h2⟩ := en.at_ i v e
    exact ⟨u, h1, f.here h o h2⟩
  · exact h.elim
theorem de_tC {e : Expr} {x : D} {v : V} (p : PE X e (tC v)) (r : ∀ B, R X.K B x v) : DE X Z e (dC x) :=
  ⟨_, p, fun es μ Q h B θ σ H o en _ Q' f => f.here (v := .d x) h o (r B)⟩
theorem de_int {i j pos} : DE X Z (.Constant (.int i) j pos) (dC (.int i)) := de_tC pe_int fun _ => rfl
theorem de_bl {b j pos} : DE X Z (.Constant (.bool b) j pos) (dC (.bl b)) := de_tC pe_bl fun _ => rfl
theorem de_non {j pos} : DE X Z (.Constant .none j pos) (dC .non) := de_tC pe_non fun _ => rfl
theorem de_str {x j pos} : DE X Z (.Constant (.str x) j pos) (dC (.str x)) := de_tC pe_str fun _ => rfl
/-- a module's name: an int, a def, a class -/
theorem de_glob {x : Str} {v : V} {u : Value} {d : D} {pos : Pos} (hm : X.mg x = some u) (r : RelV v u) (rd : ∀ B, R X.K B d v) (hg : Gl X x := by rfl) (hd : (x == ("__debug__" : Str)) = false := by decide) : DE X Z (.Name x pos) (dC d) := de_tC (pe_glob hg hm r hd) rd
theorem de_globI {x : Str} {i : Int} {pos : Pos} (hm : ∃ t, X.mg x = some (.int i t)) (hg : Gl X x := by rfl) (hd : (x == ("__debug__" : Str)) = false := by decide) : DE X Z (.Name x pos) (dC (.int i)) := by
  obtain ⟨t, hm⟩ := hm
  exact de_glob (v := .int i) hm ⟨t, rfl⟩ (fun _ => rfl) hg hd
theorem de_globR {x : Str} {a : Addr} {pos : Pos} (hm : X.mg x = some (.ref a)) (hg : Gl X x := by rfl) (hd : (x == ("__debug__" : Str)) = false := by decide) : DE X Z (.Name x pos) (dC (.raw (.ref a))) :=
  de_glob (v := .ref a) hm rfl (fun _ => rfl) hg hd
theorem de_bltT {x : Str} {n : String} {pos : Pos} (hm : X.mg x = none) (hv : bootBuiltins x = some (.type n)) (hg : Gl X x := by rfl) (hn : x ≠ "__name__" := by decide) (hd : (x == ("__debug__" : Str)) = false := by decide) : DE X Z (.Name x pos) (dC (.raw (.ty n))) :=
  de_tC (pe_bltn (v := .ty n) hg hm hv rfl hn hd) fun _ => rfl

/-! ### arguments -/
def dNil : ATd := fun _ μ Q => Q [] μ
def dCons (Ta : ET) (Tr : ATd) : ATd := fun es μ Q => Ta es μ fun v μ1 => Tr es μ1 fun vs μ2 => Q (v :: vs) μ2
theorem da_nil : DA X Z [] dNil := ⟨_, pa_nil, fun es μ Q h B θ σ H o en _ Q' f => f [] B θ H [] μ h Gw.rfl o .nil⟩
theorem da_cons {e : Expr} {es : List Expr} {Ta : ET} {Tr : ATd} (ha : DE X Z e Ta) (hr : DA X Z es Tr) (hs : starEach (e :: es) X.env = (false, eval e X.env) :: starEach es X.env := by rfl) : DA X Z (e :: es) (dCons Ta Tr) := by
  obtain ⟨ta, pa, wa⟩ := ha
  obtain ⟨tr, pr, wr⟩ := hr
  refine ⟨_, pa_cons pa pr hs, fun es μ Q h B θ σ H o en z Q' f => ?_⟩
  refine wa es μ _ h B θ σ H o en z _ fun v B1 θ1 H1 u μ1 q g1 o1 r1 => ?_
  refine wr es μ1 _ q B1 θ1 σ H1 o1 (en.mono g1.ex g1.pre) (z.tr g1) _ fun vs B2 θ2 H2 us μ2 q2 g2 o2 r2 => ?_
  exact f (v :: vs) B2 θ2 H2 (u :: us) μ2 q2 (g1.tr g2) o2 (.cons (RV.mono g2.ex g2.pre r1) r2)

/-! ### two-place operators -/
abbrev F2 := Va → Va → Mu → EQ → Prop
def OW (K : PySem.W.Frag) (r : R2) (f : F2) : Prop := ∀ v w μ Q, f v w μ Q → ∀ B θ H x y, Ok K B θ H μ → RV K B θ v x → RV K B θ w y → ∀ Q' : VK, Fo K B θ H Q Q' → r x y H Q'
/-- an operation on values, told on data -/
def DO2 (X : Cx) (f : Value → Value → Sem Value) (g : F2) : Prop := ∃ r, OpR X f r ∧ OW X.K r g
theorem DO2.or {f : Value → Value → Sem Value} {g g' : F2} (h : DO2 X f g) (h' : DO2 X f g') : DO2 X f (fun v w μ Q => g v w μ Q ∨ g' v w μ Q) := by
  obtain ⟨r, o, w⟩ := h
  obtain ⟨r', o', w'⟩ := h'
  refine ⟨_, OpR.or o o', fun v u μ Q q B θ H x y ok rx ry Q' f => ?_⟩
  rcases q with q | q
  · exact .inl (w v u μ Q q B θ H x y ok rx ry Q' f)
  · exact .inr (w' v u μ Q q B θ H x y ok rx ry Q' f)
theorem DO2.imp {f : Value → Value → Sem Value} {g g' : F2} (h : DO2 X f g) (i : ∀ v w μ Q, g' v w μ Q → g v w μ Q) : DO2 X f g' := by
  obtain ⟨r, o, w⟩ := h
  exact ⟨r, o, fun v u μ Q q => w v u μ Q (i _ _ _ _ q)⟩
def dOp (f : F2) (Ta Tb : ET) : ET := fun es μ Q => Ta es μ fun v μ1 => Tb es μ1 fun w μ2 => f v w μ2 Q
theorem bin2 {ta tb : TE} {Ta Tb : ET} {r : R2} {f : F2} {es : Es} {μ : Mu} {Q : EQ} (wa : ∀ es μ Q, Ta es μ Q → EW X.K Z ta es μ Q) (wb : ∀ es μ Q, Tb es μ Q → EW X.K Z tb es μ Q) (wo : OW X.K r f) (h : dOp f Ta Tb es μ Q) : EW X.K Z (tOp r ta tb) es μ Q := by
  intro B θ σ H o en z Q' fo
  refine wa es μ _ h B θ σ H o en z _ fun v B1 θ1 H1 u μ1 q g1 o1 r1 => ?_
  refine wb es μ1 _ q B1 θ1 σ H1 o1 (en.mono g1.ex g1.pre) (z.tr g1) _ fun w B2 θ2 H2 y μ2 q2 g2 o2 r2 => ?_
  exact wo v w μ2 Q q2 B2 θ2 H2 u y o2 (RV.mono g2.ex g2.pre r1) r2 Q' ((fo.tr g1).tr g2)
section
variable {a b c : Expr} {Ta Tb Tc : ET} {pos : Pos}
theorem de_bin {op : Operator} {f : F2} (ho : DO2 X (binaryOp op) f) (ha : DE X Z a Ta) (hb : DE X Z b Tb) : DE X Z (.BinOp a op b pos) (dOp f Ta Tb) := by
  obtain ⟨ta, pa, wa⟩ := ha
  obtain ⟨tb, pb, wb⟩ := hb
  obtain ⟨r, o, wo⟩ := ho
  exact ⟨_, pe_op o pa pb, fun es μ Q h => bin2 wa wb wo h⟩
theorem de_cmp {op : CmpOp} {f : F2} (ho : DO2 X (compareOp op) f) (ha : DE X Z a Ta) (hb : DE X Z b Tb) (hm : behindInMarks op b = false := by first | exact nobehind _ (by decide) (by decide) | rfl) : DE X Z (.Compare a [op] [b] pos) (dOp f Ta Tb) := by
  obtain ⟨ta, pa, wa⟩ := ha
  obtain ⟨tb, pb, wb⟩ := hb
  obtain ⟨r, o, wo⟩ := ho
  exact ⟨_, pe_cmpR o pa pb hm, fun es μ Q h => bin2 wa wb wo h⟩
/-- a bool as a test -/
def dTest (T : ET) : TTd := fun es μ Q => T es μ fun v μ1 => match v with
  | .d (.bl b) => Q b μ1
  | _ => False
theorem dt_cmp {op : CmpOp} {f : F2} (ho : DO2 X (compareOp op) f) (ha : DE X Z a Ta) (hb : DE X Z b Tb) (hm : behindInMarks op b = false := by first | exact nobehind _ (by decide) (by decide) | rfl) : DT X Z (.Compare a [op] [b] pos) (dTest (dOp f Ta Tb)) := by
  obtain ⟨ta, pa, wa⟩ := ha
  obtain ⟨tb, pb, wb⟩ := hb
  obtain ⟨r, o, wo⟩ := ho
  refine ⟨_, pt_cmpR o pa pb hm, fun es μ Q h B θ σ H ok en z Q' fo => ?_⟩
  refine bin2 wa wb wo h B θ σ H ok en z _ fun v B1 θ1 H1 u μ1 q g1 o1 r1 => ?_
  dsimp only at q
  split at q
  · exact ⟨_, r1, fo _ B1 θ1 H1 μ1 q g1 o1⟩
  · exact q.elim
theorem dt_val {e : Expr} {T : ET} (h : DE X Z e T) (he : ∀ whole, isTrue e X.env whole = (do let v ← whole; standAt e.pos; holding [v] (truthy v)) := by intro _; rfl) : DT X Z e (dTest T) := by
  obtain ⟨t, p, w⟩ := h
  refine ⟨_, pt_val p he, fun es μ Q h B θ σ H ok en z Q' fo => ?_⟩
  refine w es μ _ h B θ σ H ok en z _ fun v B1 θ1 H1 u μ1 q g1 o1 r1 => ?_
  dsimp only at q
  split at q
  · exact ⟨_, r1, fo _ B1 θ1 H1 μ1 q g1 o1⟩
  · exact q.elim
/-! ### and, or, not, if -/
def dAnd (T U : TTd) : TTd := fun es μ Q => T es μ fun b μ1 => if b = true then U es μ1 Q else Q false μ1
def dOr (T U : TTd) : TTd := fun es μ Q => T es μ fun b μ1 => if b = true then Q true μ1 else U es μ1 Q
def dNot (T : TTd) : TTd := fun es μ Q => T es μ fun b μ1 => Q (!b) μ1
theorem DW.dt {e : Expr} {T : TTd} (h : DW X Z e T) : DT X Z e T := let ⟨t, p, w⟩ := h; ⟨t, p.pt, w⟩
theorem dw_and1 {T : TTd} (h : DT X Z a T) : DW X Z (.BoolOp .And [a] pos) T := let ⟨t, p, w⟩ := h; ⟨t, pw_and1 p, w⟩
theorem dw_or1 {T : TTd} (h : DT X Z a T) : DW X Z (.BoolOp .Or [a] pos) T := let ⟨t, p, w⟩ := h; ⟨t, pw_or1 p, w⟩
theorem dw_and {T U : TTd} {rest : List Expr} (h : DT X Z a T) (h2 : DW X Z (.BoolOp .And (b :: rest) pos) U) : DW X Z (.BoolOp .And (a :: b :: rest) pos) (dAnd T U) := by
  obtain ⟨t, p, w⟩ := h
  obtain ⟨t2, p2, w2⟩ := h2
  refine ⟨_, pw_and p p2, fun es μ Q h B θ σ H ok en z Q' fo => ?_⟩
  refine w es μ _ h B θ σ H ok en z _ fun c B1 θ1 H1 μ1 q g1 o1 => ?_
  cases c with
  | true => exact w2 es μ1 Q q B1 θ1 σ H1 o1 (en.mono g1.ex g1.pre) (z.tr g1) Q' (fo.tr g1)
  | false => exact fo _ B1 θ1 H1 μ1 q g1 o1
theorem dw_or {T U : TTd} {rest : List Expr} (h : DT X Z a T) (h2 : DW X Z (.BoolOp .Or (b :: rest) pos) U) : DW X Z (.BoolOp .Or (a :: b :: rest) pos) (dOr T U) := by
  obtain ⟨t, p, w⟩ := h
  obtain ⟨t2, p2, w2⟩ := h2
  refine ⟨_, pw_or p p2, fun es μ Q h B θ σ H ok en z Q' fo => ?_⟩
  refine w es μ _ h B θ σ H ok en z _ fun c B1 θ1 H1 μ1 q g1 o1 => ?_
  cases c with
  | true => exact fo _ B1 θ1 H1 μ1 q g1 o1
  | false => exact w2 es μ1 Q q B1 θ1 σ H1 o1 (en.mono g1.ex g1.pre) (z.tr g1) Q' (fo.tr g1)
theorem dt_not {T : TTd} (h : DT X Z a T) : DT X Z (.UnaryOp .Not a pos) (dNot T) := by
  obtain ⟨t, p, w⟩ := h
  refine ⟨_, pt_not p, fun es μ Q h B θ σ H ok en z Q' fo => ?_⟩
  exact w es μ _ h B θ σ H ok en z _ fun c B1 θ1 H1 μ1 q g1 o1 => fo _ B1 θ1 H1 μ1 q g1 o1
/-- as values -/
def dAndV (T U : ET) : ET := fun es μ Q => T es μ fun v μ1 => match v with
  | .d (.bl b) => if b = true then U es μ1 Q else Q (.d (.bl false)) μ1
  | _ => False
def dOrV (T U : ET) : ET := fun es μ Q => T es μ fun v μ1 => match v with
  | .d (.bl b) => if b = true then Q (.d (.bl true)) μ1 else U es μ1 Q
  | _ => False
def dNotV (T : ET) : ET := fun es μ Q => T es μ fun v μ1 => match v with
  | .d (.bl b) => Q (.d (.bl (!b))) μ1
  | _ => False
theorem de_one {op : PySem.BoolOp} {T : ET} (h : DE X Z a T) : DE X Z (.BoolOp op [a] pos) T := let ⟨t, p, w⟩ := h; ⟨t, pe_one p, w⟩
theorem de_and {T U : ET} {rest : List Expr} (h : DE X Z a T) (h2 : DE X Z (.BoolOp .And (b :: rest) pos) U) : DE X Z (.BoolOp .And (a :: b :: rest) pos) (dAndV T U) := by
  obtain ⟨t, p, w⟩ := h
  obtain ⟨t2, p2, w2⟩ := h2
  refine ⟨_, pe_and p p2, fun es μ Q h B θ σ H ok en z Q' fo => ?_⟩
  refine w es μ _ h B θ σ H ok en z _ fun v B1 θ1 H1 u μ1 q g1 o1 r1 => ?_
  dsimp only at q
  split at q
  · rename_i c
    refine ⟨c, r1, ?_⟩
    cases c with
    | true => exact w2 es μ1 Q q B1 θ1 σ H1 o1 (en.mono g1.ex g1.pre) (z.tr g1) Q' (fo.tr g1)
    | false => exact fo (.d (.bl false)) B1 θ1 H1 _ μ1 q g1 o1 rfl
  · exact q.elim
theorem de_or {T U : ET} {rest : List Expr} (h : DE X Z a T) (h2 : DE X Z (.BoolOp .Or (b :: rest) pos) U) : DE X Z (.BoolOp .Or (a :: b :: rest) pos) (dOrV T U) := by
  obtain ⟨t, p, w⟩ := h
  obtain ⟨t2, p2, w2⟩ := h2
  refine ⟨_, pe_or p p2, fun es μ Q h B θ σ H ok en z Q' fo => ?_⟩
  refine w es μ _ h B θ σ H ok en z _ fun v B1 θ1 H1 u μ1 q g1 o1 r1 => ?_
  dsimp only at q
  split at q
  · rename_i c
    refine ⟨c, r1, ?_⟩
    cases c with
    | true => exact fo (.d (.bl true)) B1 θ1 H1 _ μ1 q g1 o1 rfl
    | false => exact w2 es μ1 Q q B1 θ1 σ H1 o1 (en.mono g1.ex g1.pre) (z.tr g1) Q' (fo.tr g1)
  · exact q.elim
theorem de_not {T : ET} (h : DE X Z a T) : DE X Z (.UnaryOp .Not a pos) (dNotV T) := by
  obtain ⟨t, p, w⟩ := h
  refine ⟨_, pe_not p, fun es μ Q h B θ σ H ok en z Q' fo => ?_⟩
  refine w es μ _ h B θ σ H ok en z _ fun v B1 θ1 H1 u μ1 q g1 o1 r1 => ?_
  dsimp only at q
  split at q
  · exact ⟨_, r1, fo _ B1 θ1 H1 _ μ1 q g1 o1 rfl⟩
  · exact q.elim
def dIfE (T : TTd) (Ta Tb : ET) : ET := fun es μ Q => T es μ fun b μ1 => if b = true then Ta es μ1 Q else Tb es μ1 Q
theorem de_ifE {T : TTd} (h : DT X Z c T) (ha : DE X Z a Ta) (hb : DE X Z b Tb) : DE X Z (.IfExp c a b pos) (dIfE T Ta Tb) := by
  obtain ⟨t, p, w⟩ := h
  obtain ⟨ta, pa, wa⟩ := ha
  obtain ⟨tb, pb, wb⟩ := hb
  refine ⟨_, pe_ifExp p pa pb, fun es μ Q h B θ σ H ok en z Q' fo => ?_⟩
  refine w es μ _ h B θ σ H ok en z _ fun c B1 θ1 H1 μ1 q g1 o1 => ?_
  cases c with
  | true => exact wa es μ1 Q q B1 θ1 σ H1 o1 (en.mono g1.ex g1.pre) (z.tr g1) Q' (fo.tr g1)
  | false => exact wb es μ1 Q q B1 θ1 σ H1 o1 (en.mono g1.ex g1.pre) (z.tr g1) Q' (fo.tr g1)
/-- a < b <= c -/
def dChain (f g : F2) (Ta Tb Tc : ET) : ET := fun es μ Q => Ta es μ fun v μ1 => Tb es μ1 fun w μ2 => f v w μ2 fun z μ3 => match z with
  | .d (.bl b) => if b = true then Tc es μ3 fun y μ4 => g w y μ4 Q else Q (.d (.bl false)) μ3
  | _ => False
theorem de_chain {op op' : CmpOp} {f g : F2} (ho : DO2 X (compareOp op) f) (ho' : DO2 X (compareOp op') g) (ha : DE X Z a Ta) (hb : DE X Z b Tb) (hc : DE X Z c Tc) (hm : lastMarks [op, op'] [b, c] = false := by with_unfolding_all rfl) :
    DE X Z (.Compare a [op, op'] [b, c] pos) (dChain f g Ta Tb Tc) := by
  obtain ⟨ta, pa, wa⟩ := ha
  obtain ⟨tb, pb, wb⟩ := hb
  obtain ⟨tc, pc, wc⟩ := hc
  obtain ⟨r, o, wo⟩ := ho
  obtain ⟨r', o', wo'⟩ := ho'
  refine ⟨_, pe_chain o o' pa pb pc hm, fun es μ Q h B θ σ H ok en z Q' fo => ?_⟩
  refine wa es μ _ h B θ σ H ok en z _ fun v B1 θ1 H1 u μ1 q g1 o1 r1 => ?_
  refine wb es μ1 _ q B1 θ1 σ H1 o1 (en.mono g1.ex g1.pre) (z.tr g1) _ fun w B2 θ2 H2 y μ2 q2 g2 o2 r2 => ?_
  refine wo v w μ2 _ q2 B2 θ2 H2 u y o2 (RV.mono g2.ex g2.pre r1) r2 _ fun k B3 θ3 H3 uk μ3 q3 g3 o3 r3 => ?_
  have g13 := (g1.tr g2).tr g3
  dsimp only at q3
  split at q3
  · rename_i bb
    refine ⟨bb, r3, ?_⟩
    cases bb with
    | true =>
      refine wc es μ3 _ q3 B3 θ3 σ H3 o3 (en.mono g13.ex g13.pre) (z.tr g13) _ fun w4 B4 θ4 H4 y4 μ4 q4 g4 o4 r4 => ?_
      exact wo' w w4 μ4 Q q4 B4 θ4 H4 y y4 o4 (RV.mono (g3.tr g4).ex (g3.tr g4).pre r2) r4 Q' (fo.tr (g13.tr g4))
    | false => exact fo (.d (.bl false)) B3 θ3 H3 _ μ3 q3 g13 o3 rfl
  · exact q3.elim
theorem DE.pt {e : Expr} {T : ET} (h : DE X Z e T) (he : ∀ whole, isTrue e X.env whole = (do let v ← whole; standAt e.pos; holding [v] (truthy v)) := by intro _; rfl) : DT X Z e (dTest T) := dt_val h he
theorem dt_chain {op op' : CmpOp} {f g : F2} (ho : DO2 X (compareOp op) f) (ho' : DO2 X (compareOp op') g) (ha : DE X Z a Ta) (hb : DE X Z b Tb) (hc : DE X Z c Tc) (hm : lastMarks [op, op'] [b, c] = false := by with_unfolding_all rfl) :
    DT X Z (.Compare a [op, op'] [b, c] pos) (dTest (dChain f g Ta Tb Tc)) := by
  obtain ⟨ta, pa, wa⟩ := ha
  obtain ⟨tb, pb, wb⟩ := hb
  obtain ⟨tc, pc, wc⟩ := hc
  obtain ⟨r, o, wo⟩ := ho
  obtain ⟨r', o', wo'⟩ := ho'
  refine ⟨_, pt_chain o o' pa pb pc hm, fun es μ Q h B θ σ H ok en z Q' fo => ?_⟩
  refine wa es μ _ h B θ σ H ok en z _ fun v B1 θ1 H1 u μ1 q g1 o1 r1 => ?_
  refine wb es μ1 _ q B1 θ1 σ H1 o1 (en.mono g1.ex g1.pre) (z.tr g1) _ fun w B2 θ2 H2 y μ2 q2 g2 o2 r2 => ?_
  refine wo v w μ2 _ q2 B2 θ2 H2 u y o2 (RV.mono g2.ex g2.pre r1) r2 _ fun k B3 θ3 H3 uk μ3 q3 g3 o3 r3 => ?_
  have g13 := (g1.tr g2).tr g3
  dsimp only at q3
  split at q3
  · rename_i bb
    refine ⟨bb, r3, ?_⟩
    cases bb with
    | true =>
      refine wc es μ3 _ q3 B3 θ3 σ H3 o3 (en.mono g13.ex g13.pre) (z.tr g13) _ fun w4 B4 θ4 H4 y4 μ4 q4 g4 o4 r4 => ?_
      refine wo' w w4 μ4 _ q4 B4 θ4 H4 y y4 o4 (RV.mono (g3.tr g4).ex (g3.tr g4).pre r2) r4 _ fun k5 B5 θ5 H5 u5 μ5 q5 g5 o5 r5 => ?_
      dsimp only at q5
      split at q5
      · exact ⟨_, r5, fo _ B5 θ5 H5 μ5 q5 ((g13.tr g4).tr g5) o5⟩
      · exact q5.elim
    | false => exact ⟨false, rfl, fo false B3 θ3 H3 μ3 q3 g13 o3⟩
  · exact q3.elim
end
end
end DL

/-! DLc: what the operators do to data. -/
namespace DL
open PySem L2

def unD : List Va → Option (List D)
  | [] => some []
  | .d x :: r => (unD r).map (x :: ·)
  | .m _ :: _ => none
theorem unD_map : ∀ xs : List D, unD (xs.map .d) = some xs
  | [] => rfl
  | x :: xs => by
    show (unD (xs.map .d)).map (x :: ·) = some (x :: xs)
    rw [unD_map xs]
    rfl
theorem unD_eq : ∀ {ws : List Va} {xs : List D}, unD ws = some xs → ws = xs.map .d
  | [], xs, h => by
    have h : some [] = some xs := h
    injection h with h
    rw [← h]
    rfl
  | .d x :: r, xs, h => by
    have h : (unD r).map (x :: ·) = some xs := h
    cases e : unD r with
    | none => rw [e] at h; cases h
    | some ys =>
      rw [e] at h
      injection h with h
      rw [← h, unD_eq e]
      rfl
  | .m _ :: _, _, h => by cases h
/-- the items of a list, all data -/
def asL (μ : Mu) : Va → Option (List D)
  | .d (.lst xs) => some xs
  | .m k => match μ[k]? with
    | some (.lst xs) => unD xs
    | _ => none
  | _ => none
/-- the same to be read: also a list that is locked -/
def asR (μ : Mu) : Va → Option (List D)
  | .d (.lsk xs) => some xs
  | v => asL μ v
def asT : Va → Option (List D)
  | .d (.tup xs) => some xs
  | _ => none
/-- the items of a list or a tuple, whatever they are -/
def asV (μ : Mu) : Va → Option (List Va)
  | .d (.lst xs) => some (xs.map .d)
  | .d (.lsk xs) => some (xs.map .d)
  | .d (.tup xs) => some (xs.map .d)
  | .m k => match μ[k]? with
    | some (.lst xs) => some xs
    | _ => none
  | _ => none
section
variable {K : PySem.W.Frag} {B H : Hp} {θ : List Addr} {μ : Mu} {v : Va} {x : V}
theorem rl_of_rvs : ∀ {xs : List D} {vs : List V}, RVs K B θ (xs.map .d) vs → RL K B xs vs
  | [], _, .nil => RL.nil
  | x :: xs, _, .cons h r => .cons h (rl_of_rvs r)
theorem rvs_of_rl : ∀ {xs : List D} {vs : List V}, RL K B xs vs → RVs K B θ (xs.map .d) vs
  | [], vs, h => by
    have h : vs = [] := h
    rw [h]
    exact .nil
  | x :: xs, vs, h => by
    obtain ⟨v, ws, rfl, h1, h2⟩ := h
    exact .cons h1 (rvs_of_rl h2)
theorem asL_ok {xs : List D} (o : Ok K B θ H μ) (r : RV K B θ v x) (h : asL μ v = some xs) : ∃ a vs, x = .ref a ∧ H a = some (.lst vs) ∧ RL K B xs vs := by
  unfold asL at h
  split at h
  · injection h with h
    subst h
    obtain ⟨a, vs, e1, e2, e3⟩ := r
    exact ⟨a, vs, e1, o.ex _ _ e2, e3⟩
  · split at h
    · rename_i k _ ys e
      have e4 := unD_eq h
      obtain ⟨a, h1, h2⟩ := r
      have q := o.mu _ a _ h1 e
      obtain ⟨_, vs, h3, h4⟩ := q
      rw [e4] at h4
      exact ⟨a, vs, h2, h3, rl_of_rvs h4⟩
    · cases h
  · cases h
theorem asR_ok {xs : List D} (o : Ok K B θ H μ) (r : RV K B θ v x) (h : asR μ v = some xs) : ∃ a vs, x = .ref a ∧ SqL K H a vs ∧ RL K B xs vs := by
  unfold asR at h
  split at h
  · injection h with h
    subst h
    obtain ⟨a, vs, e1, e2, e3⟩ := r
    exact ⟨a, vs, e1, o.ex.sqL e2, e3⟩
  · obtain ⟨a, vs, e1, e2, e3⟩ := asL_ok o r h
    exact ⟨a, vs, e1, .of e2, e3⟩
theorem asT_ok {xs : List D} (o : Ok K B θ H μ) (r : RV K B θ v x) (h : asT v = some xs) : ∃ a vs, x = .ref a ∧ SqT K H a vs ∧ RL K B xs vs := by
  unfold asT at h
  split at h
  · injection h with h
    subst h
    obtain ⟨a, vs, e1, e2, e3⟩ := r
    exact ⟨a, vs, e1, o.ex.sqT e2, e3⟩
  · cases h
theorem asV_ok {xs : List Va} (o : Ok K B θ H μ) (r : RV K B θ v x) (h : asV μ v = some xs) : ∃ a vs, x = .ref a ∧ (SqL K H a vs ∨ SqT K H a vs) ∧ RVs K B θ xs vs := by
  unfold asV at h
  split at h
  · injection h with h
    subst h
    obtain ⟨a, vs, e1, e2, e3⟩ := r
    exact ⟨a, vs, e1, .inl (.of (o.ex _ _ e2)), rvs_of_rl e3⟩
  · injection h with h
    subst h
    obtain ⟨a, vs, e1, e2, e3⟩ := r
    exact ⟨a, vs, e1, .inl (o.ex.sqL e2), rvs_of_rl e3⟩
  · injection h with h
    subst h
    obtain ⟨a, vs, e1, e2, e3⟩ := r
    exact ⟨a, vs, e1, .inr (o.ex.sqT e2), rvs_of_rl e3⟩
  · split at h
    · rename_i k _ ys e
      injection h with h
      subst h
      obtain ⟨a, h1, h2⟩ := r
      obtain ⟨_, vs, h3, h4⟩ := o.mu _ a _ h1 e
      exact ⟨a, vs, h2, .inl (.of h3), h4⟩
    · cases h
  · cases h
/-- a new list, a new tuple of data -/
theorem new_lst {Q : EQ} {Q' : VK} {xs : List D} {vs : List V} (o : Ok K B θ H μ) (f : Fo K B θ H Q Q') (q : Q (.d (.lst xs)) μ) (r : RL K B xs vs) : ∀ p, H p = none → Q' (.ref p) (upd H p (.lst vs)) := fun p hp => by
  obtain ⟨o1, g1⟩ := o.lay (ob := .lst vs) hp (fun _ z => nomatch z)
  exact f (.d (.lst xs)) _ θ _ _ μ q g1 o1 ⟨p, vs, rfl, upd_same, RL.mono g1.ex xs r⟩
theorem new_tup {Q : EQ} {Q' : VK} {xs : List D} {vs : List V} (o : Ok K B θ H μ) (f : Fo K B θ H Q Q') (q : Q (.d (.tup xs)) μ) (r : RL K B xs vs) : ∀ p, H p = none → Q' (.ref p) (upd H p (.tup vs)) := fun p hp => by
  obtain ⟨o1, g1⟩ := o.lay (ob := .tup vs) hp (fun _ z => nomatch z)
  exact f (.d (.tup xs)) _ θ _ _ μ q g1 o1 ⟨p, vs, rfl, .of upd_same, RL.mono g1.ex xs r⟩
/-- a new list of the store -/
theorem new_lstM {Q : EQ} {Q' : VK} {xs : List Va} {vs : List V} (o : Ok K B θ H μ) (f : Fo K B θ H Q Q') (q : Q (.m μ.length) (μ ++ [.lst xs])) (r : RVs K B θ xs vs) : ∀ p, H p = none → Q' (.ref p) (upd H p (.lst vs)) := fun p hp => by
  obtain ⟨o1, g1⟩ := o.put (m := .lst xs) (ob := .lst vs) hp ⟨(o.fresh hp).2, vs, upd_same, RVs.mono Ex.rfl (List.prefix_append _ _) r⟩
  refine f (.m μ.length) B _ _ _ _ q g1 o1 ⟨p, ?_, rfl⟩
  rw [← o.len, List.getElem?_append_right (Nat.le_refl _)]
  simp
end

/-! ### numbers -/
section
variable {X : Cx}
theorem do2_int {f : Value → Value → Sem Value} {C : Int → Int → Prop} {g : Int → Int → Int} (ho : OpR X f (rI C fun i j => .int (g i j))) : DO2 X f (fun v w μ Q => ∃ i j, v = .d (.int i) ∧ w = .d (.int j) ∧ C i j ∧ Q (.d (.int (g i j))) μ) :=
  ⟨_, ho, fun v w μ Q h B θ H x y o rx ry Q' fo => by
    obtain ⟨i, j, rfl, rfl, c, q⟩ := h
    exact ⟨i, j, rx, ry, c, fo.here (v := .d (.int (g i j))) q o rfl⟩⟩
theorem do2_int0 {f : Value → Value → Sem Value} {g : Int → Int → Int} (ho : OpR X f (rI0 fun i j => .int (g i j))) : DO2 X f (fun v w μ Q => ∃ i j, v = .d (.int i) ∧ w = .d (.int j) ∧ Q (.d (.int (g i j))) μ) :=
  ⟨_, ho, fun v w μ Q h B θ H x y o rx ry Q' fo => by
    obtain ⟨i, j, rfl, rfl, q⟩ := h
    exact ⟨i, j, rx, ry, fo.here (v := .d (.int (g i j))) q o rfl⟩⟩
theorem do2_cmp {f : Value → Value → Sem Value} {g : Int → Int → Bool} (ho : OpR X f (rI0 fun i j => .bl (g i j))) : DO2 X f (fun v w μ Q => ∃ i j, v = .d (.int i) ∧ w = .d (.int j) ∧ Q (.d (.bl (g i j))) μ) :=
  ⟨_, ho, fun v w μ Q h B θ H x y o rx ry Q' fo => by
    obtain ⟨i, j, rfl, rfl, q⟩ := h
    exact ⟨i, j, rx, ry, fo.here (v := .d (.bl (g i j))) q o rfl⟩⟩

def dPlus : F2 := fun v w μ Q => match v, w with
  | .d (.int i), .d (.int j) => Q (.d (.int (i + j))) μ
  | .d (.tup xs), .d (.tup ys) => xs.length + ys.length ≤ sizeLine ∧ Q (.d (.tup (xs ++ ys))) μ
  | .d (.str x), .d (.str y) => x.length + y.length ≤ sizeLine ∧ Q (.d (.str (x ++ y))) μ
  | _, _ => match asL μ v, asL μ w with
    | some xs, some ys => xs.length + ys.length ≤ sizeLine ∧ Q (.d (.lst (xs ++ ys))) μ
    | _, _ => False
theorem do_plusL : DO2 X (binaryOp .Add) (fun v w μ Q => ∃ xs ys, asL μ v = some xs ∧ asL μ w = some ys ∧ xs.length + ys.length ≤ sizeLine ∧ Q (.d (.lst (xs ++ ys))) μ) :=
  ⟨_, op_cat, fun v w μ Q h B θ H x y o rx ry Q' fo => by
    obtain ⟨xs, ys, e1, e2, hl, q⟩ := h
    obtain ⟨a, vs, rfl, h1, r1⟩ := asL_ok o rx e1
    obtain ⟨b, ws, rfl, h2, r2⟩ := asL_ok o ry e2
    exact ⟨a, b, vs, ws, rfl, rfl, h1, h2, by rw [← r1.len, ← r2.len]; exact hl, new_lst o fo q (r1.app r2)⟩⟩
theorem do_plusT : DO2 X (binaryOp .Add) (fun v w μ Q => ∃ xs ys, v = .d (.tup xs) ∧ w = .d (.tup ys) ∧ xs.length + ys.length ≤ sizeLine ∧ Q (.d (.tup (xs ++ ys))) μ) :=
  ⟨_, op_catA, fun v w μ Q h B θ H x y o rx ry Q' fo => by
    obtain ⟨xs, ys, rfl, rfl, hl, q⟩ := h
    obtain ⟨a, vs, rfl, h1, r1⟩ := rx
    obtain ⟨b, ws, rfl, h2, r2⟩ := ry
    refine ⟨a, b, vs, ws, rfl, rfl, o.ex.sqT h1, o.ex.sqT h2, by rw [← r1.len, ← r2.len]; exact hl, fun e => ?_, fun _ e => ?_, fun _ _ => new_tup o fo q (r1.app r2)⟩
    · have ex : xs = [] := List.eq_nil_of_length_eq_zero (by rw [r1.len, e]; rfl)
      rw [ex, List.nil_append] at q
      exact fo.here (v := .d (.tup ys)) q o ⟨b, ws, rfl, h2, r2⟩
    · have ey : ys = [] := List.eq_nil_of_length_eq_zero (by rw [r2.len, e]; rfl)
      rw [ey, List.append_nil] at q
      exact fo.here (v := .d (.tup xs)) q o ⟨a, vs, rfl, h1, r1⟩⟩
theorem do_plusS : DO2 X (binaryOp .Add) (fun v w μ Q => ∃ s t, v = .d (.str s) ∧ w = .d (.str t) ∧ s.length + t.length ≤ sizeLine ∧ Q (.d (.str (s ++ t))) μ) :=
  ⟨_, op_add_str, fun v w μ Q h B θ H x y o rx ry Q' fo => by
    obtain ⟨s, t, rfl, rfl, hl, q⟩ := h
    exact ⟨s, t, rx, ry, hl, fo.here (v := .d (.str (s ++ t))) q o rfl⟩⟩
theorem do_plus : DO2 X (binaryOp .Add) dPlus := by
  refine (((do2_int0 op_add).or do_plusT).or (do_plusS.or do_plusL)).imp fun v w μ Q h => ?_
  unfold dPlus at h
  split at h
  · exact .inl (.inl ⟨_, _, rfl, rfl, h⟩)
  · exact .inl (.inr ⟨_, _, rfl, rfl, h.1, h.2⟩)
  · exact .inr (.inl ⟨_, _, rfl, rfl, h.1, h.2⟩)
  · split at h
    · rename_i e1 e2
      exact .inr (.inr ⟨_, _, e1, e2, h.1, h.2⟩)
    · exact h.elim
def dMinus : F2 := fun v w μ Q => match v, w with
  | .d (.int i), .d (.int j) => Q (.d (.int (i - j))) μ
  | _, _ => False
theorem do_minus : DO2 X (binaryOp .Sub) dMinus := (do2_int0 op_sub).imp fun v w μ Q h => by
  unfold dMinus at h
  split at h
  · exact ⟨_, _, rfl, rfl, h⟩
  · exact h.elim
/-- a product: two numbers of together less than a million bits; a list or a tuple so many times -/
def dTimes : F2 := fun v w μ Q => match v, w with
  | .d (.int i), .d (.int j) => (CMul i j ∨ CMulW i j) ∧ Q (.d (.int (i * j))) μ
  | _, .d (.int k) => match asL μ v with
    | some xs => (0 ≤ k ∧ k < 2 ^ 63) ∧ xs.length * k.toNat ≤ sizeLine ∧ Q (.d (.lst (List.replicate k.toNat xs).flatten)) μ
    | none => False
  | _, _ => False
theorem rl_rep {K : PySem.W.Frag} {B : Hp} {xs : List D} {vs : List V} (r : RL K B xs vs) : ∀ n : Nat, RL K B (List.replicate n xs).flatten (List.replicate n vs).flatten
  | 0 => RL.nil
  | n + 1 => by
    rw [List.replicate_succ, List.replicate_succ, List.flatten_cons, List.flatten_cons]
    exact r.app (rl_rep r n)
theorem do_timesL : DO2 X (binaryOp .Mult) (fun v w μ Q => ∃ xs k, asL μ v = some xs ∧ w = .d (.int k) ∧ (0 ≤ k ∧ k < 2 ^ 63) ∧ xs.length * k.toNat ≤ sizeLine ∧ Q (.d (.lst (List.replicate k.toNat xs).flatten)) μ) :=
  ⟨_, op_rep, fun v w μ Q h B θ H x y o rx ry Q' fo => by
    obtain ⟨xs, k, e1, rfl, hk, hl, q⟩ := h
    obtain ⟨a, vs, rfl, h1, r1⟩ := asL_ok o rx e1
    exact ⟨a, k, vs, rfl, ry, h1, by omega, hk.2, by rw [← r1.len]; exact hl, new_lst o fo q (rl_rep r1 _)⟩⟩
theorem do_times : DO2 X (binaryOp .Mult) dTimes := by
  refine (((do2_int op_mul).or (do2_int op_mulW)).or do_timesL).imp fun v w μ Q h => ?_
  unfold dTimes at h
  split at h
  · rcases h with ⟨h1 | h1, h2⟩
    · exact .inl (.inl ⟨_, _, rfl, rfl, h1, h2⟩)
    · exact .inl (.inr ⟨_, _, rfl, rfl, h1, h2⟩)
  · split at h
    · rename_i e
      exact .inr ⟨_, _, e, rfl, h.1, h.2.1, h.2.2⟩
    · exact h.elim
  · exact h.elim
def dFdiv : F2 := fun v w μ Q => match v, w with
  | .d (.int i), .d (.int j) => CDivW i j ∧ Q (.d (.int (i / j))) μ
  | _, _ => False
theorem do_fdiv : DO2 X (binaryOp .FloorDiv) dFdiv := (do2_int op_fdivW).imp fun v w μ Q h => by
  unfold dFdiv at h
  split at h
  · exact ⟨_, _, rfl, rfl, h.1, h.2⟩
  · exact h.elim
def dMod : F2 := fun v w μ Q => match v, w with
  | .d (.int i), .d (.int j) => 0 < j ∧ Q (.d (.int (i % j))) μ
  | _, _ => False
theorem do_mod : DO2 X (binaryOp .Mod) dMod := (do2_int op_mod).imp fun v w μ Q h => by
  unfold dMod at h
  split at h
  · exact ⟨_, _, rfl, rfl, h.1, h.2⟩
  · exact h.elim
def dPow : F2 := fun v w μ Q => match v, w with
  | .d (.int i), .d (.int j) => CPow i j ∧ Q (.d (.int (i ^ j.toNat))) μ
  | _, _ => False
theorem do_pow : DO2 X (binaryOp .Pow) dPow := (do2_int op_pow).imp fun v w μ Q h => by
  unfold dPow at h
  split at h
  · exact ⟨_, _, rfl, rfl, h.1, h.2⟩
  · exact h.elim
def dLt : F2 := fun v w μ Q => match v, w with
  | .d (.int i), .d (.int j) => Q (.d (.bl (decide (i < j)))) μ
  | _, _ => False
def dLe : F2 := fun v w μ Q => match v, w with
  | .d (.int i), .d (.int j) => Q (.d (.bl (decide (i ≤ j)))) μ
  | _, _ => False
def dGt : F2 := fun v w μ Q => match v, w with
  | .d (.int i), .d (.int j) => Q (.d (.bl (decide (j < i)))) μ
  | _, _ => False
def dGe : F2 := fun v w μ Q => match v, w with
  | .d (.int i), .d (.int j) => Q (.d (.bl (decide (j ≤ i)))) μ
  | _, _ => False
theorem do_lt : DO2 X (compareOp .Lt) dLt := (do2_cmp op_lt).imp fun v w μ Q h => by
  unfold dLt at h
  split at h
  · exact ⟨_, _, rfl, rfl, h⟩
  · exact h.elim
theorem do_le : DO2 X (compareOp .LtE) dLe := (do2_cmp op_le).imp fun v w μ Q h => by
  unfold dLe at h
  split at h
  · exact ⟨_, _, rfl, rfl, h⟩
  · exact h.elim
theorem do_gt : DO2 X (compareOp .Gt) dGt := (do2_cmp op_gt).imp fun v w μ Q h => by
  unfold dGt at h
  split at h
  · exact ⟨_, _, rfl, rfl, h⟩
  · exact h.elim
theorem do_ge : DO2 X (compareOp .GtE) dGe := (do2_cmp op_ge).imp fun v w μ Q h => by
  unfold dGe at h
  split at h
  · exact ⟨_, _, rfl, rfl, h⟩
  · exact h.elim
end

/-! ### == -/
mutual
def toP : D → Option PyData
  | .non => some .none
  | .bl b => some (.bool b)
  | .int i => some (.int i)
  | .str s => some (.str s)
  | .lst xs => (toPs xs).map .list
  | .lsk xs => (toPs xs).map .list
  | .tup xs => (toPs xs).map .tuple
  | _ => none
def toPs : List D → Option (List PyData)
  | [] => some []
  | x :: xs => match toP x, toPs xs with
    | some p, some ps => some (p :: ps)
    | _, _ => none
end
mutual
theorem dp_of {K : PySem.W.Frag} {B : Hp} : ∀ (x : D) {p : PyData} {v : V}, toP x = some p → R K B x v → Dp K B v p
  | .non, p, v, h, r => by
    rw [toP] at h
    injection h with h
    subst h
    rw [show v = .non from r]
    exact .non
  | .bl b, p, v, h, r => by
    rw [toP] at h
    injection h with h
    subst h
    rw [show v = .bl b from r]
    exact .bl b
  | .int i, p, v, h, r => by
    rw [toP] at h
    injection h with h
    subst h
    rw [show v = .int i from r]
    exact .int i
  | .str s, p, v, h, r => by
    rw [toP] at h
    injection h with h
    subst h
    rw [show v = .str s from r]
    exact .str s
  | .lst xs, p, v, h, r => by
    rw [toP] at h
    obtain ⟨ps, e, rfl⟩ := Option.map_eq_some_iff.mp h
    obtain ⟨a, vs, rfl, h1, h2⟩ := r
    exact .lst (.of h1) (dps_of xs e h2)
  | .lsk xs, p, v, h, r => by
    rw [toP] at h
    obtain ⟨ps, e, rfl⟩ := Option.map_eq_some_iff.mp h
    obtain ⟨a, vs, rfl, h1, h2⟩ := r
    exact .lst h1 (dps_of xs e h2)
  | .tup xs, p, v, h, r => by
    rw [toP] at h
    obtain ⟨ps, e, rfl⟩ := Option.map_eq_some_iff.mp h
    obtain ⟨a, vs, rfl, h1, h2⟩ := r
    exact .tup h1 (dps_of xs e h2)
  | .raw _, p, v, h, r => by
    simp [toP] at h
  | .dic _ _, p, v, h, r => by
    simp [toP] at h
  | .exc _ _ _, p, v, h, r => by
    simp [toP] at h
theorem dps_of {K : PySem.W.Frag} {B : Hp} : ∀ (xs : List D) {ps : List PyData} {vs : List V}, toPs xs = some ps → RL K B xs vs → DpAll K B vs ps
  | [], ps, vs, h, r => by
    rw [toPs] at h
    injection h with h
    subst h
    rw [show vs = [] from r]
    exact .nil
  | x :: xs, ps, vs, h, r => by
    rw [toPs] at h
    split at h
    · rename_i e1 e2
      injection h with h
      subst h
      obtain ⟨v, ws, rfl, h1, h2⟩ := r
      exact .cons (dp_of x e1 h1) (dps_of xs e2 h2)
    · cases h
end
mutual
theorem Dp.mono {K : PySem.W.Frag} {B B' : Hp} (e : Ex B B') : ∀ {p : PyData} {v : V}, Dp K B v p → Dp K B' v p
  | _, _, .non => .non
  | _, _, .bl b => .bl b
  | _, _, .int i => .int i
  | _, _, .str s => .str s
  | _, _, .lst h r => .lst (e.sqL h) (DpAll.mono e r)
  | _, _, .tup h r => .tup (e.sqT h) (DpAll.mono e r)
theorem DpAll.mono {K : PySem.W.Frag} {B B' : Hp} (e : Ex B B') : ∀ {ps : List PyData} {vs : List V}, DpAll K B vs ps → DpAll K B' vs ps
  | _, _, .nil => .nil
  | _, _, .cons h r => .cons (Dp.mono e h) (DpAll.mono e r)
end
/-- as data to be compared -/
def norm (μ : Mu) (v : Va) : Option PyData := match v with
  | .d x => toP x
  | .m _ => match asL μ v with
    | some xs => (toPs xs).map .list
    | none => none
theorem norm_ok {K : PySem.W.Frag} {B H : Hp} {θ : List Addr} {μ : Mu} {v : Va} {x : V} {p : PyData} (o : Ok K B θ H μ) (r : RV K B θ v x) (h : norm μ v = some p) : Dp K H x p := by
  unfold norm at h
  split at h
  · exact Dp.mono o.ex (dp_of _ h r)
  · split at h
    · rename_i e
      obtain ⟨ps, e1, rfl⟩ := Option.map_eq_some_iff.mp h
      obtain ⟨a, vs, rfl, h1, h2⟩ := asL_ok o r e
      exact .lst (.of h1) (DpAll.mono o.ex (dps_of _ e1 h2))
    · cases h
def dEqG (neg : Bool) : F2 := fun v w μ Q => match v, w with
  | .d (.int i), .d (.int j) => Q (.d (.bl (neg ^^ decide (i = j)))) μ
  | .d (.str i), .d (.str j) => Q (.d (.bl (neg ^^ decide (i = j)))) μ
  | .d (.bl i), .d (.bl j) => Q (.d (.bl (neg ^^ decide (i = j)))) μ
  | _, _ => match norm μ v, norm μ w with
    | some p, some q => SeqAt.shaped p = true ∧ SeqAt.shaped q = true ∧ Q (.d (.bl (neg ^^ PyData.eqv p q))) μ
    | _, _ => False
abbrev dEq : F2 := dEqG false
abbrev dNe : F2 := dEqG true
section
variable {X : Cx}
theorem do_eqP (hu : X.A.units + 64 < cLine) : DO2 X (compareOp .Eq) (fun v w μ Q => ∃ p q, norm μ v = some p ∧ norm μ w = some q ∧ SeqAt.shaped p = true ∧ SeqAt.shaped q = true ∧ Q (.d (.bl (PyData.eqv p q))) μ) :=
  ⟨_, op_eqD hu, fun v w μ Q h B θ H x y o rx ry Q' fo => by
    obtain ⟨p, q, e1, e2, h1, h2, hq⟩ := h
    exact ⟨p, q, norm_ok o rx e1, norm_ok o ry e2, h1, h2, fo.here (v := .d (.bl _)) hq o rfl⟩⟩
theorem do_neP (hu : X.A.units + 64 < cLine) : DO2 X (compareOp .NotEq) (fun v w μ Q => ∃ p q, norm μ v = some p ∧ norm μ w = some q ∧ SeqAt.shaped p = true ∧ SeqAt.shaped q = true ∧ Q (.d (.bl (!PyData.eqv p q))) μ) :=
  ⟨_, op_neD hu, fun v w μ Q h B θ H x y o rx ry Q' fo => by
    obtain ⟨p, q, e1, e2, h1, h2, hq⟩ := h
    exact ⟨p, q, norm_ok o rx e1, norm_ok o ry e2, h1, h2, fo.here (v := .d (.bl _)) hq o rfl⟩⟩
/-- == of values of one kind -/
def kin : Va → Va → Option (V × V)
  | .d (.int i), .d (.int j) => some (.int i, .int j)
  | .d (.str i), .d (.str j) => some (.str i, .str j)
  | .d (.bl i), .d (.bl j) => some (.bl i, .bl j)
  | _, _ => none
theorem kin_ok {K : PySem.W.Frag} {B : Hp} {θ : List Addr} {v w : Va} {x y a b : V} (h : kin v w = some (a, b)) (rx : RV K B θ v x) (ry : RV K B θ w y) : x = a ∧ y = b ∧ scal a b = true := by
  unfold kin at h
  split at h
  · injection h with h
    obtain ⟨h1, h2⟩ := Prod.mk.inj h
    subst h1 h2
    exact ⟨rx, ry, rfl⟩
  · injection h with h
    obtain ⟨h1, h2⟩ := Prod.mk.inj h
    subst h1 h2
    exact ⟨rx, ry, rfl⟩
  · injection h with h
    obtain ⟨h1, h2⟩ := Prod.mk.inj h
    subst h1 h2
    exact ⟨rx, ry, rfl⟩
  · cases h
theorem do_eqS : DO2 X (compareOp .Eq) (fun v w μ Q => ∃ a b, kin v w = some (a, b) ∧ Q (.d (.bl (decide (a = b)))) μ) :=
  ⟨_, op_eq, fun v w μ Q h B θ H x y o rx ry Q' fo => by
    obtain ⟨a, b, e, q⟩ := h
    obtain ⟨rfl, rfl, s⟩ := kin_ok e rx ry
    exact ⟨s, fo.here (v := .d (.bl _)) q o rfl⟩⟩
theorem do_neS : DO2 X (compareOp .NotEq) (fun v w μ Q => ∃ a b, kin v w = some (a, b) ∧ Q (.d (.bl (!decide (a = b)))) μ) :=
  ⟨_, op_ne, fun v w μ Q h B θ H x y o rx ry Q' fo => by
    obtain ⟨a, b, e, q⟩ := h
    obtain ⟨rfl, rfl, s⟩ := kin_ok e rx ry
    exact ⟨s, fo.here (v := .d (.bl _)) q o rfl⟩⟩
theorem dec_vi {i j : Int} : decide (V.int i = V.int j) = decide (i = j) := by simp
theorem dec_vs {i j : Str} : decide (V.str i = V.str j) = decide (i = j) := by simp
theorem dec_vb {i j : Bool} : decide (V.bl i = V.bl j) = decide (i = j) := by simp
theorem do_eq (hu : X.A.units + 64 < cLine) : DO2 X (compareOp .Eq) dEq := by
  refine (do_eqS.or (do_eqP hu)).imp fun v w μ Q h => ?_
  unfold dEq dEqG at h
  simp only [Bool.false_bne] at h
  split at h
  · exact .inl ⟨_, _, rfl, by rw [dec_vi]; exact h⟩
  · exact .inl ⟨_, _, rfl, by rw [dec_vs]; exact h⟩
  · exact .inl ⟨_, _, rfl, by rw [dec_vb]; exact h⟩
  · split at h
    · rename_i e1 e2
      exact .inr ⟨_, _, e1, e2, h.1, h.2.1, h.2.2⟩
    · exact h.elim
theorem do_ne (hu : X.A.units + 64 < cLine) : DO2 X (compareOp .NotEq) dNe := by
  refine (do_neS.or (do_neP hu)).imp fun v w μ Q h => ?_
  unfold dNe dEqG at h
  simp only [Bool.true_bne] at h
  split at h
  · exact .inl ⟨_, _, rfl, by rw [dec_vi]; exact h⟩
  · exact .inl ⟨_, _, rfl, by rw [dec_vs]; exact h⟩
  · exact .inl ⟨_, _, rfl, by rw [dec_vb]; exact h⟩
  · split at h
    · rename_i e1 e2
      exact .inr ⟨_, _, e1, e2, h.1, h.2.1, h.2.2⟩
    · exact h.elim

/-! ### is -/
def isN : Va → Option Bool
  | .d .non => some true
  | .d (.raw (.ref _)) => some false
  | .d (.raw _) => none
  | .d _ => some false
  | .m _ => some false
theorem isN_ok {K : PySem.W.Frag} {B : Hp} {θ : List Addr} {v : Va} {x : V} {b : Bool} (r : RV K B θ v x) (h : isN v = some b) : decide (x = .non) = b := by
  cases v with
  | m k =>
    obtain ⟨a, _, rfl⟩ := r
    injection h with h
  | d y =>
    cases y with
    | non =>
      injection h with h
      rw [← h, show x = .non from r]
      rfl
    | bl b' => injection h with h; rw [← h, show x = .bl b' from r]; rfl
    | int b' => injection h with h; rw [← h, show x = .int b' from r]; rfl
    | str b' => injection h with h; rw [← h, show x = .str b' from r]; rfl
    | tup xs => injection h with h; obtain ⟨a, vs, rfl, _⟩ := r; rw [← h]; rfl
    | lst xs => injection h with h; obtain ⟨a, vs, rfl, _⟩ := r; rw [← h]; rfl
    | lsk xs => injection h with h; obtain ⟨a, vs, rfl, _⟩ := r; rw [← h]; rfl
    | dic ks xs => injection h with h; obtain ⟨a, vs, rfl, _⟩ := r; rw [← h]; rfl
    | exc C ns xs => injection h with h; obtain ⟨a, dx, vs, rfl, _⟩ := r; rw [← h]; rfl
    | raw u =>
      cases u with
      | ref a => injection h with h; rw [← h, show x = .ref a from r]; rfl
      | _ => cases h
def dIsG (neg : Bool) : F2 := fun v w μ Q => match w with
  | .d .non => (match isN v with
    | some b => Q (.d (.bl (neg ^^ b))) μ
    | none => False)
  | .d (.bl c) => (match v with
    | .d (.bl b) => Q (.d (.bl (neg ^^ decide (b = c)))) μ
    | _ => False)
  | _ => False
abbrev dIs : F2 := dIsG false
abbrev dIsNot : F2 := dIsG true
theorem do_isN : DO2 X (compareOp .Is) (fun v w μ Q => ∃ b, w = .d .non ∧ isN v = some b ∧ Q (.d (.bl b)) μ) :=
  ⟨_, op_isN, fun v w μ Q h B θ H x y o rx ry Q' fo => by
    obtain ⟨b, rfl, e, q⟩ := h
    refine ⟨ry, ?_⟩
    rw [isN_ok rx e]
    exact fo.here (v := .d (.bl b)) q o rfl⟩
theorem do_notN : DO2 X (compareOp .IsNot) (fun v w μ Q => ∃ b, w = .d .non ∧ isN v = some b ∧ Q (.d (.bl (!b))) μ) :=
  ⟨_, op_notN, fun v w μ Q h B θ H x y o rx ry Q' fo => by
    obtain ⟨b, rfl, e, q⟩ := h
    refine ⟨ry, ?_⟩
    rw [isN_ok rx e]
    exact fo.here (v := .d (.bl (!b))) q o rfl⟩
theorem do_isB : DO2 X (compareOp .Is) (fun v w μ Q => ∃ b c, v = .d (.bl b) ∧ w = .d (.bl c) ∧ Q (.d (.bl (decide (b = c)))) μ) :=
  ⟨_, op_isBl, fun v w μ Q h B θ H x y o rx ry Q' fo => by
    obtain ⟨b, c, rfl, rfl, q⟩ := h
    exact ⟨b, c, rx, ry, fo.here (v := .d (.bl _)) q o rfl⟩⟩
theorem do_notB : DO2 X (compareOp .IsNot) (fun v w μ Q => ∃ b c, v = .d (.bl b) ∧ w = .d (.bl c) ∧ Q (.d (.bl (!decide (b = c)))) μ) :=
  ⟨_, op_notBl, fun v w μ Q h B θ H x y o rx ry Q' fo => by
    obtain ⟨b, c, rfl, rfl, q⟩ := h
    exact ⟨b, c, rx, ry, fo.here (v := .d (.bl _)) q o rfl⟩⟩
theorem do_is : DO2 X (compareOp .Is) dIs := by
  refine (do_isN.or do_isB).imp fun v w μ Q h => ?_
  unfold dIs dIsG at h
  simp only [Bool.false_bne] at h
  split at h
  · split at h
    · rename_i e
      exact .inl ⟨_, rfl, e, h⟩
    · exact h.elim
  · split at h
    · exact .inr ⟨_, _, rfl, rfl, h⟩
    · exact h.elim
  · exact h.elim
theorem do_isNot : DO2 X (compareOp .IsNot) dIsNot := by
  refine (do_notN.or do_notB).imp fun v w μ Q h => ?_
  unfold dIsNot dIsG at h
  simp only [Bool.true_bne] at h
  split at h
  · split at h
    · rename_i e
      exact .inl ⟨_, rfl, e, h⟩
    · exact h.elim
  · split at h
    · exact .inr ⟨_, _, rfl, rfl, h⟩
    · exact h.elim
  · exact h.elim

/-! ### in, of flat things -/
def isFl : D → Bool
  | .non => true | .bl _ => true | .int _ => true | .str _ => true
  | _ => false
def fl : D → V
  | .non => .non | .bl b => .bl b | .int i => .int i | .str s => .str s
  | _ => .ty ""
theorem fl_ok {K : PySem.W.Frag} {B : Hp} {x : D} {v : V} (h : isFl x = true) (r : R K B x v) : v = fl x ∧ flatV v = true := by
  cases x with
  | non => exact ⟨r, by rw [show v = .non from r]; rfl⟩
  | bl b => exact ⟨r, by rw [show v = .bl b from r]; rfl⟩
  | int b => exact ⟨r, by rw [show v = .int b from r]; rfl⟩
  | str b => exact ⟨r, by rw [show v = .str b from r]; rfl⟩
  | _ => cases h
theorem fls_ok {K : PySem.W.Frag} {B : Hp} : ∀ {xs : List D} {vs : List V}, xs.all isFl = true → RL K B xs vs → vs = xs.map fl ∧ vs.all flatV = true
  | [], vs, _, r => by
    rw [show vs = [] from r]
    exact ⟨rfl, rfl⟩
  | x :: xs, vs, h, r => by
    obtain ⟨v, ws, rfl, h1, h2⟩ := r
    rw [List.all_cons, Bool.and_eq_true] at h
    obtain ⟨e1, e2⟩ := fl_ok h.1 h1
    obtain ⟨e3, e4⟩ := fls_ok h.2 h2
    rw [List.all_cons, e2, e4, e1, e3]
    exact ⟨rfl, rfl⟩
def asS (μ : Mu) : Va → Option (List D)
  | .d (.tup xs) => some xs
  | v => asR μ v
theorem asS_ok {K : PySem.W.Frag} {B H : Hp} {θ : List Addr} {μ : Mu} {v : Va} {x : V} {xs : List D} (o : Ok K B θ H μ) (r : RV K B θ v x) (h : asS μ v = some xs) : ∃ a vs, x = .ref a ∧ (SqL K H a vs ∨ SqT K H a vs) ∧ RL K B xs vs := by
  unfold asS at h
  split at h
  · injection h with h
    subst h
    obtain ⟨a, vs, e1, e2, e3⟩ := r
    exact ⟨a, vs, e1, .inr (o.ex.sqT e2), e3⟩
  · obtain ⟨a, vs, e1, e2, e3⟩ := asR_ok o r h
    exact ⟨a, vs, e1, .inl e2, e3⟩
def dInG (neg : Bool) : F2 := fun v w μ Q => match v, asS μ w with
  | .d x, some xs => isFl x = true ∧ xs.all isFl = true ∧ Q (.d (.bl (if neg then !inV (fl x) (xs.map fl) else inV (fl x) (xs.map fl)))) μ
  | _, _ => False
abbrev dIn : F2 := dInG false
abbrev dNotIn : F2 := dInG true
theorem do_inG {op : CmpOp} {neg : Bool} (ho : OpR X (compareOp op) (rIn X.K neg)) : DO2 X (compareOp op) (dInG neg) :=
  ⟨_, ho, fun v w μ Q h B θ H x y o rx ry Q' fo => by
    unfold dInG at h
    split at h
    · rename_i e
      obtain ⟨h1, h2, q⟩ := h
      obtain ⟨a, vs, rfl, hs, r⟩ := asS_ok o ry e
      obtain ⟨e1, e2⟩ := fl_ok h1 rx
      obtain ⟨e3, e4⟩ := fls_ok h2 r
      refine ⟨a, vs, rfl, hs, e2, e4, ?_⟩
      rw [e1, e3]
      exact fo.here (v := .d (.bl _)) q o rfl
    · exact h.elim⟩
theorem do_in : DO2 X (compareOp .In) dIn := do_inG op_in_seq
theorem do_notIn : DO2 X (compareOp .NotIn) dNotIn := do_inG op_notIn_seq
end
end DL

/-! DLd: displays, subscripts, slices, calls of built-ins. -/
namespace DL
open PySem L2

theorem line24 : sizeLine = 16777216 := by decide
section
variable {X : Cx} {Z : Anc} {pos : Pos}
/-! ### displays -/
def dTup (T : ATd) : ET := fun es μ Q => T es μ fun vs μ1 => match unD vs with
  | some xs => xs.length ≤ 16777216 ∧ Q (.d (.tup xs)) μ1
  | none => False
def dLst (T : ATd) : ET := fun es μ Q => T es μ fun vs μ1 => match unD vs with
  | some xs => xs.length ≤ 16777216 ∧ Q (.d (.lst xs)) μ1
  | none => False
/-- a list that will be changed -/
def dLstM (T : ATd) : ET := fun es μ Q => T es μ fun vs μ1 => vs.length ≤ 16777216 ∧ Q (.m μ1.length) (μ1 ++ [.lst vs])
theorem de_tup {es : List Expr} {T : ATd} {x1} (h : DA X Z es T) : DE X Z (.Tuple es x1 pos) (dTup T) := by
  obtain ⟨t, p, w⟩ := h
  refine ⟨_, pe_tup p, fun es μ Q h B θ σ H ok en z Q' fo => ?_⟩
  refine w es μ _ h B θ σ H ok en z _ fun vs B1 θ1 H1 us μ1 q g1 o1 r1 => ?_
  dsimp only at q
  split at q
  · rename_i xs e
    have e2 := unD_eq e
    rw [e2] at r1
    have r := rl_of_rvs r1
    exact ⟨by rw [← r.len, line24]; exact q.1, new_tup o1 (fo.tr g1) q.2 r⟩
  · exact q.elim
theorem de_lst {es : List Expr} {T : ATd} (h : DA X Z es T) : DE X Z (.List es pos) (dLst T) := by
  obtain ⟨t, p, w⟩ := h
  refine ⟨_, pe_lst p, fun es μ Q h B θ σ H ok en z Q' fo => ?_⟩
  refine w es μ _ h B θ σ H ok en z _ fun vs B1 θ1 H1 us μ1 q g1 o1 r1 => ?_
  dsimp only at q
  split at q
  · rename_i xs e
    have e2 := unD_eq e
    rw [e2] at r1
    have r := rl_of_rvs r1
    exact ⟨by rw [← r.len, line24]; exact q.1, new_lst o1 (fo.tr g1) q.2 r⟩
  · exact q.elim
theorem de_lstM {es : List Expr} {T : ATd} (h : DA X Z es T) : DE X Z (.List es pos) (dLstM T) := by
  obtain ⟨t, p, w⟩ := h
  refine ⟨_, pe_lst p, fun es μ Q h B θ σ H ok en z Q' fo => ?_⟩
  refine w es μ _ h B θ σ H ok en z _ fun vs B1 θ1 H1 us μ1 q g1 o1 r1 => ?_
  exact ⟨by rw [← Paired.length r1, line24]; exact q.1, new_lstM o1 (fo.tr g1) q.2 r1⟩

/-! ### subscripts, slices -/
def dIx : F2 := fun v w μ Q => match w with
  | .d (.int i) => (match asV μ v with
    | some xs => (match atI xs i with
      | some y => Q y μ
      | none => False)
    | none => False)
  | _ => False
theorem rvs_at {K : PySem.W.Frag} {B : Hp} {θ : List Addr} : ∀ {xs : List Va} {vs : List V} {i : Nat} {x : Va}, RVs K B θ xs vs → xs[i]? = some x → ∃ v, vs[i]? = some v ∧ RV K B θ x v
  | _, _, _, _, .nil, e => by simp at e
  | _, _, 0, x, .cons h r, e => by
    simp at e
    subst e
    exact ⟨_, by simp, h⟩
  | _, _, i + 1, x, .cons h r, e => by
    obtain ⟨v, e1, e2⟩ := rvs_at (i := i) (x := x) r (by simpa using e)
    exact ⟨v, by simpa using e1, e2⟩
theorem rvs_atI {K : PySem.W.Frag} {B : Hp} {θ : List Addr} {xs : List Va} {vs : List V} {i : Int} {x : Va} (h : RVs K B θ xs vs) (e : atI xs i = some x) : ∃ v, atI vs i = some v ∧ RV K B θ x v := by
  unfold atI at e ⊢
  rw [← Paired.length h]
  obtain ⟨j, e1, e2⟩ := Option.bind_eq_some_iff.mp e
  obtain ⟨v, e3, r⟩ := rvs_at h e2
  exact ⟨v, by rw [e1]; exact e3, r⟩
theorem de_ix {a b : Expr} {Ta Tb : ET} (ha : DE X Z a Ta) (hb : DE X Z b Tb) (hs : PlainIx b := by exact fun _ _ => rfl) : DE X Z (.Subscript a b pos) (dOp dIx Ta Tb) := by
  obtain ⟨ta, pa, wa⟩ := ha
  obtain ⟨tb, pb, wb⟩ := hb
  refine ⟨_, pe_ix (IxR.or ix_list ix_tup) pa pb hs, fun es μ Q h => bin2 wa wb ?_ h⟩
  intro v w μ Q h B θ H x y o rx ry Q' fo
  unfold dIx at h
  split at h
  · rename_i i
    split at h
    · rename_i xs e
      split at h
      · rename_i z e2
        obtain ⟨a, vs, rfl, hq, r⟩ := asV_ok o rx e
        obtain ⟨u, e3, r3⟩ := rvs_atI r e2
        rcases hq with hq | hq
        · exact .inl ⟨a, vs, i, u, rfl, ry, hq, e3, fo.here h o r3⟩
        · exact .inr ⟨a, vs, i, u, rfl, ry, hq, e3, fo.here h o r3⟩
      · exact h.elim
    · exact h.elim
  · exact h.elim
abbrev OTd := Es → Mu → (Option Int → Mu → Prop) → Prop
structure DO (X : Cx) (Z : Anc) (e : Option Expr) (T : OTd) : Prop where
  ex : ∃ t, PO X e t ∧ ∀ es μ Q, T es μ Q → ∀ B θ σ H, Ok X.K B θ H μ → EnvOk X.K B θ es σ → Rch Z B θ H → ∀ Q' : Option Int → Hp → Prop,
    (∀ i B' θ' H' μ', Q i μ' → Gw B θ H B' θ' H' → Ok X.K B' θ' H' μ' → Q' i H') → t σ H Q'
def dNoP : OTd := fun _ μ Q => Q none μ
def dPart (T : ET) : OTd := fun es μ Q => T es μ fun v μ1 => match v with
  | .d (.int i) => Q (some i) μ1
  | _ => False
theorem do_none : DO X Z none dNoP := ⟨_, po_none, fun es μ Q h B θ σ H o en z Q' f => f none B θ H μ h Gw.rfl o⟩
theorem do_some {e : Expr} {T : ET} (h : DE X Z e T) : DO X Z (some e) (dPart T) := by
  obtain ⟨t, p, w⟩ := h
  refine ⟨_, po_some p, fun es μ Q h B θ σ H o en z Q' f => ?_⟩
  refine w es μ _ h B θ σ H o en z _ fun v B1 θ1 H1 u μ1 q g1 o1 r1 => ?_
  dsimp only at q
  split at q
  · rename_i i
    exact ⟨i, r1, f (some i) B1 θ1 H1 μ1 q g1 o1⟩
  · exact q.elim
def cutD (xs : List D) (lo hi : Option Int) : List D := (xs.drop (HT.sIx xs.length 0 lo)).take (HT.sIx xs.length xs.length hi - HT.sIx xs.length 0 lo)
theorem rl_cut {K : PySem.W.Frag} {B : Hp} {xs : List D} {vs : List V} (lo hi : Option Int) (r : RL K B xs vs) : RL K B (cutD xs lo hi) (cutV vs lo hi) := by
  unfold cutD cutV
  rw [r.len]
  exact (r.drop _).take _
theorem cut_whole {xs : List D} {lo hi : Option Int} (h : HT.sIx xs.length 0 lo = 0 ∧ HT.sIx xs.length xs.length hi = xs.length) : cutD xs lo hi = xs := by
  unfold cutD
  rw [h.1, h.2]
  simp
def gSl (v : Va) (lo hi : Option Int) (μ : Mu) (Q : EQ) : Prop := match v with
  | .d (.tup xs) => Q (.d (.tup (cutD xs lo hi))) μ
  | _ => match asR μ v with
    | some xs => Q (.d (.lst (cutD xs lo hi))) μ
    | none => False
def dSl (T : ET) (Tl Th : OTd) : ET := fun es μ Q => T es μ fun v μ1 => Tl es μ1 fun lo μ2 => Th es μ2 fun hi μ3 => gSl v lo hi μ3 Q
theorem de_slice {e : Expr} {lo hi : Option Expr} {T : ET} {Tl Th : OTd} {p2 : Pos} (he : DE X Z e T) (hl : DO X Z lo Tl) (hh : DO X Z hi Th) : DE X Z (.Subscript e (.Slice lo hi none p2) pos) (dSl T Tl Th) := by
  obtain ⟨t, p, w⟩ := he
  obtain ⟨tl, pl, wl⟩ := hl
  obtain ⟨th, ph, wh⟩ := hh
  refine ⟨_, pe_slice (SlR.or sl_list sl_tupA) p pl ph, fun es μ Q h B θ σ H ok en z Q' fo => ?_⟩
  refine w es μ _ h B θ σ H ok en z _ fun v B1 θ1 H1 x μ1 q g1 o1 r1 => ?_
  refine wl es μ1 _ q B1 θ1 σ H1 o1 (en.mono g1.ex g1.pre) (z.tr g1) _ fun lo B2 θ2 H2 μ2 q2 g2 o2 => ?_
  have g12 := g1.tr g2
  refine wh es μ2 _ q2 B2 θ2 σ H2 o2 (en.mono g12.ex g12.pre) (z.tr g12) _ fun hi B3 θ3 H3 μ3 q3 g3 o3 => ?_
  have r3 := RV.mono (g2.tr g3).ex (g2.tr g3).pre r1
  have f3 := fo.tr (g12.tr g3)
  unfold gSl at q3
  split at q3
  · rename_i xs
    obtain ⟨a, vs, rfl, hs, r⟩ := r3
    refine .inr ⟨a, vs, rfl, o3.ex.sqT hs, fun hw => ?_, fun _ => new_tup o3 f3 q3 (rl_cut lo hi r)⟩
    rw [← r.len] at hw
    rw [cut_whole hw] at q3
    exact f3.here (v := .d (.tup xs)) q3 o3 ⟨a, vs, rfl, hs, r⟩
  · split at q3
    · rename_i xs e
      obtain ⟨a, vs, rfl, hs, r⟩ := asR_ok o3 r3 e
      exact .inl ⟨a, vs, rfl, hs, new_lst o3 f3 q3 (rl_cut lo hi r)⟩
    · exact q3.elim

/-! ### calls of built-ins -/
abbrev G1 := List Va → Mu → EQ → Prop
def DCa (X : Cx) (f : Value) (g : G1) : Prop := ∃ r, CallR X f r ∧ ∀ vs μ Q, g vs μ Q → ∀ B θ H us, Ok X.K B θ H μ → RVs X.K B θ vs us → ∀ Q' : VK, Fo X.K B θ H Q Q' → r us H Q'
theorem DCa.or {f : Value} {g g' : G1} (h : DCa X f g) (h' : DCa X f g') : DCa X f (fun vs μ Q => g vs μ Q ∨ g' vs μ Q) := by
  obtain ⟨r, o, w⟩ := h
  obtain ⟨r', o', w'⟩ := h'
  refine ⟨fun us H Q => r us H Q ∨ r' us H Q, fun pins s σ H xs us Q I rr q => ?_, fun vs μ Q q B θ H us ok rx Q' f => ?_⟩
  · rcases q with q | q
    · exact o pins s σ H xs us Q I rr q
    · exact o' pins s σ H xs us Q I rr q
  · rcases q with q | q
    · exact .inl (w vs μ Q q B θ H us ok rx Q' f)
    · exact .inr (w' vs μ Q q B θ H us ok rx Q' f)
theorem DCa.imp {f : Value} {g g' : G1} (h : DCa X f g) (i : ∀ vs μ Q, g' vs μ Q → g vs μ Q) : DCa X f g' := by
  obtain ⟨r, o, w⟩ := h
  exact ⟨r, o, fun vs μ Q q => w vs μ Q (i _ _ _ q)⟩
def dCa (g : G1) (T : ATd) : ET := fun es μ Q => T es μ fun vs μ1 => g vs μ1 Q
theorem de_callB {x : Str} {id : String} {g : G1} {e : Expr} {es : List Expr} {T : ATd} {p : Pos} (hc : DCa X (.builtin id) g) (hm : X.mg x = none) (hv : bootBuiltins x = some (.builtin id)) (ha : DA X Z (e :: es) T) (hg : Gl X x := by rfl)
    (hn : x ≠ "__name__" := by decide) (hdb : (x == ("__debug__" : Str)) = false := by decide) (he : starEach (e :: es) X.env = (false, eval e X.env) :: starEach es X.env := by rfl) (hpl : (backTo pos (starEach es X.env)).any (·.1) = false := by rfl)
    : DE X Z (.Call (.Name x p) (e :: es) [] pos) (dCa g T) := by
  obtain ⟨r, c, wc⟩ := hc
  obtain ⟨t, pa, w⟩ := ha
  refine ⟨_, pe_callB c hg hm hv pa hn hdb he hpl, fun es μ Q h B θ σ H ok en z Q' fo => ?_⟩
  exact w es μ _ h B θ σ H ok en z _ fun vs B1 θ1 H1 us μ1 q g1 o1 r1 => wc vs μ1 Q q B1 θ1 H1 us o1 r1 Q' (fo.tr g1)
theorem de_callT {x : Str} {n : String} {g : G1} {e : Expr} {es : List Expr} {T : ATd} {p : Pos} (hc : DCa X (.type n) g) (hm : X.mg x = none) (hv : bootBuiltins x = some (.type n)) (ha : DA X Z (e :: es) T) (hg : Gl X x := by rfl)
    (hn : x ≠ "__name__" := by decide) (hdb : (x == ("__debug__" : Str)) = false := by decide) (he : starEach (e :: es) X.env = (false, eval e X.env) :: starEach es X.env := by rfl) (hpl : (backTo pos (starEach es X.env)).any (·.1) = false := by rfl)
    : DE X Z (.Call (.Name x p) (e :: es) [] pos) (dCa g T) := by
  obtain ⟨r, c, wc⟩ := hc
  obtain ⟨t, pa, w⟩ := ha
  refine ⟨_, pe_callTy c hg hm hv pa hn hdb he hpl, fun es μ Q h B θ σ H ok en z Q' fo => ?_⟩
  exact w es μ _ h B θ σ H ok en z _ fun vs B1 θ1 H1 us μ1 q g1 o1 r1 => wc vs μ1 Q q B1 θ1 H1 us o1 r1 Q' (fo.tr g1)
theorem rvs1 {K : PySem.W.Frag} {B : Hp} {θ : List Addr} {v : Va} {us : List V} (r : RVs K B θ [v] us) : ∃ u, us = [u] ∧ RV K B θ v u := by
  cases r with
  | cons h t => cases t; exact ⟨_, rfl, h⟩
theorem rvs2 {K : PySem.W.Frag} {B : Hp} {θ : List Addr} {v w : Va} {us : List V} (r : RVs K B θ [v, w] us) : ∃ u y, us = [u, y] ∧ RV K B θ v u ∧ RV K B θ w y := by
  cases r with
  | cons h t =>
    obtain ⟨y, rfl, h2⟩ := rvs1 t
    exact ⟨_, _, rfl, h, h2⟩
def gLen : G1 := fun vs μ Q => match vs with
  | [.d (.str s)] => s.length ≤ 16777216 ∧ Q (.d (.int s.length)) μ
  | [v] => (match asV μ v with
    | some xs => Q (.d (.int xs.length)) μ
    | none => False)
  | _ => False
theorem dc_len : DCa X (.builtin "len") gLen := by
  refine ⟨_, call_len, fun vs μ Q h B θ H us o r Q' fo => ?_⟩
  unfold gLen at h
  split at h
  · rename_i s
    obtain ⟨u, rfl, r1⟩ := rvs1 r
    exact ⟨u, s.length, rfl, by rw [show u = .str s from r1]; exact ⟨by rw [line24]; exact h.1, rfl⟩, fo.here (v := .d (.int s.length)) h.2 o rfl⟩
  · split at h
    · rename_i xs e
      obtain ⟨u, rfl, r1⟩ := rvs1 r
      obtain ⟨a, ws, rfl, hq, rs⟩ := asV_ok o r1 e
      have hl := Paired.length rs
      rcases hq with hq | hq
      · exact ⟨.ref a, xs.length, rfl, .inl ⟨ws, hq, hl⟩, fo.here (v := .d (.int xs.length)) h o rfl⟩
      · exact ⟨.ref a, xs.length, rfl, .inr ⟨ws, hq, hl⟩, fo.here (v := .d (.int xs.length)) h o rfl⟩
    · exact h.elim
  · exact h.elim
def gAbs : G1 := fun vs μ Q => match vs with
  | [.d (.int i)] => Q (.d (.int (if i < 0 then -i else i))) μ
  | _ => False
theorem dc_abs : DCa X (.builtin "abs") gAbs := by
  refine ⟨_, call_abs, fun vs μ Q h B θ H us o r Q' fo => ?_⟩
  unfold gAbs at h
  split at h
  · rename_i i
    obtain ⟨u, rfl, r1⟩ := rvs1 r
    exact ⟨i, by rw [show u = .int i from r1], fo.here (v := .d (.int _)) h o rfl⟩
  · exact h.elim
def gMin : G1 := fun vs μ Q => match vs with
  | [.d (.int i), .d (.int j)] => Q (.d (.int (min i j))) μ
  | _ => False
def gMax : G1 := fun vs μ Q => match vs with
  | [.d (.int i), .d (.int j)] => Q (.d (.int (max i j))) μ
  | _ => False
theorem dc_min (hc : X.calm = true) : DCa X (.builtin "min") gMin := by
  refine ⟨_, call_min2 hc, fun vs μ Q h B θ H us o r Q' fo => ?_⟩
  unfold gMin at h
  split at h
  · rename_i i j
    obtain ⟨u, y, rfl, r1, r2⟩ := rvs2 r
    refine ⟨i, j, by rw [show u = .int i from r1, show y = .int j from r2], ?_⟩
    have e : (if j < i then j else i) = min i j := by omega
    rw [e]
    exact fo.here (v := .d (.int _)) h o rfl
  · exact h.elim
theorem dc_max (hc : X.calm = true) : DCa X (.builtin "max") gMax := by
  refine ⟨_, call_max2 hc, fun vs μ Q h B θ H us o r Q' fo => ?_⟩
  unfold gMax at h
  split at h
  · rename_i i j
    obtain ⟨u, y, rfl, r1, r2⟩ := rvs2 r
    refine ⟨i, j, by rw [show u = .int i from r1, show y = .int j from r2], ?_⟩
    have e : (if j > i then j else i) = max i j := by omega
    rw [e]
    exact fo.here (v := .d (.int _)) h o rfl
  · exact h.elim
def gInt : G1 := fun vs μ Q => match vs with
  | [.d (.int i)] => Q (.d (.int i)) μ
  | [.d (.bl b)] => Q (.d (.int (if b = true then 1 else 0))) μ
  | _ => False
theorem dc_int : DCa X (.type "int") gInt := by
  refine ⟨_, call_int1, fun vs μ Q h B θ H us o r Q' fo => ?_⟩
  unfold gInt at h
  split at h
  · rename_i i
    obtain ⟨u, rfl, r1⟩ := rvs1 r
    exact .inl ⟨i, by rw [show u = .int i from r1], fo.here (v := .d (.int _)) h o rfl⟩
  · rename_i b
    obtain ⟨u, rfl, r1⟩ := rvs1 r
    exact .inr ⟨b, by rw [show u = .bl b from r1], fo.here (v := .d (.int _)) h o rfl⟩
  · exact h.elim
/-- list(xs): data | to be changed -/
def gList : G1 := fun vs μ Q => match vs with
  | [v] => (match asS μ v with
    | some xs => Q (.d (.lst xs)) μ
    | none => False)
  | _ => False
def gListM : G1 := fun vs μ Q => match vs with
  | [v] => (match asV μ v with
    | some xs => Q (.m μ.length) (μ ++ [.lst xs])
    | none => False)
  | _ => False
theorem dc_list : DCa X (.type "list") gList := by
  refine ⟨_, call_list_of, fun vs μ Q h B θ H us o r Q' fo => ?_⟩
  unfold gList at h
  split at h
  · split at h
    · rename_i xs e
      obtain ⟨u, rfl, r1⟩ := rvs1 r
      obtain ⟨a, ws, rfl, hq, rs⟩ := asS_ok o r1 e
      exact ⟨a, ws, rfl, hq, new_lst o fo h rs⟩
    · exact h.elim
  · exact h.elim
theorem dc_listM : DCa X (.type "list") gListM := by
  refine ⟨_, call_list_of, fun vs μ Q h B θ H us o r Q' fo => ?_⟩
  unfold gListM at h
  split at h
  · split at h
    · rename_i xs e
      obtain ⟨u, rfl, r1⟩ := rvs1 r
      obtain ⟨a, ws, rfl, hq, rs⟩ := asV_ok o r1 e
      exact ⟨a, ws, rfl, hq, new_lstM o fo h rs⟩
    · exact h.elim
  · exact h.elim
def gTuple : G1 := fun vs μ Q => match vs with
  | [.d (.tup xs)] => Q (.d (.tup xs)) μ
  | [v] => (match asR μ v with
    | some xs => Q (.d (.tup xs)) μ
    | none => False)
  | _ => False
theorem dc_tuple : DCa X (.type "tuple") gTuple := by
  refine ⟨_, call_tuple_of, fun vs μ Q h B θ H us o r Q' fo => ?_⟩
  unfold gTuple at h
  split at h
  · rename_i xs
    obtain ⟨u, rfl, r1⟩ := rvs1 r
    obtain ⟨a, ws, rfl, hq, rs⟩ := r1
    exact ⟨a, ws, rfl, .inr ⟨o.ex.sqT hq, fo.here (v := .d (.tup xs)) h o ⟨a, ws, rfl, hq, rs⟩⟩⟩
  · split at h
    · rename_i xs e
      obtain ⟨u, rfl, r1⟩ := rvs1 r
      obtain ⟨a, ws, rfl, hq, rs⟩ := asR_ok o r1 e
      exact ⟨a, ws, rfl, .inl ⟨hq, new_tup o fo h rs⟩⟩
    · exact h.elim
  · exact h.elim
def bools : List D → Option (List Bool)
  | [] => some []
  | .bl b :: r => (bools r).map (b :: ·)
  | _ => none
theorem bools_ok {K : PySem.W.Frag} {B : Hp} : ∀ {xs : List D} {bs : List Bool} {vs : List V}, bools xs = some bs → RL K B xs vs → vs = bs.map V.bl
  | [], bs, vs, h, r => by
    have h : some [] = some bs := h
    injection h with h
    rw [← h, show vs = [] from r]
    rfl
  | .bl b :: xs, bs, vs, h, r => by
    have h : (bools xs).map (b :: ·) = some bs := h
    obtain ⟨cs, e, rfl⟩ := Option.map_eq_some_iff.mp h
    obtain ⟨v, ws, rfl, h1, h2⟩ := r
    rw [show v = .bl b from h1, bools_ok e h2]
    rfl
theorem bools_map {α : Type} (f : α → Bool) : ∀ l : List α, bools (l.map fun x => D.bl (f x)) = some (l.map f)
  | [] => rfl
  | x :: l => by
    show (bools (l.map fun x => D.bl (f x))).map (f x :: ·) = some (f x :: l.map f)
    rw [bools_map f l]
    rfl
def gAll : G1 := fun vs μ Q => match vs with
  | [v] => (match (asR μ v).bind bools with
    | some bs => Q (.d (.bl (bs.all id))) μ
    | none => False)
  | _ => False
theorem dc_all (hc : X.calm = true) : DCa X (.builtin "all") gAll := by
  refine ⟨_, cr_all hc, fun vs μ Q h B θ H us o r Q' fo => ?_⟩
  unfold gAll at h
  split at h
  · split at h
    · rename_i bs e
      obtain ⟨xs, e1, e2⟩ := Option.bind_eq_some_iff.mp e
      obtain ⟨u, rfl, r1⟩ := rvs1 r
      obtain ⟨a, ws, rfl, hq, rs⟩ := asR_ok o r1 e1
      have ew := bools_ok e2 rs
      rw [ew] at hq
      exact ⟨a, bs, rfl, hq, fo.here (v := .d (.bl _)) h o rfl⟩
    · exact h.elim
  · exact h.elim
def intsD : List D → Option (List Int)
  | [] => some []
  | .int b :: r => (intsD r).map (b :: ·)
  | _ => none
theorem intsD_ok {K : PySem.W.Frag} {B : Hp} : ∀ {xs : List D} {bs : List Int} {vs : List V}, intsD xs = some bs → RL K B xs vs → vs = bs.map V.int
  | [], bs, vs, h, r => by
    have h : some [] = some bs := h
    injection h with h
    rw [← h, show vs = [] from r]
    rfl
  | .int b :: xs, bs, vs, h, r => by
    have h : (intsD xs).map (b :: ·) = some bs := h
    obtain ⟨cs, e, rfl⟩ := Option.map_eq_some_iff.mp h
    obtain ⟨v, ws, rfl, h1, h2⟩ := r
    rw [show v = .int b from h1, intsD_ok e h2]
    rfl
theorem intsD_map {α : Type} (f : α → Int) : ∀ l : List α, intsD (l.map fun x => D.int (f x)) = some (l.map f)
  | [] => rfl
  | x :: l => by
    show (intsD (l.map fun x => D.int (f x))).map (f x :: ·) = some (f x :: l.map f)
    rw [intsD_map f l]
    rfl
def gSum : G1 := fun vs μ Q => match vs with
  | [v] => (match (asR μ v).bind intsD with
    | some bs => Q (.d (.int bs.sum)) μ
    | none => False)
  | _ => False
theorem dc_sum (hc : X.calm = true) : DCa X (.builtin "sum") gSum := by
  refine ⟨_, cr_sum hc, fun vs μ Q h B θ H us o r Q' fo => ?_⟩
  unfold gSum at h
  split at h
  · split at h
    · rename_i bs e
      obtain ⟨xs, e1, e2⟩ := Option.bind_eq_some_iff.mp e
      obtain ⟨u, rfl, r1⟩ := rvs1 r
      obtain ⟨a, ws, rfl, hq, rs⟩ := asR_ok o r1 e1
      have ew := intsD_ok e2 rs
      rw [ew] at hq
      exact ⟨a, bs, rfl, hq, fo.here (v := .d (.int _)) h o rfl⟩
    · exact h.elim
  · exact h.elim

/-! ### isinstance -/
def tyD : D → Option String
  | .non => some "NoneType" | .bl _ => some "bool" | .int _ => some "int" | .str _ => some "str"
  | .tup _ => some "tuple" | .lst _ => some "list" | .lsk _ => some "list" | .dic _ _ => some "dict"
  | _ => none
/-- whether a built-in type stands below another one, of those that are met -/
def subB (t n : String) : Option Bool :=
  if t ∈ ["NoneType", "bool", "int", "str", "tuple", "list", "dict"] ∧ n ∈ ["bool", "int", "str", "tuple", "list", "dict"] then some (t == n || (t == "bool" && n == "int")) else none
theorem subB_ok {t n : String} {b : Bool} (h : subB t n = some b) : kitB t n = some b := by
  unfold subB at h
  split at h
  · rename_i hc
    injection h with h
    subst h
    obtain ⟨h1, h2⟩ := hc
    have key : ∀ t ∈ ["NoneType", "bool", "int", "str", "tuple", "list", "dict"], ∀ n ∈ ["bool", "int", "str", "tuple", "list", "dict"], kitB t n = some (t == n || (t == "bool" && n == "int")) := by decide +kernel
    exact key t h1 n h2
  · cases h
theorem tyD_ok {K : PySem.W.Frag} {B H : Hp} {θ : List Addr} {μ : Mu} {x : D} {v : V} {t : String} (o : Ok K B θ H μ) (r : R K B x v) (h : tyD x = some t) : TyX K H v (.type t) := by
  cases x with
  | non => injection h with h; subst h; rw [show v = .non from r]; exact .base .non
  | bl b => injection h with h; subst h; rw [show v = .bl b from r]; exact .base (.bl b)
  | int b => injection h with h; subst h; rw [show v = .int b from r]; exact .base (.int b)
  | str b => injection h with h; subst h; rw [show v = .str b from r]; exact .base (.str b)
  | lst xs =>
    injection h with h; subst h
    obtain ⟨a, vs, rfl, h1, _⟩ := r
    exact .base (.lst (o.ex _ _ h1))
  | lsk xs =>
    injection h with h; subst h
    obtain ⟨a, vs, rfl, h1, _⟩ := r
    rcases o.ex.sqL h1 with (q | ⟨ob, q⟩) | ⟨ob, its, n, q, hc, _⟩
    · exact .base (.lst q)
    · exact .base (.frz q)
    · exact .kList q hc
  | tup xs =>
    injection h with h; subst h
    obtain ⟨a, vs, rfl, h1, _⟩ := r
    rcases o.ex.sqT h1 with (q | ⟨ob, q⟩) | ⟨ob, its, n, q, hc, _⟩
    · exact .base (.tup q)
    · exact .fTuple q
    · exact .kTuple q hc
  | dic ks xs =>
    injection h with h; subst h
    obtain ⟨a, vs, rfl, h1, _⟩ := r
    exact .base (.dK (o.ex _ _ h1))
  | raw u => cases h
  | exc C ns xs => cases h
/-- the type of a value -/
def tyV' (μ : Mu) : Va → Option String
  | .d x => tyD x
  | .m k => match μ[k]? with
    | some (.lst _) => some "list"
    | some (.dK _ _) => some "dict"
    | _ => none
theorem tyV_ok {K : PySem.W.Frag} {B H : Hp} {θ : List Addr} {μ : Mu} {x : Va} {v : V} {t : String} (o : Ok K B θ H μ) (r : RV K B θ x v) (h : tyV' μ x = some t) : TyX K H v (.type t) := by
  cases x with
  | d x => exact tyD_ok o r h
  | m k =>
    unfold tyV' at h
    dsimp only at h
    obtain ⟨a, h1, rfl⟩ := r
    split at h
    · rename_i xs e
      injection h with h; subst h
      obtain ⟨_, vs, h3, _⟩ := o.mu _ a _ h1 e
      exact .base (.lst h3)
    · rename_i ks xs e
      injection h with h; subst h
      obtain ⟨_, vs, h3, _⟩ := o.mu _ a _ h1 e
      exact .base (.dK h3)
    · cases h
def tys : List D → Option (List String)
  | [] => some []
  | .raw (.ty n) :: r => (tys r).map (n :: ·)
  | _ => none
def subAny (t : String) : List String → Option Bool
  | [] => some false
  | n :: r => match subB t n with
    | some true => (subAny t r).map fun _ => true
    | some false => subAny t r
    | none => none
theorem tys_ok {K : PySem.W.Frag} {B : Hp} : ∀ {xs : List D} {ns : List String} {vs : List V}, tys xs = some ns → RL K B xs vs → vs = ns.map V.ty
  | [], bs, vs, h, r => by
    have h : some [] = some bs := h
    injection h with h
    rw [← h, show vs = [] from r]
    rfl
  | .raw (.ty n) :: xs, bs, vs, h, r => by
    have h : (tys xs).map (n :: ·) = some bs := h
    obtain ⟨cs, e, rfl⟩ := Option.map_eq_some_iff.mp h
    obtain ⟨v, ws, rfl, h1, h2⟩ := r
    rw [show v = .ty n from h1, tys_ok e h2]
    rfl
theorem clsV_map : ∀ ns : List String, Paired ClsV (ns.map V.ty) (ns.map Value.type)
  | [] => .nil
  | n :: ns => .cons (.ty n) (clsV_map ns)
theorem subAny_ok {K : PySem.W.Frag} {t : String} : ∀ {ns : List String} {b : Bool}, subAny t ns = some b → PySem.W.kitAny K (.type t) (ns.map Value.type) = some b
  | [], b, h => by
    rw [← h]
    rfl
  | n :: ns, b, h => by
    unfold subAny at h
    split at h
    · rename_i e
      obtain ⟨c, e2, rfl⟩ := Option.map_eq_some_iff.mp h
      exact kitAny_cons (kit_ty (subB_ok e)) (fun z => nomatch z) fun _ => rfl
    · rename_i e
      exact kitAny_cons (kit_ty (subB_ok e)) (fun _ => subAny_ok h) fun z => nomatch z
    · cases h
def gIsi : G1 := fun vs μ Q => match vs with
  | [v, .d (.raw (.ty n))] => (match (tyV' μ v).bind fun t => subB t n with
    | some b => Q (.d (.bl b)) μ
    | none => False)
  | [v, .d (.tup xs)] => (match tyV' μ v, tys xs with
    | some t, some ns => (match subAny t ns with
      | some b => Q (.d (.bl b)) μ
      | none => False)
    | _, _ => False)
  | _ => False
theorem dc_isi1 : DCa X (.builtin "isinstance") (fun vs μ Q => ∃ v n t b, vs = [v, .d (.raw (.ty n))] ∧ tyV' μ v = some t ∧ subB t n = some b ∧ Q (.d (.bl b)) μ) := by
  refine ⟨_, call_isi, fun vs μ Q h B θ H us o r Q' fo => ?_⟩
  obtain ⟨v, n, t, b, rfl, e1, e2, q⟩ := h
  obtain ⟨u, y, rfl, r1, r2⟩ := rvs2 r
  exact ⟨u, y, _, _, b, rfl, by rw [show y = .ty n from r2]; exact .ty n, tyV_ok o r1 e1, kit_ty (subB_ok e2), fo.here (v := .d (.bl b)) q o rfl⟩
/-- the tuple of classes as it was just laid -/
theorem dc_isi2 : DCa X (.builtin "isinstance") (fun vs μ Q => ∃ v xs t ns b, vs = [v, .d (.tup xs)] ∧ tyV' μ v = some t ∧ tys xs = some ns ∧ subAny t ns = some b ∧ Q (.d (.bl b)) μ) := by
  refine ⟨fun xs H Q => ∃ (x : V) (tp : Addr) (cs : List V) (t : Value) (us : List Value) (b : Bool), xs = [x, .ref tp] ∧ SqT X.K H tp cs ∧ Paired ClsV cs us ∧ TyX X.K H x t ∧ PySem.W.kitAny X.K t us = some b ∧ Q (.bl b) H, ?_, fun vs μ Q h B θ H us o r Q' fo => ?_⟩
  · intro pins s σ H xs us Q I r h
    obtain ⟨x, tp, cs, t, ws, b, rfl, hT, k, ty, e, q⟩ := h
    obtain ⟨u1, u2, rfl, r1, r2⟩ := vals2 r
    cases (show u2 = Value.ref tp from r2)
    obtain ⟨P, Z, p, hx⟩ := kit_of I r1 ty
    obtain ⟨its, rv, ⟨ob, h1, h2, n, h3⟩, _⟩ := I.tuple hT
    have e3 := ClsV.all k rv
    subst e3
    obtain ⟨oc, od, dt, sl⟩ := ob
    simp only at h2 h3
    subst h2 h3
    exact PySem.W.kia_tup Z I.kIn p h1 e hx fun tk => ⟨.bl b, H, I.tok tk, rfl, q⟩
  · obtain ⟨v, xs, t, ns, b, rfl, e1, e2, e3, q⟩ := h
    obtain ⟨u, y, rfl, r1, r2⟩ := rvs2 r
    obtain ⟨a, ws, rfl, hs, rl⟩ := r2
    refine ⟨u, a, ns.map V.ty, _, _, b, rfl, ?_, clsV_map ns, tyV_ok o r1 e1, subAny_ok e3, fo.here (v := .d (.bl b)) q o rfl⟩
    rw [← tys_ok e2 rl]
    exact o.ex.sqT hs
theorem dc_isi : DCa X (.builtin "isinstance") gIsi := by
  refine (dc_isi1.or dc_isi2).imp fun vs μ Q h => ?_
  unfold gIsi at h
  split at h
  · split at h
    · rename_i e
      obtain ⟨t, e1, e2⟩ := Option.bind_eq_some_iff.mp e
      exact .inl ⟨_, _, t, _, rfl, e1, e2, h⟩
    · exact h.elim
  · split at h
    · rename_i e1 e2
      split at h
      · rename_i e3
        exact .inr ⟨_, _, _, _, _, rfl, e1, e2, e3, h⟩
      · exact h.elim
    · exact h.elim
  · exact h.elim
end
end DL

/-! DLe: statements, targets, loops, comprehensions. -/
namespace DL
open PySem L2

abbrev EnQ := Es → Mu → Prop
/-- what is wanted behind a statement, on data -/
structure DEnds where
  nx : EnQ
  rt : EQ
  bk : EnQ := fun _ _ => False
  ct : EnQ := fun _ _ => False
abbrev STd := DEnds → Es → Mu → Prop
def FoS (K : PySem.W.Frag) (B : Hp) (θ : List Addr) (H : Hp) (Q : EnQ) (Q' : St → Hp → Prop) : Prop :=
  ∀ es' B' θ' H' σ' μ', Q es' μ' → Gw B θ H B' θ' H' → Ok K B' θ' H' μ' → EnvOk K B' θ' es' σ' → Q' σ' H'
theorem FoS.tr {K : PySem.W.Frag} {B B1 H H1 : Hp} {θ θ1 : List Addr} {Q : EnQ} {Q' : St → Hp → Prop} (f : FoS K B θ H Q Q') (g : Gw B θ H B1 θ1 H1) : FoS K B1 θ1 H1 Q Q' :=
  fun es' B' θ' H' σ' μ' q g' o r => f es' B' θ' H' σ' μ' q (g.tr g') o r
structure LiftD (K : PySem.W.Frag) (B : Hp) (θ : List Addr) (H : Hp) (D : DEnds) (D' : Ends) : Prop where
  nx : FoS K B θ H D.nx D'.nx
  rt : Fo K B θ H D.rt D'.rt
  bk : FoS K B θ H D.bk D'.bk
  ct : FoS K B θ H D.ct D'.ct
theorem LiftD.tr {K : PySem.W.Frag} {B B1 H H1 : Hp} {θ θ1 : List Addr} {D : DEnds} {D' : Ends} (f : LiftD K B θ H D D') (g : Gw B θ H B1 θ1 H1) : LiftD K B1 θ1 H1 D D' := ⟨f.nx.tr g, f.rt.tr g, f.bk.tr g, f.ct.tr g⟩
def SW (K : PySem.W.Frag) (Z : Anc) (t : TS) (D : DEnds) (es : Es) (μ : Mu) : Prop := ∀ B θ σ H, Ok K B θ H μ → EnvOk K B θ es σ → Rch Z B θ H → ∀ D' : Ends, LiftD K B θ H D D' → t D' σ H
structure DS (X : Cx) (Z : Anc) (st : Stmt) (T : STd) : Prop where
  ex : ∃ t, PS X st t ∧ ∀ D es μ, T D es μ → SW X.K Z t D es μ
structure DSs (X : Cx) (Z : Anc) (st : List Stmt) (T : STd) : Prop where
  ex : ∃ t, PSs X st t ∧ ∀ D es μ, T D es μ → SW X.K Z t D es μ
abbrev GTd := D → Es → EnQ → Mu → Prop
section
variable {X : Cx} {Z : Anc} {pos : Pos} {st : Stmt} {rest : List Stmt} {T U : STd}
def dSkip : STd := fun D es μ => D.nx es μ
def dSeq (T U : STd) : STd := fun D es μ => T { D with nx := U D } es μ
theorem dss_nil : DSs X Z [] dSkip := ⟨_, pss_nil, fun D es μ h B θ σ H o en z D' l => l.nx es B θ H σ μ h Gw.rfl o en⟩
theorem dss_cons (h : DS X Z st T) (g : DSs X Z rest U) : DSs X Z (st :: rest) (dSeq T U) := by
  obtain ⟨t, p, w⟩ := h
  obtain ⟨u, q, v⟩ := g
  refine ⟨_, pss_cons p q, fun D es μ h B θ σ H o en z D' l => ?_⟩
  refine w _ es μ h B θ σ H o en z _ ⟨fun es1 B1 θ1 H1 σ1 μ1 q1 g1 o1 en1 => ?_, l.rt, l.bk, l.ct⟩
  exact v D es1 μ1 q1 B1 θ1 σ1 H1 o1 en1 (z.tr g1) D' (l.tr g1)
theorem dss_one (h : DS X Z st T) : DSs X Z [st] T := let ⟨t, p, w⟩ := h; ⟨t, pss_one p, w⟩
theorem ds_pass : DS X Z (.Pass pos) dSkip := ⟨_, ps_pass, fun D es μ h B θ σ H o en z D' l => l.nx es B θ H σ μ h Gw.rfl o en⟩
def dBreak : STd := fun D es μ => D.bk es μ
def dCont : STd := fun D es μ => D.ct es μ
theorem ds_break : DS X Z (.Break pos) dBreak := ⟨_, ps_break, fun D es μ h B θ σ H o en z D' l => l.bk es B θ H σ μ h Gw.rfl o en⟩
theorem ds_cont : DS X Z (.Continue pos) dCont := ⟨_, ps_continue, fun D es μ h B θ σ H o en z D' l => l.ct es B θ H σ μ h Gw.rfl o en⟩
def dDrop (T : ET) : STd := fun D es μ => T es μ fun _ μ1 => D.nx es μ1
theorem ds_expr {e : Expr} {T : ET} (h : DE X Z e T) (hs : swapsWith e none pos.line X.env = pure false := by rfl) : DS X Z (.Expr e pos) (dDrop T) := by
  obtain ⟨t, p, w⟩ := h
  refine ⟨_, ps_expr p hs, fun D es μ h B θ σ H o en z D' l => ?_⟩
  exact w es μ _ h B θ σ H o en z _ fun v B1 θ1 H1 u μ1 q g1 o1 r1 => l.nx es B1 θ1 H1 σ μ1 q g1 o1 (en.mono g1.ex g1.pre)
def dRet (T : ET) : STd := fun D es μ => T es μ D.rt
theorem ds_ret {e : Expr} {T : ET} (h : DE X Z e T) : DS X Z (.Return (some e) pos) (dRet T) := by
  obtain ⟨t, p, w⟩ := h
  refine ⟨_, ps_ret p, fun D es μ h B θ σ H o en z D' l => ?_⟩
  exact w es μ _ h B θ σ H o en z _ l.rt
def dRetN : STd := fun D _ μ => D.rt (.d .non) μ
theorem ds_retN : DS X Z (.Return none pos) dRetN := ⟨_, ps_retN, fun D es μ h B θ σ H o en z D' l => l.rt (.d .non) B θ H _ μ h Gw.rfl o rfl⟩
def dIf (C : TTd) (T U : STd) : STd := fun D es μ => C es μ fun b μ1 => if b = true then T D es μ1 else U D es μ1
theorem ds_if {c : Expr} {a b : List Stmt} {C : TTd} (hc : DT X Z c C) (ha : DSs X Z a T) (hb : DSs X Z b U) : DS X Z (.If c a b pos) (dIf C T U) := by
  obtain ⟨tc, pc, wc⟩ := hc
  obtain ⟨t, p, w⟩ := ha
  obtain ⟨u, q, v⟩ := hb
  refine ⟨_, ps_if pc p q, fun D es μ h B θ σ H o en z D' l => ?_⟩
  refine wc es μ _ h B θ σ H o en z _ fun b B1 θ1 H1 μ1 q g1 o1 => ?_
  cases b with
  | true => exact w D es μ1 q B1 θ1 σ H1 o1 (en.mono g1.ex g1.pre) (z.tr g1) D' (l.tr g1)
  | false => exact v D es μ1 q B1 θ1 σ H1 o1 (en.mono g1.ex g1.pre) (z.tr g1) D' (l.tr g1)

/-! ### targets and assignments -/
/-- a target writes only these slots -/
def Onl (g : TG) (vs : List Nat) : Prop := ∀ u σ H (Q Q' : St → Hp → Prop), (∀ σ2 H2, wipe σ2 vs = wipe σ vs → Q σ2 H2 → Q' σ2 H2) → g u σ H Q → g u σ H Q'
def Onls (g : TGs) (vs : List Nat) : Prop := ∀ u σ H (Q Q' : St → Hp → Prop), (∀ σ2 H2, wipe σ2 vs = wipe σ vs → Q σ2 H2 → Q' σ2 H2) → g u σ H Q → g u σ H Q'
structure DG (X : Cx) (Z : Anc) (tg : Expr) (G : GTd) (sl : List Nat) : Prop where
  ex : ∃ g, PG X tg g ∧ (∀ x es Q μ, G x es Q μ → ∀ B θ σ H u, Ok X.K B θ H μ → EnvOk X.K B θ es σ → R X.K B x u → ∀ Q' : St → Hp → Prop, FoS X.K B θ H Q Q' → g u σ H Q') ∧ ∀ vs, (∀ i ∈ sl, i ∈ vs) → Onl g vs
abbrev GTs := List D → Es → EnQ → Mu → Prop
structure DGs (X : Cx) (Z : Anc) (tg : List Expr) (G : GTs) (sl : List Nat) : Prop where
  ex : ∃ g, PGs X tg g ∧ (∀ x es Q μ, G x es Q μ → ∀ B θ σ H u, Ok X.K B θ H μ → EnvOk X.K B θ es σ → RL X.K B x u → ∀ Q' : St → Hp → Prop, FoS X.K B θ H Q Q' → g u σ H Q') ∧ ∀ vs, (∀ i ∈ sl, i ∈ vs) → Onls g vs
def dgName (i : Nat) : GTd := fun x es Q μ => Q (es.set i (some (.d x))) μ
theorem wipe_set {σ : St} {i : Nat} {x : Option V} : ∀ {vs : List Nat}, i ∈ vs → wipe (σ.set i x) vs = wipe σ vs
  | [], h => absurd h (by simp)
  | v :: vs, h => by
    unfold wipe
    by_cases hi : i ∈ vs
    · rw [wipe_set hi]
    · have hv : i = v := by
        rcases List.mem_cons.mp h with e | e
        · exact e
        · exact absurd e hi
      subst hv
      have key : ∀ (ws : List Nat), i ∉ ws → wipe (σ.set i x) ws = (wipe σ ws).set i x := by
        intro ws
        induction ws with
        | nil => intro _; rfl
        | cons w ws ih =>
          intro hn
          unfold wipe
          rw [ih (fun z => hn (List.mem_cons_of_mem _ z))]
          exact List.set_comm _ _ (fun z => hn (by rw [z]; exact List.mem_cons_self ..))
      rw [key vs hi, List.set_set]
theorem dg_name (i : Nat) {x : Str} (hN : X.N.Nodup) (hi : X.N[i]? = some x := by rfl) (hx : Loc X.env.scope x := by first | exact Or.inl rfl | exact Or.inr rfl) (hf : X.fn x = true ∨ X.env.scope.names.lookup x = some .local := by first | exact .inl rfl | exact .inr rfl | assumption) : DG X Z (.Name x pos) (dgName i) [i] :=
  ⟨_, pg_name hN hi hx hf, fun x es Q μ h B θ σ H u o en r Q' f => f _ B θ H _ μ h Gw.rfl o (en.set (v := .d x) r), fun vs hv u σ H Q Q' f q => f _ _ (wipe_set (hv i (List.mem_singleton.mpr rfl))) q⟩
def dgNil : GTs := fun xs es Q μ => match xs with
  | [] => Q es μ
  | _ => False
def dgCons (G : GTd) (G' : GTs) : GTs := fun xs es Q μ => match xs with
  | x :: r => G x es (fun es1 μ1 => G' r es1 Q μ1) μ
  | [] => False
theorem dgs_nil : DGs X Z [] dgNil [] := ⟨_, pgs_nil, fun x es Q μ h B θ σ H u o en r Q' f => by
  unfold dgNil at h
  split at h
  · exact ⟨r, f _ B θ H _ μ h Gw.rfl o en⟩
  · exact h.elim, fun vs _ u σ H Q Q' f q => ⟨q.1, f _ _ rfl q.2⟩⟩
theorem dgs_cons {e : Expr} {es : List Expr} {G : GTd} {G' : GTs} {sl sl' : List Nat} (h : DG X Z e G sl) (h' : DGs X Z es G' sl') (hs : (assignEach (e :: es) X.env).map (·.2) = assign e X.env :: (assignEach es X.env).map (·.2) := by rfl) : DGs X Z (e :: es) (dgCons G G') (sl ++ sl') := by
  obtain ⟨g, p, w, n⟩ := h
  obtain ⟨g', p', w', n'⟩ := h'
  refine ⟨_, pgs_cons p p' hs, fun x es Q μ h B θ σ H u o en r Q' f => ?_, fun vs hv u σ H Q Q' f q => ?_⟩
  · unfold dgCons at h
    split at h
    · rename_i x xs
      obtain ⟨v, ws, rfl, r1, r2⟩ := r
      refine ⟨v, ws, rfl, w x es _ μ h B θ σ H v o en r1 _ fun es1 B1 θ1 H1 σ1 μ1 q1 g1 o1 en1 => ?_⟩
      exact w' xs es1 Q μ1 q1 B1 θ1 σ1 H1 ws o1 en1 (RL.mono g1.ex _ r2) Q' (f.tr g1)
    · exact h.elim
  · obtain ⟨v, r, e, q⟩ := q
    refine ⟨v, r, e, n vs (fun i hi => hv i (List.mem_append_left _ hi)) _ _ _ _ _ (fun σ2 H2 e2 q2 => ?_) q⟩
    exact n' vs (fun i hi => hv i (List.mem_append_right _ hi)) _ _ _ _ _ (fun σ3 H3 e3 q3 => f _ _ (e3.trans e2) q3) q2
def dgTup (n : Nat) (G : GTs) : GTd := fun x es Q μ => match x with
  | .tup xs => xs.length = n ∧ G xs es Q μ
  | _ => False
theorem dg_tup {es : List Expr} {k n : Nat} {G : GTs} {sl : List Nat} (hc : X.calm = true) (h : DGs X Z es G sl) (hn : (assignEach es X.env).length = n := by rfl) (hst : (assignEach es X.env).findIdx? (·.1) = none := by rfl) : DG X Z (.Tuple es k pos) (dgTup n G) sl := by
  obtain ⟨g, p, w, m⟩ := h
  refine ⟨_, pg_tup hc p hn hst, fun x es Q μ h B θ σ H u o en r Q' f => ?_, fun vs hv u σ H Q Q' f q => ?_⟩
  · unfold dgTup at h
    split at h
    · rename_i xs
      obtain ⟨a, vs, rfl, hs, rl⟩ := r
      exact ⟨a, vs, rfl, o.ex.sqT hs, by rw [← rl.len]; exact h.1, w xs es Q μ h.2 B θ σ H vs o en rl Q' f⟩
    · exact h.elim
  · obtain ⟨a, xs, e, hs, hl, q⟩ := q
    exact ⟨a, xs, e, hs, hl, m vs hv _ _ _ _ _ f q⟩
/-- name = e -/
def dSet (T : ET) (i : Nat) : STd := fun D es μ => T es μ fun v μ1 => D.nx (es.set i (some v)) μ1
theorem ds_set (i : Nat) {x : Str} {e : Expr} {T : ET} {pos' : Pos} (hN : X.N.Nodup) (he : DE X Z e T) (hi : X.N[i]? = some x := by rfl) (hx : Loc X.env.scope x := by first | exact Or.inl rfl | exact Or.inr rfl) (hs : swapsWith e (some (.Name x pos')) pos.line X.env = pure false := by rfl)
    (hf : X.fn x = true ∨ X.env.scope.names.lookup x = some .local := by first | exact .inl rfl | exact .inr rfl | assumption) : DS X Z (.Assign [.Name x pos'] e pos) (dSet T i) := by
  obtain ⟨t, p, w⟩ := he
  refine ⟨_, ps_set hN hi hx p hs hf, fun D es μ h B θ σ H o en z D' l => ?_⟩
  exact w es μ _ h B θ σ H o en z _ fun v B1 θ1 H1 u μ1 q g1 o1 r1 => l.nx _ B1 θ1 H1 _ μ1 q g1 o1 ((en.mono g1.ex g1.pre).set r1)
/-- (a, b) = e, e a tuple of data -/
def dAsgG (T : ET) (G : GTd) : STd := fun D es μ => T es μ fun v μ1 => match v with
  | .d x => G x es D.nx μ1
  | .m _ => False
theorem ds_asg {tg e : Expr} {T : ET} {G : GTd} {sl : List Nat} (he : DE X Z e T) (hg : DG X Z tg G sl) (hs : swapsWithSole [tg] e pos.line X.env = pure false := by rfl) (hw : swappedStores [tg] e X.env = pure none := by rfl)
    (h1 : (assignEach [tg] X.env).map (·.2) = [assign tg X.env] := by rfl) : DS X Z (.Assign [tg] e pos) (dAsgG T G) := by
  obtain ⟨t, p, w⟩ := he
  obtain ⟨g, pg, wg, _⟩ := hg
  refine ⟨_, ps_asg p pg hs hw h1, fun D es μ h B θ σ H o en z D' l => ?_⟩
  refine w es μ _ h B θ σ H o en z _ fun v B1 θ1 H1 u μ1 q g1 o1 r1 => ?_
  dsimp only at q
  split at q
  · rename_i x
    exact wg x es D.nx μ1 q B1 θ1 σ H1 u o1 (en.mono g1.ex g1.pre) r1 _ (l.nx.tr g1)
  · exact q.elim
/-- a, b = x, y -/
def dPar (i j : Nat) (T : ATd) : STd := fun D es μ => T es μ fun vs μ1 => match vs with
  | [v, w] => D.nx ((es.set i (some v)).set j (some w)) μ1
  | _ => False
theorem ds_par (i j : Nat) {x y : Str} {a b : Expr} {T : ATd} {px py pt : Pos} {kt k2 pt2} (hc : X.calm = true) (hN : X.N.Nodup) (ha : DA X Z [a, b] T) (hi : X.N[i]? = some x := by rfl) (hj : X.N[j]? = some y := by rfl) (hij : i ≠ j := by decide)
    (hx : X.env.scope.names.lookup x = some .local := by rfl) (hy : X.env.scope.names.lookup y = some .local := by rfl)
    (hw : swappedStores [.Tuple [.Name x px, .Name y py] kt pt] (.Tuple [a, b] k2 pt2) X.env = pure (some [x, y]) := by rfl)
    (hs : swapsWithSole [.Tuple [.Name x px, .Name y py] kt pt] (.Tuple [a, b] k2 pt2) pos.line X.env = pure false := by rfl) :
    DS X Z (.Assign [.Tuple [.Name x px, .Name y py] kt pt] (.Tuple [a, b] k2 pt2) pos) (dPar i j T) := by
  obtain ⟨t, p, w⟩ := ha
  refine ⟨_, ps_par hc hN hi hj hij hx hy p hw hs, fun D es μ h B θ σ H o en z D' l => ?_⟩
  refine w es μ _ h B θ σ H o en z _ fun vs B1 θ1 H1 us μ1 q g1 o1 r1 => ?_
  dsimp only at q
  split at q
  · obtain ⟨u, v, rfl, h1, h2⟩ := rvs2 r1
    exact ⟨u, v, rfl, l.nx _ B1 θ1 H1 _ μ1 q g1 o1 (((en.mono g1.ex g1.pre).set h1).set h2)⟩
  · exact q.elim
/-- o[i] = e, o a list of the store -/
def setM (o i : Va) (v : Va) (μ : Mu) (Q : Mu → Prop) : Prop := match o, i with
  | .m k, .d (.int j) => (match μ[k]? with
    | some (.lst xs) => (match ixN xs.length j with
      | some n => Q (μ.set k (.lst (xs.set n v)))
      | none => False)
    | _ => False)
  | _, _ => False
def dPut (To Ti T : ET) : STd := fun D es μ => T es μ fun v μ1 => To es μ1 fun o μ2 => Ti es μ2 fun i μ3 => setM o i v μ3 fun μ4 => D.nx es μ4
theorem rvs_set {K : PySem.W.Frag} {B : Hp} {θ : List Addr} {v : Va} {u : V} (r : RV K B θ v u) : ∀ {xs : List Va} {vs : List V} (n : Nat), RVs K B θ xs vs → RVs K B θ (xs.set n v) (vs.set n u)
  | _, _, _, .nil => .nil
  | _, _, 0, .cons h t => .cons r t
  | _, _, n + 1, .cons h t => .cons h (rvs_set r n t)
theorem ds_put {o i e : Expr} {To Ti T : ET} {p2 : Pos} (he : DE X Z e T) (ho : DE X Z o To) (hi : DE X Z i Ti)
    (ha : ∀ v, assign (.Subscript o i p2) X.env v = (do
      let ov ← holding [v] (eval o X.env)
      let iv ← holding [v, ov] (eval i X.env)
      standAt p2
      holding [v, ov, iv] (setItem ov iv v)
      release [v, ov, iv] []) := by intro _; rfl) (hs : swapsWithSole [.Subscript o i p2] e pos.line X.env = pure false := by rfl) (hw : swappedStores [.Subscript o i p2] e X.env = pure none := by rfl)
    (h1 : (assignEach [.Subscript o i p2] X.env).map (·.2) = [assign (.Subscript o i p2) X.env] := by rfl) : DS X Z (.Assign [.Subscript o i p2] e pos) (dPut To Ti T) := by
  obtain ⟨t, p, w⟩ := he
  obtain ⟨to, po, wo⟩ := ho
  obtain ⟨ti, pi, wi⟩ := hi
  refine ⟨_, ps_asg p (pg_sub po pi set_list ha) hs hw h1, fun D es μ h B θ σ H ok en z D' l => ?_⟩
  refine w es μ _ h B θ σ H ok en z _ fun v B1 θ1 H1 u μ1 q g1 o1 r1 => ?_
  refine wo es μ1 _ q B1 θ1 σ H1 o1 (en.mono g1.ex g1.pre) (z.tr g1) _ fun ov B2 θ2 H2 uo μ2 q2 g2 o2 r2 => ?_
  have g12 := g1.tr g2
  refine wi es μ2 _ q2 B2 θ2 σ H2 o2 (en.mono g12.ex g12.pre) (z.tr g12) _ fun iv B3 θ3 H3 ui μ3 q3 g3 o3 r3 => ?_
  have g13 := g12.tr g3
  have rv := RV.mono (g2.tr g3).ex (g2.tr g3).pre r1
  have ro := RV.mono g3.ex g3.pre r2
  dsimp only at q3
  unfold setM at q3
  split at q3
  · split at q3
    · rename_i xs e1
      split at q3
      · rename_i n e2
        obtain ⟨a, h1, rfl⟩ := ro
        obtain ⟨hb, vs, h2, h3⟩ := o3.mu _ a _ h1 e1
        refine ⟨a, vs, _, n, rfl, r3, h2, by rw [← Paired.length h3]; exact e2, ?_⟩
        have hm : RM X.K B3 θ3 (upd H3 a (.lst (vs.set n u))) a (.lst (xs.set n v)) := ⟨hb, _, upd_same, rvs_set rv n h3⟩
        obtain ⟨o4, g4⟩ := o3.write h1 hb hm
        exact l.nx es B3 θ3 _ σ _ q3 (g13.tr g4) o4 (en.mono (g13.tr g4).ex (g13.tr g4).pre)
      · exact q3.elim
    · exact q3.elim
  · exact q3.elim

/-! ### what is walked -/
/-- J yields these items, one after another, in every later state whose store is as C says -/
def Walks (K : PySem.W.Frag) (B : Hp) (θ : List Addr) (H : Hp) (J : It) (xs : List D) (C : Mu → Prop) : Prop := ∀ B' θ' H' μ', Gw B θ H B' θ' H' → Ok K B' θ' H' μ' → C μ' →
  (∀ i, i < xs.length → J.go i H') ∧ (∀ i, i = xs.length → J.stop i H') ∧
  ∀ i x u H'', xs[i]? = some x → J.yld i H' u H'' → ∃ B'', Gw B' θ' H' B'' θ' H'' ∧ Ok K B'' θ' H'' μ' ∧ R K B'' x u
abbrev IQ := List D → (Mu → Prop) → Mu → Prop
abbrev ITd := Es → Mu → IQ → Prop
structure DI (X : Cx) (Z : Anc) (tg iter : Expr) (T : ITd) : Prop where
  ex : ∃ wi, PI X tg iter wi ∧ ∀ es μ Q, T es μ Q → ∀ B θ σ H, Ok X.K B θ H μ → EnvOk X.K B θ es σ → Rch Z B θ H → ∀ R' : It → Hp → Prop,
    (∀ xs C J B' θ' H' μ', Q xs C μ' → Gw B θ H B' θ' H' → Ok X.K B' θ' H' μ' → Walks X.K B' θ' H' J xs C → R' J H') → wi σ H R'
/-- the items of a list (false) or a tuple (true), and what the store must keep -/
def itemsOf (v : Va) (μ : Mu) : Option (Bool × List D × (Mu → Prop)) := match v with
  | .d (.lst xs) => some (false, xs, fun _ => True)
  | .d (.lsk xs) => some (false, xs, fun _ => True)
  | .d (.tup xs) => some (true, xs, fun _ => True)
  | .m k => (match μ[k]? with
    | some (.lst ys) => (match unD ys with
      | some xs => some (false, xs, fun μ' => μ'[k]? = some (.lst ys))
      | none => none)
    | _ => none)
  | _ => none
def dItems (T : ET) : ITd := fun es μ Q => T es μ fun v μ1 => match itemsOf v μ1 with
  | some (_, xs, C) => Q xs C μ1
  | none => False
def SqB (K : PySem.W.Frag) (H : Hp) (a : Addr) : Bool → List V → Prop
  | false, vs => SqL K H a vs
  | true, vs => SqT K H a vs
/-- what stands in every later state -/
def Kept (K : PySem.W.Frag) (B : Hp) (θ : List Addr) (H : Hp) (a : Addr) (b : Bool) (xs : List D) (C : Mu → Prop) : Prop := ∀ B' θ' H' μ', Gw B θ H B' θ' H' → Ok K B' θ' H' μ' → C μ' → ∃ vs, SqB K H' a b vs ∧ RL K B' xs vs
theorem items_ok {K : PySem.W.Frag} {B H : Hp} {θ : List Addr} {μ : Mu} {v : Va} {x : V} {t : Bool} {xs : List D} {C : Mu → Prop} (o : Ok K B θ H μ) (r : RV K B θ v x) (h : itemsOf v μ = some (t, xs, C)) :
    C μ ∧ ∃ a, x = .ref a ∧ Kept K B θ H a t xs C := by
  unfold itemsOf at h
  split at h
  · obtain ⟨rfl, h2⟩ := Prod.mk.inj (Option.some.inj h)
    obtain ⟨rfl, rfl⟩ := Prod.mk.inj h2
    obtain ⟨a, vs, rfl, hs, rl⟩ := r
    have hq : SqL K B a vs := .of hs
    exact ⟨trivial, a, rfl, fun B' θ' H' μ' g o' _ => ⟨vs, o'.ex.sqL (g.ex.sqL hq), RL.mono g.ex _ rl⟩⟩
  · obtain ⟨rfl, h2⟩ := Prod.mk.inj (Option.some.inj h)
    obtain ⟨rfl, rfl⟩ := Prod.mk.inj h2
    obtain ⟨a, vs, rfl, hs, rl⟩ := r
    exact ⟨trivial, a, rfl, fun B' θ' H' μ' g o' _ => ⟨vs, o'.ex.sqL (g.ex.sqL hs), RL.mono g.ex _ rl⟩⟩
  · obtain ⟨rfl, h2⟩ := Prod.mk.inj (Option.some.inj h)
    obtain ⟨rfl, rfl⟩ := Prod.mk.inj h2
    obtain ⟨a, vs, rfl, hs, rl⟩ := r
    exact ⟨trivial, a, rfl, fun B' θ' H' μ' g o' _ => ⟨vs, o'.ex.sqT (g.ex.sqT hs), RL.mono g.ex _ rl⟩⟩
  · split at h
    · rename_i k _ ys e
      split at h
      · rename_i zs e2
        obtain ⟨rfl, h2⟩ := Prod.mk.inj (Option.some.inj h)
        obtain ⟨rfl, rfl⟩ := Prod.mk.inj h2
        obtain ⟨a, h1, rfl⟩ := r
        have e4 := unD_eq e2
        refine ⟨e, a, rfl, fun B' θ' H' μ' g o' hc => ?_⟩
        have h1' : θ'[k]? = some a := by
          obtain ⟨l, rfl⟩ := g.pre
          rw [List.getElem?_append_left (List.getElem?_eq_some_iff.mp h1).1]
          exact h1
        obtain ⟨_, ws, h5, h6⟩ := o'.mu _ a _ h1' hc
        rw [e4] at h6
        exact ⟨ws, .of h5, rl_of_rvs h6⟩
      · cases h
    · cases h
  · cases h
theorem walks_l {K : PySem.W.Frag} {B H : Hp} {θ : List Addr} {a : Addr} {xs : List D} {C : Mu → Prop} (h : Kept K B θ H a false xs C) : Walks K B θ H (Itl K a) xs C := fun B' θ' H' μ' g o c => by
  obtain ⟨vs, hq, r⟩ := h B' θ' H' μ' g o c
  refine ⟨fun i hi => ?_, fun i hi => ⟨vs, hq, by rw [← r.len]; exact Nat.le_of_eq hi.symm⟩, fun i x u H'' hx hy => ?_⟩
  · obtain ⟨v, e, _⟩ := r.at (List.getElem?_eq_getElem hi)
    exact ⟨vs, v, hq, e⟩
  · obtain ⟨rfl, hy⟩ := hy
    obtain ⟨v, e, rv⟩ := r.at hx
    have z := hy vs hq
    rw [e] at z
    cases z
    exact ⟨B', Gw.rfl, o, rv⟩
theorem walks_t {K : PySem.W.Frag} {B H : Hp} {θ : List Addr} {a : Addr} {xs : List D} {C : Mu → Prop} (h : Kept K B θ H a true xs C) : Walks K B θ H (Itt K a) xs C := fun B' θ' H' μ' g o c => by
  obtain ⟨vs, hq, r⟩ := h B' θ' H' μ' g o c
  refine ⟨fun i hi => ?_, fun i hi => ⟨vs, hq, by rw [← r.len]; exact Nat.le_of_eq hi.symm⟩, fun i x u H'' hx hy => ?_⟩
  · obtain ⟨v, e, _⟩ := r.at (List.getElem?_eq_getElem hi)
    exact ⟨vs, v, hq, e⟩
  · obtain ⟨rfl, hy⟩ := hy
    obtain ⟨v, e, rv⟩ := r.at hx
    have z := hy vs hq
    rw [e] at z
    cases z
    exact ⟨B', Gw.rfl, o, rv⟩
section
variable {tg : Expr} {pins : List (Addr × Obj)} {σ : St} {H1 : Hp} {s1 : Shared} {a : Addr} {xs : List V} {Rr : It → Hp → Prop}
theorem iter_l (I1 : Inv X pins σ H1 s1) (hq : SqL X.K H1 a xs) (q : Rr (Itl X.K a) H1) : wpAny (model X.prog X.w) X.A (pyIter (.ref a)) (PIE X pins σ tg Rr) X.xe s1 := by
  obtain ⟨its, rv, p, hz⟩ := I1.list hq
  have hn := I1.hok.fresh (Nat.le_refl s1.heap.objs.size)
  refine wpAny_pyIter_list p.isList ?_
  refine ⟨_, [_], _, Itl X.K a, H1, rfl, ?_, turn_list a _, ⟨_, Heap.get?_push_size _ rfl, rfl, rfl⟩, ?_, q⟩
  · exact I1.kept (t' := s1.toks) fun b o z => Heap.get?_push_of_some _ z
  · intro b hb
    rw [List.mem_singleton] at hb
    rw [hb]
    exact I1.fpOk (Nat.le_refl _) hn
theorem iter_t (I1 : Inv X pins σ H1 s1) (hq : SqT X.K H1 a xs) (q : Rr (Itt X.K a) H1) : wpAny (model X.prog X.w) X.A (pyIter (.ref a)) (PIE X pins σ tg Rr) X.xe s1 := by
  obtain ⟨its, rv, p, hz⟩ := I1.tuple hq
  have hn := I1.hok.fresh (Nat.le_refl s1.heap.objs.size)
  refine wpAny_pyIter_tuple (show s1.heap.IsTuple a its.toArray from p) ?_
  refine ⟨_, [_], _, Itt X.K a, H1, rfl, ?_, turn_tuple a _, ⟨_, Heap.get?_push_size _ rfl, rfl, rfl⟩, ?_, q⟩
  · exact I1.kept (t' := s1.toks) fun b o z => Heap.get?_push_of_some _ z
  · intro b hb
    rw [List.mem_singleton] at hb
    rw [hb]
    exact I1.fpOk (Nat.le_refl _) hn
end
def iAny (K : PySem.W.Frag) (tl : TE) : TI := fun σ H R => tl σ H fun x H1 => ∃ a, x = .ref a ∧ (((∃ xs, SqL K H1 a xs) ∧ R (Itl K a) H1) ∨ ((∃ xs, SqT K H1 a xs) ∧ R (Itt K a) H1))
/-- a list or a tuple walked -/
theorem pi_any {tg l : Expr} {tl : TE} (hl : PE X l tl) : PI X tg l (iAny X.K tl) := by
  refine ⟨fun pins s σ H R I h => ?_⟩
  refine thn (hl.run pins s σ H _ I h) fun v s1 ⟨x, H1, I1, r1, a, e, q⟩ => ?_
  subst e
  cases r1
  rcases q with ⟨⟨xs, hq⟩, q⟩ | ⟨⟨xs, hq⟩, q⟩
  · exact iter_l I1 hq q
  · exact iter_t I1 hq q
theorem di_items {tg l : Expr} {T : ET} (h : DE X Z l T) : DI X Z tg l (dItems T) := by
  obtain ⟨t, p, w⟩ := h
  refine ⟨_, pi_any p, fun es μ Q h B θ σ H o en z R' f => ?_⟩
  refine w es μ _ h B θ σ H o en z _ fun v B1 θ1 H1 u μ1 q g1 o1 r1 => ?_
  dsimp only at q
  split at q
  · rename_i t xs C e
    obtain ⟨c1, a, rfl, hk⟩ := items_ok o1 r1 e
    obtain ⟨vs, hq, _⟩ := hk B1 θ1 H1 μ1 Gw.rfl o1 c1
    cases t with
    | false => exact ⟨a, rfl, .inl ⟨⟨vs, hq⟩, f _ _ _ B1 θ1 H1 μ1 q g1 o1 (walks_l hk)⟩⟩
    | true => exact ⟨a, rfl, .inr ⟨⟨vs, hq⟩, f _ _ _ B1 θ1 H1 μ1 q g1 o1 (walks_t hk)⟩⟩
  · exact q.elim
/-- range(n), range(a, b) -/
def upTo (lo hi : Int) : List D := (List.range (hi - lo).toNat).map fun i => .int (lo + (i : Nat))
theorem walks_r {K : PySem.W.Frag} {B H : Hp} {θ : List Addr} (lo hi : Int) : Walks K B θ H (Itr lo (hi - lo).toNat) (upTo lo hi) (fun _ => True) := fun B' θ' H' μ' g o _ => by
  have hl : (upTo lo hi).length = (hi - lo).toNat := by simp [upTo]
  rw [hl]
  refine ⟨fun i hi => hi, fun i hi => Nat.le_of_eq hi.symm, fun i x u H'' hx hy => ?_⟩
  obtain ⟨rfl, rfl⟩ := hy
  refine ⟨B', Gw.rfl, o, ?_⟩
  unfold upTo at hx
  rw [List.getElem?_map] at hx
  obtain ⟨j, e1, rfl⟩ := Option.map_eq_some_iff.mp hx
  obtain ⟨hj, e2⟩ := List.getElem?_eq_some_iff.mp e1
  rw [List.getElem_range] at e2
  subst e2
  rfl
def dRange1 (T : ATd) : ITd := fun es μ Q => T es μ fun vs μ1 => match vs with
  | [.d (.int j)] => (-(2 ^ 62) ≤ j ∧ j < 2 ^ 62) ∧ Q (upTo 0 j) (fun _ => True) μ1
  | _ => False
def dRange2 (T : ATd) : ITd := fun es μ Q => T es μ fun vs μ1 => match vs with
  | [.d (.int i), .d (.int j)] => (-(2 ^ 62) ≤ i ∧ i < 2 ^ 62 ∧ -(2 ^ 62) ≤ j ∧ j < 2 ^ 62) ∧ Q (upTo i j) (fun _ => True) μ1
  | _ => False
theorem di_range1 {tg a : Expr} {T : ATd} {p : Pos} (hm : X.mg "range" = none) (h : DA X Z [a] T) (hg : Gl X "range" := by rfl) (hs : starEach [a] X.env = [(false, eval a X.env)] := by rfl) : DI X Z tg (.Call (.Name "range" p) [a] [] pos) (dRange1 T) := by
  obtain ⟨t, pa, w⟩ := h
  refine ⟨_, pi_range1 hg hm pa hs, fun es μ Q h B θ σ H o en z R' f => ?_⟩
  refine w es μ _ h B θ σ H o en z _ fun vs B1 θ1 H1 us μ1 q g1 o1 r1 => ?_
  dsimp only at q
  split at q
  · rename_i j
    obtain ⟨u, rfl, r⟩ := rvs1 r1
    refine ⟨j, by rw [show u = .int j from r], q.1.1, q.1.2, ?_⟩
    have e : (j - 0).toNat = j.toNat := by omega
    have y := walks_r (K := X.K) (B := B1) (H := H1) (θ := θ1) 0 j
    rw [e] at y
    exact f _ _ _ B1 θ1 H1 μ1 q.2 g1 o1 y
  · exact q.elim
theorem di_range2 {tg a b : Expr} {T : ATd} {p : Pos} (hm : X.mg "range" = none) (h : DA X Z [a, b] T) (hg : Gl X "range" := by rfl) (hs : starEach [a, b] X.env = [(false, eval a X.env), (false, eval b X.env)] := by rfl) (hs2 : starEach [b] X.env = [(false, eval b X.env)] := by rfl) :
    DI X Z tg (.Call (.Name "range" p) [a, b] [] pos) (dRange2 T) := by
  obtain ⟨t, pa, w⟩ := h
  refine ⟨_, pi_range2 hg hm pa hs hs2, fun es μ Q h B θ σ H o en z R' f => ?_⟩
  refine w es μ _ h B θ σ H o en z _ fun vs B1 θ1 H1 us μ1 q g1 o1 r1 => ?_
  dsimp only at q
  split at q
  · rename_i i j
    obtain ⟨u, y, rfl, r, r'⟩ := rvs2 r1
    exact ⟨i, j, by rw [show u = .int i from r, show y = .int j from r'], q.1, f _ _ _ B1 θ1 H1 μ1 q.2 g1 o1 (walks_r i j)⟩
  · exact q.elim
/-- enumerate(xs), xs a list -/
def enumD (xs : List D) : List D := xs.zipIdx.map fun p => .tup [.int (p.2 : Nat), p.1]
theorem enumD_at {xs : List D} {i : Nat} {y : D} (h : (enumD xs)[i]? = some y) : ∃ x, xs[i]? = some x ∧ y = .tup [.int (i : Nat), x] := by
  unfold enumD at h
  rw [List.getElem?_map, List.getElem?_zipIdx] at h
  cases e : xs[i]? with
  | none => rw [e] at h; cases h
  | some x =>
    rw [e] at h
    simp at h
    exact ⟨x, rfl, h.symm⟩
theorem walks_e {K : PySem.W.Frag} {B H : Hp} {θ : List Addr} {a : Addr} {xs : List D} {C : Mu → Prop} (h : Kept K B θ H a false xs C) : Walks K B θ H (Ite K a) (enumD xs) C := fun B' θ' H' μ' g o c => by
  obtain ⟨vs, hq, r⟩ := h B' θ' H' μ' g o c
  have hl : (enumD xs).length = xs.length := by simp [enumD]
  rw [hl]
  refine ⟨fun i hi => ?_, fun i hi => ⟨vs, hq, by rw [← r.len]; exact Nat.le_of_eq hi.symm⟩, fun i x u H'' hx hy => ?_⟩
  · obtain ⟨v, e, _⟩ := r.at (List.getElem?_eq_getElem hi)
    exact ⟨vs, v, hq, e⟩
  · obtain ⟨T, w, rfl, hT, rfl, hy⟩ := hy
    obtain ⟨y, hx', rfl⟩ := enumD_at hx
    obtain ⟨v, e, rv⟩ := r.at hx'
    have z := hy vs hq
    rw [e] at z
    cases z
    obtain ⟨o1, g1⟩ := o.lay (ob := .tup [.int (i : Nat), w]) hT (fun _ z => nomatch z)
    exact ⟨_, g1, o1, T, _, rfl, .of upd_same, .cons rfl (.one (R.mono g1.ex y rv))⟩
def dEnum (T : ATd) : ITd := fun es μ Q => T es μ fun vs μ1 => match vs with
  | [v] => (match itemsOf v μ1 with
    | some (false, xs, C) => Q (enumD xs) C μ1
    | _ => False)
  | _ => False
theorem di_enum {e : Expr} {T : ATd} {p tpos : Pos} {elts : List Expr} {kk : Nat} (hm : X.mg "enumerate" = none) (h : DA X Z [e] T) (hg : Gl X "enumerate" := by rfl) (hs : starEach [e] X.env = [(false, eval e X.env)] := by rfl) :
    DI X Z (.Tuple elts kk tpos) (.Call (.Name "enumerate" p) [e] [] pos) (dEnum T) := by
  obtain ⟨t, pa, w⟩ := h
  refine ⟨_, pi_enum hg hm pa hs, fun es μ Q h B θ σ H o en z R' f => ?_⟩
  refine w es μ _ h B θ σ H o en z _ fun vs B1 θ1 H1 us μ1 q g1 o1 r1 => ?_
  dsimp only at q
  split at q
  · split at q
    · rename_i xs C e
      obtain ⟨u, rfl, r⟩ := rvs1 r1
      obtain ⟨c1, a, rfl, hk⟩ := items_ok o1 r e
      obtain ⟨ws, hq, _⟩ := hk B1 θ1 H1 μ1 Gw.rfl o1 c1
      exact ⟨a, ws, rfl, hq, f _ _ _ B1 θ1 H1 μ1 q g1 o1 (walks_e hk)⟩
    · exact q.elim
  · exact q.elim

/-! ### for -/
def forL (body : D → STd) (D : DEnds) : List DL.D → Es → Mu → Prop
  | [], es, μ => D.nx es μ
  | x :: xs, es, μ => body x { D with nx := forL body D xs, ct := forL body D xs, bk := D.nx } es μ
def forC (C : Mu → Prop) (body : D → STd) (D : DEnds) : List DL.D → Es → Mu → Prop
  | [], es, μ => C μ ∧ D.nx es μ
  | x :: xs, es, μ => C μ ∧ body x { D with nx := forC C body D xs, ct := forC C body D xs, bk := D.nx } es μ
def dFor (I : ITd) (G : GTd) (T : STd) : STd := fun D es μ => I es μ fun xs C μ1 => forC C (fun x D' es' μ' => G x es' (fun es2 μ2 => T D' es2 μ2) μ') D xs es μ1
theorem ds_for {tg iter : Expr} {body : List Stmt} {I : ITd} {G : GTd} {T : STd} {sl : List Nat} (hp : PassesOwn (model X.prog X.w) X.A X.env X.xe) (hc : X.calm = true) (hi : DI X Z tg iter I) (hg : DG X Z tg G sl) (hb : DSs X Z body T) (hs : ∀ x, foldedSetIterable iter X.env x = pure x := by intro _; rfl) : DS X Z (.For tg iter body [] pos) (dFor I G T) := by
  obtain ⟨wi, pi, wwi⟩ := hi
  obtain ⟨g, pg, wg, _⟩ := hg
  obtain ⟨t, p, w⟩ := hb
  refine ⟨_, ps_for hp hc pi pg p (hs := hs), fun D es μ h B θ σ H o en z D' l => ?_⟩
  refine wwi es μ _ h B θ σ H o en z _ fun xs C J B1 θ1 H1 μ1 q g1 o1 hw => ?_
  refine ⟨fun i m σ2 H2 => ∃ es2 B2 θ2 μ2, m = xs.length - i ∧ i ≤ xs.length ∧ forC C (fun x D' es' μ' => G x es' (fun es2 μ2 => T D' es2 μ2) μ') D (xs.drop i) es2 μ2 ∧ Gw B1 θ1 H1 B2 θ2 H2 ∧ Ok X.K B2 θ2 H2 μ2 ∧ EnvOk X.K B2 θ2 es2 σ2,
    ⟨xs.length, es, B1, θ1, μ1, rfl, Nat.zero_le _, q, Gw.rfl, o1, en.mono g1.ex g1.pre⟩, ?_⟩
  rintro i m σ2 H2 ⟨es2, B2, θ2, μ2, rfl, hi, hf, g2, o2, en2⟩
  have g12 := g1.tr g2
  by_cases hlt : i < xs.length
  · rw [List.drop_eq_getElem_cons hlt] at hf
    obtain ⟨c2, hf⟩ := hf
    obtain ⟨hgo, _, hyl⟩ := hw B2 θ2 H2 μ2 g2 o2 c2
    refine .inr ⟨hgo i hlt, fun σ3 H3 => ∃ es3 B3 θ3 μ3, forC C (fun x D' es' μ' => G x es' (fun es2 μ2 => T D' es2 μ2) μ') D (xs.drop (i + 1)) es3 μ3 ∧ Gw B1 θ1 H1 B3 θ3 H3 ∧ Ok X.K B3 θ3 H3 μ3 ∧ EnvOk X.K B3 θ3 es3 σ3,
      fun σ3 H3 ⟨es3, B3, θ3, μ3, n1, n2, n3, n4⟩ => ⟨xs.length - (i + 1), by omega, es3, B3, θ3, μ3, rfl, hlt, n1, n2, n3, n4⟩, fun u H3 hy => ?_⟩
    obtain ⟨B3, g3, o3, r3⟩ := hyl i xs[i] u H3 (List.getElem?_eq_getElem hlt) hy
    refine wg _ es2 _ μ2 hf B3 θ2 σ2 H3 u o3 (en2.mono g3.ex g3.pre) r3 _ fun es4 B4 θ4 H4 σ4 μ4 q4 g4 o4 en4 => ?_
    have g14 := (g12.tr g3).tr g4
    refine w _ es4 μ4 q4 B4 θ4 σ4 H4 o4 en4 (z.tr g14) _ ⟨fun es5 B5 θ5 H5 σ5 μ5 q5 g5 o5 en5 => ?_, l.rt.tr g14, l.nx.tr g14, fun es5 B5 θ5 H5 σ5 μ5 q5 g5 o5 en5 => ?_⟩
    · exact ⟨es5, B5, θ5, μ5, q5, ((g2.tr g3).tr g4).tr g5, o5, en5⟩
    · exact ⟨es5, B5, θ5, μ5, q5, ((g2.tr g3).tr g4).tr g5, o5, en5⟩
  · have e : i = xs.length := by omega
    rw [e, List.drop_length] at hf
    obtain ⟨c2, hf⟩ := hf
    obtain ⟨_, hst, _⟩ := hw B2 θ2 H2 μ2 g2 o2 c2
    exact .inl ⟨hst i (by omega), l.nx es2 B2 θ2 H2 σ2 μ2 hf g12 o2 en2⟩

/-! ### comprehensions -/
def wipeE (es : Es) : List Nat → Es
  | [] => es
  | v :: vs => (wipeE es vs).set v none
theorem env_wipe {K : PySem.W.Frag} {B : Hp} {θ : List Addr} {es : Es} {σ : St} (en : EnvOk K B θ es σ) : ∀ vs : List Nat, EnvOk K B θ (wipeE es vs) (wipe σ vs)
  | [] => en
  | v :: vs => (env_wipe en vs).unset
structure DTs (X : Cx) (Z : Anc) (e : List Expr) (T : TTd) : Prop where
  ex : ∃ t, PTs X e t ∧ ∀ es μ Q, T es μ Q → TW X.K Z t es μ Q
def dYes : TTd := fun _ μ Q => Q true μ
theorem dts_nil : DTs X Z [] dYes := ⟨_, pts_nil, fun es μ Q h B θ σ H o en z Q' f => f true B θ H μ h Gw.rfl o⟩
theorem dts_one {c : Expr} {T : TTd} (h : DT X Z c T) : DTs X Z [c] T := let ⟨t, p, w⟩ := h; ⟨t, pts_one p, w⟩
def lcC (C : Mu → Prop) (step : D → Mu → (Option D → Mu → Prop) → Prop) : List D → Mu → (List D → Mu → Prop) → Prop
  | [], μ, Q => C μ ∧ Q [] μ
  | x :: xs, μ, Q => C μ ∧ step x μ fun o μ1 => lcC C step xs μ1 fun ys μ2 => Q (o.toList ++ ys) μ2
/-- one turn: the target, the tests, the element -/
def lcStep (es : Es) (G : GTd) (Tt : TTd) (Te : ET) : D → Mu → (Option D → Mu → Prop) → Prop := fun x μ k => G x es (fun es2 μ2 => Tt es2 μ2 fun b μ3 => if b = true then Te es2 μ3 (fun v μ4 => match v with
  | .d y => k (some y) μ4
  | .m _ => False) else k none μ3) μ
def dLc (I : ITd) (G : GTd) (Tt : TTd) (Te : ET) (vs : List Nat) : ET := fun es μ Q => I es μ fun xs C μ1 => xs.length ≤ 16777216 ∧ lcC C (lcStep (wipeE es vs) G Tt Te) xs μ1 fun ys μ2 => Q (.d (.lst ys)) μ2
/-- an object that neither the ground nor the store knows may stand as it likes -/
theorem Ok.hid {K : PySem.W.Frag} {B H : Hp} {θ : List Addr} {μ : Mu} (o : Ok K B θ H μ) {p : Addr} {ob : HO} (h1 : p ∉ θ) (h2 : B p = none) : Ok K B θ (upd H p ob) μ := by
  refine ⟨fun a u e => ?_, o.len, o.nd, fun k a m h3 h4 => ?_, o.ntb⟩
  · rw [upd_ne (ne_of_none e h2)]
    exact o.ex a u e
  · have ha : a ≠ p := fun z => h1 (z ▸ List.mem_of_getElem? h3)
    exact RM.mono Ex.rfl List.prefix_rfl (upd_ne ha) (fun z => z) (o.mu k a m h3 h4)
theorem Gw.hid {B H B' H' : Hp} {θ θ' : List Addr} (g : Gw B θ H B' θ' H') {p : Addr} {ob : HO} (h : H p = none) : Gw B θ H B' θ' (upd H' p ob) := by
  refine ⟨g.ex, g.pre, g.new, fun a o1 h1 h2 h3 h4 => ?_⟩
  have ha : a ≠ p := ne_of_none h3 h
  rw [upd_ne ha]
  exact g.keep a o1 h1 h2 h3 h4
/-- it goes into the ground -/
theorem Ok.own {K : PySem.W.Frag} {B H : Hp} {θ : List Addr} {μ : Mu} (o : Ok K B θ H μ) {p : Addr} {ob : HO} (h1 : p ∉ θ) (h2 : B p = none) (h : H p = some ob) (nt : ∀ ps, ob ≠ .tbl ps) : Ok K (upd B p ob) θ H μ := by
  refine ⟨fun a u e => ?_, o.len, o.nd, fun k a m h3 h4 => ?_, fun a ps e => ?_⟩
  · by_cases ha : a = p
    · rw [ha, upd_same] at e
      rw [ha, h, e]
    · rw [upd_ne ha] at e
      exact o.ex a u e
  · have ha : a ≠ p := fun z => h1 (z ▸ List.mem_of_getElem? h3)
    exact RM.mono (Ex.new h2) List.prefix_rfl rfl (fun z => by rw [upd_ne ha]; exact z) (o.mu k a m h3 h4)
  · by_cases ha : a = p
    · rw [ha, upd_same] at e
      exact nt ps (Option.some.inj e)
    · rw [upd_ne ha] at e
      exact o.ntb a ps e
theorem Gw.own {B H B' H' : Hp} {θ θ' : List Addr} (g : Gw B θ H B' θ' H') {p : Addr} {ob : HO} (h : H p = none) (h2 : B' p = none) : Gw B θ H (upd B' p ob) θ' H' := by
  refine ⟨g.ex.tr (Ex.new h2), g.pre, g.new, fun a o1 h1 h3 h4 h5 => ?_⟩
  have ha : a ≠ p := ne_of_none h4 h
  rw [upd_ne ha]
  exact g.keep a o1 h1 h3 h4 h5
theorem wipe_get {σ : St} {j : Nat} : ∀ {vs : List Nat}, (wipe σ vs)[j]? = if j ∈ vs ∧ j < σ.length then some none else σ[j]?
  | [] => by simp [wipe]
  | v :: vs => by
    unfold wipe
    by_cases hj : j = v
    · subst hj
      by_cases hl : j < σ.length
      · rw [List.getElem?_set_self (by rw [wipe_length]; exact hl), if_pos ⟨List.mem_cons_self .., hl⟩]
      · rw [List.getElem?_eq_none (by rw [List.length_set, wipe_length]; omega), if_neg (fun z => hl z.2), List.getElem?_eq_none (by omega)]
    · rw [List.getElem?_set_ne (Ne.symm hj), wipe_get (vs := vs)]
      by_cases hm : j ∈ vs
      · by_cases hl : j < σ.length
        · rw [if_pos ⟨hm, hl⟩, if_pos ⟨List.mem_cons_of_mem _ hm, hl⟩]
        · rw [if_neg (fun z => hl z.2), if_neg (fun z => hl z.2)]
      · rw [if_neg (fun z => hm z.1), if_neg (fun z => (List.mem_cons.mp z.1).elim hj hm)]
theorem wipe_wipe (σ : St) (vs : List Nat) : wipe (wipe σ vs) vs = wipe σ vs := by
  apply List.ext_getElem?
  intro j
  rw [wipe_get (vs := vs), wipe_get (vs := vs), wipe_length]
  split <;> rfl
theorem lc_core {elt tg iter : Expr} {ifs : List Expr} {scope : Scope} {own : List (Str × Nat)} {I : ITd} {G : GTd} {Tt : TTd} {Te : ET} {sl : List Nat} (hi : DI X Z tg iter I)
    (hg : ∀ (s : Shared) (H : Hp) (C : Addr) (cl : List (Str × Addr)) (fp : List Addr), DG (X.blk s H scope (compEnvC scope cl C X.env) fp) Z tg G sl) (ht : ∀ (s : Shared) (H : Hp) (C : Addr) (cl : List (Str × Addr)) (fp : List Addr), DTs (X.blk s H scope (compEnvC scope cl C X.env) fp) Z ifs Tt)
    (he : ∀ (s : Shared) (H : Hp) (C : Addr) (cl : List (Str × Addr)) (fp : List Addr), DE (X.blk s H scope (compEnvC scope cl C X.env) fp) Z elt Te) (hsl : ∀ i ∈ sl, i ∈ own.map (·.2)) :
    ∃ (wi : TI) (g : TG) (tt : TT) (te : TE), PI X tg iter wi ∧ (∀ (s : Shared) (H : Hp) (C : Addr) (cl : List (Str × Addr)) (fp : List Addr), PG (X.blk s H scope (compEnvC scope cl C X.env) fp) tg g) ∧ (∀ (s : Shared) (H : Hp) (C : Addr) (cl : List (Str × Addr)) (fp : List Addr), PTs (X.blk s H scope (compEnvC scope cl C X.env) fp) ifs tt) ∧
      (∀ (s : Shared) (H : Hp) (C : Addr) (cl : List (Str × Addr)) (fp : List Addr), PE (X.blk s H scope (compEnvC scope cl C X.env) fp) elt te) ∧ ∀ es μ Q, dLc I G Tt Te (own.map (·.2)) es μ Q → EW X.K Z (tLc wi g tt te (own.map (·.2))) es μ Q := by
  obtain ⟨wi, pi, wwi⟩ := hi
  have hg' := fun s H C cl fp => (hg s H C cl fp).ex
  have ht' := fun s H C cl fp => (ht s H C cl fp).ex
  have he' := fun s H C cl fp => (he s H C cl fp).ex
  obtain ⟨g, pg, wg, ng⟩ : ∃ g, (∀ s H C cl fp, PG (X.blk s H scope (compEnvC scope cl C X.env) fp) tg g) ∧ (∀ x es Q μ, G x es Q μ → ∀ B θ σ H u, Ok X.K B θ H μ → EnvOk X.K B θ es σ → R X.K B x u → ∀ Q' : St → Hp → Prop, FoS X.K B θ H Q Q' → g u σ H Q') ∧ Onl g (own.map (·.2)) := by
    refine ⟨fun u σ H Q => ∀ s H0 C cl fp, Classical.choose (hg' s H0 C cl fp) u σ H Q, fun s H0 C cl fp => ⟨fun pins s1 σ H v u Q I r h => (Classical.choose_spec (hg' s H0 C cl fp)).1.run pins s1 σ H v u Q I r (h s H0 C cl fp)⟩, fun x es Q μ h B θ σ H u o en r Q' f s H0 C cl fp => ?_, fun u σ H Q Q' f q s H0 C cl fp => ?_⟩
    · exact (Classical.choose_spec (hg' s H0 C cl fp)).2.1 x es Q μ h B θ σ H u o en r Q' f
    · exact (Classical.choose_spec (hg' s H0 C cl fp)).2.2 _ hsl u σ H Q Q' f (q s H0 C cl fp)
  obtain ⟨tt, pt, wt⟩ : ∃ t, (∀ s H C cl fp, PTs (X.blk s H scope (compEnvC scope cl C X.env) fp) ifs t) ∧ ∀ es μ Q, Tt es μ Q → TW X.K Z t es μ Q := by
    refine ⟨fun σ H Q => ∀ s H0 C cl fp, Classical.choose (ht' s H0 C cl fp) σ H Q, fun s H0 C cl fp => ⟨fun pins s1 σ H Q I h => (Classical.choose_spec (ht' s H0 C cl fp)).1.run pins s1 σ H Q I (h s H0 C cl fp)⟩, fun es μ Q h B θ σ H o en z Q' f s H0 C cl fp => ?_⟩
    exact (Classical.choose_spec (ht' s H0 C cl fp)).2 es μ Q h B θ σ H o en z Q' f
  obtain ⟨te, pe, we⟩ : ∃ t, (∀ s H C cl fp, PE (X.blk s H scope (compEnvC scope cl C X.env) fp) elt t) ∧ ∀ es μ Q, Te es μ Q → EW X.K Z t es μ Q := by
    refine ⟨fun σ H Q => ∀ s H0 C cl fp, Classical.choose (he' s H0 C cl fp) σ H Q, fun s H0 C cl fp => ⟨fun pins s1 σ H Q I h => (Classical.choose_spec (he' s H0 C cl fp)).1.run pins s1 σ H Q I (h s H0 C cl fp)⟩, fun es μ Q h B θ σ H o en z Q' f s H0 C cl fp => ?_⟩
    exact (Classical.choose_spec (he' s H0 C cl fp)).2 es μ Q h B θ σ H o en z Q' f
  refine ⟨wi, g, tt, te, pi, pg, pt, pe, fun es μ Q h B θ σ H o en z Q' fo => ?_⟩
  refine wwi es μ _ h B θ σ H o en z _ fun xs C J B1 θ1 H1 μ1 q g1 o1 hw => ?_
  obtain ⟨hlen, q⟩ := q
  intro p hp
  obtain ⟨np, bp⟩ := o1.fresh hp
  refine ⟨fun i m H2 => ∃ B2 θ2 μ2 ys vs, m = xs.length - i ∧ i ≤ xs.length ∧ H2 p = some (.lst vs) ∧ vs.length ≤ i ∧ RL X.K B2 ys vs ∧ lcC C (lcStep (wipeE es (own.map (·.2))) G Tt Te) (xs.drop i) μ2 (fun zs μ3 => Q (.d (.lst (ys ++ zs))) μ3) ∧ Gw B1 θ1 H1 B2 θ2 H2 ∧ Ok X.K B2 θ2 H2 μ2 ∧ B2 p = none ∧ p ∉ θ2,
    ⟨xs.length, B1, θ1, μ1, [], [], rfl, Nat.zero_le _, upd_same, Nat.le_refl _, RL.nil, q, Gw.rfl.hid hp, o1.hid np bp, bp, np⟩, ?_⟩
  rintro i m H2 ⟨B2, θ2, μ2, ys, vs, rfl, hi, hH, hv, rl, hf, g2, o2, bp2, np2⟩
  by_cases hlt : i < xs.length
  · rw [List.drop_eq_getElem_cons hlt] at hf
    obtain ⟨c2, hf⟩ := hf
    obtain ⟨hgo, _, hyl⟩ := hw B2 θ2 H2 μ2 g2 o2 c2
    obtain ⟨Nx, hNx⟩ : ∃ Nx : Hp → Prop, Nx = fun H3 => ∃ B3 θ3 μ3 ys vs, H3 p = some (.lst vs) ∧ vs.length ≤ i + 1 ∧ RL X.K B3 ys vs ∧ lcC C (lcStep (wipeE es (own.map (·.2))) G Tt Te) (xs.drop (i + 1)) μ3 (fun zs μ3 => Q (.d (.lst (ys ++ zs))) μ3) ∧ Gw B1 θ1 H1 B3 θ3 H3 ∧ Ok X.K B3 θ3 H3 μ3 ∧ B3 p = none ∧ p ∉ θ3 := ⟨_, rfl⟩
    refine .inr ⟨hgo i hlt, Nx, fun H3 h3 => ?_, fun u H3 hy => ?_⟩
    · rw [hNx] at h3
      obtain ⟨B3, θ3, μ3, ys, vs, n1, n2, n3, n4, n5, n6, n7, n8⟩ := h3
      exact ⟨xs.length - (i + 1), by omega, B3, θ3, μ3, ys, vs, rfl, hlt, n1, n2, n3, n4, n5, n6, n7, n8⟩
    obtain ⟨B3, g3, o3, r3⟩ := hyl i xs[i] u H3 (List.getElem?_eq_getElem hlt) hy
    obtain ⟨hp3, bp3⟩ := g3.keep p _ np2 bp2 hH trivial
    have g13 := (g1.tr g2).tr g3
    have en3 := env_wipe (en.mono g13.ex g13.pre) (own.map (·.2))
    -- what stays of the hidden list in a later state
    have hidden : ∀ {B4 : Hp} {θ4 : List Addr} {H4 : Hp}, Gw B3 θ2 H3 B4 θ4 H4 → H4 p = some (.lst vs) ∧ B4 p = none ∧ p ∉ θ4 := fun {B4 θ4 H4} g4 => by
      obtain ⟨a1, a2⟩ := g4.keep p _ np2 bp3 hp3 trivial
      refine ⟨a1, a2, fun z' => ?_⟩
      rcases g4.new p z' with y | y
      · exact np2 y
      · exact y bp3 _ hp3 trivial
    refine ng u _ H3 (fun σ4 H4 => tt σ4 H4 fun b H5 => if b = true then te σ4 H5 fun y H6 => ∃ acc, H6 p = some (.lst acc) ∧ acc.length < sizeLine ∧ Nx (upd H6 p (.lst (acc ++ [y]))) else Nx H5) _ (fun σ4 H4 ew q4 => ?_) (wg xs[i] _ _ μ2 hf B3 θ2 _ H3 u o3 en3 r3 _ fun es4 B4 θ4 H4 σ4 μ4 q4 g4 o4 en4 => ?_)
    · exact ⟨by rw [ew, wipe_wipe], q4⟩
    · have z4 := z.tr (g13.tr g4)
      refine wt es4 μ4 _ q4 B4 θ4 σ4 H4 o4 en4 z4 _ fun b B5 θ5 H5 μ5 q5 g5 o5 => ?_
      have g45 := g4.tr g5
      cases b with
      | true =>
        refine we es4 μ5 _ q5 B5 θ5 σ4 H5 o5 (en4.mono g5.ex g5.pre) (z4.tr g5) _ fun v B6 θ6 H6 y μ6 q6 g6 o6 r6 => ?_
        have g46 := g45.tr g6
        obtain ⟨a1, a2, a3⟩ := hidden g46
        dsimp only at q6
        split at q6
        · rename_i d
          refine ⟨vs, a1, by rw [line24]; omega, ?_⟩
          rw [hNx]
          refine ⟨B6, θ6, μ6, ys ++ [d], vs ++ [y], upd_same, by rw [List.length_append, List.length_singleton]; omega, (RL.mono (g3.tr g46).ex _ rl).app (.one r6), ?_, ((g2.tr g3).tr g46).hid hp, o6.hid a3 a2, a2, a3⟩
          simpa using q6
        · exact q6.elim
      | false =>
        obtain ⟨a1, a2, a3⟩ := hidden g45
        show Nx H5
        rw [hNx]
        refine ⟨B5, θ5, μ5, ys, vs, a1, by omega, RL.mono (g3.tr g45).ex _ rl, ?_, (g2.tr g3).tr g45, o5, a2, a3⟩
        simpa using q5
  · have e : i = xs.length := by omega
    rw [e, List.drop_length] at hf
    obtain ⟨c2, hf⟩ := hf
    obtain ⟨_, hst, _⟩ := hw B2 θ2 H2 μ2 g2 o2 c2
    rw [List.append_nil] at hf
    refine .inl ⟨hst i (by omega), fo (.d (.lst ys)) (upd B2 p (.lst vs)) θ2 H2 _ μ2 hf ?_ (o2.own np2 bp2 hH (fun _ z => nomatch z)) ⟨p, vs, rfl, upd_same, RL.mono (Ex.new bp2) _ rl⟩⟩
    exact g1.tr (g2.own hp bp2)
theorem de_lc {elt tg iter : Expr} {ifs : List Expr} {scope : Scope} {own : List (Str × Nat)} {I : ITd} {G : GTd} {Tt : TTd} {Te : ET} {sl : List Nat} (hc : X.calm = true) (hN : X.N.Nodup) (hi : DI X Z tg iter I) (ok : BlkOk X.N X.env.scope scope own)
    (hg : ∀ (s : Shared) (H : Hp) (C : Addr) (cl : List (Str × Addr)) (fp : List Addr), DG (X.blk s H scope (compEnvC scope cl C X.env) fp) Z tg G sl) (ht : ∀ (s : Shared) (H : Hp) (C : Addr) (cl : List (Str × Addr)) (fp : List Addr), DTs (X.blk s H scope (compEnvC scope cl C X.env) fp) Z ifs Tt)
    (he : ∀ (s : Shared) (H : Hp) (C : Addr) (cl : List (Str × Addr)) (fp : List Addr), DE (X.blk s H scope (compEnvC scope cl C X.env) fp) Z elt Te) (hsl : ∀ i ∈ sl, i ∈ own.map (·.2) := by decide) (hs : ∀ x, foldedSetIterable iter X.env x = pure x := by intro _; rfl) :
    DE X Z (.ListComp elt [⟨tg, iter, ifs, 0⟩] scope pos) (dLc I G Tt Te (own.map (·.2))) := by
  obtain ⟨wi, g, tt, te, pi, pg, pt, pe, w⟩ := lc_core hi hg ht he hsl
  exact ⟨_, pe_lc hc hN pi ok pg pt pe hs, w⟩
/-- name = [..], the name a local -/
theorem ds_setLc (i : Nat) {y : Str} {py : Pos} {spos : Pos} {elt tg iter : Expr} {ifs : List Expr} {scope : Scope} {own : List (Str × Nat)} {I : ITd} {G : GTd} {Tt : TTd} {Te : ET} {sl : List Nat} (hc : X.calm = true) (hN : X.N.Nodup) (hi : DI X Z tg iter I) (ok : BlkOk X.N X.env.scope scope own)
    (hg : ∀ (s : Shared) (H : Hp) (C : Addr) (cl : List (Str × Addr)) (fp : List Addr), DG (X.blk s H scope (compEnvC scope cl C X.env) fp) Z tg G sl) (ht : ∀ (s : Shared) (H : Hp) (C : Addr) (cl : List (Str × Addr)) (fp : List Addr), DTs (X.blk s H scope (compEnvC scope cl C X.env) fp) Z ifs Tt)
    (he : ∀ (s : Shared) (H : Hp) (C : Addr) (cl : List (Str × Addr)) (fp : List Addr), DE (X.blk s H scope (compEnvC scope cl C X.env) fp) Z elt Te) (hk : X.env.scope.kind = .function := by rfl) (hy : X.N[i]? = some y := by rfl) (hyl : X.env.scope.names.lookup y = some .local := by rfl)
    (hl : (py.line == pos.line) = true := by rfl) (ha : (scope.names.any fun (n, k) => n == y && (k == .local || k == .cell)) = false := by rfl) (hsl : ∀ i ∈ sl, i ∈ own.map (·.2) := by decide) (hs : ∀ x, foldedSetIterable iter X.env x = pure x := by intro _; rfl) :
    DS X Z (.Assign [.Name y py] (.ListComp elt [⟨tg, iter, ifs, 0⟩] scope pos) spos) (dSet (dLc I G Tt Te (own.map (·.2))) i) := by
  obtain ⟨wi, g, tt, te, pi, pg, pt, pe, w⟩ := lc_core hi hg ht he hsl
  refine ⟨_, ps_setLc hc hN hy hyl (sw_true hk hyl hl ha) pi ok pg pt pe hs, fun D es μ h B θ σ H o en z D' l => ?_⟩
  exact w es μ _ h B θ σ H o en z _ fun v B1 θ1 H1 u μ1 q g1 o1 r1 => l.nx _ B1 θ1 H1 _ μ1 q g1 o1 ((en.mono g1.ex g1.pre).set r1)
end
end DL

/-! DLf: promises of defs, on data; calls; exceptions that are raised. -/
namespace DL
open PySem L2

/-- what is wanted of an exception: its class, its fields -/
abbrev XQ := Addr → List Str → List D → Mu → Prop
/-- a promise on data: arguments, store, what follows, what is raised -/
abbrev Pr := List Va → Mu → EQ → XQ → Prop
def noX : XQ := fun _ _ _ _ => False
def LiftX (K : PySem.W.Frag) (Z : Anc) (QE : XQ) (E : XK) : Prop := ∀ C dd ns xs vs B θ H μ, QE C ns xs μ → Rch Z B θ H → Ok K B θ H μ → B dd = some (.xd (ns.zip vs)) → ns.length = vs.length → RL K B xs vs → E (.ref C) (some dd) H
/-- the same on values and heaps -/
def lift (K : PySem.W.Frag) (sp : Pr) : Sp := fun vs H Q E => ∃ B θ μ args QD QE, Ok K B θ H μ ∧ RVs K B θ args vs ∧ sp args μ QD QE ∧ Fo K B θ H QD Q ∧ LiftX K ⟨B, θ, H⟩ QE E
/-- how the store of a def's end is cut back -/
def Va.below (m : Nat) : Va → Prop
  | .d _ => True
  | .m k => k < m
def MO.below (m : Nat) : MO → Prop
  | .lst xs => ∀ v ∈ xs, v.below m
  | .dK _ xs => ∀ v ∈ xs, v.below m
  | .ins _ _ xs => ∀ v ∈ xs, v.below m
  | .tab _ _ => True
  | .dead => True
def Cut (μ0 : Mu) (m : Nat) (μ' : Mu) : Prop := μ0.length ≤ m ∧ ∀ k x, k < m → μ'[k]? = some x → μ0[k]? = some x ∨ x.below m
/-- the end of a def: as it stands; what the def has made for itself is let go; a list is handed out as data -/
inductive Fin (μ0 : Mu) (Q : EQ) : Va → Mu → Prop where
  | now {v : Va} {μ : Mu} (h : Q v μ) : Fin μ0 Q v μ
  | cut {v : Va} {μ : Mu} (m : Nat) (hc : Cut μ0 m μ) (hv : v.below m) (h : Q v (μ.take m)) : Fin μ0 Q v μ
  | own {k : Nat} {xs : List D} {μ : Mu} (hk : μ[k]? = some (.lst (xs.map .d))) (h : Fin μ0 Q (.d (.lst xs)) (μ.set k .dead)) : Fin μ0 Q (.m k) μ

theorem rv_cut {K : PySem.W.Frag} {B : Hp} {θ : List Addr} {m : Nat} {v : Va} {u : V} (r : RV K B θ v u) (h : v.below m) : RV K B (θ.take m) v u := by
  cases v with
  | d x => exact r
  | m k =>
    obtain ⟨a, e, rfl⟩ := r
    exact ⟨a, by rw [List.getElem?_take_of_lt h]; exact e, rfl⟩
theorem rvs_cut {K : PySem.W.Frag} {B : Hp} {θ : List Addr} {m : Nat} : ∀ {xs : List Va} {us : List V}, RVs K B θ xs us → (∀ v ∈ xs, v.below m) → RVs K B (θ.take m) xs us
  | _, _, .nil, _ => .nil
  | _, _, .cons r t, h => .cons (rv_cut r (h _ (List.mem_cons_self ..))) (rvs_cut t fun v hv => h v (List.mem_cons_of_mem _ hv))
theorem rm_cut {K : PySem.W.Frag} {B H : Hp} {θ : List Addr} {m : Nat} {a : Addr} : ∀ {x : MO}, RM K B θ H a x → x.below m → RM K B (θ.take m) H a x
  | .lst xs, ⟨h1, vs, h2, h3⟩, h => ⟨h1, vs, h2, rvs_cut h3 h⟩
  | .dK ks xs, ⟨h1, vs, h2, h3, h4⟩, h => ⟨h1, vs, h2, h3, rvs_cut h4 h⟩
  | .ins C ns xs, ⟨h1, dx, vs, h2, h3, h4⟩, h => ⟨h1, dx, vs, h2, h3, rvs_cut h4 h⟩
  | .tab _ _, h, _ => h
  | .dead, h, _ => h
/-- an object's own account tells what is below -/
theorem rv_below {K : PySem.W.Frag} {B : Hp} {θ : List Addr} {v : Va} {u : V} (r : RV K B θ v u) : v.below θ.length := by
  cases v with
  | d x => trivial
  | m k =>
    obtain ⟨a, e, rfl⟩ := r
    exact (List.getElem?_eq_some_iff.mp e).1
theorem rvs_below {K : PySem.W.Frag} {B : Hp} {θ : List Addr} : ∀ {xs : List Va} {us : List V}, RVs K B θ xs us → ∀ v ∈ xs, v.below θ.length
  | _, _, .nil, _, h => nomatch h
  | _, _, .cons r t, v, h => by
    rcases List.mem_cons.mp h with e | e
    · rw [e]
      exact rv_below r
    · exact rvs_below t v e
theorem rm_below {K : PySem.W.Frag} {B H : Hp} {θ : List Addr} {a : Addr} : ∀ {x : MO}, RM K B θ H a x → x.below θ.length
  | .lst xs, ⟨h1, vs, h2, h3⟩ => rvs_below h3
  | .dK ks xs, ⟨h1, vs, h2, h3, h4⟩ => rvs_below h4
  | .ins C ns xs, ⟨h1, dx, vs, h2, h3, h4⟩ => rvs_below h4
  | .tab _ _, _ => trivial
  | .dead, _ => trivial
theorem below_mono {n m : Nat} (h : n ≤ m) : ∀ {x : MO}, x.below n → x.below m
  | .lst xs, q => fun v hv => by
    have z := q v hv
    cases v with
    | d x => trivial
    | m k => exact Nat.lt_of_lt_of_le z h
  | .dK ks xs, q => fun v hv => by
    have z := q v hv
    cases v with
    | d x => trivial
    | m k => exact Nat.lt_of_lt_of_le z h
  | .ins C ns xs, q => fun v hv => by
    have z := q v hv
    cases v with
    | d x => trivial
    | m k => exact Nat.lt_of_lt_of_le z h
  | .tab _ _, _ => trivial
  | .dead, _ => trivial

/-- a state cut back -/
theorem Ok.cut {K : PySem.W.Frag} {B0 B H0 H : Hp} {θ0 θ : List Addr} {μ0 μ : Mu} (o0 : Ok K B0 θ0 H0 μ0) (o : Ok K B θ H μ) (g : Gw B0 θ0 H0 B θ H) {m : Nat} (hc : Cut μ0 m μ) : Ok K B (θ.take m) H (μ.take m) ∧ Gw B0 θ0 H0 B (θ.take m) H := by
  refine ⟨⟨o.ex, by rw [List.length_take, List.length_take, o.len], o.nd.sublist (List.take_sublist _ _), fun k a x h1 h2 => ?_, o.ntb⟩, ⟨g.ex, ?_, fun a ha => g.new a (List.mem_of_mem_take ha), g.keep⟩⟩
  · have hk : k < m := by
      have z := (List.getElem?_eq_some_iff.mp h1).1
      rw [List.length_take] at z
      omega
    rw [List.getElem?_take_of_lt hk] at h1 h2
    have q := o.mu k a x h1 h2
    refine rm_cut q ?_
    rcases hc.2 k x hk h2 with e | e
    · have hk0 : k < θ0.length := by rw [o0.len]; exact (List.getElem?_eq_some_iff.mp e).1
      have q0 := o0.mu k θ0[k] x (List.getElem?_eq_getElem hk0) e
      exact below_mono (by rw [o0.len]; exact hc.1) (rm_below q0)
    · exact e
  · obtain ⟨l, e⟩ := g.pre
    refine ⟨l.take (m - θ0.length), ?_⟩
    have h0 : θ0.take m = θ0 := List.take_of_length_le (by rw [o0.len]; exact hc.1)
    rw [← e, List.take_append, h0]
/-- a list of the store becomes data -/
theorem Ok.frz {K : PySem.W.Frag} {B H : Hp} {θ : List Addr} {μ : Mu} (o : Ok K B θ H μ) {k : Nat} {a : Addr} {xs : List D} (hk : θ[k]? = some a) (hm : μ[k]? = some (.lst (xs.map .d))) :
    ∃ B', Ok K B' θ H (μ.set k .dead) ∧ Gw B θ H B' θ H ∧ R K B' (.lst xs) (.ref a) := by
  obtain ⟨hb, vs, h1, h2⟩ := o.mu k a _ hk hm
  have rl := rl_of_rvs h2
  have exB : Ex B (upd B a (.lst vs)) := Ex.new hb
  refine ⟨upd B a (.lst vs), ⟨fun b u e => ?_, by simp [o.len], o.nd, fun j b x h3 h4 => ?_, fun b ps e => ?_⟩, ⟨exB, List.prefix_rfl, fun b h => .inl h, fun b ob1 h3 h4 h5 _ => ⟨h5, ?_⟩⟩, a, vs, rfl, upd_same, RL.mono exB _ rl⟩
  · by_cases hba : b = a
    · rw [hba, upd_same] at e
      rw [hba, h1, e]
    · rw [upd_ne hba] at e
      exact o.ex b u e
  · by_cases hj : j = k
    · subst hj
      rw [hk] at h3
      cases h3
      rw [List.getElem?_set_self (by rw [← o.len]; exact (List.getElem?_eq_some_iff.mp hk).1)] at h4
      cases h4
      exact ⟨_, upd_same⟩
    · rw [List.getElem?_set_ne (Ne.symm hj)] at h4
      have hne : b ≠ a := fun z => hj (by
        subst z
        obtain ⟨l1, e1⟩ := List.getElem?_eq_some_iff.mp h3
        obtain ⟨l2, e2⟩ := List.getElem?_eq_some_iff.mp hk
        exact (List.getElem_inj o.nd).mp (e1.trans e2.symm))
      exact RM.mono exB List.prefix_rfl rfl (fun z => by rw [upd_ne hne]; exact z) (o.mu j b x h3 h4)
  · by_cases hba : b = a
    · rw [hba, upd_same] at e
      cases e
    · rw [upd_ne hba] at e
      exact o.ntb b ps e
  · have hne : b ≠ a := fun z => h3 (z ▸ List.mem_of_getElem? hk)
    rw [upd_ne hne]
    exact h4
theorem fin_ok {K : PySem.W.Frag} {B0 H0 : Hp} {θ0 : List Addr} {μ0 : Mu} {Q : EQ} {Q' : VK} (o0 : Ok K B0 θ0 H0 μ0) (fo : Fo K B0 θ0 H0 Q Q') {v : Va} {μ : Mu} (h : Fin μ0 Q v μ) : ∀ {B H : Hp} {θ : List Addr} {u : V}, Gw B0 θ0 H0 B θ H → Ok K B θ H μ → RV K B θ v u → Q' u H := by
  induction h with
  | now q => exact fun g o r => fo _ _ _ _ _ _ q g o r
  | cut m hc hv q =>
    intro B H θ u g o r
    obtain ⟨o1, g1⟩ := Ok.cut o0 o g hc
    exact fo _ _ _ _ _ _ q g1 o1 (rv_cut r hv)
  | own hk h ih =>
    intro B H θ u g o r
    obtain ⟨a, e, rfl⟩ := r
    obtain ⟨B', o1, g1, r1⟩ := o.frz e hk
    exact ih (g.tr g1) o1 r1

/-- the exceptions of a context -/
def TakesD (X : Cx) (Z : Anc) (QE : XQ) : Prop := ∃ W : WX, Takes X W ∧ ∀ C dd ns xs vs B θ H μ σ, QE C ns xs μ → Rch Z B θ H → Ok X.K B θ H μ → B dd = some (.xd (ns.zip vs)) → ns.length = vs.length → RL X.K B xs vs → W (.ref C) (some dd) σ H
theorem takesN {X : Cx} {Z : Anc} : TakesD X Z noX := ⟨fun _ _ _ _ => False, LamX.takes0, fun _ _ _ _ _ _ _ _ _ _ h => h.elim⟩

/-! ### calls of defs -/
def dCall (sp : Pr) (ds : List D) (QE : XQ) (T : ATd) : ET := fun es μ Q => T es μ fun vs μ1 => sp (vs ++ ds.map .d) μ1 Q QE
theorem rvs_app {K : PySem.W.Frag} {B : Hp} {θ : List Addr} : ∀ {xs ys : List Va} {us ws : List V}, RVs K B θ xs us → RVs K B θ ys ws → RVs K B θ (xs ++ ys) (us ++ ws)
  | _, _, _, _, .nil, h => h
  | _, _, _, _, .cons r t, h => .cons r (rvs_app t h)
section
variable {X : Cx} {Z : Anc} {pos : Pos}
theorem de_call {x : Str} {f : Addr} {fd : FuncData} {ps : List Str} {k : Nat} {sp : Pr} {ds : List D} {dvs : List V} {dus : List Value} {QE : XQ} {e : Expr} {es : List Expr} {T : ATd} {p : Pos} (F : FnOk X.prog X.w X.K X.mg X.base (L2.CX X.prog X.w) k f fd ps (lift X.K sp)) (hr : Room k X.A)
    (hm : X.mg x = some (.ref f)) (hk : PySem.W.keepIn X.K (.ref f) = true) (hb : Binds X.K fd ps dus) (hd : Vals dvs dus) (hds : ∀ B, RL X.K B ds dvs) (tk : TakesD X Z QE) (ha : DA X Z (e :: es) T) (hg : Gl X x := by rfl)
    (hdb : (x == ("__debug__" : Str)) = false := by decide) (he : starEach (e :: es) X.env = (false, eval e X.env) :: starEach es X.env := by rfl) (hpl : (backTo pos (starEach es X.env)).any (·.1) = false := by rfl) :
    DE X Z (.Call (.Name x p) (e :: es) [] pos) (dCall sp ds QE T) := by
  obtain ⟨W, hW, hq⟩ := tk
  obtain ⟨t, pa, w⟩ := ha
  have hx : Passes (L2.CX X.prog X.w) X (fun cls d H' => ∀ σ, W cls d σ H') := passes_call hW fun cls d σ H h => h σ
  refine ⟨_, pe_call F hr hg hm hk hb hd hx pa hdb he hpl, fun es μ Q h B θ σ H ok en z Q' fo => ?_⟩
  refine w es μ _ h B θ σ H ok en z _ fun vs B1 θ1 H1 us μ1 q g1 o1 r1 => ?_
  refine ⟨B1, θ1, μ1, vs ++ ds.map .d, Q, QE, o1, rvs_app r1 (rvs_of_rl (hds B1)), q, fo.tr g1, fun C dd ns xs vs' B2 θ2 H2 μ2 q2 g2 o2 h1 h2 h3 σ' => ?_⟩
  exact hq C dd ns xs vs' B2 θ2 H2 μ2 σ' q2 ((z.tr g1).tr g2) o2 h1 h2 h3
/-- a body's rule: the def's promise -/
theorem d_fn {P : Program} {w : World} {K : PySem.W.Frag} {mg : Str → Option Value} {base : Heap} {x qual : Str} {params : Arguments} {body : List Stmt} {scope : Scope} {dvs : List V} {kws : List (Str × V)} {f : Addr} {fd : FuncData} {N ps : List Str} {k : Nat} {sp : Pr} {T : XQ → STd}
    (F : FunD K x qual params body scope dvs kws f fd) (S : FnScope N ps scope) (len : ∀ args μ Q QE, sp args μ Q QE → args.length = ps.length)
    (hb : ∀ (cdv : Value) (A : Around) (outer : List Env) (s : Shared) (H : Hp) (E : XK) (Z : Anc) (QE : XQ), Room k (A.deeper (PyProof.Rows.envOfC qual scope s.heap.objs.size f cdv)) → TakesD (cxOf (L2.CX P w) P w K mg base N qual scope f cdv A outer s H E) Z QE →
      DSs (cxOf (L2.CX P w) P w K mg base N qual scope f cdv A outer s H E) Z body (T QE))
    (hp : ∀ args μ Q QE, sp args μ Q QE → T QE { nx := fun _ μ' => Fin μ Q (.d .non) μ', rt := Fin μ Q } (args.map some ++ List.replicate (N.length - args.length) none) μ) :
    FnOk P w K mg base (L2.CX P w) (k + 1) f fd ps (lift K sp) := by
  refine F.ok S (fun vs H Q E h => ?_) fun cdv A outer s H vs Q E hr h => ?_
  · obtain ⟨B, θ, μ, args, QD, QE, o, r, h, _⟩ := h
    rw [← Paired.length r]
    exact len _ _ _ _ h
  · obtain ⟨B, θ, μ, args, QD, QE, o, r, h, fo, lx⟩ := h
    have tk : TakesD (cxOf (L2.CX P w) P w K mg base N qual scope f cdv A outer s H E) ⟨B, θ, H⟩ QE := ⟨fun cls d _ H => E cls d H, takes_of rfl rfl rfl rfl, fun C dd ns xs vs' B2 θ2 H2 μ2 σ q2 g2 o2 h1 h2 h3 => lx C dd ns xs vs' B2 θ2 H2 μ2 q2 g2 o2 h1 h2 h3⟩
    obtain ⟨t, p, wt⟩ := hb cdv A outer s H E ⟨B, θ, H⟩ QE hr tk
    refine ⟨t, p, wt _ _ μ (hp args μ QD QE h) B θ _ H o ?_ Gw.rfl _ ⟨?_, ?_, ?_, ?_⟩⟩
    · have hl := Paired.length r
      refine ⟨by simp [L2.start, hl], fun i v e => ?_⟩
      by_cases hi : i < args.length
      · rw [List.getElem?_append_left (by simpa using hi), List.getElem?_map, List.getElem?_eq_getElem hi] at e
        simp at e
        subst e
        obtain ⟨u, e1, r1⟩ := rvs_at r (List.getElem?_eq_getElem hi)
        refine ⟨u, ?_, r1⟩
        unfold L2.start
        rw [List.getElem?_append_left (by simp; omega), List.getElem?_map, e1]
        rfl
      · rw [List.getElem?_append_right (by simpa using hi), List.getElem?_replicate] at e
        split at e <;> cases e
    · intro es' B' θ' H' σ' μ' q g o' en'
      exact fin_ok o fo (u := V.non) q g o' rfl
    · intro v B' θ' H' u μ' q g o' r'
      exact fin_ok o fo q g o' r'
    · intro es' B' θ' H' σ' μ' q g o' en'
      exact (show False from q).elim
    · intro es' B' θ' H' σ' μ' q g o' en'
      exact (show False from q).elim

/-! ### a local list that becomes data on the way -/
def replE (k : Nat) (x : D) : Option Va → Option Va
  | some (.m j) => if j = k then some (.d x) else some (.m j)
  | o => o
def dFrz (i : Nat) (T : STd) : STd := fun D es μ => match es[i]? with
  | some (some (.m k)) => (match μ[k]? with
    | some (.lst ys) => (match unD ys with
      | some xs => T D (es.map (replE k (.lst xs))) (μ.set k .dead)
      | none => False)
    | _ => False)
  | _ => False
theorem dss_frz (i : Nat) {st : List Stmt} {T : STd} (h : DSs X Z st T) : DSs X Z st (dFrz i T) := by
  obtain ⟨t, p, w⟩ := h
  refine ⟨t, p, fun D es μ h B θ σ H o en z D' l => ?_⟩
  unfold dFrz at h
  split at h
  · rename_i k e1
    split at h
    · rename_i ys e2
      split at h
      · rename_i xs e3
        have e4 := unD_eq e3
        rw [e4] at e2
        obtain ⟨u, h1, a, h2, rfl⟩ := en.at_ i _ e1
        obtain ⟨B', o1, g1, r1⟩ := o.frz h2 e2
        refine w D _ _ h B' θ σ H o1 ⟨by simp [en.len], fun j v e5 => ?_⟩ (z.tr g1) D' (l.tr g1)
        rw [List.getElem?_map] at e5
        cases e6 : es[j]? with
        | none => rw [e6] at e5; cases e5
        | some ov =>
          rw [e6] at e5
          cases ov with
          | none => cases e5
          | some w0 =>
            obtain ⟨u', h3, h4⟩ := en.at_ j w0 e6
            cases w0 with
            | d x =>
              cases e5
              exact ⟨u', h3, R.mono g1.ex x h4⟩
            | m j' =>
              by_cases hj : j' = k
              · subst hj
                simp [replE] at e5
                subst e5
                obtain ⟨a', h5, rfl⟩ := h4
                rw [h2] at h5
                cases h5
                exact ⟨_, h3, r1⟩
              · simp [replE, hj] at e5
                subst e5
                exact ⟨u', h3, h4⟩
      · exact h.elim
    · exact h.elim
  · exact h.elim
end
end DL

/-! DLg: own exceptions raised; calls by keywords; lists with a star. -/
namespace DL
open PySem L2

/-! ### an own exception whose __init__ keeps its arguments -/
/-- __init__(self, ..): each argument in the field of its name, first to last -/
def spIn (K : PySem.W.Frag) (C : Addr) (ns : List Str) : Sp := fun vs H Q _ => ∃ a ys, vs = .ref a :: ys ∧ ys.length = ns.length ∧ H a = some (exo a C none) ∧ OexC K C ∧ (∀ f ∈ ns, PySem.W.findIn K (.ref C) f = some none) ∧
  ∀ dx, H dx = none → dx ≠ a → Q .non (upd (upd H dx (exd dx (ns.zip ys).reverse)) a (exo a C (some dx)))
section
variable {P : Program} {w : World} {K : PySem.W.Frag} {mg : Str → Option Value} {base : Heap} {qual : Str} {params : Arguments} {scope : Scope} {f C : Addr} {fd : FuncData} {k : Nat} {CX : CXT}
theorem init1 {s0 : Stmt} {p1 p2 p3 p4 p5 : Pos} {n1 : Str} (F : FunD K "__init__" qual params [.Assign [.Attribute (.Name "self" p1) n1 p2] (.Name n1 p3) p4] scope [] [] f fd) (S : FnScope ["self", n1] ["self", n1] scope)
    (hs : ∀ (cdv : Value) (s : Shared), swapsWith (.Name n1 p3) (some (.Attribute (.Name "self" p1) n1 p2)) p4.line (PyProof.Rows.envOfC qual scope s.heap.objs.size f cdv) = pure false)
    (hv1 : scope.names.lookup ("self" : Str) = some .local) (hv2 : scope.names.lookup n1 = some .local) (hd : (n1 == ("__debug__" : Str)) = false) (hcd : (n1 == ("__classdict__" : Str)) = false) : FnOk P w K mg base CX (k + 1) f fd ["self", n1] (spIn K C [n1]) := by
  refine F.ok S (fun vs H Q E h => ?_) (fun cdv A outer s H vs Q E hr h => ⟨tOst K n1 (tVar 0) (tVar 1), ?_, ?_⟩)
  · obtain ⟨a, ys, rfl, hl, _⟩ := h
    simp [hl]
  · exact pss_one (ps_ost (pe_var (i := 0) rfl (.inl hv1)) (pe_var (i := 1) rfl (.inl hv2) hd hcd) (hs _ _))
  · obtain ⟨a, ys, rfl, hl, e, T, hn, q⟩ := h
    match ys, hl with
    | [y], _ => exact ⟨y, rfl, .ref a, rfl, a, C, rfl, T, hn n1 (by simp), .inl ⟨e, fun dx h1 h2 => q dx h1 h2⟩⟩
theorem init2 {p1 p2 p3 p4 p5 p6 p7 p8 : Pos} {n1 n2 : Str} (F : FunD K "__init__" qual params [.Assign [.Attribute (.Name "self" p1) n1 p2] (.Name n1 p3) p4, .Assign [.Attribute (.Name "self" p5) n2 p6] (.Name n2 p7) p8] scope [] [] f fd) (S : FnScope ["self", n1, n2] ["self", n1, n2] scope)
    (hs : ∀ (cdv : Value) (s : Shared), swapsWith (.Name n1 p3) (some (.Attribute (.Name "self" p1) n1 p2)) p4.line (PyProof.Rows.envOfC qual scope s.heap.objs.size f cdv) = pure false)
    (hs2 : ∀ (cdv : Value) (s : Shared), swapsWith (.Name n2 p7) (some (.Attribute (.Name "self" p5) n2 p6)) p8.line (PyProof.Rows.envOfC qual scope s.heap.objs.size f cdv) = pure false)
    (hv1 : scope.names.lookup ("self" : Str) = some .local) (hv2 : scope.names.lookup n1 = some .local) (hv3 : scope.names.lookup n2 = some .local) (hd : (n1 == ("__debug__" : Str)) = false) (hcd : (n1 == ("__classdict__" : Str)) = false) (hd2 : (n2 == ("__debug__" : Str)) = false) (hcd2 : (n2 == ("__classdict__" : Str)) = false) :
    FnOk P w K mg base CX (k + 1) f fd ["self", n1, n2] (spIn K C [n1, n2]) := by
  refine F.ok S (fun vs H Q E h => ?_) (fun cdv A outer s H vs Q E hr h => ⟨tSeq (tOst K n1 (tVar 0) (tVar 1)) (tOst K n2 (tVar 0) (tVar 2)), ?_, ?_⟩)
  · obtain ⟨a, ys, rfl, hl, _⟩ := h
    simp [hl]
  · exact pss_cons (ps_ost (pe_var (i := 0) rfl (.inl hv1)) (pe_var (i := 1) rfl (.inl hv2) hd hcd) (hs _ _)) (pss_one (ps_ost (pe_var (i := 0) rfl (.inl hv1)) (pe_var (i := 2) rfl (.inl hv3) hd2 hcd2) (hs2 _ _)))
  · obtain ⟨a, ys, rfl, hl, e, T, hn, q⟩ := h
    match ys, hl with
    | [y, z], _ =>
      refine ⟨y, rfl, .ref a, rfl, a, C, rfl, T, hn n1 (by simp), .inl ⟨e, fun dx h1 h2 => ⟨z, rfl, .ref a, rfl, a, C, rfl, T, hn n2 (by simp), .inr ⟨dx, [(n1, y)], upd_same, ?_, by simp, ?_⟩⟩⟩⟩
      · rw [upd_ne h2]
        exact upd_same
      · have q1 := q dx h1 h2
        have eH : upd (upd (upd H dx (exd dx [(n1, y)])) a (exo a C (some dx))) dx (exd dx [(n2, z), (n1, y)]) = upd (upd H dx (exd dx ([n1, n2].zip [y, z]).reverse)) a (exo a C (some dx)) := by
          funext b
          by_cases hb : b = dx
          · rw [hb, upd_same, upd_ne h2, upd_same]
            rfl
          · rw [upd_ne hb]
            by_cases ha : b = a
            · rw [ha, upd_same, upd_same]
            · rw [upd_ne ha, upd_ne hb, upd_ne ha, upd_ne hb]
        show Q V.non _
        rw [eH]
        exact q1
end
/-- what is known of an own exception's class -/
structure ExcC (X : Cx) (x : Str) (C : Addr) (ns : List Str) (k : Nat) : Prop where
  gC : X.mg x = some (.ref C)
  T : OexC X.K C
  no : ∀ f ∈ ns, PySem.W.findIn X.K (.ref C) f = some none
  ini : ∃ fI fd ps, PySem.W.findIn X.K (.ref C) "__init__" = some (some (.ref fI)) ∧ PySem.W.typeIn X.K (.ref fI) = some (.type "function") ∧ FnOk X.prog X.w X.K X.mg X.base (L2.CX X.prog X.w) k fI fd ps (spIn X.K C ns) ∧ Binds X.K fd ps []
def dRaise (C : Addr) (ns : List Str) (QE : XQ) (T : ATd) : STd := fun D es μ => T es μ fun vs μ1 => match unD vs with
  | some xs => xs.length = ns.length ∧ xs.length ≤ 1000 ∧ QE C ns.reverse xs.reverse μ1
  | none => False
theorem rl_rev {K : PySem.W.Frag} {B : Hp} : ∀ {xs : List D} {vs : List V}, RL K B xs vs → RL K B xs.reverse vs.reverse
  | [], vs, h => by
    rw [show vs = [] from h]
    exact RL.nil
  | x :: xs, vs, h => by
    obtain ⟨v, ws, rfl, h1, h2⟩ := h
    rw [List.reverse_cons, List.reverse_cons]
    exact (rl_rev h2).app (.one h1)
theorem zip_rev {α β : Type} {xs : List α} {ys : List β} (h : xs.length = ys.length) : (xs.zip ys).reverse = xs.reverse.zip ys.reverse := by
  unfold List.zip
  exact List.reverse_zipWith h
section
variable {X : Cx} {Z : Anc} {pos : Pos}
theorem passF {E : Value → Shared → Prop} : Passes (L2.CX X.prog X.w) X (fun _ _ _ => False) := fun pins σ H s e s' I h => by
  obtain ⟨_, _, _, _, _, _, _, _, _, _, _, _, z⟩ := h
  exact z.elim
theorem ds_raise {x : Str} {C : Addr} {ns : List Str} {k : Nat} {QE : XQ} {e : Expr} {es : List Expr} {T : ATd} {p pos2 : Pos} (hc : X.calm = true) (E : ExcC X x C ns k) (hr : Room (k + 1) X.A) (tk : TakesD X Z QE) (ha : DA X Z (e :: es) T) (hg : Gl X x := by rfl)
    (hdb : (x == ("__debug__" : Str)) = false := by decide) (he : starEach (e :: es) X.env = (false, eval e X.env) :: starEach es X.env := by rfl) (hpl : (backTo pos (starEach es X.env)).any (·.1) = false := by rfl) :
    DS X Z (.Raise (some (.Call (.Name x p) (e :: es) [] pos)) none pos2) (dRaise C ns QE T) := by
  obtain ⟨t, pa, w⟩ := ha
  obtain ⟨W, hW, hq⟩ := tk
  obtain ⟨fI, fd, ps, iC, tI, F1, hb⟩ := E.ini
  refine ⟨_, ps_raise hc hW (pmk_oex E.T iC tI F1 hr hb .nil (passF (E := X.xe)) hg E.gC pa hdb he hpl), fun D es μ h B θ σ H o en z D' l => ?_⟩
  refine w es μ _ h B θ σ H o en z _ fun vs B1 θ1 H1 us μ1 q g1 o1 r1 => ?_
  dsimp only at q
  split at q
  · rename_i xs e1
    obtain ⟨q1, q2, q3⟩ := q
    rw [unD_eq e1] at r1
    have rl := rl_of_rvs r1
    refine ⟨by rw [← rl.len]; exact q2, fun a hn => ⟨a, us, by rw [List.append_nil], by rw [← rl.len, q1], upd_same, E.T, E.no, fun dx h1 h2 => ?_⟩⟩
    rw [upd_ne h2] at h1
    refine ⟨rfl, dx, (ns.zip us).reverse, upd_same, by rw [upd_ne h2]; exact upd_same, h1, ?_⟩
    have eH : upd (del (upd (upd (upd H1 a (exo a C none)) dx (exd dx (ns.zip us).reverse)) a (exo a C (some dx))) a) dx (.xd (ns.zip us).reverse) = upd H1 dx (.xd (ns.zip us).reverse) := by
      funext b
      by_cases hb : b = dx
      · rw [hb, upd_same, upd_same]
      · rw [upd_ne hb, upd_ne hb]
        by_cases hba : b = a
        · rw [hba, del_same, hn]
        · rw [del_ne hba, upd_ne hba, upd_ne hb, upd_ne hba]
    rw [eH, zip_rev (by rw [← rl.len, q1])]
    obtain ⟨o2, g2⟩ := o1.lay (ob := .xd (ns.reverse.zip us.reverse)) h1 (fun _ z => nomatch z)
    exact hq C dx ns.reverse xs.reverse us.reverse _ θ1 _ μ1 σ q3 ((z.tr g1).tr g2) o2 upd_same (by rw [List.length_reverse, List.length_reverse, ← rl.len, q1]) (RL.mono g2.ex _ (rl_rev rl))
  · exact q.elim
end
end DL

/-! DLh: stars, keywords, counts, dicts. -/
namespace DL
open PySem L2

section
variable {X : Cx} {Z : Anc} {pos : Pos}
/-! ### [*xs, e] -/
def dStar (Te : ET) (Tr : ATd) : ATd := fun es μ Q => Te es μ fun v μ1 => match asS μ1 v with
  | some xs => Tr es μ1 fun ws μ2 => Q (xs.map .d ++ ws) μ2
  | none => False
theorem da_star {e : Expr} {es : List Expr} {Te : ET} {Tr : ATd} {p : Pos} (he : DE X Z e Te) (hr : DA X Z es Tr) (hs : starEach (.Starred e p :: es) X.env = (true, eval e X.env) :: starEach es X.env := by rfl) : DA X Z (.Starred e p :: es) (dStar Te Tr) := by
  obtain ⟨te, pe, we⟩ := he
  obtain ⟨tr, pr, wr⟩ := hr
  refine ⟨_, StX.pa_star pe pr hs, fun es μ Q h B θ σ H o en z Q' f => ?_⟩
  refine we es μ _ h B θ σ H o en z _ fun v B1 θ1 H1 u μ1 q g1 o1 r1 => ?_
  dsimp only at q
  split at q
  · rename_i xs e
    obtain ⟨a, vs, rfl, hq, rl⟩ := asS_ok o1 r1 e
    refine ⟨a, vs, rfl, hq.symm, wr es μ1 _ q B1 θ1 σ H1 o1 (en.mono g1.ex g1.pre) (z.tr g1) _ fun ws B2 θ2 H2 us μ2 q2 g2 o2 r2 => ?_⟩
    exact f (xs.map .d ++ ws) B2 θ2 H2 (vs ++ us) μ2 q2 (g1.tr g2) o2 (rvs_app (rvs_of_rl (RL.mono g2.ex _ rl)) r2)
  · exact q.elim

/-! ### f(k = v, ..) -/
structure DK (X : Cx) (Z : Anc) (kws : List Keyword) (T : ATd) : Prop where
  ex : ∃ t, PK X kws t ∧ ∀ es μ Q, T es μ Q → AW X.K Z t es μ Q
theorem dk_nil : DK X Z [] dNil := ⟨_, pk_nil, fun es μ Q h B θ σ H o en _ Q' f => f [] B θ H [] μ h Gw.rfl o .nil⟩
theorem dk_cons {nm : Option Str} {kpos : Pos} {e : Expr} {kws : List Keyword} {Ta : ET} {Tr : ATd} (ha : DE X Z e Ta) (hr : DK X Z kws Tr) : DK X Z (⟨nm, e, kpos⟩ :: kws) (dCons Ta Tr) := by
  obtain ⟨ta, pa, wa⟩ := ha
  obtain ⟨tr, pr, wr⟩ := hr
  refine ⟨_, pk_cons pa pr, fun es μ Q h B θ σ H o en z Q' f => ?_⟩
  refine wa es μ _ h B θ σ H o en z _ fun v B1 θ1 H1 u μ1 q g1 o1 r1 => ?_
  refine wr es μ1 _ q B1 θ1 σ H1 o1 (en.mono g1.ex g1.pre) (z.tr g1) _ fun vs B2 θ2 H2 us μ2 q2 g2 o2 r2 => ?_
  exact f (v :: vs) B2 θ2 H2 (u :: us) μ2 q2 (g1.tr g2) o2 (.cons (RV.mono g2.ex g2.pre r1) r2)
/-- only keywords; π puts their values in the parameters' order -/
def swap2 {α : Type} : List α → List α
  | [x, y] => [y, x]
  | l => l
/-- keywords alone bind -/
def kw0 {α : Type} (sw : Bool) : List α → List α → List α
  | [], ws => if sw then swap2 ws else ws
  | _ :: _, _ => []
def dCallK (sp : Pr) (QE : XQ) (sw : Bool) (T : ATd) : ET := fun es μ Q => T es μ fun vs μ1 => sp (if sw then swap2 vs else vs) μ1 Q QE
theorem vals_swap {vs : List V} {us : List Value} (h : Vals vs us) : Vals (swap2 vs) (swap2 us) := by
  cases h with
  | nil => exact .nil
  | cons a t => cases t with
    | nil => exact .cons a .nil
    | cons b t => cases t with
      | nil => exact .cons b (.cons a .nil)
      | cons c t => exact .cons a (.cons b (.cons c t))
theorem rvs_swap {K : PySem.W.Frag} {B : Hp} {θ : List Addr} {vs : List Va} {us : List V} (h : RVs K B θ vs us) : RVs K B θ (swap2 vs) (swap2 us) := by
  cases h with
  | nil => exact .nil
  | cons a t => cases t with
    | nil => exact .cons a .nil
    | cons b t => cases t with
      | nil => exact .cons b (.cons a .nil)
      | cons c t => exact .cons a (.cons b (.cons c t))
theorem de_callK {x : Str} {f : Addr} {fd : FuncData} {ps ks : List Str} {k : Nat} {sp : Pr} {QE : XQ} {kws : List Keyword} {T : ATd} {p : Pos} (sw : Bool) (F : FnOk X.prog X.w X.K X.mg X.base (L2.CX X.prog X.w) k f fd ps (lift X.K sp)) (hr : Room k X.A)
    (hm : X.mg x = some (.ref f)) (hk : PySem.W.keepIn X.K (.ref f) = true) (hb : KBinds X.K fd ps ks (kw0 sw) (kw0 sw)) (tk : TakesD X Z QE) (ha : DK X Z kws T) (hg : Gl X x := by rfl)
    (hdb : (x == ("__debug__" : Str)) = false := by decide) (hall : (backToKw pos (keywordEach kws X.env)).all (·.1.isSome) = true := by rfl) (hks : (backToKw pos (keywordEach kws X.env)).filterMap (·.1) = ks := by rfl)
    (hpl : ((backTo pos (starEach [] X.env)).any (·.1) || (backToKw pos (keywordEach kws X.env)).any (·.1.isNone)) = false := by rfl) :
    DE X Z (.Call (.Name x p) [] kws pos) (dCallK sp QE sw T) := by
  obtain ⟨W, hW, hq⟩ := tk
  obtain ⟨t, pa, w⟩ := ha
  have hx : Passes (L2.CX X.prog X.w) X (fun cls d H' => ∀ σ, W cls d σ H') := passes_call hW fun cls d σ H h => h σ
  refine ⟨fun σ H Q => t σ H fun zs H1 => lift X.K sp (if sw then swap2 zs else zs) H1 Q (fun cls d H' => ∀ σ, W cls d σ H'), ⟨fun pins s σ H Q I h => ?_⟩, fun es μ Q h B θ σ H ok en z Q' fo => ?_⟩
  · refine wpAny_Call_Name_kw (ld_glob I hg hm ?_ hdb)
    refine PySem.W.callWith_KW0 (h₀ := X.base) I.ok.mod.kin hk hall (thn (pa.run pos pins s σ H _ I h) fun ws s2 ⟨zs, H2, I2, rz, q2⟩ => ⟨I2.kIn, ?_⟩) hpl
    rw [hks]
    exact run_fnk (us := []) (vs := []) F hr hb hx I2 .nil rz q2
  · refine w es μ _ h B θ σ H ok en z _ fun vs B1 θ1 H1 us μ1 q g1 o1 r1 => ?_
    refine ⟨B1, θ1, μ1, _, Q, QE, o1, ?_, q, fo.tr g1, fun C dd ns xs vs' B2 θ2 H2 μ2 q2 g2 o2 h1 h2 h3 σ' => hq C dd ns xs vs' B2 θ2 H2 μ2 σ' q2 ((z.tr g1).tr g2) o2 h1 h2 h3⟩
    cases sw with
    | true => exact rvs_swap r1
    | false => exact r1

/-! ### xs.count(y), xs.index(y), flat items -/
def rCntF (K : PySem.W.Frag) : V → List V → Hp → VK → Prop := fun x xs H Q => ∃ (p : Addr) (ys : List V) (y : V), x = .ref p ∧ xs = [y] ∧ SqL K H p ys ∧ flatV y = true ∧ ys.all flatV = true ∧ Q (.int (ys.countP fun z => eqV z y : Nat)) H
theorem count_eqU {y : V} {uy : Value} (ry : RelV y uy) : ∀ {ys : List V} {us : List Value}, Vals ys us → ys.all flatV = true → us.countP (eqU y) = ys.countP fun z => eqV z y
  | _, _, .nil, _ => rfl
  | x :: ys, u :: us, .cons r t, h => by
    rw [List.all_cons, Bool.and_eq_true] at h
    rw [List.countP_cons, List.countP_cons, count_eqU ry t h.2, eqU_of r h.1]
theorem mt_countF {X : Cx} : MtR X "list.count" (rCntF X.K) := by
  intro pins s σ H x xs v us Q I rx rxs h
  obtain ⟨p, ys, y, e1, e2, hs, fy, fys, q⟩ := h
  subst e1 e2
  have e3 : v = Value.ref p := rx
  subst e3
  obtain ⟨u, e4, ru⟩ := rxs.one
  subst e4
  obtain ⟨its, rv, ⟨⟨cls, dd, data, sl⟩, n, ho, hc, hdn, hd⟩, hlen⟩ := I.list hs
  simp only at hc hd
  subst hc hd
  have hT : s.TypeIs (.ref p) "list" := ⟨_, ho, rfl⟩
  refine call_meets PySem.F.slot_list_count hT PySem.F.entry_list_count (PySem.F.args_list_count_2 _ _) (SeqAt.list_countAt p its.toArray n dd sl u (eqU y)) ?_
  refine ⟨ho, fun z hz => mem_eqAt ru fy rv fys z (by simpa using hz), ?_⟩
  have ec : its.toArray.toList.countP (eqU y) = ys.countP fun z => eqV z y := count_eqU ru rv fys
  rw [ec]
  exact ⟨.int (ys.countP fun z => eqV z y : Nat), H, I.tok _, ⟨s.toks, rfl⟩, q⟩
def eqD (y x : D) : Bool := eqV (fl x) (fl y)
def gCount (v w : Va) (μ : Mu) (Q : EQ) : Prop := match asR μ v, w with
  | some xs, .d y => isFl y = true ∧ xs.all isFl = true ∧ Q (.d (.int (xs.countP (eqD y) : Nat))) μ
  | _, _ => False
def gIndex (v w : Va) (μ : Mu) (Q : EQ) : Prop := match asR μ v, w with
  | some xs, .d y => isFl y = true ∧ xs.all isFl = true ∧ (∃ j, xs.findIdx? (eqD y) = some j ∧ Q (.d (.int (j : Nat))) μ)
  | _, _ => False
def dMeth1 (g : Va → Va → Mu → EQ → Prop) (To : ET) (T : ATd) : ET := fun es μ Q => To es μ fun v μ1 => (asR μ1 v).isSome = true ∧ T es μ1 fun ws μ2 => match ws with
  | [w] => g v w μ2 Q
  | _ => False
theorem de_meth1 {o e : Expr} {name : Str} {id : String} {r : V → List V → Hp → VK → Prop} {g : Va → Va → Mu → EQ → Prop} {To : ET} {T : ATd} {apos cpos : Pos} (slot : Slot "list" name id) (hty : typeOf (.builtin id) = pure (.type "method_descriptor")) (pa : PlainAttrs "list")
    (hm : MtR X id r) (hg : ∀ v w μ Q B θ H x y, g v w μ Q → Ok X.K B θ H μ → RV X.K B θ v x → RV X.K B θ w y → ∀ Q' : VK, Fo X.K B θ H Q Q' → r x [y] H Q') (ho : DE X Z o To) (ha : DA X Z [e] T)
    (hbase : attributeBase o name X.env (eval o X.env) = eval o X.env := by rfl)
    (hfew : ((backTo cpos (starEach [e] X.env)).all (fun x => !x.1) && (backToKw cpos (keywordEach [] X.env)).all (fun x => x.1.isSome) && decide (([e] : List Expr).length + ([] : List Keyword).length + (if ([] : List Keyword).isEmpty then 0 else 1) < 30)) = true := by rfl)
    (hline : (apos.endLine == cpos.line) = true := by rfl) (hs : starEach [e] X.env = (false, eval e X.env) :: starEach [] X.env := by rfl) (hplain : (backTo cpos (starEach [] X.env)).any (·.1) = false := by rfl) :
    DE X Z (.Call (.Attribute o name apos) [e] [] cpos) (dMeth1 g To T) := by
  obtain ⟨to, po, wo⟩ := ho
  obtain ⟨ta, pa', wa⟩ := ha
  refine ⟨_, pe_bm pa slot hty hm po pa' hbase hfew hline hs hplain, fun es μ Q h B θ σ H ok en z Q' fo => ?_⟩
  refine wo es μ _ h B θ σ H ok en z _ fun v B1 θ1 H1 x μ1 q g1 o1 r1 => ?_
  obtain ⟨hl, q⟩ := q
  obtain ⟨xs, e1⟩ := Option.isSome_iff_exists.mp hl
  obtain ⟨a, vs, ex, hq, rl⟩ := asR_ok o1 r1 e1
  subst ex
  refine ⟨.inl ⟨rfl, vs, hq⟩, wa es μ1 _ q B1 θ1 σ H1 o1 (en.mono g1.ex g1.pre) (z.tr g1) _ fun ws B2 θ2 H2 us μ2 q2 g2 o2 r2 => ?_⟩
  dsimp only at q2
  split at q2
  · obtain ⟨u, eu, ru⟩ := rvs1 r2
    subst eu
    exact hg _ _ μ2 Q B2 θ2 H2 _ _ q2 o2 (RV.mono g2.ex g2.pre r1) ru Q' (fo.tr (g1.tr g2))
  · exact q2.elim
theorem countD {y : D} : ∀ xs : List D, (xs.map fl).countP (fun z => eqV z (fl y)) = xs.countP (eqD y)
  | [] => rfl
  | x :: xs => by
    rw [List.map_cons, List.countP_cons, List.countP_cons, countD xs]
    rfl
theorem g_count {v w : Va} {μ : Mu} {Q : EQ} {B : Hp} {θ : List Addr} {H : Hp} {x y : V} (h : gCount v w μ Q) (o : Ok X.K B θ H μ) (r : RV X.K B θ v x) (r2 : RV X.K B θ w y) {Q' : VK} (fo : Fo X.K B θ H Q Q') : rCntF X.K x [y] H Q' := by
  unfold gCount at h
  split at h
  · rename_i xs d e
    obtain ⟨h1, h2, q⟩ := h
    obtain ⟨a, vs, ex, hq, rl⟩ := asR_ok o r e
    subst ex
    obtain ⟨e1, e2⟩ := fl_ok h1 r2
    obtain ⟨e3, e4⟩ := fls_ok h2 rl
    refine ⟨a, vs, y, rfl, rfl, hq, e2, e4, ?_⟩
    rw [e1, e3, countD]
    exact fo.here (v := .d (.int _)) q o rfl
  · exact h.elim
theorem g_index {v w : Va} {μ : Mu} {Q : EQ} {B : Hp} {θ : List Addr} {H : Hp} {x y : V} (h : gIndex v w μ Q) (o : Ok X.K B θ H μ) (r : RV X.K B θ v x) (r2 : RV X.K B θ w y) {Q' : VK} (fo : Fo X.K B θ H Q Q') : rIndex X.K x [y] H Q' := by
  unfold gIndex at h
  split at h
  · rename_i xs d e
    obtain ⟨h1, h2, j, hj, q⟩ := h
    obtain ⟨a, vs, ex, hq, rl⟩ := asR_ok o r e
    subst ex
    obtain ⟨e1, e2⟩ := fl_ok h1 r2
    obtain ⟨e3, e4⟩ := fls_ok h2 rl
    obtain ⟨hlt, hp, hn⟩ := List.findIdx?_eq_some_iff_getElem.mp hj
    refine ⟨a, vs, y, j, fl xs[j], rfl, rfl, hq, e2, e4, ?_, ?_, ?_, fo.here (v := .d (.int _)) q o rfl⟩
    · rw [e3, List.getElem?_map, List.getElem?_eq_getElem hlt]
      rfl
    · rw [e1]
      exact hp
    · intro m z' hm hz
      rw [e3, List.getElem?_map, List.getElem?_eq_getElem (Nat.lt_trans hm hlt)] at hz
      have hz2 : fl xs[m] = z' := Option.some.inj hz
      rw [← hz2, e1]
      have z := hn m hm
      simpa [eqD] using z
  · exact h.elim
end
end DL

/-! DLi: zip of any two of lists, tuples, texts. -/
namespace DL
open PySem PySem.Spec PyProof.Rows L2

/-- one side of a zip -/
inductive Zs where
  | str (x : Str) | lst (a : Addr) | tup (a : Addr)
def signV (x : Str) : List V := x.cps.toList.map fun c => V.str ⟨#[c]⟩
def signs (x : Str) : List D := x.cps.toList.map fun c => D.str ⟨#[c]⟩
def Zs.val : Zs → V
  | .str x => .str x
  | .lst a => .ref a
  | .tup a => .ref a
def Zs.of (K : PySem.W.Frag) (H : Hp) : Zs → List V → Prop
  | .str x, vs => vs = signV x
  | .lst a, vs => SqL K H a vs
  | .tup a, vs => SqT K H a vs
def Zs.adr : Zs → List Addr
  | .str _ => []
  | .lst a => [a]
  | .tup a => [a]
def Zs.cell (t : Tok) : Zs → Addr → Nat → Heap → Prop
  | .str x, it, i, h => h.IsStrIter it (strIterType x) x t i
  | .lst a, it, i, h => h.IsListIter it a i
  | .tup a, it, i, h => h.IsTupleIter it a i
theorem Zs.cell_at {t : Tok} {z : Zs} {it : Addr} {i : Nat} {h h' : Heap} (st : z.cell t it i h) (k : ∀ o, h.get? it = some o → h'.get? it = some o) : z.cell t it i h' := by
  cases z with
  | str x => obtain ⟨o, e, r⟩ := st; exact ⟨o, k o e, r⟩
  | lst a => obtain ⟨o, e, r⟩ := st; exact ⟨o, k o e, r⟩
  | tup a => obtain ⟨o, e, r⟩ := st; exact ⟨o, k o e, r⟩
theorem Zs.cell_obj {t : Tok} {z : Zs} {it : Addr} {i : Nat} {h : Heap} (st : z.cell t it i h) : ∃ o, h.get? it = some o ∧ ∀ v, o.data ≠ .cell v := by
  cases z with
  | str x => obtain ⟨o, e, _, d⟩ := st; exact ⟨o, e, fun v q => by rw [d] at q; cases q⟩
  | lst a => obtain ⟨o, e, _, d⟩ := st; exact ⟨o, e, fun v q => by rw [d] at q; cases q⟩
  | tup a => obtain ⟨o, e, _, d⟩ := st; exact ⟨o, e, fun v q => by rw [d] at q; cases q⟩
theorem vals_at {vs : List V} {us : List Value} (r : Vals vs us) : ∀ {i : Nat} {u : Value}, us[i]? = some u → ∃ v, vs[i]? = some v ∧ RelV v u := by
  induction r with
  | nil => intro i u e; simp at e
  | cons h t ih =>
    intro i u e
    cases i with
    | zero =>
      simp at e
      subst e
      exact ⟨_, by simp, h⟩
    | succ i =>
      obtain ⟨v, e1, e2⟩ := ih (i := i) (u := u) (by simpa using e)
      exact ⟨v, by simpa using e1, e2⟩
section
variable {X : Cx} {pins : List (Addr × Obj)} {σ : L2.St} {H : Hp} {s : Shared}
theorem Zs.draws (I : Inv X pins σ H s) (hc : X.calm = true) {z : Zs} {t : Tok} {it : Addr} {i : Nat} {vs : List V} (hz : z.of X.K H vs) (st : z.cell t it i s.heap) (na : it ∉ z.adr) :
    ∃ P St, Draws X.prog X.w X.A.in1 it (it :: z.adr) vs.length P St ∧ St i s.heap ∧ (∀ j v, P j v → ∃ x, vs[j]? = some x ∧ RelV x v) ∧ ∀ j h, St j h → z.cell t it j h := by
  have hd : X.A.in1.handled = none := I.ok.hd hc
  cases z with
  | str x =>
    have hz : vs = signV x := hz
    subst hz
    have D := Draws.text (prog := X.prog) (w := X.w) (A := X.A.in1) hd it x t
    have e : x.cps.size = (signV x).length := by simp [signV]
    rw [e] at D
    refine ⟨_, _, D, st, fun j v ⟨c, u, hx, hv⟩ => ⟨.str ⟨#[c]⟩, ?_, ⟨u, hv⟩⟩, fun j h q => q⟩
    unfold signV
    rw [List.getElem?_map, Array.getElem?_toList, hx]
    rfl
  | lst a =>
    obtain ⟨its, rv, p, _⟩ := I.list hz
    have D := Draws.list (prog := X.prog) (w := X.w) (A := X.A.in1) hd it a (fun q => na (by simp [Zs.adr, q])) its.toArray
    have e : its.toArray.size = vs.length := by simp [rv.length]
    rw [e] at D
    refine ⟨_, _, D, ⟨st, p.isList⟩, fun j v hv => vals_at rv (by simpa using hv), fun j h q => q.1⟩
  | tup a =>
    obtain ⟨its, rv, p, _⟩ := I.tuple hz
    have D := Draws.tuple (prog := X.prog) (w := X.w) (A := X.A.in1) hd it a (fun q => na (by simp [Zs.adr, q])) its.toArray
    have e : its.toArray.size = vs.length := by simp [rv.length]
    rw [e] at D
    refine ⟨_, _, D, ⟨st, p⟩, fun j v hv => vals_at rv (by simpa using hv), fun j h q => q.1⟩
theorem Zs.inj (I : Inv X pins σ H s) {z : Zs} {xs ys : List V} (h : z.of X.K H xs) (h' : z.of X.K H ys) : xs = ys := by
  cases z with
  | str x => exact (show xs = signV x from h).trans (show ys = signV x from h').symm
  | lst a => exact I.list_inj h h'
  | tup a => exact I.tuple_inj h h'
theorem Zs.begins (I : Inv X pins σ H s) {z : Zs} {vs : List V} {u : Value} (hz : z.of X.K H vs) (r : RelV z.val u) :
    ∃ t o Hh, Begins u o Hh ∧ Hh s.heap ∧ (∀ h it, h.get? it = some o → z.cell t it 0 h) ∧ ∀ a ∈ z.adr, a < s.heap.objs.size := by
  cases z with
  | str x =>
    obtain ⟨t, e⟩ := r
    subst e
    exact ⟨t, _, _, begins_text x t, trivial, fun h it e => ⟨_, e, rfl, rfl⟩, fun a h => nomatch h⟩
  | lst a =>
    have e : u = Value.ref a := r
    subst e
    obtain ⟨its, rv, p, _⟩ := I.list hz
    refine ⟨0, _, _, begins_list a its.toArray, p.isList, fun h it e => ⟨_, e, rfl, rfl⟩, fun b h => ?_⟩
    have h2 : b = a := by simpa [Zs.adr] using h
    rw [h2]
    exact p.lt
  | tup a =>
    have e : u = Value.ref a := r
    subst e
    obtain ⟨its, rv, p, _⟩ := I.tuple hz
    refine ⟨0, _, _, begins_tuple a its.toArray, p, fun h it e => ⟨_, e, rfl, rfl⟩, fun b h => ?_⟩
    have h2 : b = a := by simpa [Zs.adr] using h
    rw [h2]
    obtain ⟨o1, ho1, _⟩ := id p
    exact Heap.lt_size ho1
end
def ItZ (K : PySem.W.Frag) (z1 z2 : Zs) : It :=
  ⟨fun i H => ∃ xs ys, z1.of K H xs ∧ z2.of K H ys ∧ i < xs.length ∧ i < ys.length,
    fun i H v H' => ∃ T x y, v = .ref T ∧ H T = none ∧ H' = upd H T (.tup [x, y]) ∧ (∀ xs, z1.of K H xs → xs[i]? = some x) ∧ ∀ ys, z2.of K H ys → ys[i]? = some y,
    fun i H => ∃ xs ys, z1.of K H xs ∧ z2.of K H ys ∧ i = min xs.length ys.length⟩
/-- the five cells of a zip, and what it walks, apart -/
structure Apart5 (z TI TO i1 i2 : Addr) (as bs : List Addr) : Prop where
  nd : [z, TI, TO, i1, i2].Nodup
  a : ∀ c ∈ [z, TI, TO, i1, i2], c ∉ as
  b : ∀ c ∈ [z, TI, TO, i1, i2], c ∉ bs
theorem Apart5.sep {z TI TO i1 i2 : Addr} {as bs : List Addr} (D : Apart5 z TI TO i1 i2 as bs) : ZipSep2 z TI TO i1 i2 (i1 :: as) (i2 :: bs) := by
  have n := D.nd
  simp only [List.nodup_cons, List.mem_cons, List.not_mem_nil, or_false, not_or, List.nodup_nil, and_true, not_false_eq_true] at n
  obtain ⟨⟨n1, n2, n3, n4⟩, ⟨n5, n6, n7⟩, ⟨n8, n9⟩, n10⟩ := n
  have a := D.a
  have b := D.b
  refine ⟨fun e => n1 e.symm, fun e => n2 e.symm, n5, n6, List.mem_cons_self, ?_, ?_, n7, List.mem_cons_self, ?_, ?_, ?_, ?_⟩
  · simp only [List.mem_cons, not_or]; exact ⟨n3, a z (by simp)⟩
  · simp only [List.mem_cons, not_or]; exact ⟨n8, a TO (by simp)⟩
  · simp only [List.mem_cons, not_or]; exact ⟨n4, b z (by simp)⟩
  · simp only [List.mem_cons, not_or]; exact ⟨n9, b TO (by simp)⟩
  · simp only [List.mem_cons, not_or]; exact ⟨n10, b i1 (by simp)⟩
  · simp only [List.mem_cons, not_or]; exact ⟨fun e => n10 e.symm, a i2 (by simp)⟩
theorem turn_zipZ {P : Program} {w : World} {K : PySem.W.Frag} {elts : List Expr} {kk : Nat} {tpos : Pos} {z1 z2 : Zs} {t1 t2 : Tok} {z TI TO i1 i2 : Addr} (D : Apart5 z TI TO i1 i2 z1.adr z2.adr) :
    Turn P w K (.Tuple elts kk tpos) (ItZ K z1 z2) [z, TI, TO, i1, i2] z (fun i h => IsZip h z TI TO .none ∧ IsTupOf2 h TI (.ref i1) (.ref i2) ∧ (∃ x y, IsTupOf2 h TO x y) ∧ z1.cell t1 i1 i h ∧ z2.cell t2 i2 i h) where
  mem := by simp
  obj := fun i h st c hc => by
    obtain ⟨hz, hTI, ⟨x, y, hTO⟩, h1, h2⟩ := st
    have e' : c = z ∨ c = TI ∨ c = TO ∨ c = i1 ∨ c = i2 := by simpa using hc
    rcases e' with q | q | q | q | q
    · rw [q]; exact ⟨_, hz, fun v q => nomatch q⟩
    · rw [q]; exact ⟨_, hTI, fun v q => nomatch q⟩
    · rw [q]; exact ⟨_, hTO, fun v q => nomatch q⟩
    · rw [q]; exact Zs.cell_obj h1
    · rw [q]; exact Zs.cell_obj h2
  keep := fun i h h' st k => by
    obtain ⟨hz, hTI, ⟨x, y, hTO⟩, h1, h2⟩ := st
    exact ⟨k z (by simp) _ hz, k TI (by simp) _ hTI, ⟨x, y, k TO (by simp) _ hTO⟩, Zs.cell_at h1 fun o q => k i1 (by simp) o q, Zs.cell_at h2 fun o q => k i2 (by simp) o q⟩
  item := by
    intro X hP hw hK hc i pins s σ H E I hf st hg
    subst hP hw hK
    obtain ⟨hz, hTI, ⟨x0, y0, hTO⟩, h1, h2⟩ := st
    obtain ⟨xs, ys, hx, hy, l1, l2⟩ := hg
    obtain ⟨P1, S1, D1, st1, rel1, cell1⟩ := Zs.draws I hc hx h1 (D.a i1 (by simp))
    obtain ⟨P2, S2, D2, st2, rel2, cell2⟩ := Zs.draws I hc hy h2 (D.b i2 (by simp))
    have S := D.sep
    have hzl : z < s.heap.objs.size := Heap.lt_size hz
    refine wpAny_pyNext_zipD2_item S D1 D2 hz hTI hTO st1 st2 l1 l2 fun u1 u2 h' tk p1 p2 z' TO' s1 s2 hT hsz hk => ?_
    obtain ⟨x, hxi, rx⟩ := rel1 i u1 p1
    obtain ⟨y, hyi, ry⟩ := rel2 i u2 p2
    have hT' : h'.get? s.heap.objs.size = some { cls := .type "tuple", data := .seq #[u1, u2] } := hT
    refine ⟨_, rfl, wpAny_letOwnedTupleGo_zip (s := { s with heap := h', toks := tk }) z' fun h'' z'' sb => ?_⟩
    have kz : ∀ b o, b ≠ z → h'.get? b = some o → h''.get? b = some o := fun b o hb e => (sb.2 b hb).trans e
    have new : ObjOk X.prog X.w (upd H s.heap.objs.size (.tup [x, y])) h'' s.heap.objs.size (.tup [x, y]) :=
      ⟨by show 2 ≤ sizeLine; decide, [u1, u2], .cons rx (.cons ry .nil), ⟨_, kz _ _ (Nat.ne_of_gt hzl) hT', rfl, _, rfl⟩⟩
    have old : ∀ c o, c ∉ [z, TI, TO, i1, i2] → s.heap.get? c = some o → h''.get? c = some o := fun c o hb q => by
      simp only [List.mem_cons, List.not_mem_nil, or_false, not_or] at hb
      obtain ⟨b1, b2, b3, b4, b5⟩ := hb
      exact kz c o b1 (hk c o b1 b3 b4 b5 q)
    have I1 := I.turnedNew (t' := tk) (ch := [z, TI, TO, i1, i2]) old hf (Nat.le_refl _) new
    refine ⟨.ref s.heap.objs.size, _, I1, rfl, ⟨_, x, y, rfl, I.hok.fresh (Nat.le_refl _), rfl, fun l hl => by rw [Zs.inj I hl hx]; exact hxi, fun l hl => by rw [Zs.inj I hl hy]; exact hyi⟩, ⟨z'', ?_, ⟨u1, u2, ?_⟩, ?_, ?_⟩, fun c hcm => ?_⟩
    · exact kz _ _ S.TIz (hk _ _ S.TIz S.TITO S.TIi1 S.TIi2 hTI)
    · exact kz _ _ S.TOz TO'
    · exact Zs.cell_at (cell1 _ _ s1) fun o q => kz _ o (fun e => S.zi1 e.symm) q
    · exact Zs.cell_at (cell2 _ _ s2) fun o q => kz _ o (fun e => S.zi2 e.symm) q
    · have hn := (hf c hcm).1
      have hlt : c ≠ s.heap.objs.size := fun e => by
        have e' : c = z ∨ c = TI ∨ c = TO ∨ c = i1 ∨ c = i2 := by simpa using hcm
        have lt : c < s.heap.objs.size := by
          rcases e' with q | q | q | q | q
          · rw [q]; exact hzl
          · rw [q]; exact Heap.lt_size hTI
          · rw [q]; exact Heap.lt_size hTO
          · rw [q]; obtain ⟨_, e1, _⟩ := Zs.cell_obj h1; exact Heap.lt_size e1
          · rw [q]; obtain ⟨_, e1, _⟩ := Zs.cell_obj h2; exact Heap.lt_size e1
        exact absurd e (Nat.ne_of_lt lt)
      rw [upd_ne hlt]
      exact hn
  done := by
    intro X hP hw hK hc i pins s σ H E I hf st hg
    subst hP hw hK
    obtain ⟨hz, hTI, ⟨x0, y0, hTO⟩, h1, h2⟩ := st
    obtain ⟨xs, ys, hx, hy, e⟩ := hg
    obtain ⟨P1, S1, D1, st1, rel1, cell1⟩ := Zs.draws I hc hx h1 (D.a i1 (by simp))
    obtain ⟨P2, S2, D2, st2, rel2, cell2⟩ := Zs.draws I hc hy h2 (D.b i2 (by simp))
    refine wpAny_pyNext_zipD2_end D.sep D1 D2 hz hTI hTO st1 st2 (by omega) (by omega) (by omega) fun h' tk hk => ⟨rfl, I.turnedL (t' := tk) (ch := [z, TI, TO, i1, i2]) (fun c o hb q => ?_) hf⟩
    simp only [List.mem_cons, List.not_mem_nil, or_false, not_or] at hb
    obtain ⟨b1, b2, b3, b4, b5⟩ := hb
    exact hk c o b1 b3 b4 b5 q
  self := fun A i s Q E st h => wpAny_pyIter_zip st.1 h
def iZipZ (K : PySem.W.Frag) (ta : TA) : TI := fun σ H R => ta σ H fun vs H1 => ∃ z1 z2 xs ys, vs = [Zs.val z1, Zs.val z2] ∧ z1.of K H1 xs ∧ z2.of K H1 ys ∧ R (ItZ K z1 z2) H1
theorem pi_zipZ {X : Cx} {e e2 : Expr} {ta : TA} {p pos tpos : Pos} {elts : List Expr} {kk : Nat} (hg : Gl X "zip") (hm : X.mg "zip" = none) (ha : PA X [e, e2] ta)
    (hs : starEach [e, e2] X.env = (false, eval e X.env) :: starEach [e2] X.env := by rfl) (hpl : (backTo pos (starEach [e2] X.env)).any (·.1) = false := by rfl) :
    PI X (.Tuple elts kk tpos) (.Call (.Name "zip" p) [e, e2] [] pos) (iZipZ X.K ta) := by
  refine ⟨fun pins s σ H R I h => ?_⟩
  refine Call_ (ld_blt I hg hm PyProof.Rows.boot_zip (PyProof.Rows.callWith_type1 (thn (ha.run pos pins s σ H _ I h) fun us s1 ⟨vs, H1, I1, r1, z1, z2, xs, ys, ex, hx, hy, q⟩ => ?_) hs hpl))
  subst ex
  obtain ⟨u1, u2, eu, ra, rb⟩ := vals2 r1
  subst eu
  obtain ⟨t1, o1, H1', B1, b1, c1, lt1⟩ := Zs.begins I1 hx ra
  obtain ⟨t2, o2, H2', B2, b2, c2, lt2⟩ := Zs.begins I1 hy rb
  refine zip_begins2 B1 B2 b1 b2 fun h' hz hTI hTO g1 g2 hsz hk => wpAny_pyIter_zip hz ?_
  have I2 : Inv X pins σ H1 { s1 with heap := h' } := I1.kept (t' := s1.toks) hk
  have big : ∀ c ∈ [s1.heap.objs.size + 4, s1.heap.objs.size + 2, s1.heap.objs.size + 3, s1.heap.objs.size, s1.heap.objs.size + 1], s1.heap.objs.size ≤ c := fun c hcm => by
    have e' : c = s1.heap.objs.size + 4 ∨ c = s1.heap.objs.size + 2 ∨ c = s1.heap.objs.size + 3 ∨ c = s1.heap.objs.size ∨ c = s1.heap.objs.size + 1 := by simpa using hcm
    omega
  have D : Apart5 (s1.heap.objs.size + 4) (s1.heap.objs.size + 2) (s1.heap.objs.size + 3) s1.heap.objs.size (s1.heap.objs.size + 1) z1.adr z2.adr := by
    refine ⟨?_, fun c hc hm => absurd (big c hc) (Nat.not_le.mpr (lt1 c hm)), fun c hc hm => absurd (big c hc) (Nat.not_le.mpr (lt2 c hm))⟩
    simp only [List.nodup_cons, List.mem_cons, List.not_mem_nil, or_false, not_or, List.nodup_nil, and_true, not_false_eq_true]
    refine ⟨⟨?_, ?_, ?_, ?_⟩, ⟨?_, ?_, ?_⟩, ⟨?_, ?_⟩, ?_⟩ <;> intro e <;> simp [Addr] at e <;> omega
  exact ⟨_, _, _, _, H1, rfl, I2, turn_zipZ D, ⟨hz, hTI, ⟨_, _, hTO⟩, c1 h' _ g1, c2 h' _ g2⟩, fun c hcm => I1.fpOk (big c hcm) (I1.hok.fresh (big c hcm)), q⟩

/-! ### on data -/
def zipD (xs ys : List D) : List D := List.zipWith (fun x y => .tup [x, y]) xs ys
def zItems (v : Va) (μ : Mu) : Option (List D × (Mu → Prop)) := match v with
  | .d (.str x) => some (signs x, fun _ => True)
  | _ => (itemsOf v μ).map fun q => (q.2.1, q.2.2)
def KeptZ (K : PySem.W.Frag) (B : Hp) (θ : List Addr) (H : Hp) (z : Zs) (xs : List D) (C : Mu → Prop) : Prop := ∀ B' θ' H' μ', Gw B θ H B' θ' H' → Ok K B' θ' H' μ' → C μ' → ∃ vs, z.of K H' vs ∧ RL K B' xs vs
theorem rl_signs {K : PySem.W.Frag} {B : Hp} (x : Str) : RL K B (signs x) (signV x) := by
  unfold signs signV
  induction x.cps.toList with
  | nil => exact RL.nil
  | cons c r ih => exact .cons rfl ih
theorem z_ok {K : PySem.W.Frag} {B H : Hp} {θ : List Addr} {μ : Mu} {v : Va} {x : V} {xs : List D} {C : Mu → Prop} (o : Ok K B θ H μ) (r : RV K B θ v x) (h : zItems v μ = some (xs, C)) : C μ ∧ ∃ z : Zs, x = z.val ∧ KeptZ K B θ H z xs C := by
  unfold zItems at h
  split at h
  · rename_i s
    obtain ⟨h1, h2⟩ := Prod.mk.inj (Option.some.inj h)
    subst h1 h2
    exact ⟨trivial, .str s, r, fun B' θ' H' μ' g o' _ => ⟨signV s, rfl, rl_signs s⟩⟩
  · obtain ⟨⟨b, xs', C'⟩, e, e2⟩ := Option.map_eq_some_iff.mp h
    obtain ⟨h1, h2⟩ := Prod.mk.inj e2
    have h1 : xs' = xs := h1
    have h2 : C' = C := h2
    subst h1 h2
    obtain ⟨c, a, ex, k⟩ := items_ok o r e
    cases b with
    | false => exact ⟨c, .lst a, ex, fun B' θ' H' μ' g o' hc => k B' θ' H' μ' g o' hc⟩
    | true => exact ⟨c, .tup a, ex, fun B' θ' H' μ' g o' hc => k B' θ' H' μ' g o' hc⟩
theorem walks_z {K : PySem.W.Frag} {B H : Hp} {θ : List Addr} {z1 z2 : Zs} {xs ys : List D} {C C' : Mu → Prop} (h : KeptZ K B θ H z1 xs C) (h' : KeptZ K B θ H z2 ys C') : Walks K B θ H (ItZ K z1 z2) (zipD xs ys) (fun μ => C μ ∧ C' μ) := fun B' θ' H' μ' g o c => by
  obtain ⟨vs, hq, r⟩ := h B' θ' H' μ' g o c.1
  obtain ⟨ws, hq', r'⟩ := h' B' θ' H' μ' g o c.2
  have l1 := r.len
  have l2 := r'.len
  have hl : (zipD xs ys).length = min xs.length ys.length := by simp [zipD]
  rw [hl]
  refine ⟨fun i hi => ⟨vs, ws, hq, hq', by omega, by omega⟩, fun i hi => ⟨vs, ws, hq, hq', by omega⟩, fun i x u H'' hx hy => ?_⟩
  · obtain ⟨T, v, w, rfl, hT, rfl, hv, hw⟩ := hy
    unfold zipD at hx
    rw [List.getElem?_zipWith] at hx
    cases e1 : xs[i]? with
    | none => rw [e1] at hx; cases hx
    | some a =>
      cases e2 : ys[i]? with
      | none => rw [e1, e2] at hx; cases hx
      | some b =>
        rw [e1, e2] at hx
        have hx2 : D.tup [a, b] = x := Option.some.inj hx
        subst hx2
        obtain ⟨v', f1, rv⟩ := r.at e1
        obtain ⟨w', f2, rw'⟩ := r'.at e2
        have q1 := hv vs hq
        have q2 := hw ws hq'
        rw [f1] at q1
        rw [f2] at q2
        cases q1
        cases q2
        obtain ⟨o1, g1⟩ := o.lay (ob := .tup [v, w]) hT (fun _ z => nomatch z)
        exact ⟨_, g1, o1, T, _, rfl, .of upd_same, .cons (R.mono g1.ex a rv) (.one (R.mono g1.ex b rw'))⟩
def dZip (T : ATd) : ITd := fun es μ Q => T es μ fun vs μ1 => match vs with
  | [v, w] => (match zItems v μ1, zItems w μ1 with
    | some (xs, C), some (ys, C') => Q (zipD xs ys) (fun μ => C μ ∧ C' μ) μ1
    | _, _ => False)
  | _ => False
theorem di_zip {X : Cx} {Z : Anc} {pos : Pos} {e e2 : Expr} {T : ATd} {p tpos : Pos} {elts : List Expr} {kk : Nat} (hm : X.mg "zip" = none) (h : DA X Z [e, e2] T) (hg : Gl X "zip" := by rfl) (hs : starEach [e, e2] X.env = (false, eval e X.env) :: starEach [e2] X.env := by rfl)
    (hpl : (backTo pos (starEach [e2] X.env)).any (·.1) = false := by rfl) : DI X Z (.Tuple elts kk tpos) (.Call (.Name "zip" p) [e, e2] [] pos) (dZip T) := by
  obtain ⟨t, pa, w⟩ := h
  refine ⟨_, pi_zipZ hg hm pa hs hpl, fun es μ Q h B θ σ H o en z R' f => ?_⟩
  refine w es μ _ h B θ σ H o en z _ fun vs B1 θ1 H1 us μ1 q g1 o1 r1 => ?_
  dsimp only at q
  split at q
  · split at q
    · rename_i xs C ys C' e1 e2
      obtain ⟨u, y, rfl, ru, ry⟩ := rvs2 r1
      obtain ⟨c1, z1, ex1, k1⟩ := z_ok o1 ru e1
      obtain ⟨c2, z2, ex2, k2⟩ := z_ok o1 ry e2
      obtain ⟨vs1, q1, _⟩ := k1 B1 θ1 H1 μ1 Gw.rfl o1 c1
      obtain ⟨vs2, q2, _⟩ := k2 B1 θ1 H1 μ1 Gw.rfl o1 c2
      exact ⟨z1, z2, vs1, vs2, by rw [ex1, ex2], q1, q2, f _ _ _ B1 θ1 H1 μ1 q g1 o1 (walks_z k1 k2)⟩
    · exact q.elim
  · exact q.elim
end DL

/-! DLj: dicts: the module's tables with text keys; a def's own small dicts. -/
namespace DL
open PySem PySem.Spec PyProof.Rows L2

/-! ### a table of the module -/
/-- at d: a written dict; tb: what it holds -/
structure TabS (K : PySem.W.Frag) (w : World) (d : Addr) (tb : List (Str × D)) : Prop where
  kd : ∃ es n, KDict K w d es n
  no : ∀ z, tb.lookup z = none → PySem.W.nsIn K d z = some none
  yes : ∀ z x, tb.lookup z = some x → ∃ u v, PySem.W.nsIn K d z = some (some u) ∧ RelV v u ∧ ∀ B, R K B x v
theorem ns_none {K : PySem.W.Frag} {P : Params} {a : Addr} {ks : List Str} (h : He.dicW K a = some (He.keysIn P ks)) {z : Str} (hz : z ∉ ks) : PySem.W.nsIn K a z = some none := by
  unfold He.dicW at h
  unfold PySem.W.nsIn
  split at h
  · rename_i e
    rw [e]
    dsimp only
    split at h
    · injection h with h
      rename_i es n sl _ _
      have key : ∀ (l : List DictEntry) (ks : List Str), l.map He.keyOf = He.keysIn P ks → z ∉ ks → l.find? (·.key.isStr z) = none ∧ l.any (·.refKey) = false := by
        intro l
        induction l with
        | nil => intro _ _ _; exact ⟨rfl, rfl⟩
        | cons e r ih =>
          intro ks h hz
          cases ks with
          | nil => cases h
          | cons k ks =>
            have h1 : He.keyOf e :: r.map He.keyOf = some (k, PyData.keyHash P k) :: He.keysIn P ks := h
            injection h1 with h2 h3
            obtain ⟨i1, i2⟩ := ih ks h3 (fun q => hz (List.mem_cons_of_mem _ q))
            have e2 : ∃ t, e.key = .str k t := by
              unfold He.keyOf at h2
              split at h2
              · rename_i x t q
                have h4 := Option.some.inj h2
                exact ⟨t, by rw [q, (Prod.mk.inj h4).1]⟩
              · cases h2
            obtain ⟨t, e2⟩ := e2
            have nk : k ≠ z := fun q => hz (by rw [q]; exact List.mem_cons_self ..)
            have f1 : e.key.isStr z = false := by
              rw [e2]
              show (k == z) = false
              exact beq_eq_false_iff_ne.mpr nk
            have f2 : e.refKey = false := by
              unfold DictEntry.refKey
              rw [e2]
            rw [List.find?_cons, f1, List.any_cons, f2]
            exact ⟨i1, by simpa using i2⟩
      obtain ⟨i1, i2⟩ := key _ _ h hz
      rw [i1, i2]
      rfl
    · cases h
  · cases h
section
variable {X : Cx} {Z : Anc} {pos : Pos} {d : Addr} {tb : List (Str × D)}
def dInT (d : Addr) (tb : List (Str × D)) (neg : Bool) : F2 := fun v w μ Q => match v, w with
  | .d (.str z), .d (.raw (.ref a)) => a = d ∧ Q (.d (.bl (neg ^^ (tb.lookup z).isSome))) μ
  | _, _ => False
theorem tab_get {K : PySem.W.Frag} {w : World} (T : TabS K w d tb) (z : Str) : ∃ r, PySem.W.nsIn K d z = some r ∧ r.isSome = (tb.lookup z).isSome := by
  cases e : tb.lookup z with
  | none => exact ⟨none, T.no z e, rfl⟩
  | some x =>
    obtain ⟨u, v, h, _⟩ := T.yes z x e
    exact ⟨some u, h, rfl⟩
theorem do_inT (T : TabS X.K X.w d tb) : DO2 X (compareOp .In) (dInT d tb false) := by
  obtain ⟨es, n, kd⟩ := T.kd
  refine ⟨_, op_in_kd kd, fun v w μ Q h B θ H x y o rx ry Q' fo => ?_⟩
  unfold dInT at h
  split at h
  · rename_i z a
    obtain ⟨ha, q⟩ := h
    subst ha
    obtain ⟨r, h1, h2⟩ := tab_get T z
    refine ⟨z, r, rx, ry, h1, ?_⟩
    rw [h2]
    simp only [Bool.false_bne] at q
    exact fo.here (v := .d (.bl _)) q o rfl
  · exact h.elim
theorem do_notInT (T : TabS X.K X.w d tb) : DO2 X (compareOp .NotIn) (dInT d tb true) := by
  obtain ⟨es, n, kd⟩ := T.kd
  refine ⟨_, op_notIn_kd kd, fun v w μ Q h B θ H x y o rx ry Q' fo => ?_⟩
  unfold dInT at h
  split at h
  · rename_i z a
    obtain ⟨ha, q⟩ := h
    subst ha
    obtain ⟨r, h1, h2⟩ := tab_get T z
    refine ⟨z, r, rx, ry, h1, ?_⟩
    rw [h2]
    simp only [Bool.true_bne] at q
    exact fo.here (v := .d (.bl _)) q o rfl
  · exact h.elim
def dIxT (d : Addr) (tb : List (Str × D)) : F2 := fun v w μ Q => match v, w with
  | .d (.raw (.ref a)), .d (.str z) => a = d ∧ (match tb.lookup z with
    | some x => Q (.d x) μ
    | none => False)
  | _, _ => False
theorem de_ixT {a b : Expr} {Ta Tb : ET} (T : TabS X.K X.w d tb) (ha : DE X Z a Ta) (hb : DE X Z b Tb) (hs : PlainIx b := by exact fun _ _ => rfl) : DE X Z (.Subscript a b pos) (dOp (dIxT d tb) Ta Tb) := by
  obtain ⟨ta, pa, wa⟩ := ha
  obtain ⟨tb', pb, wb⟩ := hb
  refine ⟨_, pe_ix ix_kdict pa pb hs, fun es0 μ0 Q0 h0 => bin2 wa wb ?_ h0⟩
  intro v w μ Q h B θ H x y o rx ry Q' fo
  unfold dIxT at h
  split at h
  · rename_i a' z
    obtain ⟨ea, h'⟩ := h
    subst ea
    split at h'
    · rename_i xx e
      obtain ⟨u, v0, h1, h2, h3⟩ := T.yes z xx e
      obtain ⟨es, n, kd⟩ := T.kd
      exact ⟨a', z, v0, rx, ry, ⟨es, n, u, kd.at_, kd.lit, h1, h2⟩, fo.here (v := .d xx) h' o (h3 B)⟩
    · exact h'.elim
  · exact h.elim

/-! ### a dict of a def's own -/
def keyD : D → Option Key
  | .int i => some (.inl i)
  | .str s => some (.inr s)
  | _ => none
theorem keyD_ok {K : PySem.W.Frag} {B : Hp} {x : D} {v : V} {k : Key} (h : keyD x = some k) (r : R K B x v) : v = kV k := by
  cases x with
  | int i => injection h with h; subst h; exact r
  | str s => injection h with h; subst h; exact r
  | _ => cases h
abbrev PTd := Es → Mu → (List (Va × Va) → Mu → Prop) → Prop
abbrev RPs (K : PySem.W.Frag) (B : Hp) (θ : List Addr) : List (Va × Va) → List (V × V) → Prop := Paired fun p q => RV K B θ p.1 q.1 ∧ RV K B θ p.2 q.2
structure DPs (X : Cx) (Z : Anc) (pos : Pos) (keys : List (Option Expr)) (values : List Expr) (T : PTd) : Prop where
  ex : ∃ trs, PPs X pos keys values trs ∧ ∀ es μ Q, T es μ Q → ∀ B θ σ H, Ok X.K B θ H μ → EnvOk X.K B θ es σ → Rch Z B θ H → ∀ Q' : List (V × V) → Hp → Prop,
    (∀ ps B' θ' H' qs μ', Q ps μ' → Gw B θ H B' θ' H' → Ok X.K B' θ' H' μ' → RPs X.K B' θ' ps qs → Q' qs H') → tPairs trs σ H Q'
theorem RPs.mono {K : PySem.W.Frag} {B B' : Hp} {θ θ' : List Addr} (e : Ex B B') (p : θ <+: θ') {xs : List (Va × Va)} {vs : List (V × V)} (h : RPs K B θ xs vs) : RPs K B' θ' xs vs := Paired.mapP h fun _ _ q => ⟨RV.mono e p q.1, RV.mono e p q.2⟩
def pNil : PTd := fun _ μ Q => Q [] μ
def pCons (Tk Tv : ET) (Tr : PTd) : PTd := fun es μ Q => Tk es μ fun k μ1 => Tv es μ1 fun v μ2 => Tr es μ2 fun ps μ3 => Q ((k, v) :: ps) μ3
theorem dp_nil : DPs X Z pos [] [] pNil := ⟨_, pps_nil, fun es μ Q h B θ σ H o en z Q' f => f [] B θ H [] μ h Gw.rfl o .nil⟩
theorem dp_cons {k v : Expr} {ks : List (Option Expr)} {vs : List Expr} {Tk Tv : ET} {Tr : PTd} (hk : DE X Z k Tk) (hv : DE X Z v Tv) (hr : DPs X Z pos ks vs Tr) : DPs X Z pos (some k :: ks) (v :: vs) (pCons Tk Tv Tr) := by
  obtain ⟨tk, pk, wk⟩ := hk
  obtain ⟨tv, pv, wv⟩ := hv
  obtain ⟨tr, pr, wr⟩ := hr
  refine ⟨_, pps_cons pk pv pr, fun es μ Q h B θ σ H o en z Q' f => ?_⟩
  refine wk es μ _ h B θ σ H o en z _ fun k1 B1 θ1 H1 u1 μ1 q1 g1 o1 r1 => ?_
  refine wv es μ1 _ q1 B1 θ1 σ H1 o1 (en.mono g1.ex g1.pre) (z.tr g1) _ fun v2 B2 θ2 H2 u2 μ2 q2 g2 o2 r2 => ?_
  have g12 := g1.tr g2
  refine wr es μ2 _ q2 B2 θ2 σ H2 o2 (en.mono g12.ex g12.pre) (z.tr g12) _ fun ps B3 θ3 H3 qs μ3 q3 g3 o3 r3 => ?_
  exact f _ B3 θ3 H3 _ μ3 q3 (g12.tr g3) o3 (.cons ⟨RV.mono (g2.tr g3).ex (g2.tr g3).pre r1, RV.mono g3.ex g3.pre r2⟩ r3)
def unP : List (Va × Va) → Option (List Key × List D)
  | [] => some ([], [])
  | (.d k, .d v) :: r => match keyD k, unP r with
    | some k', some (ks, vs) => some (k' :: ks, v :: vs)
    | _, _ => none
  | _ => none
theorem unP_ok {K : PySem.W.Frag} {B : Hp} {θ : List Addr} : ∀ {ps : List (Va × Va)} {qs : List (V × V)} {ks : List Key} {xs : List D}, unP ps = some (ks, xs) → RPs K B θ ps qs → ∃ vs, ks.length = vs.length ∧ RL K B xs vs ∧ qs = (ks.zip vs).map (fun kv => (kV kv.1, kv.2))
  | [], qs, ks, xs, h, r => by
    cases r
    obtain ⟨h1, h2⟩ := Prod.mk.inj (Option.some.inj h)
    subst h1 h2
    exact ⟨[], rfl, RL.nil, rfl⟩
  | (.d k, .d v) :: ps, qs, ks, xs, h, r => by
    unfold unP at h
    split at h
    · rename_i k' ks' vs' e1 e2
      obtain ⟨h1, h2⟩ := Prod.mk.inj (Option.some.inj h)
      subst h1 h2
      cases r with
      | cons a t =>
        rename_i q qs'
        obtain ⟨ws, l, rl, e3⟩ := unP_ok e2 t
        obtain ⟨q1, q2⟩ := q
        have e4 : q1 = kV k' := keyD_ok e1 a.1
        refine ⟨q2 :: ws, by simp [l], .cons a.2 rl, ?_⟩
        rw [e3, e4]
        rfl
    · cases h
  | (.m _, _) :: _, _, _, _, h, _ => by cases h
  | (.d _, .m _) :: _, _, _, _, h, _ => by cases h
theorem merge_zip : ∀ {ks : List Key} {vs : List V} {acc : List (Key × V)}, (∀ k ∈ ks, valV acc k = none) → ks.Nodup → mergeK acc (ks.zip vs) = acc ++ ks.zip vs
  | [], vs, acc, _, _ => by simp [mergeK]
  | k :: ks, [], acc, _, _ => by simp [mergeK]
  | k :: ks, v :: vs, acc, h, n => by
    have e : putK acc k v = acc ++ [(k, v)] := putK_new v (h k (List.mem_cons_self ..))
    have n2 := List.nodup_cons.mp n
    have step : mergeK acc ((k, v) :: ks.zip vs) = mergeK (putK acc k v) (ks.zip vs) := rfl
    rw [List.zip_cons_cons, step, e, merge_zip (fun j hj => ?_) n2.2, List.append_assoc]
    · rfl
    · have z := valV_put acc k j v
      rw [e] at z
      rw [z, if_neg (fun q : j = k => n2.1 (q ▸ hj))]
      exact h j (List.mem_cons_of_mem _ hj)
def dDic (T : PTd) : ET := fun es μ Q => T es μ fun ps μ1 => match unP ps with
  | some (ks, xs) => ks.Nodup ∧ ks.length ≤ 15 ∧ Q (.d (.dic ks xs)) μ1
  | none => False
theorem de_dic {keys : List (Option Expr)} {values : List Expr} {T : PTd} (h : DPs X Z pos keys values T) (hall : keys.all (·.isSome) = true := by rfl) (hl : keys.length = values.length := by rfl) (h0 : keys ≠ [] := by exact fun z => nomatch z) (h15 : keys.length ≤ 15 := by decide) :
    DE X Z (.Dict keys values pos) (dDic T) := by
  obtain ⟨trs, p, w⟩ := h
  refine ⟨_, pe_disp p hall hl h0 h15, fun es μ Q h B θ σ H o en z Q' fo => ?_⟩
  intro pp hp
  obtain ⟨np, bp⟩ := o.fresh hp
  have g0 : Gw B θ H B θ (upd H pp (.dK [])) := Gw.rfl.hid hp
  refine w es μ _ h B θ σ (upd H pp (.dK [])) (o.hid np bp) en (z.tr g0) _ fun ps B2 θ2 H2 qs μ2 q g o2 r => ?_
  obtain ⟨h2, b2⟩ := g.keep pp _ np bp upd_same trivial
  have n2 : pp ∉ θ2 := fun z' => by
    rcases g.new pp z' with y | y
    · exact np y
    · exact y bp _ upd_same trivial
  refine ⟨h2, ?_⟩
  split at q
  · rename_i ks xs e
    obtain ⟨nd, l15, q⟩ := q
    obtain ⟨vs, hlen, rl, eq⟩ := unP_ok e r
    have em : mergeK [] (ks.zip vs) = ks.zip vs := by rw [merge_zip (fun _ _ => rfl) nd]; rfl
    refine ⟨ks.zip vs, eq, by rw [List.length_zip]; omega, ?_⟩
    rw [em]
    have g2 : Gw B θ H B2 θ2 (upd H2 pp (.dK (ks.zip vs))) := (g0.tr g).hid hp
    have o3 : Ok X.K B2 θ2 (upd H2 pp (.dK (ks.zip vs))) μ2 := o2.hid n2 b2
    exact fo (.d (.dic ks xs)) (upd B2 pp (.dK (ks.zip vs))) θ2 _ _ μ2 q (g2.own hp b2) (o3.own n2 b2 upd_same (fun _ z => nomatch z)) ⟨pp, vs, rfl, upd_same, hlen, RL.mono (Ex.new b2) _ rl⟩
  · exact q.elim
def dicAt (ks : List Key) (xs : List D) (k : Key) : Option D := ((ks.zip xs).find? fun p => decide (p.1 = k)).map (·.2)
theorem dic_val {K : PySem.W.Frag} {B : Hp} {k : Key} : ∀ {ks : List Key} {xs : List D} {vs : List V}, ks.length = vs.length → RL K B xs vs → (dicAt ks xs k = none ∧ valV (ks.zip vs) k = none) ∨ ∃ x v, dicAt ks xs k = some x ∧ valV (ks.zip vs) k = some v ∧ R K B x v
  | [], xs, vs, _, _ => .inl ⟨rfl, rfl⟩
  | j :: ks, [], vs, l, r => by
    rw [show vs = [] from r] at l
    cases l
  | j :: ks, x :: xs, vs, l, r => by
    obtain ⟨v, ws, rfl, h1, h2⟩ := r
    have l2 : ks.length = ws.length := by simpa using l
    by_cases e : j = k
    · refine .inr ⟨x, v, ?_, valV_pos e, h1⟩
      unfold dicAt
      rw [List.zip_cons_cons, List.find?_cons, decide_eq_true (show (j, x).1 = k from e)]
      rfl
    · have e1 : dicAt (j :: ks) (x :: xs) k = dicAt ks xs k := by
        unfold dicAt
        rw [List.zip_cons_cons, List.find?_cons, decide_eq_false (show ¬ (j, x).1 = k from e)]
      have e2 : valV ((j :: ks).zip (v :: ws)) k = valV (ks.zip ws) k := valV_neg (p := (j, v)) e
      rw [e1, e2]
      exact dic_val l2 h2
def dInD (neg : Bool) : F2 := fun v w μ Q => match v, w with
  | .d x, .d (.dic ks xs) => (match keyD x with
    | some k => Q (.d (.bl (neg ^^ (dicAt ks xs k).isSome))) μ
    | none => False)
  | _, _ => False
theorem dic_get {K : PySem.W.Frag} {B H : Hp} {θ : List Addr} {μ : Mu} {x : D} {ks : List Key} {xs : List D} {v y : V} {k : Key} (o : Ok K B θ H μ) (rx : R K B x v) (ry : R K B (.dic ks xs) y) (hk : keyD x = some k) :
    ∃ a r, y = .ref a ∧ DGet H a v r ∧ ((dicAt ks xs k = none ∧ r = none) ∨ ∃ z u, dicAt ks xs k = some z ∧ r = some u ∧ R K B z u) := by
  obtain ⟨a, vs, rfl, hb, l, rl⟩ := ry
  rw [keyD_ok hk rx]
  rcases dic_val (k := k) l rl with ⟨h1, h2⟩ | ⟨z, u, h1, h2, h3⟩
  · exact ⟨a, none, rfl, h2 ▸ DGet.k (o.ex _ _ hb), .inl ⟨h1, rfl⟩⟩
  · exact ⟨a, some u, rfl, h2 ▸ DGet.k (o.ex _ _ hb), .inr ⟨z, u, h1, rfl, h3⟩⟩
section
variable {a b : Expr} {Ta Tb : ET}
theorem din_ok {neg : Bool} {ta tb : TE} {t : TE} (wa : ∀ es μ Q, Ta es μ Q → EW X.K Z ta es μ Q) (wb : ∀ es μ Q, Tb es μ Q → EW X.K Z tb es μ Q) (ht : ∀ σ H Q, (ta σ H fun y H1 => tb σ H1 fun x H2 => ∃ a o, x = .ref a ∧ DGet H2 a y o ∧ Q (.bl (neg ^^ o.isSome)) H2) → t σ H Q) {es : Es} {μ : Mu} {Q : EQ} (h : dOp (dInD neg) Ta Tb es μ Q) : EW X.K Z t es μ Q := by
  intro B θ σ H o en z Q' fo
  refine ht σ H Q' (wa es μ _ h B θ σ H o en z _ fun v B1 θ1 H1 u μ1 q g1 o1 r1 => ?_)
  refine wb es μ1 _ q B1 θ1 σ H1 o1 (en.mono g1.ex g1.pre) (z.tr g1) _ fun w B2 θ2 H2 y μ2 q2 g2 o2 r2 => ?_
  have r1' := RV.mono g2.ex g2.pre r1
  unfold dInD at q2
  dsimp only at q2
  split at q2
  · rename_i x ks xs
    split at q2
    · rename_i k e
      obtain ⟨a, r, rfl, g, hr⟩ := dic_get o2 r1' r2 e
      refine ⟨a, r, rfl, g, ?_⟩
      have er : r.isSome = (dicAt ks xs k).isSome := by
        rcases hr with ⟨h1, h2⟩ | ⟨z, u, h1, h2, _⟩
        · rw [h1, h2]; rfl
        · rw [h1, h2]; rfl
      rw [er]
      exact (fo.tr (g1.tr g2)).here (v := .d (.bl _)) q2 o2 rfl
    · exact q2.elim
  · exact q2.elim
theorem de_inD (hu : X.A.units + 64 < cLine) (ha : DE X Z a Ta) (hb : DE X Z b Tb) (hm : behindInMarks .In b = false := by first | exact nobehind _ (by decide) (by decide) | rfl) : DE X Z (.Compare a [.In] [b] pos) (dOp (dInD false) Ta Tb) := by
  obtain ⟨ta, pa, wa⟩ := ha
  obtain ⟨tb, pb, wb⟩ := hb
  exact ⟨_, pe_cmp (pc_din (by omega) pa pb) hm, fun es μ Q h => din_ok wa wb (fun σ H Q q => by simpa only [Bool.false_bne, tDIn] using q) h⟩
theorem dt_inD (hu : X.A.units + 64 < cLine) (ha : DE X Z a Ta) (hb : DE X Z b Tb) (hm : behindInMarks .In b = false := by first | exact nobehind _ (by decide) (by decide) | rfl) : DT X Z (.Compare a [.In] [b] pos) (dTest (dOp (dInD false) Ta Tb)) := by
  obtain ⟨ta, pa, wa⟩ := ha
  obtain ⟨tb, pb, wb⟩ := hb
  have key : ∀ es μ Q, dOp (dInD false) Ta Tb es μ Q → EW X.K Z (tDIn ta tb) es μ Q := fun es μ Q h => din_ok wa wb (fun σ H Q q => by simpa only [Bool.false_bne, tDIn] using q) h
  refine ⟨_, pt_cmp (pc_din (by omega) pa pb) hm, fun es μ Q h B θ σ H o en z Q' fo => ?_⟩
  refine key es μ _ h B θ σ H o en z _ fun v B1 θ1 H1 u μ1 q g1 o1 r1 => ?_
  dsimp only at q
  split at q
  · exact ⟨_, r1, fo _ B1 θ1 H1 μ1 q g1 o1⟩
  · exact q.elim
def dIxD : F2 := fun v w μ Q => match v, w with
  | .d (.dic ks xs), .d x => (match (keyD x).bind (dicAt ks xs) with
    | some y => Q (.d y) μ
    | none => False)
  | _, _ => False
theorem de_ixD (hu : X.A.units + 64 < cLine) (ha : DE X Z a Ta) (hb : DE X Z b Tb) (hs : NoSl b := by exact fun _ _ => rfl) : DE X Z (.Subscript a b pos) (dOp dIxD Ta Tb) := by
  obtain ⟨ta, pa, wa⟩ := ha
  obtain ⟨tb, pb, wb⟩ := hb
  refine ⟨_, pe_dget (by omega) pa pb hs, fun es μ Q h B θ σ H o en z Q' fo => ?_⟩
  refine wa es μ _ h B θ σ H o en z _ fun v B1 θ1 H1 u μ1 q g1 o1 r1 => ?_
  refine wb es μ1 _ q B1 θ1 σ H1 o1 (en.mono g1.ex g1.pre) (z.tr g1) _ fun w B2 θ2 H2 y μ2 q2 g2 o2 r2 => ?_
  have r1' := RV.mono g2.ex g2.pre r1
  unfold dIxD at q2
  dsimp only at q2
  split at q2
  · rename_i ks xs x
    split at q2
    · rename_i yy e
      obtain ⟨k, e1, e2⟩ := Option.bind_eq_some_iff.mp e
      obtain ⟨a, r, rfl, g, hr⟩ := dic_get o2 r2 r1' e1
      rcases hr with ⟨h1, _⟩ | ⟨zz, uu, h1, h2, h3⟩
      · rw [h1] at e2; cases e2
      · rw [h1] at e2
        cases e2
        subst h2
        exact ⟨a, uu, rfl, g, (fo.tr (g1.tr g2)).here (v := .d _) q2 o2 h3⟩
    · exact q2.elim
  · exact q2.elim
end
end
end DL

/-! DLk: an exception that is caught and kept. -/
namespace DL
open PySem PySem.Spec PyProof.Rows L2

/-- the wish of a clause that keeps the exception in slot j -/
def keepW (K : PySem.W.Frag) (c : Value) (n j : Nat) (D : Ends) : XK := fun cls d H => PySem.W.exmOne K cls c = some true ∧ ∀ (a : Addr) (σ : L2.St), H a = none → σ.length = n → σ[j]? = some (some (.ref a)) → D.nx σ (upd H a (excO a cls d))
section
variable {X : Cx} {pins : List (Addr × Obj)} {σ : L2.St} {H : Hp} {s : Shared}
/-- a pinned object that the def's beginning did not know is tracked from now on -/
theorem Inv.caught {a : Addr} {oe : Obj} {fs : Array Value} {cls : Value} {d : Option Addr} (I : Inv X ((a, oe) :: pins) σ H s) (hex : X.ex = []) (hz : Zc cls d oe) (hd : oe.data = .fields fs) (h0 : X.s_0.heap.get? a = none) (hp : ∀ p ∈ X.pn ++ pins, p.1 ≠ a) :
    Inv X pins σ (upd H a (excO a cls d)) s := by
  obtain ⟨ga, na, nL, nF, nc⟩ := I.pin (a, oe) (List.mem_append_right _ (List.mem_cons_self ..))
  have ga : s.heap.get? a = some oe := ga
  have na : H a = none := na
  have some_ne : ∀ {b : Addr} {u : HO}, H b = some u → b ≠ a := fun e => ne_of_none e na
  have fresh : ∀ {b : Addr} {o : Obj}, X.s_0.heap.get? b = some o → b ≠ a := fun {b o} e q => by
    rw [q, h0] at e
    cases e
  refine ⟨I.ok, I.os, I.bare, ⟨I.base.keep, I.base.slot, fun b o e n hx => ?_, I.base.there, fun b xs e => ?_, fun b o u e => ?_, fun b ps e => ?_⟩, I.loc, I.cell, ?_, fun x c e => ?_, fun p hq => ?_, fun b u e => ?_, I.len⟩
  · rw [upd_ne (fresh e)]
    exact I.base.free b o e n hx
  · have q := I.base.tups b xs e
    rw [upd_ne (some_ne q)]
    exact q
  · have q := I.base.frzs b o u e
    rw [upd_ne (some_ne q)]
    exact q
  · obtain ⟨more, q⟩ := I.base.tbls b ps e
    exact ⟨more, by rw [upd_ne (some_ne q)]; exact q⟩
  · rw [upd_ne (Ne.symm nL)]
    exact I.free
  · have hc : c ≠ a := fun q => by
      obtain ⟨v, o, ho, hdat⟩ := I.cell x c e
      rw [q, ga] at ho
      cases ho
      exact nc v hdat
    rw [upd_ne hc]
    exact I.freeC x c e
  · have hq' : p ∈ X.pn ++ ((a, oe) :: pins) := by
      rcases List.mem_append.mp hq with z | z
      · exact List.mem_append_left _ z
      · exact List.mem_append_right _ (List.mem_cons_of_mem _ z)
    obtain ⟨e1, e2, e3, e4, e5⟩ := I.pin p hq'
    exact ⟨e1, by rw [upd_ne (hp p hq)]; exact e2, e3, e4, e5⟩
  · by_cases hb : b = a
    · rw [hb, upd_same] at e
      cases e
      rw [hb]
      exact ⟨⟨oe, fs, ga, hz.1, hz.2, hd⟩, ⟨oe, ga⟩, fun h1 h2 ⟨o, vs, x1, x2, x3, x4⟩ st => ⟨o, vs, st _ x1, x2, x3, x4⟩⟩
    · rw [upd_ne hb] at e
      exact (I.hok b u e).stay (fun c v _ q => q) (fun c q => by rw [upd_ne (some_ne q)]; exact q) fun c xs q => by rw [upd_ne (some_ne q)]; exact q
end
section
variable {X : Cx} {x n m : Str} {c : Value} {i j : Nat} {body : List Stmt} {np mp n2p pos pos1 pos2 : Pos} {tb : XK → TS}
/-- try: body / except x as n: m = n, an exception of the class that is named, nothing else -/
theorem ps_try_keep (hs : X.stack = X.env :: X.outer) (hf : X.env.frame = some X.env.locals) (hex : X.ex = []) (hN : X.N.Nodup) (hi : X.N[i]? = some n) (hj : X.N[j]? = some m) (hij : i ≠ j) (hln : X.env.kindOf n = some .local) (hlm : X.env.kindOf m = some .local)
    (hdn : (n == ("__debug__" : Str)) = false) (hcn : (n == ("__classdict__" : Str)) = false) (hc : Names X x c) (hsw : swapsWith (.Name n n2p) (some (.Name m mp)) pos2.line X.env = pure false)
    (hb : ∀ (E : XK) (pn : List (Addr × Obj)) (xe : Value → Shared → Prop), Takes (X.tr pn xe) (fun cls d _ H => E cls d H) → PSs (X.tr pn xe) body (tb E)) :
    PS X (.Try body [.ExceptHandler (some (.Name x np)) (some n) [.Assign [.Name m mp] (.Name n n2p) pos2] pos1] [] [] pos) (fun D σ H => tb (keepW X.K c X.N.length j D) D σ H) := by
  refine ⟨fun pins s σ H D I h => ?_⟩
  have okX := I.ok
  have frames_are : X.A.frames = some (X.env :: X.outer) := by rw [okX.frames, hs]
  refine wpAny_Try_except ?_
  refine wpAny_mono ((hb (keepW X.K c X.N.length j D) (X.pn ++ pins) (fun ev t1 => wpAny (model X.prog X.w) X.A (noteFrame ev X.env) (fun _ t2 => wpAny (model X.prog X.w) X.A (setFlight ev none)
    (fun _ t3 => wpAny (model X.prog X.w) X.A (handleBy ev X.env [.ExceptHandler (some (.Name x np)) (some n) [.Assign [.Name m mp] (.Name n n2p) pos2] pos1]) (SP X pins D) X.xe t3) X.xe t2) X.xe t1) (fun ev t xx => ?_)).run [] s σ H D (I.toTry _) h) (fun fl t hsp => ?_) (fun _ _ he => he)
  · obtain ⟨a, B, sI, pins', σ', H', cls, d, rfl, Jt, nb, up, sky, na, os, ag, hexm, hgo⟩ := xx
    have J : Inv X pins σ' H' sI := Jt.ofTry okX
    have skyE : Sky B (X.env :: X.outer) a (Zc cls d) X.env.locals t.heap := by rw [← hs]; exact sky
    show wpAny (model X.prog X.w) X.A (noteFrame (.ref a) X.env) _ _ _
    refine Sky.land Zc.steady frames_are hf skyE fun g1 held1 up1 => ?_
    have J1 : Inv X pins σ' H' { t with heap := g1 } := J.landed nb held1.1 (up.trans up1) os ag
    obtain ⟨o1, f1, ha1, hz1, hd1⟩ := held1.there
    have out : a ∉ frs (X.env :: X.outer) := fun hm => by
      obtain ⟨_, o', e', hnf⟩ := held1.2.2.1.mem hm
      rw [ha1] at e'
      cases e'
      exact hnf _ hd1
    have nL : a ≠ X.env.locals := fun z => out (List.mem_filterMap.mpr ⟨X.env, List.mem_cons_self, by rw [hf, z]⟩)
    have nF : a ∉ X.fs := fun hm => by
      obtain ⟨ev, hev, q⟩ := List.mem_filterMap.mp hm
      exact out (List.mem_filterMap.mpr ⟨ev, List.mem_cons_of_mem _ hev, q⟩)
    have ba : B.get? a = none := held1.2.1
    have notI : ∀ o, sI.heap.get? a ≠ some o := fun o e => by
      have q := nb a o e (by rw [hs]; exact out)
      rw [ba] at q
      cases q
    have not0 : X.s_0.heap.get? a = none := by
      cases e : X.s_0.heap.get? a with
      | none => rfl
      | some o =>
        obtain ⟨o', e'⟩ := J.base.there a o e (by rw [hex]; exact fun z => nomatch z)
        exact absurd e' (notI o')
    have notP : ∀ p ∈ X.pn ++ pins, p.1 ≠ a := fun p hp q => by
      have e := (J.pin p hp).1
      rw [q] at e
      exact notI _ e
    have Sa := J1.suite ha1 hd1 na nL nF
    refine wpAny_handleBy_cons (codeAny_handlers_test ?_) (by intro q; cases q)
    have looksT : PySem.W.Looks (model X.prog X.w) g1 (typeOf (.ref a)) cls := fun A Q E t' k q => wpAny_typeOf_ref (k _ _ ha1) (by rw [hz1.1]; exact q)
    have looksM := PySem.W.exm_one (M := model X.prog X.w) (J1.kIn) looksT hexm
    have named : ∀ {Q : Value → Shared → Prop} {E : Value → Shared → Prop}, Q c { t with heap := g1 } → wpAny (model X.prog X.w) (X.A.mark (some (.ref a))) (eval (.Name x np) X.env) Q E { t with heap := g1 } := fun {Q E} q => by
      obtain ⟨hg, hdbg, hm | ⟨hm, hv, hnn⟩⟩ := hc
      · exact ld_glob (X := X.suite a ((a, o1) :: (X.pn ++ pins))) Sa hg hm q hdbg
      · exact ld_blt (X := X.suite a ((a, o1) :: (X.pn ++ pins))) Sa hg hm hv q hnn hdbg
    refine named (looksM.here ?_)
    refine codeAny_handlers_suite_as ?_
    refine HandSPX.lands_againZ held1 fun g2 held2 up2 => ?_
    have J2 : Inv X pins σ' H' { t with heap := g2 } := J.landed nb held2.1 ((up.trans up1).trans up2) os ag
    obtain ⟨o2, f2, ha2, hz2, hd2⟩ := held2.there
    have Sb := J2.suite ha2 hd2 na nL nF
    refine store_ok (X := X.suite a ((a, o2) :: (X.pn ++ pins))) (v := .ref a) Sb hN hi (.inl hln) rfl (fun t5 S5 => ?_) (.inr hln)
    have st : PSs (X.suite a ((a, o2) :: (X.pn ++ pins))) [.Assign [.Name m mp] (.Name n n2p) pos2] (tAsg (tVar i) (gName j)) :=
      pss_one (ps_set (X := X.suite a ((a, o2) :: (X.pn ++ pins))) hN hj (.inl hlm) (pe_var (X := X.suite a ((a, o2) :: (X.pn ++ pins))) hi (.inl hln) hdn hcn) hsw (.inr hlm))
    have li : i < σ'.length := by
      rw [J.len]
      exact (List.getElem?_eq_some_iff.mp hi).1
    have lj : j < σ'.length := by
      rw [J.len]
      exact (List.getElem?_eq_some_iff.mp hj).1
    refine wpAny_mono (st.run [] t5 _ H' { nx := fun σ6 H6 => σ6 = (σ'.set i (some (.ref a))).set j (some (.ref a)) ∧ H6 = H', rt := fun _ _ => False } S5 ⟨.ref a, by rw [List.getElem?_set_self li], rfl, rfl⟩) (fun fl t6 hsp => ?_) (fun _ _ z => False.elim z)
    cases fl with
    | next =>
      obtain ⟨σ6, H6, S6, e6, e7⟩ := hsp
      subst e6 e7
      have K6 : Inv X ((a, o2) :: pins) ((σ'.set i (some (.ref a))).set j (some (.ref a))) H6 t6 := by
        refine ⟨okX, S6.os, S6.bare, S6.base, S6.loc, S6.cell, S6.free, S6.freeC, fun p hp => S6.pin p ?_, S6.hok, S6.len⟩
        rcases List.mem_append.mp hp with z | z
        · exact List.mem_append_left _ (List.mem_cons_of_mem _ (List.mem_append_left _ z))
        · rcases List.mem_cons.mp z with z | z
          · rw [z]
            exact List.mem_append_left _ (List.mem_cons_self ..)
          · exact List.mem_append_left _ (List.mem_cons_of_mem _ (List.mem_append_right _ z))
      refine gone_ok K6 hN hi hln fun t7 K7 => ?_
      refine ⟨_, _, Inv.caught K7 hex hz2 hd2 not0 notP, hgo a _ na ?_ ?_⟩
      · rw [List.length_set, List.length_set, List.length_set, J.len]
      · rw [List.getElem?_set_ne hij, List.getElem?_set_self (by rw [List.length_set]; exact lj)]
    | brk =>
      obtain ⟨_, _, _, z⟩ := hsp
      exact False.elim z
    | cont =>
      obtain ⟨_, _, _, z⟩ := hsp
      exact False.elim z
    | ret u =>
      obtain ⟨_, _, _, _, _, z⟩ := hsp
      exact False.elim z
  · cases fl with
    | next =>
      obtain ⟨σ', H', J', q⟩ := hsp
      exact wpAny_execs_nil ⟨σ', H', J'.ofTry okX, q⟩
    | brk => exact hsp.elim fun σ' z => z.elim fun H' z => ⟨σ', H', z.1.ofTry okX, z.2⟩
    | cont => exact hsp.elim fun σ' z => z.elim fun H' z => ⟨σ', H', z.1.ofTry okX, z.2⟩
    | ret u =>
      obtain ⟨v, σ', H', J', rq⟩ := hsp
      exact ⟨v, σ', H', J'.ofTry okX, rq⟩
end
end DL

/-! DLl: what a def asks of an exception that it holds. -/
namespace DL
open PySem PySem.Spec PyProof.Rows L2

/-- what an own exception class must be -/
def xcB (K : PySem.W.Frag) (C : Addr) : Bool := (PySem.W.clsIn K C).isSome && (xfB K C && (decide (PySem.W.findIn K (.ref C) "__class__" = some (some (.builtin "object.__class__"))) && (decide (PySem.W.mroIn K C (.type "object") = some true) &&
  (decide (PySem.W.specialIn K (.builtin "object.__class__") "__get__" = some (some (.builtin "getset_descriptor.__get__"))) && decide (PySem.W.takesIn K (.builtin "object.__class__") = some true)))))
theorem xc_kit {K : PySem.W.Frag} {C x : Addr} {ox : Obj} {od : Option Obj} (h : xcB K C = true) : PySem.W.KitX K (.ref x) (.ref C) (fun h => PySem.W.InstAt h x ox C od) := by
  unfold xcB at h
  simp only [Bool.and_eq_true, decide_eq_true_eq] at h
  obtain ⟨h1, h2, h3, h4, h5, h6⟩ := h
  have T := xfB_ok h2
  exact PySem.W.kitx_exc h1 T.ga T.gg T.exC h3 h5 h6 h4
def clsU : V → Option Value
  | .ref a => some (.ref a)
  | .ty n => some (.type n)
  | _ => none
theorem clsU_ok {v : V} {u u' : Value} (h : clsU v = some u) (r : RelV v u') : u' = u := by
  cases v with
  | ref a => injection h with h; subst h; exact r
  | ty n => injection h with h; subst h; exact r
  | _ => cases h
section
variable {X : Cx} {Z : Anc} {pos : Pos}
theorem exc_inst {K : PySem.W.Frag} {B H : Hp} {pins : List (Addr × Obj)} {σ : L2.St} {s : Shared} {a C dx : Addr} {fs : List (Str × V)} (I : Inv X pins σ H s) (h1 : H a = some (excO a (.ref C) (some dx))) (h2 : H dx = some (.xd fs)) :
    ∃ oe od, PySem.W.InstAt s.heap a oe C (some od) ∧ ∀ n, ∃ r, PySem.W.lookIn n od = some r ∧ RelO (fs.lookup n) r := by
  have q : ObjOk X.prog X.w H s.heap a (excO a (.ref C) (some dx)) := I.hok a _ h1
  obtain ⟨⟨oe, vs, g1, g2, g3, g4⟩, _, _⟩ := q
  have q2 : ObjOk X.prog X.w H s.heap dx (.xd fs) := I.hok dx _ h2
  obtain ⟨mA, hns, hr⟩ := q2
  obtain ⟨od, ho, hl⟩ := lookIn_ns hns
  exact ⟨oe, od, ⟨g1, g2, by unfold PySem.W.notCls; rw [g4] <;> rfl, by rw [g3]; exact ho⟩, fun n => ⟨mA n, hl n, hr n⟩⟩
def gIsiX (K : PySem.W.Frag) : G1 := fun vs μ Q => match vs with
  | [.d (.exc C _ _), .d (.raw c)] => xcB K C = true ∧ (match (clsU c).bind (PySem.W.kitOne K (.ref C)) with
    | some b => Q (.d (.bl b)) μ
    | none => False)
  | _ => False
theorem dc_isiX : DCa X (.builtin "isinstance") (gIsiX X.K) := by
  refine ⟨fun xs H Q => ∃ (a C dx : Addr) (fs : List (Str × V)) (c : V) (u : Value) (b : Bool), xs = [.ref a, c] ∧ H a = some (excO a (.ref C) (some dx)) ∧ H dx = some (.xd fs) ∧ xcB X.K C = true ∧ clsU c = some u ∧ PySem.W.kitOne X.K (.ref C) u = some b ∧ Q (.bl b) H, ?_, fun vs μ Q h B θ H us o r Q' fo => ?_⟩
  · intro pins s σ H xs us Q I r h
    obtain ⟨a, C, dx, fs, c, u, b, rfl, h1, h2, hx, hc, hk, q⟩ := h
    obtain ⟨u1, u2, rfl, r1, r2⟩ := vals2 r
    have e1 : u1 = Value.ref a := r1
    subst e1
    have e2 := clsU_ok hc r2
    subst e2
    obtain ⟨oe, od, J, _⟩ := exc_inst (K := X.K) (B := H) I h1 h2
    exact PySem.W.kia_one (xc_kit hx) I.kIn J hk (fun z => nomatch z) fun tk => ⟨.bl b, H, I.tok tk, rfl, q⟩
  · unfold gIsiX at h
    split at h
    · rename_i C ns xs c
      obtain ⟨hx, h⟩ := h
      split at h
      · rename_i b e
        obtain ⟨u, e1, e2⟩ := Option.bind_eq_some_iff.mp e
        obtain ⟨v1, v2, rfl, r1, r2⟩ := rvs2 r
        obtain ⟨a, dx, vs, rfl, b1, b2, _, _⟩ := r1
        exact ⟨a, C, dx, _, v2, u, b, rfl, o.ex _ _ b1, o.ex _ _ b2, hx, by rw [show v2 = c from r2]; exact e1, e2, fo.here (v := .d (.bl b)) h o rfl⟩
      · exact h.elim
    · exact h.elim
theorem zip_look {K : PySem.W.Frag} {B : Hp} {n : Str} : ∀ {ns : List Str} {xs : List D} {vs : List V} {x : D}, RL K B xs vs → (ns.zip xs).lookup n = some x → ∃ v, (ns.zip vs).lookup n = some v ∧ R K B x v
  | [], _, _, _, _, h => by simp at h
  | m :: ns, [], _, _, _, h => by simp at h
  | m :: ns, y :: xs, vs, x, r, h => by
    obtain ⟨v, ws, rfl, h1, h2⟩ := r
    rw [List.zip_cons_cons, List.lookup_cons] at h ⊢
    cases e : (n == m) with
    | true =>
      rw [e] at h
      have h3 : y = x := Option.some.inj h
      subst h3
      exact ⟨v, rfl, h1⟩
    | false =>
      rw [e] at h
      exact zip_look h2 h
def dAtX (K : PySem.W.Frag) (n : Str) (T : ET) : ET := fun es μ Q => T es μ fun v μ1 => match v with
  | .d (.exc C ns xs) => xfB K C = true ∧ PySem.W.findIn K (.ref C) n = some none ∧ (match (ns.zip xs).lookup n with
    | some x => Q (.d x) μ1
    | none => False)
  | _ => False
theorem de_atX {e : Expr} {n : Str} {T : ET} (h : DE X Z e T) (hb : attributeBase e n X.env (eval e X.env) = eval e X.env := by rfl) : DE X Z (.Attribute e n pos) (dAtX X.K n T) := by
  obtain ⟨t, p, w⟩ := h
  refine ⟨fun σ H Q => t σ H fun x H1 => ∃ (a C dx : Addr) (fs : List (Str × V)) (v : V), x = .ref a ∧ H1 a = some (excO a (.ref C) (some dx)) ∧ H1 dx = some (.xd fs) ∧ xfB X.K C = true ∧ PySem.W.findIn X.K (.ref C) n = some none ∧ fs.lookup n = some v ∧ Q v H1, ⟨fun pins s σ H Q I h => ?_⟩, fun es μ Q h B θ σ H ok en z Q' fo => ?_⟩
  · refine attr_of hb (thn (p.run pins s σ H _ I h) fun u s1 hh => ?_)
    obtain ⟨x, H1, I1, rx, a, C, dx, fs, v, ex, h1, h2, hx, hno, hv, q⟩ := hh
    subst ex
    have eu : u = Value.ref a := rx
    subst eu
    obtain ⟨oe, od, J, hl⟩ := exc_inst (K := X.K) (B := H1) I1 h1 h2
    obtain ⟨r, hr, rel⟩ := hl n
    rw [hv] at rel
    obtain ⟨u, hu, ru⟩ := RelO.some_of rel
    have T := xfB_ok hx
    exact HandSPX.exc_get I1.kIn J T.ga T.gg T.exC (PySem.W.findObj_own T.hdC hno rfl (by rw [hr, hu])) (handed_of ru) ⟨v, H1, I1.tok _, ru, q⟩
  · refine w es μ _ h B θ σ H ok en z _ fun v B1 θ1 H1 u μ1 q g1 o1 r1 => ?_
    dsimp only at q
    split at q
    · rename_i C ns xs
      obtain ⟨hx, hno, q⟩ := q
      split at q
      · rename_i x e
        obtain ⟨a, dx, vs, rfl, b1, b2, l, rl⟩ := r1
        obtain ⟨v, e2, rv⟩ := zip_look rl e
        exact ⟨a, C, dx, _, v, rfl, o1.ex _ _ b1, o1.ex _ _ b2, hx, hno, e2, (fo.tr g1).here (v := .d x) q o1 rv⟩
      · exact q.elim
    · exact q.elim
end
end DL

/-! DLm: f(lambda: e), f a def that calls what it got, keeps what is raised, and tells it. -/
namespace DL
open PySem PySem.Spec PyProof.Rows L2

/-- a lambda was made: the table of its maker has grown -/
theorem Ok.grown {K : PySem.W.Frag} {B H H1 : Hp} {θ : List Addr} {μ : Mu} {k : Nat} {P : Addr} {q : Str} (o : Ok K B θ H μ) (hk : μ[k]? = some (.tab P q)) (one : ∀ (j : Nat) P' q', μ[j]? = some (.tab P' q') → j = k) (e : LamX.ExtN H H1) (t : LamX.TabS H1 P q) :
    ∃ B1, Ok K B1 θ H1 μ ∧ Gw B θ H B1 θ H1 := by
  classical
  have code_ne : ∀ (c : Addr) (q' : Str) (o : HO), H1 c = some (LamX.CodeO c q') → H1 c = some o → Hdb o ∨ (∃ ps, o = .tbl ps) ∨ (∃ C dx fs, o = .ins C dx fs) → False := by
    intro c q' o h1 h2 h3
    rw [h1] at h2
    have z : LamX.CodeO c q' = o := Option.some.inj h2
    unfold LamX.CodeO at z
    subst z
    rcases h3 with h3 | ⟨ps, h3⟩ | ⟨C, dx, fs, h3⟩
    · exact h3
    · cases h3
    · cases h3
  let B1 : Hp := fun a => match B a with
    | some u => some u
    | none => if a ∉ θ ∧ H1 a = some (LamX.CodeO a q) then some (LamX.CodeO a q) else none
  have hB1 : ∀ a u, B a = some u → B1 a = some u := fun a u h => by
    show (match B a with
      | some u => some u
      | none => if a ∉ θ ∧ H1 a = some (LamX.CodeO a q) then some (LamX.CodeO a q) else none) = some u
    rw [h]
  have hB0 : ∀ a, B a = none → B1 a = if a ∉ θ ∧ H1 a = some (LamX.CodeO a q) then some (LamX.CodeO a q) else none := fun a h => by
    show (match B a with
      | some u => some u
      | none => if a ∉ θ ∧ H1 a = some (LamX.CodeO a q) then some (LamX.CodeO a q) else none) = _
    rw [h]
  have keepB : ∀ a u, B a = some u → H1 a = some u := fun a u h => e a u (o.ex a u h) fun ps z => o.ntb a ps (z ▸ h)
  have exB : Ex B1 H1 := fun a u h => by
    cases hb : B a with
    | some v =>
      have z := hB1 a v hb
      rw [z] at h
      have y : v = u := Option.some.inj h
      rw [← y]
      exact keepB a v hb
    | none =>
      rw [hB0 a hb] at h
      split at h
      · rename_i c
        rw [← Option.some.inj h]
        exact c.2
      · cases h
  have inθ : ∀ a, a ∈ θ → B a = none → B1 a = none := fun a ha hb => by
    rw [hB0 a hb, if_neg (fun z => z.1 ha)]
  refine ⟨B1, ⟨exB, o.len, o.nd, fun j a m h1 h2 => ?_, fun a ps h => ?_⟩, ⟨hB1, List.prefix_rfl, fun a h => .inl h, fun a ob h1 h2 h3 h4 => ?_⟩⟩
  · have r := o.mu j a m h1 h2
    have ha : a ∈ θ := List.mem_of_getElem? h1
    cases m with
    | lst xs =>
      obtain ⟨b0, vs, x1, x2⟩ := r
      exact ⟨inθ a ha b0, vs, e _ _ x1 (fun _ z => nomatch z), RVs.mono hB1 List.prefix_rfl x2⟩
    | dK ks xs =>
      obtain ⟨b0, vs, x1, x2, x3⟩ := r
      exact ⟨inθ a ha b0, vs, e _ _ x1 (fun _ z => nomatch z), x2, RVs.mono hB1 List.prefix_rfl x3⟩
    | ins C ns xs =>
      obtain ⟨b0, dx, vs, x1, x2, x3⟩ := r
      exact ⟨inθ a ha b0, dx, vs, e _ _ x1 (fun _ z => nomatch z), x2, RVs.mono hB1 List.prefix_rfl x3⟩
    | dead =>
      obtain ⟨u, x1⟩ := r
      exact ⟨u, hB1 _ _ x1⟩
    | tab P' q' =>
      have hj := one j P' q' h2
      subst hj
      rw [hk] at h2
      cases h2
      obtain ⟨b0, x0, _⟩ := r
      obtain ⟨ps, t1, t2, t3⟩ := t
      refine ⟨inθ a ha b0, x0, ps, by rw [x0]; exact t1, t2, fun pos cv hc => ?_⟩
      obtain ⟨c, c1, c2⟩ := t3 pos cv hc
      refine ⟨c, c1, ?_⟩
      cases hb : B c with
      | some v =>
        have z := keepB c v hb
        rw [z] at c2
        rw [hB1 c v hb]
        exact c2
      | none =>
        have nc : c ∉ θ := fun hm => by
          obtain ⟨i, hi, ei⟩ := List.mem_iff_getElem.mp hm
          have g1 : θ[i]? = some c := by rw [List.getElem?_eq_getElem hi, ei]
          have g2 : i < μ.length := by rw [← o.len]; exact hi
          have rr := o.mu i c μ[i] g1 (List.getElem?_eq_getElem g2)
          cases em : μ[i] with
          | lst xs => rw [em] at rr; obtain ⟨_, vs, x1, _⟩ := rr; exact code_ne c q _ c2 (e _ _ x1 (fun _ z => nomatch z)) (.inl trivial)
          | dK ks xs => rw [em] at rr; obtain ⟨_, vs, x1, _⟩ := rr; exact code_ne c q _ c2 (e _ _ x1 (fun _ z => nomatch z)) (.inl trivial)
          | ins C ns xs => rw [em] at rr; obtain ⟨_, dx, vs, x1, _⟩ := rr; exact code_ne c q _ c2 (e _ _ x1 (fun _ z => nomatch z)) (.inr (.inr ⟨_, _, _, rfl⟩))
          | dead => rw [em] at rr; obtain ⟨u, x1⟩ := rr; rw [hb] at x1; cases x1
          | tab P2 q2 =>
            have hi2 := one i P2 q2 (by rw [List.getElem?_eq_getElem g2, em])
            subst hi2
            rw [g1] at h1
            cases h1
            rw [x0] at c2
            exact code_ne _ q _ c2 t1 (.inr (.inl ⟨ps, rfl⟩))
        rw [hB0 c hb, if_pos ⟨nc, c2⟩]
  · cases hb : B a with
    | some v =>
      rw [hB1 a v hb] at h
      cases h
      exact o.ntb a ps hb
    | none =>
      rw [hB0 a hb] at h
      split at h
      · have z : LamX.CodeO a q = .tbl ps := Option.some.inj h
        unfold LamX.CodeO at z
        cases z
      · cases h
  · have x : H1 a = some ob := e a ob h3 fun ps z => by
      subst z
      exact h4
    refine ⟨x, ?_⟩
    rw [hB0 a h2, if_neg (fun z => code_ne a q ob z.2 x (.inl h4))]

/-- a, b = two constants: stored from the left; the pair is not tracked -/
theorem ps_par0 {X : Cx} {pos : Pos} {i j : Nat} {x y : Str} {a b : Expr} {ta : TA} {px py pt : Pos} {kt k2 pt2} (hc : X.calm = true) (hN : X.N.Nodup) (hi : X.N[i]? = some x) (hj : X.N[j]? = some y) (hij : i ≠ j)
    (hx : X.env.scope.names.lookup x = some .local) (hy : X.env.scope.names.lookup y = some .local) (ha : PA X [a, b] ta)
    (hw : swappedStores [.Tuple [.Name x px, .Name y py] kt pt] (.Tuple [a, b] k2 pt2) X.env = pure none)
    (hs : swapsWithSole [.Tuple [.Name x px, .Name y py] kt pt] (.Tuple [a, b] k2 pt2) pos.line X.env = pure false)
    (h1 : (assignEach [.Tuple [.Name x px, .Name y py] kt pt] X.env).map (·.2) = [assign (.Tuple [.Name x px, .Name y py] kt pt) X.env] := by rfl) :
    PS X (.Assign [.Tuple [.Name x px, .Name y py] kt pt] (.Tuple [a, b] k2 pt2) pos) (tPar i j ta) := by
  refine ⟨fun pins s σ H D I h => ?_⟩
  refine wpAny_Assign_stores (Tuple_ (thn (ha.run _ pins s σ H _ I h) fun us s1 ⟨vs, H1, I1, r1, q1⟩ => ?_)) hs hw
  obtain ⟨v, w, e1, q1⟩ := q1
  subst e1
  obtain ⟨u1, u2, rfl, rv, rw'⟩ : ∃ u1 u2, us = [u1, u2] ∧ RelV v u1 ∧ RelV w u2 := by
    cases r1 with
    | cons p q =>
      cases q with
      | cons p' q' =>
        cases q'
        exact ⟨_, _, rfl, p, p'⟩
  refine wpAny_newObj_type ?_ (by show 2 ≤ sizeLine; decide)
  have I2 : Inv X pins σ H1 { s1 with heap := s1.heap.push { cls := .type "tuple", data := .seq [u1, u2].toArray } } := I1.kept (t' := s1.toks) fun b o e => Heap.get?_push_of_some _ e
  rw [h1]
  have z : wpAny (model X.prog X.w) X.A (assign (.Tuple [.Name x px, .Name y py] kt pt) X.env (.ref s1.heap.objs.size)) (fun _ s' => ∃ σ' H', Inv X pins σ' H' s' ∧ D.nx σ' H') X.xe { s1 with heap := s1.heap.push { cls := .type "tuple", data := .seq [u1, u2].toArray } } := by
    refine assign_Tuple_tuple (items := #[u1, u2]) (I.ok.hd hc) (IsTup.new s1.heap _) rfl rfl fun h' hx' => ?_
    have I3 := I2.kept (h' := h') (t' := s1.toks) fun b o e => hx' b o (Nat.ne_of_lt (Heap.lt_size e)) e
    exact (pgs_cons (pg_name hN hi (.inl hx) (.inr hx)) (pgs_cons (pg_name hN hj (.inl hy) (.inr hy)) pgs_nil)).run pins _ σ H1 [v, w] _ _ I3 (.cons rv (.cons rw' .nil)) ⟨_, _, rfl, _, _, rfl, rfl, q1⟩
  exact thn z fun _ s2 q => q
/-- what such a def makes of what comes back (Hn), of what is raised (Hx) -/
def TTH (K : PySem.W.Frag) (Hn : Va → Mu → EQ → Prop) (Hx : Addr → List Str → List D → Mu → EQ → Prop) : (XK → Hp → VK → Prop) → Hp → VK → Prop := fun tl H Q =>
  ∃ (B : Hp) (θ : List Addr) (μ : Mu) (QD : EQ), Ok K B θ H μ ∧ Fo K B θ H QD Q ∧ ∀ (E' : XK) (Q' : VK), LiftX K ⟨B, θ, H⟩ (fun C ns xs μ' => Hx C ns xs μ' QD) E' → Fo K B θ H (fun v μ' => Hn v μ' QD) Q' → tl E' H Q'
section
variable {X : Cx} {Ng : List Str} {x a e q cm mk : Str} {sg : Scope} {g CM : Addr} {cdg : Value} {rest : List Stmt} {p1 p2 p3 p4 p5 p6 p7 p8 p9 pa pb pc pd pe pf pg ph : Pos} {k1 k2 : Nat} {T : STd} {Hn : Va → Mu → EQ → Prop} {Hx : Addr → List Str → List D → Mu → EQ → Prop} {j1 j2 : Nat}
theorem heard_gives (hNd : Ng.Nodup) (h0 : Ng[0]? = some a) (h1 : Ng[1]? = some cm) (h2 : Ng[2]? = some q) (h3 : Ng[3]? = some e) {ql : Str}
    (l1 : sg.names.lookup cm = some .local) (l2 : sg.names.lookup q = some .local) (l3 : sg.names.lookup e = some .local) (lM : sg.names.lookup mk = some .globalImplicit) (hM : X.mg mk = some (.ref CM)) (dM : (mk == ("__debug__" : Str)) = false)
    (dn : (e == ("__debug__" : Str)) = false) (cn : (e == ("__classdict__" : Str)) = false)
    (s1 : ∀ L, swappedStores [.Tuple [.Name cm p1, .Name q p2] k1 p3] (.Tuple [.Constant .none j1 p4, .Constant .none j2 p5] k2 p6) (PyProof.Rows.envOfC x sg L g cdg) = pure none)
    (s2 : ∀ L, swapsWithSole [.Tuple [.Name cm p1, .Name q p2] k1 p3] (.Tuple [.Constant .none j1 p4, .Constant .none j2 p5] k2 p6) p7.line (PyProof.Rows.envOfC x sg L g cdg) = pure false)
    (s3 : ∀ L, swapsWith (.Call (.Name a p8) [] [] p9) (some (.Name q pa)) pb.line (PyProof.Rows.envOfC x sg L g cdg) = pure false)
    (s4 : ∀ L, swapsWith (.Name e pc) (some (.Name cm pd)) pe.line (PyProof.Rows.envOfC x sg L g cdg) = pure false)
    (hexm : ∀ C ns xs μ QD, Hx C ns xs μ QD → PySem.W.exmOne X.K (.ref C) (.ref CM) = some true)
    (hrest : ∀ Z s H, DSs ((cxOf C8.CX0 X.prog X.w X.K X.mg X.base Ng x sg g cdg X.A X.stack s H C8.E0).nox) Z rest T)
    (hN : ∀ v μ QD, Hn v μ QD → T { nx := fun _ _ => False, rt := QD } (none :: some (.d .non) :: some v :: List.replicate (Ng.length - 3) none) μ)
    (hX : ∀ C ns xs μ QD, Hx C ns xs μ QD → T { nx := fun _ _ => False, rt := QD } (none :: some (.d (.exc C ns xs)) :: List.replicate (Ng.length - 2) none) μ) (hlen : 3 < Ng.length) :
    LamX.GivesTo X Ng x sg g cdg (.Assign [.Tuple [.Name cm p1, .Name q p2] k1 p3] (.Tuple [.Constant .none j1 p4, .Constant .none j2 p5] k2 p6) p7 ::
      .Try [.Assign [.Name q pa] (.Call (.Name a p8) [] [] p9) pb] [.ExceptHandler (some (.Name mk pf)) (some e) [.Assign [.Name cm pd] (.Name e pc) pe] pg] [] [] ph :: rest) a ql (TTH X.K Hn Hx) := by
  intro f c' s H Q tl act hc h
  obtain ⟨B, θ, μ, QD, o, fo, h⟩ := h
  obtain ⟨X', hX'⟩ : ∃ X', X' = (cxOf C8.CX0 X.prog X.w X.K X.mg X.base Ng x sg g cdg X.A X.stack s H C8.E0).nox := ⟨_, rfl⟩
  obtain ⟨t2, pt2, w2⟩ := (hrest ⟨B, θ, H⟩ s H).ex
  have q0 := ps_par0 (X := (cxOf C8.CX0 X.prog X.w X.K X.mg X.base Ng x sg g cdg X.A X.stack s H C8.E0).nox) (pos := p7) (i := 1) (j := 2) rfl hNd h1 h2 (by decide) l1 l2 (pa_cons pe_non (pa_cons pe_non pa_nil)) (s1 _) (s2 _)
  have q1 := ps_try_keep (X := (cxOf C8.CX0 X.prog X.w X.K X.mg X.base Ng x sg g cdg X.A X.stack s H C8.E0).nox) (x := mk) (n := e) (m := cm) (c := .ref CM) (i := 3) (j := 1) (np := pf) (mp := pd) (n2p := pc) (pos := ph) (pos1 := pg) (pos2 := pe) (body := [.Assign [.Name q pa] (.Call (.Name a p8) [] [] p9) pb])
    (tb := fun E => tAsg (fun σZ HZ Q => σZ[0]? = some (some (.ref f)) ∧ HZ c' = some (LamX.CodeO c' ql) ∧ tl E HZ Q) (gName 2)) rfl rfl rfl hNd h3 h1 (by decide) l3 l1 dn cn ⟨lM, dM, .inl hM⟩ (s4 _) fun E pn xe tk => ?_
  · refine ⟨_, pss_cons q0 (pss_cons q1 pt2), ?_⟩
    have hl : (L2.start Ng [V.ref f]).length = Ng.length := by simp [L2.start]; omega
    refine ⟨V.non, V.non, rfl, ?_, hc, h _ _ ?_ ?_⟩
    · rw [List.getElem?_set_ne (by decide), List.getElem?_set_ne (by decide)]
      rfl
    · intro C dd ns xs vs B2 θ2 H2 μ2 hx rch o2 hdd lz rl
      refine ⟨hexm _ _ _ _ _ hx, fun ad σ na hlσ hσ => ?_⟩
      obtain ⟨o3, g3⟩ := o2.lay (p := ad) (ob := excO ad (.ref C) (some dd)) na (fun ps z => by unfold excO at z; cases z)
      have z2 : Gw B θ H B2 θ2 H2 := rch
      refine w2 _ _ μ2 (hX C ns xs μ2 QD hx) _ θ2 σ _ o3 ⟨?_, fun i v hv => ?_⟩ (z2.tr g3) _ ⟨fun es' B' θ' H' σ' μ' qf _ _ _ => qf.elim, fo.tr (z2.tr g3), fun es' B' θ' H' σ' μ' qf _ _ _ => qf.elim, fun es' B' θ' H' σ' μ' qf _ _ _ => qf.elim⟩
      · rw [hlσ]
        show _ = Ng.length
        simp
        omega
      · match i, hv with
        | 0, hv => cases hv
        | 1, hv =>
          have ev : Va.d (.exc C ns xs) = v := by simpa using hv
          subst ev
          exact ⟨_, hσ, ad, dd, vs, rfl, upd_same, g3.ex _ _ hdd, lz, RL.mono g3.ex _ rl⟩
        | i + 2, hv =>
          rw [List.getElem?_cons_succ, List.getElem?_cons_succ, List.getElem?_replicate] at hv
          split at hv <;> cases hv
    · intro v B2 θ2 H2 u μ2 hn g2 o2 r2
      refine w2 _ _ μ2 (hN v μ2 QD hn) B2 θ2 _ H2 o2 ⟨?_, fun i v' hv => ?_⟩ g2 _ ⟨fun es' B' θ' H' σ' μ' qf _ _ _ => qf.elim, fo.tr g2, fun es' B' θ' H' σ' μ' qf _ _ _ => qf.elim, fun es' B' θ' H' σ' μ' qf _ _ _ => qf.elim⟩
      · rw [List.length_set, List.length_set, List.length_set, hl]
        simp
        omega
      · match i, hv with
        | 0, hv => cases hv
        | 1, hv =>
          have ev : Va.d .non = v' := by simpa using hv
          subst ev
          refine ⟨V.non, ?_, rfl⟩
          rw [List.getElem?_set_ne (by decide), List.getElem?_set_ne (by decide), List.getElem?_set_self (by rw [hl]; omega)]
        | 2, hv =>
          have ev : v = v' := by simpa using hv
          subst ev
          exact ⟨u, by rw [List.getElem?_set_self (by rw [List.length_set, List.length_set, hl]; omega)], r2⟩
        | i + 3, hv =>
          rw [List.getElem?_cons_succ, List.getElem?_cons_succ, List.getElem?_cons_succ, List.getElem?_replicate] at hv
          split at hv <;> cases hv
  · have hp := act (fun cls d _ H' => E cls d H') pn xe E p8 p9 tk (fun _ _ _ _ z => z)
    exact pss_one (ps_set (X := ((cxOf C8.CX0 X.prog X.w X.K X.mg X.base Ng x sg g cdg X.A X.stack s H C8.E0).nox).tr pn xe) hNd h2 (.inl l2) hp (s3 _) (.inr l2))
end
end DL

/-! DLn: the call of such a def with a lambda. -/
namespace DL
open PySem PySem.Spec PyProof.Rows L2

def dHeard (kt : Nat) (P : Addr) (ql : Str) (Hn : Va → Mu → EQ → Prop) (Hx : Addr → List Str → List D → Mu → EQ → Prop) (T : XQ → ET) : ET := fun es μ Q => μ[kt]? = some (.tab P ql) ∧ (∀ (j : Nat) P' q', μ[j]? = some (.tab P' q') → j = kt) ∧
  T (fun C ns xs μ' => Hx C ns xs μ' Q) es μ (fun v μ' => Hn v μ' Q)
section
variable {X : Cx} {Z : Anc}
theorem takes_lift {A : Around} {outer : List Env} {s : Shared} {H : Hp} {E : XK} {scope : Scope} {f c' : Addr} {Z : Anc} {QE : XQ} (lx : LiftX X.K Z QE E) : TakesD (LamX.lamCx X A outer s H E scope f c') Z QE :=
  ⟨fun cls d _ H => E cls d H, takes_of rfl rfl rfl rfl, fun C dd ns xs vs B2 θ2 H2 μ2 σ q2 g2 o2 h1 h2 h3 => lx C dd ns xs vs B2 θ2 H2 μ2 q2 g2 o2 h1 h2 h3⟩
theorem de_heard {x a : Str} {g c P : Addr} {k kt : Nat} {pg : Arguments} {bg : List Stmt} {sg : Scope} {fd : FuncData} {Ng : List Str} {params : Arguments} {body : Expr} {scope : Scope} {p lpos pos : Pos} {T : XQ → ET} {Hn : Va → Mu → EQ → Prop} {Hx : Addr → List Str → List D → Mu → EQ → Prop}
    (F : FunD X.K x x pg bg sg [] [] g fd) (hm : X.mg x = some (.ref g)) (hb : L2.Binds X.K fd [a] []) (Sg : FnScope Ng [a] sg) (hG : ∀ cdv, LamX.GivesTo X Ng x sg g cdv bg a (X.env.qual ++ "<lambda>") (TTH X.K Hn Hx))
    (TB : LamX.TabB X.base X.mg c P) (hcode : X.env.code = .ref c) (hr : Room (k + 2) X.A) (L : LamX.LamS X.env.scope scope)
    (hbody : ∀ (Z : Anc) (A : Around) (outer : List Env) (s : Shared) (H : Hp) (E : XK) (f c' : Addr) (QE : XQ), Room k (A.deeper (LamX.lamEnv X scope s.heap.objs.size f c')) → TakesD (LamX.lamCx X A outer s H E scope f c') Z QE → DE (LamX.lamCx X A outer s H E scope f c') Z body (T QE))
    (hdef : defaultsOf params X.env = ([], []) := by rfl) (hbind : ∀ (q : Str) (cl : List (Str × Addr)) (pm cv ctv : Value), bindArgs (PySem.W.kla_fn "<lambda>" q params body scope cl pm cv ctv) ⟨[], []⟩ = pure [] := by intro _ _ _ _ _; rfl)
    (hg : Gl X x := by rfl) (hNg : Ng[0]? = some a := by rfl) (hva : Vis sg a := by exact .inl rfl)
    (hdb : (x == ("__debug__" : Str)) = false := by decide) (hd : (a == ("__debug__" : Str)) = false := by decide) (hcd : (a == ("__classdict__" : Str)) = false := by decide) :
    DE X Z (.Call (.Name x p) [.Lambda params body scope lpos] [] pos) (dHeard kt P (X.env.qual ++ "<lambda>") Hn Hx T) := by
  obtain ⟨oc, od, dV, kV, doc, pm, an, cdv, ct, osl, efd, lk, hcg, _, _⟩ := F.ex
  subst efd
  have ch := fun Z A outer s H E f c' QE hr lx => (hbody Z A outer s H E f c' QE hr (takes_lift lx)).ex
  obtain ⟨t, ht⟩ : ∃ t : XK → TE, t = fun E σ H Q => ∃ (Z : Anc) (QE : XQ) (lx : LiftX X.K Z QE E), ∀ (A : Around) (outer : List Env) (s : Shared) (H0 : Hp) (f c' : Addr) (hr : Room k (A.deeper (LamX.lamEnv X scope s.heap.objs.size f c'))), Classical.choose (ch Z A outer s H0 E f c' QE hr lx) σ H Q := ⟨_, rfl⟩
  refine ⟨_, LamX.pe_lamcall (T := [(P, X.env.qual ++ "<lambda>")]) (t := t) hg hm F.kp lk hcg hb Sg hNg hva (hG cdv) TB hcode (List.mem_singleton.mpr rfl) (fun q hq _ => by rw [List.mem_singleton.mp hq]) hr L hdef hbind (fun A outer s H E f c' hr' => ?_) hdb hd hcd, fun es μ Q h B θ σ H o en z Q' fo => ?_⟩
  · rw [ht]
    refine ⟨fun pins s1 σ H1 Q I h => ?_⟩
    obtain ⟨Z, QE, lx, h⟩ := h
    exact (Classical.choose_spec (ch Z A outer s H E f c' QE hr' lx)).1.run pins s1 σ H1 Q I (h A outer s H f c' hr')
  · obtain ⟨hk, one, hT⟩ := h
    have lt : kt < θ.length := by rw [o.len]; exact (List.getElem?_eq_some_iff.mp hk).1
    obtain ⟨b0, e0, ps, h1, h2, h3⟩ := o.mu kt θ[kt] _ (List.getElem?_eq_getElem lt) hk
    refine ⟨fun q hq => ?_, fun H1 eN T1 => ?_⟩
    · rw [List.mem_singleton.mp hq]
      refine ⟨ps, by rw [← e0]; exact h1, h2, fun pos cv hc => ?_⟩
      obtain ⟨cc, x1, x2⟩ := h3 pos cv hc
      exact ⟨cc, x1, o.ex _ _ x2⟩
    · obtain ⟨B1, o1, g1⟩ := o.grown hk one eN (T1 _ (List.mem_singleton.mpr rfl))
      refine ⟨B1, θ, μ, Q, o1, fo.tr g1, fun E' Q2 lx fq => ?_⟩
      rw [ht]
      refine ⟨⟨B1, θ, H1⟩, _, lx, fun A outer s H0 f c' hr' => ?_⟩
      exact (Classical.choose_spec (ch _ A outer s H0 E' f c' _ hr' lx)).2 es μ _ hT B1 θ σ H1 o1 (en.mono g1.ex g1.pre) Gw.rfl Q2 fq
end
/-! ### the law's def: its code object is known; the start of all -/
theorem d_law {P : Program} {w : World} {K : PySem.W.Frag} {mg : Str → Option Value} {base : Heap} {x qual : Str} {params : Arguments} {body : List Stmt} {scope : Scope} {dvs : List V} {kws : List (Str × V)} {d : He.Defn} {fd : FuncData} {N ps : List Str} {k : Nat} {sp : Pr} {T : XQ → STd}
    (F : FunD K x qual params body scope dvs kws (He.fAd K d) fd) (S : FnScope N ps scope) (len : ∀ args μ Q QE, sp args μ Q QE → args.length = ps.length)
    (hb : ∀ (A : Around) (outer : List Env) (s : Shared) (H : Hp) (E : XK) (Z : Anc) (QE : XQ), Room k (A.deeper (PyProof.Rows.envOfC qual scope s.heap.objs.size (He.fAd K d) (.ref (He.codeOf K d)))) → TakesD (cxOf (L2.CX P w) P w K mg base N qual scope (He.fAd K d) (.ref (He.codeOf K d)) A outer s H E) Z QE →
      DSs (cxOf (L2.CX P w) P w K mg base N qual scope (He.fAd K d) (.ref (He.codeOf K d)) A outer s H E) Z body (T QE))
    (hp : ∀ args μ Q QE, sp args μ Q QE → T QE { nx := fun _ μ' => Fin μ Q (.d .non) μ', rt := Fin μ Q } (args.map some ++ List.replicate (N.length - args.length) none) μ) :
    FnOk P w K mg base (L2.CX P w) (k + 1) (He.fAd K d) fd ps (lift K sp) := by
  obtain ⟨oc, od, dV, kV, doc, pm, an, cdv, ct, osl, efd, lk, hcd, _, _⟩ := F.ex
  obtain ⟨c, ec⟩ := He.codeIn_ref hcd
  have hcode : He.codeOf K d = c := He.codeOf_eq lk (by rw [efd]; exact ec)
  subst efd
  subst ec
  refine fn_of lk hcd S (fun vs H Q E h => ?_) fun A outer s H vs Q E hr h => ?_
  · obtain ⟨B, θ, μ, args, QD, QE, o, r, h, _⟩ := h
    rw [← Paired.length r]
    exact len _ _ _ _ h
  · obtain ⟨B, θ, μ, args, QD, QE, o, r, h, fo, lx⟩ := h
    rw [← hcode]
    have tk : TakesD (cxOf (L2.CX P w) P w K mg base N qual scope (He.fAd K d) (.ref (He.codeOf K d)) A outer s H E) ⟨B, θ, H⟩ QE := ⟨fun cls d _ H => E cls d H, takes_of rfl rfl rfl rfl, fun C dd ns xs vs' B2 θ2 H2 μ2 σ q2 g2 o2 h1 h2 h3 => lx C dd ns xs vs' B2 θ2 H2 μ2 q2 g2 o2 h1 h2 h3⟩
    rw [← hcode] at hr
    obtain ⟨t, p, wt⟩ := hb A outer s H E ⟨B, θ, H⟩ QE hr tk
    refine ⟨t, p, wt _ _ μ (hp args μ QD QE h) B θ _ H o ?_ Gw.rfl _ ⟨?_, ?_, ?_, ?_⟩⟩
    · have hl := Paired.length r
      refine ⟨by simp [L2.start, hl], fun i v e => ?_⟩
      by_cases hi : i < args.length
      · rw [List.getElem?_append_left (by simpa using hi), List.getElem?_map, List.getElem?_eq_getElem hi] at e
        simp at e
        subst e
        obtain ⟨u, e1, r1⟩ := rvs_at r (List.getElem?_eq_getElem hi)
        refine ⟨u, ?_, r1⟩
        unfold L2.start
        rw [List.getElem?_append_left (by simp; omega), List.getElem?_map, e1]
        rfl
      · rw [List.getElem?_append_right (by simpa using hi), List.getElem?_replicate] at e
        split at e <;> cases e
    · intro es' B' θ' H' σ' μ' q g o' en'
      exact fin_ok o fo (u := V.non) q g o' rfl
    · intro v B' θ' H' u μ' q g o' r'
      exact fin_ok o fo q g o' r'
    · intro es' B' θ' H' σ' μ' q g o' en'
      exact (show False from q).elim
    · intro es' B' θ' H' σ' μ' q g o' en'
      exact (show False from q).elim
theorem rl_ints {K : PySem.W.Frag} {B : Hp} : ∀ ns : List Int, RL K B (ns.map D.int) (ns.map V.int)
  | [] => RL.nil
  | i :: r => .cons rfl (rl_ints r)
/-- the script and the empty table as a state of ours -/
theorem law_start {K : PySem.W.Frag} {sp : Pr} {H : Hp} {a P : Addr} {q : Str} {ns : List Int} (hP : H P = some (.tbl #[])) (hS : SqL K H a (ns.map V.int)) (h : sp [.d (.lsk (ns.map D.int))] [.tab P q] (fun v _ => v = .d (.bl true)) noX) : lift K sp [.ref a] H (fun v _ => v = .bl true) (fun _ _ _ => False) := by
  classical
  let B : Hp := fun b => match H b with
    | some (.tbl _) => none
    | some u => if b = a then some u else none
    | none => none
  have exB : Ex B H := fun b u e => by
    have e : (match H b with
      | some (.tbl _) => none
      | some u => if b = a then some u else none
      | none => none) = some u := e
    split at e
    · cases e
    · rename_i hb
      split at e
      · cases e
        exact hb
      · cases e
    · cases e
  have nt : ∀ b ps, B b ≠ some (.tbl ps) := fun b ps e => by
    have z := exB b _ e
    have e : (match H b with
      | some (.tbl _) => none
      | some u => if b = a then some u else none
      | none => none) = some (.tbl ps) := e
    rw [z] at e
    cases e
  have bP : B P = none := by
    show (match H P with
      | some (.tbl _) => none
      | some u => if P = a then some u else none
      | none => none) = none
    rw [hP]
  have at_ : ∀ u, H a = some u → (∀ ps, u ≠ .tbl ps) → B a = some u := fun u e n => by
    show (match H a with
      | some (.tbl _) => none
      | some u => if a = a then some u else none
      | none => none) = some u
    rw [e]
    cases u with
    | tbl ps => exact absurd rfl (n ps)
    | _ => exact if_pos rfl
  have sB : SqL K B a (ns.map V.int) := by
    rcases hS with (e | ⟨o, e⟩) | k
    · exact .inl (.inl (at_ _ e (fun _ z => nomatch z)))
    · exact .inl (.inr ⟨o, at_ _ e (fun _ z => nomatch z)⟩)
    · exact .inr k
  have rl : RL K B (ns.map D.int) (ns.map V.int) := rl_ints ns
  refine ⟨B, [P], [.tab P q], [.d (.lsk (ns.map D.int))], fun v _ => v = .d (.bl true), noX, ⟨exB, rfl, by simp, fun k b m h1 h2 => ?_, nt⟩, .cons ⟨a, _, rfl, sB, rl⟩ .nil, h, fun v B' θ' H' u μ' e g o r => ?_, fun C dd ns xs vs B θ H μ z => z.elim⟩
  · match k, h1, h2 with
    | 0, h1, h2 =>
      cases h1
      cases h2
      refine ⟨bP, rfl, #[], hP, trivial, fun pos cv hc => ?_⟩
      have z : codeAmong pos [] = some cv := hc
      simp [codeAmong] at z
    | k + 1, h1, h2 => simp at h1
  · have e : v = .d (.bl true) := e
    subst e
    exact r
end DL

/-! DLo: defs in short. -/
namespace DL
open PySem PySem.Spec PyProof.Rows L2

section
variable {X : Cx} {Z : Anc} {pos : Pos}
def dNeg (T : ET) : ET := fun es μ Q => T es μ fun v μ1 => match v with
  | .d (.int i) => Q (.d (.int (-i))) μ1
  | _ => False
theorem de_neg {a : Expr} {T : ET} (h : DE X Z a T) : DE X Z (.UnaryOp .USub a pos) (dNeg T) := by
  obtain ⟨t, p, w⟩ := h
  refine ⟨_, pe_un un_neg p, fun es μ Q h B θ σ H o en z Q' f => ?_⟩
  refine w es μ _ h B θ σ H o en z _ fun v B1 θ1 H1 u μ1 q g1 o1 r1 => ?_
  dsimp only at q
  split at q
  · rename_i i
    exact ⟨i, r1, (f.tr g1).here (v := .d (.int (-i))) q o1 rfl⟩
  · exact q.elim
end
/-- a def of the module that keeps a promise; ds: what a call leaves to the defaults -/
def Fn (P : Program) (w : World) (K : PySem.W.Frag) (mg : Str → Option Value) (base : Heap) (k : Nat) (x : Str) (ds : List D) (sp : Pr) : Prop :=
  ∃ (f : Addr) (fd : FuncData) (ps : List Str) (dus : List Value) (dvs : List V), mg x = some (.ref f) ∧ PySem.W.keepIn K (.ref f) = true ∧ FnOk P w K mg base (L2.CX P w) k f fd ps (lift K sp) ∧ Binds K fd ps dus ∧ Vals dvs dus ∧ ∀ B, RL K B ds dvs
/-- .. called by two keywords, in the parameters' order or the other way round -/
def FnKw (P : Program) (w : World) (K : PySem.W.Frag) (mg : Str → Option Value) (base : Heap) (k : Nat) (x : Str) (ks : List Str) (sw : Bool) (sp : Pr) : Prop :=
  ∃ (f : Addr) (fd : FuncData) (ps : List Str), mg x = some (.ref f) ∧ PySem.W.keepIn K (.ref f) = true ∧ FnOk P w K mg base (L2.CX P w) k f fd ps (lift K sp) ∧ KBinds K fd ps ks (kw0 sw) (kw0 sw)
section
variable {P : Program} {w : World} {K : PySem.W.Frag} {mg : Str → Option Value} {base : Heap} {k j : Nat} {x : Str} {ds : List D} {sp sp' : Pr} {ks : List Str} {sw : Bool}
theorem lift_imp (h : ∀ args μ Q QE, sp' args μ Q QE → sp args μ Q QE) {vs : List V} {H : Hp} {Q : VK} {E : XK} (q : lift K sp' vs H Q E) : lift K sp vs H Q E := by
  obtain ⟨B, θ, μ, args, QD, QE, a, b, c, d, e⟩ := q
  exact ⟨B, θ, μ, args, QD, QE, a, b, h _ _ _ _ c, d, e⟩
theorem Fn.mono (F : Fn P w K mg base j x ds sp) (h : j ≤ k) : Fn P w K mg base k x ds sp := by
  obtain ⟨f, fd, ps, dus, dvs, h1, h2, h3, h4⟩ := F
  exact ⟨f, fd, ps, dus, dvs, h1, h2, h3.mono h, h4⟩
theorem Fn.imp (F : Fn P w K mg base k x ds sp) (h : ∀ args μ Q QE, sp' args μ Q QE → sp args μ Q QE) : Fn P w K mg base k x ds sp' := by
  obtain ⟨f, fd, ps, dus, dvs, h1, h2, h3, h4⟩ := F
  exact ⟨f, fd, ps, dus, dvs, h1, h2, h3.imp fun vs H Q E => lift_imp h, h4⟩
theorem FnKw.mono (F : FnKw P w K mg base j x ks sw sp) (h : j ≤ k) : FnKw P w K mg base k x ks sw sp := by
  obtain ⟨f, fd, ps, h1, h2, h3, h4⟩ := F
  exact ⟨f, fd, ps, h1, h2, h3.mono h, h4⟩
/-- a promise that is never asked -/
theorem fn_never {f : Addr} {fd : FuncData} {ps : List Str} (h : ∀ args μ Q QE, ¬ sp args μ Q QE) : FnOk P w K mg base (L2.CX P w) k f fd ps (lift K sp) :=
  ⟨fun vs H Q E ⟨_, _, _, _, _, _, _, _, q, _⟩ => absurd q (h _ _ _ _), fun _ _ _ H _ _ vs Q E _ _ _ _ ⟨_, _, _, _, _, _, _, _, q, _⟩ => absurd q (h _ _ _ _)⟩
end
section
variable {X : Cx} {Z : Anc} {pos p : Pos} {x : Str} {k : Nat} {ds : List D} {sp : Pr} {QE : XQ} {e : Expr} {es : List Expr} {T : ATd}
theorem de_callF (F : Fn X.prog X.w X.K X.mg X.base k x ds sp) (hr : Room k X.A) (tk : TakesD X Z QE) (ha : DA X Z (e :: es) T) (hg : Gl X x := by rfl)
    (hdb : (x == ("__debug__" : Str)) = false := by decide) (he : starEach (e :: es) X.env = (false, eval e X.env) :: starEach es X.env := by rfl) (hpl : (backTo pos (starEach es X.env)).any (·.1) = false := by rfl) :
    DE X Z (.Call (.Name x p) (e :: es) [] pos) (dCall sp ds QE T) := by
  obtain ⟨f, fd, ps, dus, dvs, h1, h2, h3, h4, h5, h6⟩ := F
  exact de_call h3 hr h1 h2 h4 h5 h6 tk ha hg hdb he hpl
theorem de_callKF {kws : List Keyword} {ks : List Str} {sw : Bool} (F : FnKw X.prog X.w X.K X.mg X.base k x ks sw sp) (hr : Room k X.A) (tk : TakesD X Z QE) (ha : DK X Z kws T) (hg : Gl X x := by rfl)
    (hdb : (x == ("__debug__" : Str)) = false := by decide) (hall : (backToKw pos (keywordEach kws X.env)).all (·.1.isSome) = true := by rfl) (hks : (backToKw pos (keywordEach kws X.env)).filterMap (·.1) = ks := by rfl)
    (hpl : ((backTo pos (starEach [] X.env)).any (·.1) || (backToKw pos (keywordEach kws X.env)).any (·.1.isNone)) = false := by rfl) : DE X Z (.Call (.Name x p) [] kws pos) (dCallK sp QE sw T) := by
  obtain ⟨f, fd, ps, h1, h2, h3, h4⟩ := F
  exact de_callK sw h3 hr h1 h2 h4 tk ha hg hdb hall hks hpl
/-- what is known of an exception's class, told of no context -/
structure ExcK (P : Program) (w : World) (K : PySem.W.Frag) (mg : Str → Option Value) (base : Heap) (x : Str) (C : Addr) (ns : List Str) (k : Nat) : Prop where
  gC : mg x = some (.ref C)
  T : OexC K C
  no : ∀ f ∈ ns, PySem.W.findIn K (.ref C) f = some none
  ini : ∃ fI fd ps, PySem.W.findIn K (.ref C) "__init__" = some (some (.ref fI)) ∧ PySem.W.typeIn K (.ref fI) = some (.type "function") ∧ FnOk P w K mg base (L2.CX P w) k fI fd ps (spIn K C ns) ∧ Binds K fd ps []
theorem ds_raiseF {pos2 : Pos} {C : Addr} {ns : List Str} (E : ExcK X.prog X.w X.K X.mg X.base x C ns k) (hr : Room (k + 1) X.A) (tk : TakesD X Z QE) (hc : X.calm = true) (ha : DA X Z (e :: es) T) (hg : Gl X x := by rfl)
    (hdb : (x == ("__debug__" : Str)) = false := by decide) (he : starEach (e :: es) X.env = (false, eval e X.env) :: starEach es X.env := by rfl) (hpl : (backTo pos (starEach es X.env)).any (·.1) = false := by rfl) :
    DS X Z (.Raise (some (.Call (.Name x p) (e :: es) [] pos)) none pos2) (dRaise C ns QE T) :=
  ds_raise hc ⟨E.gC, E.T, E.no, E.ini⟩ hr tk ha hg hdb he hpl
end
/-! ### steps -/
theorem st_seq {T U : STd} {D : DEnds} {es : Es} {μ : Mu} (h : T { D with nx := U D } es μ) : dSeq T U D es μ := h
theorem forC_inv {body : D → STd} {N : DEnds} (C : Mu → Prop) (I : List D → Es → Mu → Prop) (hC : ∀ xs es μ, I xs es μ → C μ) (hd : ∀ es μ, I [] es μ → N.nx es μ)
    (hs : ∀ x xs es μ (nx : EnQ), I (x :: xs) es μ → (∀ es' μ', I xs es' μ' → nx es' μ') → body x { N with nx := nx, ct := nx, bk := N.nx } es μ) : ∀ (xs : List D) (es : Es) (μ : Mu), I xs es μ → forC C body N xs es μ
  | [], es, μ, h => ⟨hC _ _ _ h, hd _ _ h⟩
  | x :: xs, es, μ, h => ⟨hC _ _ _ h, hs x xs es μ _ h fun es' μ' q => forC_inv C I hC hd hs xs es' μ' q⟩
theorem lcC_inv {step : D → Mu → (Option D → Mu → Prop) → Prop} {Q : List D → Mu → Prop} (C : Mu → Prop) (I : List D → List D → Mu → Prop) (hC : ∀ xs ys μ, I xs ys μ → C μ) (hd : ∀ ys μ, I [] ys μ → Q ys μ)
    (hs : ∀ x xs ys μ (k : Option D → Mu → Prop), I (x :: xs) ys μ → (∀ o μ', I xs (ys ++ o.toList) μ' → k o μ') → step x μ k) : ∀ (xs ys : List D) (μ : Mu), I xs ys μ → lcC C step xs μ fun zs μ' => Q (ys ++ zs) μ'
  | [], ys, μ, h => ⟨hC _ _ _ h, by show Q (ys ++ []) μ; rw [List.append_nil]; exact hd _ _ h⟩
  | x :: xs, ys, μ, h => ⟨hC _ _ _ h, hs x xs ys μ _ h fun o μ' q => by
      have z := lcC_inv (Q := Q) C I hC hd hs xs (ys ++ o.toList) μ' q
      simpa [List.append_assoc] using z⟩
end DL

/-! DLp: facts of the head as the defs want them. -/
namespace DL
open PySem PySem.Spec PyProof.Rows L2

def oexB (K : PySem.W.Frag) (C : Addr) : Bool := (match K.lookup C with
  | some ⟨.type t, _, .cls cd, sl⟩ => (match cd.mro, sl.toList with
    | .ref D :: bm, [_, _, _, _, some (.builtin n), _] => decide (t = "type") && (decide (D = C) && (decide (n = "ValueError.__new__") && (!cd.hasDel && (cd.hasDict && PySem.HandSPX.refsVE bm))))
    | _, _ => false)
  | _ => false) && (decide (PySem.W.findIn K (.ref C) "__setattr__" = some (some (.builtin "object.__setattr__"))) && (decide (PySem.W.subIn K (.ref C) (.type "BaseException") = some true) && (decide (PySem.W.typeIn K (.ref C) = some (.type "type")) && PySem.W.keepIn K (.ref C))))
theorem oexB_ok {K : PySem.W.Frag} {C : Addr} (h : oexB K C = true) : OexC K C := by
  unfold oexB at h
  obtain ⟨h1, h⟩ := Bool.and_eq_true_iff.mp h
  obtain ⟨h2, h⟩ := Bool.and_eq_true_iff.mp h
  obtain ⟨h3, h⟩ := Bool.and_eq_true_iff.mp h
  obtain ⟨h4, h5⟩ := Bool.and_eq_true_iff.mp h
  refine ⟨?_, of_decide_eq_true h2, of_decide_eq_true h3, of_decide_eq_true h4, h5⟩
  split at h1
  · rename_i t dd cd sl ho
    split at h1
    · rename_i D bm k0 k1 k2 k3 n k5 hm hs
      simp only [Bool.and_eq_true, decide_eq_true_eq, Bool.not_eq_true'] at h1
      obtain ⟨e1, e2, e3, e4, e5, e6⟩ := h1
      subst e1 e2 e3
      obtain ⟨nm, bs, mro, ns, qn, hd, sn, sub, ab, col, del⟩ := cd
      dsimp only at hm e4 e5
      subst hm e4 e5
      obtain ⟨l⟩ := sl
      have hs : l = _ := hs
      subst hs
      exact ⟨nm, qn, ns, bs, bm, sn, sub, ab, col, dd, k0, k1, k2, k3, k5, ho, e6⟩
    · cases h1
  · cases h1
/-- a table of text keys: from the head's look -/
theorem tabS_of {K : PySem.W.Frag} {w : World} {a : Addr} {ks : List Str} {tb : List (Str × D)} {kvs : List (Str × He.Dv)} (h : He.dicW K a = some (He.keysIn w.params ks)) (hv : He.valsB K a kvs = true) (hk : ∀ z, tb.lookup z = none → z ∉ ks)
    (hy : ∀ z x, tb.lookup z = some x → ∃ y, (z, y) ∈ kvs ∧ ∀ B, R K B x (y.v K)) : TabS K w a tb := by
  refine ⟨He.dicW_ok h, fun z hz => ns_none h (hk z hz), fun z x hx => ?_⟩
  obtain ⟨y, hm, hr⟩ := hy z x hx
  obtain ⟨u, h1, h2⟩ := He.valsB_ok hv hm
  exact ⟨u, y.v K, h1, h2, hr⟩
end DL

namespace K57
open PySem PySem.Spec PyProof.Rows L2 DL
def tb_SHAPES : List (Str × D) := [("count", .str "d"), ("number", .str "n"), ("sum", .str "ff"), ("times", .str "nf"), ("floor", .str "fk"), ("rest", .str "fk"), ("least", .str "ff"), ("most", .str "ff")]
/-- what the defs know of the module -/
structure Facts (K : PySem.W.Frag) (mg : Str → Option Value) (w : World) : Prop where
  f_isinstance : mg "isinstance" = none
  f_int : mg "int" = none
  f_bool : mg "bool" = none
  f_str : mg "str" = none
  f_list : mg "list" = none
  f_tuple : mg "tuple" = none
  f_len : mg "len" = none
  f_all : mg "all" = none
  f_zip : mg "zip" = none
  f_min : mg "min" = none
  f_max : mg "max" = none
  f_abs : mg "abs" = none
  f_range : mg "range" = none
  f_enumerate : mg "enumerate" = none
  f_ValueError : mg "ValueError" = none
  c_MOST_DOORS : ∃ t, mg "MOST_DOORS" = some (.int 4 t)
  c_MOST_DEEP : ∃ t, mg "MOST_DEEP" = some (.int 12 t)
  c_MOST_MADE : ∃ t, mg "MOST_MADE" = some (.int 40 t)
  g_SHAPES : mg "SHAPES" = some (.ref (He.ga K "SHAPES"))
  t_SHAPES : TabS K w (He.ga K "SHAPES") tb_SHAPES
  g_BadValue : mg "BadValue" = some (.ref (He.ga K "BadValue"))
  g_BadNumber : mg "BadNumber" = some (.ref (He.ga K "BadNumber"))
  g_BadTable : mg "BadTable" = some (.ref (He.ga K "BadTable"))
  g_BadBoard : mg "BadBoard" = some (.ref (He.ga K "BadBoard"))
  g_NoDoor : mg "NoDoor" = some (.ref (He.ga K "NoDoor"))
  g_Misfit : mg "Misfit" = some (.ref (He.ga K "Misfit"))
  g_TooMany : mg "TooMany" = some (.ref (He.ga K "TooMany"))
/-- the law's calls of the def that hears -/
def HearR (P : Program) (w : World) (K : PySem.W.Frag) (mg : Str → Option Value) (base : Heap) (N : List Str) (sc : Scope) (f : Addr) (cd : Value) (Pt : Addr) (Hn : Va → Mu → EQ → Prop) (Hx : Addr → List Str → List D → Mu → EQ → Prop) (k : Nat) : Prop :=
  ∀ {A : Around} {outer : List Env} {s : Shared} {H : Hp} {E : XK} {Z : Anc} {params : Arguments} {body : Expr} {scope : Scope} {p lpos pos : Pos} {T : XQ → ET}, Room (k + 2) (cxOf (L2.CX P w) P w K mg base N "law" sc f cd A outer s H E).A → LamX.LamS sc scope →
    (∀ (Z : Anc) (A' : Around) (outer' : List Env) (s' : Shared) (H' : Hp) (E' : XK) (f' c' : Addr) (QE : XQ), Room k (A'.deeper (LamX.lamEnv (cxOf (L2.CX P w) P w K mg base N "law" sc f cd A outer s H E) scope s'.heap.objs.size f' c')) → TakesD (LamX.lamCx (cxOf (L2.CX P w) P w K mg base N "law" sc f cd A outer s H E) A' outer' s' H' E' scope f' c') Z QE →
      DE (LamX.lamCx (cxOf (L2.CX P w) P w K mg base N "law" sc f cd A outer s H E) A' outer' s' H' E' scope f' c') Z body (T QE)) →
    (defaultsOf params (cxOf (L2.CX P w) P w K mg base N "law" sc f cd A outer s H E).env = ([], [])) → (∀ (q : Str) (cl : List (Str × Addr)) (pm cv ctv : Value), bindArgs (PySem.W.kla_fn "<lambda>" q params body scope cl pm cv ctv) ⟨[], []⟩ = pure []) →
    DE (cxOf (L2.CX P w) P w K mg base N "law" sc f cd A outer s H E) Z (.Call (.Name "_law_heard" p) [.Lambda params body scope lpos] [] pos) (dHeard 0 Pt (("law" ++ ".<locals>.") ++ "<lambda>") Hn Hx T)

def top (i : Nat) : Stmt := PySem.Challenge.pw_countsalone_k57_formulas_and_their_worth.main.body.getD i (.Pass ⟨0, 0, 0, 0⟩)
/-! ### is_integer -/
abbrev s_is_integer : Stmt := top 10
abbrev N_is_integer : List Str := ["value"]
abbrev P_is_integer : List Str := ["value"]
theorem S_is_integer : FnScope N_is_integer P_is_integer (defScope s_is_integer) := ⟨rfl, rfl, rfl, by decide +kernel, rfl, by decide +kernel, by decide +kernel⟩
def T_is_integer (QE : XQ) : STd := (dSeq (dRet (dAndV (dCa gIsi (dCons (dVar 0) (dCons (dC (.raw (.ty "int"))) dNil))) (dNotV (dCa gIsi (dCons (dVar 0) (dCons (dC (.raw (.ty "bool"))) dNil)))))) dSkip)
theorem B_is_integer {P : Program} {w : World} {K : PySem.W.Frag} {mg : Str → Option Value} {base : Heap} (G : Facts K mg w) {f : Addr} {cdv : Value} {A : Around} {outer : List Env} {s : Shared} {H : Hp} {E : XK} {Z : Anc} {QE : XQ} {k kF : Nat} (hk : kF ≤ k) (h2 : 2 ≤ k) (hr : Room k (A.deeper (envOfC "is_integer" (defScope s_is_integer) s.heap.objs.size f cdv))) (tk : TakesD (cxOf (L2.CX P w) P w K mg base N_is_integer "is_integer" (defScope s_is_integer) f cdv A outer s H E) Z QE) : DSs (cxOf (L2.CX P w) P w K mg base N_is_integer "is_integer" (defScope s_is_integer) f cdv A outer s H E) Z (defBody s_is_integer) (T_is_integer  QE) :=
  (dss_cons (ds_ret (de_and (de_callB dc_isi G.f_isinstance boot_isinstance (da_cons (de_var 0) (da_cons (de_bltT G.f_int boot_int) da_nil))) (de_one (de_not (de_callB dc_isi G.f_isinstance boot_isinstance (da_cons (de_var 0) (da_cons (de_bltT G.f_bool boot_bool) da_nil))))))) dss_nil)
/-! ### need_integer -/
abbrev s_need_integer : Stmt := top 11
abbrev N_need_integer : List Str := ["part", "value", "least", "most"]
abbrev P_need_integer : List Str := ["part", "value", "least", "most"]
theorem S_need_integer : FnScope N_need_integer P_need_integer (defScope s_need_integer) := ⟨rfl, rfl, rfl, by decide +kernel, rfl, by decide +kernel, by decide +kernel⟩
def T_need_integer (C_BadNumber : Addr) (n_BadNumber : List Str) (p_is_integer : Pr) (QE : XQ) : STd := (dSeq (dIf (dOr (dNot (dTest (dCall p_is_integer [] QE (dCons (dVar 1) dNil)))) (dTest (dOp dLt (dVar 1) (dVar 2)))) (dSeq (dRaise C_BadNumber n_BadNumber QE (dCons (dVar 0) dNil)) dSkip) dSkip) (dSeq (dIf (dAnd (dTest (dOp dIsNot (dVar 3) (dC .non))) (dTest (dOp dGt (dVar 1) (dVar 3)))) (dSeq (dRaise C_BadNumber n_BadNumber QE (dCons (dVar 0) dNil)) dSkip) dSkip) (dSeq (dRet (dVar 1)) dSkip)))
theorem B_need_integer {P : Program} {w : World} {K : PySem.W.Frag} {mg : Str → Option Value} {base : Heap} (G : Facts K mg w) {C_BadNumber : Addr} {n_BadNumber : List Str} {p_is_integer : Pr} {f : Addr} {cdv : Value} {A : Around} {outer : List Env} {s : Shared} {H : Hp} {E : XK} {Z : Anc} {QE : XQ} {k kF : Nat} (hk : kF ≤ k) (h2 : 2 ≤ k) (hr : Room k (A.deeper (envOfC "need_integer" (defScope s_need_integer) s.heap.objs.size f cdv))) (tk : TakesD (cxOf (L2.CX P w) P w K mg base N_need_integer "need_integer" (defScope s_need_integer) f cdv A outer s H E) Z QE) (X_BadNumber : ExcK P w K mg base "BadNumber" C_BadNumber n_BadNumber 1) (F_is_integer : Fn P w K mg base kF "is_integer" [] p_is_integer) : DSs (cxOf (L2.CX P w) P w K mg base N_need_integer "need_integer" (defScope s_need_integer) f cdv A outer s H E) Z (defBody s_need_integer) (T_need_integer C_BadNumber n_BadNumber p_is_integer QE) :=
  (dss_cons (ds_if (dw_or (dt_not (dt_val (de_callF F_is_integer (hr.mono hk) tk (da_cons (de_var 1) da_nil)))) (dw_or1 (dt_cmp do_lt (de_var 1) (de_var 2)))).dt (dss_cons (ds_raiseF X_BadNumber (hr.mono h2) tk rfl (da_cons (de_var 0) da_nil)) dss_nil) dss_nil) (dss_cons (ds_if (dw_and (dt_cmp do_isNot (de_var 3) de_non) (dw_and1 (dt_cmp do_gt (de_var 1) (de_var 3)))).dt (dss_cons (ds_raiseF X_BadNumber (hr.mono h2) tk rfl (da_cons (de_var 0) da_nil)) dss_nil) dss_nil) (dss_cons (ds_ret (de_var 1)) dss_nil)))
/-! ### plain -/
abbrev s_plain : Stmt := top 12
abbrev N_plain : List Str := ["value", "part"]
abbrev P_plain : List Str := ["value"]
theorem S_plain : FnScope N_plain P_plain (defScope s_plain) := ⟨rfl, rfl, rfl, by decide +kernel, rfl, by decide +kernel, by decide +kernel⟩
def T_plain (p_plain : Pr) (QE : XQ) : STd := (dSeq (dIf (dTest (dCa gIsi (dCons (dVar 0) (dCons (dTup (dCons (dC (.raw (.ty "list"))) (dCons (dC (.raw (.ty "tuple"))) dNil))) dNil)))) (dSeq (dRet (dCa gTuple (dCons (dLc (dItems (dVar 0)) (dgName 1) dYes (dCall p_plain [] noX (dCons (dVar 1) dNil)) [1]) dNil))) dSkip) dSkip) (dSeq (dRet (dVar 0)) dSkip))
theorem B_plain {P : Program} {w : World} {K : PySem.W.Frag} {mg : Str → Option Value} {base : Heap} (G : Facts K mg w) {p_plain : Pr} {f : Addr} {cdv : Value} {A : Around} {outer : List Env} {s : Shared} {H : Hp} {E : XK} {Z : Anc} {QE : XQ} {k kF : Nat} (hk : kF ≤ k) (h2 : 2 ≤ k) (hr : Room k (A.deeper (envOfC "plain" (defScope s_plain) s.heap.objs.size f cdv))) (tk : TakesD (cxOf (L2.CX P w) P w K mg base N_plain "plain" (defScope s_plain) f cdv A outer s H E) Z QE) (F_plain : Fn P w K mg base kF "plain" [] p_plain) : DSs (cxOf (L2.CX P w) P w K mg base N_plain "plain" (defScope s_plain) f cdv A outer s H E) Z (defBody s_plain) (T_plain p_plain QE) :=
  (dss_cons (ds_if (dt_val (de_callB dc_isi G.f_isinstance boot_isinstance (da_cons (de_var 0) (da_cons (de_tup (da_cons (de_bltT G.f_list boot_list) (da_cons (de_bltT G.f_tuple boot_tuple) da_nil))) da_nil)))) (dss_cons (ds_ret (de_callT dc_tuple G.f_tuple boot_tuple (da_cons (de_lc (own := [("part", 1)]) rfl S_plain.nd (di_items (de_var 0)) (blkOk_by (by show blkC N_plain (defScope s_plain) _ _ = true; decide +kernel)) (fun _ _ _ _ _ => (dg_name 1 S_plain.nd)) (fun _ _ _ _ _ => dts_nil) (fun _ _ _ _ _ => (de_callF F_plain (hr.mono hk) takesN (da_cons (de_var 1) da_nil)))) da_nil))) dss_nil) dss_nil) (dss_cons (ds_ret (de_var 0)) dss_nil))
/-! ### fits -/
abbrev s_fits : Stmt := top 18
abbrev N_fits : List Str := ["sign", "value", "doors", "deep"]
abbrev P_fits : List Str := ["sign", "value", "doors", "deep"]
theorem S_fits : FnScope N_fits P_fits (defScope s_fits) := ⟨rfl, rfl, rfl, by decide +kernel, rfl, by decide +kernel, by decide +kernel⟩
def T_fits (p_is_integer : Pr) (p_is_formed : Pr) (QE : XQ) : STd := (dSeq (dIf (dTest (dOp dEq (dVar 0) (dC (.str "f")))) (dSeq (dRet (dCall p_is_formed [] QE (dCons (dVar 1) (dCons (dVar 2) (dCons (dVar 3) dNil))))) dSkip) dSkip) (dSeq (dIf (dNot (dTest (dCall p_is_integer [] QE (dCons (dVar 1) dNil)))) (dSeq (dRet (dC (.bl false))) dSkip) dSkip) (dSeq (dIf (dTest (dOp dEq (dVar 0) (dC (.str "d")))) (dSeq (dRet (dChain dLe dLt (dC (.int 0)) (dVar 1) (dVar 2))) dSkip) dSkip) (dSeq (dRet (dOp dGe (dVar 1) (dCa gInt (dCons (dOp dEq (dVar 0) (dC (.str "k"))) dNil)))) dSkip))))
theorem B_fits {P : Program} {w : World} {K : PySem.W.Frag} {mg : Str → Option Value} {base : Heap} (G : Facts K mg w) {p_is_integer : Pr} {p_is_formed : Pr} {f : Addr} {cdv : Value} {A : Around} {outer : List Env} {s : Shared} {H : Hp} {E : XK} {Z : Anc} {QE : XQ} {k kF : Nat} (hk : kF ≤ k) (h2 : 2 ≤ k) (hr : Room k (A.deeper (envOfC "fits" (defScope s_fits) s.heap.objs.size f cdv))) (tk : TakesD (cxOf (L2.CX P w) P w K mg base N_fits "fits" (defScope s_fits) f cdv A outer s H E) Z QE) (F_is_integer : Fn P w K mg base kF "is_integer" [] p_is_integer) (F_is_formed : Fn P w K mg base kF "is_formed" [] p_is_formed) : DSs (cxOf (L2.CX P w) P w K mg base N_fits "fits" (defScope s_fits) f cdv A outer s H E) Z (defBody s_fits) (T_fits p_is_integer p_is_formed QE) :=
  (dss_cons (ds_if (dt_cmp (do_eq hr.units) (de_var 0) de_str) (dss_cons (ds_ret (de_callF F_is_formed (hr.mono hk) tk (da_cons (de_var 1) (da_cons (de_var 2) (da_cons (de_var 3) da_nil))))) dss_nil) dss_nil) (dss_cons (ds_if (dt_not (dt_val (de_callF F_is_integer (hr.mono hk) tk (da_cons (de_var 1) da_nil)))) (dss_cons (ds_ret de_bl) dss_nil) dss_nil) (dss_cons (ds_if (dt_cmp (do_eq hr.units) (de_var 0) de_str) (dss_cons (ds_ret (de_chain do_le do_lt de_int (de_var 1) (de_var 2))) dss_nil) dss_nil) (dss_cons (ds_ret (de_cmp do_ge (de_var 1) (de_callT dc_int G.f_int boot_int (da_cons (de_cmp (do_eq hr.units) (de_var 0) de_str) da_nil)))) dss_nil))))
/-! ### is_formed -/
abbrev s_is_formed : Stmt := top 19
abbrev N_is_formed : List Str := ["value", "doors", "deep", "shape", "sign", "part"]
abbrev P_is_formed : List Str := ["value", "doors", "deep"]
theorem S_is_formed : FnScope N_is_formed P_is_formed (defScope s_is_formed) := ⟨rfl, rfl, rfl, by decide +kernel, rfl, by decide +kernel, by decide +kernel⟩
def T_is_formed (K : PySem.W.Frag) (p_fits : Pr) (QE : XQ) : STd := (dSeq (dIf (dOr (dTest (dOp dEq (dVar 2) (dC (.int 0)))) (dOr (dNot (dTest (dCa gIsi (dCons (dVar 0) (dCons (dTup (dCons (dC (.raw (.ty "list"))) (dCons (dC (.raw (.ty "tuple"))) dNil))) dNil))))) (dTest (dOp dEq (dCa gLen (dCons (dVar 0) dNil)) (dC (.int 0)))))) (dSeq (dRet (dC (.bl false))) dSkip) dSkip) (dSeq (dIf (dOr (dNot (dTest (dCa gIsi (dCons (dOp dIx (dVar 0) (dC (.int 0))) (dCons (dC (.raw (.ty "str"))) dNil))))) (dTest (dOp (dInT (He.ga K "SHAPES") tb_SHAPES true) (dOp dIx (dVar 0) (dC (.int 0))) (dC (.raw (.ref (He.ga K "SHAPES"))))))) (dSeq (dRet (dC (.bl false))) dSkip) dSkip) (dSeq (dSet (dOp (dIxT (He.ga K "SHAPES") tb_SHAPES) (dC (.raw (.ref (He.ga K "SHAPES")))) (dOp dIx (dVar 0) (dC (.int 0)))) 3) (dSeq (dIf (dTest (dOp dNe (dCa gLen (dCons (dVar 0) dNil)) (dOp dPlus (dCa gLen (dCons (dVar 3) dNil)) (dC (.int 1))))) (dSeq (dRet (dC (.bl false))) dSkip) dSkip) (dSeq (dRet (dCa gAll (dCons (dLc (dZip (dCons (dVar 3) (dCons (dSl (dVar 0) (dPart (dC (.int 1))) dNoP) dNil))) (dgTup 2 (dgCons (dgName 4) (dgCons (dgName 5) dgNil))) dYes (dCall p_fits [] noX (dCons (dVar 4) (dCons (dVar 5) (dCons (dVar 1) (dCons (dOp dMinus (dVar 2) (dC (.int 1))) dNil))))) [4, 5]) dNil))) dSkip)))))
theorem B_is_formed {P : Program} {w : World} {K : PySem.W.Frag} {mg : Str → Option Value} {base : Heap} (G : Facts K mg w) {p_fits : Pr} {f : Addr} {cdv : Value} {A : Around} {outer : List Env} {s : Shared} {H : Hp} {E : XK} {Z : Anc} {QE : XQ} {k kF : Nat} (hk : kF ≤ k) (h2 : 2 ≤ k) (hr : Room k (A.deeper (envOfC "is_formed" (defScope s_is_formed) s.heap.objs.size f cdv))) (tk : TakesD (cxOf (L2.CX P w) P w K mg base N_is_formed "is_formed" (defScope s_is_formed) f cdv A outer s H E) Z QE) (F_fits : Fn P w K mg base kF "fits" [] p_fits) : DSs (cxOf (L2.CX P w) P w K mg base N_is_formed "is_formed" (defScope s_is_formed) f cdv A outer s H E) Z (defBody s_is_formed) (T_is_formed K p_fits QE) :=
  (dss_cons (ds_if (dw_or (dt_cmp (do_eq hr.units) (de_var 2) de_int) (dw_or (dt_not (dt_val (de_callB dc_isi G.f_isinstance boot_isinstance (da_cons (de_var 0) (da_cons (de_tup (da_cons (de_bltT G.f_list boot_list) (da_cons (de_bltT G.f_tuple boot_tuple) da_nil))) da_nil))))) (dw_or1 (dt_cmp (do_eq hr.units) (de_callB dc_len G.f_len boot_len (da_cons (de_var 0) da_nil)) de_int)))).dt (dss_cons (ds_ret de_bl) dss_nil) dss_nil) (dss_cons (ds_if (dw_or (dt_not (dt_val (de_callB dc_isi G.f_isinstance boot_isinstance (da_cons (de_ix (de_var 0) de_int) (da_cons (de_bltT G.f_str boot_str) da_nil))))) (dw_or1 (dt_cmp (do_notInT G.t_SHAPES) (de_ix (de_var 0) de_int) (de_globR G.g_SHAPES)))).dt (dss_cons (ds_ret de_bl) dss_nil) dss_nil) (dss_cons (ds_set 3 S_is_formed.nd (de_ixT G.t_SHAPES (de_globR G.g_SHAPES) (de_ix (de_var 0) de_int))) (dss_cons (ds_if (dt_cmp (do_ne hr.units) (de_callB dc_len G.f_len boot_len (da_cons (de_var 0) da_nil)) (de_bin do_plus (de_callB dc_len G.f_len boot_len (da_cons (de_var 3) da_nil)) de_int)) (dss_cons (ds_ret de_bl) dss_nil) dss_nil) (dss_cons (ds_ret (de_callB (dc_all rfl) G.f_all boot_all (da_cons (de_lc (own := [("sign", 4), ("part", 5)]) rfl S_is_formed.nd (di_zip G.f_zip (da_cons (de_var 3) (da_cons (de_slice (de_var 0) (do_some de_int) do_none) da_nil))) (blkOk_by (by show blkC N_is_formed (defScope s_is_formed) _ _ = true; decide +kernel)) (fun _ _ _ _ _ => (dg_tup (n := 2) rfl (dgs_cons (dg_name 4 S_is_formed.nd) (dgs_cons (dg_name 5 S_is_formed.nd) dgs_nil)))) (fun _ _ _ _ _ => dts_nil) (fun _ _ _ _ _ => (de_callF F_fits (hr.mono hk) takesN (da_cons (de_var 4) (da_cons (de_var 5) (da_cons (de_var 1) (da_cons (de_bin do_minus (de_var 2) de_int) da_nil))))))) da_nil))) dss_nil)))))
/-! ### is_one -/
abbrev s_is_one : Stmt := top 20
abbrev N_is_one : List Str := ["value", "doors"]
abbrev P_is_one : List Str := ["value", "doors"]
theorem S_is_one : FnScope N_is_one P_is_one (defScope s_is_one) := ⟨rfl, rfl, rfl, by decide +kernel, rfl, by decide +kernel, by decide +kernel⟩
def T_is_one (p_plain : Pr) (p_made_of : Pr) (p_is_formed : Pr) (QE : XQ) : STd := (dSeq (dRet (dAndV (dCall p_is_formed [] QE (dCons (dVar 0) (dCons (dVar 1) (dCons (dC (.int 12)) dNil)))) (dOp dLe (dCa gLen (dCons (dCall p_made_of [] QE (dCons (dCall p_plain [] QE (dCons (dVar 0) dNil)) dNil)) dNil)) (dC (.int 40))))) dSkip)
theorem B_is_one {P : Program} {w : World} {K : PySem.W.Frag} {mg : Str → Option Value} {base : Heap} (G : Facts K mg w) {p_plain : Pr} {p_made_of : Pr} {p_is_formed : Pr} {f : Addr} {cdv : Value} {A : Around} {outer : List Env} {s : Shared} {H : Hp} {E : XK} {Z : Anc} {QE : XQ} {k kF : Nat} (hk : kF ≤ k) (h2 : 2 ≤ k) (hr : Room k (A.deeper (envOfC "is_one" (defScope s_is_one) s.heap.objs.size f cdv))) (tk : TakesD (cxOf (L2.CX P w) P w K mg base N_is_one "is_one" (defScope s_is_one) f cdv A outer s H E) Z QE) (F_plain : Fn P w K mg base kF "plain" [] p_plain) (F_made_of : Fn P w K mg base kF "made_of" [] p_made_of) (F_is_formed : Fn P w K mg base kF "is_formed" [] p_is_formed) : DSs (cxOf (L2.CX P w) P w K mg base N_is_one "is_one" (defScope s_is_one) f cdv A outer s H E) Z (defBody s_is_one) (T_is_one p_plain p_made_of p_is_formed QE) :=
  (dss_cons (ds_ret (de_and (de_callF F_is_formed (hr.mono hk) tk (da_cons (de_var 0) (da_cons (de_var 1) (da_cons (de_globI (G.c_MOST_DEEP)) da_nil)))) (de_one (de_cmp do_le (de_callB dc_len G.f_len boot_len (da_cons (de_callF F_made_of (hr.mono hk) tk (da_cons (de_callF F_plain (hr.mono hk) tk (da_cons (de_var 0) da_nil)) da_nil)) da_nil)) (de_globI (G.c_MOST_MADE)))))) dss_nil)
/-! ### made_of -/
abbrev s_made_of : Stmt := top 21
abbrev N_made_of : List Str := ["formula", "found", "part"]
abbrev P_made_of : List Str := ["formula"]
theorem S_made_of : FnScope N_made_of P_made_of (defScope s_made_of) := ⟨rfl, rfl, rfl, by decide +kernel, rfl, by decide +kernel, by decide +kernel⟩
def T_made_of (p_made_of : Pr) (QE : XQ) : STd := (dSeq (dSet (dLst dNil) 1) (dSeq (dFor (dItems (dSl (dVar 0) (dPart (dC (.int 1))) dNoP)) (dgName 2) (dSeq (dIf (dTest (dCa gIsi (dCons (dVar 2) (dCons (dC (.raw (.ty "tuple"))) dNil)))) (dSeq (dSet (dOp dPlus (dVar 1) (dCall p_made_of [] QE (dCons (dVar 2) dNil))) 1) dSkip) dSkip) dSkip)) (dSeq (dRet (dLst (dStar (dVar 1) (dCons (dVar 0) dNil)))) dSkip)))
theorem B_made_of {P : Program} {w : World} {K : PySem.W.Frag} {mg : Str → Option Value} {base : Heap} (G : Facts K mg w) {p_made_of : Pr} {f : Addr} {cdv : Value} {A : Around} {outer : List Env} {s : Shared} {H : Hp} {E : XK} {Z : Anc} {QE : XQ} {k kF : Nat} (hk : kF ≤ k) (h2 : 2 ≤ k) (hr : Room k (A.deeper (envOfC "made_of" (defScope s_made_of) s.heap.objs.size f cdv))) (tk : TakesD (cxOf (L2.CX P w) P w K mg base N_made_of "made_of" (defScope s_made_of) f cdv A outer s H E) Z QE) (F_made_of : Fn P w K mg base kF "made_of" [] p_made_of) : DSs (cxOf (L2.CX P w) P w K mg base N_made_of "made_of" (defScope s_made_of) f cdv A outer s H E) Z (defBody s_made_of) (T_made_of p_made_of QE) :=
  (dss_cons (ds_set 1 S_made_of.nd (de_lst da_nil)) (dss_cons (ds_for (passes_of rfl) rfl (di_items (de_slice (de_var 0) (do_some de_int) do_none)) (dg_name 2 S_made_of.nd) (dss_cons (ds_if (dt_val (de_callB dc_isi G.f_isinstance boot_isinstance (da_cons (de_var 2) (da_cons (de_bltT G.f_tuple boot_tuple) da_nil)))) (dss_cons (ds_set 1 S_made_of.nd (de_bin do_plus (de_var 1) (de_callF F_made_of (hr.mono hk) tk (da_cons (de_var 2) da_nil)))) dss_nil) dss_nil) dss_nil)) (dss_cons (ds_ret (de_lst (da_star (de_var 1) (da_cons (de_var 0) da_nil)))) dss_nil)))
/-! ### worth_at -/
abbrev s_worth_at : Stmt := top 22
abbrev N_worth_at : List Str := ["formula", "counts", "word", "one", "other"]
abbrev P_worth_at : List Str := ["formula", "counts"]
theorem S_worth_at : FnScope N_worth_at P_worth_at (defScope s_worth_at) := ⟨rfl, rfl, rfl, by decide +kernel, rfl, by decide +kernel, by decide +kernel⟩
def T_worth_at (p_worth_at : Pr) (QE : XQ) : STd := (dSeq (dSet (dOp dIx (dVar 0) (dC (.int 0))) 2) (dSeq (dIf (dTest (dOp dEq (dVar 2) (dC (.str "count")))) (dSeq (dRet (dOp dIx (dVar 1) (dOp dIx (dVar 0) (dC (.int 1))))) dSkip) dSkip) (dSeq (dIf (dTest (dOp dEq (dVar 2) (dC (.str "number")))) (dSeq (dRet (dOp dIx (dVar 0) (dC (.int 1)))) dSkip) dSkip) (dSeq (dIf (dTest (dOp dEq (dVar 2) (dC (.str "times")))) (dSeq (dRet (dOp dTimes (dOp dIx (dVar 0) (dC (.int 1))) (dCall p_worth_at [] QE (dCons (dOp dIx (dVar 0) (dC (.int 2))) (dCons (dVar 1) dNil))))) dSkip) dSkip) (dSeq (dSet (dCall p_worth_at [] QE (dCons (dOp dIx (dVar 0) (dC (.int 1))) (dCons (dVar 1) dNil))) 3) (dSeq (dIf (dTest (dOp dEq (dVar 2) (dC (.str "floor")))) (dSeq (dRet (dOp dFdiv (dVar 3) (dOp dIx (dVar 0) (dC (.int 2))))) dSkip) dSkip) (dSeq (dIf (dTest (dOp dEq (dVar 2) (dC (.str "rest")))) (dSeq (dRet (dOp dMod (dVar 3) (dOp dIx (dVar 0) (dC (.int 2))))) dSkip) dSkip) (dSeq (dSet (dCall p_worth_at [] QE (dCons (dOp dIx (dVar 0) (dC (.int 2))) (dCons (dVar 1) dNil))) 4) (dSeq (dIf (dTest (dOp dEq (dVar 2) (dC (.str "sum")))) (dSeq (dRet (dOp dPlus (dVar 3) (dVar 4))) dSkip) dSkip) (dSeq (dRet (dIfE (dTest (dOp dEq (dVar 2) (dC (.str "least")))) (dCa gMin (dCons (dVar 3) (dCons (dVar 4) dNil))) (dCa gMax (dCons (dVar 3) (dCons (dVar 4) dNil))))) dSkip))))))))))
theorem B_worth_at {P : Program} {w : World} {K : PySem.W.Frag} {mg : Str → Option Value} {base : Heap} (G : Facts K mg w) {p_worth_at : Pr} {f : Addr} {cdv : Value} {A : Around} {outer : List Env} {s : Shared} {H : Hp} {E : XK} {Z : Anc} {QE : XQ} {k kF : Nat} (hk : kF ≤ k) (h2 : 2 ≤ k) (hr : Room k (A.deeper (envOfC "worth_at" (defScope s_worth_at) s.heap.objs.size f cdv))) (tk : TakesD (cxOf (L2.CX P w) P w K mg base N_worth_at "worth_at" (defScope s_worth_at) f cdv A outer s H E) Z QE) (F_worth_at : Fn P w K mg base kF "worth_at" [] p_worth_at) : DSs (cxOf (L2.CX P w) P w K mg base N_worth_at "worth_at" (defScope s_worth_at) f cdv A outer s H E) Z (defBody s_worth_at) (T_worth_at p_worth_at QE) :=
  (dss_cons (ds_set 2 S_worth_at.nd (de_ix (de_var 0) de_int)) (dss_cons (ds_if (dt_cmp (do_eq hr.units) (de_var 2) de_str) (dss_cons (ds_ret (de_ix (de_var 1) (de_ix (de_var 0) de_int))) dss_nil) dss_nil) (dss_cons (ds_if (dt_cmp (do_eq hr.units) (de_var 2) de_str) (dss_cons (ds_ret (de_ix (de_var 0) de_int)) dss_nil) dss_nil) (dss_cons (ds_if (dt_cmp (do_eq hr.units) (de_var 2) de_str) (dss_cons (ds_ret (de_bin do_times (de_ix (de_var 0) de_int) (de_callF F_worth_at (hr.mono hk) tk (da_cons (de_ix (de_var 0) de_int) (da_cons (de_var 1) da_nil))))) dss_nil) dss_nil) (dss_cons (ds_set 3 S_worth_at.nd (de_callF F_worth_at (hr.mono hk) tk (da_cons (de_ix (de_var 0) de_int) (da_cons (de_var 1) da_nil)))) (dss_cons (ds_if (dt_cmp (do_eq hr.units) (de_var 2) de_str) (dss_cons (ds_ret (de_bin do_fdiv (de_var 3) (de_ix (de_var 0) de_int))) dss_nil) dss_nil) (dss_cons (ds_if (dt_cmp (do_eq hr.units) (de_var 2) de_str) (dss_cons (ds_ret (de_bin do_mod (de_var 3) (de_ix (de_var 0) de_int))) dss_nil) dss_nil) (dss_cons (ds_set 4 S_worth_at.nd (de_callF F_worth_at (hr.mono hk) tk (da_cons (de_ix (de_var 0) de_int) (da_cons (de_var 1) da_nil)))) (dss_cons (ds_if (dt_cmp (do_eq hr.units) (de_var 2) de_str) (dss_cons (ds_ret (de_bin do_plus (de_var 3) (de_var 4))) dss_nil) dss_nil) (dss_cons (ds_ret (de_ifE (dt_cmp (do_eq hr.units) (de_var 2) de_str) (de_callB (dc_min rfl) G.f_min boot_min (da_cons (de_var 3) (da_cons (de_var 4) da_nil))) (de_callB (dc_max rfl) G.f_max boot_max (da_cons (de_var 3) (da_cons (de_var 4) da_nil))))) dss_nil))))))))))
/-! ### is_formula -/
abbrev s_is_formula : Stmt := top 23
abbrev N_is_formula : List Str := ["value", "doors"]
abbrev P_is_formula : List Str := ["value", "doors"]
theorem S_is_formula : FnScope N_is_formula P_is_formula (defScope s_is_formula) := ⟨rfl, rfl, rfl, by decide +kernel, rfl, by decide +kernel, by decide +kernel⟩
def T_is_formula (p_is_one : Pr) (p_need_integer : Pr) (QE : XQ) : STd := (dSeq (dDrop (dCall p_need_integer [] QE (dCons (dC (.str "doors")) (dCons (dVar 1) (dCons (dC (.int 1)) (dCons (dC (.int 4)) dNil)))))) (dSeq (dRet (dCall p_is_one [] QE (dCons (dVar 0) (dCons (dVar 1) dNil)))) dSkip))
theorem B_is_formula {P : Program} {w : World} {K : PySem.W.Frag} {mg : Str → Option Value} {base : Heap} (G : Facts K mg w) {p_is_one : Pr} {p_need_integer : Pr} {f : Addr} {cdv : Value} {A : Around} {outer : List Env} {s : Shared} {H : Hp} {E : XK} {Z : Anc} {QE : XQ} {k kF : Nat} (hk : kF ≤ k) (h2 : 2 ≤ k) (hr : Room k (A.deeper (envOfC "is_formula" (defScope s_is_formula) s.heap.objs.size f cdv))) (tk : TakesD (cxOf (L2.CX P w) P w K mg base N_is_formula "is_formula" (defScope s_is_formula) f cdv A outer s H E) Z QE) (F_is_one : Fn P w K mg base kF "is_one" [] p_is_one) (F_need_integer : Fn P w K mg base kF "need_integer" [] p_need_integer) : DSs (cxOf (L2.CX P w) P w K mg base N_is_formula "is_formula" (defScope s_is_formula) f cdv A outer s H E) Z (defBody s_is_formula) (T_is_formula p_is_one p_need_integer QE) :=
  (dss_cons (ds_expr (de_callF F_need_integer (hr.mono hk) tk (da_cons de_str (da_cons (de_var 1) (da_cons de_int (da_cons (de_globI (G.c_MOST_DOORS)) da_nil)))))) (dss_cons (ds_ret (de_callF F_is_one (hr.mono hk) tk (da_cons (de_var 0) (da_cons (de_var 1) da_nil)))) dss_nil))
/-! ### worth -/
abbrev s_worth : Stmt := top 24
abbrev N_worth : List Str := ["formula", "counts", "many"]
abbrev P_worth : List Str := ["formula", "counts"]
theorem S_worth : FnScope N_worth P_worth (defScope s_worth) := ⟨rfl, rfl, rfl, by decide +kernel, rfl, by decide +kernel, by decide +kernel⟩
def T_worth (p_plain : Pr) (p_worth_at : Pr) (p_is_one : Pr) (C_BadValue : Addr) (n_BadValue : List Str) (p_is_integer : Pr) (QE : XQ) : STd := (dSeq (dIf (dOr (dNot (dTest (dCa gIsi (dCons (dVar 1) (dCons (dTup (dCons (dC (.raw (.ty "list"))) (dCons (dC (.raw (.ty "tuple"))) dNil))) dNil))))) (dNot (dTest (dChain dLe dLe (dC (.int 1)) (dCa gLen (dCons (dVar 1) dNil)) (dC (.int 4)))))) (dSeq (dRaise C_BadValue n_BadValue QE (dCons (dC (.str "counts")) dNil)) dSkip) dSkip) (dSeq (dIf (dNot (dTest (dCa gAll (dCons (dLc (dItems (dVar 1)) (dgName 2) dYes (dAndV (dCall p_is_integer [] noX (dCons (dVar 2) dNil)) (dOp dGe (dVar 2) (dC (.int 0)))) [2]) dNil)))) (dSeq (dRaise C_BadValue n_BadValue QE (dCons (dC (.str "counts")) dNil)) dSkip) dSkip) (dSeq (dIf (dNot (dTest (dCall p_is_one [] QE (dCons (dVar 0) (dCons (dCa gLen (dCons (dVar 1) dNil)) dNil))))) (dSeq (dRaise C_BadValue n_BadValue QE (dCons (dC (.str "formula")) dNil)) dSkip) dSkip) (dSeq (dRet (dCall p_worth_at [] QE (dCons (dCall p_plain [] QE (dCons (dVar 0) dNil)) (dCons (dCa gTuple (dCons (dVar 1) dNil)) dNil)))) dSkip))))
theorem B_worth {P : Program} {w : World} {K : PySem.W.Frag} {mg : Str → Option Value} {base : Heap} (G : Facts K mg w) {p_plain : Pr} {p_worth_at : Pr} {p_is_one : Pr} {C_BadValue : Addr} {n_BadValue : List Str} {p_is_integer : Pr} {f : Addr} {cdv : Value} {A : Around} {outer : List Env} {s : Shared} {H : Hp} {E : XK} {Z : Anc} {QE : XQ} {k kF : Nat} (hk : kF ≤ k) (h2 : 2 ≤ k) (hr : Room k (A.deeper (envOfC "worth" (defScope s_worth) s.heap.objs.size f cdv))) (tk : TakesD (cxOf (L2.CX P w) P w K mg base N_worth "worth" (defScope s_worth) f cdv A outer s H E) Z QE) (F_plain : Fn P w K mg base kF "plain" [] p_plain) (F_worth_at : Fn P w K mg base kF "worth_at" [] p_worth_at) (F_is_one : Fn P w K mg base kF "is_one" [] p_is_one) (X_BadValue : ExcK P w K mg base "BadValue" C_BadValue n_BadValue 1) (F_is_integer : Fn P w K mg base kF "is_integer" [] p_is_integer) : DSs (cxOf (L2.CX P w) P w K mg base N_worth "worth" (defScope s_worth) f cdv A outer s H E) Z (defBody s_worth) (T_worth p_plain p_worth_at p_is_one C_BadValue n_BadValue p_is_integer QE) :=
  (dss_cons (ds_if (dw_or (dt_not (dt_val (de_callB dc_isi G.f_isinstance boot_isinstance (da_cons (de_var 1) (da_cons (de_tup (da_cons (de_bltT G.f_list boot_list) (da_cons (de_bltT G.f_tuple boot_tuple) da_nil))) da_nil))))) (dw_or1 (dt_not (dt_chain do_le do_le de_int (de_callB dc_len G.f_len boot_len (da_cons (de_var 1) da_nil)) (de_globI (G.c_MOST_DOORS)))))).dt (dss_cons (ds_raiseF X_BadValue (hr.mono h2) tk rfl (da_cons de_str da_nil)) dss_nil) dss_nil) (dss_cons (ds_if (dt_not (dt_val (de_callB (dc_all rfl) G.f_all boot_all (da_cons (de_lc (own := [("many", 2)]) rfl S_worth.nd (di_items (de_var 1)) (blkOk_by (by show blkC N_worth (defScope s_worth) _ _ = true; decide +kernel)) (fun _ _ _ _ _ => (dg_name 2 S_worth.nd)) (fun _ _ _ _ _ => dts_nil) (fun _ _ _ _ _ => (de_and (de_callF F_is_integer (hr.mono hk) takesN (da_cons (de_var 2) da_nil)) (de_one (de_cmp do_ge (de_var 2) de_int))))) da_nil)))) (dss_cons (ds_raiseF X_BadValue (hr.mono h2) tk rfl (da_cons de_str da_nil)) dss_nil) dss_nil) (dss_cons (ds_if (dt_not (dt_val (de_callF F_is_one (hr.mono hk) tk (da_cons (de_var 0) (da_cons (de_callB dc_len G.f_len boot_len (da_cons (de_var 1) da_nil)) da_nil))))) (dss_cons (ds_raiseF X_BadValue (hr.mono h2) tk rfl (da_cons de_str da_nil)) dss_nil) dss_nil) (dss_cons (ds_ret (de_callF F_worth_at (hr.mono hk) tk (da_cons (de_callF F_plain (hr.mono hk) tk (da_cons (de_var 0) da_nil)) (da_cons (de_callT dc_tuple G.f_tuple boot_tuple (da_cons (de_var 1) da_nil)) da_nil)))) dss_nil))))
/-! ### _law_pen -/
abbrev s_l_pen : Stmt := top 26
abbrev N_l_pen : List Str := ["script"]
abbrev P_l_pen : List Str := ["script"]
theorem S_l_pen : FnScope N_l_pen P_l_pen (defScope s_l_pen) := ⟨rfl, rfl, rfl, by decide +kernel, rfl, by decide +kernel, by decide +kernel⟩
def T_l_pen (QE : XQ) : STd := (dSeq (dRet (dLstM (dCons (dCa gList (dCons (dSl (dVar 0) dNoP (dPart (dC (.int 63)))) dNil)) (dCons (dC (.int 0)) (dCons (dC (.int 0)) dNil))))) dSkip)
theorem B_l_pen {P : Program} {w : World} {K : PySem.W.Frag} {mg : Str → Option Value} {base : Heap} (G : Facts K mg w) {f : Addr} {cdv : Value} {A : Around} {outer : List Env} {s : Shared} {H : Hp} {E : XK} {Z : Anc} {QE : XQ} {k kF : Nat} (hk : kF ≤ k) (h2 : 2 ≤ k) (hr : Room k (A.deeper (envOfC "_law_pen" (defScope s_l_pen) s.heap.objs.size f cdv))) (tk : TakesD (cxOf (L2.CX P w) P w K mg base N_l_pen "_law_pen" (defScope s_l_pen) f cdv A outer s H E) Z QE) : DSs (cxOf (L2.CX P w) P w K mg base N_l_pen "_law_pen" (defScope s_l_pen) f cdv A outer s H E) Z (defBody s_l_pen) (T_l_pen  QE) :=
  (dss_cons (ds_ret (de_lstM (da_cons (de_callT dc_list G.f_list boot_list (da_cons (de_slice (de_var 0) do_none (do_some de_int)) da_nil)) (da_cons de_int (da_cons de_int da_nil))))) dss_nil)
/-! ### _law_draw -/
abbrev s_l_draw : Stmt := top 27
abbrev N_l_draw : List Str := ["pen", "many", "digit", "at", "cell", "great", "mixed"]
abbrev P_l_draw : List Str := ["pen", "many"]
theorem S_l_draw : FnScope N_l_draw P_l_draw (defScope s_l_draw) := ⟨rfl, rfl, rfl, by decide +kernel, rfl, by decide +kernel, by decide +kernel⟩
def T_l_draw (QE : XQ) : STd := (dSeq (dIf (dTest (dOp dGt (dOp dIx (dVar 0) (dC (.int 2))) (dC (.int 0)))) (dSeq (dSet (dOp dMod (dCa gInt (dCons (dOp dIx (dVar 0) (dC (.int 2))) dNil)) (dVar 1)) 2) (dSeq (dPut (dVar 0) (dC (.int 2)) (dOp dFdiv (dCa gInt (dCons (dOp dIx (dVar 0) (dC (.int 2))) dNil)) (dVar 1))) (dSeq (dRet (dVar 2)) dSkip))) dSkip) (dSeq (dSet (dOp dIx (dVar 0) (dC (.int 1))) 3) (dSeq (dPut (dVar 0) (dC (.int 1)) (dOp dPlus (dVar 3) (dC (.int 1)))) (dSeq (dSet (dOp dPlus (dOp dTimes (dC (.int 7919)) (dVar 3)) (dC (.int 617))) 4) (dSeq (dIf (dTest (dOp dNe (dOp dIx (dVar 0) (dC (.int 0))) (dLst dNil))) (dSeq (dSet (dOp dIx (dOp dIx (dVar 0) (dC (.int 0))) (dOp dMod (dCa gInt (dCons (dVar 3) dNil)) (dCa gLen (dCons (dOp dIx (dVar 0) (dC (.int 0))) dNil)))) 4) dSkip) dSkip) (dSeq (dIf (dAnd (dTest (dOp dLt (dVar 3) (dCa gLen (dCons (dOp dIx (dVar 0) (dC (.int 0))) dNil)))) (dTest (dOp dGe (dCa gAbs (dCons (dVar 4) dNil)) (dOp dPow (dC (.int 10)) (dC (.int 18)))))) (dSeq (dSet (dOp dPlus (dOp dTimes (dC (.int 2)) (dOp dMinus (dCa gAbs (dCons (dVar 4) dNil)) (dOp dPow (dC (.int 10)) (dC (.int 18))))) (dCa gInt (dCons (dOp dLt (dVar 4) (dC (.int 0))) dNil))) 5) (dSeq (dPut (dVar 0) (dC (.int 2)) (dOp dFdiv (dCa gInt (dCons (dVar 5) dNil)) (dVar 1))) (dSeq (dRet (dOp dMod (dCa gInt (dCons (dVar 5) dNil)) (dVar 1))) dSkip))) dSkip) (dSeq (dSet (dOp dMod (dCa gInt (dCons (dOp dPow (dOp dPlus (dOp dPlus (dOp dMod (dCa gInt (dCons (dVar 4) dNil)) (dC (.int 2147483549))) (dOp dTimes (dC (.int 7919)) (dVar 3))) (dC (.int 617))) (dC (.int 3))) dNil)) (dC (.int 2147483629))) 6) (dSeq (dSet (dOp dMod (dCa gInt (dCons (dOp dPow (dOp dPlus (dOp dPlus (dOp dTimes (dVar 6) (dOp dPlus (dOp dTimes (dC (.int 2)) (dVar 3)) (dC (.int 139)))) (dOp dTimes (dOp dTimes (dC (.int 7919)) (dVar 3)) (dVar 3))) (dC (.int 617))) (dC (.int 5))) dNil)) (dC (.int 2147483563))) 6) (dSeq (dRet (dOp dMod (dCa gInt (dCons (dOp dFdiv (dVar 6) (dC (.int 16))) dNil)) (dVar 1))) dSkip)))))))))
theorem B_l_draw {P : Program} {w : World} {K : PySem.W.Frag} {mg : Str → Option Value} {base : Heap} (G : Facts K mg w) {f : Addr} {cdv : Value} {A : Around} {outer : List Env} {s : Shared} {H : Hp} {E : XK} {Z : Anc} {QE : XQ} {k kF : Nat} (hk : kF ≤ k) (h2 : 2 ≤ k) (hr : Room k (A.deeper (envOfC "_law_draw" (defScope s_l_draw) s.heap.objs.size f cdv))) (tk : TakesD (cxOf (L2.CX P w) P w K mg base N_l_draw "_law_draw" (defScope s_l_draw) f cdv A outer s H E) Z QE) : DSs (cxOf (L2.CX P w) P w K mg base N_l_draw "_law_draw" (defScope s_l_draw) f cdv A outer s H E) Z (defBody s_l_draw) (T_l_draw  QE) :=
  (dss_cons (ds_if (dt_cmp do_gt (de_ix (de_var 0) de_int) de_int) (dss_cons (ds_set 2 S_l_draw.nd (de_bin do_mod (de_callT dc_int G.f_int boot_int (da_cons (de_ix (de_var 0) de_int) da_nil)) (de_var 1))) (dss_cons (ds_put (de_bin do_fdiv (de_callT dc_int G.f_int boot_int (da_cons (de_ix (de_var 0) de_int) da_nil)) (de_var 1)) (de_var 0) de_int) (dss_cons (ds_ret (de_var 2)) dss_nil))) dss_nil) (dss_cons (ds_set 3 S_l_draw.nd (de_ix (de_var 0) de_int)) (dss_cons (ds_put (de_bin do_plus (de_var 3) de_int) (de_var 0) de_int) (dss_cons (ds_set 4 S_l_draw.nd (de_bin do_plus (de_bin do_times de_int (de_var 3)) de_int)) (dss_cons (ds_if (dt_cmp (do_ne hr.units) (de_ix (de_var 0) de_int) (de_lst da_nil)) (dss_cons (ds_set 4 S_l_draw.nd (de_ix (de_ix (de_var 0) de_int) (de_bin do_mod (de_callT dc_int G.f_int boot_int (da_cons (de_var 3) da_nil)) (de_callB dc_len G.f_len boot_len (da_cons (de_ix (de_var 0) de_int) da_nil))))) dss_nil) dss_nil) (dss_cons (ds_if (dw_and (dt_cmp do_lt (de_var 3) (de_callB dc_len G.f_len boot_len (da_cons (de_ix (de_var 0) de_int) da_nil))) (dw_and1 (dt_cmp do_ge (de_callB dc_abs G.f_abs boot_abs (da_cons (de_var 4) da_nil)) (de_bin do_pow de_int de_int)))).dt (dss_cons (ds_set 5 S_l_draw.nd (de_bin do_plus (de_bin do_times de_int (de_bin do_minus (de_callB dc_abs G.f_abs boot_abs (da_cons (de_var 4) da_nil)) (de_bin do_pow de_int de_int))) (de_callT dc_int G.f_int boot_int (da_cons (de_cmp do_lt (de_var 4) de_int) da_nil)))) (dss_cons (ds_put (de_bin do_fdiv (de_callT dc_int G.f_int boot_int (da_cons (de_var 5) da_nil)) (de_var 1)) (de_var 0) de_int) (dss_cons (ds_ret (de_bin do_mod (de_callT dc_int G.f_int boot_int (da_cons (de_var 5) da_nil)) (de_var 1))) dss_nil))) dss_nil) (dss_cons (ds_set 6 S_l_draw.nd (de_bin do_mod (de_callT dc_int G.f_int boot_int (da_cons (de_bin do_pow (de_bin do_plus (de_bin do_plus (de_bin do_mod (de_callT dc_int G.f_int boot_int (da_cons (de_var 4) da_nil)) de_int) (de_bin do_times de_int (de_var 3))) de_int) de_int) da_nil)) de_int)) (dss_cons (ds_set 6 S_l_draw.nd (de_bin do_mod (de_callT dc_int G.f_int boot_int (da_cons (de_bin do_pow (de_bin do_plus (de_bin do_plus (de_bin do_times (de_var 6) (de_bin do_plus (de_bin do_times de_int (de_var 3)) de_int)) (de_bin do_times (de_bin do_times de_int (de_var 3)) (de_var 3))) de_int) de_int) da_nil)) de_int)) (dss_cons (ds_ret (de_bin do_mod (de_callT dc_int G.f_int boot_int (da_cons (de_bin do_fdiv (de_var 6) de_int) da_nil)) (de_var 1))) dss_nil)))))))))
/-! ### _law_pick -/
abbrev s_l_pick : Stmt := top 28
abbrev N_l_pick : List Str := ["pen", "some"]
abbrev P_l_pick : List Str := ["pen", "some"]
theorem S_l_pick : FnScope N_l_pick P_l_pick (defScope s_l_pick) := ⟨rfl, rfl, rfl, by decide +kernel, rfl, by decide +kernel, by decide +kernel⟩
def T_l_pick (p_l_draw : Pr) (QE : XQ) : STd := (dSeq (dRet (dOp dIx (dVar 1) (dCall p_l_draw [] QE (dCons (dVar 0) (dCons (dCa gLen (dCons (dVar 1) dNil)) dNil))))) dSkip)
theorem B_l_pick {P : Program} {w : World} {K : PySem.W.Frag} {mg : Str → Option Value} {base : Heap} (G : Facts K mg w) {p_l_draw : Pr} {f : Addr} {cdv : Value} {A : Around} {outer : List Env} {s : Shared} {H : Hp} {E : XK} {Z : Anc} {QE : XQ} {k kF : Nat} (hk : kF ≤ k) (h2 : 2 ≤ k) (hr : Room k (A.deeper (envOfC "_law_pick" (defScope s_l_pick) s.heap.objs.size f cdv))) (tk : TakesD (cxOf (L2.CX P w) P w K mg base N_l_pick "_law_pick" (defScope s_l_pick) f cdv A outer s H E) Z QE) (F_l_draw : Fn P w K mg base kF "_law_draw" [] p_l_draw) : DSs (cxOf (L2.CX P w) P w K mg base N_l_pick "_law_pick" (defScope s_l_pick) f cdv A outer s H E) Z (defBody s_l_pick) (T_l_pick p_l_draw QE) :=
  (dss_cons (ds_ret (de_ix (de_var 1) (de_callF F_l_draw (hr.mono hk) tk (da_cons (de_var 0) (da_cons (de_callB dc_len G.f_len boot_len (da_cons (de_var 1) da_nil)) da_nil))))) dss_nil)
/-! ### _law_great -/
abbrev s_l_great : Stmt := top 29
abbrev N_l_great : List Str := ["pen", "number", "turn"]
abbrev P_l_great : List Str := ["pen"]
theorem S_l_great : FnScope N_l_great P_l_great (defScope s_l_great) := ⟨rfl, rfl, rfl, by decide +kernel, rfl, by decide +kernel, by decide +kernel⟩
def T_l_great (p_l_pick : Pr) (p_l_draw : Pr) (QE : XQ) : STd := (dSeq (dSet (dCall p_l_draw [] QE (dCons (dVar 0) (dCons (dC (.int 10)) dNil))) 1) (dSeq (dFor (dRange1 (dCons (dCall p_l_pick [] QE (dCons (dVar 0) (dCons (dLst (dCons (dC (.int 0)) (dCons (dC (.int 0)) (dCons (dC (.int 1)) (dCons (dC (.int 3)) (dCons (dC (.int 5)) (dCons (dC (.int 9)) dNil))))))) dNil))) dNil)) (dgName 2) (dSeq (dSet (dOp dPlus (dOp dTimes (dVar 1) (dC (.int 99991))) (dCall p_l_draw [] QE (dCons (dVar 0) (dCons (dC (.int 99991)) dNil)))) 1) dSkip)) (dSeq (dRet (dVar 1)) dSkip)))
theorem B_l_great {P : Program} {w : World} {K : PySem.W.Frag} {mg : Str → Option Value} {base : Heap} (G : Facts K mg w) {p_l_pick : Pr} {p_l_draw : Pr} {f : Addr} {cdv : Value} {A : Around} {outer : List Env} {s : Shared} {H : Hp} {E : XK} {Z : Anc} {QE : XQ} {k kF : Nat} (hk : kF ≤ k) (h2 : 2 ≤ k) (hr : Room k (A.deeper (envOfC "_law_great" (defScope s_l_great) s.heap.objs.size f cdv))) (tk : TakesD (cxOf (L2.CX P w) P w K mg base N_l_great "_law_great" (defScope s_l_great) f cdv A outer s H E) Z QE) (F_l_pick : Fn P w K mg base kF "_law_pick" [] p_l_pick) (F_l_draw : Fn P w K mg base kF "_law_draw" [] p_l_draw) : DSs (cxOf (L2.CX P w) P w K mg base N_l_great "_law_great" (defScope s_l_great) f cdv A outer s H E) Z (defBody s_l_great) (T_l_great p_l_pick p_l_draw QE) :=
  (dss_cons (ds_set 1 S_l_great.nd (de_callF F_l_draw (hr.mono hk) tk (da_cons (de_var 0) (da_cons de_int da_nil)))) (dss_cons (ds_for (passes_of rfl) rfl (di_range1 G.f_range (da_cons (de_callF F_l_pick (hr.mono hk) tk (da_cons (de_var 0) (da_cons (de_lst (da_cons de_int (da_cons de_int (da_cons de_int (da_cons de_int (da_cons de_int (da_cons de_int da_nil))))))) da_nil))) da_nil)) (dg_name 2 S_l_great.nd) (dss_cons (ds_set 1 S_l_great.nd (de_bin do_plus (de_bin do_times (de_var 1) de_int) (de_callF F_l_draw (hr.mono hk) tk (da_cons (de_var 0) (da_cons de_int da_nil))))) dss_nil)) (dss_cons (ds_ret (de_var 1)) dss_nil)))
/-! ### _law_worth -/
abbrev s_l_worth : Stmt := top 30
abbrev N_l_worth : List Str := ["formula", "counts", "word", "one", "first", "other", "second"]
abbrev P_l_worth : List Str := ["formula", "counts"]
theorem S_l_worth : FnScope N_l_worth P_l_worth (defScope s_l_worth) := ⟨rfl, rfl, rfl, by decide +kernel, rfl, by decide +kernel, by decide +kernel⟩
def T_l_worth (p_l_worth : Pr) (QE : XQ) : STd := (dSeq (dPar 2 3 (dCons (dOp dIx (dVar 0) (dC (.int 0))) (dCons (dOp dIx (dVar 0) (dC (.int 1))) dNil))) (dSeq (dIf (dTest (dOp dEq (dVar 2) (dC (.str "count")))) (dSeq (dRet (dOp dIx (dVar 1) (dVar 3))) dSkip) dSkip) (dSeq (dIf (dTest (dOp dEq (dVar 2) (dC (.str "number")))) (dSeq (dRet (dVar 3)) dSkip) dSkip) (dSeq (dIf (dTest (dOp dEq (dVar 2) (dC (.str "times")))) (dSeq (dRet (dOp dTimes (dVar 3) (dCall p_l_worth [] QE (dCons (dOp dIx (dVar 0) (dC (.int 2))) (dCons (dVar 1) dNil))))) dSkip) dSkip) (dSeq (dPar 4 5 (dCons (dCall p_l_worth [] QE (dCons (dVar 3) (dCons (dVar 1) dNil))) (dCons (dOp dIx (dVar 0) (dC (.int 2))) dNil))) (dSeq (dIf (dTest (dOp dEq (dVar 2) (dC (.str "floor")))) (dSeq (dRet (dOp dFdiv (dVar 4) (dVar 5))) dSkip) dSkip) (dSeq (dIf (dTest (dOp dEq (dVar 2) (dC (.str "rest")))) (dSeq (dRet (dOp dMinus (dVar 4) (dOp dTimes (dOp dFdiv (dVar 4) (dVar 5)) (dVar 5)))) dSkip) dSkip) (dSeq (dSet (dCall p_l_worth [] QE (dCons (dVar 5) (dCons (dVar 1) dNil))) 6) (dSeq (dIf (dTest (dOp dEq (dVar 2) (dC (.str "sum")))) (dSeq (dRet (dOp dPlus (dVar 4) (dVar 6))) dSkip) dSkip) (dSeq (dRet (dIfE (dTest (dOp dEq (dVar 2) (dC (.str "least")))) (dCa gMin (dCons (dVar 4) (dCons (dVar 6) dNil))) (dCa gMax (dCons (dVar 4) (dCons (dVar 6) dNil))))) dSkip))))))))))
theorem B_l_worth {P : Program} {w : World} {K : PySem.W.Frag} {mg : Str → Option Value} {base : Heap} (G : Facts K mg w) {p_l_worth : Pr} {f : Addr} {cdv : Value} {A : Around} {outer : List Env} {s : Shared} {H : Hp} {E : XK} {Z : Anc} {QE : XQ} {k kF : Nat} (hk : kF ≤ k) (h2 : 2 ≤ k) (hr : Room k (A.deeper (envOfC "_law_worth" (defScope s_l_worth) s.heap.objs.size f cdv))) (tk : TakesD (cxOf (L2.CX P w) P w K mg base N_l_worth "_law_worth" (defScope s_l_worth) f cdv A outer s H E) Z QE) (F_l_worth : Fn P w K mg base kF "_law_worth" [] p_l_worth) : DSs (cxOf (L2.CX P w) P w K mg base N_l_worth "_law_worth" (defScope s_l_worth) f cdv A outer s H E) Z (defBody s_l_worth) (T_l_worth p_l_worth QE) :=
  (dss_cons (ds_par 2 3 rfl S_l_worth.nd (da_cons (de_ix (de_var 0) de_int) (da_cons (de_ix (de_var 0) de_int) da_nil))) (dss_cons (ds_if (dt_cmp (do_eq hr.units) (de_var 2) de_str) (dss_cons (ds_ret (de_ix (de_var 1) (de_var 3))) dss_nil) dss_nil) (dss_cons (ds_if (dt_cmp (do_eq hr.units) (de_var 2) de_str) (dss_cons (ds_ret (de_var 3)) dss_nil) dss_nil) (dss_cons (ds_if (dt_cmp (do_eq hr.units) (de_var 2) de_str) (dss_cons (ds_ret (de_bin do_times (de_var 3) (de_callF F_l_worth (hr.mono hk) tk (da_cons (de_ix (de_var 0) de_int) (da_cons (de_var 1) da_nil))))) dss_nil) dss_nil) (dss_cons (ds_par 4 5 rfl S_l_worth.nd (da_cons (de_callF F_l_worth (hr.mono hk) tk (da_cons (de_var 3) (da_cons (de_var 1) da_nil))) (da_cons (de_ix (de_var 0) de_int) da_nil))) (dss_cons (ds_if (dt_cmp (do_eq hr.units) (de_var 2) de_str) (dss_cons (ds_ret (de_bin do_fdiv (de_var 4) (de_var 5))) dss_nil) dss_nil) (dss_cons (ds_if (dt_cmp (do_eq hr.units) (de_var 2) de_str) (dss_cons (ds_ret (de_bin do_minus (de_var 4) (de_bin do_times (de_bin do_fdiv (de_var 4) (de_var 5)) (de_var 5)))) dss_nil) dss_nil) (dss_cons (ds_set 6 S_l_worth.nd (de_callF F_l_worth (hr.mono hk) tk (da_cons (de_var 5) (da_cons (de_var 1) da_nil)))) (dss_cons (ds_if (dt_cmp (do_eq hr.units) (de_var 2) de_str) (dss_cons (ds_ret (de_bin do_plus (de_var 4) (de_var 6))) dss_nil) dss_nil) (dss_cons (ds_ret (de_ifE (dt_cmp (do_eq hr.units) (de_var 2) de_str) (de_callB (dc_min rfl) G.f_min boot_min (da_cons (de_var 4) (da_cons (de_var 6) da_nil))) (de_callB (dc_max rfl) G.f_max boot_max (da_cons (de_var 4) (da_cons (de_var 6) da_nil))))) dss_nil))))))))))
/-! ### _law_heard -/
abbrev s_l_heard : Stmt := top 31
abbrev N_l_heard : List Str := ["ask", "caught", "found", "error", "marks", "word"]
abbrev P_l_heard : List Str := ["ask"]
theorem S_l_heard : FnScope N_l_heard P_l_heard (defScope s_l_heard) := ⟨rfl, rfl, rfl, by decide +kernel, rfl, by decide +kernel, by decide +kernel⟩
def T_l_heard (K : PySem.W.Frag) (QE : XQ) : STd := (dSeq (dIf (dTest (dOp dIs (dVar 1) (dC .non))) (dSeq (dRet (dTup (dCons (dC (.str "told")) (dCons (dVar 2) dNil)))) dSkip) dSkip) (dSeq (dSet (dLst (dCons (dCa (gIsiX K) (dCons (dVar 1) (dCons (dC (.raw (.ref (He.ga K "BadValue")))) dNil))) (dCons (dCa (gIsiX K) (dCons (dVar 1) (dCons (dC (.raw (.ref (He.ga K "BadNumber")))) dNil))) (dCons (dCa (gIsiX K) (dCons (dVar 1) (dCons (dC (.raw (.ref (He.ga K "BadTable")))) dNil))) dNil)))) 4) (dSeq (dSet (dOp dPlus (dVar 4) (dLst (dCons (dCa (gIsiX K) (dCons (dVar 1) (dCons (dC (.raw (.ref (He.ga K "BadBoard")))) dNil))) (dCons (dCa (gIsiX K) (dCons (dVar 1) (dCons (dC (.raw (.ref (He.ga K "NoDoor")))) dNil))) (dCons (dCa (gIsiX K) (dCons (dVar 1) (dCons (dC (.raw (.ref (He.ga K "Misfit")))) dNil))) (dCons (dCa (gIsiX K) (dCons (dVar 1) (dCons (dC (.raw (.ref (He.ga K "TooMany")))) dNil))) dNil)))))) 4) (dSeq (dIf (dOr (dTest (dOp dNe (dMeth1 gCount (dVar 4) (dCons (dC (.bl true)) dNil)) (dC (.int 1)))) (dNot (dTest (dCa (gIsiX K) (dCons (dVar 1) (dCons (dC (.raw (.ty "ValueError"))) dNil)))))) (dSeq (dRet (dTup (dCons (dC (.str "raised")) (dCons (dC (.str "odd")) dNil)))) dSkip) dSkip) (dSeq (dSet (dOp dIx (dLst (dCons (dC (.str "value")) (dCons (dC (.str "number")) (dCons (dC (.str "table")) (dCons (dC (.str "board")) (dCons (dC (.str "door")) (dCons (dC (.str "fit")) (dCons (dC (.str "many")) dNil)))))))) (dMeth1 gIndex (dVar 4) (dCons (dC (.bl true)) dNil))) 5) (dSeq (dIf (dTest (dOp dEq (dVar 5) (dC (.str "many")))) (dSeq (dRet (dTup (dCons (dC (.str "raised")) (dCons (dVar 5) (dCons (dAtX K "what" (dVar 1)) (dCons (dAtX K "most" (dVar 1)) dNil)))))) dSkip) dSkip) (dSeq (dRet (dTup (dCons (dC (.str "raised")) (dCons (dVar 5) (dCons (dIfE (dTest (dOp dEq (dVar 5) (dC (.str "door")))) (dAtX K "door" (dVar 1)) (dAtX K "part" (dVar 1))) dNil))))) dSkip)))))))
theorem B_l_heard {P : Program} {w : World} {K : PySem.W.Frag} {mg : Str → Option Value} {base : Heap} (G : Facts K mg w)  {f : Addr} {cdv : Value} {A : Around} {outer : List Env} {s : Shared} {H : Hp} {Z : Anc} {QE : XQ} {k : Nat} (hr : Room k (A.deeper (envOfC "_law_heard" (defScope s_l_heard) s.heap.objs.size f cdv))) : DSs ((cxOf C8.CX0 P w K mg base N_l_heard "_law_heard" (defScope s_l_heard) f cdv A outer s H C8.E0).nox) Z ((defBody s_l_heard).drop 2) (T_l_heard K QE) :=
  (dss_cons (ds_if (dt_cmp do_is (de_var 1) de_non) (dss_cons (ds_ret (de_tup (da_cons de_str (da_cons (de_var 2) da_nil)))) dss_nil) dss_nil) (dss_cons (ds_set 4 S_l_heard.nd (de_lst (da_cons (de_callB dc_isiX G.f_isinstance boot_isinstance (da_cons (de_var 1) (da_cons (de_globR G.g_BadValue) da_nil))) (da_cons (de_callB dc_isiX G.f_isinstance boot_isinstance (da_cons (de_var 1) (da_cons (de_globR G.g_BadNumber) da_nil))) (da_cons (de_callB dc_isiX G.f_isinstance boot_isinstance (da_cons (de_var 1) (da_cons (de_globR G.g_BadTable) da_nil))) da_nil))))) (dss_cons (ds_set 4 S_l_heard.nd (de_bin do_plus (de_var 4) (de_lst (da_cons (de_callB dc_isiX G.f_isinstance boot_isinstance (da_cons (de_var 1) (da_cons (de_globR G.g_BadBoard) da_nil))) (da_cons (de_callB dc_isiX G.f_isinstance boot_isinstance (da_cons (de_var 1) (da_cons (de_globR G.g_NoDoor) da_nil))) (da_cons (de_callB dc_isiX G.f_isinstance boot_isinstance (da_cons (de_var 1) (da_cons (de_globR G.g_Misfit) da_nil))) (da_cons (de_callB dc_isiX G.f_isinstance boot_isinstance (da_cons (de_var 1) (da_cons (de_globR G.g_TooMany) da_nil))) da_nil))))))) (dss_cons (ds_if (dw_or (dt_cmp (do_ne hr.units) (de_meth1 PySem.F.slot_list_count PySem.F.type_list_count PySem.F.plainAttrs_list mt_countF (fun v w μ Q B θ H x y h o r r2 Q2 f => g_count h o r r2 f) (de_var 4) (da_cons de_bl da_nil)) de_int) (dw_or1 (dt_not (dt_val (de_callB dc_isiX G.f_isinstance boot_isinstance (da_cons (de_var 1) (da_cons (de_bltT G.f_ValueError boot_ValueError) da_nil))))))).dt (dss_cons (ds_ret (de_tup (da_cons de_str (da_cons de_str da_nil)))) dss_nil) dss_nil) (dss_cons (ds_set 5 S_l_heard.nd (de_ix (de_lst (da_cons de_str (da_cons de_str (da_cons de_str (da_cons de_str (da_cons de_str (da_cons de_str (da_cons de_str da_nil)))))))) (de_meth1 PySem.F.slot_list_index PySem.F.type_list_index PySem.F.plainAttrs_list mt_index (fun v w μ Q B θ H x y h o r r2 Q2 f => g_index h o r r2 f) (de_var 4) (da_cons de_bl da_nil)))) (dss_cons (ds_if (dt_cmp (do_eq hr.units) (de_var 5) de_str) (dss_cons (ds_ret (de_tup (da_cons de_str (da_cons (de_var 5) (da_cons (de_atX (de_var 1)) (da_cons (de_atX (de_var 1)) da_nil)))))) dss_nil) dss_nil) (dss_cons (ds_ret (de_tup (da_cons de_str (da_cons (de_var 5) (da_cons (de_ifE (dt_cmp (do_eq hr.units) (de_var 5) de_str) (de_atX (de_var 1)) (de_atX (de_var 1))) da_nil))))) dss_nil)))))))
/-! ### _law_formula -/
abbrev s_l_formula : Stmt := top 32
abbrev N_l_formula : List Str := ["pen", "doors", "deep", "word", "one"]
abbrev P_l_formula : List Str := ["pen", "doors", "deep"]
theorem S_l_formula : FnScope N_l_formula P_l_formula (defScope s_l_formula) := ⟨rfl, rfl, rfl, by decide +kernel, rfl, by decide +kernel, by decide +kernel⟩
def T_l_formula (p_l_formula : Pr) (p_l_great : Pr) (p_l_pick : Pr) (p_l_draw : Pr) (QE : XQ) : STd := (dSeq (dSet (dCall p_l_pick [] QE (dCons (dVar 0) (dCons (dLst (dCons (dC (.str "count")) (dCons (dC (.str "count")) (dCons (dC (.str "number")) (dCons (dC (.str "sum")) (dCons (dC (.str "times")) (dCons (dC (.str "floor")) (dCons (dC (.str "rest")) (dCons (dC (.str "least")) (dCons (dC (.str "most")) dNil)))))))))) dNil))) 3) (dSeq (dIf (dOr (dTest (dOp dEq (dVar 2) (dC (.int 1)))) (dTest (dOp dEq (dVar 3) (dC (.str "count"))))) (dSeq (dRet (dIfE (dTest (dOp dGt (dCall p_l_draw [] QE (dCons (dVar 0) (dCons (dC (.int 4)) dNil))) (dC (.int 0)))) (dTup (dCons (dC (.str "count")) (dCons (dCall p_l_draw [] QE (dCons (dVar 0) (dCons (dVar 1) dNil))) dNil))) (dLst (dCons (dC (.str "number")) (dCons (dCall p_l_great [] QE (dCons (dVar 0) dNil)) dNil))))) dSkip) dSkip) (dSeq (dIf (dTest (dOp dEq (dVar 3) (dC (.str "number")))) (dSeq (dRet (dTup (dCons (dC (.str "number")) (dCons (dCall p_l_great [] QE (dCons (dVar 0) dNil)) dNil)))) dSkip) dSkip) (dSeq (dSet (dCall p_l_formula [] QE (dCons (dVar 0) (dCons (dVar 1) (dCons (dOp dMinus (dVar 2) (dC (.int 1))) dNil)))) 4) (dSeq (dIf (dTest (dOp dEq (dVar 3) (dC (.str "times")))) (dSeq (dRet (dLst (dCons (dVar 3) (dCons (dCall p_l_pick [] QE (dCons (dVar 0) (dCons (dLst (dCons (dC (.int 0)) (dCons (dC (.int 1)) (dCons (dC (.int 2)) (dCons (dC (.int 7)) (dCons (dCall p_l_great [] QE (dCons (dVar 0) dNil)) dNil)))))) dNil))) (dCons (dVar 4) dNil))))) dSkip) dSkip) (dSeq (dIf (dTest (dOp dIn (dVar 3) (dTup (dCons (dC (.str "floor")) (dCons (dC (.str "rest")) dNil))))) (dSeq (dRet (dTup (dCons (dVar 3) (dCons (dVar 4) (dCons (dOp dPlus (dC (.int 1)) (dCall p_l_pick [] QE (dCons (dVar 0) (dCons (dLst (dCons (dC (.int 0)) (dCons (dC (.int 1)) (dCons (dC (.int 2)) (dCons (dC (.int 8)) (dCons (dCall p_l_great [] QE (dCons (dVar 0) dNil)) dNil)))))) dNil)))) dNil))))) dSkip) dSkip) (dSeq (dRet (dTup (dCons (dVar 3) (dCons (dVar 4) (dCons (dCall p_l_formula [] QE (dCons (dVar 0) (dCons (dVar 1) (dCons (dOp dMinus (dVar 2) (dC (.int 1))) dNil)))) dNil))))) dSkip)))))))
theorem B_l_formula {P : Program} {w : World} {K : PySem.W.Frag} {mg : Str → Option Value} {base : Heap} (G : Facts K mg w) {p_l_formula : Pr} {p_l_great : Pr} {p_l_pick : Pr} {p_l_draw : Pr} {f : Addr} {cdv : Value} {A : Around} {outer : List Env} {s : Shared} {H : Hp} {E : XK} {Z : Anc} {QE : XQ} {k kF : Nat} (hk : kF ≤ k) (h2 : 2 ≤ k) (hr : Room k (A.deeper (envOfC "_law_formula" (defScope s_l_formula) s.heap.objs.size f cdv))) (tk : TakesD (cxOf (L2.CX P w) P w K mg base N_l_formula "_law_formula" (defScope s_l_formula) f cdv A outer s H E) Z QE) (F_l_formula : Fn P w K mg base kF "_law_formula" [] p_l_formula) (F_l_great : Fn P w K mg base kF "_law_great" [] p_l_great) (F_l_pick : Fn P w K mg base kF "_law_pick" [] p_l_pick) (F_l_draw : Fn P w K mg base kF "_law_draw" [] p_l_draw) : DSs (cxOf (L2.CX P w) P w K mg base N_l_formula "_law_formula" (defScope s_l_formula) f cdv A outer s H E) Z (defBody s_l_formula) (T_l_formula p_l_formula p_l_great p_l_pick p_l_draw QE) :=
  (dss_cons (ds_set 3 S_l_formula.nd (de_callF F_l_pick (hr.mono hk) tk (da_cons (de_var 0) (da_cons (de_lst (da_cons de_str (da_cons de_str (da_cons de_str (da_cons de_str (da_cons de_str (da_cons de_str (da_cons de_str (da_cons de_str (da_cons de_str da_nil)))))))))) da_nil)))) (dss_cons (ds_if (dw_or (dt_cmp (do_eq hr.units) (de_var 2) de_int) (dw_or1 (dt_cmp (do_eq hr.units) (de_var 3) de_str))).dt (dss_cons (ds_ret (de_ifE (dt_cmp do_gt (de_callF F_l_draw (hr.mono hk) tk (da_cons (de_var 0) (da_cons de_int da_nil))) de_int) (de_tup (da_cons de_str (da_cons (de_callF F_l_draw (hr.mono hk) tk (da_cons (de_var 0) (da_cons (de_var 1) da_nil))) da_nil))) (de_lst (da_cons de_str (da_cons (de_callF F_l_great (hr.mono hk) tk (da_cons (de_var 0) da_nil)) da_nil))))) dss_nil) dss_nil) (dss_cons (ds_if (dt_cmp (do_eq hr.units) (de_var 3) de_str) (dss_cons (ds_ret (de_tup (da_cons de_str (da_cons (de_callF F_l_great (hr.mono hk) tk (da_cons (de_var 0) da_nil)) da_nil)))) dss_nil) dss_nil) (dss_cons (ds_set 4 S_l_formula.nd (de_callF F_l_formula (hr.mono hk) tk (da_cons (de_var 0) (da_cons (de_var 1) (da_cons (de_bin do_minus (de_var 2) de_int) da_nil))))) (dss_cons (ds_if (dt_cmp (do_eq hr.units) (de_var 3) de_str) (dss_cons (ds_ret (de_lst (da_cons (de_var 3) (da_cons (de_callF F_l_pick (hr.mono hk) tk (da_cons (de_var 0) (da_cons (de_lst (da_cons de_int (da_cons de_int (da_cons de_int (da_cons de_int (da_cons (de_callF F_l_great (hr.mono hk) tk (da_cons (de_var 0) da_nil)) da_nil)))))) da_nil))) (da_cons (de_var 4) da_nil))))) dss_nil) dss_nil) (dss_cons (ds_if (dt_cmp do_in (de_var 3) (de_tup (da_cons de_str (da_cons de_str da_nil)))) (dss_cons (ds_ret (de_tup (da_cons (de_var 3) (da_cons (de_var 4) (da_cons (de_bin do_plus de_int (de_callF F_l_pick (hr.mono hk) tk (da_cons (de_var 0) (da_cons (de_lst (da_cons de_int (da_cons de_int (da_cons de_int (da_cons de_int (da_cons (de_callF F_l_great (hr.mono hk) tk (da_cons (de_var 0) da_nil)) da_nil)))))) da_nil)))) da_nil))))) dss_nil) dss_nil) (dss_cons (ds_ret (de_tup (da_cons (de_var 3) (da_cons (de_var 4) (da_cons (de_callF F_l_formula (hr.mono hk) tk (da_cons (de_var 0) (da_cons (de_var 1) (da_cons (de_bin do_minus (de_var 2) de_int) da_nil)))) da_nil))))) dss_nil)))))))
/-! ### _law_spoilt -/
abbrev s_l_spoilt : Stmt := top 33
abbrev N_l_spoilt : List Str := ["pen", "formula", "doors", "parts", "inner", "at", "way", "odd", "number", "part"]
abbrev P_l_spoilt : List Str := ["pen", "formula", "doors"]
theorem S_l_spoilt : FnScope N_l_spoilt P_l_spoilt (defScope s_l_spoilt) := ⟨rfl, rfl, rfl, by decide +kernel, rfl, by decide +kernel, by decide +kernel⟩
def T_l_spoilt (p_l_pick : Pr) (p_l_draw : Pr) (p_l_spoilt : Pr) (QE : XQ) : STd := (dSeq (dSet (dCa gListM (dCons (dVar 1) dNil)) 3) (dSeq (dSet (dLc (dEnum (dCons (dVar 3) dNil)) (dgTup 2 (dgCons (dgName 5) (dgCons (dgName 9) dgNil))) (dTest (dCa gIsi (dCons (dVar 9) (dCons (dTup (dCons (dC (.raw (.ty "list"))) (dCons (dC (.raw (.ty "tuple"))) dNil))) dNil)))) (dVar 5) [5, 9]) 4) (dSeq (dIf (dAnd (dTest (dOp dNe (dVar 4) (dLst dNil))) (dTest (dOp dGt (dCall p_l_draw [] QE (dCons (dVar 0) (dCons (dC (.int 3)) dNil))) (dC (.int 0))))) (dSeq (dSet (dCall p_l_pick [] QE (dCons (dVar 0) (dCons (dVar 4) dNil))) 5) (dSeq (dPut (dVar 3) (dVar 5) (dCall p_l_spoilt [] QE (dCons (dVar 0) (dCons (dOp dIx (dVar 3) (dVar 5)) (dCons (dVar 2) dNil))))) (dFrz 3 (dSeq (dRet (dCall p_l_pick [] QE (dCons (dVar 0) (dCons (dLst (dCons (dVar 3) (dCons (dCa gTuple (dCons (dVar 3) dNil)) dNil))) dNil)))) dSkip)))) dSkip) (dSeq (dSet (dCall p_l_draw [] QE (dCons (dVar 0) (dCons (dC (.int 5)) dNil))) 6) (dSeq (dIf (dTest (dOp dEq (dVar 6) (dC (.int 0)))) (dSeq (dRet (dSl (dVar 3) dNoP (dPart (dNeg (dC (.int 1)))))) dSkip) dSkip) (dSeq (dIf (dTest (dOp dEq (dVar 6) (dC (.int 1)))) (dSeq (dRet (dCa gTuple (dCons (dOp dPlus (dVar 3) (dLst (dCons (dCall p_l_pick [] QE (dCons (dVar 0) (dCons (dLst (dCons (dC (.int 0)) (dCons (dTup (dCons (dC (.str "count")) (dCons (dC (.int 0)) dNil))) (dCons (dC .non) dNil)))) dNil))) dNil))) dNil))) dSkip) dSkip) (dSeq (dIf (dTest (dOp dEq (dVar 6) (dC (.int 2)))) (dSeq (dRet (dOp dPlus (dLst (dCons (dCall p_l_pick [] QE (dCons (dVar 0) (dCons (dLst (dCons (dC (.str "counts")) (dCons (dC (.str "Sum")) (dCons (dC (.str "")) (dCons (dC (.str "count ")) (dCons (dC .non) (dCons (dC (.int 0)) (dCons (dC (.str "door")) dNil)))))))) dNil))) dNil)) (dSl (dVar 3) (dPart (dC (.int 1))) dNoP))) dSkip) dSkip) (dSeq (dIf (dOr (dTest (dOp dEq (dVar 6) (dC (.int 3)))) (dTest (dOp dEq (dVar 4) (dLst dNil)))) (dSeq (dSet (dDic (pCons (dC (.str "count")) (dLst (dCons (dVar 2) (dCons (dNeg (dC (.int 1))) (dCons (dC (.bl true)) (dCons (dC .non) (dCons (dC (.str "0")) (dCons (dTup (dCons (dC (.int 0)) dNil)) dNil))))))) (pCons (dC (.str "number")) (dLst (dCons (dNeg (dC (.int 1))) (dCons (dC (.bl false)) (dCons (dC .non) (dCons (dC (.str "1")) (dCons (dLst (dCons (dC (.int 1)) dNil)) dNil)))))) pNil))) 7) (dSeq (dIf (dTest (dOp dIn (dOp dIx (dVar 3) (dC (.int 0))) (dTup (dCons (dC (.str "times")) (dCons (dC (.str "floor")) (dCons (dC (.str "rest")) dNil)))))) (dSeq (dSet (dCall p_l_pick [] QE (dCons (dVar 0) (dCons (dOp dPlus (dLst (dCons (dNeg (dC (.int 1))) (dCons (dC (.bl true)) (dCons (dC .non) (dCons (dC (.str "2")) dNil))))) (dIfE (dTest (dOp dNe (dOp dIx (dVar 3) (dC (.int 0))) (dC (.str "times")))) (dLst (dCons (dC (.int 0)) dNil)) (dLst dNil))) dNil))) 8) (dSeq (dRet (dIfE (dTest (dOp dEq (dOp dIx (dVar 3) (dC (.int 0))) (dC (.str "times")))) (dLst (dCons (dOp dIx (dVar 3) (dC (.int 0))) (dCons (dVar 8) (dCons (dOp dIx (dVar 3) (dC (.int 2))) dNil)))) (dLst (dCons (dOp dIx (dVar 3) (dC (.int 0))) (dCons (dOp dIx (dVar 3) (dC (.int 1))) (dCons (dVar 8) dNil)))))) dSkip)) dSkip) (dSeq (dIf (dTest (dOp (dInD false) (dOp dIx (dVar 3) (dC (.int 0))) (dVar 7))) (dSeq (dRet (dTup (dCons (dOp dIx (dVar 3) (dC (.int 0))) (dCons (dCall p_l_pick [] QE (dCons (dVar 0) (dCons (dOp dIxD (dVar 7) (dOp dIx (dVar 3) (dC (.int 0)))) dNil))) dNil)))) dSkip) dSkip) dSkip))) dSkip) (dSeq (dPut (dVar 3) (dCall p_l_pick [] QE (dCons (dVar 0) (dCons (dVar 4) dNil))) (dCall p_l_pick [] QE (dCons (dVar 0) (dCons (dLst (dCons (dC (.int 0)) (dCons (dC (.int 1)) (dCons (dC .non) (dCons (dTup dNil) (dCons (dLst dNil) (dCons (dC (.str "count")) (dCons (dTup (dCons (dC (.str "count")) dNil)) dNil)))))))) dNil)))) (dSeq (dRet (dVar 3)) dSkip))))))))))
theorem B_l_spoilt {P : Program} {w : World} {K : PySem.W.Frag} {mg : Str → Option Value} {base : Heap} (G : Facts K mg w) {p_l_pick : Pr} {p_l_draw : Pr} {p_l_spoilt : Pr} {f : Addr} {cdv : Value} {A : Around} {outer : List Env} {s : Shared} {H : Hp} {E : XK} {Z : Anc} {QE : XQ} {k kF : Nat} (hk : kF ≤ k) (h2 : 2 ≤ k) (hr : Room k (A.deeper (envOfC "_law_spoilt" (defScope s_l_spoilt) s.heap.objs.size f cdv))) (tk : TakesD (cxOf (L2.CX P w) P w K mg base N_l_spoilt "_law_spoilt" (defScope s_l_spoilt) f cdv A outer s H E) Z QE) (F_l_pick : Fn P w K mg base kF "_law_pick" [] p_l_pick) (F_l_draw : Fn P w K mg base kF "_law_draw" [] p_l_draw) (F_l_spoilt : Fn P w K mg base kF "_law_spoilt" [] p_l_spoilt) : DSs (cxOf (L2.CX P w) P w K mg base N_l_spoilt "_law_spoilt" (defScope s_l_spoilt) f cdv A outer s H E) Z (defBody s_l_spoilt) (T_l_spoilt p_l_pick p_l_draw p_l_spoilt QE) :=
  (dss_cons (ds_set 3 S_l_spoilt.nd (de_callT dc_listM G.f_list boot_list (da_cons (de_var 1) da_nil))) (dss_cons (ds_setLc (own := [("at", 5), ("part", 9)]) 4 rfl S_l_spoilt.nd (di_enum G.f_enumerate (da_cons (de_var 3) da_nil)) (blkOk_by (by show blkC N_l_spoilt (defScope s_l_spoilt) _ _ = true; decide +kernel)) (fun _ _ _ _ _ => (dg_tup (n := 2) rfl (dgs_cons (dg_name 5 S_l_spoilt.nd) (dgs_cons (dg_name 9 S_l_spoilt.nd) dgs_nil)))) (fun _ _ _ _ _ => (dts_one (dt_val (de_callB dc_isi G.f_isinstance boot_isinstance (da_cons (de_var 9) (da_cons (de_tup (da_cons (de_bltT G.f_list boot_list) (da_cons (de_bltT G.f_tuple boot_tuple) da_nil))) da_nil)))))) (fun _ _ _ _ _ => (de_var 5))) (dss_cons (ds_if (dw_and (dt_cmp (do_ne hr.units) (de_var 4) (de_lst da_nil)) (dw_and1 (dt_cmp do_gt (de_callF F_l_draw (hr.mono hk) tk (da_cons (de_var 0) (da_cons de_int da_nil))) de_int))).dt (dss_cons (ds_set 5 S_l_spoilt.nd (de_callF F_l_pick (hr.mono hk) tk (da_cons (de_var 0) (da_cons (de_var 4) da_nil)))) (dss_cons (ds_put (de_callF F_l_spoilt (hr.mono hk) tk (da_cons (de_var 0) (da_cons (de_ix (de_var 3) (de_var 5)) (da_cons (de_var 2) da_nil)))) (de_var 3) (de_var 5)) (dss_frz 3 (dss_cons (ds_ret (de_callF F_l_pick (hr.mono hk) tk (da_cons (de_var 0) (da_cons (de_lst (da_cons (de_var 3) (da_cons (de_callT dc_tuple G.f_tuple boot_tuple (da_cons (de_var 3) da_nil)) da_nil))) da_nil)))) dss_nil)))) dss_nil) (dss_cons (ds_set 6 S_l_spoilt.nd (de_callF F_l_draw (hr.mono hk) tk (da_cons (de_var 0) (da_cons de_int da_nil)))) (dss_cons (ds_if (dt_cmp (do_eq hr.units) (de_var 6) de_int) (dss_cons (ds_ret (de_slice (de_var 3) do_none (do_some (de_neg de_int)))) dss_nil) dss_nil) (dss_cons (ds_if (dt_cmp (do_eq hr.units) (de_var 6) de_int) (dss_cons (ds_ret (de_callT dc_tuple G.f_tuple boot_tuple (da_cons (de_bin do_plus (de_var 3) (de_lst (da_cons (de_callF F_l_pick (hr.mono hk) tk (da_cons (de_var 0) (da_cons (de_lst (da_cons de_int (da_cons (de_tup (da_cons de_str (da_cons de_int da_nil))) (da_cons de_non da_nil)))) da_nil))) da_nil))) da_nil))) dss_nil) dss_nil) (dss_cons (ds_if (dt_cmp (do_eq hr.units) (de_var 6) de_int) (dss_cons (ds_ret (de_bin do_plus (de_lst (da_cons (de_callF F_l_pick (hr.mono hk) tk (da_cons (de_var 0) (da_cons (de_lst (da_cons de_str (da_cons de_str (da_cons de_str (da_cons de_str (da_cons de_non (da_cons de_int (da_cons de_str da_nil)))))))) da_nil))) da_nil)) (de_slice (de_var 3) (do_some de_int) do_none))) dss_nil) dss_nil) (dss_cons (ds_if (dw_or (dt_cmp (do_eq hr.units) (de_var 6) de_int) (dw_or1 (dt_cmp (do_eq hr.units) (de_var 4) (de_lst da_nil)))).dt (dss_cons (ds_set 7 S_l_spoilt.nd (de_dic (dp_cons de_str (de_lst (da_cons (de_var 2) (da_cons (de_neg de_int) (da_cons de_bl (da_cons de_non (da_cons de_str (da_cons (de_tup (da_cons de_int da_nil)) da_nil))))))) (dp_cons de_str (de_lst (da_cons (de_neg de_int) (da_cons de_bl (da_cons de_non (da_cons de_str (da_cons (de_lst (da_cons de_int da_nil)) da_nil)))))) dp_nil)))) (dss_cons (ds_if (dt_cmp do_in (de_ix (de_var 3) de_int) (de_tup (da_cons de_str (da_cons de_str (da_cons de_str da_nil))))) (dss_cons (ds_set 8 S_l_spoilt.nd (de_callF F_l_pick (hr.mono hk) tk (da_cons (de_var 0) (da_cons (de_bin do_plus (de_lst (da_cons (de_neg de_int) (da_cons de_bl (da_cons de_non (da_cons de_str da_nil))))) (de_ifE (dt_cmp (do_ne hr.units) (de_ix (de_var 3) de_int) de_str) (de_lst (da_cons de_int da_nil)) (de_lst da_nil))) da_nil)))) (dss_cons (ds_ret (de_ifE (dt_cmp (do_eq hr.units) (de_ix (de_var 3) de_int) de_str) (de_lst (da_cons (de_ix (de_var 3) de_int) (da_cons (de_var 8) (da_cons (de_ix (de_var 3) de_int) da_nil)))) (de_lst (da_cons (de_ix (de_var 3) de_int) (da_cons (de_ix (de_var 3) de_int) (da_cons (de_var 8) da_nil)))))) dss_nil)) dss_nil) (dss_cons (ds_if (dt_inD hr.units (de_ix (de_var 3) de_int) (de_var 7)) (dss_cons (ds_ret (de_tup (da_cons (de_ix (de_var 3) de_int) (da_cons (de_callF F_l_pick (hr.mono hk) tk (da_cons (de_var 0) (da_cons (de_ixD hr.units (de_var 7) (de_ix (de_var 3) de_int)) da_nil))) da_nil)))) dss_nil) dss_nil) dss_nil))) dss_nil) (dss_cons (ds_put (de_callF F_l_pick (hr.mono hk) tk (da_cons (de_var 0) (da_cons (de_lst (da_cons de_int (da_cons de_int (da_cons de_non (da_cons (de_tup da_nil) (da_cons (de_lst da_nil) (da_cons de_str (da_cons (de_tup (da_cons de_str da_nil)) da_nil)))))))) da_nil))) (de_var 3) (de_callF F_l_pick (hr.mono hk) tk (da_cons (de_var 0) (da_cons (de_var 4) da_nil)))) (dss_cons (ds_ret (de_var 3)) dss_nil))))))))))
/-! ### _law_nested -/
abbrev s_l_nested : Stmt := top 34
abbrev N_l_nested : List Str := ["pen", "deep", "formula", "turn"]
abbrev P_l_nested : List Str := ["pen", "deep"]
theorem S_l_nested : FnScope N_l_nested P_l_nested (defScope s_l_nested) := ⟨rfl, rfl, rfl, by decide +kernel, rfl, by decide +kernel, by decide +kernel⟩
def T_l_nested (p_l_pick : Pr) (QE : XQ) : STd := (dSeq (dSet (dTup (dCons (dC (.str "count")) (dCons (dC (.int 0)) dNil))) 2) (dSeq (dFor (dRange1 (dCons (dOp dMinus (dVar 1) (dC (.int 1))) dNil)) (dgName 3) (dSeq (dSet (dCall p_l_pick [] QE (dCons (dVar 0) (dCons (dLst (dCons (dTup (dCons (dC (.str "times")) (dCons (dC (.int 1)) (dCons (dVar 2) dNil)))) (dCons (dTup (dCons (dC (.str "floor")) (dCons (dVar 2) (dCons (dC (.int 1)) dNil)))) (dCons (dTup (dCons (dC (.str "most")) (dCons (dTup (dCons (dC (.str "number")) (dCons (dC (.int 0)) dNil))) (dCons (dVar 2) dNil)))) (dCons (dLst (dCons (dC (.str "least")) (dCons (dVar 2) (dCons (dSl (dVar 2) dNoP dNoP) dNil)))) dNil))))) dNil))) 2) (dSeq (dIf (dTest (dOp dEq (dOp dIx (dVar 2) (dC (.int 0))) (dC (.str "least")))) (dSeq (dSet (dLst (dCons (dC (.str "sum")) (dCons (dOp dIx (dVar 2) (dC (.int 1))) (dCons (dTup (dCons (dC (.str "number")) (dCons (dC (.int 1)) dNil))) dNil)))) 2) dSkip) dSkip) dSkip))) (dSeq (dRet (dVar 2)) dSkip)))
theorem B_l_nested {P : Program} {w : World} {K : PySem.W.Frag} {mg : Str → Option Value} {base : Heap} (G : Facts K mg w) {p_l_pick : Pr} {f : Addr} {cdv : Value} {A : Around} {outer : List Env} {s : Shared} {H : Hp} {E : XK} {Z : Anc} {QE : XQ} {k kF : Nat} (hk : kF ≤ k) (h2 : 2 ≤ k) (hr : Room k (A.deeper (envOfC "_law_nested" (defScope s_l_nested) s.heap.objs.size f cdv))) (tk : TakesD (cxOf (L2.CX P w) P w K mg base N_l_nested "_law_nested" (defScope s_l_nested) f cdv A outer s H E) Z QE) (F_l_pick : Fn P w K mg base kF "_law_pick" [] p_l_pick) : DSs (cxOf (L2.CX P w) P w K mg base N_l_nested "_law_nested" (defScope s_l_nested) f cdv A outer s H E) Z (defBody s_l_nested) (T_l_nested p_l_pick QE) :=
  (dss_cons (ds_set 2 S_l_nested.nd (de_tup (da_cons de_str (da_cons de_int da_nil)))) (dss_cons (ds_for (passes_of rfl) rfl (di_range1 G.f_range (da_cons (de_bin do_minus (de_var 1) de_int) da_nil)) (dg_name 3 S_l_nested.nd) (dss_cons (ds_set 2 S_l_nested.nd (de_callF F_l_pick (hr.mono hk) tk (da_cons (de_var 0) (da_cons (de_lst (da_cons (de_tup (da_cons de_str (da_cons de_int (da_cons (de_var 2) da_nil)))) (da_cons (de_tup (da_cons de_str (da_cons (de_var 2) (da_cons de_int da_nil)))) (da_cons (de_tup (da_cons de_str (da_cons (de_tup (da_cons de_str (da_cons de_int da_nil))) (da_cons (de_var 2) da_nil)))) (da_cons (de_lst (da_cons de_str (da_cons (de_var 2) (da_cons (de_slice (de_var 2) do_none do_none) da_nil)))) da_nil))))) da_nil)))) (dss_cons (ds_if (dt_cmp (do_eq hr.units) (de_ix (de_var 2) de_int) de_str) (dss_cons (ds_set 2 S_l_nested.nd (de_lst (da_cons de_str (da_cons (de_ix (de_var 2) de_int) (da_cons (de_tup (da_cons de_str (da_cons de_int da_nil))) da_nil))))) dss_nil) dss_nil) dss_nil))) (dss_cons (ds_ret (de_var 2)) dss_nil)))
/-! ### _law_made -/
abbrev s_l_made : Stmt := top 35
abbrev N_l_made : List Str := ["many", "half", "one"]
abbrev P_l_made : List Str := ["many"]
theorem S_l_made : FnScope N_l_made P_l_made (defScope s_l_made) := ⟨rfl, rfl, rfl, by decide +kernel, rfl, by decide +kernel, by decide +kernel⟩
def T_l_made (p_l_made : Pr) (QE : XQ) : STd := (dSeq (dIf (dTest (dOp dEq (dVar 0) (dC (.int 1)))) (dSeq (dRet (dTup (dCons (dC (.str "count")) (dCons (dC (.int 0)) dNil)))) dSkip) dSkip) (dSeq (dSet (dOp dFdiv (dOp dMinus (dVar 0) (dC (.int 1))) (dC (.int 2))) 1) (dSeq (dSet (dIfE (dTest (dOp dEq (dOp dMinus (dVar 1) (dOp dTimes (dOp dFdiv (dVar 1) (dC (.int 2))) (dC (.int 2)))) (dC (.int 1)))) (dVar 1) (dOp dPlus (dVar 1) (dC (.int 1)))) 2) (dSeq (dRet (dTup (dCons (dC (.str "sum")) (dCons (dCall p_l_made [] QE (dCons (dVar 2) dNil)) (dCons (dCall p_l_made [] QE (dCons (dOp dMinus (dOp dMinus (dVar 0) (dC (.int 1))) (dVar 2)) dNil)) dNil))))) dSkip))))
theorem B_l_made {P : Program} {w : World} {K : PySem.W.Frag} {mg : Str → Option Value} {base : Heap} (G : Facts K mg w) {p_l_made : Pr} {f : Addr} {cdv : Value} {A : Around} {outer : List Env} {s : Shared} {H : Hp} {E : XK} {Z : Anc} {QE : XQ} {k kF : Nat} (hk : kF ≤ k) (h2 : 2 ≤ k) (hr : Room k (A.deeper (envOfC "_law_made" (defScope s_l_made) s.heap.objs.size f cdv))) (tk : TakesD (cxOf (L2.CX P w) P w K mg base N_l_made "_law_made" (defScope s_l_made) f cdv A outer s H E) Z QE) (F_l_made : Fn P w K mg base kF "_law_made" [] p_l_made) : DSs (cxOf (L2.CX P w) P w K mg base N_l_made "_law_made" (defScope s_l_made) f cdv A outer s H E) Z (defBody s_l_made) (T_l_made p_l_made QE) :=
  (dss_cons (ds_if (dt_cmp (do_eq hr.units) (de_var 0) de_int) (dss_cons (ds_ret (de_tup (da_cons de_str (da_cons de_int da_nil)))) dss_nil) dss_nil) (dss_cons (ds_set 1 S_l_made.nd (de_bin do_fdiv (de_bin do_minus (de_var 0) de_int) de_int)) (dss_cons (ds_set 2 S_l_made.nd (de_ifE (dt_cmp (do_eq hr.units) (de_bin do_minus (de_var 1) (de_bin do_times (de_bin do_fdiv (de_var 1) de_int) de_int)) de_int) (de_var 1) (de_bin do_plus (de_var 1) de_int))) (dss_cons (ds_ret (de_tup (da_cons de_str (da_cons (de_callF F_l_made (hr.mono hk) tk (da_cons (de_var 2) da_nil)) (da_cons (de_callF F_l_made (hr.mono hk) tk (da_cons (de_bin do_minus (de_bin do_minus (de_var 0) de_int) (de_var 2)) da_nil)) da_nil))))) dss_nil))))
/-! ### law -/
abbrev s_law : Stmt := top 36
abbrev N_law : List Str := ["script", "pen", "turn", "doors", "formula", "counts", "told", "bad", "most", "deep", "size", "odd", "wrong", "door", "later"]
abbrev P_law : List Str := ["script"]
theorem S_law : FnScope N_law P_law (defScope s_law) := ⟨rfl, rfl, rfl, by decide +kernel, rfl, by decide +kernel, by decide +kernel⟩
def T_law (Pt : Addr) (Hn : Va → Mu → EQ → Prop) (Hx : Addr → List Str → List D → Mu → EQ → Prop) (p_worth : Pr) (p_l_pick : Pr) (p_is_formula : Pr) (p_l_made : Pr) (p_l_worth : Pr) (p_l_nested : Pr) (p_l_spoilt : Pr) (p_l_great : Pr) (p_l_formula : Pr) (p_l_draw : Pr) (p_l_pen : Pr) (QE : XQ) : STd := (dSeq (dSet (dCall p_l_pen [] QE (dCons (dVar 0) dNil)) 1) (dSeq (dFor (dRange1 (dCons (dC (.int 6)) dNil)) (dgName 2) (dSeq (dSet (dOp dPlus (dC (.int 1)) (dCall p_l_draw [] QE (dCons (dVar 1) (dCons (dC (.int 4)) dNil)))) 3) (dSeq (dSet (dCall p_l_formula [] QE (dCons (dVar 1) (dCons (dVar 3) (dCons (dC (.int 5)) dNil)))) 4) (dSeq (dSet (dLc (dRange1 (dCons (dVar 3) dNil)) (dgName 13) dYes (dCall p_l_pick [] noX (dCons (dVar 1) (dCons (dLst (dCons (dC (.int 0)) (dCons (dC (.int 1)) (dCons (dC (.int 5)) (dCons (dCall p_l_great [] noX (dCons (dVar 1) dNil)) dNil))))) dNil))) [13]) 5) (dSeq (dIf (dOr (dTest (dOp dNe (dCall p_worth [] QE (dCons (dVar 4) (dCons (dCa gList (dCons (dVar 5) dNil)) dNil))) (dCall p_l_worth [] QE (dCons (dVar 4) (dCons (dVar 5) dNil))))) (dTest (dOp dNe (dCallK p_worth QE true (dCons (dCa gTuple (dCons (dVar 5) dNil)) (dCons (dVar 4) dNil))) (dCall p_l_worth [] QE (dCons (dVar 4) (dCons (dVar 5) dNil)))))) (dSeq (dRet (dC (.bl false))) dSkip) dSkip) (dSeq (dSet (dCall p_worth [] QE (dCons (dVar 4) (dCons (dCa gTuple (dCons (dVar 5) dNil)) dNil))) 6) (dSeq (dIf (dOr (dNot (dTest (dCa gIsi (dCons (dVar 6) (dCons (dC (.raw (.ty "int"))) dNil))))) (dOr (dTest (dCa gIsi (dCons (dVar 6) (dCons (dC (.raw (.ty "bool"))) dNil)))) (dTest (dOp dIsNot (dCall p_is_formula [] QE (dCons (dVar 4) (dCons (dVar 3) dNil))) (dC (.bl true)))))) (dSeq (dRet (dC (.bl false))) dSkip) dSkip) (dSeq (dSet (dCall p_l_spoilt [] QE (dCons (dVar 1) (dCons (dVar 4) (dCons (dVar 3) dNil)))) 7) (dSeq (dIf (dOr (dTest (dOp dIsNot (dCall p_is_formula [] QE (dCons (dVar 7) (dCons (dVar 3) dNil))) (dC (.bl false)))) (dTest (dOp dNe (dHeard 0 Pt (("law" ++ ".<locals>.") ++ "<lambda>") Hn Hx fun QE => (dCall p_worth [] QE (dCons (dVar 7) (dCons (dVar 5) dNil)))) (dTup (dCons (dC (.str "raised")) (dCons (dC (.str "value")) (dCons (dC (.str "formula")) dNil))))))) (dSeq (dRet (dC (.bl false))) dSkip) dSkip) (dSeq (dSet (dLc (dRange1 (dCons (dVar 3) dNil)) (dgName 14) (dOr (dTest (dOp dIsNot (dCall p_is_formula [] noX (dCons (dTup (dCons (dC (.str "count")) (dCons (dVar 14) dNil))) (dCons (dVar 3) dNil))) (dC (.bl true)))) (dTest (dOp dIsNot (dCall p_is_formula [] noX (dCons (dTup (dCons (dC (.str "count")) (dCons (dVar 14) dNil))) (dCons (dOp dPlus (dVar 14) (dC (.int 1))) dNil))) (dC (.bl true))))) (dVar 3) [14]) 8) (dSeq (dIf (dOr (dTest (dOp dNe (dVar 8) (dLst dNil))) (dTest (dOp dNe (dCallK p_is_formula QE false (dCons (dTup (dCons (dC (.str "count")) (dCons (dOp dMinus (dVar 3) (dC (.int 1))) dNil))) (dCons (dCa gMax (dCons (dC (.int 1)) (dCons (dOp dMinus (dVar 3) (dC (.int 1))) dNil))) dNil))) (dOp dEq (dVar 3) (dC (.int 1)))))) (dSeq (dRet (dC (.bl false))) dSkip) dSkip) dSkip))))))))))) (dSeq (dPar 9 10 (dCons (dCall p_l_nested [] QE (dCons (dVar 1) (dCons (dC (.int 12)) dNil))) (dCons (dCall p_l_pick [] QE (dCons (dVar 1) (dCons (dLst (dCons (dC (.int 1)) (dCons (dC (.int 3)) (dCons (dC (.int 37)) (dCons (dC (.int 39)) dNil))))) dNil))) dNil))) (dSeq (dIf (dOr (dTest (dOp dIsNot (dCall p_is_formula [] QE (dCons (dVar 9) (dCons (dC (.int 1)) dNil))) (dC (.bl true)))) (dOr (dTest (dOp dIsNot (dCall p_is_formula [] QE (dCons (dTup (dCons (dC (.str "times")) (dCons (dC (.int 1)) (dCons (dVar 9) dNil)))) (dCons (dC (.int 1)) dNil))) (dC (.bl false)))) (dTest (dOp dNe (dCall p_worth [] QE (dCons (dVar 9) (dCons (dLst (dCons (dC (.int 9)) dNil)) dNil))) (dCall p_l_worth [] QE (dCons (dVar 9) (dCons (dLst (dCons (dC (.int 9)) dNil)) dNil))))))) (dSeq (dRet (dC (.bl false))) dSkip) dSkip) (dSeq (dIf (dOr (dTest (dOp dIsNot (dCall p_is_formula [] QE (dCons (dCall p_l_made [] QE (dCons (dVar 10) dNil)) (dCons (dC (.int 1)) dNil))) (dC (.bl true)))) (dOr (dTest (dOp dIsNot (dCall p_is_formula [] QE (dCons (dTup (dCons (dC (.str "floor")) (dCons (dCall p_l_made [] QE (dCons (dC (.int 39)) dNil)) (dCons (dC (.int 2)) dNil)))) (dCons (dC (.int 1)) dNil))) (dC (.bl true)))) (dTest (dOp dIsNot (dCall p_is_formula [] QE (dCons (dCall p_l_made [] QE (dCons (dC (.int 41)) dNil)) (dCons (dC (.int 1)) dNil))) (dC (.bl false)))))) (dSeq (dRet (dC (.bl false))) dSkip) dSkip) (dSeq (dIf (dTest (dOp dNe (dCall p_worth [] QE (dCons (dCall p_l_made [] QE (dCons (dC (.int 39)) dNil)) (dCons (dTup (dCons (dOp dPow (dC (.int 10)) (dC (.int 40))) dNil)) dNil))) (dOp dTimes (dC (.int 20)) (dOp dPow (dC (.int 10)) (dC (.int 40)))))) (dSeq (dRet (dC (.bl false))) dSkip) dSkip) (dSeq (dSet (dCall p_l_pick [] QE (dCons (dVar 1) (dCons (dLst (dCons (dC (.int 0)) (dCons (dC (.int 5)) (dCons (dNeg (dC (.int 1))) (dCons (dC (.bl true)) (dCons (dC .non) (dCons (dC (.str "1")) dNil))))))) dNil))) 11) (dSeq (dIf (dTest (dOp dNe (dHeard 0 Pt (("law" ++ ".<locals>.") ++ "<lambda>") Hn Hx fun QE => (dCall p_is_formula [] QE (dCons (dTup (dCons (dC (.str "count")) (dCons (dC (.int 0)) dNil))) (dCons (dVar 11) dNil)))) (dTup (dCons (dC (.str "raised")) (dCons (dC (.str "number")) (dCons (dC (.str "doors")) dNil)))))) (dSeq (dRet (dC (.bl false))) dSkip) dSkip) (dSeq (dSet (dCall p_l_pick [] QE (dCons (dVar 1) (dCons (dLst (dCons (dLst dNil) (dCons (dOp dTimes (dLst (dCons (dC (.int 1)) dNil)) (dC (.int 5))) (dCons (dLst (dCons (dNeg (dC (.int 1))) dNil)) (dCons (dLst (dCons (dC (.bl true)) dNil)) (dCons (dC .non) (dCons (dC (.int 3)) (dCons (dLst (dCons (dC (.int 0)) (dCons (dC .non) dNil))) (dCons (dTup (dCons (dC (.str "1")) dNil)) dNil))))))))) dNil))) 12) (dSeq (dIf (dTest (dOp dNe (dHeard 0 Pt (("law" ++ ".<locals>.") ++ "<lambda>") Hn Hx fun QE => (dCall p_worth [] QE (dCons (dC .non) (dCons (dVar 12) dNil)))) (dTup (dCons (dC (.str "raised")) (dCons (dC (.str "value")) (dCons (dC (.str "counts")) dNil)))))) (dSeq (dRet (dC (.bl false))) dSkip) dSkip) (dSeq (dRet (dOp dEq (dHeard 0 Pt (("law" ++ ".<locals>.") ++ "<lambda>") Hn Hx fun QE => (dCall p_worth [] QE (dCons (dC .non) (dCons (dTup (dCons (dC (.int 1)) dNil)) dNil)))) (dTup (dCons (dC (.str "raised")) (dCons (dC (.str "value")) (dCons (dC (.str "formula")) dNil)))))) dSkip)))))))))))
theorem B_law {P : Program} {w : World} {K : PySem.W.Frag} {mg : Str → Option Value} {base : Heap} (G : Facts K mg w) {Pt : Addr} {Hn : Va → Mu → EQ → Prop} {Hx : Addr → List Str → List D → Mu → EQ → Prop} {p_worth : Pr} {p_l_pick : Pr} {p_is_formula : Pr} {p_l_made : Pr} {p_l_worth : Pr} {p_l_nested : Pr} {p_l_spoilt : Pr} {p_l_great : Pr} {p_l_formula : Pr} {p_l_draw : Pr} {p_l_pen : Pr} {f : Addr} {cdv : Value} {A : Around} {outer : List Env} {s : Shared} {H : Hp} {E : XK} {Z : Anc} {QE : XQ} {k kF : Nat} (hk : kF ≤ k) (h2 : 2 ≤ k) (hr : Room (k + 2) (A.deeper (envOfC "law" (defScope s_law) s.heap.objs.size (He.fAd K ("law", none)) (.ref (He.codeOf K ("law", none)))))) (tk : TakesD (cxOf (L2.CX P w) P w K mg base N_law "law" (defScope s_law) (He.fAd K ("law", none)) (.ref (He.codeOf K ("law", none))) A outer s H E) Z QE) (F_worth : Fn P w K mg base kF "worth" [] p_worth) (F_l_pick : Fn P w K mg base kF "_law_pick" [] p_l_pick) (F_is_formula : Fn P w K mg base kF "is_formula" [] p_is_formula) (F_l_made : Fn P w K mg base kF "_law_made" [] p_l_made) (F_l_worth : Fn P w K mg base kF "_law_worth" [] p_l_worth) (F_l_nested : Fn P w K mg base kF "_law_nested" [] p_l_nested) (Fk_is_formula : FnKw P w K mg base kF "is_formula" ["value", "doors"] false p_is_formula) (F_l_spoilt : Fn P w K mg base kF "_law_spoilt" [] p_l_spoilt) (Fk_worth : FnKw P w K mg base kF "worth" ["counts", "formula"] true p_worth) (F_l_great : Fn P w K mg base kF "_law_great" [] p_l_great) (F_l_formula : Fn P w K mg base kF "_law_formula" [] p_l_formula) (F_l_draw : Fn P w K mg base kF "_law_draw" [] p_l_draw) (F_l_pen : Fn P w K mg base kF "_law_pen" [] p_l_pen) (hear : HearR P w K mg base N_law (defScope s_law) (He.fAd K ("law", none)) (.ref (He.codeOf K ("law", none))) Pt Hn Hx k) : DSs (cxOf (L2.CX P w) P w K mg base N_law "law" (defScope s_law) (He.fAd K ("law", none)) (.ref (He.codeOf K ("law", none))) A outer s H E) Z (defBody s_law) (T_law Pt Hn Hx p_worth p_l_pick p_is_formula p_l_made p_l_worth p_l_nested p_l_spoilt p_l_great p_l_formula p_l_draw p_l_pen QE) :=
  (dss_cons (ds_set 1 S_law.nd (de_callF F_l_pen (hr.mono (by omega)) tk (da_cons (de_var 0) da_nil))) (dss_cons (ds_for (passes_of rfl) rfl (di_range1 G.f_range (da_cons de_int da_nil)) (dg_name 2 S_law.nd) (dss_cons (ds_set 3 S_law.nd (de_bin do_plus de_int (de_callF F_l_draw (hr.mono (by omega)) tk (da_cons (de_var 1) (da_cons de_int da_nil))))) (dss_cons (ds_set 4 S_law.nd (de_callF F_l_formula (hr.mono (by omega)) tk (da_cons (de_var 1) (da_cons (de_var 3) (da_cons de_int da_nil))))) (dss_cons (ds_set 5 S_law.nd (de_lc (own := [("door", 13)]) rfl S_law.nd (di_range1 G.f_range (da_cons (de_var 3) da_nil)) (blkOk_by (by show blkC N_law (defScope s_law) _ _ = true; decide +kernel)) (fun _ _ _ _ _ => (dg_name 13 S_law.nd)) (fun _ _ _ _ _ => dts_nil) (fun _ _ _ _ _ => (de_callF F_l_pick (hr.mono (by omega)) takesN (da_cons (de_var 1) (da_cons (de_lst (da_cons de_int (da_cons de_int (da_cons de_int (da_cons (de_callF F_l_great (hr.mono (by omega)) takesN (da_cons (de_var 1) da_nil)) da_nil))))) da_nil)))))) (dss_cons (ds_if (dw_or (dt_cmp (do_ne hr.units) (de_callF F_worth (hr.mono (by omega)) tk (da_cons (de_var 4) (da_cons (de_callT dc_list G.f_list boot_list (da_cons (de_var 5) da_nil)) da_nil))) (de_callF F_l_worth (hr.mono (by omega)) tk (da_cons (de_var 4) (da_cons (de_var 5) da_nil)))) (dw_or1 (dt_cmp (do_ne hr.units) (de_callKF Fk_worth (hr.mono (by omega)) tk (dk_cons (de_callT dc_tuple G.f_tuple boot_tuple (da_cons (de_var 5) da_nil)) (dk_cons (de_var 4) dk_nil))) (de_callF F_l_worth (hr.mono (by omega)) tk (da_cons (de_var 4) (da_cons (de_var 5) da_nil)))))).dt (dss_cons (ds_ret de_bl) dss_nil) dss_nil) (dss_cons (ds_set 6 S_law.nd (de_callF F_worth (hr.mono (by omega)) tk (da_cons (de_var 4) (da_cons (de_callT dc_tuple G.f_tuple boot_tuple (da_cons (de_var 5) da_nil)) da_nil)))) (dss_cons (ds_if (dw_or (dt_not (dt_val (de_callB dc_isi G.f_isinstance boot_isinstance (da_cons (de_var 6) (da_cons (de_bltT G.f_int boot_int) da_nil))))) (dw_or (dt_val (de_callB dc_isi G.f_isinstance boot_isinstance (da_cons (de_var 6) (da_cons (de_bltT G.f_bool boot_bool) da_nil)))) (dw_or1 (dt_cmp do_isNot (de_callF F_is_formula (hr.mono (by omega)) tk (da_cons (de_var 4) (da_cons (de_var 3) da_nil))) de_bl)))).dt (dss_cons (ds_ret de_bl) dss_nil) dss_nil) (dss_cons (ds_set 7 S_law.nd (de_callF F_l_spoilt (hr.mono (by omega)) tk (da_cons (de_var 1) (da_cons (de_var 4) (da_cons (de_var 3) da_nil))))) (dss_cons (ds_if (dw_or (dt_cmp do_isNot (de_callF F_is_formula (hr.mono (by omega)) tk (da_cons (de_var 7) (da_cons (de_var 3) da_nil))) de_bl) (dw_or1 (dt_cmp (do_ne hr.units) (hear hr (LamX.lamS_by (by decide +kernel)) (fun Z A outer s H E f c QE hr tk => (de_callF F_worth (hr.mono (by omega)) tk (da_cons (de_var 7) (da_cons (de_var 5) da_nil)))) rfl (fun _ _ _ _ _ => rfl)) (de_tup (da_cons de_str (da_cons de_str (da_cons de_str da_nil))))))).dt (dss_cons (ds_ret de_bl) dss_nil) dss_nil) (dss_cons (ds_setLc (own := [("later", 14)]) 8 rfl S_law.nd (di_range1 G.f_range (da_cons (de_var 3) da_nil)) (blkOk_by (by show blkC N_law (defScope s_law) _ _ = true; decide +kernel)) (fun _ _ _ _ _ => (dg_name 14 S_law.nd)) (fun _ _ _ _ _ => (dts_one (dw_or (dt_cmp do_isNot (de_callF F_is_formula (hr.mono (by omega)) takesN (da_cons (de_tup (da_cons de_str (da_cons (de_var 14) da_nil))) (da_cons (de_var 3) da_nil))) de_bl) (dw_or1 (dt_cmp do_isNot (de_callF F_is_formula (hr.mono (by omega)) takesN (da_cons (de_tup (da_cons de_str (da_cons (de_var 14) da_nil))) (da_cons (de_bin do_plus (de_var 14) de_int) da_nil))) de_bl))).dt)) (fun _ _ _ _ _ => (de_var 3))) (dss_cons (ds_if (dw_or (dt_cmp (do_ne hr.units) (de_var 8) (de_lst da_nil)) (dw_or1 (dt_cmp (do_ne hr.units) (de_callKF Fk_is_formula (hr.mono (by omega)) tk (dk_cons (de_tup (da_cons de_str (da_cons (de_bin do_minus (de_var 3) de_int) da_nil))) (dk_cons (de_callB (dc_max rfl) G.f_max boot_max (da_cons de_int (da_cons (de_bin do_minus (de_var 3) de_int) da_nil))) dk_nil))) (de_cmp (do_eq hr.units) (de_var 3) de_int)))).dt (dss_cons (ds_ret de_bl) dss_nil) dss_nil) dss_nil))))))))))) (dss_cons (ds_par 9 10 rfl S_law.nd (da_cons (de_callF F_l_nested (hr.mono (by omega)) tk (da_cons (de_var 1) (da_cons de_int da_nil))) (da_cons (de_callF F_l_pick (hr.mono (by omega)) tk (da_cons (de_var 1) (da_cons (de_lst (da_cons de_int (da_cons de_int (da_cons de_int (da_cons de_int da_nil))))) da_nil))) da_nil))) (dss_cons (ds_if (dw_or (dt_cmp do_isNot (de_callF F_is_formula (hr.mono (by omega)) tk (da_cons (de_var 9) (da_cons de_int da_nil))) de_bl) (dw_or (dt_cmp do_isNot (de_callF F_is_formula (hr.mono (by omega)) tk (da_cons (de_tup (da_cons de_str (da_cons de_int (da_cons (de_var 9) da_nil)))) (da_cons de_int da_nil))) de_bl) (dw_or1 (dt_cmp (do_ne hr.units) (de_callF F_worth (hr.mono (by omega)) tk (da_cons (de_var 9) (da_cons (de_lst (da_cons de_int da_nil)) da_nil))) (de_callF F_l_worth (hr.mono (by omega)) tk (da_cons (de_var 9) (da_cons (de_lst (da_cons de_int da_nil)) da_nil))))))).dt (dss_cons (ds_ret de_bl) dss_nil) dss_nil) (dss_cons (ds_if (dw_or (dt_cmp do_isNot (de_callF F_is_formula (hr.mono (by omega)) tk (da_cons (de_callF F_l_made (hr.mono (by omega)) tk (da_cons (de_var 10) da_nil)) (da_cons de_int da_nil))) de_bl) (dw_or (dt_cmp do_isNot (de_callF F_is_formula (hr.mono (by omega)) tk (da_cons (de_tup (da_cons de_str (da_cons (de_callF F_l_made (hr.mono (by omega)) tk (da_cons de_int da_nil)) (da_cons de_int da_nil)))) (da_cons de_int da_nil))) de_bl) (dw_or1 (dt_cmp do_isNot (de_callF F_is_formula (hr.mono (by omega)) tk (da_cons (de_callF F_l_made (hr.mono (by omega)) tk (da_cons de_int da_nil)) (da_cons de_int da_nil))) de_bl)))).dt (dss_cons (ds_ret de_bl) dss_nil) dss_nil) (dss_cons (ds_if (dt_cmp (do_ne hr.units) (de_callF F_worth (hr.mono (by omega)) tk (da_cons (de_callF F_l_made (hr.mono (by omega)) tk (da_cons de_int da_nil)) (da_cons (de_tup (da_cons (de_bin do_pow de_int de_int) da_nil)) da_nil))) (de_bin do_times de_int (de_bin do_pow de_int de_int))) (dss_cons (ds_ret de_bl) dss_nil) dss_nil) (dss_cons (ds_set 11 S_law.nd (de_callF F_l_pick (hr.mono (by omega)) tk (da_cons (de_var 1) (da_cons (de_lst (da_cons de_int (da_cons de_int (da_cons (de_neg de_int) (da_cons de_bl (da_cons de_non (da_cons de_str da_nil))))))) da_nil)))) (dss_cons (ds_if (dt_cmp (do_ne hr.units) (hear hr (LamX.lamS_by (by decide +kernel)) (fun Z A outer s H E f c QE hr tk => (de_callF F_is_formula (hr.mono (by omega)) tk (da_cons (de_tup (da_cons de_str (da_cons de_int da_nil))) (da_cons (de_var 11) da_nil)))) rfl (fun _ _ _ _ _ => rfl)) (de_tup (da_cons de_str (da_cons de_str (da_cons de_str da_nil))))) (dss_cons (ds_ret de_bl) dss_nil) dss_nil) (dss_cons (ds_set 12 S_law.nd (de_callF F_l_pick (hr.mono (by omega)) tk (da_cons (de_var 1) (da_cons (de_lst (da_cons (de_lst da_nil) (da_cons (de_bin do_times (de_lst (da_cons de_int da_nil)) de_int) (da_cons (de_lst (da_cons (de_neg de_int) da_nil)) (da_cons (de_lst (da_cons de_bl da_nil)) (da_cons de_non (da_cons de_int (da_cons (de_lst (da_cons de_int (da_cons de_non da_nil))) (da_cons (de_tup (da_cons de_str da_nil)) da_nil))))))))) da_nil)))) (dss_cons (ds_if (dt_cmp (do_ne hr.units) (hear hr (LamX.lamS_by (by decide +kernel)) (fun Z A outer s H E f c QE hr tk => (de_callF F_worth (hr.mono (by omega)) tk (da_cons de_non (da_cons (de_var 12) da_nil)))) rfl (fun _ _ _ _ _ => rfl)) (de_tup (da_cons de_str (da_cons de_str (da_cons de_str da_nil))))) (dss_cons (ds_ret de_bl) dss_nil) dss_nil) (dss_cons (ds_ret (de_cmp (do_eq hr.units) (hear hr (LamX.lamS_by (by decide +kernel)) (fun Z A outer s H E f c QE hr tk => (de_callF F_worth (hr.mono (by omega)) tk (da_cons de_non (da_cons (de_tup (da_cons de_int da_nil)) da_nil)))) rfl (fun _ _ _ _ _ => rfl)) (de_tup (da_cons de_str (da_cons de_str (da_cons de_str da_nil)))))) dss_nil)))))))))))

/-! ### values -/
def isI : D → Bool
  | .int _ => true
  | _ => false
def isBo : D → Bool
  | .bl _ => true
  | _ => false
def isS : D → Bool
  | .str _ => true
  | _ => false
def seqD : D → Option (List D)
  | .tup xs => some xs
  | .lst xs => some xs
  | _ => none
/-- of that depth at most, made of plain things -/
def okN : Nat → D → Bool
  | 0, x => isFl x
  | n + 1, x => isFl x || (match seqD x with
    | some xs => decide (xs.length ≤ 1000) && xs.all (okN n)
    | none => false)
theorem okN_ty : ∀ {n : Nat} {x : D}, okN n x = true → ∃ t, tyD x = some t := by
  intro n x h
  cases x with
  | raw v => cases n <;> simp [okN, isFl, seqD] at h
  | lsk xs => cases n <;> simp [okN, isFl, seqD] at h
  | dic ks xs => cases n <;> simp [okN, isFl, seqD] at h
  | exc C ns xs => cases n <;> simp [okN, isFl, seqD] at h
  | _ => exact ⟨_, rfl⟩
theorem okN_succ : ∀ {n : Nat} {x : D}, okN n x = true → okN (n + 1) x = true
  | 0, x, h => by
    rw [okN] at h
    rw [okN, h]
    rfl
  | n + 1, x, h => by
    rw [okN] at h
    rw [okN]
    cases hf : isFl x with
    | true => rfl
    | false =>
      rw [hf] at h
      cases hs : seqD x with
      | none => rw [hs] at h; cases h
      | some xs =>
        rw [hs] at h
        simp only [Bool.false_or, Bool.and_eq_true, List.all_eq_true] at h ⊢
        exact ⟨h.1, fun y hy => okN_succ (h.2 y hy)⟩
theorem okN_le {n m : Nat} {x : D} (h : okN n x = true) (l : n ≤ m) : okN m x = true := by
  induction l with
  | refl => exact h
  | step _ ih => exact okN_succ ih
theorem okN_at {n : Nat} {x : D} {xs : List D} (h : okN n x = true) (hs : seqD x = some xs) : xs.length ≤ 1000 ∧ ∀ y ∈ xs, okN (n - 1) y = true := by
  cases n with
  | zero =>
    rw [okN] at h
    cases x <;> simp [isFl, seqD] at h hs
  | succ n =>
    rw [okN, hs] at h
    have hf : isFl x = false := by cases x <;> simp [isFl, seqD] at hs ⊢
    rw [hf] at h
    simp only [Bool.false_or, Bool.and_eq_true, List.all_eq_true, decide_eq_true_eq] at h
    exact h
theorem sub_int {x : D} {t : String} (h : tyD x = some t) : subB t "int" = some (isI x || isBo x) := by
  cases x <;> simp only [tyD, Option.some.injEq, reduceCtorEq] at h <;> subst h <;> rfl
theorem sub_bool {x : D} {t : String} (h : tyD x = some t) : subB t "bool" = some (isBo x) := by
  cases x <;> simp only [tyD, Option.some.injEq, reduceCtorEq] at h <;> subst h <;> rfl
theorem sub_str {x : D} {t : String} (h : tyD x = some t) : subB t "str" = some (isS x) := by
  cases x <;> simp only [tyD, Option.some.injEq, reduceCtorEq] at h <;> subst h <;> rfl
def isT : D → Bool
  | .tup _ => true
  | _ => false
theorem sub_tuple {x : D} {t : String} (h : tyD x = some t) : subB t "tuple" = some (isT x) := by
  cases x <;> simp only [tyD, Option.some.injEq, reduceCtorEq] at h <;> subst h <;> rfl
theorem sub_lt {n : Nat} {x : D} {t : String} (hx : okN n x = true) (h : tyD x = some t) : subAny t ["list", "tuple"] = some (seqD x).isSome := by
  cases x <;> simp only [tyD, Option.some.injEq, reduceCtorEq] at h <;> first | (subst h; rfl) | (cases n <;> simp [okN, isFl, seqD] at hx)
/-! ### isinstance, told -/
section
variable {es : Es} {μ : Mu} {Q : EQ} {x : D} {t : String}
theorem g_int (h : tyD x = some t) (q : Q (.d (.bl (isI x || isBo x))) μ) : gIsi [.d x, .d (.raw (.ty "int"))] μ Q := by
  simp only [gIsi, tyV', h, Option.bind_some, sub_int h]
  exact q
theorem g_bool (h : tyD x = some t) (q : Q (.d (.bl (isBo x))) μ) : gIsi [.d x, .d (.raw (.ty "bool"))] μ Q := by
  simp only [gIsi, tyV', h, Option.bind_some, sub_bool h]
  exact q
theorem g_str (h : tyD x = some t) (q : Q (.d (.bl (isS x))) μ) : gIsi [.d x, .d (.raw (.ty "str"))] μ Q := by
  simp only [gIsi, tyV', h, Option.bind_some, sub_str h]
  exact q
theorem g_tuple (h : tyD x = some t) (q : Q (.d (.bl (isT x))) μ) : gIsi [.d x, .d (.raw (.ty "tuple"))] μ Q := by
  simp only [gIsi, tyV', h, Option.bind_some, sub_tuple h]
  exact q
theorem g_lt {n : Nat} (hx : okN n x = true) (q : Q (.d (.bl (seqD x).isSome)) μ) : gIsi [.d x, .d (.tup [.raw (.ty "list"), .raw (.ty "tuple")])] μ Q := by
  obtain ⟨t, h⟩ := okN_ty hx
  simp only [gIsi, tyV', h, tys, Option.map_some, sub_lt hx h]
  exact q
end
/-! ### is_integer -/
def sp_is_integer : Pr := fun args μ Q _ => ∃ x t, args = [.d x] ∧ tyD x = some t ∧ Q (.d (.bl (isI x))) μ
theorem H_is_integer (args : List Va) (μ : Mu) (Q : EQ) (QE : XQ) (h : sp_is_integer args μ Q QE) : T_is_integer QE { nx := fun _ μ' => Fin μ Q (.d .non) μ', rt := Fin μ Q } (args.map some ++ List.replicate (N_is_integer.length - args.length) none) μ := by
  obtain ⟨x, t, rfl, ht, q⟩ := h
  simp only [T_is_integer, dSeq, dRet, dRetN, dIf, dSkip, dSet, dCa, dCons, dNil, dVar, dC, dOp, dTest, dAnd, dOr, dNot, dAndV, dOrV, dNotV, dIfE, dCall, dChain, dTup, dLst, dSl, dPart, dNoP, dLt, dLe, dGt, dGe, dMinus, dPlus, dDrop, dPar, List.getElem?_cons_zero, List.getElem?_cons_succ, List.length_cons, List.length_nil, List.map_cons, List.map_nil, List.cons_append, List.nil_append, List.append_nil, List.replicate_succ, List.replicate_zero, List.set_cons_zero, List.set_cons_succ]
  refine g_int ht ?_
  cases x with
  | bl b =>
    simp only [isI, isBo, Bool.or_true, Bool.or_false, if_true]
    refine g_bool (x := .bl b) (t := "bool") rfl ?_
    exact .now q
  | int i =>
    simp only [isI, isBo, Bool.or_true, Bool.or_false, if_true]
    refine g_bool (x := .int i) (t := "int") rfl ?_
    exact .now q
  | _ => exact .now q
/-! ### need_integer -/
def sp_need (C : Addr) : Pr := fun args μ Q QE => ∃ p x t l m, args = [.d p, .d x, .d (.int l), .d (.int m)] ∧ tyD x = some t ∧ ((∃ i, x = .int i ∧ l ≤ i ∧ i ≤ m ∧ Q (.d x) μ) ∨ ((∀ i, x = .int i → i < l ∨ m < i) ∧ QE C ["part"] [p] μ))
theorem H_need (C : Addr) (args : List Va) (μ : Mu) (Q : EQ) (QE : XQ) (h : sp_need C args μ Q QE) : T_need_integer C ["part"] sp_is_integer QE { nx := fun _ μ' => Fin μ Q (.d .non) μ', rt := Fin μ Q } (args.map some ++ List.replicate (N_need_integer.length - args.length) none) μ := by
  obtain ⟨p, x, t, l, m, rfl, ht, h⟩ := h
  simp only [T_need_integer, dRaise, dSeq, dRet, dRetN, dIf, dSkip, dSet, dCa, dCons, dNil, dVar, dC, dOp, dTest, dAnd, dOr, dNot, dAndV, dOrV, dNotV, dIfE, dCall, dChain, dTup, dLst, dSl, dPart, dNoP, dLt, dLe, dGt, dGe, dMinus, dPlus, dDrop, dPar, List.getElem?_cons_zero, List.getElem?_cons_succ, List.length_cons, List.length_nil, List.map_cons, List.map_nil, List.cons_append, List.nil_append, List.append_nil, List.replicate_succ, List.replicate_zero, List.set_cons_zero, List.set_cons_succ]
  refine ⟨x, t, rfl, ht, ?_⟩
  dsimp only
  cases hx : isI x with
  | false =>
    rcases h with ⟨i, rfl, _⟩ | ⟨_, h⟩
    · cases hx
    · simp only [Bool.not_false, if_true, unD, Option.map_some]
      exact ⟨rfl, by simp, h⟩
  | true =>
    cases x with
    | int i =>
      simp only [Bool.not_true, Bool.false_eq_true, if_false]
      rcases h with ⟨j, e, h1, h2, q⟩ | ⟨hb, q⟩
      · cases e
        simp only [decide_eq_true_eq, show ¬ (i < l) from by omega, if_false, dIsNot, dIsG, isN, Bool.true_bne, Bool.not_false, if_true, show ¬ (m < i) from by omega]
        exact .now q
      · rcases hb i rfl with hb | hb
        · simp only [decide_eq_true_eq, hb, if_true, unD, Option.map_some]
          exact ⟨rfl, by simp, q⟩
        · by_cases hl : i < l
          · simp only [decide_eq_true_eq, hl, if_true, unD, Option.map_some]
            exact ⟨rfl, by simp, q⟩
          · simp only [decide_eq_true_eq, hl, if_false, dIsNot, dIsG, isN, Bool.true_bne, Bool.not_false, if_true, hb, unD, Option.map_some]
            exact ⟨rfl, by simp, q⟩
    | _ => cases hx
/-! ### plain -/
def plainN : Nat → D → D
  | 0, x => x
  | n + 1, x => match seqD x with
    | some xs => .tup (xs.map (plainN n))
    | none => x
def sp_plain (n : Nat) : Pr := fun args μ Q _ => ∃ x, args = [.d x] ∧ okN n x = true ∧ Q (.d (plainN n x)) μ
theorem seqD_fl {x : D} {xs : List D} (h : seqD x = some xs) : isFl x = false := by cases x <;> simp [isFl, seqD] at h ⊢
theorem lc_map {step : D → Mu → (Option D → Mu → Prop) → Prop} (f : D → D) {Q : List D → Mu → Prop} {μ : Mu} : ∀ (xs : List D), (∀ x ∈ xs, ∀ k : Option D → Mu → Prop, k (some (f x)) μ → step x μ k) → Q (xs.map f) μ → lcC (fun _ => True) step xs μ Q
  | [], _, q => ⟨trivial, q⟩
  | x :: xs, h, q => ⟨trivial, h x (List.mem_cons_self ..) _ (lc_map f xs (fun y hy => h y (List.mem_cons_of_mem _ hy)) q)⟩
theorem items_seq {x : D} {xs : List D} (h : seqD x = some xs) (μ : Mu) : ∃ b, itemsOf (.d x) μ = some (b, xs, fun _ => True) := by
  cases x with
  | tup ys => simp only [seqD, Option.some.injEq] at h; subst h; exact ⟨true, rfl⟩
  | lst ys => simp only [seqD, Option.some.injEq] at h; subst h; exact ⟨false, rfl⟩
  | _ => cases h
theorem H_plain (n : Nat) (args : List Va) (μ : Mu) (Q : EQ) (QE : XQ) (h : sp_plain (n + 1) args μ Q QE) : T_plain (sp_plain n) QE { nx := fun _ μ' => Fin μ Q (.d .non) μ', rt := Fin μ Q } (args.map some ++ List.replicate (N_plain.length - args.length) none) μ := by
  obtain ⟨x, rfl, hx, q⟩ := h
  simp only [T_plain, dSeq, dRet, dRetN, dIf, dSkip, dSet, dCa, dCons, dNil, dVar, dC, dOp, dTest, dAnd, dOr, dNot, dAndV, dOrV, dNotV, dIfE, dCall, dChain, dTup, dLst, dSl, dPart, dNoP, dLt, dLe, dGt, dGe, dMinus, dPlus, dDrop, dPar, List.getElem?_cons_zero, List.getElem?_cons_succ, List.length_cons, List.length_nil, List.map_cons, List.map_nil, List.cons_append, List.nil_append, List.append_nil, List.replicate_succ, List.replicate_zero, List.set_cons_zero, List.set_cons_succ]
  refine ⟨by decide, g_lt hx ?_⟩
  dsimp only
  cases hs : seqD x with
  | none =>
    simp only [Option.isSome_none, Bool.false_eq_true, if_false]
    rw [plainN, hs] at q
    exact .now q
  | some xs =>
    simp only [Option.isSome_some, if_true, dLc, dItems, dSeq, dRet, dRetN, dIf, dSkip, dSet, dCa, dCons, dNil, dVar, dC, dOp, dTest, dAnd, dOr, dNot, dAndV, dOrV, dNotV, dIfE, dCall, dChain, dTup, dLst, dSl, dPart, dNoP, dLt, dLe, dGt, dGe, dMinus, dPlus, dDrop, dPar, List.getElem?_cons_zero, List.getElem?_cons_succ, List.length_cons, List.length_nil, List.map_cons, List.map_nil, List.cons_append, List.nil_append, List.append_nil, List.replicate_succ, List.replicate_zero, List.set_cons_zero, List.set_cons_succ]
    obtain ⟨b, hb⟩ := items_seq hs μ
    obtain ⟨hl, ha⟩ := okN_at hx hs
    rw [hb]
    refine ⟨by omega, lc_map (plainN n) xs (fun y hy k hk => ?_) ?_⟩
    · simp only [lcStep, wipeE, dgName, dYes, dSeq, dRet, dRetN, dIf, dSkip, dSet, dCa, dCons, dNil, dVar, dC, dOp, dTest, dAnd, dOr, dNot, dAndV, dOrV, dNotV, dIfE, dCall, dChain, dTup, dLst, dSl, dPart, dNoP, dLt, dLe, dGt, dGe, dMinus, dPlus, dDrop, dPar, List.getElem?_cons_zero, List.getElem?_cons_succ, List.length_cons, List.length_nil, List.map_cons, List.map_nil, List.cons_append, List.nil_append, List.append_nil, List.replicate_succ, List.replicate_zero, List.set_cons_zero, List.set_cons_succ]
      exact ⟨y, rfl, ha y hy, hk⟩
    · rw [plainN, hs] at q
      simp only [gTuple, asR, asL]
      exact .now q

/-! ### formed -/
def shapeL : List (Str × Str) := [("count", "d"), ("number", "n"), ("sum", "ff"), ("times", "nf"), ("floor", "fk"), ("rest", "fk"), ("least", "ff"), ("most", "ff")]
theorem look_map : ∀ (l : List (Str × Str)) (z : Str), (l.map fun p => (p.1, D.str p.2)).lookup z = (l.lookup z).map D.str
  | [], _ => rfl
  | p :: r, z => by
    rw [List.map_cons, List.lookup_cons, List.lookup_cons]
    cases z == p.1 with
    | true => rfl
    | false => exact look_map r z
theorem tb_look (z : Str) : tb_SHAPES.lookup z = (shapeL.lookup z).map D.str := look_map shapeL z
theorem look_mem {z sh : Str} : ∀ {l : List (Str × Str)}, l.lookup z = some sh → (z, sh) ∈ l
  | [], h => by cases h
  | p :: r, h => by
    rw [List.lookup_cons] at h
    cases q : z == p.1 with
    | true =>
      rw [q] at h
      have e : p.2 = sh := Option.some.inj h
      rw [eq_of_beq q, ← e]
      exact List.mem_cons_self ..
    | false =>
      rw [q] at h
      exact List.mem_cons_of_mem _ (look_mem h)
theorem shape_len {z sh : Str} (h : shapeL.lookup z = some sh) : sh.cps.size = 1 ∨ sh.cps.size = 2 := by
  have h2 := look_mem h
  simp only [shapeL, List.mem_cons, List.not_mem_nil, or_false, Prod.mk.injEq] at h2
  rcases h2 with ⟨_, rfl⟩ | ⟨_, rfl⟩ | ⟨_, rfl⟩ | ⟨_, rfl⟩ | ⟨_, rfl⟩ | ⟨_, rfl⟩ | ⟨_, rfl⟩ | ⟨_, rfl⟩ <;> first | exact .inl rfl | exact .inr rfl
def fitI (doors : Int) (sg : Str) : D → Bool
  | .int i => if sg = "d" then decide (0 ≤ i) && decide (i < doors) else decide ((if sg = "k" then 1 else 0) ≤ i)
  | _ => false
def fitsD (rc : D → Bool) (doors : Int) (sg : Str) (x : D) : Bool := if sg = "f" then rc x else fitI doors sg x
def partsD (rc : D → Bool) (doors : Int) (rest : List D) : Option Str → Bool
  | some sh => decide (rest.length = sh.cps.size) && (List.zipWith (fun c y => fitsD rc doors ⟨#[c]⟩ y) sh.cps.toList rest).all id
  | none => false
def formIn (rc : D → Bool) (doors : Int) : Option (List D) → Bool
  | some (.str w :: rest) => partsD rc doors rest (shapeL.lookup w)
  | _ => false
def formedD (doors : Int) : Nat → D → Bool
  | 0, _ => false
  | n + 1, x => formIn (formedD doors n) doors (seqD x)
def sp_formed (n : Nat) : Pr := fun args μ Q _ => ∃ x doors m, args = [.d x, .d (.int doors), .d (.int (n : Int))] ∧ okN m x = true ∧ Q (.d (.bl (formedD doors n x))) μ
def sp_fits (n : Nat) : Pr := fun args μ Q _ => ∃ sg x doors m, args = [.d (.str sg), .d x, .d (.int doors), .d (.int (n : Int))] ∧ okN m x = true ∧ Q (.d (.bl (fitsD (formedD doors n) doors sg x))) μ
theorem H_fits (n : Nat) (args : List Va) (μ : Mu) (Q : EQ) (QE : XQ) (h : sp_fits n args μ Q QE) : T_fits sp_is_integer (sp_formed n) QE { nx := fun _ μ' => Fin μ Q (.d .non) μ', rt := Fin μ Q } (args.map some ++ List.replicate (N_fits.length - args.length) none) μ := by
  obtain ⟨sg, x, doors, m, rfl, hx, q⟩ := h
  simp only [T_fits, dEq, dEqG, Bool.false_bne, dSeq, dRet, dRetN, dIf, dSkip, dSet, dCa, dCons, dNil, dVar, dC, dOp, dTest, dAnd, dOr, dNot, dAndV, dOrV, dNotV, dIfE, dCall, dChain, dTup, dLst, dSl, dPart, dNoP, dLt, dLe, dGt, dGe, dMinus, dPlus, dDrop, dPar, List.getElem?_cons_zero, List.getElem?_cons_succ, List.length_cons, List.length_nil, List.map_cons, List.map_nil, List.cons_append, List.nil_append, List.append_nil, List.replicate_succ, List.replicate_zero, List.set_cons_zero, List.set_cons_succ]
  by_cases h1 : sg = "f"
  · simp only [h1, decide_true, if_true]
    refine ⟨x, doors, m, rfl, hx, .now ?_⟩
    unfold fitsD at q
    rw [if_pos h1] at q
    exact q
  · unfold fitsD at q
    rw [if_neg h1] at q
    simp only [h1, decide_false, Bool.false_eq_true, if_false]
    obtain ⟨t, ht⟩ := okN_ty hx
    refine ⟨x, t, rfl, ht, ?_⟩
    dsimp only
    cases x with
    | int i =>
      simp only [isI, Bool.not_true, Bool.false_eq_true, if_false]
      unfold fitI at q
      dsimp only at q
      by_cases h2 : sg = "d"
      · rw [if_pos h2] at q
        simp only [h2, decide_true, if_true]
        by_cases h3 : (0 : Int) ≤ i
        · simp only [h3, decide_true, if_true]
          simp only [h3, decide_true, Bool.true_and] at q
          exact .now q
        · simp only [h3, decide_false, Bool.false_eq_true, if_false]
          simp only [h3, decide_false, Bool.false_and] at q
          exact .now q
      · rw [if_neg h2] at q
        simp only [h2, decide_false, Bool.false_eq_true, if_false, gInt, decide_eq_true_eq]
        exact .now q
    | _ =>
      simp only [isI, Bool.not_false, if_true]
      exact .now q
theorem lc_mapC {C : Mu → Prop} {step : D → Mu → (Option D → Mu → Prop) → Prop} (f : D → D) {Q : List D → Mu → Prop} {μ : Mu} (hC : C μ) : ∀ (xs : List D), (∀ x ∈ xs, ∀ k : Option D → Mu → Prop, k (some (f x)) μ → step x μ k) → Q (xs.map f) μ → lcC C step xs μ Q
  | [], _, q => ⟨hC, q⟩
  | x :: xs, h, q => ⟨hC, h x (List.mem_cons_self ..) _ (lc_mapC f hC xs (fun y hy => h y (List.mem_cons_of_mem _ hy)) q)⟩
def onPair (g : Str → D → Bool) : D → D
  | .tup [.str s, y] => .bl (g s y)
  | _ => .non
theorem map_zip (g : Str → D → Bool) : ∀ (cs : List Nat) (rest : List D), (zipD (cs.map fun c => D.str ⟨#[c]⟩) rest).map (onPair g) = (List.zipWith (fun c y => g ⟨#[c]⟩ y) cs rest).map D.bl
  | [], _ => rfl
  | c :: cs, [] => rfl
  | c :: cs, y :: rest => by
    have ih := map_zip g cs rest
    unfold zipD at ih ⊢
    rw [List.map_cons, List.zipWith_cons_cons, List.zipWith_cons_cons, List.map_cons, List.map_cons, ih]
    rfl
theorem zip_mem {x : D} : ∀ {cs : List Nat} {rest : List D}, x ∈ zipD (cs.map fun c => D.str ⟨#[c]⟩) rest → ∃ c y, x = .tup [.str ⟨#[c]⟩, y] ∧ y ∈ rest
  | [], _, h => by simp [zipD] at h
  | c :: cs, [], h => by simp [zipD] at h
  | c :: cs, y :: rest, h => by
    unfold zipD at h
    rw [List.map_cons, List.zipWith_cons_cons] at h
    rcases List.mem_cons.mp h with e | e
    · exact ⟨c, y, e, List.mem_cons_self ..⟩
    · obtain ⟨c', y', e1, e2⟩ := zip_mem (cs := cs) (rest := rest) e
      exact ⟨c', y', e1, List.mem_cons_of_mem _ e2⟩
theorem asV_seq {x : D} {xs : List D} (h : seqD x = some xs) (μ : Mu) : asV μ (.d x) = some (xs.map .d) := by
  cases x with
  | tup ys => simp only [seqD, Option.some.injEq] at h; subst h; rfl
  | lst ys => simp only [seqD, Option.some.injEq] at h; subst h; rfl
  | _ => cases h
theorem len_seq {x : D} {xs : List D} (h : seqD x = some xs) {μ : Mu} {Q : EQ} (q : Q (.d (.int xs.length)) μ) : gLen [.d x] μ Q := by
  cases x with
  | tup ys => simp only [seqD, Option.some.injEq] at h; subst h; simpa [gLen, asV] using q
  | lst ys => simp only [seqD, Option.some.injEq] at h; subst h; simpa [gLen, asV] using q
  | _ => cases h
theorem sl_seq {x : D} {xs : List D} (h : seqD x = some xs) {lo hi : Option Int} {μ : Mu} {Q : EQ} (q : ∀ y, seqD y = some (DL.cutD xs lo hi) → (isT x = true → y = .tup (DL.cutD xs lo hi)) → (isT x = false → y = .lst (DL.cutD xs lo hi)) → Q (.d y) μ) : gSl (.d x) lo hi μ Q := by
  cases x with
  | tup ys => simp only [seqD, Option.some.injEq] at h; subst h; exact q _ rfl (fun _ => rfl) (fun z => nomatch z)
  | lst ys => simp only [seqD, Option.some.injEq] at h; subst h; exact q _ rfl (fun z => nomatch z) (fun _ => rfl)
  | _ => cases h
theorem cut1 (x : D) (xs : List D) : DL.cutD (x :: xs) (some 1) none = xs := by
  unfold DL.cutD HT.sIx
  simp
theorem atI0 {α : Type} (x : α) (xs : List α) : atI (x :: xs) 0 = some x := by
  unfold atI ixN
  simp
theorem ix0 {x y : D} {xs : List D} (h : seqD x = some (y :: xs)) {μ : Mu} {Q : EQ} (q : Q (.d y) μ) : dIx (.d x) (.d (.int 0)) μ Q := by
  simp only [dIx, asV_seq h, List.map_cons, atI0]
  exact q
theorem H_formed0 {K : PySem.W.Frag} {p : Pr} (args : List Va) (μ : Mu) (Q : EQ) (QE : XQ) (h : sp_formed 0 args μ Q QE) : T_is_formed K p QE { nx := fun _ μ' => Fin μ Q (.d .non) μ', rt := Fin μ Q } (args.map some ++ List.replicate (N_is_formed.length - args.length) none) μ := by
  obtain ⟨x, doors, m, rfl, hx, q⟩ := h
  simp only [T_is_formed, dEq, dEqG, Bool.false_bne, dSeq, dRet, dRetN, dIf, dSkip, dSet, dCa, dCons, dNil, dVar, dC, dOp, dTest, dAnd, dOr, dNot, dAndV, dOrV, dNotV, dIfE, dCall, dChain, dTup, dLst, dSl, dPart, dNoP, dLt, dLe, dGt, dGe, dMinus, dPlus, dDrop, dPar, List.getElem?_cons_zero, List.getElem?_cons_succ, List.length_cons, List.length_nil, List.map_cons, List.map_nil, List.cons_append, List.nil_append, List.append_nil, List.replicate_succ, List.replicate_zero, List.set_cons_zero, List.set_cons_succ]
  simp only [Int.natCast_zero, decide_true, if_true]
  exact .now q
theorem H_formed {K : PySem.W.Frag} (n : Nat) (args : List Va) (μ : Mu) (Q : EQ) (QE : XQ) (h : sp_formed (n + 1) args μ Q QE) : T_is_formed K (sp_fits n) QE { nx := fun _ μ' => Fin μ Q (.d .non) μ', rt := Fin μ Q } (args.map some ++ List.replicate (N_is_formed.length - args.length) none) μ := by
  obtain ⟨x, doors, m, rfl, hx, q⟩ := h
  have hn : ¬ ((n + 1 : Nat) : Int) = 0 := by omega
  simp only [T_is_formed, dEq, dNe, dEqG, Bool.false_bne, Bool.true_bne, dSeq, dRet, dRetN, dIf, dSkip, dSet, dCa, dCons, dNil, dVar, dC, dOp, dTest, dAnd, dOr, dNot, dAndV, dOrV, dNotV, dIfE, dCall, dChain, dTup, dLst, dSl, dPart, dNoP, dLt, dLe, dGt, dGe, dMinus, dPlus, dDrop, dPar, List.getElem?_cons_zero, List.getElem?_cons_succ, List.length_cons, List.length_nil, List.map_cons, List.map_nil, List.cons_append, List.nil_append, List.append_nil, List.replicate_succ, List.replicate_zero, List.set_cons_zero, List.set_cons_succ]
  simp only [hn, decide_false, Bool.false_eq_true, if_false]
  refine ⟨by decide, g_lt hx ?_⟩
  dsimp only
  rw [show formedD doors (n + 1) x = formIn (formedD doors n) doors (seqD x) from rfl] at q
  cases hs : seqD x with
  | none =>
    rw [hs] at q
    simp only [Option.isSome_none, Bool.not_false, if_true]
    exact .now q
  | some xs =>
    rw [hs] at q
    simp only [Option.isSome_some, Bool.not_true, Bool.false_eq_true, if_false]
    refine len_seq hs ?_
    dsimp only
    obtain ⟨hl, ha⟩ := okN_at hx hs
    cases xs with
    | nil =>
      simp only [List.length_nil, Int.natCast_zero, decide_true, if_true]
      exact .now q
    | cons y rest =>
      have hz : ¬ (((y :: rest).length : Nat) : Int) = 0 := by simp; omega
      simp only [hz, decide_false, Bool.false_eq_true, if_false]
      refine ix0 hs ?_
      obtain ⟨t, ht⟩ := okN_ty (ha y (List.mem_cons_self ..))
      refine g_str ht ?_
      dsimp only
      cases y with
      | str w =>
        simp only [isS, Bool.not_true, Bool.false_eq_true, if_false]
        refine ix0 hs ?_
        simp only [dInT, tb_look, Bool.true_bne]
        rw [show formIn (formedD doors n) doors (some (.str w :: rest)) = partsD (formedD doors n) doors rest (shapeL.lookup w) from rfl] at q
        cases hw : shapeL.lookup w with
        | none =>
          rw [hw] at q
          simp only [Option.map_none, Option.isSome_none, Bool.not_false, if_true]
          exact ⟨trivial, .now q⟩
        | some sh =>
          rw [hw] at q
          simp only [Option.map_some, Option.isSome_some, Bool.not_true, Bool.false_eq_true, if_false, true_and]
          refine ix0 hs ?_
          simp only [dIxT, tb_look, hw, Option.map_some, true_and]
          refine len_seq hs ?_
          have hsl := shape_len hw
          simp only [gLen, dSeq, dRet, dRetN, dIf, dSkip, dSet, dCa, dCons, dNil, dVar, dC, dOp, dTest, dAnd, dOr, dNot, dAndV, dOrV, dNotV, dIfE, dCall, dChain, dTup, dLst, dSl, dPart, dNoP, dLt, dLe, dGt, dGe, dMinus, dPlus, dDrop, dPar, List.getElem?_cons_zero, List.getElem?_cons_succ, List.length_cons, List.length_nil, List.map_cons, List.map_nil, List.cons_append, List.nil_append, List.append_nil, List.replicate_succ, List.replicate_zero, List.set_cons_zero, List.set_cons_succ]
          unfold partsD at q
          have hlen : sh.length = sh.cps.size := rfl
          refine ⟨by omega, ?_⟩
          rw [hlen]
          simp only [List.length_cons] at hl
          by_cases he : rest.length = sh.cps.size
          · have e1 : (((rest.length + 1 : Nat) : Int) = (sh.cps.size : Int) + 1) := by omega
            simp only [e1, decide_true, Bool.not_true, Bool.false_eq_true, if_false]
            simp only [he, decide_true, Bool.true_and] at q
            simp only [dLc, dZip, dSeq, dRet, dRetN, dIf, dSkip, dSet, dCa, dCons, dNil, dVar, dC, dOp, dTest, dAnd, dOr, dNot, dAndV, dOrV, dNotV, dIfE, dCall, dChain, dTup, dLst, dSl, dPart, dNoP, dLt, dLe, dGt, dGe, dMinus, dPlus, dDrop, dPar, List.getElem?_cons_zero, List.getElem?_cons_succ, List.length_cons, List.length_nil, List.map_cons, List.map_nil, List.cons_append, List.nil_append, List.append_nil, List.replicate_succ, List.replicate_zero, List.set_cons_zero, List.set_cons_succ]
            refine sl_seq hs fun ys hy _ _ => ?_
            rw [cut1] at hy
            obtain ⟨b, hb⟩ := items_seq hy μ
            have hzi : zItems (.d ys) μ = some (rest, fun _ : Mu => True) := by
              unfold zItems
              cases ys with
              | str s => cases hy
              | _ => first | (rw [hb]; rfl) | cases hy
            have hzi2 : zItems (.d (.str sh)) μ = some (DL.signs sh, fun _ : Mu => True) := rfl
            have goal : ∀ Qg : EQ, Qg (.d (.lst ((List.zipWith (fun c y => fitsD (formedD doors n) doors ⟨#[c]⟩ y) sh.cps.toList rest).map D.bl))) μ →
                ((zipD (DL.signs sh) rest).length ≤ 16777216 ∧ lcC (fun _ : Mu => True ∧ True) (lcStep (wipeE [some (.d x), some (.d (.int doors)), some (.d (.int ((n + 1 : Nat) : Int))), some (.d (.str sh)), none, none] [4, 5]) (dgTup 2 (dgCons (dgName 4) (dgCons (dgName 5) dgNil))) dYes (dCall (sp_fits n) [] noX (dCons (dVar 4) (dCons (dVar 5) (dCons (dVar 1) (dCons (dOp dMinus (dVar 2) (dC (.int 1))) dNil)))))) (zipD (DL.signs sh) rest) μ fun ys μ2 => Qg (.d (.lst ys)) μ2) := by
              intro Qg hq
              refine ⟨?_, lc_mapC (onPair (fitsD (formedD doors n) doors)) ⟨trivial, trivial⟩ _ (fun p hp k hk => ?_) ?_⟩
              · have : (zipD (DL.signs sh) rest).length ≤ rest.length := by simp only [zipD, List.length_zipWith]; omega
                omega
              · obtain ⟨c, y, rfl, hy⟩ := zip_mem hp
                simp only [lcStep, wipeE, dgTup, dgCons, dgName, dgNil, dYes, dSeq, dRet, dRetN, dIf, dSkip, dSet, dCa, dCons, dNil, dVar, dC, dOp, dTest, dAnd, dOr, dNot, dAndV, dOrV, dNotV, dIfE, dCall, dChain, dTup, dLst, dSl, dPart, dNoP, dLt, dLe, dGt, dGe, dMinus, dPlus, dDrop, dPar, List.getElem?_cons_zero, List.getElem?_cons_succ, List.length_cons, List.length_nil, List.map_cons, List.map_nil, List.cons_append, List.nil_append, List.append_nil, List.replicate_succ, List.replicate_zero, List.set_cons_zero, List.set_cons_succ]
                refine ⟨trivial, _, y, doors, m - 1, ?_, ha y (List.mem_cons_of_mem _ hy), hk⟩
                have e2 : ((n + 1 : Nat) : Int) - 1 = (n : Int) := by omega
                rw [e2]
              · unfold DL.signs
                rw [map_zip]
                exact hq
            have fin := goal (fun v μ1 => gAll [v] μ1 (Fin μ Q)) (by
              simp only [gAll, asR, asL, Option.bind_some]
              have z := bools_map (fun b : Bool => b) (List.zipWith (fun c y => fitsD (formedD doors n) doors ⟨#[c]⟩ y) sh.cps.toList rest)
              rw [List.map_id'] at z
              rw [show (fun x : Bool => D.bl x) = D.bl from rfl] at z
              rw [z]
              exact .now q)
            rw [hzi2, hzi]
            exact fin
          · have e1 : ¬ (((rest.length + 1 : Nat) : Int) = (sh.cps.size : Int) + 1) := by omega
            simp only [e1, decide_false, Bool.not_false, if_true]
            simp only [he, decide_false, Bool.false_and] at q
            exact .now q
      | _ =>
        simp only [isS, Bool.not_false, if_true]
        exact .now q

/-! ### formulas -/
inductive Fm where
  | cnt (l : Bool) (i : Int) | num (l : Bool) (n : Int)
  | two (w : Nat) (l : Bool) (a b : Fm)
  | tim (l : Bool) (n : Int) (a : Fm)
  | dv (r : Bool) (l : Bool) (a : Fm) (k : Int)
def con (l : Bool) (xs : List D) : D := if l = true then .lst xs else .tup xs
def wd2 : Nat → Str
  | 0 => "sum"
  | 1 => "least"
  | _ => "most"
def wdd (r : Bool) : Str := if r = true then "rest" else "floor"
def toD : Fm → D
  | .cnt l i => con l [.str "count", .int i]
  | .num l n => con l [.str "number", .int n]
  | .two w l a b => con l [.str (wd2 w), toD a, toD b]
  | .tim l n a => con l [.str "times", .int n, toD a]
  | .dv r l a k => con l [.str (wdd r), toD a, .int k]
def tupm : Fm → Fm
  | .cnt _ i => .cnt false i
  | .num _ n => .num false n
  | .two w _ a b => .two w false (tupm a) (tupm b)
  | .tim _ n a => .tim false n (tupm a)
  | .dv r _ a k => .dv r false (tupm a) k
def sz : Fm → Nat
  | .cnt _ _ => 1
  | .num _ _ => 1
  | .two _ _ a b => sz a + sz b + 1
  | .tim _ _ a => sz a + 1
  | .dv _ _ a _ => sz a + 1
def ev (cs : List Int) : Fm → Int
  | .cnt _ i => cs.getD i.toNat 0
  | .num _ n => n
  | .two w _ a b => match w with
    | 0 => ev cs a + ev cs b
    | 1 => min (ev cs a) (ev cs b)
    | _ => max (ev cs a) (ev cs b)
  | .tim _ n a => n * ev cs a
  | .dv r _ a k => if r = true then ev cs a % k else ev cs a / k
/-- right, of that depth at most, numbers of 200 bits at most -/
def gd (doors : Int) : Nat → Fm → Prop
  | 0, _ => False
  | _ + 1, .cnt _ i => 0 ≤ i ∧ i < doors
  | _ + 1, .num _ n => 0 ≤ n ∧ n < 2 ^ 200
  | n + 1, .two _ _ a b => gd doors n a ∧ gd doors n b
  | n + 1, .tim _ k a => (0 ≤ k ∧ k < 2 ^ 200) ∧ gd doors n a
  | n + 1, .dv _ _ a k => (1 ≤ k ∧ k < 2 ^ 200) ∧ gd doors n a
theorem gd_succ {doors : Int} : ∀ {n : Nat} {m : Fm}, gd doors n m → gd doors (n + 1) m
  | 0, _, h => h.elim
  | n + 1, .cnt _ _, h => h
  | n + 1, .num _ _, h => h
  | n + 1, .two _ _ a b, h => ⟨gd_succ h.1, gd_succ h.2⟩
  | n + 1, .tim _ _ a, h => ⟨h.1, gd_succ h.2⟩
  | n + 1, .dv _ _ a _, h => ⟨h.1, gd_succ h.2⟩
theorem gd_le {doors : Int} {n k : Nat} {m : Fm} (h : gd doors n m) (l : n ≤ k) : gd doors k m := by
  induction l with
  | refl => exact h
  | step _ ih => exact gd_succ ih
theorem gd_tup {doors : Int} : ∀ {n : Nat} {m : Fm}, gd doors n m → gd doors n (tupm m)
  | 0, _, h => h.elim
  | n + 1, .cnt _ _, h => h
  | n + 1, .num _ _, h => h
  | n + 1, .two _ _ a b, h => ⟨gd_tup h.1, gd_tup h.2⟩
  | n + 1, .tim _ _ a, h => ⟨h.1, gd_tup h.2⟩
  | n + 1, .dv _ _ a _, h => ⟨h.1, gd_tup h.2⟩
theorem seq_con (l : Bool) (xs : List D) : seqD (con l xs) = some xs := by cases l <;> rfl
theorem ok_con {n : Nat} {l : Bool} {xs : List D} (h1 : xs.length ≤ 1000) (h : ∀ x ∈ xs, okN n x = true) : okN (n + 1) (con l xs) = true := by
  rw [okN, seq_con]
  have h2 : xs.all (okN n) = true := List.all_eq_true.mpr h
  simp only [h2, h1, decide_true, Bool.and_self, Bool.or_true]
theorem ok_fl {n : Nat} {x : D} (h : isFl x = true) : okN n x = true := by cases n <;> rw [okN, h] <;> rfl
theorem ok_toD {doors : Int} : ∀ {n : Nat} {m : Fm}, gd doors n m → okN n (toD m) = true
  | 0, _, h => h.elim
  | n + 1, .cnt l i, _ => ok_con (by simp) (by
    intro x hx
    simp only [List.mem_cons, List.not_mem_nil, or_false] at hx
    rcases hx with rfl | rfl <;> exact ok_fl rfl)
  | n + 1, .num l i, _ => ok_con (by simp) (by
    intro x hx
    simp only [List.mem_cons, List.not_mem_nil, or_false] at hx
    rcases hx with rfl | rfl <;> exact ok_fl rfl)
  | n + 1, .two w l a b, h => ok_con (by simp) (by
    intro x hx
    simp only [List.mem_cons, List.not_mem_nil, or_false] at hx
    rcases hx with rfl | rfl | rfl
    · exact ok_fl rfl
    · exact ok_toD h.1
    · exact ok_toD h.2)
  | n + 1, .tim l k a, h => ok_con (by simp) (by
    intro x hx
    simp only [List.mem_cons, List.not_mem_nil, or_false] at hx
    rcases hx with rfl | rfl | rfl
    · exact ok_fl rfl
    · exact ok_fl rfl
    · exact ok_toD h.2)
  | n + 1, .dv r l a k, h => ok_con (by simp) (by
    intro x hx
    simp only [List.mem_cons, List.not_mem_nil, or_false] at hx
    rcases hx with rfl | rfl | rfl
    · exact ok_fl rfl
    · exact ok_toD h.2
    · exact ok_fl rfl)
theorem look_two (w : Nat) : shapeL.lookup (wd2 w) = some "ff" := by
  match w with
  | 0 => rfl
  | 1 => rfl
  | n + 2 => rfl
theorem look_dv (r : Bool) : shapeL.lookup (wdd r) = some "fk" := by cases r <;> rfl
theorem formed_con {doors : Int} {n : Nat} {l : Bool} {w sh : Str} {rest : List D} (h : shapeL.lookup w = some sh) : formedD doors (n + 1) (con l (.str w :: rest)) = partsD (formedD doors n) doors rest (some sh) := by
  rw [show formedD doors (n + 1) (con l (.str w :: rest)) = formIn (formedD doors n) doors (seqD (con l (.str w :: rest))) from rfl, seq_con, ← h]
  rfl
theorem parts_ff {rc : D → Bool} {doors : Int} {a b : D} : partsD rc doors [a, b] (some "ff") = (rc a && rc b) := by
  show (decide (2 = 2) && (fitsD rc doors "f" a && (fitsD rc doors "f" b && true))) = _
  simp [fitsD]
theorem parts_nf {rc : D → Bool} {doors : Int} {a b : D} : partsD rc doors [a, b] (some "nf") = (fitI doors "n" a && rc b) := by
  show (decide (2 = 2) && (fitsD rc doors "n" a && (fitsD rc doors "f" b && true))) = _
  have e : fitsD rc doors "n" a = fitI doors "n" a := if_neg (by decide)
  rw [e]
  simp [fitsD]
theorem parts_fk {rc : D → Bool} {doors : Int} {a b : D} : partsD rc doors [a, b] (some "fk") = (rc a && fitI doors "k" b) := by
  show (decide (2 = 2) && (fitsD rc doors "f" a && (fitsD rc doors "k" b && true))) = _
  have e : fitsD rc doors "k" b = fitI doors "k" b := if_neg (by decide)
  rw [e]
  simp [fitsD]
theorem parts_d {rc : D → Bool} {doors : Int} {a : D} : partsD rc doors [a] (some "d") = fitI doors "d" a := by
  show (decide (1 = 1) && (fitsD rc doors "d" a && true)) = _
  have e : fitsD rc doors "d" a = fitI doors "d" a := if_neg (by decide)
  rw [e]
  simp
theorem parts_n {rc : D → Bool} {doors : Int} {a : D} : partsD rc doors [a] (some "n") = fitI doors "n" a := by
  show (decide (1 = 1) && (fitsD rc doors "n" a && true)) = _
  have e : fitsD rc doors "n" a = fitI doors "n" a := if_neg (by decide)
  rw [e]
  simp
theorem fitI_d {doors i : Int} : fitI doors "d" (.int i) = (decide (0 ≤ i) && decide (i < doors)) := by
  show (if ("d" : Str) = "d" then decide (0 ≤ i) && decide (i < doors) else decide ((if ("d" : Str) = "k" then 1 else 0) ≤ i)) = _
  rw [if_pos rfl]
theorem fitI_n {doors i : Int} : fitI doors "n" (.int i) = decide (0 ≤ i) := by
  show (if ("n" : Str) = "d" then decide (0 ≤ i) && decide (i < doors) else decide ((if ("n" : Str) = "k" then 1 else 0) ≤ i)) = _
  rw [if_neg (by decide), if_neg (by decide)]
theorem fitI_k {doors i : Int} : fitI doors "k" (.int i) = decide (1 ≤ i) := by
  show (if ("k" : Str) = "d" then decide (0 ≤ i) && decide (i < doors) else decide ((if ("k" : Str) = "k" then 1 else 0) ≤ i)) = _
  rw [if_neg (by decide), if_pos rfl]
theorem look_cnt : shapeL.lookup ("count" : Str) = some "d" := rfl
theorem look_num : shapeL.lookup ("number" : Str) = some "n" := rfl
theorem look_tim : shapeL.lookup ("times" : Str) = some "nf" := rfl
theorem formed_gd {doors : Int} : ∀ {n : Nat} {m : Fm}, gd doors n m → formedD doors n (toD m) = true
  | 0, _, h => h.elim
  | n + 1, .cnt l i, h => by
    rw [toD, formed_con look_cnt, parts_d, fitI_d]
    simp only [h.1, h.2, decide_true, Bool.and_self]
  | n + 1, .num l i, h => by
    rw [toD, formed_con look_num, parts_n, fitI_n]
    simp only [h.1, decide_true]
  | n + 1, .two w l a b, h => by
    rw [toD, formed_con (look_two w), parts_ff, formed_gd h.1, formed_gd h.2]
    rfl
  | n + 1, .tim l k a, h => by
    rw [toD, formed_con look_tim, parts_nf, fitI_n, formed_gd h.2]
    simp only [h.1.1, decide_true, Bool.and_self]
  | n + 1, .dv r l a k, h => by
    rw [toD, formed_con (look_dv r), parts_fk, fitI_k, formed_gd h.2]
    simp only [h.1.1, decide_true, Bool.and_self]
theorem plain_fl {n : Nat} {x : D} (h : isFl x = true) : plainN n x = x := by
  cases n with
  | zero => rfl
  | succ n =>
    rw [plainN]
    cases x <;> first | rfl | cases h
theorem plain_con {n : Nat} {l : Bool} {xs : List D} : plainN (n + 1) (con l xs) = .tup (xs.map (plainN n)) := by
  rw [plainN, seq_con]
theorem plain_gd {doors : Int} : ∀ {n : Nat} {m : Fm}, gd doors n m → plainN n (toD m) = toD (tupm m)
  | 0, _, h => h.elim
  | n + 1, .cnt l i, h => by
    rw [toD, plain_con, List.map_cons, List.map_cons, List.map_nil, plain_fl rfl, plain_fl rfl]
    rfl
  | n + 1, .num l i, h => by
    rw [toD, plain_con, List.map_cons, List.map_cons, List.map_nil, plain_fl rfl, plain_fl rfl]
    rfl
  | n + 1, .two w l a b, h => by
    rw [toD, plain_con, List.map_cons, List.map_cons, List.map_cons, List.map_nil, plain_fl rfl, plain_gd h.1, plain_gd h.2]
    rfl
  | n + 1, .tim l k a, h => by
    rw [toD, plain_con, List.map_cons, List.map_cons, List.map_cons, List.map_nil, plain_fl rfl, plain_fl rfl, plain_gd h.2]
    rfl
  | n + 1, .dv r l a k, h => by
    rw [toD, plain_con, List.map_cons, List.map_cons, List.map_cons, List.map_nil, plain_fl rfl, plain_gd h.2, plain_fl rfl]
    rfl
theorem sz_le {doors : Int} : ∀ {n : Nat} {m : Fm}, gd doors n m → sz m + 1 ≤ 2 ^ n
  | 0, _, h => h.elim
  | n + 1, .cnt l i, h => by
    have := Nat.one_le_two_pow (n := n)
    rw [sz, Nat.pow_succ]
    omega
  | n + 1, .num l i, h => by
    have := Nat.one_le_two_pow (n := n)
    rw [sz, Nat.pow_succ]
    omega
  | n + 1, .two w l a b, h => by
    have h1 := sz_le h.1
    have h2 := sz_le h.2
    rw [sz, Nat.pow_succ]
    omega
  | n + 1, .tim l k a, h => by
    have h1 := sz_le h.2
    have := Nat.one_le_two_pow (n := n)
    rw [sz, Nat.pow_succ]
    omega
  | n + 1, .dv r l a k, h => by
    have h1 := sz_le h.2
    have := Nat.one_le_two_pow (n := n)
    rw [sz, Nat.pow_succ]
    omega
theorem two_le {n k : Nat} (h : n ≤ k) : (2 : Nat) ^ n ≤ 2 ^ k := Nat.pow_le_pow_right (by decide) h
/-! ### made_of -/
def sp_made (n : Nat) : Pr := fun args μ Q _ => ∃ m doors, args = [.d (toD (tupm m))] ∧ gd doors n m ∧ n ≤ 20 ∧ ∀ xs : List D, xs.length = sz m → Q (.d (.lst xs)) μ
theorem t_int {i : Int} {μ : Mu} {Q : EQ} (q : Q (.d (.bl false)) μ) : gIsi [.d (.int i), .d (.raw (.ty "tuple"))] μ Q := g_tuple (t := "int") rfl q
theorem tup_toD (m : Fm) : ∃ xs, toD (tupm m) = .tup xs := by
  cases m <;> exact ⟨_, rfl⟩
theorem t_tup {m : Fm} {μ : Mu} {Q : EQ} (q : Q (.d (.bl true)) μ) : gIsi [.d (toD (tupm m)), .d (.raw (.ty "tuple"))] μ Q := by
  obtain ⟨xs, e⟩ := tup_toD m
  rw [e]
  exact g_tuple (t := "tuple") rfl q
theorem made_end {f : D} {zs : List D} {o : Option Va} {μ : Mu} {R : EQ} (hl : zs.length + 1 ≤ 16777216) (q : R (.d (.lst (zs ++ [f]))) μ) : dStar (dVar 1) (dCons (dVar 0) dNil) [some (.d f), some (.d (.lst zs)), o] μ (fun vs μ1 => match unD vs with
    | some xs => xs.length ≤ 16777216 ∧ R (.d (.lst xs)) μ1
    | none => False) := by
  show (match unD (zs.map Va.d ++ [Va.d f]) with
    | some xs => xs.length ≤ 16777216 ∧ R (.d (.lst xs)) μ
    | none => False)
  rw [show zs.map Va.d ++ [Va.d f] = (zs ++ [f]).map Va.d from by simp, unD_map]
  exact ⟨by rw [List.length_append, List.length_singleton]; exact hl, q⟩
theorem H_made0 {p : Pr} (args : List Va) (μ : Mu) (Q : EQ) (QE : XQ) (h : sp_made 0 args μ Q QE) : T_made_of p QE { nx := fun _ μ' => Fin μ Q (.d .non) μ', rt := Fin μ Q } (args.map some ++ List.replicate (N_made_of.length - args.length) none) μ := by
  obtain ⟨m, d, _, h, _⟩ := h
  exact h.elim
theorem H_made (n : Nat) (args : List Va) (μ : Mu) (Q : EQ) (QE : XQ) (h : sp_made (n + 1) args μ Q QE) : T_made_of (sp_made n) QE { nx := fun _ μ' => Fin μ Q (.d .non) μ', rt := Fin μ Q } (args.map some ++ List.replicate (N_made_of.length - args.length) none) μ := by
  obtain ⟨m, doors, rfl, hg, hn, q⟩ := h
  have h20 := two_le (n := n + 1) (k := 20) hn
  have hs := sz_le hg
  have e20 : (2 : Nat) ^ 20 = 1048576 := by decide
  have line := line24
  have ends : ∀ (f : D) (ys : List D), ys.length + 1 = sz m → Fin μ Q (.d (.lst (ys ++ [f]))) μ := fun f ys hl => .now (q _ (by rw [List.length_append, List.length_singleton]; exact hl))
  cases m with
  | cnt l i =>
    simp only [T_made_of, tupm, toD, con, Bool.false_eq_true, if_false, dFor, dItems, unD, Option.map_some, gSl, cut1, itemsOf, forC, dgName, dSeq, dRet, dRetN, dIf, dSkip, dSet, dCa, dCons, dNil, dVar, dC, dOp, dTest, dAnd, dOr, dNot, dAndV, dOrV, dNotV, dIfE, dCall, dChain, dTup, dLst, dSl, dPart, dNoP, dLt, dLe, dGt, dGe, dMinus, dPlus, dDrop, dPar, List.getElem?_cons_zero, List.getElem?_cons_succ, List.length_cons, List.length_nil, List.map_cons, List.map_nil, List.cons_append, List.nil_append, List.append_nil, List.replicate_succ, List.replicate_zero, List.set_cons_zero, List.set_cons_succ]
    refine ⟨by omega, trivial, t_int ?_⟩
    simp only [Bool.false_eq_true, if_false]
    exact ⟨trivial, made_end (by simp) (ends _ [] rfl)⟩
  | num l i =>
    simp only [T_made_of, tupm, toD, con, Bool.false_eq_true, if_false, dFor, dItems, unD, Option.map_some, gSl, cut1, itemsOf, forC, dgName, dSeq, dRet, dRetN, dIf, dSkip, dSet, dCa, dCons, dNil, dVar, dC, dOp, dTest, dAnd, dOr, dNot, dAndV, dOrV, dNotV, dIfE, dCall, dChain, dTup, dLst, dSl, dPart, dNoP, dLt, dLe, dGt, dGe, dMinus, dPlus, dDrop, dPar, List.getElem?_cons_zero, List.getElem?_cons_succ, List.length_cons, List.length_nil, List.map_cons, List.map_nil, List.cons_append, List.nil_append, List.append_nil, List.replicate_succ, List.replicate_zero, List.set_cons_zero, List.set_cons_succ]
    refine ⟨by omega, trivial, t_int ?_⟩
    simp only [Bool.false_eq_true, if_false]
    exact ⟨trivial, made_end (by simp) (ends _ [] rfl)⟩
  | two w l a b =>
    simp only [T_made_of, tupm, con, Bool.false_eq_true, if_false, dFor, dItems, unD, Option.map_some, dSeq, dRet, dRetN, dIf, dSkip, dSet, dCa, dCons, dNil, dVar, dC, dOp, dTest, dAnd, dOr, dNot, dAndV, dOrV, dNotV, dIfE, dCall, dChain, dTup, dLst, dSl, dPart, dNoP, dLt, dLe, dGt, dGe, dMinus, dPlus, dDrop, dPar, List.getElem?_cons_zero, List.getElem?_cons_succ, List.length_cons, List.length_nil, List.map_cons, List.map_nil, List.cons_append, List.nil_append, List.append_nil, List.replicate_succ, List.replicate_zero, List.set_cons_zero, List.set_cons_succ]
    rw [show toD (.two w false (tupm a) (tupm b)) = .tup [.str (wd2 w), toD (tupm a), toD (tupm b)] from rfl]
    simp only [gSl, cut1, itemsOf, forC, dgName, dSeq, dRet, dRetN, dIf, dSkip, dSet, dCa, dCons, dNil, dVar, dC, dOp, dTest, dAnd, dOr, dNot, dAndV, dOrV, dNotV, dIfE, dCall, dChain, dTup, dLst, dSl, dPart, dNoP, dLt, dLe, dGt, dGe, dMinus, dPlus, dDrop, dPar, List.getElem?_cons_zero, List.getElem?_cons_succ, List.length_cons, List.length_nil, List.map_cons, List.map_nil, List.cons_append, List.nil_append, List.append_nil, List.replicate_succ, List.replicate_zero, List.set_cons_zero, List.set_cons_succ]
    refine ⟨by omega, trivial, t_tup ?_⟩
    simp only [if_true]
    have ha := sz_le hg.1
    have hb := sz_le hg.2
    rw [sz] at hs
    refine ⟨a, doors, rfl, hg.1, by omega, fun xs hx => ?_⟩
    simp only [asL]
    refine ⟨by simp only [List.length_nil]; omega, trivial, t_tup ?_⟩
    simp only [if_true]
    refine ⟨b, doors, rfl, hg.2, by omega, fun ys hy => ?_⟩
    simp only [asL]
    refine ⟨by simp only [List.length_append, List.length_nil]; omega, trivial, made_end (by simp only [List.length_append, List.length_nil]; omega) (ends _ _ (by simp only [List.length_append, List.length_nil, sz]; omega))⟩
  | tim l k a =>
    simp only [T_made_of, tupm, con, Bool.false_eq_true, if_false, dFor, dItems, unD, Option.map_some, dSeq, dRet, dRetN, dIf, dSkip, dSet, dCa, dCons, dNil, dVar, dC, dOp, dTest, dAnd, dOr, dNot, dAndV, dOrV, dNotV, dIfE, dCall, dChain, dTup, dLst, dSl, dPart, dNoP, dLt, dLe, dGt, dGe, dMinus, dPlus, dDrop, dPar, List.getElem?_cons_zero, List.getElem?_cons_succ, List.length_cons, List.length_nil, List.map_cons, List.map_nil, List.cons_append, List.nil_append, List.append_nil, List.replicate_succ, List.replicate_zero, List.set_cons_zero, List.set_cons_succ]
    rw [show toD (.tim false k (tupm a)) = .tup [.str "times", .int k, toD (tupm a)] from rfl]
    simp only [gSl, cut1, itemsOf, forC, dgName, dSeq, dRet, dRetN, dIf, dSkip, dSet, dCa, dCons, dNil, dVar, dC, dOp, dTest, dAnd, dOr, dNot, dAndV, dOrV, dNotV, dIfE, dCall, dChain, dTup, dLst, dSl, dPart, dNoP, dLt, dLe, dGt, dGe, dMinus, dPlus, dDrop, dPar, List.getElem?_cons_zero, List.getElem?_cons_succ, List.length_cons, List.length_nil, List.map_cons, List.map_nil, List.cons_append, List.nil_append, List.append_nil, List.replicate_succ, List.replicate_zero, List.set_cons_zero, List.set_cons_succ]
    have ha := sz_le hg.2
    rw [sz] at hs
    refine ⟨by omega, trivial, t_int ?_⟩
    simp only [Bool.false_eq_true, if_false]
    refine ⟨trivial, t_tup ?_⟩
    simp only [if_true]
    refine ⟨a, doors, rfl, hg.2, by omega, fun xs hx => ?_⟩
    simp only [asL]
    refine ⟨by simp only [List.length_nil]; omega, trivial, made_end (by simp only [List.length_append, List.length_nil]; omega) (ends _ _ (by simp only [List.length_append, List.length_nil, sz]; omega))⟩
  | dv r l a k =>
    simp only [T_made_of, tupm, con, Bool.false_eq_true, if_false, dFor, dItems, unD, Option.map_some, dSeq, dRet, dRetN, dIf, dSkip, dSet, dCa, dCons, dNil, dVar, dC, dOp, dTest, dAnd, dOr, dNot, dAndV, dOrV, dNotV, dIfE, dCall, dChain, dTup, dLst, dSl, dPart, dNoP, dLt, dLe, dGt, dGe, dMinus, dPlus, dDrop, dPar, List.getElem?_cons_zero, List.getElem?_cons_succ, List.length_cons, List.length_nil, List.map_cons, List.map_nil, List.cons_append, List.nil_append, List.append_nil, List.replicate_succ, List.replicate_zero, List.set_cons_zero, List.set_cons_succ]
    rw [show toD (.dv r false (tupm a) k) = .tup [.str (wdd r), toD (tupm a), .int k] from rfl]
    simp only [gSl, cut1, itemsOf, forC, dgName, dSeq, dRet, dRetN, dIf, dSkip, dSet, dCa, dCons, dNil, dVar, dC, dOp, dTest, dAnd, dOr, dNot, dAndV, dOrV, dNotV, dIfE, dCall, dChain, dTup, dLst, dSl, dPart, dNoP, dLt, dLe, dGt, dGe, dMinus, dPlus, dDrop, dPar, List.getElem?_cons_zero, List.getElem?_cons_succ, List.length_cons, List.length_nil, List.map_cons, List.map_nil, List.cons_append, List.nil_append, List.append_nil, List.replicate_succ, List.replicate_zero, List.set_cons_zero, List.set_cons_succ]
    have ha := sz_le hg.2
    rw [sz] at hs
    refine ⟨by omega, trivial, t_tup ?_⟩
    simp only [if_true]
    refine ⟨a, doors, rfl, hg.2, by omega, fun xs hx => ?_⟩
    simp only [asL]
    refine ⟨by simp only [List.length_nil]; omega, trivial, t_int ?_⟩
    simp only [Bool.false_eq_true, if_false]
    exact ⟨trivial, made_end (by simp only [List.length_append, List.length_nil]; omega) (ends _ _ (by simp only [List.length_append, List.length_nil, sz]; omega))⟩
/-! ### is_one -/
def sp_one : Pr := fun args μ Q _ => ∃ x doors k, args = [.d x, .d (.int doors)] ∧ okN k x = true ∧ ((formedD doors 12 x = false ∧ Q (.d (.bl false)) μ) ∨ ∃ m, x = toD m ∧ gd doors 12 m ∧ Q (.d (.bl (decide (sz m ≤ 40)))) μ)
theorem H_one (args : List Va) (μ : Mu) (Q : EQ) (QE : XQ) (h : sp_one args μ Q QE) : T_is_one (sp_plain 12) (sp_made 12) (sp_formed 12) QE { nx := fun _ μ' => Fin μ Q (.d .non) μ', rt := Fin μ Q } (args.map some ++ List.replicate (N_is_one.length - args.length) none) μ := by
  obtain ⟨x, doors, k, rfl, hx, h⟩ := h
  simp only [T_is_one, dSeq, dRet, dRetN, dIf, dSkip, dSet, dCa, dCons, dNil, dVar, dC, dOp, dTest, dAnd, dOr, dNot, dAndV, dOrV, dNotV, dIfE, dCall, dChain, dTup, dLst, dSl, dPart, dNoP, dLt, dLe, dGt, dGe, dMinus, dPlus, dDrop, dPar, List.getElem?_cons_zero, List.getElem?_cons_succ, List.length_cons, List.length_nil, List.map_cons, List.map_nil, List.cons_append, List.nil_append, List.append_nil, List.replicate_succ, List.replicate_zero, List.set_cons_zero, List.set_cons_succ]
  refine ⟨x, doors, k, rfl, hx, ?_⟩
  dsimp only
  rcases h with ⟨hf, q⟩ | ⟨m, rfl, hg, q⟩
  · simp only [hf, Bool.false_eq_true, if_false]
    exact .now q
  · simp only [formed_gd hg, if_true]
    refine ⟨toD m, rfl, ok_toD hg, ?_⟩
    rw [plain_gd hg]
    refine ⟨m, doors, rfl, hg, by decide, fun xs hl => ?_⟩
    refine len_seq rfl ?_
    dsimp only
    rw [hl]
    have e : decide (((sz m : Nat) : Int) ≤ 40) = decide (sz m ≤ 40) := decide_eq_decide.mpr (by omega)
    rw [e]
    exact .now q

/-! ### worths -/
def csOk (cs : List Int) : Prop := ∀ c ∈ cs, 0 ≤ c ∧ c < 2 ^ 200
theorem pow_add200 (n : Nat) : (2 : Int) ^ (200 * (n + 1)) = 2 ^ 200 * 2 ^ (200 * n) := by
  rw [← Int.pow_add]
  congr 1
  omega
theorem pow200_pos (n : Nat) : (1 : Int) ≤ 2 ^ n := Int.pow_pos (by decide : (0 : Int) < 2)
theorem le_mul1 {b : Int} (h : 1 ≤ b) : (2 : Int) ^ 200 ≤ 2 ^ 200 * b := by
  have z := Int.mul_le_mul_of_nonneg_left h (show (0 : Int) ≤ 2 ^ 200 by decide)
  rw [Int.mul_one] at z
  exact z
theorem ev_b {cs : List Int} {doors : Int} (hc : csOk cs) (hd : doors = cs.length) : ∀ {n : Nat} {m : Fm}, gd doors n m → 0 ≤ ev cs m ∧ ev cs m < 2 ^ (200 * n)
  | 0, _, h => h.elim
  | n + 1, .cnt l i, h => by
    have hi : i.toNat < cs.length := by have h1 := h.1; have h2 := h.2; omega
    have z := hc _ (List.getElem_mem hi)
    have e : ev cs (.cnt l i) = cs[i.toNat] := by
      rw [ev, List.getD_eq_getElem?_getD, List.getElem?_eq_getElem hi]
      rfl
    rw [e, pow_add200]
    have := pow200_pos (200 * n)
    exact ⟨z.1, Int.lt_of_lt_of_le z.2 (le_mul1 this)⟩
  | n + 1, .num l i, h => by
    rw [ev, pow_add200]
    have := pow200_pos (200 * n)
    exact ⟨h.1, Int.lt_of_lt_of_le h.2 (le_mul1 this)⟩
  | n + 1, .two w l a b, h => by
    obtain ⟨a1, a2⟩ := ev_b hc hd h.1
    obtain ⟨b1, b2⟩ := ev_b hc hd h.2
    have e2 : (2 : Int) * 2 ^ (200 * n) ≤ 2 ^ 200 * 2 ^ (200 * n) := Int.mul_le_mul_of_nonneg_right (by decide) (by have := pow200_pos (200 * n); omega)
    rw [pow_add200]
    match w with
    | 0 =>
      rw [ev]
      omega
    | 1 =>
      rw [ev]
      omega
    | k + 2 =>
      rw [ev]
      · omega
      · omega
      · omega
  | n + 1, .tim l k a, h => by
    obtain ⟨a1, a2⟩ := ev_b hc hd h.2
    rw [ev, pow_add200]
    refine ⟨Int.mul_nonneg h.1.1 a1, ?_⟩
    have s1 : k * ev cs a ≤ k * 2 ^ (200 * n) := Int.mul_le_mul_of_nonneg_left (by omega) h.1.1
    have s2 : k * 2 ^ (200 * n) < 2 ^ 200 * 2 ^ (200 * n) := Int.mul_lt_mul_of_pos_right h.1.2 (by have := pow200_pos (200 * n); omega)
    omega
  | n + 1, .dv r l a k, h => by
    obtain ⟨a1, a2⟩ := ev_b hc hd h.2
    have e2 : (1 : Int) * 2 ^ (200 * n) ≤ 2 ^ 200 * 2 ^ (200 * n) := Int.mul_le_mul_of_nonneg_right (by decide) (by have := pow200_pos (200 * n); omega)
    have hk : 0 < k := by have := h.1.1; omega
    rw [ev, pow_add200]
    cases r with
    | true =>
      rw [if_pos rfl]
      have m1 := Int.emod_nonneg (ev cs a) (show k ≠ 0 by omega)
      have m2 : ev cs a % k ≤ ev cs a := by
        rw [Int.emod_def]
        have z := Int.mul_nonneg (show (0 : Int) ≤ k by omega) (Int.ediv_nonneg a1 (show (0 : Int) ≤ k by omega))
        omega
      exact ⟨m1, by omega⟩
    | false =>
      rw [if_neg (by decide)]
      have m1 : 0 ≤ ev cs a / k := Int.ediv_nonneg a1 (by omega)
      have m2 : ev cs a / k ≤ ev cs a := Int.ediv_le_self _ a1
      exact ⟨m1, by omega⟩
theorem log2_le {a : Int} {k : Nat} (h1 : 0 ≤ a) (h2 : a < 2 ^ k) : a.natAbs.log2 ≤ k := by
  by_cases h0 : a.natAbs = 0
  · rw [h0]
    simp
  · have h3 : a.natAbs < 2 ^ k := by
      have e : ((a.natAbs : Nat) : Int) = a := Int.natAbs_of_nonneg h1
      have e2 : ((2 ^ k : Nat) : Int) = (2 : Int) ^ k := by simp
      omega
    exact Nat.le_of_lt ((Nat.log2_lt h0).mpr h3)
theorem cmul_ok {a b : Int} {j k : Nat} (a1 : 0 ≤ a) (a2 : a < 2 ^ j) (b1 : 0 ≤ b) (b2 : b < 2 ^ k) (h : j + k < 1000000) : CMul a b ∨ CMulW a b := .inr (by
  have h1 := log2_le a1 a2
  have h2 := log2_le b1 b2
  unfold CMulW
  omega)
theorem cdiv_ok {a k : Int} (h1 : 1 ≤ k) (h2 : k < 2 ^ 200) : CDivW a k := ⟨by omega, by have := log2_le (by omega) h2; omega⟩
theorem atI_ok {α : Type} {xs : List α} {i : Int} (h0 : 0 ≤ i) (h1 : i < xs.length) : atI xs i = xs[i.toNat]? := by
  unfold atI ixN
  rw [if_pos h0, if_pos h1]
  rfl
theorem ix_t {xs : List D} {i : Int} {x : D} {μ : Mu} {Q : EQ} (h0 : 0 ≤ i) (h : xs[i.toNat]? = some x) (q : Q (.d x) μ) : dIx (.d (.tup xs)) (.d (.int i)) μ Q := by
  have hl : i.toNat < xs.length := (List.getElem?_eq_some_iff.mp h).1
  simp only [dIx, asV]
  rw [atI_ok h0 (by rw [List.length_map]; omega), List.getElem?_map, h]
  exact q
theorem ix_s {v : D} {xs : List D} (hv : seqD v = some xs) {i : Int} {x : D} {μ : Mu} {Q : EQ} (h0 : 0 ≤ i) (h : xs[i.toNat]? = some x) (q : Q (.d x) μ) : dIx (.d v) (.d (.int i)) μ Q := by
  have hl : i.toNat < xs.length := (List.getElem?_eq_some_iff.mp h).1
  simp only [dIx, asV_seq hv]
  rw [atI_ok h0 (by rw [List.length_map]; omega), List.getElem?_map, h]
  exact q
def sp_wat (n : Nat) : Pr := fun args μ Q _ => ∃ m cs, args = [.d (toD (tupm m)), .d (.tup (cs.map D.int))] ∧ gd cs.length n m ∧ n ≤ 20 ∧ csOk cs ∧ Q (.d (.int (ev cs m))) μ
theorem H_wat0 {p : Pr} (args : List Va) (μ : Mu) (Q : EQ) (QE : XQ) (h : sp_wat 0 args μ Q QE) : T_worth_at p QE { nx := fun _ μ' => Fin μ Q (.d .non) μ', rt := Fin μ Q } (args.map some ++ List.replicate (N_worth_at.length - args.length) none) μ := by
  obtain ⟨m, cs, _, h, _⟩ := h
  exact h.elim
theorem wd_ne (w : Nat) : wd2 w ≠ "count" ∧ wd2 w ≠ "number" ∧ wd2 w ≠ "times" ∧ wd2 w ≠ "floor" ∧ wd2 w ≠ "rest" := by
  match w with
  | 0 => decide
  | 1 => decide
  | k + 2 => exact (by decide : ("most" : Str) ≠ "count" ∧ ("most" : Str) ≠ "number" ∧ ("most" : Str) ≠ "times" ∧ ("most" : Str) ≠ "floor" ∧ ("most" : Str) ≠ "rest")
theorem wdd_ne (r : Bool) : wdd r ≠ "count" ∧ wdd r ≠ "number" ∧ wdd r ≠ "times" := by cases r <;> decide
theorem H_wat (n : Nat) (args : List Va) (μ : Mu) (Q : EQ) (QE : XQ) (h : sp_wat (n + 1) args μ Q QE) : T_worth_at (sp_wat n) QE { nx := fun _ μ' => Fin μ Q (.d .non) μ', rt := Fin μ Q } (args.map some ++ List.replicate (N_worth_at.length - args.length) none) μ := by
  obtain ⟨m, cs, rfl, hg, hn, hc, q⟩ := h
  cases m with
  | cnt l i =>
    have hi : i.toNat < cs.length := by have h1 := hg.1; have h2 := hg.2; omega
    have e : ev cs (.cnt l i) = cs[i.toNat] := by
      rw [ev, List.getD_eq_getElem?_getD, List.getElem?_eq_getElem hi]
      rfl
    rw [show toD (tupm (.cnt l i)) = .tup [.str "count", .int i] from rfl]
    simp only [T_worth_at, dEq, dEqG, Bool.false_bne, dSeq, dRet, dRetN, dIf, dSkip, dSet, dCa, dCons, dNil, dVar, dC, dOp, dTest, dAnd, dOr, dNot, dAndV, dOrV, dNotV, dIfE, dCall, dChain, dTup, dLst, dSl, dPart, dNoP, dLt, dLe, dGt, dGe, dMinus, dPlus, dDrop, dPar, List.getElem?_cons_zero, List.getElem?_cons_succ, List.length_cons, List.length_nil, List.map_cons, List.map_nil, List.cons_append, List.nil_append, List.append_nil, List.replicate_succ, List.replicate_zero, List.set_cons_zero, List.set_cons_succ]
    refine ix_t (by decide) rfl ?_
    simp only [decide_true, if_true]
    refine ix_t (by decide) rfl (ix_t hg.1 (x := .int cs[i.toNat]) (by rw [List.getElem?_map, List.getElem?_eq_getElem hi]; rfl) ?_)
    rw [e] at q
    exact .now q
  | num l i =>
    rw [show toD (tupm (.num l i)) = .tup [.str "number", .int i] from rfl]
    simp only [T_worth_at, dEq, dEqG, Bool.false_bne, dSeq, dRet, dRetN, dIf, dSkip, dSet, dCa, dCons, dNil, dVar, dC, dOp, dTest, dAnd, dOr, dNot, dAndV, dOrV, dNotV, dIfE, dCall, dChain, dTup, dLst, dSl, dPart, dNoP, dLt, dLe, dGt, dGe, dMinus, dPlus, dDrop, dPar, List.getElem?_cons_zero, List.getElem?_cons_succ, List.length_cons, List.length_nil, List.map_cons, List.map_nil, List.cons_append, List.nil_append, List.append_nil, List.replicate_succ, List.replicate_zero, List.set_cons_zero, List.set_cons_succ]
    refine ix_t (by decide) rfl ?_
    simp only [show ¬ (("number" : Str) = "count") from by decide, decide_false, Bool.false_eq_true, if_false, decide_true, if_true]
    exact ix_t (by decide) rfl (.now q)
  | tim l k a =>
    rw [show toD (tupm (.tim l k a)) = .tup [.str "times", .int k, toD (tupm a)] from rfl]
    simp only [T_worth_at, dEq, dEqG, Bool.false_bne, dSeq, dRet, dRetN, dIf, dSkip, dSet, dCa, dCons, dNil, dVar, dC, dOp, dTest, dAnd, dOr, dNot, dAndV, dOrV, dNotV, dIfE, dCall, dChain, dTup, dLst, dSl, dPart, dNoP, dLt, dLe, dGt, dGe, dMinus, dPlus, dDrop, dPar, List.getElem?_cons_zero, List.getElem?_cons_succ, List.length_cons, List.length_nil, List.map_cons, List.map_nil, List.cons_append, List.nil_append, List.append_nil, List.replicate_succ, List.replicate_zero, List.set_cons_zero, List.set_cons_succ]
    refine ix_t (by decide) rfl ?_
    simp only [show ¬ (("times" : Str) = "count") from by decide, show ¬ (("times" : Str) = "number") from by decide, decide_false, Bool.false_eq_true, if_false, decide_true, if_true]
    obtain ⟨a1, a2⟩ := ev_b hc rfl hg.2
    refine ix_t (by decide) rfl (ix_t (by decide) rfl ⟨a, cs, rfl, hg.2, by omega, hc, ?_⟩)
    simp only [dTimes]
    exact ⟨cmul_ok hg.1.1 hg.1.2 a1 a2 (by omega), .now q⟩
  | dv r l a k =>
    rw [show toD (tupm (.dv r l a k)) = .tup [.str (wdd r), toD (tupm a), .int k] from rfl]
    simp only [T_worth_at, dEq, dEqG, Bool.false_bne, dSeq, dRet, dRetN, dIf, dSkip, dSet, dCa, dCons, dNil, dVar, dC, dOp, dTest, dAnd, dOr, dNot, dAndV, dOrV, dNotV, dIfE, dCall, dChain, dTup, dLst, dSl, dPart, dNoP, dLt, dLe, dGt, dGe, dMinus, dPlus, dDrop, dPar, List.getElem?_cons_zero, List.getElem?_cons_succ, List.length_cons, List.length_nil, List.map_cons, List.map_nil, List.cons_append, List.nil_append, List.append_nil, List.replicate_succ, List.replicate_zero, List.set_cons_zero, List.set_cons_succ]
    obtain ⟨w1, w2, w3⟩ := wdd_ne r
    refine ix_t (by decide) rfl ?_
    simp only [w1, w2, w3, decide_false, Bool.false_eq_true, if_false]
    refine ix_t (by decide) rfl ⟨a, cs, rfl, hg.2, by omega, hc, ?_⟩
    rw [ev] at q
    cases r with
    | false =>
      simp only [show wdd false = "floor" from rfl, decide_true, if_true]
      refine ix_t (by decide) rfl ?_
      simp only [dFdiv]
      exact ⟨cdiv_ok hg.1.1 hg.1.2, .now q⟩
    | true =>
      simp only [show ¬ (wdd true = "floor") from by decide, show wdd true = "rest" from rfl, decide_false, Bool.false_eq_true, if_false, decide_true, if_true, show ¬ (("rest" : Str) = "floor") from by decide]
      refine ix_t (by decide) rfl ?_
      simp only [dMod]
      have hk := hg.1.1
      exact ⟨by omega, .now q⟩
  | two w l a b =>
    rw [show toD (tupm (.two w l a b)) = .tup [.str (wd2 w), toD (tupm a), toD (tupm b)] from rfl]
    simp only [T_worth_at, dEq, dEqG, Bool.false_bne, dSeq, dRet, dRetN, dIf, dSkip, dSet, dCa, dCons, dNil, dVar, dC, dOp, dTest, dAnd, dOr, dNot, dAndV, dOrV, dNotV, dIfE, dCall, dChain, dTup, dLst, dSl, dPart, dNoP, dLt, dLe, dGt, dGe, dMinus, dPlus, dDrop, dPar, List.getElem?_cons_zero, List.getElem?_cons_succ, List.length_cons, List.length_nil, List.map_cons, List.map_nil, List.cons_append, List.nil_append, List.append_nil, List.replicate_succ, List.replicate_zero, List.set_cons_zero, List.set_cons_succ]
    obtain ⟨w1, w2, w3, w4, w5⟩ := wd_ne w
    refine ix_t (by decide) rfl ?_
    simp only [w1, w2, w3, decide_false, Bool.false_eq_true, if_false]
    refine ix_t (by decide) rfl ⟨a, cs, rfl, hg.1, by omega, hc, ?_⟩
    simp only [w4, w5, decide_false, Bool.false_eq_true, if_false]
    refine ix_t (by decide) rfl ⟨b, cs, rfl, hg.2, by omega, hc, ?_⟩
    match w, q with
    | 0, q =>
      simp only [show wd2 0 = "sum" from rfl, decide_true, if_true]
      exact .now q
    | 1, q =>
      simp only [show wd2 1 = "least" from rfl, show ¬ (("least" : Str) = "sum") from by decide, decide_false, Bool.false_eq_true, if_false, decide_true, if_true, gMin]
      exact .now q
    | k + 2, q =>
      simp only [show wd2 (k + 2) = "most" from rfl, show ¬ (("most" : Str) = "sum") from by decide, show ¬ (("most" : Str) = "least") from by decide, decide_false, Bool.false_eq_true, if_false, gMax]
      exact .now q
/-! ### is_formula -/
def sp_fla (C : Addr) : Pr := fun args μ Q QE => ∃ x d t k, args = [.d x, .d d] ∧ okN k x = true ∧ tyD d = some t ∧ ((∃ i, d = .int i ∧ 1 ≤ i ∧ i ≤ 4 ∧ ((formedD i 12 x = false ∧ Q (.d (.bl false)) μ) ∨ ∃ m, x = toD m ∧ gd i 12 m ∧ Q (.d (.bl (decide (sz m ≤ 40)))) μ)) ∨ ((∀ i, d = .int i → i < 1 ∨ 4 < i) ∧ QE C ["part"] [.str "doors"] μ))
theorem H_fla (C : Addr) (args : List Va) (μ : Mu) (Q : EQ) (QE : XQ) (h : sp_fla C args μ Q QE) : T_is_formula sp_one (sp_need C) QE { nx := fun _ μ' => Fin μ Q (.d .non) μ', rt := Fin μ Q } (args.map some ++ List.replicate (N_is_formula.length - args.length) none) μ := by
  obtain ⟨x, d, t, k, rfl, hx, ht, h⟩ := h
  simp only [T_is_formula, dSeq, dRet, dRetN, dIf, dSkip, dSet, dCa, dCons, dNil, dVar, dC, dOp, dTest, dAnd, dOr, dNot, dAndV, dOrV, dNotV, dIfE, dCall, dChain, dTup, dLst, dSl, dPart, dNoP, dLt, dLe, dGt, dGe, dMinus, dPlus, dDrop, dPar, List.getElem?_cons_zero, List.getElem?_cons_succ, List.length_cons, List.length_nil, List.map_cons, List.map_nil, List.cons_append, List.nil_append, List.append_nil, List.replicate_succ, List.replicate_zero, List.set_cons_zero, List.set_cons_succ]
  refine ⟨_, d, t, 1, 4, rfl, ht, ?_⟩
  rcases h with ⟨i, rfl, h1, h2, h⟩ | ⟨hb, q⟩
  · refine .inl ⟨i, rfl, h1, h2, x, i, k, rfl, hx, ?_⟩
    rcases h with ⟨hf, q⟩ | ⟨m, rfl, hg, q⟩
    · exact .inl ⟨hf, .now q⟩
    · exact .inr ⟨m, rfl, hg, .now q⟩
  · exact .inr ⟨hb, q⟩
/-! ### worth -/
def okC : D → Bool
  | .int i => decide (0 ≤ i)
  | _ => false
def countsOk (c : D) : Bool := match seqD c with
  | some ys => (decide (1 ≤ ys.length) && decide (ys.length ≤ 4)) && ys.all okC
  | none => false
def sp_worth (C : Addr) : Pr := fun args μ Q QE => ∃ f c k j, args = [.d f, .d c] ∧ okN k f = true ∧ okN j c = true ∧ ((countsOk c = false ∧ QE C ["part"] [.str "counts"] μ) ∨
  (∃ ys : List D, seqD c = some ys ∧ countsOk c = true ∧ formedD ys.length 12 f = false ∧ QE C ["part"] [.str "formula"] μ) ∨
  ∃ (cs : List Int) (m : Fm), seqD c = some (cs.map D.int) ∧ countsOk c = true ∧ csOk cs ∧ f = toD m ∧ gd cs.length 12 m ∧ sz m ≤ 40 ∧ Q (.d (.int (ev cs m))) μ)
theorem gtup_s {c : D} {ys : List D} (h : seqD c = some ys) {μ : Mu} {Q : EQ} (q : Q (.d (.tup ys)) μ) : gTuple [.d c] μ Q := by
  cases c with
  | tup zs => simp only [seqD, Option.some.injEq] at h; subst h; exact q
  | lst zs => simp only [seqD, Option.some.injEq] at h; subst h; exact q
  | _ => cases h
theorem H_worth (C : Addr) (args : List Va) (μ : Mu) (Q : EQ) (QE : XQ) (h : sp_worth C args μ Q QE) : T_worth (sp_plain 12) (sp_wat 12) sp_one C ["part"] sp_is_integer QE { nx := fun _ μ' => Fin μ Q (.d .non) μ', rt := Fin μ Q } (args.map some ++ List.replicate (N_worth.length - args.length) none) μ := by
  obtain ⟨f, c, k, j, rfl, hf, hj, h⟩ := h
  simp only [T_worth, dRaise, dSeq, dRet, dRetN, dIf, dSkip, dSet, dCa, dCons, dNil, dVar, dC, dOp, dTest, dAnd, dOr, dNot, dAndV, dOrV, dNotV, dIfE, dCall, dChain, dTup, dLst, dSl, dPart, dNoP, dLt, dLe, dGt, dGe, dMinus, dPlus, dDrop, dPar, List.getElem?_cons_zero, List.getElem?_cons_succ, List.length_cons, List.length_nil, List.map_cons, List.map_nil, List.cons_append, List.nil_append, List.append_nil, List.replicate_succ, List.replicate_zero, List.set_cons_zero, List.set_cons_succ]
  refine ⟨by decide, g_lt hj ?_⟩
  dsimp only
  cases hs : seqD c with
  | none =>
    have hc : countsOk c = false := by unfold countsOk; rw [hs]
    rcases h with ⟨_, q⟩ | ⟨ys, e, _⟩ | ⟨cs, m, e, _⟩
    · simp only [Option.isSome_none, Bool.not_false, if_true, unD, Option.map_some]
      exact ⟨rfl, by simp, q⟩
    · rw [hs] at e; cases e
    · rw [hs] at e; cases e
  | some ys =>
    simp only [Option.isSome_some, Bool.not_true, Bool.false_eq_true, if_false]
    obtain ⟨hl, ha⟩ := okN_at hj hs
    have hc : countsOk c = ((decide (1 ≤ ys.length) && decide (ys.length ≤ 4)) && ys.all okC) := by unfold countsOk; rw [hs]
    refine len_seq hs ?_
    dsimp only
    have bad : countsOk c = false → QE C ["part"] [.str "counts"] μ := fun hcf => by
      rcases h with ⟨_, q⟩ | ⟨ys, e, e2, _⟩ | ⟨cs, m, e, e2, _⟩
      · exact q
      · rw [hcf] at e2; cases e2
      · rw [hcf] at e2; cases e2
    by_cases h1 : 1 ≤ ys.length
    · have i1 : (1 : Int) ≤ (ys.length : Int) := by omega
      simp only [i1, decide_true, if_true]
      by_cases h4 : ys.length ≤ 4
      · have i4 : (ys.length : Int) ≤ 4 := by omega
        simp only [i4, decide_true, Bool.not_true, Bool.false_eq_true, if_false]
        obtain ⟨b, hb⟩ := items_seq hs μ
        simp only [dLc, dItems, dSeq, dRet, dRetN, dIf, dSkip, dSet, dCa, dCons, dNil, dVar, dC, dOp, dTest, dAnd, dOr, dNot, dAndV, dOrV, dNotV, dIfE, dCall, dChain, dTup, dLst, dSl, dPart, dNoP, dLt, dLe, dGt, dGe, dMinus, dPlus, dDrop, dPar, List.getElem?_cons_zero, List.getElem?_cons_succ, List.length_cons, List.length_nil, List.map_cons, List.map_nil, List.cons_append, List.nil_append, List.append_nil, List.replicate_succ, List.replicate_zero, List.set_cons_zero, List.set_cons_succ]
        rw [hb]
        refine ⟨by omega, lc_mapC (fun y => .bl (okC y)) trivial _ (fun y hy kk hk => ?_) ?_⟩
        · simp only [lcStep, wipeE, dgName, dYes, dSeq, dRet, dRetN, dIf, dSkip, dSet, dCa, dCons, dNil, dVar, dC, dOp, dTest, dAnd, dOr, dNot, dAndV, dOrV, dNotV, dIfE, dCall, dChain, dTup, dLst, dSl, dPart, dNoP, dLt, dLe, dGt, dGe, dMinus, dPlus, dDrop, dPar, List.getElem?_cons_zero, List.getElem?_cons_succ, List.length_cons, List.length_nil, List.map_cons, List.map_nil, List.cons_append, List.nil_append, List.append_nil, List.replicate_succ, List.replicate_zero, List.set_cons_zero, List.set_cons_succ]
          obtain ⟨t, ht⟩ := okN_ty (ha y hy)
          refine ⟨y, t, rfl, ht, ?_⟩
          cases y with
          | int i => exact hk
          | _ => exact hk
        · have z := bools_map okC ys
          simp only [gAll, asR, asL, Option.bind_some, z, List.all_map]
          have e3 : (ys.all (id ∘ okC)) = ys.all okC := rfl
          rw [e3]
          simp only [h1, h4, decide_true, Bool.and_self, Bool.true_and] at hc
          cases hall : ys.all okC with
          | false =>
            rw [hall] at hc
            simp only [Bool.not_false, if_true, unD, Option.map_some]
            exact ⟨rfl, by simp, bad hc⟩
          | true =>
            rw [hall] at hc
            simp only [Bool.not_true, Bool.false_eq_true, if_false]
            refine len_seq hs ?_
            refine ⟨f, ys.length, k, rfl, hf, ?_⟩
            rcases h with ⟨e, _⟩ | ⟨ys', e, _, hff, q⟩ | ⟨cs, m, e, _, hcs, rfl, hg, hz, q⟩
            · rw [hc] at e; cases e
            · rw [hs] at e
              cases e
              refine .inl ⟨hff, ?_⟩
              simp only [Bool.not_false, if_true, unD, Option.map_some]
              exact ⟨rfl, by simp, q⟩
            · rw [hs] at e
              cases e
              rw [List.length_map]
              refine .inr ⟨m, rfl, hg, ?_⟩
              simp only [hz, decide_true, Bool.not_true, Bool.false_eq_true, if_false]
              refine ⟨toD m, rfl, ok_toD hg, ?_⟩
              refine gtup_s hs ?_
              rw [plain_gd hg]
              exact ⟨m, cs, rfl, hg, by decide, hcs, .now q⟩
      · have i4 : ¬ (ys.length : Int) ≤ 4 := by omega
        simp only [i4, decide_false, Bool.not_false, if_true, unD, Option.map_some]
        exact ⟨rfl, by simp, bad (by rw [hc]; simp [h4])⟩
    · have i1 : ¬ (1 : Int) ≤ (ys.length : Int) := by omega
      simp only [i1, decide_false, Bool.false_eq_true, if_false, Bool.not_false, if_true, unD, Option.map_some]
      exact ⟨rfl, by simp, bad (by rw [hc]; simp [h1])⟩

/-! ### lists of whole numbers against [] -/
theorem toPs_int : ∀ cs : List Int, toPs (cs.map D.int) = some (cs.map PyData.int)
  | [] => by rw [List.map_nil, toPs, List.map_nil]
  | c :: cs => by
    rw [List.map_cons, toPs, toP, toPs_int cs]
    rfl
theorem lay_int : ∀ cs : List Int, PyData.canLayAll0 (cs.map PyData.int) = true
  | [] => by simp [PyData.canLayAll0]
  | c :: cs => by
    rw [List.map_cons]
    simp [PyData.canLayAll0, PyData.canLay0, lay_int cs]
theorem dep_int : ∀ cs : List Int, PyData.depthAll (cs.map PyData.int) ≤ 1
  | [] => by simp [PyData.depthAll]
  | c :: cs => by
    rw [List.map_cons]
    have := dep_int cs
    simp [PyData.depthAll, PyData.depth]
    omega
theorem shaped_int (cs : List Int) : SeqAt.shaped (.list (cs.map PyData.int)) = true := by
  unfold SeqAt.shaped
  have h1 := lay_int cs
  have h2 := dep_int cs
  have h3 : (PyData.list (cs.map PyData.int)).depth ≤ 64 := by
    simp [PyData.depth]
    omega
  have h4 : (PyData.list (cs.map PyData.int)).canLay0 = true := by simpa [PyData.canLay0] using h1
  rw [h4, decide_eq_true h3]
  rfl
theorem ne_nil {cs : List Int} {μ : Mu} {Q : EQ} (q : Q (.d (.bl (decide (cs ≠ [])))) μ) : dNe (.d (.lst (cs.map D.int))) (.d (.lst [])) μ Q := by
  have e1 : norm μ (.d (.lst (cs.map D.int))) = some (.list (cs.map PyData.int)) := by
    show toP (.lst (cs.map D.int)) = _
    rw [toP, toPs_int]
    rfl
  have e2 : norm μ (.d (.lst [])) = some (.list []) := by
    show toP (.lst []) = _
    rw [toP, toPs]
    rfl
  have go : (match norm μ (.d (.lst (cs.map D.int))), norm μ (.d (.lst [])) with
    | some p, some q => SeqAt.shaped p = true ∧ SeqAt.shaped q = true ∧ Q (.d (.bl (true ^^ PyData.eqv p q))) μ
    | _, _ => False) := by
    rw [e1, e2]
    refine ⟨shaped_int cs, shaped_int [], ?_⟩
    have e3 : (true ^^ PyData.eqv (.list (cs.map PyData.int)) (.list [])) = decide (cs ≠ []) := by
      cases cs with
      | nil => rfl
      | cons c cs => rfl
    rw [e3]
    exact q
  exact go
/-! ### the pen -/
def penO (cs : List Int) (a g : Int) : MO := .lst [.d (.lst (cs.map D.int)), .d (.int a), .d (.int g)]
/-- a pen, drawn from so often at most -/
def Pen (b : Nat) (μ : Mu) (k : Nat) : Prop := ∃ cs a g, μ[k]? = some (penO cs a g) ∧ 0 ≤ a ∧ a ≤ (b : Int) ∧ 0 ≤ g
/-- all but the pen as it was -/
def PenTo (b : Nat) (μ μ' : Mu) (k : Nat) : Prop := ∃ cs a g, μ' = μ.set k (penO cs a g) ∧ 0 ≤ a ∧ a ≤ (b : Int) ∧ 0 ≤ g
theorem Pen.lt {b k : Nat} {μ : Mu} (h : Pen b μ k) : k < μ.length := by
  obtain ⟨cs, a, g, e, _⟩ := h
  exact (List.getElem?_eq_some_iff.mp e).1
theorem PenTo.pen {b k : Nat} {μ μ' : Mu} (h : PenTo b μ μ' k) (l : k < μ.length) : Pen b μ' k := by
  obtain ⟨cs, a, g, e, r⟩ := h
  exact ⟨cs, a, g, by rw [e, List.getElem?_set_self l], r⟩
theorem PenTo.len {b k : Nat} {μ μ' : Mu} (h : PenTo b μ μ' k) : μ'.length = μ.length := by
  obtain ⟨cs, a, g, e, r⟩ := h
  rw [e, List.length_set]
theorem PenTo.tr {b c k : Nat} {μ μ1 μ2 : Mu} (h : PenTo b μ μ1 k) (h' : PenTo c μ1 μ2 k) : PenTo c μ μ2 k := by
  obtain ⟨cs, a, g, e, r⟩ := h
  obtain ⟨cs', a', g', e', r'⟩ := h'
  exact ⟨cs', a', g', by rw [e', e, List.set_set], r'⟩
theorem PenTo.rfl {b k : Nat} {μ : Mu} (h : Pen b μ k) : PenTo b μ μ k := by
  obtain ⟨cs, a, g, e, r⟩ := h
  refine ⟨cs, a, g, ?_, r⟩
  obtain ⟨hl, e2⟩ := List.getElem?_eq_some_iff.mp e
  rw [← e2, List.set_getElem_self]
theorem Pen.le {b c k : Nat} {μ : Mu} (h : Pen b μ k) (l : b ≤ c) : Pen c μ k := by
  obtain ⟨cs, a, g, e, h1, h2, h3⟩ := h
  exact ⟨cs, a, g, e, h1, by omega, h3⟩
theorem PenTo.le {b c k : Nat} {μ μ' : Mu} (h : PenTo b μ μ' k) (l : b ≤ c) : PenTo c μ μ' k := by
  obtain ⟨cs, a, g, e, h1, h2, h3⟩ := h
  exact ⟨cs, a, g, e, h1, by omega, h3⟩
theorem ix_m {k : Nat} {xs : List Va} {i : Int} {y : Va} {μ : Mu} {Q : EQ} (h : μ[k]? = some (.lst xs)) (e : atI xs i = some y) (q : Q y μ) : dIx (.m k) (.d (.int i)) μ Q := by
  simp only [dIx, asV, h, e]
  exact q
theorem set_m {k n : Nat} {xs : List Va} {i : Int} {v : Va} {μ : Mu} {Q : Mu → Prop} (h : μ[k]? = some (.lst xs)) (e : ixN xs.length i = some n) (q : Q (μ.set k (.lst (xs.set n v)))) : setM (.m k) (.d (.int i)) v μ Q := by
  simp only [setM, h, e]
  exact q
theorem absI (i : Int) : (0 : Int) ≤ (if i < 0 then -i else i) := by split <;> omega
def sp_draw : Pr := fun args μ Q _ => ∃ b k many, args = [.m k, .d (.int many)] ∧ Pen b μ k ∧ b ≤ 1000000 ∧ 1 ≤ many ∧ many < 2 ^ 200 ∧ ∀ (d : Int) (μ' : Mu), 0 ≤ d → d < many → PenTo (b + 1) μ μ' k → Q (.d (.int d)) μ'
theorem cpow_ok {a : Int} {k : Int} (h0 : 0 ≤ a) (h1 : a < 2 ^ 60) (h2 : 0 ≤ k) (h3 : k ≤ 1000) : CPow a k := ⟨h2, by omega, by
  have e : (2 : Int) ^ 60 = 1152921504606846976 := by decide
  have e2 : (2 : Nat) ^ 64 = 18446744073709551616 := by decide
  omega⟩
def T_drawE : STd := (dSeq (dIf (dAnd (dTest (dOp dLt (dVar 3) (dCa gLen (dCons (dOp dIx (dVar 0) (dC (.int 0))) dNil)))) (dTest (dOp dGe (dCa gAbs (dCons (dVar 4) dNil)) (dOp dPow (dC (.int 10)) (dC (.int 18)))))) (dSeq (dSet (dOp dPlus (dOp dTimes (dC (.int 2)) (dOp dMinus (dCa gAbs (dCons (dVar 4) dNil)) (dOp dPow (dC (.int 10)) (dC (.int 18))))) (dCa gInt (dCons (dOp dLt (dVar 4) (dC (.int 0))) dNil))) 5) (dSeq (dPut (dVar 0) (dC (.int 2)) (dOp dFdiv (dCa gInt (dCons (dVar 5) dNil)) (dVar 1))) (dSeq (dRet (dOp dMod (dCa gInt (dCons (dVar 5) dNil)) (dVar 1))) dSkip))) dSkip) (dSeq (dSet (dOp dMod (dCa gInt (dCons (dOp dPow (dOp dPlus (dOp dPlus (dOp dMod (dCa gInt (dCons (dVar 4) dNil)) (dC (.int 2147483549))) (dOp dTimes (dC (.int 7919)) (dVar 3))) (dC (.int 617))) (dC (.int 3))) dNil)) (dC (.int 2147483629))) 6) (dSeq (dSet (dOp dMod (dCa gInt (dCons (dOp dPow (dOp dPlus (dOp dPlus (dOp dTimes (dVar 6) (dOp dPlus (dOp dTimes (dC (.int 2)) (dVar 3)) (dC (.int 139)))) (dOp dTimes (dOp dTimes (dC (.int 7919)) (dVar 3)) (dVar 3))) (dC (.int 617))) (dC (.int 5))) dNil)) (dC (.int 2147483563))) 6) (dSeq (dRet (dOp dMod (dCa gInt (dCons (dOp dFdiv (dVar 6) (dC (.int 16))) dNil)) (dVar 1))) dSkip))))
theorem drawE {b k : Nat} {many : Int} {μ0 μ : Mu} {Q : EQ} {cs : List Int} {a g c : Int} (hp : μ[k]? = some (penO cs (a + 1) g)) (ha : 0 ≤ a) (hb : a ≤ (b : Int)) (hg : 0 ≤ g) (hbb : b ≤ 1000000) (h1 : 1 ≤ many) (h2 : many < 2 ^ 200)
    (q : ∀ (d : Int) (μ' : Mu), 0 ≤ d → d < many → PenTo (b + 1) μ μ' k → Q (.d (.int d)) μ') : T_drawE { nx := fun _ μ' => Fin μ0 Q (.d .non) μ', rt := Fin μ0 Q } [some (.m k), some (.d (.int many)), none, some (.d (.int a)), some (.d (.int c)), none, none] μ := by
  have lk : k < μ.length := (List.getElem?_eq_some_iff.mp hp).1
  have ld : ∀ z : Int, CDivW z many := fun z => cdiv_ok h1 h2
  have p0 : ∃ cs a' g', μ = μ.set k (penO cs a' g') ∧ 0 ≤ a' ∧ a' ≤ ((b + 1 : Nat) : Int) ∧ 0 ≤ g' := PenTo.rfl ⟨cs, a + 1, g, hp, by omega, by omega, hg⟩
  have md : ∀ z : Int, 0 ≤ z % many ∧ z % many < many := fun z => ⟨Int.emod_nonneg _ (by omega), Int.emod_lt_of_pos _ (by omega)⟩
  have ba : a ≤ 1000000 := by omega
  have aa : 0 ≤ a * a := Int.mul_nonneg ha ha
  have aa2 : a * a ≤ 1000000 * 1000000 := Int.mul_le_mul ba ba ha (by decide)
  have e60 : (2 : Int) ^ 60 = 1152921504606846976 := by decide
  have e64 : (2 : Int) ^ 64 = 18446744073709551616 := by decide
  -- the plain end
  have plainE : ∀ e5 : Option Va, (dSeq (dSet (dOp dMod (dCa gInt (dCons (dOp dPow (dOp dPlus (dOp dPlus (dOp dMod (dCa gInt (dCons (dVar 4) dNil)) (dC (.int 2147483549))) (dOp dTimes (dC (.int 7919)) (dVar 3))) (dC (.int 617))) (dC (.int 3))) dNil)) (dC (.int 2147483629))) 6) (dSeq (dSet (dOp dMod (dCa gInt (dCons (dOp dPow (dOp dPlus (dOp dPlus (dOp dTimes (dVar 6) (dOp dPlus (dOp dTimes (dC (.int 2)) (dVar 3)) (dC (.int 139)))) (dOp dTimes (dOp dTimes (dC (.int 7919)) (dVar 3)) (dVar 3))) (dC (.int 617))) (dC (.int 5))) dNil)) (dC (.int 2147483563))) 6) (dSeq (dRet (dOp dMod (dCa gInt (dCons (dOp dFdiv (dVar 6) (dC (.int 16))) dNil)) (dVar 1))) dSkip)))
      { nx := fun _ μ' => Fin μ0 Q (.d .non) μ', rt := Fin μ0 Q } [some (.m k), some (.d (.int many)), none, some (.d (.int a)), some (.d (.int c)), e5, none] μ := by
    intro e5
    simp only [dMod, dFdiv, gInt, dTimes, dPow, dSeq, dRet, dRetN, dIf, dSkip, dSet, dCa, dCons, dNil, dVar, dC, dOp, dTest, dAnd, dOr, dNot, dAndV, dOrV, dNotV, dIfE, dCall, dChain, dTup, dLst, dSl, dPart, dNoP, dLt, dLe, dGt, dGe, dMinus, dPlus, dDrop, dPar, List.getElem?_cons_zero, List.getElem?_cons_succ, List.length_cons, List.length_nil, List.map_cons, List.map_nil, List.cons_append, List.nil_append, List.append_nil, List.replicate_succ, List.replicate_zero, List.set_cons_zero, List.set_cons_succ]
    have m1 : 0 ≤ c % 2147483549 := Int.emod_nonneg _ (by decide)
    have m2 : c % 2147483549 < 2147483549 := Int.emod_lt_of_pos _ (by decide)
    refine ⟨by decide, .inl (.inl ⟨by decide, by decide⟩), cpow_ok (by omega) (by omega) (by decide) (by decide), by decide, ?_⟩
    generalize hz : (c % 2147483549 + 7919 * a + 617) ^ (3 : Int).toNat % 2147483629 = z
    have m3 : 0 ≤ z := by rw [← hz]; exact Int.emod_nonneg _ (by decide)
    have m4 : z < 2147483629 := by rw [← hz]; exact Int.emod_lt_of_pos _ (by decide)
    have m5 : 0 ≤ z * (2 * a + 139) := Int.mul_nonneg m3 (by omega)
    have m6 : z * (2 * a + 139) ≤ 2147483629 * 2000139 := Int.mul_le_mul (by omega) (by omega) (by omega) (by decide)
    have e7 : 7919 * a * a = 7919 * (a * a) := Int.mul_assoc _ _ _
    refine ⟨.inl (.inl ⟨by decide, by decide⟩), .inl (.inl ⟨by omega, by omega⟩), .inl (.inl ⟨by decide, by decide⟩), .inl (.inl ⟨by omega, by omega⟩), cpow_ok (by rw [e7]; omega) (by rw [e7]; omega) (by decide) (by decide), by decide, ?_⟩
    generalize hy : (z * (2 * a + 139) + 7919 * a * a + 617) ^ (5 : Int).toNat % 2147483563 = y
    have m7 : 0 ≤ y := by rw [← hy]; exact Int.emod_nonneg _ (by decide)
    refine ⟨⟨by decide, by decide⟩, by omega, ?_⟩
    exact .now (q _ _ (md _).1 (md _).2 p0)
  simp only [T_drawE, dMod, dFdiv, gInt, dTimes, dPow, dPut, gAbs, dSeq, dRet, dRetN, dIf, dSkip, dSet, dCa, dCons, dNil, dVar, dC, dOp, dTest, dAnd, dOr, dNot, dAndV, dOrV, dNotV, dIfE, dCall, dChain, dTup, dLst, dSl, dPart, dNoP, dLt, dLe, dGt, dGe, dMinus, dPlus, dDrop, dPar, List.getElem?_cons_zero, List.getElem?_cons_succ, List.length_cons, List.length_nil, List.map_cons, List.map_nil, List.cons_append, List.nil_append, List.append_nil, List.replicate_succ, List.replicate_zero, List.set_cons_zero, List.set_cons_succ]
  refine ix_m hp rfl (len_seq rfl ?_)
  by_cases hl : a < ((cs.map D.int).length : Int)
  · simp only [hl, decide_true, if_true]
    refine ⟨cpow_ok (by decide) (by decide) (by decide) (by decide), ?_⟩
    by_cases h18 : (10 : Int) ^ (18 : Int).toNat ≤ (if c < 0 then -c else c)
    · simp only [h18, decide_true, if_true]
      refine ⟨cpow_ok (by decide) (by decide) (by decide) (by decide), .inl (.inl ⟨by decide, by decide⟩), ?_⟩
      generalize hv : 2 * ((if c < 0 then -c else c) - 10 ^ (18 : Int).toNat) + (if decide (c < 0) = true then 1 else 0) = v
      have hv0 : 0 ≤ v := by
        rw [← hv]
        split <;> omega
      refine ⟨ld _, set_m (n := 2) hp rfl ⟨by omega, ?_⟩⟩
      exact .now (q _ _ (md _).1 (md _).2 ⟨cs, a + 1, v / many, rfl, by omega, by omega, Int.ediv_nonneg hv0 (by omega)⟩)
    · simp only [h18, decide_false, Bool.false_eq_true, if_false]
      exact plainE none
  · simp only [hl, decide_false, Bool.false_eq_true, if_false]
    exact plainE none
theorem H_draw (args : List Va) (μ : Mu) (Q : EQ) (QE : XQ) (h : sp_draw args μ Q QE) : T_l_draw QE { nx := fun _ μ' => Fin μ Q (.d .non) μ', rt := Fin μ Q } (args.map some ++ List.replicate (N_l_draw.length - args.length) none) μ := by
  obtain ⟨b, k, many, rfl, ⟨cs, a, g, hp, ha, hb, hg⟩, hbb, h1, h2, q⟩ := h
  have lk : k < μ.length := (List.getElem?_eq_some_iff.mp hp).1
  have ld : ∀ z : Int, CDivW z many := fun z => cdiv_ok h1 h2
  simp only [T_l_draw, dSeq, dRet, dRetN, dIf, dSkip, dSet, dCa, dCons, dNil, dVar, dC, dOp, dTest, dAnd, dOr, dNot, dAndV, dOrV, dNotV, dIfE, dCall, dChain, dTup, dLst, dSl, dPart, dNoP, dLt, dLe, dGt, dGe, dMinus, dPlus, dDrop, dPar, List.getElem?_cons_zero, List.getElem?_cons_succ, List.length_cons, List.length_nil, List.map_cons, List.map_nil, List.cons_append, List.nil_append, List.append_nil, List.replicate_succ, List.replicate_zero, List.set_cons_zero, List.set_cons_succ]
  refine ix_m hp rfl ?_
  by_cases hg0 : 0 < g
  · simp only [hg0, decide_true, if_true, dMod, dPut, dFdiv, gInt]
    refine ix_m hp rfl ⟨by omega, ix_m hp rfl ⟨ld _, set_m (n := 2) hp rfl ?_⟩⟩
    refine .now (q _ _ (Int.emod_nonneg _ (by omega)) (Int.emod_lt_of_pos _ (by omega)) ⟨cs, a, g / many, rfl, ha, by omega, Int.ediv_nonneg hg (by omega)⟩)
  · simp only [hg0, decide_false, Bool.false_eq_true, if_false, dMod, dPut, dFdiv, gInt, dTimes]
    refine ix_m hp rfl (set_m (n := 1) hp rfl ?_)
    have hp2 : (μ.set k (.lst (List.set [Va.d (.lst (cs.map D.int)), .d (.int a), .d (.int g)] 1 (.d (.int (a + 1))))))[k]? = some (penO cs (a + 1) g) := by rw [List.getElem?_set_self lk]; rfl
    simp only [dMod, dPut, dFdiv, gInt, dTimes, dSeq, dRet, dRetN, dIf, dSkip, dSet, dCa, dCons, dNil, dVar, dC, dOp, dTest, dAnd, dOr, dNot, dAndV, dOrV, dNotV, dIfE, dCall, dChain, dTup, dLst, dSl, dPart, dNoP, dLt, dLe, dGt, dGe, dMinus, dPlus, dDrop, dPar, List.getElem?_cons_zero, List.getElem?_cons_succ, List.length_cons, List.length_nil, List.map_cons, List.map_nil, List.cons_append, List.nil_append, List.append_nil, List.replicate_succ, List.replicate_zero, List.set_cons_zero, List.set_cons_succ]
    refine ⟨.inl (.inl ⟨by decide, by decide⟩), ix_m hp2 rfl ⟨by decide, ne_nil ?_⟩⟩
    have q2 : ∀ (d : Int) (μ' : Mu), 0 ≤ d → d < many → PenTo (b + 1) (μ.set k (.lst (List.set [Va.d (.lst (cs.map D.int)), .d (.int a), .d (.int g)] 1 (.d (.int (a + 1)))))) μ' k → Q (.d (.int d)) μ' := fun d μ' d1 d2 d3 => q d μ' d1 d2 (by
      obtain ⟨cs', a', g', e, r⟩ := d3
      exact ⟨cs', a', g', by rw [e, List.set_set], r⟩)
    cases cs with
    | nil =>
      simp only [ne_eq, not_true_eq_false, decide_false, Bool.false_eq_true, if_false]
      exact drawE (b := b) hp2 ha hb hg hbb h1 h2 q2
    | cons c0 cs =>
      simp only [ne_eq, reduceCtorEq, not_false_eq_true, decide_true, if_true]
      refine ix_m hp2 rfl (ix_m hp2 rfl (len_seq rfl ⟨by simp, ?_⟩))
      have hlp : (0 : Int) < (((c0 :: cs).map D.int).length : Int) := by simp
      have i1 : 0 ≤ a % (((c0 :: cs).map D.int).length : Int) := Int.emod_nonneg _ (by omega)
      have i2 : a % (((c0 :: cs).map D.int).length : Int) < (((c0 :: cs).map D.int).length : Int) := Int.emod_lt_of_pos _ hlp
      have i3 : (a % (((c0 :: cs).map D.int).length : Int)).toNat < (c0 :: cs).length := by
        rw [List.length_map] at i1 i2 ⊢
        omega
      refine ix_s (x := .int (c0 :: cs)[(a % (((c0 :: cs).map D.int).length : Int)).toNat]) rfl i1 (by rw [List.getElem?_map, List.getElem?_eq_getElem i3]; rfl) ?_
      exact drawE (b := b) hp2 ha hb hg hbb h1 h2 q2

/-! ### _law_pick, _law_great -/
def sp_pick : Pr := fun args μ Q _ => ∃ b k x xs, args = [.m k, .d x] ∧ seqD x = some xs ∧ Pen b μ k ∧ b ≤ 1000000 ∧ xs ≠ [] ∧ xs.length ≤ 1000 ∧ ∀ (y : D) (μ' : Mu), y ∈ xs → PenTo (b + 1) μ μ' k → Q (.d y) μ'
theorem H_pick (args : List Va) (μ : Mu) (Q : EQ) (QE : XQ) (h : sp_pick args μ Q QE) : T_l_pick sp_draw QE { nx := fun _ μ' => Fin μ Q (.d .non) μ', rt := Fin μ Q } (args.map some ++ List.replicate (N_l_pick.length - args.length) none) μ := by
  obtain ⟨b, k, x, xs, rfl, hs, hp, hb, hne, hl, q⟩ := h
  have hl0 : 0 < xs.length := List.length_pos_iff.mpr hne
  simp only [T_l_pick, dSeq, dRet, dRetN, dIf, dSkip, dSet, dCa, dCons, dNil, dVar, dC, dOp, dTest, dAnd, dOr, dNot, dAndV, dOrV, dNotV, dIfE, dCall, dChain, dTup, dLst, dSl, dPart, dNoP, dLt, dLe, dGt, dGe, dMinus, dPlus, dDrop, dPar, List.getElem?_cons_zero, List.getElem?_cons_succ, List.length_cons, List.length_nil, List.map_cons, List.map_nil, List.cons_append, List.nil_append, List.append_nil, List.replicate_succ, List.replicate_zero, List.set_cons_zero, List.set_cons_succ]
  refine len_seq hs ⟨b, k, xs.length, rfl, hp, hb, by omega, ?_, fun d μ' d1 d2 hm => ?_⟩
  · have e : (1000 : Int) < 2 ^ 200 := by decide
    omega
  · have hd : d.toNat < xs.length := by omega
    exact ix_s hs d1 (List.getElem?_eq_getElem hd) (.now (q _ _ (List.getElem_mem hd) hm))
def sp_great : Pr := fun args μ Q _ => ∃ b k, args = [.m k] ∧ Pen b μ k ∧ b ≤ 900000 ∧ ∀ (n : Int) (μ' : Mu), 0 ≤ n → n < 2 ^ 180 → PenTo (b + 11) μ μ' k → Q (.d (.int n)) μ'
theorem pow17 (i : Nat) : (2 : Int) ^ (17 * (i + 1)) = 131072 * 2 ^ (17 * i) := by
  rw [show 17 * (i + 1) = 17 + 17 * i from by omega, Int.pow_add]
  rfl
theorem upTo_len (n : Int) : (DL.upTo 0 n).length = n.toNat := by simp [DL.upTo]
theorem ipow_le {i j : Nat} (h : i ≤ j) : (2 : Int) ^ i ≤ 2 ^ j := by
  have z := Nat.pow_le_pow_right (show 0 < 2 by decide) h
  have e1 : ((2 ^ i : Nat) : Int) = (2 : Int) ^ i := by simp
  have e2 : ((2 ^ j : Nat) : Int) = (2 : Int) ^ j := by simp
  omega
theorem H_great (args : List Va) (μ : Mu) (Q : EQ) (QE : XQ) (h : sp_great args μ Q QE) : T_l_great sp_pick sp_draw QE { nx := fun _ μ' => Fin μ Q (.d .non) μ', rt := Fin μ Q } (args.map some ++ List.replicate (N_l_great.length - args.length) none) μ := by
  obtain ⟨b, k, rfl, hp, hb, q⟩ := h
  have lk := hp.lt
  simp only [T_l_great, unD, Option.map_some, dFor, dRange1, dSeq, dRet, dRetN, dIf, dSkip, dSet, dCa, dCons, dNil, dVar, dC, dOp, dTest, dAnd, dOr, dNot, dAndV, dOrV, dNotV, dIfE, dCall, dChain, dTup, dLst, dSl, dPart, dNoP, dLt, dLe, dGt, dGe, dMinus, dPlus, dDrop, dPar, List.getElem?_cons_zero, List.getElem?_cons_succ, List.length_cons, List.length_nil, List.map_cons, List.map_nil, List.cons_append, List.nil_append, List.append_nil, List.replicate_succ, List.replicate_zero, List.set_cons_zero, List.set_cons_succ]
  refine ⟨b, k, 10, rfl, hp, by omega, by decide, by decide, fun d μ1 d1 d2 m1 => ?_⟩
  have p1 := m1.pen lk
  refine ⟨by decide, b + 1, k, _, _, rfl, rfl, p1, by omega, by simp, by decide, fun y μ2 hy m2 => ?_⟩
  have lk2 : k < μ2.length := by rw [m2.len, m1.len]; exact lk
  have fin : ∀ t : Nat, t ≤ 9 → forC (fun _ => True) (fun x D' es' μ' => dgName 2 x es' (fun es2 μ2 => (dSeq (dSet (dOp dPlus (dOp dTimes (dVar 1) (dC (.int 99991))) (dCall sp_draw [] QE (dCons (dVar 0) (dCons (dC (.int 99991)) dNil)))) 1) dSkip) D' es2 μ2) μ')
      { nx := dSeq (dRet (dVar 1)) dSkip { nx := fun _ μ' => Fin μ Q (.d .non) μ', rt := Fin μ Q }, rt := Fin μ Q } (DL.upTo 0 (t : Int)) [some (.m k), some (.d (.int d)), none] μ2 := by
    intro t ht
    refine forC_inv (fun _ => True) (fun xs es μ' => ∃ (num : Int) (o : Option Va), es = [some (.m k), some (.d (.int num)), o] ∧ xs.length ≤ t ∧ 0 ≤ num ∧ num < 2 ^ (17 * (t - xs.length + 1)) ∧ PenTo (b + 2 + (t - xs.length)) μ μ' k) (fun _ _ _ _ => trivial) ?_ ?_ _ _ _ ?_
    · rintro es μ' ⟨num, o, rfl, _, n1, n2, m⟩
      simp only [dSeq, dRet, dRetN, dIf, dSkip, dSet, dCa, dCons, dNil, dVar, dC, dOp, dTest, dAnd, dOr, dNot, dAndV, dOrV, dNotV, dIfE, dCall, dChain, dTup, dLst, dSl, dPart, dNoP, dLt, dLe, dGt, dGe, dMinus, dPlus, dDrop, dPar, List.getElem?_cons_zero, List.getElem?_cons_succ, List.length_cons, List.length_nil, List.map_cons, List.map_nil, List.cons_append, List.nil_append, List.append_nil, List.replicate_succ, List.replicate_zero, List.set_cons_zero, List.set_cons_succ]
      refine .now (q _ _ n1 (Int.lt_of_lt_of_le n2 (ipow_le ?_)) (m.le (by simp only [List.length_nil]; omega)))
      simp only [List.length_nil]
      omega
    · rintro x xs es μ' nx ⟨num, o, rfl, hx, n1, n2, m⟩ hnx
      have lk' : k < μ'.length := by rw [m.len]; exact lk
      simp only [List.length_cons] at hx n2 m
      simp only [dgName, dTimes, dSeq, dRet, dRetN, dIf, dSkip, dSet, dCa, dCons, dNil, dVar, dC, dOp, dTest, dAnd, dOr, dNot, dAndV, dOrV, dNotV, dIfE, dCall, dChain, dTup, dLst, dSl, dPart, dNoP, dLt, dLe, dGt, dGe, dMinus, dPlus, dDrop, dPar, List.getElem?_cons_zero, List.getElem?_cons_succ, List.length_cons, List.length_nil, List.map_cons, List.map_nil, List.cons_append, List.nil_append, List.append_nil, List.replicate_succ, List.replicate_zero, List.set_cons_zero, List.set_cons_succ]
      refine ⟨.inl (.inr ⟨by decide, by decide⟩), b + 2 + (t - (xs.length + 1)), k, 99991, rfl, m.pen lk, by omega, by decide, by decide, fun e μ3 e1 e2 m3 => ?_⟩
      refine hnx _ _ ⟨num * 99991 + e, some (.d x), rfl, by omega, by omega, ?_, (m.tr m3).le (by omega)⟩
      have ex : t - xs.length + 1 = (t - (xs.length + 1) + 1) + 1 := by omega
      rw [ex, pow17]
      omega
    · refine ⟨d, none, rfl, by rw [upTo_len]; omega, d1, ?_, ?_⟩
      · rw [upTo_len]
        refine Int.lt_of_lt_of_le d2 (Int.le_trans (show (10 : Int) ≤ 2 ^ 17 by decide) (ipow_le (by omega)))
      · exact (m1.tr m2).le (by omega)
  simp only [List.mem_cons, List.not_mem_nil, or_false] at hy
  rcases hy with rfl | rfl | rfl | rfl | rfl | rfl
  · exact ⟨⟨by decide, by decide⟩, fin 0 (by decide)⟩
  · exact ⟨⟨by decide, by decide⟩, fin 0 (by decide)⟩
  · exact ⟨⟨by decide, by decide⟩, fin 1 (by decide)⟩
  · exact ⟨⟨by decide, by decide⟩, fin 3 (by decide)⟩
  · exact ⟨⟨by decide, by decide⟩, fin 5 (by decide)⟩
  · exact ⟨⟨by decide, by decide⟩, fin 9 (by decide)⟩
/-! ### _law_worth -/
def sp_lw (n : Nat) : Pr := fun args μ Q _ => ∃ m c cs, args = [.d (toD m), .d c] ∧ seqD c = some (cs.map D.int) ∧ gd cs.length n m ∧ n ≤ 20 ∧ csOk cs ∧ Q (.d (.int (ev cs m))) μ
theorem H_lw0 {p : Pr} (args : List Va) (μ : Mu) (Q : EQ) (QE : XQ) (h : sp_lw 0 args μ Q QE) : T_l_worth p QE { nx := fun _ μ' => Fin μ Q (.d .non) μ', rt := Fin μ Q } (args.map some ++ List.replicate (N_l_worth.length - args.length) none) μ := by
  obtain ⟨m, c, cs, _, _, h, _⟩ := h
  exact h.elim
theorem H_lw (n : Nat) (args : List Va) (μ : Mu) (Q : EQ) (QE : XQ) (h : sp_lw (n + 1) args μ Q QE) : T_l_worth (sp_lw n) QE { nx := fun _ μ' => Fin μ Q (.d .non) μ', rt := Fin μ Q } (args.map some ++ List.replicate (N_l_worth.length - args.length) none) μ := by
  obtain ⟨m, c, cs, rfl, hsc, hg, hn, hc, q⟩ := h
  cases m with
  | cnt l i =>
    have hi : i.toNat < cs.length := by have h1 := hg.1; have h2 := hg.2; omega
    have e : ev cs (.cnt l i) = cs[i.toNat] := by
      rw [ev, List.getD_eq_getElem?_getD, List.getElem?_eq_getElem hi]
      rfl
    have hs : seqD (toD (.cnt l i)) = some [.str "count", .int i] := seq_con _ _
    simp only [T_l_worth, dEq, dEqG, Bool.false_bne, dSeq, dRet, dRetN, dIf, dSkip, dSet, dCa, dCons, dNil, dVar, dC, dOp, dTest, dAnd, dOr, dNot, dAndV, dOrV, dNotV, dIfE, dCall, dChain, dTup, dLst, dSl, dPart, dNoP, dLt, dLe, dGt, dGe, dMinus, dPlus, dDrop, dPar, List.getElem?_cons_zero, List.getElem?_cons_succ, List.length_cons, List.length_nil, List.map_cons, List.map_nil, List.cons_append, List.nil_append, List.append_nil, List.replicate_succ, List.replicate_zero, List.set_cons_zero, List.set_cons_succ]
    refine ix_s hs (by decide) rfl (ix_s hs (by decide) rfl ?_)
    simp only [decide_true, if_true, dSeq, dRet, dRetN, dIf, dSkip, dSet, dCa, dCons, dNil, dVar, dC, dOp, dTest, dAnd, dOr, dNot, dAndV, dOrV, dNotV, dIfE, dCall, dChain, dTup, dLst, dSl, dPart, dNoP, dLt, dLe, dGt, dGe, dMinus, dPlus, dDrop, dPar, List.getElem?_cons_zero, List.getElem?_cons_succ, List.length_cons, List.length_nil, List.map_cons, List.map_nil, List.cons_append, List.nil_append, List.append_nil, List.replicate_succ, List.replicate_zero, List.set_cons_zero, List.set_cons_succ]
    refine ix_s hsc hg.1 (x := .int cs[i.toNat]) (by rw [List.getElem?_map, List.getElem?_eq_getElem hi]; rfl) ?_
    rw [e] at q
    exact .now q
  | num l i =>
    have hs : seqD (toD (.num l i)) = some [.str "number", .int i] := seq_con _ _
    simp only [T_l_worth, dEq, dEqG, Bool.false_bne, dSeq, dRet, dRetN, dIf, dSkip, dSet, dCa, dCons, dNil, dVar, dC, dOp, dTest, dAnd, dOr, dNot, dAndV, dOrV, dNotV, dIfE, dCall, dChain, dTup, dLst, dSl, dPart, dNoP, dLt, dLe, dGt, dGe, dMinus, dPlus, dDrop, dPar, List.getElem?_cons_zero, List.getElem?_cons_succ, List.length_cons, List.length_nil, List.map_cons, List.map_nil, List.cons_append, List.nil_append, List.append_nil, List.replicate_succ, List.replicate_zero, List.set_cons_zero, List.set_cons_succ]
    refine ix_s hs (by decide) rfl (ix_s hs (by decide) rfl ?_)
    simp only [show ¬ (("number" : Str) = "count") from by decide, decide_false, Bool.false_eq_true, if_false, decide_true, if_true, dSeq, dRet, dRetN, dIf, dSkip, dSet, dCa, dCons, dNil, dVar, dC, dOp, dTest, dAnd, dOr, dNot, dAndV, dOrV, dNotV, dIfE, dCall, dChain, dTup, dLst, dSl, dPart, dNoP, dLt, dLe, dGt, dGe, dMinus, dPlus, dDrop, dPar, List.getElem?_cons_zero, List.getElem?_cons_succ, List.length_cons, List.length_nil, List.map_cons, List.map_nil, List.cons_append, List.nil_append, List.append_nil, List.replicate_succ, List.replicate_zero, List.set_cons_zero, List.set_cons_succ]
    exact .now q
  | tim l k a =>
    have hs : seqD (toD (.tim l k a)) = some [.str "times", .int k, toD a] := seq_con _ _
    simp only [T_l_worth, dEq, dEqG, Bool.false_bne, dSeq, dRet, dRetN, dIf, dSkip, dSet, dCa, dCons, dNil, dVar, dC, dOp, dTest, dAnd, dOr, dNot, dAndV, dOrV, dNotV, dIfE, dCall, dChain, dTup, dLst, dSl, dPart, dNoP, dLt, dLe, dGt, dGe, dMinus, dPlus, dDrop, dPar, List.getElem?_cons_zero, List.getElem?_cons_succ, List.length_cons, List.length_nil, List.map_cons, List.map_nil, List.cons_append, List.nil_append, List.append_nil, List.replicate_succ, List.replicate_zero, List.set_cons_zero, List.set_cons_succ]
    obtain ⟨a1, a2⟩ := ev_b hc rfl hg.2
    refine ix_s hs (by decide) rfl (ix_s hs (by decide) rfl ?_)
    simp only [show ¬ (("times" : Str) = "count") from by decide, show ¬ (("times" : Str) = "number") from by decide, decide_false, Bool.false_eq_true, if_false, decide_true, if_true, dSeq, dRet, dRetN, dIf, dSkip, dSet, dCa, dCons, dNil, dVar, dC, dOp, dTest, dAnd, dOr, dNot, dAndV, dOrV, dNotV, dIfE, dCall, dChain, dTup, dLst, dSl, dPart, dNoP, dLt, dLe, dGt, dGe, dMinus, dPlus, dDrop, dPar, List.getElem?_cons_zero, List.getElem?_cons_succ, List.length_cons, List.length_nil, List.map_cons, List.map_nil, List.cons_append, List.nil_append, List.append_nil, List.replicate_succ, List.replicate_zero, List.set_cons_zero, List.set_cons_succ]
    refine ix_s hs (by decide) rfl ⟨a, c, cs, rfl, hsc, hg.2, by omega, hc, ?_⟩
    simp only [dTimes]
    exact ⟨cmul_ok hg.1.1 hg.1.2 a1 a2 (by omega), .now q⟩
  | dv r l a k =>
    have hs : seqD (toD (.dv r l a k)) = some [.str (wdd r), toD a, .int k] := seq_con _ _
    simp only [T_l_worth, dEq, dEqG, Bool.false_bne, dSeq, dRet, dRetN, dIf, dSkip, dSet, dCa, dCons, dNil, dVar, dC, dOp, dTest, dAnd, dOr, dNot, dAndV, dOrV, dNotV, dIfE, dCall, dChain, dTup, dLst, dSl, dPart, dNoP, dLt, dLe, dGt, dGe, dMinus, dPlus, dDrop, dPar, List.getElem?_cons_zero, List.getElem?_cons_succ, List.length_cons, List.length_nil, List.map_cons, List.map_nil, List.cons_append, List.nil_append, List.append_nil, List.replicate_succ, List.replicate_zero, List.set_cons_zero, List.set_cons_succ]
    obtain ⟨w1, w2, w3⟩ := wdd_ne r
    refine ix_s hs (by decide) rfl (ix_s hs (by decide) rfl ?_)
    simp only [w1, w2, w3, decide_false, Bool.false_eq_true, if_false, dSeq, dRet, dRetN, dIf, dSkip, dSet, dCa, dCons, dNil, dVar, dC, dOp, dTest, dAnd, dOr, dNot, dAndV, dOrV, dNotV, dIfE, dCall, dChain, dTup, dLst, dSl, dPart, dNoP, dLt, dLe, dGt, dGe, dMinus, dPlus, dDrop, dPar, List.getElem?_cons_zero, List.getElem?_cons_succ, List.length_cons, List.length_nil, List.map_cons, List.map_nil, List.cons_append, List.nil_append, List.append_nil, List.replicate_succ, List.replicate_zero, List.set_cons_zero, List.set_cons_succ]
    refine ⟨a, c, cs, rfl, hsc, hg.2, by omega, hc, ix_s hs (by decide) rfl ?_⟩
    obtain ⟨a1, a2⟩ := ev_b hc rfl hg.2
    have hk := hg.1.1
    have d1 : 0 ≤ ev cs a / k := Int.ediv_nonneg a1 (by omega)
    have d2 : ev cs a / k ≤ ev cs a := Int.ediv_le_self _ a1
    rw [ev] at q
    cases r with
    | false =>
      simp only [show wdd false = "floor" from rfl, decide_true, if_true, dFdiv, dSeq, dRet, dRetN, dIf, dSkip, dSet, dCa, dCons, dNil, dVar, dC, dOp, dTest, dAnd, dOr, dNot, dAndV, dOrV, dNotV, dIfE, dCall, dChain, dTup, dLst, dSl, dPart, dNoP, dLt, dLe, dGt, dGe, dMinus, dPlus, dDrop, dPar, List.getElem?_cons_zero, List.getElem?_cons_succ, List.length_cons, List.length_nil, List.map_cons, List.map_nil, List.cons_append, List.nil_append, List.append_nil, List.replicate_succ, List.replicate_zero, List.set_cons_zero, List.set_cons_succ]
      exact ⟨cdiv_ok hg.1.1 hg.1.2, .now q⟩
    | true =>
      simp only [show wdd true = "rest" from rfl, decide_false, Bool.false_eq_true, if_false, decide_true, if_true, show ¬ (("rest" : Str) = "floor") from by decide, dFdiv, dTimes, dSeq, dRet, dRetN, dIf, dSkip, dSet, dCa, dCons, dNil, dVar, dC, dOp, dTest, dAnd, dOr, dNot, dAndV, dOrV, dNotV, dIfE, dCall, dChain, dTup, dLst, dSl, dPart, dNoP, dLt, dLe, dGt, dGe, dMinus, dPlus, dDrop, dPar, List.getElem?_cons_zero, List.getElem?_cons_succ, List.length_cons, List.length_nil, List.map_cons, List.map_nil, List.cons_append, List.nil_append, List.append_nil, List.replicate_succ, List.replicate_zero, List.set_cons_zero, List.set_cons_succ]
      refine ⟨cdiv_ok hg.1.1 hg.1.2, cmul_ok d1 (Int.lt_of_le_of_lt d2 a2) (by omega) hg.1.2 (by omega), ?_⟩
      rw [if_pos rfl, Int.emod_def, Int.mul_comm] at q
      exact .now q
  | two w l a b =>
    have hs : seqD (toD (.two w l a b)) = some [.str (wd2 w), toD a, toD b] := seq_con _ _
    simp only [T_l_worth, dEq, dEqG, Bool.false_bne, dSeq, dRet, dRetN, dIf, dSkip, dSet, dCa, dCons, dNil, dVar, dC, dOp, dTest, dAnd, dOr, dNot, dAndV, dOrV, dNotV, dIfE, dCall, dChain, dTup, dLst, dSl, dPart, dNoP, dLt, dLe, dGt, dGe, dMinus, dPlus, dDrop, dPar, List.getElem?_cons_zero, List.getElem?_cons_succ, List.length_cons, List.length_nil, List.map_cons, List.map_nil, List.cons_append, List.nil_append, List.append_nil, List.replicate_succ, List.replicate_zero, List.set_cons_zero, List.set_cons_succ]
    obtain ⟨w1, w2, w3, w4, w5⟩ := wd_ne w
    refine ix_s hs (by decide) rfl (ix_s hs (by decide) rfl ?_)
    simp only [w1, w2, w3, decide_false, Bool.false_eq_true, if_false, dSeq, dRet, dRetN, dIf, dSkip, dSet, dCa, dCons, dNil, dVar, dC, dOp, dTest, dAnd, dOr, dNot, dAndV, dOrV, dNotV, dIfE, dCall, dChain, dTup, dLst, dSl, dPart, dNoP, dLt, dLe, dGt, dGe, dMinus, dPlus, dDrop, dPar, List.getElem?_cons_zero, List.getElem?_cons_succ, List.length_cons, List.length_nil, List.map_cons, List.map_nil, List.cons_append, List.nil_append, List.append_nil, List.replicate_succ, List.replicate_zero, List.set_cons_zero, List.set_cons_succ]
    refine ⟨a, c, cs, rfl, hsc, hg.1, by omega, hc, ix_s hs (by decide) rfl ?_⟩
    simp only [w4, w5, decide_false, Bool.false_eq_true, if_false, dSeq, dRet, dRetN, dIf, dSkip, dSet, dCa, dCons, dNil, dVar, dC, dOp, dTest, dAnd, dOr, dNot, dAndV, dOrV, dNotV, dIfE, dCall, dChain, dTup, dLst, dSl, dPart, dNoP, dLt, dLe, dGt, dGe, dMinus, dPlus, dDrop, dPar, List.getElem?_cons_zero, List.getElem?_cons_succ, List.length_cons, List.length_nil, List.map_cons, List.map_nil, List.cons_append, List.nil_append, List.append_nil, List.replicate_succ, List.replicate_zero, List.set_cons_zero, List.set_cons_succ]
    refine ⟨b, c, cs, rfl, hsc, hg.2, by omega, hc, ?_⟩
    match w, q with
    | 0, q =>
      simp only [show wd2 0 = "sum" from rfl, decide_true, if_true]
      exact .now q
    | 1, q =>
      simp only [show wd2 1 = "least" from rfl, show ¬ (("least" : Str) = "sum") from by decide, decide_false, Bool.false_eq_true, if_false, decide_true, if_true, gMin]
      exact .now q
    | k + 2, q =>
      simp only [show wd2 (k + 2) = "most" from rfl, show ¬ (("most" : Str) = "sum") from by decide, show ¬ (("most" : Str) = "least") from by decide, decide_false, Bool.false_eq_true, if_false, gMax]
      exact .now q

/-! ### _law_formula -/
def cF (n : Nat) : Nat := 20 * (2 ^ n - 1)
theorem cF_succ (n : Nat) : cF (n + 1) = 2 * cF n + 20 := by
  unfold cF
  have := Nat.one_le_two_pow (n := n)
  rw [Nat.pow_succ]
  omega
def sp_lf (n : Nat) : Pr := fun args μ Q _ => ∃ b k doors, args = [.m k, .d (.int doors), .d (.int (n : Int))] ∧ 1 ≤ n ∧ n ≤ 8 ∧ 1 ≤ doors ∧ doors ≤ 4 ∧ Pen b μ k ∧ b + cF n ≤ 800000 ∧ ∀ (m : Fm) (μ' : Mu), gd doors n m → PenTo (b + cF n) μ μ' k → Q (.d (toD m)) μ'
theorem H_lf0 {p : Pr} (args : List Va) (μ : Mu) (Q : EQ) (QE : XQ) (h : sp_lf 0 args μ Q QE) : T_l_formula p sp_great sp_pick sp_draw QE { nx := fun _ μ' => Fin μ Q (.d .non) μ', rt := Fin μ Q } (args.map some ++ List.replicate (N_l_formula.length - args.length) none) μ := by
  obtain ⟨b, k, doors, _, h, _⟩ := h
  omega
theorem in_str {w : Str} {ws : List Str} {b : Bool} {μ : Mu} {Q : EQ} (h : inV (.str w) (ws.map V.str) = b) (q : Q (.d (.bl b)) μ) : dIn (.d (.str w)) (.d (.tup (ws.map D.str))) μ Q := by
  have go : isFl (.str w) = true ∧ (ws.map D.str).all isFl = true ∧ Q (.d (.bl (if false = true then !inV (fl (.str w)) ((ws.map D.str).map fl) else inV (fl (.str w)) ((ws.map D.str).map fl)))) μ := by
    refine ⟨rfl, by simp [isFl], ?_⟩
    have e : (ws.map D.str).map fl = ws.map V.str := by rw [List.map_map]; rfl
    rw [if_neg (by decide), e]
    show Q (.d (.bl (inV (.str w) (ws.map V.str)))) μ
    rw [h]
    exact q
  exact go
theorem p180 : (2 : Int) ^ 180 < 2 ^ 200 := by decide
theorem H_lf (n : Nat) (args : List Va) (μ : Mu) (Q : EQ) (QE : XQ) (h : sp_lf (n + 1) args μ Q QE) : T_l_formula (sp_lf n) sp_great sp_pick sp_draw QE { nx := fun _ μ' => Fin μ Q (.d .non) μ', rt := Fin μ Q } (args.map some ++ List.replicate (N_l_formula.length - args.length) none) μ := by
  obtain ⟨b, k, doors, rfl, hn, hn8, hd1, hd4, hp, hb, q⟩ := h
  have lk := hp.lt
  have cs := cF_succ n
  have p2 := p180
  have e4 : (4 : Int) < 2 ^ 200 := by decide
  -- a count, or a number
  have leaf : ∀ (w : Str) (μ1 : Mu), PenTo (b + 1) μ μ1 k → (dRet (dIfE (dTest (dOp dGt (dCall sp_draw [] QE (dCons (dVar 0) (dCons (dC (.int 4)) dNil))) (dC (.int 0)))) (dTup (dCons (dC (.str "count")) (dCons (dCall sp_draw [] QE (dCons (dVar 0) (dCons (dVar 1) dNil))) dNil))) (dLst (dCons (dC (.str "number")) (dCons (dCall sp_great [] QE (dCons (dVar 0) dNil)) dNil)))))
      { nx := dSkip { nx := fun _ μ' => Fin μ Q (.d .non) μ', rt := Fin μ Q }, rt := Fin μ Q } [some (.m k), some (.d (.int doors)), some (.d (.int ((n + 1 : Nat) : Int))), some (.d (.str w)), none] μ1 := by
    intro w μ1 m1
    simp only [dSeq, dRet, dRetN, dIf, dSkip, dSet, dCa, dCons, dNil, dVar, dC, dOp, dTest, dAnd, dOr, dNot, dAndV, dOrV, dNotV, dIfE, dCall, dChain, dTup, dLst, dSl, dPart, dNoP, dLt, dLe, dGt, dGe, dMinus, dPlus, dDrop, dPar, List.getElem?_cons_zero, List.getElem?_cons_succ, List.length_cons, List.length_nil, List.map_cons, List.map_nil, List.cons_append, List.nil_append, List.append_nil, List.replicate_succ, List.replicate_zero, List.set_cons_zero, List.set_cons_succ]
    refine ⟨b + 1, k, 4, rfl, m1.pen lk, by omega, by decide, by omega, fun d μ2 _ _ m2 => ?_⟩
    have m2' := m1.tr m2
    by_cases h0 : (0 : Int) < d
    · simp only [h0, decide_true, if_true]
      refine ⟨b + 2, k, doors, rfl, m2'.pen lk, by omega, hd1, by omega, fun e μ3 e1 e2 m3 => ?_⟩
      simp only [unD, Option.map_some, List.length_cons, List.length_nil]
      exact ⟨by decide, .now (q (.cnt false e) _ ⟨e1, e2⟩ ((m2'.tr m3).le (by omega)))⟩
    · simp only [h0, decide_false, Bool.false_eq_true, if_false]
      refine ⟨b + 2, k, rfl, m2'.pen lk, by omega, fun e μ3 e1 e2 m3 => ?_⟩
      simp only [unD, Option.map_some, List.length_cons, List.length_nil]
      exact ⟨by decide, .now (q (.num true e) _ ⟨e1, by omega⟩ ((m2'.tr m3).le (by omega)))⟩
  simp only [T_l_formula, unD, Option.map_some, dEq, dEqG, Bool.false_bne, dSeq, dRet, dRetN, dIf, dSkip, dSet, dCa, dCons, dNil, dVar, dC, dOp, dTest, dAnd, dOr, dNot, dAndV, dOrV, dNotV, dIfE, dCall, dChain, dTup, dLst, dSl, dPart, dNoP, dLt, dLe, dGt, dGe, dMinus, dPlus, dDrop, dPar, List.getElem?_cons_zero, List.getElem?_cons_succ, List.length_cons, List.length_nil, List.map_cons, List.map_nil, List.cons_append, List.nil_append, List.append_nil, List.replicate_succ, List.replicate_zero, List.set_cons_zero, List.set_cons_succ]
  refine ⟨by decide, b, k, _, _, rfl, rfl, hp, by omega, by simp, by decide, fun y μ1 hy m1 => ?_⟩
  have p1 := m1.pen lk
  by_cases hn1 : ((n + 1 : Nat) : Int) = 1
  · simp only [hn1, decide_true, if_true]
    have hy' : ∃ w, y = .str w := by
      simp only [List.mem_cons, List.not_mem_nil, or_false] at hy
      rcases hy with rfl | rfl | rfl | rfl | rfl | rfl | rfl | rfl | rfl <;> exact ⟨_, rfl⟩
    obtain ⟨w, rfl⟩ := hy'
    have z := leaf w μ1 m1
    simp only [dSeq, dRet, dRetN, dIf, dSkip, dSet, dCa, dCons, dNil, dVar, dC, dOp, dTest, dAnd, dOr, dNot, dAndV, dOrV, dNotV, dIfE, dCall, dChain, dTup, dLst, dSl, dPart, dNoP, dLt, dLe, dGt, dGe, dMinus, dPlus, dDrop, dPar, List.getElem?_cons_zero, List.getElem?_cons_succ, List.length_cons, List.length_nil, List.map_cons, List.map_nil, List.cons_append, List.nil_append, List.append_nil, List.replicate_succ, List.replicate_zero, List.set_cons_zero, List.set_cons_succ] at z
    exact z
  · simp only [hn1, decide_false, Bool.false_eq_true, if_false]
    have hn' : 1 ≤ n := by omega
    have en : ((n + 1 : Nat) : Int) - 1 = (n : Int) := by omega
    -- the parts
    have recu : ∀ (c : Nat) (μa : Mu) (R : EQ), PenTo c μ μa k → c + cF n ≤ 800000 → (∀ (m : Fm) (μ2 : Mu), gd doors n m → PenTo (c + cF n) μ μ2 k → R (.d (toD m)) μ2) → sp_lf n [.m k, .d (.int doors), .d (.int (((n + 1 : Nat) : Int) - 1))] μa R QE := by
      intro c μa R ma hc hR
      rw [en]
      exact ⟨c, k, doors, rfl, hn', by omega, hd1, hd4, ma.pen lk, hc, fun m μ2 hg m2 => hR m μ2 hg (ma.tr m2)⟩
    -- a number out of five
    have five : ∀ (c : Nat) (μa : Mu) (z : Int) (R : EQ), 0 ≤ z → z < 10 → PenTo c μ μa k → c ≤ 800000 → (∀ (i : Int) (μ2 : Mu), 0 ≤ i → i < 2 ^ 180 → PenTo (c + 12) μ μ2 k → R (.d (.int i)) μ2) →
        sp_great [.m k] μa (fun v μ1 => match Option.map (fun x => D.int 0 :: x) (Option.map (fun x => D.int 1 :: x) (Option.map (fun x => D.int 2 :: x) (Option.map (fun x => D.int z :: x) (unD [v])))) with
          | some xs => xs.length ≤ 16777216 ∧ sp_pick [.m k, .d (.lst xs)] μ1 R QE
          | none => False) QE := by
      intro c μa z R z0 z1 ma hc hR
      have e180 : (10 : Int) < 2 ^ 180 := by decide
      refine ⟨c, k, rfl, ma.pen lk, by omega, fun e μ3 e1 e2 m3 => ?_⟩
      have m3' := ma.tr m3
      refine ⟨by simp, c + 11, k, _, _, rfl, rfl, m3'.pen lk, by omega, by simp, by simp, fun y μ4 hy m4 => ?_⟩
      have m4' := m3'.tr m4
      simp only [List.mem_cons, List.not_mem_nil, or_false] at hy
      rcases hy with rfl | rfl | rfl | rfl | rfl
      · exact hR _ _ (by omega) (by omega) m4'
      · exact hR _ _ (by omega) (by omega) m4'
      · exact hR _ _ (by omega) (by omega) m4'
      · exact hR _ _ (by omega) (by omega) m4'
      · exact hR _ _ e1 e2 m4'
    simp only [List.mem_cons, List.not_mem_nil, or_false] at hy
    rcases hy with rfl | rfl | rfl | rfl | rfl | rfl | rfl | rfl | rfl
    · simp only [decide_true, if_true]
      have z := leaf "count" μ1 m1
      simp only [dSeq, dRet, dRetN, dIf, dSkip, dSet, dCa, dCons, dNil, dVar, dC, dOp, dTest, dAnd, dOr, dNot, dAndV, dOrV, dNotV, dIfE, dCall, dChain, dTup, dLst, dSl, dPart, dNoP, dLt, dLe, dGt, dGe, dMinus, dPlus, dDrop, dPar, List.getElem?_cons_zero, List.getElem?_cons_succ, List.length_cons, List.length_nil, List.map_cons, List.map_nil, List.cons_append, List.nil_append, List.append_nil, List.replicate_succ, List.replicate_zero, List.set_cons_zero, List.set_cons_succ] at z
      exact z
    · simp only [decide_true, if_true]
      have z := leaf "count" μ1 m1
      simp only [dSeq, dRet, dRetN, dIf, dSkip, dSet, dCa, dCons, dNil, dVar, dC, dOp, dTest, dAnd, dOr, dNot, dAndV, dOrV, dNotV, dIfE, dCall, dChain, dTup, dLst, dSl, dPart, dNoP, dLt, dLe, dGt, dGe, dMinus, dPlus, dDrop, dPar, List.getElem?_cons_zero, List.getElem?_cons_succ, List.length_cons, List.length_nil, List.map_cons, List.map_nil, List.cons_append, List.nil_append, List.append_nil, List.replicate_succ, List.replicate_zero, List.set_cons_zero, List.set_cons_succ] at z
      exact z
    · simp only [show ¬ (("number" : Str) = "count") from by decide, decide_false, Bool.false_eq_true, if_false, decide_true, if_true]
      refine ⟨b + 1, k, rfl, p1, by omega, fun e μ3 e1 e2 m3 => ?_⟩
      simp only [unD, Option.map_some, List.length_cons, List.length_nil]
      exact ⟨by decide, .now (q (.num false e) _ ⟨e1, by omega⟩ ((m1.tr m3).le (by omega)))⟩
    · simp only [show ¬ (("sum" : Str) = "count") from by decide, show ¬ (("sum" : Str) = "number") from by decide, show ¬ (("sum" : Str) = "times") from by decide, decide_false, Bool.false_eq_true, if_false]
      refine recu (b + 1) _ _ m1 (by omega) fun m μ2 hg m2 => ⟨by decide, in_str (ws := ["floor", "rest"]) (b := false) (by decide) ?_⟩
      simp only [Bool.false_eq_true, if_false]
      refine recu _ _ _ m2 (by omega) fun m' μ3 hg' m3 => ?_
      simp only [unD, Option.map_some, List.length_cons, List.length_nil]
      exact ⟨by decide, .now (q (.two 0 false m m') _ ⟨hg, hg'⟩ (m3.le (by omega)))⟩
    · simp only [show ¬ (("times" : Str) = "count") from by decide, show ¬ (("times" : Str) = "number") from by decide, decide_false, Bool.false_eq_true, if_false, decide_true, if_true]
      refine recu (b + 1) _ _ m1 (by omega) fun m μ2 hg m2 => ?_
      refine five _ _ 7 _ (by decide) (by decide) m2 (by omega) fun i μ3 i1 i2 m3 => ?_
      simp only [unD, Option.map_some, List.length_cons, List.length_nil]
      exact ⟨by decide, .now (q (.tim true i m) _ ⟨⟨by omega, by omega⟩, hg⟩ (m3.le (by omega)))⟩
    · simp only [show ¬ (("floor" : Str) = "count") from by decide, show ¬ (("floor" : Str) = "number") from by decide, show ¬ (("floor" : Str) = "times") from by decide, decide_false, Bool.false_eq_true, if_false]
      refine recu (b + 1) _ _ m1 (by omega) fun m μ2 hg m2 => ⟨by decide, in_str (ws := ["floor", "rest"]) (b := true) (by decide) ?_⟩
      simp only [if_true]
      refine five _ _ 8 _ (by decide) (by decide) m2 (by omega) fun i μ3 i1 i2 m3 => ?_
      simp only [unD, Option.map_some, List.length_cons, List.length_nil]
      exact ⟨by decide, .now (q (.dv false false m (1 + i)) _ ⟨⟨by omega, by omega⟩, hg⟩ (m3.le (by omega)))⟩
    · simp only [show ¬ (("rest" : Str) = "count") from by decide, show ¬ (("rest" : Str) = "number") from by decide, show ¬ (("rest" : Str) = "times") from by decide, decide_false, Bool.false_eq_true, if_false]
      refine recu (b + 1) _ _ m1 (by omega) fun m μ2 hg m2 => ⟨by decide, in_str (ws := ["floor", "rest"]) (b := true) (by decide) ?_⟩
      simp only [if_true]
      refine five _ _ 8 _ (by decide) (by decide) m2 (by omega) fun i μ3 i1 i2 m3 => ?_
      simp only [unD, Option.map_some, List.length_cons, List.length_nil]
      exact ⟨by decide, .now (q (.dv true false m (1 + i)) _ ⟨⟨by omega, by omega⟩, hg⟩ (m3.le (by omega)))⟩
    · simp only [show ¬ (("least" : Str) = "count") from by decide, show ¬ (("least" : Str) = "number") from by decide, show ¬ (("least" : Str) = "times") from by decide, decide_false, Bool.false_eq_true, if_false]
      refine recu (b + 1) _ _ m1 (by omega) fun m μ2 hg m2 => ⟨by decide, in_str (ws := ["floor", "rest"]) (b := false) (by decide) ?_⟩
      simp only [Bool.false_eq_true, if_false]
      refine recu _ _ _ m2 (by omega) fun m' μ3 hg' m3 => ?_
      simp only [unD, Option.map_some, List.length_cons, List.length_nil]
      exact ⟨by decide, .now (q (.two 1 false m m') _ ⟨hg, hg'⟩ (m3.le (by omega)))⟩
    · simp only [show ¬ (("most" : Str) = "count") from by decide, show ¬ (("most" : Str) = "number") from by decide, show ¬ (("most" : Str) = "times") from by decide, decide_false, Bool.false_eq_true, if_false]
      refine recu (b + 1) _ _ m1 (by omega) fun m μ2 hg m2 => ⟨by decide, in_str (ws := ["floor", "rest"]) (b := false) (by decide) ?_⟩
      simp only [Bool.false_eq_true, if_false]
      refine recu _ _ _ m2 (by omega) fun m' μ3 hg' m3 => ?_
      simp only [unD, Option.map_some, List.length_cons, List.length_nil]
      exact ⟨by decide, .now (q (.two 2 false m m') _ ⟨hg, hg'⟩ (m3.le (by omega)))⟩

/-! ### _law_nested -/
theorem seq_toD (m : Fm) : ∃ xs, seqD (toD m) = some xs := by cases m <;> exact ⟨_, seq_con _ _⟩
def sp_nested : Pr := fun args μ Q _ => ∃ b k, args = [.m k, .d (.int 12)] ∧ Pen b μ k ∧ b ≤ 800000 ∧ ∀ (m : Fm) (μ' : Mu), gd 1 12 m → formedD 1 11 (toD m) = false → sz m ≤ 40 → PenTo (b + 11) μ μ' k → Q (.d (toD m)) μ'
theorem H_nested (args : List Va) (μ : Mu) (Q : EQ) (QE : XQ) (h : sp_nested args μ Q QE) : T_l_nested sp_pick QE { nx := fun _ μ' => Fin μ Q (.d .non) μ', rt := Fin μ Q } (args.map some ++ List.replicate (N_l_nested.length - args.length) none) μ := by
  obtain ⟨b, k, rfl, hp, hb, q⟩ := h
  have lk := hp.lt
  simp only [T_l_nested, unD, Option.map_some, dFor, dRange1, dSeq, dRet, dRetN, dIf, dSkip, dSet, dCa, dCons, dNil, dVar, dC, dOp, dTest, dAnd, dOr, dNot, dAndV, dOrV, dNotV, dIfE, dCall, dChain, dTup, dLst, dSl, dPart, dNoP, dLt, dLe, dGt, dGe, dMinus, dPlus, dDrop, dPar, List.getElem?_cons_zero, List.getElem?_cons_succ, List.length_cons, List.length_nil, List.map_cons, List.map_nil, List.cons_append, List.nil_append, List.append_nil, List.replicate_succ, List.replicate_zero, List.set_cons_zero, List.set_cons_succ]
  refine ⟨by decide, ⟨by decide, by decide⟩, ?_⟩
  refine forC_inv (fun _ => True) (fun xs es μ' => ∃ (m : Fm) (o : Option Va), es = [some (.m k), some (.d (.int 12)), some (.d (toD m)), o] ∧ xs.length ≤ 11 ∧ gd 1 (12 - xs.length) m ∧ formedD 1 (11 - xs.length) (toD m) = false ∧ sz m ≤ 1 + 2 * (11 - xs.length) ∧ PenTo (b + (11 - xs.length)) μ μ' k) (fun _ _ _ _ => trivial) ?_ ?_ _ _ _ ?_
  · rintro es μ' ⟨m, o, rfl, _, h1, h2, h3, hm⟩
    simp only [dSeq, dRet, dRetN, dIf, dSkip, dSet, dCa, dCons, dNil, dVar, dC, dOp, dTest, dAnd, dOr, dNot, dAndV, dOrV, dNotV, dIfE, dCall, dChain, dTup, dLst, dSl, dPart, dNoP, dLt, dLe, dGt, dGe, dMinus, dPlus, dDrop, dPar, List.getElem?_cons_zero, List.getElem?_cons_succ, List.length_cons, List.length_nil, List.map_cons, List.map_nil, List.cons_append, List.nil_append, List.append_nil, List.replicate_succ, List.replicate_zero, List.set_cons_zero, List.set_cons_succ]
    exact .now (q m _ h1 h2 (by simp only [List.length_nil] at h3; omega) hm)
  · rintro x xs es μ' nx ⟨m, o, rfl, hl, h1, h2, h3, hm⟩ hnx
    simp only [List.length_cons] at hl h1 h2 h3 hm
    obtain ⟨j, hj⟩ : ∃ j, xs.length + j = 10 := ⟨10 - xs.length, by omega⟩
    have e1 : 12 - (xs.length + 1) = j + 1 := by omega
    have e2 : 11 - (xs.length + 1) = j := by omega
    have e3 : 12 - xs.length = j + 2 := by omega
    have e4 : 11 - xs.length = j + 1 := by omega
    rw [e1] at h1
    rw [e2] at h2 h3 hm
    obtain ⟨ys, hs⟩ := seq_toD m
    simp only [dgName, dSeq, dRet, dRetN, dIf, dSkip, dSet, dCa, dCons, dNil, dVar, dC, dOp, dTest, dAnd, dOr, dNot, dAndV, dOrV, dNotV, dIfE, dCall, dChain, dTup, dLst, dSl, dPart, dNoP, dLt, dLe, dGt, dGe, dMinus, dPlus, dDrop, dPar, List.getElem?_cons_zero, List.getElem?_cons_succ, List.length_cons, List.length_nil, List.map_cons, List.map_nil, List.cons_append, List.nil_append, List.append_nil, List.replicate_succ, List.replicate_zero, List.set_cons_zero, List.set_cons_succ]
    simp only [unD, Option.map_some, List.length_cons, List.length_nil]
    refine ⟨by decide, by decide, by decide, by decide, sl_seq hs fun cp _ _ _ => ?_⟩
    simp only [unD, Option.map_some, List.length_cons, List.length_nil]
    have nxt : ∀ (m' : Fm) (μ3 : Mu), gd 1 (j + 2) m' → formedD 1 (j + 1) (toD m') = false → sz m' ≤ sz m + 2 → PenTo (b + (j + 1)) μ μ3 k → nx [some (.m k), some (.d (.int 12)), some (.d (toD m')), some (.d x)] μ3 := fun m' μ3 g1 g2 g3 g4 =>
      hnx _ _ ⟨m', _, rfl, by omega, by rw [e3]; exact g1, by rw [e4]; exact g2, by rw [e4]; omega, by rw [e4]; exact g4⟩
    have hbig := gd_succ h1
    refine ⟨by decide, by decide, b + j, k, _, _, rfl, rfl, hm.pen lk, by omega, by simp, by simp, fun y μ2 hy m2 => ?_⟩
    have m2' : PenTo (b + (j + 1)) μ μ2 k := (hm.tr m2).le (by omega)
    simp only [List.mem_cons, List.not_mem_nil, or_false] at hy
    rcases hy with rfl | rfl | rfl | rfl
    · refine ix0 rfl ?_
      simp only [dEq, dEqG, Bool.false_bne, show ¬ (("times" : Str) = "least") from by decide, decide_false, Bool.false_eq_true, if_false]
      refine nxt (.tim false 1 m) _ ⟨⟨by decide, by decide⟩, h1⟩ ?_ (by rw [sz]; omega) m2'
      rw [toD, formed_con look_tim, parts_nf, h2, Bool.and_false]
    · refine ix0 rfl ?_
      simp only [dEq, dEqG, Bool.false_bne, show ¬ (("floor" : Str) = "least") from by decide, decide_false, Bool.false_eq_true, if_false]
      refine nxt (.dv false false m 1) _ ⟨⟨by decide, by decide⟩, h1⟩ ?_ (by rw [sz]; omega) m2'
      rw [toD, formed_con (look_dv false), parts_fk, h2, Bool.false_and]
    · refine ix0 rfl ?_
      simp only [dEq, dEqG, Bool.false_bne, show ¬ (("most" : Str) = "least") from by decide, decide_false, Bool.false_eq_true, if_false]
      refine nxt (.two 2 false (.num false 0) m) _ ⟨⟨by decide, by decide⟩, h1⟩ ?_ (by rw [sz, sz]; omega) m2'
      rw [toD, formed_con (look_two 2), parts_ff, h2, Bool.and_false]
    · refine ix0 rfl ?_
      simp only [dEq, dEqG, Bool.false_bne, decide_true, if_true, dSeq, dRet, dRetN, dIf, dSkip, dSet, dCa, dCons, dNil, dVar, dC, dOp, dTest, dAnd, dOr, dNot, dAndV, dOrV, dNotV, dIfE, dCall, dChain, dTup, dLst, dSl, dPart, dNoP, dLt, dLe, dGt, dGe, dMinus, dPlus, dDrop, dPar, List.getElem?_cons_zero, List.getElem?_cons_succ, List.length_cons, List.length_nil, List.map_cons, List.map_nil, List.cons_append, List.nil_append, List.append_nil, List.replicate_succ, List.replicate_zero, List.set_cons_zero, List.set_cons_succ]
      refine ix_s rfl (by decide) rfl ?_
      simp only [unD, Option.map_some, List.length_cons, List.length_nil]
      refine ⟨by decide, by decide, ?_⟩
      refine nxt (.two 0 true m (.num false 1)) _ ⟨h1, ⟨by decide, by decide⟩⟩ ?_ (by rw [sz, sz]; omega) m2'
      rw [toD, formed_con (look_two 0), parts_ff, h2, Bool.false_and]
  · refine ⟨.cnt false 0, none, rfl, by rw [upTo_len]; decide, ?_, ?_, ?_, ?_⟩
    · rw [upTo_len]
      exact ⟨by decide, by decide⟩
    · rw [upTo_len]
      rfl
    · rw [sz]
      omega
    · exact (PenTo.rfl hp).le (by omega)
/-! ### _law_made -/
def sp_mk (n : Nat) : Pr := fun args μ Q _ => ∃ many : Int, args = [.d (.int many)] ∧ 1 ≤ many ∧ many % 2 = 1 ∧ many + 1 ≤ 2 ^ n ∧ n ≤ 10 ∧ ∀ m : Fm, gd 1 n m → (sz m : Int) = many → (∀ c : Int, 2 * ev [c] m = c * (many + 1)) → Q (.d (toD m)) μ
theorem H_mk0 {p : Pr} (args : List Va) (μ : Mu) (Q : EQ) (QE : XQ) (h : sp_mk 0 args μ Q QE) : T_l_made p QE { nx := fun _ μ' => Fin μ Q (.d .non) μ', rt := Fin μ Q } (args.map some ++ List.replicate (N_l_made.length - args.length) none) μ := by
  obtain ⟨many, _, h1, _, h2, _⟩ := h
  have : (2 : Int) ^ 0 = 1 := rfl
  omega
theorem H_mk (n : Nat) (args : List Va) (μ : Mu) (Q : EQ) (QE : XQ) (h : sp_mk (n + 1) args μ Q QE) : T_l_made (sp_mk n) QE { nx := fun _ μ' => Fin μ Q (.d .non) μ', rt := Fin μ Q } (args.map some ++ List.replicate (N_l_made.length - args.length) none) μ := by
  obtain ⟨many, rfl, h1, h2, h3, hn, q⟩ := h
  simp only [T_l_made, unD, Option.map_some, dEq, dEqG, Bool.false_bne, dFdiv, dTimes, dSeq, dRet, dRetN, dIf, dSkip, dSet, dCa, dCons, dNil, dVar, dC, dOp, dTest, dAnd, dOr, dNot, dAndV, dOrV, dNotV, dIfE, dCall, dChain, dTup, dLst, dSl, dPart, dNoP, dLt, dLe, dGt, dGe, dMinus, dPlus, dDrop, dPar, List.getElem?_cons_zero, List.getElem?_cons_succ, List.length_cons, List.length_nil, List.map_cons, List.map_nil, List.cons_append, List.nil_append, List.append_nil, List.replicate_succ, List.replicate_zero, List.set_cons_zero, List.set_cons_succ]
  by_cases e1 : many = 1
  · simp only [e1, decide_true, if_true]
    refine ⟨by decide, .now (q (.cnt false 0) ⟨by decide, by decide⟩ (by rw [e1]; rfl) fun c => ?_)⟩
    rw [e1, ev]
    simp
    omega
  · simp only [e1, decide_false, Bool.false_eq_true, if_false]
    have cd : ∀ z : Int, CDivW z 2 := fun z => ⟨by decide, by decide⟩
    refine ⟨cd _, cd _, .inl (.inr ⟨by decide, by decide⟩), ?_⟩
    have ep : (2 : Int) ^ (n + 1) = 2 * 2 ^ n := by rw [Int.pow_succ, Int.mul_comm]
    have pp : (1 : Int) ≤ 2 ^ n := pow200_pos n
    have ev2 : n ≠ 0 → (2 : Int) ^ n % 2 = 0 := fun h0 => by
      obtain ⟨j, rfl⟩ := Nat.exists_eq_succ_of_ne_zero h0
      rw [Nat.succ_eq_add_one, Int.pow_succ]
      omega
    have n0 : n ≠ 0 := fun z => by
      subst z
      have : (2 : Int) ^ 0 = 1 := rfl
      omega
    have e2 := ev2 n0
    have go : ∀ one : Int, 1 ≤ one → one % 2 = 1 → one + 1 ≤ 2 ^ n → 1 ≤ many - 1 - one → (many - 1 - one) % 2 = 1 → many - 1 - one + 1 ≤ 2 ^ n →
        sp_mk n [.d (.int one)] μ (fun v μ1 => sp_mk n [.d (.int (many - 1 - one))] μ1 (fun v_1 μ1 => match unD [.d (.str "sum"), v, v_1] with
          | some xs => xs.length ≤ 16777216 ∧ Fin μ Q (.d (.tup xs)) μ1
          | none => False) QE) QE := by
      intro one o1 o2 o3 r1 r2 r3
      refine ⟨one, rfl, o1, o2, o3, by omega, fun m g1 s1 v1 => ⟨_, rfl, r1, r2, r3, by omega, fun m' g2 s2 v2 => ?_⟩⟩
      simp only [unD, Option.map_some, List.length_cons, List.length_nil]
      refine ⟨by decide, .now (q (.two 0 false m m') ⟨g1, g2⟩ ?_ fun c => ?_)⟩
      · rw [sz]
        omega
      · have a1 := v1 c
        have a2 := v2 c
        rw [ev]
        have e5 : c * (many + 1) = c * (one + 1) + c * (many - 1 - one + 1) := by
          rw [← Int.mul_add]
          congr 1
          omega
        omega
    by_cases ho : (many - 1) / 2 - (many - 1) / 2 / 2 * 2 = 1
    · simp only [ho, decide_true, if_true]
      exact go _ (by omega) (by omega) (by omega) (by omega) (by omega) (by omega)
    · simp only [ho, decide_false, Bool.false_eq_true, if_false]
      exact go _ (by omega) (by omega) (by omega) (by omega) (by omega) (by omega)

/-! ### _law_spoilt -/
def wd : Fm → Str
  | .cnt _ _ => "count"
  | .num _ _ => "number"
  | .two w _ _ _ => wd2 w
  | .tim _ _ _ => "times"
  | .dv r _ _ _ => wdd r
def rs : Fm → List D
  | .cnt _ i => [.int i]
  | .num _ n => [.int n]
  | .two _ _ a b => [toD a, toD b]
  | .tim _ n a => [.int n, toD a]
  | .dv _ _ a k => [toD a, .int k]
def its (m : Fm) : List D := .str (wd m) :: rs m
def inn : Fm → List Int
  | .cnt _ _ => []
  | .num _ _ => []
  | .two _ _ _ _ => [1, 2]
  | .tim _ _ _ => [2]
  | .dv _ _ _ _ => [1]
theorem seq_its (m : Fm) : seqD (toD m) = some (its m) := by cases m <;> exact seq_con _ _
theorem look_wd (m : Fm) : ∃ sh, shapeL.lookup (wd m) = some sh ∧ sh.cps.size = (rs m).length := by
  cases m with
  | cnt l i => exact ⟨_, look_cnt, rfl⟩
  | num l i => exact ⟨_, look_num, rfl⟩
  | two w l a b => exact ⟨_, look_two w, rfl⟩
  | tim l k a => exact ⟨_, look_tim, rfl⟩
  | dv r l a k => exact ⟨_, look_dv r, rfl⟩
def badF (doors : Int) (x : D) : Prop := ∀ d, formedD doors d x = false
section
variable {doors : Int}
theorem bad_seq {x : D} (h : ∀ rc : D → Bool, formIn rc doors (seqD x) = false) : badF doors x := fun d => by
  cases d with
  | zero => rfl
  | succ d => exact h _
theorem bad_fl {x : D} (h : isFl x = true) : badF doors x := bad_seq fun rc => by cases x <;> first | rfl | cases h
theorem bad_nil {l : Bool} : badF doors (con l []) := bad_seq fun rc => by rw [seq_con]; rfl
theorem bad_head {l : Bool} {y : D} {r : List D} (h : isS y = false) : badF doors (con l (y :: r)) := bad_seq fun rc => by
  rw [seq_con]
  cases y <;> first | rfl | cases h
theorem bad_word {l : Bool} {w : Str} {r : List D} (h : shapeL.lookup w = none) : badF doors (con l (.str w :: r)) := bad_seq fun rc => by
  rw [seq_con]
  show partsD rc doors r (shapeL.lookup w) = false
  rw [h]
  rfl
theorem bad_len {l : Bool} {w : Str} {r : List D} (h : ∀ sh, shapeL.lookup w = some sh → r.length ≠ sh.cps.size) : badF doors (con l (.str w :: r)) := bad_seq fun rc => by
  rw [seq_con]
  show partsD rc doors r (shapeL.lookup w) = false
  cases e : shapeL.lookup w with
  | none => rfl
  | some sh =>
    unfold partsD
    simp only [h sh e, decide_false, Bool.false_and]
theorem bad_parts {l : Bool} {w sh : Str} {r : List D} (h : shapeL.lookup w = some sh) (hp : ∀ d, partsD (formedD doors d) doors r (some sh) = false) : badF doors (con l (.str w :: r)) := fun d => by
  cases d with
  | zero => rfl
  | succ d => rw [formed_con h, hp]
/-- a part that is none -/
theorem bad_at {m : Fm} {l : Bool} {i : Int} {x : D} (hi : i ∈ inn m) (hx : badF doors x) : badF doors (con l ((its m).set i.toNat x)) := by
  cases m with
  | cnt l' j => simp [inn] at hi
  | num l' j => simp [inn] at hi
  | two w l' a b =>
    simp only [inn, List.mem_cons, List.not_mem_nil, or_false] at hi
    rcases hi with rfl | rfl
    · exact bad_parts (look_two w) fun d => by
        show partsD (formedD doors d) doors [x, toD b] (some "ff") = false
        rw [parts_ff, hx d, Bool.false_and]
    · exact bad_parts (look_two w) fun d => by
        show partsD (formedD doors d) doors [toD a, x] (some "ff") = false
        rw [parts_ff, hx d, Bool.and_false]
  | tim l' k a =>
    simp only [inn, List.mem_cons, List.not_mem_nil, or_false] at hi
    subst hi
    exact bad_parts look_tim fun d => by
      show partsD (formedD doors d) doors [.int k, x] (some "nf") = false
      rw [parts_nf, hx d, Bool.and_false]
  | dv r l' a k =>
    simp only [inn, List.mem_cons, List.not_mem_nil, or_false] at hi
    subst hi
    exact bad_parts (look_dv r) fun d => by
      show partsD (formedD doors d) doors [x, .int k] (some "fk") = false
      rw [parts_fk, hx d, Bool.false_and]
end
/-- the child at such a place -/
theorem child {doors : Int} {n : Nat} {m : Fm} {i : Int} (hg : gd doors (n + 1) m) (hi : i ∈ inn m) : 0 ≤ i ∧ i < (its m).length ∧ ∃ c, (its m)[i.toNat]? = some (toD c) ∧ gd doors n c := by
  cases m with
  | cnt l' j => simp [inn] at hi
  | num l' j => simp [inn] at hi
  | two w l' a b =>
    simp only [inn, List.mem_cons, List.not_mem_nil, or_false] at hi
    rcases hi with rfl | rfl
    · exact ⟨by decide, by simp [its, rs], a, rfl, hg.1⟩
    · exact ⟨by decide, by simp [its, rs], b, rfl, hg.2⟩
  | tim l' k a =>
    simp only [inn, List.mem_cons, List.not_mem_nil, or_false] at hi
    subst hi
    exact ⟨by decide, by simp [its, rs], a, rfl, hg.2⟩
  | dv r l' a k =>
    simp only [inn, List.mem_cons, List.not_mem_nil, or_false] at hi
    subst hi
    exact ⟨by decide, by simp [its, rs], a, rfl, hg.2⟩
theorem ok_its {doors : Int} {n : Nat} {m : Fm} (hg : gd doors (n + 1) m) : (its m).length ≤ 3 ∧ 2 ≤ (its m).length ∧ ∀ y ∈ its m, okN n y = true := by
  have z := okN_at (ok_toD hg) (seq_its m)
  refine ⟨?_, ?_, z.2⟩ <;> cases m <;> simp [its, rs]
theorem ok_set {n : Nat} {xs : List D} {i : Nat} {x : D} (h : ∀ y ∈ xs, okN n y = true) (hx : okN n x = true) : ∀ y ∈ xs.set i x, okN n y = true := fun y hy => by
  rcases List.mem_or_eq_of_mem_set hy with e | e
  · exact h y e
  · rw [e]
    exact hx
/-! ### a store with one list more -/
structure Wk (b : Nat) (μ μ' : Mu) (k : Nat) : Prop where
  pen : Pen b μ' k
  len : μ'.length = μ.length + 1
  same : ∀ j, j < μ.length → j ≠ k → μ'[j]? = μ[j]?
theorem Wk.step {b c k : Nat} {μ μ' μ'' : Mu} (h : Wk b μ μ' k) (t : PenTo c μ' μ'' k) (lk : k < μ.length) : Wk c μ μ'' k ∧ ∀ j, j ≠ k → μ''[j]? = μ'[j]? := by
  have lk' : k < μ'.length := by rw [h.len]; omega
  have ot : ∀ j, j ≠ k → μ''[j]? = μ'[j]? := fun j hj => by
    obtain ⟨cs, a, g, e, _⟩ := t
    rw [e, List.getElem?_set_ne (Ne.symm hj)]
  exact ⟨⟨t.pen lk', by rw [t.len]; exact h.len, fun j h1 h2 => (ot j h2).trans (h.same j h1 h2)⟩, ot⟩
theorem Wk.put {b k : Nat} {μ μ' : Mu} {o : MO} (h : Wk b μ μ' k) (lk : k < μ.length) : Wk b μ (μ'.set μ.length o) k := by
  refine ⟨?_, by rw [List.length_set]; exact h.len, fun j h1 h2 => ?_⟩
  · obtain ⟨cs, a, g, e, r⟩ := h.pen
    exact ⟨cs, a, g, by rw [List.getElem?_set_ne (by omega)]; exact e, r⟩
  · rw [List.getElem?_set_ne (by omega)]
    exact h.same j h1 h2
theorem fin_cut {b k : Nat} {μ μ' : Mu} {Q : EQ} {x : D} (h : Wk b μ μ' k) (lk : k < μ.length) (q : ∀ μ'', PenTo b μ μ'' k → Q (.d x) μ'') : Fin μ Q (.d x) μ' := by
  obtain ⟨cs, a, g, e, r⟩ := h.pen
  refine .cut μ.length ⟨Nat.le_refl _, fun j y hj hy => ?_⟩ trivial (q _ ⟨cs, a, g, ?_, r⟩)
  · by_cases hk : j = k
    · subst hk
      rw [e] at hy
      cases hy
      refine .inr fun v hv => ?_
      simp only [List.mem_cons, List.not_mem_nil, or_false] at hv
      rcases hv with rfl | rfl | rfl <;> trivial
    · rw [h.same j hj hk] at hy
      exact .inl hy
  · apply List.ext_getElem?
    intro j
    by_cases hj : j < μ.length
    · rw [List.getElem?_take_of_lt hj]
      by_cases hk : j = k
      · subst hk
        rw [e, List.getElem?_set_self lk]
      · rw [h.same j hj hk, List.getElem?_set_ne (Ne.symm hk)]
    · rw [List.getElem?_eq_none (by rw [List.length_take]; omega), List.getElem?_eq_none (by rw [List.length_set]; omega)]
theorem eq_nil {cs : List Int} {μ : Mu} {Q : EQ} (q : Q (.d (.bl (decide (cs = [])))) μ) : dEq (.d (.lst (cs.map D.int))) (.d (.lst [])) μ Q := by
  have e1 : norm μ (.d (.lst (cs.map D.int))) = some (.list (cs.map PyData.int)) := by
    show toP (.lst (cs.map D.int)) = _
    rw [toP, toPs_int]
    rfl
  have e2 : norm μ (.d (.lst [])) = some (.list []) := by
    show toP (.lst []) = _
    rw [toP, toPs]
    rfl
  have go : (match norm μ (.d (.lst (cs.map D.int))), norm μ (.d (.lst [])) with
    | some p, some q => SeqAt.shaped p = true ∧ SeqAt.shaped q = true ∧ Q (.d (.bl (false ^^ PyData.eqv p q))) μ
    | _, _ => False) := by
    rw [e1, e2]
    refine ⟨shaped_int cs, shaped_int [], ?_⟩
    have e3 : (false ^^ PyData.eqv (.list (cs.map PyData.int)) (.list [])) = decide (cs = []) := by
      cases cs with
      | nil => rfl
      | cons c cs => rfl
    rw [e3]
    exact q
  exact go
theorem lc_filt {C : Mu → Prop} {step : D → Mu → (Option D → Mu → Prop) → Prop} (f : D → D) (p : D → Bool) {Q : List D → Mu → Prop} {μ : Mu} (hC : C μ) : ∀ (xs : List D), (∀ x ∈ xs, ∀ k : Option D → Mu → Prop, k (if p x = true then some (f x) else none) μ → step x μ k) → Q ((xs.filter p).map f) μ → lcC C step xs μ Q
  | [], _, q => ⟨hC, q⟩
  | x :: xs, h, q => by
    refine ⟨hC, h x (List.mem_cons_self ..) _ ?_⟩
    cases hp : p x with
    | true =>
      rw [List.filter_cons_of_pos hp] at q
      rw [if_pos rfl]
      exact lc_filt f p hC xs (fun y hy => h y (List.mem_cons_of_mem _ hy)) q
    | false =>
      rw [List.filter_cons_of_neg (by rw [hp]; decide)] at q
      rw [if_neg (by decide)]
      exact lc_filt f p hC xs (fun y hy => h y (List.mem_cons_of_mem _ hy)) q
def sndP : D → D
  | .tup [_, y] => y
  | _ => .non
def fstP : D → D
  | .tup [i, _] => i
  | _ => .non
theorem inn_enum (m : Fm) : ((enumD (its m)).filter fun p => (seqD (sndP p)).isSome).map fstP = (inn m).map D.int := by
  cases m with
  | cnt l i => rfl
  | num l i => rfl
  | two w l a b =>
    show (([D.tup [.int 0, .str (wd2 w)], .tup [.int 1, toD a], .tup [.int 2, toD b]] : List D).filter fun p => (seqD (sndP p)).isSome).map fstP = _
    rw [List.filter_cons_of_neg (by simp [sndP, seqD]), List.filter_cons_of_pos (by simp [sndP, seq_its]), List.filter_cons_of_pos (by simp [sndP, seq_its])]
    rfl
  | tim l k a =>
    show (([D.tup [.int 0, .str "times"], .tup [.int 1, .int k], .tup [.int 2, toD a]] : List D).filter fun p => (seqD (sndP p)).isSome).map fstP = _
    rw [List.filter_cons_of_neg (by simp [sndP, seqD]), List.filter_cons_of_neg (by simp [sndP, seqD]), List.filter_cons_of_pos (by simp [sndP, seq_its])]
    rfl
  | dv r l a k =>
    show (([D.tup [.int 0, .str (wdd r)], .tup [.int 1, toD a], .tup [.int 2, .int k]] : List D).filter fun p => (seqD (sndP p)).isSome).map fstP = _
    rw [List.filter_cons_of_neg (by simp [sndP, seqD]), List.filter_cons_of_pos (by simp [sndP, seq_its]), List.filter_cons_of_neg (by simp [sndP, seqD])]
    rfl

/-! ### _law_spoilt, its end -/
def T_spE (QE : XQ) : STd := (dSeq (dSet (dCall sp_draw [] QE (dCons (dVar 0) (dCons (dC (.int 5)) dNil))) 6) (dSeq (dIf (dTest (dOp dEq (dVar 6) (dC (.int 0)))) (dSeq (dRet (dSl (dVar 3) dNoP (dPart (dNeg (dC (.int 1)))))) dSkip) dSkip) (dSeq (dIf (dTest (dOp dEq (dVar 6) (dC (.int 1)))) (dSeq (dRet (dCa gTuple (dCons (dOp dPlus (dVar 3) (dLst (dCons (dCall sp_pick [] QE (dCons (dVar 0) (dCons (dLst (dCons (dC (.int 0)) (dCons (dTup (dCons (dC (.str "count")) (dCons (dC (.int 0)) dNil))) (dCons (dC .non) dNil)))) dNil))) dNil))) dNil))) dSkip) dSkip) (dSeq (dIf (dTest (dOp dEq (dVar 6) (dC (.int 2)))) (dSeq (dRet (dOp dPlus (dLst (dCons (dCall sp_pick [] QE (dCons (dVar 0) (dCons (dLst (dCons (dC (.str "counts")) (dCons (dC (.str "Sum")) (dCons (dC (.str "")) (dCons (dC (.str "count ")) (dCons (dC .non) (dCons (dC (.int 0)) (dCons (dC (.str "door")) dNil)))))))) dNil))) dNil)) (dSl (dVar 3) (dPart (dC (.int 1))) dNoP))) dSkip) dSkip) (dSeq (dIf (dOr (dTest (dOp dEq (dVar 6) (dC (.int 3)))) (dTest (dOp dEq (dVar 4) (dLst dNil)))) (dSeq (dSet (dDic (pCons (dC (.str "count")) (dLst (dCons (dVar 2) (dCons (dNeg (dC (.int 1))) (dCons (dC (.bl true)) (dCons (dC .non) (dCons (dC (.str "0")) (dCons (dTup (dCons (dC (.int 0)) dNil)) dNil))))))) (pCons (dC (.str "number")) (dLst (dCons (dNeg (dC (.int 1))) (dCons (dC (.bl false)) (dCons (dC .non) (dCons (dC (.str "1")) (dCons (dLst (dCons (dC (.int 1)) dNil)) dNil)))))) pNil))) 7) (dSeq (dIf (dTest (dOp dIn (dOp dIx (dVar 3) (dC (.int 0))) (dTup (dCons (dC (.str "times")) (dCons (dC (.str "floor")) (dCons (dC (.str "rest")) dNil)))))) (dSeq (dSet (dCall sp_pick [] QE (dCons (dVar 0) (dCons (dOp dPlus (dLst (dCons (dNeg (dC (.int 1))) (dCons (dC (.bl true)) (dCons (dC .non) (dCons (dC (.str "2")) dNil))))) (dIfE (dTest (dOp dNe (dOp dIx (dVar 3) (dC (.int 0))) (dC (.str "times")))) (dLst (dCons (dC (.int 0)) dNil)) (dLst dNil))) dNil))) 8) (dSeq (dRet (dIfE (dTest (dOp dEq (dOp dIx (dVar 3) (dC (.int 0))) (dC (.str "times")))) (dLst (dCons (dOp dIx (dVar 3) (dC (.int 0))) (dCons (dVar 8) (dCons (dOp dIx (dVar 3) (dC (.int 2))) dNil)))) (dLst (dCons (dOp dIx (dVar 3) (dC (.int 0))) (dCons (dOp dIx (dVar 3) (dC (.int 1))) (dCons (dVar 8) dNil)))))) dSkip)) dSkip) (dSeq (dIf (dTest (dOp (dInD false) (dOp dIx (dVar 3) (dC (.int 0))) (dVar 7))) (dSeq (dRet (dTup (dCons (dOp dIx (dVar 3) (dC (.int 0))) (dCons (dCall sp_pick [] QE (dCons (dVar 0) (dCons (dOp dIxD (dVar 7) (dOp dIx (dVar 3) (dC (.int 0)))) dNil))) dNil)))) dSkip) dSkip) dSkip))) dSkip) (dSeq (dPut (dVar 3) (dCall sp_pick [] QE (dCons (dVar 0) (dCons (dVar 4) dNil))) (dCall sp_pick [] QE (dCons (dVar 0) (dCons (dLst (dCons (dC (.int 0)) (dCons (dC (.int 1)) (dCons (dC .non) (dCons (dTup dNil) (dCons (dLst dNil) (dCons (dC (.str "count")) (dCons (dTup (dCons (dC (.str "count")) dNil)) dNil)))))))) dNil)))) (dSeq (dRet (dVar 3)) dSkip)))))))
theorem cut_all {xs : List D} : DL.cutD xs none (some (-1)) = xs.take (xs.length - 1) := by
  unfold DL.cutD HT.sIx
  simp only [show ((-1 : Int) < 0) from by decide, if_true, Nat.sub_zero, List.drop_zero]
  congr 1
  omega
theorem ix_p {p : Nat} {xs : List D} {i : Int} {x : D} {μ : Mu} {Q : EQ} (h : μ[p]? = some (.lst (xs.map .d))) (h0 : 0 ≤ i) (hx : xs[i.toNat]? = some x) (q : Q (.d x) μ) : dIx (.m p) (.d (.int i)) μ Q := by
  have hl : i.toNat < xs.length := (List.getElem?_eq_some_iff.mp hx).1
  refine ix_m h (y := .d x) ?_ q
  rw [atI_ok h0 (by rw [List.length_map]; omega), List.getElem?_map, hx]
  rfl
theorem asL_p {p : Nat} {xs : List D} {μ : Mu} (h : μ[p]? = some (.lst (xs.map .d))) : asL μ (.m p) = some xs := by
  simp only [asL, h, unD_map]
theorem in_tdv (m : Fm) : inV (.str (wd m)) ((["times", "floor", "rest"] : List Str).map V.str) = (match m with
    | .tim _ _ _ => true
    | .dv _ _ _ _ => true
    | _ => false) := by
  match m with
  | .cnt _ _ => exact (by decide : inV (.str "count") ((["times", "floor", "rest"] : List Str).map V.str) = false)
  | .num _ _ => exact (by decide : inV (.str "number") ((["times", "floor", "rest"] : List Str).map V.str) = false)
  | .two 0 _ _ _ => exact (by decide : inV (.str "sum") ((["times", "floor", "rest"] : List Str).map V.str) = false)
  | .two 1 _ _ _ => exact (by decide : inV (.str "least") ((["times", "floor", "rest"] : List Str).map V.str) = false)
  | .two (w + 2) _ _ _ => exact (by decide : inV (.str "most") ((["times", "floor", "rest"] : List Str).map V.str) = false)
  | .tim _ _ _ => exact (by decide : inV (.str "times") ((["times", "floor", "rest"] : List Str).map V.str) = true)
  | .dv true _ _ _ => exact (by decide : inV (.str "rest") ((["times", "floor", "rest"] : List Str).map V.str) = true)
  | .dv false _ _ _ => exact (by decide : inV (.str "floor") ((["times", "floor", "rest"] : List Str).map V.str) = true)
theorem norm_ints {cs : List Int} {μ : Mu} : norm μ (.d (.lst (cs.map D.int))) = some (.list (cs.map PyData.int)) := by
  show toP (.lst (cs.map D.int)) = _
  rw [toP, toPs_int]
  rfl
theorem norm_nil {μ : Mu} : norm μ (.d (.lst [])) = some (.list []) := by
  show toP (.lst []) = _
  rw [toP, toPs]
  rfl
theorem eqv_nil {cs : List Int} : PyData.eqv (.list (cs.map PyData.int)) (.list []) = decide (cs = []) := by
  cases cs with
  | nil => rfl
  | cons c cs => rfl
theorem spE {n b k : Nat} {doors : Int} {m : Fm} {μ μ' : Mu} {Q : EQ} {QE : XQ} (hg : gd doors (n + 1) m) (hd1 : 1 ≤ doors) (W : Wk b μ μ' k) (hμ : μ'[μ.length]? = some (.lst ((its m).map .d))) (lk : k < μ.length) (hb : b + 4 ≤ 900000)
    (q : ∀ (x : D) (μ2 : Mu), okN (n + 3) x = true → badF doors x → PenTo (b + 4) μ μ2 k → Q (.d x) μ2) :
    T_spE QE { nx := fun _ μ2 => Fin μ Q (.d .non) μ2, rt := Fin μ Q } [some (.m k), some (.d (toD m)), some (.d (.int doors)), some (.m μ.length), some (.d (.lst ((inn m).map D.int))), none, none, none, none, none] μ' := by
  have hk : k ≠ μ.length := by omega
  obtain ⟨i3, i2, hok⟩ := ok_its hg
  have fin : ∀ (c : Nat) (x : D) (μ2 : Mu), Wk c μ μ2 k → c ≤ b + 4 → okN (n + 3) x = true → badF doors x → Fin μ Q (.d x) μ2 := fun c x μ2 w hc h1 h2 => fin_cut w lk fun μ3 t => q x μ3 h1 h2 (t.le hc)
  -- a pick
  have pick : ∀ (c : Nat) (μ2 : Mu) (xs : List D) (R : EQ), Wk c μ μ2 k → c ≤ 900000 → xs ≠ [] → xs.length ≤ 100 → (∀ (y : D) (μ3 : Mu), y ∈ xs → Wk (c + 1) μ μ3 k → (∀ j, j ≠ k → μ3[j]? = μ2[j]?) → R (.d y) μ3) → sp_pick [.m k, .d (.lst xs)] μ2 R QE := fun c μ2 xs R w hc h0 h1 hR =>
    ⟨c, k, _, _, rfl, rfl, w.pen, by omega, h0, by omega, fun y μ3 hy t => let ⟨w3, o3⟩ := w.step t lk; hR y μ3 hy w3 o3⟩
  obtain ⟨sh, hsh, hsz⟩ := look_wd m
  have lenr : (its m).length = (rs m).length + 1 := rfl
  have okr : ∀ y ∈ rs m, okN n y = true := fun y hy => hok y (List.mem_cons_of_mem _ hy)
  have up : ∀ {y : D}, okN n y = true → okN (n + 2) y = true := fun h => okN_le h (by omega)
  have notlen : ∀ (r : List D), r.length ≠ (rs m).length → ∀ sh', shapeL.lookup (wd m) = some sh' → r.length ≠ sh'.cps.size := fun r h sh' e => by
    rw [hsh] at e
    cases e
    rw [hsz]
    exact h
  simp only [T_spE, dNeg, dPut, dEq, dNe, dEqG, Bool.false_bne, Bool.true_bne, dSeq, dRet, dRetN, dIf, dSkip, dSet, dCa, dCons, dNil, dVar, dC, dOp, dTest, dAnd, dOr, dNot, dAndV, dOrV, dNotV, dIfE, dCall, dChain, dTup, dLst, dSl, dPart, dNoP, dLt, dLe, dGt, dGe, dMinus, dPlus, dDrop, dPar, List.getElem?_cons_zero, List.getElem?_cons_succ, List.length_cons, List.length_nil, List.map_cons, List.map_nil, List.cons_append, List.nil_append, List.append_nil, List.replicate_succ, List.replicate_zero, List.set_cons_zero, List.set_cons_succ]
  refine ⟨b, k, 5, rfl, W.pen, by omega, by decide, by decide, fun d μ2 d0 d5 t2 => ?_⟩
  obtain ⟨W2, o2⟩ := W.step t2 lk
  have hμ2 : μ2[μ.length]? = some (.lst ((its m).map .d)) := (o2 _ (Ne.symm hk)).trans hμ
  by_cases e0 : d = 0
  · simp only [e0, decide_true, if_true]
    have ga : gSl (.m μ.length) none (some (-1)) μ2 (Fin μ Q) := by
      simp only [gSl, asR, asL_p hμ2]
      rw [cut_all]
      refine fin _ (con true _) _ W2 (by omega) ?_ ?_
      · exact ok_con (by rw [List.length_take]; omega) fun y hy => up (hok y (List.mem_of_mem_take hy))
      · have e : (its m).take ((its m).length - 1) = .str (wd m) :: (rs m).take ((rs m).length - 1) := by
          rw [lenr]
          have : (rs m).length + 1 - 1 = ((rs m).length - 1) + 1 := by omega
          rw [this]
          rfl
        rw [e]
        exact bad_len (notlen _ (by rw [List.length_take]; omega))
    exact ga
  simp only [e0, decide_false, Bool.false_eq_true, if_false]
  by_cases e1 : d = 1
  · simp only [e1, decide_true, if_true, unD, Option.map_some]
    refine ⟨by simp, by simp, pick _ _ _ _ W2 (by omega) (by simp) (by simp) fun y μ3 hy W3 o3 => ?_⟩
    have hμ3 : μ3[μ.length]? = some (.lst ((its m).map .d)) := (o3 _ (Ne.symm hk)).trans hμ2
    refine ⟨by simp, ?_⟩
    have oky : okN (n + 2) y = true := by
      simp only [List.mem_cons, List.not_mem_nil, or_false] at hy
      rcases hy with rfl | rfl | rfl
      · exact ok_fl rfl
      · exact ok_con (l := false) (xs := [.str "count", .int 0]) (by simp) fun z hz => by
          simp only [List.mem_cons, List.not_mem_nil, or_false] at hz
          rcases hz with rfl | rfl <;> exact ok_fl rfl
      · exact ok_fl rfl
    rw [asL_p hμ3]
    simp only [asL]
    refine ⟨by rw [line24]; simp; omega, ?_⟩
    have fz : Fin μ Q (.d (con false (its m ++ [y]))) μ3 := by
      refine fin _ _ _ W3 (by omega) ?_ ?_
      · exact ok_con (by simp; omega) fun z hz => by
          rcases List.mem_append.mp hz with e | e
          · exact up (hok z e)
          · rw [List.mem_singleton.mp e]
            exact oky
      · exact bad_len (w := wd m) (r := rs m ++ [y]) (notlen _ (by simp))
    exact fz
  simp only [e1, decide_false, Bool.false_eq_true, if_false]
  by_cases e2 : d = 2
  · simp only [e2, decide_true, if_true, unD, Option.map_some]
    refine ⟨by simp, pick _ _ _ _ W2 (by omega) (by simp) (by simp) fun y μ3 hy W3 o3 => ?_⟩
    have hμ3 : μ3[μ.length]? = some (.lst ((its m).map .d)) := (o3 _ (Ne.symm hk)).trans hμ2
    refine ⟨by simp, ?_⟩
    have ga : ∀ R : EQ, R (.d (.lst (rs m))) μ3 → gSl (.m μ.length) (some 1) none μ3 R := fun R hR => by
      simp only [gSl, asR, asL_p hμ3]
      rw [show its m = .str (wd m) :: rs m from rfl, cut1]
      exact hR
    refine ga _ ?_
    simp only [asL]
    refine ⟨by rw [line24]; simp; omega, ?_⟩
    refine fin _ (con true (y :: rs m)) _ W3 (by omega) ?_ ?_
    · refine ok_con (by simp; omega) fun z hz => ?_
      rcases List.mem_cons.mp hz with e | e
      · rw [e]
        simp only [List.mem_cons, List.not_mem_nil, or_false] at hy
        rcases hy with rfl | rfl | rfl | rfl | rfl | rfl | rfl <;> exact ok_fl rfl
      · exact up (okr z e)
    · simp only [List.mem_cons, List.not_mem_nil, or_false] at hy
      rcases hy with rfl | rfl | rfl | rfl | rfl | rfl | rfl
      · exact bad_word (by decide)
      · exact bad_word (by decide)
      · exact bad_word (by decide)
      · exact bad_word (by decide)
      · exact bad_head rfl
      · exact bad_head rfl
      · exact bad_word (by decide)
  simp only [e2, decide_false, Bool.false_eq_true, if_false]
  -- the last: a part in its place
  have last : ∀ (o : Option Va), inn m ≠ [] → (dSeq (dPut (dVar 3) (dCall sp_pick [] QE (dCons (dVar 0) (dCons (dVar 4) dNil))) (dCall sp_pick [] QE (dCons (dVar 0) (dCons (dLst (dCons (dC (.int 0)) (dCons (dC (.int 1)) (dCons (dC .non) (dCons (dTup dNil) (dCons (dLst dNil) (dCons (dC (.str "count")) (dCons (dTup (dCons (dC (.str "count")) dNil)) dNil)))))))) dNil)))) (dSeq (dRet (dVar 3)) dSkip))
      { nx := fun _ μ2 => Fin μ Q (.d .non) μ2, rt := Fin μ Q } [some (.m k), some (.d (toD m)), some (.d (.int doors)), some (.m μ.length), some (.d (.lst ((inn m).map D.int))), none, some (.d (.int d)), o, none, none] μ2 := by
    intro o hne
    simp only [dPut, unD, Option.map_some, dSeq, dRet, dRetN, dIf, dSkip, dSet, dCa, dCons, dNil, dVar, dC, dOp, dTest, dAnd, dOr, dNot, dAndV, dOrV, dNotV, dIfE, dCall, dChain, dTup, dLst, dSl, dPart, dNoP, dLt, dLe, dGt, dGe, dMinus, dPlus, dDrop, dPar, List.getElem?_cons_zero, List.getElem?_cons_succ, List.length_cons, List.length_nil, List.map_cons, List.map_nil, List.cons_append, List.nil_append, List.append_nil, List.replicate_succ, List.replicate_zero, List.set_cons_zero, List.set_cons_succ]
    refine ⟨by simp, by simp, by simp, by simp, pick _ _ _ _ W2 (by omega) (by simp) (by simp) fun y μ3 hy W3 o3 => ?_⟩
    have hμ3 : μ3[μ.length]? = some (.lst ((its m).map .d)) := (o3 _ (Ne.symm hk)).trans hμ2
    refine pick _ _ _ _ W3 (by omega) (by simpa using hne) (by rw [List.length_map]; cases m <;> simp [inn]) fun z μ4 hz W4 o4 => ?_
    have hμ4 : μ4[μ.length]? = some (.lst ((its m).map .d)) := (o4 _ (Ne.symm hk)).trans hμ3
    obtain ⟨i, hi, rfl⟩ := List.mem_map.mp hz
    obtain ⟨c0, c1, ch, _, _⟩ := child hg hi
    have hix : ixN ((its m).map Va.d).length i = some i.toNat := by
      unfold ixN
      rw [if_pos c0, if_pos (by rw [List.length_map]; exact c1)]
    refine set_m hμ4 hix ?_
    have lp : μ.length < μ4.length := by rw [W4.len]; omega
    have es : (((its m).map Va.d).set i.toNat (.d y)) = ((its m).set i.toNat y).map Va.d := by rw [List.map_set]
    rw [es]
    refine .own (by rw [List.getElem?_set_self lp]) ?_
    rw [List.set_set]
    have okb : okN (n + 2) y = true ∧ badF doors y := by
      simp only [List.mem_cons, List.not_mem_nil, or_false] at hy
      rcases hy with rfl | rfl | rfl | rfl | rfl | rfl | rfl
      · exact ⟨ok_fl rfl, bad_fl rfl⟩
      · exact ⟨ok_fl rfl, bad_fl rfl⟩
      · exact ⟨ok_fl rfl, bad_fl rfl⟩
      · exact ⟨ok_con (l := false) (by simp) (fun _ h => nomatch h), bad_nil (l := false)⟩
      · exact ⟨ok_con (l := true) (by simp) (fun _ h => nomatch h), bad_nil (l := true)⟩
      · exact ⟨ok_fl rfl, bad_fl rfl⟩
      · exact ⟨ok_con (l := false) (xs := [.str "count"]) (by simp) (fun z hz => by rw [List.mem_singleton.mp hz]; exact ok_fl rfl), bad_len (l := false) (w := "count") (r := []) (fun sh' e => by rw [look_cnt] at e; cases e; decide)⟩
    refine fin _ (con true ((its m).set i.toNat y)) _ (W4.put lk) (by omega) ?_ (bad_at hi okb.2)
    exact ok_con (by rw [List.length_set]; omega) (ok_set (fun z h => up (hok z h)) okb.1)
  -- wrong numbers
  have W2b : b + 1 ≤ 900000 := by omega
  have okn : ∀ (y : D), y ∈ ([.int doors, .int (-1), .bl true, .non, .str "0", .tup [.int 0]] : List D) ∨ y ∈ ([.int (-1), .bl false, .non, .str "1", .lst [.int 1]] : List D) ∨ y ∈ ([.int (-1), .bl true, .non, .str "2", .int 0] : List D) → okN (n + 2) y = true := by
    intro y hy
    have o1 : ∀ (l : Bool) (i : Int), okN (n + 2) (con l [.int i]) = true := fun l i => ok_con (by simp) fun z hz => by
      rw [List.mem_singleton.mp hz]
      exact ok_fl rfl
    simp only [List.mem_cons, List.not_mem_nil, or_false] at hy
    rcases hy with (rfl | rfl | rfl | rfl | rfl | rfl) | (rfl | rfl | rfl | rfl | rfl) | (rfl | rfl | rfl | rfl | rfl) <;> first | exact ok_fl rfl | exact o1 false 0 | exact o1 true 1
  have three : ∀ (l : Bool) (x1 x2 x3 : D), okN (n + 2) x1 = true → okN (n + 2) x2 = true → okN (n + 2) x3 = true → okN (n + 3) (con l [x1, x2, x3]) = true := fun l x1 x2 x3 h1 h2 h3 => ok_con (by simp) fun z hz => by
    simp only [List.mem_cons, List.not_mem_nil, or_false] at hz
    rcases hz with rfl | rfl | rfl
    · exact h1
    · exact h2
    · exact h3
  have br : (dSeq (dSet (dDic (pCons (dC (.str "count")) (dLst (dCons (dVar 2) (dCons (dNeg (dC (.int 1))) (dCons (dC (.bl true)) (dCons (dC .non) (dCons (dC (.str "0")) (dCons (dTup (dCons (dC (.int 0)) dNil)) dNil))))))) (pCons (dC (.str "number")) (dLst (dCons (dNeg (dC (.int 1))) (dCons (dC (.bl false)) (dCons (dC .non) (dCons (dC (.str "1")) (dCons (dLst (dCons (dC (.int 1)) dNil)) dNil)))))) pNil))) 7) (dSeq (dIf (dTest (dOp dIn (dOp dIx (dVar 3) (dC (.int 0))) (dTup (dCons (dC (.str "times")) (dCons (dC (.str "floor")) (dCons (dC (.str "rest")) dNil)))))) (dSeq (dSet (dCall sp_pick [] QE (dCons (dVar 0) (dCons (dOp dPlus (dLst (dCons (dNeg (dC (.int 1))) (dCons (dC (.bl true)) (dCons (dC .non) (dCons (dC (.str "2")) dNil))))) (dIfE (dTest (dOp dNe (dOp dIx (dVar 3) (dC (.int 0))) (dC (.str "times")))) (dLst (dCons (dC (.int 0)) dNil)) (dLst dNil))) dNil))) 8) (dSeq (dRet (dIfE (dTest (dOp dEq (dOp dIx (dVar 3) (dC (.int 0))) (dC (.str "times")))) (dLst (dCons (dOp dIx (dVar 3) (dC (.int 0))) (dCons (dVar 8) (dCons (dOp dIx (dVar 3) (dC (.int 2))) dNil)))) (dLst (dCons (dOp dIx (dVar 3) (dC (.int 0))) (dCons (dOp dIx (dVar 3) (dC (.int 1))) (dCons (dVar 8) dNil)))))) dSkip)) dSkip) (dSeq (dIf (dTest (dOp (dInD false) (dOp dIx (dVar 3) (dC (.int 0))) (dVar 7))) (dSeq (dRet (dTup (dCons (dOp dIx (dVar 3) (dC (.int 0))) (dCons (dCall sp_pick [] QE (dCons (dVar 0) (dCons (dOp dIxD (dVar 7) (dOp dIx (dVar 3) (dC (.int 0)))) dNil))) dNil)))) dSkip) dSkip) dSkip))) { nx := (dSeq (dPut (dVar 3) (dCall sp_pick [] QE (dCons (dVar 0) (dCons (dVar 4) dNil))) (dCall sp_pick [] QE (dCons (dVar 0) (dCons (dLst (dCons (dC (.int 0)) (dCons (dC (.int 1)) (dCons (dC .non) (dCons (dTup dNil) (dCons (dLst dNil) (dCons (dC (.str "count")) (dCons (dTup (dCons (dC (.str "count")) dNil)) dNil)))))))) dNil)))) (dSeq (dRet (dVar 3)) dSkip)) { nx := fun _ μ2 => Fin μ Q (.d .non) μ2, rt := Fin μ Q }, rt := Fin μ Q }
      [some (.m k), some (.d (toD m)), some (.d (.int doors)), some (.m μ.length), some (.d (.lst ((inn m).map D.int))), none, some (.d (.int d)), none, none, none] μ2 := by
    simp only [dDic, pCons, pNil, dNeg, unD, Option.map_some, dNe, dEq, dEqG, Bool.false_bne, Bool.true_bne, dSeq, dRet, dRetN, dIf, dSkip, dSet, dCa, dCons, dNil, dVar, dC, dOp, dTest, dAnd, dOr, dNot, dAndV, dOrV, dNotV, dIfE, dCall, dChain, dTup, dLst, dSl, dPart, dNoP, dLt, dLe, dGt, dGe, dMinus, dPlus, dDrop, dPar, List.getElem?_cons_zero, List.getElem?_cons_succ, List.length_cons, List.length_nil, List.map_cons, List.map_nil, List.cons_append, List.nil_append, List.append_nil, List.replicate_succ, List.replicate_zero, List.set_cons_zero, List.set_cons_succ]
    refine ⟨by simp, by simp, by simp, by simp, ?_⟩
    simp only [unP, keyD]
    refine ⟨by decide, by decide, ix_p hμ2 (by decide) (x := .str (wd m)) rfl ⟨by simp, in_str (ws := ["times", "floor", "rest"]) (in_tdv m) ?_⟩⟩
    dsimp only
    cases m with
    | cnt l i =>
      simp only [Bool.false_eq_true, if_false, dSeq, dRet, dRetN, dIf, dSkip, dSet, dCa, dCons, dNil, dVar, dC, dOp, dTest, dAnd, dOr, dNot, dAndV, dOrV, dNotV, dIfE, dCall, dChain, dTup, dLst, dSl, dPart, dNoP, dLt, dLe, dGt, dGe, dMinus, dPlus, dDrop, dPar, List.getElem?_cons_zero, List.getElem?_cons_succ, List.length_cons, List.length_nil, List.map_cons, List.map_nil, List.cons_append, List.nil_append, List.append_nil, List.replicate_succ, List.replicate_zero, List.set_cons_zero, List.set_cons_succ]
      refine ix_p hμ2 (by decide) (x := .str "count") rfl ?_
      simp only [dInD, keyD, Bool.false_bne]
      rw [if_pos (show (dicAt [Sum.inr ("count" : Str), Sum.inr ("number" : Str)] [D.lst [.int doors, .int (-1), .bl true, .non, .str "0", .tup [.int 0]], .lst [.int (-1), .bl false, .non, .str "1", .lst [.int 1]]] (Sum.inr ("count" : Str))).isSome = true from rfl)]
      refine ix_p hμ2 (by decide) (x := .str "count") rfl (ix_p hμ2 (by decide) (x := .str "count") rfl ?_)
      have gx : ∀ R : EQ, R (.d (.lst [.int doors, .int (-1), .bl true, .non, .str "0", .tup [.int 0]])) μ2 → dIxD (.d (.dic [Sum.inr ("count" : Str), Sum.inr ("number" : Str)] [D.lst [.int doors, .int (-1), .bl true, .non, .str "0", .tup [.int 0]], .lst [.int (-1), .bl false, .non, .str "1", .lst [.int 1]]])) (.d (.str "count")) μ2 R := fun R hR => hR
      refine gx _ (pick _ _ _ _ W2 W2b (by simp) (by simp) fun y μ3 hy W3 o3 => ?_)
      simp only [unD, Option.map_some, List.length_cons, List.length_nil]
      refine ⟨by decide, fin _ (con false [.str "count", y]) _ W3 (by omega) (ok_con (by simp) fun z hz => ?_) (bad_parts look_cnt fun dd => ?_)⟩
      · simp only [List.mem_cons, List.not_mem_nil, or_false] at hz
        rcases hz with rfl | rfl
        · exact ok_fl rfl
        · exact okn _ (.inl hy)
      · rw [parts_d]
        simp only [List.mem_cons, List.not_mem_nil, or_false] at hy
        rcases hy with rfl | rfl | rfl | rfl | rfl | rfl
        · rw [fitI_d, decide_eq_false (show ¬ doors < doors by omega), Bool.and_false]
        · rw [fitI_d]; rfl
        · rfl
        · rfl
        · rfl
        · rfl
    | num l i =>
      simp only [Bool.false_eq_true, if_false, dSeq, dRet, dRetN, dIf, dSkip, dSet, dCa, dCons, dNil, dVar, dC, dOp, dTest, dAnd, dOr, dNot, dAndV, dOrV, dNotV, dIfE, dCall, dChain, dTup, dLst, dSl, dPart, dNoP, dLt, dLe, dGt, dGe, dMinus, dPlus, dDrop, dPar, List.getElem?_cons_zero, List.getElem?_cons_succ, List.length_cons, List.length_nil, List.map_cons, List.map_nil, List.cons_append, List.nil_append, List.append_nil, List.replicate_succ, List.replicate_zero, List.set_cons_zero, List.set_cons_succ]
      refine ix_p hμ2 (by decide) (x := .str "number") rfl ?_
      simp only [dInD, keyD, Bool.false_bne]
      rw [if_pos (show (dicAt [Sum.inr ("count" : Str), Sum.inr ("number" : Str)] [D.lst [.int doors, .int (-1), .bl true, .non, .str "0", .tup [.int 0]], .lst [.int (-1), .bl false, .non, .str "1", .lst [.int 1]]] (Sum.inr ("number" : Str))).isSome = true from rfl)]
      refine ix_p hμ2 (by decide) (x := .str "number") rfl (ix_p hμ2 (by decide) (x := .str "number") rfl ?_)
      have gx : ∀ R : EQ, R (.d (.lst [.int (-1), .bl false, .non, .str "1", .lst [.int 1]])) μ2 → dIxD (.d (.dic [Sum.inr ("count" : Str), Sum.inr ("number" : Str)] [D.lst [.int doors, .int (-1), .bl true, .non, .str "0", .tup [.int 0]], .lst [.int (-1), .bl false, .non, .str "1", .lst [.int 1]]])) (.d (.str "number")) μ2 R := fun R hR => hR
      refine gx _ (pick _ _ _ _ W2 W2b (by simp) (by simp) fun y μ3 hy W3 o3 => ?_)
      simp only [unD, Option.map_some, List.length_cons, List.length_nil]
      refine ⟨by decide, fin _ (con false [.str "number", y]) _ W3 (by omega) (ok_con (by simp) fun z hz => ?_) (bad_parts look_num fun dd => ?_)⟩
      · simp only [List.mem_cons, List.not_mem_nil, or_false] at hz
        rcases hz with rfl | rfl
        · exact ok_fl rfl
        · exact okn _ (.inr (.inl hy))
      · rw [parts_n]
        simp only [List.mem_cons, List.not_mem_nil, or_false] at hy
        rcases hy with rfl | rfl | rfl | rfl | rfl
        · rw [fitI_n]; rfl
        · rfl
        · rfl
        · rfl
        · rfl
    | two w l a c =>
      simp only [Bool.false_eq_true, if_false, dSeq, dRet, dRetN, dIf, dSkip, dSet, dCa, dCons, dNil, dVar, dC, dOp, dTest, dAnd, dOr, dNot, dAndV, dOrV, dNotV, dIfE, dCall, dChain, dTup, dLst, dSl, dPart, dNoP, dLt, dLe, dGt, dGe, dMinus, dPlus, dDrop, dPar, List.getElem?_cons_zero, List.getElem?_cons_succ, List.length_cons, List.length_nil, List.map_cons, List.map_nil, List.cons_append, List.nil_append, List.append_nil, List.replicate_succ, List.replicate_zero, List.set_cons_zero, List.set_cons_succ]
      refine ix_p hμ2 (by decide) (x := .str (wd2 w)) rfl ?_
      simp only [dInD, keyD, Bool.false_bne]
      rw [if_neg (show ¬ (dicAt [Sum.inr ("count" : Str), Sum.inr ("number" : Str)] [D.lst [.int doors, .int (-1), .bl true, .non, .str "0", .tup [.int 0]], .lst [.int (-1), .bl false, .non, .str "1", .lst [.int 1]]] (Sum.inr (wd2 w))).isSome = true from by
        match w with
        | 0 => exact fun h => Bool.noConfusion (show false = true from h)
        | 1 => exact fun h => Bool.noConfusion (show false = true from h)
        | j + 2 => exact fun h => Bool.noConfusion (show false = true from h))]
      exact last _ (by simp [inn])
    | tim l i a =>
      simp only [if_true, dSeq, dRet, dRetN, dIf, dSkip, dSet, dCa, dCons, dNil, dVar, dC, dOp, dTest, dAnd, dOr, dNot, dAndV, dOrV, dNotV, dIfE, dCall, dChain, dTup, dLst, dSl, dPart, dNoP, dLt, dLe, dGt, dGe, dMinus, dPlus, dDrop, dPar, List.getElem?_cons_zero, List.getElem?_cons_succ, List.length_cons, List.length_nil, List.map_cons, List.map_nil, List.cons_append, List.nil_append, List.append_nil, List.replicate_succ, List.replicate_zero, List.set_cons_zero, List.set_cons_succ]
      refine ⟨by decide, ix_p hμ2 (by decide) (x := .str "times") rfl ?_⟩
      simp only [decide_true, Bool.not_true, Bool.false_eq_true, if_false, asL, List.append_nil]
      refine ⟨by simp, by rw [line24]; simp, pick _ _ _ _ W2 W2b (by simp) (by simp) fun y μ3 hy W3 o3 => ?_⟩
      have hμ3 : μ3[μ.length]? = some (.lst ((its (.tim l i a)).map .d)) := (o3 _ (Ne.symm hk)).trans hμ2
      refine ix_p hμ3 (by decide) (x := .str "times") rfl ?_
      simp only [decide_true, if_true]
      refine ix_p hμ3 (by decide) (x := .str "times") rfl (ix_p hμ3 (by decide) (x := toD a) rfl ?_)
      simp only [unD, Option.map_some, List.length_cons, List.length_nil]
      have hy2 : okN (n + 2) y = true ∧ fitI doors "n" y = false := by
        refine ⟨okn y (.inr (.inr ?_)), ?_⟩
        · simp only [List.mem_cons, List.not_mem_nil, or_false] at hy ⊢
          rcases hy with h | h | h | h
          · exact .inl h
          · exact .inr (.inl h)
          · exact .inr (.inr (.inl h))
          · exact .inr (.inr (.inr (.inl h)))
        · simp only [List.mem_cons, List.not_mem_nil, or_false] at hy
          rcases hy with rfl | rfl | rfl | rfl
          · rw [fitI_n]; rfl
          · rfl
          · rfl
          · rfl
      refine ⟨by decide, fin _ (con true [.str "times", y, toD a]) _ W3 (by omega) (three _ _ _ _ (ok_fl rfl) hy2.1 (okN_le (ok_toD hg.2) (by omega))) (bad_parts look_tim fun dd => ?_)⟩
      rw [parts_nf, hy2.2, Bool.false_and]
    | dv r l a i =>
      obtain ⟨w1, w2, w3⟩ := wdd_ne r
      simp only [if_true, dSeq, dRet, dRetN, dIf, dSkip, dSet, dCa, dCons, dNil, dVar, dC, dOp, dTest, dAnd, dOr, dNot, dAndV, dOrV, dNotV, dIfE, dCall, dChain, dTup, dLst, dSl, dPart, dNoP, dLt, dLe, dGt, dGe, dMinus, dPlus, dDrop, dPar, List.getElem?_cons_zero, List.getElem?_cons_succ, List.length_cons, List.length_nil, List.map_cons, List.map_nil, List.cons_append, List.nil_append, List.append_nil, List.replicate_succ, List.replicate_zero, List.set_cons_zero, List.set_cons_succ]
      refine ⟨by decide, ix_p hμ2 (by decide) (x := .str (wdd r)) rfl ?_⟩
      simp only [w3, decide_false, Bool.not_false, if_true, asL]
      refine ⟨by decide, by rw [line24]; simp, pick _ _ _ _ W2 W2b (by simp) (by simp) fun y μ3 hy W3 o3 => ?_⟩
      have hμ3 : μ3[μ.length]? = some (.lst ((its (.dv r l a i)).map .d)) := (o3 _ (Ne.symm hk)).trans hμ2
      refine ix_p hμ3 (by decide) (x := .str (wdd r)) rfl ?_
      simp only [w3, decide_false, Bool.false_eq_true, if_false]
      refine ix_p hμ3 (by decide) (x := .str (wdd r)) rfl (ix_p hμ3 (by decide) (x := toD a) rfl ?_)
      simp only [unD, Option.map_some, List.length_cons, List.length_nil]
      have hy2 : okN (n + 2) y = true ∧ fitI doors "k" y = false := by
        simp only [List.cons_append, List.nil_append] at hy
        refine ⟨okn y (.inr (.inr hy)), ?_⟩
        simp only [List.mem_cons, List.not_mem_nil, or_false] at hy
        rcases hy with rfl | rfl | rfl | rfl | rfl
        · rw [fitI_k]; rfl
        · rfl
        · rfl
        · rfl
        · rw [fitI_k]; rfl
      refine ⟨by decide, fin _ (con true [.str (wdd r), toD a, y]) _ W3 (by omega) (three _ _ _ _ (ok_fl rfl) (okN_le (ok_toD hg.2) (by omega)) hy2.1) (bad_parts (look_dv r) fun dd => ?_)⟩
      rw [parts_fk, hy2.2, Bool.and_false]
  by_cases e3 : d = 3
  · simp only [e3, decide_true, if_true]
    have z := br
    rw [e3] at z
    simp only [dDic, pCons, pNil, dPut, dNeg, dNe, dEq, dEqG, Bool.false_bne, Bool.true_bne, dSeq, dRet, dRetN, dIf, dSkip, dSet, dCa, dCons, dNil, dVar, dC, dOp, dTest, dAnd, dOr, dNot, dAndV, dOrV, dNotV, dIfE, dCall, dChain, dTup, dLst, dSl, dPart, dNoP, dLt, dLe, dGt, dGe, dMinus, dPlus, dDrop, dPar, List.getElem?_cons_zero, List.getElem?_cons_succ, List.length_cons, List.length_nil, List.map_cons, List.map_nil, List.cons_append, List.nil_append, List.append_nil, List.replicate_succ, List.replicate_zero, List.set_cons_zero, List.set_cons_succ] at z
    exact z
  · simp only [e3, decide_false, Bool.false_eq_true, if_false]
    refine ⟨by simp [unD], ?_⟩
    rw [norm_ints, norm_nil]
    refine ⟨shaped_int _, shaped_int [], ?_⟩
    rw [eqv_nil]
    by_cases hnil : inn m = []
    · simp only [hnil, decide_true, if_true]
      have z := br
      simp only [dDic, pCons, pNil, dPut, dNeg, dNe, dEq, dEqG, Bool.false_bne, Bool.true_bne, dSeq, dRet, dRetN, dIf, dSkip, dSet, dCa, dCons, dNil, dVar, dC, dOp, dTest, dAnd, dOr, dNot, dAndV, dOrV, dNotV, dIfE, dCall, dChain, dTup, dLst, dSl, dPart, dNoP, dLt, dLe, dGt, dGe, dMinus, dPlus, dDrop, dPar, List.getElem?_cons_zero, List.getElem?_cons_succ, List.length_cons, List.length_nil, List.map_cons, List.map_nil, List.cons_append, List.nil_append, List.append_nil, List.replicate_succ, List.replicate_zero, List.set_cons_zero, List.set_cons_succ] at z
      rw [hnil] at z
      exact z
    · simp only [hnil, decide_false, Bool.false_eq_true, if_false]
      have z := last none hnil
      simp only [dPut, dSeq, dRet, dRetN, dIf, dSkip, dSet, dCa, dCons, dNil, dVar, dC, dOp, dTest, dAnd, dOr, dNot, dAndV, dOrV, dNotV, dIfE, dCall, dChain, dTup, dLst, dSl, dPart, dNoP, dLt, dLe, dGt, dGe, dMinus, dPlus, dDrop, dPar, List.getElem?_cons_zero, List.getElem?_cons_succ, List.length_cons, List.length_nil, List.map_cons, List.map_nil, List.cons_append, List.nil_append, List.append_nil, List.replicate_succ, List.replicate_zero, List.set_cons_zero, List.set_cons_succ] at z
      exact z

/-! ### _law_spoilt -/
def sp_sp (n : Nat) : Pr := fun args μ Q _ => ∃ b k doors m, args = [.m k, .d (toD m), .d (.int doors)] ∧ gd doors n m ∧ n ≤ 12 ∧ 1 ≤ doors ∧ doors ≤ 4 ∧ Pen b μ k ∧ b + 5 * n ≤ 800000 ∧
  ∀ (x : D) (μ' : Mu), okN (n + 2) x = true → badF doors x → PenTo (b + 5 * n) μ μ' k → Q (.d x) μ'
theorem H_sp0 {p : Pr} (args : List Va) (μ : Mu) (Q : EQ) (QE : XQ) (h : sp_sp 0 args μ Q QE) : T_l_spoilt sp_pick sp_draw p QE { nx := fun _ μ' => Fin μ Q (.d .non) μ', rt := Fin μ Q } (args.map some ++ List.replicate (N_l_spoilt.length - args.length) none) μ := by
  obtain ⟨b, k, doors, m, _, h, _⟩ := h
  exact h.elim
theorem enum_mem {xs : List D} {p : D} (h : p ∈ enumD xs) : ∃ (i : Nat) (y : D), p = .tup [.int (i : Int), y] ∧ y ∈ xs := by
  obtain ⟨i, hi⟩ := List.mem_iff_getElem?.mp h
  obtain ⟨y, e, rfl⟩ := enumD_at hi
  exact ⟨i, y, rfl, List.mem_of_getElem? e⟩
theorem H_sp (n : Nat) (args : List Va) (μ : Mu) (Q : EQ) (QE : XQ) (h : sp_sp (n + 1) args μ Q QE) : T_l_spoilt sp_pick sp_draw (sp_sp n) QE { nx := fun _ μ' => Fin μ Q (.d .non) μ', rt := Fin μ Q } (args.map some ++ List.replicate (N_l_spoilt.length - args.length) none) μ := by
  obtain ⟨b, k, doors, m, rfl, hg, hn, hd1, hd4, hp, hb, q⟩ := h
  have lk := hp.lt
  have hs := seq_its m
  obtain ⟨i3, i2, hok⟩ := ok_its hg
  have hk : k ≠ μ.length := by omega
  obtain ⟨μ1, e1⟩ : ∃ μ1, μ1 = μ ++ [MO.lst ((its m).map .d)] := ⟨_, rfl⟩
  have hμ1 : μ1[μ.length]? = some (.lst ((its m).map .d)) := by
    rw [e1, List.getElem?_append_right (Nat.le_refl _)]
    simp
  have W1 : Wk b μ μ1 k := by
    refine ⟨?_, by rw [e1]; simp, fun j h1 _ => by rw [e1, List.getElem?_append_left h1]⟩
    obtain ⟨cs, a, g, e, r⟩ := hp
    exact ⟨cs, a, g, by rw [e1, List.getElem?_append_left lk]; exact e, r⟩
  have rest := fun (c : Nat) (μ2 : Mu) (W : Wk c μ μ2 k) (hμ : μ2[μ.length]? = some (.lst ((its m).map .d))) (hc : c + 4 ≤ b + 5 * (n + 1)) => spE (QE := QE) (Q := Q) hg hd1 W hμ lk (by omega) (fun x μ3 h1 h2 t => q x μ3 h1 h2 (t.le hc))
  have restO : T_l_spoilt sp_pick sp_draw (sp_sp n) QE { nx := fun _ μ' => Fin μ Q (.d .non) μ', rt := Fin μ Q } [some (.m k), some (.d (toD m)), some (.d (.int doors)), none, none, none, none, none, none, none] μ := by
    simp only [T_l_spoilt, gListM, asV_seq hs, dSeq, dRet, dRetN, dIf, dSkip, dSet, dCa, dCons, dNil, dVar, dC, dOp, dTest, dAnd, dOr, dNot, dAndV, dOrV, dNotV, dIfE, dCall, dChain, dTup, dLst, dSl, dPart, dNoP, dLt, dLe, dGt, dGe, dMinus, dPlus, dDrop, dPar, List.getElem?_cons_zero, List.getElem?_cons_succ, List.length_cons, List.length_nil, List.map_cons, List.map_nil, List.cons_append, List.nil_append, List.append_nil, List.replicate_succ, List.replicate_zero, List.set_cons_zero, List.set_cons_succ]
    rw [← e1]
    have hit : itemsOf (.m μ.length) μ1 = some (false, its m, fun μ' => μ'[μ.length]? = some (.lst ((its m).map .d))) := by
      simp only [itemsOf, hμ1, unD_map]
    simp only [dLc, dEnum, dSeq, dRet, dRetN, dIf, dSkip, dSet, dCa, dCons, dNil, dVar, dC, dOp, dTest, dAnd, dOr, dNot, dAndV, dOrV, dNotV, dIfE, dCall, dChain, dTup, dLst, dSl, dPart, dNoP, dLt, dLe, dGt, dGe, dMinus, dPlus, dDrop, dPar, List.getElem?_cons_zero, List.getElem?_cons_succ, List.length_cons, List.length_nil, List.map_cons, List.map_nil, List.cons_append, List.nil_append, List.append_nil, List.replicate_succ, List.replicate_zero, List.set_cons_zero, List.set_cons_succ]
    rw [hit]
    refine ⟨by simp [enumD]; omega, lc_filt fstP (fun p => (seqD (sndP p)).isSome) hμ1 _ (fun p hp kk hkk => ?_) ?_⟩
    · obtain ⟨i, y, rfl, hy⟩ := enum_mem hp
      simp only [lcStep, wipeE, dgTup, dgCons, dgName, dgNil, dSeq, dRet, dRetN, dIf, dSkip, dSet, dCa, dCons, dNil, dVar, dC, dOp, dTest, dAnd, dOr, dNot, dAndV, dOrV, dNotV, dIfE, dCall, dChain, dTup, dLst, dSl, dPart, dNoP, dLt, dLe, dGt, dGe, dMinus, dPlus, dDrop, dPar, List.getElem?_cons_zero, List.getElem?_cons_succ, List.length_cons, List.length_nil, List.map_cons, List.map_nil, List.cons_append, List.nil_append, List.append_nil, List.replicate_succ, List.replicate_zero, List.set_cons_zero, List.set_cons_succ]
      refine ⟨trivial, by decide, g_lt (hok y hy) ?_⟩
      cases hz : (seqD y).isSome with
      | true =>
        simp only [sndP, hz, if_true] at hkk
        simp only [if_true]
        exact hkk
      | false =>
        simp only [sndP, hz, Bool.false_eq_true, if_false] at hkk
        simp only [Bool.false_eq_true, if_false]
        exact hkk
    · rw [inn_enum]
      refine ⟨by decide, ne_nil ?_⟩
      by_cases hnil : inn m = []
      · simp only [hnil, ne_eq, not_true_eq_false, decide_false, Bool.false_eq_true, if_false]
        have z := rest b μ1 W1 hμ1 (by omega)
        rw [hnil] at z
        exact z
      · simp only [hnil, ne_eq, not_false_eq_true, decide_true, if_true]
        refine ⟨b, k, 3, rfl, W1.pen, by omega, by decide, by decide, fun d μ2 d0 d3 t2 => ?_⟩
        obtain ⟨W2, o2⟩ := W1.step t2 lk
        have hμ2 : μ2[μ.length]? = some (.lst ((its m).map .d)) := (o2 _ (Ne.symm hk)).trans hμ1
        by_cases hd0 : (0 : Int) < d
        · simp only [hd0, decide_true, if_true]
          refine ⟨b + 1, k, _, _, rfl, rfl, W2.pen, by omega, by simpa using hnil, by rw [List.length_map]; cases m <;> simp [inn], fun z μ3 hz t3 => ?_⟩
          obtain ⟨W3, o3⟩ := W2.step t3 lk
          have hμ3 : μ3[μ.length]? = some (.lst ((its m).map .d)) := (o3 _ (Ne.symm hk)).trans hμ2
          obtain ⟨i, hi, rfl⟩ := List.mem_map.mp hz
          obtain ⟨c0, c1, ch, hch, hgc⟩ := child hg hi
          simp only [dPut, dSeq, dRet, dRetN, dIf, dSkip, dSet, dCa, dCons, dNil, dVar, dC, dOp, dTest, dAnd, dOr, dNot, dAndV, dOrV, dNotV, dIfE, dCall, dChain, dTup, dLst, dSl, dPart, dNoP, dLt, dLe, dGt, dGe, dMinus, dPlus, dDrop, dPar, List.getElem?_cons_zero, List.getElem?_cons_succ, List.length_cons, List.length_nil, List.map_cons, List.map_nil, List.cons_append, List.nil_append, List.append_nil, List.replicate_succ, List.replicate_zero, List.set_cons_zero, List.set_cons_succ]
          refine ix_p hμ3 c0 hch ⟨b + 2, k, doors, ch, rfl, hgc, by omega, hd1, hd4, W3.pen, by omega, fun x μ4 hx1 hx2 t4 => ?_⟩
          obtain ⟨W4, o4⟩ := W3.step t4 lk
          have hμ4 : μ4[μ.length]? = some (.lst ((its m).map .d)) := (o4 _ (Ne.symm hk)).trans hμ3
          have hix : ixN ((its m).map Va.d).length i = some i.toNat := by
            unfold ixN
            rw [if_pos c0, if_pos (by rw [List.length_map]; exact c1)]
          have lp : μ.length < μ4.length := by rw [W4.len]; omega
          refine set_m hμ4 hix ?_
          have es : (((its m).map Va.d).set i.toNat (.d x)) = ((its m).set i.toNat x).map Va.d := by rw [List.map_set]
          rw [es]
          have hμ5 : (μ4.set μ.length (.lst (((its m).set i.toNat x).map Va.d)))[μ.length]? = some (.lst (((its m).set i.toNat x).map Va.d)) := by rw [List.getElem?_set_self lp]
          simp only [dFrz, hμ5, unD_map, List.set_set, replE, if_true, if_neg hk, dSeq, dRet, dRetN, dIf, dSkip, dSet, dCa, dCons, dNil, dVar, dC, dOp, dTest, dAnd, dOr, dNot, dAndV, dOrV, dNotV, dIfE, dCall, dChain, dTup, dLst, dSl, dPart, dNoP, dLt, dLe, dGt, dGe, dMinus, dPlus, dDrop, dPar, List.getElem?_cons_zero, List.getElem?_cons_succ, List.length_cons, List.length_nil, List.map_cons, List.map_nil, List.cons_append, List.nil_append, List.append_nil, List.replicate_succ, List.replicate_zero, List.set_cons_zero, List.set_cons_succ]
          have W5 := W4.put (o := .dead) lk
          have g1 : gTuple [.d (.lst ((its m).set i.toNat x))] (μ4.set μ.length .dead) = fun Q => Q (.d (.tup ((its m).set i.toNat x))) (μ4.set μ.length .dead) := rfl
          rw [g1]
          simp only [unD, Option.map_some]
          refine ⟨by simp, b + 2 + 5 * n, k, _, _, rfl, rfl, W5.pen, by omega, by simp, by simp, fun y μ6 hy t6 => ?_⟩
          obtain ⟨W6, _⟩ := W5.step t6 lk
          refine fin_cut W6 lk fun μ7 t7 => ?_
          have okc : ∀ l : Bool, okN (n + 1 + 2) (con l ((its m).set i.toNat x)) = true := fun l => ok_con (by rw [List.length_set]; omega) (ok_set (fun z h => okN_le (hok z h) (by omega)) hx1)
          simp only [List.mem_cons, List.not_mem_nil, or_false] at hy
          rcases hy with rfl | rfl
          · exact q _ _ (okc true) (bad_at (l := true) hi hx2) (t7.le (by omega))
          · exact q _ _ (okc false) (bad_at (l := false) hi hx2) (t7.le (by omega))
        · simp only [hd0, decide_false, Bool.false_eq_true, if_false]
          exact rest (b + 1) μ2 W2 hμ2 (by omega)
  exact restO

/-! ### _law_pen -/
def sp_pen : Pr := fun args μ Q _ => ∃ ns : List Int, args = [.d (.lsk (ns.map D.int))] ∧ ∀ cs : List Int, Q (.m μ.length) (μ ++ [penO cs 0 0])
theorem H_pen (args : List Va) (μ : Mu) (Q : EQ) (QE : XQ) (h : sp_pen args μ Q QE) : T_l_pen QE { nx := fun _ μ' => Fin μ Q (.d .non) μ', rt := Fin μ Q } (args.map some ++ List.replicate (N_l_pen.length - args.length) none) μ := by
  obtain ⟨ns, rfl, q⟩ := h
  simp only [T_l_pen, dLstM, gSl, asR, gList, asS, asL, dSeq, dRet, dRetN, dIf, dSkip, dSet, dCa, dCons, dNil, dVar, dC, dOp, dTest, dAnd, dOr, dNot, dAndV, dOrV, dNotV, dIfE, dCall, dChain, dTup, dLst, dSl, dPart, dNoP, dLt, dLe, dGt, dGe, dMinus, dPlus, dDrop, dPar, List.getElem?_cons_zero, List.getElem?_cons_succ, List.length_cons, List.length_nil, List.map_cons, List.map_nil, List.cons_append, List.nil_append, List.append_nil, List.replicate_succ, List.replicate_zero, List.set_cons_zero, List.set_cons_succ]
  have e : ∃ cs : List Int, DL.cutD (ns.map D.int) none (some 63) = cs.map D.int := by
    unfold DL.cutD
    exact ⟨_, by rw [← List.map_drop, ← List.map_take]⟩
  obtain ⟨cs, e⟩ := e
  rw [e]
  exact ⟨by decide, .now (q cs)⟩
/-! ### _law_heard -/
def HnK : Va → Mu → EQ → Prop := fun v μ QD => ∃ x, v = .d x ∧ QD (.d (.tup [.str "told", x])) μ
def HxK (K : PySem.W.Frag) : Addr → List Str → List D → Mu → EQ → Prop := fun C ns xs μ QD => ns = [("part" : Str)] ∧ ∃ y, xs = [y] ∧ ((C = He.ga K "BadValue" ∧ QD (.d (.tup [.str "raised", .str "value", y])) μ) ∨ (C = He.ga K "BadNumber" ∧ QD (.d (.tup [.str "raised", .str "number", y])) μ))
/-- what the head tells of a class that is raised -/
structure ExF (K : PySem.W.Frag) (i : Nat) (C : Addr) : Prop where
  part : PySem.W.findIn K (.ref C) "part" = some none
  exm : PySem.W.exmOne K (.ref C) (.ref (He.ga K "MarbleError")) = some true
  ve : PySem.W.kitOne K (.ref C) (.type "ValueError") = some true
  xc : xcB K C = true
  k0 : PySem.W.kitOne K (.ref C) (.ref (He.ga K "BadValue")) = some (decide (i = 0))
  k1 : PySem.W.kitOne K (.ref C) (.ref (He.ga K "BadNumber")) = some (decide (i = 1))
  k2 : PySem.W.kitOne K (.ref C) (.ref (He.ga K "BadTable")) = some false
  k3 : PySem.W.kitOne K (.ref C) (.ref (He.ga K "BadBoard")) = some false
  k4 : PySem.W.kitOne K (.ref C) (.ref (He.ga K "NoDoor")) = some false
  k5 : PySem.W.kitOne K (.ref C) (.ref (He.ga K "Misfit")) = some false
  k6 : PySem.W.kitOne K (.ref C) (.ref (He.ga K "TooMany")) = some false
theorem H_heardN {K : PySem.W.Frag} {QE : XQ} (v : Va) (μ : Mu) (QD : EQ) (h : HnK v μ QD) : T_l_heard K QE { nx := fun _ _ => False, rt := QD } (none :: some (.d .non) :: some v :: List.replicate (N_l_heard.length - 3) none) μ := by
  obtain ⟨x, rfl, q⟩ := h
  simp only [T_l_heard, dIs, dIsG, isN, Bool.false_bne, if_true, unD, Option.map_some, dSeq, dRet, dRetN, dIf, dSkip, dSet, dCa, dCons, dNil, dVar, dC, dOp, dTest, dAnd, dOr, dNot, dAndV, dOrV, dNotV, dIfE, dCall, dChain, dTup, dLst, dSl, dPart, dNoP, dLt, dLe, dGt, dGe, dMinus, dPlus, dDrop, dPar, List.getElem?_cons_zero, List.getElem?_cons_succ, List.length_cons, List.length_nil, List.map_cons, List.map_nil, List.cons_append, List.nil_append, List.append_nil, List.replicate_succ, List.replicate_zero, List.set_cons_zero, List.set_cons_succ]
  exact ⟨by simp, q⟩
theorem isx {K : PySem.W.Frag} {C D' : Addr} {ns : List Str} {xs : List D} {b : Bool} {μ : Mu} {Q : EQ} (hx : xcB K C = true) (hk : PySem.W.kitOne K (.ref C) (.ref D') = some b) (q : Q (.d (.bl b)) μ) : gIsiX K [.d (.exc C ns xs), .d (.raw (.ref D'))] μ Q := by
  simp only [gIsiX, clsU, Option.bind_some, hk]
  exact ⟨hx, q⟩
theorem isxT {K : PySem.W.Frag} {C : Addr} {ns : List Str} {xs : List D} {b : Bool} {n : String} {μ : Mu} {Q : EQ} (hx : xcB K C = true) (hk : PySem.W.kitOne K (.ref C) (.type n) = some b) (q : Q (.d (.bl b)) μ) : gIsiX K [.d (.exc C ns xs), .d (.raw (.ty n))] μ Q := by
  simp only [gIsiX, clsU, Option.bind_some, hk]
  exact ⟨hx, q⟩
theorem H_heardX {K : PySem.W.Frag} {QE : XQ} (f0 : ExF K 0 (He.ga K "BadValue")) (f1 : ExF K 1 (He.ga K "BadNumber")) (C : Addr) (ns : List Str) (xs : List D) (μ : Mu) (QD : EQ) (h : HxK K C ns xs μ QD) :
    T_l_heard K QE { nx := fun _ _ => False, rt := QD } (none :: some (.d (.exc C ns xs)) :: List.replicate (N_l_heard.length - 2) none) μ := by
  obtain ⟨rfl, y, rfl, h⟩ := h
  have xf : ∀ {C : Addr}, xcB K C = true → xfB K C = true := fun {C} h => by
    unfold xcB at h
    simp only [Bool.and_eq_true] at h
    exact h.2.1
  rcases h with ⟨rfl, q⟩ | ⟨rfl, q⟩
  · simp only [T_l_heard, dIs, dIsG, isN, Bool.false_bne, Bool.false_eq_true, if_false, unD, Option.map_some, dSeq, dRet, dRetN, dIf, dSkip, dSet, dCa, dCons, dNil, dVar, dC, dOp, dTest, dAnd, dOr, dNot, dAndV, dOrV, dNotV, dIfE, dCall, dChain, dTup, dLst, dSl, dPart, dNoP, dLt, dLe, dGt, dGe, dMinus, dPlus, dDrop, dPar, List.getElem?_cons_zero, List.getElem?_cons_succ, List.length_cons, List.length_nil, List.map_cons, List.map_nil, List.cons_append, List.nil_append, List.append_nil, List.replicate_succ, List.replicate_zero, List.set_cons_zero, List.set_cons_succ]
    refine isx f0.xc (b := true) f0.k0 (isx f0.xc (b := false) f0.k1 (isx f0.xc f0.k2 ?_))
    refine ⟨by simp, isx f0.xc f0.k3 (isx f0.xc f0.k4 (isx f0.xc f0.k5 (isx f0.xc f0.k6 ?_)))⟩
    refine ⟨by simp, by rw [line24]; simp, ?_⟩
    simp only [dMeth1, asR, asL, Option.isSome_some, gCount, gIndex, dNe, dEq, dEqG, Bool.true_bne, Bool.false_bne, dAtX, dSeq, dRet, dRetN, dIf, dSkip, dSet, dCa, dCons, dNil, dVar, dC, dOp, dTest, dAnd, dOr, dNot, dAndV, dOrV, dNotV, dIfE, dCall, dChain, dTup, dLst, dSl, dPart, dNoP, dLt, dLe, dGt, dGe, dMinus, dPlus, dDrop, dPar, List.getElem?_cons_zero, List.getElem?_cons_succ, List.length_cons, List.length_nil, List.map_cons, List.map_nil, List.cons_append, List.nil_append, List.append_nil, List.replicate_succ, List.replicate_zero, List.set_cons_zero, List.set_cons_succ]
    refine ⟨trivial, rfl, rfl, ?_⟩
    rw [show ((List.countP (eqD (.bl true)) [D.bl true, .bl false, .bl false, .bl false, .bl false, .bl false, .bl false] : Nat) : Int) = 1 from rfl]
    simp only [decide_true, Bool.not_true, Bool.false_eq_true, if_false]
    refine isxT f0.xc f0.ve ?_
    simp only [Bool.not_true, Bool.false_eq_true, if_false, List.length_cons, List.length_nil]
    refine ⟨by decide, trivial, rfl, rfl, 0, rfl, ?_⟩
    refine ix_s rfl (by decide) (x := .str "value") rfl ?_
    simp only [show ¬ (("value" : Str) = "many") from by decide, show ¬ (("value" : Str) = "door") from by decide, decide_false, Bool.false_eq_true, if_false]
    refine ⟨xf f0.xc, f0.part, ?_⟩
    rw [show (([("part" : Str)].zip [y]).lookup ("part" : Str)) = some y from rfl]
    simp only [unD, Option.map_some]
    exact ⟨by simp, q⟩
  · simp only [T_l_heard, dIs, dIsG, isN, Bool.false_bne, Bool.false_eq_true, if_false, unD, Option.map_some, dSeq, dRet, dRetN, dIf, dSkip, dSet, dCa, dCons, dNil, dVar, dC, dOp, dTest, dAnd, dOr, dNot, dAndV, dOrV, dNotV, dIfE, dCall, dChain, dTup, dLst, dSl, dPart, dNoP, dLt, dLe, dGt, dGe, dMinus, dPlus, dDrop, dPar, List.getElem?_cons_zero, List.getElem?_cons_succ, List.length_cons, List.length_nil, List.map_cons, List.map_nil, List.cons_append, List.nil_append, List.append_nil, List.replicate_succ, List.replicate_zero, List.set_cons_zero, List.set_cons_succ]
    refine isx f1.xc (b := false) f1.k0 (isx f1.xc (b := true) f1.k1 (isx f1.xc f1.k2 ?_))
    refine ⟨by simp, isx f1.xc f1.k3 (isx f1.xc f1.k4 (isx f1.xc f1.k5 (isx f1.xc f1.k6 ?_)))⟩
    refine ⟨by simp, by rw [line24]; simp, ?_⟩
    simp only [dMeth1, asR, asL, Option.isSome_some, gCount, gIndex, dNe, dEq, dEqG, Bool.true_bne, Bool.false_bne, dAtX, dSeq, dRet, dRetN, dIf, dSkip, dSet, dCa, dCons, dNil, dVar, dC, dOp, dTest, dAnd, dOr, dNot, dAndV, dOrV, dNotV, dIfE, dCall, dChain, dTup, dLst, dSl, dPart, dNoP, dLt, dLe, dGt, dGe, dMinus, dPlus, dDrop, dPar, List.getElem?_cons_zero, List.getElem?_cons_succ, List.length_cons, List.length_nil, List.map_cons, List.map_nil, List.cons_append, List.nil_append, List.append_nil, List.replicate_succ, List.replicate_zero, List.set_cons_zero, List.set_cons_succ]
    refine ⟨trivial, rfl, rfl, ?_⟩
    rw [show ((List.countP (eqD (.bl true)) [D.bl false, .bl true, .bl false, .bl false, .bl false, .bl false, .bl false] : Nat) : Int) = 1 from rfl]
    simp only [decide_true, Bool.not_true, Bool.false_eq_true, if_false]
    refine isxT f1.xc f1.ve ?_
    simp only [Bool.not_true, Bool.false_eq_true, if_false, List.length_cons, List.length_nil]
    refine ⟨by decide, trivial, rfl, rfl, 1, rfl, ?_⟩
    refine ix_s rfl (by decide) (x := .str "number") rfl ?_
    simp only [show ¬ (("number" : Str) = "many") from by decide, show ¬ (("number" : Str) = "door") from by decide, decide_false, Bool.false_eq_true, if_false]
    refine ⟨xf f1.xc, f1.part, ?_⟩
    rw [show (([("part" : Str)].zip [y]).lookup ("part" : Str)) = some y from rfl]
    simp only [unD, Option.map_some]
    exact ⟨by simp, q⟩

/-! ### the law -/
section
variable {Pt : Addr} {ql : Str}
/-- the law's store -/
def Lw (Pt : Addr) (ql : Str) (b : Nat) (μ : Mu) : Prop := ∃ cs a g, μ = [.tab Pt ql, penO cs a g] ∧ 0 ≤ a ∧ a ≤ (b : Int) ∧ 0 ≤ g
theorem Lw.pen {b : Nat} {μ : Mu} (h : Lw Pt ql b μ) : Pen b μ 1 := by
  obtain ⟨cs, a, g, rfl, r⟩ := h
  exact ⟨cs, a, g, rfl, r⟩
theorem Lw.to {b c : Nat} {μ μ' : Mu} (h : Lw Pt ql b μ) (t : PenTo c μ μ' 1) : Lw Pt ql c μ' := by
  obtain ⟨cs, a, g, rfl, r⟩ := h
  obtain ⟨cs', a', g', rfl, r'⟩ := t
  exact ⟨cs', a', g', rfl, r'⟩
theorem Lw.le {b c : Nat} {μ : Mu} (h : Lw Pt ql b μ) (l : b ≤ c) : Lw Pt ql c μ := by
  obtain ⟨cs, a, g, e, h1, h2, h3⟩ := h
  exact ⟨cs, a, g, e, h1, by omega, h3⟩
theorem Lw.tab {b : Nat} {μ : Mu} (h : Lw Pt ql b μ) : μ[0]? = some (.tab Pt ql) ∧ ∀ (j : Nat) P' q', μ[j]? = some (.tab P' q') → j = 0 := by
  obtain ⟨cs, a, g, rfl, r⟩ := h
  refine ⟨rfl, fun j P' q' e => ?_⟩
  match j, e with
  | 0, _ => rfl
  | 1, e => cases e
  | j + 2, e => cases e
end
theorem eqv_strs {a b c : Str} : PyData.eqv (.tuple [.str a, .str b, .str c]) (.tuple [.str a, .str b, .str c]) = true := by
  simp [PyData.eqv, PyData.eqvAll]
theorem norm3 {a b c : Str} {μ : Mu} : norm μ (.d (.tup [.str a, .str b, .str c])) = some (.tuple [.str a, .str b, .str c]) := rfl
theorem ne3 {a b c : Str} {μ : Mu} {Q : EQ} (hs : SeqAt.shaped (.tuple [.str a, .str b, .str c]) = true) (q : Q (.d (.bl false)) μ) : dNe (.d (.tup [.str a, .str b, .str c])) (.d (.tup [.str a, .str b, .str c])) μ Q := by
  have go : (match norm μ (.d (.tup [.str a, .str b, .str c])), norm μ (.d (.tup [.str a, .str b, .str c])) with
    | some p, some q => SeqAt.shaped p = true ∧ SeqAt.shaped q = true ∧ Q (.d (.bl (true ^^ PyData.eqv p q))) μ
    | _, _ => False) := by
    rw [norm3]
    refine ⟨hs, hs, ?_⟩
    rw [eqv_strs]
    exact q
  exact go
theorem eq3 {a b c : Str} {μ : Mu} {Q : EQ} (hs : SeqAt.shaped (.tuple [.str a, .str b, .str c]) = true) (q : Q (.d (.bl true)) μ) : dEq (.d (.tup [.str a, .str b, .str c])) (.d (.tup [.str a, .str b, .str c])) μ Q := by
  have go : (match norm μ (.d (.tup [.str a, .str b, .str c])), norm μ (.d (.tup [.str a, .str b, .str c])) with
    | some p, some q => SeqAt.shaped p = true ∧ SeqAt.shaped q = true ∧ Q (.d (.bl (false ^^ PyData.eqv p q))) μ
    | _, _ => False) := by
    rw [norm3]
    refine ⟨hs, hs, ?_⟩
    rw [eqv_strs]
    exact q
  exact go
theorem sh1 : SeqAt.shaped (.tuple [.str "raised", .str "value", .str "formula"]) = true := by decide +kernel
theorem sh2 : SeqAt.shaped (.tuple [.str "raised", .str "number", .str "doors"]) = true := by decide +kernel
theorem sh3 : SeqAt.shaped (.tuple [.str "raised", .str "value", .str "counts"]) = true := by decide +kernel
theorem up_mem {n : Int} {x : D} (h : x ∈ DL.upTo 0 n) : ∃ i : Int, x = .int i ∧ 0 ≤ i ∧ i < n := by
  unfold DL.upTo at h
  obtain ⟨j, hj, rfl⟩ := List.mem_map.mp h
  have hj2 := List.mem_range.mp hj
  exact ⟨_, rfl, by omega, by omega⟩
theorem isNot_bl {b c : Bool} {μ : Mu} {Q : EQ} (q : Q (.d (.bl (!decide (b = c)))) μ) : dIsNot (.d (.bl b)) (.d (.bl c)) μ Q := by
  simp only [dIsNot, dIsG, Bool.true_bne]
  exact q
theorem counts_good {c : D} {cs : List Int} (h : seqD c = some (cs.map D.int)) (h1 : 1 ≤ cs.length) (h4 : cs.length ≤ 4) (hc : csOk cs) : countsOk c = true := by
  unfold countsOk
  rw [h]
  have e : (cs.map D.int).all okC = true := by
    rw [List.all_map, List.all_eq_true]
    intro x hx
    show decide (0 ≤ x) = true
    exact decide_eq_true (hc x hx).1
  simp only [List.length_map, h1, h4, decide_true, e, Bool.and_self]
theorem ok_ints {l : Bool} {cs : List Int} (h : cs.length ≤ 4) : okN 1 (con l (cs.map D.int)) = true := ok_con (by rw [List.length_map]; omega) fun x hx => by
  obtain ⟨i, _, rfl⟩ := List.mem_map.mp hx
  exact ok_fl rfl
def sp_law (Pt : Addr) (ql : Str) : Pr := fun args μ Q _ => ∃ ns : List Int, args = [.d (.lsk (ns.map D.int))] ∧ μ = [.tab Pt ql] ∧ ∀ μ', Q (.d (.bl true)) μ'
section
variable {K : PySem.W.Frag} {Pt : Addr}
abbrev TT (K : PySem.W.Frag) (Pt : Addr) (QE : XQ) : STd := T_law Pt HnK (HxK K) (sp_worth (He.ga K "BadValue")) sp_pick (sp_fla (He.ga K "BadNumber")) (sp_mk 6) (sp_lw 12) sp_nested (sp_sp 5) sp_great (sp_lf 5) sp_draw sp_pen QE
theorem cF5 : cF 5 = 620 := by decide
def T_turn (K : PySem.W.Frag) (Pt : Addr) (QE : XQ) : STd := (dSeq (dSet (dOp dPlus (dC (.int 1)) (dCall sp_draw [] QE (dCons (dVar 1) (dCons (dC (.int 4)) dNil)))) 3) (dSeq (dSet (dCall (sp_lf 5) [] QE (dCons (dVar 1) (dCons (dVar 3) (dCons (dC (.int 5)) dNil)))) 4) (dSeq (dSet (dLc (dRange1 (dCons (dVar 3) dNil)) (dgName 13) dYes (dCall sp_pick [] noX (dCons (dVar 1) (dCons (dLst (dCons (dC (.int 0)) (dCons (dC (.int 1)) (dCons (dC (.int 5)) (dCons (dCall sp_great [] noX (dCons (dVar 1) dNil)) dNil))))) dNil))) [13]) 5) (dSeq (dIf (dOr (dTest (dOp dNe (dCall (sp_worth (He.ga K "BadValue")) [] QE (dCons (dVar 4) (dCons (dCa gList (dCons (dVar 5) dNil)) dNil))) (dCall (sp_lw 12) [] QE (dCons (dVar 4) (dCons (dVar 5) dNil))))) (dTest (dOp dNe (dCallK (sp_worth (He.ga K "BadValue")) QE true (dCons (dCa gTuple (dCons (dVar 5) dNil)) (dCons (dVar 4) dNil))) (dCall (sp_lw 12) [] QE (dCons (dVar 4) (dCons (dVar 5) dNil)))))) (dSeq (dRet (dC (.bl false))) dSkip) dSkip) (dSeq (dSet (dCall (sp_worth (He.ga K "BadValue")) [] QE (dCons (dVar 4) (dCons (dCa gTuple (dCons (dVar 5) dNil)) dNil))) 6) (dSeq (dIf (dOr (dNot (dTest (dCa gIsi (dCons (dVar 6) (dCons (dC (.raw (.ty "int"))) dNil))))) (dOr (dTest (dCa gIsi (dCons (dVar 6) (dCons (dC (.raw (.ty "bool"))) dNil)))) (dTest (dOp dIsNot (dCall (sp_fla (He.ga K "BadNumber")) [] QE (dCons (dVar 4) (dCons (dVar 3) dNil))) (dC (.bl true)))))) (dSeq (dRet (dC (.bl false))) dSkip) dSkip) (dSeq (dSet (dCall (sp_sp 5) [] QE (dCons (dVar 1) (dCons (dVar 4) (dCons (dVar 3) dNil)))) 7) (dSeq (dIf (dOr (dTest (dOp dIsNot (dCall (sp_fla (He.ga K "BadNumber")) [] QE (dCons (dVar 7) (dCons (dVar 3) dNil))) (dC (.bl false)))) (dTest (dOp dNe (dHeard 0 Pt (("law" ++ ".<locals>.") ++ "<lambda>") HnK (HxK K) fun QE => (dCall (sp_worth (He.ga K "BadValue")) [] QE (dCons (dVar 7) (dCons (dVar 5) dNil)))) (dTup (dCons (dC (.str "raised")) (dCons (dC (.str "value")) (dCons (dC (.str "formula")) dNil))))))) (dSeq (dRet (dC (.bl false))) dSkip) dSkip) (dSeq (dSet (dLc (dRange1 (dCons (dVar 3) dNil)) (dgName 14) (dOr (dTest (dOp dIsNot (dCall (sp_fla (He.ga K "BadNumber")) [] noX (dCons (dTup (dCons (dC (.str "count")) (dCons (dVar 14) dNil))) (dCons (dVar 3) dNil))) (dC (.bl true)))) (dTest (dOp dIsNot (dCall (sp_fla (He.ga K "BadNumber")) [] noX (dCons (dTup (dCons (dC (.str "count")) (dCons (dVar 14) dNil))) (dCons (dOp dPlus (dVar 14) (dC (.int 1))) dNil))) (dC (.bl true))))) (dVar 3) [14]) 8) (dSeq (dIf (dOr (dTest (dOp dNe (dVar 8) (dLst dNil))) (dTest (dOp dNe (dCallK (sp_fla (He.ga K "BadNumber")) QE false (dCons (dTup (dCons (dC (.str "count")) (dCons (dOp dMinus (dVar 3) (dC (.int 1))) dNil))) (dCons (dCa gMax (dCons (dC (.int 1)) (dCons (dOp dMinus (dVar 3) (dC (.int 1))) dNil))) dNil))) (dOp dEq (dVar 3) (dC (.int 1)))))) (dSeq (dRet (dC (.bl false))) dSkip) dSkip) dSkip))))))))))
theorem turn_ok {b : Nat} {μ0 μ : Mu} {Q : EQ} {QE : XQ} {nx : EnQ} {x : D} {bk ct : EnQ} {v0 o3 o4 o5 o6 o7 o8 o9 o10 o11 o12 o13 o14 : Option Va} (L : Lw Pt (("law" ++ ".<locals>.") ++ "<lambda>") b μ) (hb : b ≤ 700000)
    (hn : ∀ (p3 p4 p5 p6 p7 p8 : Option Va) (μ' : Mu), Lw Pt (("law" ++ ".<locals>.") ++ "<lambda>") (b + 700) μ' → nx [v0, some (.m 1), some (.d x), p3, p4, p5, p6, p7, p8, o9, o10, o11, o12, o13, o14] μ') :
    T_turn K Pt QE { nx := nx, rt := Fin μ0 Q, bk := bk, ct := ct } [v0, some (.m 1), some (.d x), o3, o4, o5, o6, o7, o8, o9, o10, o11, o12, o13, o14] μ := by
  simp only [T_turn, dSeq, dRet, dRetN, dIf, dSkip, dSet, dCa, dCons, dNil, dVar, dC, dOp, dTest, dAnd, dOr, dNot, dAndV, dOrV, dNotV, dIfE, dCall, dChain, dTup, dLst, dSl, dPart, dNoP, dLt, dLe, dGt, dGe, dMinus, dPlus, dDrop, dPar, List.getElem?_cons_zero, List.getElem?_cons_succ, List.length_cons, List.length_nil, List.map_cons, List.map_nil, List.cons_append, List.nil_append, List.append_nil, List.replicate_succ, List.replicate_zero, List.set_cons_zero, List.set_cons_succ]
  refine ⟨b, 1, 4, rfl, L.pen, by omega, by decide, by decide, fun d0 μ1 d1 d2 t1 => ?_⟩
  have L1 := L.to t1
  obtain ⟨doors, hdo⟩ : ∃ doors, doors = 1 + d0 := ⟨_, rfl⟩
  dsimp only
  rw [← hdo]
  have hd1 : 1 ≤ doors := by omega
  have hd4 : doors ≤ 4 := by omega
  refine ⟨b + 1, 1, doors, rfl, by decide, by decide, hd1, hd4, L1.pen, by rw [cF5]; omega, fun m μ2 hg t2 => ?_⟩
  have L2 : Lw Pt (("law" ++ ".<locals>.") ++ "<lambda>") (b + 621) μ2 := (L1.to t2).le (by rw [cF5]; omega)
  have hg12 := gd_le hg (show 5 ≤ 12 by decide)
  have hsz : sz m ≤ 40 := by
    have := sz_le hg
    omega
  -- the counts
  have e5 : csOk [] := fun _ h => nomatch h
  simp only [dLc, dRange1, dSeq, dRet, dRetN, dIf, dSkip, dSet, dCa, dCons, dNil, dVar, dC, dOp, dTest, dAnd, dOr, dNot, dAndV, dOrV, dNotV, dIfE, dCall, dChain, dTup, dLst, dSl, dPart, dNoP, dLt, dLe, dGt, dGe, dMinus, dPlus, dDrop, dPar, List.getElem?_cons_zero, List.getElem?_cons_succ, List.length_cons, List.length_nil, List.map_cons, List.map_nil, List.cons_append, List.nil_append, List.append_nil, List.replicate_succ, List.replicate_zero, List.set_cons_zero, List.set_cons_succ]
  refine ⟨⟨by omega, by omega⟩, by rw [upTo_len]; omega, ?_⟩
  have cnts : ∀ (R : List D → Mu → Prop), (∀ (cs : List Int) (μ3 : Mu), cs.length = doors.toNat → csOk cs → Lw Pt (("law" ++ ".<locals>.") ++ "<lambda>") (b + 669) μ3 → R (cs.map D.int) μ3) →
      lcC (fun _ => True) (lcStep (wipeE [v0, some (.m 1), some (.d x), some (.d (.int doors)), some (.d (toD m)), o5, o6, o7, o8, o9, o10, o11, o12, o13, o14] [13]) (dgName 13) dYes (dCall sp_pick [] noX (dCons (dVar 1) (dCons (dLst (dCons (dC (.int 0)) (dCons (dC (.int 1)) (dCons (dC (.int 5)) (dCons (dCall sp_great [] noX (dCons (dVar 1) dNil)) dNil))))) dNil)))) (DL.upTo 0 doors) μ2 fun ys μ3 => R ys μ3 := by
    intro R hR
    refine lcC_inv (Q := R) (fun _ => True) (fun xs ys μ' => ∃ cs : List Int, ys = cs.map D.int ∧ csOk cs ∧ cs.length + xs.length = doors.toNat ∧ Lw Pt (("law" ++ ".<locals>.") ++ "<lambda>") (b + 621 + 12 * cs.length) μ') (fun _ _ _ _ => trivial) ?_ ?_ _ [] μ2 ?_
    · rintro ys μ' ⟨cs, rfl, h1, h2, h3⟩
      simp only [List.length_nil] at h2
      exact hR cs μ' (by omega) h1 (h3.le (by omega))
    · rintro y xs ys μ' kk ⟨cs, rfl, h1, h2, h3⟩ hkk
      simp only [List.length_cons] at h2
      simp only [lcStep, wipeE, dgName, dYes, dSeq, dRet, dRetN, dIf, dSkip, dSet, dCa, dCons, dNil, dVar, dC, dOp, dTest, dAnd, dOr, dNot, dAndV, dOrV, dNotV, dIfE, dCall, dChain, dTup, dLst, dSl, dPart, dNoP, dLt, dLe, dGt, dGe, dMinus, dPlus, dDrop, dPar, List.getElem?_cons_zero, List.getElem?_cons_succ, List.length_cons, List.length_nil, List.map_cons, List.map_nil, List.cons_append, List.nil_append, List.append_nil, List.replicate_succ, List.replicate_zero, List.set_cons_zero, List.set_cons_succ]
      refine ⟨_, 1, rfl, h3.pen, by omega, fun n μ4 n0 n1 t4 => ?_⟩
      have L4 := h3.to t4
      simp only [unD, Option.map_some]
      refine ⟨by simp, _, 1, _, _, rfl, rfl, L4.pen, by omega, by simp, by simp, fun z μ5 hz t5 => ?_⟩
      have L5 := L4.to t5
      have p2 := p180
      have e200 : (5 : Int) < 2 ^ 200 := by decide
      have hz2 : ∃ i : Int, z = .int i ∧ 0 ≤ i ∧ i < 2 ^ 200 := by
        simp only [List.mem_cons, List.not_mem_nil, or_false] at hz
        rcases hz with rfl | rfl | rfl | rfl
        · exact ⟨_, rfl, by omega, by omega⟩
        · exact ⟨_, rfl, by omega, by omega⟩
        · exact ⟨_, rfl, by omega, by omega⟩
        · exact ⟨_, rfl, by omega, by omega⟩
      obtain ⟨i, rfl, i0, i1⟩ := hz2
      refine hkk _ _ ⟨cs ++ [i], by simp, fun c hc => ?_, by rw [List.length_append, List.length_singleton]; omega, L5.le (by rw [List.length_append, List.length_singleton]; omega)⟩
      rcases List.mem_append.mp hc with e | e
      · exact h1 c e
      · rw [List.mem_singleton.mp e]
        exact ⟨i0, i1⟩
    · exact ⟨[], rfl, e5, by rw [upTo_len]; simp, L2.le (by simp)⟩
  refine cnts _ fun cs μ3 hcl hcs L3 => ?_
  have hl1 : 1 ≤ cs.length := by omega
  have hl4 : cs.length ≤ 4 := by omega
  have hdc : doors = cs.length := by omega
  have sL : seqD (.lst (cs.map D.int)) = some (cs.map D.int) := rfl
  have sT : seqD (.tup (cs.map D.int)) = some (cs.map D.int) := rfl
  have gdc : gd cs.length 12 m := by rw [← hdc]; exact hg12
  have okm : okN 12 (toD m) = true := ok_toD hg12
  have oL : okN 1 (.lst (cs.map D.int)) = true := ok_ints (l := true) hl4
  have oT : okN 1 (.tup (cs.map D.int)) = true := ok_ints (l := false) hl4
  have wL : ∀ (R : EQ) (QX : XQ), R (.d (.int (ev cs m))) μ3 → sp_worth (He.ga K "BadValue") [.d (toD m), .d (.lst (cs.map D.int))] μ3 R QX := fun R QX hR => ⟨_, _, 12, 1, rfl, okm, oL, .inr (.inr ⟨cs, m, sL, counts_good sL hl1 hl4 hcs, hcs, rfl, gdc, hsz, hR⟩)⟩
  have wT : ∀ (R : EQ) (QX : XQ), R (.d (.int (ev cs m))) μ3 → sp_worth (He.ga K "BadValue") [.d (toD m), .d (.tup (cs.map D.int))] μ3 R QX := fun R QX hR => ⟨_, _, 12, 1, rfl, okm, oT, .inr (.inr ⟨cs, m, sT, counts_good sT hl1 hl4 hcs, hcs, rfl, gdc, hsz, hR⟩)⟩
  have lw : ∀ (R : EQ) (QX : XQ), R (.d (.int (ev cs m))) μ3 → sp_lw 12 [.d (toD m), .d (.lst (cs.map D.int))] μ3 R QX := fun R QX hR => ⟨m, _, cs, rfl, sL, gdc, by decide, hcs, hR⟩
  simp only [gList, asS, asR, asL, dCallK, swap2, gTuple, if_true, dSeq, dRet, dRetN, dIf, dSkip, dSet, dCa, dCons, dNil, dVar, dC, dOp, dTest, dAnd, dOr, dNot, dAndV, dOrV, dNotV, dIfE, dCall, dChain, dTup, dLst, dSl, dPart, dNoP, dLt, dLe, dGt, dGe, dMinus, dPlus, dDrop, dPar, List.getElem?_cons_zero, List.getElem?_cons_succ, List.length_cons, List.length_nil, List.map_cons, List.map_nil, List.cons_append, List.nil_append, List.append_nil, List.replicate_succ, List.replicate_zero, List.set_cons_zero, List.set_cons_succ]
  refine wL _ _ (lw _ _ ?_)
  simp only [dNe, dEqG, Bool.true_bne, decide_true, Bool.not_true, Bool.false_eq_true, if_false]
  refine wT _ _ (lw _ _ ?_)
  simp only [decide_true, Bool.not_true, Bool.false_eq_true, if_false]
  refine wT _ _ (g_int (x := .int (ev cs m)) (t := "int") rfl ?_)
  simp only [isI, Bool.true_or, Bool.not_true, Bool.false_eq_true, if_false]
  refine g_bool (x := .int (ev cs m)) (t := "int") rfl ?_
  simp only [isBo, Bool.false_eq_true, if_false]
  refine ⟨toD m, .int doors, "int", 12, rfl, okm, rfl, .inl ⟨doors, rfl, hd1, hd4, .inr ⟨m, rfl, hg12, ?_⟩⟩⟩
  refine isNot_bl ?_
  simp only [hsz, decide_true, Bool.not_true, Bool.false_eq_true, if_false]
  refine ⟨b + 669, 1, doors, m, rfl, hg, by decide, hd1, hd4, L3.pen, by omega, fun bad μ4 okb bb t4 => ?_⟩
  have L4 := L3.to t4
  refine ⟨bad, .int doors, "int", 7, rfl, okb, rfl, .inl ⟨doors, rfl, hd1, hd4, .inl ⟨bb 12, ?_⟩⟩⟩
  refine isNot_bl ?_
  simp only [decide_true, Bool.not_true, Bool.false_eq_true, if_false, dHeard, unD, Option.map_some, dSeq, dRet, dRetN, dIf, dSkip, dSet, dCa, dCons, dNil, dVar, dC, dOp, dTest, dAnd, dOr, dNot, dAndV, dOrV, dNotV, dIfE, dCall, dChain, dTup, dLst, dSl, dPart, dNoP, dLt, dLe, dGt, dGe, dMinus, dPlus, dDrop, dPar, List.getElem?_cons_zero, List.getElem?_cons_succ, List.length_cons, List.length_nil, List.map_cons, List.map_nil, List.cons_append, List.nil_append, List.append_nil, List.replicate_succ, List.replicate_zero, List.set_cons_zero, List.set_cons_succ]
  refine ⟨L4.tab.1, L4.tab.2, _, _, 7, 1, rfl, okb, oL, .inr (.inl ⟨_, sL, counts_good sL hl1 hl4 hcs, by rw [List.length_map, ← hdc]; exact bb 12, rfl, _, rfl, .inl ⟨rfl, by decide, ?_⟩⟩)⟩
  rw [norm3]
  refine ⟨sh1, sh1, ?_⟩
  rw [eqv_strs]
  simp only [Bool.not_true, Bool.false_eq_true, if_false]
  refine ⟨⟨by omega, by omega⟩, by rw [upTo_len]; omega, ?_⟩
  have okt : ∀ i : Int, okN 1 (.tup [.str "count", .int i]) = true := fun i => ok_con (l := false) (xs := [.str "count", .int i]) (by simp) fun z hz => by
    simp only [List.mem_cons, List.not_mem_nil, or_false] at hz
    rcases hz with rfl | rfl <;> exact ok_fl rfl
  have cyes : ∀ (i dd : Int) (R : EQ) (QX : XQ), 0 ≤ i → i < dd → dd ≤ 4 → R (.d (.bl true)) μ4 → sp_fla (He.ga K "BadNumber") [.d (.tup [.str "count", .int i]), .d (.int dd)] μ4 R QX := fun i dd R QX h0 h1 h2 hR =>
    ⟨_, .int dd, "int", 1, rfl, okt i, rfl, .inl ⟨dd, rfl, by omega, h2, .inr ⟨.cnt false i, rfl, ⟨h0, h1⟩, hR⟩⟩⟩
  refine lc_filt (fun x => x) (fun _ => false) trivial _ (fun y hy kk hkk => ?_) ?_
  · obtain ⟨i, rfl, i0, i1⟩ := up_mem hy
    simp only [Bool.false_eq_true, if_false] at hkk
    simp only [lcStep, wipeE, dgName, unD, Option.map_some, dSeq, dRet, dRetN, dIf, dSkip, dSet, dCa, dCons, dNil, dVar, dC, dOp, dTest, dAnd, dOr, dNot, dAndV, dOrV, dNotV, dIfE, dCall, dChain, dTup, dLst, dSl, dPart, dNoP, dLt, dLe, dGt, dGe, dMinus, dPlus, dDrop, dPar, List.getElem?_cons_zero, List.getElem?_cons_succ, List.length_cons, List.length_nil, List.map_cons, List.map_nil, List.cons_append, List.nil_append, List.append_nil, List.replicate_succ, List.replicate_zero, List.set_cons_zero, List.set_cons_succ]
    refine ⟨by decide, cyes _ _ _ _ i0 i1 hd4 (isNot_bl ?_)⟩
    simp only [decide_true, Bool.not_true, Bool.false_eq_true, if_false]
    refine ⟨by decide, cyes _ _ _ _ i0 (by omega) (by omega) (isNot_bl ?_)⟩
    simp only [decide_true, Bool.not_true, Bool.false_eq_true, if_false]
    exact hkk
  · rw [show ((DL.upTo 0 doors).filter fun _ => false) = [] from List.filter_eq_nil_iff.mpr (fun _ _ => by decide)]
    simp only [List.map_nil]
    refine ⟨by decide, ?_⟩
    rw [norm_nil]
    refine ⟨shaped_int [], shaped_int [], ?_⟩
    simp only [PyData.eqv, PyData.eqvAll, Bool.not_true, Bool.false_eq_true, if_false, gMax]
    refine ⟨by decide, ?_⟩
    have fin := hn (some (.d (.int doors))) (some (.d (toD m))) (some (.d (.lst (cs.map D.int)))) (some (.d (.int (ev cs m)))) (some (.d bad)) (some (.d (.lst []))) μ4 (L4.le (by omega))
    by_cases h1 : doors = 1
    · rw [h1]
      refine cyes _ _ _ _ (by decide) (by decide) (by decide) ?_
      simp only [decide_true, Bool.not_true, Bool.false_eq_true, if_false]
      rw [h1] at fin
      exact fin
    · have em : max 1 (doors - 1) = doors - 1 := by omega
      rw [em]
      refine ⟨_, .int (doors - 1), "int", 1, rfl, okt _, rfl, .inl ⟨doors - 1, rfl, by omega, by omega, .inl ⟨?_, ?_⟩⟩⟩
      · exact bad_parts (l := false) look_cnt (fun dd => by rw [parts_d, fitI_d, decide_eq_false (show ¬ doors - 1 < doors - 1 by omega), Bool.and_false]) 12
      · simp only [h1, decide_false, decide_true, Bool.not_true, Bool.false_eq_true, if_false]
        exact fin
def T_lawE (K : PySem.W.Frag) (Pt : Addr) (QE : XQ) : STd := (dSeq (dPar 9 10 (dCons (dCall sp_nested [] QE (dCons (dVar 1) (dCons (dC (.int 12)) dNil))) (dCons (dCall sp_pick [] QE (dCons (dVar 1) (dCons (dLst (dCons (dC (.int 1)) (dCons (dC (.int 3)) (dCons (dC (.int 37)) (dCons (dC (.int 39)) dNil))))) dNil))) dNil))) (dSeq (dIf (dOr (dTest (dOp dIsNot (dCall (sp_fla (He.ga K "BadNumber")) [] QE (dCons (dVar 9) (dCons (dC (.int 1)) dNil))) (dC (.bl true)))) (dOr (dTest (dOp dIsNot (dCall (sp_fla (He.ga K "BadNumber")) [] QE (dCons (dTup (dCons (dC (.str "times")) (dCons (dC (.int 1)) (dCons (dVar 9) dNil)))) (dCons (dC (.int 1)) dNil))) (dC (.bl false)))) (dTest (dOp dNe (dCall (sp_worth (He.ga K "BadValue")) [] QE (dCons (dVar 9) (dCons (dLst (dCons (dC (.int 9)) dNil)) dNil))) (dCall (sp_lw 12) [] QE (dCons (dVar 9) (dCons (dLst (dCons (dC (.int 9)) dNil)) dNil))))))) (dSeq (dRet (dC (.bl false))) dSkip) dSkip) (dSeq (dIf (dOr (dTest (dOp dIsNot (dCall (sp_fla (He.ga K "BadNumber")) [] QE (dCons (dCall (sp_mk 6) [] QE (dCons (dVar 10) dNil)) (dCons (dC (.int 1)) dNil))) (dC (.bl true)))) (dOr (dTest (dOp dIsNot (dCall (sp_fla (He.ga K "BadNumber")) [] QE (dCons (dTup (dCons (dC (.str "floor")) (dCons (dCall (sp_mk 6) [] QE (dCons (dC (.int 39)) dNil)) (dCons (dC (.int 2)) dNil)))) (dCons (dC (.int 1)) dNil))) (dC (.bl true)))) (dTest (dOp dIsNot (dCall (sp_fla (He.ga K "BadNumber")) [] QE (dCons (dCall (sp_mk 6) [] QE (dCons (dC (.int 41)) dNil)) (dCons (dC (.int 1)) dNil))) (dC (.bl false)))))) (dSeq (dRet (dC (.bl false))) dSkip) dSkip) (dSeq (dIf (dTest (dOp dNe (dCall (sp_worth (He.ga K "BadValue")) [] QE (dCons (dCall (sp_mk 6) [] QE (dCons (dC (.int 39)) dNil)) (dCons (dTup (dCons (dOp dPow (dC (.int 10)) (dC (.int 40))) dNil)) dNil))) (dOp dTimes (dC (.int 20)) (dOp dPow (dC (.int 10)) (dC (.int 40)))))) (dSeq (dRet (dC (.bl false))) dSkip) dSkip) (dSeq (dSet (dCall sp_pick [] QE (dCons (dVar 1) (dCons (dLst (dCons (dC (.int 0)) (dCons (dC (.int 5)) (dCons (dNeg (dC (.int 1))) (dCons (dC (.bl true)) (dCons (dC .non) (dCons (dC (.str "1")) dNil))))))) dNil))) 11) (dSeq (dIf (dTest (dOp dNe (dHeard 0 Pt (("law" ++ ".<locals>.") ++ "<lambda>") HnK (HxK K) fun QE => (dCall (sp_fla (He.ga K "BadNumber")) [] QE (dCons (dTup (dCons (dC (.str "count")) (dCons (dC (.int 0)) dNil))) (dCons (dVar 11) dNil)))) (dTup (dCons (dC (.str "raised")) (dCons (dC (.str "number")) (dCons (dC (.str "doors")) dNil)))))) (dSeq (dRet (dC (.bl false))) dSkip) dSkip) (dSeq (dSet (dCall sp_pick [] QE (dCons (dVar 1) (dCons (dLst (dCons (dLst dNil) (dCons (dOp dTimes (dLst (dCons (dC (.int 1)) dNil)) (dC (.int 5))) (dCons (dLst (dCons (dNeg (dC (.int 1))) dNil)) (dCons (dLst (dCons (dC (.bl true)) dNil)) (dCons (dC .non) (dCons (dC (.int 3)) (dCons (dLst (dCons (dC (.int 0)) (dCons (dC .non) dNil))) (dCons (dTup (dCons (dC (.str "1")) dNil)) dNil))))))))) dNil))) 12) (dSeq (dIf (dTest (dOp dNe (dHeard 0 Pt (("law" ++ ".<locals>.") ++ "<lambda>") HnK (HxK K) fun QE => (dCall (sp_worth (He.ga K "BadValue")) [] QE (dCons (dC .non) (dCons (dVar 12) dNil)))) (dTup (dCons (dC (.str "raised")) (dCons (dC (.str "value")) (dCons (dC (.str "counts")) dNil)))))) (dSeq (dRet (dC (.bl false))) dSkip) dSkip) (dSeq (dRet (dOp dEq (dHeard 0 Pt (("law" ++ ".<locals>.") ++ "<lambda>") HnK (HxK K) fun QE => (dCall (sp_worth (He.ga K "BadValue")) [] QE (dCons (dC .non) (dCons (dTup (dCons (dC (.int 1)) dNil)) dNil)))) (dTup (dCons (dC (.str "raised")) (dCons (dC (.str "value")) (dCons (dC (.str "formula")) dNil)))))) dSkip)))))))))
theorem lawE {b : Nat} {μ0 μ : Mu} {Q : EQ} {QE : XQ} {v0 o2 o3 o4 o5 o6 o7 o8 o9 o10 o11 o12 o13 o14 : Option Va} (L : Lw Pt (("law" ++ ".<locals>.") ++ "<lambda>") b μ) (hb : b ≤ 700000) (q : ∀ μ', Fin μ0 Q (.d (.bl true)) μ') :
    T_lawE K Pt QE { nx := fun _ μ' => Fin μ0 Q (.d .non) μ', rt := Fin μ0 Q } [v0, some (.m 1), o2, o3, o4, o5, o6, o7, o8, o9, o10, o11, o12, o13, o14] μ := by
  simp only [T_lawE, unD, Option.map_some, dSeq, dRet, dRetN, dIf, dSkip, dSet, dCa, dCons, dNil, dVar, dC, dOp, dTest, dAnd, dOr, dNot, dAndV, dOrV, dNotV, dIfE, dCall, dChain, dTup, dLst, dSl, dPart, dNoP, dLt, dLe, dGt, dGe, dMinus, dPlus, dDrop, dPar, List.getElem?_cons_zero, List.getElem?_cons_succ, List.length_cons, List.length_nil, List.map_cons, List.map_nil, List.cons_append, List.nil_append, List.append_nil, List.replicate_succ, List.replicate_zero, List.set_cons_zero, List.set_cons_succ]
  refine ⟨b, 1, rfl, L.pen, by omega, fun m μ1 hg hf hz t1 => ?_⟩
  have L1 := L.to t1
  refine ⟨by simp, b + 11, 1, _, _, rfl, rfl, L1.pen, by omega, by simp, by simp, fun y μ2 hy t2 => ?_⟩
  have L2 := L1.to t2
  have isTrue : ∀ (x : D) (mm : Fm) (k : Nat) (R : EQ) (QX : XQ) (μx : Mu), x = toD mm → gd 1 12 mm → sz mm ≤ 40 → R (.d (.bl true)) μx → sp_fla (He.ga K "BadNumber") [.d x, .d (.int 1)] μx R QX := fun x mm k R QX μx e g z hR =>
    ⟨x, .int 1, "int", 12, rfl, by rw [e]; exact ok_toD g, rfl, .inl ⟨1, rfl, by decide, by decide, .inr ⟨mm, e, g, by rw [decide_eq_true z]; exact hR⟩⟩⟩
  have mk : ∀ (i : Int) (R : EQ) (QX : XQ) (μx : Mu), 1 ≤ i → i % 2 = 1 → i ≤ 41 → (∀ mm : Fm, gd 1 6 mm → (sz mm : Int) = i → (∀ c : Int, 2 * ev [c] mm = c * (i + 1)) → R (.d (toD mm)) μx) → sp_mk 6 [.d (.int i)] μx R QX := fun i R QX μx h1 h2 h3 hR =>
    ⟨i, rfl, h1, h2, by have e : (2 : Int) ^ 6 = 64 := rfl; omega, by decide, hR⟩
  have yi : ∃ i : Int, y = .int i ∧ 1 ≤ i ∧ i % 2 = 1 ∧ i ≤ 39 := by
    simp only [List.mem_cons, List.not_mem_nil, or_false] at hy
    rcases hy with rfl | rfl | rfl | rfl
    · exact ⟨1, rfl, by decide, by decide, by decide⟩
    · exact ⟨3, rfl, by decide, by decide, by decide⟩
    · exact ⟨37, rfl, by decide, by decide, by decide⟩
    · exact ⟨39, rfl, by decide, by decide, by decide⟩
  obtain ⟨size, rfl, s1, s2, s3⟩ := yi
  have ok12 : okN 12 (toD m) = true := ok_toD hg
  have c9 : csOk [9] := fun c hc => by
    rw [List.mem_singleton.mp hc]
    exact ⟨by decide, by decide⟩
  -- the row
  refine isTrue _ m 12 _ _ _ rfl hg hz (isNot_bl ?_)
  simp only [decide_true, Bool.not_true, Bool.false_eq_true, if_false]
  refine ⟨by simp, ?_⟩
  refine ⟨_, .int 1, "int", 13, rfl, ok_con (l := false) (xs := [.str "times", .int 1, toD m]) (by simp) (fun z hz => ?_), rfl, .inl ⟨1, rfl, by decide, by decide, .inl ⟨?_, ?_⟩⟩⟩
  · simp only [List.mem_cons, List.not_mem_nil, or_false] at hz
    rcases hz with rfl | rfl | rfl
    · exact ok_fl rfl
    · exact ok_fl rfl
    · exact ok12
  · have e := formed_con (doors := 1) (n := 11) (l := false) (rest := [.int 1, toD m]) look_tim
    rw [parts_nf, hf, Bool.and_false] at e
    exact e
  refine isNot_bl ?_
  simp only [decide_true, Bool.not_true, Bool.false_eq_true, if_false]
  have s9 : seqD (.lst [.int 9]) = some (([9] : List Int).map D.int) := rfl
  refine ⟨by simp, ?_⟩
  refine ⟨toD m, _, 12, 1, rfl, ok12, ok_ints (l := true) (cs := [9]) (by decide), .inr (.inr ⟨[9], m, s9, counts_good s9 (by decide) (by decide) c9, c9, rfl, hg, hz, ?_⟩)⟩
  refine ⟨by simp, m, _, [9], rfl, s9, hg, by decide, c9, ?_⟩
  simp only [dNe, dEqG, Bool.true_bne, decide_true, Bool.not_true, Bool.false_eq_true, if_false]
  -- sums made of others
  refine mk _ _ _ _ s1 s2 (by omega) fun ma ga sa va => isTrue _ ma 12 _ _ _ rfl (gd_le ga (by decide)) (by omega) (isNot_bl ?_)
  simp only [decide_true, Bool.not_true, Bool.false_eq_true, if_false]
  refine mk 39 _ _ _ (by decide) (by decide) (by decide) fun mb gb sb vb => ⟨by simp, isTrue _ (.dv false false mb 2) 12 _ _ _ rfl ⟨⟨by decide, by decide⟩, gd_le gb (by decide)⟩ (by rw [sz]; omega) (isNot_bl ?_)⟩
  simp only [decide_true, Bool.not_true, Bool.false_eq_true, if_false]
  refine mk 41 _ _ _ (by decide) (by decide) (by decide) fun mc gc sc vc => ⟨toD mc, .int 1, "int", 12, rfl, ok_toD (gd_le gc (by decide) : gd 1 12 mc), rfl, .inl ⟨1, rfl, by decide, by decide, .inr ⟨mc, rfl, gd_le gc (by decide), ?_⟩⟩⟩
  rw [decide_eq_false (show ¬ sz mc ≤ 40 by omega)]
  refine isNot_bl ?_
  simp only [decide_true, Bool.not_true, Bool.false_eq_true, if_false]
  -- its worth
  refine mk 39 _ _ _ (by decide) (by decide) (by decide) fun md gdd sd vd => ?_
  simp only [dPow, dTimes]
  have cp : CPow 10 40 := cpow_ok (by decide) (by decide) (by decide) (by decide)
  have cC : csOk [10 ^ (40 : Int).toNat] := fun c hc => by
    rw [List.mem_singleton.mp hc]
    exact ⟨by decide, by decide⟩
  have sC : seqD (.tup [.int (10 ^ (40 : Int).toNat)]) = some (([10 ^ (40 : Int).toNat] : List Int).map D.int) := rfl
  refine ⟨cp, by simp, toD md, _, 12, 1, rfl, ok_toD (gd_le gdd (by decide) : gd 1 12 md), ok_ints (l := false) (cs := [10 ^ (40 : Int).toNat]) (by simp), .inr (.inr ⟨[10 ^ (40 : Int).toNat], md, sC, counts_good sC (by simp) (by simp) cC, cC, rfl, gd_le gdd (by decide), by omega, ?_⟩)⟩
  refine ⟨cp, .inl (.inl ⟨by decide, by decide⟩), ?_⟩
  have ew : ev [10 ^ (40 : Int).toNat] md = 20 * 10 ^ (40 : Int).toNat := by
    have z := vd (10 ^ (40 : Int).toNat)
    omega
  rw [ew]
  simp only [decide_true, Bool.not_true, Bool.false_eq_true, if_false, dNeg, dSeq, dRet, dRetN, dIf, dSkip, dSet, dCa, dCons, dNil, dVar, dC, dOp, dTest, dAnd, dOr, dNot, dAndV, dOrV, dNotV, dIfE, dCall, dChain, dTup, dLst, dSl, dPart, dNoP, dLt, dLe, dGt, dGe, dMinus, dPlus, dDrop, dPar, List.getElem?_cons_zero, List.getElem?_cons_succ, List.length_cons, List.length_nil, List.map_cons, List.map_nil, List.cons_append, List.nil_append, List.append_nil, List.replicate_succ, List.replicate_zero, List.set_cons_zero, List.set_cons_succ]
  -- odd doors
  refine ⟨by simp, b + 12, 1, _, _, rfl, rfl, L2.pen, by omega, by simp, by simp, fun od μ3 ho t3 => ?_⟩
  have L3 := L2.to t3
  simp only [dHeard, unD, Option.map_some, dSeq, dRet, dRetN, dIf, dSkip, dSet, dCa, dCons, dNil, dVar, dC, dOp, dTest, dAnd, dOr, dNot, dAndV, dOrV, dNotV, dIfE, dCall, dChain, dTup, dLst, dSl, dPart, dNoP, dLt, dLe, dGt, dGe, dMinus, dPlus, dDrop, dPar, List.getElem?_cons_zero, List.getElem?_cons_succ, List.length_cons, List.length_nil, List.map_cons, List.map_nil, List.cons_append, List.nil_append, List.append_nil, List.replicate_succ, List.replicate_zero, List.set_cons_zero, List.set_cons_succ]
  have oc0 : okN 1 (.tup [.str "count", .int 0]) = true := ok_con (l := false) (xs := [.str "count", .int 0]) (by simp) fun z hz => by
    simp only [List.mem_cons, List.not_mem_nil, or_false] at hz
    rcases hz with rfl | rfl <;> exact ok_fl rfl
  have odt : ∃ t, tyD od = some t ∧ ∀ i, od = .int i → i < 1 ∨ 4 < i := by
    simp only [List.mem_cons, List.not_mem_nil, or_false] at ho
    rcases ho with rfl | rfl | rfl | rfl | rfl | rfl
    · exact ⟨_, rfl, fun i e => by cases e; decide⟩
    · exact ⟨_, rfl, fun i e => by cases e; decide⟩
    · exact ⟨_, rfl, fun i e => by cases e; decide⟩
    · exact ⟨_, rfl, fun i e => by cases e⟩
    · exact ⟨_, rfl, fun i e => by cases e⟩
    · exact ⟨_, rfl, fun i e => by cases e⟩
  obtain ⟨t, ht, hnot⟩ := odt
  refine ⟨L3.tab.1, L3.tab.2, by simp, _, od, t, 1, rfl, oc0, ht, .inr ⟨hnot, rfl, _, rfl, .inr ⟨rfl, by simp, ?_⟩⟩⟩
  rw [norm3]
  refine ⟨sh2, sh2, ?_⟩
  rw [eqv_strs]
  simp only [Bool.not_true, Bool.false_eq_true, if_false]
  -- odd counts
  refine ⟨by simp, by simp, ?_⟩
  simp only [asL, asS]
  refine ⟨⟨by decide, by decide⟩, by decide +kernel, by simp, by simp, by simp, by simp, by simp, b + 13, 1, _, _, rfl, rfl, L3.pen, by omega, by simp, by simp, fun wr μ4 hw t4 => ?_⟩
  have L4 := L3.to t4
  simp only [dHeard, unD, Option.map_some, dSeq, dRet, dRetN, dIf, dSkip, dSet, dCa, dCons, dNil, dVar, dC, dOp, dTest, dAnd, dOr, dNot, dAndV, dOrV, dNotV, dIfE, dCall, dChain, dTup, dLst, dSl, dPart, dNoP, dLt, dLe, dGt, dGe, dMinus, dPlus, dDrop, dPar, List.getElem?_cons_zero, List.getElem?_cons_succ, List.length_cons, List.length_nil, List.map_cons, List.map_nil, List.cons_append, List.nil_append, List.append_nil, List.replicate_succ, List.replicate_zero, List.set_cons_zero, List.set_cons_succ]
  have owr : okN 1 wr = true ∧ countsOk wr = false := by
    simp only [List.mem_cons, List.not_mem_nil, or_false] at hw
    rcases hw with rfl | rfl | rfl | rfl | rfl | rfl | rfl | rfl
    all_goals exact ⟨by decide +kernel, by decide +kernel⟩
  have c1 : csOk [1] := fun c hc => by
    rw [List.mem_singleton.mp hc]
    exact ⟨by decide, by decide⟩
  have s1t : seqD (.tup [.int 1]) = some (([1] : List Int).map D.int) := rfl
  refine ⟨L4.tab.1, L4.tab.2, .non, wr, 1, 1, rfl, ok_fl rfl, owr.1, .inl ⟨owr.2, rfl, _, rfl, .inl ⟨rfl, by simp, ?_⟩⟩⟩
  rw [norm3]
  refine ⟨sh3, sh3, ?_⟩
  rw [eqv_strs]
  simp only [Bool.not_true, Bool.false_eq_true, if_false]
  refine ⟨L4.tab.1, L4.tab.2, by simp, .non, _, 1, 1, rfl, ok_fl rfl, ok_ints (l := false) (cs := [1]) (by decide), .inr (.inl ⟨_, rfl, counts_good s1t (by decide) (by decide) c1, rfl, rfl, _, rfl, .inl ⟨rfl, by simp, ?_⟩⟩)⟩
  simp only [dEq, dEqG, norm3]
  refine ⟨sh1, sh1, ?_⟩
  rw [eqv_strs]
  exact q μ4
theorem H_law (args : List Va) (μ : Mu) (Q : EQ) (QE : XQ) (h : sp_law Pt (("law" ++ ".<locals>.") ++ "<lambda>") args μ Q QE) : TT K Pt QE { nx := fun _ μ' => Fin μ Q (.d .non) μ', rt := Fin μ Q } (args.map some ++ List.replicate (N_law.length - args.length) none) μ := by
  obtain ⟨ns, rfl, rfl, q⟩ := h
  have done : ∀ μ', Fin [.tab Pt (("law" ++ ".<locals>.") ++ "<lambda>")] Q (.d (.bl true)) μ' := fun μ' => .now (q μ')
  simp only [TT, T_law, dSeq, dRet, dRetN, dIf, dSkip, dSet, dCa, dCons, dNil, dVar, dC, dOp, dTest, dAnd, dOr, dNot, dAndV, dOrV, dNotV, dIfE, dCall, dChain, dTup, dLst, dSl, dPart, dNoP, dLt, dLe, dGt, dGe, dMinus, dPlus, dDrop, dPar, List.getElem?_cons_zero, List.getElem?_cons_succ, List.length_cons, List.length_nil, List.map_cons, List.map_nil, List.cons_append, List.nil_append, List.append_nil, List.replicate_succ, List.replicate_zero, List.set_cons_zero, List.set_cons_succ]
  refine ⟨ns, rfl, fun cs0 => ?_⟩
  simp only [dFor, dRange1, dSeq, dRet, dRetN, dIf, dSkip, dSet, dCa, dCons, dNil, dVar, dC, dOp, dTest, dAnd, dOr, dNot, dAndV, dOrV, dNotV, dIfE, dCall, dChain, dTup, dLst, dSl, dPart, dNoP, dLt, dLe, dGt, dGe, dMinus, dPlus, dDrop, dPar, List.getElem?_cons_zero, List.getElem?_cons_succ, List.length_cons, List.length_nil, List.map_cons, List.map_nil, List.cons_append, List.nil_append, List.append_nil, List.replicate_succ, List.replicate_zero, List.set_cons_zero, List.set_cons_succ]
  refine ⟨⟨by decide, by decide⟩, forC_inv (fun _ => True) (fun xs es μ' => ∃ o2 o3 o4 o5 o6 o7 o8 o9 o10 o11 o12 o13 o14 : Option Va, es = [some (.d (.lsk (ns.map D.int))), some (.m 1), o2, o3, o4, o5, o6, o7, o8, o9, o10, o11, o12, o13, o14] ∧ xs.length ≤ 6 ∧ Lw Pt (("law" ++ ".<locals>.") ++ "<lambda>") (700 * (6 - xs.length)) μ') (fun _ _ _ _ => trivial) ?_ ?_ _ _ _ ?_⟩
  · rintro es μ' ⟨o2, o3, o4, o5, o6, o7, o8, o9, o10, o11, o12, o13, o14, rfl, _, L⟩
    exact lawE (Pt := Pt) L (by decide) done
  · rintro x xs es μ' nx ⟨o2, o3, o4, o5, o6, o7, o8, o9, o10, o11, o12, o13, o14, rfl, hl, L⟩ hnx
    simp only [dgName, dSeq, dRet, dRetN, dIf, dSkip, dSet, dCa, dCons, dNil, dVar, dC, dOp, dTest, dAnd, dOr, dNot, dAndV, dOrV, dNotV, dIfE, dCall, dChain, dTup, dLst, dSl, dPart, dNoP, dLt, dLe, dGt, dGe, dMinus, dPlus, dDrop, dPar, List.getElem?_cons_zero, List.getElem?_cons_succ, List.length_cons, List.length_nil, List.map_cons, List.map_nil, List.cons_append, List.nil_append, List.append_nil, List.replicate_succ, List.replicate_zero, List.set_cons_zero, List.set_cons_succ]
    rw [List.length_cons] at hl L
    refine turn_ok (Pt := Pt) (b := 700 * (6 - (xs.length + 1))) (o3 := o3) (o4 := o4) (bk := fun _ _ => False) (ct := fun _ _ => False) L (by omega) fun p3 p4 p5 p6 p7 p8 μ2 L2 => ?_
    exact hnx _ _ ⟨_, _, _, _, _, _, _, _, _, _, _, _, _, rfl, by omega, L2.le (by omega)⟩
  · exact ⟨_, _, _, _, _, _, _, _, _, _, _, _, _, rfl, by decide, ⟨cs0, 0, 0, rfl, by decide, by decide, by decide⟩⟩
end

/-! ### the chain of defs -/
theorem H_plain0 {p : Pr} (args : List Va) (μ : Mu) (Q : EQ) (QE : XQ) (h : sp_plain 0 args μ Q QE) : T_plain p QE { nx := fun _ μ' => Fin μ Q (.d .non) μ', rt := Fin μ Q } (args.map some ++ List.replicate (N_plain.length - args.length) none) μ := by
  obtain ⟨x, rfl, hx, q⟩ := h
  simp only [T_plain, dSeq, dRet, dRetN, dIf, dSkip, dSet, dCa, dCons, dNil, dVar, dC, dOp, dTest, dAnd, dOr, dNot, dAndV, dOrV, dNotV, dIfE, dCall, dChain, dTup, dLst, dSl, dPart, dNoP, dLt, dLe, dGt, dGe, dMinus, dPlus, dDrop, dPar, List.getElem?_cons_zero, List.getElem?_cons_succ, List.length_cons, List.length_nil, List.map_cons, List.map_nil, List.cons_append, List.nil_append, List.append_nil, List.replicate_succ, List.replicate_zero, List.set_cons_zero, List.set_cons_succ]
  refine ⟨by decide, g_lt hx ?_⟩
  dsimp only
  cases hs : seqD x with
  | none =>
    simp only [Option.isSome_none, Bool.false_eq_true, if_false]
    exact .now q
  | some xs =>
    have e : isFl x = true := hx
    rw [seqD_fl hs] at e
    cases e

section
variable {P : Program} {w : World} {K : PySem.W.Frag} {mg : Str → Option Value} {base : Heap}
structure HD (K : PySem.W.Frag) (mg : Str → Option Value) (x : Str) (s : Stmt) : Prop where
  m : mg x = some (.ref (He.fAd K (x, none)))
  F : ∃ fd, FunD K x x (defArgs s) (defBody s) (defScope s) [] [] (He.fAd K (x, none)) fd
theorem hd_no {x : Str} {s : Stmt} {ps : List Str} {k : Nat} (D : HD K mg x s)
    (hbd : ∀ (kV doc pm : Value) (an : Option Addr) (cdv ct : Value) (us : List Value), us.length = ps.length → bindArgs (PySem.W.fnOf x x (defArgs s) (defBody s) (defScope s) .none kV doc pm an cdv ct) ⟨us, []⟩ = pure (ps.zip us)) :
    Fn P w K mg base k x [] (fun _ _ _ _ => False) := by
  obtain ⟨fd, F⟩ := D.F
  exact ⟨_, fd, ps, [], [], D.m, F.kp, fn_never fun _ _ _ _ h => h, F.bindsN hbd, .nil, fun _ => RL.nil⟩
theorem hd_fn {x : Str} {s : Stmt} {N ps : List Str} {sp : Pr} {T : XQ → STd} {k : Nat} (D : HD K mg x s) (S : FnScope N ps (defScope s))
    (hbd : ∀ (kV doc pm : Value) (an : Option Addr) (cdv ct : Value) (us : List Value), us.length = ps.length → bindArgs (PySem.W.fnOf x x (defArgs s) (defBody s) (defScope s) .none kV doc pm an cdv ct) ⟨us, []⟩ = pure (ps.zip us))
    (len : ∀ args μ Q QE, sp args μ Q QE → args.length = ps.length)
    (hb : ∀ (cdv : Value) (A : Around) (outer : List Env) (s' : Shared) (H : Hp) (E : XK) (Z : Anc) (QE : XQ), Room k (A.deeper (envOfC x (defScope s) s'.heap.objs.size (He.fAd K (x, none)) cdv)) → TakesD (cxOf (L2.CX P w) P w K mg base N x (defScope s) (He.fAd K (x, none)) cdv A outer s' H E) Z QE →
      DSs (cxOf (L2.CX P w) P w K mg base N x (defScope s) (He.fAd K (x, none)) cdv A outer s' H E) Z (defBody s) (T QE))
    (hp : ∀ args μ Q QE, sp args μ Q QE → T QE { nx := fun _ μ' => Fin μ Q (.d .non) μ', rt := Fin μ Q } (args.map some ++ List.replicate (N.length - args.length) none) μ) : Fn P w K mg base (k + 1) x [] sp := by
  obtain ⟨fd, F⟩ := D.F
  exact ⟨_, fd, ps, [], [], D.m, F.kp, d_fn F S len hb hp, F.bindsN hbd, .nil, fun _ => RL.nil⟩
theorem kw0_rel {sw : Bool} {vs : List V} {us : List Value} {zs : List V} {ws : List Value} (r : Vals vs us) (rz : Vals zs ws) : Vals (kw0 sw vs zs) (kw0 sw us ws) := by
  cases r with
  | nil => cases sw with
    | true => exact vals_swap rz
    | false => exact rz
  | cons a t => exact .nil
theorem hd_kw {x : Str} {s : Stmt} {N ps ks : List Str} {sp : Pr} {T : XQ → STd} {k : Nat} {sw : Bool} (D : HD K mg x s) (S : FnScope N ps (defScope s)) (hps : ps.length = 2)
    (hbd : ∀ (kV doc pm : Value) (an : Option Addr) (cdv ct : Value) (a b : Value), bindArgs (PySem.W.fnOf x x (defArgs s) (defBody s) (defScope s) .none kV doc pm an cdv ct) ⟨[], ks.zip [a, b]⟩ = pure (ps.zip (kw0 sw [] [a, b])))
    (len : ∀ args μ Q QE, sp args μ Q QE → args.length = ps.length)
    (hb : ∀ (cdv : Value) (A : Around) (outer : List Env) (s' : Shared) (H : Hp) (E : XK) (Z : Anc) (QE : XQ), Room k (A.deeper (envOfC x (defScope s) s'.heap.objs.size (He.fAd K (x, none)) cdv)) → TakesD (cxOf (L2.CX P w) P w K mg base N x (defScope s) (He.fAd K (x, none)) cdv A outer s' H E) Z QE →
      DSs (cxOf (L2.CX P w) P w K mg base N x (defScope s) (He.fAd K (x, none)) cdv A outer s' H E) Z (defBody s) (T QE))
    (hp : ∀ args μ Q QE, sp args μ Q QE → T QE { nx := fun _ μ' => Fin μ Q (.d .non) μ', rt := Fin μ Q } (args.map some ++ List.replicate (N.length - args.length) none) μ) : FnKw P w K mg base (k + 1) x ks sw sp := by
  obtain ⟨fd, F⟩ := D.F
  refine ⟨_, fd, ps, D.m, F.kp, d_fn F S len hb hp, ⟨fun s' us ws X hl => ?_, fun r rz => kw0_rel r rz⟩⟩
  obtain ⟨oc, od, dV, kV, doc, pm, an, cdv, ct, osl, rfl, lk, hcd, hD, hK⟩ := F.ex
  rcases hD with ⟨_, rfl⟩ | ⟨e, _⟩
  · match us, hl with
    | [], hl =>
      rw [hps] at hl
      have l2 : ws.length = 2 := by
        cases sw with
        | true =>
          match ws, hl with
          | [_, _], _ => rfl
        | false => exact hl
      match ws, l2 with
      | [a, b], _ => exact .of_eq (hbd kV doc pm an cdv ct a b)
    | _ :: _, hl =>
      rw [hps] at hl
      cases hl
  · exact absurd rfl e

variable (G : Facts K mg w)
include G
theorem F_is_integer (D : HD K mg "is_integer" s_is_integer) : Fn P w K mg base 3 "is_integer" [] sp_is_integer := hd_fn (k := 2) D S_is_integer (fun _ _ _ _ _ _ us hl => match us, hl with | [_], _ => rfl) (fun _ _ _ _ h => by obtain ⟨_, _, rfl, _⟩ := h; rfl) (fun cdv A outer s H E Z QE hr tk => B_is_integer (kF := 2) G (Nat.le_refl _) (by omega) hr tk) H_is_integer
theorem F_plain (D : HD K mg "plain" s_plain) : ∀ n : Nat, Fn P w K mg base (n + 3) "plain" [] (sp_plain n)
  | 0 => hd_fn (k := 2) D S_plain (fun _ _ _ _ _ _ us hl => match us, hl with | [_], _ => rfl) (fun _ _ _ _ h => by obtain ⟨_, rfl, _⟩ := h; rfl) (fun cdv A outer s H E Z QE hr tk => B_plain (kF := 2) G (Nat.le_refl _) (by omega) hr tk (hd_no (ps := P_plain) D (fun _ _ _ _ _ _ us hl => match us, hl with | [_], _ => rfl))) H_plain0
  | n + 1 => hd_fn (k := n + 3) D S_plain (fun _ _ _ _ _ _ us hl => match us, hl with | [_], _ => rfl) (fun _ _ _ _ h => by obtain ⟨_, rfl, _⟩ := h; rfl) (fun cdv A outer s H E Z QE hr tk => B_plain G (Nat.le_refl _) (by omega) hr tk (F_plain D n)) (H_plain n)
theorem F_formed (D : HD K mg "is_formed" s_is_formed) (DF : HD K mg "fits" s_fits) (DI : HD K mg "is_integer" s_is_integer) : ∀ n : Nat, Fn P w K mg base (2 * n + 3) "is_formed" [] (sp_formed n)
  | 0 => hd_fn (k := 2) D S_is_formed (fun _ _ _ _ _ _ us hl => match us, hl with | [_, _, _], _ => rfl) (fun _ _ _ _ h => by obtain ⟨_, _, _, rfl, _⟩ := h; rfl) (fun cdv A outer s H E Z QE hr tk => B_is_formed (kF := 2) G (Nat.le_refl _) (by omega) hr tk (hd_no (ps := P_fits) DF (fun _ _ _ _ _ _ us hl => match us, hl with | [_, _, _, _], _ => rfl))) H_formed0
  | n + 1 => hd_fn (k := 2 * n + 4) D S_is_formed (fun _ _ _ _ _ _ us hl => match us, hl with | [_, _, _], _ => rfl) (fun _ _ _ _ h => by obtain ⟨_, _, _, rfl, _⟩ := h; rfl) (fun cdv A outer s H E Z QE hr tk => B_is_formed G (Nat.le_refl _) (by omega) hr tk (hd_fn (k := 2 * n + 3) DF S_fits (fun _ _ _ _ _ _ us hl => match us, hl with | [_, _, _, _], _ => rfl) (fun _ _ _ _ h => by obtain ⟨_, _, _, _, rfl, _⟩ := h; rfl) (fun cdv A outer s H E Z QE hr tk => B_fits G (Nat.le_refl _) (by omega) hr tk ((F_is_integer G DI).mono (by omega)) (F_formed D DF DI n)) (H_fits n))) (H_formed n)
theorem F_made_of (D : HD K mg "made_of" s_made_of) : ∀ n : Nat, Fn P w K mg base (n + 3) "made_of" [] (sp_made n)
  | 0 => hd_fn (k := 2) D S_made_of (fun _ _ _ _ _ _ us hl => match us, hl with | [_], _ => rfl) (fun _ _ _ _ h => by obtain ⟨_, _, rfl, _⟩ := h; rfl) (fun cdv A outer s H E Z QE hr tk => B_made_of (kF := 2) G (Nat.le_refl _) (by omega) hr tk (hd_no (ps := P_made_of) D (fun _ _ _ _ _ _ us hl => match us, hl with | [_], _ => rfl))) H_made0
  | n + 1 => hd_fn (k := n + 3) D S_made_of (fun _ _ _ _ _ _ us hl => match us, hl with | [_], _ => rfl) (fun _ _ _ _ h => by obtain ⟨_, _, rfl, _⟩ := h; rfl) (fun cdv A outer s H E Z QE hr tk => B_made_of G (Nat.le_refl _) (by omega) hr tk (F_made_of D n)) (H_made n)
theorem F_worth_at (D : HD K mg "worth_at" s_worth_at) : ∀ n : Nat, Fn P w K mg base (n + 3) "worth_at" [] (sp_wat n)
  | 0 => hd_fn (k := 2) D S_worth_at (fun _ _ _ _ _ _ us hl => match us, hl with | [_, _], _ => rfl) (fun _ _ _ _ h => by obtain ⟨_, _, rfl, _⟩ := h; rfl) (fun cdv A outer s H E Z QE hr tk => B_worth_at (kF := 2) G (Nat.le_refl _) (by omega) hr tk (hd_no (ps := P_worth_at) D (fun _ _ _ _ _ _ us hl => match us, hl with | [_, _], _ => rfl))) H_wat0
  | n + 1 => hd_fn (k := n + 3) D S_worth_at (fun _ _ _ _ _ _ us hl => match us, hl with | [_, _], _ => rfl) (fun _ _ _ _ h => by obtain ⟨_, _, rfl, _⟩ := h; rfl) (fun cdv A outer s H E Z QE hr tk => B_worth_at G (Nat.le_refl _) (by omega) hr tk (F_worth_at D n)) (H_wat n)
theorem F_l_worth (D : HD K mg "_law_worth" s_l_worth) : ∀ n : Nat, Fn P w K mg base (n + 3) "_law_worth" [] (sp_lw n)
  | 0 => hd_fn (k := 2) D S_l_worth (fun _ _ _ _ _ _ us hl => match us, hl with | [_, _], _ => rfl) (fun _ _ _ _ h => by obtain ⟨_, _, _, rfl, _⟩ := h; rfl) (fun cdv A outer s H E Z QE hr tk => B_l_worth (kF := 2) G (Nat.le_refl _) (by omega) hr tk (hd_no (ps := P_l_worth) D (fun _ _ _ _ _ _ us hl => match us, hl with | [_, _], _ => rfl))) H_lw0
  | n + 1 => hd_fn (k := n + 3) D S_l_worth (fun _ _ _ _ _ _ us hl => match us, hl with | [_, _], _ => rfl) (fun _ _ _ _ h => by obtain ⟨_, _, _, rfl, _⟩ := h; rfl) (fun cdv A outer s H E Z QE hr tk => B_l_worth G (Nat.le_refl _) (by omega) hr tk (F_l_worth D n)) (H_lw n)
theorem F_l_made (D : HD K mg "_law_made" s_l_made) : ∀ n : Nat, Fn P w K mg base (n + 3) "_law_made" [] (sp_mk n)
  | 0 => hd_fn (k := 2) D S_l_made (fun _ _ _ _ _ _ us hl => match us, hl with | [_], _ => rfl) (fun _ _ _ _ h => by obtain ⟨_, rfl, _⟩ := h; rfl) (fun cdv A outer s H E Z QE hr tk => B_l_made (kF := 2) G (Nat.le_refl _) (by omega) hr tk (hd_no (ps := P_l_made) D (fun _ _ _ _ _ _ us hl => match us, hl with | [_], _ => rfl))) H_mk0
  | n + 1 => hd_fn (k := n + 3) D S_l_made (fun _ _ _ _ _ _ us hl => match us, hl with | [_], _ => rfl) (fun _ _ _ _ h => by obtain ⟨_, rfl, _⟩ := h; rfl) (fun cdv A outer s H E Z QE hr tk => B_l_made G (Nat.le_refl _) (by omega) hr tk (F_l_made D n)) (H_mk n)
theorem F_l_pen (D : HD K mg "_law_pen" s_l_pen) : Fn P w K mg base 3 "_law_pen" [] sp_pen := hd_fn (k := 2) D S_l_pen (fun _ _ _ _ _ _ us hl => match us, hl with | [_], _ => rfl) (fun _ _ _ _ h => by obtain ⟨_, rfl, _⟩ := h; rfl) (fun cdv A outer s H E Z QE hr tk => B_l_pen (kF := 2) G (Nat.le_refl _) (by omega) hr tk) H_pen
theorem F_l_draw (D : HD K mg "_law_draw" s_l_draw) : Fn P w K mg base 3 "_law_draw" [] sp_draw := hd_fn (k := 2) D S_l_draw (fun _ _ _ _ _ _ us hl => match us, hl with | [_, _], _ => rfl) (fun _ _ _ _ h => by obtain ⟨_, _, _, rfl, _⟩ := h; rfl) (fun cdv A outer s H E Z QE hr tk => B_l_draw (kF := 2) G (Nat.le_refl _) (by omega) hr tk) H_draw
theorem F_l_pick (D : HD K mg "_law_pick" s_l_pick) (Fd : Fn P w K mg base 3 "_law_draw" [] sp_draw) : Fn P w K mg base 4 "_law_pick" [] sp_pick := hd_fn (k := 3) D S_l_pick (fun _ _ _ _ _ _ us hl => match us, hl with | [_, _], _ => rfl) (fun _ _ _ _ h => by obtain ⟨_, _, _, _, rfl, _⟩ := h; rfl) (fun cdv A outer s H E Z QE hr tk => B_l_pick G (Nat.le_refl _) (by omega) hr tk Fd) H_pick
theorem F_l_great (D : HD K mg "_law_great" s_l_great) (Fp : Fn P w K mg base 4 "_law_pick" [] sp_pick) (Fd : Fn P w K mg base 3 "_law_draw" [] sp_draw) : Fn P w K mg base 5 "_law_great" [] sp_great := hd_fn (k := 4) D S_l_great (fun _ _ _ _ _ _ us hl => match us, hl with | [_], _ => rfl) (fun _ _ _ _ h => by obtain ⟨_, _, rfl, _⟩ := h; rfl) (fun cdv A outer s H E Z QE hr tk => B_l_great G (Nat.le_refl _) (by omega) hr tk Fp (Fd.mono (by omega))) H_great
theorem F_l_nested (D : HD K mg "_law_nested" s_l_nested) (Fp : Fn P w K mg base 4 "_law_pick" [] sp_pick) : Fn P w K mg base 5 "_law_nested" [] sp_nested := hd_fn (k := 4) D S_l_nested (fun _ _ _ _ _ _ us hl => match us, hl with | [_, _], _ => rfl) (fun _ _ _ _ h => by obtain ⟨_, _, rfl, _⟩ := h; rfl) (fun cdv A outer s H E Z QE hr tk => B_l_nested G (Nat.le_refl _) (by omega) hr tk Fp) H_nested
theorem F_l_formula (D : HD K mg "_law_formula" s_l_formula) (Fg : Fn P w K mg base 5 "_law_great" [] sp_great) (Fp : Fn P w K mg base 4 "_law_pick" [] sp_pick) (Fd : Fn P w K mg base 3 "_law_draw" [] sp_draw) : ∀ n : Nat, Fn P w K mg base (n + 6) "_law_formula" [] (sp_lf n)
  | 0 => hd_fn (k := 5) D S_l_formula (fun _ _ _ _ _ _ us hl => match us, hl with | [_, _, _], _ => rfl) (fun _ _ _ _ h => by obtain ⟨_, _, _, rfl, _⟩ := h; rfl) (fun cdv A outer s H E Z QE hr tk => B_l_formula (kF := 5) G (Nat.le_refl _) (by omega) hr tk (hd_no (ps := P_l_formula) D (fun _ _ _ _ _ _ us hl => match us, hl with | [_, _, _], _ => rfl)) Fg (Fp.mono (by omega)) (Fd.mono (by omega))) H_lf0
  | n + 1 => hd_fn (k := n + 6) D S_l_formula (fun _ _ _ _ _ _ us hl => match us, hl with | [_, _, _], _ => rfl) (fun _ _ _ _ h => by obtain ⟨_, _, _, rfl, _⟩ := h; rfl) (fun cdv A outer s H E Z QE hr tk => B_l_formula G (Nat.le_refl _) (by omega) hr tk (F_l_formula D Fg Fp Fd n) (Fg.mono (by omega)) (Fp.mono (by omega)) (Fd.mono (by omega))) (H_lf n)
theorem F_l_spoilt (D : HD K mg "_law_spoilt" s_l_spoilt) (Fp : Fn P w K mg base 4 "_law_pick" [] sp_pick) (Fd : Fn P w K mg base 3 "_law_draw" [] sp_draw) : ∀ n : Nat, Fn P w K mg base (n + 5) "_law_spoilt" [] (sp_sp n)
  | 0 => hd_fn (k := 4) D S_l_spoilt (fun _ _ _ _ _ _ us hl => match us, hl with | [_, _, _], _ => rfl) (fun _ _ _ _ h => by obtain ⟨_, _, _, _, rfl, _⟩ := h; rfl) (fun cdv A outer s H E Z QE hr tk => B_l_spoilt (kF := 4) G (Nat.le_refl _) (by omega) hr tk Fp (Fd.mono (by omega)) (hd_no (ps := P_l_spoilt) D (fun _ _ _ _ _ _ us hl => match us, hl with | [_, _, _], _ => rfl))) H_sp0
  | n + 1 => hd_fn (k := n + 5) D S_l_spoilt (fun _ _ _ _ _ _ us hl => match us, hl with | [_, _, _], _ => rfl) (fun _ _ _ _ h => by obtain ⟨_, _, _, _, rfl, _⟩ := h; rfl) (fun cdv A outer s H E Z QE hr tk => B_l_spoilt G (Nat.le_refl _) (by omega) hr tk (Fp.mono (by omega)) (Fd.mono (by omega)) (F_l_spoilt D Fp Fd n)) (H_sp n)
theorem F_is_one (D : HD K mg "is_one" s_is_one) (Fp : Fn P w K mg base 15 "plain" [] (sp_plain 12)) (Fm : Fn P w K mg base 15 "made_of" [] (sp_made 12)) (Ff : Fn P w K mg base 27 "is_formed" [] (sp_formed 12)) : Fn P w K mg base 28 "is_one" [] sp_one := hd_fn (k := 27) D S_is_one (fun _ _ _ _ _ _ us hl => match us, hl with | [_, _], _ => rfl) (fun _ _ _ _ h => by obtain ⟨_, _, _, rfl, _⟩ := h; rfl) (fun cdv A outer s H E Z QE hr tk => B_is_one G (Nat.le_refl _) (by omega) hr tk (Fp.mono (by omega)) (Fm.mono (by omega)) Ff) H_one
theorem F_need {fd : FuncData} (m : mg "need_integer" = some (.ref (He.fAd K ("need_integer", none)))) (F : FunD K "need_integer" "need_integer" (defArgs s_need_integer) (defBody s_need_integer) (defScope s_need_integer) [V.non] [] (He.fAd K ("need_integer", none)) fd) {C : Addr} (X : ExcK P w K mg base "BadNumber" C ["part"] 1) (Fi : Fn P w K mg base 3 "is_integer" [] sp_is_integer) : Fn P w K mg base 4 "need_integer" [] (sp_need C) := by
  obtain ⟨ds, r, b⟩ := F.binds1 (ps := P_need_integer) 4 1 (by simp) rfl fun T kV doc pm an cdv ct us its hu hi => match us, its, hu, hi with
    | [_, _, _, _], [_], _, _ => ⟨_, rfl, rfl⟩
  have e : ds = [] := by
    cases r
    rfl
  subst e
  exact ⟨_, fd, P_need_integer, [], [], m, F.kp, d_fn (k := 3) F S_need_integer (fun _ _ _ _ h => by obtain ⟨_, _, _, _, _, rfl, _⟩ := h; rfl) (fun cdv A outer s H E Z QE hr tk => B_need_integer G (Nat.le_refl _) (by omega) hr tk X Fi) (H_need C), b, .nil, fun _ => RL.nil⟩
theorem F_fla (D : HD K mg "is_formula" s_is_formula) {C : Addr} (Fo : Fn P w K mg base 28 "is_one" [] sp_one) (Fn1 : Fn P w K mg base 4 "need_integer" [] (sp_need C)) : Fn P w K mg base 29 "is_formula" [] (sp_fla C) := hd_fn (k := 28) D S_is_formula (fun _ _ _ _ _ _ us hl => match us, hl with | [_, _], _ => rfl) (fun _ _ _ _ h => by obtain ⟨_, _, _, _, rfl, _⟩ := h; rfl) (fun cdv A outer s H E Z QE hr tk => B_is_formula G (Nat.le_refl _) (by omega) hr tk Fo (Fn1.mono (by omega))) (H_fla C)
theorem Fk_fla (D : HD K mg "is_formula" s_is_formula) {C : Addr} (Fo : Fn P w K mg base 28 "is_one" [] sp_one) (Fn1 : Fn P w K mg base 4 "need_integer" [] (sp_need C)) : FnKw P w K mg base 29 "is_formula" ["value", "doors"] false (sp_fla C) := hd_kw (k := 28) D S_is_formula rfl (fun _ _ _ _ _ _ _ _ => rfl) (fun _ _ _ _ h => by obtain ⟨_, _, _, _, rfl, _⟩ := h; rfl) (fun cdv A outer s H E Z QE hr tk => B_is_formula G (Nat.le_refl _) (by omega) hr tk Fo (Fn1.mono (by omega))) (H_fla C)
theorem F_worth (D : HD K mg "worth" s_worth) {C : Addr} (X : ExcK P w K mg base "BadValue" C ["part"] 1) (Fp : Fn P w K mg base 15 "plain" [] (sp_plain 12)) (Fw : Fn P w K mg base 15 "worth_at" [] (sp_wat 12)) (Fo : Fn P w K mg base 28 "is_one" [] sp_one) (Fi : Fn P w K mg base 3 "is_integer" [] sp_is_integer) : Fn P w K mg base 29 "worth" [] (sp_worth C) := hd_fn (k := 28) D S_worth (fun _ _ _ _ _ _ us hl => match us, hl with | [_, _], _ => rfl) (fun _ _ _ _ h => by obtain ⟨_, _, _, _, rfl, _⟩ := h; rfl) (fun cdv A outer s H E Z QE hr tk => B_worth G (Nat.le_refl _) (by omega) hr tk (Fp.mono (by omega)) (Fw.mono (by omega)) Fo X (Fi.mono (by omega))) (H_worth C)
theorem Fk_worth (D : HD K mg "worth" s_worth) {C : Addr} (X : ExcK P w K mg base "BadValue" C ["part"] 1) (Fp : Fn P w K mg base 15 "plain" [] (sp_plain 12)) (Fw : Fn P w K mg base 15 "worth_at" [] (sp_wat 12)) (Fo : Fn P w K mg base 28 "is_one" [] sp_one) (Fi : Fn P w K mg base 3 "is_integer" [] sp_is_integer) : FnKw P w K mg base 29 "worth" ["counts", "formula"] true (sp_worth C) := hd_kw (k := 28) D S_worth rfl (fun _ _ _ _ _ _ _ _ => rfl) (fun _ _ _ _ h => by obtain ⟨_, _, _, _, rfl, _⟩ := h; rfl) (fun cdv A outer s H E Z QE hr tk => B_worth G (Nat.le_refl _) (by omega) hr tk (Fp.mono (by omega)) (Fw.mono (by omega)) Fo X (Fi.mono (by omega))) (H_worth C)
end
theorem hear_g {X : Cx} (G : Facts X.K X.mg X.w) (hM : X.mg "MarbleError" = some (.ref (He.ga X.K "MarbleError"))) (f0 : ExF X.K 0 (He.ga X.K "BadValue")) (f1 : ExF X.K 1 (He.ga X.K "BadNumber")) {g : Addr} {ql : Str} {k : Nat} (hr : Room (k + 2) X.A) (cdv : Value) :
    LamX.GivesTo X N_l_heard "_law_heard" (defScope s_l_heard) g cdv (defBody s_l_heard) "ask" ql (TTH X.K HnK (HxK X.K)) := by
  refine heard_gives (Ng := N_l_heard) (mk := "MarbleError") (CM := He.ga X.K "MarbleError") (rest := (defBody s_l_heard).drop 2) (T := T_l_heard X.K noX) (by decide) rfl rfl rfl rfl rfl rfl rfl rfl hM (by decide) (by decide) (by decide) (fun _ => rfl) (fun _ => rfl) (fun _ => rfl) (fun _ => rfl) (fun C ns xs μ QD h => ?_) (fun Z s H => B_l_heard G (hr.deeper _)) H_heardN (H_heardX f0 f1) (by decide)
  obtain ⟨_, y, _, h⟩ := h
  rcases h with ⟨rfl, _⟩ | ⟨rfl, _⟩
  · exact f0.exm
  · exact f1.exm
theorem hear_Y {Y : Cx} {Z : Anc} {c Pt : Addr} {k : Nat} {params : Arguments} {body : Expr} {scope : Scope} {p lpos pos : Pos} {T : XQ → ET} (G : Facts Y.K Y.mg Y.w) (D : HD Y.K Y.mg "_law_heard" s_l_heard) (hM : Y.mg "MarbleError" = some (.ref (He.ga Y.K "MarbleError"))) (f0 : ExF Y.K 0 (He.ga Y.K "BadValue")) (f1 : ExF Y.K 1 (He.ga Y.K "BadNumber")) (TB : LamX.TabB Y.base Y.mg c Pt) (hcode : Y.env.code = .ref c) (hq : Y.env.qual = "law" ++ ".<locals>.") (hg : Gl Y "_law_heard") (hr : Room (k + 2) Y.A) (L : LamX.LamS Y.env.scope scope)
    (hbody : ∀ (Z : Anc) (A : Around) (outer : List Env) (s : Shared) (H : Hp) (E : XK) (f c' : Addr) (QE : XQ), Room k (A.deeper (LamX.lamEnv Y scope s.heap.objs.size f c')) → TakesD (LamX.lamCx Y A outer s H E scope f c') Z QE → DE (LamX.lamCx Y A outer s H E scope f c') Z body (T QE))
    (hdef : defaultsOf params Y.env = ([], [])) (hbind : ∀ (q : Str) (cl : List (Str × Addr)) (pm cv ctv : Value), bindArgs (PySem.W.kla_fn "<lambda>" q params body scope cl pm cv ctv) ⟨[], []⟩ = pure []) :
    DE Y Z (.Call (.Name "_law_heard" p) [.Lambda params body scope lpos] [] pos) (dHeard 0 Pt (("law" ++ ".<locals>.") ++ "<lambda>") HnK (HxK Y.K) T) := by
  rw [← hq]
  obtain ⟨fd, F⟩ := D.F
  exact de_heard (Ng := N_l_heard) (kt := 0) F D.m (F.bindsN (ps := ["ask"]) (fun _ _ _ _ _ _ us hl => match us, hl with | [_], _ => rfl)) S_l_heard (fun cdv => hear_g G hM f0 f1 hr cdv) TB hcode hr L hbody hdef hbind hg rfl (.inl rfl) (by decide) (by decide) (by decide)
theorem hear_ok {P : Program} {w : World} {K : PySem.W.Frag} {mg : Str → Option Value} {base : Heap} (G : Facts K mg w) (D : HD K mg "_law_heard" s_l_heard) (hM : mg "MarbleError" = some (.ref (He.ga K "MarbleError"))) (f0 : ExF K 0 (He.ga K "BadValue")) (f1 : ExF K 1 (He.ga K "BadNumber")) {f c Pt : Addr} {k : Nat} (TB : LamX.TabB base mg c Pt) :
    HearR P w K mg base N_law (defScope s_law) f (.ref c) Pt HnK (HxK K) k := by
  intro A outer s H E Z params body scope p lpos pos T hr L hb hd hbi
  exact hear_Y (Y := cxOf (L2.CX P w) P w K mg base N_law "law" (defScope s_law) f (.ref c) A outer s H E) G D hM f0 f1 TB rfl rfl rfl hr L hb hd hbi


/-! ### the head -/
def clsM (i : Nat) : Stmt := match top i with
  | .ClassDef _ _ _ b _ _ _ _ _ _ _ => b.getD 0 (.Pass ⟨0, 0, 0, 0⟩)
  | _ => .Pass ⟨0, 0, 0, 0⟩
def dTop (x : Str) (s : Stmt) (dfl : List He.Dv) : He.DefD := ⟨(x, none), x, x, defArgs s, defBody s, defScope s, dfl, []⟩
def dIni (c : Str) (i : Nat) : He.DefD := ⟨(c, some "__init__"), "__init__", c ++ ".__init__", defArgs (clsM i), defBody (clsM i), defScope (clsM i), [], []⟩
def fnL : List He.DefD := [dTop "is_integer" s_is_integer [], dTop "need_integer" s_need_integer [.non], dTop "plain" s_plain [], dTop "fits" s_fits [], dTop "is_formed" s_is_formed [], dTop "is_one" s_is_one [], dTop "made_of" s_made_of [], dTop "worth_at" s_worth_at [], dTop "is_formula" s_is_formula [], dTop "worth" s_worth [],
  dTop "_law_pen" s_l_pen [], dTop "_law_draw" s_l_draw [], dTop "_law_pick" s_l_pick [], dTop "_law_great" s_l_great [], dTop "_law_worth" s_l_worth [], dTop "_law_heard" s_l_heard [], dTop "_law_formula" s_l_formula [], dTop "_law_spoilt" s_l_spoilt [], dTop "_law_nested" s_l_nested [], dTop "_law_made" s_l_made [], dTop "law" s_law [],
  dIni "BadValue" 2, dIni "BadNumber" 3]
def excL : List Str := ["BadValue", "BadNumber", "BadTable", "BadBoard", "NoDoor", "Misfit", "TooMany"]
def faL : List He.Fa := [.glo "is_integer", .glo "need_integer", .glo "plain", .glo "fits", .glo "is_formed", .glo "is_one", .glo "made_of", .glo "worth_at", .glo "is_formula", .glo "worth", .glo "_law_pen", .glo "_law_draw", .glo "_law_pick", .glo "_law_great", .glo "_law_worth", .glo "_law_heard", .glo "_law_formula", .glo "_law_spoilt", .glo "_law_nested", .glo "_law_made", .glo "law",
  .glo "SHAPES", .glo "MarbleError", .glo "BadValue", .glo "BadNumber", .glo "BadTable", .glo "BadBoard", .glo "NoDoor", .glo "Misfit", .glo "TooMany",
  .free "isinstance", .free "int", .free "bool", .free "str", .free "list", .free "tuple", .free "len", .free "all", .free "zip", .free "min", .free "max", .free "abs", .free "range", .free "enumerate", .free "ValueError", .int "MOST_DOORS" 4, .int "MOST_DEEP" 12, .int "MOST_MADE" 40]
def shapeKeys : List Str := ["count", "number", "sum", "times", "floor", "rest", "least", "most"]
def shapeV : List (Str × He.Dv) := [("count", .str "d"), ("number", .str "n"), ("sum", .str "ff"), ("times", .str "nf"), ("floor", .str "fk"), ("rest", .str "fk"), ("least", .str "ff"), ("most", .str "ff")]
def tsL : List He.Tab := [(fun K => He.ga K "SHAPES", shapeKeys)]
/-- what is asked of a class that is raised here -/
def exOne (K : PySem.W.Frag) (i : Nat) (c : Str) : Bool := oexB K (He.ga K c) && (decide (PySem.W.findIn K (.ref (He.ga K c)) "part" = some none) && (decide (PySem.W.exmOne K (.ref (He.ga K c)) (.ref (He.ga K "MarbleError")) = some true) &&
  (decide (PySem.W.findIn K (.ref (He.ga K c)) "__init__" = some (some (.ref (He.fAd K (c, some "__init__"))))) && (decide (PySem.W.typeIn K (.ref (He.fAd K (c, some "__init__"))) = some (.type "function")) && (decide (PySem.W.kitOne K (.ref (He.ga K c)) (.type "ValueError") = some true) &&
  (xcB K (He.ga K c) && excL.zipIdx.all fun p => decide (PySem.W.kitOne K (.ref (He.ga K c)) (.ref (He.ga K p.1)) = some (decide (i = p.2)))))))))
def exL (K : PySem.W.Frag) : Bool := exOne K 0 "BadValue" && (exOne K 1 "BadNumber" && He.valsB K (He.ga K "SHAPES") shapeV)
abbrev LW := PySem.Challenge.rw_countsalone_k57_formulas_and_their_worth
abbrev RR : PySem.W.OpenRow := PySem.W.OpenLaw.row LW
abbrev tfL : List He.Defn := [("law", none)]
abbrev hk57 : PySem.W.Hook := He.hookX 6 faL fnL tsL tfL exL
def ob57 (s : PySem.W.SharedT) : He.AlX := He.obsX 6 faL fnL tsL tfL exL (HandSHeadRun.getT s)
theorem ob57_eq (s : PySem.W.SharedT) : ob57 s = hk57.obs s.abs := He.obsX_eq (HandSHeadRun.getT_eq s)
def loose57 : List Str := (["__name__", "MarbleError", "BadValue", "BadNumber", "BadBoard", "BadTable", "NoDoor", "Misfit", "TooMany", "is_integer", "need_integer", "plain", "MOST_DOORS", "MOST_DEEP", "MOST_MADE", "SHAPES"] : List Str) ++ (["fits", "is_formed", "is_one", "made_of", "worth_at", "is_formula", "worth", "_law_pen", "_law_draw", "_law_pick", "_law_great", "_law_worth", "_law_heard", "_law_formula", "_law_spoilt", "_law_nested", "_law_made"] : List Str)
theorem run57 (w : World) : HandSHeadRun.RunEq RR (PySem.W.view RR.prog [36]) hk57 ob57 4000 loose57 w :=
  PySem.W.byRow2 "special-get-raises" (P := fun w => HandSHeadRun.RunEq RR (PySem.W.view RR.prog [36]) hk57 ob57 4000 loose57 w) (fun w => by
    intro os
    kernel_rfl) (fun w => by
    intro os
    kernel_rfl) w

/-! ### from the head -/
theorem lookup_mem {α : Type} {z : Str} {x : α} : ∀ {l : List (Str × α)}, l.lookup z = some x → (z, x) ∈ l
  | [], h => nomatch h
  | (a, b) :: l, h => by
    rw [List.lookup_cons] at h
    by_cases e : z = a
    · subst e
      rw [beq_self_eq_true] at h
      cases h
      exact List.mem_cons_self ..
    · rw [beq_false_of_ne e] at h
      exact List.mem_cons_of_mem _ (lookup_mem h)
theorem exOne_ok {K : PySem.W.Frag} {i : Nat} {c : Str} (h : exOne K i c = true) (hi : i < 2) : oexB K (He.ga K c) = true ∧ ExF K i (He.ga K c) ∧ PySem.W.findIn K (.ref (He.ga K c)) "__init__" = some (some (.ref (He.fAd K (c, some "__init__")))) ∧ PySem.W.typeIn K (.ref (He.fAd K (c, some "__init__"))) = some (.type "function") := by
  unfold exOne at h
  obtain ⟨h1, h⟩ := Bool.and_eq_true_iff.mp h
  obtain ⟨h2, h⟩ := Bool.and_eq_true_iff.mp h
  obtain ⟨h3, h⟩ := Bool.and_eq_true_iff.mp h
  obtain ⟨h4, h⟩ := Bool.and_eq_true_iff.mp h
  obtain ⟨h5, h⟩ := Bool.and_eq_true_iff.mp h
  obtain ⟨h6, h⟩ := Bool.and_eq_true_iff.mp h
  obtain ⟨h7, h8⟩ := Bool.and_eq_true_iff.mp h
  have a : ∀ p ∈ excL.zipIdx, PySem.W.kitOne K (.ref (He.ga K c)) (.ref (He.ga K p.1)) = some (decide (i = p.2)) := fun p hp => of_decide_eq_true (List.all_eq_true.mp h8 p hp)
  have a0 := a ("BadValue", 0) (by simp [excL, List.zipIdx])
  have a1 := a ("BadNumber", 1) (by simp [excL, List.zipIdx])
  have a2 := a ("BadTable", 2) (by simp [excL, List.zipIdx])
  have a3 := a ("BadBoard", 3) (by simp [excL, List.zipIdx])
  have a4 := a ("NoDoor", 4) (by simp [excL, List.zipIdx])
  have a5 := a ("Misfit", 5) (by simp [excL, List.zipIdx])
  have a6 := a ("TooMany", 6) (by simp [excL, List.zipIdx])
  rw [decide_eq_false (show ¬ i = 2 by omega)] at a2
  rw [decide_eq_false (show ¬ i = 3 by omega)] at a3
  rw [decide_eq_false (show ¬ i = 4 by omega)] at a4
  rw [decide_eq_false (show ¬ i = 5 by omega)] at a5
  rw [decide_eq_false (show ¬ i = 6 by omega)] at a6
  exact ⟨h1, ⟨of_decide_eq_true h2, of_decide_eq_true h3, of_decide_eq_true h6, h7, a0, a1, a2, a3, a4, a5, a6⟩, of_decide_eq_true h4, of_decide_eq_true h5⟩


theorem excK {P : Program} {w : World} {K : PySem.W.Frag} {mg : Str → Option Value} {base : Heap} {c : Str} {fd : FuncData} {s0 : Stmt} {params : Arguments} {scope : Scope} {p1 p2 p3 p4 : Pos} {i : Nat} (gC : mg c = some (.ref (He.ga K c))) (h : exOne K i c = true) (hi : i < 2)
    (F : FunD K "__init__" (c ++ ".__init__") params [.Assign [.Attribute (.Name "self" p1) "part" p2] (.Name "part" p3) p4] scope [] [] (He.fAd K (c, some "__init__")) fd) (S : FnScope ["self", "part"] ["self", "part"] scope)
    (hs : ∀ (cdv : Value) (s : Shared), swapsWith (.Name "part" p3) (some (.Attribute (.Name "self" p1) "part" p2)) p4.line (PyProof.Rows.envOfC (c ++ ".__init__") scope s.heap.objs.size (He.fAd K (c, some "__init__")) cdv) = pure false)
    (hv1 : scope.names.lookup ("self" : Str) = some .local) (hv2 : scope.names.lookup ("part" : Str) = some .local)
    (hbd : ∀ (kV doc pm : Value) (an : Option Addr) (cdv ct : Value) (us : List Value), us.length = 2 → bindArgs (PySem.W.fnOf "__init__" (c ++ ".__init__") params [.Assign [.Attribute (.Name "self" p1) "part" p2] (.Name "part" p3) p4] scope .none kV doc pm an cdv ct) ⟨us, []⟩ = pure ((["self", "part"] : List Str).zip us)) :
    ExcK P w K mg base c (He.ga K c) ["part"] 1 := by
  obtain ⟨h1, h2, h3, h4⟩ := exOne_ok h hi
  refine ⟨gC, oexB_ok h1, fun f hf => ?_, _, fd, ["self", "part"], h3, h4, init1 (s0 := .Pass ⟨0, 0, 0, 0⟩) (p5 := ⟨0, 0, 0, 0⟩) (k := 0) F S hs hv1 hv2 (by decide) (by decide), F.bindsN hbd⟩
  rw [List.mem_singleton.mp hf]
  exact h2.part
section
variable {w : World} {K : PySem.W.Frag} {mg : Str → Option Value} {fa : Addr} {h : Heap}
theorem hd_of (X : K.In h) (Gn : h.Ns mainGlobals mg) (c : He.SaysX faL fnL tsL tfL exL w h K) (i : Nat) (x : Str) (s : Stmt) (hi : fnL[i]? = some (dTop x s [])) (hj : faL[i]? = some (.glo x)) : HD K mg x s :=
  ⟨He.glo_ok X Gn (c.t.d.fact i hj), by
    obtain ⟨fd, F⟩ := c.t.d.def_ i hi
    exact ⟨fd, F⟩⟩
theorem tab_of (c : He.SaysX faL fnL tsL tfL exL w h K) : TabS K w (He.ga K "SHAPES") tb_SHAPES := by
  have e : ([He.dicW K (He.ga K "SHAPES")] : List (Option (List (Option (Str × Int))))) = [some (He.keysIn w.params shapeKeys)] := congrArg (fun z : He.AlT => z.2) c.t
  have e1 := (List.cons.inj e).1
  refine tabS_of e1 (kvs := shapeV) (Bool.and_eq_true_iff.mp (Bool.and_eq_true_iff.mp c.more).2).2 (fun z hz hm => ?_) fun z x hx => ?_
  · simp only [shapeKeys, List.mem_cons, List.not_mem_nil, or_false] at hm
    rcases hm with rfl | rfl | rfl | rfl | rfl | rfl | rfl | rfl <;> cases hz
  · have hm := lookup_mem hx
    simp only [tb_SHAPES, List.mem_cons, List.not_mem_nil, or_false, Prod.mk.injEq] at hm
    rcases hm with ⟨rfl, rfl⟩ | ⟨rfl, rfl⟩ | ⟨rfl, rfl⟩ | ⟨rfl, rfl⟩ | ⟨rfl, rfl⟩ | ⟨rfl, rfl⟩ | ⟨rfl, rfl⟩ | ⟨rfl, rfl⟩
    · exact ⟨.str "d", by simp [shapeV], fun B => rfl⟩
    · exact ⟨.str "n", by simp [shapeV], fun B => rfl⟩
    · exact ⟨.str "ff", by simp [shapeV], fun B => rfl⟩
    · exact ⟨.str "nf", by simp [shapeV], fun B => rfl⟩
    · exact ⟨.str "fk", by simp [shapeV], fun B => rfl⟩
    · exact ⟨.str "fk", by simp [shapeV], fun B => rfl⟩
    · exact ⟨.str "ff", by simp [shapeV], fun B => rfl⟩
    · exact ⟨.str "ff", by simp [shapeV], fun B => rfl⟩
theorem facts_of (X : K.In h) (Gn : h.Ns mainGlobals mg) (c : He.SaysX faL fnL tsL tfL exL w h K) : Facts K mg w :=
  ⟨He.free_ok X Gn (c.t.d.fact 30), He.free_ok X Gn (c.t.d.fact 31), He.free_ok X Gn (c.t.d.fact 32), He.free_ok X Gn (c.t.d.fact 33), He.free_ok X Gn (c.t.d.fact 34), He.free_ok X Gn (c.t.d.fact 35), He.free_ok X Gn (c.t.d.fact 36), He.free_ok X Gn (c.t.d.fact 37), He.free_ok X Gn (c.t.d.fact 38), He.free_ok X Gn (c.t.d.fact 39), He.free_ok X Gn (c.t.d.fact 40), He.free_ok X Gn (c.t.d.fact 41), He.free_ok X Gn (c.t.d.fact 42), He.free_ok X Gn (c.t.d.fact 43), He.free_ok X Gn (c.t.d.fact 44),
    He.int_ok X Gn (c.t.d.fact 45), He.int_ok X Gn (c.t.d.fact 46), He.int_ok X Gn (c.t.d.fact 47), He.glo_ok X Gn (c.t.d.fact 21), tab_of c,
    He.glo_ok X Gn (c.t.d.fact 23), He.glo_ok X Gn (c.t.d.fact 24), He.glo_ok X Gn (c.t.d.fact 25), He.glo_ok X Gn (c.t.d.fact 26), He.glo_ok X Gn (c.t.d.fact 27), He.glo_ok X Gn (c.t.d.fact 28), He.glo_ok X Gn (c.t.d.fact 29)⟩
theorem lawAt (X : K.In h) (Gn : h.Ns mainGlobals mg) (hmg : mg "law" = some (.ref fa)) (c : He.SaysX faL fnL tsL tfL exL w h K) : LamX.LawAtS LW w K (L2.CX LW.prog w) 100 63 "script" mg fa h := by
  have hfa : He.ga K "law" = fa := by
    have e := He.glo_ok X Gn (c.t.d.fact 20 (f := .glo "law"))
    rw [hmg] at e
    cases e
    rfl
  subst hfa
  obtain ⟨fd, F⟩ := c.t.d.def_ 20
  refine ⟨fd, [He.cT K ("law", none)], lift K (sp_law (He.cT K ("law", none)).2 (("law" ++ ".<locals>.") ++ "<lambda>")), ?_, ?_, ?_, fun s u => F.bindsA (ps := P_law) (fun _ _ _ _ _ _ us hl => match us, hl with | [_], _ => rfl) s [u] rfl, ?_, ?_⟩
  · intro p hp
    rw [List.mem_singleton.mp hp]
    exact c.empty _ (List.mem_singleton.mpr rfl)
  · intro p hp
    rw [List.mem_singleton.mp hp]
    exact c.out _ (List.mem_singleton.mpr rfl)
  · intro p hp
    rw [List.mem_singleton.mp hp]
    exact PySem.W.codeHd_of_K X (c.hd _ (List.mem_singleton.mpr rfl))
  · intro H a ns _ _ hH hS
    exact law_start (hH _ (List.mem_singleton.mpr rfl)) hS ⟨ns, rfl, rfl, fun _ => rfl⟩
  · intro base KB NB TB
    have G := facts_of X Gn c
    have D := hd_of X Gn c
    have x0 := (Bool.and_eq_true_iff.mp c.more).1
    have x1 := (Bool.and_eq_true_iff.mp (Bool.and_eq_true_iff.mp c.more).2).1
    have f0 := (exOne_ok x0 (by decide)).2.1
    have f1 := (exOne_ok x1 (by decide)).2.1
    obtain ⟨fd1, F1⟩ := c.t.d.def_ 21
    obtain ⟨fd2, F2⟩ := c.t.d.def_ 22
    have E0 : ExcK LW.prog w K mg base "BadValue" (He.ga K "BadValue") ["part"] 1 := excK (s0 := .Pass ⟨0, 0, 0, 0⟩) G.g_BadValue x0 (by decide) F1 ⟨rfl, rfl, rfl, by decide +kernel, rfl, by decide +kernel, by decide +kernel⟩ (fun _ _ => rfl) rfl rfl (fun _ _ _ _ _ _ us hl => match us, hl with | [_, _], _ => rfl)
    have E1 : ExcK LW.prog w K mg base "BadNumber" (He.ga K "BadNumber") ["part"] 1 := excK (s0 := .Pass ⟨0, 0, 0, 0⟩) G.g_BadNumber x1 (by decide) F2 ⟨rfl, rfl, rfl, by decide +kernel, rfl, by decide +kernel, by decide +kernel⟩ (fun _ _ => rfl) rfl rfl (fun _ _ _ _ _ _ us hl => match us, hl with | [_, _], _ => rfl)
    obtain ⟨fdn, Fnd⟩ := c.t.d.def_ 1
    have Fi : Fn LW.prog w K mg base 3 "is_integer" [] sp_is_integer := F_is_integer G (D 0 _ _ rfl rfl)
    have Fn1 : Fn LW.prog w K mg base 4 "need_integer" [] (sp_need (He.ga K "BadNumber")) := F_need G (He.glo_ok X Gn (c.t.d.fact 1)) Fnd E1 Fi
    have Fp : Fn LW.prog w K mg base 15 "plain" [] (sp_plain 12) := F_plain G (D 2 _ _ rfl rfl) 12
    have Ff : Fn LW.prog w K mg base 27 "is_formed" [] (sp_formed 12) := F_formed G (D 4 _ _ rfl rfl) (D 3 _ _ rfl rfl) (D 0 _ _ rfl rfl) 12
    have Fm : Fn LW.prog w K mg base 15 "made_of" [] (sp_made 12) := F_made_of G (D 6 _ _ rfl rfl) 12
    have Fo : Fn LW.prog w K mg base 28 "is_one" [] sp_one := F_is_one G (D 5 _ _ rfl rfl) Fp Fm Ff
    have Fw : Fn LW.prog w K mg base 15 "worth_at" [] (sp_wat 12) := F_worth_at G (D 7 _ _ rfl rfl) 12
    have Dd := F_l_draw (P := LW.prog) (base := base) G (D 11 _ _ rfl rfl)
    have Dp := F_l_pick (P := LW.prog) (base := base) G (D 12 _ _ rfl rfl) Dd
    have Dg := F_l_great (P := LW.prog) (base := base) G (D 13 _ _ rfl rfl) Dp Dd
    have hear : HearR LW.prog w K mg base N_law (defScope s_law) (He.fAd K ("law", none)) (.ref (He.codeOf K ("law", none))) (He.cT K ("law", none)).2 HnK (HxK K) 38 := hear_ok G (D 15 _ _ rfl rfl) (He.glo_ok X Gn (c.t.d.fact 22)) f0 f1 (TB _ (List.mem_singleton.mpr rfl))
    have FL := d_law (P := LW.prog) (w := w) (mg := mg) (base := base) (d := ("law", none)) (N := N_law) (ps := P_law) (k := 40) (sp := sp_law (He.cT K ("law", none)).2 (("law" ++ ".<locals>.") ++ "<lambda>")) (T := TT K (He.cT K ("law", none)).2) F S_law (fun _ _ _ _ h => by obtain ⟨_, rfl, _⟩ := h; rfl)
      (fun A outer s H E Z QE hr tk => B_law (f := 0) (cdv := .none) (kF := 29) (k := 38) G (by omega) (by omega) hr tk (F_worth G (D 9 _ _ rfl rfl) E0 Fp Fw Fo Fi) (Dp.mono (by omega)) (F_fla G (D 8 _ _ rfl rfl) Fo Fn1) ((F_l_made G (D 19 _ _ rfl rfl) 6).mono (by omega)) ((F_l_worth G (D 14 _ _ rfl rfl) 12).mono (by omega)) ((F_l_nested G (D 18 _ _ rfl rfl) Dp).mono (by omega)) (Fk_fla G (D 8 _ _ rfl rfl) Fo Fn1) ((F_l_spoilt G (D 17 _ _ rfl rfl) Dp Dd 5).mono (by omega)) (Fk_worth G (D 9 _ _ rfl rfl) E0 Fp Fw Fo Fi) (Dg.mono (by omega)) ((F_l_formula G (D 16 _ _ rfl rfl) Dg Dp Dd 5).mono (by omega)) (Dd.mono (by omega)) ((F_l_pen G (D 10 _ _ rfl rfl)).mono (by omega)) hear)
      H_law
    exact FL.mono (by omega)
end

theorem cx_none (w : World) (H : Hp) (s : Shared) (e : Value) (s' : Shared) : L2.CX (LW).prog w [] H s (fun _ _ _ => False) e s' → False := fun ⟨_, _, _, _, _, _, _, _, _, _, _, _, z⟩ => z

end K57
open PySem PySem.W PySem.Calls PyProof.Rows
set_option maxHeartbeats 0
theorem PySem.Challenge.cw_countsalone_k57_formulas_and_their_worth_holds : PySem.Challenge.rw_countsalone_k57_formulas_and_their_worth.Holds := by
  w_on; o_law
  refine HandSHeadRun.head_any (r := OpenLaw.row K57.LW) (q := view (OpenLaw.row K57.LW).prog [36]) (H := K57.hk57) (ob := K57.ob57) (M := 4000) (loose := K57.loose57) (d := HandSHeadRun.topDef (OpenLaw.row K57.LW).prog 36) (kwd := []) K57.ob57_eq
    (by kernel_rfl) (fun s => by kernel_rfl) K57.run57 (by kernel_rfl) (by kernel_rfl) (by kernel_rfl) (by rfl) (by first | assumption | decide +kernel) (by decide +kernel) ⟨rfl, rfl, rfl, rfl, rfl, by decide +kernel⟩ ?hw ?hc
  case hw => w_witness2
  case hc =>
    refine LamX.walk_ofTsE (l := K57.LW) (n := 63) (k := 100) (x := "script") (CX := fun w => L2.CX (K57.LW).prog w) rfl (by decide) (by kernel_rfl) ⟨rfl, by decide, by decide⟩ ?F ?N
    case N => exact fun w H s e s' => K57.cx_none w H s e s'
    case F =>
      intro w mg fa h Y G hmg0
      obtain ⟨K, KX, c⟩ := Y
      have hmg : mg ("law" : PySem.Str) = some (.ref fa) := by
        have e : (HandSHeadRun.topDef (OpenLaw.row K57.LW).prog 36).name = ("law" : PySem.Str) := by kernel_rfl
        rw [← e]
        exact hmg0
      exact ⟨K, KX, K57.lawAt KX G hmg c⟩

