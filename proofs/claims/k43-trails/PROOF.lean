import PyProof.Rows.All
import Wide.All
import OpenK.AllK
import Wide.FinOn
import HandS.ForMost
import KE.SortData
import HandS.Deep
import HandS.TupSets
import HandS.TupAny
import HandS.Flow
import HandS.IsInst
import HandS.TupLe
import HandS.Small
import HandS.Strs
import HandS.Defaults
import HandS.Codes
import HandS.Head0
import HandS.Head1
import HandS.Head2
import HandS.HeadEnd
import HandS.HeadHook1
import HandS.HeadHook2
import PySem.Challenge.RW_everycoin_k43_trails
set_option Elab.async false
set_option linter.all false
set_option maxRecDepth 100000
set_option maxHeartbeats 0
/-! MP1: value trees, the store, what they stand for in the abstract heap. -/
namespace MP
open PySem PySem.Spec PyProof.Rows L2

/-- a value tree; loc: a mutable thing of the store -/
inductive D where
  | non | bl (b : Bool) | int (i : Int) | str (x : Str)
  | list (xs : List D) | tup (xs : List D) | dict (kvs : List (Key × D)) | loc (n : Nat) | fz (xs : List D)
  deriving Inhabited

/-- what stands in the store -/
inductive MO where
  | dead
  | list (xs : List D)
  | dK (kvs : List (Key × D))
  | dT (kvs : List (List Key × D))
  | ins (c : Nat) (fs : List (Str × D))
  deriving Inhabited

abbrev Sto := List MO
abbrev Env := List (Option D)

def MO.live : MO → Prop
  | .dead => False
  | _ => True

/-- the live addresses -/
def Lv (ρ : List Addr) (M : Sto) (a : Addr) : Prop := ∃ (n : Nat) (m : MO), ρ[n]? = some a ∧ M[n]? = some m ∧ m.live

/-- a list that the module holds -/
def KL (K : PySem.W.Frag) (a : Addr) (vs : List V) : Prop := SqL K (fun _ => none) a vs
theorem KL.sq {K : PySem.W.Frag} {a : Addr} {vs : List V} (h : KL K a vs) (H : Hp) : SqL K H a vs := by
  rcases h with (h | ⟨o, h⟩) | h
  · cases h
  · cases h
  · exact .inr h
mutual
/-- v stands for the tree, F: addresses that pure things do not have -/
def Rp (K : PySem.W.Frag) (F : Addr → Prop) (ρ : List Addr) (H : Hp) : D → V → Prop
  | .non, v => v = .non
  | .bl b, v => v = .bl b
  | .int i, v => v = .int i
  | .str x, v => v = .str x
  | .list ds, v => ∃ a vs, v = .ref a ∧ H a = some (.lst vs) ∧ ¬ F a ∧ ds.length ≤ sizeLine ∧ RpL K F ρ H ds vs
  | .tup ds, v => ∃ a vs, v = .ref a ∧ SqT K H a vs ∧ ds.length ≤ sizeLine ∧ RpL K F ρ H ds vs
  | .dict kvs, v => ∃ a us, v = .ref a ∧ Rd H a (.dK us) ∧ ¬ F a ∧ RpK K F ρ H kvs us
  | .loc n, v => ∃ a, v = .ref a ∧ ρ[n]? = some a
  | .fz ds, v => ∃ a vs, v = .ref a ∧ (((∃ o, H a = some (.frz o (.lst vs))) ∧ ¬ F a) ∨ KL K a vs) ∧ ds.length ≤ sizeLine ∧ RpL K F ρ H ds vs
def RpL (K : PySem.W.Frag) (F : Addr → Prop) (ρ : List Addr) (H : Hp) : List D → List V → Prop
  | [], vs => vs = []
  | d :: ds, vs => ∃ v r, vs = v :: r ∧ Rp K F ρ H d v ∧ RpL K F ρ H ds r
def RpK (K : PySem.W.Frag) (F : Addr → Prop) (ρ : List Addr) (H : Hp) : List (Key × D) → List (Key × V) → Prop
  | [], us => us = []
  | (k, d) :: r, us => ∃ v q, us = (k, v) :: q ∧ Rp K F ρ H d v ∧ RpK K F ρ H r q
end
def RpT (K : PySem.W.Frag) (F : Addr → Prop) (ρ : List Addr) (H : Hp) : List (List Key × D) → List (List Key × V) → Prop
  | [], us => us = []
  | (k, d) :: r, us => ∃ v q, us = (k, v) :: q ∧ Rp K F ρ H d v ∧ RpT K F ρ H r q
def RpS (K : PySem.W.Frag) (F : Addr → Prop) (ρ : List Addr) (H : Hp) : List (Str × D) → List (Str × V) → Prop
  | [], us => us = []
  | (k, d) :: r, us => ∃ v q, us = (k, v) :: q ∧ Rp K F ρ H d v ∧ RpS K F ρ H r q

/-- going on: what pure things lean on -/
structure On (F : Addr → Prop) (ρ : List Addr) (H : Hp) (F' : Addr → Prop) (ρ' : List Addr) (H' : Hp) : Prop where
  pre : ∀ (n : Nat) (a : Addr), ρ[n]? = some a → ρ'[n]? = some a
  ls : ∀ a vs, H a = some (.lst vs) → ¬ F a → H' a = some (.lst vs) ∧ ¬ F' a
  fz : ∀ a vs, (∃ o, H a = some (.frz o (.lst vs))) → ¬ F a → (∃ o, H' a = some (.frz o (.lst vs))) ∧ ¬ F' a
  dk : ∀ a us, Rd H a (.dK us) → ¬ F a → Rd H' a (.dK us) ∧ ¬ F' a
  tup : ∀ a xs, Rd H a (.tup xs) → Rd H' a (.tup xs)
theorem On.refl {F ρ H} : On F ρ H F ρ H := ⟨fun _ _ h => h, fun _ _ h f => ⟨h, f⟩, fun _ _ h f => ⟨h, f⟩, fun _ _ h f => ⟨h, f⟩, fun _ _ h => h⟩
theorem On.trans {F ρ H F1 ρ1 H1 F2 ρ2 H2} (a : On F ρ H F1 ρ1 H1) (b : On F1 ρ1 H1 F2 ρ2 H2) : On F ρ H F2 ρ2 H2 :=
  ⟨fun n x h => b.pre n x (a.pre n x h), fun x u h f => b.ls x u (a.ls x u h f).1 (a.ls x u h f).2, fun x u h f => b.fz x u (a.fz x u h f).1 (a.fz x u h f).2, fun x u h f => b.dk x u (a.dk x u h f).1 (a.dk x u h f).2, fun x u h => b.tup x u (a.tup x u h)⟩
section
variable {K : PySem.W.Frag} {F F' : Addr → Prop} {ρ ρ' : List Addr} {H H' : Hp}
mutual
theorem Rp.on (o : On F ρ H F' ρ' H') : ∀ (d : D) (v : V), Rp K F ρ H d v → Rp K F' ρ' H' d v
  | .non, v, h => h
  | .bl _, v, h => h
  | .int _, v, h => h
  | .str _, v, h => h
  | .list ds, v, h => by
    obtain ⟨a, vs, e, r, f, z, l⟩ := h
    exact ⟨a, vs, e, (o.ls a _ r f).1, (o.ls a _ r f).2, z, RpL.on o ds vs l⟩
  | .tup ds, v, h => by
    obtain ⟨a, vs, e, r, z, l⟩ := h
    refine ⟨a, vs, e, ?_, z, RpL.on o ds vs l⟩
    rcases r with r | r
    · exact .inl (o.tup a _ r)
    · exact .inr r
  | .dict kvs, v, h => by
    obtain ⟨a, us, e, r, f, l⟩ := h
    exact ⟨a, us, e, (o.dk a _ r f).1, (o.dk a _ r f).2, RpK.on o kvs us l⟩
  | .loc n, v, h => by
    obtain ⟨a, e, r⟩ := h
    exact ⟨a, e, o.pre n a r⟩
  | .fz ds, v, h => by
    obtain ⟨a, vs, e, r, z, l⟩ := h
    exact ⟨a, vs, e, r.imp (fun q => o.fz a _ q.1 q.2) id, z, RpL.on o ds vs l⟩
theorem RpL.on (o : On F ρ H F' ρ' H') : ∀ (ds : List D) (vs : List V), RpL K F ρ H ds vs → RpL K F' ρ' H' ds vs
  | [], vs, h => h
  | d :: ds, vs, h => by
    obtain ⟨v, r, e, h1, h2⟩ := h
    exact ⟨v, r, e, Rp.on o d v h1, RpL.on o ds r h2⟩
theorem RpK.on (o : On F ρ H F' ρ' H') : ∀ (ds : List (Key × D)) (vs : List (Key × V)), RpK K F ρ H ds vs → RpK K F' ρ' H' ds vs
  | [], vs, h => h
  | (k, d) :: ds, vs, h => by
    obtain ⟨v, r, e, h1, h2⟩ := h
    exact ⟨v, r, e, Rp.on o d v h1, RpK.on o ds r h2⟩
end
theorem RpT.on (o : On F ρ H F' ρ' H') : ∀ (ds : List (List Key × D)) (vs : List (List Key × V)), RpT K F ρ H ds vs → RpT K F' ρ' H' ds vs
  | [], vs, h => h
  | (k, d) :: ds, vs, h => by
    obtain ⟨v, r, e, h1, h2⟩ := h
    exact ⟨v, r, e, Rp.on o d v h1, RpT.on o ds r h2⟩
theorem RpS.on (o : On F ρ H F' ρ' H') : ∀ (ds : List (Str × D)) (vs : List (Str × V)), RpS K F ρ H ds vs → RpS K F' ρ' H' ds vs
  | [], vs, h => h
  | (k, d) :: ds, vs, h => by
    obtain ⟨v, r, e, h1, h2⟩ := h
    exact ⟨v, r, e, Rp.on o d v h1, RpS.on o ds r h2⟩
theorem RpL.length : ∀ {ds : List D} {vs : List V}, RpL K F ρ H ds vs → vs.length = ds.length
  | [], vs, h => by
    have e : vs = [] := h
    rw [e]; rfl
  | d :: ds, vs, h => by
    obtain ⟨v, r, e, h1, h2⟩ := h
    rw [e, List.length_cons, List.length_cons, RpL.length h2]
theorem RpL.get : ∀ {ds : List D} {vs : List V} {i : Nat} {d : D}, RpL K F ρ H ds vs → ds[i]? = some d → ∃ v, vs[i]? = some v ∧ Rp K F ρ H d v
  | [], vs, i, d, h, e => by simp at e
  | d :: ds, vs, 0, d', h, e => by
    obtain ⟨v, r, rfl, h1, h2⟩ := h
    have e' : d = d' := by simpa using e
    subst e'
    exact ⟨v, rfl, h1⟩
  | d :: ds, vs, i + 1, d', h, e => by
    obtain ⟨v, r, rfl, h1, h2⟩ := h
    obtain ⟨u, q1, q2⟩ := RpL.get (i := i) h2 (by simpa using e)
    exact ⟨u, by simpa using q1, q2⟩
theorem RpL.append : ∀ {ds es : List D} {vs us : List V}, RpL K F ρ H ds vs → RpL K F ρ H es us → RpL K F ρ H (ds ++ es) (vs ++ us)
  | [], es, vs, us, h, g => by
    have e : vs = [] := h
    rw [e]; exact g
  | d :: ds, es, vs, us, h, g => by
    obtain ⟨v, r, rfl, h1, h2⟩ := h
    exact ⟨v, r ++ us, rfl, h1, RpL.append h2 g⟩
theorem RpL.one {d : D} {v : V} (h : Rp K F ρ H d v) : RpL K F ρ H [d] [v] := ⟨v, [], rfl, h, rfl⟩
theorem RpL.take : ∀ {ds : List D} {vs : List V} (n : Nat), RpL K F ρ H ds vs → RpL K F ρ H (ds.take n) (vs.take n)
  | [], vs, n, h => by
    have e : vs = [] := h
    rw [e, List.take_nil, List.take_nil]; rfl
  | d :: ds, vs, 0, h => rfl
  | d :: ds, vs, n + 1, h => by
    obtain ⟨v, r, rfl, h1, h2⟩ := h
    exact ⟨v, r.take n, rfl, h1, RpL.take n h2⟩
theorem RpL.drop : ∀ {ds : List D} {vs : List V} (n : Nat), RpL K F ρ H ds vs → RpL K F ρ H (ds.drop n) (vs.drop n)
  | [], vs, n, h => by
    have e : vs = [] := h
    rw [e, List.drop_nil, List.drop_nil]; rfl
  | d :: ds, vs, 0, h => h
  | d :: ds, vs, n + 1, h => by
    obtain ⟨v, r, rfl, h1, h2⟩ := h
    exact RpL.drop n h2
theorem RpL.set {d : D} {v : V} (q : Rp K F ρ H d v) : ∀ {ds : List D} {vs : List V} (n : Nat), RpL K F ρ H ds vs → RpL K F ρ H (ds.set n d) (vs.set n v)
  | [], vs, n, h => by
    have e : vs = [] := h
    rw [e]; rfl
  | d' :: ds, vs, 0, h => by
    obtain ⟨u, r, rfl, h1, h2⟩ := h
    exact ⟨v, r, rfl, q, h2⟩
  | d' :: ds, vs, n + 1, h => by
    obtain ⟨u, r, rfl, h1, h2⟩ := h
    exact ⟨u, r.set n v, rfl, h1, RpL.set q n h2⟩
theorem RpL.ints : ∀ {ns : List Int} {vs : List V}, RpL K F ρ H (ns.map D.int) vs → vs = ns.map V.int
  | [], vs, h => h
  | n :: ns, vs, h => by
    obtain ⟨u, r, rfl, h1, h2⟩ := h
    have e : u = V.int n := h1
    rw [e, RpL.ints h2]; rfl
theorem RpL.bls : ∀ {ns : List Bool} {vs : List V}, RpL K F ρ H (ns.map D.bl) vs → vs = ns.map V.bl
  | [], vs, h => h
  | n :: ns, vs, h => by
    obtain ⟨u, r, rfl, h1, h2⟩ := h
    have e : u = V.bl n := h1
    rw [e, RpL.bls h2]; rfl
end

/-- a thing of the store at its address -/
def MOk (K : PySem.W.Frag) (cls : Nat → Option Addr) (F : Addr → Prop) (ρ : List Addr) (H : Hp) (a : Addr) : MO → Prop
  | .dead => True
  | .list ds => ∃ vs, H a = some (.lst vs) ∧ ds.length ≤ sizeLine ∧ RpL K F ρ H ds vs
  | .dK kvs => ∃ us, H a = some (.dK us) ∧ RpK K F ρ H kvs us
  | .dT kvs => ∃ us, H a = some (.dT us) ∧ RpT K F ρ H kvs us
  | .ins c fs => ∃ C dx us, H a = some (.ins C dx us) ∧ cls c = some C ∧ RpS K F ρ H fs us

/-- addresses that pure things do not have: the callers' (G), the live ones -/
def Fb (G : Addr → Prop) (ρ : List Addr) (M : Sto) (a : Addr) : Prop := G a ∨ Lv ρ M a

structure Ok (K : PySem.W.Frag) (cls : Nat → Option Addr) (G : Addr → Prop) (ρ : List Addr) (M : Sto) (H : Hp) : Prop where
  len : ρ.length = M.length
  nd : ρ.Nodup
  trk : ∀ a ∈ ρ, ∃ o, H a = some o
  gt : ∀ a, G a → ∃ o, H a = some o
  gn : ∀ a, G a → a ∉ ρ
  ob : ∀ (n : Nat) (m : MO) (a : Addr), M[n]? = some m → ρ[n]? = some a → MOk K cls (Fb G ρ M) ρ H a m

/-- from a state to a later one -/
structure Ext (ρ : List Addr) (M : Sto) (H : Hp) (ρ' : List Addr) (M' : Sto) (H' : Hp) : Prop where
  pre : ∀ (n : Nat) (a : Addr), ρ[n]? = some a → ρ'[n]? = some a
  keep : ∀ a o, H a = some o → ¬ Lv ρ M a → H' a = some o ∧ ¬ Lv ρ' M' a
section
variable {K : PySem.W.Frag} {cls : Nat → Option Addr} {G : Addr → Prop} {ρ ρ' ρ1 ρ2 : List Addr} {M M' M1 M2 : Sto} {H H' H1 H2 : Hp}
theorem Ext.refl : Ext ρ M H ρ M H := ⟨fun _ _ h => h, fun _ _ h f => ⟨h, f⟩⟩
theorem Ext.trans (a : Ext ρ M H ρ1 M1 H1) (b : Ext ρ1 M1 H1 ρ2 M2 H2) : Ext ρ M H ρ2 M2 H2 :=
  ⟨fun n x h => b.pre n x (a.pre n x h), fun x u h f => b.keep x u (a.keep x u h f).1 (a.keep x u h f).2⟩
theorem Ok.gl (k : Ok K cls G ρ M H) (a : Addr) (g : G a) : ¬ Lv ρ M a := fun ⟨n, m, h1, _⟩ => k.gn a g (List.mem_of_getElem? h1)
/-- a live thing is no tuple -/
theorem Ok.lv (k : Ok K cls G ρ M H) {a : Addr} (l : Lv ρ M a) : ∃ o, H a = some o ∧ (∀ xs, o ≠ .tup xs) ∧ ∀ ob u, o ≠ .frz ob u := by
  obtain ⟨n, m, h1, h2, h3⟩ := l
  have q := k.ob n m a h2 h1
  cases m with
  | dead => exact h3.elim
  | list ds =>
    obtain ⟨vs, e, _⟩ := q
    exact ⟨_, e, (fun _ z => nomatch z), (fun _ _ z => nomatch z)⟩
  | dK ds =>
    obtain ⟨vs, e, _⟩ := q
    exact ⟨_, e, (fun _ z => nomatch z), (fun _ _ z => nomatch z)⟩
  | dT ds =>
    obtain ⟨vs, e, _⟩ := q
    exact ⟨_, e, (fun _ z => nomatch z), (fun _ _ z => nomatch z)⟩
  | ins c fs =>
    obtain ⟨_, _, _, e, _⟩ := q
    exact ⟨_, e, (fun _ z => nomatch z), (fun _ _ z => nomatch z)⟩
theorem Ext.on (k : Ok K cls G ρ M H) (e : Ext ρ M H ρ' M' H') : On (Fb G ρ M) ρ H (Fb G ρ' M') ρ' H' := by
  have rdk : ∀ a u, Rd H a u → ¬ Lv ρ M a → Rd H' a u ∧ ¬ Lv ρ' M' a := fun a u h f => by
    rcases h with h | ⟨o, h⟩
    · exact ⟨.inl (e.keep a _ h f).1, (e.keep a _ h f).2⟩
    · exact ⟨.inr ⟨o, (e.keep a _ h f).1⟩, (e.keep a _ h f).2⟩
  have nf : ∀ a, ¬ Fb G ρ M a → ¬ Lv ρ' M' a → ¬ Fb G ρ' M' a := fun a f l z => z.elim (fun g => f (.inl g)) l
  refine ⟨e.pre, fun a u h f => ?_, fun a u h f => ?_, fun a u h f => ?_, fun a xs h => ?_⟩
  · have q := e.keep a _ h fun l => f (.inr l)
    exact ⟨q.1, nf a f q.2⟩
  · obtain ⟨o, h⟩ := h
    have q := e.keep a _ h fun l => f (.inr l)
    exact ⟨⟨o, q.1⟩, nf a f q.2⟩
  · have q := rdk a _ h fun l => f (.inr l)
    exact ⟨q.1, nf a f q.2⟩
  · refine (rdk a _ h fun l => ?_).1
    obtain ⟨o, e1, e2, e3⟩ := k.lv l
    rcases h with h | ⟨ob, h⟩
    · rw [e1] at h; exact e2 xs (Option.some.inj h)
    · rw [e1] at h; exact e3 _ _ (Option.some.inj h)
end

/-- the slots -/
structure EnvR (K : PySem.W.Frag) (F : Addr → Prop) (ρ : List Addr) (H : Hp) (σ : L2.St) (env : Env) : Prop where
  len : σ.length = env.length
  at_ : ∀ (i : Nat) (d : D), env[i]? = some (some d) → ∃ v, σ[i]? = some (some v) ∧ Rp K F ρ H d v
section
variable {K : PySem.W.Frag} {F F' : Addr → Prop} {ρ ρ' : List Addr} {H H' : Hp} {σ : L2.St} {env : Env}
theorem EnvR.on (o : On F ρ H F' ρ' H') (r : EnvR K F ρ H σ env) : EnvR K F' ρ' H' σ env :=
  ⟨r.len, fun i d h => let ⟨v, e, q⟩ := r.at_ i d h; ⟨v, e, Rp.on o d v q⟩⟩
theorem EnvR.set (r : EnvR K F ρ H σ env) {d : D} {v : V} (q : Rp K F ρ H d v) (i : Nat) : EnvR K F ρ H (σ.set i (some v)) (env.set i (some d)) := by
  refine ⟨by rw [List.length_set, List.length_set]; exact r.len, fun j d' h => ?_⟩
  by_cases hj : i = j
  · subst hj
    by_cases hl : i < env.length
    · rw [List.getElem?_set_self hl] at h
      cases h
      exact ⟨v, by rw [List.getElem?_set_self (by rw [r.len]; exact hl)], q⟩
    · rw [List.getElem?_eq_none (by rw [List.length_set]; omega)] at h
      cases h
  · rw [List.getElem?_set_ne hj] at h
    obtain ⟨u, e, q'⟩ := r.at_ j d' h
    exact ⟨u, by rw [List.getElem?_set_ne hj]; exact e, q'⟩
/-- the block's own slots forgotten -/
def wipeE (env : Env) : List Nat → Env
  | [] => env
  | v :: vs => (wipeE env vs).set v none
theorem wipeE_length (env : Env) : ∀ vs, (wipeE env vs).length = env.length
  | [] => rfl
  | v :: vs => by unfold wipeE; rw [List.length_set, wipeE_length env vs]
theorem EnvR.wipe (r : EnvR K F ρ H σ env) : ∀ vs, EnvR K F ρ H (L2.wipe σ vs) (wipeE env vs)
  | [] => r
  | v :: vs => by
    have ih := EnvR.wipe r vs
    unfold L2.wipe wipeE
    refine ⟨by rw [List.length_set, List.length_set]; exact ih.len, fun j d h => ?_⟩
    by_cases hj : v = j
    · subst hj
      by_cases hl : v < (wipeE env vs).length
      · rw [List.getElem?_set_self hl] at h
        cases h
      · rw [List.getElem?_eq_none (by rw [List.length_set]; omega)] at h
        cases h
    · rw [List.getElem?_set_ne hj] at h
      obtain ⟨u, e, q'⟩ := ih.at_ j d h
      exact ⟨u, by rw [List.getElem?_set_ne hj]; exact e, q'⟩
end
end MP

/-! MP2: a small syntax and its evaluator. -/
namespace MP
open PySem PySem.Spec PyProof.Rows L2

inductive BO where
  | add | sub | mul | fdiv | mod | xor | pow
  deriving DecidableEq
inductive CO where
  | eq | ne | lt | le | gt | ge | inn | nin
  deriving DecidableEq
inductive Blt where
  | len | abs | min | max | min2 | max2 | sum | any | all | sorted | srtset | lenset | list | tuple | int | dict | repr | rng1 | rng2
  deriving DecidableEq
inductive IK where
  | seq | rng1 | rng2 | enum | zip
  deriving DecidableEq
/-- how a def is called: on pure arguments alone; the same, its list stays a place of the store; the same of what lists of the store hold now, giving no list; what it made is dropped behind it; as it is -/
inductive CM where
  | pure | own | bor | tr | keep
  deriving DecidableEq
inductive T where
  | nm (i : Nat)
  | tp (is : List Nat)
  deriving DecidableEq
mutual
inductive E where
  | absent
  | var (i : Nat) | non | bl (b : Bool) | int (k : Int) | str (x : Str)
  | bin (mu : Bool) (o : BO) (a b : E) | neg (a : E) | not (a : E) | and (a b : E) | or (a b : E)
  | cmp (o : CO) (a b : E) | chain (o p : CO) (a b c : E) | isN (ng : Bool) (a : E) | ife (c a b : E)
  | tup (es : EL) | lst (mu : Bool) (es : EL) | dct (mu : Bool) (ks : List Str) (es : EL)
  | idx (a i : E) | slc (mu : Bool) (a lo hi : E)
  | blt (mu : Bool) (b : Blt) (es : EL)
  | isi (a : E) (tys : List String) (many : Bool)
  | call (m : CM) (f : Nat) (es : EL) | new (c : Nat) (es : EL) | meth (m : CM) (f : Nat) (o : E) (es : EL)
  | fld (a : E) (f : Str)
  | app (a e : E) | ext (a e : E) | idxof (a e : E) | dget (a k d : E)
  | comp (mu : Bool) (own : List Nat) (t : T) (k : IK) (a b c e : E)
inductive EL where
  | nil
  | cons (e : E) (es : EL)
end
mutual
inductive S where
  | setv (i : Nat) (e : E) | sett (is : List Nat) (e : E) | setp (i j : Nat) (a b : E)
  | seti (a i e : E) | seti2 (a i b j e g : E) | augi (a i : E) (o : BO) (e : E) | setf (a : E) (f : Str) (e : E)
  | exp (e : E) | ret (e : E) | retN
  | ife (c : E) (p q : SB) | for_ (t : T) (k : IK) (a b : E) (body : SB) | whl (c : E) (body : SB)
  | pass | cont | frz (i : Nat)
inductive SB where
  | nil
  | cons (s : S) (r : SB)
end
instance : Inhabited E := ⟨.absent⟩
instance : Inhabited SB := ⟨.nil⟩

/-! ### what values do -/
mutual
def pd : D → PyData
  | .non => .none
  | .bl b => .bool b
  | .int i => .int i
  | .str x => .str x
  | .list xs => .list (pdL xs)
  | .tup xs => .tuple (pdL xs)
  | .dict _ => .dict []
  | .loc _ => .dict []
  | .fz _ => .dict []
def pdL : List D → List PyData
  | [] => []
  | d :: ds => pd d :: pdL ds
end
mutual
/-- depth; 100 for what is no plain data -/
def dp : D → Nat
  | .non => 0
  | .bl _ => 0
  | .int _ => 0
  | .str x => if PyData.strOk x then 0 else 100
  | .list xs => dpL xs + 1
  | .tup xs => dpL xs + 1
  | .dict _ => 100
  | .loc _ => 100
  | .fz _ => 100
def dpL : List D → Nat
  | [] => 0
  | d :: ds => max (dp d) (dpL ds)
end
mutual
/-- all places of the store that are named lie below n -/
def below (n : Nat) : D → Bool
  | .non => true
  | .bl _ => true
  | .int _ => true
  | .str _ => true
  | .list xs => belowL n xs
  | .tup xs => belowL n xs
  | .dict kvs => belowK n kvs
  | .loc m => decide (m < n)
  | .fz xs => belowL n xs
def belowL (n : Nat) : List D → Bool
  | [] => true
  | d :: ds => below n d && belowL n ds
def belowK (n : Nat) : List (Key × D) → Bool
  | [] => true
  | (_, d) :: ds => below n d && belowK n ds
end
def belowT (n : Nat) : List (List Key × D) → Bool
  | [] => true
  | (_, d) :: ds => below n d && belowT n ds
def belowS (n : Nat) : List (Str × D) → Bool
  | [] => true
  | (_, d) :: ds => below n d && belowS n ds
def belowM (n : Nat) : MO → Bool
  | .dead => true
  | .list xs => belowL n xs
  | .dK kvs => belowK n kvs
  | .dT kvs => belowT n kvs
  | .ins _ fs => belowS n fs

mutual
/-- no list, no dict, no place -/
def bare : D → Bool
  | .non => true
  | .bl _ => true
  | .int _ => true
  | .str _ => true
  | .list _ => false
  | .tup xs => bareL xs
  | .dict _ => false
  | .loc _ => false
  | .fz _ => false
def bareL : List D → Bool
  | [] => true
  | d :: ds => bare d && bareL ds
end
/-- a kind's name -/
def tyName (M : Sto) : D → Option String
  | .non => some "NoneType"
  | .bl _ => some "bool"
  | .int _ => some "int"
  | .str _ => some "str"
  | .list _ => some "list"
  | .tup _ => some "tuple"
  | .dict _ => some "dict"
  | .loc n => match M[n]? with
    | some (.list _) => some "list"
    | some (.dK _) => some "dict"
    | _ => none
  | .fz _ => none
def isKind (t u : String) : Bool := t == u || (t == "bool" && u == "int")
/-- what is read of a thing of the store -/
def rd (M : Sto) : D → D
  | .loc n => match M[n]? with
    | some (.list xs) => .list xs
    | some (.dK kvs) => .dict kvs
    | _ => .loc n
  | d => d
def LINE : Nat := 16777216

def bop : BO → D → D → Option D
  | .add, .int i, .int j => some (.int (i + j))
  | .add, .list xs, .list ys => if xs.length + ys.length ≤ LINE then some (.list (xs ++ ys)) else none
  | .add, .tup xs, .tup ys => if xs.length + ys.length ≤ LINE then some (.tup (xs ++ ys)) else none
  | .sub, .int i, .int j => some (.int (i - j))
  | .mul, .int i, .int j => if i.natAbs < 2 ^ 64 ∨ j.natAbs < 2 ^ 64 then some (.int (i * j)) else none
  | .mul, .list xs, .int k => if 0 ≤ k ∧ k ≤ LINE ∧ xs.length * k.toNat ≤ LINE then some (.list (List.replicate k.toNat xs).flatten) else none
  | .fdiv, .int i, .int j => if 0 < j ∧ j.natAbs < 1073741824 then some (.int (i / j)) else none
  | .mod, .int i, .int j => if 0 < j then some (.int (i % j)) else none
  | .xor, .int i, .int j => some (.int (Builtin.bitXor i j))
  | .pow, .int i, .int j => if 0 ≤ j ∧ j ≤ 1000 ∧ i.natAbs < 2 ^ 64 then some (.int (i ^ j.toNat)) else none
  | _, _, _ => none
def eqD (a b : D) : Option Bool := if dp a ≤ 60 ∧ dp b ≤ 60 then some (PyData.eqv (pd a) (pd b)) else none
def lessD (a b : D) : Bool := W.dataLt (pd a) (pd b)
def isOrd : D → Bool
  | .int _ => true
  | .str _ => true
  | .tup _ => true
  | _ => false
def atom : D → Bool
  | .int _ => true
  | .str _ => true
  | _ => false
def flat1 : D → Bool
  | .int _ => true
  | .str _ => true
  | .tup xs => xs.all atom
  | _ => false
def cmpOk (a b : D) : Bool := W.alike (pd a) (pd b) && isOrd a && decide (dp a ≤ 60 ∧ dp b ≤ 60)
def flatOk (a b : D) : Bool := cmpOk a b && flat1 a && flat1 b
def memD (x : D) (ys : List D) : Option Bool := if dp x ≤ 60 ∧ dpL ys ≤ 60 then some (ys.any fun z => PyData.eqv (pd z) (pd x)) else none
def cop : CO → D → D → Option Bool
  | .eq, a, b => eqD a b
  | .ne, a, b => (eqD a b).map (!·)
  | .lt, a, b => if cmpOk a b then some (lessD a b) else none
  | .gt, a, b => if flatOk a b then some (lessD b a) else none
  | .le, a, b => if flatOk a b then some (!lessD b a) else none
  | .ge, a, b => if flatOk a b then some (!lessD a b) else none
  | .inn, x, .list ys => memD x ys
  | .inn, x, .tup ys => memD x ys
  | .nin, x, .list ys => (memD x ys).map (!·)
  | .nin, x, .tup ys => (memD x ys).map (!·)
  | _, _, _ => none
def truth (M : Sto) (d : D) : Option Bool := match rd M d with
  | .non => some false
  | .bl b => some b
  | .int i => some (i != 0)
  | .list xs => some (!xs.isEmpty)
  | .tup xs => some (!xs.isEmpty)
  | _ => none
def kvAt (k : Key) : List (Key × D) → Option D
  | [] => none
  | (q, d) :: r => if q = k then some d else kvAt k r
def keyOf : D → Option Key
  | .int i => some (.inl i)
  | .str x => some (.inr x)
  | _ => none
def getD_ (a i : D) : Option D := match a, i with
  | .list xs, .int k => atI xs k
  | .tup xs, .int k => atI xs k
  | .dict kvs, k => (keyOf k).bind fun q => kvAt q kvs
  | _, _ => none
def cutD (xs : List D) (lo hi : Option Int) : List D := (xs.drop (HT.sIx xs.length 0 lo)).take (HT.sIx xs.length xs.length hi - HT.sIx xs.length 0 lo)
def intsOf : List D → Option (List Int)
  | [] => some []
  | .int i :: r => (intsOf r).map (i :: ·)
  | _ :: _ => none
def blsOf : List D → Option (List Bool)
  | [] => some []
  | .bl i :: r => (blsOf r).map (i :: ·)
  | _ :: _ => none
def leastI : Int → List Int → Int
  | m, [] => m
  | m, x :: r => leastI (if x < m then x else m) r
def mostI : Int → List Int → Int
  | m, [] => m
  | m, x :: r => mostI (if m < x then x else m) r
def nonTup : D → Bool
  | .non => false
  | .tup _ => false
  | _ => true
def hasItem : D → Bool
  | .tup (_ :: _) => true
  | _ => false
def sortOk (xs : List D) : Bool := (xs.all fun a => xs.all fun b => W.alike (pd a) (pd b)) && (xs.all hasItem || xs.all nonTup) && decide (dpL xs ≤ 60)
def sortD (xs : List D) : List D := xs.mergeSort fun a b => !W.dataLt (pd b) (pd a)
def intsTup : D → Bool
  | .tup xs => (intsOf xs).isSome
  | _ => false
def isStrD : D → Bool
  | .str _ => true
  | _ => false
def isIntD : D → Bool
  | .int _ => true
  | _ => false
/-- each once, by the first -/
def dd {α : Type} [DecidableEq α] : List α → List α
  | [] => []
  | x :: r => x :: (dd r).filter fun y => decide (y ≠ x)
def lexLe : List Int → List Int → Bool
  | [], _ => true
  | _ :: _, [] => false
  | x :: xs, y :: ys => decide (x < y) || (decide (x = y) && lexLe xs ys)
def sortI (ns : List Int) : List Int := ns.mergeSort fun a b => decide (a ≤ b)
def sortK (ks : List (List Int)) : List (List Int) := ks.mergeSort lexLe
def kD (k : List Int) : D := .tup (k.map D.int)
def keysOf : List D → Option (List (List Int))
  | [] => some []
  | .tup xs :: r => match intsOf xs with
    | none => none
    | some k => (keysOf r).map (k :: ·)
  | _ :: _ => none
/-- tuples of one length, of whole numbers from 0 -/
def keysOk (ks : List (List Int)) : Bool := ks.all fun k => decide (k.length = (ks.headD []).length) && decide (0 < k.length) && k.all fun x => decide (0 ≤ x)
def blt1 (b : Blt) (M : Sto) (ds : List D) : Option D := match b, ds with
  | .len, [.list xs] => some (.int xs.length)
  | .len, [.tup xs] => some (.int xs.length)
  | .abs, [.int i] => some (.int (if i < 0 then -i else i))
  | .min2, [.int i, .int j] => some (.int (if j < i then j else i))
  | .max2, [.int i, .int j] => some (.int (if j > i then j else i))
  | .sum, [.list xs] => (intsOf xs).map fun ns => .int ns.sum
  | .min, [.list xs] => (intsOf xs).bind fun ns => match ns with
    | [] => none
    | n :: r => some (.int (leastI n r))
  | .max, [.list xs] => (intsOf xs).bind fun ns => match ns with
    | [] => none
    | n :: r => some (.int (mostI n r))
  | .any, [.list xs] => (blsOf xs).map fun ns => .bl (ns.any id)
  | .all, [.list xs] => (blsOf xs).map fun ns => .bl (ns.all id)
  | .int, [.int i] => some (.int i)
  | .int, [.bl b] => some (.int (if b then 1 else 0))
  | .tuple, [.list xs] => some (.tup xs)
  | .tuple, [.tup xs] => some (.tup xs)
  | .list, [.list xs] => some (.list xs)
  | .list, [.tup xs] => some (.list xs)
  | .sorted, [.list xs] => if sortOk xs then some (.list (sortD xs)) else none
  | .srtset, [.list xs] => match intsOf xs with
    | some ns => if (dd ns).length < 60 ∧ xs.length ≤ 4000 then some (.list ((sortI (dd ns)).map D.int)) else none
    | none => match keysOf xs with
      | some ks => if (dd ks).length < 60 ∧ keysOk ks = true then some (.list ((sortK (dd ks)).map kD)) else none
      | none => none
  | .rng1, [.int j] => if 0 ≤ j ∧ j ≤ LINE then some (.list ((List.range j.toNat).map fun (i : Nat) => D.int i)) else none
  | _, _ => none
/-- a new list, of the store or not -/
def mk (mu : Bool) (d : D) (M : Sto) : Option (D × Sto) := if mu then (match d with
    | .list xs => some (.loc M.length, M ++ [.list xs])
    | .dict kvs => some (.loc M.length, M ++ [.dK kvs])
    | _ => none) else some (d, M)

inductive Src where
  | pure (xs : List D)
  | loc (n k : Nat)
def srcOf (k : IK) (M : Sto) (a b : D) : Option Src := match k, a, b with
  | .seq, .list xs, _ => some (.pure xs)
  | .seq, .tup xs, _ => some (.pure xs)
  | .seq, .loc n, _ => match M[n]? with
    | some (.list xs) => some (.loc n xs.length)
    | _ => none
  | .rng1, .int j, _ => if j.natAbs < 2 ^ 62 then some (.pure ((List.range j.toNat).map fun (i : Nat) => D.int i)) else none
  | .rng2, .int i, .int j => if i.natAbs < 2 ^ 62 ∧ j.natAbs < 2 ^ 62 then some (.pure ((List.range (j - i).toNat).map fun (q : Nat) => D.int (i + q))) else none
  | .enum, .list xs, _ => some (.pure (xs.mapIdx fun i x => D.tup [.int i, x]))
  | _, _, _ => none
def asg (t : T) (x : D) (env : Env) : Option Env := match t with
  | .nm i => some (env.set i (some x))
  | .tp is => match x with
    | .tup ds => if ds.length = is.length then some ((is.zip ds).foldl (fun e p => e.set p.1 (some p.2)) env) else none
    | _ => none

def isAbs : E → Bool
  | .absent => true
  | _ => false
/-- a part of a slice -/
def optI (ab : Bool) (M : Sto) (r : Option (D × Sto)) : Option (Option Int × Sto) := if ab then some (none, M) else (match r with
  | some (.int i, M1) => some (some i, M1)
  | _ => none)
/-- a test -/
def tst (r : Option (D × Sto)) : Option (Bool × Sto) := match r with
  | none => none
  | some (x, M1) => match truth M1 x with
    | none => none
    | some b => some (b, M1)
def optC (ab : Bool) (M : Sto) (r : Option (D × Sto)) : Option (Bool × Sto) := if ab then some (true, M) else tst r
def optD (ab : Bool) (M : Sto) (r : Option (D × Sto)) : Option (D × Sto) := if ab then some (.non, M) else r
abbrev FT := Nat → List D → Sto → Option (D × Sto)
/-- a call -/
def callM (F : FT) (m : CM) (f : Nat) (ds : List D) (M : Sto) : Option (D × Sto) := match m with
  | .keep => F f ds M
  | .pure => if belowL 0 ds then (match F f ds [] with
      | some (d, M2) => if below 0 (rd M2 d) then some (rd M2 d, M) else none
      | none => none) else none
  | .own => if belowL 0 ds then (match F f ds [] with
      | some (.loc j, M2) => match M2[j]? with
        | some (.list xs) => if belowL 0 xs then some (.loc M.length, M ++ [.list xs]) else none
        | _ => none
      | _ => none) else none
  | .bor => if belowL 0 (ds.map (rd M)) then (match F f (ds.map (rd M)) [] with
      | some (d, M2) => if bare d then some (d, M) else none
      | none => none) else none
  | .tr => match F f ds M with
      | some (d, M2) => if below M.length d && (M2.take M.length).all (belowM M.length) && decide (M.length ≤ M2.length) then some (d, M2.take M.length) else none
      | none => none
/-- the block's turns -/
def compR (f : D → Sto → Option (Option D × Sto)) : List D → Sto → Option (List D × Sto)
  | [], M => some ([], M)
  | x :: xs, M => match f x M with
    | none => none
    | some (o, M1) => match compR f xs M1 with
      | none => none
      | some (ys, M2) => some ((match o with
        | some y => y :: ys
        | none => ys), M2)

mutual
def ev (F : FT) (cls : Nat → Nat) : E → Env → Sto → Option (D × Sto)
  | .absent, _, _ => none
  | .var i, env, M => match env[i]? with
    | some (some d) => some (d, M)
    | _ => none
  | .non, _, M => some (.non, M)
  | .bl b, _, M => some (.bl b, M)
  | .int k, _, M => some (.int k, M)
  | .str x, _, M => some (.str x, M)
  | .bin mu o a b, env, M => match ev F cls a env M with
    | none => none
    | some (x, M1) => match ev F cls b env M1 with
      | none => none
      | some (y, M2) => match bop o (rd M2 x) (rd M2 y) with
        | none => none
        | some d => mk mu d M2
  | .neg a, env, M => match ev F cls a env M with
    | some (.int i, M1) => some (.int (-i), M1)
    | _ => none
  | .not a, env, M => match ev F cls a env M with
    | none => none
    | some (x, M1) => match truth M1 x with
      | none => none
      | some b => some (.bl (!b), M1)
  | .and a b, env, M => match ev F cls a env M with
    | none => none
    | some (x, M1) => match truth M1 x with
      | none => none
      | some true => ev F cls b env M1
      | some false => some (x, M1)
  | .or a b, env, M => match ev F cls a env M with
    | none => none
    | some (x, M1) => match truth M1 x with
      | none => none
      | some true => some (x, M1)
      | some false => ev F cls b env M1
  | .cmp o a b, env, M => match ev F cls a env M with
    | none => none
    | some (x, M1) => match ev F cls b env M1 with
      | none => none
      | some (y, M2) => match cop o (rd M2 x) (rd M2 y) with
        | none => none
        | some d => some (.bl d, M2)
  | .chain o p a b c, env, M => match ev F cls a env M with
    | none => none
    | some (x, M1) => match ev F cls b env M1 with
      | none => none
      | some (y, M2) => match cop o (rd M2 x) (rd M2 y) with
        | none => none
        | some false => some (.bl false, M2)
        | some true => match ev F cls c env M2 with
          | none => none
          | some (z, M3) => match cop p (rd M3 y) (rd M3 z) with
            | none => none
            | some d => some (.bl d, M3)
  | .isN ng a, env, M => match ev F cls a env M with
    | none => none
    | some (.non, M1) => some (.bl (!ng), M1)
    | some (_, M1) => some (.bl ng, M1)
  | .ife c a b, env, M => match ev F cls c env M with
    | none => none
    | some (x, M1) => match truth M1 x with
      | none => none
      | some true => ev F cls a env M1
      | some false => ev F cls b env M1
  | .tup es, env, M => match evL F cls es env M with
    | none => none
    | some (ds, M1) => if ds.length ≤ LINE then some (.tup ds, M1) else none
  | .lst mu es, env, M => match evL F cls es env M with
    | none => none
    | some (ds, M1) => if ds.length ≤ LINE then mk mu (.list ds) M1 else none
  | .dct mu ks es, env, M => match evL F cls es env M with
    | none => none
    | some (ds, M1) => if ks.length = ds.length ∧ ks.Nodup ∧ ks.length ≤ 15 then mk mu (.dict ((ks.map Sum.inr).zip ds)) M1 else none
  | .idx a i, env, M => match ev F cls a env M with
    | none => none
    | some (x, M1) => match ev F cls i env M1 with
      | none => none
      | some (y, M2) => match getD_ (rd M2 x) y with
        | none => none
        | some d => some (d, M2)
  | .slc mu a lo hi, env, M => match ev F cls a env M with
    | none => none
    | some (x, M1) => match optI (isAbs lo) M1 (ev F cls lo env M1) with
      | none => none
      | some (l, M2) => match optI (isAbs hi) M2 (ev F cls hi env M2) with
        | none => none
        | some (h, M3) => match rd M3 x with
          | .list xs => mk mu (.list (cutD xs l h)) M3
          | .fz xs => mk mu (.list (cutD xs l h)) M3
          | .tup xs => some (.tup (cutD xs l h), M3)
          | _ => none
  | .blt mu b es, env, M => match evL F cls es env M with
    | none => none
    | some (ds, M1) => match blt1 b M1 (ds.map (rd M1)) with
      | none => none
      | some d => mk mu d M1
  | .isi a tys many, env, M => match ev F cls a env M with
    | none => none
    | some (x, M1) => match tyName M1 x with
      | none => none
      | some t => some (.bl (tys.any (isKind t)), M1)
  | .call m f es, env, M => match evL F cls es env M with
    | none => none
    | some (ds, M1) => callM F m f ds M1
  | .new c es, env, M => match evL F cls es env M with
    | none => none
    | some (ds, M1) => match F (cls c) (.loc M1.length :: ds) (M1 ++ [.ins c []]) with
      | some (.non, M2) => some (.loc M1.length, M2)
      | _ => none
  | .meth m f o es, env, M => match ev F cls o env M with
    | none => none
    | some (x, M1) => match evL F cls es env M1 with
      | none => none
      | some (ds, M2) => callM F m f (x :: ds) M2
  | .fld a f, env, M => match ev F cls a env M with
    | some (.loc n, M1) => match M1[n]? with
      | some (.ins _ fs) => match fs.lookup f with
        | none => none
        | some d => some (d, M1)
      | _ => none
    | _ => none
  | .app a e, env, M => match ev F cls a env M with
    | some (.loc n, M1) => match M1[n]? with
      | some (.list _) => match ev F cls e env M1 with
        | none => none
        | some (y, M2) => match M2[n]? with
          | some (.list xs) => if xs.length < LINE then some (.non, M2.set n (.list (xs ++ [y]))) else none
          | _ => none
      | _ => none
    | _ => none
  | .ext a e, env, M => match ev F cls a env M with
    | some (.loc n, M1) => match M1[n]? with
      | some (.list _) => match ev F cls e env M1 with
        | some (y, M2) => match M2[n]?, rd M2 y with
          | some (.list xs), .list ys => if xs.length + ys.length ≤ LINE then some (.non, M2.set n (.list (xs ++ ys))) else none
          | _, _ => none
        | none => none
      | _ => none
    | _ => none
  | .idxof a e, env, M => match ev F cls a env M with
    | none => none
    | some (x, M1) => match ev F cls e env M1 with
      | none => none
      | some (y, M2) => match rd M2 x with
        | .list xs => if dp y ≤ 60 ∧ dpL xs ≤ 60 then (match xs.findIdx? fun z => PyData.eqv (pd z) (pd y) with
          | none => none
          | some j => some (.int j, M2)) else none
        | _ => none
  | .dget a k d, env, M => match ev F cls a env M with
    | none => none
    | some (x, M1) => match ev F cls k env M1 with
      | none => none
      | some (y, M2) => match ev F cls d env M2 with
        | none => none
        | some (z, M3) => match rd M3 x, keyOf y with
          | .dict kvs, some q => some ((kvAt q kvs).getD z, M3)
          | _, _ => none
  | .comp mu own t k a b c e, env, M => match ev F cls a env M with
    | none => none
    | some (x, M0) => match optD (isAbs b) M0 (ev F cls b env M0) with
     | none => none
     | some (y, M1) => match srcOf k M1 x y with
      | some (.pure xs) => if xs.length ≤ LINE then (match compR (fun x M => match asg t x (wipeE env own) with
          | none => none
          | some env1 => match optC (isAbs c) M (ev F cls c env1 M) with
            | none => none
            | some (false, M1) => some (none, M1)
            | some (true, M1) => match ev F cls e env1 M1 with
              | none => none
              | some (d, M2) => some (some d, M2)) xs M1 with
        | none => none
        | some (ys, M2) => mk mu (.list ys) M2) else none
      | _ => none
def evL (F : FT) (cls : Nat → Nat) : EL → Env → Sto → Option (List D × Sto)
  | .nil, _, M => some ([], M)
  | .cons e es, env, M => match ev F cls e env M with
    | none => none
    | some (d, M1) => match evL F cls es env M1 with
      | none => none
      | some (ds, M2) => some (d :: ds, M2)
end
end MP

/-! MP3: statements, defs, the run. -/
namespace MP
open PySem PySem.Spec PyProof.Rows L2

inductive Out where
  | next | cont | ret (d : D)
  deriving Inhabited
abbrev SR := Option (Out × Env × Sto)

/-- while -/
def whileD (c : Env → Sto → Option (Bool × Sto)) (b : Env → Sto → SR) (env : Env) (M : Sto) : SR :=
  match c env M with
  | none => none
  | some (false, M1) => some (.next, env, M1)
  | some (true, M1) => match b env M1 with
    | none => none
    | some (.ret d, e, M2) => some (.ret d, e, M2)
    | some (.next, e, M2) => whileD c b e M2
    | some (.cont, e, M2) => whileD c b e M2
partial_fixpoint

/-- for, over what stands -/
def forP (f : D → Env → Sto → SR) : List D → Env → Sto → SR
  | [], env, M => some (.next, env, M)
  | x :: xs, env, M => match f x env M with
    | none => none
    | some (.ret d, e, M2) => some (.ret d, e, M2)
    | some (.next, e, M2) => forP f xs e M2
    | some (.cont, e, M2) => forP f xs e M2
/-- for, over a list of the store: k turns from the i-th on -/
def forL (f : D → Env → Sto → SR) (n : Nat) : Nat → Nat → Env → Sto → SR
  | 0, i, env, M => match M[n]? with
    | some (.list xs) => if xs.length ≤ i then some (.next, env, M) else none
    | _ => none
  | k + 1, i, env, M => match M[n]? with
    | some (.list xs) => match xs[i]? with
      | none => none
      | some x => match f x env M with
        | none => none
        | some (.ret d, e, M2) => some (.ret d, e, M2)
        | some (.next, e, M2) => forL f n k (i + 1) e M2
        | some (.cont, e, M2) => forL f n k (i + 1) e M2
    | _ => none
def setI (M : Sto) (x y z : D) : Option Sto := match x with
  | .loc n => match M[n]? with
    | some (.list xs) => match y with
      | .int i => match ixN xs.length i with
        | some j => some (M.set n (.list (xs.set j z)))
        | none => none
      | _ => none
    | some (.dK kvs) => match keyOf y with
      | some q => if kvs.length < LINE then some (M.set n (.dK (putKD q z kvs))) else none
      | none => none
    | _ => none
  | _ => none
where
  /-- a store by key, in its place or at the end -/
  putKD (q : Key) (z : D) (kvs : List (Key × D)) : List (Key × D) :=
    if (kvs.any fun kv => decide (kv.1 = q)) = true then kvs.map (fun kv => if kv.1 = q then (kv.1, z) else kv) else kvs ++ [(q, z)]
def getL_ (a i : D) : Option D := match a, i with
  | .list xs, .int k => atI xs k
  | _, _ => none
def augOp : BO → D → D → Option D
  | .add, .int p, .int q => some (.int (p + q))
  | .sub, .int p, .int q => some (.int (p - q))
  | _, _, _ => none
def putS (f : Str) (z : D) : List (Str × D) → List (Str × D)
  | [] => [(f, z)]
  | (k, d) :: r => if f = k then (k, z) :: r else (k, d) :: putS f z r
mutual
def exec (F : FT) (cls : Nat → Nat) : S → Env → Sto → SR
  | .setv i e, env, M => match ev F cls e env M with
    | none => none
    | some (d, M1) => some (.next, env.set i (some d), M1)
  | .sett is e, env, M => match ev F cls e env M with
    | none => none
    | some (d, M1) => match asg (.tp is) d env with
      | none => none
      | some env1 => some (.next, env1, M1)
  | .setp i j a b, env, M => match ev F cls a env M with
    | none => none
    | some (x, M1) => match ev F cls b env M1 with
      | none => none
      | some (y, M2) => some (.next, (env.set i (some x)).set j (some y), M2)
  | .seti a i e, env, M => match ev F cls e env M with
    | none => none
    | some (z, M1) => match ev F cls a env M1 with
      | none => none
      | some (x, M2) => match ev F cls i env M2 with
        | none => none
        | some (y, M3) => match setI M3 x y z with
          | none => none
          | some M4 => some (.next, env, M4)
  | .seti2 a i b j e g, env, M => match ev F cls e env M with
    | none => none
    | some (z, M1) => match ev F cls g env M1 with
      | none => none
      | some (w, M2) => match ev F cls a env M2 with
        | none => none
        | some (x, M3) => match ev F cls i env M3 with
          | none => none
          | some (y, M4) => match setI M4 x y z with
            | none => none
            | some M5 => match ev F cls b env M5 with
              | none => none
              | some (x2, M6) => match ev F cls j env M6 with
                | none => none
                | some (y2, M7) => match setI M7 x2 y2 w with
                  | none => none
                  | some M8 => some (.next, env, M8)
  | .augi a i o e, env, M => match ev F cls a env M with
    | none => none
    | some (x, M1) => match ev F cls i env M1 with
      | none => none
      | some (y, M2) => match getL_ (rd M2 x) y with
        | none => none
        | some old => match ev F cls e env M2 with
          | none => none
          | some (v, M3) => match augOp o old v with
            | none => none
            | some z => match setI M3 x y z with
              | none => none
              | some M4 => some (.next, env, M4)
  | .setf a f e, env, M => match ev F cls e env M with
    | none => none
    | some (z, M1) => match ev F cls a env M1 with
      | some (.loc n, M2) => match M2[n]? with
        | some (.ins c fs) => if fs.length < 900 then some (.next, env, M2.set n (.ins c (putS f z fs))) else none
        | _ => none
      | _ => none
  | .exp e, env, M => match ev F cls e env M with
    | none => none
    | some (_, M1) => some (.next, env, M1)
  | .ret e, env, M => match ev F cls e env M with
    | none => none
    | some (d, M1) => some (.ret d, env, M1)
  | .retN, env, M => some (.ret .non, env, M)
  | .ife c p q, env, M => match tst (ev F cls c env M) with
    | none => none
    | some (true, M1) => exb F cls p env M1
    | some (false, M1) => exb F cls q env M1
  | .for_ t k a b body, env, M => match ev F cls a env M with
    | none => none
    | some (x, M0) => match optD (isAbs b) M0 (ev F cls b env M0) with
      | none => none
      | some (y, M1) => match srcOf k M1 x y with
        | some (.pure xs) => forP (fun x env M => match asg t x env with
          | none => none
          | some env1 => exb F cls body env1 M) xs env M1
        | some (.loc n k) => forL (fun x env M => match asg t x env with
          | none => none
          | some env1 => exb F cls body env1 M) n k 0 env M1
        | none => none
  | .whl c body, env, M => whileD (fun env M => tst (ev F cls c env M)) (fun env M => exb F cls body env M) env M
  | .pass, env, M => some (.next, env, M)
  | .cont, env, M => some (.cont, env, M)
  | .frz i, env, M => match env[i]? with
    | some (some (.loc n)) => match M[n]? with
      | some (.list xs) => some (.next, env.set i (some (.list xs)), M.set n .dead)
      | some (.dK kvs) => some (.next, env.set i (some (.dict kvs)), M.set n .dead)
      | _ => none
    | _ => none
def exb (F : FT) (cls : Nat → Nat) : SB → Env → Sto → SR
  | .nil, env, M => some (.next, env, M)
  | .cons s r, env, M => match exec F cls s env M with
    | none => none
    | some (.next, env1, M1) => exb F cls r env1 M1
    | some (.cont, env1, M1) => some (.cont, env1, M1)
    | some (.ret d, env1, M1) => some (.ret d, env1, M1)
end

structure Fn where
  name : Str
  np : Nat
  N : List Str
  body : SB
  ds : List D
  deriving Inhabited
def body1 (F : FT) (cls : Nat → Nat) (fn : Fn) (args : List D) (M : Sto) : Option (D × Sto) :=
  match exb F cls fn.body (args.map some ++ List.replicate (fn.N.length - args.length) none) M with
  | some (.ret d, _, M1) => some (d, M1)
  | some (.next, _, M1) => some (.non, M1)
  | _ => none
def run (fns : List Fn) (cls : Nat → Nat) : Nat → FT
  | 0, _, _, _ => none
  | n + 1, f, args, M => match fns[f]? with
    | none => none
    | some fn => if (args ++ fn.ds.drop (fn.ds.length - (fn.np - args.length))).length = fn.np then body1 (run fns cls n) cls fn (args ++ fn.ds.drop (fn.ds.length - (fn.np - args.length))) M else none
end MP

/-! MP4: the store grows, changes, shrinks. -/
namespace MP
open PySem PySem.Spec PyProof.Rows L2
section
variable {K : PySem.W.Frag} {ca : Nat → Option Addr} {G : Addr → Prop} {ρ ρ' : List Addr} {M M' : Sto} {H H' : Hp} {p : Addr}
theorem Ok.notin (k : Ok K ca G ρ M H) (hp : H p = none) : p ∉ ρ := fun h => by
  obtain ⟨o, e⟩ := k.trk p h
  rw [hp] at e; cases e
theorem Ok.notG (k : Ok K ca G ρ M H) (hp : H p = none) : ¬ G p := fun h => by
  obtain ⟨o, e⟩ := k.gt p h
  rw [hp] at e; cases e
theorem Ok.notLv (k : Ok K ca G ρ M H) (hp : H p = none) : ¬ Lv ρ M p := fun ⟨n, m, h1, _⟩ => k.notin hp (List.mem_of_getElem? h1)
theorem Ok.notF (k : Ok K ca G ρ M H) (hp : H p = none) : ¬ Fb G ρ M p := fun h => h.elim (k.notG hp) (k.notLv hp)
/-- a thing at its address, elsewhere and later -/
theorem MOk.on {F F' : Addr → Prop} {a : Addr} (o : On F ρ H F' ρ' H') (e : H' a = H a) : ∀ {m : MO}, MOk K ca F ρ H a m → MOk K ca F' ρ' H' a m
  | .dead, _ => trivial
  | .list ds, ⟨vs, h, z, q⟩ => ⟨vs, e.trans h, z, RpL.on o ds vs q⟩
  | .dK ds, ⟨vs, h, q⟩ => ⟨vs, e.trans h, RpK.on o ds vs q⟩
  | .dT ds, ⟨vs, h, q⟩ => ⟨vs, e.trans h, RpT.on o ds vs q⟩
  | .ins c fs, ⟨C, dx, us, h, z, q⟩ => ⟨C, dx, us, e.trans h, z, RpS.on o fs us q⟩
/-- a new thing that the store does not know -/
theorem Ok.new (k : Ok K ca G ρ M H) (hp : H p = none) (o : HO) : Ok K ca G ρ M (upd H p o) ∧ Ext ρ M H ρ M (upd H p o) := by
  have x : Ext ρ M H ρ M (upd H p o) := ⟨fun _ _ h => h, fun a u h f => ⟨by rw [upd_ne (ne_of_none h hp)]; exact h, f⟩⟩
  have on := x.on k
  refine ⟨⟨k.len, k.nd, fun a h => ?_, fun a h => ?_, k.gn, fun n m a h1 h2 => ?_⟩, x⟩
  · obtain ⟨u, e⟩ := k.trk a h
    exact ⟨u, by rw [upd_ne (ne_of_none e hp)]; exact e⟩
  · obtain ⟨u, e⟩ := k.gt a h
    exact ⟨u, by rw [upd_ne (ne_of_none e hp)]; exact e⟩
  · have hne : a ≠ p := fun z => k.notin hp (z ▸ List.mem_of_getElem? h2)
    exact MOk.on on (upd_ne hne) (k.ob n m a h1 h2)
theorem Rp.newList (k : Ok K ca G ρ M H) (hp : H p = none) {ds : List D} {vs : List V} (hz : ds.length ≤ sizeLine) (r : RpL K (Fb G ρ M) ρ H ds vs) : Rp K (Fb G ρ M) ρ (upd H p (.lst vs)) (.list ds) (.ref p) :=
  ⟨p, vs, rfl, upd_same, k.notF hp, hz, RpL.on ((k.new hp _).2.on k) ds vs r⟩
theorem Rp.newTup (k : Ok K ca G ρ M H) (hp : H p = none) {ds : List D} {vs : List V} (hz : ds.length ≤ sizeLine) (r : RpL K (Fb G ρ M) ρ H ds vs) : Rp K (Fb G ρ M) ρ (upd H p (.tup vs)) (.tup ds) (.ref p) :=
  ⟨p, vs, rfl, SqT.of upd_same, hz, RpL.on ((k.new hp _).2.on k) ds vs r⟩
theorem Rp.newDict (k : Ok K ca G ρ M H) (hp : H p = none) {ds : List (Key × D)} {vs : List (Key × V)} (r : RpK K (Fb G ρ M) ρ H ds vs) : Rp K (Fb G ρ M) ρ (upd H p (.dK vs)) (.dict ds) (.ref p) :=
  ⟨p, vs, rfl, .inl upd_same, k.notF hp, RpK.on ((k.new hp _).2.on k) ds vs r⟩
theorem Lv.append (hl : ρ.length = M.length) {m : MO} {a : Addr} : Lv (ρ ++ [p]) (M ++ [m]) a ↔ Lv ρ M a ∨ (a = p ∧ m.live) := by
  constructor
  · rintro ⟨n, q, h1, h2, h3⟩
    by_cases hn : n < ρ.length
    · rw [List.getElem?_append_left hn] at h1
      rw [List.getElem?_append_left (by omega)] at h2
      exact .inl ⟨n, q, h1, h2, h3⟩
    · rw [List.getElem?_append_right (by omega)] at h1 h2
      have e : n - ρ.length = 0 := by
        cases z : n - ρ.length with
        | zero => rfl
        | succ j => rw [z] at h1; simp at h1
      rw [e] at h1
      rw [← hl, e] at h2
      have h1' : p = a := by simpa using h1
      have h2' : m = q := by simpa using h2
      exact .inr ⟨h1'.symm, by rw [h2']; exact h3⟩
  · rintro (⟨n, q, h1, h2, h3⟩ | ⟨rfl, h3⟩)
    · have hn : n < ρ.length := by
        rcases Nat.lt_or_ge n ρ.length with z | z
        · exact z
        · rw [List.getElem?_eq_none z] at h1; cases h1
      exact ⟨n, q, by rw [List.getElem?_append_left hn]; exact h1, by rw [List.getElem?_append_left (by omega)]; exact h2, h3⟩
    · exact ⟨ρ.length, m, by rw [List.getElem?_append_right (Nat.le_refl _)]; simp, by rw [hl, List.getElem?_append_right (Nat.le_refl _)]; simp, h3⟩
/-- a new thing of the store -/
theorem Ok.newM (k : Ok K ca G ρ M H) (hp : H p = none) {o : HO} {m : MO} (hm : ∀ F' ρ' H', On (Fb G ρ M) ρ H F' ρ' H' → H' p = some o → MOk K ca F' ρ' H' p m) :
    Ok K ca G (ρ ++ [p]) (M ++ [m]) (upd H p o) ∧ Ext ρ M H (ρ ++ [p]) (M ++ [m]) (upd H p o) := by
  have lv := fun a => Lv.append (p := p) (m := m) (a := a) k.len
  have x : Ext ρ M H (ρ ++ [p]) (M ++ [m]) (upd H p o) := ⟨fun n a h => by
      have hn : n < ρ.length := by
        rcases Nat.lt_or_ge n ρ.length with z | z
        · exact z
        · rw [List.getElem?_eq_none z] at h; cases h
      rw [List.getElem?_append_left hn]; exact h,
    fun a u h f => ⟨by rw [upd_ne (ne_of_none h hp)]; exact h, fun l => ((lv a).mp l).elim f fun ⟨z, _⟩ => ne_of_none h hp z⟩⟩
  have on := x.on k
  refine ⟨⟨by rw [List.length_append, List.length_append, k.len]; rfl, ?_, fun a h => ?_, fun a h => ?_, fun a h l => ?_, fun n q a h1 h2 => ?_⟩, x⟩
  · rw [List.nodup_append]
    exact ⟨k.nd, by simp, fun a ha b hb => by
      have e : b = p := by simpa using hb
      subst e
      exact fun z => k.notin hp (z ▸ ha)⟩
  · rcases List.mem_append.mp h with h | h
    · obtain ⟨u, e⟩ := k.trk a h
      exact ⟨u, by rw [upd_ne (ne_of_none e hp)]; exact e⟩
    · have e : a = p := by simpa using h
      subst e
      exact ⟨o, upd_same⟩
  · obtain ⟨u, e⟩ := k.gt a h
    exact ⟨u, by rw [upd_ne (ne_of_none e hp)]; exact e⟩
  · rcases List.mem_append.mp l with l | l
    · exact k.gn a h l
    · have z : a = p := by simpa using l
      exact k.notG hp (z ▸ h)
  · by_cases hn : n < ρ.length
    · rw [List.getElem?_append_left (by rw [← k.len]; exact hn)] at h1
      rw [List.getElem?_append_left hn] at h2
      have hne : a ≠ p := fun z => k.notin hp (z ▸ List.mem_of_getElem? h2)
      exact MOk.on on (upd_ne hne) (k.ob n q a h1 h2)
    · rw [List.getElem?_append_right (by omega)] at h2
      rw [List.getElem?_append_right (by have := k.len; omega)] at h1
      have e : n - ρ.length = 0 := by
        cases z : n - ρ.length with
        | zero => rfl
        | succ j => rw [z] at h2; simp at h2
      rw [e] at h2
      rw [← k.len, e] at h1
      have h1' : m = q := by simpa using h1
      have h2' : p = a := by simpa using h2
      subst h1'; subst h2'
      exact hm _ _ _ on upd_same
theorem newM_at (k : Ok K ca G ρ M H) : (ρ ++ [p])[M.length]? = some p := by
  rw [← k.len, List.getElem?_append_right (Nat.le_refl _)]; simp

/-! ### a thing of the store changes -/
theorem set_get {α : Type} {l : List α} {n i : Nat} {x : α} (hn : n < l.length) : (l.set n x)[i]? = if n = i then some x else l[i]? := by
  by_cases h : n = i
  · subst h; rw [List.getElem?_set_self hn, if_pos rfl]
  · rw [List.getElem?_set_ne h, if_neg h]
theorem Lv.set {n : Nat} {m : MO} {a : Addr} (hn : n < M.length) (ha : ρ[n]? = some a) (nd : ρ.Nodup) {b : Addr} : Lv ρ (M.set n m) b ↔ (b ≠ a ∧ Lv ρ M b) ∨ (b = a ∧ m.live) := by
  have inj : ∀ (i : Nat) (c : Addr), ρ[i]? = some c → c = a → i = n := fun i c h e => by
    subst e
    have hi : i < ρ.length := (List.getElem?_eq_some_iff.mp h).1
    exact (List.getElem?_inj hi nd).mp (h.trans ha.symm)
  constructor
  · rintro ⟨i, q, h1, h2, h3⟩
    rw [set_get hn] at h2
    by_cases z : n = i
    · rw [if_pos z] at h2
      subst z
      rw [ha] at h1
      cases h1; cases h2
      exact .inr ⟨rfl, h3⟩
    · rw [if_neg z] at h2
      exact .inl ⟨fun e => z (inj i b h1 e).symm, i, q, h1, h2, h3⟩
  · rintro (⟨e, i, q, h1, h2, h3⟩ | ⟨e, h⟩)
    · refine ⟨i, q, h1, ?_, h3⟩
      rw [set_get hn, if_neg (fun z => e (by subst z; rw [ha] at h1; cases h1; rfl))]
      exact h2
    · subst e
      exact ⟨n, m, ha, by rw [set_get hn, if_pos rfl], h⟩
/-- a live thing is written -/
theorem Ok.write (k : Ok K ca G ρ M H) {n : Nat} {m m' : MO} {a : Addr} (hm : M[n]? = some m) (ha : ρ[n]? = some a) (hl : m.live) (hl' : m'.live) {o : HO}
    (h : ∀ F' ρ' H', On (Fb G ρ M) ρ H F' ρ' H' → H' a = some o → MOk K ca F' ρ' H' a m') : Ok K ca G ρ (M.set n m') (upd H a o) ∧ Ext ρ M H ρ (M.set n m') (upd H a o) := by
  have hn : n < M.length := (List.getElem?_eq_some_iff.mp hm).1
  have lv := fun b => Lv.set (b := b) (m := m') hn ha k.nd
  have la : Lv ρ M a := ⟨n, m, ha, hm, hl⟩
  have x : Ext ρ M H ρ (M.set n m') (upd H a o) := ⟨fun _ _ h => h, fun b u e f => by
    have hb : b ≠ a := fun z => f (z ▸ la)
    exact ⟨by rw [upd_ne hb]; exact e, fun l => ((lv b).mp l).elim (fun q => f q.2) fun q => hb q.1⟩⟩
  have on := x.on k
  refine ⟨⟨by rw [List.length_set]; exact k.len, k.nd, fun b hb => ?_, fun b hb => ?_, fun b g l => ?_, fun i q b h1 h2 => ?_⟩, x⟩
  · obtain ⟨u, e⟩ := k.trk b hb
    by_cases z : b = a
    · subst z; exact ⟨o, upd_same⟩
    · exact ⟨u, by rw [upd_ne z]; exact e⟩
  · obtain ⟨u, e⟩ := k.gt b hb
    by_cases z : b = a
    · subst z; exact ⟨o, upd_same⟩
    · exact ⟨u, by rw [upd_ne z]; exact e⟩
  · exact k.gn b g l
  · rw [set_get hn] at h1
    by_cases z : n = i
    · rw [if_pos z] at h1
      subst z
      rw [ha] at h2
      cases h1; cases h2
      exact h _ _ _ on upd_same
    · rw [if_neg z] at h1
      have hb : b ≠ a := fun e => z (by
        subst e
        have hi : n < ρ.length := (List.getElem?_eq_some_iff.mp ha).1
        exact (List.getElem?_inj hi k.nd).mp (ha.trans h2.symm))
      exact MOk.on on (upd_ne hb) (k.ob i q b h1 h2)
/-- a live thing is from now on a pure one -/
theorem Ok.freeze (k : Ok K ca G ρ M H) {n : Nat} {m : MO} {a : Addr} (hm : M[n]? = some m) (ha : ρ[n]? = some a) (hl : m.live) : Ok K ca G ρ (M.set n .dead) H ∧ Ext ρ M H ρ (M.set n .dead) H ∧ ¬ Fb G ρ (M.set n .dead) a := by
  have hn : n < M.length := (List.getElem?_eq_some_iff.mp hm).1
  have lv := fun b => Lv.set (b := b) (m := .dead) hn ha k.nd
  have la : Lv ρ M a := ⟨n, m, ha, hm, hl⟩
  have x : Ext ρ M H ρ (M.set n .dead) H := ⟨fun _ _ h => h, fun b u e f => ⟨e, fun l => ((lv b).mp l).elim (fun q => f q.2) fun q => q.2⟩⟩
  have on := x.on k
  refine ⟨⟨by rw [List.length_set]; exact k.len, k.nd, k.trk, k.gt, fun b g l => ?_, fun i q b h1 h2 => ?_⟩, x, fun z => ?_⟩
  · exact k.gn b g l
  · rw [set_get hn] at h1
    by_cases z : n = i
    · rw [if_pos z] at h1
      cases h1
      trivial
    · rw [if_neg z] at h1
      exact MOk.on on rfl (k.ob i q b h1 h2)
  · rcases z with z | z
    · exact k.gl a z la
    · rcases (lv a).mp z with q | q
      · exact q.1 rfl
      · exact q.2
theorem On.freeze (k : Ok K ca G ρ M H) {n : Nat} {m : MO} {a : Addr} (hm : M[n]? = some m) (ha : ρ[n]? = some a) (hl : m.live) : On (Fb G ρ M) ρ H (Fb G ρ (M.set n .dead)) ρ H := (k.freeze hm ha hl).2.1.on k

/-! ### what lies below a place -/
mutual
theorem Rp.cut {F F' : Addr → Prop} {n : Nat} (hF : ∀ a, F' a → F a) (hρ : ∀ i, i < n → ρ'[i]? = ρ[i]?) : ∀ (d : D) (v : V), below n d = true → Rp K F ρ H d v → Rp K F' ρ' H d v
  | .non, v, _, h => h
  | .bl _, v, _, h => h
  | .int _, v, _, h => h
  | .str _, v, _, h => h
  | .list ds, v, b, h => by
    obtain ⟨a, vs, e, r, f, z, l⟩ := h
    exact ⟨a, vs, e, r, fun q => f (hF a q), z, RpL.cut hF hρ ds vs (by simpa only [below] using b) l⟩
  | .tup ds, v, b, h => by
    obtain ⟨a, vs, e, r, z, l⟩ := h
    exact ⟨a, vs, e, r, z, RpL.cut hF hρ ds vs (by simpa only [below] using b) l⟩
  | .dict kvs, v, b, h => by
    obtain ⟨a, us, e, r, f, l⟩ := h
    exact ⟨a, us, e, r, fun q => f (hF a q), RpK.cut hF hρ kvs us (by simpa only [below] using b) l⟩
  | .loc m, v, b, h => by
    obtain ⟨a, e, r⟩ := h
    have hm : m < n := by simpa [below] using b
    exact ⟨a, e, (hρ m hm).trans r⟩
  | .fz ds, v, b, h => by
    obtain ⟨a, vs, e, r, z, l⟩ := h
    exact ⟨a, vs, e, r.imp (fun q => ⟨q.1, fun w => q.2 (hF a w)⟩) id, z, RpL.cut hF hρ ds vs (by simpa only [below] using b) l⟩
theorem RpL.cut {F F' : Addr → Prop} {n : Nat} (hF : ∀ a, F' a → F a) (hρ : ∀ i, i < n → ρ'[i]? = ρ[i]?) : ∀ (ds : List D) (vs : List V), belowL n ds = true → RpL K F ρ H ds vs → RpL K F' ρ' H ds vs
  | [], vs, _, h => h
  | d :: ds, vs, b, h => by
    obtain ⟨v, r, e, h1, h2⟩ := h
    rw [belowL, Bool.and_eq_true] at b
    exact ⟨v, r, e, Rp.cut hF hρ d v b.1 h1, RpL.cut hF hρ ds r b.2 h2⟩
theorem RpK.cut {F F' : Addr → Prop} {n : Nat} (hF : ∀ a, F' a → F a) (hρ : ∀ i, i < n → ρ'[i]? = ρ[i]?) : ∀ (ds : List (Key × D)) (vs : List (Key × V)), belowK n ds = true → RpK K F ρ H ds vs → RpK K F' ρ' H ds vs
  | [], vs, _, h => h
  | (k, d) :: ds, vs, b, h => by
    obtain ⟨v, r, e, h1, h2⟩ := h
    rw [belowK, Bool.and_eq_true] at b
    exact ⟨v, r, e, Rp.cut hF hρ d v b.1 h1, RpK.cut hF hρ ds r b.2 h2⟩
end
theorem RpT.cut {F F' : Addr → Prop} {n : Nat} (hF : ∀ a, F' a → F a) (hρ : ∀ i, i < n → ρ'[i]? = ρ[i]?) : ∀ (ds : List (List Key × D)) (vs : List (List Key × V)), belowT n ds = true → RpT K F ρ H ds vs → RpT K F' ρ' H ds vs
  | [], vs, _, h => h
  | (k, d) :: ds, vs, b, h => by
    obtain ⟨v, r, e, h1, h2⟩ := h
    rw [belowT, Bool.and_eq_true] at b
    exact ⟨v, r, e, Rp.cut hF hρ d v b.1 h1, RpT.cut hF hρ ds r b.2 h2⟩
theorem RpS.cut {F F' : Addr → Prop} {n : Nat} (hF : ∀ a, F' a → F a) (hρ : ∀ i, i < n → ρ'[i]? = ρ[i]?) : ∀ (ds : List (Str × D)) (vs : List (Str × V)), belowS n ds = true → RpS K F ρ H ds vs → RpS K F' ρ' H ds vs
  | [], vs, _, h => h
  | (k, d) :: ds, vs, b, h => by
    obtain ⟨v, r, e, h1, h2⟩ := h
    rw [belowS, Bool.and_eq_true] at b
    exact ⟨v, r, e, Rp.cut hF hρ d v b.1 h1, RpS.cut hF hρ ds r b.2 h2⟩
theorem MOk.cut {F F' : Addr → Prop} {n : Nat} {a : Addr} (hF : ∀ a, F' a → F a) (hρ : ∀ i, i < n → ρ'[i]? = ρ[i]?) : ∀ {m : MO}, belowM n m = true → MOk K ca F ρ H a m → MOk K ca F' ρ' H a m
  | .dead, _, _ => trivial
  | .list ds, b, ⟨vs, h, z, q⟩ => ⟨vs, h, z, RpL.cut hF hρ ds vs b q⟩
  | .dK ds, b, ⟨vs, h, q⟩ => ⟨vs, h, RpK.cut hF hρ ds vs b q⟩
  | .dT ds, b, ⟨vs, h, q⟩ => ⟨vs, h, RpT.cut hF hρ ds vs b q⟩
  | .ins c fs, b, ⟨C, dx, us, h, z, q⟩ => ⟨C, dx, us, h, z, RpS.cut hF hρ fs us b q⟩
/-- pure things need no store -/
theorem Rp.pure {F : Addr → Prop} {d : D} {v : V} (b : below 0 d = true) (h : Rp K F ρ H d v) (F' : Addr → Prop) (hF : ∀ a, F' a → F a) (ρ' : List Addr) : Rp K F' ρ' H d v := Rp.cut hF (fun i hi => absurd hi (Nat.not_lt_zero i)) d v b h
theorem RpL.pure {F : Addr → Prop} {d : List D} {v : List V} (b : belowL 0 d = true) (h : RpL K F ρ H d v) (F' : Addr → Prop) (hF : ∀ a, F' a → F a) (ρ' : List Addr) : RpL K F' ρ' H d v := RpL.cut hF (fun i hi => absurd hi (Nat.not_lt_zero i)) d v b h
mutual
/-- what holds no list leans on nothing that changes -/
theorem Rp.bare {F : Addr → Prop} (F' : Addr → Prop) (ρ' : List Addr) : ∀ (d : D) (v : V), bare d = true → Rp K F ρ H d v → Rp K F' ρ' H d v
  | .non, v, _, h => h
  | .bl _, v, _, h => h
  | .int _, v, _, h => h
  | .str _, v, _, h => h
  | .list _, v, b, h => by simp [MP.bare] at b
  | .tup ds, v, b, h => by
    obtain ⟨a, vs, e, r, z, l⟩ := h
    exact ⟨a, vs, e, r, z, RpL.bare F' ρ' ds vs (by simpa only [MP.bare] using b) l⟩
  | .dict _, v, b, h => by simp [MP.bare] at b
  | .loc _, v, b, h => by simp [MP.bare] at b
  | .fz _, v, b, h => by simp [MP.bare] at b
theorem RpL.bare {F : Addr → Prop} (F' : Addr → Prop) (ρ' : List Addr) : ∀ (ds : List D) (vs : List V), bareL ds = true → RpL K F ρ H ds vs → RpL K F' ρ' H ds vs
  | [], vs, _, h => h
  | d :: ds, vs, b, h => by
    obtain ⟨v, r, e, h1, h2⟩ := h
    rw [MP.bareL, Bool.and_eq_true] at b
    exact ⟨v, r, e, Rp.bare F' ρ' d v b.1 h1, RpL.bare F' ρ' ds r b.2 h2⟩
end
end
end MP

/-! MP5: around a call. -/
namespace MP
open PySem PySem.Spec PyProof.Rows L2
section
variable {K : PySem.W.Frag} {ca : Nat → Option Addr} {G : Addr → Prop} {ρ ρ2 : List Addr} {M M2 : Sto} {H H2 : Hp} {p : Addr}
theorem lv_nil {a : Addr} : ¬ Lv [] [] a := fun ⟨n, m, h, _⟩ => by simp at h
theorem Ok.lvTrk (k : Ok K ca G ρ M H) {a : Addr} (l : Lv ρ M a) : ∃ o, H a = some o := let ⟨o, e, _⟩ := k.lv l; ⟨o, e⟩
/-- the callee's start: nothing of the store, the callers' live things are not to be touched -/
theorem Ok.empty (k : Ok K ca G ρ M H) : Ok K ca (Fb G ρ M) [] [] H :=
  ⟨rfl, List.nodup_nil, (fun a h => nomatch h), fun a h => h.elim (k.gt a) k.lvTrk, fun a _ => List.not_mem_nil, fun n m a h => by simp at h⟩
theorem Ext.of_empty (x : Ext [] [] H ρ2 M2 H2) {a : Addr} {o : HO} (e : H a = some o) : H2 a = some o ∧ ¬ Lv ρ2 M2 a := x.keep a o e lv_nil
theorem Ok.back (k : Ok K ca G ρ M H) (x : Ext [] [] H ρ2 M2 H2) : Ok K ca G ρ M H2 ∧ Ext ρ M H ρ M H2 := by
  have e : Ext ρ M H ρ M H2 := ⟨fun _ _ h => h, fun a o h f => ⟨(x.of_empty h).1, f⟩⟩
  have on := e.on k
  refine ⟨⟨k.len, k.nd, fun a h => ?_, fun a h => ?_, k.gn, fun n m a h1 h2 => ?_⟩, e⟩
  · obtain ⟨o, q⟩ := k.trk a h
    exact ⟨o, (x.of_empty q).1⟩
  · obtain ⟨o, q⟩ := k.gt a h
    exact ⟨o, (x.of_empty q).1⟩
  · obtain ⟨o, q⟩ := k.trk a (List.mem_of_getElem? h2)
    exact MOk.on on ((x.of_empty q).1.trans q.symm) (k.ob n m a h1 h2)
/-- a list that the callee made is from now on one of the store -/
theorem Ok.adopt (k : Ok K ca G ρ M H) (x : Ext [] [] H ρ2 M2 H2) (k2 : Ok K ca (Fb G ρ M) ρ2 M2 H2) {j : Nat} {ds : List D} (h1 : ρ2[j]? = some p) (h2 : M2[j]? = some (.list ds)) (hb : belowL 0 ds = true) :
    Ok K ca G (ρ ++ [p]) (M ++ [.list ds]) H2 ∧ Ext ρ M H (ρ ++ [p]) (M ++ [.list ds]) H2 := by
  have l2 : Lv ρ2 M2 p := ⟨j, _, h1, h2, trivial⟩
  have hp : H p = none := by
    cases q : H p with
    | none => rfl
    | some o => exact absurd l2 (x.of_empty q).2
  have lv := fun a => Lv.append (p := p) (m := MO.list ds) (a := a) k.len
  have pre : ∀ (n : Nat) (a : Addr), ρ[n]? = some a → (ρ ++ [p])[n]? = some a := fun n a h => by
    have hn : n < ρ.length := (List.getElem?_eq_some_iff.mp h).1
    rw [List.getElem?_append_left hn]; exact h
  have e : Ext ρ M H (ρ ++ [p]) (M ++ [.list ds]) H2 := ⟨pre, fun a u h f => ⟨(x.of_empty h).1, fun l => ((lv a).mp l).elim f fun ⟨z, _⟩ => ne_of_none h hp z⟩⟩
  have on := e.on k
  have hF : ∀ a, Fb G (ρ ++ [p]) (M ++ [.list ds]) a → Fb (Fb G ρ M) ρ2 M2 a := fun a h => by
    rcases h with h | h
    · exact .inl (.inl h)
    · rcases (lv a).mp h with h | ⟨z, _⟩
      · exact .inl (.inr h)
      · exact .inr (z ▸ l2)
  refine ⟨⟨by rw [List.length_append, List.length_append, k.len]; rfl, ?_, fun a h => ?_, fun a h => ?_, fun a h l => ?_, fun n q a g1 g2 => ?_⟩, e⟩
  · rw [List.nodup_append]
    exact ⟨k.nd, by simp, fun a ha b hb => by
      have e : b = p := by simpa using hb
      subst e
      exact fun z => k.notin hp (z ▸ ha)⟩
  · rcases List.mem_append.mp h with h | h
    · obtain ⟨u, q⟩ := k.trk a h
      exact ⟨u, (x.of_empty q).1⟩
    · have z : a = p := by simpa using h
      subst z
      exact k2.lvTrk l2
  · obtain ⟨u, q⟩ := k.gt a h
    exact ⟨u, (x.of_empty q).1⟩
  · rcases List.mem_append.mp l with l | l
    · exact k.gn a h l
    · have z : a = p := by simpa using l
      exact k.notG hp (z ▸ h)
  · by_cases hn : n < ρ.length
    · rw [List.getElem?_append_left (by rw [← k.len]; exact hn)] at g1
      rw [List.getElem?_append_left hn] at g2
      obtain ⟨u, hu⟩ := k.trk a (List.mem_of_getElem? g2)
      exact MOk.on on ((x.of_empty hu).1.trans hu.symm) (k.ob n q a g1 g2)
    · rw [List.getElem?_append_right (by omega)] at g2
      rw [List.getElem?_append_right (by have := k.len; omega)] at g1
      have e : n - ρ.length = 0 := by
        cases z : n - ρ.length with
        | zero => rfl
        | succ j => rw [z] at g2; simp at g2
      rw [e] at g2
      rw [← k.len, e] at g1
      have g1' : MO.list ds = q := by simpa using g1
      have g2' : p = a := by simpa using g2
      subst g1'; subst g2'
      obtain ⟨vs, q1, q2, q3⟩ := k2.ob j _ p h2 h1
      exact ⟨vs, q1, q2, RpL.pure hb q3 _ hF _⟩
/-- what was made behind the first places is dropped -/
theorem Ok.trunc (k : Ok K ca G ρ M H) (x : Ext ρ M H ρ2 M2 H2) (k2 : Ok K ca G ρ2 M2 H2) (hl : M.length ≤ M2.length) (hb : (M2.take M.length).all (belowM M.length) = true) :
    Ok K ca G ρ (M2.take M.length) H2 ∧ Ext ρ M H ρ (M2.take M.length) H2 ∧ (∀ a, Fb G ρ (M2.take M.length) a → Fb G ρ2 M2 a) ∧ ∀ i, i < M.length → ρ[i]? = ρ2[i]? := by
  have hρ : ∀ i, i < M.length → ρ[i]? = ρ2[i]? := fun i hi => by
    have hi' : i < ρ.length := by rw [k.len]; exact hi
    have e : ρ[i]? = some ρ[i] := List.getElem?_eq_getElem hi'
    rw [e]; exact (x.pre i _ e).symm
  have lt : ∀ {i : Nat} {a : Addr}, ρ[i]? = some a → i < M.length := fun {i a} h => by
    rw [← k.len]; exact (List.getElem?_eq_some_iff.mp h).1
  have lv : ∀ a, Lv ρ (M2.take M.length) a → Lv ρ2 M2 a := fun a ⟨n, m, h1, h2, h3⟩ => by
    have hn := lt h1
    rw [List.getElem?_take_of_lt hn] at h2
    exact ⟨n, m, (hρ n hn) ▸ h1, h2, h3⟩
  have hF : ∀ a, Fb G ρ (M2.take M.length) a → Fb G ρ2 M2 a := fun a h => h.elim .inl fun q => .inr (lv a q)
  refine ⟨⟨by rw [List.length_take, k.len]; omega, k.nd, fun a h => ?_, k2.gt, fun a g l => ?_, fun n m a h1 h2 => ?_⟩,
    ⟨fun _ _ h => h, fun a o h f => ⟨(x.keep a o h f).1, fun l => (x.keep a o h f).2 (lv a l)⟩⟩, hF, hρ⟩
  · obtain ⟨n, hn⟩ := List.getElem?_of_mem h
    exact k2.trk a (List.mem_of_getElem? ((hρ n (lt hn)) ▸ hn))
  · obtain ⟨n, hn⟩ := List.getElem?_of_mem l
    exact k2.gn a g (List.mem_of_getElem? ((hρ n (lt hn)) ▸ hn))
  · have hn := lt h2
    have hm : m ∈ M2.take M.length := List.mem_of_getElem? h1
    rw [List.getElem?_take_of_lt hn] at h1
    exact MOk.cut hF hρ (List.all_eq_true.mp hb m hm) (k2.ob n m a h1 ((hρ n hn) ▸ h2))
end
end MP

/-! MP6: readings by the evaluator; operators by values. -/
namespace MP
open PySem PySem.Spec PyProof.Rows L2

/-- where one stands -/
structure At (K : PySem.W.Frag) (ca : Nat → Option Addr) (G : Addr → Prop) (ρ : List Addr) (M : Sto) (H : Hp) (σ : L2.St) (env : Env) : Prop where
  ok : Ok K ca G ρ M H
  en : EnvR K (Fb G ρ M) ρ H σ env
section
variable {K : PySem.W.Frag} {ca : Nat → Option Addr} {G : Addr → Prop} {ρ ρ' : List Addr} {M M' : Sto} {H H' : Hp} {σ : L2.St} {env : Env}
theorem At.to (a : At K ca G ρ M H σ env) (x : Ext ρ M H ρ' M' H') (k : Ok K ca G ρ' M' H') : At K ca G ρ' M' H' σ env := ⟨k, a.en.on (x.on a.ok)⟩
theorem At.mv (a : At K ca G ρ M H σ env) (x : Ext ρ M H ρ' M' H') {d : D} {v : V} (r : Rp K (Fb G ρ M) ρ H d v) : Rp K (Fb G ρ' M') ρ' H' d v := Rp.on (x.on a.ok) d v r
theorem At.mvL (a : At K ca G ρ M H σ env) (x : Ext ρ M H ρ' M' H') {d : List D} {v : List V} (r : RpL K (Fb G ρ M) ρ H d v) : RpL K (Fb G ρ' M') ρ' H' d v := RpL.on (x.on a.ok) d v r
end
/-- readings by an evaluation -/
def tE (K : PySem.W.Frag) (ca : Nat → Option Addr) (f : Env → Sto → Option (D × Sto)) : TE := fun σ H Q => ∃ G ρ env M d M', At K ca G ρ M H σ env ∧ f env M = some (d, M') ∧
  ∀ ρ' v H', Ext ρ M H ρ' M' H' → Ok K ca G ρ' M' H' → Rp K (Fb G ρ' M') ρ' H' d v → Q v H'
def tL (K : PySem.W.Frag) (ca : Nat → Option Addr) (f : Env → Sto → Option (List D × Sto)) : TA := fun σ H Q => ∃ G ρ env M d M', At K ca G ρ M H σ env ∧ f env M = some (d, M') ∧
  ∀ ρ' v H', Ext ρ M H ρ' M' H' → Ok K ca G ρ' M' H' → RpL K (Fb G ρ' M') ρ' H' d v → Q v H'
def tT (K : PySem.W.Frag) (ca : Nat → Option Addr) (f : Env → Sto → Option (Bool × Sto)) : TT := fun σ H Q => ∃ G ρ env M d M', At K ca G ρ M H σ env ∧ f env M = some (d, M') ∧
  ∀ ρ' H', Ext ρ M H ρ' M' H' → Ok K ca G ρ' M' H' → Q d H'
theorem PE.imp {X : Cx} {e : Expr} {t t' : TE} (h : PE X e t) (i : ∀ σ H Q, t' σ H Q → t σ H Q) : PE X e t' := ⟨fun pins s σ H Q I q => h.run pins s σ H Q I (i _ _ _ q)⟩
theorem PT.imp {X : Cx} {e : Expr} {t t' : TT} (h : PT X e t) (i : ∀ σ H Q, t' σ H Q → t σ H Q) : PT X e t' := ⟨fun pins s σ H Q I q => h.run pins s σ H Q I (i _ _ _ q)⟩
theorem PW.imp {X : Cx} {e : Expr} {t t' : TT} (h : PW X e t) (i : ∀ σ H Q, t' σ H Q → t σ H Q) : PW X e t' := ⟨fun w pins s σ H Q I q => h.run w pins s σ H Q I (i _ _ _ q)⟩
theorem PA.imp {X : Cx} {e : List Expr} {t t' : TA} (h : PA X e t) (i : ∀ σ H Q, t' σ H Q → t σ H Q) : PA X e t' := ⟨fun p pins s σ H Q I q => h.run p pins s σ H Q I (i _ _ _ q)⟩
theorem PS.imp {X : Cx} {e : Stmt} {t t' : TS} (h : PS X e t) (i : ∀ D σ H, t' D σ H → t D σ H) : PS X e t' := ⟨fun pins s σ H D I q => h.run pins s σ H D I (i _ _ _ q)⟩
theorem PSs.imp {X : Cx} {e : List Stmt} {t t' : TS} (h : PSs X e t) (i : ∀ D σ H, t' D σ H → t D σ H) : PSs X e t' := ⟨fun pins s σ H D I q => h.run pins s σ H D I (i _ _ _ q)⟩
section
variable {K : PySem.W.Frag} {ca : Nat → Option Addr} {G : Addr → Prop} {ρ : List Addr} {M M' : Sto} {H : Hp} {σ : L2.St} {env : Env}
theorem tE.go {f : Env → Sto → Option (D × Sto)} {d : D} (a : At K ca G ρ M H σ env) (e : f env M = some (d, M')) {Q : VK}
    (h : ∀ ρ' v H', Ext ρ M H ρ' M' H' → At K ca G ρ' M' H' σ env → Rp K (Fb G ρ' M') ρ' H' d v → Q v H') : tE K ca f σ H Q :=
  ⟨G, ρ, env, M, d, M', a, e, fun ρ' v H' x k r => h ρ' v H' x (a.to x k) r⟩
theorem tL.go {f : Env → Sto → Option (List D × Sto)} {d : List D} (a : At K ca G ρ M H σ env) (e : f env M = some (d, M')) {Q : List V → Hp → Prop}
    (h : ∀ ρ' v H', Ext ρ M H ρ' M' H' → At K ca G ρ' M' H' σ env → RpL K (Fb G ρ' M') ρ' H' d v → Q v H') : tL K ca f σ H Q :=
  ⟨G, ρ, env, M, d, M', a, e, fun ρ' v H' x k r => h ρ' v H' x (a.to x k) r⟩
theorem tT.go {f : Env → Sto → Option (Bool × Sto)} {d : Bool} (a : At K ca G ρ M H σ env) (e : f env M = some (d, M')) {Q : Bool → Hp → Prop}
    (h : ∀ ρ' H', Ext ρ M H ρ' M' H' → At K ca G ρ' M' H' σ env → Q d H') : tT K ca f σ H Q :=
  ⟨G, ρ, env, M, d, M', a, e, fun ρ' H' x k => h ρ' H' x (a.to x k)⟩
end

/-! ### reading -/
section
variable {K : PySem.W.Frag} {ca : Nat → Option Addr} {F : Addr → Prop} {G : Addr → Prop} {ρ : List Addr} {M : Sto} {H : Hp}
/-- what is read: a list may be one of the store -/
def Rs (K : PySem.W.Frag) (F : Addr → Prop) (ρ : List Addr) (H : Hp) : D → V → Prop
  | .list ds, v => ∃ a vs, v = .ref a ∧ H a = some (.lst vs) ∧ ds.length ≤ sizeLine ∧ RpL K F ρ H ds vs
  | .dict kvs, v => ∃ a us, v = .ref a ∧ Rd H a (.dK us) ∧ RpK K F ρ H kvs us
  | d, v => Rp K F ρ H d v
theorem Rs.ofRp : ∀ {d : D} {v : V}, Rp K F ρ H d v → Rs K F ρ H d v
  | .list _, _, ⟨a, vs, e, h, _, z, r⟩ => ⟨a, vs, e, h, z, r⟩
  | .dict _, _, ⟨a, vs, e, h, _, r⟩ => ⟨a, vs, e, h, r⟩
  | .non, _, h => h
  | .bl _, _, h => h
  | .int _, _, h => h
  | .str _, _, h => h
  | .tup _, _, h => h
  | .loc _, _, h => h
  | .fz _, _, h => h
theorem Ok.rs (k : Ok K ca G ρ M H) {d : D} {v : V} (r : Rp K (Fb G ρ M) ρ H d v) : Rs K (Fb G ρ M) ρ H (rd M d) v := by
  cases d with
  | loc n =>
    obtain ⟨a, e, h⟩ := r
    have base : Rs K (Fb G ρ M) ρ H (.loc n) v := ⟨a, e, h⟩
    cases q : M[n]? with
    | none =>
      have e2 : rd M (.loc n) = .loc n := by simp only [rd, q]
      rw [e2]; exact base
    | some m =>
      cases m with
      | list xs =>
        have e2 : rd M (.loc n) = .list xs := by simp only [rd, q]
        obtain ⟨vs, h1, h2, h3⟩ := k.ob n _ a q h
        rw [e2]; exact ⟨a, vs, e, h1, h2, h3⟩
      | dK kvs =>
        have e2 : rd M (.loc n) = .dict kvs := by simp only [rd, q]
        obtain ⟨us, h1, h3⟩ := k.ob n _ a q h
        rw [e2]; exact ⟨a, us, e, .inl h1, h3⟩
      | dead =>
        have e2 : rd M (.loc n) = .loc n := by simp only [rd, q]
        rw [e2]; exact base
      | dT _ =>
        have e2 : rd M (.loc n) = .loc n := by simp only [rd, q]
        rw [e2]; exact base
      | ins _ _ =>
        have e2 : rd M (.loc n) = .loc n := by simp only [rd, q]
        rw [e2]; exact base
  | non => exact Rs.ofRp r
  | bl _ => exact Rs.ofRp r
  | int _ => exact Rs.ofRp r
  | str _ => exact Rs.ofRp r
  | list _ => exact Rs.ofRp r
  | tup _ => exact Rs.ofRp r
  | dict _ => exact Rs.ofRp r
  | fz _ => exact Rs.ofRp r
theorem lineEq : LINE = sizeLine := by rw [sizeLine_eq]; rfl

/-! ### plain data -/
mutual
theorem Rp.dp : ∀ (d : D) (v : V), dp d ≤ 99 → Rp K F ρ H d v → Dp K H v (pd d)
  | .non, v, _, h => by
    have e : v = .non := h
    subst e
    exact .non
  | .bl b, v, _, h => by
    have e : v = .bl b := h
    subst e
    exact .bl b
  | .int i, v, _, h => by
    have e : v = .int i := h
    subst e
    exact .int i
  | .str x, v, _, h => by
    have e : v = .str x := h
    subst e
    exact .str x
  | .list ds, v, z, h => by
    obtain ⟨a, vs, e, h1, _, _, h2⟩ := h
    subst e
    simp only [MP.dp] at z
    rw [pd]
    exact .lst (SqL.of h1) (RpL.dp ds vs (by omega) h2)
  | .tup ds, v, z, h => by
    obtain ⟨a, vs, e, h1, _, h2⟩ := h
    subst e
    simp only [MP.dp] at z
    rw [pd]
    exact .tup h1 (RpL.dp ds vs (by omega) h2)
  | .dict _, _, z, _ => by simp only [MP.dp] at z; omega
  | .loc _, _, z, _ => by simp only [MP.dp] at z; omega
  | .fz _, _, z, _ => by simp only [MP.dp] at z; omega
theorem RpL.dp : ∀ (ds : List D) (vs : List V), dpL ds ≤ 99 → RpL K F ρ H ds vs → DpAll K H vs (pdL ds)
  | [], vs, _, h => by
    have e : vs = [] := h
    subst e
    rw [pdL]
    exact .nil
  | d :: ds, vs, z, h => by
    obtain ⟨v, r, e, h1, h2⟩ := h
    subst e
    simp only [dpL] at z
    rw [pdL]
    exact .cons (Rp.dp d v (by omega) h1) (RpL.dp ds r (by omega) h2)
end
mutual
theorem dp_lay : ∀ (d : D), dp d ≤ 99 → (pd d).canLay0 = true ∧ (pd d).depth = dp d
  | .non, _ => ⟨by simp [pd, PyData.canLay0], by simp [pd, PyData.depth, MP.dp]⟩
  | .bl _, _ => ⟨by simp [pd, PyData.canLay0], by simp [pd, PyData.depth, MP.dp]⟩
  | .int _, _ => ⟨by simp [pd, PyData.canLay0], by simp [pd, PyData.depth, MP.dp]⟩
  | .str x, z => by
    simp only [MP.dp] at z ⊢
    split at z
    · rename_i h
      rw [if_pos h]
      exact ⟨by simp [pd, PyData.canLay0, h], by simp [pd, PyData.depth]⟩
    · omega
  | .list ds, z => by
    simp only [MP.dp] at z
    have q := dpL_lay ds (by omega)
    exact ⟨by rw [pd, PyData.canLay0]; exact q.1, by rw [pd, PyData.depth, q.2, MP.dp]⟩
  | .tup ds, z => by
    simp only [MP.dp] at z
    have q := dpL_lay ds (by omega)
    exact ⟨by rw [pd, PyData.canLay0]; exact q.1, by rw [pd, PyData.depth, q.2, MP.dp]⟩
  | .dict _, z => by simp only [MP.dp] at z; omega
  | .loc _, z => by simp only [MP.dp] at z; omega
  | .fz _, z => by simp only [MP.dp] at z; omega
theorem dpL_lay : ∀ (ds : List D), dpL ds ≤ 99 → PyData.canLayAll0 (pdL ds) = true ∧ PyData.depthAll (pdL ds) = dpL ds
  | [], _ => ⟨by simp [pdL, PyData.canLayAll0], by simp [pdL, PyData.depthAll, dpL]⟩
  | d :: ds, z => by
    simp only [dpL] at z
    have q1 := dp_lay d (by omega)
    have q2 := dpL_lay ds (by omega)
    exact ⟨by rw [pdL, PyData.canLayAll0, q1.1, q2.1]; rfl, by rw [pdL, PyData.depthAll, q1.2, q2.2, dpL]⟩
end
theorem dp_shaped {d : D} (h : dp d ≤ 60) : SeqAt.shaped (pd d) = true := by
  have q := dp_lay d (by omega)
  unfold SeqAt.shaped
  rw [q.1, q.2, Bool.true_and]
  exact decide_eq_true (by omega)
theorem Rs.dp {d : D} {v : V} (z : MP.dp d ≤ 99) (h : Rs K F ρ H d v) : Dp K H v (pd d) := by
  cases d with
  | list ds =>
    obtain ⟨a, vs, e, h1, _, h2⟩ := h
    subst e
    simp only [MP.dp] at z
    rw [pd]
    exact .lst (SqL.of h1) (RpL.dp ds vs (by omega) h2)
  | dict _ => simp only [MP.dp] at z; omega
  | non => exact Rp.dp (F := F) (ρ := ρ) _ v z h
  | bl _ => exact Rp.dp (F := F) (ρ := ρ) _ v z h
  | int _ => exact Rp.dp (F := F) (ρ := ρ) _ v z h
  | str _ => exact Rp.dp (F := F) (ρ := ρ) _ v z h
  | tup _ => exact Rp.dp (F := F) (ρ := ρ) _ v z h
  | loc _ => exact Rp.dp (F := F) (ρ := ρ) _ v z h
  | fz _ => exact Rp.dp (F := F) (ρ := ρ) _ v z h
theorem pdL_map : ∀ ds : List D, pdL ds = ds.map pd
  | [] => rfl
  | d :: ds => by rw [pdL, pdL_map ds, List.map_cons]
end

/-! ### operators by values -/
def Meet (K : PySem.W.Frag) (ca : Nat → Option Addr) (G : Addr → Prop) (ρ : List Addr) (M : Sto) (H : Hp) (mu : Bool) (d : D) (Q : VK) : Prop :=
  ∀ d' M', mk mu d M = some (d', M') → ∀ (h : ∀ ρ' v H', Ext ρ M H ρ' M' H' → Ok K ca G ρ' M' H' → Rp K (Fb G ρ' M') ρ' H' d' v → Q v H'), True
section
variable {K : PySem.W.Frag} {ca : Nat → Option Addr} {G : Addr → Prop} {ρ : List Addr} {M M' : Sto} {H : Hp} {mu : Bool} {d' : D} {Q : VK}
/-- what follows a value that may become one of the store -/
abbrev Kont (K : PySem.W.Frag) (ca : Nat → Option Addr) (G : Addr → Prop) (ρ : List Addr) (M : Sto) (H : Hp) (M' : Sto) (d' : D) (Q : VK) : Prop :=
  ∀ ρ' v H', Ext ρ M H ρ' M' H' → Ok K ca G ρ' M' H' → Rp K (Fb G ρ' M') ρ' H' d' v → Q v H'
theorem mk_list (k : Ok K ca G ρ M H) {ds : List D} {vs : List V} (e : mk mu (.list ds) M = some (d', M')) (h : Kont K ca G ρ M H M' d' Q) (hz : ds.length ≤ sizeLine) (r : RpL K (Fb G ρ M) ρ H ds vs) {p : Addr} (hp : H p = none) :
    Q (.ref p) (upd H p (.lst vs)) := by
  unfold mk at e
  cases mu with
  | false =>
    cases e
    have q := k.new hp (.lst vs)
    exact h ρ _ _ q.2 q.1 (Rp.newList k hp hz r)
  | true =>
    cases e
    have q := k.newM (m := .list ds) (o := .lst vs) hp fun F' ρ' H' o e => ⟨vs, e, hz, RpL.on o ds vs r⟩
    exact h _ _ _ q.2 q.1 ⟨p, rfl, newM_at k⟩
theorem mk_dict (k : Ok K ca G ρ M H) {ds : List (Key × D)} {vs : List (Key × V)} (e : mk mu (.dict ds) M = some (d', M')) (h : Kont K ca G ρ M H M' d' Q) (r : RpK K (Fb G ρ M) ρ H ds vs) {p : Addr} (hp : H p = none) :
    Q (.ref p) (upd H p (.dK vs)) := by
  unfold mk at e
  cases mu with
  | false =>
    cases e
    have q := k.new hp (.dK vs)
    exact h ρ _ _ q.2 q.1 (Rp.newDict k hp r)
  | true =>
    cases e
    have q := k.newM (m := .dK ds) (o := .dK vs) hp fun F' ρ' H' o e => ⟨vs, e, RpK.on o ds vs r⟩
    exact h _ _ _ q.2 q.1 ⟨p, rfl, newM_at k⟩
/-- what is no list and no dict stays as it is -/
theorem mk_flat {d : D} (hl : ∀ ds, d ≠ .list ds) (hd : ∀ ds, d ≠ .dict ds) (e : mk mu d M = some (d', M')) : d' = d ∧ M' = M := by
  unfold mk at e
  cases mu with
  | false => cases e; exact ⟨rfl, rfl⟩
  | true =>
    cases d with
    | list ds => exact absurd rfl (hl ds)
    | dict ds => exact absurd rfl (hd ds)
    | _ => cases e
theorem mk_tup (k : Ok K ca G ρ M H) {ds : List D} {vs : List V} (h : Kont K ca G ρ M H M (.tup ds) Q) (hz : ds.length ≤ sizeLine) (r : RpL K (Fb G ρ M) ρ H ds vs) {p : Addr} (hp : H p = none) :
    Q (.ref p) (upd H p (.tup vs)) := by
  have q := k.new hp (.tup vs)
  exact h ρ _ _ q.2 q.1 (Rp.newTup k hp hz r)
theorem kont_here (k : Ok K ca G ρ M H) {d : D} {v : V} (h : Kont K ca G ρ M H M d Q) (r : Rp K (Fb G ρ M) ρ H d v) : Q v H := h ρ v H .refl k r
end

/-- + of two, at once -/
def rAddA (K : PySem.W.Frag) : R2 := fun x y H Q => rI0 (fun i j => .int (i + j)) x y H Q ∨ (rCat x y H Q ∨ rCatA K x y H Q)
theorem opAdd {X : Cx} : OpR X (binaryOp .Add) (rAddA X.K) := op_add.or (op_cat.or op_catA)
def rMulA : R2 := fun x y H Q => rI CMul (fun i j => .int (i * j)) x y H Q ∨ rRep x y H Q
theorem opMul {X : Cx} : OpR X (binaryOp .Mult) rMulA := op_mul.or op_rep
def opOf : BO → Operator
  | .add => .Add
  | .sub => .Sub
  | .mul => .Mult
  | .fdiv => .FloorDiv
  | .mod => .Mod
  | .xor => .BitXor
  | .pow => .Pow
def rB (K : PySem.W.Frag) : BO → R2
  | .add => rAddA K
  | .sub => rI0 fun i j => .int (i - j)
  | .mul => rMulA
  | .fdiv => rI CDiv fun i j => .int (i / j)
  | .mod => rI (fun _ j => 0 < j) fun i j => .int (i % j)
  | .xor => rI0 fun i j => .int (Builtin.bitXor i j)
  | .pow => rI CPow fun i j => .int (i ^ j.toNat)
theorem opB {X : Cx} : ∀ o : BO, OpR X (binaryOp (opOf o)) (rB X.K o)
  | .add => opAdd
  | .sub => op_sub
  | .mul => opMul
  | .fdiv => op_fdiv
  | .mod => op_mod
  | .xor => op_xor
  | .pow => op_pow
theorem RpL.replicate {K : PySem.W.Frag} {F : Addr → Prop} {ρ : List Addr} {H : Hp} {ds : List D} {vs : List V} (r : RpL K F ρ H ds vs) : ∀ n : Nat, RpL K F ρ H (List.replicate n ds).flatten (List.replicate n vs).flatten
  | 0 => rfl
  | n + 1 => by
    rw [List.replicate_succ, List.replicate_succ, List.flatten_cons, List.flatten_cons]
    exact RpL.append r (RpL.replicate r n)
theorem len_rep {α : Type} (l : List α) : ∀ n : Nat, (List.replicate n l).flatten.length = l.length * n
  | 0 => by simp
  | n + 1 => by
    rw [List.replicate_succ, List.flatten_cons, List.length_append, len_rep l n, Nat.mul_succ, Nat.add_comm]
section
variable {K : PySem.W.Frag} {ca : Nat → Option Addr} {G : Addr → Prop} {ρ : List Addr} {M M' : Sto} {H : Hp} {mu : Bool} {d d' : D} {Q : VK} {dx dy : D} {x y : V}
theorem nat64 {i : Int} (h : i.natAbs < 2 ^ 64) : -(2 ^ 64) < i ∧ i < 2 ^ 64 := by omega
theorem bop_ok (k : Ok K ca G ρ M H) : ∀ (o : BO), bop o dx dy = some d → Rs K (Fb G ρ M) ρ H dx x → Rs K (Fb G ρ M) ρ H dy y → mk mu d M = some (d', M') → Kont K ca G ρ M H M' d' Q → rB K o x y H Q := by
  intro o e rx ry em h
  have int : ∀ {n : Int}, d = .int n → Q (.int n) H := fun {n} z => by
    subst z
    obtain ⟨rfl, rfl⟩ := mk_flat (by intro _ z; cases z) (by intro _ z; cases z) em
    exact kont_here k h rfl
  cases o with
  | add =>
    cases dx with
    | int i =>
      cases dy with
      | int j =>
        cases e
        exact .inl ⟨i, j, rx, ry, int rfl⟩
      | _ => cases e
    | list xs =>
      cases dy with
      | list ys =>
        simp only [bop] at e
        split at e
        · rename_i hz
          cases e
          obtain ⟨a, vs, e1, h1, z1, r1⟩ := rx
          obtain ⟨b, us, e2, h2, z2, r2⟩ := ry
          rw [lineEq] at hz
          refine .inr (.inl ⟨a, b, vs, us, e1, e2, h1, h2, by rw [r1.length, r2.length]; exact hz, fun p hp => ?_⟩)
          exact mk_list k em h (by rw [List.length_append]; exact hz) (RpL.append r1 r2) hp
        · cases e
      | _ => cases e
    | tup xs =>
      cases dy with
      | tup ys =>
        simp only [bop] at e
        split at e
        · rename_i hz
          cases e
          obtain ⟨rfl, rfl⟩ := mk_flat (by intro _ z; cases z) (by intro _ z; cases z) em
          obtain ⟨a, vs, e1, h1, z1, r1⟩ := rx
          obtain ⟨b, us, e2, h2, z2, r2⟩ := ry
          rw [lineEq] at hz
          refine .inr (.inr ⟨a, b, vs, us, e1, e2, h1, h2, by rw [r1.length, r2.length]; exact hz, fun z => ?_, fun z1' z2' => ?_, fun z1' z2' p hp => ?_⟩)
          · have zx : xs = [] := List.length_eq_zero_iff.mp (by rw [← r1.length, z]; rfl)
            subst zx
            exact kont_here k h ⟨b, us, rfl, h2, z2, r2⟩
          · have zy : ys = [] := List.length_eq_zero_iff.mp (by rw [← r2.length, z2']; rfl)
            subst zy
            exact kont_here k h ⟨a, vs, rfl, h1, by rw [List.append_nil]; exact z1, by rw [List.append_nil]; exact r1⟩
          · exact mk_tup k h (by rw [List.length_append]; exact hz) (RpL.append r1 r2) hp
        · cases e
      | _ => cases e
    | _ => cases e
  | sub =>
    cases dx with
    | int i =>
      cases dy with
      | int j =>
        cases e
        exact ⟨i, j, rx, ry, int rfl⟩
      | _ => cases e
    | _ => cases e
  | mul =>
    cases dx with
    | int i =>
      cases dy with
      | int j =>
        simp only [bop] at e
        split at e
        · rename_i hc
          cases e
          exact .inl ⟨i, j, rx, ry, hc.elim (fun z => .inl (nat64 z)) (fun z => .inr (nat64 z)), int rfl⟩
        · cases e
      | _ => cases e
    | list xs =>
      cases dy with
      | int n =>
        simp only [bop] at e
        split at e
        · rename_i hz
          cases e
          obtain ⟨a, vs, e1, h1, z1, r1⟩ := rx
          have hL : (LINE : Int) = 16777216 := rfl
          obtain ⟨c1, c2, c3⟩ := hz
          rw [lineEq] at c3
          refine .inr ⟨a, n, vs, e1, ry, h1, by omega, by omega, by rw [r1.length]; exact c3, fun p hp => ?_⟩
          exact mk_list k em h (by rw [len_rep]; exact c3) (RpL.replicate r1 _) hp
        · cases e
      | _ => cases e
    | _ => cases e
  | fdiv =>
    cases dx with
    | int i =>
      cases dy with
      | int j =>
        simp only [bop] at e
        split at e
        · rename_i hc
          cases e
          exact ⟨i, j, rx, ry, ⟨hc.1, by omega⟩, int rfl⟩
        · cases e
      | _ => cases e
    | _ => cases e
  | mod =>
    cases dx with
    | int i =>
      cases dy with
      | int j =>
        simp only [bop] at e
        split at e
        · rename_i hc
          cases e
          exact ⟨i, j, rx, ry, hc, int rfl⟩
        · cases e
      | _ => cases e
    | _ => cases e
  | xor =>
    cases dx with
    | int i =>
      cases dy with
      | int j =>
        cases e
        exact ⟨i, j, rx, ry, int rfl⟩
      | _ => cases e
    | _ => cases e
  | pow =>
    cases dx with
    | int i =>
      cases dy with
      | int j =>
        simp only [bop] at e
        split at e
        · rename_i hc
          cases e
          exact ⟨i, j, rx, ry, ⟨hc.1, by omega, hc.2.2⟩, int rfl⟩
        · cases e
      | _ => cases e
    | _ => cases e
end
end MP

/-! MP7: comparisons by values. -/
namespace MP
open PySem PySem.Spec PySem.SeqAt PySem.W PyProof.Rows L2

theorem alike_sym : ∀ (x y : PyData), alike x y = true → alike y x = true := by
  have big : ∀ n : Nat, (∀ x y : PyData, sizeOf x ≤ n → alike x y = true → alike y x = true) ∧ (∀ xs ys : List PyData, sizeOf xs ≤ n → alikeAll xs ys = true → alikeAll ys xs = true) := by
    intro n
    induction n with
    | zero =>
      refine ⟨fun x y h => ?_, fun xs ys h => ?_⟩
      · cases x <;> simp at h
      · cases xs <;> simp at h
    | succ n ih =>
      refine ⟨fun x y h => ?_, fun xs ys h => ?_⟩
      · cases x with
        | list xs =>
          cases y with
          | list ys =>
            intro q
            rw [alike] at q ⊢
            exact ih.2 xs ys (by simp at h; omega) q
          | _ => intro q; simp [alike] at q
        | tuple xs =>
          cases y with
          | tuple ys =>
            intro q
            rw [alike] at q ⊢
            exact ih.2 xs ys (by simp at h; omega) q
          | _ => intro q; simp [alike] at q
        | _ => cases y <;> intro q <;> first | (simp [alike] at q; done) | simp [alike]
      · cases xs with
        | nil => cases ys <;> intro _ <;> simp [alikeAll]
        | cons x xs =>
          cases ys with
          | nil => intro _; simp [alikeAll]
          | cons y ys =>
            intro q
            rw [alikeAll, Bool.and_eq_true] at q ⊢
            simp at h
            exact ⟨ih.1 x y (by omega) q.1, ih.2 xs ys (by omega) q.2⟩
  exact fun x y => (big (sizeOf x)).1 x y (Nat.le_refl _)
def atomP : PyData → Bool
  | .int _ => true
  | .str _ => true
  | _ => false
/-- what the operator gives of two -/
def resOp : CmpOp → PyData → PyData → Bool
  | .Gt, x, y => dataLt y x
  | .LtE, x, y => !dataLt y x
  | .GtE, x, y => !dataLt x y
  | _, x, y => dataLt x y
def resN : CmpOp → Nat → Nat → Bool
  | .Gt, n, m => decide (n > m)
  | .LtE, n, m => decide (n ≤ m)
  | .GtE, n, m => decide (n ≥ m)
  | _, n, m => decide (n < m)
def isGLG : CmpOp → Bool
  | .Gt => true
  | .LtE => true
  | .GtE => true
  | _ => false
theorem decide_le {n m : Int} : decide (n ≤ m) = !decide (m < n) := by
  by_cases h : m < n
  · rw [decide_eq_true h, decide_eq_false (by omega)]; rfl
  · rw [decide_eq_false h, decide_eq_true (by omega)]; rfl
theorem rcOp_atom {op : CmpOp} (ho : isGLG op = true) {A : Around} {s : Shared} {a b : Value} {x y : PyData} {as bs : List Addr} (ra : Reads s.heap a x as) (rb : Reads s.heap b y bs) (h : alike x y = true) (ha : atomP x = true) :
    Ob.RcOp op A s a b (resOp op x y) := by
  cases x with
  | int i =>
    cases y with
    | int j =>
      cases ra; cases rb
      cases op with
      | Gt =>
        show Ob.RcOp _ _ _ _ _ (dataLt _ _)
        rw [dataLt_int]; exact Ob.RcOp.gt_int _ _ _ _
      | LtE =>
        show Ob.RcOp _ _ _ _ _ (!dataLt _ _)
        rw [dataLt_int, ← decide_le]; exact Ob.RcOp.le_int _ _ _ _
      | GtE =>
        show Ob.RcOp _ _ _ _ _ (!dataLt _ _)
        rw [dataLt_int, ← decide_le]; exact Ob.RcOp.ge_int _ _ _ _
      | _ => cases ho
    | _ => simp [alike] at h
  | str i =>
    cases y with
    | str j =>
      cases ra; cases rb
      cases op with
      | Gt =>
        show Ob.RcOp _ _ _ _ _ (dataLt _ _)
        rw [dataLt_str]; exact fun _ _ _ _ q => PySem.P.gt_str q
      | LtE =>
        show Ob.RcOp _ _ _ _ _ (!dataLt _ _)
        rw [dataLt_str]; exact fun _ _ _ _ q => PySem.P.le_str q
      | GtE =>
        show Ob.RcOp _ _ _ _ _ (!dataLt _ _)
        rw [dataLt_str]; exact fun _ _ _ _ q => PySem.P.ge_str q
      | _ => cases ho
    | _ => simp [alike] at h
  | _ => cases ha
theorem lexAt_shift (e r : Nat → Bool) (z : Bool) : ∀ k i, Ob.lexAt (fun j => e (j + 1)) (fun j => r (j + 1)) z i k = Ob.lexAt e r z (i + 1) k
  | 0, _ => rfl
  | k + 1, i => by
    rw [Ob.lexAt_succ, Ob.lexAt_succ, lexAt_shift e r z k (i + 1)]
theorem rowLt_nil_nil : rowLt [] [] = false := by
  show lexLt itemOrd _ _ = false
  exact lex_irrefl _
theorem rowLt_nil_cons (y : PyData) (ys : List PyData) : rowLt [] (y :: ys) = true := by
  show lexLt itemOrd _ _ = true
  rw [toks_all_cons, keyToksAll, lex_diff (O := itemOrd) (by simp)]
  rfl
theorem rowLt_cons_nil (y : PyData) (ys : List PyData) : rowLt (y :: ys) [] = false := by
  show lexLt itemOrd _ _ = false
  rw [toks_all_cons, keyToksAll, lex_diff (O := itemOrd) (by simp)]
  rfl
theorem rowLt_cons {x y : PyData} (h : alike x y = true) (xs ys : List PyData) : rowLt (x :: xs) (y :: ys) = if PyData.eqv x y = true then rowLt xs ys else dataLt x y := dataLt_cons h xs ys
def resRow : CmpOp → List PyData → List PyData → Bool
  | .Gt, x, y => rowLt y x
  | .LtE, x, y => !rowLt y x
  | .GtE, x, y => !rowLt x y
  | _, x, y => rowLt x y
theorem beqc {α : Type} [BEq α] [LawfulBEq α] (a b : α) : (a == b) = (b == a) := by
  rw [Bool.eq_iff_iff, beq_iff_eq, beq_iff_eq]; exact eq_comm
theorem eqv_sym : ∀ (x y : PyData), atomP x = true → PyData.eqv x y = PyData.eqv y x
  | .int i, .int j, _ => by rw [PyData.eqv, PyData.eqv]; exact beqc i j
  | .int i, .bool j, _ => by rw [PyData.eqv, PyData.eqv]; exact beqc _ _
  | .int i, .none, _ => by rw [PyData.eqv, PyData.eqv]
  | .int i, .str _, _ => by rw [PyData.eqv, PyData.eqv]
  | .int i, .list _, _ => by rw [PyData.eqv, PyData.eqv]
  | .int i, .tuple _, _ => by rw [PyData.eqv, PyData.eqv]
  | .int i, .dict _, _ => by rw [PyData.eqv, PyData.eqv]
  | .str i, .str j, _ => by rw [PyData.eqv, PyData.eqv]; exact beqc i j
  | .str i, .bool j, _ => by rw [PyData.eqv, PyData.eqv]
  | .str i, .none, _ => by rw [PyData.eqv, PyData.eqv]
  | .str i, .int _, _ => by rw [PyData.eqv, PyData.eqv]
  | .str i, .list _, _ => by rw [PyData.eqv, PyData.eqv]
  | .str i, .tuple _, _ => by rw [PyData.eqv, PyData.eqv]
  | .str i, .dict _, _ => by rw [PyData.eqv, PyData.eqv]
theorem lexAt_row {op : CmpOp} (ho : isGLG op = true) : ∀ (xs ys : List PyData), alikeAll xs ys = true → xs.all atomP = true →
    Ob.lexAt (pairEq xs ys) (fun j => resOp op (xs.getD j .none) (ys.getD j .none)) (resN op xs.length ys.length) 0 (min xs.length ys.length) = resRow op xs ys
  | [], [], _, _ => by
    show resN op 0 0 = _
    cases op <;> first | exact absurd ho (by decide) | simp [resN, resRow, rowLt_nil_nil]
  | [], y :: ys, _, _ => by
    rw [show min ([] : List PyData).length (y :: ys).length = 0 by simp]
    show resN op 0 (ys.length + 1) = _
    cases op <;> first | exact absurd ho (by decide) | simp [resN, resRow, rowLt_nil_cons, rowLt_cons_nil]
  | x :: xs, [], _, _ => by
    rw [show min (x :: xs).length ([] : List PyData).length = 0 by simp]
    show resN op (xs.length + 1) 0 = _
    cases op <;> first | exact absurd ho (by decide) | simp [resN, resRow, rowLt_nil_cons, rowLt_cons_nil]
  | x :: xs, y :: ys, h, ha => by
    obtain ⟨h1, h2⟩ := alike_all_cons h
    rw [List.all_cons, Bool.and_eq_true] at ha
    have ih := lexAt_row ho xs ys h2 ha.2
    rw [show min (x :: xs).length (y :: ys).length = min xs.length ys.length + 1 by simp only [List.length_cons]; omega, Ob.lexAt_succ]
    have en : resN op (x :: xs).length (y :: ys).length = resN op xs.length ys.length := by
      cases op <;> first | exact absurd ho (by decide) | (simp only [resN, List.length_cons]; exact decide_eq_decide.mpr (by omega))
    rw [en, ← lexAt_shift]
    have e0 : pairEq (x :: xs) (y :: ys) 0 = PyData.eqv x y := rfl
    have es := eqv_sym x y ha.1
    have h1' := alike_sym x y h1
    rw [e0]
    cases hx : PyData.eqv x y with
    | true =>
      rw [if_pos rfl]
      refine Eq.trans (b := Ob.lexAt (pairEq xs ys) (fun j => resOp op (xs.getD j .none) (ys.getD j .none)) (resN op xs.length ys.length) 0 (min xs.length ys.length)) rfl ?_
      rw [ih]
      rw [hx] at es
      cases op <;> first | exact absurd ho (by decide) | simp only [resRow, rowLt_cons h1, rowLt_cons h1', hx, ← es, if_true]
    | false =>
      rw [if_neg Bool.false_ne_true]
      rw [hx] at es
      have n2 : ¬ PyData.eqv y x = true := by rw [← es]; exact Bool.false_ne_true
      have n1 : ¬ PyData.eqv x y = true := by rw [hx]; exact Bool.false_ne_true
      show resOp op x y = _
      cases op <;> first | exact absurd ho (by decide) | simp only [resRow, resOp, rowLt_cons h1, rowLt_cons h1', if_neg n1, if_neg n2]
def flatP : PyData → Bool
  | .int _ => true
  | .str _ => true
  | .tuple xs => xs.all atomP
  | _ => false
theorem rcOp_tups {op : CmpOp} (ho : isGLG op = true) {A : Around} {s : Shared} {l b : Addr} {items items2 : Array Value} {e r : Nat → Bool} (hl : s.heap.IsTuple l items) (hb : s.heap.IsTuple b items2) (hu : A.units < cLine)
    (he : ∀ j (h1 : j < items.size) (h2 : j < items2.size), EqAt A.in1 s items[j] items2[j] (e j))
    (hr : ∀ j (h1 : j < items.size) (h2 : j < items2.size), e j = false → Ob.RcOp op A.in1 s items[j] items2[j] (r j)) :
    Ob.RcOp op A s (.ref l) (.ref b) (Ob.lexAt e r (resN op items.size items2.size) 0 (min items.size items2.size)) := by
  cases op with
  | Gt => exact Ob.RcOp.tuples_gt hl hb hu he hr
  | LtE => exact Ob.RcOp.tuples_le hl hb hu he hr
  | GtE => exact Ob.RcOp.tuples_ge hl hb hu he hr
  | _ => cases ho
theorem readsAll_at {h : Heap} : ∀ {vs : List Value} {xs : List PyData} {as : List Addr}, ReadsAll h vs xs as → ∀ j (h1 : j < vs.length), ∃ bs, Reads h vs[j] (xs.getD j .none) bs
  | _, _, _, .nil, j, h1 => absurd h1 (Nat.not_lt_zero _)
  | _, _, _, .cons r rs, 0, _ => ⟨_, r⟩
  | _, _, _, .cons r rs, j + 1, h1 => readsAll_at rs j (Nat.lt_of_succ_lt_succ h1)
theorem alikeAll_at : ∀ {xs ys : List PyData}, alikeAll xs ys = true → ∀ j, j < xs.length → j < ys.length → alike (xs.getD j .none) (ys.getD j .none) = true
  | [], _, _, j, h1, _ => absurd h1 (Nat.not_lt_zero _)
  | _ :: _, [], _, j, _, h2 => absurd h2 (Nat.not_lt_zero _)
  | x :: xs, y :: ys, h, 0, _, _ => (alike_all_cons h).1
  | x :: xs, y :: ys, h, j + 1, h1, h2 => alikeAll_at (alike_all_cons h).2 j (Nat.lt_of_succ_lt_succ h1) (Nat.lt_of_succ_lt_succ h2)
theorem all_at {xs : List PyData} (h : xs.all atomP = true) {j : Nat} (hj : j < xs.length) : atomP (xs.getD j .none) = true := by
  rw [List.getD_eq_getElem?_getD, List.getElem?_eq_getElem hj]
  exact List.all_eq_true.mp h _ (List.getElem_mem hj)
theorem rcOp_flat {op : CmpOp} (ho : isGLG op = true) {A : Around} {s : Shared} {a b : Value} {x y : PyData} {as bs : List Addr} (ra : Reads s.heap a x as) (rb : Reads s.heap b y bs) (h : alike x y = true) (hf : flatP x = true) (hg : flatP y = true)
    (hu : A.units + 64 < cLine) (hd : x.depth ≤ 62) : Ob.RcOp op A s a b (resOp op x y) := by
  cases x with
  | int i => exact rcOp_atom ho ra rb h rfl
  | str i => exact rcOp_atom ho ra rb h rfl
  | tuple xs =>
    cases y with
    | tuple ys =>
      have hal : alikeAll xs ys = true := by simpa [alike] using h
      cases ra with
      | @tuple l o vs n _ as₁ g1 g2 g3 g4 =>
        cases rb with
        | @tuple l' o' vs' n' _ bs₁ k1 k2 k3 k4 =>
          have n1 : vs.size = xs.length := by simpa using ReadsAll.length _ _ _ g4
          have n2 : vs'.size = ys.length := by simpa using ReadsAll.length _ _ _ k4
          have dq : PyData.depthAll xs + 1 ≤ 62 := by simpa [PyData.depth] using hd
          have ui : A.in1.units = A.units + 1 := rfl
          have T := rcOp_tups ho (A := A) (s := s) (e := pairEq xs ys) (r := fun j => resOp op (xs.getD j .none) (ys.getD j .none)) ⟨_, g1, g2, _, g3⟩ ⟨_, k1, k2, _, k3⟩ (by omega) (fun j j1 j2 => by
            have := eqAt_alikeAll xs ys A.in1 s vs.toList vs'.toList _ _ g4 k4 hal (by rw [ui]; omega) j (by simpa using j1) (by simpa using j2)
            simpa using this) (fun j j1 j2 _ => by
            obtain ⟨_, q1⟩ := readsAll_at g4 j (by simpa using j1)
            obtain ⟨_, q2⟩ := readsAll_at k4 j (by simpa using j2)
            have := rcOp_atom ho (A := A.in1) q1 q2 (alikeAll_at hal j (by omega) (by omega)) (all_at hf (by omega))
            simpa using this)
          rw [n1, n2, lexAt_row ho xs ys hal hf] at T
          have e : resRow op xs ys = resOp op (.tuple xs) (.tuple ys) := by
            cases op <;> first | exact absurd ho (by decide) | (simp only [resRow, resOp, dataLt_tuple]; rfl)
          rw [e] at T
          exact T
    | _ => simp [alike] at h
  | _ => cases hf
section
variable {X : Cx}
def rLtA (K : PySem.W.Frag) : R2 := fun x y H Q => ∃ d e, Dp K H x d ∧ Dp K H y e ∧ alike d e = true ∧ d ≠ .none ∧ d.depth ≤ 60 ∧ Q (.bl (dataLt d e)) H
theorem op_ltA (hu : X.A.units + 64 < cLine) : OpR X (compareOp .Lt) (rLtA X.K) := by
  intro pins s σ H x y v u Q I rx ry h
  obtain ⟨d, e, hd, he, ha, hn, hz, q⟩ := h
  obtain ⟨as, r1⟩ := Dp.reads I d x v hd rx
  obtain ⟨bs, r2⟩ := Dp.reads I e y u he ry
  have z : wpAny (model X.prog X.w) X.A (compareOp .Lt v u) (EP X pins σ Q) X.xe s := rcLt_alike d e X.A s v u as bs r1 r2 ha hn (by have := Nat.min_le_left d.depth e.depth; omega) X.prog X.w X.xe (EP X pins σ Q) ⟨.bl _, H, I, rfl, q⟩
  exact z
def rGLG (K : PySem.W.Frag) (op : CmpOp) : R2 := fun x y H Q => ∃ d e, Dp K H x d ∧ Dp K H y e ∧ alike d e = true ∧ flatP d = true ∧ flatP e = true ∧ d.depth ≤ 60 ∧ Q (.bl (resOp op d e)) H
theorem op_glg (hu : X.A.units + 64 < cLine) : ∀ (op : CmpOp), isGLG op = true → OpR X (compareOp op) (rGLG X.K op) := by
  intro op ho pins s σ H x y v u Q I rx ry h
  obtain ⟨d, e, hd, he, ha, hf, hg, hz, q⟩ := h
  obtain ⟨as, r1⟩ := Dp.reads I d x v hd rx
  obtain ⟨bs, r2⟩ := Dp.reads I e y u he ry
  have z := rcOp_flat ho (A := X.A) r1 r2 ha hf hg hu (by omega) X.prog X.w X.xe (EP X pins σ Q) ⟨.bl _, H, I, rfl, q⟩
  cases op with
  | Gt => exact z
  | LtE => exact z
  | GtE => exact z
  | _ => cases ho
def rInT (K : PySem.W.Frag) (ng : Bool) : R2 := fun x y H Q => ∃ d ds, Dp K H x d ∧ Dp K H y (.tuple ds) ∧ SeqAt.shaped d = true ∧ SeqAt.shaped (.tuple ds) = true ∧ Q (.bl (if ng then !(ds.any fun z => PyData.eqv z d) else ds.any fun z => PyData.eqv z d)) H
theorem op_inT (hu : X.A.units + 65 < cLine) : OpR X (compareOp .In) (rInT X.K false) := by
  intro pins s σ H x y v u Q I rx ry h
  obtain ⟨d, ds, hd, he, sd, se, q⟩ := h
  obtain ⟨as, r1⟩ := Dp.reads I d x v hd rx
  obtain ⟨bs, r2⟩ := Dp.reads I (.tuple ds) y u he ry
  have c := SeqAt.canLay_of_shaped se
  rw [PyData.canLay0] at c
  exact SeqAt.in_tuple_reads r2 r1 c (SeqAt.canLay_of_shaped sd) (room_in_shaped sd hu) ⟨.bl _, H, I, rfl, q⟩
theorem op_ninT (hu : X.A.units + 65 < cLine) : OpR X (compareOp .NotIn) (rInT X.K true) := by
  intro pins s σ H x y v u Q I rx ry h
  obtain ⟨d, ds, hd, he, sd, se, q⟩ := h
  obtain ⟨as, r1⟩ := Dp.reads I d x v hd rx
  obtain ⟨bs, r2⟩ := Dp.reads I (.tuple ds) y u he ry
  have c := SeqAt.canLay_of_shaped se
  rw [PyData.canLay0] at c
  exact SeqAt.notIn_tuple_reads r2 r1 c (SeqAt.canLay_of_shaped sd) (room_in_shaped sd hu) ⟨.bl _, H, I, rfl, q⟩
end
def copOf : CO → CmpOp
  | .eq => .Eq
  | .ne => .NotEq
  | .lt => .Lt
  | .le => .LtE
  | .gt => .Gt
  | .ge => .GtE
  | .inn => .In
  | .nin => .NotIn
def rC (K : PySem.W.Frag) : CO → R2
  | .eq => rEqD K
  | .ne => rNeD K
  | .lt => rLtA K
  | .le => rGLG K .LtE
  | .gt => rGLG K .Gt
  | .ge => rGLG K .GtE
  | .inn => fun x y H Q => rInD K x y H Q ∨ rInT K false x y H Q
  | .nin => fun x y H Q => rNotInD K x y H Q ∨ rInT K true x y H Q
theorem opC {X : Cx} (hu : X.A.units + 65 < cLine) : ∀ o : CO, OpR X (compareOp (copOf o)) (rC X.K o)
  | .eq => op_eqD (by omega)
  | .ne => op_neD (by omega)
  | .lt => op_ltA (by omega)
  | .le => op_glg (by omega) .LtE rfl
  | .gt => op_glg (by omega) .Gt rfl
  | .ge => op_glg (by omega) .GtE rfl
  | .inn => (op_inD hu).or (op_inT hu)
  | .nin => (op_notInD hu).or (op_ninT hu)
section
variable {K : PySem.W.Frag} {F : Addr → Prop} {ρ : List Addr} {H : Hp} {dx dy : D} {x y : V} {b : Bool} {Q : VK}
theorem atom_pd : ∀ {d : D}, atom d = true → atomP (pd d) = true
  | .int _, _ => rfl
  | .str _, _ => rfl
  | .non, h => by cases h
  | .bl _, h => by cases h
  | .list _, h => by cases h
  | .tup _, h => by cases h
  | .dict _, h => by cases h
  | .loc _, h => by cases h
  | .fz _, h => by cases h
theorem flat_pd : ∀ {d : D}, flat1 d = true → flatP (pd d) = true
  | .int _, _ => rfl
  | .str _, _ => rfl
  | .tup xs, h => by
    rw [pd, pdL_map]
    show (xs.map pd).all atomP = true
    rw [List.all_map]
    exact List.all_eq_true.mpr fun d hd => atom_pd (List.all_eq_true.mp h d hd)
  | .non, h => by cases h
  | .bl _, h => by cases h
  | .list _, h => by cases h
  | .dict _, h => by cases h
  | .loc _, h => by cases h
  | .fz _, h => by cases h
theorem any_pdL {d : D} : ∀ ys : List D, ((pdL ys).any fun z => PyData.eqv z (pd d)) = ys.any fun z => PyData.eqv (pd z) (pd d)
  | [] => rfl
  | y :: ys => by rw [pdL, List.any_cons, List.any_cons, any_pdL ys]
theorem mem_shaped {ys : List D} (h : dpL ys ≤ 60) : SeqAt.shaped (.list (pdL ys)) = true ∧ SeqAt.shaped (.tuple (pdL ys)) = true := by
  have q := dpL_lay ys (by omega)
  unfold SeqAt.shaped
  simp only [PyData.canLay0, PyData.depth, q.1, q.2, Bool.true_and]
  exact ⟨decide_eq_true (by omega), decide_eq_true (by omega)⟩
theorem Rs.dpList {ys : List D} (h : dpL ys ≤ 60) (r : Rs K F ρ H (.list ys) y) : Dp K H y (.list (pdL ys)) := by
  have := Rs.dp (d := .list ys) (by simp only [MP.dp]; omega) r
  rwa [pd] at this
theorem Rs.dpTup {ys : List D} (h : dpL ys ≤ 60) (r : Rs K F ρ H (.tup ys) y) : Dp K H y (.tuple (pdL ys)) := by
  have := Rs.dp (d := .tup ys) (by simp only [MP.dp]; omega) r
  rwa [pd] at this
theorem cop_ok : ∀ (o : CO), cop o dx dy = some b → Rs K F ρ H dx x → Rs K F ρ H dy y → Q (.bl b) H → rC K o x y H Q := by
  intro o e rx ry q
  have ord : ∀ {u w : D}, cmpOk u w = true → (alike (pd u) (pd w) = true ∧ isOrd u = true) ∧ MP.dp u ≤ 60 ∧ MP.dp w ≤ 60 := fun {u w} h => by
    unfold cmpOk at h
    rw [Bool.and_eq_true, Bool.and_eq_true, decide_eq_true_eq] at h
    exact ⟨h.1, h.2⟩
  have nn : ∀ {u : D}, isOrd u = true → pd u ≠ .none := fun {u} h => by cases u <;> first | exact absurd h (by decide) | (rw [pd]; intro z; cases z)
  cases o with
  | eq =>
    simp only [cop, eqD] at e
    split at e
    · rename_i h
      cases e
      exact ⟨_, _, Rs.dp (by omega) rx, Rs.dp (by omega) ry, dp_shaped h.1, dp_shaped h.2, q⟩
    · cases e
  | ne =>
    simp only [cop, eqD] at e
    split at e
    · rename_i h
      cases e
      exact ⟨_, _, Rs.dp (by omega) rx, Rs.dp (by omega) ry, dp_shaped h.1, dp_shaped h.2, q⟩
    · cases e
  | lt =>
    simp only [cop] at e
    split at e
    · rename_i h
      cases e
      have h := ord h
      exact ⟨_, _, Rs.dp (by omega) rx, Rs.dp (by omega) ry, h.1.1, nn h.1.2, by rw [(dp_lay dx (by omega)).2]; exact h.2.1, q⟩
    · cases e
  | gt =>
    simp only [cop] at e
    split at e
    · rename_i h
      cases e
      unfold flatOk at h
      rw [Bool.and_eq_true, Bool.and_eq_true] at h
      have g := ord h.1.1
      exact ⟨_, _, Rs.dp (by omega) rx, Rs.dp (by omega) ry, g.1.1, flat_pd h.1.2, flat_pd h.2, by rw [(dp_lay dx (by omega)).2]; exact g.2.1, q⟩
    · cases e
  | le =>
    simp only [cop] at e
    split at e
    · rename_i h
      cases e
      unfold flatOk at h
      rw [Bool.and_eq_true, Bool.and_eq_true] at h
      have g := ord h.1.1
      exact ⟨_, _, Rs.dp (by omega) rx, Rs.dp (by omega) ry, g.1.1, flat_pd h.1.2, flat_pd h.2, by rw [(dp_lay dx (by omega)).2]; exact g.2.1, q⟩
    · cases e
  | ge =>
    simp only [cop] at e
    split at e
    · rename_i h
      cases e
      unfold flatOk at h
      rw [Bool.and_eq_true, Bool.and_eq_true] at h
      have g := ord h.1.1
      exact ⟨_, _, Rs.dp (by omega) rx, Rs.dp (by omega) ry, g.1.1, flat_pd h.1.2, flat_pd h.2, by rw [(dp_lay dx (by omega)).2]; exact g.2.1, q⟩
    · cases e
  | inn =>
    cases dy with
    | list ys =>
      simp only [cop, memD] at e
      split at e
      · rename_i h
        cases e
        rw [← any_pdL] at q
        exact .inl ⟨_, _, Rs.dp (by omega) rx, Rs.dpList h.2 ry, dp_shaped h.1, (mem_shaped h.2).1, q⟩
      · cases e
    | tup ys =>
      simp only [cop, memD] at e
      split at e
      · rename_i h
        cases e
        rw [← any_pdL] at q
        exact .inr ⟨_, _, Rs.dp (by omega) rx, Rs.dpTup h.2 ry, dp_shaped h.1, (mem_shaped h.2).2, q⟩
      · cases e
    | _ => cases dx <;> cases e
  | nin =>
    cases dy with
    | list ys =>
      simp only [cop, memD] at e
      split at e
      · rename_i h
        cases e
        rw [← any_pdL] at q
        exact .inl ⟨_, _, Rs.dp (by omega) rx, Rs.dpList h.2 ry, dp_shaped h.1, (mem_shaped h.2).1, q⟩
      · cases e
    | tup ys =>
      simp only [cop, memD] at e
      split at e
      · rename_i h
        cases e
        rw [← any_pdL] at q
        exact .inr ⟨_, _, Rs.dp (by omega) rx, Rs.dpTup h.2 ry, dp_shaped h.1, (mem_shaped h.2).2, q⟩
      · cases e
    | _ => cases dx <;> cases e
end
end MP

/-! MP8: expressions. -/
namespace MP
open PySem PySem.Spec PyProof.Rows L2
section
variable {X : Cx} {ca : Nat → Option Addr} {F : FT} {cls : Nat → Nat} {e a b c : Expr} {es : List Expr} {pos : Pos} {A B C : E} {AS : EL} {mu : Bool}
abbrev PEv (X : Cx) (ca : Nat → Option Addr) (F : FT) (cls : Nat → Nat) (e : Expr) (A : E) : Prop := PE X e (tE X.K ca (ev F cls A))
abbrev PTv (X : Cx) (ca : Nat → Option Addr) (F : FT) (cls : Nat → Nat) (e : Expr) (A : E) : Prop := PT X e (tT X.K ca fun env M => tst (ev F cls A env M))
abbrev PWv (X : Cx) (ca : Nat → Option Addr) (F : FT) (cls : Nat → Nat) (e : Expr) (A : E) : Prop := PW X e (tT X.K ca fun env M => tst (ev F cls A env M))
abbrev PAv (X : Cx) (ca : Nat → Option Addr) (F : FT) (cls : Nat → Nat) (es : List Expr) (AS : EL) : Prop := PA X es (tL X.K ca (evL F cls AS))

theorem v_var {i : Nat} {x : Str} (hN : X.N[i]? = some x) (hv : Vis X.env.scope x) (hd : (x == ("__debug__" : Str)) = false) (hcd : (x == ("__classdict__" : Str)) = false) : PEv X ca F cls (.Name x pos) (.var i) := by
  refine PE.imp (pe_var hN hv hd hcd) fun σ H Q ⟨G, ρ, env, M, d, M', a0, h, q⟩ => ?_
  rw [ev] at h
  split at h
  · rename_i d0 e1
    cases h
    obtain ⟨v, e2, r⟩ := a0.en.at_ i d e1
    exact ⟨v, e2, q ρ v H .refl a0.ok r⟩
  · cases h
theorem v_lit {d : D} {v : V} (h : PE X e (tC v)) (hA : ∀ env M, ev F cls A env M = some (d, M)) (hr : ∀ G ρ H, Rp X.K G ρ H d v) : PEv X ca F cls e A := by
  refine PE.imp h fun σ H Q ⟨G, ρ, env, M, d', M', a0, e1, q⟩ => ?_
  rw [hA] at e1
  cases e1
  exact q ρ v H .refl a0.ok (hr _ _ _)
theorem v_non {j : Nat} : PEv X ca F cls (.Constant .none j pos) .non := v_lit (d := .non) pe_non (fun _ _ => by rw [ev]) fun _ _ _ => rfl
theorem v_bl {k : Bool} {j : Nat} : PEv X ca F cls (.Constant (.bool k) j pos) (.bl k) := v_lit (d := .bl k) pe_bl (fun _ _ => by rw [ev]) fun _ _ _ => rfl
theorem v_int {k : Int} {j : Nat} : PEv X ca F cls (.Constant (.int k) j pos) (.int k) := v_lit (d := .int k) pe_int (fun _ _ => by rw [ev]) fun _ _ _ => rfl
theorem v_str {k : Str} {j : Nat} : PEv X ca F cls (.Constant (.str k) j pos) (.str k) := v_lit (d := .str k) pe_str (fun _ _ => by rw [ev]) fun _ _ _ => rfl
theorem v_bin (o : BO) (ha : PEv X ca F cls a A) (hb : PEv X ca F cls b B) : PEv X ca F cls (.BinOp a (opOf o) b pos) (.bin mu o A B) := by
  refine PE.imp (pe_op (opB o) ha hb) fun σ H Q ⟨G, ρ, env, M, d, M', a0, h, q⟩ => ?_
  rw [ev] at h
  split at h
  · cases h
  · rename_i x M1 e1
    split at h
    · cases h
    · rename_i y M2 e2
      split at h
      · cases h
      · rename_i d0 e3
        exact tE.go a0 e1 fun ρ1 v1 H1 x1 a1 r1 => tE.go a1 e2 fun ρ2 v2 H2 x2 a2 r2 =>
          bop_ok a2.ok o e3 (a2.ok.rs (a1.mv x2 r1)) (a2.ok.rs r2) h fun ρ' v H' x3 k3 r3 => q ρ' v H' ((x1.trans x2).trans x3) k3 r3
theorem v_neg (ha : PEv X ca F cls a A) : PEv X ca F cls (.UnaryOp .USub a pos) (.neg A) := by
  refine PE.imp (pe_un un_neg ha) fun σ H Q ⟨G, ρ, env, M, d, M', a0, h, q⟩ => ?_
  rw [ev] at h
  split at h
  · rename_i i M1 e1
    cases h
    exact tE.go a0 e1 fun ρ1 v1 H1 x1 a1 r1 => ⟨i, r1, q ρ1 _ H1 x1 a1.ok rfl⟩
  · cases h

/-! ### truth -/
theorem truth_ok {K : PySem.W.Frag} {G : Addr → Prop} {ρ : List Addr} {M : Sto} {H : Hp} {d : D} {v : V} {k : Bool} (ok : Ok K ca G ρ M H) (r : Rp K (Fb G ρ M) ρ H d v) (e : truth M d = some k) : TruV K v H k := by
  have q := ok.rs r
  unfold truth at e
  generalize rd M d = d' at q e
  cases d' with
  | non =>
    cases e
    have z : v = .non := q
    subst z
    rfl
  | bl b =>
    cases e
    have z : v = .bl k := q
    subst z
    rfl
  | int i =>
    cases e
    have z : v = .int i := q
    subst z
    rfl
  | list xs =>
    cases e
    obtain ⟨a, vs, rfl, h1, _, h2⟩ := q
    refine .inl ⟨vs, SqL.of h1, ?_⟩
    have hl := h2.length
    cases xs <;> cases vs <;> first | rfl | (simp at hl)
  | tup xs =>
    cases e
    obtain ⟨a, vs, rfl, h1, _, h2⟩ := q
    refine .inr (.inl ⟨vs, h1, ?_⟩)
    have hl := h2.length
    cases xs <;> cases vs <;> first | rfl | (simp at hl)
  | str _ => cases e
  | dict _ => cases e
  | loc _ => cases e
  | fz _ => cases e
theorem tst_inv {r : Option (D × Sto)} {k : Bool} {M1 : Sto} (h : tst r = some (k, M1)) : ∃ x, r = some (x, M1) ∧ truth M1 x = some k := by
  unfold tst at h
  split at h
  · cases h
  · rename_i x M2
    split at h
    · cases h
    · rename_i k' e
      cases h
      exact ⟨x, rfl, e⟩
theorem tst_mk {r : Option (D × Sto)} {x : D} {k : Bool} {M1 : Sto} (e : r = some (x, M1)) (t : truth M1 x = some k) : tst r = some (k, M1) := by
  subst e
  simp only [tst, t]
/-- an expression whose test is its value's truth -/
theorem v_test (ha : PEv X ca F cls a A) (he : ∀ whole, isTrue a X.env whole = (do let v ← whole; standAt a.pos; holding [v] (truthy v))) : PTv X ca F cls a A := by
  refine PT.imp (pt_truth ha he) fun σ H Q ⟨G, ρ, env, M, k, M', a0, h, q⟩ => ?_
  obtain ⟨x, e1, e2⟩ := tst_inv h
  exact tE.go a0 e1 fun ρ1 v1 H1 x1 a1 r1 => ⟨k, truth_ok a1.ok r1 e2, q ρ1 H1 x1 a1.ok⟩
theorem not_inv {env : Env} {M : Sto} {d : D} {M' : Sto} (h : ev F cls (.not A) env M = some (d, M')) : ∃ x k, ev F cls A env M = some (x, M') ∧ truth M' x = some k ∧ d = .bl (!k) := by
  rw [ev] at h
  split at h
  · cases h
  · rename_i x M1 e1
    split at h
    · cases h
    · rename_i k e2
      cases h
      exact ⟨x, k, e1, e2, rfl⟩
theorem v_not (ha : PEv X ca F cls a A) : PEv X ca F cls (.UnaryOp .Not a pos) (.not A) := by
  refine PE.imp (pe_notT ha) fun σ H Q ⟨G, ρ, env, M, d, M', a0, h, q⟩ => ?_
  obtain ⟨x, k, e1, e2, rfl⟩ := not_inv h
  exact tE.go a0 e1 fun ρ1 v1 H1 x1 a1 r1 => ⟨k, truth_ok a1.ok r1 e2, q ρ1 _ H1 x1 a1.ok rfl⟩
theorem truth_bl {M : Sto} {b k : Bool} (e : truth M (.bl b) = some k) : k = b := by
  unfold truth rd at e
  exact (Option.some.inj e).symm
theorem t_not (ha : PTv X ca F cls a A) : PTv X ca F cls (.UnaryOp .Not a pos) (.not A) := by
  refine PT.imp (pt_not ha) fun σ H Q ⟨G, ρ, env, M, k, M', a0, h, q⟩ => ?_
  obtain ⟨x, e1, e2⟩ := tst_inv h
  obtain ⟨y, k', e3, e4, rfl⟩ := not_inv e1
  have z := truth_bl e2
  subst z
  exact tT.go a0 (tst_mk e3 e4) fun ρ1 H1 x1 a1 => q ρ1 H1 x1 a1.ok
/-! ### and, or -/
theorem and_inv {env : Env} {M : Sto} {d : D} {M' : Sto} (h : ev F cls (.and A B) env M = some (d, M')) : ∃ x M1 k, ev F cls A env M = some (x, M1) ∧ truth M1 x = some k ∧ (if k = true then ev F cls B env M1 = some (d, M') else d = x ∧ M' = M1) := by
  rw [ev] at h
  split at h
  · cases h
  · rename_i x M1 e1
    split at h
    · cases h
    · rename_i e2
      exact ⟨x, M1, true, e1, e2, h⟩
    · rename_i e2
      cases h
      exact ⟨d, M', false, e1, e2, rfl, rfl⟩
theorem or_inv {env : Env} {M : Sto} {d : D} {M' : Sto} (h : ev F cls (.or A B) env M = some (d, M')) : ∃ x M1 k, ev F cls A env M = some (x, M1) ∧ truth M1 x = some k ∧ (if k = true then d = x ∧ M' = M1 else ev F cls B env M1 = some (d, M')) := by
  rw [ev] at h
  split at h
  · cases h
  · rename_i x M1 e1
    split at h
    · cases h
    · rename_i e2
      cases h
      exact ⟨d, M', true, e1, e2, rfl, rfl⟩
    · rename_i e2
      exact ⟨x, M1, false, e1, e2, h⟩
variable {rest : List Expr}
theorem v_and (ha : PEv X ca F cls a A) (hb : PEv X ca F cls (.BoolOp .And (b :: rest) pos) B) : PEv X ca F cls (.BoolOp .And (a :: b :: rest) pos) (.and A B) := by
  refine PE.imp (pe_andT ha hb) fun σ H Q ⟨G, ρ, env, M, d, M', a0, h, q⟩ => ?_
  obtain ⟨x, M1, k, e1, e2, e3⟩ := and_inv h
  refine tE.go a0 e1 fun ρ1 v1 H1 x1 a1 r1 => ⟨k, truth_ok a1.ok r1 e2, ?_⟩
  cases k with
  | true => exact tE.go a1 e3 fun ρ2 v2 H2 x2 a2 r2 => q ρ2 v2 H2 (x1.trans x2) a2.ok r2
  | false =>
    obtain ⟨rfl, rfl⟩ := e3
    exact q ρ1 v1 H1 x1 a1.ok r1
theorem v_or (ha : PEv X ca F cls a A) (hb : PEv X ca F cls (.BoolOp .Or (b :: rest) pos) B) : PEv X ca F cls (.BoolOp .Or (a :: b :: rest) pos) (.or A B) := by
  refine PE.imp (pe_orT ha hb) fun σ H Q ⟨G, ρ, env, M, d, M', a0, h, q⟩ => ?_
  obtain ⟨x, M1, k, e1, e2, e3⟩ := or_inv h
  refine tE.go a0 e1 fun ρ1 v1 H1 x1 a1 r1 => ⟨k, truth_ok a1.ok r1 e2, ?_⟩
  cases k with
  | false => exact tE.go a1 e3 fun ρ2 v2 H2 x2 a2 r2 => q ρ2 v2 H2 (x1.trans x2) a2.ok r2
  | true =>
    obtain ⟨rfl, rfl⟩ := e3
    exact q ρ1 v1 H1 x1 a1.ok r1
theorem w_and (ha : PTv X ca F cls a A) (hb : PWv X ca F cls (.BoolOp .And (b :: rest) pos) B) : PWv X ca F cls (.BoolOp .And (a :: b :: rest) pos) (.and A B) := by
  refine PW.imp (pw_and ha hb) fun σ H Q ⟨G, ρ, env, M, k0, M', a0, h, q⟩ => ?_
  obtain ⟨y, e0, e9⟩ := tst_inv h
  obtain ⟨x, M1, k, e1, e2, e3⟩ := and_inv e0
  refine tT.go a0 (tst_mk e1 e2) fun ρ1 H1 x1 a1 => ?_
  cases k with
  | true => exact tT.go a1 (tst_mk (show ev F cls B env M1 = some (y, M') from e3) e9) fun ρ2 H2 x2 a2 => q ρ2 H2 (x1.trans x2) a2.ok
  | false =>
    obtain ⟨rfl, rfl⟩ := e3
    rw [e2] at e9
    cases e9
    exact q ρ1 H1 x1 a1.ok
theorem w_or (ha : PTv X ca F cls a A) (hb : PWv X ca F cls (.BoolOp .Or (b :: rest) pos) B) : PWv X ca F cls (.BoolOp .Or (a :: b :: rest) pos) (.or A B) := by
  refine PW.imp (pw_or ha hb) fun σ H Q ⟨G, ρ, env, M, k0, M', a0, h, q⟩ => ?_
  obtain ⟨y, e0, e9⟩ := tst_inv h
  obtain ⟨x, M1, k, e1, e2, e3⟩ := or_inv e0
  refine tT.go a0 (tst_mk e1 e2) fun ρ1 H1 x1 a1 => ?_
  cases k with
  | false => exact tT.go a1 (tst_mk (show ev F cls B env M1 = some (y, M') from e3) e9) fun ρ2 H2 x2 a2 => q ρ2 H2 (x1.trans x2) a2.ok
  | true =>
    obtain ⟨rfl, rfl⟩ := e3
    rw [e2] at e9
    cases e9
    exact q ρ1 H1 x1 a1.ok

/-! ### comparisons -/
theorem cmp_inv {o : CO} {env : Env} {M : Sto} {d : D} {M' : Sto} (h : ev F cls (.cmp o A B) env M = some (d, M')) : ∃ x M1 y k, ev F cls A env M = some (x, M1) ∧ ev F cls B env M1 = some (y, M') ∧ cop o (rd M' x) (rd M' y) = some k ∧ d = .bl k := by
  rw [ev] at h
  split at h
  · cases h
  · rename_i x M1 e1
    split at h
    · cases h
    · rename_i y M2 e2
      split at h
      · cases h
      · rename_i k e3
        cases h
        exact ⟨x, M1, y, k, e1, e2, e3, rfl⟩
theorem cmp_run (o : CO) {K : PySem.W.Frag} {G : Addr → Prop} {ρ : List Addr} {M M1 M' : Sto} {H : Hp} {σ : L2.St} {env : Env} {x y : D} {k : Bool} {Q : VK} (a0 : At K ca G ρ M H σ env) (e1 : ev F cls A env M = some (x, M1)) (e2 : ev F cls B env M1 = some (y, M')) (e3 : cop o (rd M' x) (rd M' y) = some k)
    (q : ∀ ρ' H', Ext ρ M H ρ' M' H' → Ok K ca G ρ' M' H' → Q (.bl k) H') : tOp (rC K o) (tE K ca (ev F cls A)) (tE K ca (ev F cls B)) σ H Q :=
  tE.go a0 e1 fun ρ1 v1 H1 x1 a1 r1 => tE.go a1 e2 fun ρ2 v2 H2 x2 a2 r2 => cop_ok (F := Fb G ρ2 M') (ρ := ρ2) o e3 (a2.ok.rs (a1.mv x2 r1)) (a2.ok.rs r2) (q ρ2 H2 (x1.trans x2) a2.ok)
theorem v_cmp (o : CO) (hu : X.A.units + 65 < cLine) (hm : behindInMarks (copOf o) b = false) (ha : PEv X ca F cls a A) (hb : PEv X ca F cls b B) : PEv X ca F cls (.Compare a [copOf o] [b] pos) (.cmp o A B) := by
  refine PE.imp (pe_cmpR (opC hu o) ha hb hm) fun σ H Q ⟨G, ρ, env, M, d, M', a0, h, q⟩ => ?_
  obtain ⟨x, M1, y, k, e1, e2, e3, rfl⟩ := cmp_inv h
  exact cmp_run o a0 e1 e2 e3 fun ρ' H' x3 k3 => q ρ' _ H' x3 k3 rfl
theorem t_cmp (o : CO) (hu : X.A.units + 65 < cLine) (hm : behindInMarks (copOf o) b = false) (ha : PEv X ca F cls a A) (hb : PEv X ca F cls b B) : PTv X ca F cls (.Compare a [copOf o] [b] pos) (.cmp o A B) := by
  refine PT.imp (pt_cmpR (opC hu o) ha hb hm) fun σ H Q ⟨G, ρ, env, M, k0, M', a0, h, q⟩ => ?_
  obtain ⟨z, e0, e9⟩ := tst_inv h
  obtain ⟨x, M1, y, k, e1, e2, e3, rfl⟩ := cmp_inv e0
  have z := truth_bl e9
  subst z
  exact cmp_run o a0 e1 e2 e3 fun ρ' H' x3 k3 => ⟨k0, rfl, q ρ' H' x3 k3⟩
theorem chain_inv {o p : CO} {env : Env} {M : Sto} {d : D} {M' : Sto} (h : ev F cls (.chain o p A B C) env M = some (d, M')) : ∃ x M1 y M2 k, ev F cls A env M = some (x, M1) ∧ ev F cls B env M1 = some (y, M2) ∧ cop o (rd M2 x) (rd M2 y) = some k ∧
    (if k = true then ∃ z k', ev F cls C env M2 = some (z, M') ∧ cop p (rd M' y) (rd M' z) = some k' ∧ d = .bl k' else d = .bl false ∧ M' = M2) := by
  rw [ev] at h
  split at h
  · cases h
  · rename_i x M1 e1
    split at h
    · cases h
    · rename_i y M2 e2
      split at h
      · cases h
      · rename_i e3
        cases h
        exact ⟨x, M1, y, M', false, e1, e2, e3, rfl, rfl⟩
      · rename_i e3
        split at h
        · cases h
        · rename_i z M3 e4
          split at h
          · cases h
          · rename_i k' e5
            cases h
            exact ⟨x, M1, y, M2, true, e1, e2, e3, z, k', e4, e5, rfl⟩
theorem chain_run (o p : CO) {K : PySem.W.Frag} {G : Addr → Prop} {ρ : List Addr} {M M' : Sto} {H : Hp} {σ : L2.St} {env : Env} {d : D} {Q : VK} (a0 : At K ca G ρ M H σ env) (h : ev F cls (.chain o p A B C) env M = some (d, M'))
    (q : ∀ ρ' H' k, d = .bl k → Ext ρ M H ρ' M' H' → Ok K ca G ρ' M' H' → Q (.bl k) H') : tChain (rC K o) (rC K p) (tE K ca (ev F cls A)) (tE K ca (ev F cls B)) (tE K ca (ev F cls C)) σ H Q := by
  obtain ⟨x, M1, y, M2, k, e1, e2, e3, e4⟩ := chain_inv h
  refine tE.go a0 e1 fun ρ1 v1 H1 x1 a1 r1 => tE.go a1 e2 fun ρ2 v2 H2 x2 a2 r2 => cop_ok (F := Fb G ρ2 M2) (ρ := ρ2) o e3 (a2.ok.rs (a1.mv x2 r1)) (a2.ok.rs r2) ⟨k, rfl, ?_⟩
  cases k with
  | false =>
    obtain ⟨rfl, rfl⟩ := e4
    exact q ρ2 H2 false rfl (x1.trans x2) a2.ok
  | true =>
    obtain ⟨z, k', e5, e6, rfl⟩ := e4
    exact tE.go a2 e5 fun ρ3 v3 H3 x3 a3 r3 => cop_ok (F := Fb G ρ3 M') (ρ := ρ3) p e6 (a3.ok.rs (a2.mv x3 r2)) (a3.ok.rs r3) (q ρ3 H3 k' rfl ((x1.trans x2).trans x3) a3.ok)
theorem v_chain (o p : CO) (hu : X.A.units + 65 < cLine) (hm : lastMarks [copOf o, copOf p] [b, c] = false) (ha : PEv X ca F cls a A) (hb : PEv X ca F cls b B) (hc : PEv X ca F cls c C) : PEv X ca F cls (.Compare a [copOf o, copOf p] [b, c] pos) (.chain o p A B C) := by
  refine PE.imp (pe_chain (opC hu o) (opC hu p) ha hb hc hm) fun σ H Q ⟨G, ρ, env, M, d, M', a0, h, q⟩ => ?_
  exact chain_run o p a0 h fun ρ' H' k e x k3 => by
    subst e
    exact q ρ' _ H' x k3 rfl
theorem t_chain (o p : CO) (hu : X.A.units + 65 < cLine) (hm : lastMarks [copOf o, copOf p] [b, c] = false) (ha : PEv X ca F cls a A) (hb : PEv X ca F cls b B) (hc : PEv X ca F cls c C) : PTv X ca F cls (.Compare a [copOf o, copOf p] [b, c] pos) (.chain o p A B C) := by
  refine PT.imp (pt_chain (opC hu o) (opC hu p) ha hb hc hm) fun σ H Q ⟨G, ρ, env, M, k0, M', a0, h, q⟩ => ?_
  obtain ⟨z, e0, e9⟩ := tst_inv h
  exact chain_run o p a0 e0 fun ρ' H' k e x k3 => by
    subst e
    have z := truth_bl e9
    subst z
    exact ⟨_, rfl, q ρ' H' x k3⟩
theorem isN_inv {ng : Bool} {env : Env} {M : Sto} {d : D} {M' : Sto} (h : ev F cls (.isN ng A) env M = some (d, M')) : ∃ x, ev F cls A env M = some (x, M') ∧ ((x = .non ∧ d = .bl (!ng)) ∨ (x ≠ .non ∧ d = .bl ng)) := by
  rw [ev] at h
  split at h
  · cases h
  · rename_i e1
    cases h
    exact ⟨.non, e1, .inl ⟨rfl, rfl⟩⟩
  · rename_i x M1 hx e1
    cases h
    exact ⟨x, e1, .inr ⟨fun z => hx z, rfl⟩⟩
theorem Rp.non_iff {K : PySem.W.Frag} {F : Addr → Prop} {ρ : List Addr} {H : Hp} {d : D} {v : V} (r : Rp K F ρ H d v) : v = .non ↔ d = .non := by
  cases d with
  | non => exact ⟨fun _ => rfl, fun _ => r⟩
  | bl b =>
    have z : v = .bl b := r
    subst z
    exact ⟨fun z => (nomatch z), fun z => (nomatch z)⟩
  | int b =>
    have z : v = .int b := r
    subst z
    exact ⟨fun z => (nomatch z), fun z => (nomatch z)⟩
  | str b =>
    have z : v = .str b := r
    subst z
    exact ⟨fun z => (nomatch z), fun z => (nomatch z)⟩
  | list _ =>
    obtain ⟨a, vs, rfl, _⟩ := r
    exact ⟨fun z => (nomatch z), fun z => (nomatch z)⟩
  | tup _ =>
    obtain ⟨a, vs, rfl, _⟩ := r
    exact ⟨fun z => (nomatch z), fun z => (nomatch z)⟩
  | dict _ =>
    obtain ⟨a, vs, rfl, _⟩ := r
    exact ⟨fun z => (nomatch z), fun z => (nomatch z)⟩
  | loc _ =>
    obtain ⟨a, rfl, _⟩ := r
    exact ⟨fun z => (nomatch z), fun z => (nomatch z)⟩
  | fz _ =>
    obtain ⟨a, vs, rfl, _⟩ := r
    exact ⟨fun z => (nomatch z), fun z => (nomatch z)⟩
theorem isN_run {ng : Bool} {K : PySem.W.Frag} {G : Addr → Prop} {ρ : List Addr} {M M' : Sto} {H : Hp} {σ : L2.St} {env : Env} {d : D} {Q : VK} (a0 : At K ca G ρ M H σ env) (h : ev F cls (.isN ng A) env M = some (d, M'))
    (q : ∀ ρ' H' k, d = .bl k → Ext ρ M H ρ' M' H' → Ok K ca G ρ' M' H' → Q (.bl k) H') : tE K ca (ev F cls A) σ H fun x H1 => Q (.bl (if ng then !decide (x = .non) else decide (x = .non))) H1 := by
  obtain ⟨x, e1, e2⟩ := isN_inv h
  refine tE.go a0 e1 fun ρ1 v1 H1 x1 a1 r1 => ?_
  have z := r1.non_iff
  refine q ρ1 H1 _ ?_ x1 a1.ok
  rcases e2 with ⟨e, e'⟩ | ⟨e, e'⟩
  · rw [e', decide_eq_true (z.mpr e)]
    cases ng <;> rfl
  · rw [e', decide_eq_false (fun w => e (z.mp w))]
    cases ng <;> rfl
theorem v_is {j : Nat} {pos' : Pos} (ha : PEv X ca F cls a A) : PEv X ca F cls (.Compare a [.Is] [.Constant .none j pos'] pos) (.isN false A) :=
  PE.imp (pe_cmp (pc_isN ha)) fun σ H Q ⟨G, ρ, env, M, d, M', a0, h, q⟩ => isN_run a0 h fun ρ' H' k e x k3 => by subst e; exact q ρ' _ H' x k3 rfl
theorem v_isnot {j : Nat} {pos' : Pos} (ha : PEv X ca F cls a A) : PEv X ca F cls (.Compare a [.IsNot] [.Constant .none j pos'] pos) (.isN true A) :=
  PE.imp (pe_cmp (pc_notN ha)) fun σ H Q ⟨G, ρ, env, M, d, M', a0, h, q⟩ => isN_run a0 h fun ρ' H' k e x k3 => by subst e; exact q ρ' _ H' x k3 rfl
theorem t_is {j : Nat} {pos' : Pos} (ha : PEv X ca F cls a A) : PTv X ca F cls (.Compare a [.Is] [.Constant .none j pos'] pos) (.isN false A) :=
  PT.imp (pt_cmp (pc_isN ha)) fun σ H Q ⟨G, ρ, env, M, k0, M', a0, h, q⟩ => by
    obtain ⟨z, e0, e9⟩ := tst_inv h
    exact isN_run (Q := fun x H1 => ∃ c, x = .bl c ∧ Q c H1) a0 e0 fun ρ' H' k e x k3 => by
      subst e
      have z := truth_bl e9
      subst z
      exact ⟨_, rfl, q ρ' H' x k3⟩
theorem t_isnot {j : Nat} {pos' : Pos} (ha : PEv X ca F cls a A) : PTv X ca F cls (.Compare a [.IsNot] [.Constant .none j pos'] pos) (.isN true A) :=
  PT.imp (pt_cmp (pc_notN ha)) fun σ H Q ⟨G, ρ, env, M, k0, M', a0, h, q⟩ => by
    obtain ⟨z, e0, e9⟩ := tst_inv h
    exact isN_run (Q := fun x H1 => ∃ c, x = .bl c ∧ Q c H1) a0 e0 fun ρ' H' k e x k3 => by
      subst e
      have z := truth_bl e9
      subst z
      exact ⟨_, rfl, q ρ' H' x k3⟩
theorem ife_inv {env : Env} {M : Sto} {d : D} {M' : Sto} (h : ev F cls (.ife C A B) env M = some (d, M')) : ∃ M1 k, tst (ev F cls C env M) = some (k, M1) ∧ (if k = true then ev F cls A env M1 else ev F cls B env M1) = some (d, M') := by
  rw [ev] at h
  split at h
  · cases h
  · rename_i x M1 e1
    split at h
    · cases h
    · rename_i e2
      exact ⟨M1, true, tst_mk e1 e2, h⟩
    · rename_i e2
      exact ⟨M1, false, tst_mk e1 e2, h⟩
theorem v_ife (hc : PTv X ca F cls c C) (ha : PEv X ca F cls a A) (hb : PEv X ca F cls b B) : PEv X ca F cls (.IfExp c a b pos) (.ife C A B) := by
  refine PE.imp (pe_ifExp hc ha hb) fun σ H Q ⟨G, ρ, env, M, d, M', a0, h, q⟩ => ?_
  obtain ⟨M1, k, e1, e2⟩ := ife_inv h
  refine tT.go a0 e1 fun ρ1 H1 x1 a1 => ?_
  cases k with
  | true => exact tE.go a1 e2 fun ρ2 v2 H2 x2 a2 r2 => q ρ2 v2 H2 (x1.trans x2) a2.ok r2
  | false => exact tE.go a1 e2 fun ρ2 v2 H2 x2 a2 r2 => q ρ2 v2 H2 (x1.trans x2) a2.ok r2
theorem pt_ifE {c a b : Expr} {tc ta tb : TT} (hc : PT X c tc) (ha : PT X a ta) (hb : PT X b tb) : PT X (.IfExp c a b pos) fun σ H Q => tc σ H fun k H1 => if k = true then ta σ H1 Q else tb σ H1 Q := by
  refine ⟨fun pins s σ H Q I h => ?_⟩
  refine isTrue_IfExp (thn (hc.run pins s σ H _ I h) fun d s1 ⟨H1, I1, q1⟩ => ?_)
  cases d with
  | true => exact ha.run pins s1 σ H1 Q I1 q1
  | false => exact hb.run pins s1 σ H1 Q I1 q1
theorem t_ife (hc : PTv X ca F cls c C) (ha : PTv X ca F cls a A) (hb : PTv X ca F cls b B) : PTv X ca F cls (.IfExp c a b pos) (.ife C A B) := by
  refine PT.imp (pt_ifE hc ha hb) fun σ H Q ⟨G, ρ, env, M, k0, M', a0, h, q⟩ => ?_
  obtain ⟨z, e0, e9⟩ := tst_inv h
  obtain ⟨M1, k, e1, e2⟩ := ife_inv e0
  refine tT.go a0 e1 fun ρ1 H1 x1 a1 => ?_
  cases k with
  | true => exact tT.go a1 (tst_mk (show ev F cls A env M1 = some (z, M') from e2) e9) fun ρ2 H2 x2 a2 => q ρ2 H2 (x1.trans x2) a2.ok
  | false => exact tT.go a1 (tst_mk (show ev F cls B env M1 = some (z, M') from e2) e9) fun ρ2 H2 x2 a2 => q ρ2 H2 (x1.trans x2) a2.ok
end
end MP

/-! MP9: lists of arguments, displays, places, slices, built-ins. -/
namespace MP
open PySem PySem.Spec PyProof.Rows L2
section
variable {X : Cx} {ca : Nat → Option Addr} {F : FT} {cls : Nat → Nat} {e a b c : Expr} {es : List Expr} {pos p : Pos} {A B C : E} {AS : EL} {mu : Bool}
theorem PE.or {t1 t2 : TE} (h1 : PE X e t1) (h2 : PE X e t2) : PE X e fun σ H Q => t1 σ H Q ∨ t2 σ H Q := ⟨fun pins s σ H Q I h => h.elim (h1.run pins s σ H Q I) (h2.run pins s σ H Q I)⟩
theorem v_anil : PAv X ca F cls [] .nil := PA.imp pa_nil fun σ H Q ⟨G, ρ, env, M, d, M', a0, h, q⟩ => by
  rw [evL] at h
  cases h
  exact q ρ [] H .refl a0.ok rfl
theorem acons_inv {env : Env} {M : Sto} {ds : List D} {M' : Sto} (h : evL F cls (.cons A AS) env M = some (ds, M')) : ∃ d M1 r, ev F cls A env M = some (d, M1) ∧ evL F cls AS env M1 = some (r, M') ∧ ds = d :: r := by
  rw [evL] at h
  split at h
  · cases h
  · rename_i d M1 e1
    split at h
    · cases h
    · rename_i r M2 e2
      cases h
      exact ⟨d, M1, r, e1, e2, rfl⟩
theorem v_acons (ha : PEv X ca F cls e A) (hs : PAv X ca F cls es AS) (hst : starEach (e :: es) X.env = (false, eval e X.env) :: starEach es X.env) : PAv X ca F cls (e :: es) (.cons A AS) :=
  PA.imp (pa_cons ha hs hst) fun σ H Q ⟨G, ρ, env, M, d, M', a0, h, q⟩ => by
    obtain ⟨d, M1, r, e1, e2, rfl⟩ := acons_inv h
    exact tE.go a0 e1 fun ρ1 v1 H1 x1 a1 r1 => tL.go a1 e2 fun ρ2 v2 H2 x2 a2 r2 => q ρ2 (v1 :: v2) H2 (x1.trans x2) a2.ok ⟨v1, v2, rfl, a1.mv x2 r1, r2⟩
theorem v_tup {k : Nat} (hs : PAv X ca F cls es AS) : PEv X ca F cls (.Tuple es k pos) (.tup AS) :=
  PE.imp (pe_tup hs) fun σ H Q ⟨G, ρ, env, M, d, M', a0, h, q⟩ => by
    rw [ev] at h
    split at h
    · cases h
    · rename_i ds M1 e1
      split at h
      · rename_i hz
        cases h
        rw [lineEq] at hz
        exact tL.go a0 e1 fun ρ1 v1 H1 x1 a1 r1 => ⟨by rw [r1.length]; exact hz, fun p hp => mk_tup a1.ok (fun ρ' v H' x k r => q ρ' v H' (x1.trans x) k r) hz r1 hp⟩
      · cases h
theorem v_lst (hs : PAv X ca F cls es AS) : PEv X ca F cls (.List es pos) (.lst mu AS) :=
  PE.imp (pe_lst hs) fun σ H Q ⟨G, ρ, env, M, d, M', a0, h, q⟩ => by
    rw [ev] at h
    split at h
    · cases h
    · rename_i ds M1 e1
      split at h
      · rename_i hz
        rw [lineEq] at hz
        exact tL.go a0 e1 fun ρ1 v1 H1 x1 a1 r1 => ⟨by rw [r1.length]; exact hz, fun p hp => mk_list a1.ok h (fun ρ' v H' x k r => q ρ' v H' (x1.trans x) k r) hz r1 hp⟩
      · cases h

/-! ### places -/
theorem RpL.atI {K : PySem.W.Frag} {F : Addr → Prop} {ρ : List Addr} {H : Hp} {ds : List D} {vs : List V} {i : Int} {d : D} (r : RpL K F ρ H ds vs) (e : L2.atI ds i = some d) : ∃ v, L2.atI vs i = some v ∧ Rp K F ρ H d v := by
  unfold L2.atI at e ⊢
  rw [r.length]
  cases q : ixN ds.length i with
  | none => rw [q] at e; cases e
  | some j =>
    rw [q] at e
    exact RpL.get r e
theorem kvAt_ok {K : PySem.W.Frag} {F : Addr → Prop} {ρ : List Addr} {H : Hp} {k : Key} : ∀ {kvs : List (Key × D)} {us : List (Key × V)}, RpK K F ρ H kvs us → (∀ d, kvAt k kvs = some d → ∃ v, valV us k = some v ∧ Rp K F ρ H d v) ∧ (kvAt k kvs = none → valV us k = none)
  | [], us, h => by
    have z : us = [] := h
    subst z
    exact ⟨(fun d e => nomatch e), fun _ => rfl⟩
  | (q, d) :: r, us, h => by
    obtain ⟨v, w, rfl, h1, h2⟩ := h
    have ih := kvAt_ok (k := k) h2
    by_cases hq : q = k
    · rw [valV_pos (p := (q, v)) hq]
      simp only [kvAt, if_pos hq]
      exact ⟨(fun d' e => ⟨v, rfl, by cases e; exact h1⟩), (fun e => nomatch e)⟩
    · rw [valV_neg (p := (q, v)) hq]
      simp only [kvAt, if_neg hq]
      exact ih
theorem keyOf_ok {K : PySem.W.Frag} {F : Addr → Prop} {ρ : List Addr} {H : Hp} {d : D} {v : V} {k : Key} (e : MP.keyOf d = some k) (r : Rp K F ρ H d v) : v = kV k := by
  cases d with
  | int i =>
    cases e
    exact r
  | str x =>
    cases e
    exact r
  | _ => cases e
theorem idx_inv {env : Env} {M : Sto} {d : D} {M' : Sto} (h : ev F cls (.idx A B) env M = some (d, M')) : ∃ x M1 y, ev F cls A env M = some (x, M1) ∧ ev F cls B env M1 = some (y, M') ∧ getD_ (rd M' x) y = some d := by
  rw [ev] at h
  split at h
  · cases h
  · rename_i x M1 e1
    split at h
    · cases h
    · rename_i y M2 e2
      split at h
      · cases h
      · rename_i d0 e3
        cases h
        exact ⟨x, M1, y, e1, e2, e3⟩
theorem v_idx (hu : X.A.units + 1 < cLine) (ha : PEv X ca F cls a A) (hb : PEv X ca F cls b B) (hs : PlainIx b) : PEv X ca F cls (.Subscript a b pos) (.idx A B) := by
  refine PE.imp (PE.or (pe_ix ix_seq ha hb hs) (pe_dget hu ha hb hs)) fun σ H Q ⟨G, ρ, env, M, d, M', a0, h, q⟩ => ?_
  obtain ⟨x, M1, y, e1, e2, e3⟩ := idx_inv h
  cases z : rd M' x with
  | list xs =>
    rw [z] at e3
    cases y with
    | int i =>
      refine .inl (tE.go a0 e1 fun ρ1 v1 H1 x1 a1 r1 => tE.go a1 e2 fun ρ2 v2 H2 x2 a2 r2 => ?_)
      have rs := a2.ok.rs (a1.mv x2 r1)
      rw [z] at rs
      obtain ⟨p, vs, g1, g2, _, g4⟩ := rs
      obtain ⟨v, k1, k2⟩ := RpL.atI g4 e3
      exact .inl ⟨p, vs, i, v, g1, r2, SqL.of g2, k1, q ρ2 v H2 (x1.trans x2) a2.ok k2⟩
    | _ => cases e3
  | tup xs =>
    rw [z] at e3
    cases y with
    | int i =>
      refine .inl (tE.go a0 e1 fun ρ1 v1 H1 x1 a1 r1 => tE.go a1 e2 fun ρ2 v2 H2 x2 a2 r2 => ?_)
      have rs := a2.ok.rs (a1.mv x2 r1)
      rw [z] at rs
      obtain ⟨p, vs, g1, g2, _, g4⟩ := rs
      obtain ⟨v, k1, k2⟩ := RpL.atI g4 e3
      exact .inr (.inl ⟨p, vs, i, v, g1, r2, g2, k1, q ρ2 v H2 (x1.trans x2) a2.ok k2⟩)
    | _ => cases e3
  | dict kvs =>
    rw [z] at e3
    have e4 : ∃ k, MP.keyOf y = some k ∧ kvAt k kvs = some d := by
      simp only [getD_] at e3
      cases w : MP.keyOf y with
      | none => rw [w] at e3; cases e3
      | some k => rw [w] at e3; exact ⟨k, rfl, e3⟩
    obtain ⟨k, e5, e6⟩ := e4
    refine .inr (tE.go a0 e1 fun ρ1 v1 H1 x1 a1 r1 => tE.go a1 e2 fun ρ2 v2 H2 x2 a2 r2 => ?_)
    have rs := a2.ok.rs (a1.mv x2 r1)
    rw [z] at rs
    obtain ⟨p, us, g1, g2, g4⟩ := rs
    obtain ⟨v, k1, k2⟩ := (kvAt_ok g4).1 d e6
    exact ⟨p, v, g1, .inl ⟨us, k, g2, keyOf_ok e5 r2, k1.symm⟩, q ρ2 v H2 (x1.trans x2) a2.ok k2⟩
  | _ => rw [z] at e3; cases e3

/-! ### slices -/
def tO (K : PySem.W.Frag) (ca : Nat → Option Addr) (f : Env → Sto → Option (Option Int × Sto)) : TO := fun σ H Q => ∃ G ρ env M d M', At K ca G ρ M H σ env ∧ f env M = some (d, M') ∧
  ∀ ρ' H', Ext ρ M H ρ' M' H' → Ok K ca G ρ' M' H' → Q d H'
theorem tO.go {K : PySem.W.Frag} {G : Addr → Prop} {ρ : List Addr} {M M' : Sto} {H : Hp} {σ : L2.St} {env : Env} {f : Env → Sto → Option (Option Int × Sto)} {d : Option Int} (a : At K ca G ρ M H σ env) (e : f env M = some (d, M')) {Q : Option Int → Hp → Prop}
    (h : ∀ ρ' H', Ext ρ M H ρ' M' H' → At K ca G ρ' M' H' σ env → Q d H') : tO K ca f σ H Q :=
  ⟨G, ρ, env, M, d, M', a, e, fun ρ' H' x k => h ρ' H' x (a.to x k)⟩
abbrev POv (X : Cx) (ca : Nat → Option Addr) (F : FT) (cls : Nat → Nat) (e : Option Expr) (A : E) : Prop := PO X e (tO X.K ca fun env M => optI (isAbs A) M (ev F cls A env M))
theorem PO.imp {o : Option Expr} {t t' : TO} (h : PO X o t) (i : ∀ σ H Q, t' σ H Q → t σ H Q) : PO X o t' := ⟨fun pins s σ H Q I q => h.run pins s σ H Q I (i _ _ _ q)⟩
theorem v_onone : POv X ca F cls none .absent := PO.imp po_none fun σ H Q ⟨G, ρ, env, M, d, M', a0, h, q⟩ => by
  simp only [optI, isAbs, if_true] at h
  cases h
  exact q ρ H .refl a0.ok
theorem v_osome (hA : isAbs A = false) (ha : PEv X ca F cls a A) : POv X ca F cls (some a) A := PO.imp (po_some ha) fun σ H Q ⟨G, ρ, env, M, d, M', a0, h, q⟩ => by
  simp only [optI, hA, if_neg Bool.false_ne_true] at h
  split at h
  · rename_i i M1 e1
    cases h
    exact tE.go a0 e1 fun ρ1 v1 H1 x1 a1 r1 => ⟨i, r1, q ρ1 H1 x1 a1.ok⟩
  · cases h
def rSlc (K : PySem.W.Frag) : V → Option Int → Option Int → Hp → VK → Prop := fun x lo hi H Q => rSlL K x lo hi H Q ∨ rSlA K x lo hi H Q
theorem cut_ok {K : PySem.W.Frag} {F : Addr → Prop} {ρ : List Addr} {H : Hp} {ds : List D} {vs : List V} (lo hi : Option Int) (r : RpL K F ρ H ds vs) : RpL K F ρ H (cutD ds lo hi) (cutV vs lo hi) := by
  unfold cutD cutV
  rw [r.length]
  exact (r.drop _).take _
theorem cutD_length (ds : List D) (lo hi : Option Int) : (cutD ds lo hi).length ≤ ds.length := by
  unfold cutD
  rw [List.length_take, List.length_drop]
  omega
theorem v_slc {lo hi : Option Expr} {p2 : Pos} (ha : PEv X ca F cls a A) (hl : POv X ca F cls lo B) (hh : POv X ca F cls hi C) : PEv X ca F cls (.Subscript a (.Slice lo hi none p2) pos) (.slc mu A B C) := by
  refine PE.imp (pe_slice (sl_list.or sl_tupA) ha hl hh) fun σ H Q ⟨G, ρ, env, M, d, M', a0, h, q⟩ => ?_
  rw [ev] at h
  split at h
  · cases h
  · rename_i x M1 e1
    split at h
    · cases h
    · rename_i l M2 e2
      split at h
      · cases h
      · rename_i u M3 e3
        refine tE.go a0 e1 fun ρ1 v1 H1 x1 a1 r1 => tO.go a1 e2 fun ρ2 H2 x2 a2 => tO.go a2 e3 fun ρ3 H3 x3 a3 => ?_
        have r3 := a2.mv x3 (a1.mv x2 r1)
        have rs := a3.ok.rs r3
        have xx := (x1.trans x2).trans x3
        split at h
        · rename_i xs z
          rw [z] at rs
          obtain ⟨p, vs, g1, g2, g3, g4⟩ := rs
          exact .inl ⟨p, vs, g1, SqL.of g2, fun p' hp => mk_list a3.ok h (fun ρ' v H' x k r => q ρ' v H' (xx.trans x) k r) (Nat.le_trans (cutD_length _ _ _) g3) (cut_ok l u g4) hp⟩
        · rename_i xs z
          rw [z] at rs
          obtain ⟨p, vs, g1, g2, g3, g4⟩ := rs
          have g2' : SqL X.K H3 p vs := g2.elim (fun q => .inl (.inr q.1)) fun q => q.sq _
          exact .inl ⟨p, vs, g1, g2', fun p' hp => mk_list a3.ok h (fun ρ' v H' x k r => q ρ' v H' (xx.trans x) k r) (Nat.le_trans (cutD_length _ _ _) g3) (cut_ok l u g4) hp⟩
        · rename_i xs z
          cases h
          rw [z] at rs
          obtain ⟨p, vs, g1, g2, g3, g4⟩ := rs
          refine .inr ⟨p, vs, g1, g2, fun w => ?_, fun _ p' hp => mk_tup a3.ok (fun ρ' v H' x k r => q ρ' v H' (xx.trans x) k r) (Nat.le_trans (cutD_length _ _ _) g3) (cut_ok l u g4) hp⟩
          have ecut : cutD xs l u = xs := by
            unfold cutD
            rw [← g4.length, w.1, w.2, List.drop_zero, Nat.sub_zero, g4.length, List.take_length]
          rw [ecut] at q
          exact q ρ3 _ H3 xx a3.ok ⟨p, vs, rfl, g2, g3, g4⟩
        · cases h

/-! ### built-ins -/
/-- what a built-in does with read arguments -/
def BOk (X : Cx) (ca : Nat → Option Addr) (b : Blt) (r : List V → Hp → VK → Prop) : Prop :=
  ∀ (G : Addr → Prop) (ρ : List Addr) (M : Sto) (H : Hp) (ds : List D) (vs : List V) (mu : Bool) (d d' : D) (M' : Sto) (Q : VK), Ok X.K ca G ρ M H → RpL X.K (Fb G ρ M) ρ H ds vs → blt1 b M (ds.map (rd M)) = some d → mk mu d M = some (d', M') → Kont X.K ca G ρ M H M' d' Q → r vs H Q
theorem v_blt {b : Blt} {r : List V → Hp → VK → Prop} (h : PE X e (tCB r (tL X.K ca (evL F cls AS)))) (hb : BOk X ca b r) : PEv X ca F cls e (.blt mu b AS) :=
  PE.imp h fun σ H Q ⟨G, ρ, env, M, d, M', a0, h, q⟩ => by
    rw [ev] at h
    split at h
    · cases h
    · rename_i ds M1 e1
      split at h
      · cases h
      · rename_i d0 e2
        exact tL.go a0 e1 fun ρ1 v1 H1 x1 a1 r1 => hb G ρ1 M1 H1 ds v1 mu d0 d M' Q a1.ok r1 e2 h fun ρ' v H' x k r => q ρ' v H' (x1.trans x) k r
section
variable {K : PySem.W.Frag} {G : Addr → Prop} {ρ : List Addr} {M M' : Sto} {H : Hp} {ds : List D} {vs : List V} {Q : VK} {d' : D}
theorem int_out {i : Int} {mu : Bool} (ok : Ok K ca G ρ M H) (e : mk mu (.int i) M = some (d', M')) (h : Kont K ca G ρ M H M' d' Q) : Q (.int i) H := by
  obtain ⟨rfl, rfl⟩ := mk_flat (by intro _ z; cases z) (by intro _ z; cases z) e
  exact kont_here ok h rfl
theorem bl_out {i : Bool} {mu : Bool} (ok : Ok K ca G ρ M H) (e : mk mu (.bl i) M = some (d', M')) (h : Kont K ca G ρ M H M' d' Q) : Q (.bl i) H := by
  obtain ⟨rfl, rfl⟩ := mk_flat (by intro _ z; cases z) (by intro _ z; cases z) e
  exact kont_here ok h rfl
theorem one_arg {x : D} (r : RpL K (Fb G ρ M) ρ H ds vs) (ok : Ok K ca G ρ M H) (e : ds.map (rd M) = [x]) : ∃ d v, ds = [d] ∧ vs = [v] ∧ rd M d = x ∧ Rp K (Fb G ρ M) ρ H d v ∧ Rs K (Fb G ρ M) ρ H x v := by
  match ds, e with
  | [d], e =>
    obtain ⟨v, w, rfl, h1, h2⟩ := r
    have z : w = [] := h2
    subst z
    have e' : rd M d = x := by simpa using e
    exact ⟨d, v, rfl, rfl, e', h1, e' ▸ ok.rs h1⟩
theorem two_args {x y : D} (r : RpL K (Fb G ρ M) ρ H ds vs) (ok : Ok K ca G ρ M H) (e : ds.map (rd M) = [x, y]) : ∃ v w, vs = [v, w] ∧ Rs K (Fb G ρ M) ρ H x v ∧ Rs K (Fb G ρ M) ρ H y w := by
  match ds, e with
  | [d, d2], e =>
    obtain ⟨v, w, rfl, h1, h2⟩ := r
    obtain ⟨v2, w2, rfl, h3, h4⟩ := h2
    have z : w2 = [] := h4
    subst z
    have e' : rd M d = x ∧ rd M d2 = y := by simpa using e
    exact ⟨v, v2, rfl, e'.1 ▸ ok.rs h1, e'.2 ▸ ok.rs h3⟩
end
theorem intsOf_eq : ∀ {ds : List D} {ns : List Int}, intsOf ds = some ns → ds = ns.map D.int
  | [], ns, h => by cases h; rfl
  | .int i :: r, ns, h => by
    rw [intsOf] at h
    cases q : intsOf r with
    | none => rw [q] at h; cases h
    | some ms =>
      rw [q] at h
      cases h
      rw [intsOf_eq q]; rfl
  | .non :: _, _, h => by cases h
  | .bl _ :: _, _, h => by cases h
  | .str _ :: _, _, h => by cases h
  | .list _ :: _, _, h => by cases h
  | .tup _ :: _, _, h => by cases h
  | .dict _ :: _, _, h => by cases h
  | .loc _ :: _, _, h => by cases h
  | .fz _ :: _, _, h => by cases h
theorem blsOf_eq : ∀ {ds : List D} {ns : List Bool}, blsOf ds = some ns → ds = ns.map D.bl
  | [], ns, h => by cases h; rfl
  | .bl i :: r, ns, h => by
    rw [blsOf] at h
    cases q : blsOf r with
    | none => rw [q] at h; cases h
    | some ms =>
      rw [q] at h
      cases h
      rw [blsOf_eq q]; rfl
  | .non :: _, _, h => by cases h
  | .int _ :: _, _, h => by cases h
  | .str _ :: _, _, h => by cases h
  | .list _ :: _, _, h => by cases h
  | .tup _ :: _, _, h => by cases h
  | .dict _ :: _, _, h => by cases h
  | .loc _ :: _, _, h => by cases h
  | .fz _ :: _, _, h => by cases h
theorem b_len : BOk X ca .len (fun xs H Q => ∃ x n, xs = [x] ∧ LenV X.K x H n ∧ Q (.int n) H) := by
  intro G ρ M H ds vs mu d d' M' Q ok r e em h
  unfold blt1 at e
  split at e <;> try contradiction
  · rename_i xs _ q
    cases e
    obtain ⟨d0, v, rfl, rfl, z, r0, rs⟩ := one_arg r ok q
    obtain ⟨p, us, rfl, g1, g2, g3⟩ := rs
    exact ⟨_, us.length, rfl, .inl ⟨us, SqL.of g1, rfl⟩, by rw [g3.length]; exact int_out ok em h⟩
  · rename_i xs _ q
    cases e
    obtain ⟨d0, v, rfl, rfl, z, r0, rs⟩ := one_arg r ok q
    obtain ⟨p, us, rfl, g1, g2, g3⟩ := rs
    exact ⟨_, us.length, rfl, .inr ⟨us, g1, rfl⟩, by rw [g3.length]; exact int_out ok em h⟩
theorem b_abs : BOk X ca .abs (fun xs H Q => ∃ i, xs = [.int i] ∧ Q (.int (if i < 0 then -i else i)) H) := by
  intro G ρ M H ds vs mu d d' M' Q ok r e em h
  unfold blt1 at e
  split at e <;> try contradiction
  rename_i i _ q
  cases e
  obtain ⟨d0, v, rfl, rfl, z, r0, rs⟩ := one_arg r ok q
  exact ⟨i, by rw [show v = .int i from rs], int_out ok em h⟩
theorem b_max2 : BOk X ca .max2 (fun xs H Q => ∃ i j, xs = [.int i, .int j] ∧ Q (.int (if j > i then j else i)) H) := by
  intro G ρ M H ds vs mu d d' M' Q ok r e em h
  unfold blt1 at e
  split at e <;> try contradiction
  rename_i i j _ q
  cases e
  obtain ⟨v, w, rfl, r1, r2⟩ := two_args r ok q
  exact ⟨i, j, by rw [show v = .int i from r1, show w = .int j from r2], int_out ok em h⟩
theorem b_min2 : BOk X ca .min2 (fun xs H Q => ∃ i j, xs = [.int i, .int j] ∧ Q (.int (if j < i then j else i)) H) := by
  intro G ρ M H ds vs mu d d' M' Q ok r e em h
  unfold blt1 at e
  split at e <;> try contradiction
  rename_i i j _ q
  cases e
  obtain ⟨v, w, rfl, r1, r2⟩ := two_args r ok q
  exact ⟨i, j, by rw [show v = .int i from r1, show w = .int j from r2], int_out ok em h⟩
theorem b_int : BOk X ca .int (fun xs H Q => (∃ i, xs = [.int i] ∧ Q (.int i) H) ∨ ∃ k, xs = [.bl k] ∧ Q (.int (if k then 1 else 0)) H) := by
  intro G ρ M H ds vs mu d d' M' Q ok r e em h
  unfold blt1 at e
  split at e <;> try contradiction
  · rename_i i _ q
    cases e
    obtain ⟨d0, v, rfl, rfl, z, r0, rs⟩ := one_arg r ok q
    exact .inl ⟨i, by rw [show v = .int i from rs], int_out ok em h⟩
  · rename_i i _ q
    cases e
    obtain ⟨d0, v, rfl, rfl, z, r0, rs⟩ := one_arg r ok q
    exact .inr ⟨i, by rw [show v = .bl i from rs], int_out ok em h⟩
theorem b_sum : BOk X ca .sum (rSum X.K) := by
  intro G ρ M H ds vs mu d d' M' Q ok r e em h
  unfold blt1 at e
  split at e <;> try contradiction
  rename_i xs _ q
  obtain ⟨d0, v, rfl, rfl, z, r0, rs⟩ := one_arg r ok q
  obtain ⟨p, us, rfl, g1, g2, g3⟩ := rs
  cases w : intsOf xs with
  | none => rw [w] at e; cases e
  | some ns =>
    rw [w] at e
    cases e
    rw [intsOf_eq w] at g3
    have z := RpL.ints g3
    subst z
    exact ⟨p, ns, rfl, SqL.of g1, int_out ok em h⟩
theorem b_any : BOk X ca .any (rAny X.K) := by
  intro G ρ M H ds vs mu d d' M' Q ok r e em h
  unfold blt1 at e
  split at e <;> try contradiction
  rename_i xs _ q
  obtain ⟨d0, v, rfl, rfl, z, r0, rs⟩ := one_arg r ok q
  obtain ⟨p, us, rfl, g1, g2, g3⟩ := rs
  cases w : blsOf xs with
  | none => rw [w] at e; cases e
  | some ns =>
    rw [w] at e
    cases e
    rw [blsOf_eq w] at g3
    have z := RpL.bls g3
    subst z
    exact ⟨p, ns, rfl, SqL.of g1, bl_out ok em h⟩
theorem b_all : BOk X ca .all (rAll X.K) := by
  intro G ρ M H ds vs mu d d' M' Q ok r e em h
  unfold blt1 at e
  split at e <;> try contradiction
  rename_i xs _ q
  obtain ⟨d0, v, rfl, rfl, z, r0, rs⟩ := one_arg r ok q
  obtain ⟨p, us, rfl, g1, g2, g3⟩ := rs
  cases w : blsOf xs with
  | none => rw [w] at e; cases e
  | some ns =>
    rw [w] at e
    cases e
    rw [blsOf_eq w] at g3
    have z := RpL.bls g3
    subst z
    exact ⟨p, ns, rfl, SqL.of g1, bl_out ok em h⟩
theorem leastI_ok : ∀ (r : List Int) (n m : Int), m ∈ n :: r → (∀ y, y ∈ n :: r → m ≤ y) → m = leastI n r
  | [], n, m, h, _ => by simpa [leastI] using h
  | x :: r, n, m, h, l => by
    rw [leastI]
    have hn := l n List.mem_cons_self
    have hx := l x (List.mem_cons_of_mem _ List.mem_cons_self)
    refine leastI_ok r _ m ?_ fun y hy => ?_
    · simp only [List.mem_cons] at h ⊢
      rcases h with h | h | h
      · split
        · exact .inl (by omega)
        · exact .inl h
      · split
        · exact .inl h
        · exact .inl (by omega)
      · exact .inr h
    · rcases List.mem_cons.mp hy with z | z
      · subst z; split <;> assumption
      · exact l y (List.mem_cons_of_mem _ (List.mem_cons_of_mem _ z))
theorem mostI_ok : ∀ (r : List Int) (n m : Int), m ∈ n :: r → (∀ y, y ∈ n :: r → y ≤ m) → m = mostI n r
  | [], n, m, h, _ => by simpa [mostI] using h
  | x :: r, n, m, h, l => by
    rw [mostI]
    have hn := l n List.mem_cons_self
    have hx := l x (List.mem_cons_of_mem _ List.mem_cons_self)
    refine mostI_ok r _ m ?_ fun y hy => ?_
    · simp only [List.mem_cons] at h ⊢
      rcases h with h | h | h
      · split
        · exact .inl (by omega)
        · exact .inl h
      · split
        · exact .inl h
        · exact .inl (by omega)
      · exact .inr h
    · rcases List.mem_cons.mp hy with z | z
      · subst z; split <;> assumption
      · exact l y (List.mem_cons_of_mem _ (List.mem_cons_of_mem _ z))
theorem b_min : BOk X ca .min (rMin X.K) := by
  intro G ρ M H ds vs mu d d' M' Q ok r e em h
  unfold blt1 at e
  split at e <;> try contradiction
  rename_i xs _ q
  obtain ⟨d0, v, rfl, rfl, z, r0, rs⟩ := one_arg r ok q
  obtain ⟨p, us, rfl, g1, g2, g3⟩ := rs
  cases w : intsOf xs with
  | none => rw [w] at e; cases e
  | some ns =>
    rw [w] at e
    rw [intsOf_eq w] at g3
    have z := RpL.ints g3
    subst z
    cases ns with
    | nil => cases e
    | cons n r' =>
      cases e
      exact ⟨p, _, rfl, SqL.of g1, by simp, fun m h1 h2 => by rw [leastI_ok r' n m h1 h2]; exact int_out ok em h⟩
theorem b_max : BOk X ca .max (rMax X.K) := by
  intro G ρ M H ds vs mu d d' M' Q ok r e em h
  unfold blt1 at e
  split at e <;> try contradiction
  rename_i xs _ q
  obtain ⟨d0, v, rfl, rfl, z, r0, rs⟩ := one_arg r ok q
  obtain ⟨p, us, rfl, g1, g2, g3⟩ := rs
  cases w : intsOf xs with
  | none => rw [w] at e; cases e
  | some ns =>
    rw [w] at e
    rw [intsOf_eq w] at g3
    have z := RpL.ints g3
    subst z
    cases ns with
    | nil => cases e
    | cons n r' =>
      cases e
      exact ⟨p, _, rfl, SqL.of g1, by simp, fun m h1 h2 => by rw [mostI_ok r' n m h1 h2]; exact int_out ok em h⟩
theorem b_list : BOk X ca .list (fun xs H Q => ∃ p ys, xs = [.ref p] ∧ (SqL X.K H p ys ∨ SqT X.K H p ys) ∧ ∀ l, H l = none → Q (.ref l) (upd H l (.lst ys))) := by
  intro G ρ M H ds vs mu d d' M' Q ok r e em h
  unfold blt1 at e
  split at e <;> try contradiction
  · rename_i xs _ q
    cases e
    obtain ⟨d0, v, rfl, rfl, z, r0, rs⟩ := one_arg r ok q
    obtain ⟨p, us, rfl, g1, g2, g3⟩ := rs
    exact ⟨p, us, rfl, .inl (SqL.of g1), fun l hl => mk_list ok em h g2 g3 hl⟩
  · rename_i xs _ q
    cases e
    obtain ⟨d0, v, rfl, rfl, z, r0, rs⟩ := one_arg r ok q
    obtain ⟨p, us, rfl, g1, g2, g3⟩ := rs
    exact ⟨p, us, rfl, .inr g1, fun l hl => mk_list ok em h g2 g3 hl⟩
theorem b_tuple : BOk X ca .tuple (fun xs H Q => ∃ p ys, xs = [.ref p] ∧ ((SqL X.K H p ys ∧ ∀ l, H l = none → Q (.ref l) (upd H l (.tup ys))) ∨ (SqT X.K H p ys ∧ Q (.ref p) H))) := by
  intro G ρ M H ds vs mu d d' M' Q ok r e em h
  unfold blt1 at e
  split at e <;> try contradiction
  · rename_i xs _ q
    cases e
    obtain ⟨rfl, rfl⟩ := mk_flat (by intro _ z; cases z) (by intro _ z; cases z) em
    obtain ⟨d0, v, rfl, rfl, z, r0, rs⟩ := one_arg r ok q
    obtain ⟨p, us, rfl, g1, g2, g3⟩ := rs
    exact ⟨p, us, rfl, .inl ⟨SqL.of g1, fun l hl => mk_tup ok h g2 g3 hl⟩⟩
  · rename_i xs _ q
    cases e
    obtain ⟨rfl, rfl⟩ := mk_flat (by intro _ z; cases z) (by intro _ z; cases z) em
    obtain ⟨d0, v, rfl, rfl, z, r0, rs⟩ := one_arg r ok q
    obtain ⟨p, us, rfl, g1, g2, g3⟩ := rs
    exact ⟨p, us, rfl, .inr ⟨g1, kont_here ok h ⟨p, us, rfl, g1, g2, g3⟩⟩⟩
end
end MP

/-! MP10: sorted, isinstance, append, calls. -/
namespace MP
open PySem PySem.Spec PyProof.Rows L2
section
variable {K : PySem.W.Frag} {F : Addr → Prop} {ρ : List Addr} {H : Hp}
def Rv (K : PySem.W.Frag) (F : Addr → Prop) (ρ : List Addr) (H : Hp) (u : Value) (d : D) : Prop := ∃ x : V, L2.RelV x u ∧ Rp K F ρ H d x
theorem each_in : ∀ {xs : List V} {us : List Value} {ds : List D}, Vals xs us → RpL K F ρ H ds xs → PySem.W.EachIs (Rv K F ρ H) us ds
  | _, _, [], .nil, _ => .nil
  | _, _, _ :: _, .nil, h => by
    obtain ⟨_, _, z, _⟩ := h
    cases z
  | _, _, [], .cons _ _, h => by
    have z : _ :: _ = ([] : List V) := h
    cases z
  | _, _, d :: ds, .cons r t, h => by
    obtain ⟨v, w, z, h1, h2⟩ := h
    cases z
    exact .cons ⟨_, r, h1⟩ (each_in t h2)
theorem each_out : ∀ {us : List Value} {ds : List D}, PySem.W.EachIs (Rv K F ρ H) us ds → ∃ xs, Vals xs us ∧ RpL K F ρ H ds xs
  | _, _, .nil => ⟨[], .nil, rfl⟩
  | _, _, .cons ⟨x, r, h⟩ t => by
    obtain ⟨xs, h1, h2⟩ := each_out t
    exact ⟨x :: xs, .cons r h1, x, xs, rfl, h, h2⟩
theorem dpL_mem : ∀ {ds : List D} {n : Nat}, dpL ds ≤ n → ∀ d ∈ ds, dp d ≤ n
  | [], _, _, d, h => nomatch h
  | x :: r, n, h, d, hd => by
    rw [dpL] at h
    rcases List.mem_cons.mp hd with z | z
    · subst z; omega
    · exact dpL_mem (by omega) d z
end
section
variable {X : Cx}
def rSrt (K : PySem.W.Frag) : List V → Hp → VK → Prop := fun vs H Q => ∃ (F : Addr → Prop) (ρ : List Addr) (a : Addr) (xs : List V) (ds : List D), vs = [.ref a] ∧ SqL K H a xs ∧ RpL K F ρ H ds xs ∧ sortOk ds = true ∧ ds.length ≤ sizeLine ∧
  ∀ ys p, RpL K F ρ H (sortD ds) ys → H p = none → Q (.ref p) (upd H p (.lst ys))
theorem nonTup_pd : ∀ {d : D}, nonTup d = true → pd d ≠ .none ∧ ∀ xs, pd d ≠ .tuple xs
  | .non, h => by cases h
  | .tup _, h => by cases h
  | .bl _, _ => by rw [pd]; exact ⟨(by intro w; cases w), (by intro xs w; cases w)⟩
  | .int _, _ => by rw [pd]; exact ⟨(by intro w; cases w), (by intro xs w; cases w)⟩
  | .str _, _ => by rw [pd]; exact ⟨(by intro w; cases w), (by intro xs w; cases w)⟩
  | .list _, _ => by rw [pd]; exact ⟨(by intro w; cases w), (by intro xs w; cases w)⟩
  | .dict _, _ => by rw [pd]; exact ⟨(by intro w; cases w), (by intro xs w; cases w)⟩
  | .loc _, _ => by rw [pd]; exact ⟨(by intro w; cases w), (by intro xs w; cases w)⟩
  | .fz _, _ => by rw [pd]; exact ⟨(by intro w; cases w), (by intro xs w; cases w)⟩
theorem sort_all {ds : List D} (h : sortOk ds = true) : PySem.W.AllAlike (ds.map pd) ∧ PySem.W.Sortable (ds.map pd) ∧ dpL ds ≤ 60 := by
  unfold sortOk at h
  rw [Bool.and_eq_true, Bool.and_eq_true, Bool.or_eq_true, decide_eq_true_eq, List.all_eq_true] at h
  obtain ⟨⟨h1, h2⟩, h3⟩ := h
  refine ⟨fun d hd e he => ?_, ?_, h3⟩
  · obtain ⟨d0, q0, rfl⟩ := List.mem_map.mp hd
    obtain ⟨e0, q1, rfl⟩ := List.mem_map.mp he
    exact List.all_eq_true.mp (h1 d0 q0) e0 q1
  · rcases h2 with h2 | h2
    · refine .inl fun d hd => ?_
      obtain ⟨d0, q0, rfl⟩ := List.mem_map.mp hd
      have z := List.all_eq_true.mp h2 d0 q0
      unfold hasItem at z
      split at z
      · rename_i x r
        exact ⟨pd x, pdL r, by rw [pd, pdL]⟩
      · cases z
    · refine .inr fun d hd => ?_
      obtain ⟨d0, q0, rfl⟩ := List.mem_map.mp hd
      have z := List.all_eq_true.mp h2 d0 q0
      exact nonTup_pd z
theorem opSrt (hu : X.A.units + 100 < cLine) : CallR X (.builtin "sorted") (rSrt X.K) := by
  intro pins s σ H vs us Q I r h
  obtain ⟨F, ρ, a, xs, ds, rfl, hs, hr, ho, hz, q⟩ := h
  obtain ⟨its, rv, pl, _⟩ := I.list hs
  rw [Vals.ref1 r]
  obtain ⟨hal, hk, hd⟩ := sort_all ho
  have e := each_in rv hr
  have er : PySem.W.EachIs (fun v b => ∃ as, Reads s.heap v (pd b) as) its ds := by
    have go : ∀ {us : List Value} {ds : List D}, PySem.W.EachIs (Rv X.K F ρ H) us ds → dpL ds ≤ 60 → PySem.W.EachIs (fun v b => ∃ as, Reads s.heap v (pd b) as) us ds := fun {us ds} h => by
      induction h with
      | nil => intro _; exact .nil
      | cons g _ ih =>
        intro hz
        rw [dpL] at hz
        obtain ⟨x, g1, g2⟩ := g
        exact .cons (Dp.reads I _ x _ (Rp.dp _ x (by omega) g2) g1) (ih (by omega))
    exact go e hd
  refine PySem.W.sorted_data (enc := pd) pl.isList e er hal hk hz (fun d hd' => by
    have := dpL_mem hd d hd'
    rw [(dp_lay d (by omega)).2]
    omega) fun out hl eo => ?_
  obtain ⟨ys, v1, v2⟩ := each_out eo
  obtain ⟨ep, he'⟩ := PyProof.Rows.sortedAll_at s.heap its out.toArray
  have hlen : ys.length ≤ sizeLine := by rw [Vals.length v1, hl]; exact hz
  exact ⟨.ref _, upd H (s.heap.objs.size + 1) (.lst ys), I.laid (t' := s.toks) (fun _ _ => PyProof.Rows.sortedAll_old) (Nat.le_succ _) ⟨hlen, out, ep, v1, he'⟩, rfl, q ys _ v2 (I.hok.fresh (Nat.le_succ _))⟩
theorem sortD_length (ds : List D) : (sortD ds).length = ds.length := List.length_mergeSort ds
theorem b_sorted {ca : Nat → Option Addr} : BOk X ca .sorted (rSrt X.K) := by
  intro G ρ M H ds vs mu d d' M' Q ok r e em h
  unfold blt1 at e
  split at e <;> try contradiction
  rename_i xs _ q
  split at e
  · rename_i hs
    cases e
    obtain ⟨d0, v, rfl, rfl, z, r0, rs⟩ := one_arg r ok q
    obtain ⟨p, us, rfl, g1, g2, g3⟩ := rs
    exact ⟨_, ρ, p, us, xs, rfl, SqL.of g1, g3, hs, g2, fun ys p hr hp => mk_list ok em h (by rw [sortD_length]; exact g2) hr hp⟩
  · cases e
end

/-! ### isinstance -/
theorem tyName_ok {K : PySem.W.Frag} {ca : Nat → Option Addr} {G : Addr → Prop} {ρ : List Addr} {M : Sto} {H : Hp} {d : D} {v : V} {t : String} (ok : Ok K ca G ρ M H) (r : Rp K (Fb G ρ M) ρ H d v) (e : tyName M d = some t) : TyX K H v (.type t) := by
  cases d with
  | non =>
    cases e
    have z : v = .non := r
    subst z
    exact .base .non
  | bl b =>
    cases e
    have z : v = .bl b := r
    subst z
    exact .base (.bl b)
  | int b =>
    cases e
    have z : v = .int b := r
    subst z
    exact .base (.int b)
  | str b =>
    cases e
    have z : v = .str b := r
    subst z
    exact .base (.str b)
  | list ds =>
    cases e
    obtain ⟨a, vs, rfl, h, _⟩ := r
    exact .base (.lst h)
  | tup ds =>
    cases e
    obtain ⟨a, vs, rfl, h, _⟩ := r
    rcases h with (h | ⟨o, h⟩) | ⟨o, its, n, h, hc, _⟩
    · exact .base (.tup h)
    · exact .fTuple h
    · exact .kTuple h hc
  | dict kvs =>
    cases e
    obtain ⟨a, us, rfl, h, _⟩ := r
    rcases h with h | ⟨o, h⟩
    · exact .base (.dK h)
    · exact .fDict h
  | fz ds => cases e
  | loc n =>
    obtain ⟨a, rfl, h⟩ := r
    unfold tyName at e
    simp only at e
    split at e
    · rename_i xs q
      cases e
      obtain ⟨vs, h1, _⟩ := ok.ob n _ a q h
      exact .base (.lst h1)
    · rename_i kvs q
      cases e
      obtain ⟨vs, h1, _⟩ := ok.ob n _ a q h
      exact .base (.dK h1)
    · cases e
/-- the kinds that are asked for -/
def kindNames : List String := ["NoneType", "bool", "int", "str", "list", "tuple", "dict"]
theorem kit_all : (kindNames.all fun t => kindNames.all fun u => kitB t u == some (isKind t u)) = true := by decide +kernel
theorem kit_one {t u : String} (ht : t ∈ kindNames) (hu : u ∈ kindNames) {K : PySem.W.Frag} : PySem.W.kitOne K (.type t) (.type u) = some (isKind t u) := by
  have h := List.all_eq_true.mp (List.all_eq_true.mp kit_all t ht) u hu
  exact kit_ty (eq_of_beq h)
theorem tyName_mem {M : Sto} {d : D} {t : String} (e : tyName M d = some t) : t ∈ kindNames := by
  unfold tyName at e
  split at e <;> first
    | (cases e; done)
    | (cases e; decide)
    | (split at e <;> first | (cases e; decide) | cases e)
section
variable {X : Cx} {ca : Nat → Option Addr} {F : FT} {cls : Nat → Nat} {e a b c : Expr} {es : List Expr} {pos p p1 : Pos} {A B C : E} {AS : EL} {mu : Bool}
theorem isi_inv {tys : List String} {many : Bool} {env : Env} {M : Sto} {d : D} {M' : Sto} (h : ev F cls (.isi A tys many) env M = some (d, M')) : ∃ x t, ev F cls A env M = some (x, M') ∧ tyName M' x = some t ∧ d = .bl (tys.any (isKind t)) := by
  rw [ev] at h
  split at h
  · cases h
  · rename_i x M1 e1
    split at h
    · cases h
    · rename_i t e2
      cases h
      exact ⟨x, t, e1, e2, rfl⟩
/-- isinstance(a, T) -/
theorem v_isi {u : String} (hu : u ∈ kindNames) (ha : PEv X ca F cls a A) (hT : PE X b (tC (.ty u))) (hg : Gl X "isinstance") (hm : X.mg "isinstance" = none)
    (hst : starEach [a, b] X.env = (false, eval a X.env) :: starEach [b] X.env) (hst2 : starEach [b] X.env = (false, eval b X.env) :: starEach [] X.env) (hpl : (backTo pos (starEach [b] X.env)).any (·.1) = false) :
    PEv X ca F cls (.Call (.Name "isinstance" p) [a, b] [] pos) (.isi A [u] false) := by
  refine PE.imp (pe_callB call_isi hg hm PyProof.Rows.boot_isinstance (pa_cons ha (pa_cons hT pa_nil hst2) hst) (he := hst) (hpl := hpl)) fun σ H Q ⟨G, ρ, env, M, d, M', a0, h, q⟩ => ?_
  obtain ⟨x, t, e1, e2, rfl⟩ := isi_inv h
  refine tE.go a0 e1 fun ρ1 v1 H1 x1 a1 r1 => ⟨v1, .ty u, .type t, .type u, isKind t u, rfl, .ty u, tyName_ok a1.ok r1 e2, kit_one (tyName_mem e2) hu, ?_⟩
  exact q ρ1 _ H1 x1 a1.ok (by show V.bl (isKind t u) = V.bl ([u].any (isKind t)); simp)
end
end MP

/-! MP11: calls; append. -/
namespace MP
open PySem PySem.Spec PyProof.Rows L2
/-- what a def keeps: it does what the evaluator says -/
def spF (K : PySem.W.Frag) (ca : Nat → Option Addr) (g : List D → Sto → Option (D × Sto)) (np : Nat) : Sp := fun vs H Q _ => vs.length = np ∧ ∃ G ρ M ds d M', Ok K ca G ρ M H ∧ RpL K (Fb G ρ M) ρ H ds vs ∧ g ds M = some (d, M') ∧ Kont K ca G ρ M H M' d Q
section
variable {K : PySem.W.Frag} {ca : Nat → Option Addr} {G : Addr → Prop} {ρ : List Addr} {M M' : Sto} {H : Hp} {ds dds : List D} {vs dvs : List V} {d : D} {Q : VK} {F : FT} {f : Nat} {np : Nat} {E : XK}
theorem fb_nil {G' : Addr → Prop} {a : Addr} (h : Fb G' [] [] a) : G' a := h.elim id fun l => (lv_nil l).elim
/-- a result that is a list of the store is from now on a pure one -/
theorem rd_pure {ρ2 : List Addr} {M2 : Sto} {H2 : Hp} {v : V} {d2 : D} (k2 : Ok K ca (Fb G ρ M) ρ2 M2 H2) (r : Rp K (Fb (Fb G ρ M) ρ2 M2) ρ2 H2 d2 v) (b : below 0 (rd M2 d2) = true) : Rp K (Fb G ρ M) ρ H2 (rd M2 d2) v := by
  cases d2 with
  | loc n =>
    have rs := k2.rs r
    obtain ⟨a, e, h⟩ := r
    cases q : rd M2 (.loc n) with
    | list xs =>
      rw [q] at rs b
      obtain ⟨a', vs, e', h1, h2, h3⟩ := rs
      have ea : a' = a := by rw [e] at e'; exact (V.ref.inj e').symm
      subst ea
      have hl : Lv ρ2 M2 a' := by
        unfold rd at q
        simp only at q
        split at q
        · rename_i ys z
          exact ⟨n, _, h, z, trivial⟩
        · cases q
        · cases q
      refine ⟨a', vs, e', h1, fun w => k2.gl a' w hl, h2, RpL.pure (by simpa only [below] using b) h3 _ (fun a w => .inl w) _⟩
    | dict kvs =>
      rw [q] at rs b
      obtain ⟨a', us, e', h1, h3⟩ := rs
      have ea : a' = a := by rw [e] at e'; exact (V.ref.inj e').symm
      subst ea
      have hl : Lv ρ2 M2 a' := by
        unfold rd at q
        simp only at q
        split at q
        · cases q
        · rename_i ys z
          exact ⟨n, _, h, z, trivial⟩
        · cases q
      exact ⟨a', us, e', h1, fun w => k2.gl a' w hl, RpK.cut (fun a w => .inl w) (fun i hi => absurd hi (Nat.not_lt_zero i)) kvs us (by simpa only [below] using b) h3⟩
    | loc m =>
      rw [q] at b
      simp [below] at b
    | _ =>
      unfold rd at q
      simp only at q
      split at q <;> cases q
  | _ => exact Rp.pure b r _ (fun a w => .inl w) _
theorem Ok.noG (k : Ok K ca G ρ M H) : Ok K ca (fun _ => False) [] [] H := ⟨rfl, List.nodup_nil, (fun a h => nomatch h), (fun a h => h.elim), (fun a h => h.elim), fun n m a h => by simp at h⟩
theorem rs_bor (k : Ok K ca G ρ M H) : ∀ {ds : List D} {vs : List V}, RpL K (Fb G ρ M) ρ H ds vs → belowL 0 (ds.map (rd M)) = true → RpL K (Fb (fun _ => False) [] []) [] H (ds.map (rd M)) vs
  | [], vs, h, _ => h
  | d :: ds, vs, h, b => by
    obtain ⟨v, w, rfl, h1, h2⟩ := h
    rw [List.map_cons, belowL, Bool.and_eq_true] at b
    refine ⟨v, w, rfl, ?_, rs_bor k h2 b.2⟩
    have rs := k.rs h1
    have nf : ∀ a, ¬ Fb (fun _ => False) [] [] a := fun a h => fb_nil h
    have bb := b.1
    generalize rd M d = d' at rs bb
    cases d' with
    | list xs =>
      obtain ⟨a, vs, e, g1, g2, g3⟩ := rs
      exact ⟨a, vs, e, g1, nf a, g2, RpL.pure (by simpa only [below] using bb) g3 _ (fun a w => (nf a w).elim) _⟩
    | dict kvs =>
      obtain ⟨a, us, e, g1, g3⟩ := rs
      exact ⟨a, us, e, g1, nf a, RpK.cut (fun a w => (nf a w).elim) (fun i hi => absurd hi (Nat.not_lt_zero i)) kvs us (by simpa only [below] using bb) g3⟩
    | loc m => simp [below] at bb
    | _ => exact Rp.pure (F := Fb G ρ M) (ρ := ρ) bb rs _ (fun a w => (nf a w).elim) _
/-- the call by a mode -/
theorem call_ok (m : CM) (ok : Ok K ca G ρ M H) (r : RpL K (Fb G ρ M) ρ H ds vs) (e : callM F m f ds M = some (d, M')) (h : Kont K ca G ρ M H M' d Q) (hdef : ∀ F' ρ' H', RpL K F' ρ' H' dds dvs) (hF : ∀ xs M, xs.length = ds.length → F f xs M = F f (xs ++ dds) M)
    (hn : ds.length + dds.length = np) : spF K ca (F f) np (vs ++ dvs) H Q E := by
  have hln : (vs ++ dvs).length = np := by rw [List.length_append, r.length, (hdef (Fb G ρ M) ρ H).length]; exact hn
  refine ⟨hln, ?_⟩
  cases m with
  | keep =>
    rw [show callM F .keep f ds M = F f ds M from rfl, hF ds M rfl] at e
    exact ⟨G, ρ, M, ds ++ dds, d, M', ok, RpL.append r (hdef _ _ _), e, h⟩
  | pure =>
    unfold callM at e
    simp only at e
    split at e
    · rename_i hb
      split at e
      · rename_i d2 M2 e2
        split at e
        · rename_i hd
          cases e
          rw [hF ds _ rfl] at e2
          refine ⟨Fb G ρ M, [], [], ds ++ dds, d2, M2, ok.empty, RpL.append (RpL.pure hb r _ (fun a w => fb_nil w) _) (hdef _ _ _), e2, fun ρ2 v H2 x k2 r2 => ?_⟩
          have bk := ok.back x
          exact h ρ v H2 bk.2 bk.1 (rd_pure k2 r2 hd)
        · cases e
      · cases e
    · cases e
  | own =>
    unfold callM at e
    simp only at e
    split at e
    · rename_i hb
      split at e
      · rename_i j M2 e2
        split at e
        · rename_i xs e3
          split at e
          · rename_i hx
            cases e
            rw [hF ds _ rfl] at e2
            refine ⟨Fb G ρ M, [], [], ds ++ dds, .loc j, M2, ok.empty, RpL.append (RpL.pure hb r _ (fun a w => fb_nil w) _) (hdef _ _ _), e2, fun ρ2 v H2 x k2 r2 => ?_⟩
            obtain ⟨p, rfl, hp⟩ := r2
            have ad := ok.adopt x k2 hp e3 hx
            exact h _ _ _ ad.2 ad.1 ⟨p, rfl, newM_at ok⟩
          · cases e
        · cases e
      · cases e
    · cases e
  | bor =>
    unfold callM at e
    simp only at e
    split at e
    · rename_i hb
      split at e
      · rename_i d2 M2 e2
        split at e
        · rename_i hd
          cases e
          rw [hF _ _ (by rw [List.length_map])] at e2
          refine ⟨fun _ => False, [], [], ds.map (rd M) ++ dds, d, M2, ok.noG, RpL.append (rs_bor ok r hb) (hdef _ _ _), e2, fun ρ2 v H2 x k2 r2 => ?_⟩
          have bk := ok.back x
          exact h ρ v H2 bk.2 bk.1 (Rp.bare _ _ d v hd r2)
        · cases e
      · cases e
    · cases e
  | tr =>
    unfold callM at e
    simp only at e
    split at e
    · rename_i d2 M2 e2
      split at e
      · rename_i hb
        cases e
        rw [Bool.and_eq_true, Bool.and_eq_true, decide_eq_true_eq] at hb
        rw [hF ds _ rfl] at e2
        refine ⟨G, ρ, M, ds ++ dds, d, M2, ok, RpL.append r (hdef _ _ _), e2, fun ρ2 v H2 x k2 r2 => ?_⟩
        obtain ⟨t1, t2, t3, t4⟩ := ok.trunc x k2 hb.2 hb.1.2
        exact h ρ v H2 t2 t1 (Rp.cut t3 t4 d v hb.1.1 r2)
      · cases e
    · cases e
end
section
variable {X : Cx} {ca : Nat → Option Addr} {F : FT} {cls : Nat → Nat} {e a b c : Expr} {es : List Expr} {pos p p1 : Pos} {A B C : E} {AS : EL} {mu : Bool}
/-- how a def is called from here -/
structure Callee (X : Cx) (ca : Nat → Option Addr) (F : FT) (k : Nat) (x : Str) (f : Nat) (np n : Nat) : Prop where
  ex : ∃ (fa : Addr) (fd : FuncData) (ps : List Str) (dvs : List V) (dus : List Value) (dds : List D), X.mg x = some (.ref fa) ∧ PySem.W.keepIn X.K (.ref fa) = true ∧ FnOk X.prog X.w X.K X.mg X.base CX0 k fa fd ps (spF X.K ca (F f) np) ∧ Binds X.K fd ps dus ∧ Vals dvs dus ∧
    (∀ F' ρ' H', RpL X.K F' ρ' H' dds dvs) ∧ (∀ xs M, xs.length = n → F f xs M = F f (xs ++ dds) M) ∧ n + dds.length = np
def ELlen : EL → Nat
  | .nil => 0
  | .cons _ r => ELlen r + 1
theorem evL_len : ∀ {AS : EL} {env : Env} {M : Sto} {ds : List D} {M' : Sto}, evL F cls AS env M = some (ds, M') → ds.length = ELlen AS
  | .nil, env, M, ds, M', h => by
    rw [evL] at h
    cases h
    rfl
  | .cons A AS, env, M, ds, M', h => by
    obtain ⟨d, M1, r, e1, e2, rfl⟩ := acons_inv h
    rw [List.length_cons, evL_len e2]; rfl
theorem v_call {m : CM} {f k np : Nat} {x : Str} (cl : Callee X ca F k x f np (ELlen AS)) (hr : Room k X.A) (hg : Gl X x) (hs : PAv X ca F cls (e :: es) AS) (hdb : (x == ("__debug__" : Str)) = false)
    (he : starEach (e :: es) X.env = (false, eval e X.env) :: starEach es X.env) (hpl : (backTo pos (starEach es X.env)).any (·.1) = false) : PEv X ca F cls (.Call (.Name x p) (e :: es) [] pos) (.call m f AS) := by
  obtain ⟨fa, fd, ps, dvs, dus, dds, h1, h2, h3, h4, h5, h6, h7, h8⟩ := cl.ex
  refine PE.imp (pe_call (E := E0) h3 hr hg h1 h2 h4 h5 pass0 hs hdb he hpl) fun σ H Q ⟨G, ρ, env, M, d, M', a0, h, q⟩ => ?_
  rw [ev] at h
  split at h
  · cases h
  · rename_i ds M1 e1
    have hl := evL_len e1
    exact tL.go a0 e1 fun ρ1 v1 H1 x1 a1 r1 => call_ok m a1.ok r1 h (fun ρ' v H' x k r => q ρ' v H' (x1.trans x) k r) h6 (by rw [hl]; exact h7) (by rw [hl]; exact h8)
theorem v_call0 {m : CM} {f k np : Nat} {x : Str} (cl : Callee X ca F k x f np 0) (hr : Room k X.A) (hg : Gl X x) (hdb : (x == ("__debug__" : Str)) = false) : PEv X ca F cls (.Call (.Name x p) [] [] pos) (.call m f .nil) := by
  obtain ⟨fa, fd, ps, dvs, dus, dds, h1, h2, h3, h4, h5, h6, h7, h8⟩ := cl.ex
  refine PE.imp (pe_call0 (E := E0) h3 hr hg h1 h2 h4 h5 pass0 hdb) fun σ H Q ⟨G, ρ, env, M, d, M', a0, h, q⟩ => ?_
  rw [ev, evL] at h
  exact call_ok (E := E0) (ds := []) (vs := []) m a0.ok rfl h q h6 h7 h8

/-! ### append, extend -/
theorem app_inv {env : Env} {M : Sto} {d : D} {M' : Sto} (h : ev F cls (.app A B) env M = some (d, M')) : ∃ (n : Nat) (M1 : Sto) (zs : List D) (y : D) (M2 : Sto) (xs : List D), ev F cls A env M = some (.loc n, M1) ∧ M1[n]? = some (.list zs) ∧ ev F cls B env M1 = some (y, M2) ∧ M2[n]? = some (.list xs) ∧ xs.length < LINE ∧ d = .non ∧ M' = M2.set n (.list (xs ++ [y])) := by
  rw [ev] at h
  split at h
  · rename_i n M1 e1
    split at h
    · rename_i zs e0
      split at h
      · cases h
      · rename_i y M2 e2
        split at h
        · rename_i xs e3
          split at h
          · rename_i hz
            cases h
            exact ⟨n, M1, zs, y, M2, xs, e1, e0, e2, e3, hz, rfl, rfl⟩
          · cases h
        · cases h
    · cases h
  · cases h
theorem v_app {apos : Pos} (ha : PEv X ca F cls a A) (hb : PEv X ca F cls b B) (hbase : attributeBase a "append" X.env (eval a X.env) = eval a X.env)
    (hfew : ((backTo pos (starEach [b] X.env)).all (fun x => !x.1) && (backToKw pos (keywordEach [] X.env)).all (fun x => x.1.isSome) && decide (([b] : List Expr).length + ([] : List Keyword).length + (if ([] : List Keyword).isEmpty then 0 else 1) < 30)) = true)
    (hline : (apos.endLine == pos.line) = true) (hst : starEach [b] X.env = (false, eval b X.env) :: starEach [] X.env) (hplain : (backTo pos (starEach [] X.env)).any (·.1) = false) :
    PEv X ca F cls (.Call (.Attribute a "append" apos) [b] [] pos) (.app A B) := by
  refine PE.imp (pe_bm PySem.F.plainAttrs_list PySem.F.slot_list_append PySem.F.type_list_append mt_append ha (pa_cons hb pa_nil hst) hbase hfew hline hst hplain) fun σ H Q ⟨G, ρ, env, M, d, M', a0, h, q⟩ => ?_
  obtain ⟨n, M1, zs, y, M2, xs, e1, e0, e2, e3, hz, rfl, rfl⟩ := app_inv h
  refine tE.go a0 e1 fun ρ1 v1 H1 x1 a1 r1 => ?_
  obtain ⟨p, rfl, hp⟩ := r1
  obtain ⟨us, k1, _⟩ := a1.ok.ob n _ p e0 hp
  refine ⟨.inl ⟨rfl, us, SqL.of k1⟩, tE.go a1 e2 fun ρ2 v2 H2 x2 a2 r2 => ?_⟩
  obtain ⟨vs, g1, g2, g3⟩ := a2.ok.ob n _ p e3 (x2.pre n p hp)
  rw [lineEq] at hz
  refine ⟨p, vs, v2, rfl, rfl, g1, by rw [g3.length]; exact hz, ?_⟩
  have w := a2.ok.write (m' := .list (xs ++ [y])) (o := .lst (vs ++ [v2])) e3 (x2.pre n p hp) trivial trivial fun F' ρ' H' o e => ⟨_, e, by rw [List.length_append]; exact hz, RpL.on o _ _ (RpL.append g3 (RpL.one r2))⟩
  exact q ρ2 _ _ ((x1.trans x2).trans w.2) w.1 rfl
theorem ext_inv {env : Env} {M : Sto} {d : D} {M' : Sto} (h : ev F cls (.ext A B) env M = some (d, M')) : ∃ (n : Nat) (M1 : Sto) (zs : List D) (y : D) (M2 : Sto) (xs ys : List D), ev F cls A env M = some (.loc n, M1) ∧ M1[n]? = some (.list zs) ∧ ev F cls B env M1 = some (y, M2) ∧ M2[n]? = some (.list xs) ∧ rd M2 y = .list ys ∧ xs.length + ys.length ≤ LINE ∧ d = .non ∧ M' = M2.set n (.list (xs ++ ys)) := by
  rw [ev] at h
  split at h
  · rename_i n M1 e1
    split at h
    · rename_i zs e0
      split at h
      · rename_i y M2 e2
        split at h
        · rename_i xs ys e3 e4
          split at h
          · rename_i hz
            cases h
            exact ⟨n, M1, zs, y, M2, xs, ys, e1, e0, e2, e3, e4, hz, rfl, rfl⟩
          · cases h
        · cases h
      · cases h
    · cases h
  · cases h
theorem v_ext {apos : Pos} (ha : PEv X ca F cls a A) (hb : PEv X ca F cls b B) (hbase : attributeBase a "extend" X.env (eval a X.env) = eval a X.env)
    (hfew : ((backTo pos (starEach [b] X.env)).all (fun x => !x.1) && (backToKw pos (keywordEach [] X.env)).all (fun x => x.1.isSome) && decide (([b] : List Expr).length + ([] : List Keyword).length + (if ([] : List Keyword).isEmpty then 0 else 1) < 30)) = true)
    (hline : (apos.endLine == pos.line) = true) (hst : starEach [b] X.env = (false, eval b X.env) :: starEach [] X.env) (hplain : (backTo pos (starEach [] X.env)).any (·.1) = false) :
    PEv X ca F cls (.Call (.Attribute a "extend" apos) [b] [] pos) (.ext A B) := by
  refine PE.imp (pe_bm PySem.F.plainAttrs_list PySem.F.slot_list_extend PySem.F.type_list_extend mt_extend ha (pa_cons hb pa_nil hst) hbase hfew hline hst hplain) fun σ H Q ⟨G, ρ, env, M, d, M', a0, h, q⟩ => ?_
  obtain ⟨n, M1, zs, y, M2, xs, ys, e1, e0, e2, e3, e4, hz, rfl, rfl⟩ := ext_inv h
  refine tE.go a0 e1 fun ρ1 v1 H1 x1 a1 r1 => ?_
  obtain ⟨p, rfl, hp⟩ := r1
  obtain ⟨us, k1, _⟩ := a1.ok.ob n _ p e0 hp
  refine ⟨.inl ⟨rfl, us, SqL.of k1⟩, tE.go a1 e2 fun ρ2 v2 H2 x2 a2 r2 => ?_⟩
  obtain ⟨vs, g1, g2, g3⟩ := a2.ok.ob n _ p e3 (x2.pre n p hp)
  have rs := a2.ok.rs r2
  rw [e4] at rs
  obtain ⟨b', ws, rfl, c1, c2, c3⟩ := rs
  rw [lineEq] at hz
  refine ⟨p, b', vs, ws, rfl, rfl, g1, c1, by rw [g3.length, c3.length]; exact hz, ?_⟩
  have w := a2.ok.write (m' := .list (xs ++ ys)) (o := .lst (vs ++ ws)) e3 (x2.pre n p hp) trivial trivial fun F' ρ' H' o e => ⟨_, e, by rw [List.length_append]; exact hz, RpL.on o _ _ (RpL.append g3 c3)⟩
  exact q ρ2 _ _ ((x1.trans x2).trans w.2) w.1 rfl
end
end MP

/-! MP12: what is walked; comprehensions. -/
namespace MP
open PySem PySem.Spec PyProof.Rows L2
/-- an iterator serves the values vs (or pairs of place and value) while st holds -/
structure Srv (J : It) (st : Hp → Prop) (vs : List V) (en : Bool) : Prop where
  go : ∀ (i : Nat) (H : Hp) (v : V), st H → vs[i]? = some v → J.go i H ∧ ∀ x H', J.yld i H x H' → if en = true then ∃ T, H T = none ∧ H' = upd H T (.tup [.int i, v]) ∧ x = .ref T else H' = H ∧ x = v
  stop : ∀ (i : Nat) (H : Hp), st H → vs.length ≤ i → J.stop i H
/-- what a source's iterator is -/
def SrcOk (K : PySem.W.Frag) (G : Addr → Prop) (ρ : List Addr) (M : Sto) (H : Hp) (J : It) : Src → Prop
  | .pure xs => ∃ ds vs en st, xs = (if en = true then ds.mapIdx fun i x => D.tup [.int i, x] else ds) ∧ RpL K (Fb G ρ M) ρ H ds vs ∧ Srv J st vs en ∧ ∀ H2 : Hp, (∀ a o, H a = some o → ¬ Lv ρ M a → H2 a = some o) → st H2
  | .loc n _ => ∃ a, ρ[n]? = some a ∧ J = Itl K a
def tI (K : PySem.W.Frag) (ca : Nat → Option Addr) (f : Env → Sto → Option (Src × Sto)) : TI := fun σ H R => ∃ G ρ env M s M', At K ca G ρ M H σ env ∧ f env M = some (s, M') ∧
  ∀ ρ' H' J, Ext ρ M H ρ' M' H' → Ok K ca G ρ' M' H' → SrcOk K G ρ' M' H' J s → R J H'
theorem PI.imp {X : Cx} {tg e : Expr} {t t' : TI} (h : PI X tg e t) (i : ∀ σ H R, t' σ H R → t σ H R) : PI X tg e t' := ⟨fun pins s σ H R I q => h.run pins s σ H R I (i _ _ _ q)⟩
/-- the evaluation of what is walked -/
def evI (F : FT) (cls : Nat → Nat) (k : IK) (a b : E) (env : Env) (M : Sto) : Option (Src × Sto) := match ev F cls a env M with
  | none => none
  | some (x, M0) => match optD (isAbs b) M0 (ev F cls b env M0) with
    | none => none
    | some (y, M1) => match srcOf k M1 x y with
      | none => none
      | some s => some (s, M1)
theorem Srv.list {K : PySem.W.Frag} {a : Addr} {vs : List V} : Srv (Itl K a) (fun H => H a = some (.lst vs)) vs false :=
  ⟨fun i H v h e => ⟨⟨vs, v, SqL.of h, e⟩, fun x H' ⟨e1, e2⟩ => by
      rw [if_neg Bool.false_ne_true]
      exact ⟨e1, Option.some.inj ((e2 vs (SqL.of h)).symm.trans e)⟩⟩,
    fun i H h l => ⟨vs, SqL.of h, l⟩⟩
theorem Srv.tup {K : PySem.W.Frag} {a : Addr} {vs : List V} : Srv (Itt K a) (fun H => SqT K H a vs) vs false :=
  ⟨fun i H v h e => ⟨⟨vs, v, h, e⟩, fun x H' ⟨e1, e2⟩ => by
      rw [if_neg Bool.false_ne_true]
      exact ⟨e1, Option.some.inj ((e2 vs h).symm.trans e)⟩⟩,
    fun i H h l => ⟨vs, h, l⟩⟩
theorem Srv.range {lo : Int} {n : Nat} : Srv (Itr lo n) (fun _ => True) ((List.range n).map fun (i : Nat) => V.int (lo + i)) false :=
  ⟨fun i H v _ e => by
      have hi : i < n := by
        have := (List.getElem?_eq_some_iff.mp e).1
        simpa using this
      refine ⟨hi, fun x H' ⟨e1, e2⟩ => ?_⟩
      rw [if_neg Bool.false_ne_true]
      refine ⟨e1, ?_⟩
      rw [List.getElem?_map, List.getElem?_range hi] at e
      rw [e2]
      exact Option.some.inj e,
    fun i H _ l => by
      have l' : n ≤ i := by simpa using l
      exact l'⟩
theorem RpL.range {K : PySem.W.Frag} {F : Addr → Prop} {ρ : List Addr} {H : Hp} (lo : Int) : ∀ (l : List Nat), RpL K F ρ H (l.map fun (i : Nat) => D.int (lo + i)) (l.map fun (i : Nat) => V.int (lo + i))
  | [] => rfl
  | x :: l => ⟨_, _, rfl, rfl, RpL.range lo l⟩
section
variable {X : Cx} {ca : Nat → Option Addr} {F : FT} {cls : Nat → Nat} {tg e a b c : Expr} {es : List Expr} {pos p p1 : Pos} {A B C : E} {AS : EL} {mu : Bool}
abbrev PIv (X : Cx) (ca : Nat → Option Addr) (F : FT) (cls : Nat → Nat) (tg e : Expr) (k : IK) (A B : E) : Prop := PI X tg e (tI X.K ca (evI F cls k A B))
theorem PI.or {t1 t2 : TI} (h1 : PI X tg e t1) (h2 : PI X tg e t2) : PI X tg e fun σ H Q => t1 σ H Q ∨ t2 σ H Q := ⟨fun pins s σ H Q I h => h.elim (h1.run pins s σ H Q I) (h2.run pins s σ H Q I)⟩
theorem evI_inv {k : IK} {env : Env} {M : Sto} {s : Src} {M' : Sto} (h : evI F cls k A B env M = some (s, M')) : ∃ x M0 y, ev F cls A env M = some (x, M0) ∧ optD (isAbs B) M0 (ev F cls B env M0) = some (y, M') ∧ srcOf k M' x y = some s := by
  unfold evI at h
  split at h
  · cases h
  · rename_i x M0 e1
    split at h
    · cases h
    · rename_i y M1 e2
      split at h
      · cases h
      · rename_i s0 e3
        cases h
        exact ⟨x, M0, y, e1, e2, e3⟩
theorem i_seq (ha : PEv X ca F cls a A) : PIv X ca F cls tg a .seq A .absent := by
  refine PI.imp (PI.or (pi_list ha) (pi_tup ha)) fun σ H R ⟨G, ρ, env, M, s, M', a0, h, q⟩ => ?_
  obtain ⟨x, M0, y, e1, e2, e3⟩ := evI_inv h
  simp only [optD, isAbs, if_true] at e2
  cases e2
  cases x with
  | list xs =>
    simp only [srcOf] at e3
    cases e3
    refine .inl (tE.go a0 e1 fun ρ1 v1 H1 x1 a1 r1 => ?_)
    obtain ⟨p, vs, rfl, g1, g2, g3, g4⟩ := r1
    have nl : ¬ Lv ρ1 M' p := fun l => g2 (.inr l)
    exact ⟨p, rfl, ⟨vs, SqL.of g1⟩, q ρ1 H1 _ x1 a1.ok ⟨xs, vs, false, _, rfl, g4, Srv.list, fun H2 k => k p _ g1 nl⟩⟩
  | tup xs =>
    simp only [srcOf] at e3
    cases e3
    refine .inr (tE.go a0 e1 fun ρ1 v1 H1 x1 a1 r1 => ?_)
    obtain ⟨p, vs, rfl, g1, g3, g4⟩ := r1
    refine ⟨p, rfl, ⟨vs, g1⟩, q ρ1 H1 _ x1 a1.ok ⟨xs, vs, false, _, rfl, g4, Srv.tup, fun H2 k => ?_⟩⟩
    rcases g1 with g1 | g1
    · have nl : ¬ Lv ρ1 M' p := fun l => by
        obtain ⟨o, k1, k2, k3⟩ := a1.ok.lv l
        rcases g1 with g1 | ⟨ob, g1⟩
        · rw [k1] at g1; exact k2 _ (Option.some.inj g1)
        · rw [k1] at g1; exact k3 _ _ (Option.some.inj g1)
      rcases g1 with g1 | ⟨ob, g1⟩
      · exact .inl (.inl (k p _ g1 nl))
      · exact .inl (.inr ⟨ob, k p _ g1 nl⟩)
    · exact .inr g1
  | loc n =>
    simp only [srcOf] at e3
    split at e3
    · rename_i xs e4
      cases e3
      refine .inl (tE.go a0 e1 fun ρ1 v1 H1 x1 a1 r1 => ?_)
      obtain ⟨p, rfl, hp⟩ := r1
      obtain ⟨vs, g1, g2, g3⟩ := a1.ok.ob n _ p e4 hp
      exact ⟨p, rfl, ⟨vs, SqL.of g1⟩, q ρ1 H1 _ x1 a1.ok ⟨p, hp, rfl⟩⟩
    · cases e3
  | _ => cases e3
theorem i_rng1 (ha : PEv X ca F cls a A) (hg : Gl X "range") (hm : X.mg "range" = none) (hst : starEach [a] X.env = [(false, eval a X.env)]) : PIv X ca F cls tg (.Call (.Name "range" p) [a] [] pos) .rng1 A .absent := by
  refine PI.imp (pi_range1 hg hm (pa_cons ha pa_nil hst) hst) fun σ H R ⟨G, ρ, env, M, s, M', a0, h, q⟩ => ?_
  obtain ⟨x, M0, y, e1, e2, e3⟩ := evI_inv h
  simp only [optD, isAbs, if_true] at e2
  cases e2
  cases x with
  | int j =>
    simp only [srcOf] at e3
    split at e3
    · rename_i hz
      cases e3
      refine tE.go a0 e1 fun ρ1 v1 H1 x1 a1 r1 => ⟨j, by rw [show v1 = .int j from r1], by omega, by omega, q ρ1 H1 _ x1 a1.ok ?_⟩
      have e0 : ∀ l : List Nat, (l.map fun (i : Nat) => D.int i) = l.map fun (i : Nat) => D.int (0 + (i : Int)) := fun l => List.map_congr_left fun i _ => by rw [Int.zero_add]
      exact ⟨_, _, false, _, rfl, by rw [e0]; exact RpL.range 0 _, Srv.range, fun _ _ => trivial⟩
    · cases e3
  | _ => cases e3
theorem i_rng2 (ha : PEv X ca F cls a A) (hb : PEv X ca F cls b B) (hB : isAbs B = false) (hg : Gl X "range") (hm : X.mg "range" = none) (hst : starEach [a, b] X.env = [(false, eval a X.env), (false, eval b X.env)]) (hst2 : starEach [b] X.env = [(false, eval b X.env)]) : PIv X ca F cls tg (.Call (.Name "range" p) [a, b] [] pos) .rng2 A B := by
  refine PI.imp (pi_range2 hg hm (pa_cons ha (pa_cons hb pa_nil hst2) (by rw [hst, hst2])) hst hst2) fun σ H R ⟨G, ρ, env, M, s, M', a0, h, q⟩ => ?_
  obtain ⟨x, M0, y, e1, e2, e3⟩ := evI_inv h
  simp only [optD, hB, if_neg Bool.false_ne_true] at e2
  cases x with
  | int i =>
    cases y with
    | int j =>
      simp only [srcOf] at e3
      split at e3
      · rename_i hz
        cases e3
        exact tE.go a0 e1 fun ρ1 v1 H1 x1 a1 r1 => tE.go a1 e2 fun ρ2 v2 H2 x2 a2 r2 => ⟨i, j, by rw [show v1 = .int i from r1, show v2 = .int j from r2], by omega, q ρ2 H2 _ (x1.trans x2) a2.ok ⟨_, _, false, _, rfl, RpL.range i _, Srv.range, fun _ _ => trivial⟩⟩
      · cases e3
    | _ => cases e3
  | _ => cases y <;> cases e3
theorem Srv.enum {K : PySem.W.Frag} {a : Addr} {vs : List V} : Srv (Ite K a) (fun H => H a = some (.lst vs)) vs true :=
  ⟨fun i H v h e => ⟨⟨vs, v, SqL.of h, e⟩, fun x H' ⟨T, y, e1, e2, e3, e4⟩ => by
      rw [if_pos rfl]
      have ey : y = v := Option.some.inj ((e4 vs (SqL.of h)).symm.trans e)
      subst ey
      exact ⟨T, e2, e3, e1⟩⟩,
    fun i H h l => ⟨vs, SqL.of h, l⟩⟩
theorem i_enum {elts : List Expr} {kk : Nat} {tpos : Pos} (ha : PEv X ca F cls a A) (hg : Gl X "enumerate") (hm : X.mg "enumerate" = none) (hst : starEach [a] X.env = [(false, eval a X.env)]) : PIv X ca F cls (.Tuple elts kk tpos) (.Call (.Name "enumerate" p) [a] [] pos) .enum A .absent := by
  refine PI.imp (pi_enum hg hm (pa_cons ha pa_nil hst) hst) fun σ H R ⟨G, ρ, env, M, s, M', a0, h, q⟩ => ?_
  obtain ⟨x, M0, y, e1, e2, e3⟩ := evI_inv h
  simp only [optD, isAbs, if_true] at e2
  cases e2
  cases x with
  | list xs =>
    simp only [srcOf] at e3
    cases e3
    refine tE.go a0 e1 fun ρ1 v1 H1 x1 a1 r1 => ?_
    obtain ⟨p, vs, rfl, g1, g2, g3, g4⟩ := r1
    have nl : ¬ Lv ρ1 M' p := fun l => g2 (.inr l)
    exact ⟨p, vs, rfl, SqL.of g1, q ρ1 H1 _ x1 a1.ok ⟨xs, vs, true, _, rfl, g4, Srv.enum, fun H2 k => k p _ g1 nl⟩⟩
  | _ => cases e3

/-! ### targets -/
theorem asg_ok {K : PySem.W.Frag} {G : Addr → Prop} {F : Addr → Prop} {ρ : List Addr} {H : Hp} {σ : L2.St} {env : Env} {i : Nat} {d : D} {v : V} (r : EnvR K F ρ H σ env) (q : Rp K F ρ H d v) {env1 : Env} (e : asg (.nm i) d env = some env1) : EnvR K F ρ H (σ.set i (some v)) env1 := by
  cases e
  exact r.set q i
def gT (K : PySem.W.Frag) : T → TG
  | .nm i => gName i
  | .tp is => gTup K is.length (is.foldr (fun i g => gCons (gName i) g) gNil)
theorem foldl_set {K : PySem.W.Frag} {F : Addr → Prop} {ρ : List Addr} {H : Hp} {Q : L2.St → Hp → Prop} : ∀ {is : List Nat} {ds : List D} {vs : List V} {σ : L2.St} {env : Env}, is.length = ds.length → RpL K F ρ H ds vs → EnvR K F ρ H σ env →
    (∀ σ', EnvR K F ρ H σ' ((is.zip ds).foldl (fun e p => e.set p.1 (some p.2)) env) → (∀ j, j ∉ is → σ'[j]? = σ[j]?) → Q σ' H) → is.foldr (fun i g => gCons (gName i) g) gNil vs σ H Q
  | [], [], vs, σ, env, _, h, r, q => ⟨h, q σ r fun _ _ => rfl⟩
  | [], _ :: _, _, _, _, l, _, _, _ => by cases l
  | _ :: _, [], _, _, _, l, _, _, _ => by cases l
  | i :: is, d :: ds, vs, σ, env, l, h, r, q => by
    obtain ⟨v, w, rfl, h1, h2⟩ := h
    refine ⟨v, w, rfl, ?_⟩
    show is.foldr (fun i g => gCons (gName i) g) gNil w (σ.set i (some v)) H Q
    exact foldl_set (by simpa using l) h2 (r.set h1 i) fun σ' r' k => q σ' r' fun j hj => by
      rw [List.mem_cons, not_or] at hj
      rw [k j hj.2, List.getElem?_set_ne (Ne.symm hj.1)]
def tslots : T → List Nat
  | .nm i => [i]
  | .tp is => is
theorem gT_ok {K : PySem.W.Frag} {F : Addr → Prop} {ρ : List Addr} {H : Hp} {σ : L2.St} {env env1 : Env} {d : D} {v : V} {t : T} {Q : L2.St → Hp → Prop} (r : EnvR K F ρ H σ env) (q : Rp K F ρ H d v) (e : asg t d env = some env1)
    (h : ∀ σ', EnvR K F ρ H σ' env1 → (∀ j, j ∉ tslots t → σ'[j]? = σ[j]?) → Q σ' H) : gT K t v σ H Q := by
  cases t with
  | nm i =>
    cases e
    exact h _ (r.set q i) fun j hj => by
      have z : i ≠ j := fun w => hj (by subst w; exact List.mem_cons_self)
      exact List.getElem?_set_ne z
  | tp is =>
    cases d with
    | tup ds =>
      simp only [asg] at e
      split at e
      · rename_i hl
        cases e
        obtain ⟨a, vs, rfl, g1, g2, g3⟩ := q
        exact ⟨a, vs, rfl, g1, by rw [g3.length, hl], foldl_set hl.symm g3 r h⟩
      · cases e
    | _ => cases e
end
end MP

/-! MP13: comprehensions. -/
namespace MP
open PySem PySem.Spec PyProof.Rows L2
/-- the block's own list, not to be touched -/
def Gd (G : Addr → Prop) (D : Addr) : Addr → Prop := fun a => G a ∨ a = D
section
variable {K : PySem.W.Frag} {ca : Nat → Option Addr} {G : Addr → Prop} {ρ ρ1 : List Addr} {M M1 : Sto} {H H1 : Hp} {D : Addr}
theorem Ext.onD (k : Ok K ca G ρ1 M1 H1) (e : Ext ρ1 M1 H1 ρ M H) (hD : H1 D = none) : On (Fb G ρ1 M1) ρ1 H1 (Fb (Gd G D) ρ M) ρ H := by
  have o := e.on k
  have nf : ∀ a, ¬ Fb G ρ M a → a ≠ D → ¬ Fb (Gd G D) ρ M a := fun a f z w => by
    rcases w with (w | w) | w
    · exact f (.inl w)
    · exact z w
    · exact f (.inr w)
  refine ⟨o.pre, fun a u h f => ?_, fun a u h f => ?_, fun a u h f => ?_, o.tup⟩
  · have q := o.ls a u h f
    exact ⟨q.1, nf a q.2 (ne_of_none h hD)⟩
  · have q := o.fz a u h f
    obtain ⟨ob, h⟩ := h
    exact ⟨q.1, nf a q.2 (ne_of_none h hD)⟩
  · have q := o.dk a u h f
    rcases h with h | ⟨ob, h⟩
    · exact ⟨q.1, nf a q.2 (ne_of_none h hD)⟩
    · exact ⟨q.1, nf a q.2 (ne_of_none h hD)⟩
theorem Ok.guard (k : Ok K ca G ρ M H) (hD : H D = none) (o : HO) : Ok K ca (Gd G D) ρ M (upd H D o) ∧ Ext ρ M H ρ M (upd H D o) := by
  have n := k.new hD o
  have on := n.2.onD k hD
  refine ⟨⟨k.len, k.nd, n.1.trk, fun a g => ?_, fun a g => ?_, fun i m a h1 h2 => ?_⟩, n.2⟩
  · rcases g with g | g
    · exact n.1.gt a g
    · subst g; exact ⟨o, upd_same⟩
  · rcases g with g | g
    · exact k.gn a g
    · subst g; exact k.notin hD
  · have hne : a ≠ D := fun z => k.notin hD (z ▸ List.mem_of_getElem? h2)
    exact MOk.on on (upd_ne hne) (k.ob i m a h1 h2)
theorem On.gset {F : Addr → Prop} (fD : F D) {acc : List V} (hD : H D = some (.lst acc)) (acc' : List V) : On F ρ H F ρ (upd H D (.lst acc')) := by
  have ne : ∀ a, ¬ F a → a ≠ D := fun a f z => f (z ▸ fD)
  refine ⟨fun _ _ h => h, fun a u h f => ⟨by rw [upd_ne (ne a f)]; exact h, f⟩, fun a u ⟨o, h⟩ f => ⟨⟨o, by rw [upd_ne (ne a f)]; exact h⟩, f⟩, fun a u h f => ⟨?_, f⟩, fun a u h => ?_⟩
  · rcases h with h | ⟨o, h⟩
    · exact .inl (by rw [upd_ne (ne a f)]; exact h)
    · exact .inr ⟨o, by rw [upd_ne (ne a f)]; exact h⟩
  · have z : a ≠ D := fun z => by
      subst z
      rcases h with h | ⟨o, h⟩
      · rw [hD] at h; cases h
      · rw [hD] at h; cases h
    rcases h with h | ⟨o, h⟩
    · exact .inl (by rw [upd_ne z]; exact h)
    · exact .inr ⟨o, by rw [upd_ne z]; exact h⟩
theorem Ok.gset (k : Ok K ca G ρ M H) (gD : G D) {acc : List V} (hD : H D = some (.lst acc)) (acc' : List V) : Ok K ca G ρ M (upd H D (.lst acc')) := by
  have on : On (Fb G ρ M) ρ H (Fb G ρ M) ρ (upd H D (.lst acc')) := On.gset (.inl gD) hD acc'
  refine ⟨k.len, k.nd, fun a h => ?_, fun a h => ?_, k.gn, fun i m a h1 h2 => ?_⟩
  · by_cases z : a = D
    · subst z; exact ⟨_, upd_same⟩
    · rw [upd_ne z]; exact k.trk a h
  · by_cases z : a = D
    · subst z; exact ⟨_, upd_same⟩
    · rw [upd_ne z]; exact k.gt a h
  · have hne : a ≠ D := fun z => k.gn D gD (z ▸ List.mem_of_getElem? h2)
    exact MOk.on on (upd_ne hne) (k.ob i m a h1 h2)
theorem Ext.updD (e : Ext ρ1 M1 H1 ρ M H) (hD : H1 D = none) (o : HO) : Ext ρ1 M1 H1 ρ M (upd H D o) := ⟨e.pre, fun a u h f => ⟨by rw [upd_ne (ne_of_none h hD)]; exact (e.keep a u h f).1, (e.keep a u h f).2⟩⟩
theorem On.unguard : On (Fb (Gd G D) ρ M) ρ H (Fb G ρ M) ρ H := by
  have nf : ∀ a, ¬ Fb (Gd G D) ρ M a → ¬ Fb G ρ M a := fun a f z => f (z.elim (fun g => .inl (.inl g)) .inr)
  exact ⟨fun _ _ h => h, fun a u h f => ⟨h, nf a f⟩, fun a u h f => ⟨h, nf a f⟩, fun a u h f => ⟨h, nf a f⟩, fun a u h => h⟩
theorem Ok.unguard (k : Ok K ca (Gd G D) ρ M H) : Ok K ca G ρ M H :=
  ⟨k.len, k.nd, k.trk, fun a g => k.gt a (.inl g), fun a g => k.gn a (.inl g), fun i m a h1 h2 => MOk.on On.unguard rfl (k.ob i m a h1 h2)⟩
/-- the guarded list becomes one of the store -/
theorem Ok.join (k : Ok K ca (Gd G D) ρ M H) (x : Ext ρ1 M1 H1 ρ M H) (hD1 : H1 D = none) (hG : ¬ G D) {ds : List MP.D} {vs : List V} (hD : H D = some (.lst vs)) (hz : ds.length ≤ sizeLine) (r : RpL K (Fb (Gd G D) ρ M) ρ H ds vs) :
    Ok K ca G (ρ ++ [D]) (M ++ [.list ds]) H ∧ Ext ρ1 M1 H1 (ρ ++ [D]) (M ++ [.list ds]) H := by
  have lv := fun a => Lv.append (p := D) (m := MO.list ds) (a := a) k.len
  have pre : ∀ (n : Nat) (a : Addr), ρ[n]? = some a → (ρ ++ [D])[n]? = some a := fun n a h => by
    have hn : n < ρ.length := (List.getElem?_eq_some_iff.mp h).1
    rw [List.getElem?_append_left hn]; exact h
  have dn : D ∉ ρ := k.gn D (.inr rfl)
  have hF : ∀ a, ¬ Fb (Gd G D) ρ M a → ¬ Fb G (ρ ++ [D]) (M ++ [.list ds]) a := fun a f h => by
    rcases h with h | h
    · exact f (.inl (.inl h))
    · rcases (lv a).mp h with h | ⟨z, _⟩
      · exact f (.inr h)
      · exact f (.inl (.inr z))
  have on : On (Fb (Gd G D) ρ M) ρ H (Fb G (ρ ++ [D]) (M ++ [.list ds])) (ρ ++ [D]) H := ⟨pre, fun a u h f => ⟨h, hF a f⟩, fun a u h f => ⟨h, hF a f⟩, fun a u h f => ⟨h, hF a f⟩, fun a u h => h⟩
  refine ⟨⟨by rw [List.length_append, List.length_append, k.len]; rfl, ?_, fun a h => ?_, fun a g => k.gt a (.inl g), fun a g l => ?_, fun n q a h1 h2 => ?_⟩, ⟨fun n a h => pre n a (x.pre n a h), fun a u h f => ⟨(x.keep a u h f).1, fun l => ?_⟩⟩⟩
  · rw [List.nodup_append]
    exact ⟨k.nd, by simp, fun a ha b hb => by
      have e : b = D := by simpa using hb
      subst e
      exact fun z => dn (z ▸ ha)⟩
  · rcases List.mem_append.mp h with h | h
    · exact k.trk a h
    · have e : a = D := by simpa using h
      subst e
      exact ⟨_, hD⟩
  · rcases List.mem_append.mp l with l | l
    · exact k.gn a (.inl g) l
    · have z : a = D := by simpa using l
      exact hG (z ▸ g)
  · by_cases hn : n < ρ.length
    · rw [List.getElem?_append_left (by rw [← k.len]; exact hn)] at h1
      rw [List.getElem?_append_left hn] at h2
      exact MOk.on on rfl (k.ob n q a h1 h2)
    · rw [List.getElem?_append_right (by omega)] at h2
      rw [List.getElem?_append_right (by have := k.len; omega)] at h1
      have e : n - ρ.length = 0 := by
        cases z : n - ρ.length with
        | zero => rfl
        | succ j => rw [z] at h2; simp at h2
      rw [e] at h2
      rw [← k.len, e] at h1
      have h1' : MO.list ds = q := by simpa using h1
      have h2' : D = a := by simpa using h2
      subst h1'; subst h2'
      exact ⟨vs, hD, hz, RpL.on on _ _ r⟩
  · rcases (lv a).mp l with l | ⟨z, _⟩
    · exact (x.keep a u h f).2 l
    · exact ne_of_none h hD1 z
theorem wipe_at {σ : L2.St} {j : Nat} : ∀ {vs : List Nat}, (L2.wipe σ vs)[j]? = if j ∈ vs ∧ j < σ.length then some none else σ[j]?
  | [] => by simp [L2.wipe]
  | v :: vs => by
    unfold L2.wipe
    by_cases hj : v = j
    · subst hj
      by_cases hl : v < σ.length
      · rw [List.getElem?_set_self (by rw [L2.wipe_length]; exact hl), if_pos ⟨List.mem_cons_self, hl⟩]
      · rw [List.getElem?_eq_none (by rw [List.length_set, L2.wipe_length]; omega), if_neg (fun z => hl z.2), List.getElem?_eq_none (by omega)]
    · rw [List.getElem?_set_ne hj, wipe_at (vs := vs)]
      have e : (j ∈ v :: vs) ↔ (j ∈ vs) := by simp [Ne.symm hj]
      simp only [e]
theorem wipe_same {σ σ2 : L2.St} {vs : List Nat} (hl : σ2.length = σ.length) (h : ∀ j, j ∉ vs → σ2[j]? = (L2.wipe σ vs)[j]?) : L2.wipe σ2 vs = L2.wipe σ vs := by
  refine List.ext_getElem? fun j => ?_
  rw [wipe_at, wipe_at, hl]
  by_cases hj : j ∈ vs
  · by_cases hk : j < σ.length
    · rw [if_pos ⟨hj, hk⟩, if_pos ⟨hj, hk⟩]
    · rw [if_neg (fun z => hk z.2), if_neg (fun z => hk z.2), List.getElem?_eq_none (by omega), List.getElem?_eq_none (by omega)]
  · rw [if_neg (fun z => hj z.1), if_neg (fun z => hj z.1), h j hj, wipe_at, if_neg (fun z => hj z.1)]
/-- one thing that is served -/
theorem srv_step {J : It} {st : Hp → Prop} {ds xs : List MP.D} {vs : List V} {en : Bool} {i : Nat} (hx : xs = (if en = true then ds.mapIdx fun i x => MP.D.tup [.int i, x] else ds)) (k : Ok K ca G ρ M H) (r : RpL K (Fb G ρ M) ρ H ds vs) (sv : Srv J st vs en) (hs : st H) (hi : i < xs.length) :
    J.go i H ∧ ∃ d, xs[i]? = some d ∧ ∀ x H', J.yld i H x H' → Ok K ca G ρ M H' ∧ Ext ρ M H ρ M H' ∧ Rp K (Fb G ρ M) ρ H' d x := by
  have hl : i < ds.length := by
    rw [hx] at hi
    cases en <;> simpa using hi
  obtain ⟨v, e1, e2⟩ := r.get (i := i) (List.getElem?_eq_getElem hl)
  obtain ⟨g, y⟩ := sv.go i H v hs e1
  refine ⟨g, ?_⟩
  cases en with
  | false =>
    rw [if_neg Bool.false_ne_true] at hx
    subst hx
    refine ⟨xs[i], List.getElem?_eq_getElem hl, fun x H' q => ?_⟩
    have z := y x H' q
    rw [if_neg Bool.false_ne_true] at z
    obtain ⟨rfl, rfl⟩ := z
    exact ⟨k, .refl, e2⟩
  | true =>
    rw [if_pos rfl] at hx
    subst hx
    refine ⟨.tup [.int i, ds[i]], by rw [List.getElem?_mapIdx, List.getElem?_eq_getElem hl]; rfl, fun x H' q => ?_⟩
    have z := y x H' q
    rw [if_pos rfl] at z
    obtain ⟨T, hT, rfl, rfl⟩ := z
    have n := k.new hT (.tup [.int i, v])
    exact ⟨n.1, n.2, Rp.newTup k hT (by rw [sizeLine_eq]; show 2 ≤ 16777216; omega) ⟨_, _, rfl, rfl, _, _, rfl, e2, rfl⟩⟩
end
/-! ### the comprehension -/
/-- a turn of the block -/
def turnF (F : FT) (cls : Nat → Nat) (own : List Nat) (t : T) (C B : E) (env : Env) (x : D) (M : Sto) : Option (Option D × Sto) := match asg t x (wipeE env own) with
  | none => none
  | some env1 => match optC (isAbs C) M (ev F cls C env1 M) with
    | none => none
    | some (false, M1) => some (none, M1)
    | some (true, M1) => match ev F cls B env1 M1 with
      | none => none
      | some (d, M2) => some (some d, M2)
section
variable {K : PySem.W.Frag} {ca : Nat → Option Addr} {G : Addr → Prop} {ρ ρ1 : List Addr} {M M1 M' : Sto} {H H1 : Hp} {σ : L2.St} {env : Env} {F : FT} {cls : Nat → Nat} {mu : Bool} {own : List Nat} {t : T} {k : IK} {A B C E0 : E} {d : D}
theorem comp_inv (h : ev F cls (.comp mu own t k A B C E0) env M = some (d, M')) : ∃ xs M1 ys M2, evI F cls k A B env M = some (.pure xs, M1) ∧ xs.length ≤ LINE ∧ compR (turnF F cls own t C E0 env) xs M1 = some (ys, M2) ∧ mk mu (.list ys) M2 = some (d, M') := by
  rw [ev] at h
  split at h
  · cases h
  · rename_i x M0 e1
    split at h
    · cases h
    · rename_i y M1 e2
      split at h
      · rename_i xs e3
        split at h
        · rename_i hz
          split at h
          · cases h
          · rename_i ys M2 e4
            refine ⟨xs, M1, ys, M2, ?_, hz, e4, h⟩
            simp only [evI, e1, e2, e3]
        · cases h
      · cases h
theorem turn_inv {x : D} {o : Option D} {M2 : Sto} (h : turnF F cls own t C E0 env x M = some (o, M2)) : ∃ env1, asg t x (wipeE env own) = some env1 ∧ ∃ b M1, optC (isAbs C) M (ev F cls C env1 M) = some (b, M1) ∧ (if b = true then ∃ d, ev F cls E0 env1 M1 = some (d, M2) ∧ o = some d else o = none ∧ M2 = M1) := by
  unfold turnF at h
  split at h
  · cases h
  · rename_i env1 e1
    refine ⟨env1, e1, ?_⟩
    split at h
    · cases h
    · rename_i M1 e2
      cases h
      exact ⟨false, _, e2, by rw [if_neg Bool.false_ne_true]; exact ⟨rfl, rfl⟩⟩
    · rename_i M1 e2
      split at h
      · cases h
      · rename_i d M2 e3
        cases h
        exact ⟨true, _, e2, by rw [if_pos rfl]; exact ⟨d, e3, rfl⟩⟩
/-- the block's test -/
def ttC (K : PySem.W.Frag) (ca : Nat → Option Addr) (F : FT) (cls : Nat → Nat) (C : E) : TT := if isAbs C = true then tYes else tT K ca fun env M => tst (ev F cls C env M)
theorem ttC_go {H : Hp} {σ : L2.St} {env : Env} {b : Bool} {Q : Bool → Hp → Prop} (a : At K ca G ρ M H σ env) (e : optC (isAbs C) M (ev F cls C env M) = some (b, M1)) (h : ∀ ρ' H', Ext ρ M H ρ' M1 H' → At K ca G ρ' M1 H' σ env → Q b H') : ttC K ca F cls C σ H Q := by
  unfold ttC
  unfold optC at e
  cases z : isAbs C with
  | true =>
    rw [z, if_pos rfl] at e
    rw [if_pos rfl]
    cases e
    exact h ρ H .refl a
  | false =>
    rw [z, if_neg Bool.false_ne_true] at e
    rw [if_neg Bool.false_ne_true]
    exact tT.go (f := fun env M => tst (ev F cls C env M)) a e h
theorem tLc_ok {Q : VK} (hs : ∀ j ∈ tslots t, j ∈ own) (a0 : At K ca G ρ M H σ env) (h : ev F cls (.comp mu own t k A B C E0) env M = some (d, M')) (q : ∀ ρ' v H', Ext ρ M H ρ' M' H' → Ok K ca G ρ' M' H' → Rp K (Fb G ρ' M') ρ' H' d v → Q v H') :
    tLc (tI K ca (evI F cls k A B)) (gT K t) (ttC K ca F cls C) (tE K ca (ev F cls E0)) own σ H Q := by
  obtain ⟨xs, M1, ys, M2, e1, hz, e2, e3⟩ := comp_inv h
  refine ⟨G, ρ, env, M, .pure xs, M1, a0, e1, fun ρ1 H1 J x1 k1 sk L hL => ?_⟩
  obtain ⟨ds, vs, en, st, hx, hr, sv, hst⟩ := sk
  have hGL : ¬ G L := k1.notG hL
  refine ⟨fun i m H => m = xs.length - i ∧ i ≤ xs.length ∧ ∃ ρ M acc as rest, Ext ρ1 M1 H1 ρ M H ∧ Ok K ca (Gd G L) ρ M H ∧ H L = some (.lst acc) ∧ RpL K (Fb (Gd G L) ρ M) ρ H as acc ∧ compR (turnF F cls own t C E0 env) (xs.drop i) M = some (rest, M2) ∧ ys = as ++ rest ∧ as.length ≤ i,
    ⟨xs.length, by rw [Nat.sub_zero], Nat.zero_le _, ρ1, M1, [], [], ys, (k1.guard hL _).2, (k1.guard hL _).1, upd_same, rfl, by rw [List.drop_zero]; exact e2, rfl, Nat.le_refl _⟩, fun i m H ⟨hm, hi, ρ2, M3, acc, as, rest, x2, k2, hD, ra, er, ey, hla⟩ => ?_⟩
  have on := x2.onD k1 hL
  have hst2 : st H := hst H fun a o e f => (x2.keep a o e f).1
  have hlen : ds.length = xs.length := by rw [hx]; cases en <;> simp
  rcases Nat.lt_or_ge i xs.length with hlt | hge
  · right
    obtain ⟨g, x0, ex, ys0⟩ := srv_step hx k2 (RpL.on on ds vs hr) sv hst2 hlt
    have hdr : xs.drop i = x0 :: xs.drop (i + 1) := by
      rw [List.getElem?_eq_getElem hlt] at ex
      cases ex
      exact List.drop_eq_getElem_cons hlt
    rw [hdr, compR] at er
    split at er
    · cases er
    · rename_i o M4 et
      split at er
      · cases er
      · rename_i zs M5 ez
        injection er with er
        injection er with er1 er2
        subst er2
        obtain ⟨env1, f1, b, M6, f2, f3⟩ := turn_inv et
        refine ⟨g, fun H' => ∃ m', m' < m ∧ _, fun H' q => q, fun xv H' hy => ?_⟩
        obtain ⟨k3, x3, rx⟩ := ys0 xv H' hy
        have en3 : EnvR K (Fb (Gd G L) ρ2 M3) ρ2 H' (L2.wipe σ own) (wipeE env own) := (((a0.to x1 k1).en.on on).on (x3.on k2)).wipe own
        refine gT_ok en3 rx f1 fun σ' r' hk => ⟨?_, ?_⟩
        · refine wipe_same ?_ fun j hj => hk j fun z => hj (hs j z)
          have l1 := r'.len
          have l2 := en3.len
          have l3 : env1.length = (wipeE env own).length := by
            cases t with
            | nm i => cases f1; rw [List.length_set]
            | tp is =>
              simp only [asg] at f1
              split at f1
              · split at f1
                · cases f1
                  generalize is.zip _ = l
                  generalize wipeE env own = e
                  induction l generalizing e with
                  | nil => rfl
                  | cons p l ih => rw [List.foldl_cons, ih, List.length_set]
                · cases f1
              · cases f1
          rw [L2.wipe_length] at l2
          omega
        · refine ttC_go ⟨k3, r'⟩ f2 fun ρ4 H4 x4 a4 => ?_
          cases b with
          | false =>
            rw [if_neg Bool.false_ne_true] at f3 ⊢
            obtain ⟨rfl, rfl⟩ := f3
            have x34 := x3.trans x4
            refine ⟨m - 1, by omega, by omega, hlt, ρ4, M4, acc, as, zs, x2.trans x34, a4.ok, ?_, RpL.on (x34.on k2) _ _ ra, ez, ?_, by omega⟩
            · exact (x34.keep L _ hD (k2.gl L (.inr rfl))).1
            · rw [ey, ← er1]
          | true =>
            rw [if_pos rfl] at f3 ⊢
            obtain ⟨y, f4, rfl⟩ := f3
            refine tE.go a4 f4 fun ρ5 v5 H5 x5 a5 r5 => ?_
            have x35 := (x3.trans x4).trans x5
            have hD5 := (x35.keep L _ hD (k2.gl L (.inr rfl))).1
            have ra5 := RpL.on (x35.on k2) _ _ ra
            have hal := ra.length
            rw [lineEq] at hz
            have gs := On.gset (ρ := ρ5) (F := Fb (Gd G L) ρ5 M4) (.inl (.inr rfl)) hD5 (acc ++ [v5])
            refine ⟨acc, hD5, by omega, m - 1, by omega, by omega, hlt, ρ5, M4, acc ++ [v5], as ++ [y], zs, (x2.trans x35).updD hL _, a5.ok.gset (.inr rfl) hD5 _, upd_same, ?_, ez, ?_, ?_⟩
            · exact RpL.on gs _ _ (RpL.append ra5 (RpL.one r5))
            · rw [ey, ← er1, List.append_assoc]; rfl
            · rw [List.length_append]; exact Nat.succ_le_succ hla
  · left
    have hi' : i = xs.length := Nat.le_antisymm hi hge
    refine ⟨sv.stop i H hst2 (by rw [hr.length, hlen]; exact hge), ?_⟩
    rw [List.drop_eq_nil_of_le hge, compR] at er
    injection er with er
    injection er with er1 er2
    subst er1; subst er2
    rw [List.append_nil] at ey
    subst ey
    have hz' : ys.length ≤ sizeLine := by rw [← lineEq]; omega
    have ku := k2.unguard
    have ra' := RpL.on On.unguard _ _ ra
    have x02 := x1.trans x2
    have nl : ¬ Fb G ρ2 M3 L := fun z => z.elim hGL (k2.gl L (.inr rfl))
    cases mu with
    | false =>
      unfold mk at e3
      rw [if_neg Bool.false_ne_true] at e3
      cases e3
      exact q ρ2 _ H x02 ku ⟨L, acc, rfl, hD, nl, hz', ra'⟩
    | true =>
      unfold mk at e3
      simp only [if_true] at e3
      cases e3
      have j := k2.join x2 hL hGL hD hz' ra
      exact q _ _ H (x1.trans j.2) j.1 ⟨L, rfl, newM_at ku⟩
end
end MP

/-! MP14: statements. -/
namespace MP
open PySem PySem.Spec PyProof.Rows L2
/-- what is wanted behind a statement's outcome -/
def En (K : PySem.W.Frag) (G : Addr → Prop) (ρ : List Addr) (M : Sto) (D : Ends) (σ : L2.St) (H : Hp) : Out → Prop
  | .next => D.nx σ H
  | .cont => D.ct σ H
  | .ret d => ∀ v, Rp K (Fb G ρ M) ρ H d v → D.rt v H
/-- readings of statements by the run -/
def tS (K : PySem.W.Frag) (ca : Nat → Option Addr) (f : Env → Sto → SR) : TS := fun D σ H => ∃ G ρ env M o env' M', At K ca G ρ M H σ env ∧ f env M = some (o, env', M') ∧
  ∀ ρ' σ' H', Ext ρ M H ρ' M' H' → At K ca G ρ' M' H' σ' env' → En K G ρ' M' D σ' H' o
theorem tS.go {K : PySem.W.Frag} {ca : Nat → Option Addr} {f : Env → Sto → SR} {G : Addr → Prop} {ρ : List Addr} {M M' : Sto} {H : Hp} {σ : L2.St} {env env' : Env} {o : Out} {D : Ends} (a : At K ca G ρ M H σ env) (e : f env M = some (o, env', M'))
    (h : ∀ ρ' σ' H', Ext ρ M H ρ' M' H' → At K ca G ρ' M' H' σ' env' → En K G ρ' M' D σ' H' o) : tS K ca f D σ H := ⟨G, ρ, env, M, o, env', M', a, e, h⟩
section
variable {X : Cx} {ca : Nat → Option Addr} {F : FT} {cls : Nat → Nat} {e a b c : Expr} {es : List Expr} {pos p p1 : Pos} {A B C E0 : E} {AS : EL} {st : Stmt} {ss : List Stmt}
abbrev PSv (X : Cx) (ca : Nat → Option Addr) (F : FT) (cls : Nat → Nat) (st : Stmt) (A : S) : Prop := PS X st (tS X.K ca (exec F cls A))
abbrev PBv (X : Cx) (ca : Nat → Option Addr) (F : FT) (cls : Nat → Nat) (ss : List Stmt) (A : SB) : Prop := PSs X ss (tS X.K ca (exb F cls A))
theorem b_nil : PBv X ca F cls [] .nil := PSs.imp pss_nil fun D σ H ⟨G, ρ, env, M, o, env', M', a0, h, q⟩ => by
  rw [exb] at h
  cases h
  exact q ρ σ H .refl a0
theorem exb_cons_inv {s : S} {r : SB} {env : Env} {M : Sto} {o : Out} {env' : Env} {M' : Sto} (h : exb F cls (.cons s r) env M = some (o, env', M')) : ∃ o1 env1 M1, exec F cls s env M = some (o1, env1, M1) ∧ (o1 = .next ∧ exb F cls r env1 M1 = some (o, env', M') ∨ (o1 ≠ .next ∧ o = o1 ∧ env' = env1 ∧ M' = M1)) := by
  rw [exb] at h
  split at h
  · cases h
  · rename_i env1 M1 e1
    exact ⟨.next, env1, M1, e1, .inl ⟨rfl, h⟩⟩
  · rename_i env1 M1 e1
    cases h
    exact ⟨.cont, _, _, e1, .inr ⟨(fun z => by cases z), rfl, rfl, rfl⟩⟩
  · rename_i d env1 M1 e1
    cases h
    exact ⟨.ret d, _, _, e1, .inr ⟨(fun z => by cases z), rfl, rfl, rfl⟩⟩
theorem En.trans {K : PySem.W.Frag} {G : Addr → Prop} {ρ : List Addr} {M : Sto} {D : Ends} {nx : L2.St → Hp → Prop} {σ : L2.St} {H : Hp} {o : Out} (n : o ≠ .next) (h : En K G ρ M D σ H o) : En K G ρ M { D with nx := nx } σ H o := by
  cases o with
  | next => exact absurd rfl n
  | cont => exact h
  | ret d => exact h
theorem b_cons {s : S} {r : SB} (h1 : PSv X ca F cls st s) (h2 : PBv X ca F cls ss r) : PBv X ca F cls (st :: ss) (.cons s r) := by
  refine PSs.imp (pss_cons h1 h2) fun D σ H ⟨G, ρ, env, M, o, env', M', a0, h, q⟩ => ?_
  obtain ⟨o1, env1, M1, e1, k⟩ := exb_cons_inv h
  refine tS.go a0 e1 fun ρ1 σ1 H1 x1 a1 => ?_
  rcases k with ⟨rfl, e2⟩ | ⟨n, rfl, rfl, rfl⟩
  · exact tS.go a1 e2 fun ρ2 σ2 H2 x2 a2 => q ρ2 σ2 H2 (x1.trans x2) a2
  · exact (q ρ1 σ1 H1 x1 a1).trans n
/-- a list of the store is pure from here on -/
theorem b_frz {i : Nat} {r : SB} (h2 : PBv X ca F cls ss r) : PBv X ca F cls ss (.cons (.frz i) r) := by
  refine PSs.imp h2 fun D σ H ⟨G, ρ, env, M, o, env', M', a0, h, q⟩ => ?_
  obtain ⟨o1, env1, M1, e1, k⟩ := exb_cons_inv h
  rw [exec] at e1
  split at e1
  · rename_i n en
    obtain ⟨v, ev, rv⟩ := a0.en.at_ i _ en
    obtain ⟨p, rfl, hp⟩ := rv
    split at e1
    · rename_i xs em
      cases e1
      have fz := a0.ok.freeze em hp trivial
      have on := On.freeze a0.ok em hp trivial
      obtain ⟨vs, g1, g2, g3⟩ := a0.ok.ob n _ p em hp
      have en' := (a0.en.on on).set (d := .list xs) (v := .ref p) ⟨p, vs, rfl, g1, fz.2.2, g2, RpL.on on _ _ g3⟩ i
      have es : σ.set i (some (V.ref p)) = σ := by
        refine List.ext_getElem? fun j => ?_
        by_cases hj : i = j
        · subst hj
          rw [List.getElem?_set_self (List.getElem?_eq_some_iff.mp ev).1, ev]
        · rw [List.getElem?_set_ne hj]
      rw [es] at en'
      rcases k with ⟨_, e2⟩ | ⟨n, _⟩
      · exact tS.go ⟨fz.1, en'⟩ e2 fun ρ2 σ2 H2 x2 a2 => q ρ2 σ2 H2 (fz.2.1.trans x2) a2
      · exact absurd rfl n
    · rename_i xs em
      cases e1
      have fz := a0.ok.freeze em hp trivial
      have on := On.freeze a0.ok em hp trivial
      obtain ⟨us, g1, g3⟩ := a0.ok.ob n _ p em hp
      have en' := (a0.en.on on).set (d := .dict xs) (v := .ref p) ⟨p, us, rfl, .inl g1, fz.2.2, RpK.on on _ _ g3⟩ i
      have es : σ.set i (some (V.ref p)) = σ := by
        refine List.ext_getElem? fun j => ?_
        by_cases hj : i = j
        · subst hj
          rw [List.getElem?_set_self (List.getElem?_eq_some_iff.mp ev).1, ev]
        · rw [List.getElem?_set_ne hj]
      rw [es] at en'
      rcases k with ⟨_, e2⟩ | ⟨n, _⟩
      · exact tS.go ⟨fz.1, en'⟩ e2 fun ρ2 σ2 H2 x2 a2 => q ρ2 σ2 H2 (fz.2.1.trans x2) a2
      · exact absurd rfl n
    · cases e1
  · cases e1
theorem b_doc {x : Str} {j : Nat} {pos' : Pos} {r : SB} (h2 : PBv X ca F cls ss r) : PBv X ca F cls (.Expr (.Constant (.str x) j pos) pos' :: ss) r := by
  refine PSs.imp (pss_cons ps_doc h2) fun D σ H ⟨G, ρ, env, M, o, env', M', a0, h, q⟩ => ?_
  exact tS.go a0 h q
theorem s_pass : PSv X ca F cls (.Pass pos) .pass := PS.imp ps_pass fun D σ H ⟨G, ρ, env, M, o, env', M', a0, h, q⟩ => by
  rw [exec] at h
  cases h
  exact q ρ σ H .refl a0
theorem s_cont : PSv X ca F cls (.Continue pos) .cont := PS.imp ps_continue fun D σ H ⟨G, ρ, env, M, o, env', M', a0, h, q⟩ => by
  rw [exec] at h
  cases h
  exact q ρ σ H .refl a0
theorem s_retN : PSv X ca F cls (.Return none pos) .retN := PS.imp ps_retN fun D σ H ⟨G, ρ, env, M, o, env', M', a0, h, q⟩ => by
  rw [exec] at h
  cases h
  exact q ρ σ H .refl a0 .non rfl
theorem s_ret (ha : PEv X ca F cls a A) : PSv X ca F cls (.Return (some a) pos) (.ret A) := PS.imp (ps_ret ha) fun D σ H ⟨G, ρ, env, M, o, env', M', a0, h, q⟩ => by
  rw [exec] at h
  split at h
  · cases h
  · rename_i d M1 e1
    cases h
    exact tE.go a0 e1 fun ρ1 v1 H1 x1 a1 r1 => q ρ1 σ H1 x1 a1 v1 r1
theorem s_exp (ha : PEv X ca F cls a A) (hs : swapsWith a none pos.line X.env = pure false) : PSv X ca F cls (.Expr a pos) (.exp A) := PS.imp (ps_expr ha hs) fun D σ H ⟨G, ρ, env, M, o, env', M', a0, h, q⟩ => by
  rw [exec] at h
  split at h
  · cases h
  · rename_i d M1 e1
    cases h
    exact tE.go a0 e1 fun ρ1 v1 H1 x1 a1 r1 => q ρ1 σ H1 x1 a1
theorem s_if {P Q : SB} {ts fs : List Stmt} (hc : PTv X ca F cls c C) (ht : PBv X ca F cls ts P) (hf : PBv X ca F cls fs Q) : PSv X ca F cls (.If c ts fs pos) (.ife C P Q) := PS.imp (ps_if hc ht hf) fun D σ H ⟨G, ρ, env, M, o, env', M', a0, h, q⟩ => by
  rw [exec] at h
  split at h
  · cases h
  · rename_i M1 e1
    exact tT.go a0 e1 fun ρ1 H1 x1 a1 => by
      rw [if_pos rfl]
      exact tS.go a1 h fun ρ2 σ2 H2 x2 a2 => q ρ2 σ2 H2 (x1.trans x2) a2
  · rename_i M1 e1
    exact tT.go a0 e1 fun ρ1 H1 x1 a1 => by
      rw [if_neg Bool.false_ne_true]
      exact tS.go a1 h fun ρ2 σ2 H2 x2 a2 => q ρ2 σ2 H2 (x1.trans x2) a2
/-- name = value, a reading by the evaluator in hand -/
theorem s_set {i : Nat} {t : TE} (ha : PS X st (tAsg t (gName i))) (ht : ∀ σ H Q, tE X.K ca (ev F cls A) σ H Q → t σ H Q) : PSv X ca F cls st (.setv i A) := PS.imp ha fun D σ H ⟨G, ρ, env, M, o, env', M', a0, h, q⟩ => by
  rw [exec] at h
  split at h
  · cases h
  · rename_i d M1 e1
    cases h
    exact ht _ _ _ (tE.go a0 e1 fun ρ1 v1 H1 x1 a1 r1 => q ρ1 _ H1 x1 ⟨a1.ok, a1.en.set r1 i⟩)
theorem s_sett {is : List Nat} (ha : PS X st (tAsg (tE X.K ca (ev F cls A)) (gT X.K (.tp is)))) : PSv X ca F cls st (.sett is A) := PS.imp ha fun D σ H ⟨G, ρ, env, M, o, env', M', a0, h, q⟩ => by
  rw [exec] at h
  split at h
  · cases h
  · rename_i d M1 e1
    split at h
    · cases h
    · rename_i env1 e2
      cases h
      exact tE.go a0 e1 fun ρ1 v1 H1 x1 a1 r1 => gT_ok a1.en r1 e2 fun σ' r' _ => q ρ1 σ' H1 x1 ⟨a1.ok, r'⟩
theorem s_setp {i j : Nat} (ha : PS X st (tPar i j (tL X.K ca (evL F cls (.cons A (.cons B .nil)))))) : PSv X ca F cls st (.setp i j A B) := PS.imp ha fun D σ H ⟨G, ρ, env, M, o, env', M', a0, h, q⟩ => by
  rw [exec] at h
  split at h
  · cases h
  · rename_i x M1 e1
    split at h
    · cases h
    · rename_i y M2 e2
      cases h
      refine tL.go (d := [x, y]) a0 (M' := M') (by rw [evL, e1]; simp only; rw [evL, e2]; simp only; rw [evL]) fun ρ1 v1 H1 x1 a1 r1 => ?_
      obtain ⟨v, w, rfl, r2, r3⟩ := r1
      obtain ⟨v', w', rfl, r4, r5⟩ := r3
      have z : w' = [] := r5
      subst z
      exact ⟨v, v', rfl, q ρ1 _ H1 x1 ⟨a1.ok, (a1.en.set r2 i).set r4 j⟩⟩

/-! ### stores by subscript -/
def rSetA : TSet := fun o i v H Q => rSetL o i v H Q ∨ rSetD o i v H Q
theorem set_any (hu : X.A.units + 1 < cLine) : PSet X rSetA := by
  intro pins s σ H o i v ov iv u Q I ro ri rv h
  rcases h with h | h
  · exact set_list pins s σ H o i v ov iv u Q I ro ri rv h
  · exact set_dict hu pins s σ H o i v ov iv u Q I ro ri rv h
theorem RpK.any {K : PySem.W.Frag} {F : Addr → Prop} {ρ : List Addr} {H : Hp} {q : Key} : ∀ {kvs : List (Key × D)} {us : List (Key × V)}, RpK K F ρ H kvs us → (us.any fun kv => decide (kv.1 = q)) = kvs.any fun kv => decide (kv.1 = q)
  | [], us, h => by
    have e : us = [] := h
    subst e; rfl
  | (k, d) :: kvs, us, h => by
    obtain ⟨w, us', rfl, h1, h2⟩ := h
    rw [List.any_cons, List.any_cons, RpK.any h2]
theorem RpK.map {K : PySem.W.Frag} {F : Addr → Prop} {ρ : List Addr} {H : Hp} {q : Key} {z : D} {v : V} (r : Rp K F ρ H z v) : ∀ {kvs : List (Key × D)} {us : List (Key × V)}, RpK K F ρ H kvs us →
    RpK K F ρ H (kvs.map fun kv => if kv.1 = q then (kv.1, z) else kv) (us.map fun kv => if kv.1 = q then (kv.1, v) else kv)
  | [], us, h => by
    have e : us = [] := h
    subst e; rfl
  | (k, d) :: kvs, us, h => by
    obtain ⟨w, us', rfl, h1, h2⟩ := h
    rw [List.map_cons, List.map_cons]
    by_cases hk : k = q
    · rw [if_pos hk, if_pos hk]
      exact ⟨v, _, rfl, r, RpK.map r h2⟩
    · rw [if_neg hk, if_neg hk]
      exact ⟨w, _, rfl, h1, RpK.map r h2⟩
theorem RpK.snoc {K : PySem.W.Frag} {F : Addr → Prop} {ρ : List Addr} {H : Hp} {q : Key} {z : D} {v : V} (r : Rp K F ρ H z v) : ∀ {kvs : List (Key × D)} {us : List (Key × V)}, RpK K F ρ H kvs us → RpK K F ρ H (kvs ++ [(q, z)]) (us ++ [(q, v)])
  | [], us, h => by
    have e : us = [] := h
    subst e
    exact ⟨v, [], rfl, r, rfl⟩
  | (k, d) :: kvs, us, h => by
    obtain ⟨w, us', rfl, h1, h2⟩ := h
    exact ⟨w, us' ++ [(q, v)], rfl, h1, RpK.snoc r h2⟩
theorem RpK.putK {K : PySem.W.Frag} {F : Addr → Prop} {ρ : List Addr} {H : Hp} {q : Key} {z : D} {v : V} (r : Rp K F ρ H z v) {kvs : List (Key × D)} {us : List (Key × V)} (h : RpK K F ρ H kvs us) : RpK K F ρ H (setI.putKD q z kvs) (L2.putK us q v) := by
  unfold setI.putKD L2.putK
  rw [RpK.any h]
  split
  · exact RpK.map r h
  · exact RpK.snoc r h
theorem RpK.length {K : PySem.W.Frag} {F : Addr → Prop} {ρ : List Addr} {H : Hp} : ∀ {kvs : List (Key × D)} {us : List (Key × V)}, RpK K F ρ H kvs us → us.length = kvs.length
  | [], us, h => by
    have e : us = [] := h
    subst e; rfl
  | (k, d) :: kvs, us, h => by
    obtain ⟨w, us', rfl, h1, h2⟩ := h
    rw [List.length_cons, List.length_cons, RpK.length h2]
theorem key_ok {K : PySem.W.Frag} {F : Addr → Prop} {ρ : List Addr} {H : Hp} {y : D} {q : Key} {v : V} (e : keyOf y = some q) (r : Rp K F ρ H y v) : v = kV q := by
  cases y <;> cases e
  · exact r
  · exact r
/-- the store by subscript does what the run says -/
theorem setI_ok {K : PySem.W.Frag} {ca : Nat → Option Addr} {G : Addr → Prop} {ρ : List Addr} {M M' : Sto} {H : Hp} {x y z : D} {xv yv zv : V} {Q : Hp → Prop} (k : Ok K ca G ρ M H) (e : setI M x y z = some M') (rx : Rp K (Fb G ρ M) ρ H x xv) (ry : Rp K (Fb G ρ M) ρ H y yv) (rz : Rp K (Fb G ρ M) ρ H z zv)
    (h : ∀ H', Ext ρ M H ρ M' H' → Ok K ca G ρ M' H' → Q H') : rSetA xv yv zv H Q := by
  cases x with
  | loc n =>
    obtain ⟨p, rfl, hp⟩ := rx
    unfold setI at e
    simp only at e
    split at e
    · rename_i xs em
      split at e
      · rename_i i
        split at e
        · rename_i j ej
          cases e
          obtain ⟨vs, g1, g2, g3⟩ := k.ob n _ p em hp
          have w := k.write (m' := .list (xs.set j z)) (o := .lst (vs.set j zv)) em hp trivial trivial fun F' ρ' H' o e => ⟨_, e, by rw [List.length_set]; exact g2, RpL.on o _ _ (RpL.set rz j g3)⟩
          exact .inl ⟨p, vs, i, j, rfl, ry, g1, by rw [g3.length]; exact ej, h _ w.2 w.1⟩
        · cases e
      · cases e
    · rename_i kvs em
      split at e
      · rename_i q eq
        split at e
        · rename_i hz
          cases e
          obtain ⟨us, g1, g3⟩ := k.ob n _ p em hp
          have w := k.write (m' := .dK (setI.putKD q z kvs)) (o := .dK (L2.putK us q zv)) em hp trivial trivial fun F' ρ' H' o e => ⟨_, e, RpK.on o _ _ (RpK.putK rz g3)⟩
          have ek := key_ok eq ry
          subst ek
          exact .inr ⟨p, _, rfl, DPut.k g1 (by rw [g3.length, ← lineEq]; exact hz), h _ w.2 w.1⟩
        · cases e
      · cases e
    · cases e
  | _ => cases e
end
end MP

/-! MP15: stores by subscript, loops. -/
namespace MP
open PySem PySem.Spec PyProof.Rows L2
section
variable {X : Cx} {ca : Nat → Option Addr} {F : FT} {cls : Nat → Nat} {e a b c : Expr} {es : List Expr} {pos p p1 : Pos} {A B C I0 J0 E0 E1 : E} {AS : EL} {st : Stmt} {ss : List Stmt}
theorem s_seti (ha : PS X st (tAsg (tE X.K ca (ev F cls E0)) (gSub (tE X.K ca (ev F cls A)) (tE X.K ca (ev F cls I0)) rSetA))) : PSv X ca F cls st (.seti A I0 E0) := PS.imp ha fun D σ H ⟨G, ρ, env, M, o, env', M', a0, h, q⟩ => by
  rw [exec] at h
  split at h
  · cases h
  · rename_i z M1 e1
    split at h
    · cases h
    · rename_i x M2 e2
      split at h
      · cases h
      · rename_i y M3 e3
        split at h
        · cases h
        · rename_i M4 e4
          cases h
          exact tE.go a0 e1 fun ρ1 v1 H1 x1 a1 r1 => tE.go a1 e2 fun ρ2 v2 H2 x2 a2 r2 => tE.go a2 e3 fun ρ3 v3 H3 x3 a3 r3 =>
            setI_ok a3.ok e4 (a2.mv x3 r2) r3 (a2.mv x3 (a1.mv x2 r1)) fun H4 x4 k4 => q ρ3 σ H4 (((x1.trans x2).trans x3).trans x4) (a3.to x4 k4)
theorem s_seti2 (ha : PS X st (tAsg (tE X.K ca (ev F cls (.tup (.cons E0 (.cons E1 .nil))))) (gTup X.K 2 (gCons (gSub (tE X.K ca (ev F cls A)) (tE X.K ca (ev F cls I0)) rSetA) (gCons (gSub (tE X.K ca (ev F cls B)) (tE X.K ca (ev F cls J0)) rSetA) gNil))))) :
    PSv X ca F cls st (.seti2 A I0 B J0 E0 E1) := PS.imp ha fun D σ H ⟨G, ρ, env, M, o, env', M', a0, h, q⟩ => by
  rw [exec] at h
  split at h
  · cases h
  · rename_i z M1 e1
    split at h
    · cases h
    · rename_i w M2 e2
      split at h
      · cases h
      · rename_i x M3 e3
        split at h
        · cases h
        · rename_i y M4 e4
          split at h
          · cases h
          · rename_i M5 e5
            split at h
            · cases h
            · rename_i x2 M6 e6
              split at h
              · cases h
              · rename_i y2 M7 e7
                split at h
                · cases h
                · rename_i M8 e8
                  cases h
                  have et : ev F cls (.tup (.cons E0 (.cons E1 .nil))) env M = some (.tup [z, w], M2) := by
                    rw [ev, evL, e1]; simp only; rw [evL, e2]; simp only; rw [evL]
                    rfl
                  refine tE.go a0 et fun ρ1 v1 H1 x1 a1 r1 => ?_
                  obtain ⟨pt, vs, rfl, g1, g2, g3⟩ := r1
                  obtain ⟨zv, r', rfl, rz, g4⟩ := g3
                  obtain ⟨wv, r'', rfl, rw', g5⟩ := g4
                  have e0 : r'' = [] := g5
                  subst e0
                  refine ⟨pt, _, rfl, g1, rfl, zv, _, rfl, ?_⟩
                  refine tE.go a1 e3 fun ρ3 v3 H3 x3 a3 r3 => tE.go a3 e4 fun ρ4 v4 H4 x4 a4 r4 => setI_ok a4.ok e5 (a3.mv x4 r3) r4 (a3.mv x4 (a1.mv x3 rz)) fun H5 x5 k5 => ?_
                  have a5 := a4.to x5 k5
                  refine ⟨wv, _, rfl, ?_⟩
                  refine tE.go a5 e6 fun ρ6 v6 H6 x6 a6 r6 => tE.go a6 e7 fun ρ7 v7 H7 x7 a7 r7 => setI_ok a7.ok e8 (a6.mv x7 r6) r7 (a6.mv x7 (a5.mv x6 (a4.mv x5 (a3.mv x4 (a1.mv x3 rw'))))) fun H8 x8 k8 => ?_
                  exact ⟨rfl, q ρ7 σ H8 (((((((x1.trans x3).trans x4).trans x5).trans x6).trans x7).trans x8)) (a7.to x8 k8)⟩
/-- an item of a list, by values -/
theorem get_list : PGet X (rIxL X.K) := by
  intro pins s σ H o i ov iv Q I ro ri h
  obtain ⟨p, xs, i, z, rfl, rfl, hq, he, q⟩ := h
  cases ro
  obtain ⟨t, rfl⟩ := ri
  obtain ⟨its, r, pl, hz⟩ := I.list hq
  obtain ⟨j, h1, h2, h3, h4, h5⟩ := atI_get he
  obtain ⟨w, ew, rw'⟩ := r.get h2
  have hl := r.length
  have hn := line63
  have fin : EP X pins σ Q w s := ⟨z, H, I, rw', q⟩
  by_cases h0 : 0 ≤ i
  · have hj : i.toNat = j := by
      rw [seqIndex_of h0 h5] at h1
      exact Option.some.inj h1
    exact wpAny_getItem_list pl.isList h0 (by omega) (by rw [hj]; simpa using ew) fin
  · have hj : (i + (its.toArray.size : Int)).toNat = j := by
      rw [seqIndex_neg (by omega) h4] at h1
      rw [List.size_toArray, ← hl]
      exact Option.some.inj h1
    exact wpAny_getItem_list_neg pl.isList (by omega) (by rw [List.size_toArray] <;> omega) (by omega) (by rw [hj]; simpa using ew) fin
def augBO : BO → Bool
  | .add => true
  | .sub => true
  | _ => false
def augF : BO → Int → Int → Int
  | .sub, i, j => i - j
  | _, i, j => i + j
theorem augOp_inv {o : BO} {x y z : D} (h : augOp o x y = some z) : augBO o = true ∧ ∃ i j, x = .int i ∧ y = .int j ∧ z = .int (augF o i j) := by
  unfold augOp at h
  split at h
  · cases h; exact ⟨rfl, _, _, rfl, rfl, rfl⟩
  · cases h; exact ⟨rfl, _, _, rfl, rfl, rfl⟩
  · cases h
theorem getL_inv {a i d : D} (h : getL_ a i = some d) : ∃ xs k, a = .list xs ∧ i = .int k ∧ atI xs k = some d := by
  unfold getL_ at h
  split at h
  · exact ⟨_, _, rfl, rfl, h⟩
  · cases h
theorem s_augi {o : BO} (hsA : augBO o = true → PS X st (tAugS (tE X.K ca (ev F cls A)) (tE X.K ca (ev F cls I0)) (tE X.K ca (ev F cls E0)) (rIxL X.K) (ipI (augF o)) rSetA)) (ho : augBO o = true) : PSv X ca F cls st (.augi A I0 o E0) := PS.imp (hsA ho) fun D σ H ⟨G, ρ, env, M, oo, env', M', a0, h, q⟩ => by
  rw [exec] at h
  split at h
  · cases h
  · rename_i x M1 e1
    split at h
    · cases h
    · rename_i y M2 e2
      split at h
      · cases h
      · rename_i old e3
        split at h
        · cases h
        · rename_i v M3 e4
          split at h
          · cases h
          · rename_i z e5
            split at h
            · cases h
            · rename_i M4 e6
              cases h
              obtain ⟨_, i, j, rfl, rfl, rfl⟩ := augOp_inv e5
              obtain ⟨xs, k, g1, rfl, g2⟩ := getL_inv e3
              refine tE.go a0 e1 fun ρ1 v1 H1 x1 a1 r1 => tE.go a1 e2 fun ρ2 v2 H2 x2 a2 r2 => ?_
              have r1' := a1.mv x2 r1
              have rs := a2.ok.rs r1'
              rw [g1] at rs
              obtain ⟨pp, vs, rfl, k1, k2, k3⟩ := rs
              obtain ⟨u, u1, u2⟩ := RpL.atI k3 g2
              refine ⟨pp, vs, k, u, rfl, r2, SqL.of k1, u1, ?_⟩
              refine tE.go a2 e4 fun ρ3 v3 H3 x3 a3 r3 => ⟨i, j, u2, r3, ?_⟩
              exact setI_ok a3.ok e6 (a2.mv x3 r1') (a2.mv x3 r2) rfl fun H4 x4 k4 => q ρ3 σ H4 (((x1.trans x2).trans x3).trans x4) (a3.to x4 k4)
theorem ip_aug : ∀ {o : BO}, augBO o = true → PIp X (opOf o) (ipI (augF o))
  | .add, _ => ip_add
  | .sub, _ => ip_sub

/-! ### for -/
theorem evI_for {t : T} {k : IK} {body : SB} {env : Env} {M : Sto} {r : Out × Env × Sto} (h : exec F cls (.for_ t k A B body) env M = some r) : ∃ s M1, evI F cls k A B env M = some (s, M1) ∧ (match s with
    | .pure xs => forP (fun x env M => match asg t x env with
      | none => none
      | some env1 => exb F cls body env1 M) xs env M1
    | .loc n k => forL (fun x env M => match asg t x env with
      | none => none
      | some env1 => exb F cls body env1 M) n k 0 env M1) = some r := by
  rw [exec] at h
  split at h
  · cases h
  · rename_i x M0 e1
    split at h
    · cases h
    · rename_i y M1 e2
      split at h
      · rename_i xs e3
        refine ⟨.pure xs, M1, ?_, h⟩
        simp only [evI, e1, e2, e3]
      · rename_i n k e3
        refine ⟨.loc n k, M1, ?_, h⟩
        simp only [evI, e1, e2, e3]
      · cases h
/-- a turn -/
def turnB (F : FT) (cls : Nat → Nat) (t : T) (body : SB) (x : D) (env : Env) (M : Sto) : SR := match asg t x env with
  | none => none
  | some env1 => exb F cls body env1 M
theorem turnB_inv {t : T} {body : SB} {x : D} {env : Env} {M : Sto} {r : Out × Env × Sto} (h : turnB F cls t body x env M = some r) : ∃ env1, asg t x env = some env1 ∧ exb F cls body env1 M = some r := by
  unfold turnB at h
  split at h
  · cases h
  · rename_i env1 e1
    exact ⟨env1, e1, h⟩
theorem forP_inv {f : D → Env → Sto → SR} {x : D} {xs : List D} {env : Env} {M : Sto} {r : Out × Env × Sto} (h : forP f (x :: xs) env M = some r) : ∃ o env1 M1, f x env M = some (o, env1, M1) ∧ ((∃ d, o = .ret d ∧ r = (.ret d, env1, M1)) ∨ ((o = .next ∨ o = .cont) ∧ forP f xs env1 M1 = some r)) := by
  rw [forP] at h
  split at h
  · cases h
  · rename_i d env1 M1 e1
    cases h
    exact ⟨_, env1, M1, e1, .inl ⟨d, rfl, rfl⟩⟩
  · rename_i env1 M1 e1
    exact ⟨_, env1, M1, e1, .inr ⟨.inl rfl, h⟩⟩
  · rename_i env1 M1 e1
    exact ⟨_, env1, M1, e1, .inr ⟨.inr rfl, h⟩⟩
/-- a turn's body -/
theorem turn_go {t : T} {body : SB} {x : D} {xv : V} {G : Addr → Prop} {ρ : List Addr} {M M1 : Sto} {H : Hp} {σ : L2.St} {env env1 : Env} {o : Out} {D : Ends} {N : L2.St → Hp → Prop} (a : At X.K ca G ρ M H σ env) (r : Rp X.K (Fb G ρ M) ρ H x xv) (h : turnB F cls t body x env M = some (o, env1, M1))
    (hr : ∀ d, o = .ret d → ∀ ρ' σ' H', Ext ρ M H ρ' M1 H' → At X.K ca G ρ' M1 H' σ' env1 → ∀ v, Rp X.K (Fb G ρ' M1) ρ' H' d v → D.rt v H')
    (hn : (o = .next ∨ o = .cont) → ∀ ρ' σ' H', Ext ρ M H ρ' M1 H' → At X.K ca G ρ' M1 H' σ' env1 → N σ' H') :
    gT X.K t xv σ H fun σ2 H2 => tS X.K ca (exb F cls body) { D with nx := N, ct := N, bk := D.nx } σ2 H2 := by
  obtain ⟨env2, e1, e2⟩ := turnB_inv h
  refine gT_ok a.en r e1 fun σ' r' _ => tS.go ⟨a.ok, r'⟩ e2 fun ρ' σ'' H' x' a' => ?_
  cases o with
  | next => exact hn (.inl rfl) ρ' σ'' H' x' a'
  | cont => exact hn (.inr rfl) ρ' σ'' H' x' a'
  | ret d => exact fun v rv => hr d rfl ρ' σ'' H' x' a' v rv
theorem s_for {t : T} {k : IK} {body : SB} (ha : PS X st (tFor (tI X.K ca (evI F cls k A B)) (gT X.K t) (tS X.K ca (exb F cls body)))) : PSv X ca F cls st (.for_ t k A B body) := PS.imp ha fun D σ H ⟨G, ρ, env, M, o, env', M', a0, h, q⟩ => by
  obtain ⟨s, M1, e1, e2⟩ := evI_for h
  refine ⟨G, ρ, env, M, s, M1, a0, e1, fun ρ1 H1 J x1 k1 sk => ?_⟩
  have a1 := a0.to x1 k1
  cases s with
  | pure xs =>
    obtain ⟨ds, vs, en, st0, hx, hr, sv, hst⟩ := sk
    have e2 : forP (turnB F cls t body) xs env M1 = some (o, env', M') := e2
    refine ⟨fun i m σ H => m = xs.length - i ∧ i ≤ xs.length ∧ ∃ ρ M env, Ext ρ1 M1 H1 ρ M H ∧ At X.K ca G ρ M H σ env ∧ forP (turnB F cls t body) (xs.drop i) env M = some (o, env', M'),
      ⟨xs.length, by rw [Nat.sub_zero], Nat.zero_le _, ρ1, M1, env, .refl, a1, by rw [List.drop_zero]; exact e2⟩, fun i m σ2 H2 ⟨hm, hi, ρ2, M2, env2, x2, a2, er⟩ => ?_⟩
    have hst2 : st0 H2 := hst H2 fun a o e f => (x2.keep a o e f).1
    have hlen : ds.length = xs.length := by rw [hx]; cases en <;> simp
    rcases Nat.lt_or_ge i xs.length with hlt | hge
    · right
      obtain ⟨g, x0, ex, ys0⟩ := srv_step hx a2.ok (a1.mvL x2 hr) sv hst2 hlt
      have hdr : xs.drop i = x0 :: xs.drop (i + 1) := by
        rw [List.getElem?_eq_getElem hlt] at ex
        cases ex
        exact List.drop_eq_getElem_cons hlt
      rw [hdr] at er
      obtain ⟨o1, env3, M3, et, ho⟩ := forP_inv er
      refine ⟨g, fun σ' H' => ∃ m', m' < m ∧ _, fun σ' H' q => q, fun xv H3 hy => ?_⟩
      obtain ⟨k3, x3, rx⟩ := ys0 xv H3 hy
      have a3 := a2.to x3 k3
      refine turn_go a3 rx et (fun d hd ρ4 σ4 H4 x4 a4 v rv => ?_) fun hn ρ4 σ4 H4 x4 a4 => ?_
      · rcases ho with ⟨d', e3, e4⟩ | ⟨e3, e4⟩
        · rw [hd] at e3
          cases e3; cases e4
          exact q ρ4 σ4 H4 (((x1.trans x2).trans x3).trans x4) a4 v rv
        · rw [hd] at e3
          rcases e3 with e3 | e3 <;> cases e3
      · rcases ho with ⟨d', e3, e4⟩ | ⟨e3, e4⟩
        · rw [e3] at hn
          rcases hn with hn | hn <;> cases hn
        · exact ⟨m - 1, by omega, by omega, hlt, ρ4, M3, env3, (x2.trans x3).trans x4, a4, e4⟩
    · left
      refine ⟨sv.stop i H2 hst2 (by rw [hr.length, hlen]; exact hge), ?_⟩
      rw [List.drop_eq_nil_of_le hge, forP] at er
      cases er
      exact q ρ2 σ2 H2 (x1.trans x2) a2
  | loc n kk =>
    obtain ⟨p, hp, rfl⟩ := sk
    have e2 : forL (turnB F cls t body) n kk 0 env M1 = some (o, env', M') := e2
    refine ⟨fun i m σ H => ∃ ρ M env, Ext ρ1 M1 H1 ρ M H ∧ At X.K ca G ρ M H σ env ∧ forL (turnB F cls t body) n m i env M = some (o, env', M'),
      ⟨kk, ρ1, M1, env, .refl, a1, e2⟩, fun i m σ2 H2 ⟨ρ2, M2, env2, x2, a2, er⟩ => ?_⟩
    have hp2 := x2.pre n p hp
    cases m with
    | zero =>
      rw [forL] at er
      split at er
      · rename_i xs em
        split at er
        · rename_i hz
          cases er
          obtain ⟨vs, g1, g2, g3⟩ := a2.ok.ob n _ p em hp2
          exact .inl ⟨⟨vs, SqL.of g1, by rw [g3.length]; exact hz⟩, q ρ2 σ2 H2 (x1.trans x2) a2⟩
        · cases er
      · cases er
    | succ m =>
      rw [forL] at er
      split at er
      · rename_i xs em
        split at er
        · cases er
        · rename_i x0 ex
          obtain ⟨vs, g1, g2, g3⟩ := a2.ok.ob n _ p em hp2
          obtain ⟨u, u1, u2⟩ := g3.get ex
          right
          refine ⟨⟨vs, u, SqL.of g1, u1⟩, fun σ' H' => ∃ m', m' < m + 1 ∧ _, fun σ' H' q => q, fun xv H3 hy => ?_⟩
          obtain ⟨rfl, hy⟩ := hy
          have exv : xv = u := Option.some.inj ((hy vs (SqL.of g1)).symm.trans u1)
          subst exv
          split at er
          · cases er
          · rename_i d env3 M3 et
            cases er
            exact turn_go a2 u2 et (fun d' hd ρ4 σ4 H4 x4 a4 v rv => by cases hd; exact q ρ4 σ4 H4 ((x1.trans x2).trans x4) a4 v rv) fun hn => by rcases hn with hn | hn <;> cases hn
          · rename_i env3 M3 et
            exact turn_go a2 u2 et (fun d' hd => by cases hd) fun hn ρ4 σ4 H4 x4 a4 => ⟨m, Nat.lt_succ_self m, ρ4, M3, env3, x2.trans x4, a4, er⟩
          · rename_i env3 M3 et
            exact turn_go a2 u2 et (fun d' hd => by cases hd) fun hn ρ4 σ4 H4 x4 a4 => ⟨m, Nat.lt_succ_self m, ρ4, M3, env3, x2.trans x4, a4, er⟩
      · cases er

/-! ### while -/
/-- while, n turns at most -/
def whileN (c : Env → Sto → Option (Bool × Sto)) (b : Env → Sto → SR) : Nat → Env → Sto → SR
  | 0, _, _ => none
  | n + 1, env, M => match c env M with
    | none => none
    | some (false, M1) => some (.next, env, M1)
    | some (true, M1) => match b env M1 with
      | none => none
      | some (.ret d, e, M2) => some (.ret d, e, M2)
      | some (.next, e, M2) => whileN c b n e M2
      | some (.cont, e, M2) => whileN c b n e M2
theorem whileD_N (c : Env → Sto → Option (Bool × Sto)) (b : Env → Sto → SR) : ∀ (env : Env) (M : Sto) (r : Out × Env × Sto), whileD c b env M = some r → ∃ n, whileN c b n env M = some r := by
  refine whileD.partial_correctness c b (fun env M r => ∃ n, whileN c b n env M = some r) fun f ih env M r h => ?_
  split at h
  · cases h
  · rename_i M1 e1
    exact ⟨1, by rw [whileN, e1]; exact h⟩
  · rename_i M1 e1
    split at h
    · cases h
    · rename_i d e M2 e2
      exact ⟨1, by rw [whileN, e1]; simp only; rw [e2]; exact h⟩
    · rename_i e M2 e2
      obtain ⟨n, hn⟩ := ih _ _ _ h
      exact ⟨n + 1, by rw [whileN, e1]; simp only; rw [e2]; exact hn⟩
    · rename_i e M2 e2
      obtain ⟨n, hn⟩ := ih _ _ _ h
      exact ⟨n + 1, by rw [whileN, e1]; simp only; rw [e2]; exact hn⟩
theorem s_whl {body : SB} (ha : PS X st (tWhile (tT X.K ca fun env M => tst (ev F cls C env M)) (tS X.K ca (exb F cls body)))) : PSv X ca F cls st (.whl C body) := PS.imp ha fun D σ H ⟨G, ρ, env, M, o, env', M', a0, h, q⟩ => by
  rw [exec] at h
  obtain ⟨n, hn⟩ := whileD_N _ _ _ _ _ h
  refine ⟨fun m σ H1 => ∃ ρ1 M1 env, Ext ρ M H ρ1 M1 H1 ∧ At X.K ca G ρ1 M1 H1 σ env ∧ whileN (fun env M => tst (ev F cls C env M)) (fun env M => exb F cls body env M) m env M1 = some (o, env', M'), ⟨n, ρ, M, env, .refl, a0, hn⟩, fun m σ1 H1 ⟨ρ1, M1, env1, x1, a1, er⟩ => ?_⟩
  cases m with
  | zero => cases er
  | succ m =>
    rw [whileN] at er
    split at er
    · cases er
    · rename_i M2 e1
      cases er
      exact tT.go (f := fun env M => tst (ev F cls C env M)) a1 e1 fun ρ2 H2 x2 a2 => by
        rw [if_neg Bool.false_ne_true]
        exact q ρ2 σ1 H2 (x1.trans x2) a2
    · rename_i M2 e1
      refine tT.go (f := fun env M => tst (ev F cls C env M)) a1 e1 fun ρ2 H2 x2 a2 => ?_
      rw [if_pos rfl]
      refine ⟨fun σ' H' => ∃ m', m' < m + 1 ∧ _, fun σ' H' q => q, ?_⟩
      split at er
      · cases er
      · rename_i d e M3 e2
        cases er
        exact tS.go a2 e2 fun ρ3 σ3 H3 x3 a3 v rv => q ρ3 σ3 H3 ((x1.trans x2).trans x3) a3 v rv
      · rename_i e M3 e2
        exact tS.go a2 e2 fun ρ3 σ3 H3 x3 a3 => ⟨m, Nat.lt_succ_self m, ρ3, M3, e, (x1.trans x2).trans x3, a3, er⟩
      · rename_i e M3 e2
        exact tS.go a2 e2 fun ρ3 σ3 H3 x3 a3 => ⟨m, Nat.lt_succ_self m, ρ3, M3, e, (x1.trans x2).trans x3, a3, er⟩
end
end MP

/-! MP16: what the checker asks of shapes. -/
namespace MP
open PySem PySem.Spec PyProof.Rows L2
/-! ### strings -/
def sq (a b : Str) : Bool := a.cps.toList == b.cps.toList
theorem sq_eq {a b : Str} (h : sq a b = true) : a = b := by
  have e : a.cps.toList = b.cps.toList := eq_of_beq h
  cases a; cases b
  congr 1
  exact Array.toList_inj.mp e
theorem sq_refl (a : Str) : sq a a = true := beq_self_eq_true _
theorem sq_ne {a b : Str} (h : sq a b = false) : a ≠ b := fun e => by
  subst e
  rw [sq_refl] at h; cases h
theorem sq_beq {a b : Str} (h : sq a b = false) : (a == b) = false := beq_eq_false_iff_ne.mpr (sq_ne h)
def lkS {α : Type} (x : Str) : List (Str × α) → Option α
  | [] => none
  | (y, a) :: r => if sq x y then some a else lkS x r
theorem lkS_eq {α : Type} (x : Str) : ∀ l : List (Str × α), lkS x l = l.lookup x
  | [] => rfl
  | (y, a) :: r => by
    rw [lkS, List.lookup_cons]
    cases h : sq x y with
    | true =>
      have e := sq_eq h
      subst e
      simp
    | false =>
      have z : (x == y) = false := sq_beq h
      rw [z]
      simp only [Bool.false_eq_true, if_false]
      exact lkS_eq x r
def isK (k : Option NameKind) (j : NameKind) : Bool := match k with
  | some q => decide (q = j)
  | none => false
theorem isK_eq {k : Option NameKind} {j : NameKind} (h : isK k j = true) : k = some j := by
  cases k with
  | none => cases h
  | some q => exact congrArg some (of_decide_eq_true h)
def visB (sc : Scope) (x : Str) : Bool := match lkS x sc.names with
  | some .local => true
  | some .cell => true
  | some .free => true
  | _ => false
theorem visB_ok {sc : Scope} {x : Str} (h : visB sc x = true) : Vis sc x := by
  unfold visB at h
  rw [lkS_eq] at h
  unfold Vis
  split at h
  · rename_i e; exact .inl e
  · rename_i e; exact .inr (.inl e)
  · rename_i e; exact .inr (.inr e)
  · cases h
def locB (sc : Scope) (x : Str) : Bool := match lkS x sc.names with
  | some .local => true
  | some .cell => true
  | _ => false
theorem locB_ok {sc : Scope} {x : Str} (h : locB sc x = true) : L2.Loc sc x := by
  unfold locB at h
  rw [lkS_eq] at h
  unfold L2.Loc
  split at h
  · rename_i e; exact .inl e
  · rename_i e; exact .inr e
  · cases h
def lclB (sc : Scope) (x : Str) : Bool := isK (lkS x sc.names) .local
theorem lclB_ok {sc : Scope} {x : Str} (h : lclB sc x = true) : sc.names.lookup x = some .local := by
  unfold lclB at h
  rw [lkS_eq] at h
  exact isK_eq h
def glB (sc : Scope) (x : Str) : Bool := isK (lkS x sc.names) .globalImplicit
theorem glB_ok {X : Cx} {sc : Scope} {x : Str} (e : X.env.scope = sc) (h : glB sc x = true) : Gl X x := by
  unfold glB at h
  rw [lkS_eq] at h
  show X.env.scope.names.lookup x = _
  rw [e]
  exact isK_eq h
def atB (N : List Str) (i : Nat) (x : Str) : Bool := match N[i]? with
  | some y => sq y x
  | none => false
theorem atB_ok {N : List Str} {i : Nat} {x : Str} (h : atB N i x = true) : N[i]? = some x := by
  unfold atB at h
  split at h
  · rename_i y e
    rw [e, sq_eq h]
  · cases h

/-! ### shapes -/
def isStar : Expr → Bool
  | .Starred _ _ => true
  | _ => false
def noStar (es : List Expr) : Bool := es.all fun e => !isStar e
theorem star_cons {e : Expr} {es : List Expr} {env : PySem.Env} (h : isStar e = false) : starEach (e :: es) env = (false, eval e env) :: starEach es env := by
  cases e <;> first | rfl | (cases h)
theorem star_plain {env : PySem.Env} {pos : Pos} : ∀ {es : List Expr}, noStar es = true → (backTo pos (starEach es env)).any (·.1) = false
  | [], _ => rfl
  | e :: es, h => by
    rw [noStar, List.all_cons, Bool.and_eq_true, Bool.not_eq_true'] at h
    rw [star_cons h.1]
    show (false || (backTo pos (starEach es env)).any (·.1)) = false
    rw [Bool.false_or]
    exact star_plain h.2
def plainT : Expr → Bool
  | .UnaryOp .Not _ _ => false
  | .BoolOp _ _ _ => false
  | .IfExp _ _ _ _ => false
  | .Compare _ _ _ _ => false
  | _ => true
theorem plainT_ok {e : Expr} {env : PySem.Env} (h : plainT e = true) : ∀ whole, isTrue e env whole = (do let v ← whole; standAt e.pos; holding [v] (truthy v)) := by
  intro whole
  cases e with
  | UnaryOp op a pos => cases op <;> first | rfl | (cases h)
  | BoolOp _ _ _ => cases h
  | IfExp _ _ _ _ => cases h
  | Compare _ _ _ _ => cases h
  | _ => rfl
def plainI : Expr → Bool
  | .Slice _ _ _ _ => false
  | _ => true
theorem plainI_ok {e : Expr} (h : plainI e = true) : PlainIx e := by
  intro o i
  cases e with
  | Slice _ _ _ _ => cases h
  | _ => rfl
theorem augI_ok {e : Expr} (h : plainI e = true) : ∀ ov iv new, augStore e ov iv new = (do holding [new, ov, iv] (setItem ov iv new); release [new, ov, iv] []; pure .next) := by
  intro ov iv new
  cases e with
  | Slice _ _ _ _ => cases h
  | _ => rfl
def isSet : Expr → Bool
  | .Set _ _ _ => true
  | _ => false
theorem noSet_marks {e : Expr} {op : CmpOp} (h : isSet e = false) : behindInMarks op e = false := by
  cases e <;> first | rfl | (cases h)
theorem noSet_folded {e : Expr} {env : PySem.Env} (h : isSet e = false) : ∀ x, foldedSetIterable e env x = pure x := by
  intro x
  cases e <;> first | rfl | (cases h)
def isCall : Expr → Bool
  | .Call _ _ _ _ => true
  | _ => false
theorem base_ok {o : Expr} {attr : Str} {env : PySem.Env} {w : Sem Value} (h : isCall o = false) : attributeBase o attr env w = w := by
  cases o <;> first | rfl | (cases h)
def isCompr : Expr → Bool
  | .ListComp _ _ _ _ => true
  | .SetComp _ _ _ _ => true
  | .DictComp _ _ _ _ _ => true
  | _ => false
theorem sw_no {e : Expr} {t : Option Expr} {l : Nat} {env : PySem.Env} (h : isCompr e = false) : swapsWith e t l env = pure false := by
  cases e <;> first | rfl | (cases h)
def isTupE : Expr → Bool
  | .Tuple _ _ _ => true
  | _ => false
theorem sst_no {tg e : Expr} {env : PySem.Env} (h : isTupE e = false) : swappedStores [tg] e env = pure none := by
  cases tg <;> cases e <;> first | rfl | (cases h)
theorem sst_one {a i : Expr} {p1 : Pos} {e : Expr} {env : PySem.Env} : swappedStores [.Subscript a i p1] e env = pure none := by
  cases e <;> rfl
theorem sst_sub {a i b j : Expr} {p1 p2 pt : Pos} {k : Nat} {e : Expr} {env : PySem.Env} : swappedStores [.Tuple [.Subscript a i p1, .Subscript b j p2] k pt] e env = pure none := by
  cases e with
  | Tuple vs k2 p3 =>
    unfold swappedStores
    simp only [List.filterMap_cons, List.filterMap_nil, List.length_nil, List.length_cons]
    split
    · rfl
    · split
      · rfl
      · rfl
  | _ => rfl
theorem sst_pair {x y : Str} {px py pt p3 : Pos} {k k2 : Nat} {a b : Expr} {env : PySem.Env} (hk : env.scope.kind = .function) (hx : env.scope.names.lookup x = some .local) (hy : env.scope.names.lookup y = some .local) (hl : (py.line == px.line) = true) (hxy : x ≠ y)
    (hs : isStar a = false ∧ isStar b = false) (hf : (foldedForSure 8 a && foldedForSure 8 b) = false) (hc : (constantsAlone 8 a && constantsAlone 8 b) = false) :
    swappedStores [.Tuple [.Name x px, .Name y py] k pt] (.Tuple [a, b] k2 p3) env = pure (some [x, y]) := by
  have kx : env.kindOf x = some .local := hx
  have ky : env.kindOf y = some .local := hy
  have hb : env.blockKind = .function := by unfold Env.blockKind; rw [hk]; rfl
  have s1 : ∀ e : Expr, isStar e = false → (match e with | .Starred .. => true | _ => false) = false := fun e h => by cases e <;> first | rfl | (cases h)
  unfold swappedStores
  have n1 : (x == y) = false := beq_eq_false_iff_ne.mpr hxy
  have n2 : (y == x) = false := beq_eq_false_iff_ne.mpr (Ne.symm hxy)
  have ed : [x, y].eraseDups = [x, y] := by
    simp [List.eraseDups_cons, n1, n2, hxy, Ne.symm hxy]
  simp only [hb, List.length_cons, List.length_nil, List.any_cons, List.any_nil, s1 a hs.1, s1 b hs.2, List.head?_cons, Option.map_some, Option.getD_some, Expr.pos, List.filterMap_cons, List.filterMap_nil, kx, ky, hl, beq_self_eq_true, Bool.and_self, if_true, Bool.and_true, ed, List.all_cons, List.all_nil, hf, hc,
    Bool.or_self, Bool.or_false, Bool.not_true, bne_self_eq_false, Bool.false_eq_true, if_false, Nat.reduceAdd, Nat.reduceBEq, Bool.true_or, Bool.not_false]
  refine if_neg fun h => ?_
  rcases (Bool.or_eq_true _ _).mp h with h | h
  · have z := s1 a hs.1
    exact absurd (h.symm.trans z) (by decide)
  · have z := s1 b hs.2
    exact absurd (h.symm.trans z) (by decide)
end MP

/-! MP23: a set made of a list that may be long, its members few. -/
namespace MP
open PySem PySem.Spec PyProof.Rows L2
section
variable {P : Program} {w : World} {A : Around} {E : Value → Shared → Prop}
/-- what stays at each old address -/
abbrev OldIn (h0 h : Heap) : Prop := ∀ b o, h0.get? b = some o → h.get? b = some o
/-- Rel i: what is known of the set at S behind the first i things -/
structure Fill (P : Program) (w : World) (B : Around) (h0 : Heap) (S : Addr) (vs : Array Value) (Rel : Nat → Heap → Prop) : Prop where
  stay : ∀ i h h', Rel i h → (∀ o, h.get? S = some o → h'.get? S = some o) → OldIn h0 h' → Rel i h'
  step : ∀ (i : Nat) (v : Value) (s : Shared) (Q : Bool → Shared → Prop) (E : Value → Shared → Prop), vs[i]? = some v → Rel i s.heap → OldIn h0 s.heap →
    (∀ b h' tk, s.toks ≤ tk → Heap.SameBut S s.heap h' → Rel (i + 1) h' → Q b { s with heap := h', toks := tk }) → wpAny (model P w) B (setAdd S v) Q E s
theorem fill_loop {I S : Addr} {fp wr : List Addr} {G : Array GenState → Array GenState → Prop} {Pv : Nat → Value → Prop} {St : Nat → Shared → Prop} {R : Result → Shared → Prop} {vs : Array Value} {h0 : Heap} {Rel : Nat → Heap → Prop}
    (W : WalksS P w A.in1 I fp wr G vs.size Pv St) (nS : S ∉ fp) (at_ : ∀ i v, Pv i v → vs[i]? = some v) (fl : Fill P w A.in1 h0 S vs Rel) (zS : h0.get? S = none) (zw : ∀ b ∈ wr, h0.get? b = none)
    (fin : ∀ s', Moved (S :: wr) G s s' → Rel vs.size s'.heap → OldIn h0 s'.heap → R (.ok (.ret .none)) s') : ∀ (left i : Nat) (t : Shared), i + left = vs.size → St i t → Rel i t.heap → OldIn h0 t.heap → Moved (S :: wr) G s t →
      codeAny (model P w) A (.builtin "set.update.loop" ⟨[.ref S, .ref I], []⟩) R t
  | left, i, t, hn, st, rel, old, mv => by
    have nw : S ∉ wr := fun z => nS (W.sub S z)
    have up : ∀ {x y : Shared}, Moved wr G x y → Moved (S :: wr) G x y := fun m => m.mono fun b hb => List.mem_cons_of_mem S hb
    have old' : ∀ {x y : Shared}, Moved wr G x y → OldIn h0 x.heap → OldIn h0 y.heap := fun m o b u e => m.heap b u (fun z => by rw [zw b z] at e; cases e) (o b u e)
    refine codeAny_builtin F.entry_set_update_loop ?_
    rw [Around.under_plainId F.plain_set_update_loop _]
    cases left with
    | zero =>
      have ei : i = vs.size := hn
      subst ei
      change wpAny _ A.in1 (pyNext (Value.ref I) >>= _) _ _ t
      refine wpAny_bind (W.done t _ _ st fun t1 m1 => ?_)
      change wpAny _ A.in1 (ret .none) _ _ t1
      exact wpAny_pure (fin t1 (Moved.trans W.gtrans mv (up m1)) (fl.stay _ _ _ rel (fun o e => m1.heap S o nw e) (old' m1 old)) (old' m1 old))
    | succ left =>
      change wpAny _ A.in1 (pyNext (Value.ref I) >>= _) _ _ t
      refine wpAny_bind (W.item i t _ _ (by omega) st fun v t1 pv st1 m1 => ?_)
      have o1 := old' m1 old
      have r1 := fl.stay i _ t1.heap rel (fun o e => m1.heap S o nw e) o1
      change wpAny _ A.in1 (holding [v] (setAdd S v) >>= _) _ _ t1
      refine wpAny_bind (wpAny_holding (fl.step i v t1 _ _ (at_ i v pv) r1 o1 fun b h2 tk htk sb r2 => ?_))
      have o2 : OldIn h0 h2 := fun b u e => (sb.2 b fun z => by rw [z, zS] at e; cases e).trans (o1 b u e)
      refine wpAny_pure ⟨plainId_quiet F.plain_set_update_loop _, fill_loop W nS at_ fl zS zw fin left (i + 1) _ (by omega) (W.frame (i + 1) t1 h2 tk st1 htk fun b hb u e => ?_) r2 o2 ?_⟩
      · rw [sb.2 b fun z => nS (z ▸ hb)]; exact e
      · refine Moved.trans W.gtrans mv ((up m1).then_heap htk fun b u hb e => ?_)
        rw [sb.2 b fun z => hb (z ▸ List.mem_cons_self)]; exact e
/-- an empty set, newly made -/
abbrev set0 (w : World) : Obj := { cls := .type "set", dict := none, data := .set #[] 0 (.fresh 0 0 (!w.params.followText "set-order")) }
set_option maxHeartbeats 3200000 in
theorem set_from {s : Shared} {l : Addr} {vs : Array Value} {Rel : Nat → Heap → Prop} {Q : Value → Shared → Prop} (hh : A.handled = none) (hl : s.heap.IsList l vs) (fl : ∀ B : Around, B.units ≤ A.units + 3 → Fill P w B s.heap s.heap.objs.size vs Rel)
    (ini : ∀ h, h.get? s.heap.objs.size = some (set0 w) → OldIn s.heap h → Rel 0 h) (fin : ∀ h tk, Rel vs.size h → OldIn s.heap h → Q (.ref s.heap.objs.size) { s with heap := h, toks := tk }) :
    wpAny (model P w) A (call (.type "set") [.ref l]) Q E s := by
  obtain ⟨cc, tt, mro⟩ := F.called_set.mro
  have k1 := F.called_set.made
  have k2 := F.called_set.sub
  have k3 := F.called_set.notType
  have k4 := F.called_set.canCreate
  have k5 := F.typeCall_set_1 (.ref l)
  refine wpAny_call (codeAny_of_tree ?_)
  change wpAny _ _ (callAny (Value.type "set") _) _ _ _
  refine wpAny_pure ⟨Code.quiet_builtin _ (by decide +kernel), codeAny_builtin F.entry_type_call ?_⟩
  rw [Around.under_plain (weight_type_call_type "set" [.ref l] []) rfl]
  repeat (any_goals (first | assumption
                           | wp_step))
  have base : codeAny (model P w) A.in1 (.call (.builtin "set.__new__") ⟨[.type "set", .ref l], []⟩) (wants (fun obj s1 => obj = .ref s.heap.objs.size ∧ s1 = { s with heap := s.heap.push (set0 w) }) E) s := code_set_led1 (.ref l) ⟨rfl, rfl⟩
  refine codeAny_mono base fun r s1 hr => ?_
  cases r with
  | error e => exact hr
  | ok f1 =>
    cases f1 with
    | ret obj =>
      obtain ⟨rfl, rfl⟩ := hr
      have gS : (s.heap.push (set0 w)).get? s.heap.objs.size = some (set0 w) := Heap.get?_push_size _ rfl
      have gT : Shared.TypeIs { s with heap := s.heap.push (set0 w) } (.ref s.heap.objs.size) "set" := ⟨_, gS, rfl⟩
      have q1 := F.called_set.init.lookup
      have q2 := F.called_set.init.bind (.ref s.heap.objs.size)
      repeat (any_goals (first | assumption
                               | wp_step))
      refine codeAny_mono (codeAny_call_builtin (R := wants (fun r s2 => r = .none ∧ ∃ h tk, s2 = { s with heap := h, toks := tk } ∧ Rel vs.size h ∧ OldIn s.heap h) E) F.called_set.init.plain F.entry_set_init (check_set_init_1 gT ?_)) fun r2 s2 hr2 => ?_
      · obtain ⟨⟨c0, d0, dat, sl⟩, ol, c1, nl, d1⟩ := hl
        simp only at c1 d1
        subst c1; subst d1
        have ol1 : (s.heap.push (set0 w)).get? l = some { cls := .type "list", dict := d0, data := .seq vs nl, slots := sl } := Heap.get?_push_of_some _ ol
        have z1 := F.sub_list_set
        have z2 := F.sub_list_frozenset
        have z3 : (Value.type "list" == Value.type "dict") = false := rfl
        have ll : (s.heap.push (set0 w)).IsList l vs := ⟨_, ol1, rfl, nl, rfl⟩
        unfold Builtin.«set.__init__» noKeywords Builtin.Frozenset.updateFrom
        generalize ePI : pyIter = PI
        wp_walk
        subst ePI
        refine wpAny_pyIter_list ll (wpAny_bind (wpAny_runValue ?_))
        have lS : l < s.heap.objs.size := Heap.lt_size ol
        have nn : ∀ b, s.heap.objs.size ≤ b → s.heap.get? b = none := fun b hb => by
          cases q : s.heap.get? b with
          | none => rfl
          | some o => exact absurd (Heap.lt_size q) (Nat.not_lt.mpr hb)
        have h3 : A.in1.in1.in1.handled = none := by simp [hh]
        have nI : l ≠ (s.heap.push (set0 w)).objs.size := by
          rw [Heap.size_push]
          exact Nat.ne_of_lt (Nat.lt_succ_of_lt lS)
        have nS : s.heap.objs.size ∉ [(s.heap.push (set0 w)).objs.size, l] := by
          rw [Heap.size_push]
          intro z
          rcases List.mem_cons.mp z with z | z
          · exact absurd z (Nat.ne_of_lt (Nat.lt_succ_self _))
          · exact absurd (List.mem_singleton.mp z) (Nat.ne_of_gt lS)
        have gI : ∀ o : Obj, ((s.heap.push (set0 w)).push o).get? s.heap.objs.size = some (set0 w) := fun o => Heap.get?_push_of_some _ gS
        have oI : ∀ o : Obj, OldIn s.heap ((s.heap.push (set0 w)).push o) := fun o b u e => Heap.get?_push_of_some _ (Heap.get?_push_of_some _ e)
        have WL := (Walks.list (prog := P) (w := w) h3 _ l nI vs).toS
        refine fill_loop WL nS (fun i v z => z) (fl _ ?hu) (nn _ (Nat.le_refl _)) (fun b hb => nn b ?_) (fun s3 mv rl old => ?_) vs.size 0 _ (Nat.zero_add _) ?st (ini _ (gI _) (oI _)) (oI _) (Moved.refl WL.grefl)
        case hu => exact Nat.le_refl _
        case st => exact ⟨⟨_, Heap.get?_push_size _ rfl, rfl, rfl⟩, ll.push _⟩
        · rw [List.mem_singleton.mp hb, Heap.size_push]
          omega
        · obtain ⟨h3, g3, d3, t3, os3⟩ := s3
          have e1 : g3 = s.gens := mv.gens
          have e2 : d3 = s.drawn := mv.drawn
          have e3 : os3 = s.os := mv.os
          subst e1; subst e2; subst e3
          change wpAny _ _ _ _ _ _
          refine wpAny_pure ?_
          change wpAny _ _ (ret .none) _ _ _
          exact wpAny_pure ⟨rfl, h3, t3, rfl, rl, old⟩
      · cases r2 with
        | error e => exact hr2
        | ok f2 =>
          cases f2 with
          | ret u =>
            obtain ⟨rfl, h2, tk, rfl, rl, old⟩ := hr2
            repeat (any_goals (first | assumption
                                     | wp_step))
            exact fin _ _ rl old
          | _ => exact hr2.elim
    | _ => exact hr.elim
end
end MP

/-! MP24: sorted(set(..)). -/
namespace MP
open PySem PySem.Spec PyProof.Rows L2
/-! ### in plain Lean -/
section
variable {α : Type} [DecidableEq α]
theorem mem_dd {x : α} : ∀ {l : List α}, x ∈ dd l ↔ x ∈ l
  | [] => Iff.rfl
  | y :: r => by
    rw [dd, List.mem_cons, List.mem_cons, List.mem_filter, mem_dd (l := r), decide_eq_true_eq]
    by_cases h : x = y
    · simp [h]
    · simp [h]
theorem nodup_dd : ∀ l : List α, (dd l).Nodup
  | [] => List.nodup_nil
  | y :: r => by
    rw [dd, List.nodup_cons]
    refine ⟨fun h => ?_, (nodup_dd r).filter _⟩
    have := (List.mem_filter.mp h).2
    simp at this
theorem len_sub : ∀ {m l : List α}, m.Nodup → (∀ x ∈ m, x ∈ l) → m.length ≤ l.length
  | [], _, _, _ => Nat.zero_le _
  | x :: r, l, h, hs => by
    rw [List.nodup_cons] at h
    have hx := hs x List.mem_cons_self
    have ih := len_sub (l := l.erase x) h.2 fun y hy => (List.mem_erase_of_ne fun (e : y = x) => h.1 (e ▸ hy)).mpr (hs y (List.mem_cons_of_mem _ hy))
    rw [List.length_erase_of_mem hx] at ih
    have := List.length_pos_of_mem hx
    rw [List.length_cons]
    omega
theorem len_dd {l : List α} {m : List α} (h : m.Nodup) (hs : ∀ x ∈ m, x ∈ l) : m.length ≤ (dd l).length := len_sub h fun x hx => mem_dd.mpr (hs x hx)
end
theorem lexLe_refl : ∀ a : List Int, lexLe a a = true
  | [] => rfl
  | x :: xs => by simp [lexLe, lexLe_refl xs]
theorem lexLe_total : ∀ a b : List Int, (lexLe a b || lexLe b a) = true
  | [], _ => rfl
  | _ :: _, [] => rfl
  | x :: xs, y :: ys => by
    have ih := lexLe_total xs ys
    simp only [lexLe, Bool.or_eq_true, Bool.and_eq_true, decide_eq_true_eq] at ih ⊢
    rcases Int.lt_trichotomy x y with h | h | h
    · exact .inl (.inl h)
    · subst h
      exact ih.imp (fun h => .inr ⟨rfl, h⟩) fun h => .inr ⟨rfl, h⟩
    · exact .inr (.inl h)
theorem lexLe_trans : ∀ a b c : List Int, lexLe a b = true → lexLe b c = true → lexLe a c = true
  | [], _, _, _, _ => rfl
  | _ :: _, [], _, h, _ => by cases h
  | _ :: _, _ :: _, [], _, h => by cases h
  | x :: xs, y :: ys, z :: zs, h1, h2 => by
    simp only [lexLe, Bool.or_eq_true, Bool.and_eq_true, decide_eq_true_eq] at h1 h2 ⊢
    rcases h1 with h1 | ⟨rfl, h1⟩
    · rcases h2 with h2 | ⟨rfl, h2⟩
      · exact .inl (by omega)
      · exact .inl h1
    · rcases h2 with h2 | ⟨rfl, h2⟩
      · exact .inl h2
      · exact .inr ⟨rfl, lexLe_trans xs ys zs h1 h2⟩
theorem lexLe_antisymm : ∀ a b : List Int, lexLe a b = true → lexLe b a = true → a = b
  | [], [], _, _ => rfl
  | [], _ :: _, _, h => by cases h
  | _ :: _, [], h, _ => by cases h
  | x :: xs, y :: ys, h1, h2 => by
    simp only [lexLe, Bool.or_eq_true, Bool.and_eq_true, decide_eq_true_eq] at h1 h2
    rcases h1 with h1 | ⟨rfl, h1⟩
    · rcases h2 with h2 | ⟨rfl, h2⟩ <;> omega
    · rcases h2 with h2 | ⟨_, h2⟩
      · omega
      · rw [lexLe_antisymm xs ys h1 h2]
theorem sortK_pw (l : List (List Int)) : (sortK l).Pairwise fun a b => lexLe a b = true := List.pairwise_mergeSort lexLe_trans lexLe_total l
theorem sortK_perm (l : List (List Int)) : (sortK l).Perm l := List.mergeSort_perm l _
theorem sortI_pw (l : List Int) : (sortI l).Pairwise fun a b => a ≤ b := (List.pairwise_mergeSort (le := fun a b : Int => decide (a ≤ b)) (fun a b c h1 h2 => by simp only [decide_eq_true_eq] at *; omega) (fun a b => by simp only [Bool.or_eq_true, decide_eq_true_eq]; omega) l).imp fun h => of_decide_eq_true h
theorem sortI_perm (l : List Int) : (sortI l).Perm l := List.mergeSort_perm l _
theorem code_le {B : Int} : ∀ {a b : List Int}, a.length = b.length → TS.Bd B a → TS.Bd B b → TS.code B a ≤ TS.code B b → lexLe a b = true
  | [], _, _, _, _, _ => rfl
  | _ :: _, [], h, _, _, _ => by cases h
  | x :: xs, y :: ys, h, h1, h2, h3 => by
    have hl : xs.length = ys.length := by simpa using h
    simp only [lexLe, Bool.or_eq_true, Bool.and_eq_true, decide_eq_true_eq]
    rcases Int.lt_trichotomy x y with z | z | z
    · exact .inl z
    · subst z
      refine .inr ⟨rfl, code_le hl h1.tail h2.tail ?_⟩
      refine Int.not_lt.mp fun z => ?_
      have q := (TS.code_same (B := B) (d := x) hl.symm).mpr z
      omega
    · have q := TS.code_lt hl.symm h2.tail h1.tail z
      omega
theorem sort_is {l m : List (List Int)} (hp : m.Perm (dd l)) (hs : m.Pairwise fun a b => lexLe a b = true) : m = sortK (dd l) :=
  List.Perm.eq_of_pairwise (le := fun a b => lexLe a b = true) (fun a b _ _ => lexLe_antisymm a b) hs (sortK_pw _) (hp.trans (sortK_perm _).symm)
theorem sortI_is {l m : List Int} (hp : m.Perm (dd l)) (hs : m.Pairwise fun a b => a ≤ b) : m = sortI (dd l) :=
  List.Perm.eq_of_pairwise (le := fun a b : Int => a ≤ b) (fun a b _ _ h1 h2 => Int.le_antisymm h1 h2) hs (sortI_pw _) (hp.trans (sortI_perm _).symm)
/-- a bound of all numbers -/
theorem bound_of : ∀ l : List Int, ∃ B : Int, ∀ x ∈ l, x < B
  | [] => ⟨0, fun _ h => nomatch h⟩
  | y :: l => by
    obtain ⟨B, h⟩ := bound_of l
    refine ⟨max B (y + 1), fun x hx => ?_⟩
    rcases List.mem_cons.mp hx with rfl | hx
    · omega
    · have := h x hx
      omega
/-! ### a set of tuples of whole numbers -/
section
variable {P : Program} {w : World} {A : Around}
def RelT (P : Program) (w : World) (S : Addr) (kk : List (Addr × List Int)) (i : Nat) (h : Heap) : Prop := ∃ L es ep t, SetTR P w h S L es ep t ∧ Got kk i L
theorem fill_tups {h0 : Heap} {S : Addr} {vs : Array Value} {kk : List (Addr × List Int)} {B : Around} (hv : vs.toList = kk.map fun p => Value.ref p.1) (hk : ∀ p ∈ kk, IsT P w h0 p.2 p.1) (few : (dd (kk.map (·.2))).length < 60) (hu : B.units < cLine) (zS : h0.get? S = none) : Fill P w B h0 S vs (RelT P w S kk) := by
  have sub : ∀ {i : Nat} {L : List (Addr × List Int)}, Got kk i L → ∀ p ∈ L, p ∈ kk := fun g p hp => List.mem_of_mem_take (g.sub p hp)
  refine ⟨fun i h h' ⟨L, es, ep, t, R, g⟩ h1 h2 => ⟨L, es, ep, t, R.keep h1 fun p hp => isT_keep (hk p (sub g p hp)) h2, g⟩, fun i v s Q E hi ⟨L, es, ep, t, R, g⟩ old hQ => ?_⟩
  have ev : (kk.map fun p => Value.ref p.1)[i]? = some v := by rw [← hv, Array.getElem?_toList]; exact hi
  rw [List.getElem?_map] at ev
  obtain ⟨p, hp, rfl⟩ := Option.map_eq_some_iff.mp ev
  have ht : IsT P w s.heap p.2 p.1 := isT_keep (hk p (List.mem_of_getElem? hp)) old
  have hL : L.length < 60 := by
    have q := len_dd (l := kk.map (·.2)) R.nd fun x hx => by
      obtain ⟨r, hr, rfl⟩ := List.mem_map.mp hx
      exact List.mem_map.mpr ⟨r, sub g r hr, rfl⟩
    rw [List.length_map] at q
    omega
  unfold setAdd
  refine wpAny_holding (wpAny_bind (wpAny_pyHash_tuple hu ht ?_))
  refine add_at (s := { s with toks := s.toks + (p.2.length + 1) }) R ht hu (by omega) fun b h' L' es' ep' t' sb R' c1 c2 => ?_
  refine hQ b h' _ (Nat.le_add_right _ _) sb ⟨L', es', ep', t', R', ?_⟩
  rcases Classical.em (p.2 ∈ L.map (·.2)) with c | c
  · rw [c1 c]; exact g.same hp c
  · exact g.more hp (c2 c)
def RelI (w : World) (S : Addr) (ns : List Int) (i : Nat) (h : Heap) : Prop := ∃ c, c ≤ i ∧ SetR w h S (fun j => decide (j ∈ ns.take i)) c
theorem fill_ints {h0 : Heap} {S : Addr} {vs : Array Value} {ns : List Int} {B : Around} (hv : IntsAre vs.toList ns) (hb : vs.size + 1 < scanBound) : Fill P w B h0 S vs (RelI w S ns) := by
  refine ⟨fun i h h' ⟨c, hc, R⟩ h1 h2 => ⟨c, hc, R.at h1⟩, fun i v s Q E hi ⟨c, hc, R⟩ old hQ => ?_⟩
  have hsz : vs.size = ns.length := by
    have q := IntsAre.length hv
    rw [Array.length_toList] at q
    exact q
  have hin : i < vs.size := (Array.getElem?_eq_some_iff.mp hi).1
  obtain ⟨t, ev⟩ := PyProof.Rows.IntsAre.int_at hv i v (by rw [Array.getElem?_toList]; exact hi)
  have hz : ns[i]? = some (ns.getD i 0) := by
    rw [List.getD_eq_getElem?_getD, List.getElem?_eq_getElem (by omega)]
    rfl
  generalize ns.getD i 0 = z at ev hz
  subst ev
  unfold setAdd
  refine wpAny_holding (wpAny_bind ((intKind P w).pyHash (k := z) (intKind_is _ _ _ _) ?_))
  refine setR_add_hashed (s := { s with toks := s.toks + 1 }) R (by omega) fun h' sb R2 => ?_
  refine hQ _ h' _ (Nat.le_succ _) sb ⟨_, ?_, R2.congr fun j => ?_⟩
  · split <;> omega
  · rw [List.take_add_one, hz]
    simp [List.mem_append]
end
section
variable {X : Cx}
/-- set(xs) of tuples -/
def rSetT (K : PySem.W.Frag) (P : Program) (w : World) : List V → Hp → VK → Prop := fun xs H Q => ∃ (l : Addr) (kk : List (Addr × List Int)), xs = [V.ref l] ∧ SqL K H l (kk.map fun p => V.ref p.1) ∧ (∀ p ∈ kk, SqT K H p.1 (p.2.map V.int)) ∧ (dd (kk.map (·.2))).length < 60 ∧
  ∀ a L, H a = none → (∀ p ∈ L, p ∈ kk) → (∀ p ∈ kk, p.2 ∈ L.map (·.2)) → Q (.ref a) (upd H a (SetTO P w a L))
theorem cr_setT (hc : X.calm = true) (hu : X.A.units + 64 < cLine) : CallR X (.type "set") (rSetT X.K X.prog X.w) := by
  intro pins s σ H xs us Q I r h
  obtain ⟨l, kk, rfl, hl, hk, hf, q⟩ := h
  rw [Vals.ref1 r]
  obtain ⟨its, rv, pl, hz⟩ := I.list hl
  have e1 : its.toArray.toList = kk.map fun p => Value.ref p.1 := by simpa using refs_of_vals rv
  have z0 : s.heap.get? s.heap.objs.size = none := by
    cases e : s.heap.get? s.heap.objs.size with
    | none => rfl
    | some o => exact absurd (Heap.lt_size e) (Nat.lt_irrefl _)
  refine set_from (P := X.prog) (w := X.w) (Rel := RelT X.prog X.w s.heap.objs.size kk) (I.ok.hd hc) pl.isList (fun B hB => fill_tups e1 (fun p hp => I.isT (hk p hp)) hf (by omega) z0) (fun h g old => ⟨[], #[], 0, _, setTR_fresh g, Got.zero kk⟩) fun h tk ⟨L, es, ep, t, R, g⟩ old => ?_
  have ez : its.toArray.size = kk.length := by rw [← Array.length_toList, e1, List.length_map]
  rw [ez] at g
  refine ⟨.ref s.heap.objs.size, upd H s.heap.objs.size (SetTO X.prog X.w s.heap.objs.size L), I.laid (t' := tk) old (Nat.le_refl _) (setTO_new R.t0), rfl, q _ L (I.hok.fresh (Nat.le_refl _)) (fun p hp => List.mem_of_mem_take (g.sub p hp)) fun p hp => ?_⟩
  exact g.all p (by rw [List.take_length]; exact hp)
/-- set(xs) of whole numbers -/
def rSetI (K : PySem.W.Frag) (w : World) : List V → Hp → VK → Prop := fun xs H Q => ∃ (l : Addr) (ns : List Int), xs = [V.ref l] ∧ SqL K H l (ns.map V.int) ∧ (dd ns).length < 60 ∧ ns.length ≤ 4000 ∧
  ∀ a n, H a = none → n < 64 → Q (.ref a) (upd H a (SetO w a (fun j => decide (j ∈ ns)) n))
theorem setR_few {w : World} {h : Heap} {a : Addr} {ns : List Int} {c : Nat} (R : SetR w h a (fun j => decide (j ∈ ns)) c) : c ≤ (dd ns).length := by
  obtain ⟨o, es, ep, t, _, _, _, _, nd, hm, _, _, hn, _⟩ := R
  have q := len_dd (l := ns) nd fun x hx => of_decide_eq_true ((hm x).mpr hx)
  rw [List.length_map, Array.length_toList, hn] at q
  exact q
theorem cr_setI (hc : X.calm = true) : CallR X (.type "set") (rSetI X.K X.w) := by
  intro pins s σ H xs us Q I r h
  obtain ⟨l, ns, rfl, hl, hf, hm, q⟩ := h
  rw [Vals.ref1 r]
  obtain ⟨its, rv, pl, hz⟩ := I.list hl
  have hi : IntsAre its.toArray.toList ns := by simpa using intsAre_of rv
  have hlen : its.length = ns.length := by rw [← rv.length, List.length_map]
  have hsb : its.toArray.size + 1 < scanBound := by
    rw [List.size_toArray]
    unfold scanBound
    omega
  refine set_from (P := X.prog) (w := X.w) (Rel := RelI X.w s.heap.objs.size ns) (I.ok.hd hc) pl.isList (fun B hB => fill_ints hi hsb) (fun h g old => ⟨0, Nat.le_refl 0, setR_new_at g⟩) fun h tk ⟨c, hc, R⟩ old => ?_
  have et : ns.take its.toArray.size = ns := List.take_of_length_le (by rw [List.size_toArray]; omega)
  rw [et] at R
  have := setR_few R
  exact ⟨.ref s.heap.objs.size, upd H s.heap.objs.size (SetO X.w s.heap.objs.size (fun j => decide (j ∈ ns)) c), I.laid (t' := tk) old (Nat.le_refl _) (setO_new R), rfl, q _ c (I.hok.fresh (Nat.le_refl _)) (by omega)⟩
/-! ### both together -/
theorem keysOf_eq : ∀ {ds : List D} {ks : List (List Int)}, keysOf ds = some ks → ds = ks.map kD
  | [], ks, h => by cases h; rfl
  | .tup xs :: r, ks, h => by
    rw [keysOf] at h
    split at h
    · cases h
    · rename_i k e
      obtain ⟨ms, e2, rfl⟩ := Option.map_eq_some_iff.mp h
      rw [keysOf_eq e2, intsOf_eq e]
      rfl
  | .non :: _, _, h => by cases h
  | .bl _ :: _, _, h => by cases h
  | .int _ :: _, _, h => by cases h
  | .str _ :: _, _, h => by cases h
  | .list _ :: _, _, h => by cases h
  | .dict _ :: _, _, h => by cases h
  | .loc _ :: _, _, h => by cases h
  | .fz _ :: _, _, h => by cases h
theorem RpL.keys {K : PySem.W.Frag} {F : Addr → Prop} {ρ : List Addr} {H : Hp} : ∀ {ks : List (List Int)} {vs : List V}, RpL K F ρ H (ks.map kD) vs → ∃ kk : List (Addr × List Int), kk.map (·.2) = ks ∧ vs = kk.map (fun p => V.ref p.1) ∧ ∀ p ∈ kk, SqT K H p.1 (p.2.map V.int)
  | [], vs, h => by
    have e : vs = [] := h
    exact ⟨[], rfl, e, fun p hp => nomatch hp⟩
  | k :: ks, vs, h => by
    obtain ⟨v, r, rfl, h1, h2⟩ := h
    obtain ⟨a, us, rfl, g1, g2, g3⟩ := h1
    obtain ⟨kk, e1, e2, e3⟩ := RpL.keys h2
    rw [g3.ints] at g1
    exact ⟨(a, k) :: kk, by rw [List.map_cons, e1], by rw [List.map_cons, e2], fun p hp => (List.mem_cons.mp hp).elim (fun z => z ▸ g1) (e3 p)⟩
theorem RpL.ofKeys {K : PySem.W.Frag} {F : Addr → Prop} {ρ : List Addr} {H : Hp} : ∀ {kk : List (Addr × List Int)}, (∀ p ∈ kk, SqT K H p.1 (p.2.map V.int) ∧ p.2.length ≤ sizeLine) → RpL K F ρ H (kk.map fun p => kD p.2) (kk.map fun p => V.ref p.1)
  | [], _ => rfl
  | p :: kk, h => by
    have q := h p List.mem_cons_self
    have go : ∀ k : List Int, RpL K F ρ H (k.map D.int) (k.map V.int) := fun k => by
      induction k with
      | nil => rfl
      | cons x k ih => exact ⟨_, _, rfl, rfl, ih⟩
    exact ⟨_, _, rfl, ⟨p.1, _, rfl, q.1, by rw [List.length_map]; exact q.2, go _⟩, RpL.ofKeys fun r hr => h r (List.mem_cons_of_mem _ hr)⟩
theorem RpL.ofInts {K : PySem.W.Frag} {F : Addr → Prop} {ρ : List Addr} {H : Hp} : ∀ (k : List Int), RpL K F ρ H (k.map D.int) (k.map V.int)
  | [] => rfl
  | x :: k => ⟨_, _, rfl, rfl, RpL.ofInts k⟩
section
variable {X : Cx} {ca : Nat → Option Addr} {F : FT} {cls : Nat → Nat} {e : Expr} {pos p p1 p2 : Pos} {AS : EL} {mu : Bool}
/-- what sorted(set(..)) does with what is read -/
def rSrtSet (X : Cx) : List V → Hp → VK → Prop := fun vs H Q => (rSetT X.K X.prog X.w vs H fun v H' => rSortedT X.K X.prog X.w [v] H' Q) ∨ (rSetI X.K X.w vs H fun v H' => rSortedSet X.w [v] H' Q)
theorem b_srtset : BOk X ca .srtset (rSrtSet X) := by
  intro G ρ M H ds vs mu d d' M' Q ok r e em h
  unfold blt1 at e
  split at e <;> try contradiction
  rename_i xs _ q
  obtain ⟨d0, v, rfl, rfl, z, r0, rs⟩ := one_arg r ok q
  obtain ⟨l, us, rfl, g1, g2, g3⟩ := rs
  split at e
  · rename_i ns en
    split at e
    · rename_i hz
      cases e
      have ex := intsOf_eq en
      subst ex
      rw [g3.ints] at g1
      rw [List.length_map] at hz
      refine .inr ⟨l, ns, rfl, SqL.of g1, hz.1, hz.2, fun a n ha hn => ⟨a, _, n, rfl, upd_same, hn, fun ms t h1 h2 h3 ht => ?_⟩⟩
      have k1 := ok.new ha (SetO X.w a (fun j => decide (j ∈ ns)) n)
      have nd : ms.Nodup := h1.imp fun h => Int.ne_of_lt h
      have pm : ms.Perm (dd ns) := (List.perm_ext_iff_of_nodup nd (nodup_dd ns)).mpr fun x => by rw [h2, mem_dd]; simp
      have es : ms = sortI (dd ns) := sortI_is pm (h1.imp fun h => Int.le_of_lt h)
      have hl : (ms.map D.int).length ≤ sizeLine := by rw [List.length_map, h3, sizeLine_eq]; omega
      rw [← es] at em
      exact mk_list k1.1 em (fun ρ' v H' x k r => h ρ' v H' (k1.2.trans x) k r) hl (RpL.ofInts ms) ht
    · cases e
  · rename_i en
    split at e
    · rename_i ks ek
      split at e
      · rename_i hz
        cases e
        have ex := keysOf_eq ek
        subst ex
        obtain ⟨kk, e1, e2, e3⟩ := g3.keys
        rw [e2] at g1
        refine .inl ⟨l, kk, rfl, SqL.of g1, e3, by rw [e1]; exact hz.1, fun a L ha hL1 hL2 => ?_⟩
        have k1 := ok.new ha (SetTO X.prog X.w a L)
        have kp := hz.2
        unfold keysOk at kp
        have inK : ∀ p ∈ kk, p.2 ∈ ks := fun p hp => by rw [← e1]; exact List.mem_map.mpr ⟨p, hp, rfl⟩
        have kq : ∀ p ∈ L, p.2.length = (ks.headD []).length ∧ 0 < p.2.length ∧ ∀ x ∈ p.2, 0 ≤ x := fun p hp => by
          have q := List.all_eq_true.mp kp p.2 (inK p (hL1 p hp))
          simp only [Bool.and_eq_true, decide_eq_true_eq, List.all_eq_true] at q
          exact ⟨q.1.1, q.1.2, q.2⟩
        obtain ⟨B, hB⟩ := bound_of (L.map (·.2)).flatten
        have bd : ∀ p ∈ L, TS.Bd B p.2 := fun p hp x hx => ⟨(kq p hp).2.2 x hx, hB x (List.mem_flatten.mpr ⟨p.2, List.mem_map.mpr ⟨p, hp, rfl⟩, hx⟩)⟩
        have hs : ∀ p ∈ L, SqT X.K (upd H a (SetTO X.prog X.w a L)) p.1 (p.2.map V.int) := fun p hp => by
          rcases e3 p (hL1 p hp) with z | z
          · exact .inl ((k1.2.on ok).tup _ _ z)
          · exact .inr z
        have dim : 1 ≤ max 1 (ks.headD []).length := by omega
        refine ⟨a, L, max 1 (ks.headD []).length, B, rfl, upd_same, hs, dim, fun p hp => ⟨by have := kq p hp; omega, bd p hp⟩, fun L' t pm nd few pw ht => ?_⟩
        have pw2 : (L'.map (·.2)).Pairwise fun a b => lexLe a b = true := List.pairwise_map.mpr (pw.imp_of_mem fun {p q} hp hq hc => code_le (by rw [(kq p (pm.mem_iff.mp hp)).1, (kq q (pm.mem_iff.mp hq)).1]) (bd p (pm.mem_iff.mp hp)) (bd q (pm.mem_iff.mp hq)) hc)
        have pm2 : (L'.map (·.2)).Perm (dd ks) := (List.perm_ext_iff_of_nodup nd (nodup_dd ks)).mpr fun x => by
          rw [mem_dd]
          constructor
          · intro hx
            obtain ⟨p, hp, rfl⟩ := List.mem_map.mp hx
            exact inK p (hL1 p (pm.mem_iff.mp hp))
          · intro hx
            rw [← e1] at hx
            obtain ⟨p, hp, rfl⟩ := List.mem_map.mp hx
            obtain ⟨q, hq, e⟩ := List.mem_map.mp (hL2 p hp)
            exact List.mem_map.mpr ⟨q, pm.mem_iff.mpr hq, e⟩
        have es := sort_is pm2 pw2
        rw [← es, List.map_map] at em
        have big : ∀ p ∈ L, p.2.length ≤ sizeLine := fun p hp => by
          have hp2 := hL1 p hp
          obtain ⟨i, hi⟩ := List.getElem?_of_mem (inK p hp2)
          obtain ⟨u, _, hu⟩ := g3.get (i := i) (d := kD p.2) (by rw [List.getElem?_map, hi]; rfl)
          obtain ⟨_, _, _, _, hz, _⟩ := hu
          rw [List.length_map] at hz
          exact hz
        have rr : RpL X.K (Fb G ρ M) ρ (upd H a (SetTO X.prog X.w a L)) (L'.map (kD ∘ fun p => p.2)) (L'.map fun p => V.ref p.1) := RpL.ofKeys fun p hp => ⟨hs p (pm.mem_iff.mp hp), big p (pm.mem_iff.mp hp)⟩
        exact mk_list k1.1 em (fun ρ' v H' x k r => h ρ' v H' (k1.2.trans x) k r) (by rw [List.length_map, sizeLine_eq]; omega) rr ht
      · cases e
    · cases e
/-- sorted(set(e)) -/
theorem v_srtset {pp : Pos} (hc : X.calm = true) (hu : X.A.units + 64 < cLine) (ha : PAv X ca F cls [e] AS) (hs : isStar e = false) (g1 : Gl X "sorted") (g2 : Gl X "set") (m1 : X.mg "sorted" = none) (m2 : X.mg "set" = none) :
    PEv X ca F cls (.Call (.Name "sorted" p) [.Call (.Name "set" p1) [e] [] p2] [] pp) (.blt mu .srtset AS) := by
  have c1 : CallR X (.type "set") (fun vs H Q => rSetT X.K X.prog X.w vs H Q ∨ rSetI X.K X.w vs H Q) := fun pins s σ H xs us Q I r h => h.elim (cr_setT hc hu pins s σ H xs us Q I r) (cr_setI hc pins s σ H xs us Q I r)
  have c2 : CallR X (.builtin "sorted") (fun vs H Q => rSortedT X.K X.prog X.w vs H Q ∨ rSortedSet X.w vs H Q) := fun pins s σ H xs us Q I r h => h.elim (cr_sortedT hc pins s σ H xs us Q I r) (cr_sortedSet hc pins s σ H xs us Q I r)
  refine v_blt (r := rSrtSet X) (PE.imp (pe_callB c2 g1 m1 boot_sorted (pa_cons (pe_callTy c1 g2 m2 boot_set ha (he := star_cons hs) (hpl := rfl)) pa_nil rfl) (he := rfl) (hpl := rfl)) fun σ H Q h => ?_) b_srtset
  obtain ⟨G, ρ, env, M, d, M', a0, e1, q⟩ := h
  refine ⟨G, ρ, env, M, d, M', a0, e1, fun ρ' v H' x k r => ?_⟩
  rcases q ρ' v H' x k r with ⟨l, kk, w1, w2, w3, w4, w5⟩ | ⟨l, ns, w1, w2, w3, w4, w5⟩
  · exact .inl ⟨l, kk, w1, w2, w3, w4, fun a L z1 z2 z3 => .inl (w5 a L z1 z2 z3)⟩
  · exact .inr ⟨l, ns, w1, w2, w3, w4, fun a n z1 z2 => .inr (w5 a n z1 z2)⟩
end
end
end MP

/-! MP17: the checker of expressions. -/
namespace MP
open PySem PySem.Spec PyProof.Rows L2
structure Pm where
  fns : List Fn
  fnb : Nat → Bool
  N : List Str
/-- names of built-ins that the module does not bind -/
def bltNames : List Str := ["len", "abs", "min", "max", "sum", "any", "all", "sorted", "list", "tuple", "int", "range", "enumerate", "isinstance", "set", "dict", "str", "bool", "repr", "zip"]
/-- the context of a body or block -/
structure Ag (P : Pm) (ca : Nat → Option Addr) (F : FT) (k : Nat) (X : Cx) (sc : Scope) : Prop where
  N : X.N = P.N
  nd : P.N.Nodup
  sc : X.env.scope = sc
  calm : X.calm = true
  room : Room k X.A
  mgb : ∀ x ∈ bltNames, X.mg x = none
  cal : ∀ (f : Nat) (fn : Fn) (n : Nat), P.fnb f = true → P.fns[f]? = some fn → n ≤ fn.np → fn.np ≤ n + fn.ds.length → Callee X ca F k fn.name f fn.np n
theorem Ag.hu {P : Pm} {ca : Nat → Option Addr} {F : FT} {k : Nat} {X : Cx} {sc : Scope} (g : Ag P ca F k X sc) : X.A.units + 200 < cLine := by
  have := g.room.un
  omega
theorem Ag.nd' {P : Pm} {ca : Nat → Option Addr} {F : FT} {k : Nat} {X : Cx} {sc : Scope} (g : Ag P ca F k X sc) : X.N.Nodup := by rw [g.N]; exact g.nd
/-! ### parts -/
def opIs (o : BO) (p : Operator) : Bool := decide (opOf o = p)
theorem opIs_ok {o : BO} {p : Operator} (h : opIs o p = true) : p = opOf o := (of_decide_eq_true h).symm
def copIs (o : CO) (p : CmpOp) : Bool := decide (copOf o = p)
theorem copIs_ok {o : CO} {p : CmpOp} (h : copIs o p = true) : p = copOf o := (of_decide_eq_true h).symm
def EB (sc : Scope) (x : Str) : Bool := glB sc x
def bltB : Blt → Str → Nat → Bool
  | .len, x, 1 => sq x "len"
  | .abs, x, 1 => sq x "abs"
  | .min, x, 1 => sq x "min"
  | .max, x, 1 => sq x "max"
  | .min2, x, 2 => sq x "min"
  | .max2, x, 2 => sq x "max"
  | .sum, x, 1 => sq x "sum"
  | .any, x, 1 => sq x "any"
  | .all, x, 1 => sq x "all"
  | .sorted, x, 1 => sq x "sorted"
  | .list, x, 1 => sq x "list"
  | .tuple, x, 1 => sq x "tuple"
  | .int, x, 1 => sq x "int"
  | _, _, _ => false
section
variable {P : Pm} {ca : Nat → Option Addr} {F : FT} {cls : Nat → Nat} {k : Nat} {X : Cx} {sc : Scope} {e a b c : Expr} {es : List Expr} {pos p p1 : Pos} {A B C : E} {AS : EL} {mu : Bool}
theorem v_bltN {bt : Blt} {x : Str} (g : Ag P ca F k X sc) (hb : bltB bt x (e :: es).length = true) (hg : glB sc x = true) (ha : PAv X ca F cls (e :: es) AS) (hs : isStar e = false) (hn : noStar es = true) :
    PEv X ca F cls (.Call (.Name x p) (e :: es) [] pos) (.blt mu bt AS) := by
  have he := star_cons (es := es) (env := X.env) hs
  have hpl := star_plain (env := X.env) (pos := pos) hn
  have gl := glB_ok (X := X) g.sc hg
  have hu := g.hu
  unfold bltB at hb
  split at hb
  all_goals first | (cases hb; done) | skip
  all_goals have hx := sq_eq hb
  all_goals subst hx
  · exact v_blt (pe_callB call_len gl (g.mgb _ (by decide +kernel)) boot_len ha (he := he) (hpl := hpl)) b_len
  · exact v_blt (pe_callB call_abs gl (g.mgb _ (by decide +kernel)) boot_abs ha (he := he) (hpl := hpl)) b_abs
  · exact v_blt (pe_callB (cr_min g.calm) gl (g.mgb _ (by decide +kernel)) boot_min ha (he := he) (hpl := hpl)) b_min
  · exact v_blt (pe_callB (cr_max g.calm) gl (g.mgb _ (by decide +kernel)) boot_max ha (he := he) (hpl := hpl)) b_max
  · exact v_blt (pe_callB (call_min2 g.calm) gl (g.mgb _ (by decide +kernel)) boot_min ha (he := he) (hpl := hpl)) b_min2
  · exact v_blt (pe_callB (call_max2 g.calm) gl (g.mgb _ (by decide +kernel)) boot_max ha (he := he) (hpl := hpl)) b_max2
  · exact v_blt (pe_callB (cr_sum g.calm) gl (g.mgb _ (by decide +kernel)) boot_sum ha (he := he) (hpl := hpl)) b_sum
  · exact v_blt (pe_callB (cr_any g.calm) gl (g.mgb _ (by decide +kernel)) boot_any ha (he := he) (hpl := hpl)) b_any
  · exact v_blt (pe_callB (cr_all g.calm) gl (g.mgb _ (by decide +kernel)) boot_all ha (he := he) (hpl := hpl)) b_all
  · exact v_blt (pe_callB (opSrt (by omega)) gl (g.mgb _ (by decide +kernel)) boot_sorted ha (he := he) (hpl := hpl)) b_sorted
  · exact v_blt (pe_callTy call_list_of gl (g.mgb _ (by decide +kernel)) boot_list ha (he := he) (hpl := hpl)) b_list
  · exact v_blt (pe_callTy call_tuple_of gl (g.mgb _ (by decide +kernel)) boot_tuple ha (he := he) (hpl := hpl)) b_tuple
  · exact v_blt (pe_callTy call_int1 gl (g.mgb _ (by decide +kernel)) boot_int ha (he := he) (hpl := hpl)) b_int

/-! ### a type's name -/
theorem pe_tyN {x : Str} {T : String} (hg : Gl X x) (hm : X.mg x = none) (hv : bootBuiltins x = some (.type T)) (hn : x ≠ "__name__") (hd : (x == ("__debug__" : Str)) = false) : PE X (.Name x p) (tC (.ty T)) :=
  ⟨fun pins s σ H Q I h => ld_blt I hg hm hv ⟨.ty T, H, I, rfl, h⟩ hn hd⟩
def tyB (x : Str) (u : String) : Bool := (sq x "int" && u == "int") || (sq x "str" && u == "str") || (sq x "bool" && u == "bool") || (sq x "list" && u == "list") || (sq x "tuple" && u == "tuple") || (sq x "dict" && u == "dict")
theorem tyB_ok {x : Str} {u : String} (g : Ag P ca F k X sc) (h : tyB x u = true) (hg : glB sc x = true) : u ∈ kindNames ∧ PE X (.Name x p) (tC (.ty u)) := by
  have gl := glB_ok (X := X) g.sc hg
  unfold tyB at h
  simp only [Bool.or_eq_true, Bool.and_eq_true, beq_iff_eq] at h
  rcases h with ((((h | h) | h) | h) | h) | h
  all_goals obtain ⟨h, rfl⟩ := h
  all_goals have hx := sq_eq h
  all_goals subst hx
  · exact ⟨by decide, pe_tyN gl (g.mgb _ (by decide +kernel)) boot_int (by decide +kernel) (by decide +kernel)⟩
  · exact ⟨by decide, pe_tyN gl (g.mgb _ (by decide +kernel)) boot_str (by decide +kernel) (by decide +kernel)⟩
  · exact ⟨by decide, pe_tyN gl (g.mgb _ (by decide +kernel)) boot_bool (by decide +kernel) (by decide +kernel)⟩
  · exact ⟨by decide, pe_tyN gl (g.mgb _ (by decide +kernel)) boot_list (by decide +kernel) (by decide +kernel)⟩
  · exact ⟨by decide, pe_tyN gl (g.mgb _ (by decide +kernel)) boot_tuple (by decide +kernel) (by decide +kernel)⟩
  · exact ⟨by decide, pe_tyN gl (g.mgb _ (by decide +kernel)) boot_dict (by decide +kernel) (by decide +kernel)⟩
end

/-! ### blocks -/
def ownOf (N : List Str) : List Nat → List (Str × Nat)
  | [] => []
  | i :: r => match N[i]? with
    | some x => (x, i) :: ownOf N r
    | none => ("", i) :: ownOf N r
theorem ownOf_ix (N : List Str) : ∀ l : List Nat, (ownOf N l).map (·.2) = l
  | [] => rfl
  | i :: r => by
    unfold ownOf
    split <;> (rw [List.map_cons, ownOf_ix N r])
def blkB (N : List Str) (sc scope : Scope) (own : List Nat) : Bool :=
  decide (scope.kind = .function) && (scope.names.all fun y => isK (lkS y.1 scope.names) y.2) && (own.all fun i => (N[i]?).isSome) &&
  (scope.names.all fun y => match y.2 with
    | .free => (isK (lkS y.1 sc.names) .cell || isK (lkS y.1 sc.names) .free)
    | .local => (own.any fun i => atB N i y.1) || !(N.any fun x => sq x y.1)
    | .cell => (own.any fun i => atB N i y.1) || !(N.any fun x => sq x y.1)
    | _ => true)
theorem ownOf_mem {N : List Str} {i : Nat} {x : Str} : ∀ {l : List Nat}, i ∈ l → N[i]? = some x → x ∈ (ownOf N l).map (·.1)
  | [], h, _ => nomatch h
  | j :: r, h, e => by
    unfold ownOf
    rcases List.mem_cons.mp h with h | h
    · subst h
      rw [e]
      exact List.mem_cons_self
    · split <;> exact List.mem_cons_of_mem _ (ownOf_mem h e)
theorem ownOf_at {N : List Str} : ∀ {l : List Nat}, (l.all fun i => (N[i]?).isSome) = true → ∀ p ∈ ownOf N l, N[p.2]? = some p.1
  | [], _, p, h => nomatch h
  | j :: r, ha, p, h => by
    rw [List.all_cons, Bool.and_eq_true] at ha
    unfold ownOf at h
    split at h
    · rename_i x e
      rcases List.mem_cons.mp h with h | h
      · rw [h]; exact e
      · exact ownOf_at ha.2 p h
    · rename_i e
      rw [e] at ha
      cases ha.1
theorem blkB_ok {N : List Str} {sc scope : Scope} {own : List Nat} (h : blkB N sc scope own = true) : BlkOk N sc scope (ownOf N own) := by
  unfold blkB at h
  rw [Bool.and_eq_true, Bool.and_eq_true, Bool.and_eq_true] at h
  obtain ⟨⟨⟨h1, h2⟩, h3⟩, h4⟩ := h
  have own' : ∀ y ∈ scope.names, ((own.any fun i => atB N i y.1) || !(N.any fun x => sq x y.1)) = true → y.1 ∈ (ownOf N own).map (·.1) ∨ y.1 ∉ N := fun y hy z => by
    rw [Bool.or_eq_true] at z
    rcases z with z | z
    · obtain ⟨i, hi, e⟩ := List.any_eq_true.mp z
      exact .inl (ownOf_mem hi (atB_ok e))
    · refine .inr fun hm => ?_
      rw [Bool.not_eq_true'] at z
      have q := List.any_eq_false.mp z y.1 hm
      rw [sq_refl] at q
      exact q rfl
  refine ⟨of_decide_eq_true h1, fun y hy => ?_, ownOf_at h3, fun y hy e => ?_, fun y hy e => ?_⟩
  · have q := isK_eq (List.all_eq_true.mp h2 y hy)
    rw [lkS_eq] at q
    exact q
  · have q := List.all_eq_true.mp h4 y hy
    rw [e] at q
    simp only [Bool.or_eq_true] at q
    rcases q with q | q
    · have q := isK_eq q; rw [lkS_eq] at q; exact .inl q
    · have q := isK_eq q; rw [lkS_eq] at q; exact .inr q
  · have q := List.all_eq_true.mp h4 y hy
    rcases e with e | e
    · rw [e] at q
      exact own' y hy q
    · rw [e] at q
      exact own' y hy q
/-- a target: names that are local here; top: a def's own body -/
def lcB (top : Bool) (sc : Scope) (x : Str) : Bool := match top with
  | true => locB sc x
  | false => lclB sc x
theorem lcB_ok {top : Bool} {X : Cx} {sc : Scope} {x : Str} (hsc : X.env.scope = sc) (hf : top = true → ∀ x, X.fn x = true) (h : lcB top sc x = true) : L2.Loc X.env.scope x ∧ (X.fn x = true ∨ X.env.scope.names.lookup x = some .local) := by
  subst hsc
  cases top with
  | true => exact ⟨locB_ok h, .inl (hf rfl x)⟩
  | false => exact ⟨.inl (lclB_ok h), .inr (lclB_ok h)⟩
def tgtB (N : List Str) (top : Bool) (sc : Scope) : T → Expr → Bool
  | .nm i, .Name x _ => atB N i x && lcB top sc x
  | .tp is, .Tuple es _ _ => tgts is es
  | _, _ => false
where
  tgts : List Nat → List Expr → Bool
    | [], [] => true
    | i :: is, .Name x _ :: es => atB N i x && lcB top sc x && tgts is es
    | _, _ => false
theorem tgts_ok {top : Bool} {X : Cx} {N : List Str} {sc : Scope} (hN : X.N = N) (nd : X.N.Nodup) (hsc : X.env.scope = sc) (hf : top = true → ∀ x, X.fn x = true) : ∀ {is : List Nat} {es : List Expr}, tgtB.tgts N top sc is es = true → PGs X es (is.foldr (fun i g => gCons (gName i) g) gNil) ∧ (assignEach es X.env).length = is.length ∧ (assignEach es X.env).findIdx? (·.1) = none
  | [], [], _ => ⟨pgs_nil, rfl, rfl⟩
  | i :: is, e :: es, h => by
    cases e with
    | Name x p =>
      rw [tgtB.tgts, Bool.and_eq_true, Bool.and_eq_true] at h
      obtain ⟨h1, h2, h3⟩ := tgts_ok hN nd hsc hf h.2
      obtain ⟨l1, l2⟩ := lcB_ok hsc hf h.1.2
      refine ⟨pgs_cons (pg_name nd (by rw [hN]; exact atB_ok h.1.1) l1 l2) h1, ?_, ?_⟩
      · show (assignEach es X.env).length + 1 = is.length + 1
        rw [h2]
      · show List.findIdx? (·.1) ((false, assign (.Name x p) X.env) :: assignEach es X.env) = none
        rw [List.findIdx?_cons]
        simp only [Bool.false_eq_true, if_false, h3, Option.map_none]
    | _ => cases h
  | [], _ :: _, h => by cases h
  | _ :: _, [], h => by cases h
theorem tgtB_ok {top : Bool} {X : Cx} {N : List Str} {sc : Scope} {t : T} {e : Expr} (hN : X.N = N) (nd : X.N.Nodup) (hc : X.calm = true) (hsc : X.env.scope = sc) (hf : top = true → ∀ x, X.fn x = true) (h : tgtB N top sc t e = true) : PG X e (gT X.K t) := by
  cases t with
  | nm i =>
    cases e with
    | Name x p =>
      rw [tgtB, Bool.and_eq_true] at h
      obtain ⟨l1, l2⟩ := lcB_ok hsc hf h.2
      exact pg_name nd (by rw [hN]; exact atB_ok h.1) l1 l2
    | _ => cases h
  | tp is =>
    cases e with
    | Tuple es k p =>
      rw [tgtB] at h
      obtain ⟨h1, h2, h3⟩ := tgts_ok hN nd hsc hf h
      exact pg_tup hc h1 h2 h3
    | _ => cases h
end MP

/-! MP18: expressions, checked. -/
namespace MP
open PySem PySem.Spec PyProof.Rows L2
def clB (P : Pm) (f : Nat) (x : Str) (n : Nat) : Bool := match P.fns[f]? with
  | some fn => P.fnb f && sq fn.name x && decide (n ≤ fn.np) && decide (fn.np ≤ n + fn.ds.length)
  | none => false
def tsub (t : T) (own : List Nat) : Bool := (tslots t).all fun j => own.contains j
mutual
/-- tm: as a test -/
def chkE (P : Pm) (tm : Bool) (sc : Scope) : E → Expr → Bool
  | .absent, _ => false
  | .var i, e => match e with
    | .Name x _ => atB P.N i x && visB sc x && !sq x "__debug__" && !sq x "__classdict__"
    | _ => false
  | .non, e => match e with
    | .Constant .none _ _ => true
    | _ => false
  | .bl b, e => match e with
    | .Constant (.bool k) _ _ => b == k
    | _ => false
  | .int i, e => match e with
    | .Constant (.int k) _ _ => decide (i = k)
    | _ => false
  | .str i, e => match e with
    | .Constant (.str k) _ _ => sq i k
    | _ => false
  | .bin _ o A B, e => match e with
    | .BinOp a p b _ => opIs o p && chkE P false sc A a && chkE P false sc B b
    | _ => false
  | .neg A, e => match e with
    | .UnaryOp .USub a _ => chkE P false sc A a
    | _ => false
  | .not A, e => match e with
    | .UnaryOp .Not a _ => chkE P tm sc A a
    | _ => false
  | .and A B, e => match e with
    | .BoolOp .And (a :: b :: rest) pos => chkE P tm sc A a && chkE P tm sc B (match rest with
      | [] => b
      | _ :: _ => .BoolOp .And (b :: rest) pos)
    | _ => false
  | .or A B, e => match e with
    | .BoolOp .Or (a :: b :: rest) pos => chkE P tm sc A a && chkE P tm sc B (match rest with
      | [] => b
      | _ :: _ => .BoolOp .Or (b :: rest) pos)
    | _ => false
  | .cmp o A B, e => match e with
    | .Compare a [p] [b] _ => copIs o p && !isSet b && chkE P false sc A a && chkE P false sc B b
    | _ => false
  | .chain o o2 A B C, e => match e with
    | .Compare a [p, p2] [b, c] _ => copIs o p && copIs o2 p2 && !isSet c && chkE P false sc A a && chkE P false sc B b && chkE P false sc C c
    | _ => false
  | .isN ng A, e => match e with
    | .Compare a [.Is] [.Constant .none _ _] _ => !ng && chkE P false sc A a
    | .Compare a [.IsNot] [.Constant .none _ _] _ => ng && chkE P false sc A a
    | _ => false
  | .ife C A B, e => match e with
    | .IfExp c a b _ => chkE P true sc C c && chkE P tm sc A a && chkE P tm sc B b
    | _ => false
  | .tup es, e => match e with
    | .Tuple l _ _ => chkL P sc es l
    | _ => false
  | .lst _ es, e => match e with
    | .List l _ => chkL P sc es l
    | _ => false
  | .dct _ _ _, _ => false
  | .idx A I, e => match e with
    | .Subscript a i _ => plainI i && chkE P false sc A a && chkE P false sc I i
    | _ => false
  | .slc _ A lo hi, e => match e with
    | .Subscript a (.Slice l h none _) _ => chkE P false sc A a && (match l with
      | none => isAbs lo
      | some l => !isAbs lo && chkE P false sc lo l) && (match h with
      | none => isAbs hi
      | some l => !isAbs hi && chkE P false sc hi l)
    | _ => false
  | .blt _ bt es, e => match e with
    | .Call (.Name x _) l [] _ => (bltB bt x l.length && glB sc x && decide (0 < l.length) && chkL P sc es l) || (decide (bt = .srtset) && sq x "sorted" && glB sc x && (match l with
      | [.Call (.Name y _) [a] [] _] => sq y "set" && glB sc y && !isStar a && chkL P sc es [a]
      | _ => false))
    | _ => false
  | .isi A tys many, e => match e with
    | .Call (.Name x _) [a, .Name t _] [] _ => !many && sq x "isinstance" && glB sc x && glB sc t && (match tys with
      | [u] => tyB t u
      | _ => false) && !isStar a && chkE P false sc A a
    | _ => false
  | .call _ f es, e => match e with
    | .Call (.Name x _) l [] _ => clB P f x (ELlen es) && glB sc x && !sq x "__debug__" && chkL P sc es l
    | _ => false
  | .new _ _, _ => false
  | .meth _ _ _ _, _ => false
  | .fld _ _, _ => false
  | .app A B, e => match e with
    | .Call (.Attribute a x apos) [b] [] pos => sq x "append" && (apos.endLine == pos.line) && !isCall a && !isStar b && chkE P false sc A a && chkE P false sc B b
    | _ => false
  | .ext A B, e => match e with
    | .Call (.Attribute a x apos) [b] [] pos => sq x "extend" && (apos.endLine == pos.line) && !isCall a && !isStar b && chkE P false sc A a && chkE P false sc B b
    | _ => false
  | .idxof _ _, _ => false
  | .dget _ _ _, _ => false
  | .comp _ own t k A B C E0, e => match e with
    | .ListComp elt [⟨tg, iter, ifs, asy⟩] scope _ => decide (asy = 0) && blkB P.N sc scope own && tgtB P.N false (relS scope sc) t tg && tsub t own && !isSet iter && (match k with
      | .seq => isAbs B && chkE P false sc A iter
      | .rng1 => (match iter with
        | .Call (.Name x _) [a] [] _ => sq x "range" && glB sc x && isAbs B && !isStar a && chkE P false sc A a
        | _ => false)
      | .rng2 => (match iter with
        | .Call (.Name x _) [a, b] [] _ => sq x "range" && glB sc x && !isAbs B && !isStar a && !isStar b && chkE P false sc A a && chkE P false sc B b
        | _ => false)
      | .enum => (match iter with
        | .Call (.Name x _) [a] [] _ => sq x "enumerate" && glB sc x && isAbs B && isTupE tg && !isStar a && chkE P false sc A a
        | _ => false)
      | .zip => false) && (match ifs with
      | [] => isAbs C
      | [c] => !isAbs C && chkE P true (relS scope sc) C c
      | _ => false) && chkE P false (relS scope sc) E0 elt
    | _ => false
def chkL (P : Pm) (sc : Scope) : EL → List Expr → Bool
  | .nil, l => match l with
    | [] => true
    | _ => false
  | .cons A AS, l => match l with
    | e :: es => !isStar e && chkE P false sc A e && chkL P sc AS es
    | _ => false
end
/-- what walking needs, checked -/
def chkI (P : Pm) (sc : Scope) (k : IK) (A B : E) (tg iter : Expr) : Bool := match k with
  | .seq => isAbs B && chkE P false sc A iter
  | .rng1 => (match iter with
    | .Call (.Name x _) [a] [] _ => sq x "range" && glB sc x && isAbs B && !isStar a && chkE P false sc A a
    | _ => false)
  | .rng2 => (match iter with
    | .Call (.Name x _) [a, b] [] _ => sq x "range" && glB sc x && !isAbs B && !isStar a && !isStar b && chkE P false sc A a && chkE P false sc B b
    | _ => false)
  | .enum => (match iter with
    | .Call (.Name x _) [a] [] _ => sq x "enumerate" && glB sc x && isAbs B && isTupE tg && !isStar a && chkE P false sc A a
    | _ => false)
  | .zip => false
/-- what a checked expression keeps -/
def Snd (tm : Bool) (X : Cx) (ca : Nat → Option Addr) (F : FT) (cls : Nat → Nat) (e : Expr) (A : E) : Prop := match tm with
  | false => PEv X ca F cls e A
  | true => PTv X ca F cls e A ∧ ∀ op vs pos, e = .BoolOp op vs pos → PWv X ca F cls e A
section
variable {P : Pm} {ca : Nat → Option Addr} {F : FT} {cls : Nat → Nat} {k : Nat} {X : Cx} {sc : Scope} {e a b c : Expr} {es : List Expr} {pos p p1 : Pos} {A B C E0 : E} {AS : EL} {mu tm : Bool}
theorem Snd.of (h : PEv X ca F cls e A) (hp : plainT e = true) : Snd tm X ca F cls e A := by
  cases tm with
  | false => exact h
  | true => exact ⟨v_test h (plainT_ok hp), fun op vs pos z => by rw [z] at hp; cases hp⟩
theorem Snd.ofT (h : PEv X ca F cls e A) (ht : PTv X ca F cls e A) (hb : ∀ op vs pos, e ≠ .BoolOp op vs pos) : Snd tm X ca F cls e A := by
  cases tm with
  | false => exact h
  | true => exact ⟨ht, fun op vs pos z => absurd z (hb op vs pos)⟩
theorem chkL_len : ∀ {AS : EL} {l : List Expr}, chkL P sc AS l = true → ELlen AS = l.length
  | .nil, [], _ => rfl
  | .nil, _ :: _, h => by simp [chkL] at h
  | .cons _ _, [], h => by simp [chkL] at h
  | .cons A AS, e :: es, h => by
    rw [chkL, Bool.and_eq_true] at h
    rw [ELlen, List.length_cons, chkL_len h.2]
theorem chkL_star : ∀ {AS : EL} {l : List Expr}, chkL P sc AS l = true → noStar l = true
  | .nil, [], _ => rfl
  | .nil, _ :: _, h => by simp [chkL] at h
  | .cons _ _, [], h => by simp [chkL] at h
  | .cons A AS, e :: es, h => by
    rw [chkL, Bool.and_eq_true, Bool.and_eq_true] at h
    rw [noStar, List.all_cons, h.1.1]
    exact chkL_star h.2
theorem clB_ok {f n : Nat} {x : Str} (g : Ag P ca F k X sc) (h : clB P f x n = true) : ∃ np, Callee X ca F k x f np n := by
  unfold clB at h
  split at h
  · rename_i fn e
    simp only [Bool.and_eq_true, decide_eq_true_eq] at h
    obtain ⟨⟨⟨h1, h2⟩, h3⟩, h4⟩ := h
    have z := sq_eq h2
    subst z
    exact ⟨fn.np, g.cal f fn n h1 e h3 h4⟩
  · cases h
theorem Ag.blk {s : Shared} {H : Hp} {scope : Scope} {cenv : PySem.Env} {fp : List Addr} (g : Ag P ca F k X sc) (he : cenv.scope = relS scope sc) : Ag P ca F k (X.blk s H scope cenv fp) (relS scope sc) :=
  ⟨g.N, g.nd, he, g.calm, g.room, g.mgb, fun f fn n h1 h2 h3 h4 => ⟨(g.cal f fn n h1 h2 h3 h4).ex⟩⟩
theorem few1 {apos : Pos} (hb : isStar b = false) : ((backTo pos (starEach [b] X.env)).all (fun x => !x.1) && (backToKw pos (keywordEach [] X.env)).all (fun x => x.1.isSome) && decide (([b] : List Expr).length + ([] : List Keyword).length + (if ([] : List Keyword).isEmpty then 0 else 1) < 30)) = true := by
  rw [star_cons hb]
  rfl
/-- the context of a comprehension's block, from its parts -/
theorem v_comp {t : T} {kk : IK} {own : List Nat} {tg iter elt : Expr} {ifs : List Expr} {scope : Scope} (g : Ag P ca F k X sc) (hi : PIv X ca F cls tg iter kk A B) (hb : blkB P.N sc scope own = true) (ht : tgtB P.N false (relS scope sc) t tg = true) (hs : tsub t own = true) (hf : isSet iter = false)
    (hif : ∀ X', Ag P ca F k X' (relS scope sc) → PTs X' ifs (ttC X'.K ca F cls C)) (he : ∀ X', Ag P ca F k X' (relS scope sc) → PEv X' ca F cls elt E0) :
    ∃ t', PE X (.ListComp elt [⟨tg, iter, ifs, 0⟩] scope pos) t' ∧ (∀ {i : Nat} {y : Str} {py spos : Pos}, X.N[i]? = some y → X.env.scope.names.lookup y = some .local → swapsWith (.ListComp elt [⟨tg, iter, ifs, 0⟩] scope pos) (some (.Name y py)) spos.line X.env = pure true → PS X (.Assign [.Name y py] (.ListComp elt [⟨tg, iter, ifs, 0⟩] scope pos) spos) (tAsg t' (gName i))) ∧
      ∀ mu σ H Q, tE X.K ca (ev F cls (.comp mu own t kk A B C E0)) σ H Q → t' σ H Q := by
  have ok : BlkOk X.N X.env.scope scope (ownOf P.N own) := by rw [g.N, g.sc]; exact blkB_ok hb
  have ag : ∀ (s : Shared) (H : Hp) (C : Addr) (cl : List (Str × Addr)) (fp : List Addr), Ag P ca F k (X.blk s H scope (compEnvC scope cl C X.env) fp) (relS scope sc) := fun s H C cl fp => g.blk (by show relS scope X.env.scope = _; rw [g.sc])
  have hsub : ∀ j ∈ tslots t, j ∈ own := fun j hj => List.contains_iff_mem.mp (List.all_eq_true.mp hs j hj)
  have hg : ∀ (s : Shared) (H : Hp) (C : Addr) (cl : List (Str × Addr)) (fp : List Addr), PG (X.blk s H scope (compEnvC scope cl C X.env) fp) tg (gT X.K t) := fun s H C cl fp => tgtB_ok (ag s H C cl fp).N (ag s H C cl fp).nd' (ag s H C cl fp).calm (ag s H C cl fp).sc (fun z => by cases z) ht
  refine ⟨_, pe_lc (tt := ttC X.K ca F cls C) (te := tE X.K ca (ev F cls E0)) g.calm g.nd' hi ok hg (fun s H C cl fp => hif _ (ag s H C cl fp)) (fun s H C cl fp => he _ (ag s H C cl fp)) (noSet_folded hf), fun {i y py spos} h1 h2 h3 => ps_setLc (tt := ttC X.K ca F cls C) (te := tE X.K ca (ev F cls E0)) g.calm g.nd' h1 h2 h3 hi ok hg (fun s H C cl fp => hif _ (ag s H C cl fp)) (fun s H C cl fp => he _ (ag s H C cl fp)) (noSet_folded hf), fun mu σ H Q ⟨G, ρ, env, M, d, M', a0, h, q⟩ => ?_⟩
  rw [ownOf_ix]
  exact tLc_ok hsub a0 h q
end
end MP

/-! MP19: a checked expression does what the evaluator says. -/
namespace MP
open PySem PySem.Spec PyProof.Rows L2
section
variable {P : Pm} {ca : Nat → Option Addr} {F : FT} {cls : Nat → Nat} {k : Nat}
theorem chkI_ok {X : Cx} {sc : Scope} {A B : E} {kk : IK} {tg iter : Expr} (g : Ag P ca F k X sc) (hA : ∀ e, chkE P false sc A e = true → PEv X ca F cls e A) (hB : ∀ e, chkE P false sc B e = true → PEv X ca F cls e B) (h : chkI P sc kk A B tg iter = true) : PIv X ca F cls tg iter kk A B := by
  have absB : ∀ {B : E}, isAbs B = true → B = .absent := fun {B} h => by cases B <;> first | rfl | (cases h)
  unfold chkI at h
  cases kk with
  | seq =>
    simp only [Bool.and_eq_true] at h
    rw [absB h.1]
    exact i_seq (hA _ h.2)
  | rng1 =>
    simp only at h
    split at h
    · simp only [Bool.and_eq_true, Bool.not_eq_true'] at h
      obtain ⟨⟨⟨⟨h1, h2⟩, h3⟩, h4⟩, h5⟩ := h
      have z := sq_eq h1
      subst z
      rw [absB h3]
      exact i_rng1 (hA _ h5) (glB_ok g.sc h2) (g.mgb _ (by decide +kernel)) (star_cons h4)
    · cases h
  | rng2 =>
    simp only at h
    split at h
    · simp only [Bool.and_eq_true, Bool.not_eq_true'] at h
      obtain ⟨⟨⟨⟨⟨⟨h1, h2⟩, h3⟩, h4⟩, h5⟩, h6⟩, h7⟩ := h
      have z := sq_eq h1
      subst z
      exact i_rng2 (hA _ h6) (hB _ h7) h3 (glB_ok g.sc h2) (g.mgb _ (by decide +kernel)) (by rw [star_cons h4, star_cons h5]; rfl) (star_cons h5)
    · cases h
  | enum =>
    simp only at h
    split at h
    · simp only [Bool.and_eq_true, Bool.not_eq_true'] at h
      obtain ⟨⟨⟨⟨⟨h1, h2⟩, h3⟩, h4⟩, h5⟩, h6⟩ := h
      have z := sq_eq h1
      subst z
      rw [absB h3]
      cases tg with
      | Tuple elts kk p => exact i_enum (hA _ h6) (glB_ok g.sc h2) (g.mgb _ (by decide +kernel)) (star_cons h5)
      | _ => cases h4
    · cases h
  | zip => cases h
mutual
theorem chkE_ok : ∀ (A : E) (tm : Bool) (sc : Scope) (X : Cx) (e : Expr), Ag P ca F k X sc → chkE P tm sc A e = true → Snd tm X ca F cls e A
  | .absent, tm, sc, X, e, g, h => by simp [chkE] at h
  | .var i, tm, sc, X, e, g, h => by
    unfold chkE at h
    split at h
    · simp only [Bool.and_eq_true, Bool.not_eq_true'] at h
      obtain ⟨⟨⟨h1, h2⟩, h3⟩, h4⟩ := h
      exact Snd.of (v_var (by rw [g.N]; exact atB_ok h1) (by rw [g.sc]; exact visB_ok h2) (sq_beq h3) (sq_beq h4)) rfl
    · cases h
  | .non, tm, sc, X, e, g, h => by
    unfold chkE at h
    split at h
    · exact Snd.of v_non rfl
    · cases h
  | .bl b, tm, sc, X, e, g, h => by
    unfold chkE at h
    split at h
    · have z := eq_of_beq h
      subst z
      exact Snd.of v_bl rfl
    · cases h
  | .int i, tm, sc, X, e, g, h => by
    unfold chkE at h
    split at h
    · have z := of_decide_eq_true h
      subst z
      exact Snd.of v_int rfl
    · cases h
  | .str i, tm, sc, X, e, g, h => by
    unfold chkE at h
    split at h
    · have z := sq_eq h
      subst z
      exact Snd.of v_str rfl
    · cases h
  | .bin mu o A B, tm, sc, X, e, g, h => by
    unfold chkE at h
    split at h
    · simp only [Bool.and_eq_true] at h
      obtain ⟨⟨h1, h2⟩, h3⟩ := h
      have z := opIs_ok h1
      subst z
      exact Snd.of (v_bin o (chkE_ok A false sc X _ g h2) (chkE_ok B false sc X _ g h3)) rfl
    · cases h
  | .neg A, tm, sc, X, e, g, h => by
    unfold chkE at h
    split at h
    · exact Snd.of (v_neg (chkE_ok A false sc X _ g h)) rfl
    · cases h
  | .not A, tm, sc, X, e, g, h => by
    unfold chkE at h
    split at h
    · have q := chkE_ok A tm sc X _ g h
      cases tm with
      | false => exact v_not q
      | true => exact ⟨t_not q.1, fun _ _ _ z => by cases z⟩
    · cases h
  | .and A B, tm, sc, X, e, g, h => by
    unfold chkE at h
    split at h
    · rename_i a b rest pos
      simp only [Bool.and_eq_true] at h
      have q1 := chkE_ok A tm sc X _ g h.1
      have q2 := chkE_ok B tm sc X _ g h.2
      cases tm with
      | false =>
        cases rest with
        | nil => exact v_and q1 (pe_one q2)
        | cons c rest => exact v_and q1 q2
      | true =>
        have w : PWv X ca F cls (.BoolOp .And (a :: b :: rest) pos) (.and A B) := by
          cases rest with
          | nil => exact w_and q1.1 (pw_and1 q2.1)
          | cons c rest => exact w_and q1.1 (q2.2 _ _ _ rfl)
        exact ⟨w.pt, fun _ _ _ _ => w⟩
    · cases h
  | .or A B, tm, sc, X, e, g, h => by
    unfold chkE at h
    split at h
    · rename_i a b rest pos
      simp only [Bool.and_eq_true] at h
      have q1 := chkE_ok A tm sc X _ g h.1
      have q2 := chkE_ok B tm sc X _ g h.2
      cases tm with
      | false =>
        cases rest with
        | nil => exact v_or q1 (pe_one q2)
        | cons c rest => exact v_or q1 q2
      | true =>
        have w : PWv X ca F cls (.BoolOp .Or (a :: b :: rest) pos) (.or A B) := by
          cases rest with
          | nil => exact w_or q1.1 (pw_or1 q2.1)
          | cons c rest => exact w_or q1.1 (q2.2 _ _ _ rfl)
        exact ⟨w.pt, fun _ _ _ _ => w⟩
    · cases h
  | .cmp o A B, tm, sc, X, e, g, h => by
    unfold chkE at h
    split at h
    · simp only [Bool.and_eq_true, Bool.not_eq_true'] at h
      obtain ⟨⟨⟨h1, h2⟩, h3⟩, h4⟩ := h
      have z := copIs_ok h1
      subst z
      have hu := g.hu
      have q1 := chkE_ok A false sc X _ g h3
      have q2 := chkE_ok B false sc X _ g h4
      exact Snd.ofT (v_cmp o (by omega) (noSet_marks h2) q1 q2) (t_cmp o (by omega) (noSet_marks h2) q1 q2) fun _ _ _ z => by cases z
    · cases h
  | .chain o o2 A B C, tm, sc, X, e, g, h => by
    unfold chkE at h
    split at h
    · simp only [Bool.and_eq_true, Bool.not_eq_true'] at h
      obtain ⟨⟨⟨⟨⟨h1, h2⟩, h3⟩, h4⟩, h5⟩, h6⟩ := h
      have z := copIs_ok h1
      subst z
      have z := copIs_ok h2
      subst z
      have hu := g.hu
      have q1 := chkE_ok A false sc X _ g h4
      have q2 := chkE_ok B false sc X _ g h5
      have q3 := chkE_ok C false sc X _ g h6
      have lm : ∀ b c, isSet c = false → lastMarks [copOf o, copOf o2] [b, c] = false := fun b c h => noSet_marks h
      exact Snd.ofT (v_chain o o2 (by omega) (lm _ _ h3) q1 q2 q3) (t_chain o o2 (by omega) (lm _ _ h3) q1 q2 q3) fun _ _ _ z => by cases z
    · cases h
  | .isN ng A, tm, sc, X, e, g, h => by
    unfold chkE at h
    split at h
    · simp only [Bool.and_eq_true, Bool.not_eq_true'] at h
      obtain ⟨rfl, h1⟩ := h
      have q := chkE_ok A false sc X _ g h1
      exact Snd.ofT (v_is q) (t_is q) fun _ _ _ z => by cases z
    · simp only [Bool.and_eq_true] at h
      obtain ⟨rfl, h1⟩ := h
      have q := chkE_ok A false sc X _ g h1
      exact Snd.ofT (v_isnot q) (t_isnot q) fun _ _ _ z => by cases z
    · cases h
  | .ife C A B, tm, sc, X, e, g, h => by
    unfold chkE at h
    split at h
    · simp only [Bool.and_eq_true] at h
      obtain ⟨⟨h1, h2⟩, h3⟩ := h
      have q1 := (chkE_ok C true sc X _ g h1).1
      have q2 := chkE_ok A tm sc X _ g h2
      have q3 := chkE_ok B tm sc X _ g h3
      cases tm with
      | false => exact v_ife q1 q2 q3
      | true => exact ⟨t_ife q1 q2.1 q3.1, fun _ _ _ z => by cases z⟩
    · cases h
  | .tup es, tm, sc, X, e, g, h => by
    unfold chkE at h
    split at h
    · exact Snd.of (v_tup (chkL_ok es sc X _ g h)) rfl
    · cases h
  | .lst mu es, tm, sc, X, e, g, h => by
    unfold chkE at h
    split at h
    · exact Snd.of (v_lst (chkL_ok es sc X _ g h)) rfl
    · cases h
  | .dct _ _ _, tm, sc, X, e, g, h => by simp [chkE] at h
  | .idx A I, tm, sc, X, e, g, h => by
    unfold chkE at h
    split at h
    · simp only [Bool.and_eq_true] at h
      obtain ⟨⟨h1, h2⟩, h3⟩ := h
      have hu := g.hu
      exact Snd.of (v_idx (by omega) (chkE_ok A false sc X _ g h2) (chkE_ok I false sc X _ g h3) (plainI_ok h1)) rfl
    · cases h
  | .slc mu A lo hi, tm, sc, X, e, g, h => by
    unfold chkE at h
    have absB : ∀ {B : E}, isAbs B = true → B = .absent := fun {B} h => by cases B <;> first | rfl | (cases h)
    split at h
    · rename_i a l u p2 p3
      simp only [Bool.and_eq_true] at h
      obtain ⟨⟨h1, h2⟩, h3⟩ := h
      have q1 : POv X ca F cls l lo := by
        cases l with
        | none => rw [absB h2]; exact v_onone
        | some l =>
          simp only [Bool.and_eq_true, Bool.not_eq_true'] at h2
          exact v_osome h2.1 (chkE_ok lo false sc X _ g h2.2)
      have q2 : POv X ca F cls u hi := by
        cases u with
        | none => rw [absB h3]; exact v_onone
        | some l =>
          simp only [Bool.and_eq_true, Bool.not_eq_true'] at h3
          exact v_osome h3.1 (chkE_ok hi false sc X _ g h3.2)
      exact Snd.of (v_slc (chkE_ok A false sc X _ g h1) q1 q2) rfl
    · cases h
  | .blt mu bt es, tm, sc, X, e, g, h => by
    unfold chkE at h
    split at h
    · rename_i x p l p2
      simp only [Bool.or_eq_true, Bool.and_eq_true, decide_eq_true_eq] at h
      rcases h with ⟨⟨⟨h1, h2⟩, h3⟩, h4⟩ | ⟨⟨⟨rfl, h1⟩, h2⟩, h3⟩
      · cases l with
        | nil => exact absurd h3 (Nat.lt_irrefl 0)
        | cons e l =>
          have hn := chkL_star h4
          have hn' := hn
          rw [noStar, List.all_cons, Bool.and_eq_true, Bool.not_eq_true'] at hn'
          exact Snd.of (v_bltN g h1 h2 (chkL_ok es sc X _ g h4) hn'.1 hn'.2) rfl
      · have z := sq_eq h1
        subst z
        split at h3
        · simp only [Bool.and_eq_true, Bool.not_eq_true'] at h3
          obtain ⟨⟨⟨k1, k2⟩, k3⟩, k4⟩ := h3
          have z := sq_eq k1
          subst z
          have hu := g.hu
          exact Snd.of (v_srtset g.calm (by omega) (chkL_ok es sc X _ g k4) k3 (glB_ok g.sc h2) (glB_ok g.sc k2) (g.mgb _ (by decide +kernel)) (g.mgb _ (by decide +kernel))) rfl
        · cases h3
    · cases h
  | .isi A tys many, tm, sc, X, e, g, h => by
    unfold chkE at h
    split at h
    · simp only [Bool.and_eq_true, Bool.not_eq_true'] at h
      obtain ⟨⟨⟨⟨⟨⟨rfl, h1⟩, h2⟩, h3⟩, h4⟩, h5⟩, h6⟩ := h
      have z := sq_eq h1
      subst z
      split at h4
      · rename_i u
        have ty := fun p => tyB_ok (p := p) g h4 h3
        exact Snd.of (v_isi (ty default).1 (chkE_ok A false sc X _ g h6) (ty _).2 (glB_ok g.sc h2) (g.mgb _ (by decide +kernel)) (star_cons h5) (star_cons rfl) rfl) rfl
      · cases h4
    · cases h
  | .call m f es, tm, sc, X, e, g, h => by
    unfold chkE at h
    split at h
    · rename_i x p l p2
      simp only [Bool.and_eq_true, Bool.not_eq_true'] at h
      obtain ⟨⟨⟨h1, h2⟩, h3⟩, h4⟩ := h
      obtain ⟨np, cl⟩ := clB_ok g h1
      have hs := chkL_ok es sc X _ g h4
      have hn := chkL_star h4
      cases l with
      | nil =>
        have e0 := chkL_len h4
        cases es with
        | nil => exact Snd.of (v_call0 cl g.room (glB_ok g.sc h2) (sq_beq h3)) rfl
        | cons A AS => simp [ELlen] at e0
      | cons e l =>
        rw [noStar, List.all_cons, Bool.and_eq_true, Bool.not_eq_true'] at hn
        exact Snd.of (v_call cl g.room (glB_ok g.sc h2) hs (sq_beq h3) (star_cons hn.1) (star_plain hn.2)) rfl
    · cases h
  | .new _ _, tm, sc, X, e, g, h => by simp [chkE] at h
  | .meth _ _ _ _, tm, sc, X, e, g, h => by simp [chkE] at h
  | .fld _ _, tm, sc, X, e, g, h => by simp [chkE] at h
  | .app A B, tm, sc, X, e, g, h => by
    unfold chkE at h
    split at h
    · simp only [Bool.and_eq_true, Bool.not_eq_true'] at h
      obtain ⟨⟨⟨⟨⟨h1, h2⟩, h3⟩, h4⟩, h5⟩, h6⟩ := h
      have z := sq_eq h1
      subst z
      exact Snd.of (v_app (chkE_ok A false sc X _ g h5) (chkE_ok B false sc X _ g h6) (base_ok h3) (few1 (apos := default) h4) h2 (star_cons h4) rfl) rfl
    · cases h
  | .ext A B, tm, sc, X, e, g, h => by
    unfold chkE at h
    split at h
    · simp only [Bool.and_eq_true, Bool.not_eq_true'] at h
      obtain ⟨⟨⟨⟨⟨h1, h2⟩, h3⟩, h4⟩, h5⟩, h6⟩ := h
      have z := sq_eq h1
      subst z
      exact Snd.of (v_ext (chkE_ok A false sc X _ g h5) (chkE_ok B false sc X _ g h6) (base_ok h3) (few1 (apos := default) h4) h2 (star_cons h4) rfl) rfl
    · cases h
  | .idxof _ _, tm, sc, X, e, g, h => by simp [chkE] at h
  | .dget _ _ _, tm, sc, X, e, g, h => by simp [chkE] at h
  | .comp mu own t kk A B C E0, tm, sc, X, e, g, h => by
    unfold chkE at h
    split at h
    · rename_i elt tg iter ifs asy scope pos
      simp only [Bool.and_eq_true, Bool.not_eq_true', decide_eq_true_eq] at h
      obtain ⟨⟨⟨⟨⟨⟨⟨rfl, h1⟩, h2⟩, h3⟩, h4⟩, h5⟩, h6⟩, h7⟩ := h
      have hi : PIv X ca F cls tg iter kk A B := chkI_ok g (fun e h => chkE_ok A false sc X e g h) (fun e h => chkE_ok B false sc X e g h) h5
      have hif : ∀ X', Ag P ca F k X' (relS scope sc) → PTs X' ifs (ttC X'.K ca F cls C) := fun X' g' => by
        unfold ttC
        split at h6
        · rw [if_pos h6]; exact pts_nil
        · simp only [Bool.and_eq_true, Bool.not_eq_true'] at h6
          rw [if_neg (by rw [h6.1]; exact Bool.false_ne_true)]
          exact pts_one (chkE_ok C true (relS scope sc) X' _ g' h6.2).1
        · cases h6
      obtain ⟨t', w1, w2, w3⟩ := v_comp (pos := pos) g hi h1 h2 h3 h4 hif fun X' g' => chkE_ok E0 false (relS scope sc) X' _ g' h7
      exact Snd.of (PE.imp w1 (w3 mu)) rfl
    · cases h
theorem chkL_ok : ∀ (A : EL) (sc : Scope) (X : Cx) (es : List Expr), Ag P ca F k X sc → chkL P sc A es = true → PAv X ca F cls es A
  | .nil, sc, X, es, g, h => by
    unfold chkL at h
    split at h
    · exact v_anil
    · cases h
  | .cons A AS, sc, X, es, g, h => by
    unfold chkL at h
    split at h
    · simp only [Bool.and_eq_true, Bool.not_eq_true'] at h
      exact v_acons (chkE_ok A false sc X _ g h.1.2) (chkL_ok AS sc X _ g h.2) (star_cons h.1.1)
    · cases h
end
end
end MP

/-! MP20: statements, checked. -/
namespace MP
open PySem PySem.Spec PyProof.Rows L2
/-- the block keeps no name y of its own -/
def noOwn (scope : Scope) (y : Str) : Bool := scope.names.all fun p => !(sq p.1 y && (decide (p.2 = .local) || decide (p.2 = .cell)))
/-- y = e: how the value of a comprehension goes into y: at once (true), or as any value -/
def swB (sc : Scope) (y : Str) (py : Pos) : Expr → Bool
  | .ListComp _ _ scope pos => lclB sc y && (py.line == pos.line) && noOwn scope y
  | _ => false
def swN (sc : Scope) (y : Str) (py : Pos) : Expr → Bool
  | .ListComp _ _ scope pos => !lclB sc y || !(py.line == pos.line)
  | e => !isCompr e
theorem noOwn_ok {scope : Scope} {y : Str} (h : noOwn scope y = true) : (scope.names.any fun (n, k) => n == y && (k == .local || k == .cell)) = false := by
  refine List.any_eq_false.mpr fun p hp z => ?_
  have q := List.all_eq_true.mp h p hp
  obtain ⟨n, k⟩ := p
  simp only [Bool.and_eq_true, Bool.or_eq_true, beq_iff_eq] at z
  obtain ⟨rfl, z⟩ := z
  simp only [sq_refl, Bool.true_and, Bool.not_eq_true', Bool.or_eq_false_iff, decide_eq_false_iff_not] at q
  rcases z with z | z
  · exact q.1 z
  · exact q.2 z
theorem lclB_no {sc : Scope} {x : Str} (h : lclB sc x = false) : sc.names.lookup x ≠ some .local := fun e => by
  unfold lclB at h
  rw [lkS_eq, e] at h
  cases h
theorem swN_ok {sc : Scope} {y : Str} {py : Pos} {e : Expr} {l : Nat} {env : PySem.Env} (hsc : env.scope = sc) (h : swN sc y py e = true) : swapsWith e (some (.Name y py)) l env = pure false := by
  subst hsc
  unfold swN at h
  split at h
  · rename_i elt gs scope pos
    rw [Bool.or_eq_true, Bool.not_eq_true', Bool.not_eq_true'] at h
    have e1 : swapsWith (.ListComp elt gs scope pos) (some (.Name y py)) l env = pure (env.blockKind == .function && env.kindOf y == some .local && py.line == pos.line && !(scope.names.any fun (n, k) => n == y && (k == .local || k == .cell))) := rfl
    rw [e1]
    congr 1
    rcases h with h | h
    · have z : (env.kindOf y == some .local) = false := beq_eq_false_iff_ne.mpr (lclB_no h)
      rw [z, Bool.and_false, Bool.false_and, Bool.false_and]
    · rw [h, Bool.and_false, Bool.false_and]
  · rw [Bool.not_eq_true'] at h
    exact sw_no h
theorem sw_sub {a i e : Expr} {p : Pos} {l : Nat} {env : PySem.Env} : swapsWith e (some (.Subscript a i p)) l env = pure false := by
  cases e <;> rfl
theorem sw_tup {es : List Expr} {k : Nat} {p : Pos} {e : Expr} {l : Nat} {env : PySem.Env} : swapsWith e (some (.Tuple es k p)) l env = pure false := by
  cases e <;> rfl
theorem sws_sub {a i e : Expr} {p : Pos} {l : Nat} {env : PySem.Env} : swapsWithSole [.Subscript a i p] e l env = pure false := by cases e <;> rfl
theorem sws_tup {es : List Expr} {k : Nat} {p : Pos} {e : Expr} {l : Nat} {env : PySem.Env} : swapsWithSole [.Tuple es k p] e l env = pure false := by cases e <;> rfl
theorem sst_pairN {x y : Str} {px py pt : Pos} {k : Nat} {e : Expr} {env : PySem.Env} (h : env.scope.names.lookup x ≠ some .local ∨ env.scope.names.lookup y ≠ some .local) : swappedStores [.Tuple [.Name x px, .Name y py] k pt] e env = pure none := by
  have kxy : (env.kindOf x == some .local) = false ∨ (env.kindOf y == some .local) = false := h.imp (fun h => beq_eq_false_iff_ne.mpr h) fun h => beq_eq_false_iff_ne.mpr h
  cases e with
  | Tuple vs k2 p3 =>
    unfold swappedStores
    simp only [List.filterMap_cons, List.filterMap_nil, List.length_cons, List.length_nil]
    split
    · rfl
    · split
      · rfl
      · rcases kxy with z | z
        · simp only [z, Bool.false_and, Bool.false_eq_true, if_false]
          split <;> (split <;> first | rfl | (rename_i hh; exact absurd rfl hh))
        · simp only [z, Bool.false_and, Bool.false_eq_true, if_false]
          split <;> (split <;> first | rfl | (rename_i hh; exact absurd rfl hh))
  | _ => rfl
end MP

/-! MP21: statements, checked: soundness. -/
namespace MP
open PySem PySem.Spec PyProof.Rows L2
mutual
def chkS (P : Pm) (sc : Scope) : S → Stmt → Bool
  | .setv i A, st => match st with
    | .Assign [.Name x px] e _ => atB P.N i x && locB sc x && chkE P false sc A e && (swN sc x px e || swB sc x px e)
    | _ => false
  | .sett is A, st => match st with
    | .Assign [tg] e _ => tgtB P.N true sc (.tp is) tg && chkE P false sc A e && !isTupE e && isTupE tg
    | _ => false
  | .setp i j A B, st => match st with
    | .Assign [.Tuple [.Name x px, .Name y py] _ _] (.Tuple [a, b] _ _) _ => atB P.N i x && atB P.N j y && !sq x y && !isStar a && !isStar b && chkE P false sc A a && chkE P false sc B b &&
      ((lclB sc x && lclB sc y && (py.line == px.line) && !(foldedForSure 8 a && foldedForSure 8 b) && !(constantsAlone 8 a && constantsAlone 8 b)) ||
       (locB sc x && locB sc y && (!lclB sc x || !lclB sc y)))
    | _ => false
  | .seti A I E0, st => match st with
    | .Assign [.Subscript a i _] e _ => plainI i && chkE P false sc A a && chkE P false sc I i && chkE P false sc E0 e
    | _ => false
  | .seti2 A I B J E0 E1, st => match st with
    | .Assign [.Tuple [.Subscript a i _, .Subscript b j _] _ _] (.Tuple [e, g] _ _) _ => plainI i && plainI j && !isStar e && !isStar g && chkE P false sc A a && chkE P false sc I i && chkE P false sc B b && chkE P false sc J j && chkE P false sc E0 e && chkE P false sc E1 g
    | _ => false
  | .augi A I o E0, st => match st with
    | .AugAssign (.Subscript a i _) op e _ => augBO o && opIs o op && plainI i && chkE P false sc A a && chkE P false sc I i && chkE P false sc E0 e
    | _ => false
  | .setf _ _ _, _ => false
  | .exp A, st => match st with
    | .Expr e _ => chkE P false sc A e && !isCompr e
    | _ => false
  | .ret A, st => match st with
    | .Return (some e) _ => chkE P false sc A e
    | _ => false
  | .retN, st => match st with
    | .Return none _ => true
    | _ => false
  | .ife C p q, st => match st with
    | .If c a b _ => chkE P true sc C c && chkB P sc p a && chkB P sc q b
    | _ => false
  | .for_ t k A B body, st => match st with
    | .For tg iter b [] _ => chkI P sc k A B tg iter && tgtB P.N true sc t tg && !isSet iter && chkB P sc body b
    | _ => false
  | .whl C body, st => match st with
    | .While c b [] _ => chkE P true sc C c && chkB P sc body b
    | _ => false
  | .pass, st => match st with
    | .Pass _ => true
    | _ => false
  | .cont, st => match st with
    | .Continue _ => true
    | _ => false
  | .frz _, _ => false
def chkB (P : Pm) (sc : Scope) : SB → List Stmt → Bool
  | .nil, l => match l with
    | [] => true
    | _ => false
  | .cons (.frz _) r, l => chkB P sc r l
  | .cons s r, l => match l with
    | st :: l => chkS P sc s st && chkB P sc r l
    | _ => false
end
theorem asg_sub {o i : Expr} {pos : Pos} {env : PySem.Env} (h : plainI i = true) : ∀ v, assign (.Subscript o i pos) env v = (do
    let ov ← holding [v] (eval o env)
    let iv ← holding [v, ov] (eval i env)
    standAt pos
    holding [v, ov, iv] (setItem ov iv v)
    release [v, ov, iv] []) := by
  intro v
  cases i <;> first | rfl | (cases h)
structure AgT (P : Pm) (ca : Nat → Option Addr) (F : FT) (k : Nat) (X : Cx) (sc : Scope) : Prop where
  ag : Ag P ca F k X sc
  fnt : ∀ x, X.fn x = true
  xe : X.xe = fun _ _ => False
  kind : sc.kind = .function
section
variable {P : Pm} {ca : Nat → Option Addr} {F : FT} {cls : Nat → Nat} {k : Nat} {X : Cx} {sc : Scope}
theorem AgT.own (g : AgT P ca F k X sc) : PassesOwn (model X.prog X.w) X.A X.env X.xe := by
  rw [g.xe]
  exact PassesOwn.never
/-- a checked comprehension, as a value and into a name -/
theorem comp_two {mu : Bool} {own : List Nat} {t : T} {kk : IK} {A B C E0 : E} {e : Expr} (g : Ag P ca F k X sc) (h : chkE P false sc (.comp mu own t kk A B C E0) e = true) :
    ∃ t', (∀ {i : Nat} {y : Str} {py spos : Pos}, X.N[i]? = some y → X.env.scope.names.lookup y = some .local → swapsWith e (some (.Name y py)) spos.line X.env = pure true → PS X (.Assign [.Name y py] e spos) (tAsg t' (gName i))) ∧
      ∀ σ H Q, tE X.K ca (ev F cls (.comp mu own t kk A B C E0)) σ H Q → t' σ H Q := by
  unfold chkE at h
  split at h
  · rename_i elt tg iter ifs asy scope pos
    simp only [Bool.and_eq_true, Bool.not_eq_true', decide_eq_true_eq] at h
    obtain ⟨⟨⟨⟨⟨⟨⟨rfl, h1⟩, h2⟩, h3⟩, h4⟩, h5⟩, h6⟩, h7⟩ := h
    have hi : PIv X ca F cls tg iter kk A B := chkI_ok g (fun e h => chkE_ok A false sc X e g h) (fun e h => chkE_ok B false sc X e g h) h5
    have hif : ∀ X', Ag P ca F k X' (relS scope sc) → PTs X' ifs (ttC X'.K ca F cls C) := fun X' g' => by
      unfold ttC
      split at h6
      · rw [if_pos h6]; exact pts_nil
      · simp only [Bool.and_eq_true, Bool.not_eq_true'] at h6
        rw [if_neg (by rw [h6.1]; exact Bool.false_ne_true)]
        exact pts_one (chkE_ok C true (relS scope sc) X' _ g' h6.2).1
      · cases h6
    obtain ⟨t', w1, w2, w3⟩ := v_comp (pos := pos) g hi h1 h2 h3 h4 hif fun X' g' => chkE_ok E0 false (relS scope sc) X' _ g' h7
    exact ⟨t', w2, w3 mu⟩
  · cases h
theorem swB_ok {y : Str} {py spos : Pos} {e : Expr} (g : AgT P ca F k X sc) (h : swB sc y py e = true) : X.env.scope.names.lookup y = some .local ∧ swapsWith e (some (.Name y py)) spos.line X.env = pure true := by
  unfold swB at h
  split at h
  · rename_i elt gs scope pos
    simp only [Bool.and_eq_true] at h
    obtain ⟨⟨h1, h2⟩, h3⟩ := h
    have hl : X.env.scope.names.lookup y = some .local := by rw [g.ag.sc]; exact lclB_ok h1
    exact ⟨hl, sw_true (by rw [g.ag.sc]; exact g.kind) hl h2 (noOwn_ok h3)⟩
  · cases h
theorem isComp_of {A : E} {e : Expr} {y : Str} {py : Pos} (h : swB sc y py e = true) (hc : chkE P false sc A e = true) : ∃ mu own t kk B C D E0, A = .comp mu own t kk B C D E0 := by
  unfold swB at h
  split at h
  · cases A with
    | comp mu own t kk B C D E0 => exact ⟨mu, own, t, kk, B, C, D, E0, rfl⟩
    | _ => simp [chkE] at hc
  · cases h
mutual
theorem chkS_ok : ∀ (A : S) (st : Stmt), AgT P ca F k X sc → chkS P sc A st = true → PSv X ca F cls st A
  | .setv i A, st, g, h => by
    unfold chkS at h
    split at h
    · simp only [Bool.and_eq_true, Bool.or_eq_true] at h
      obtain ⟨⟨⟨h1, h2⟩, h3⟩, h4⟩ := h
      have hN := atB_ok h1
      rw [← g.ag.N] at hN
      rcases h4 with h4 | h4
      · exact s_set (ps_set g.ag.nd' hN (by rw [g.ag.sc]; exact locB_ok h2) (chkE_ok A false sc X _ g.ag h3) (swN_ok g.ag.sc h4) (.inl (g.fnt _))) fun _ _ _ z => z
      · obtain ⟨mu, own, t, kk, B, C, D, E0, rfl⟩ := isComp_of h4 h3
        obtain ⟨t', w1, w2⟩ := comp_two (cls := cls) g.ag h3
        obtain ⟨z1, z2⟩ := swB_ok g h4
        exact s_set (w1 hN z1 z2) w2
    · cases h
  | .sett is A, st, g, h => by
    unfold chkS at h
    split at h
    · rename_i tg e pos
      simp only [Bool.and_eq_true, Bool.not_eq_true'] at h
      obtain ⟨⟨⟨h1, h2⟩, h3⟩, h4⟩ := h
      cases tg with
      | Tuple es kt pt => exact s_sett (ps_asg (chkE_ok A false sc X _ g.ag h2) (tgtB_ok g.ag.N g.ag.nd' g.ag.calm g.ag.sc (fun _ => g.fnt) h1) sws_tup (sst_no h3) rfl)
      | _ => cases h4
    · cases h
  | .setp i j A B, st, g, h => by
    unfold chkS at h
    split at h
    · rename_i x px y py _ _ a b _ _ _
      simp only [Bool.and_eq_true, Bool.or_eq_true, Bool.not_eq_true'] at h
      obtain ⟨⟨⟨⟨⟨⟨⟨h1, h2⟩, h3⟩, h4⟩, h5⟩, h6⟩, h7⟩, h8⟩ := h
      have hx := atB_ok h1
      have hy := atB_ok h2
      rw [← g.ag.N] at hx hy
      have hxy := sq_ne h3
      have hij : i ≠ j := fun z => by
        subst z
        rw [hx] at hy
        exact hxy (Option.some.inj hy)
      have pa := v_acons (cls := cls) (chkE_ok A false sc X _ g.ag h6) (v_acons (chkE_ok B false sc X _ g.ag h7) v_anil (star_cons h5)) (star_cons h4)
      rcases h8 with ⟨⟨⟨⟨l1, l2⟩, l3⟩, l4⟩, l5⟩ | ⟨⟨l1, l2⟩, l3⟩
      · have n1 : X.env.scope.names.lookup x = some .local := by rw [g.ag.sc]; exact lclB_ok l1
        have n2 : X.env.scope.names.lookup y = some .local := by rw [g.ag.sc]; exact lclB_ok l2
        exact s_setp (ps_par g.ag.calm g.ag.nd' hx hy hij n1 n2 pa (sst_pair (by rw [g.ag.sc]; exact g.kind) n1 n2 l3 hxy ⟨h4, h5⟩ l4 l5) sws_tup)
      · have tg : ∀ kt pt, tgtB P.N true sc (.tp [i, j]) (.Tuple [.Name x px, .Name y py] kt pt) = true := fun kt pt => by
          simp only [tgtB, tgtB.tgts, lcB, h1, h2, l1, l2, Bool.and_self]
        have nn : X.env.scope.names.lookup x ≠ some .local ∨ X.env.scope.names.lookup y ≠ some .local := by
          rw [g.ag.sc]
          exact l3.imp lclB_no lclB_no
        refine PS.imp (ps_asg (v_tup pa) (tgtB_ok g.ag.N g.ag.nd' g.ag.calm g.ag.sc (fun _ => g.fnt) (tg _ _)) sws_tup (sst_pairN nn) rfl) fun D σ H ⟨G, ρ, env, M, o, env', M', a0, hh, q⟩ => ?_
        rw [exec] at hh
        split at hh
        · cases hh
        · rename_i x1 M1 e1
          split at hh
          · cases hh
          · rename_i y1 M2 e2
            cases hh
            have et : ev F cls (.tup (.cons A (.cons B .nil))) env M = some (.tup [x1, y1], M') := by
              rw [ev, evL, e1]; simp only; rw [evL, e2]; simp only; rw [evL]
              rfl
            exact tE.go a0 et fun ρ1 v1 H1 x1 a1 r1 => gT_ok a1.en r1 rfl fun σ' r' _ => q ρ1 σ' H1 x1 ⟨a1.ok, r'⟩
    · cases h
  | .seti A I E0, st, g, h => by
    unfold chkS at h
    split at h
    · simp only [Bool.and_eq_true] at h
      obtain ⟨⟨⟨h0, h1⟩, h2⟩, h3⟩ := h
      have hu := g.ag.hu
      exact s_seti (ps_asg (chkE_ok E0 false sc X _ g.ag h3) (pg_sub (chkE_ok A false sc X _ g.ag h1) (chkE_ok I false sc X _ g.ag h2) (set_any (by omega)) (asg_sub h0)) sws_sub sst_one rfl)
    · cases h
  | .seti2 A I B J E0 E1, st, g, h => by
    unfold chkS at h
    split at h
    · simp only [Bool.and_eq_true, Bool.not_eq_true'] at h
      obtain ⟨⟨⟨⟨⟨⟨⟨⟨⟨k1, k2⟩, h1⟩, h2⟩, h3⟩, h4⟩, h5⟩, h6⟩, h7⟩, h8⟩ := h
      have hu := g.ag.hu
      have pa := v_acons (cls := cls) (chkE_ok E0 false sc X _ g.ag h7) (v_acons (chkE_ok E1 false sc X _ g.ag h8) v_anil (star_cons h2)) (star_cons h1)
      exact s_seti2 (ps_asg (v_tup pa) (pg_tup g.ag.calm (pgs_cons (pg_sub (chkE_ok A false sc X _ g.ag h3) (chkE_ok I false sc X _ g.ag h4) (set_any (by omega)) (asg_sub k1)) (pgs_cons (pg_sub (chkE_ok B false sc X _ g.ag h5) (chkE_ok J false sc X _ g.ag h6) (set_any (by omega)) (asg_sub k2)) pgs_nil rfl) rfl) rfl rfl) sws_tup sst_sub rfl)
    · cases h
  | .augi A I o E0, st, g, h => by
    unfold chkS at h
    split at h
    · simp only [Bool.and_eq_true] at h
      obtain ⟨⟨⟨⟨⟨h1, h2⟩, h3⟩, h4⟩, h5⟩, h6⟩ := h
      have z := opIs_ok h2
      subst z
      have hu := g.ag.hu
      exact s_augi (fun ho => ps_augS (chkE_ok A false sc X _ g.ag h4) (chkE_ok I false sc X _ g.ag h5) get_list (chkE_ok E0 false sc X _ g.ag h6) (ip_aug ho) (set_any (by omega)) (augI_ok h3)) h1
    · cases h
  | .setf _ _ _, st, g, h => by simp [chkS] at h
  | .exp A, st, g, h => by
    unfold chkS at h
    split at h
    · simp only [Bool.and_eq_true, Bool.not_eq_true'] at h
      exact s_exp (chkE_ok A false sc X _ g.ag h.1) (sw_no h.2)
    · cases h
  | .ret A, st, g, h => by
    unfold chkS at h
    split at h
    · exact s_ret (chkE_ok A false sc X _ g.ag h)
    · cases h
  | .retN, st, g, h => by
    unfold chkS at h
    split at h
    · exact s_retN
    · cases h
  | .ife C p q, st, g, h => by
    unfold chkS at h
    split at h
    · simp only [Bool.and_eq_true] at h
      exact s_if (chkE_ok C true sc X _ g.ag h.1.1).1 (chkB_ok p _ g h.1.2) (chkB_ok q _ g h.2)
    · cases h
  | .for_ t kk A B body, st, g, h => by
    unfold chkS at h
    split at h
    · simp only [Bool.and_eq_true, Bool.not_eq_true'] at h
      obtain ⟨⟨⟨h1, h2⟩, h3⟩, h4⟩ := h
      exact s_for (ps_for g.own g.ag.calm (chkI_ok g.ag (fun e h => chkE_ok A false sc X e g.ag h) (fun e h => chkE_ok B false sc X e g.ag h) h1) (tgtB_ok g.ag.N g.ag.nd' g.ag.calm g.ag.sc (fun _ => g.fnt) h2) (chkB_ok body _ g h4) (noSet_folded h3))
    · cases h
  | .whl C body, st, g, h => by
    unfold chkS at h
    split at h
    · simp only [Bool.and_eq_true] at h
      exact s_whl (ps_while g.own (chkE_ok C true sc X _ g.ag h.1).1 (chkB_ok body _ g h.2))
    · cases h
  | .pass, st, g, h => by
    unfold chkS at h
    split at h
    · exact s_pass
    · cases h
  | .cont, st, g, h => by
    unfold chkS at h
    split at h
    · exact s_cont
    · cases h
  | .frz _, st, g, h => by simp [chkS] at h
theorem chkB_ok : ∀ (A : SB) (ss : List Stmt), AgT P ca F k X sc → chkB P sc A ss = true → PBv X ca F cls ss A
  | .nil, ss, g, h => by
    unfold chkB at h
    split at h
    · exact b_nil
    · cases h
  | .cons s r, ss, g, h => by
    by_cases hs : ∃ i, s = .frz i
    · obtain ⟨i, rfl⟩ := hs
      rw [chkB] at h
      exact b_frz (chkB_ok r ss g h)
    · cases ss with
      | nil =>
        exfalso
        cases s <;> first | (exact hs ⟨_, rfl⟩) | (simp [chkB] at h)
      | cons st l =>
        have h' : chkS P sc s st = true ∧ chkB P sc r l = true := by
          cases s <;> first | (exact absurd ⟨_, rfl⟩ hs) | (simpa only [chkB, Bool.and_eq_true] using h)
        exact b_cons (chkS_ok s st g h'.1) (chkB_ok r l g h'.2)
end
end
end MP

/-! MP22: defs, checked. -/
namespace MP
open PySem PySem.Spec PyProof.Rows L2
def dropDoc : List Stmt → List Stmt
  | .Expr (.Constant (.str _) _ _) _ :: r => r
  | l => l
theorem dropDoc_ok {X : Cx} {ca : Nat → Option Addr} {F : FT} {cls : Nat → Nat} {body : List Stmt} {B : SB} (h : PBv X ca F cls (dropDoc body) B) : PBv X ca F cls body B := by
  unfold dropDoc at h
  split at h
  · exact b_doc h
  · exact h
/-- a def of the module and its datum agree -/
structure DefOk (P : Pm) (K : PySem.W.Frag) (mg : Str → Option Value) (fn : Fn) : Prop where
  ex : ∃ (fa : Addr) (fd : FuncData) (params : Arguments) (body : List Stmt) (scope : Scope) (dvs : List V), FunD K fn.name fn.name params body scope dvs [] fa fd ∧ mg fn.name = some (.ref fa) ∧ FnScope fn.N (fn.N.take fn.np) scope ∧ chkB { P with N := fn.N } scope fn.body (dropDoc body) = true ∧
    (∀ F ρ H, RpL K F ρ H fn.ds dvs) ∧ ∀ n, n ≤ fn.np → fn.np ≤ n + fn.ds.length → ∃ dus, Vals (dvs.drop (fn.ds.length - (fn.np - n))) dus ∧ Binds K fd (fn.N.take fn.np) dus
  np : fn.np ≤ fn.N.length
theorem env_start {K : PySem.W.Frag} {F : Addr → Prop} {ρ : List Addr} {H : Hp} {N : List Str} {ds : List D} {vs : List V} (r : RpL K F ρ H ds vs) (hl : ds.length ≤ N.length) : EnvR K F ρ H (L2.start N vs) (ds.map some ++ List.replicate (N.length - ds.length) none) := by
  have hv := r.length
  refine ⟨?_, fun i d h => ?_⟩
  · unfold L2.start
    simp only [List.length_append, List.length_map, List.length_replicate]
    omega
  · have hi : i < ds.length := by
      rcases Nat.lt_or_ge i ds.length with z | z
      · exact z
      · rw [List.getElem?_append_right (by rw [List.length_map]; exact z)] at h
        rw [List.getElem?_replicate] at h
        split at h <;> cases h
    rw [List.getElem?_append_left (by rw [List.length_map]; exact hi), List.getElem?_map] at h
    obtain ⟨d', e, e'⟩ := Option.map_eq_some_iff.mp h
    cases e'
    obtain ⟨v, q1, q2⟩ := r.get e
    refine ⟨v, ?_, q2⟩
    unfold L2.start
    rw [List.getElem?_append_left (by rw [List.length_map, hv]; exact hi), List.getElem?_map, q1]
    rfl
section
variable {P : Pm} {prog : Program} {w : World} {K : PySem.W.Frag} {mg : Str → Option Value} {base : Heap} {ca : Nat → Option Addr} {cls : Nat → Nat}
theorem run_full {fns : List Fn} {n f : Nat} {fn : Fn} {xs : List D} {M : Sto} (hf : fns[f]? = some fn) (hl : xs.length = fn.np) : run fns cls (n + 1) f xs M = body1 (run fns cls n) cls fn xs M := by
  rw [run, hf]
  simp only
  have e : fn.ds.drop (fn.ds.length - (fn.np - xs.length)) = [] := by
    rw [hl, Nat.sub_self, Nat.sub_zero, List.drop_length]
  rw [e, List.append_nil, if_pos hl]
theorem run_short {fns : List Fn} {n f : Nat} {fn : Fn} {xs : List D} {M : Sto} (hf : fns[f]? = some fn) (h2 : fn.np ≤ xs.length + fn.ds.length) (h1 : xs.length ≤ fn.np) :
    run fns cls n f xs M = run fns cls n f (xs ++ fn.ds.drop (fn.ds.length - (fn.np - xs.length))) M := by
  have hlen : (xs ++ fn.ds.drop (fn.ds.length - (fn.np - xs.length))).length = fn.np := by
    rw [List.length_append, List.length_drop]
    omega
  cases n with
  | zero => rfl
  | succ n => rw [run_full hf hlen, run, hf]; simp only; rw [if_pos hlen]
/-- what is known of all defs at a depth -/
def AllAt (P : Pm) (prog : Program) (w : World) (K : PySem.W.Frag) (mg : Str → Option Value) (base : Heap) (ca : Nat → Option Addr) (cls : Nat → Nat) (n : Nat) : Prop := ∀ (f : Nat) (fn : Fn), P.fnb f = true → P.fns[f]? = some fn →
    ∃ (fa : Addr) (fd : FuncData) (dvs : List V), mg fn.name = some (.ref fa) ∧ PySem.W.keepIn K (.ref fa) = true ∧ FnOk prog w K mg base CX0 n fa fd (fn.N.take fn.np) (spF K ca (run P.fns cls n f) fn.np) ∧
      (∀ F ρ H, RpL K F ρ H fn.ds dvs) ∧ ∀ n, n ≤ fn.np → fn.np ≤ n + fn.ds.length → ∃ dus, Vals (dvs.drop (fn.ds.length - (fn.np - n))) dus ∧ Binds K fd (fn.N.take fn.np) dus
theorem fn_one {n f : Nat} {fn : Fn} {fa : Addr} {fd : FuncData} {params : Arguments} {body : List Stmt} {scope : Scope} {dvs : List V} (IH : AllAt P prog w K mg base ca cls n) (hm : ∀ x ∈ bltNames, mg x = none) (he : P.fns[f]? = some fn) (F : FunD K fn.name fn.name params body scope dvs [] fa fd)
    (h2 : FnScope fn.N (fn.N.take fn.np) scope) (h3 : chkB { P with N := fn.N } scope fn.body (dropDoc body) = true) (np : fn.np ≤ fn.N.length) : FnOk prog w K mg base CX0 (n + 1) fa fd (fn.N.take fn.np) (spF K ca (run P.fns cls (n + 1) f) fn.np) := by
  refine F.ok h2 (fun vs H Q E h => ?_) (fun cdv A outer s H vs Q E hr h => ⟨tS K ca (exb (run P.fns cls n) cls fn.body), PSs.nox (dropDoc_ok (chkB_ok (P := { P with N := fn.N }) (k := n) (sc := scope) fn.body _ ?_ h3)), ?_⟩)
  · rw [List.length_take, Nat.min_eq_left np]
    exact h.1
  · refine ⟨⟨rfl, h2.nd, rfl, rfl, hr, hm, fun g gn m hg hge hm1 hm2 => ⟨?_⟩⟩, fun _ => rfl, rfl, h2.kind⟩
    obtain ⟨ga, gd, gdv, g1, g2, g3, g4, g5⟩ := IH g gn hg hge
    obtain ⟨dus, d1, d2⟩ := g5 m hm1 hm2
    have hdl : ∀ F ρ H, RpL K F ρ H (gn.ds.drop (gn.ds.length - (gn.np - m))) (gdv.drop (gn.ds.length - (gn.np - m))) := fun F ρ H => (g4 F ρ H).drop _
    exact ⟨ga, gd, gn.N.take gn.np, _, dus, gn.ds.drop (gn.ds.length - (gn.np - m)), g1, g2, g3, d2, d1, hdl, fun xs M hx => by subst hx; exact run_short hge hm2 hm1, by rw [List.length_drop]; omega⟩
  · obtain ⟨hl, G, ρ, M, ds, d, M', k, r, e, hk⟩ := h
    have hds : ds.length = fn.np := by rw [← r.length]; exact hl
    rw [run_full he hds] at e
    unfold body1 at e
    split at e
    · rename_i d1 env1 M1 e1
      cases e
      exact tS.go ⟨k, env_start r (by rw [hds]; exact np)⟩ e1 fun ρ' σ' H' x a v rv => hk ρ' v H' x a.ok rv
    · rename_i env1 M1 e1
      cases e
      exact tS.go ⟨k, env_start r (by rw [hds]; exact np)⟩ e1 fun ρ' σ' H' x a => hk ρ' .non H' x a.ok rfl
    · cases e
theorem fns_ok (hD : ∀ f fn, P.fnb f = true → P.fns[f]? = some fn → DefOk P K mg fn) (hm : ∀ x ∈ bltNames, mg x = none) : ∀ (n : Nat), AllAt P prog w K mg base ca cls n
  | 0, f, fn, hf, he => by
    have q := hD f fn hf he
    obtain ⟨fa, fd, params, body, scope, dvs, F, h1, h2, h3, h4, h5⟩ := q.ex
    refine ⟨fa, fd, dvs, h1, F.kp, ⟨fun vs H Q E h => ?_, fun A outer s H args us vs Q E _ _ _ _ h => ?_⟩, h4, h5⟩
    · rw [List.length_take, Nat.min_eq_left q.np]
      exact h.1
    · obtain ⟨_, G, ρ, M, ds, d, M', _, _, e, _⟩ := h
      cases e
  | n + 1, f, fn, hf, he => by
    have q := hD f fn hf he
    obtain ⟨fa, fd, params, body, scope, dvs, F, h1, h2, h3, h4, h5⟩ := q.ex
    exact ⟨fa, fd, dvs, h1, F.kp, fn_one (fns_ok hD hm n) hm he F h2 h3 q.np, h4, h5⟩
end
end MP

/-! MP25: what a def's call binds. -/
namespace MP
open PySem PySem.Spec PyProof.Rows L2
def simpleA (p : Arguments) (ps : List Str) : Bool := p.posonlyargs.isEmpty && p.vararg.isNone && p.kwonlyargs.isEmpty && p.kwarg.isNone && (p.args.map (·.arg)).length == ps.length && ((p.args.map (·.arg)).zip ps).all fun q => sq q.1 q.2
theorem zip_sq : ∀ {l ps : List Str}, l.length = ps.length → ((l.zip ps).all fun q => sq q.1 q.2) = true → l = ps
  | [], [], _, _ => rfl
  | [], _ :: _, h, _ => by cases h
  | _ :: _, [], h, _ => by cases h
  | x :: l, y :: ps, h, h2 => by
    rw [List.zip_cons_cons, List.all_cons, Bool.and_eq_true] at h2
    have e1 : x = y := sq_eq h2.1
    rw [e1, zip_sq (by simpa using h) h2.2]
theorem lookup_zip : ∀ {ps : List Str} {us : List Value}, us.length = ps.length → ∀ x ∈ ps, ((ps.zip us).lookup x).isNone = false
  | [], _, _, x, hx => nomatch hx
  | p :: ps, [], h, _, _ => by cases h
  | p :: ps, u :: us, h, x, hx => by
    rw [List.zip_cons_cons, List.lookup_cons]
    cases e : x == p with
    | true => rfl
    | false =>
      rcases List.mem_cons.mp hx with z | z
      · subst z; simp at e
      · exact lookup_zip (by simpa using h) x z
theorem filterMap_zip : ∀ {ps : List Str} {us : List Value}, us.length = ps.length → ps.Nodup → (ps.filterMap fun n => ((ps.zip us).lookup n).map (n, ·)) = ps.zip us := by
  have go : ∀ (ps : List Str) (us : List Value) (pre : List (Str × Value)), us.length = ps.length → ps.Nodup → (∀ q ∈ pre, q.1 ∉ ps) → (ps.filterMap fun n => ((pre ++ ps.zip us).lookup n).map (n, ·)) = ps.zip us := by
    intro ps
    induction ps with
    | nil => intro us pre _ _ _; rfl
    | cons p ps ih =>
      intro us pre hl nd hp
      cases us with
      | nil => cases hl
      | cons u us =>
        rw [List.nodup_cons] at nd
        have lk : ∀ (pre : List (Str × Value)), (∀ q ∈ pre, q.1 ∉ p :: ps) → (pre ++ (p :: ps).zip (u :: us)).lookup p = some u := by
          intro pre
          induction pre with
          | nil => intro _; rw [List.nil_append, List.zip_cons_cons, List.lookup_cons]; simp
          | cons q pre ih2 =>
            intro hq
            rw [List.cons_append, List.lookup_cons]
            have hne : (p == q.1) = false := beq_eq_false_iff_ne.mpr fun z => hq q List.mem_cons_self (z ▸ List.mem_cons_self)
            rw [hne]
            exact ih2 fun r hr => hq r (List.mem_cons_of_mem _ hr)
        rw [List.filterMap_cons, lk pre hp]
        simp only [Option.map_some, List.zip_cons_cons]
        congr 1
        have := ih us (pre ++ [(p, u)]) (by simpa using hl) nd.2 fun q hq => by
          rcases List.mem_append.mp hq with z | z
          · exact fun w => hp q z (List.mem_cons_of_mem _ w)
          · rw [List.mem_singleton.mp z]; exact nd.1
        rw [List.append_assoc] at this
        exact this
  intro ps us hl nd
  exact go ps us [] hl nd fun q hq => nomatch hq
theorem bind_simple {x qual : Str} {params : Arguments} {body : List Stmt} {scope : Scope} {kV doc pm : Value} {an : Option Addr} {cdv ct : Value} {ps : List Str} {us : List Value} (h : simpleA params ps = true) (nd : ps.Nodup) (hl : us.length = ps.length) :
    bindArgs (PySem.W.fnOf x qual params body scope .none kV doc pm an cdv ct) ⟨us, []⟩ = pure (ps.zip us) := by
  unfold simpleA at h
  simp only [Bool.and_eq_true, beq_iff_eq] at h
  obtain ⟨⟨⟨⟨⟨h1, h2⟩, h3⟩, h4⟩, h5⟩, h6⟩ := h
  have e := zip_sq h5 h6
  obtain ⟨po, args, va, ko, kd, kw, df⟩ := params
  simp only at h1 h2 h3 h4 e
  have e1 : po = [] := List.isEmpty_iff.mp h1
  have e2 : va = none := Option.isNone_iff_eq_none.mp h2
  have e3 : ko = [] := List.isEmpty_iff.mp h3
  have e4 : kw = none := Option.isNone_iff_eq_none.mp h4
  subst e1 e2 e3 e4
  have miss : (ps.take (ps.length - 0)).filter (fun n => ((ps.zip us).lookup n).isNone) = [] := by
    rw [Nat.sub_zero, List.take_length, List.filter_eq_nil_iff]
    intro y hy
    rw [lookup_zip hl y hy]
    exact Bool.false_ne_true
  have fm := filterMap_zip hl nd
  unfold bindArgs
  simp only [List.map_nil, List.nil_append, e, List.append_nil, PySem.W.fnOf, List.forIn_nil, pure_bind]
  have si : seqItems? Value.none = pure none := rfl
  have dd0 : ps.drop (ps.length - (([] : List Value).drop (0 - ps.length)).length) = [] := by simp
  simp [si, hl, fm]
  intro y hy hno
  obtain ⟨i, hi⟩ := List.getElem?_of_mem hy
  have hlt : i < ps.length := (List.getElem?_eq_some_iff.mp hi).1
  have hz : (ps.zip us)[i]? = some (y, us[i]'(by omega)) := by
    rw [List.getElem?_zip_eq_some]
    exact ⟨hi, List.getElem?_eq_getElem _⟩
  exact absurd (List.mem_of_getElem? hz) (hno _)
/-- the datum of a def, by the checker -/
def defB (P : Pm) (fn : Fn) (params : Arguments) (body : List Stmt) (scope : Scope) : Bool :=
  simpleA params (fn.N.take fn.np) && decide (fn.np ≤ fn.N.length) && fn.ds.isEmpty && C8.scC fn.N (fn.N.take fn.np) scope && chkB { P with N := fn.N } scope fn.body (dropDoc body)
theorem defB_ok {P : Pm} {K : PySem.W.Frag} {mg : Str → Option Value} {fn : Fn} {fa : Addr} {fd : FuncData} {params : Arguments} {body : List Stmt} {scope : Scope} (F : FunD K fn.name fn.name params body scope [] [] fa fd) (hm : mg fn.name = some (.ref fa)) (h : defB P fn params body scope = true) : DefOk P K mg fn := by
  unfold defB at h
  simp only [Bool.and_eq_true, decide_eq_true_eq] at h
  obtain ⟨⟨⟨⟨h1, h2⟩, h3⟩, h4⟩, h5⟩ := h
  have S := C8.fnScope_by h4
  have e : fn.ds = [] := List.isEmpty_iff.mp h3
  have nd : (fn.N.take fn.np).Nodup := S.nd.sublist (List.take_sublist _ _)
  refine ⟨⟨fa, fd, params, body, scope, [], F, hm, S, h5, fun _ _ _ => by rw [e]; rfl, fun n hn hn2 => ⟨[], by rw [List.drop_nil]; exact .nil, F.bindsN fun kV doc pm an cdv ct us hl => bind_simple h1 nd hl⟩⟩, h2⟩
end MP

/-! MP26: from the run to the law. -/
namespace MP
open PySem PySem.Spec PyProof.Rows L2
/-- the i-th statement of a program, as a def's datum -/
def stAt (p : Program) (i : Nat) : Stmt := p.main.body.getD i (.Pass ⟨0, 0, 0, 0⟩)
def nmOf : Stmt → Str
  | .FunctionDef (name := n) .. => n
  | _ => ""
def datum (st : Stmt) : He.DefD := ⟨(nmOf st, none), nmOf st, nmOf st, defArgs st, defBody st, defScope st, [], []⟩
def facts0 (dl : List He.DefD) : List He.Fa := dl.map (fun d => He.Fa.glo d.name) ++ bltNames.map He.Fa.free
/-- the table and the text agree -/
def allB (P : Pm) (sl : List Stmt) : Bool := (List.range P.fns.length).all fun f => match P.fns[f]?, sl[f]? with
  | some fn, some st => !P.fnb f || (sq (nmOf st) fn.name && defB P fn (defArgs st) (defBody st) (defScope st))
  | _, _ => false
section
variable {P : Pm} {sl : List Stmt} {K : PySem.W.Frag} {h : Heap} {mg : Str → Option Value}
theorem allB_def (hb : allB P sl = true) (X : K.In h) (G : h.Ns mainGlobals mg) (c : He.SaysD (facts0 (sl.map datum)) (sl.map datum) K) {f : Nat} {fn : Fn} (hf : P.fnb f = true) (he : P.fns[f]? = some fn) :
    ∃ (params : Arguments) (body : List Stmt) (scope : Scope) (fd : FuncData), FunD K fn.name fn.name params body scope [] [] (He.ga K fn.name) fd ∧ mg fn.name = some (.ref (He.ga K fn.name)) ∧ defB P fn params body scope = true := by
  have hl : f < P.fns.length := (List.getElem?_eq_some_iff.mp he).1
  have q := List.all_eq_true.mp hb f (List.mem_range.mpr hl)
  rw [he] at q
  cases e : sl[f]? with
  | none => rw [e] at q; cases q
  | some st =>
    rw [e] at q
    simp only [hf, Bool.not_true, Bool.false_or, Bool.and_eq_true] at q
    have hn := sq_eq q.1
    have ed : (sl.map datum)[f]? = some (datum st) := by rw [List.getElem?_map, e]; rfl
    obtain ⟨fd, FD⟩ := c.def_ f ed
    have fact := c.fact f (f := .glo (nmOf st)) (by
      unfold facts0
      rw [List.getElem?_append_left (by rw [List.length_map, List.length_map]; exact (List.getElem?_eq_some_iff.mp e).1), List.getElem?_map, ed]
      rfl)
    have gm := He.glo_ok X G fact
    have F2 : FunD K fn.name fn.name (defArgs st) (defBody st) (defScope st) [] [] (He.ga K fn.name) fd := by rw [← hn]; exact FD
    rw [hn] at gm
    exact ⟨_, _, _, fd, F2, gm, q.2⟩
theorem allB_ok (hb : allB P sl = true) (X : K.In h) (G : h.Ns mainGlobals mg) (c : He.SaysD (facts0 (sl.map datum)) (sl.map datum) K) : (∀ f fn, P.fnb f = true → P.fns[f]? = some fn → DefOk P K mg fn) ∧ ∀ x ∈ bltNames, mg x = none := by
  refine ⟨fun f fn hf he => ?_, fun x hx => ?_⟩
  · obtain ⟨params, body, scope, fd, F, gm, q⟩ := allB_def hb X G c hf he
    exact defB_ok F gm q
  · obtain ⟨i, hi⟩ := List.getElem?_of_mem hx
    have fact := c.fact ((sl.map datum).length + i) (f := .free x) (by
      unfold facts0
      rw [List.getElem?_append_right (by simp only [List.length_map]; omega), List.getElem?_map]
      simp only [List.length_map]
      rw [show sl.length + i - sl.length = i by omega, hi]
      rfl)
    exact He.free_ok X G fact
end
theorem ok_none {K : PySem.W.Frag} {ca : Nat → Option Addr} {H : Hp} : Ok K ca (fun _ => False) [] [] H := ⟨rfl, List.nodup_nil, (fun a h => nomatch h), (fun a h => h.elim), (fun a h => h.elim), fun n m a h => by simp at h⟩
/-- the law's last part: over a head by facts, the run says True at every script -/
theorem walk_run {l : PySem.W.OpenLaw} {n k flaw : Nat} {q : Program} {loose : List Str} {XP : (Str → Option Value) → Heap → Prop} {d : DefRec} {P : Pm} {sl : List Stmt} {cls : Nat → Nat} {fnl : Fn} {x : Str}
    (hn : l.most = some n) (hn2 : n ≤ sizeLine) (hdf : d.params.defaults = []) (hr : Room (k + 1) callerA) (hb : allB P sl = true) (hlf : P.fnb flaw = true) (hl : P.fns[flaw]? = some fnl) (hx : fnl.N.take fnl.np = [x]) (hnp : fnl.np = 1) (hname : d.name = fnl.name) (hds : fnl.ds = [])
    (run_ok : ∀ ns : List Int, ns.length ≤ n → ∃ M, run P.fns cls (k + 1) flaw [.fz (ns.map D.int)] [] = some (.bl true, M)) :
    PySem.W.WalkO q loose XP (He.hookD 4 (facts0 (sl.map datum)) (sl.map datum)).says l.row.toRowW d [] (fun f vs => PySem.call f vs) := by
  refine L2.walk_ofE (l := l) (n := n) (k := k + 1) (x := x) (CX := CX0) hn hn2 hdf hr ?F (fun _ _ _ _ z => z)
  intro w mg fa h Y G hmg
  obtain ⟨K, KX, c⟩ := Y
  obtain ⟨params, body, scope, fd, F, gm, hdb⟩ := allB_def hb KX G c hlf hl
  rw [hname, gm] at hmg
  injection hmg with hmg
  injection hmg with hmg
  have hdb' := hdb
  unfold defB at hdb'
  simp only [Bool.and_eq_true, decide_eq_true_eq] at hdb'
  have sa := hdb'.1.1.1.1
  have S := C8.fnScope_by hdb'.1.2
  have nd : (fnl.N.take fnl.np).Nodup := S.nd.sublist (List.take_sublist _ _)
  refine ⟨K, fd, spF K (fun _ => none) (run P.fns cls (k + 1) flaw) fnl.np, KX, fun s u => ?_, fun H a ns hlen hO hS => ?_, fun base KB GB => ?_⟩
  · have b := F.bindsA (ps := fnl.N.take fnl.np) (fun kV doc pm an cdv ct us hl => bind_simple sa nd hl) s [u] (by rw [hx]; rfl)
    rw [hx] at b
    exact b
  · obtain ⟨M, hM⟩ := run_ok ns hlen
    have r0 : Rp K (Fb (fun _ => False) [] []) [] H (.fz (ns.map D.int)) (.ref a) := by
      refine ⟨a, ns.map V.int, rfl, ?_, by rw [List.length_map]; omega, RpL.ofInts ns⟩
      rcases hS with (hS | hS) | hS
      · rcases hO a with z | ⟨o, xs, z⟩
        · rw [hS] at z; cases z
        · rw [hS] at z; cases z
      · exact .inl ⟨hS, fun w => fb_nil w⟩
      · exact .inr (.inr hS)
    refine ⟨by rw [hnp]; rfl, fun _ => False, [], [], [.fz (ns.map D.int)], .bl true, M, ok_none, ⟨_, _, rfl, r0, rfl⟩, hM, fun ρ' v H' _ _ rv => rv⟩
  · obtain ⟨hD, hm⟩ := allB_ok hb KB GB c
    have f1 := fn_one (cls := cls) (prog := l.prog) (w := w) (base := base) (ca := fun _ => none) (n := k) (f := flaw) (fns_ok hD hm k) hm hl F S hdb'.2 hdb'.1.1.1.2
    rw [hx, hmg] at f1
    exact f1
end MP

/-! MP27: running by hand. -/
namespace MP
open PySem PySem.Spec PyProof.Rows L2
/-! ### operators on whole numbers -/
@[simp] theorem bop_add_int (i j : Int) : bop .add (.int i) (.int j) = some (.int (i + j)) := rfl
@[simp] theorem bop_sub_int (i j : Int) : bop .sub (.int i) (.int j) = some (.int (i - j)) := rfl
theorem bop_mul_int {i j : Int} (h : j.natAbs < 2 ^ 64) : bop .mul (.int i) (.int j) = some (.int (i * j)) := by
  simp only [bop]
  rw [if_pos (.inr h)]
theorem bop_mod_int {i j : Int} (h : 0 < j) : bop .mod (.int i) (.int j) = some (.int (i % j)) := by
  simp only [bop]
  rw [if_pos h]
theorem bop_fdiv_int {i j : Int} (h : 0 < j) (h2 : j < 1073741824) : bop .fdiv (.int i) (.int j) = some (.int (i / j)) := by
  simp only [bop]
  rw [if_pos ⟨h, by omega⟩]
theorem lessD_int (i j : Int) : lessD (.int i) (.int j) = decide (i < j) := by
  unfold lessD
  rw [pd, pd, W.dataLt_int]
theorem cmpOk_int (i j : Int) : cmpOk (.int i) (.int j) = true := by
  unfold cmpOk
  rw [pd, pd]
  simp [W.alike, isOrd, dp]
theorem flatOk_int (i j : Int) : flatOk (.int i) (.int j) = true := by
  unfold flatOk
  rw [cmpOk_int]; rfl
@[simp] theorem cop_lt_int (i j : Int) : cop .lt (.int i) (.int j) = some (decide (i < j)) := by
  simp only [cop]
  rw [if_pos (cmpOk_int i j), lessD_int]
@[simp] theorem cop_gt_int (i j : Int) : cop .gt (.int i) (.int j) = some (decide (j < i)) := by
  simp only [cop]
  rw [if_pos (flatOk_int i j), lessD_int]
@[simp] theorem cop_le_int (i j : Int) : cop .le (.int i) (.int j) = some (decide (i ≤ j)) := by
  simp only [cop]
  rw [if_pos (flatOk_int i j), lessD_int]
  congr 1
  by_cases h : i ≤ j
  · simp [h, Int.not_lt.mpr h]
  · simp [h, Int.not_le.mp h]
@[simp] theorem cop_ge_int (i j : Int) : cop .ge (.int i) (.int j) = some (decide (j ≤ i)) := by
  simp only [cop]
  rw [if_pos (flatOk_int i j), lessD_int]
  congr 1
  by_cases h : j ≤ i
  · simp [h, Int.not_lt.mpr h]
  · simp [h, Int.not_le.mp h]
@[simp] theorem cop_eq_int (i j : Int) : cop .eq (.int i) (.int j) = some (decide (i = j)) := by
  simp only [cop, eqD]
  rw [if_pos (by simp [dp]), pd, pd, PyData.eqv]
  rfl
@[simp] theorem cop_ne_int (i j : Int) : cop .ne (.int i) (.int j) = some (!decide (i = j)) := by
  simp only [cop, eqD]
  rw [if_pos (by simp [dp]), pd, pd, PyData.eqv]
  rfl
/-! ### lists -/
theorem atI_of {α : Type} {xs : List α} {i : Int} {x : α} (h0 : 0 ≤ i) (h : xs[i.toNat]? = some x) : L2.atI xs i = some x := by
  have := L2.atI_nat h
  rwa [Int.toNat_of_nonneg h0] at this
theorem ixN_of {n : Nat} {i : Int} (h0 : 0 ≤ i) (h : i < n) : ixN n i = some i.toNat := by
  unfold ixN
  rw [if_pos h0, if_pos h]
@[simp] theorem atI_c0 {α : Type} (x : α) (xs : List α) : L2.atI (x :: xs) 0 = some x := atI_of (by decide) rfl
@[simp] theorem atI_c1 {α : Type} (x y : α) (xs : List α) : L2.atI (x :: y :: xs) 1 = some y := atI_of (by decide) rfl
@[simp] theorem atI_c2 {α : Type} (x y z : α) (xs : List α) : L2.atI (x :: y :: z :: xs) 2 = some z := atI_of (by decide) rfl
@[simp] theorem atI_c3 {α : Type} (x y z u : α) (xs : List α) : L2.atI (x :: y :: z :: u :: xs) 3 = some u := atI_of (by decide) rfl
theorem ixN_c0 (n : Nat) : ixN (n + 1) 0 = some 0 := ixN_of (by decide) (by omega)
/-- what a run of statements comes to -/
theorem xnext {F : FT} {cls : Nat → Nat} {s : S} {r : SB} {env env1 : Env} {M M1 : Sto} (h : exec F cls s env M = some (.next, env1, M1)) : exb F cls (.cons s r) env M = exb F cls r env1 M1 := by
  rw [exb, h]
theorem xret {F : FT} {cls : Nat → Nat} {s : S} {r : SB} {env env1 : Env} {M M1 : Sto} {d : D} (h : exec F cls s env M = some (.ret d, env1, M1)) : exb F cls (.cons s r) env M = some (.ret d, env1, M1) := by
  rw [exb, h]
theorem xcont {F : FT} {cls : Nat → Nat} {s : S} {r : SB} {env env1 : Env} {M M1 : Sto} (h : exec F cls s env M = some (.cont, env1, M1)) : exb F cls (.cons s r) env M = some (.cont, env1, M1) := by
  rw [exb, h]
/-! ### one step at a time; what walks or calls stays as it is -/
section
variable {F : FT} {cls : Nat → Nat} {env : Env} {M : Sto}
theorem e_var (i : Nat) : ev F cls (.var i) env M = match env[i]? with
    | some (some d) => some (d, M)
    | _ => none := by rw [ev]; try rfl
theorem e_non : ev F cls .non env M = some (.non, M) := by rw [ev]
theorem e_bl (b : Bool) : ev F cls (.bl b) env M = some (.bl b, M) := by rw [ev]
theorem e_int (k : Int) : ev F cls (.int k) env M = some (.int k, M) := by rw [ev]
theorem e_str (x : PySem.Str) : ev F cls (.str x) env M = some (.str x, M) := by rw [ev]
theorem e_bin (mu : Bool) (o : BO) (a b : E) : ev F cls (.bin mu o a b) env M = (match ev F cls a env M with
    | none => none
    | some (x, M1) => match ev F cls b env M1 with
      | none => none
      | some (y, M2) => match bop o (rd M2 x) (rd M2 y) with
        | none => none
        | some d => mk mu d M2) := by rw [ev]; first | rfl | done
theorem e_neg (a : E) : ev F cls (.neg a) env M = (match ev F cls a env M with
    | some (.int i, M1) => some (.int (-i), M1)
    | _ => none) := by rw [ev]; first | rfl | done
theorem e_not (a : E) : ev F cls (.not a) env M = (match ev F cls a env M with
    | none => none
    | some (x, M1) => match truth M1 x with
      | none => none
      | some b => some (.bl (!b), M1)) := by rw [ev]; first | rfl | done
theorem e_and (a b : E) : ev F cls (.and a b) env M = (match ev F cls a env M with
    | none => none
    | some (x, M1) => match truth M1 x with
      | none => none
      | some true => ev F cls b env M1
      | some false => some (x, M1)) := by rw [ev]; first | rfl | done
theorem e_or (a b : E) : ev F cls (.or a b) env M = (match ev F cls a env M with
    | none => none
    | some (x, M1) => match truth M1 x with
      | none => none
      | some true => some (x, M1)
      | some false => ev F cls b env M1) := by rw [ev]; first | rfl | done
theorem e_cmp (o : CO) (a b : E) : ev F cls (.cmp o a b) env M = (match ev F cls a env M with
    | none => none
    | some (x, M1) => match ev F cls b env M1 with
      | none => none
      | some (y, M2) => match cop o (rd M2 x) (rd M2 y) with
        | none => none
        | some d => some (.bl d, M2)) := by rw [ev]; first | rfl | done
theorem e_chain (o p : CO) (a b c : E) : ev F cls (.chain o p a b c) env M = (match ev F cls a env M with
    | none => none
    | some (x, M1) => match ev F cls b env M1 with
      | none => none
      | some (y, M2) => match cop o (rd M2 x) (rd M2 y) with
        | none => none
        | some false => some (.bl false, M2)
        | some true => match ev F cls c env M2 with
          | none => none
          | some (z, M3) => match cop p (rd M3 y) (rd M3 z) with
            | none => none
            | some d => some (.bl d, M3)) := by rw [ev]; first | rfl | done
theorem e_isN (ng : Bool) (a : E) : ev F cls (.isN ng a) env M = (match ev F cls a env M with
    | none => none
    | some (.non, M1) => some (.bl (!ng), M1)
    | some (_, M1) => some (.bl ng, M1)) := by rw [ev]; first | rfl | done
theorem e_ife (c a b : E) : ev F cls (.ife c a b) env M = (match ev F cls c env M with
    | none => none
    | some (x, M1) => match truth M1 x with
      | none => none
      | some true => ev F cls a env M1
      | some false => ev F cls b env M1) := by rw [ev]; first | rfl | done
theorem e_tup (es : EL) : ev F cls (.tup es) env M = (match evL F cls es env M with
    | none => none
    | some (ds, M1) => if ds.length ≤ LINE then some (.tup ds, M1) else none) := by rw [ev]; first | rfl | done
theorem e_lst (mu : Bool) (es : EL) : ev F cls (.lst mu es) env M = (match evL F cls es env M with
    | none => none
    | some (ds, M1) => if ds.length ≤ LINE then mk mu (.list ds) M1 else none) := by rw [ev]; first | rfl | done
theorem e_dct (mu : Bool) (ks : List PySem.Str) (es : EL) : ev F cls (.dct mu ks es) env M = (match evL F cls es env M with
    | none => none
    | some (ds, M1) => if ks.length = ds.length ∧ ks.Nodup ∧ ks.length ≤ 15 then mk mu (.dict ((ks.map Sum.inr).zip ds)) M1 else none) := by rw [ev]; first | rfl | done
theorem e_idx (a i : E) : ev F cls (.idx a i) env M = (match ev F cls a env M with
    | none => none
    | some (x, M1) => match ev F cls i env M1 with
      | none => none
      | some (y, M2) => match getD_ (rd M2 x) y with
        | none => none
        | some d => some (d, M2)) := by rw [ev]; first | rfl | done
theorem e_slc (mu : Bool) (a lo hi : E) : ev F cls (.slc mu a lo hi) env M = (match ev F cls a env M with
    | none => none
    | some (x, M1) => match optI (isAbs lo) M1 (ev F cls lo env M1) with
      | none => none
      | some (l, M2) => match optI (isAbs hi) M2 (ev F cls hi env M2) with
        | none => none
        | some (h, M3) => match rd M3 x with
          | .list xs => mk mu (.list (cutD xs l h)) M3
          | .fz xs => mk mu (.list (cutD xs l h)) M3
          | .tup xs => some (.tup (cutD xs l h), M3)
          | _ => none) := by rw [ev]; first | rfl | done
theorem e_blt (mu : Bool) (b : Blt) (es : EL) : ev F cls (.blt mu b es) env M = (match evL F cls es env M with
    | none => none
    | some (ds, M1) => match blt1 b M1 (ds.map (rd M1)) with
      | none => none
      | some d => mk mu d M1) := by rw [ev]; first | rfl | done
theorem e_isi (a : E) (tys : List String) (many : Bool) : ev F cls (.isi a tys many) env M = (match ev F cls a env M with
    | none => none
    | some (x, M1) => match tyName M1 x with
      | none => none
      | some t => some (.bl (tys.any (isKind t)), M1)) := by rw [ev]; first | rfl | done
theorem e_fld (a : E) (f : PySem.Str) : ev F cls (.fld a f) env M = (match ev F cls a env M with
    | some (.loc n, M1) => match M1[n]? with
      | some (.ins _ fs) => match fs.lookup f with
        | none => none
        | some d => some (d, M1)
      | _ => none
    | _ => none) := by rw [ev]; first | rfl | done
theorem e_app (a e : E) : ev F cls (.app a e) env M = (match ev F cls a env M with
    | some (.loc n, M1) => match M1[n]? with
      | some (.list _) => match ev F cls e env M1 with
        | none => none
        | some (y, M2) => match M2[n]? with
          | some (.list xs) => if xs.length < LINE then some (.non, M2.set n (.list (xs ++ [y]))) else none
          | _ => none
      | _ => none
    | _ => none) := by rw [ev]; first | rfl | done
theorem e_ext (a e : E) : ev F cls (.ext a e) env M = (match ev F cls a env M with
    | some (.loc n, M1) => match M1[n]? with
      | some (.list _) => match ev F cls e env M1 with
        | some (y, M2) => match M2[n]?, rd M2 y with
          | some (.list xs), .list ys => if xs.length + ys.length ≤ LINE then some (.non, M2.set n (.list (xs ++ ys))) else none
          | _, _ => none
        | none => none
      | _ => none
    | _ => none) := by rw [ev]; first | rfl | done
theorem e_idxof (a e : E) : ev F cls (.idxof a e) env M = (match ev F cls a env M with
    | none => none
    | some (x, M1) => match ev F cls e env M1 with
      | none => none
      | some (y, M2) => match rd M2 x with
        | .list xs => if dp y ≤ 60 ∧ dpL xs ≤ 60 then (match xs.findIdx? fun z => PyData.eqv (pd z) (pd y) with
          | none => none
          | some j => some (.int j, M2)) else none
        | _ => none) := by rw [ev]; first | rfl | done
theorem e_dget (a k d : E) : ev F cls (.dget a k d) env M = (match ev F cls a env M with
    | none => none
    | some (x, M1) => match ev F cls k env M1 with
      | none => none
      | some (y, M2) => match ev F cls d env M2 with
        | none => none
        | some (z, M3) => match rd M3 x, keyOf y with
          | .dict kvs, some q => some ((kvAt q kvs).getD z, M3)
          | _, _ => none) := by rw [ev]; first | rfl | done
theorem e_nil : evL F cls .nil env M = some ([], M) := by rw [evL]
theorem e_cons (e : E) (es : EL) : evL F cls (.cons e es) env M = (match ev F cls e env M with
    | none => none
    | some (d, M1) => match evL F cls es env M1 with
      | none => none
      | some (ds, M2) => some (d :: ds, M2)) := by rw [evL]; try rfl
theorem x_setv (i : Nat) (e : E) : exec F cls (.setv i e) env M = (match ev F cls e env M with
    | none => none
    | some (d, M1) => some (.next, env.set i (some d), M1)) := by rw [exec]; first | rfl | done
theorem x_sett (is : List Nat) (e : E) : exec F cls (.sett is e) env M = (match ev F cls e env M with
    | none => none
    | some (d, M1) => match asg (.tp is) d env with
      | none => none
      | some env1 => some (.next, env1, M1)) := by rw [exec]; first | rfl | done
theorem x_setp (i j : Nat) (a b : E) : exec F cls (.setp i j a b) env M = (match ev F cls a env M with
    | none => none
    | some (x, M1) => match ev F cls b env M1 with
      | none => none
      | some (y, M2) => some (.next, (env.set i (some x)).set j (some y), M2)) := by rw [exec]; first | rfl | done
theorem x_seti (a i e : E) : exec F cls (.seti a i e) env M = (match ev F cls e env M with
    | none => none
    | some (z, M1) => match ev F cls a env M1 with
      | none => none
      | some (x, M2) => match ev F cls i env M2 with
        | none => none
        | some (y, M3) => match setI M3 x y z with
          | none => none
          | some M4 => some (.next, env, M4)) := by rw [exec]; first | rfl | done
theorem x_seti2 (a i b j e g : E) : exec F cls (.seti2 a i b j e g) env M = (match ev F cls e env M with
    | none => none
    | some (z, M1) => match ev F cls g env M1 with
      | none => none
      | some (w, M2) => match ev F cls a env M2 with
        | none => none
        | some (x, M3) => match ev F cls i env M3 with
          | none => none
          | some (y, M4) => match setI M4 x y z with
            | none => none
            | some M5 => match ev F cls b env M5 with
              | none => none
              | some (x2, M6) => match ev F cls j env M6 with
                | none => none
                | some (y2, M7) => match setI M7 x2 y2 w with
                  | none => none
                  | some M8 => some (.next, env, M8)) := by rw [exec]; first | rfl | done
theorem x_augi (a i : E) (o : BO) (e : E) : exec F cls (.augi a i o e) env M = (match ev F cls a env M with
    | none => none
    | some (x, M1) => match ev F cls i env M1 with
      | none => none
      | some (y, M2) => match getL_ (rd M2 x) y with
        | none => none
        | some old => match ev F cls e env M2 with
          | none => none
          | some (v, M3) => match augOp o old v with
            | none => none
            | some z => match setI M3 x y z with
              | none => none
              | some M4 => some (.next, env, M4)) := by rw [exec]; first | rfl | done
theorem x_setf (a : E) (f : PySem.Str) (e : E) : exec F cls (.setf a f e) env M = (match ev F cls e env M with
    | none => none
    | some (z, M1) => match ev F cls a env M1 with
      | some (.loc n, M2) => match M2[n]? with
        | some (.ins c fs) => if fs.length < 900 then some (.next, env, M2.set n (.ins c (putS f z fs))) else none
        | _ => none
      | _ => none) := by rw [exec]; first | rfl | done
theorem x_exp (e : E) : exec F cls (.exp e) env M = (match ev F cls e env M with
    | none => none
    | some (_, M1) => some (.next, env, M1)) := by rw [exec]; first | rfl | done
theorem x_ret (e : E) : exec F cls (.ret e) env M = (match ev F cls e env M with
    | none => none
    | some (d, M1) => some (.ret d, env, M1)) := by rw [exec]; first | rfl | done
theorem x_ife (c : E) (p q : SB) : exec F cls (.ife c p q) env M = (match tst (ev F cls c env M) with
    | none => none
    | some (true, M1) => exb F cls p env M1
    | some (false, M1) => exb F cls q env M1) := by rw [exec]; first | rfl | done
theorem x_frz (i : Nat) : exec F cls (.frz i) env M = (match env[i]? with
    | some (some (.loc n)) => match M[n]? with
      | some (.list xs) => some (.next, env.set i (some (.list xs)), M.set n .dead)
      | some (.dK kvs) => some (.next, env.set i (some (.dict kvs)), M.set n .dead)
      | _ => none
    | _ => none) := by rw [exec]; first | rfl | done
theorem x_retN : exec F cls .retN env M = some (.ret .non, env, M) := by rw [exec]
theorem x_pass : exec F cls .pass env M = some (.next, env, M) := by rw [exec]
theorem x_cont : exec F cls .cont env M = some (.cont, env, M) := by rw [exec]
theorem x_nil : exb F cls .nil env M = some (.next, env, M) := by rw [exb]
theorem x_cons (s : S) (r : SB) : exb F cls (.cons s r) env M = (match exec F cls s env M with
    | none => none
    | some (.next, env1, M1) => exb F cls r env1 M1
    | some (.cont, env1, M1) => some (.cont, env1, M1)
    | some (.ret d, env1, M1) => some (.ret d, env1, M1)) := by rw [exb]; try rfl
end
theorem getD_list (xs : List D) (k : Int) : getD_ (.list xs) (.int k) = L2.atI xs k := rfl
theorem getD_tup (xs : List D) (k : Int) : getD_ (.tup xs) (.int k) = L2.atI xs k := rfl
theorem rd_int (M : Sto) (i : Int) : rd M (.int i) = .int i := rfl
theorem rd_bl (M : Sto) (i : Bool) : rd M (.bl i) = .bl i := rfl
theorem rd_non (M : Sto) : rd M .non = .non := rfl
theorem rd_str (M : Sto) (i : PySem.Str) : rd M (.str i) = .str i := rfl
theorem rd_list (M : Sto) (i : List D) : rd M (.list i) = .list i := rfl
theorem rd_tup (M : Sto) (i : List D) : rd M (.tup i) = .tup i := rfl
theorem rd_fz (M : Sto) (i : List D) : rd M (.fz i) = .fz i := rfl
theorem rd_dict (M : Sto) (i : List (L2.Key × D)) : rd M (.dict i) = .dict i := rfl
theorem rd_loc {M : Sto} {n : Nat} {xs : List D} (h : M[n]? = some (.list xs)) : rd M (.loc n) = .list xs := by
  simp only [rd, h]
theorem bop_add_list {xs ys : List D} (h : xs.length + ys.length ≤ LINE) : bop .add (.list xs) (.list ys) = some (.list (xs ++ ys)) := by
  simp only [bop]
  rw [if_pos h]
theorem bop_add_tup {xs ys : List D} (h : xs.length + ys.length ≤ LINE) : bop .add (.tup xs) (.tup ys) = some (.tup (xs ++ ys)) := by
  simp only [bop]
  rw [if_pos h]
theorem len_list (xs : List D) (M : Sto) : blt1 .len M [.list xs] = some (.int xs.length) := rfl
theorem len_tup (xs : List D) (M : Sto) : blt1 .len M [.tup xs] = some (.int xs.length) := rfl
theorem abs_int (i : Int) (M : Sto) : blt1 .abs M [.int i] = some (.int (if i < 0 then -i else i)) := rfl
theorem min2_int (i j : Int) (M : Sto) : blt1 .min2 M [.int i, .int j] = some (.int (if j < i then j else i)) := rfl
theorem max2_int (i j : Int) (M : Sto) : blt1 .max2 M [.int i, .int j] = some (.int (if j > i then j else i)) := rfl
theorem int_int (i : Int) (M : Sto) : blt1 .int M [.int i] = some (.int i) := rfl
theorem list_list (i : List D) (M : Sto) : blt1 .list M [.list i] = some (.list i) := rfl
theorem list_tup (i : List D) (M : Sto) : blt1 .list M [.tup i] = some (.list i) := rfl
theorem mk_f (d : D) (M : Sto) : mk false d M = some (d, M) := rfl
theorem mk_t (d : List D) (M : Sto) : mk true (.list d) M = some (.loc M.length, M ++ [.list d]) := rfl
theorem truth_bl' (M : Sto) (b : Bool) : truth M (.bl b) = some b := rfl
theorem truth_int' (M : Sto) (b : Int) : truth M (.int b) = some (b != 0) := rfl
theorem truth_list' (M : Sto) (b : List D) : truth M (.list b) = some (!b.isEmpty) := rfl
theorem line0 : (0 ≤ LINE) = True := by simp [LINE]
theorem line1 : (1 ≤ LINE) = True := by simp [LINE]
theorem line2 : (2 ≤ LINE) = True := by simp [LINE]
theorem line3 : (3 ≤ LINE) = True := by simp [LINE]
theorem line4 : (4 ≤ LINE) = True := by simp [LINE]
theorem line5 : (5 ≤ LINE) = True := by simp [LINE]
theorem line6 : (6 ≤ LINE) = True := by simp [LINE]
theorem line7 : (7 ≤ LINE) = True := by simp [LINE]
theorem line8 : (8 ≤ LINE) = True := by simp [LINE]
theorem src_list (xs : List D) (M : Sto) (y : D) : srcOf .seq M (.list xs) y = some (.pure xs) := rfl
theorem src_tup (xs : List D) (M : Sto) (y : D) : srcOf .seq M (.tup xs) y = some (.pure xs) := rfl
theorem src_enum (xs : List D) (M : Sto) (y : D) : srcOf .enum M (.list xs) y = some (.pure (xs.mapIdx fun i x => D.tup [.int i, x])) := rfl
theorem src_loc {n : Nat} {xs : List D} {M : Sto} (h : M[n]? = some (.list xs)) (y : D) : srcOf .seq M (.loc n) y = some (.loc n xs.length) := by
  simp only [srcOf, h]
theorem src_rng1 {n : Nat} (h : n < 2 ^ 62) (M : Sto) (y : D) : srcOf .rng1 M (.int (n : Int)) y = some (.pure ((List.range n).map fun (i : Nat) => D.int i)) := by
  simp only [srcOf]
  rw [if_pos (by omega), Int.toNat_natCast]
theorem tst_some (d : D) (M : Sto) : tst (some (d, M)) = match truth M d with
    | none => none
    | some b => some (b, M) := rfl
/-! ### comprehensions, loops -/
theorem compR_map {f : D → Sto → Option (Option D × Sto)} {g : D → D} {M : Sto} : ∀ {xs : List D}, (∀ x ∈ xs, f x M = some (some (g x), M)) → compR f xs M = some (xs.map g, M)
  | [], _ => rfl
  | x :: xs, h => by
    rw [compR, h x List.mem_cons_self]
    simp only
    rw [compR_map fun y hy => h y (List.mem_cons_of_mem _ hy)]
    rfl
theorem compR_fm {f : D → Sto → Option (Option D × Sto)} {g : D → Option D} {M : Sto} : ∀ {xs : List D}, (∀ x ∈ xs, f x M = some (g x, M)) → compR f xs M = some (xs.filterMap g, M)
  | [], _ => rfl
  | x :: xs, h => by
    rw [compR, h x List.mem_cons_self]
    simp only
    rw [compR_fm fun y hy => h y (List.mem_cons_of_mem _ hy), List.filterMap_cons]
    cases g x <;> rfl
end MP

/-! MP28: tuples of whole numbers; sorting; finding. -/
namespace MP
open PySem PySem.Spec PyProof.Rows L2
theorem pdL_ints (k : List Int) : pdL (k.map D.int) = k.map PyData.int := by
  rw [pdL_map, List.map_map]
  exact List.map_congr_left fun x _ => by rw [Function.comp, pd]
theorem pd_k (k : List Int) : pd (kD k) = .tuple (k.map PyData.int) := by
  unfold kD
  rw [pd, pdL_ints]
theorem dpL_le {n : Nat} : ∀ {ds : List D}, (∀ d ∈ ds, dp d ≤ n) → dpL ds ≤ n
  | [], _ => by rw [dpL]; omega
  | d :: ds, h => by
    have h1 := h d List.mem_cons_self
    have h2 := dpL_le fun x hx => h x (List.mem_cons_of_mem d hx)
    rw [dpL]
    omega
theorem dp_int (i : Int) : dp (.int i) = 0 := by rw [dp]
theorem dp_k (k : List Int) : dp (kD k) ≤ 1 := by
  unfold kD
  rw [dp]
  have := dpL_le (n := 0) (ds := k.map D.int) fun d hd => by
    obtain ⟨x, _, rfl⟩ := List.mem_map.mp hd
    rw [dp]
    omega
  omega
theorem eqvAll_ints : ∀ a b : List Int, PyData.eqvAll (a.map .int) (b.map .int) = decide (a = b)
  | [], [] => by simp [PyData.eqvAll]
  | [], _ :: _ => by simp [PyData.eqvAll]
  | _ :: _, [] => by simp [PyData.eqvAll]
  | x :: a, y :: b => by
    rw [List.map_cons, List.map_cons, PyData.eqvAll, eqvAll_ints a b, PyData.eqv]
    simp [Bool.decide_and]
    rfl
theorem eqv_k (a b : List Int) : PyData.eqv (pd (kD a)) (pd (kD b)) = decide (a = b) := by
  rw [pd_k, pd_k, PyData.eqv, eqvAll_ints]
theorem alikeAll_ints : ∀ a b : List Int, W.alikeAll (a.map .int) (b.map .int) = true
  | [], _ => by simp [W.alikeAll]
  | _ :: _, [] => by simp [W.alikeAll]
  | x :: a, y :: b => by
    rw [List.map_cons, List.map_cons, W.alikeAll, alikeAll_ints a b]
    simp [W.alike]
theorem alike_k (a b : List Int) : W.alike (pd (kD a)) (pd (kD b)) = true := by
  rw [pd_k, pd_k, W.alike, alikeAll_ints]
theorem lexLe_lt : ∀ a b : List Int, (!decide (b < a)) = lexLe a b
  | [], b => by simp [lexLe]
  | x :: a, [] => by
    have : ([] : List Int) < x :: a := List.nil_lt_cons x a
    simp [lexLe, this]
  | x :: a, y :: b => by
    have ih := lexLe_lt a b
    rw [lexLe, ← ih]
    by_cases h : x < y
    · have h2 : ¬ (y :: b < x :: a) := fun z => by
        rcases List.cons_lt_cons_iff.mp z with z | z <;> omega
      simp [h, h2]
    · by_cases h3 : x = y
      · subst h3
        simp [List.cons_lt_cons_iff]
      · have h2 : y :: b < x :: a := List.cons_lt_cons_iff.mpr (.inl (by omega))
        simp [h, h3, h2]
theorem lessD_k (a b : List Int) : lessD (kD a) (kD b) = !lexLe b a := by
  unfold lessD
  rw [pd_k, pd_k, W.dataLt_tuple]
  have e := W.dataLt_ints a b
  unfold W.rowLt at e
  rw [e, ← lexLe_lt, Bool.not_not]
theorem flat_k (k : List Int) : flat1 (kD k) = true := by
  unfold kD flat1
  refine List.all_eq_true.mpr fun d hd => ?_
  obtain ⟨x, _, rfl⟩ := List.mem_map.mp hd
  rfl
theorem cmpOk_k (a b : List Int) : cmpOk (kD a) (kD b) = true := by
  unfold cmpOk
  have h1 := dp_k a
  have h2 := dp_k b
  rw [alike_k, Bool.true_and, show isOrd (kD a) = true from rfl, Bool.true_and, decide_eq_true_eq]
  omega
theorem flatOk_k (a b : List Int) : flatOk (kD a) (kD b) = true := by
  unfold flatOk
  rw [cmpOk_k, flat_k, flat_k]; rfl
theorem cop_eq_k (a b : List Int) : cop .eq (kD a) (kD b) = some (decide (a = b)) := by
  simp only [cop, eqD]
  have h1 := dp_k a
  have h2 := dp_k b
  rw [if_pos (by omega), eqv_k]
theorem cop_ne_k (a b : List Int) : cop .ne (kD a) (kD b) = some (!decide (a = b)) := by
  simp only [cop, eqD]
  have h1 := dp_k a
  have h2 := dp_k b
  rw [if_pos (by omega), eqv_k]
  rfl
theorem cop_ge_k (a b : List Int) : cop .ge (kD a) (kD b) = some (lexLe b a) := by
  simp only [cop]
  rw [if_pos (flatOk_k a b), lessD_k, Bool.not_not]
theorem cop_le_k (a b : List Int) : cop .le (kD a) (kD b) = some (lexLe a b) := by
  simp only [cop]
  rw [if_pos (flatOk_k a b), lessD_k, Bool.not_not]
theorem cop_lt_k (a b : List Int) : cop .lt (kD a) (kD b) = some (!lexLe b a) := by
  simp only [cop]
  rw [if_pos (cmpOk_k a b), lessD_k]
/-! ### what is the same -/
theorem eqD_same {d : D} (h : dp d ≤ 60) (ha : W.alike (pd d) (pd d) = true) : eqD d d = some true := by
  unfold eqD
  rw [if_pos ⟨h, h⟩, W.eqv_refl_alike _ ha]
theorem alike_list {xs : List D} (h : ∀ x ∈ xs, W.alike (pd x) (pd x) = true) : W.alikeAll (pdL xs) (pdL xs) = true := by
  induction xs with
  | nil => rw [pdL, W.alikeAll]
  | cons x xs ih =>
    rw [pdL, W.alikeAll, h x List.mem_cons_self, ih fun y hy => h y (List.mem_cons_of_mem _ hy)]
    rfl
/-! ### sorted -/
theorem sortOk_k {ks : List (List Int)} (h : ∀ k ∈ ks, k ≠ []) : sortOk (ks.map kD) = true := by
  unfold sortOk
  have h1 := dpL_le (n := 1) (ds := ks.map kD) fun d hd => by
    obtain ⟨k, _, rfl⟩ := List.mem_map.mp hd
    exact dp_k k
  rw [Bool.and_eq_true, Bool.and_eq_true, Bool.or_eq_true, decide_eq_true_eq]
  refine ⟨⟨List.all_eq_true.mpr fun a ha => List.all_eq_true.mpr fun b hb => ?_, .inl (List.all_eq_true.mpr fun a ha => ?_)⟩, by omega⟩
  · obtain ⟨k, _, rfl⟩ := List.mem_map.mp ha
    obtain ⟨k', _, rfl⟩ := List.mem_map.mp hb
    exact alike_k k k'
  · obtain ⟨k, hk, rfl⟩ := List.mem_map.mp ha
    cases k with
    | nil => exact absurd rfl (h [] hk)
    | cons x k => rfl
theorem sortD_k (ks : List (List Int)) : sortD (ks.map kD) = (sortK ks).map kD := by
  unfold sortD sortK
  refine (List.map_mergeSort fun a _ b _ => ?_).symm
  have e := lessD_k b a
  unfold lessD at e
  rw [e, Bool.not_not]
theorem sorted_k {ks : List (List Int)} {M : Sto} (h : ∀ k ∈ ks, k ≠ []) : blt1 .sorted M [.list (ks.map kD)] = some (.list ((sortK ks).map kD)) := by
  simp only [blt1]
  rw [if_pos (sortOk_k h), sortD_k]
theorem sortOk_int (ns : List Int) : sortOk (ns.map D.int) = true := by
  unfold sortOk
  have h1 := dpL_le (n := 0) (ds := ns.map D.int) fun d hd => by
    obtain ⟨k, _, rfl⟩ := List.mem_map.mp hd
    rw [dp]
    omega
  rw [Bool.and_eq_true, Bool.and_eq_true, Bool.or_eq_true, decide_eq_true_eq]
  refine ⟨⟨List.all_eq_true.mpr fun a ha => List.all_eq_true.mpr fun b hb => ?_, .inr (List.all_eq_true.mpr fun a ha => ?_)⟩, by omega⟩
  · obtain ⟨k, _, rfl⟩ := List.mem_map.mp ha
    obtain ⟨k', _, rfl⟩ := List.mem_map.mp hb
    rw [pd, pd, W.alike]
  · obtain ⟨k, hk, rfl⟩ := List.mem_map.mp ha
    rfl
theorem sortD_int (ns : List Int) : sortD (ns.map D.int) = (sortI ns).map D.int := by
  unfold sortD sortI
  refine (List.map_mergeSort fun a _ b _ => ?_).symm
  have e := lessD_int b a
  unfold lessD at e
  rw [e]
  by_cases h : a ≤ b
  · simp [h, Int.not_lt.mpr h]
  · simp [h, Int.not_le.mp h]
theorem mem_sortK {x : List Int} {l : List (List Int)} : x ∈ sortK l ↔ x ∈ l := (sortK_perm l).mem_iff
theorem mem_sortI {x : Int} {l : List Int} : x ∈ sortI l ↔ x ∈ l := (sortI_perm l).mem_iff
theorem length_sortK (l : List (List Int)) : (sortK l).length = l.length := List.length_mergeSort l
/-! ### the least that is so -/
theorem find_sorted {α : Type} {le : α → α → Prop} (as : ∀ a b, le a b → le b a → a = b) {q : α → Bool} : ∀ {l1 l2 : List α}, l1.Pairwise le → l2.Pairwise le → (∀ x, x ∈ l1 ↔ x ∈ l2) → l1.find? q = l2.find? q := by
  have least : ∀ {l : List α} {x : α}, l.Pairwise le → l.find? q = some x → x ∈ l ∧ q x = true ∧ ∀ y ∈ l, q y = true → y = x ∨ le x y := by
    intro l
    induction l with
    | nil => intro x _ h; cases h
    | cons a l ih =>
      intro x hp h
      rw [List.pairwise_cons] at hp
      rw [List.find?_cons] at h
      cases e : q a with
      | true =>
        rw [e] at h
        cases h
        exact ⟨List.mem_cons_self, e, fun y hy _ => (List.mem_cons.mp hy).imp id (hp.1 y)⟩
      | false =>
        rw [e] at h
        obtain ⟨h1, h2, h3⟩ := ih hp.2 h
        refine ⟨List.mem_cons_of_mem _ h1, h2, fun y hy hq => ?_⟩
        rcases List.mem_cons.mp hy with z | z
        · subst z; rw [e] at hq; cases hq
        · exact h3 y z hq
  intro l1 l2 p1 p2 hm
  cases e1 : l1.find? q with
  | none =>
    cases e2 : l2.find? q with
    | none => rfl
    | some y =>
      obtain ⟨h1, h2, _⟩ := least p2 e2
      have := List.find?_eq_none.mp e1 y ((hm y).mpr h1)
      exact absurd h2 this
  | some x =>
    obtain ⟨h1, h2, h3⟩ := least p1 e1
    cases e2 : l2.find? q with
    | none =>
      have := List.find?_eq_none.mp e2 x ((hm x).mp h1)
      exact absurd h2 this
    | some y =>
      obtain ⟨k1, k2, k3⟩ := least p2 e2
      rcases h3 y ((hm y).mpr k1) k2 with z | z
      · rw [z]
      · rcases k3 x ((hm x).mp h1) h2 with w | w
        · rw [w]
        · rw [as x y z w]
/-! ### comprehensions over what is read -/
theorem compR_mapT {α : Type} {f : D → Sto → Option (Option D × Sto)} {e g : α → D} {M : Sto} : ∀ {l : List α}, (∀ a ∈ l, f (e a) M = some (some (g a), M)) → compR f (l.map e) M = some (l.map g, M)
  | [], _ => rfl
  | x :: xs, h => by
    rw [List.map_cons, compR, h x List.mem_cons_self]
    simp only
    rw [compR_mapT fun y hy => h y (List.mem_cons_of_mem _ hy)]
    rfl
theorem compR_fmT {α : Type} {f : D → Sto → Option (Option D × Sto)} {e : α → D} {g : α → Option D} {M : Sto} : ∀ {l : List α}, (∀ a ∈ l, f (e a) M = some (g a, M)) → compR f (l.map e) M = some (l.filterMap g, M)
  | [], _ => rfl
  | x :: xs, h => by
    rw [List.map_cons, compR, h x List.mem_cons_self]
    simp only
    rw [compR_fmT fun y hy => h y (List.mem_cons_of_mem _ hy), List.filterMap_cons]
    cases g x <;> rfl
/-- a filter -/
theorem compR_flT {α : Type} {f : D → Sto → Option (Option D × Sto)} {e g : α → D} {q : α → Bool} {M : Sto} {l : List α} (h : ∀ a ∈ l, f (e a) M = some (if q a = true then some (g a) else none, M)) : compR f (l.map e) M = some ((l.filter q).map g, M) := by
  rw [compR_fmT (g := fun a => if q a = true then some (g a) else none) h]
  congr 2
  induction l with
  | nil => rfl
  | cons x l ih =>
    rw [List.filterMap_cons, List.filter_cons]
    cases hq : q x with
    | true => simp only [if_true, List.map_cons]; rw [ih fun y hy => h y (List.mem_cons_of_mem _ hy)]
    | false => simp only [Bool.false_eq_true, if_false]; exact ih fun y hy => h y (List.mem_cons_of_mem _ hy)
@[simp] theorem cutD_2 (x y : D) (r : List D) : cutD (x :: y :: r) none (some 2) = [x, y] := by
  unfold cutD
  simp [HT.sIx]
@[simp] theorem cutD_3 (x y z : D) (r : List D) : cutD (x :: y :: z :: r) none (some 3) = [x, y, z] := by
  unfold cutD
  simp [HT.sIx]
theorem cutD_to (xs : List D) {j : Int} (h : 0 ≤ j) : cutD xs none (some j) = xs.take j.toNat := by
  unfold cutD HT.sIx
  simp only [if_neg (Int.not_lt.mpr h), List.drop_zero, Nat.sub_zero]
  rcases Nat.le_total j.toNat xs.length with z | z
  · rw [Nat.min_eq_left z]
  · rw [Nat.min_eq_right z, List.take_length, List.take_of_length_le z]
theorem cutD_from (xs : List D) {j : Int} (h : 0 ≤ j) : cutD xs (some j) none = xs.drop j.toNat := by
  unfold cutD HT.sIx
  simp only [if_neg (Int.not_lt.mpr h)]
  rcases Nat.le_total j.toNat xs.length with z | z
  · rw [Nat.min_eq_left z, List.take_of_length_le (by rw [List.length_drop]; omega)]
  · rw [Nat.min_eq_right z, List.drop_length, List.drop_of_length_le z, List.take_nil]
theorem intsOf_map : ∀ ns : List Int, intsOf (ns.map D.int) = some ns
  | [] => rfl
  | n :: ns => by rw [List.map_cons, intsOf, intsOf_map ns]; rfl
theorem sum_map (ns : List Int) (M : Sto) : blt1 .sum M [.list (ns.map D.int)] = some (.int ns.sum) := by
  simp only [blt1]
  rw [intsOf_map]; rfl
theorem keysOf_map : ∀ ks : List (List Int), keysOf (ks.map kD) = some ks
  | [] => rfl
  | k :: ks => by
    rw [List.map_cons]
    unfold kD
    rw [keysOf, intsOf_map]
    simp only
    rw [show (fun k : List Int => D.tup (k.map D.int)) = kD from rfl, keysOf_map ks]
    rfl
theorem srtset_k {ks : List (List Int)} {M : Sto} (hne : ks ≠ []) (hf : (dd ks).length < 60) (ho : keysOk ks = true) : blt1 .srtset M [.list (ks.map kD)] = some (.list ((sortK (dd ks)).map kD)) := by
  simp only [blt1]
  have e : intsOf (ks.map kD) = none := by
    cases ks with
    | nil => exact absurd rfl hne
    | cons k ks => rfl
  rw [e, keysOf_map]
  simp only
  rw [if_pos ⟨hf, ho⟩]
theorem srtset_nil (M : Sto) : blt1 .srtset M [.list []] = some (.list []) := by
  show (if (dd ([] : List Int)).length < 60 ∧ ([] : List D).length ≤ 4000 then some (D.list ((sortI (dd [])).map D.int)) else none) = _
  rw [if_pos ⟨by decide, by decide⟩]
  simp [sortI, dd]
theorem srtset_int {ns : List Int} {M : Sto} (hf : (dd ns).length < 60) (hm : ns.length ≤ 4000) : blt1 .srtset M [.list (ns.map D.int)] = some (.list ((sortI (dd ns)).map D.int)) := by
  simp only [blt1]
  rw [intsOf_map]
  simp only
  rw [if_pos ⟨hf, by rw [List.length_map]; exact hm⟩]
/-- a walk that ends at the first that is so; the slots it uses may change, all else stays: P says what stays -/
theorem forP_find {α : Type} {f : D → Env → Sto → SR} {e : α → D} {q : α → Bool} {res : α → D} {M : Sto} {P : Env → Prop} : ∀ {l : List α}, (∀ p ∈ l, ∀ env, P env → ∃ env', f (e p) env M = some (if q p = true then .ret (res p) else .next, env', M) ∧ P env') →
    ∀ env, P env → ∃ env', forP f (l.map e) env M = some (match l.find? q with
      | some p => .ret (res p)
      | none => .next, env', M) ∧ P env'
  | [], _, env, h1 => ⟨env, rfl, h1⟩
  | p :: ps, h, env, h1 => by
    obtain ⟨env2, e2, k1⟩ := h p List.mem_cons_self env h1
    rw [List.find?_cons, List.map_cons, forP, e2]
    cases hq : q p with
    | true => exact ⟨env2, by simp, k1⟩
    | false =>
      simp only [Bool.false_eq_true, if_false]
      exact forP_find (fun p hp => h p (List.mem_cons_of_mem _ hp)) env2 k1
theorem x_for {F : FT} {cls : Nat → Nat} (t : T) (k : IK) (A B : E) (body : SB) (env : Env) (M : Sto) : exec F cls (.for_ t k A B body) env M = (match ev F cls A env M with
    | none => none
    | some (x, M0) => match optD (isAbs B) M0 (ev F cls B env M0) with
      | none => none
      | some (y, M1) => match srcOf k M1 x y with
        | some (.pure xs) => forP (turnB F cls t body) xs env M1
        | some (.loc n k) => forL (turnB F cls t body) n k 0 env M1
        | none => none) := by
  rw [exec]
  rfl
theorem e_comp {F : FT} {cls : Nat → Nat} (mu : Bool) (own : List Nat) (t : T) (A C E0 : E) (env : Env) (M : Sto) : ev F cls (.comp mu own t .seq A .absent C E0) env M = (match ev F cls A env M with
    | none => none
    | some (x, M1) => match srcOf .seq M1 x .non with
      | some (.pure xs) => if xs.length ≤ LINE then (match compR (turnF F cls own t C E0 env) xs M1 with
        | none => none
        | some (ys, M2) => mk mu (.list ys) M2) else none
      | _ => none) := by
  rw [ev]
  rfl
theorem forP_fold {α β : Type} {f : D → Env → Sto → SR} {e : α → D} {J : Nat → β → Env → Sto → Prop} {step : β → α → β} {l : List α} (h : ∀ i a, l[i]? = some a → ∀ b env M, J i b env M → ∃ o env' M', f (e a) env M = some (o, env', M') ∧ (o = .next ∨ o = .cont) ∧ J (i + 1) (step b a) env' M')
    (b : β) (env : Env) (M : Sto) (j0 : J 0 b env M) : ∃ env' M', forP f (l.map e) env M = some (.next, env', M') ∧ J l.length (l.foldl step b) env' M' := by
  have go : ∀ (k i : Nat) (b : β) (env : Env) (M : Sto), i + k = l.length → J i b env M → ∃ env' M', forP f ((l.drop i).map e) env M = some (.next, env', M') ∧ J l.length ((l.drop i).foldl step b) env' M' := by
    intro k
    induction k with
    | zero =>
      intro i b env M hi j
      have e1 : l.drop i = [] := List.drop_eq_nil_of_le (by omega)
      rw [e1]
      have e2 : i = l.length := by omega
      exact ⟨env, M, rfl, e2 ▸ j⟩
    | succ k ih =>
      intro i b env M hi j
      have hlt : i < l.length := by omega
      obtain ⟨o, env1, M1, e1, ho, j1⟩ := h i l[i] (List.getElem?_eq_getElem hlt) b env M j
      obtain ⟨env2, M2, e2, j2⟩ := ih (i + 1) _ _ _ (by omega) j1
      rw [List.drop_eq_getElem_cons hlt]
      refine ⟨env2, M2, ?_, j2⟩
      rw [List.map_cons, forP, e1]
      rcases ho with rfl | rfl <;> exact e2
  have := go l.length 0 b env M (by omega) j0
  rwa [List.drop_zero] at this
theorem e_call {F : FT} {cls : Nat → Nat} (m : CM) (f : Nat) (es : EL) (env : Env) (M : Sto) : ev F cls (.call m f es) env M = (match evL F cls es env M with
    | none => none
    | some (ds, M1) => callM F m f ds M1) := by
  rw [ev]
  try rfl
theorem call_pure {F : FT} {f : Nat} {ds : List D} {M M2 : Sto} {d : D} (hb : belowL 0 ds = true) (h : F f ds [] = some (d, M2)) (hd : below 0 (rd M2 d) = true) : callM F .pure f ds M = some (rd M2 d, M) := by
  unfold callM
  simp only
  rw [if_pos hb, h]
  simp only
  rw [if_pos hd]
theorem call_bor {F : FT} {f : Nat} {ds : List D} {M M2 : Sto} {d : D} (hb : belowL 0 (ds.map (rd M)) = true) (h : F f (ds.map (rd M)) [] = some (d, M2)) (hd : bare d = true) : callM F .bor f ds M = some (d, M) := by
  unfold callM
  simp only
  rw [if_pos hb, h]
  simp only
  rw [if_pos hd]
theorem call_own {F : FT} {f : Nat} {ds : List D} {M M2 : Sto} {j : Nat} {xs : List D} (hb : belowL 0 ds = true) (h : F f ds [] = some (.loc j, M2)) (hj : M2[j]? = some (.list xs)) (hd : belowL 0 xs = true) : callM F .own f ds M = some (.loc M.length, M ++ [.list xs]) := by
  unfold callM
  simp only
  rw [if_pos hb, h]
  simp only [hj]
  rw [if_pos hd]
theorem belowL_all {n : Nat} : ∀ {ds : List D}, (∀ d ∈ ds, below n d = true) → belowL n ds = true
  | [], _ => rfl
  | d :: ds, h => by rw [belowL, h d List.mem_cons_self, belowL_all fun x hx => h x (List.mem_cons_of_mem _ hx)]; rfl
theorem below_k (n : Nat) (k : List Int) : below n (kD k) = true := by
  unfold kD
  rw [below]
  exact belowL_all fun d hd => by
    obtain ⟨x, _, rfl⟩ := List.mem_map.mp hd
    rfl
theorem turn_nm {F : FT} {cls : Nat → Nat} (i : Nat) (body : SB) (x : D) (env : Env) (M : Sto) : turnB F cls (.nm i) body x env M = exb F cls body (env.set i (some x)) M := rfl
theorem turn_tp {F : FT} {cls : Nat → Nat} (i j : Nat) (body : SB) (x y : D) (env : Env) (M : Sto) : turnB F cls (.tp [i, j]) body (.tup [x, y]) env M = exb F cls body ((env.set i (some x)).set j (some y)) M := rfl
end MP

namespace K43
open MP PySem
def b_trails : SB := (.cons (.setv 2 (.lst true .nil)) (.cons (.for_ (.nm 3) .seq (.blt false .srtset (.cons (.comp false [7] (.nm 7) .seq (.var 0) .absent .absent (.idx (.var 7) (.int 1))) .nil)) .absent (.cons (.setv 4 (.comp false [7] (.nm 7) .seq (.var 0) .absent (.cmp .eq (.idx (.var 7) (.int 1)) (.var 3)) (.tup (.cons (.idx (.var 7) (.int 0)) (.cons (.idx (.var 7) (.int 2)) .nil))))) (.cons (.setv 5 (.comp false [7] (.nm 7) .seq (.var 1) .absent (.cmp .eq (.idx (.var 7) (.int 1)) (.var 3)) (.tup (.cons (.idx (.var 7) (.int 0)) (.cons (.idx (.var 7) (.int 2)) .nil))))) (.cons (.whl (.and (.var 4) (.var 5)) (.cons (.setv 6 (.blt false .min2 (.cons (.idx (.idx (.var 4) (.int 0)) (.int 1)) (.cons (.idx (.idx (.var 5) (.int 0)) (.int 1)) .nil)))) (.cons (.exp (.app (.var 2) (.tup (.cons (.idx (.idx (.var 4) (.int 0)) (.int 0)) (.cons (.var 3) (.cons (.idx (.idx (.var 5) (.int 0)) (.int 0)) (.cons (.var 6) .nil))))))) (.cons (.setv 4 (.bin false .add (.lst false (.cons (.tup (.cons (.idx (.idx (.var 4) (.int 0)) (.int 0)) (.cons (.bin false .sub (.idx (.idx (.var 4) (.int 0)) (.int 1)) (.var 6)) .nil))) .nil)) (.slc false (.var 4) (.int 1) .absent))) (.cons (.setv 5 (.bin false .add (.lst false (.cons (.tup (.cons (.idx (.idx (.var 5) (.int 0)) (.int 0)) (.cons (.bin false .sub (.idx (.idx (.var 5) (.int 0)) (.int 1)) (.var 6)) .nil))) .nil)) (.slc false (.var 5) (.int 1) .absent))) (.cons (.setv 4 (.comp false [7] (.nm 7) .seq (.var 4) .absent (.cmp .gt (.idx (.var 7) (.int 1)) (.int 0)) (.var 7))) (.cons (.setv 5 (.comp false [7] (.nm 7) .seq (.var 5) .absent (.cmp .gt (.idx (.var 7) (.int 1)) (.int 0)) (.var 7))) .nil))))))) .nil)))) (.cons (.ret (.blt true .sorted (.cons (.var 2) .nil))) .nil)))
abbrev f_trails : Nat := 0
def b_sums_fault : SB := (.cons (.setv 3 (.blt false .srtset (.cons (.bin false .add (.comp false [5] (.nm 5) .seq (.var 0) .absent .absent (.slc false (.var 5) .absent (.int 2))) (.comp false [5] (.nm 5) .seq (.var 1) .absent .absent (.slc false (.var 5) .absent (.int 2)))) .nil))) (.cons (.for_ (.nm 4) .seq (.var 3) .absent (.cons (.ife (.cmp .ne (.blt false .sum (.cons (.comp false [5] (.nm 5) .seq (.var 0) .absent (.cmp .eq (.slc false (.var 5) .absent (.int 2)) (.var 4)) (.idx (.var 5) (.int 2))) .nil)) (.blt false .sum (.cons (.comp false [5] (.nm 5) .seq (.var 1) .absent (.cmp .eq (.slc false (.var 5) .absent (.int 2)) (.var 4)) (.idx (.var 5) (.int 2))) .nil))) (.cons (.ret (.bin false .add (.tup (.cons (.var 2) .nil)) (.var 4))) .nil) .nil) .nil)) (.cons (.ret .non) .nil)))
abbrev f_sums_fault : Nat := 1
def b_trails_fault : SB := (.cons (.for_ (.tp [4, 5]) .enum (.var 2) .absent (.cons (.ife (.or (.cmp .lt (.idx (.var 5) (.int 3)) (.int 1)) (.and (.cmp .gt (.var 4) (.int 0)) (.cmp .ge (.slc false (.idx (.var 2) (.bin false .sub (.var 4) (.int 1))) .absent (.int 3)) (.slc false (.var 5) .absent (.int 3))))) (.cons (.ret (.tup (.cons (.str "form") (.cons (.var 4) .nil)))) .nil) .nil) .nil)) (.cons (.setv 3 (.call .pure 1 (.cons (.var 0) (.cons (.comp false [5] (.nm 5) .seq (.var 2) .absent .absent (.tup (.cons (.idx (.var 5) (.int 0)) (.cons (.idx (.var 5) (.int 1)) (.cons (.idx (.var 5) (.int 3)) .nil))))) (.cons (.str "first") .nil))))) (.cons (.ife (.isN true (.var 3)) (.cons (.ret (.var 3)) .nil) .nil) (.cons (.ret (.call .pure 1 (.cons (.var 1) (.cons (.comp false [5] (.nm 5) .seq (.var 2) .absent .absent (.tup (.cons (.idx (.var 5) (.int 2)) (.cons (.idx (.var 5) (.int 1)) (.cons (.idx (.var 5) (.int 3)) .nil))))) (.cons (.str "second") .nil))))) .nil))))
abbrev f_trails_fault : Nat := 2
def b_law_state : SB := (.cons (.setv 1 (.comp true [2] (.nm 2) .seq (.slc false (.var 0) .absent (.int 63)) .absent .absent (.blt false .abs (.cons (.var 2) .nil)))) (.cons (.ife (.cmp .eq (.blt false .len (.cons (.var 1) .nil)) (.int 0)) (.cons (.setv 1 (.lst true (.cons (.int 0) .nil))) .nil) .nil) (.cons (.ret (.lst true (.cons (.int 0) (.cons (.var 1) .nil)))) .nil)))
abbrev f_law_state : Nat := 3
def b_law_take : SB := (.cons (.setv 2 (.idx (.var 0) (.int 1))) (.cons (.setv 3 (.bin false .mod (.idx (.var 0) (.int 0)) (.blt false .len (.cons (.var 2) .nil)))) (.cons (.setv 4 (.idx (.var 2) (.var 3))) (.cons (.ife (.cmp .ge (.var 4) (.int 1000000000000000000)) (.cons (.seti (.var 2) (.var 3) (.bin false .fdiv (.var 4) (.var 1))) (.cons (.ret (.bin false .mod (.var 4) (.var 1))) .nil)) .nil) (.cons (.seti (.var 0) (.int 0) (.bin false .add (.idx (.var 0) (.int 0)) (.int 1))) (.cons (.setv 5 (.bin false .mod (.blt false .int (.cons (.bin false .add (.bin false .mul (.var 4) (.int 48271)) (.bin false .mul (.idx (.var 0) (.int 0)) (.int 69621))) .nil)) (.int 2147483647))) (.cons (.setv 5 (.bin false .mod (.blt false .int (.cons (.bin false .add (.bin false .mul (.var 5) (.int 16807)) (.bin false .mul (.idx (.var 0) (.int 0)) (.int 7919))) .nil)) (.int 1000000007))) (.cons (.ret (.bin false .mod (.bin false .fdiv (.var 5) (.int 7)) (.var 1))) .nil))))))))
abbrev f_law_take : Nat := 4
def b_law_rows : SB := (.cons (.setv 3 (.lst true .nil)) (.cons (.for_ (.nm 4) .rng1 (.blt false .len (.cons (.var 1) .nil)) .absent (.cons (.setv 5 (.idx (.var 1) (.var 4))) (.cons (.setv 6 (.comp false [8] (.nm 8) .rng1 (.var 2) .absent .absent (.tup (.cons (.call .tr 4 (.cons (.var 0) (.cons (.int 50) .nil))) (.cons (.var 8) .nil))))) (.cons (.for_ (.tp [7, 8]) .seq (.slc false (.blt false .sorted (.cons (.var 6) .nil)) .absent (.bin false .add (.int 1) (.call .tr 4 (.cons (.var 0) (.cons (.var 2) .nil))))) .absent (.cons (.setv 9 (.ife (.cmp .gt (.var 5) (.int 0)) (.bin false .add (.int 1) (.call .tr 4 (.cons (.var 0) (.cons (.blt false .max2 (.cons (.int 1) (.cons (.var 5) .nil))) .nil)))) (.int 0))) (.cons (.setv 9 (.blt false .min2 (.cons (.var 9) (.cons (.var 5) .nil)))) (.cons (.ife (.cmp .gt (.var 9) (.int 0)) (.cons (.exp (.app (.var 3) (.tup (.cons (.var 8) (.cons (.var 4) (.cons (.var 9) .nil)))))) (.cons (.setv 5 (.bin false .sub (.var 5) (.var 9))) .nil)) .nil) .nil)))) (.cons (.ife (.cmp .gt (.var 5) (.int 0)) (.cons (.seti (.var 3) (.neg (.int 1)) (.bin false .add (.slc false (.idx (.var 3) (.neg (.int 1))) .absent (.int 2)) (.tup (.cons (.bin false .add (.idx (.idx (.var 3) (.neg (.int 1))) (.int 2)) (.var 5)) .nil)))) .nil) .nil) .nil))))) (.cons (.frz 3) (.cons (.ret (.blt false .sorted (.cons (.var 3) .nil))) .nil))))
abbrev f_law_rows : Nat := 5
def b_law_sums : SB := (.cons (.setv 1 (.blt false .sorted (.cons (.comp false [4] (.nm 4) .seq (.var 0) .absent .absent (.slc false (.var 4) .absent (.int 2))) .nil))) (.cons (.setv 2 (.lst true .nil)) (.cons (.for_ (.nm 3) .seq (.var 1) .absent (.cons (.ife (.or (.cmp .eq (.blt false .len (.cons (.var 2) .nil)) (.int 0)) (.cmp .ne (.slc false (.idx (.var 2) (.neg (.int 1))) .absent (.int 2)) (.var 3))) (.cons (.exp (.app (.var 2) (.bin false .add (.var 3) (.tup (.cons (.blt false .sum (.cons (.comp false [4] (.nm 4) .seq (.var 0) .absent (.cmp .eq (.slc false (.var 4) .absent (.int 2)) (.var 3)) (.idx (.var 4) (.int 2))) .nil)) .nil))))) .nil) .nil) .nil)) (.cons (.frz 2) (.cons (.ret (.var 2)) .nil)))))
abbrev f_law_sums : Nat := 6
def b_law_first : SB := (.cons (.setp 5 6 (.call .pure 6 (.cons (.var 0) .nil)) (.call .pure 6 (.cons (.var 1) .nil))) (.cons (.setv 3 (.blt false .sorted (.cons (.comp false [7] (.nm 7) .seq (.bin false .add (.var 5) (.var 6)) .absent .absent (.slc false (.var 7) .absent (.int 2))) .nil))) (.cons (.for_ (.nm 4) .seq (.var 3) .absent (.cons (.ife (.cmp .ne (.blt false .sum (.cons (.comp false [7] (.nm 7) .seq (.var 5) .absent (.cmp .eq (.slc false (.var 7) .absent (.int 2)) (.var 4)) (.idx (.var 7) (.int 2))) .nil)) (.blt false .sum (.cons (.comp false [7] (.nm 7) .seq (.var 6) .absent (.cmp .eq (.slc false (.var 7) .absent (.int 2)) (.var 4)) (.idx (.var 7) (.int 2))) .nil))) (.cons (.ret (.bin false .add (.tup (.cons (.var 2) .nil)) (.var 4))) .nil) .nil) .nil)) (.cons (.ret .non) .nil))))
abbrev f_law_first : Nat := 7
def b_law_fault : SB := (.cons (.for_ (.nm 3) .rng1 (.blt false .len (.cons (.var 2) .nil)) .absent (.cons (.ife (.or (.cmp .lt (.idx (.idx (.var 2) (.var 3)) (.int 3)) (.int 1)) (.and (.cmp .gt (.var 3) (.int 0)) (.cmp .ge (.slc false (.idx (.var 2) (.bin false .sub (.var 3) (.int 1))) .absent (.int 3)) (.slc false (.idx (.var 2) (.var 3)) .absent (.int 3))))) (.cons (.ret (.tup (.cons (.str "form") (.cons (.var 3) .nil)))) .nil) .nil) .nil)) (.cons (.setv 4 (.call .pure 7 (.cons (.var 0) (.cons (.comp false [5] (.nm 5) .seq (.var 2) .absent .absent (.tup (.cons (.idx (.var 5) (.int 0)) (.cons (.idx (.var 5) (.int 1)) (.cons (.idx (.var 5) (.int 3)) .nil))))) (.cons (.str "first") .nil))))) (.cons (.ret (.ife (.isN true (.var 4)) (.var 4) (.call .pure 7 (.cons (.var 1) (.cons (.comp false [5] (.nm 5) .seq (.var 2) .absent .absent (.tup (.cons (.idx (.var 5) (.int 2)) (.cons (.idx (.var 5) (.int 1)) (.cons (.idx (.var 5) (.int 3)) .nil))))) (.cons (.str "second") .nil)))))) .nil)))
abbrev f_law_fault : Nat := 8
def b_law_bent : SB := (.cons (.setv 1 (.blt true .list (.cons (.var 1) .nil))) (.cons (.setp 3 4 (.call .tr 4 (.cons (.var 0) (.cons (.blt false .max2 (.cons (.int 1) (.cons (.blt false .len (.cons (.var 1) .nil)) .nil))) .nil))) (.call .tr 4 (.cons (.var 0) (.cons (.blt false .max2 (.cons (.int 1) (.cons (.blt false .len (.cons (.var 1) .nil)) .nil))) .nil)))) (.cons (.setv 2 (.call .tr 4 (.cons (.var 0) (.cons (.int 7) .nil)))) (.cons (.ife (.or (.cmp .eq (.blt false .len (.cons (.var 1) .nil)) (.int 0)) (.cmp .eq (.var 2) (.int 0))) (.cons (.frz 1) (.cons (.ret (.bin false .add (.var 1) (.lst false (.cons (.tup (.cons (.int 9) (.cons (.int 0) (.cons (.int 9) (.cons (.int 1) .nil))))) .nil)))) .nil)) .nil) (.cons (.ife (.cmp .eq (.var 2) (.int 1)) (.cons (.frz 1) (.cons (.ret (.bin false .add (.slc false (.var 1) .absent (.var 3)) (.slc false (.var 1) (.bin false .add (.var 3) (.int 1)) .absent))) .nil)) .nil) (.cons (.ife (.cmp .eq (.var 2) (.int 2)) (.cons (.seti (.var 1) (.var 3) (.bin false .add (.slc false (.idx (.var 1) (.var 3)) .absent (.int 3)) (.tup (.cons (.bin false .add (.idx (.idx (.var 1) (.var 3)) (.int 3)) (.idx (.lst false (.cons (.int 1) (.cons (.bin false .sub (.int 0) (.int 1)) .nil))) (.call .tr 4 (.cons (.var 0) (.cons (.int 2) .nil))))) .nil)))) .nil) (.cons (.ife (.cmp .eq (.var 2) (.int 3)) (.cons (.setv 1 (.bin true .add (.bin false .add (.slc false (.var 1) .absent (.var 3)) (.lst false (.cons (.idx (.var 1) (.var 3)) .nil))) (.slc false (.var 1) (.var 3) .absent))) .nil) (.cons (.ife (.cmp .eq (.var 2) (.int 4)) (.cons (.seti2 (.var 1) (.var 3) (.var 1) (.var 4) (.idx (.var 1) (.var 4)) (.idx (.var 1) (.var 3))) .nil) (.cons (.ife (.cmp .eq (.var 2) (.int 5)) (.cons (.seti (.var 1) (.var 3) (.tup (.cons (.idx (.idx (.var 1) (.var 3)) (.int 0)) (.cons (.idx (.idx (.var 1) (.var 3)) (.int 1)) (.cons (.idx (.idx (.var 1) (.var 4)) (.int 2)) (.cons (.idx (.idx (.var 1) (.var 3)) (.int 3)) .nil)))))) .nil) (.cons (.seti2 (.var 1) (.var 3) (.var 1) (.var 4) (.bin false .add (.slc false (.idx (.var 1) (.var 3)) .absent (.int 3)) (.tup (.cons (.bin false .add (.idx (.idx (.var 1) (.var 3)) (.int 3)) (.int 1)) .nil))) (.bin false .add (.slc false (.idx (.var 1) (.var 4)) .absent (.int 3)) (.tup (.cons (.bin false .sub (.idx (.idx (.var 1) (.var 4)) (.int 3)) (.int 1)) .nil)))) .nil)) .nil)) .nil)) .nil)) (.cons (.frz 1) (.cons (.ret (.ife (.cmp .eq (.call .tr 4 (.cons (.var 0) (.cons (.int 2) .nil))) (.int 0)) (.blt false .sorted (.cons (.var 1) .nil)) (.var 1))) .nil))))))))
abbrev f_law_bent : Nat := 9
def b_law : SB := (.cons (.setv 1 (.call .keep 3 (.cons (.var 0) .nil))) (.cons (.setv 2 (.comp false [10] (.nm 10) .rng1 (.call .tr 4 (.cons (.var 1) (.cons (.int 7) .nil))) .absent .absent (.bin false .add (.int 1) (.call .tr 4 (.cons (.var 1) (.cons (.idx (.lst false (.cons (.int 4) (.cons (.int 60) (.cons (.int 999999999) .nil)))) (.call .tr 4 (.cons (.var 1) (.cons (.int 3) .nil)))) .nil)))))) (.cons (.setp 6 7 (.call .tr 5 (.cons (.var 1) (.cons (.var 2) (.cons (.bin false .add (.int 1) (.call .tr 4 (.cons (.var 1) (.cons (.int 6) .nil)))) .nil)))) (.call .tr 5 (.cons (.var 1) (.cons (.var 2) (.cons (.bin false .add (.int 1) (.call .tr 4 (.cons (.var 1) (.cons (.int 6) .nil)))) .nil))))) (.cons (.setv 3 (.tup (.cons (.blt false .list (.cons (.var 6) .nil)) (.cons (.blt false .list (.cons (.var 7) .nil)) .nil)))) (.cons (.setv 4 (.call .own 0 (.cons (.idx (.var 3) (.int 0)) (.cons (.idx (.var 3) (.int 1)) .nil)))) (.cons (.ife (.or (.not (.isi (.var 4) ["list"] false)) (.or (.cmp .ne (.var 3) (.tup (.cons (.var 6) (.cons (.var 7) .nil)))) (.isN true (.call .bor 8 (.cons (.var 6) (.cons (.var 7) (.cons (.var 4) .nil))))))) (.cons (.ret (.bl false)) .nil) .nil) (.cons (.ife (.isN true (.call .bor 2 (.cons (.idx (.var 3) (.int 0)) (.cons (.idx (.var 3) (.int 1)) (.cons (.var 4) .nil))))) (.cons (.ret (.bl false)) .nil) .nil) (.cons (.exp (.app (.var 4) (.tup (.cons (.int 9) (.cons (.int 9) (.cons (.int 9) (.cons (.int 9) .nil))))))) (.cons (.setv 4 (.call .own 0 (.cons (.idx (.var 3) (.int 0)) (.cons (.idx (.var 3) (.int 1)) .nil)))) (.cons (.ife (.isN true (.call .bor 8 (.cons (.var 6) (.cons (.var 7) (.cons (.var 4) .nil))))) (.cons (.ret (.bl false)) .nil) .nil) (.cons (.for_ (.nm 5) .rng1 (.int 5) .absent (.cons (.setv 8 (.call .tr 9 (.cons (.var 1) (.cons (.var 4) .nil)))) (.cons (.setv 9 (.blt false .list (.cons (.var 8) .nil))) (.cons (.ife (.or (.cmp .ne (.call .bor 2 (.cons (.idx (.var 3) (.int 0)) (.cons (.idx (.var 3) (.int 1)) (.cons (.var 8) .nil)))) (.call .bor 8 (.cons (.var 6) (.cons (.var 7) (.cons (.var 8) .nil))))) (.or (.cmp .ne (.var 8) (.var 9)) (.cmp .ne (.var 3) (.tup (.cons (.var 6) (.cons (.var 7) .nil)))))) (.cons (.ret (.bl false)) .nil) .nil) .nil)))) (.cons (.ret (.bl true)) .nil))))))))))))
abbrev f_law : Nat := 10
def fns : List Fn := [
  ⟨"trails", 2, ["first", "second", "found", "use", "left", "right", "cents", "row"], b_trails, []⟩,
  ⟨"sums_fault", 3, ["rows", "told", "word", "pairs", "pair", "row"], b_sums_fault, []⟩,
  ⟨"trails_fault", 3, ["first", "second", "rows", "fault", "at", "row"], b_trails_fault, []⟩,
  ⟨"_law_state", 1, ["script", "cells", "cell"], b_law_state, []⟩,
  ⟨"_law_take", 2, ["state", "most", "cells", "at", "cell", "mixed"], b_law_take, []⟩,
  ⟨"_law_rows", 3, ["state", "uses", "many", "rows", "use", "left", "order", "place", "source", "piece"], b_law_rows, []⟩,
  ⟨"_law_sums", 1, ["rows", "pairs", "found", "pair", "row"], b_law_sums, []⟩,
  ⟨"_law_first", 3, ["rows", "told", "word", "pairs", "pair", "one", "other", "row"], b_law_first, []⟩,
  ⟨"_law_fault", 3, ["first", "second", "rows", "at", "found", "row"], b_law_fault, []⟩,
  ⟨"_law_bent", 2, ["state", "rows", "kind", "at", "other"], b_law_bent, []⟩,
  ⟨"law", 1, ["script", "state", "uses", "given", "told", "turn", "first", "second", "bent", "same", "k"], b_law, []⟩]
def cls : Nat → Nat := fun c => ([] : List Nat).getD c 0
end K43

namespace K43
open PySem PySem.Spec PyProof.Rows L2
abbrev prg : Program := PySem.Challenge.pw_everycoin_k43_trails
def P : MP.Pm := ⟨fns, fun _ => true, []⟩
def sl : List Stmt := [1, 2, 3, 5, 6, 7, 8, 9, 10, 11, 12].map (MP.stAt prg)
theorem tab : MP.allB P sl = true := by kernel_rfl
def dl : List He.DefD := sl.map MP.datum
abbrev R : PySem.W.OpenRow := PySem.W.OpenLaw.row PySem.Challenge.rw_everycoin_k43_trails
abbrev hk : PySem.W.Hook := He.hookD 4 (MP.facts0 dl) dl
def ob (s : PySem.W.SharedT) : He.AlD := He.obsDG 4 (MP.facts0 dl) dl (HandSHeadRun.getT s)
theorem ob_eq (s : PySem.W.SharedT) : ob s = hk.obs s.abs := He.obsDG_eq (HandSHeadRun.getT_eq s)
def loose : List PySem.Str := (["trails", "sums_fault", "trails_fault", "_law_state", "_law_take", "_law_rows", "_law_sums", "_law_first", "_law_fault", "_law_bent"] : List PySem.Str)
theorem top_run (w : World) : HandSHeadRun.RunEq R (PySem.W.view R.prog [12]) hk ob 720 loose w := by
  intro os
  kernel_rfl
end K43

namespace K43
open MP
/-- the law's own state: at s the place and the cells' list, at c the cells -/
def St (M : Sto) (s c : Nat) : Prop := s ≠ c ∧ ∃ (a : Int) (cs : List Int), M[s]? = some (.list [.int a, .loc c]) ∧ M[c]? = some (.list (cs.map D.int)) ∧ cs ≠ []
/-- only the state is another -/
def Sm (M M' : Sto) (s c : Nat) : Prop := M'.length = M.length ∧ ∀ i, i ≠ s → i ≠ c → M'[i]? = M[i]?
theorem take_run {n : Nat} {M : Sto} {s c : Nat} {m : Int} (h : St M s c) (h0 : 0 < m) (h1 : m < 1073741824) :
    ∃ v M', run fns cls (n + 1) f_law_take [.loc s, .int m] M = some (.int v, M') ∧ 0 ≤ v ∧ v < m ∧ St M' s c ∧ Sm M M' s c := by
  obtain ⟨hne, a, cs, hs, hc, hcs⟩ := h
  rw [run_full (fn := fns[4]) rfl rfl]
  show ∃ v M', body1 (run fns cls n) cls ⟨"_law_take", 2, _, b_law_take, []⟩ _ _ = _ ∧ _
  unfold b_law_take
  have hl : 0 < (cs.length : Int) := by
    have := List.length_pos_iff.mpr hcs
    omega
  have hm0 := Int.emod_nonneg a (Int.ne_of_gt hl)
  have hm1 := Int.emod_lt_of_pos a hl
  have hi : (a % (cs.length : Int)).toNat < cs.length := by omega
  have hat : L2.atI (cs.map D.int) (a % (cs.length : Int)) = some (.int cs[(a % (cs.length : Int)).toNat]) := atI_of hm0 (by rw [List.getElem?_map, List.getElem?_eq_getElem hi]; rfl)
  generalize hcell : cs[(a % (cs.length : Int)).toNat] = cell at hat
  have hix : L2.ixN cs.length (a % (cs.length : Int)) = some (a % (cs.length : Int)).toNat := ixN_of hm0 hm1
  have hsl : s < M.length := (List.getElem?_eq_some_iff.mp hs).1
  have hcl : c < M.length := (List.getElem?_eq_some_iff.mp hc).1
  by_cases hb : 1000000000000000000 ≤ cell
  · simp only [e_var, e_non, e_bl, e_int, e_str, e_bin, e_neg, e_not, e_and, e_or, e_cmp, e_chain, e_isN, e_ife, e_tup, e_lst, e_dct, e_idx, e_slc, e_blt, e_isi, e_fld, e_app, e_ext, e_idxof, e_dget, e_nil, e_cons, x_setv, x_sett, x_setp, x_seti, x_seti2, x_augi, x_setf, x_exp, x_ret, x_ife, x_frz, x_retN, x_pass, x_cont, x_nil, x_cons, getD_list, getD_tup, rd_int, rd_bl, rd_non, rd_str, rd_list, rd_tup, rd_fz, rd_dict, len_list, len_tup, abs_int, min2_int, max2_int, int_int, list_list, list_tup, mk_f, mk_t, truth_bl', truth_int', truth_list', tst_some, line0, line1, line2, line3, line4, line5, line6, line7, line8, asg, optC, optD, optI, isAbs, src_list, src_tup, src_enum, setI, body1, wipeE, List.map_cons, List.map_nil, List.length_cons, List.length_nil, List.replicate, List.cons_append, List.nil_append, List.getElem?_cons_zero, List.getElem?_cons_succ, List.set_cons_zero, List.set_cons_succ, Nat.reduceAdd, Nat.reduceSub, bop_add_int, bop_sub_int, cop_lt_int, cop_gt_int, cop_le_int, cop_ge_int, cop_eq_int, cop_ne_int, atI_c0, atI_c1, atI_c2, atI_c3, if_true, Bool.false_eq_true, if_false, ↓reduceIte, Bool.not_true, Bool.not_false, rd_loc hs, rd_loc hc, hs, hc, bop_mod_int hl, List.length_map, hat, decide_eq_true hb, bop_fdiv_int h0 h1, hix, bop_mod_int h0]
    refine ⟨_, _, rfl, Int.emod_nonneg _ (Int.ne_of_gt h0), Int.emod_lt_of_pos _ h0, ⟨hne, a, cs.set (a % (cs.length : Int)).toNat (cell / m), ?_, ?_, ?_⟩, by rw [List.length_set], fun i h1 h2 => ?_⟩
    · rw [List.getElem?_set_ne (Ne.symm hne)]; exact hs
    · rw [List.getElem?_set_self hcl, List.map_set]
    · intro z
      have := congrArg List.length z
      rw [List.length_set] at this
      exact hcs (List.length_eq_zero_iff.mp this)
    · rw [List.getElem?_set_ne (Ne.symm h2)]
  · have hs2 : (M.set s (.list [.int (a + 1), .loc c]))[s]? = some (.list [.int (a + 1), .loc c]) := List.getElem?_set_self hsl
    simp only [e_var, e_non, e_bl, e_int, e_str, e_bin, e_neg, e_not, e_and, e_or, e_cmp, e_chain, e_isN, e_ife, e_tup, e_lst, e_dct, e_idx, e_slc, e_blt, e_isi, e_fld, e_app, e_ext, e_idxof, e_dget, e_nil, e_cons, x_setv, x_sett, x_setp, x_seti, x_seti2, x_augi, x_setf, x_exp, x_ret, x_ife, x_frz, x_retN, x_pass, x_cont, x_nil, x_cons, getD_list, getD_tup, rd_int, rd_bl, rd_non, rd_str, rd_list, rd_tup, rd_fz, rd_dict, len_list, len_tup, abs_int, min2_int, max2_int, int_int, list_list, list_tup, mk_f, mk_t, truth_bl', truth_int', truth_list', tst_some, line0, line1, line2, line3, line4, line5, line6, line7, line8, asg, optC, optD, optI, isAbs, src_list, src_tup, src_enum, setI, body1, wipeE, List.map_cons, List.map_nil, List.length_cons, List.length_nil, List.replicate, List.cons_append, List.nil_append, List.getElem?_cons_zero, List.getElem?_cons_succ, List.set_cons_zero, List.set_cons_succ, Nat.reduceAdd, Nat.reduceSub, bop_add_int, bop_sub_int, cop_lt_int, cop_gt_int, cop_le_int, cop_ge_int, cop_eq_int, cop_ne_int, atI_c0, atI_c1, atI_c2, atI_c3, if_true, Bool.false_eq_true, if_false, ↓reduceIte, Bool.not_true, Bool.not_false, rd_loc hs, rd_loc hc, hs, hc, bop_mod_int hl, List.length_map, hat, decide_eq_false hb, ixN_c0, hs2, rd_loc hs2, bop_mul_int (show (48271 : Int).natAbs < 2 ^ 64 by decide), bop_mul_int (show (69621 : Int).natAbs < 2 ^ 64 by decide), bop_mul_int (show (16807 : Int).natAbs < 2 ^ 64 by decide), bop_mul_int (show (7919 : Int).natAbs < 2 ^ 64 by decide),
      bop_mod_int (show (0 : Int) < 2147483647 by decide), bop_mod_int (show (0 : Int) < 1000000007 by decide), bop_fdiv_int (show (0 : Int) < 7 by decide) (by decide), bop_mod_int h0]
    refine ⟨_, _, rfl, Int.emod_nonneg _ (Int.ne_of_gt h0), Int.emod_lt_of_pos _ h0, ⟨hne, a + 1, cs, hs2, ?_, hcs⟩, by rw [List.length_set], fun i h1 h2 => ?_⟩
    · rw [List.getElem?_set_ne hne]; exact hc
    · rw [List.getElem?_set_ne (Ne.symm h1)]
end K43

/-! K43b: the faults. -/
namespace K43
open MP
abbrev T3 := Int × Int × Int
abbrev T4 := Int × Int × Int × Int
def l2 (r : T3) : List Int := [r.1, r.2.1]
def d3 (r : T3) : D := .tup [.int r.1, .int r.2.1, .int r.2.2]
def l4 (r : T4) : List Int := [r.1, r.2.1, r.2.2.1, r.2.2.2]
def d4 (r : T4) : D := .tup [.int r.1, .int r.2.1, .int r.2.2.1, .int r.2.2.2]
/-- the sum of a pair's cents -/
def sum3 (R : List T3) (p : List Int) : Int := ((R.filter fun r => decide (l2 r = p)).map fun r => r.2.2).sum
def firstBad (R T : List T3) : Option (List Int) := (sortK (dd ((R ++ T).map l2))).find? fun p => !decide (sum3 R p = sum3 T p)
def resF (w : PySem.Str) : Option (List Int) → D
  | none => .non
  | some p => .tup (.str w :: p.map D.int)
/-- rows that the sets can take -/
structure Ok3 (R T : List T3) : Prop where
  few : (dd ((R ++ T).map l2)).length < 60
  pos : ∀ r ∈ R ++ T, 0 ≤ r.1 ∧ 0 ≤ r.2.1
  len : R.length + T.length ≤ 1000
section
variable {F : FT} {M : Sto} {R : List T3}
theorem c_pairs0 (hR : R.length ≤ 1000) (x1 x2 x3 x4 x5 : Option D) : ev F cls (.comp false [5] (.nm 5) .seq (.var 0) .absent .absent (.slc false (.var 5) .absent (.int 2))) [some (.list (R.map d3)), x1, x2, x3, x4, x5] M = some (.list ((R.map l2).map kD), M) := by
  rw [e_comp]
  simp only [e_var, e_non, e_bl, e_int, e_str, e_bin, e_neg, e_not, e_and, e_or, e_cmp, e_chain, e_isN, e_ife, e_tup, e_lst, e_dct, e_idx, e_slc, e_blt, e_isi, e_fld, e_app, e_ext, e_idxof, e_dget, e_nil, e_cons, x_setv, x_sett, x_setp, x_seti, x_seti2, x_augi, x_setf, x_exp, x_ret, x_ife, x_frz, x_retN, x_pass, x_cont, x_nil, x_cons, getD_list, getD_tup, rd_int, rd_bl, rd_non, rd_str, rd_list, rd_tup, rd_fz, rd_dict, len_list, len_tup, abs_int, min2_int, max2_int, int_int, list_list, list_tup, mk_f, mk_t, truth_bl', truth_int', truth_list', tst_some, line0, line1, line2, line3, line4, line5, line6, line7, line8, asg, optC, optD, optI, isAbs, src_list, src_tup, src_enum, setI, body1, wipeE, List.map_cons, List.map_nil, List.length_cons, List.length_nil, List.replicate, List.cons_append, List.nil_append, List.getElem?_cons_zero, List.getElem?_cons_succ, List.set_cons_zero, List.set_cons_succ, Nat.reduceAdd, Nat.reduceSub, bop_add_int, bop_sub_int, cop_lt_int, cop_gt_int, cop_le_int, cop_ge_int, cop_eq_int, cop_ne_int, atI_c0, atI_c1, atI_c2, atI_c3, if_true, Bool.false_eq_true, if_false, ↓reduceIte, Bool.not_true, Bool.not_false]
  rw [if_pos (by rw [List.length_map]; unfold LINE; omega), compR_mapT (g := fun r => kD (l2 r)) fun r _ => ?_]
  · simp only [List.map_map]; rfl
  · simp only [turnF, d3]
    simp only [e_var, e_non, e_bl, e_int, e_str, e_bin, e_neg, e_not, e_and, e_or, e_cmp, e_chain, e_isN, e_ife, e_tup, e_lst, e_dct, e_idx, e_slc, e_blt, e_isi, e_fld, e_app, e_ext, e_idxof, e_dget, e_nil, e_cons, x_setv, x_sett, x_setp, x_seti, x_seti2, x_augi, x_setf, x_exp, x_ret, x_ife, x_frz, x_retN, x_pass, x_cont, x_nil, x_cons, getD_list, getD_tup, rd_int, rd_bl, rd_non, rd_str, rd_list, rd_tup, rd_fz, rd_dict, len_list, len_tup, abs_int, min2_int, max2_int, int_int, list_list, list_tup, mk_f, mk_t, truth_bl', truth_int', truth_list', tst_some, line0, line1, line2, line3, line4, line5, line6, line7, line8, asg, optC, optD, optI, isAbs, src_list, src_tup, src_enum, setI, body1, wipeE, List.map_cons, List.map_nil, List.length_cons, List.length_nil, List.replicate, List.cons_append, List.nil_append, List.getElem?_cons_zero, List.getElem?_cons_succ, List.set_cons_zero, List.set_cons_succ, Nat.reduceAdd, Nat.reduceSub, bop_add_int, bop_sub_int, cop_lt_int, cop_gt_int, cop_le_int, cop_ge_int, cop_eq_int, cop_ne_int, atI_c0, atI_c1, atI_c2, atI_c3, if_true, Bool.false_eq_true, if_false, ↓reduceIte, Bool.not_true, Bool.not_false, cutD_2]
    rfl
theorem c_pairs1 (hR : R.length ≤ 1000) (x0 x2 x3 x4 x5 : Option D) : ev F cls (.comp false [5] (.nm 5) .seq (.var 1) .absent .absent (.slc false (.var 5) .absent (.int 2))) [x0, some (.list (R.map d3)), x2, x3, x4, x5] M = some (.list ((R.map l2).map kD), M) := by
  rw [e_comp]
  simp only [e_var, e_non, e_bl, e_int, e_str, e_bin, e_neg, e_not, e_and, e_or, e_cmp, e_chain, e_isN, e_ife, e_tup, e_lst, e_dct, e_idx, e_slc, e_blt, e_isi, e_fld, e_app, e_ext, e_idxof, e_dget, e_nil, e_cons, x_setv, x_sett, x_setp, x_seti, x_seti2, x_augi, x_setf, x_exp, x_ret, x_ife, x_frz, x_retN, x_pass, x_cont, x_nil, x_cons, getD_list, getD_tup, rd_int, rd_bl, rd_non, rd_str, rd_list, rd_tup, rd_fz, rd_dict, len_list, len_tup, abs_int, min2_int, max2_int, int_int, list_list, list_tup, mk_f, mk_t, truth_bl', truth_int', truth_list', tst_some, line0, line1, line2, line3, line4, line5, line6, line7, line8, asg, optC, optD, optI, isAbs, src_list, src_tup, src_enum, setI, body1, wipeE, List.map_cons, List.map_nil, List.length_cons, List.length_nil, List.replicate, List.cons_append, List.nil_append, List.getElem?_cons_zero, List.getElem?_cons_succ, List.set_cons_zero, List.set_cons_succ, Nat.reduceAdd, Nat.reduceSub, bop_add_int, bop_sub_int, cop_lt_int, cop_gt_int, cop_le_int, cop_ge_int, cop_eq_int, cop_ne_int, atI_c0, atI_c1, atI_c2, atI_c3, if_true, Bool.false_eq_true, if_false, ↓reduceIte, Bool.not_true, Bool.not_false]
  rw [if_pos (by rw [List.length_map]; unfold LINE; omega), compR_mapT (g := fun r => kD (l2 r)) fun r _ => ?_]
  · simp only [List.map_map]; rfl
  · simp only [turnF, d3]
    simp only [e_var, e_non, e_bl, e_int, e_str, e_bin, e_neg, e_not, e_and, e_or, e_cmp, e_chain, e_isN, e_ife, e_tup, e_lst, e_dct, e_idx, e_slc, e_blt, e_isi, e_fld, e_app, e_ext, e_idxof, e_dget, e_nil, e_cons, x_setv, x_sett, x_setp, x_seti, x_seti2, x_augi, x_setf, x_exp, x_ret, x_ife, x_frz, x_retN, x_pass, x_cont, x_nil, x_cons, getD_list, getD_tup, rd_int, rd_bl, rd_non, rd_str, rd_list, rd_tup, rd_fz, rd_dict, len_list, len_tup, abs_int, min2_int, max2_int, int_int, list_list, list_tup, mk_f, mk_t, truth_bl', truth_int', truth_list', tst_some, line0, line1, line2, line3, line4, line5, line6, line7, line8, asg, optC, optD, optI, isAbs, src_list, src_tup, src_enum, setI, body1, wipeE, List.map_cons, List.map_nil, List.length_cons, List.length_nil, List.replicate, List.cons_append, List.nil_append, List.getElem?_cons_zero, List.getElem?_cons_succ, List.set_cons_zero, List.set_cons_succ, Nat.reduceAdd, Nat.reduceSub, bop_add_int, bop_sub_int, cop_lt_int, cop_gt_int, cop_le_int, cop_ge_int, cop_eq_int, cop_ne_int, atI_c0, atI_c1, atI_c2, atI_c3, if_true, Bool.false_eq_true, if_false, ↓reduceIte, Bool.not_true, Bool.not_false, cutD_2]
    rfl
theorem c_sum0 (hR : R.length ≤ 1000) (p : List Int) (x1 x2 x3 x5 : Option D) : ev F cls (.comp false [5] (.nm 5) .seq (.var 0) .absent (.cmp .eq (.slc false (.var 5) .absent (.int 2)) (.var 4)) (.idx (.var 5) (.int 2))) [some (.list (R.map d3)), x1, x2, x3, some (kD p), x5] M =
    some (.list (((R.filter fun r => decide (l2 r = p)).map fun r => r.2.2).map D.int), M) := by
  rw [e_comp]
  simp only [e_var, e_non, e_bl, e_int, e_str, e_bin, e_neg, e_not, e_and, e_or, e_cmp, e_chain, e_isN, e_ife, e_tup, e_lst, e_dct, e_idx, e_slc, e_blt, e_isi, e_fld, e_app, e_ext, e_idxof, e_dget, e_nil, e_cons, x_setv, x_sett, x_setp, x_seti, x_seti2, x_augi, x_setf, x_exp, x_ret, x_ife, x_frz, x_retN, x_pass, x_cont, x_nil, x_cons, getD_list, getD_tup, rd_int, rd_bl, rd_non, rd_str, rd_list, rd_tup, rd_fz, rd_dict, len_list, len_tup, abs_int, min2_int, max2_int, int_int, list_list, list_tup, mk_f, mk_t, truth_bl', truth_int', truth_list', tst_some, line0, line1, line2, line3, line4, line5, line6, line7, line8, asg, optC, optD, optI, isAbs, src_list, src_tup, src_enum, setI, body1, wipeE, List.map_cons, List.map_nil, List.length_cons, List.length_nil, List.replicate, List.cons_append, List.nil_append, List.getElem?_cons_zero, List.getElem?_cons_succ, List.set_cons_zero, List.set_cons_succ, Nat.reduceAdd, Nat.reduceSub, bop_add_int, bop_sub_int, cop_lt_int, cop_gt_int, cop_le_int, cop_ge_int, cop_eq_int, cop_ne_int, atI_c0, atI_c1, atI_c2, atI_c3, if_true, Bool.false_eq_true, if_false, ↓reduceIte, Bool.not_true, Bool.not_false]
  rw [if_pos (by rw [List.length_map]; unfold LINE; omega), compR_flT (g := fun r => .int r.2.2) (q := fun r => decide (l2 r = p)) fun r _ => ?_]
  · simp only [List.map_map]; rfl
  · simp only [turnF, d3]
    have e : cop .eq (.tup [.int r.1, .int r.2.1]) (kD p) = some (decide (l2 r = p)) := cop_eq_k (l2 r) p
    simp only [e_var, e_non, e_bl, e_int, e_str, e_bin, e_neg, e_not, e_and, e_or, e_cmp, e_chain, e_isN, e_ife, e_tup, e_lst, e_dct, e_idx, e_slc, e_blt, e_isi, e_fld, e_app, e_ext, e_idxof, e_dget, e_nil, e_cons, x_setv, x_sett, x_setp, x_seti, x_seti2, x_augi, x_setf, x_exp, x_ret, x_ife, x_frz, x_retN, x_pass, x_cont, x_nil, x_cons, getD_list, getD_tup, rd_int, rd_bl, rd_non, rd_str, rd_list, rd_tup, rd_fz, rd_dict, len_list, len_tup, abs_int, min2_int, max2_int, int_int, list_list, list_tup, mk_f, mk_t, truth_bl', truth_int', truth_list', tst_some, line0, line1, line2, line3, line4, line5, line6, line7, line8, asg, optC, optD, optI, isAbs, src_list, src_tup, src_enum, setI, body1, wipeE, List.map_cons, List.map_nil, List.length_cons, List.length_nil, List.replicate, List.cons_append, List.nil_append, List.getElem?_cons_zero, List.getElem?_cons_succ, List.set_cons_zero, List.set_cons_succ, Nat.reduceAdd, Nat.reduceSub, bop_add_int, bop_sub_int, cop_lt_int, cop_gt_int, cop_le_int, cop_ge_int, cop_eq_int, cop_ne_int, atI_c0, atI_c1, atI_c2, atI_c3, if_true, Bool.false_eq_true, if_false, ↓reduceIte, Bool.not_true, Bool.not_false, cutD_2, show rd M (kD p) = kD p from rfl, e]
    cases decide (l2 r = p) <;> simp only [e_var, e_non, e_bl, e_int, e_str, e_bin, e_neg, e_not, e_and, e_or, e_cmp, e_chain, e_isN, e_ife, e_tup, e_lst, e_dct, e_idx, e_slc, e_blt, e_isi, e_fld, e_app, e_ext, e_idxof, e_dget, e_nil, e_cons, x_setv, x_sett, x_setp, x_seti, x_seti2, x_augi, x_setf, x_exp, x_ret, x_ife, x_frz, x_retN, x_pass, x_cont, x_nil, x_cons, getD_list, getD_tup, rd_int, rd_bl, rd_non, rd_str, rd_list, rd_tup, rd_fz, rd_dict, len_list, len_tup, abs_int, min2_int, max2_int, int_int, list_list, list_tup, mk_f, mk_t, truth_bl', truth_int', truth_list', tst_some, line0, line1, line2, line3, line4, line5, line6, line7, line8, asg, optC, optD, optI, isAbs, src_list, src_tup, src_enum, setI, body1, wipeE, List.map_cons, List.map_nil, List.length_cons, List.length_nil, List.replicate, List.cons_append, List.nil_append, List.getElem?_cons_zero, List.getElem?_cons_succ, List.set_cons_zero, List.set_cons_succ, Nat.reduceAdd, Nat.reduceSub, bop_add_int, bop_sub_int, cop_lt_int, cop_gt_int, cop_le_int, cop_ge_int, cop_eq_int, cop_ne_int, atI_c0, atI_c1, atI_c2, atI_c3, if_true, Bool.false_eq_true, if_false, ↓reduceIte, Bool.not_true, Bool.not_false]
end
theorem c_sum1 {F : FT} {M : Sto} {R : List T3} (hR : R.length ≤ 1000) (p : List Int) (x0 x2 x3 x5 : Option D) : ev F cls (.comp false [5] (.nm 5) .seq (.var 1) .absent (.cmp .eq (.slc false (.var 5) .absent (.int 2)) (.var 4)) (.idx (.var 5) (.int 2))) [x0, some (.list (R.map d3)), x2, x3, some (kD p), x5] M =
    some (.list (((R.filter fun r => decide (l2 r = p)).map fun r => r.2.2).map D.int), M) := by
  rw [e_comp]
  simp only [e_var, e_non, e_bl, e_int, e_str, e_bin, e_neg, e_not, e_and, e_or, e_cmp, e_chain, e_isN, e_ife, e_tup, e_lst, e_dct, e_idx, e_slc, e_blt, e_isi, e_fld, e_app, e_ext, e_idxof, e_dget, e_nil, e_cons, x_setv, x_sett, x_setp, x_seti, x_seti2, x_augi, x_setf, x_exp, x_ret, x_ife, x_frz, x_retN, x_pass, x_cont, x_nil, x_cons, getD_list, getD_tup, rd_int, rd_bl, rd_non, rd_str, rd_list, rd_tup, rd_fz, rd_dict, len_list, len_tup, abs_int, min2_int, max2_int, int_int, list_list, list_tup, mk_f, mk_t, truth_bl', truth_int', truth_list', tst_some, line0, line1, line2, line3, line4, line5, line6, line7, line8, asg, optC, optD, optI, isAbs, src_list, src_tup, src_enum, setI, body1, wipeE, List.map_cons, List.map_nil, List.length_cons, List.length_nil, List.replicate, List.cons_append, List.nil_append, List.getElem?_cons_zero, List.getElem?_cons_succ, List.set_cons_zero, List.set_cons_succ, Nat.reduceAdd, Nat.reduceSub, bop_add_int, bop_sub_int, cop_lt_int, cop_gt_int, cop_le_int, cop_ge_int, cop_eq_int, cop_ne_int, atI_c0, atI_c1, atI_c2, atI_c3, if_true, Bool.false_eq_true, if_false, ↓reduceIte, Bool.not_true, Bool.not_false]
  rw [if_pos (by rw [List.length_map]; unfold LINE; omega), compR_flT (g := fun r => .int r.2.2) (q := fun r => decide (l2 r = p)) fun r _ => ?_]
  · simp only [List.map_map]; rfl
  · simp only [turnF, d3]
    have e : cop .eq (.tup [.int r.1, .int r.2.1]) (kD p) = some (decide (l2 r = p)) := cop_eq_k (l2 r) p
    simp only [e_var, e_non, e_bl, e_int, e_str, e_bin, e_neg, e_not, e_and, e_or, e_cmp, e_chain, e_isN, e_ife, e_tup, e_lst, e_dct, e_idx, e_slc, e_blt, e_isi, e_fld, e_app, e_ext, e_idxof, e_dget, e_nil, e_cons, x_setv, x_sett, x_setp, x_seti, x_seti2, x_augi, x_setf, x_exp, x_ret, x_ife, x_frz, x_retN, x_pass, x_cont, x_nil, x_cons, getD_list, getD_tup, rd_int, rd_bl, rd_non, rd_str, rd_list, rd_tup, rd_fz, rd_dict, len_list, len_tup, abs_int, min2_int, max2_int, int_int, list_list, list_tup, mk_f, mk_t, truth_bl', truth_int', truth_list', tst_some, line0, line1, line2, line3, line4, line5, line6, line7, line8, asg, optC, optD, optI, isAbs, src_list, src_tup, src_enum, setI, body1, wipeE, List.map_cons, List.map_nil, List.length_cons, List.length_nil, List.replicate, List.cons_append, List.nil_append, List.getElem?_cons_zero, List.getElem?_cons_succ, List.set_cons_zero, List.set_cons_succ, Nat.reduceAdd, Nat.reduceSub, bop_add_int, bop_sub_int, cop_lt_int, cop_gt_int, cop_le_int, cop_ge_int, cop_eq_int, cop_ne_int, atI_c0, atI_c1, atI_c2, atI_c3, if_true, Bool.false_eq_true, if_false, ↓reduceIte, Bool.not_true, Bool.not_false, cutD_2, show rd M (kD p) = kD p from rfl, e]
    cases decide (l2 r = p) <;> simp only [e_var, e_non, e_bl, e_int, e_str, e_bin, e_neg, e_not, e_and, e_or, e_cmp, e_chain, e_isN, e_ife, e_tup, e_lst, e_dct, e_idx, e_slc, e_blt, e_isi, e_fld, e_app, e_ext, e_idxof, e_dget, e_nil, e_cons, x_setv, x_sett, x_setp, x_seti, x_seti2, x_augi, x_setf, x_exp, x_ret, x_ife, x_frz, x_retN, x_pass, x_cont, x_nil, x_cons, getD_list, getD_tup, rd_int, rd_bl, rd_non, rd_str, rd_list, rd_tup, rd_fz, rd_dict, len_list, len_tup, abs_int, min2_int, max2_int, int_int, list_list, list_tup, mk_f, mk_t, truth_bl', truth_int', truth_list', tst_some, line0, line1, line2, line3, line4, line5, line6, line7, line8, asg, optC, optD, optI, isAbs, src_list, src_tup, src_enum, setI, body1, wipeE, List.map_cons, List.map_nil, List.length_cons, List.length_nil, List.replicate, List.cons_append, List.nil_append, List.getElem?_cons_zero, List.getElem?_cons_succ, List.set_cons_zero, List.set_cons_succ, Nat.reduceAdd, Nat.reduceSub, bop_add_int, bop_sub_int, cop_lt_int, cop_gt_int, cop_le_int, cop_ge_int, cop_eq_int, cop_ne_int, atI_c0, atI_c1, atI_c2, atI_c3, if_true, Bool.false_eq_true, if_false, ↓reduceIte, Bool.not_true, Bool.not_false]
theorem len_mem2 {R : List T3} {p : List Int} (h : p ∈ R.map l2) : p.length = 2 := by
  obtain ⟨r, _, rfl⟩ := List.mem_map.mp h
  rfl
theorem keysOk2 {R : List T3} (h : ∀ r ∈ R, 0 ≤ r.1 ∧ 0 ≤ r.2.1) : keysOk (R.map l2) = true := by
  unfold keysOk
  refine List.all_eq_true.mpr fun p hp => ?_
  have h2 := len_mem2 hp
  obtain ⟨r, hr, rfl⟩ := List.mem_map.mp hp
  have hh : ((R.map l2).headD []).length = 2 := by
    cases R with
    | nil => cases hr
    | cons x R => rfl
  rw [hh]
  have := h r hr
  simp [l2, this]
theorem srt_pairs {R : List T3} {M : Sto} (hf : (dd (R.map l2)).length < 60) (h : ∀ r ∈ R, 0 ≤ r.1 ∧ 0 ≤ r.2.1) : blt1 .srtset M [.list ((R.map l2).map kD)] = some (.list ((sortK (dd (R.map l2))).map kD)) := by
  cases R with
  | nil =>
    rw [List.map_nil, List.map_nil, srtset_nil]
    rw [show sortK (dd []) = [] by simp [sortK, dd]]
    rfl
  | cons x R => exact srtset_k (by simp) hf (keysOk2 h)
theorem sums_run {n : Nat} {M : Sto} {R T : List T3} {w : PySem.Str} (h : Ok3 R T) : run fns cls (n + 1) f_sums_fault [.list (R.map d3), .list (T.map d3), .str w] M = some (resF w (firstBad R T), M) := by
  rw [run_full (fn := fns[1]) rfl rfl]
  show body1 (run fns cls n) cls ⟨"sums_fault", 3, _, b_sums_fault, []⟩ _ _ = _
  unfold b_sums_fault
  have hlen := h.len
  have hadd : bop .add (.list ((R.map l2).map kD)) (.list ((T.map l2).map kD)) = some (.list (((R ++ T).map l2).map kD)) := by
    rw [bop_add_list (by simp only [List.length_map]; unfold LINE; omega)]
    simp
  obtain ⟨env', hf, _⟩ := forP_find (f := turnB (run fns cls n) cls (.nm 4) (.cons (.ife (.cmp .ne (.blt false .sum (.cons (.comp false [5] (.nm 5) .seq (.var 0) .absent (.cmp .eq (.slc false (.var 5) .absent (.int 2)) (.var 4)) (.idx (.var 5) (.int 2))) .nil)) (.blt false .sum (.cons (.comp false [5] (.nm 5) .seq (.var 1) .absent (.cmp .eq (.slc false (.var 5) .absent (.int 2)) (.var 4)) (.idx (.var 5) (.int 2))) .nil))) (.cons (.ret (.bin false .add (.tup (.cons (.var 2) .nil)) (.var 4))) .nil) .nil) .nil))
    (e := kD) (q := fun p => !decide (sum3 R p = sum3 T p)) (res := fun p => .tup (.str w :: p.map D.int)) (M := M) (P := fun env => ∃ x, env = [some (.list (R.map d3)), some (.list (T.map d3)), some (.str w), some (.list ((sortK (dd ((R ++ T).map l2))).map kD)), x, none]) (l := sortK (dd ((R ++ T).map l2)))
    (fun p hp env ⟨x, he⟩ => by
      subst he
      have hp2 : p.length = 2 := len_mem2 (R := R ++ T) (mem_dd.mp (mem_sortK.mp hp))
      refine ⟨_, ?_, some (kD p), rfl⟩
      simp only [turnB]
      have ha : bop .add (.tup [.str w]) (kD p) = some (.tup (.str w :: p.map D.int)) := by
        unfold kD
        rw [bop_add_tup (by simp only [List.length_map, List.length_cons, List.length_nil, hp2]; unfold LINE; omega)]
        rfl
      simp only [e_var, e_non, e_bl, e_int, e_str, e_bin, e_neg, e_not, e_and, e_or, e_cmp, e_chain, e_isN, e_ife, e_tup, e_lst, e_dct, e_idx, e_slc, e_blt, e_isi, e_fld, e_app, e_ext, e_idxof, e_dget, e_nil, e_cons, x_setv, x_sett, x_setp, x_seti, x_seti2, x_augi, x_setf, x_exp, x_ret, x_ife, x_frz, x_retN, x_pass, x_cont, x_nil, x_cons, getD_list, getD_tup, rd_int, rd_bl, rd_non, rd_str, rd_list, rd_tup, rd_fz, rd_dict, len_list, len_tup, abs_int, min2_int, max2_int, int_int, list_list, list_tup, mk_f, mk_t, truth_bl', truth_int', truth_list', tst_some, line0, line1, line2, line3, line4, line5, line6, line7, line8, asg, optC, optD, optI, isAbs, src_list, src_tup, src_enum, setI, body1, wipeE, List.map_cons, List.map_nil, List.length_cons, List.length_nil, List.replicate, List.cons_append, List.nil_append, List.getElem?_cons_zero, List.getElem?_cons_succ, List.set_cons_zero, List.set_cons_succ, Nat.reduceAdd, Nat.reduceSub, bop_add_int, bop_sub_int, cop_lt_int, cop_gt_int, cop_le_int, cop_ge_int, cop_eq_int, cop_ne_int, atI_c0, atI_c1, atI_c2, atI_c3, if_true, Bool.false_eq_true, if_false, ↓reduceIte, Bool.not_true, Bool.not_false, c_sum0 (R := R) (by omega), c_sum1 (R := T) (by omega), sum_map, show rd M (kD p) = kD p from rfl, ha]
      rw [show ((R.filter fun r => decide (l2 r = p)).map fun r => r.2.2).sum = sum3 R p from rfl, show ((T.filter fun r => decide (l2 r = p)).map fun r => r.2.2).sum = sum3 T p from rfl]
      cases decide (sum3 R p = sum3 T p) <;> simp only [e_var, e_non, e_bl, e_int, e_str, e_bin, e_neg, e_not, e_and, e_or, e_cmp, e_chain, e_isN, e_ife, e_tup, e_lst, e_dct, e_idx, e_slc, e_blt, e_isi, e_fld, e_app, e_ext, e_idxof, e_dget, e_nil, e_cons, x_setv, x_sett, x_setp, x_seti, x_seti2, x_augi, x_setf, x_exp, x_ret, x_ife, x_frz, x_retN, x_pass, x_cont, x_nil, x_cons, getD_list, getD_tup, rd_int, rd_bl, rd_non, rd_str, rd_list, rd_tup, rd_fz, rd_dict, len_list, len_tup, abs_int, min2_int, max2_int, int_int, list_list, list_tup, mk_f, mk_t, truth_bl', truth_int', truth_list', tst_some, line0, line1, line2, line3, line4, line5, line6, line7, line8, asg, optC, optD, optI, isAbs, src_list, src_tup, src_enum, setI, body1, wipeE, List.map_cons, List.map_nil, List.length_cons, List.length_nil, List.replicate, List.cons_append, List.nil_append, List.getElem?_cons_zero, List.getElem?_cons_succ, List.set_cons_zero, List.set_cons_succ, Nat.reduceAdd, Nat.reduceSub, bop_add_int, bop_sub_int, cop_lt_int, cop_gt_int, cop_le_int, cop_ge_int, cop_eq_int, cop_ne_int, atI_c0, atI_c1, atI_c2, atI_c3, if_true, Bool.false_eq_true, if_false, ↓reduceIte, Bool.not_true, Bool.not_false, Bool.not_true, Bool.not_false, show rd M (kD p) = kD p from rfl, ha]) _ ⟨none, rfl⟩
  simp only [e_var, e_non, e_bl, e_int, e_str, e_bin, e_neg, e_not, e_and, e_or, e_cmp, e_chain, e_isN, e_ife, e_tup, e_lst, e_dct, e_idx, e_slc, e_blt, e_isi, e_fld, e_app, e_ext, e_idxof, e_dget, e_nil, e_cons, x_setv, x_sett, x_setp, x_seti, x_seti2, x_augi, x_setf, x_exp, x_ret, x_ife, x_frz, x_retN, x_pass, x_cont, x_nil, x_cons, getD_list, getD_tup, rd_int, rd_bl, rd_non, rd_str, rd_list, rd_tup, rd_fz, rd_dict, len_list, len_tup, abs_int, min2_int, max2_int, int_int, list_list, list_tup, mk_f, mk_t, truth_bl', truth_int', truth_list', tst_some, line0, line1, line2, line3, line4, line5, line6, line7, line8, asg, optC, optD, optI, isAbs, src_list, src_tup, src_enum, setI, body1, wipeE, List.map_cons, List.map_nil, List.length_cons, List.length_nil, List.replicate, List.cons_append, List.nil_append, List.getElem?_cons_zero, List.getElem?_cons_succ, List.set_cons_zero, List.set_cons_succ, Nat.reduceAdd, Nat.reduceSub, bop_add_int, bop_sub_int, cop_lt_int, cop_gt_int, cop_le_int, cop_ge_int, cop_eq_int, cop_ne_int, atI_c0, atI_c1, atI_c2, atI_c3, if_true, Bool.false_eq_true, if_false, ↓reduceIte, Bool.not_true, Bool.not_false, c_pairs0 (R := R) (by omega), c_pairs1 (R := T) (by omega), hadd, srt_pairs h.few h.pos, x_for, hf]
  unfold firstBad
  cases (sortK (dd ((R ++ T).map l2))).find? fun p => !decide (sum3 R p = sum3 T p) <;> simp only [e_var, e_non, e_bl, e_int, e_str, e_bin, e_neg, e_not, e_and, e_or, e_cmp, e_chain, e_isN, e_ife, e_tup, e_lst, e_dct, e_idx, e_slc, e_blt, e_isi, e_fld, e_app, e_ext, e_idxof, e_dget, e_nil, e_cons, x_setv, x_sett, x_setp, x_seti, x_seti2, x_augi, x_setf, x_exp, x_ret, x_ife, x_frz, x_retN, x_pass, x_cont, x_nil, x_cons, getD_list, getD_tup, rd_int, rd_bl, rd_non, rd_str, rd_list, rd_tup, rd_fz, rd_dict, len_list, len_tup, abs_int, min2_int, max2_int, int_int, list_list, list_tup, mk_f, mk_t, truth_bl', truth_int', truth_list', tst_some, line0, line1, line2, line3, line4, line5, line6, line7, line8, asg, optC, optD, optI, isAbs, src_list, src_tup, src_enum, setI, body1, wipeE, List.map_cons, List.map_nil, List.length_cons, List.length_nil, List.replicate, List.cons_append, List.nil_append, List.getElem?_cons_zero, List.getElem?_cons_succ, List.set_cons_zero, List.set_cons_succ, Nat.reduceAdd, Nat.reduceSub, bop_add_int, bop_sub_int, cop_lt_int, cop_gt_int, cop_le_int, cop_ge_int, cop_eq_int, cop_ne_int, atI_c0, atI_c1, atI_c2, atI_c3, if_true, Bool.false_eq_true, if_false, ↓reduceIte, Bool.not_true, Bool.not_false, resF]
end K43

/-! K43c: the law's own first fault. -/
namespace K43
open MP
/-- a pair as a list of two -/
def mk3 (R : List T3) (p : List Int) : T3 := (p.headD 0, (p.tail).headD 0, sum3 R p)
def stepG (R : List T3) (G : List T3) (p : List Int) : List T3 := if G = [] ∨ (G.map l2).getLast? ≠ some p then G ++ [mk3 R p] else G
def grp (R : List T3) : List T3 := (sortK (R.map l2)).foldl (stepG R) []
structure GoodG (R G : List T3) : Prop where
  nd : (G.map l2).Nodup
  pw : (G.map l2).Pairwise fun a b => lexLe a b = true
  sm : ∀ r ∈ G, r.2.2 = sum3 R (l2 r)
theorem l2_mk {R : List T3} {p : List Int} (h : p.length = 2) : l2 (mk3 R p) = p := by
  match p, h with
  | [a, b], _ => rfl
theorem last_ge {G : List (List Int)} {x l : List Int} (pw : G.Pairwise fun a b => lexLe a b = true) (hx : x ∈ G) (hl : G.getLast? = some l) : lexLe x l = true := by
  induction G with
  | nil => cases hx
  | cons y G ih =>
    rw [List.pairwise_cons] at pw
    cases G with
    | nil =>
      rw [List.mem_singleton] at hx
      simp at hl
      rw [hx, hl]
      exact lexLe_refl l
    | cons z G =>
      rw [List.getLast?_cons_cons] at hl
      rcases List.mem_cons.mp hx with e | hx
      · rw [e]
        exact pw.1 l (List.mem_of_getLast? hl)
      · exact ih pw.2 hx hl
theorem fold_good {R : List T3} : ∀ {ks : List (List Int)} {G : List T3}, (∀ p ∈ ks, p.length = 2) → ks.Pairwise (fun a b => lexLe a b = true) → (∀ q ∈ G.map l2, ∀ p ∈ ks, lexLe q p = true) → GoodG R G → GoodG R (ks.foldl (stepG R) G) ∧ ∀ q, q ∈ (ks.foldl (stepG R) G).map l2 ↔ q ∈ G.map l2 ∨ q ∈ ks
  | [], G, _, _, _, g => ⟨g, fun q => by simp⟩
  | p :: ks, G, h2, hp, hb, g => by
    rw [List.pairwise_cons] at hp
    have hp2 := h2 p List.mem_cons_self
    rw [List.foldl_cons]
    have key : GoodG R (stepG R G p) ∧ ∀ q, q ∈ (stepG R G p).map l2 ↔ q ∈ G.map l2 ∨ q = p := by
      unfold stepG
      by_cases hc : G = [] ∨ (G.map l2).getLast? ≠ some p
      · rw [if_pos hc]
        have hnp : p ∉ G.map l2 := fun hm => by
          rcases hc with hc | hc
          · subst hc; cases hm
          · cases hl : (G.map l2).getLast? with
            | none =>
              rw [List.getLast?_eq_none_iff] at hl
              rw [hl] at hm; cases hm
            | some l =>
              have a1 := last_ge g.pw hm hl
              have a2 := hb l (List.mem_of_getLast? hl) p List.mem_cons_self
              have e := lexLe_antisymm p l a1 a2
              rw [hl, e] at hc
              exact hc rfl
        refine ⟨⟨?_, ?_, fun r hr => ?_⟩, fun q => by rw [List.map_append, List.mem_append]; simp [l2_mk hp2]⟩
        · rw [List.map_append, List.map_cons, List.map_nil, l2_mk hp2, List.nodup_append]
          exact ⟨g.nd, by simp, fun a ha b hb e => hnp (by rw [List.mem_singleton] at hb; rw [← hb, ← e]; exact ha)⟩
        · rw [List.map_append, List.map_cons, List.map_nil, l2_mk hp2, List.pairwise_append]
          exact ⟨g.pw, by simp, fun a ha b hb' => by rw [List.mem_singleton] at hb'; rw [hb']; exact hb a ha p List.mem_cons_self⟩
        · rcases List.mem_append.mp hr with z | z
          · exact g.sm r z
          · rw [List.mem_singleton] at z
            rw [z, l2_mk hp2]
            rfl
      · rw [if_neg hc]
        rw [not_or, Classical.not_not] at hc
        refine ⟨g, fun q => ⟨.inl, fun h => h.elim id fun e => ?_⟩⟩
        rw [e]
        exact List.mem_of_getLast? hc.2
    obtain ⟨k1, k2⟩ := fold_good (R := R) (ks := ks) (G := stepG R G p) (fun q hq => h2 q (List.mem_cons_of_mem _ hq)) hp.2 (fun q hq r hr => by
      rcases (key.2 q).mp hq with z | z
      · exact hb q z r (List.mem_cons_of_mem _ hr)
      · rw [z]; exact hp.1 r hr) key.1
    refine ⟨k1, fun q => ?_⟩
    rw [k2 q, key.2 q, List.mem_cons, or_assoc]
theorem grp_good (R : List T3) : GoodG R (grp R) ∧ ∀ q, q ∈ (grp R).map l2 ↔ q ∈ R.map l2 := by
  obtain ⟨h1, h2⟩ := fold_good (R := R) (ks := sortK (R.map l2)) (G := []) (fun p hp => len_mem2 (mem_sortK.mp hp)) (sortK_pw _) (fun q hq => nomatch hq) ⟨List.nodup_nil, List.Pairwise.nil, fun r hr => nomatch hr⟩
  refine ⟨h1, fun q => ?_⟩
  unfold grp
  rw [h2 q, mem_sortK]
  simp
theorem sum_none {R : List T3} {p : List Int} (h : p ∉ R.map l2) : sum3 R p = 0 := by
  unfold sum3
  have e : (R.filter fun r => decide (l2 r = p)) = [] := List.filter_eq_nil_iff.mpr fun r hr z => h (List.mem_map.mpr ⟨r, hr, of_decide_eq_true z⟩)
  rw [e]; rfl
theorem sum_one : ∀ {G : List T3} {r : T3}, (G.map l2).Nodup → r ∈ G → sum3 G (l2 r) = r.2.2
  | x :: G, r, nd, hr => by
    rw [List.map_cons, List.nodup_cons] at nd
    unfold sum3
    rw [List.filter_cons]
    rcases List.mem_cons.mp hr with e | hr
    · subst e
      rw [if_pos (by simp), List.map_cons, List.sum_cons]
      have := sum_none nd.1
      unfold sum3 at this
      rw [this, Int.add_zero]
    · have hne : ¬ l2 x = l2 r := fun e => nd.1 (e ▸ List.mem_map.mpr ⟨r, hr, rfl⟩)
      rw [if_neg (by simpa using hne)]
      exact sum_one nd.2 hr
theorem grp_sum (R : List T3) (p : List Int) : sum3 (grp R) p = sum3 R p := by
  obtain ⟨g, hm⟩ := grp_good R
  by_cases h : p ∈ (grp R).map l2
  · obtain ⟨r, hr, rfl⟩ := List.mem_map.mp h
    rw [sum_one g.nd hr, g.sm r hr]
  · rw [sum_none h, sum_none fun z => h ((hm p).mpr z)]
theorem first_same (R T : List T3) : ((sortK ((grp R ++ grp T).map l2)).find? fun p => !decide (sum3 (grp R) p = sum3 (grp T) p)) = firstBad R T := by
  unfold firstBad
  have e : (fun p => !decide (sum3 (grp R) p = sum3 (grp T) p)) = fun p => !decide (sum3 R p = sum3 T p) := funext fun p => by rw [grp_sum, grp_sum]
  rw [e]
  refine find_sorted (le := fun a b => lexLe a b = true) lexLe_antisymm (sortK_pw _) (sortK_pw _) fun x => ?_
  rw [mem_sortK, mem_sortK, mem_dd, List.map_append, List.map_append, List.mem_append, List.mem_append, (grp_good R).2, (grp_good T).2]
end K43

/-! K43d: the law's own first fault, walked. -/
namespace K43
open MP
section
variable {F : FT} {M : Sto} {R : List T3}
theorem c_l2a (hR : R.length ≤ 1000) (x1 x2 x3 x4 : Option D) : ev F cls (.comp false [4] (.nm 4) .seq (.var 0) .absent .absent (.slc false (.var 4) .absent (.int 2))) [some (.list (R.map d3)), x1, x2, x3, x4] M = some (.list ((R.map l2).map kD), M) := by
  rw [e_comp]
  simp only [e_var, e_non, e_bl, e_int, e_str, e_bin, e_neg, e_not, e_and, e_or, e_cmp, e_chain, e_isN, e_ife, e_tup, e_lst, e_dct, e_idx, e_slc, e_blt, e_isi, e_fld, e_app, e_ext, e_idxof, e_dget, e_nil, e_cons, x_setv, x_sett, x_setp, x_seti, x_seti2, x_augi, x_setf, x_exp, x_ret, x_ife, x_frz, x_retN, x_pass, x_cont, x_nil, x_cons, getD_list, getD_tup, rd_int, rd_bl, rd_non, rd_str, rd_list, rd_tup, rd_fz, rd_dict, len_list, len_tup, abs_int, min2_int, max2_int, int_int, list_list, list_tup, mk_f, mk_t, truth_bl', truth_int', truth_list', tst_some, line0, line1, line2, line3, line4, line5, line6, line7, line8, asg, optC, optD, optI, isAbs, src_list, src_tup, src_enum, setI, body1, wipeE, List.map_cons, List.map_nil, List.length_cons, List.length_nil, List.replicate, List.cons_append, List.nil_append, List.getElem?_cons_zero, List.getElem?_cons_succ, List.set_cons_zero, List.set_cons_succ, Nat.reduceAdd, Nat.reduceSub, bop_add_int, bop_sub_int, cop_lt_int, cop_gt_int, cop_le_int, cop_ge_int, cop_eq_int, cop_ne_int, atI_c0, atI_c1, atI_c2, atI_c3, if_true, Bool.false_eq_true, if_false, ↓reduceIte, Bool.not_true, Bool.not_false]
  rw [if_pos (by rw [List.length_map]; unfold LINE; omega), compR_mapT (g := fun r => kD (l2 r)) fun r _ => ?_]
  · simp only [List.map_map]; rfl
  · simp only [turnF, d3]
    simp only [e_var, e_non, e_bl, e_int, e_str, e_bin, e_neg, e_not, e_and, e_or, e_cmp, e_chain, e_isN, e_ife, e_tup, e_lst, e_dct, e_idx, e_slc, e_blt, e_isi, e_fld, e_app, e_ext, e_idxof, e_dget, e_nil, e_cons, x_setv, x_sett, x_setp, x_seti, x_seti2, x_augi, x_setf, x_exp, x_ret, x_ife, x_frz, x_retN, x_pass, x_cont, x_nil, x_cons, getD_list, getD_tup, rd_int, rd_bl, rd_non, rd_str, rd_list, rd_tup, rd_fz, rd_dict, len_list, len_tup, abs_int, min2_int, max2_int, int_int, list_list, list_tup, mk_f, mk_t, truth_bl', truth_int', truth_list', tst_some, line0, line1, line2, line3, line4, line5, line6, line7, line8, asg, optC, optD, optI, isAbs, src_list, src_tup, src_enum, setI, body1, wipeE, List.map_cons, List.map_nil, List.length_cons, List.length_nil, List.replicate, List.cons_append, List.nil_append, List.getElem?_cons_zero, List.getElem?_cons_succ, List.set_cons_zero, List.set_cons_succ, Nat.reduceAdd, Nat.reduceSub, bop_add_int, bop_sub_int, cop_lt_int, cop_gt_int, cop_le_int, cop_ge_int, cop_eq_int, cop_ne_int, atI_c0, atI_c1, atI_c2, atI_c3, if_true, Bool.false_eq_true, if_false, ↓reduceIte, Bool.not_true, Bool.not_false, cutD_2]
    rfl
theorem c_sma (hR : R.length ≤ 1000) (p : List Int) (x1 x2 x4 : Option D) : ev F cls (.comp false [4] (.nm 4) .seq (.var 0) .absent (.cmp .eq (.slc false (.var 4) .absent (.int 2)) (.var 3)) (.idx (.var 4) (.int 2))) [some (.list (R.map d3)), x1, x2, some (kD p), x4] M =
    some (.list (((R.filter fun r => decide (l2 r = p)).map fun r => r.2.2).map D.int), M) := by
  rw [e_comp]
  simp only [e_var, e_non, e_bl, e_int, e_str, e_bin, e_neg, e_not, e_and, e_or, e_cmp, e_chain, e_isN, e_ife, e_tup, e_lst, e_dct, e_idx, e_slc, e_blt, e_isi, e_fld, e_app, e_ext, e_idxof, e_dget, e_nil, e_cons, x_setv, x_sett, x_setp, x_seti, x_seti2, x_augi, x_setf, x_exp, x_ret, x_ife, x_frz, x_retN, x_pass, x_cont, x_nil, x_cons, getD_list, getD_tup, rd_int, rd_bl, rd_non, rd_str, rd_list, rd_tup, rd_fz, rd_dict, len_list, len_tup, abs_int, min2_int, max2_int, int_int, list_list, list_tup, mk_f, mk_t, truth_bl', truth_int', truth_list', tst_some, line0, line1, line2, line3, line4, line5, line6, line7, line8, asg, optC, optD, optI, isAbs, src_list, src_tup, src_enum, setI, body1, wipeE, List.map_cons, List.map_nil, List.length_cons, List.length_nil, List.replicate, List.cons_append, List.nil_append, List.getElem?_cons_zero, List.getElem?_cons_succ, List.set_cons_zero, List.set_cons_succ, Nat.reduceAdd, Nat.reduceSub, bop_add_int, bop_sub_int, cop_lt_int, cop_gt_int, cop_le_int, cop_ge_int, cop_eq_int, cop_ne_int, atI_c0, atI_c1, atI_c2, atI_c3, if_true, Bool.false_eq_true, if_false, ↓reduceIte, Bool.not_true, Bool.not_false]
  rw [if_pos (by rw [List.length_map]; unfold LINE; omega), compR_flT (g := fun r => .int r.2.2) (q := fun r => decide (l2 r = p)) fun r _ => ?_]
  · simp only [List.map_map]; rfl
  · simp only [turnF, d3]
    have e : cop .eq (.tup [.int r.1, .int r.2.1]) (kD p) = some (decide (l2 r = p)) := cop_eq_k (l2 r) p
    simp only [e_var, e_non, e_bl, e_int, e_str, e_bin, e_neg, e_not, e_and, e_or, e_cmp, e_chain, e_isN, e_ife, e_tup, e_lst, e_dct, e_idx, e_slc, e_blt, e_isi, e_fld, e_app, e_ext, e_idxof, e_dget, e_nil, e_cons, x_setv, x_sett, x_setp, x_seti, x_seti2, x_augi, x_setf, x_exp, x_ret, x_ife, x_frz, x_retN, x_pass, x_cont, x_nil, x_cons, getD_list, getD_tup, rd_int, rd_bl, rd_non, rd_str, rd_list, rd_tup, rd_fz, rd_dict, len_list, len_tup, abs_int, min2_int, max2_int, int_int, list_list, list_tup, mk_f, mk_t, truth_bl', truth_int', truth_list', tst_some, line0, line1, line2, line3, line4, line5, line6, line7, line8, asg, optC, optD, optI, isAbs, src_list, src_tup, src_enum, setI, body1, wipeE, List.map_cons, List.map_nil, List.length_cons, List.length_nil, List.replicate, List.cons_append, List.nil_append, List.getElem?_cons_zero, List.getElem?_cons_succ, List.set_cons_zero, List.set_cons_succ, Nat.reduceAdd, Nat.reduceSub, bop_add_int, bop_sub_int, cop_lt_int, cop_gt_int, cop_le_int, cop_ge_int, cop_eq_int, cop_ne_int, atI_c0, atI_c1, atI_c2, atI_c3, if_true, Bool.false_eq_true, if_false, ↓reduceIte, Bool.not_true, Bool.not_false, cutD_2, show rd M (kD p) = kD p from rfl, e]
    cases decide (l2 r = p) <;> simp only [e_var, e_non, e_bl, e_int, e_str, e_bin, e_neg, e_not, e_and, e_or, e_cmp, e_chain, e_isN, e_ife, e_tup, e_lst, e_dct, e_idx, e_slc, e_blt, e_isi, e_fld, e_app, e_ext, e_idxof, e_dget, e_nil, e_cons, x_setv, x_sett, x_setp, x_seti, x_seti2, x_augi, x_setf, x_exp, x_ret, x_ife, x_frz, x_retN, x_pass, x_cont, x_nil, x_cons, getD_list, getD_tup, rd_int, rd_bl, rd_non, rd_str, rd_list, rd_tup, rd_fz, rd_dict, len_list, len_tup, abs_int, min2_int, max2_int, int_int, list_list, list_tup, mk_f, mk_t, truth_bl', truth_int', truth_list', tst_some, line0, line1, line2, line3, line4, line5, line6, line7, line8, asg, optC, optD, optI, isAbs, src_list, src_tup, src_enum, setI, body1, wipeE, List.map_cons, List.map_nil, List.length_cons, List.length_nil, List.replicate, List.cons_append, List.nil_append, List.getElem?_cons_zero, List.getElem?_cons_succ, List.set_cons_zero, List.set_cons_succ, Nat.reduceAdd, Nat.reduceSub, bop_add_int, bop_sub_int, cop_lt_int, cop_gt_int, cop_le_int, cop_ge_int, cop_eq_int, cop_ne_int, atI_c0, atI_c1, atI_c2, atI_c3, if_true, Bool.false_eq_true, if_false, ↓reduceIte, Bool.not_true, Bool.not_false]
end
theorem last_map {G : List T3} : (G.map l2).getLast? = (G.getLast?).map l2 := List.getLast?_map
theorem lawsums_run {n : Nat} {R : List T3} (h : R.length ≤ 500) : ∃ M2, run fns cls (n + 1) f_law_sums [.list (R.map d3)] [] = some (.list ((grp R).map d3), M2) := by
  rw [run_full (fn := fns[6]) rfl rfl]
  show ∃ M2, body1 (run fns cls n) cls ⟨"_law_sums", 1, _, b_law_sums, []⟩ _ _ = _
  unfold b_law_sums
  have hso : ∀ M, blt1 .sorted M [.list ((R.map l2).map kD)] = some (.list ((sortK (R.map l2)).map kD)) := fun M => sorted_k fun k hk => by
    have := len_mem2 hk
    intro z; rw [z] at this; cases this
  have loop := forP_fold (f := turnB (run fns cls n) cls (.nm 3) (.cons (.ife (.or (.cmp .eq (.blt false .len (.cons (.var 2) .nil)) (.int 0)) (.cmp .ne (.slc false (.idx (.var 2) (.neg (.int 1))) .absent (.int 2)) (.var 3))) (.cons (.exp (.app (.var 2) (.bin false .add (.var 3) (.tup (.cons (.blt false .sum (.cons (.comp false [4] (.nm 4) .seq (.var 0) .absent (.cmp .eq (.slc false (.var 4) .absent (.int 2)) (.var 3)) (.idx (.var 4) (.int 2))) .nil)) .nil))))) .nil) .nil) .nil))
    (e := kD) (step := stepG R) (J := fun i G env M => M = [.list (G.map d3)] ∧ G.length ≤ i ∧ ∃ x, env = [some (.list (R.map d3)), some (.list ((sortK (R.map l2)).map kD)), some (.loc 0), x, none]) (l := sortK (R.map l2))
    (fun i p hip G env M ⟨hM, hG, x, he⟩ => by
      subst hM he
      have hp : p ∈ sortK (R.map l2) := List.mem_of_getElem? hip
      have hil : i < R.length := by
        have := (List.getElem?_eq_some_iff.mp hip).1
        rw [length_sortK, List.length_map] at this
        exact this
      have hp2 : p.length = 2 := len_mem2 (mem_sortK.mp hp)
      have ha : bop .add (kD p) (.tup [.int (sum3 R p)]) = some (d3 (mk3 R p)) := by
        match p, hp2 with
        | [a, b], _ => rfl
      have hs : ((R.filter fun r => decide (l2 r = p)).map fun r => r.2.2).sum = sum3 R p := rfl
      have hrd : rd [MO.list (G.map d3)] (.loc 0) = .list (G.map d3) := rfl
      have hat : ([MO.list (G.map d3)] : Sto)[0]? = some (.list (G.map d3)) := rfl
      have hz : (G.map d3).length < LINE := by
        rw [List.length_map]
        unfold LINE
        omega
      have hset : ([MO.list (G.map d3)] : Sto).set 0 (.list (G.map d3 ++ [d3 (mk3 R p)])) = [.list ((G ++ [mk3 R p]).map d3)] := by simp
      unfold stepG
      by_cases h0 : G = []
      · rw [if_pos (.inl h0)]
        refine ⟨.next, [some (.list (R.map d3)), some (.list ((sortK (R.map l2)).map kD)), some (.loc 0), some (kD p), none], [.list ((G ++ [mk3 R p]).map d3)], ?_, .inl rfl, rfl, by rw [List.length_append]; exact Nat.succ_le_succ hG, _, rfl⟩
        simp only [turnB]
        have e0 : decide (((G.map d3).length : Int) = 0) = true := by rw [h0]; rfl
        simp only [e_var, e_non, e_bl, e_int, e_str, e_bin, e_neg, e_not, e_and, e_or, e_cmp, e_chain, e_isN, e_ife, e_tup, e_lst, e_dct, e_idx, e_slc, e_blt, e_isi, e_fld, e_app, e_ext, e_idxof, e_dget, e_nil, e_cons, x_setv, x_sett, x_setp, x_seti, x_seti2, x_augi, x_setf, x_exp, x_ret, x_ife, x_frz, x_retN, x_pass, x_cont, x_nil, x_cons, getD_list, getD_tup, rd_int, rd_bl, rd_non, rd_str, rd_list, rd_tup, rd_fz, rd_dict, len_list, len_tup, abs_int, min2_int, max2_int, int_int, list_list, list_tup, mk_f, mk_t, truth_bl', truth_int', truth_list', tst_some, line0, line1, line2, line3, line4, line5, line6, line7, line8, asg, optC, optD, optI, isAbs, src_list, src_tup, src_enum, setI, body1, wipeE, List.map_cons, List.map_nil, List.length_cons, List.length_nil, List.replicate, List.cons_append, List.nil_append, List.getElem?_cons_zero, List.getElem?_cons_succ, List.set_cons_zero, List.set_cons_succ, Nat.reduceAdd, Nat.reduceSub, bop_add_int, bop_sub_int, cop_lt_int, cop_gt_int, cop_le_int, cop_ge_int, cop_eq_int, cop_ne_int, atI_c0, atI_c1, atI_c2, atI_c3, if_true, Bool.false_eq_true, if_false, ↓reduceIte, Bool.not_true, Bool.not_false, hrd, e0, c_sma (R := R) (by omega), hs, sum_map, show ∀ M, rd M (kD p) = kD p from fun _ => rfl, ha, hat, hz, hset]
      · obtain ⟨g, hg⟩ : ∃ g, G.getLast? = some g := by
          cases e : G.getLast? with
          | none => exact absurd (List.getLast?_eq_none_iff.mp e) h0
          | some g => exact ⟨g, rfl⟩
        have hlast : L2.atI (G.map d3) (-1) = some (d3 g) := by
          rw [List.getLast?_eq_some_iff] at hg
          obtain ⟨ys, rfl⟩ := hg
          rw [List.map_append]
          exact L2.atI_last _ _
        have e0 : decide (((G.map d3).length : Int) = 0) = false := by
          rw [List.length_map]
          have := List.length_pos_iff.mpr h0
          exact decide_eq_false (by omega)
        have ecmp : cop .ne (.tup [.int g.1, .int g.2.1]) (kD p) = some (!decide (l2 g = p)) := cop_ne_k (l2 g) p
        have hl : (G.map l2).getLast? = some (l2 g) := by rw [List.getLast?_map, hg]; rfl
        by_cases hq : l2 g = p
        · rw [if_neg (by rw [hl, hq]; simp [h0])]
          refine ⟨.next, [some (.list (R.map d3)), some (.list ((sortK (R.map l2)).map kD)), some (.loc 0), some (kD p), none], [.list (G.map d3)], ?_, .inl rfl, rfl, by omega, _, rfl⟩
          simp only [turnB]
          rw [decide_eq_true hq] at ecmp
          simp only [e_var, e_non, e_bl, e_int, e_str, e_bin, e_neg, e_not, e_and, e_or, e_cmp, e_chain, e_isN, e_ife, e_tup, e_lst, e_dct, e_idx, e_slc, e_blt, e_isi, e_fld, e_app, e_ext, e_idxof, e_dget, e_nil, e_cons, x_setv, x_sett, x_setp, x_seti, x_seti2, x_augi, x_setf, x_exp, x_ret, x_ife, x_frz, x_retN, x_pass, x_cont, x_nil, x_cons, getD_list, getD_tup, rd_int, rd_bl, rd_non, rd_str, rd_list, rd_tup, rd_fz, rd_dict, len_list, len_tup, abs_int, min2_int, max2_int, int_int, list_list, list_tup, mk_f, mk_t, truth_bl', truth_int', truth_list', tst_some, line0, line1, line2, line3, line4, line5, line6, line7, line8, asg, optC, optD, optI, isAbs, src_list, src_tup, src_enum, setI, body1, wipeE, List.map_cons, List.map_nil, List.length_cons, List.length_nil, List.replicate, List.cons_append, List.nil_append, List.getElem?_cons_zero, List.getElem?_cons_succ, List.set_cons_zero, List.set_cons_succ, Nat.reduceAdd, Nat.reduceSub, bop_add_int, bop_sub_int, cop_lt_int, cop_gt_int, cop_le_int, cop_ge_int, cop_eq_int, cop_ne_int, atI_c0, atI_c1, atI_c2, atI_c3, if_true, Bool.false_eq_true, if_false, ↓reduceIte, Bool.not_true, Bool.not_false, hrd, e0, show (-(1 : Int)) = -1 from rfl, hlast, d3, cutD_2, ecmp, Bool.not_true, show ∀ M, rd M (kD p) = kD p from fun _ => rfl]
        · rw [if_pos (.inr (by rw [hl]; simpa using hq))]
          refine ⟨.next, [some (.list (R.map d3)), some (.list ((sortK (R.map l2)).map kD)), some (.loc 0), some (kD p), none], [.list ((G ++ [mk3 R p]).map d3)], ?_, .inl rfl, rfl, by rw [List.length_append]; exact Nat.succ_le_succ hG, _, rfl⟩
          simp only [turnB]
          rw [decide_eq_false hq] at ecmp
          simp only [e_var, e_non, e_bl, e_int, e_str, e_bin, e_neg, e_not, e_and, e_or, e_cmp, e_chain, e_isN, e_ife, e_tup, e_lst, e_dct, e_idx, e_slc, e_blt, e_isi, e_fld, e_app, e_ext, e_idxof, e_dget, e_nil, e_cons, x_setv, x_sett, x_setp, x_seti, x_seti2, x_augi, x_setf, x_exp, x_ret, x_ife, x_frz, x_retN, x_pass, x_cont, x_nil, x_cons, getD_list, getD_tup, rd_int, rd_bl, rd_non, rd_str, rd_list, rd_tup, rd_fz, rd_dict, len_list, len_tup, abs_int, min2_int, max2_int, int_int, list_list, list_tup, mk_f, mk_t, truth_bl', truth_int', truth_list', tst_some, line0, line1, line2, line3, line4, line5, line6, line7, line8, asg, optC, optD, optI, isAbs, src_list, src_tup, src_enum, setI, body1, wipeE, List.map_cons, List.map_nil, List.length_cons, List.length_nil, List.replicate, List.cons_append, List.nil_append, List.getElem?_cons_zero, List.getElem?_cons_succ, List.set_cons_zero, List.set_cons_succ, Nat.reduceAdd, Nat.reduceSub, bop_add_int, bop_sub_int, cop_lt_int, cop_gt_int, cop_le_int, cop_ge_int, cop_eq_int, cop_ne_int, atI_c0, atI_c1, atI_c2, atI_c3, if_true, Bool.false_eq_true, if_false, ↓reduceIte, Bool.not_true, Bool.not_false, hrd, e0, hlast, show ∀ M (r : T3), rd M (d3 r) = .tup [.int r.1, .int r.2.1, .int r.2.2] from fun _ _ => rfl, cutD_2, ecmp, Bool.not_false, show ∀ M, rd M (kD p) = kD p from fun _ => rfl, c_sma (R := R) (by omega), hs, sum_map, ha, hat, hz, hset]) [] [some (.list (R.map d3)), some (.list ((sortK (R.map l2)).map kD)), some (.loc 0), none, none] [.list []] ⟨rfl, Nat.le_refl 0, none, rfl⟩
  obtain ⟨env', M', e1, e2, _, x, e3⟩ := loop
  subst e2 e3
  simp only [e_var, e_non, e_bl, e_int, e_str, e_bin, e_neg, e_not, e_and, e_or, e_cmp, e_chain, e_isN, e_ife, e_tup, e_lst, e_dct, e_idx, e_slc, e_blt, e_isi, e_fld, e_app, e_ext, e_idxof, e_dget, e_nil, e_cons, x_setv, x_sett, x_setp, x_seti, x_seti2, x_augi, x_setf, x_exp, x_ret, x_ife, x_frz, x_retN, x_pass, x_cont, x_nil, x_cons, getD_list, getD_tup, rd_int, rd_bl, rd_non, rd_str, rd_list, rd_tup, rd_fz, rd_dict, len_list, len_tup, abs_int, min2_int, max2_int, int_int, list_list, list_tup, mk_f, mk_t, truth_bl', truth_int', truth_list', tst_some, line0, line1, line2, line3, line4, line5, line6, line7, line8, asg, optC, optD, optI, isAbs, src_list, src_tup, src_enum, setI, body1, wipeE, List.map_cons, List.map_nil, List.length_cons, List.length_nil, List.replicate, List.cons_append, List.nil_append, List.getElem?_cons_zero, List.getElem?_cons_succ, List.set_cons_zero, List.set_cons_succ, Nat.reduceAdd, Nat.reduceSub, bop_add_int, bop_sub_int, cop_lt_int, cop_gt_int, cop_le_int, cop_ge_int, cop_eq_int, cop_ne_int, atI_c0, atI_c1, atI_c2, atI_c3, if_true, Bool.false_eq_true, if_false, ↓reduceIte, Bool.not_true, Bool.not_false, c_l2a (R := R) (by omega), hso, x_for, e1]
  refine ⟨_, rfl⟩
end K43

/-! K43e: the law's first fault, walked; both fault functions. -/
namespace K43
open MP
section
variable {F : FT} {M : Sto} {R : List T3}
theorem c_l2b {A B : List T3} (hR : A.length + B.length ≤ 1000) (x0 x1 x2 x3 x4 x7 : Option D) : ev F cls (.comp false [7] (.nm 7) .seq (.bin false .add (.var 5) (.var 6)) .absent .absent (.slc false (.var 7) .absent (.int 2))) [x0, x1, x2, x3, x4, some (.list (A.map d3)), some (.list (B.map d3)), x7] M = some (.list (((A ++ B).map l2).map kD), M) := by
  have hadd : bop .add (.list (A.map d3)) (.list (B.map d3)) = some (.list ((A ++ B).map d3)) := by
    rw [bop_add_list (by simp only [List.length_map]; unfold LINE; omega)]
    simp
  rw [e_comp]
  simp only [e_var, e_non, e_bl, e_int, e_str, e_bin, e_neg, e_not, e_and, e_or, e_cmp, e_chain, e_isN, e_ife, e_tup, e_lst, e_dct, e_idx, e_slc, e_blt, e_isi, e_fld, e_app, e_ext, e_idxof, e_dget, e_nil, e_cons, x_setv, x_sett, x_setp, x_seti, x_seti2, x_augi, x_setf, x_exp, x_ret, x_ife, x_frz, x_retN, x_pass, x_cont, x_nil, x_cons, getD_list, getD_tup, rd_int, rd_bl, rd_non, rd_str, rd_list, rd_tup, rd_fz, rd_dict, len_list, len_tup, abs_int, min2_int, max2_int, int_int, list_list, list_tup, mk_f, mk_t, truth_bl', truth_int', truth_list', tst_some, line0, line1, line2, line3, line4, line5, line6, line7, line8, asg, optC, optD, optI, isAbs, src_list, src_tup, src_enum, setI, body1, wipeE, List.map_cons, List.map_nil, List.length_cons, List.length_nil, List.replicate, List.cons_append, List.nil_append, List.getElem?_cons_zero, List.getElem?_cons_succ, List.set_cons_zero, List.set_cons_succ, Nat.reduceAdd, Nat.reduceSub, bop_add_int, bop_sub_int, cop_lt_int, cop_gt_int, cop_le_int, cop_ge_int, cop_eq_int, cop_ne_int, atI_c0, atI_c1, atI_c2, atI_c3, if_true, Bool.false_eq_true, if_false, ↓reduceIte, Bool.not_true, Bool.not_false, hadd]
  rw [if_pos (by rw [List.length_map, List.length_append]; unfold LINE; omega), compR_mapT (g := fun r => kD (l2 r)) fun r _ => ?_]
  · simp only [List.map_map]; rfl
  · simp only [turnF, d3]
    simp only [e_var, e_non, e_bl, e_int, e_str, e_bin, e_neg, e_not, e_and, e_or, e_cmp, e_chain, e_isN, e_ife, e_tup, e_lst, e_dct, e_idx, e_slc, e_blt, e_isi, e_fld, e_app, e_ext, e_idxof, e_dget, e_nil, e_cons, x_setv, x_sett, x_setp, x_seti, x_seti2, x_augi, x_setf, x_exp, x_ret, x_ife, x_frz, x_retN, x_pass, x_cont, x_nil, x_cons, getD_list, getD_tup, rd_int, rd_bl, rd_non, rd_str, rd_list, rd_tup, rd_fz, rd_dict, len_list, len_tup, abs_int, min2_int, max2_int, int_int, list_list, list_tup, mk_f, mk_t, truth_bl', truth_int', truth_list', tst_some, line0, line1, line2, line3, line4, line5, line6, line7, line8, asg, optC, optD, optI, isAbs, src_list, src_tup, src_enum, setI, body1, wipeE, List.map_cons, List.map_nil, List.length_cons, List.length_nil, List.replicate, List.cons_append, List.nil_append, List.getElem?_cons_zero, List.getElem?_cons_succ, List.set_cons_zero, List.set_cons_succ, Nat.reduceAdd, Nat.reduceSub, bop_add_int, bop_sub_int, cop_lt_int, cop_gt_int, cop_le_int, cop_ge_int, cop_eq_int, cop_ne_int, atI_c0, atI_c1, atI_c2, atI_c3, if_true, Bool.false_eq_true, if_false, ↓reduceIte, Bool.not_true, Bool.not_false, cutD_2]
    rfl
theorem c_smb5 (hR : R.length ≤ 1000) (p : List Int) (x0 x1 x2 x3 x6 x7 : Option D) : ev F cls (.comp false [7] (.nm 7) .seq (.var 5) .absent (.cmp .eq (.slc false (.var 7) .absent (.int 2)) (.var 4)) (.idx (.var 7) (.int 2))) [x0, x1, x2, x3, some (kD p), some (.list (R.map d3)), x6, x7] M =
    some (.list (((R.filter fun r => decide (l2 r = p)).map fun r => r.2.2).map D.int), M) := by
  rw [e_comp]
  simp only [e_var, e_non, e_bl, e_int, e_str, e_bin, e_neg, e_not, e_and, e_or, e_cmp, e_chain, e_isN, e_ife, e_tup, e_lst, e_dct, e_idx, e_slc, e_blt, e_isi, e_fld, e_app, e_ext, e_idxof, e_dget, e_nil, e_cons, x_setv, x_sett, x_setp, x_seti, x_seti2, x_augi, x_setf, x_exp, x_ret, x_ife, x_frz, x_retN, x_pass, x_cont, x_nil, x_cons, getD_list, getD_tup, rd_int, rd_bl, rd_non, rd_str, rd_list, rd_tup, rd_fz, rd_dict, len_list, len_tup, abs_int, min2_int, max2_int, int_int, list_list, list_tup, mk_f, mk_t, truth_bl', truth_int', truth_list', tst_some, line0, line1, line2, line3, line4, line5, line6, line7, line8, asg, optC, optD, optI, isAbs, src_list, src_tup, src_enum, setI, body1, wipeE, List.map_cons, List.map_nil, List.length_cons, List.length_nil, List.replicate, List.cons_append, List.nil_append, List.getElem?_cons_zero, List.getElem?_cons_succ, List.set_cons_zero, List.set_cons_succ, Nat.reduceAdd, Nat.reduceSub, bop_add_int, bop_sub_int, cop_lt_int, cop_gt_int, cop_le_int, cop_ge_int, cop_eq_int, cop_ne_int, atI_c0, atI_c1, atI_c2, atI_c3, if_true, Bool.false_eq_true, if_false, ↓reduceIte, Bool.not_true, Bool.not_false]
  rw [if_pos (by rw [List.length_map]; unfold LINE; omega), compR_flT (g := fun r => .int r.2.2) (q := fun r => decide (l2 r = p)) fun r _ => ?_]
  · simp only [List.map_map]; rfl
  · simp only [turnF, d3]
    have e : cop .eq (.tup [.int r.1, .int r.2.1]) (kD p) = some (decide (l2 r = p)) := cop_eq_k (l2 r) p
    simp only [e_var, e_non, e_bl, e_int, e_str, e_bin, e_neg, e_not, e_and, e_or, e_cmp, e_chain, e_isN, e_ife, e_tup, e_lst, e_dct, e_idx, e_slc, e_blt, e_isi, e_fld, e_app, e_ext, e_idxof, e_dget, e_nil, e_cons, x_setv, x_sett, x_setp, x_seti, x_seti2, x_augi, x_setf, x_exp, x_ret, x_ife, x_frz, x_retN, x_pass, x_cont, x_nil, x_cons, getD_list, getD_tup, rd_int, rd_bl, rd_non, rd_str, rd_list, rd_tup, rd_fz, rd_dict, len_list, len_tup, abs_int, min2_int, max2_int, int_int, list_list, list_tup, mk_f, mk_t, truth_bl', truth_int', truth_list', tst_some, line0, line1, line2, line3, line4, line5, line6, line7, line8, asg, optC, optD, optI, isAbs, src_list, src_tup, src_enum, setI, body1, wipeE, List.map_cons, List.map_nil, List.length_cons, List.length_nil, List.replicate, List.cons_append, List.nil_append, List.getElem?_cons_zero, List.getElem?_cons_succ, List.set_cons_zero, List.set_cons_succ, Nat.reduceAdd, Nat.reduceSub, bop_add_int, bop_sub_int, cop_lt_int, cop_gt_int, cop_le_int, cop_ge_int, cop_eq_int, cop_ne_int, atI_c0, atI_c1, atI_c2, atI_c3, if_true, Bool.false_eq_true, if_false, ↓reduceIte, Bool.not_true, Bool.not_false, cutD_2, show rd M (kD p) = kD p from rfl, e]
    cases decide (l2 r = p) <;> simp only [e_var, e_non, e_bl, e_int, e_str, e_bin, e_neg, e_not, e_and, e_or, e_cmp, e_chain, e_isN, e_ife, e_tup, e_lst, e_dct, e_idx, e_slc, e_blt, e_isi, e_fld, e_app, e_ext, e_idxof, e_dget, e_nil, e_cons, x_setv, x_sett, x_setp, x_seti, x_seti2, x_augi, x_setf, x_exp, x_ret, x_ife, x_frz, x_retN, x_pass, x_cont, x_nil, x_cons, getD_list, getD_tup, rd_int, rd_bl, rd_non, rd_str, rd_list, rd_tup, rd_fz, rd_dict, len_list, len_tup, abs_int, min2_int, max2_int, int_int, list_list, list_tup, mk_f, mk_t, truth_bl', truth_int', truth_list', tst_some, line0, line1, line2, line3, line4, line5, line6, line7, line8, asg, optC, optD, optI, isAbs, src_list, src_tup, src_enum, setI, body1, wipeE, List.map_cons, List.map_nil, List.length_cons, List.length_nil, List.replicate, List.cons_append, List.nil_append, List.getElem?_cons_zero, List.getElem?_cons_succ, List.set_cons_zero, List.set_cons_succ, Nat.reduceAdd, Nat.reduceSub, bop_add_int, bop_sub_int, cop_lt_int, cop_gt_int, cop_le_int, cop_ge_int, cop_eq_int, cop_ne_int, atI_c0, atI_c1, atI_c2, atI_c3, if_true, Bool.false_eq_true, if_false, ↓reduceIte, Bool.not_true, Bool.not_false]
theorem c_smb6 (hR : R.length ≤ 1000) (p : List Int) (x0 x1 x2 x3 x5 x7 : Option D) : ev F cls (.comp false [7] (.nm 7) .seq (.var 6) .absent (.cmp .eq (.slc false (.var 7) .absent (.int 2)) (.var 4)) (.idx (.var 7) (.int 2))) [x0, x1, x2, x3, some (kD p), x5, some (.list (R.map d3)), x7] M =
    some (.list (((R.filter fun r => decide (l2 r = p)).map fun r => r.2.2).map D.int), M) := by
  rw [e_comp]
  simp only [e_var, e_non, e_bl, e_int, e_str, e_bin, e_neg, e_not, e_and, e_or, e_cmp, e_chain, e_isN, e_ife, e_tup, e_lst, e_dct, e_idx, e_slc, e_blt, e_isi, e_fld, e_app, e_ext, e_idxof, e_dget, e_nil, e_cons, x_setv, x_sett, x_setp, x_seti, x_seti2, x_augi, x_setf, x_exp, x_ret, x_ife, x_frz, x_retN, x_pass, x_cont, x_nil, x_cons, getD_list, getD_tup, rd_int, rd_bl, rd_non, rd_str, rd_list, rd_tup, rd_fz, rd_dict, len_list, len_tup, abs_int, min2_int, max2_int, int_int, list_list, list_tup, mk_f, mk_t, truth_bl', truth_int', truth_list', tst_some, line0, line1, line2, line3, line4, line5, line6, line7, line8, asg, optC, optD, optI, isAbs, src_list, src_tup, src_enum, setI, body1, wipeE, List.map_cons, List.map_nil, List.length_cons, List.length_nil, List.replicate, List.cons_append, List.nil_append, List.getElem?_cons_zero, List.getElem?_cons_succ, List.set_cons_zero, List.set_cons_succ, Nat.reduceAdd, Nat.reduceSub, bop_add_int, bop_sub_int, cop_lt_int, cop_gt_int, cop_le_int, cop_ge_int, cop_eq_int, cop_ne_int, atI_c0, atI_c1, atI_c2, atI_c3, if_true, Bool.false_eq_true, if_false, ↓reduceIte, Bool.not_true, Bool.not_false]
  rw [if_pos (by rw [List.length_map]; unfold LINE; omega), compR_flT (g := fun r => .int r.2.2) (q := fun r => decide (l2 r = p)) fun r _ => ?_]
  · simp only [List.map_map]; rfl
  · simp only [turnF, d3]
    have e : cop .eq (.tup [.int r.1, .int r.2.1]) (kD p) = some (decide (l2 r = p)) := cop_eq_k (l2 r) p
    simp only [e_var, e_non, e_bl, e_int, e_str, e_bin, e_neg, e_not, e_and, e_or, e_cmp, e_chain, e_isN, e_ife, e_tup, e_lst, e_dct, e_idx, e_slc, e_blt, e_isi, e_fld, e_app, e_ext, e_idxof, e_dget, e_nil, e_cons, x_setv, x_sett, x_setp, x_seti, x_seti2, x_augi, x_setf, x_exp, x_ret, x_ife, x_frz, x_retN, x_pass, x_cont, x_nil, x_cons, getD_list, getD_tup, rd_int, rd_bl, rd_non, rd_str, rd_list, rd_tup, rd_fz, rd_dict, len_list, len_tup, abs_int, min2_int, max2_int, int_int, list_list, list_tup, mk_f, mk_t, truth_bl', truth_int', truth_list', tst_some, line0, line1, line2, line3, line4, line5, line6, line7, line8, asg, optC, optD, optI, isAbs, src_list, src_tup, src_enum, setI, body1, wipeE, List.map_cons, List.map_nil, List.length_cons, List.length_nil, List.replicate, List.cons_append, List.nil_append, List.getElem?_cons_zero, List.getElem?_cons_succ, List.set_cons_zero, List.set_cons_succ, Nat.reduceAdd, Nat.reduceSub, bop_add_int, bop_sub_int, cop_lt_int, cop_gt_int, cop_le_int, cop_ge_int, cop_eq_int, cop_ne_int, atI_c0, atI_c1, atI_c2, atI_c3, if_true, Bool.false_eq_true, if_false, ↓reduceIte, Bool.not_true, Bool.not_false, cutD_2, show rd M (kD p) = kD p from rfl, e]
    cases decide (l2 r = p) <;> simp only [e_var, e_non, e_bl, e_int, e_str, e_bin, e_neg, e_not, e_and, e_or, e_cmp, e_chain, e_isN, e_ife, e_tup, e_lst, e_dct, e_idx, e_slc, e_blt, e_isi, e_fld, e_app, e_ext, e_idxof, e_dget, e_nil, e_cons, x_setv, x_sett, x_setp, x_seti, x_seti2, x_augi, x_setf, x_exp, x_ret, x_ife, x_frz, x_retN, x_pass, x_cont, x_nil, x_cons, getD_list, getD_tup, rd_int, rd_bl, rd_non, rd_str, rd_list, rd_tup, rd_fz, rd_dict, len_list, len_tup, abs_int, min2_int, max2_int, int_int, list_list, list_tup, mk_f, mk_t, truth_bl', truth_int', truth_list', tst_some, line0, line1, line2, line3, line4, line5, line6, line7, line8, asg, optC, optD, optI, isAbs, src_list, src_tup, src_enum, setI, body1, wipeE, List.map_cons, List.map_nil, List.length_cons, List.length_nil, List.replicate, List.cons_append, List.nil_append, List.getElem?_cons_zero, List.getElem?_cons_succ, List.set_cons_zero, List.set_cons_succ, Nat.reduceAdd, Nat.reduceSub, bop_add_int, bop_sub_int, cop_lt_int, cop_gt_int, cop_le_int, cop_ge_int, cop_eq_int, cop_ne_int, atI_c0, atI_c1, atI_c2, atI_c3, if_true, Bool.false_eq_true, if_false, ↓reduceIte, Bool.not_true, Bool.not_false]
end
theorem below_d3 (n : Nat) (R : List T3) : below n (.list (R.map d3)) = true := by
  rw [below]
  exact belowL_all fun d hd => by
    obtain ⟨r, _, rfl⟩ := List.mem_map.mp hd
    rfl
theorem grp_len (R : List T3) : (grp R).length ≤ R.length := by
  have h := grp_good R
  have := len_sub (m := (grp R).map l2) (l := R.map l2) h.1.nd fun x hx => (h.2 x).mp hx
  simpa using this
theorem first_run {n : Nat} {M : Sto} {R T : List T3} {w : PySem.Str} (h : R.length + T.length ≤ 500) : run fns cls (n + 2) f_law_first [.list (R.map d3), .list (T.map d3), .str w] M = some (resF w (firstBad R T), M) := by
  rw [run_full (fn := fns[7]) rfl rfl]
  show body1 (run fns cls (n + 1)) cls ⟨"_law_first", 3, _, b_law_first, []⟩ _ _ = _
  unfold b_law_first
  obtain ⟨N1, e1⟩ := lawsums_run (n := n) (R := R) (by omega)
  obtain ⟨N2, e2⟩ := lawsums_run (n := n) (R := T) (by omega)
  have c1 : callM (run fns cls (n + 1)) .pure 6 [.list (R.map d3)] M = some (.list ((grp R).map d3), M) := call_pure (by rw [belowL, below_d3]; rfl) e1 (below_d3 0 (grp R))
  have c2 : callM (run fns cls (n + 1)) .pure 6 [.list (T.map d3)] M = some (.list ((grp T).map d3), M) := call_pure (by rw [belowL, below_d3]; rfl) e2 (below_d3 0 (grp T))
  have g1 := grp_len R
  have g2 := grp_len T
  have hso : blt1 .sorted M [.list (((grp R ++ grp T).map l2).map kD)] = some (.list ((sortK ((grp R ++ grp T).map l2)).map kD)) := sorted_k fun k hk => by
    have := len_mem2 hk
    intro z; rw [z] at this; cases this
  obtain ⟨env', hf, _⟩ := forP_find (f := turnB (run fns cls (n + 1)) cls (.nm 4) (.cons (.ife (.cmp .ne (.blt false .sum (.cons (.comp false [7] (.nm 7) .seq (.var 5) .absent (.cmp .eq (.slc false (.var 7) .absent (.int 2)) (.var 4)) (.idx (.var 7) (.int 2))) .nil)) (.blt false .sum (.cons (.comp false [7] (.nm 7) .seq (.var 6) .absent (.cmp .eq (.slc false (.var 7) .absent (.int 2)) (.var 4)) (.idx (.var 7) (.int 2))) .nil))) (.cons (.ret (.bin false .add (.tup (.cons (.var 2) .nil)) (.var 4))) .nil) .nil) .nil))
    (e := kD) (q := fun p => !decide (sum3 (grp R) p = sum3 (grp T) p)) (res := fun p => .tup (.str w :: p.map D.int)) (M := M) (P := fun env => ∃ x, env = [some (.list (R.map d3)), some (.list (T.map d3)), some (.str w), some (.list ((sortK ((grp R ++ grp T).map l2)).map kD)), x, some (.list ((grp R).map d3)), some (.list ((grp T).map d3)), none]) (l := sortK ((grp R ++ grp T).map l2))
    (fun p hp env ⟨x, he⟩ => by
      subst he
      have hp2 : p.length = 2 := len_mem2 (R := grp R ++ grp T) (mem_sortK.mp hp)
      refine ⟨_, ?_, some (kD p), rfl⟩
      simp only [turnB]
      have ha : bop .add (.tup [.str w]) (kD p) = some (.tup (.str w :: p.map D.int)) := by
        unfold kD
        rw [bop_add_tup (by simp only [List.length_map, List.length_cons, List.length_nil, hp2]; unfold LINE; omega)]
        rfl
      simp only [e_var, e_non, e_bl, e_int, e_str, e_bin, e_neg, e_not, e_and, e_or, e_cmp, e_chain, e_isN, e_ife, e_tup, e_lst, e_dct, e_idx, e_slc, e_blt, e_isi, e_fld, e_app, e_ext, e_idxof, e_dget, e_nil, e_cons, x_setv, x_sett, x_setp, x_seti, x_seti2, x_augi, x_setf, x_exp, x_ret, x_ife, x_frz, x_retN, x_pass, x_cont, x_nil, x_cons, getD_list, getD_tup, rd_int, rd_bl, rd_non, rd_str, rd_list, rd_tup, rd_fz, rd_dict, len_list, len_tup, abs_int, min2_int, max2_int, int_int, list_list, list_tup, mk_f, mk_t, truth_bl', truth_int', truth_list', tst_some, line0, line1, line2, line3, line4, line5, line6, line7, line8, asg, optC, optD, optI, isAbs, src_list, src_tup, src_enum, setI, body1, wipeE, List.map_cons, List.map_nil, List.length_cons, List.length_nil, List.replicate, List.cons_append, List.nil_append, List.getElem?_cons_zero, List.getElem?_cons_succ, List.set_cons_zero, List.set_cons_succ, Nat.reduceAdd, Nat.reduceSub, bop_add_int, bop_sub_int, cop_lt_int, cop_gt_int, cop_le_int, cop_ge_int, cop_eq_int, cop_ne_int, atI_c0, atI_c1, atI_c2, atI_c3, if_true, Bool.false_eq_true, if_false, ↓reduceIte, Bool.not_true, Bool.not_false, c_smb5 (R := grp R) (by omega), c_smb6 (R := grp T) (by omega), sum_map, show rd M (kD p) = kD p from rfl, ha]
      rw [show (((grp R).filter fun r => decide (l2 r = p)).map fun r => r.2.2).sum = sum3 (grp R) p from rfl, show (((grp T).filter fun r => decide (l2 r = p)).map fun r => r.2.2).sum = sum3 (grp T) p from rfl]
      cases decide (sum3 (grp R) p = sum3 (grp T) p) <;> simp only [e_var, e_non, e_bl, e_int, e_str, e_bin, e_neg, e_not, e_and, e_or, e_cmp, e_chain, e_isN, e_ife, e_tup, e_lst, e_dct, e_idx, e_slc, e_blt, e_isi, e_fld, e_app, e_ext, e_idxof, e_dget, e_nil, e_cons, x_setv, x_sett, x_setp, x_seti, x_seti2, x_augi, x_setf, x_exp, x_ret, x_ife, x_frz, x_retN, x_pass, x_cont, x_nil, x_cons, getD_list, getD_tup, rd_int, rd_bl, rd_non, rd_str, rd_list, rd_tup, rd_fz, rd_dict, len_list, len_tup, abs_int, min2_int, max2_int, int_int, list_list, list_tup, mk_f, mk_t, truth_bl', truth_int', truth_list', tst_some, line0, line1, line2, line3, line4, line5, line6, line7, line8, asg, optC, optD, optI, isAbs, src_list, src_tup, src_enum, setI, body1, wipeE, List.map_cons, List.map_nil, List.length_cons, List.length_nil, List.replicate, List.cons_append, List.nil_append, List.getElem?_cons_zero, List.getElem?_cons_succ, List.set_cons_zero, List.set_cons_succ, Nat.reduceAdd, Nat.reduceSub, bop_add_int, bop_sub_int, cop_lt_int, cop_gt_int, cop_le_int, cop_ge_int, cop_eq_int, cop_ne_int, atI_c0, atI_c1, atI_c2, atI_c3, if_true, Bool.false_eq_true, if_false, ↓reduceIte, Bool.not_true, Bool.not_false, Bool.not_true, Bool.not_false, show rd M (kD p) = kD p from rfl, ha]) _ ⟨none, rfl⟩
  rw [← first_same]
  simp only [e_var, e_non, e_bl, e_int, e_str, e_bin, e_neg, e_not, e_and, e_or, e_cmp, e_chain, e_isN, e_ife, e_tup, e_lst, e_dct, e_idx, e_slc, e_blt, e_isi, e_fld, e_app, e_ext, e_idxof, e_dget, e_nil, e_cons, x_setv, x_sett, x_setp, x_seti, x_seti2, x_augi, x_setf, x_exp, x_ret, x_ife, x_frz, x_retN, x_pass, x_cont, x_nil, x_cons, getD_list, getD_tup, rd_int, rd_bl, rd_non, rd_str, rd_list, rd_tup, rd_fz, rd_dict, len_list, len_tup, abs_int, min2_int, max2_int, int_int, list_list, list_tup, mk_f, mk_t, truth_bl', truth_int', truth_list', tst_some, line0, line1, line2, line3, line4, line5, line6, line7, line8, asg, optC, optD, optI, isAbs, src_list, src_tup, src_enum, setI, body1, wipeE, List.map_cons, List.map_nil, List.length_cons, List.length_nil, List.replicate, List.cons_append, List.nil_append, List.getElem?_cons_zero, List.getElem?_cons_succ, List.set_cons_zero, List.set_cons_succ, Nat.reduceAdd, Nat.reduceSub, bop_add_int, bop_sub_int, cop_lt_int, cop_gt_int, cop_le_int, cop_ge_int, cop_eq_int, cop_ne_int, atI_c0, atI_c1, atI_c2, atI_c3, if_true, Bool.false_eq_true, if_false, ↓reduceIte, Bool.not_true, Bool.not_false, e_call, c1, c2, c_l2b (A := grp R) (B := grp T) (by omega), hso, x_for, hf]
  cases (sortK ((grp R ++ grp T).map l2)).find? fun p => !decide (sum3 (grp R) p = sum3 (grp T) p) <;> simp only [e_var, e_non, e_bl, e_int, e_str, e_bin, e_neg, e_not, e_and, e_or, e_cmp, e_chain, e_isN, e_ife, e_tup, e_lst, e_dct, e_idx, e_slc, e_blt, e_isi, e_fld, e_app, e_ext, e_idxof, e_dget, e_nil, e_cons, x_setv, x_sett, x_setp, x_seti, x_seti2, x_augi, x_setf, x_exp, x_ret, x_ife, x_frz, x_retN, x_pass, x_cont, x_nil, x_cons, getD_list, getD_tup, rd_int, rd_bl, rd_non, rd_str, rd_list, rd_tup, rd_fz, rd_dict, len_list, len_tup, abs_int, min2_int, max2_int, int_int, list_list, list_tup, mk_f, mk_t, truth_bl', truth_int', truth_list', tst_some, line0, line1, line2, line3, line4, line5, line6, line7, line8, asg, optC, optD, optI, isAbs, src_list, src_tup, src_enum, setI, body1, wipeE, List.map_cons, List.map_nil, List.length_cons, List.length_nil, List.replicate, List.cons_append, List.nil_append, List.getElem?_cons_zero, List.getElem?_cons_succ, List.set_cons_zero, List.set_cons_succ, Nat.reduceAdd, Nat.reduceSub, bop_add_int, bop_sub_int, cop_lt_int, cop_gt_int, cop_le_int, cop_ge_int, cop_eq_int, cop_ne_int, atI_c0, atI_c1, atI_c2, atI_c3, if_true, Bool.false_eq_true, if_false, ↓reduceIte, Bool.not_true, Bool.not_false, resF]
end K43

/-! K43f: the two fault functions tell the same. -/
namespace K43
open MP
def l3 (r : T4) : List Int := [r.1, r.2.1, r.2.2.1]
def p1 (r : T4) : T3 := (r.1, r.2.1, r.2.2.2)
def p2 (r : T4) : T3 := (r.2.2.1, r.2.1, r.2.2.2)
def badAt (Q : List T4) (i : Nat) : Bool := match Q[i]? with
  | none => false
  | some r => decide (r.2.2.2 < 1) || (decide (0 < i) && match Q[i - 1]? with
    | some q => lexLe (l3 r) (l3 q)
    | none => false)
def formBad (Q : List T4) : Option Nat := (List.range Q.length).find? (badAt Q)
def resT (A B : List T3) (Q : List T4) : D := match formBad Q with
  | some i => .tup [.str "form", .int i]
  | none => match firstBad A (Q.map p1) with
    | some p => .tup (.str "first" :: p.map D.int)
    | none => resF "second" (firstBad B (Q.map p2))
theorem bare_res (w : PySem.Str) (x : Option (List Int)) : bare (resF w x) = true := by
  cases x with
  | none => rfl
  | some p =>
    unfold resF
    rw [bare]
    have : ∀ k : List Int, bareL (k.map D.int) = true := fun k => by
      induction k with
      | nil => rfl
      | cons x k ih => rw [List.map_cons, bareL, ih]; rfl
    rw [bareL, this]; rfl
theorem below_res (w : PySem.Str) (x : Option (List Int)) : below 0 (resF w x) = true := by
  cases x with
  | none => rfl
  | some p =>
    unfold resF
    rw [below]
    have : ∀ k : List Int, belowL 0 (k.map D.int) = true := fun k => by
      induction k with
      | nil => rfl
      | cons x k ih => rw [List.map_cons, belowL, ih]; rfl
    rw [belowL, this]; rfl
theorem rd_res (w : PySem.Str) (x : Option (List Int)) (M : Sto) : rd M (resF w x) = resF w x := by
  cases x <;> rfl
theorem below_d4 (n : Nat) (R : List T4) : below n (.list (R.map d4)) = true := by
  rw [below]
  exact belowL_all fun d hd => by
    obtain ⟨r, _, rfl⟩ := List.mem_map.mp hd
    rfl
section
variable {F : FT} {M : Sto} {Q : List T4}
theorem c_p1 (hQ : Q.length ≤ 1000) (x0 x1 x3 x4 x5 : Option D) : ev F cls (.comp false [5] (.nm 5) .seq (.var 2) .absent .absent (.tup (.cons (.idx (.var 5) (.int 0)) (.cons (.idx (.var 5) (.int 1)) (.cons (.idx (.var 5) (.int 3)) .nil))))) [x0, x1, some (.list (Q.map d4)), x3, x4, x5] M = some (.list ((Q.map p1).map d3), M) := by
  rw [e_comp]
  simp only [e_var, e_non, e_bl, e_int, e_str, e_bin, e_neg, e_not, e_and, e_or, e_cmp, e_chain, e_isN, e_ife, e_tup, e_lst, e_dct, e_idx, e_slc, e_blt, e_isi, e_fld, e_app, e_ext, e_idxof, e_dget, e_nil, e_cons, x_setv, x_sett, x_setp, x_seti, x_seti2, x_augi, x_setf, x_exp, x_ret, x_ife, x_frz, x_retN, x_pass, x_cont, x_nil, x_cons, getD_list, getD_tup, rd_int, rd_bl, rd_non, rd_str, rd_list, rd_tup, rd_fz, rd_dict, len_list, len_tup, abs_int, min2_int, max2_int, int_int, list_list, list_tup, mk_f, mk_t, truth_bl', truth_int', truth_list', tst_some, line0, line1, line2, line3, line4, line5, line6, line7, line8, asg, optC, optD, optI, isAbs, src_list, src_tup, src_enum, setI, body1, wipeE, List.map_cons, List.map_nil, List.length_cons, List.length_nil, List.replicate, List.cons_append, List.nil_append, List.getElem?_cons_zero, List.getElem?_cons_succ, List.set_cons_zero, List.set_cons_succ, Nat.reduceAdd, Nat.reduceSub, bop_add_int, bop_sub_int, cop_lt_int, cop_gt_int, cop_le_int, cop_ge_int, cop_eq_int, cop_ne_int, atI_c0, atI_c1, atI_c2, atI_c3, if_true, Bool.false_eq_true, if_false, ↓reduceIte, Bool.not_true, Bool.not_false]
  rw [if_pos (by rw [List.length_map]; unfold LINE; omega), compR_mapT (g := fun r => d3 (p1 r)) fun r _ => ?_]
  · simp only [List.map_map]; rfl
  · simp only [turnF, d4]
    simp only [e_var, e_non, e_bl, e_int, e_str, e_bin, e_neg, e_not, e_and, e_or, e_cmp, e_chain, e_isN, e_ife, e_tup, e_lst, e_dct, e_idx, e_slc, e_blt, e_isi, e_fld, e_app, e_ext, e_idxof, e_dget, e_nil, e_cons, x_setv, x_sett, x_setp, x_seti, x_seti2, x_augi, x_setf, x_exp, x_ret, x_ife, x_frz, x_retN, x_pass, x_cont, x_nil, x_cons, getD_list, getD_tup, rd_int, rd_bl, rd_non, rd_str, rd_list, rd_tup, rd_fz, rd_dict, len_list, len_tup, abs_int, min2_int, max2_int, int_int, list_list, list_tup, mk_f, mk_t, truth_bl', truth_int', truth_list', tst_some, line0, line1, line2, line3, line4, line5, line6, line7, line8, asg, optC, optD, optI, isAbs, src_list, src_tup, src_enum, setI, body1, wipeE, List.map_cons, List.map_nil, List.length_cons, List.length_nil, List.replicate, List.cons_append, List.nil_append, List.getElem?_cons_zero, List.getElem?_cons_succ, List.set_cons_zero, List.set_cons_succ, Nat.reduceAdd, Nat.reduceSub, bop_add_int, bop_sub_int, cop_lt_int, cop_gt_int, cop_le_int, cop_ge_int, cop_eq_int, cop_ne_int, atI_c0, atI_c1, atI_c2, atI_c3, if_true, Bool.false_eq_true, if_false, ↓reduceIte, Bool.not_true, Bool.not_false]
    rfl
theorem c_p2 (hQ : Q.length ≤ 1000) (x0 x1 x3 x4 x5 : Option D) : ev F cls (.comp false [5] (.nm 5) .seq (.var 2) .absent .absent (.tup (.cons (.idx (.var 5) (.int 2)) (.cons (.idx (.var 5) (.int 1)) (.cons (.idx (.var 5) (.int 3)) .nil))))) [x0, x1, some (.list (Q.map d4)), x3, x4, x5] M = some (.list ((Q.map p2).map d3), M) := by
  rw [e_comp]
  simp only [e_var, e_non, e_bl, e_int, e_str, e_bin, e_neg, e_not, e_and, e_or, e_cmp, e_chain, e_isN, e_ife, e_tup, e_lst, e_dct, e_idx, e_slc, e_blt, e_isi, e_fld, e_app, e_ext, e_idxof, e_dget, e_nil, e_cons, x_setv, x_sett, x_setp, x_seti, x_seti2, x_augi, x_setf, x_exp, x_ret, x_ife, x_frz, x_retN, x_pass, x_cont, x_nil, x_cons, getD_list, getD_tup, rd_int, rd_bl, rd_non, rd_str, rd_list, rd_tup, rd_fz, rd_dict, len_list, len_tup, abs_int, min2_int, max2_int, int_int, list_list, list_tup, mk_f, mk_t, truth_bl', truth_int', truth_list', tst_some, line0, line1, line2, line3, line4, line5, line6, line7, line8, asg, optC, optD, optI, isAbs, src_list, src_tup, src_enum, setI, body1, wipeE, List.map_cons, List.map_nil, List.length_cons, List.length_nil, List.replicate, List.cons_append, List.nil_append, List.getElem?_cons_zero, List.getElem?_cons_succ, List.set_cons_zero, List.set_cons_succ, Nat.reduceAdd, Nat.reduceSub, bop_add_int, bop_sub_int, cop_lt_int, cop_gt_int, cop_le_int, cop_ge_int, cop_eq_int, cop_ne_int, atI_c0, atI_c1, atI_c2, atI_c3, if_true, Bool.false_eq_true, if_false, ↓reduceIte, Bool.not_true, Bool.not_false]
  rw [if_pos (by rw [List.length_map]; unfold LINE; omega), compR_mapT (g := fun r => d3 (p2 r)) fun r _ => ?_]
  · simp only [List.map_map]; rfl
  · simp only [turnF, d4]
    simp only [e_var, e_non, e_bl, e_int, e_str, e_bin, e_neg, e_not, e_and, e_or, e_cmp, e_chain, e_isN, e_ife, e_tup, e_lst, e_dct, e_idx, e_slc, e_blt, e_isi, e_fld, e_app, e_ext, e_idxof, e_dget, e_nil, e_cons, x_setv, x_sett, x_setp, x_seti, x_seti2, x_augi, x_setf, x_exp, x_ret, x_ife, x_frz, x_retN, x_pass, x_cont, x_nil, x_cons, getD_list, getD_tup, rd_int, rd_bl, rd_non, rd_str, rd_list, rd_tup, rd_fz, rd_dict, len_list, len_tup, abs_int, min2_int, max2_int, int_int, list_list, list_tup, mk_f, mk_t, truth_bl', truth_int', truth_list', tst_some, line0, line1, line2, line3, line4, line5, line6, line7, line8, asg, optC, optD, optI, isAbs, src_list, src_tup, src_enum, setI, body1, wipeE, List.map_cons, List.map_nil, List.length_cons, List.length_nil, List.replicate, List.cons_append, List.nil_append, List.getElem?_cons_zero, List.getElem?_cons_succ, List.set_cons_zero, List.set_cons_succ, Nat.reduceAdd, Nat.reduceSub, bop_add_int, bop_sub_int, cop_lt_int, cop_gt_int, cop_le_int, cop_ge_int, cop_eq_int, cop_ne_int, atI_c0, atI_c1, atI_c2, atI_c3, if_true, Bool.false_eq_true, if_false, ↓reduceIte, Bool.not_true, Bool.not_false]
    rfl
end
theorem badAt_eq {Q : List T4} {i : Nat} {r : T4} (h : Q[i]? = some r) : badAt Q i = (decide (r.2.2.2 < 1) || (decide (0 < i) && match Q[i - 1]? with
    | some q => lexLe (l3 r) (l3 q)
    | none => false)) := by
  unfold badAt
  rw [h]
/-- rows that both can be asked about -/
structure OkQ (A B : List T3) (Q : List T4) : Prop where
  a : Ok3 A (Q.map p1)
  b : Ok3 B (Q.map p2)
  len : A.length + B.length + Q.length ≤ 400
theorem law_form {F : FT} {M : Sto} {A B : List T3} {Q : List T4} : ∀ i ∈ List.range Q.length, ∀ env : MP.Env, (∃ x, env = [some (.list (A.map d3)), some (.list (B.map d3)), some (.list (Q.map d4)), x, none, none]) →
    ∃ env', turnB F cls (.nm 3) (.cons (.ife (.or (.cmp .lt (.idx (.idx (.var 2) (.var 3)) (.int 3)) (.int 1)) (.and (.cmp .gt (.var 3) (.int 0)) (.cmp .ge (.slc false (.idx (.var 2) (.bin false .sub (.var 3) (.int 1))) .absent (.int 3)) (.slc false (.idx (.var 2) (.var 3)) .absent (.int 3))))) (.cons (.ret (.tup (.cons (.str "form") (.cons (.var 3) .nil)))) .nil) .nil) .nil) (.int (i : Nat)) env M = some (if badAt Q i = true then .ret (.tup [.str "form", .int i]) else .next, env', M) ∧ ∃ x, env' = [some (.list (A.map d3)), some (.list (B.map d3)), some (.list (Q.map d4)), x, none, none] :=
  fun i hi env ⟨x, he⟩ => by
      subst he
      refine ⟨_, ?_, some (.int i), rfl⟩
      rw [List.mem_range] at hi
      have hq : Q[i]? = some Q[i] := List.getElem?_eq_getElem hi
      rw [badAt_eq hq]
      generalize Q[i] = r at hq
      have h1 : L2.atI (Q.map d4) (i : Int) = some (d4 r) := L2.atI_nat (by rw [List.getElem?_map, hq]; rfl)
      simp only [turnB]
      by_cases c1 : r.2.2.2 < 1
      · simp only [e_var, e_non, e_bl, e_int, e_str, e_bin, e_neg, e_not, e_and, e_or, e_cmp, e_chain, e_isN, e_ife, e_tup, e_lst, e_dct, e_idx, e_slc, e_blt, e_isi, e_fld, e_app, e_ext, e_idxof, e_dget, e_nil, e_cons, x_setv, x_sett, x_setp, x_seti, x_seti2, x_augi, x_setf, x_exp, x_ret, x_ife, x_frz, x_retN, x_pass, x_cont, x_nil, x_cons, getD_list, getD_tup, rd_int, rd_bl, rd_non, rd_str, rd_list, rd_tup, rd_fz, rd_dict, len_list, len_tup, abs_int, min2_int, max2_int, int_int, list_list, list_tup, mk_f, mk_t, truth_bl', truth_int', truth_list', tst_some, line0, line1, line2, line3, line4, line5, line6, line7, line8, asg, optC, optD, optI, isAbs, src_list, src_tup, src_enum, setI, body1, wipeE, List.map_cons, List.map_nil, List.length_cons, List.length_nil, List.replicate, List.cons_append, List.nil_append, List.getElem?_cons_zero, List.getElem?_cons_succ, List.set_cons_zero, List.set_cons_succ, Nat.reduceAdd, Nat.reduceSub, bop_add_int, bop_sub_int, cop_lt_int, cop_gt_int, cop_le_int, cop_ge_int, cop_eq_int, cop_ne_int, atI_c0, atI_c1, atI_c2, atI_c3, if_true, Bool.false_eq_true, if_false, ↓reduceIte, Bool.not_true, Bool.not_false, h1, show ∀ M (r : T4), rd M (d4 r) = .tup [.int r.1, .int r.2.1, .int r.2.2.1, .int r.2.2.2] from fun _ _ => rfl, decide_eq_true c1, Bool.true_or]
      · by_cases c2 : 0 < i
        · obtain ⟨q, hq2⟩ : ∃ q, Q[i - 1]? = some q := ⟨_, List.getElem?_eq_getElem (by omega)⟩
          have h2 : L2.atI (Q.map d4) ((i : Int) - 1) = some (d4 q) := by
            have e : ((i : Int) - 1) = ((i - 1 : Nat) : Int) := by omega
            rw [e]
            exact L2.atI_nat (by rw [List.getElem?_map, hq2]; rfl)
          have h3 : cop .ge (.tup [.int q.1, .int q.2.1, .int q.2.2.1]) (.tup [.int r.1, .int r.2.1, .int r.2.2.1]) = some (lexLe (l3 r) (l3 q)) := cop_ge_k (l3 q) (l3 r)
          rw [hq2]
          simp only [e_var, e_non, e_bl, e_int, e_str, e_bin, e_neg, e_not, e_and, e_or, e_cmp, e_chain, e_isN, e_ife, e_tup, e_lst, e_dct, e_idx, e_slc, e_blt, e_isi, e_fld, e_app, e_ext, e_idxof, e_dget, e_nil, e_cons, x_setv, x_sett, x_setp, x_seti, x_seti2, x_augi, x_setf, x_exp, x_ret, x_ife, x_frz, x_retN, x_pass, x_cont, x_nil, x_cons, getD_list, getD_tup, rd_int, rd_bl, rd_non, rd_str, rd_list, rd_tup, rd_fz, rd_dict, len_list, len_tup, abs_int, min2_int, max2_int, int_int, list_list, list_tup, mk_f, mk_t, truth_bl', truth_int', truth_list', tst_some, line0, line1, line2, line3, line4, line5, line6, line7, line8, asg, optC, optD, optI, isAbs, src_list, src_tup, src_enum, setI, body1, wipeE, List.map_cons, List.map_nil, List.length_cons, List.length_nil, List.replicate, List.cons_append, List.nil_append, List.getElem?_cons_zero, List.getElem?_cons_succ, List.set_cons_zero, List.set_cons_succ, Nat.reduceAdd, Nat.reduceSub, bop_add_int, bop_sub_int, cop_lt_int, cop_gt_int, cop_le_int, cop_ge_int, cop_eq_int, cop_ne_int, atI_c0, atI_c1, atI_c2, atI_c3, if_true, Bool.false_eq_true, if_false, ↓reduceIte, Bool.not_true, Bool.not_false, h1, h2, h3, show ∀ M (r : T4), rd M (d4 r) = .tup [.int r.1, .int r.2.1, .int r.2.2.1, .int r.2.2.2] from fun _ _ => rfl, decide_eq_false c1, cutD_3, show decide ((0 : Int) < (i : Int)) = true from decide_eq_true (by omega), decide_eq_true c2, Bool.false_or, Bool.true_and]
          cases lexLe (l3 r) (l3 q) <;> simp only [e_var, e_non, e_bl, e_int, e_str, e_bin, e_neg, e_not, e_and, e_or, e_cmp, e_chain, e_isN, e_ife, e_tup, e_lst, e_dct, e_idx, e_slc, e_blt, e_isi, e_fld, e_app, e_ext, e_idxof, e_dget, e_nil, e_cons, x_setv, x_sett, x_setp, x_seti, x_seti2, x_augi, x_setf, x_exp, x_ret, x_ife, x_frz, x_retN, x_pass, x_cont, x_nil, x_cons, getD_list, getD_tup, rd_int, rd_bl, rd_non, rd_str, rd_list, rd_tup, rd_fz, rd_dict, len_list, len_tup, abs_int, min2_int, max2_int, int_int, list_list, list_tup, mk_f, mk_t, truth_bl', truth_int', truth_list', tst_some, line0, line1, line2, line3, line4, line5, line6, line7, line8, asg, optC, optD, optI, isAbs, src_list, src_tup, src_enum, setI, body1, wipeE, List.map_cons, List.map_nil, List.length_cons, List.length_nil, List.replicate, List.cons_append, List.nil_append, List.getElem?_cons_zero, List.getElem?_cons_succ, List.set_cons_zero, List.set_cons_succ, Nat.reduceAdd, Nat.reduceSub, bop_add_int, bop_sub_int, cop_lt_int, cop_gt_int, cop_le_int, cop_ge_int, cop_eq_int, cop_ne_int, atI_c0, atI_c1, atI_c2, atI_c3, if_true, Bool.false_eq_true, if_false, ↓reduceIte, Bool.not_true, Bool.not_false]
        · simp only [e_var, e_non, e_bl, e_int, e_str, e_bin, e_neg, e_not, e_and, e_or, e_cmp, e_chain, e_isN, e_ife, e_tup, e_lst, e_dct, e_idx, e_slc, e_blt, e_isi, e_fld, e_app, e_ext, e_idxof, e_dget, e_nil, e_cons, x_setv, x_sett, x_setp, x_seti, x_seti2, x_augi, x_setf, x_exp, x_ret, x_ife, x_frz, x_retN, x_pass, x_cont, x_nil, x_cons, getD_list, getD_tup, rd_int, rd_bl, rd_non, rd_str, rd_list, rd_tup, rd_fz, rd_dict, len_list, len_tup, abs_int, min2_int, max2_int, int_int, list_list, list_tup, mk_f, mk_t, truth_bl', truth_int', truth_list', tst_some, line0, line1, line2, line3, line4, line5, line6, line7, line8, asg, optC, optD, optI, isAbs, src_list, src_tup, src_enum, setI, body1, wipeE, List.map_cons, List.map_nil, List.length_cons, List.length_nil, List.replicate, List.cons_append, List.nil_append, List.getElem?_cons_zero, List.getElem?_cons_succ, List.set_cons_zero, List.set_cons_succ, Nat.reduceAdd, Nat.reduceSub, bop_add_int, bop_sub_int, cop_lt_int, cop_gt_int, cop_le_int, cop_ge_int, cop_eq_int, cop_ne_int, atI_c0, atI_c1, atI_c2, atI_c3, if_true, Bool.false_eq_true, if_false, ↓reduceIte, Bool.not_true, Bool.not_false, h1, show ∀ M (r : T4), rd M (d4 r) = .tup [.int r.1, .int r.2.1, .int r.2.2.1, .int r.2.2.2] from fun _ _ => rfl, decide_eq_false c1, show decide ((0 : Int) < (i : Int)) = false from decide_eq_false (by omega), decide_eq_false c2, Bool.false_or, Bool.false_and]
theorem lawfault_run {n : Nat} {M : Sto} {A B : List T3} {Q : List T4} (h : OkQ A B Q) : run fns cls (n + 3) f_law_fault [.list (A.map d3), .list (B.map d3), .list (Q.map d4)] M = some (resT A B Q, M) := by
  rw [run_full (fn := fns[8]) rfl rfl]
  show body1 (run fns cls (n + 2)) cls ⟨"_law_fault", 3, _, b_law_fault, []⟩ _ _ = _
  unfold b_law_fault
  have hlen := h.len
  have f1 : callM (run fns cls (n + 2)) .pure 7 [.list (A.map d3), .list ((Q.map p1).map d3), .str "first"] M = some (resF "first" (firstBad A (Q.map p1)), M) := by
    have := call_pure (F := run fns cls (n + 2)) (f := 7) (M := M) (ds := [.list (A.map d3), .list ((Q.map p1).map d3), .str "first"]) (by rw [belowL, belowL, belowL, below_d3, below_d3]; rfl) (first_run (n := n) (M := []) (by rw [List.length_map]; omega)) (by rw [rd_res]; exact below_res _ _)
    rwa [rd_res] at this
  have f2 : callM (run fns cls (n + 2)) .pure 7 [.list (B.map d3), .list ((Q.map p2).map d3), .str "second"] M = some (resF "second" (firstBad B (Q.map p2)), M) := by
    have := call_pure (F := run fns cls (n + 2)) (f := 7) (M := M) (ds := [.list (B.map d3), .list ((Q.map p2).map d3), .str "second"]) (by rw [belowL, belowL, belowL, below_d3, below_d3]; rfl) (first_run (n := n) (M := []) (by rw [List.length_map]; omega)) (by rw [rd_res]; exact below_res _ _)
    rwa [rd_res] at this
  obtain ⟨env', hf, he⟩ := forP_find (q := badAt Q) (res := fun i : Nat => .tup [.str "form", .int i]) (law_form (F := run fns cls (n + 2)) (M := M) (A := A) (B := B) (Q := Q)) _ ⟨none, rfl⟩
  obtain ⟨x, rfl⟩ := he
  have hr : srcOf .rng1 M (.int ((Q.map d4).length : Nat)) .non = some (.pure ((List.range Q.length).map fun (i : Nat) => D.int i)) := by
    rw [List.length_map]
    exact src_rng1 (by omega) _ _
  unfold resT formBad
  simp only [e_var, e_non, e_bl, e_int, e_str, e_bin, e_neg, e_not, e_and, e_or, e_cmp, e_chain, e_isN, e_ife, e_tup, e_lst, e_dct, e_idx, e_slc, e_blt, e_isi, e_fld, e_app, e_ext, e_idxof, e_dget, e_nil, e_cons, x_setv, x_sett, x_setp, x_seti, x_seti2, x_augi, x_setf, x_exp, x_ret, x_ife, x_frz, x_retN, x_pass, x_cont, x_nil, x_cons, getD_list, getD_tup, rd_int, rd_bl, rd_non, rd_str, rd_list, rd_tup, rd_fz, rd_dict, len_list, len_tup, abs_int, min2_int, max2_int, int_int, list_list, list_tup, mk_f, mk_t, truth_bl', truth_int', truth_list', tst_some, line0, line1, line2, line3, line4, line5, line6, line7, line8, asg, optC, optD, optI, isAbs, src_list, src_tup, src_enum, setI, body1, wipeE, List.map_cons, List.map_nil, List.length_cons, List.length_nil, List.replicate, List.cons_append, List.nil_append, List.getElem?_cons_zero, List.getElem?_cons_succ, List.set_cons_zero, List.set_cons_succ, Nat.reduceAdd, Nat.reduceSub, bop_add_int, bop_sub_int, cop_lt_int, cop_gt_int, cop_le_int, cop_ge_int, cop_eq_int, cop_ne_int, atI_c0, atI_c1, atI_c2, atI_c3, if_true, Bool.false_eq_true, if_false, ↓reduceIte, Bool.not_true, Bool.not_false, x_for, hr, hf]
  cases e1 : (List.range Q.length).find? (badAt Q) with
  | some i => simp only [e_var, e_non, e_bl, e_int, e_str, e_bin, e_neg, e_not, e_and, e_or, e_cmp, e_chain, e_isN, e_ife, e_tup, e_lst, e_dct, e_idx, e_slc, e_blt, e_isi, e_fld, e_app, e_ext, e_idxof, e_dget, e_nil, e_cons, x_setv, x_sett, x_setp, x_seti, x_seti2, x_augi, x_setf, x_exp, x_ret, x_ife, x_frz, x_retN, x_pass, x_cont, x_nil, x_cons, getD_list, getD_tup, rd_int, rd_bl, rd_non, rd_str, rd_list, rd_tup, rd_fz, rd_dict, len_list, len_tup, abs_int, min2_int, max2_int, int_int, list_list, list_tup, mk_f, mk_t, truth_bl', truth_int', truth_list', tst_some, line0, line1, line2, line3, line4, line5, line6, line7, line8, asg, optC, optD, optI, isAbs, src_list, src_tup, src_enum, setI, body1, wipeE, List.map_cons, List.map_nil, List.length_cons, List.length_nil, List.replicate, List.cons_append, List.nil_append, List.getElem?_cons_zero, List.getElem?_cons_succ, List.set_cons_zero, List.set_cons_succ, Nat.reduceAdd, Nat.reduceSub, bop_add_int, bop_sub_int, cop_lt_int, cop_gt_int, cop_le_int, cop_ge_int, cop_eq_int, cop_ne_int, atI_c0, atI_c1, atI_c2, atI_c3, if_true, Bool.false_eq_true, if_false, ↓reduceIte, Bool.not_true, Bool.not_false]
  | none =>
    simp only [e_var, e_non, e_bl, e_int, e_str, e_bin, e_neg, e_not, e_and, e_or, e_cmp, e_chain, e_isN, e_ife, e_tup, e_lst, e_dct, e_idx, e_slc, e_blt, e_isi, e_fld, e_app, e_ext, e_idxof, e_dget, e_nil, e_cons, x_setv, x_sett, x_setp, x_seti, x_seti2, x_augi, x_setf, x_exp, x_ret, x_ife, x_frz, x_retN, x_pass, x_cont, x_nil, x_cons, getD_list, getD_tup, rd_int, rd_bl, rd_non, rd_str, rd_list, rd_tup, rd_fz, rd_dict, len_list, len_tup, abs_int, min2_int, max2_int, int_int, list_list, list_tup, mk_f, mk_t, truth_bl', truth_int', truth_list', tst_some, line0, line1, line2, line3, line4, line5, line6, line7, line8, asg, optC, optD, optI, isAbs, src_list, src_tup, src_enum, setI, body1, wipeE, List.map_cons, List.map_nil, List.length_cons, List.length_nil, List.replicate, List.cons_append, List.nil_append, List.getElem?_cons_zero, List.getElem?_cons_succ, List.set_cons_zero, List.set_cons_succ, Nat.reduceAdd, Nat.reduceSub, bop_add_int, bop_sub_int, cop_lt_int, cop_gt_int, cop_le_int, cop_ge_int, cop_eq_int, cop_ne_int, atI_c0, atI_c1, atI_c2, atI_c3, if_true, Bool.false_eq_true, if_false, ↓reduceIte, Bool.not_true, Bool.not_false, e_call, c_p1 (Q := Q) (by omega), c_p2 (Q := Q) (by omega), f1, f2]
    cases e2 : firstBad A (Q.map p1) with
    | none =>
      simp only [e_var, e_non, e_bl, e_int, e_str, e_bin, e_neg, e_not, e_and, e_or, e_cmp, e_chain, e_isN, e_ife, e_tup, e_lst, e_dct, e_idx, e_slc, e_blt, e_isi, e_fld, e_app, e_ext, e_idxof, e_dget, e_nil, e_cons, x_setv, x_sett, x_setp, x_seti, x_seti2, x_augi, x_setf, x_exp, x_ret, x_ife, x_frz, x_retN, x_pass, x_cont, x_nil, x_cons, getD_list, getD_tup, rd_int, rd_bl, rd_non, rd_str, rd_list, rd_tup, rd_fz, rd_dict, len_list, len_tup, abs_int, min2_int, max2_int, int_int, list_list, list_tup, mk_f, mk_t, truth_bl', truth_int', truth_list', tst_some, line0, line1, line2, line3, line4, line5, line6, line7, line8, asg, optC, optD, optI, isAbs, src_list, src_tup, src_enum, setI, body1, wipeE, List.map_cons, List.map_nil, List.length_cons, List.length_nil, List.replicate, List.cons_append, List.nil_append, List.getElem?_cons_zero, List.getElem?_cons_succ, List.set_cons_zero, List.set_cons_succ, Nat.reduceAdd, Nat.reduceSub, bop_add_int, bop_sub_int, cop_lt_int, cop_gt_int, cop_le_int, cop_ge_int, cop_eq_int, cop_ne_int, atI_c0, atI_c1, atI_c2, atI_c3, if_true, Bool.false_eq_true, if_false, ↓reduceIte, Bool.not_true, Bool.not_false, resF, f2]
    | some p => simp only [e_var, e_non, e_bl, e_int, e_str, e_bin, e_neg, e_not, e_and, e_or, e_cmp, e_chain, e_isN, e_ife, e_tup, e_lst, e_dct, e_idx, e_slc, e_blt, e_isi, e_fld, e_app, e_ext, e_idxof, e_dget, e_nil, e_cons, x_setv, x_sett, x_setp, x_seti, x_seti2, x_augi, x_setf, x_exp, x_ret, x_ife, x_frz, x_retN, x_pass, x_cont, x_nil, x_cons, getD_list, getD_tup, rd_int, rd_bl, rd_non, rd_str, rd_list, rd_tup, rd_fz, rd_dict, len_list, len_tup, abs_int, min2_int, max2_int, int_int, list_list, list_tup, mk_f, mk_t, truth_bl', truth_int', truth_list', tst_some, line0, line1, line2, line3, line4, line5, line6, line7, line8, asg, optC, optD, optI, isAbs, src_list, src_tup, src_enum, setI, body1, wipeE, List.map_cons, List.map_nil, List.length_cons, List.length_nil, List.replicate, List.cons_append, List.nil_append, List.getElem?_cons_zero, List.getElem?_cons_succ, List.set_cons_zero, List.set_cons_succ, Nat.reduceAdd, Nat.reduceSub, bop_add_int, bop_sub_int, cop_lt_int, cop_gt_int, cop_le_int, cop_ge_int, cop_eq_int, cop_ne_int, atI_c0, atI_c1, atI_c2, atI_c3, if_true, Bool.false_eq_true, if_false, ↓reduceIte, Bool.not_true, Bool.not_false, resF]
end K43

/-! K43g: the program's fault. -/
namespace K43
open MP
theorem enum_map (Q : List T4) : ((Q.map d4).mapIdx fun (i : Nat) x => D.tup [.int i, x]) = Q.zipIdx.map fun p => D.tup [.int (p.2 : Nat), d4 p.1] := by
  apply List.ext_getElem?
  intro i
  rw [List.getElem?_mapIdx, List.getElem?_map, List.getElem?_map, List.getElem?_zipIdx]
  cases Q[i]? with
  | none => rfl
  | some r => simp
theorem find_zip (Q : List T4) : (Q.zipIdx.find? fun p => badAt Q p.2).map (·.2) = formBad Q := by
  unfold formBad
  have e : List.range Q.length = Q.zipIdx.map (·.2) := by
    apply List.ext_getElem?
    intro i
    rw [List.getElem?_map, List.getElem?_zipIdx]
    by_cases h : i < Q.length
    · rw [List.getElem?_range h, List.getElem?_eq_getElem h]
      simp
    · rw [List.getElem?_eq_none (by simpa using h), List.getElem?_eq_none (by omega)]
      rfl
  rw [e, List.find?_map]
  rfl
theorem prog_form {F : FT} {M : Sto} {A B : List T3} {Q : List T4} : ∀ p ∈ Q.zipIdx, ∀ env : MP.Env, (∃ x y, env = [some (.list (A.map d3)), some (.list (B.map d3)), some (.list (Q.map d4)), none, x, y]) →
    ∃ env', turnB F cls (.tp [4, 5]) (.cons (.ife (.or (.cmp .lt (.idx (.var 5) (.int 3)) (.int 1)) (.and (.cmp .gt (.var 4) (.int 0)) (.cmp .ge (.slc false (.idx (.var 2) (.bin false .sub (.var 4) (.int 1))) .absent (.int 3)) (.slc false (.var 5) .absent (.int 3))))) (.cons (.ret (.tup (.cons (.str "form") (.cons (.var 4) .nil)))) .nil) .nil) .nil) (.tup [.int (p.2 : Nat), d4 p.1]) env M =
      some (if badAt Q p.2 = true then .ret (.tup [.str "form", .int p.2]) else .next, env', M) ∧ ∃ x y, env' = [some (.list (A.map d3)), some (.list (B.map d3)), some (.list (Q.map d4)), none, x, y] := by
  intro p hp env ⟨x, y, he⟩
  subst he
  obtain ⟨r, i⟩ := p
  have hq : Q[i]? = some r := by
    have := List.mem_zipIdx_iff_getElem?.mp hp
    simpa using this
  refine ⟨_, ?_, some (.int i), some (d4 r), rfl⟩
  rw [badAt_eq hq]
  rw [turn_tp]
  by_cases c1 : r.2.2.2 < 1
  · simp only [e_var, e_non, e_bl, e_int, e_str, e_bin, e_neg, e_not, e_and, e_or, e_cmp, e_chain, e_isN, e_ife, e_tup, e_lst, e_dct, e_idx, e_slc, e_blt, e_isi, e_fld, e_app, e_ext, e_idxof, e_dget, e_nil, e_cons, x_setv, x_sett, x_setp, x_seti, x_seti2, x_augi, x_setf, x_exp, x_ret, x_ife, x_frz, x_retN, x_pass, x_cont, x_nil, x_cons, getD_list, getD_tup, rd_int, rd_bl, rd_non, rd_str, rd_list, rd_tup, rd_fz, rd_dict, len_list, len_tup, abs_int, min2_int, max2_int, int_int, list_list, list_tup, mk_f, mk_t, truth_bl', truth_int', truth_list', tst_some, line0, line1, line2, line3, line4, line5, line6, line7, line8, asg, optC, optD, optI, isAbs, src_list, src_tup, src_enum, setI, body1, wipeE, List.map_cons, List.map_nil, List.length_cons, List.length_nil, List.replicate, List.cons_append, List.nil_append, List.getElem?_cons_zero, List.getElem?_cons_succ, List.set_cons_zero, List.set_cons_succ, Nat.reduceAdd, Nat.reduceSub, bop_add_int, bop_sub_int, cop_lt_int, cop_gt_int, cop_le_int, cop_ge_int, cop_eq_int, cop_ne_int, atI_c0, atI_c1, atI_c2, atI_c3, if_true, Bool.false_eq_true, if_false, ↓reduceIte, Bool.not_true, Bool.not_false, show ∀ M (r : T4), rd M (d4 r) = .tup [.int r.1, .int r.2.1, .int r.2.2.1, .int r.2.2.2] from fun _ _ => rfl, decide_eq_true c1, Bool.true_or]
  · by_cases c2 : 0 < i
    · have hlt : i < Q.length := (List.getElem?_eq_some_iff.mp hq).1
      obtain ⟨q, hq2⟩ : ∃ q, Q[i - 1]? = some q := ⟨_, List.getElem?_eq_getElem (by omega)⟩
      have h2 : L2.atI (Q.map d4) ((i : Int) - 1) = some (d4 q) := by
        have e : ((i : Int) - 1) = ((i - 1 : Nat) : Int) := by omega
        rw [e]
        exact L2.atI_nat (by rw [List.getElem?_map, hq2]; rfl)
      have h3 : cop .ge (.tup [.int q.1, .int q.2.1, .int q.2.2.1]) (.tup [.int r.1, .int r.2.1, .int r.2.2.1]) = some (lexLe (l3 r) (l3 q)) := cop_ge_k (l3 q) (l3 r)
      rw [hq2]
      simp only [e_var, e_non, e_bl, e_int, e_str, e_bin, e_neg, e_not, e_and, e_or, e_cmp, e_chain, e_isN, e_ife, e_tup, e_lst, e_dct, e_idx, e_slc, e_blt, e_isi, e_fld, e_app, e_ext, e_idxof, e_dget, e_nil, e_cons, x_setv, x_sett, x_setp, x_seti, x_seti2, x_augi, x_setf, x_exp, x_ret, x_ife, x_frz, x_retN, x_pass, x_cont, x_nil, x_cons, getD_list, getD_tup, rd_int, rd_bl, rd_non, rd_str, rd_list, rd_tup, rd_fz, rd_dict, len_list, len_tup, abs_int, min2_int, max2_int, int_int, list_list, list_tup, mk_f, mk_t, truth_bl', truth_int', truth_list', tst_some, line0, line1, line2, line3, line4, line5, line6, line7, line8, asg, optC, optD, optI, isAbs, src_list, src_tup, src_enum, setI, body1, wipeE, List.map_cons, List.map_nil, List.length_cons, List.length_nil, List.replicate, List.cons_append, List.nil_append, List.getElem?_cons_zero, List.getElem?_cons_succ, List.set_cons_zero, List.set_cons_succ, Nat.reduceAdd, Nat.reduceSub, bop_add_int, bop_sub_int, cop_lt_int, cop_gt_int, cop_le_int, cop_ge_int, cop_eq_int, cop_ne_int, atI_c0, atI_c1, atI_c2, atI_c3, if_true, Bool.false_eq_true, if_false, ↓reduceIte, Bool.not_true, Bool.not_false, h2, h3, show ∀ M (r : T4), rd M (d4 r) = .tup [.int r.1, .int r.2.1, .int r.2.2.1, .int r.2.2.2] from fun _ _ => rfl, decide_eq_false c1, cutD_3, show decide ((0 : Int) < (i : Int)) = true from decide_eq_true (by omega), decide_eq_true c2, Bool.false_or, Bool.true_and]
      cases lexLe (l3 r) (l3 q) <;> simp only [e_var, e_non, e_bl, e_int, e_str, e_bin, e_neg, e_not, e_and, e_or, e_cmp, e_chain, e_isN, e_ife, e_tup, e_lst, e_dct, e_idx, e_slc, e_blt, e_isi, e_fld, e_app, e_ext, e_idxof, e_dget, e_nil, e_cons, x_setv, x_sett, x_setp, x_seti, x_seti2, x_augi, x_setf, x_exp, x_ret, x_ife, x_frz, x_retN, x_pass, x_cont, x_nil, x_cons, getD_list, getD_tup, rd_int, rd_bl, rd_non, rd_str, rd_list, rd_tup, rd_fz, rd_dict, len_list, len_tup, abs_int, min2_int, max2_int, int_int, list_list, list_tup, mk_f, mk_t, truth_bl', truth_int', truth_list', tst_some, line0, line1, line2, line3, line4, line5, line6, line7, line8, asg, optC, optD, optI, isAbs, src_list, src_tup, src_enum, setI, body1, wipeE, List.map_cons, List.map_nil, List.length_cons, List.length_nil, List.replicate, List.cons_append, List.nil_append, List.getElem?_cons_zero, List.getElem?_cons_succ, List.set_cons_zero, List.set_cons_succ, Nat.reduceAdd, Nat.reduceSub, bop_add_int, bop_sub_int, cop_lt_int, cop_gt_int, cop_le_int, cop_ge_int, cop_eq_int, cop_ne_int, atI_c0, atI_c1, atI_c2, atI_c3, if_true, Bool.false_eq_true, if_false, ↓reduceIte, Bool.not_true, Bool.not_false]
    · simp only [e_var, e_non, e_bl, e_int, e_str, e_bin, e_neg, e_not, e_and, e_or, e_cmp, e_chain, e_isN, e_ife, e_tup, e_lst, e_dct, e_idx, e_slc, e_blt, e_isi, e_fld, e_app, e_ext, e_idxof, e_dget, e_nil, e_cons, x_setv, x_sett, x_setp, x_seti, x_seti2, x_augi, x_setf, x_exp, x_ret, x_ife, x_frz, x_retN, x_pass, x_cont, x_nil, x_cons, getD_list, getD_tup, rd_int, rd_bl, rd_non, rd_str, rd_list, rd_tup, rd_fz, rd_dict, len_list, len_tup, abs_int, min2_int, max2_int, int_int, list_list, list_tup, mk_f, mk_t, truth_bl', truth_int', truth_list', tst_some, line0, line1, line2, line3, line4, line5, line6, line7, line8, asg, optC, optD, optI, isAbs, src_list, src_tup, src_enum, setI, body1, wipeE, List.map_cons, List.map_nil, List.length_cons, List.length_nil, List.replicate, List.cons_append, List.nil_append, List.getElem?_cons_zero, List.getElem?_cons_succ, List.set_cons_zero, List.set_cons_succ, Nat.reduceAdd, Nat.reduceSub, bop_add_int, bop_sub_int, cop_lt_int, cop_gt_int, cop_le_int, cop_ge_int, cop_eq_int, cop_ne_int, atI_c0, atI_c1, atI_c2, atI_c3, if_true, Bool.false_eq_true, if_false, ↓reduceIte, Bool.not_true, Bool.not_false, show ∀ M (r : T4), rd M (d4 r) = .tup [.int r.1, .int r.2.1, .int r.2.2.1, .int r.2.2.2] from fun _ _ => rfl, decide_eq_false c1, show decide ((0 : Int) < (i : Int)) = false from decide_eq_false (by omega), decide_eq_false c2, Bool.false_or, Bool.false_and]
theorem progfault_run {n : Nat} {M : Sto} {A B : List T3} {Q : List T4} (h : OkQ A B Q) : run fns cls (n + 2) f_trails_fault [.list (A.map d3), .list (B.map d3), .list (Q.map d4)] M = some (resT A B Q, M) := by
  rw [run_full (fn := fns[2]) rfl rfl]
  show body1 (run fns cls (n + 1)) cls ⟨"trails_fault", 3, _, b_trails_fault, []⟩ _ _ = _
  unfold b_trails_fault
  have hlen := h.len
  have f1 : callM (run fns cls (n + 1)) .pure 1 [.list (A.map d3), .list ((Q.map p1).map d3), .str "first"] M = some (resF "first" (firstBad A (Q.map p1)), M) := by
    have := call_pure (F := run fns cls (n + 1)) (f := 1) (M := M) (ds := [.list (A.map d3), .list ((Q.map p1).map d3), .str "first"]) (by rw [belowL, belowL, belowL, below_d3, below_d3]; rfl) (sums_run (n := n) (M := []) h.a) (by rw [rd_res]; exact below_res _ _)
    rwa [rd_res] at this
  have f2 : callM (run fns cls (n + 1)) .pure 1 [.list (B.map d3), .list ((Q.map p2).map d3), .str "second"] M = some (resF "second" (firstBad B (Q.map p2)), M) := by
    have := call_pure (F := run fns cls (n + 1)) (f := 1) (M := M) (ds := [.list (B.map d3), .list ((Q.map p2).map d3), .str "second"]) (by rw [belowL, belowL, belowL, below_d3, below_d3]; rfl) (sums_run (n := n) (M := []) h.b) (by rw [rd_res]; exact below_res _ _)
    rwa [rd_res] at this
  obtain ⟨env', hf, x, y, rfl⟩ := forP_find (q := fun p => badAt Q p.2) (res := fun p : T4 × Nat => .tup [.str "form", .int p.2]) (prog_form (F := run fns cls (n + 1)) (M := M) (A := A) (B := B) (Q := Q)) _ ⟨none, none, rfl⟩
  unfold resT
  rw [← find_zip]
  simp only [e_var, e_non, e_bl, e_int, e_str, e_bin, e_neg, e_not, e_and, e_or, e_cmp, e_chain, e_isN, e_ife, e_tup, e_lst, e_dct, e_idx, e_slc, e_blt, e_isi, e_fld, e_app, e_ext, e_idxof, e_dget, e_nil, e_cons, x_setv, x_sett, x_setp, x_seti, x_seti2, x_augi, x_setf, x_exp, x_ret, x_ife, x_frz, x_retN, x_pass, x_cont, x_nil, x_cons, getD_list, getD_tup, rd_int, rd_bl, rd_non, rd_str, rd_list, rd_tup, rd_fz, rd_dict, len_list, len_tup, abs_int, min2_int, max2_int, int_int, list_list, list_tup, mk_f, mk_t, truth_bl', truth_int', truth_list', tst_some, line0, line1, line2, line3, line4, line5, line6, line7, line8, asg, optC, optD, optI, isAbs, src_list, src_tup, src_enum, setI, body1, wipeE, List.map_cons, List.map_nil, List.length_cons, List.length_nil, List.replicate, List.cons_append, List.nil_append, List.getElem?_cons_zero, List.getElem?_cons_succ, List.set_cons_zero, List.set_cons_succ, Nat.reduceAdd, Nat.reduceSub, bop_add_int, bop_sub_int, cop_lt_int, cop_gt_int, cop_le_int, cop_ge_int, cop_eq_int, cop_ne_int, atI_c0, atI_c1, atI_c2, atI_c3, if_true, Bool.false_eq_true, if_false, ↓reduceIte, Bool.not_true, Bool.not_false, x_for, enum_map, hf]
  cases e1 : Q.zipIdx.find? fun p => badAt Q p.2 with
  | some i => simp only [e_var, e_non, e_bl, e_int, e_str, e_bin, e_neg, e_not, e_and, e_or, e_cmp, e_chain, e_isN, e_ife, e_tup, e_lst, e_dct, e_idx, e_slc, e_blt, e_isi, e_fld, e_app, e_ext, e_idxof, e_dget, e_nil, e_cons, x_setv, x_sett, x_setp, x_seti, x_seti2, x_augi, x_setf, x_exp, x_ret, x_ife, x_frz, x_retN, x_pass, x_cont, x_nil, x_cons, getD_list, getD_tup, rd_int, rd_bl, rd_non, rd_str, rd_list, rd_tup, rd_fz, rd_dict, len_list, len_tup, abs_int, min2_int, max2_int, int_int, list_list, list_tup, mk_f, mk_t, truth_bl', truth_int', truth_list', tst_some, line0, line1, line2, line3, line4, line5, line6, line7, line8, asg, optC, optD, optI, isAbs, src_list, src_tup, src_enum, setI, body1, wipeE, List.map_cons, List.map_nil, List.length_cons, List.length_nil, List.replicate, List.cons_append, List.nil_append, List.getElem?_cons_zero, List.getElem?_cons_succ, List.set_cons_zero, List.set_cons_succ, Nat.reduceAdd, Nat.reduceSub, bop_add_int, bop_sub_int, cop_lt_int, cop_gt_int, cop_le_int, cop_ge_int, cop_eq_int, cop_ne_int, atI_c0, atI_c1, atI_c2, atI_c3, if_true, Bool.false_eq_true, if_false, ↓reduceIte, Bool.not_true, Bool.not_false, Option.map_some]
  | none =>
    simp only [e_var, e_non, e_bl, e_int, e_str, e_bin, e_neg, e_not, e_and, e_or, e_cmp, e_chain, e_isN, e_ife, e_tup, e_lst, e_dct, e_idx, e_slc, e_blt, e_isi, e_fld, e_app, e_ext, e_idxof, e_dget, e_nil, e_cons, x_setv, x_sett, x_setp, x_seti, x_seti2, x_augi, x_setf, x_exp, x_ret, x_ife, x_frz, x_retN, x_pass, x_cont, x_nil, x_cons, getD_list, getD_tup, rd_int, rd_bl, rd_non, rd_str, rd_list, rd_tup, rd_fz, rd_dict, len_list, len_tup, abs_int, min2_int, max2_int, int_int, list_list, list_tup, mk_f, mk_t, truth_bl', truth_int', truth_list', tst_some, line0, line1, line2, line3, line4, line5, line6, line7, line8, asg, optC, optD, optI, isAbs, src_list, src_tup, src_enum, setI, body1, wipeE, List.map_cons, List.map_nil, List.length_cons, List.length_nil, List.replicate, List.cons_append, List.nil_append, List.getElem?_cons_zero, List.getElem?_cons_succ, List.set_cons_zero, List.set_cons_succ, Nat.reduceAdd, Nat.reduceSub, bop_add_int, bop_sub_int, cop_lt_int, cop_gt_int, cop_le_int, cop_ge_int, cop_eq_int, cop_ne_int, atI_c0, atI_c1, atI_c2, atI_c3, if_true, Bool.false_eq_true, if_false, ↓reduceIte, Bool.not_true, Bool.not_false, Option.map_none, e_call, c_p1 (Q := Q) (by omega), c_p2 (Q := Q) (by omega), f1, f2]
    cases e2 : firstBad A (Q.map p1) with
    | none =>
      simp only [e_var, e_non, e_bl, e_int, e_str, e_bin, e_neg, e_not, e_and, e_or, e_cmp, e_chain, e_isN, e_ife, e_tup, e_lst, e_dct, e_idx, e_slc, e_blt, e_isi, e_fld, e_app, e_ext, e_idxof, e_dget, e_nil, e_cons, x_setv, x_sett, x_setp, x_seti, x_seti2, x_augi, x_setf, x_exp, x_ret, x_ife, x_frz, x_retN, x_pass, x_cont, x_nil, x_cons, getD_list, getD_tup, rd_int, rd_bl, rd_non, rd_str, rd_list, rd_tup, rd_fz, rd_dict, len_list, len_tup, abs_int, min2_int, max2_int, int_int, list_list, list_tup, mk_f, mk_t, truth_bl', truth_int', truth_list', tst_some, line0, line1, line2, line3, line4, line5, line6, line7, line8, asg, optC, optD, optI, isAbs, src_list, src_tup, src_enum, setI, body1, wipeE, List.map_cons, List.map_nil, List.length_cons, List.length_nil, List.replicate, List.cons_append, List.nil_append, List.getElem?_cons_zero, List.getElem?_cons_succ, List.set_cons_zero, List.set_cons_succ, Nat.reduceAdd, Nat.reduceSub, bop_add_int, bop_sub_int, cop_lt_int, cop_gt_int, cop_le_int, cop_ge_int, cop_eq_int, cop_ne_int, atI_c0, atI_c1, atI_c2, atI_c3, if_true, Bool.false_eq_true, if_false, ↓reduceIte, Bool.not_true, Bool.not_false, resF, e_call, c_p2 (Q := Q) (by omega), f2]
    | some p => simp only [e_var, e_non, e_bl, e_int, e_str, e_bin, e_neg, e_not, e_and, e_or, e_cmp, e_chain, e_isN, e_ife, e_tup, e_lst, e_dct, e_idx, e_slc, e_blt, e_isi, e_fld, e_app, e_ext, e_idxof, e_dget, e_nil, e_cons, x_setv, x_sett, x_setp, x_seti, x_seti2, x_augi, x_setf, x_exp, x_ret, x_ife, x_frz, x_retN, x_pass, x_cont, x_nil, x_cons, getD_list, getD_tup, rd_int, rd_bl, rd_non, rd_str, rd_list, rd_tup, rd_fz, rd_dict, len_list, len_tup, abs_int, min2_int, max2_int, int_int, list_list, list_tup, mk_f, mk_t, truth_bl', truth_int', truth_list', tst_some, line0, line1, line2, line3, line4, line5, line6, line7, line8, asg, optC, optD, optI, isAbs, src_list, src_tup, src_enum, setI, body1, wipeE, List.map_cons, List.map_nil, List.length_cons, List.length_nil, List.replicate, List.cons_append, List.nil_append, List.getElem?_cons_zero, List.getElem?_cons_succ, List.set_cons_zero, List.set_cons_succ, Nat.reduceAdd, Nat.reduceSub, bop_add_int, bop_sub_int, cop_lt_int, cop_gt_int, cop_le_int, cop_ge_int, cop_eq_int, cop_ne_int, atI_c0, atI_c1, atI_c2, atI_c3, if_true, Bool.false_eq_true, if_false, ↓reduceIte, Bool.not_true, Bool.not_false, resF]
end K43

/-! K43i: joining two lists of cents, in plain Lean. -/
namespace K43
open MP
abbrev T2 := Int × Int
def mn (a b : Int) : Int := if b < a then b else a
def posF (l : List T2) : List T2 := l.filter fun r => decide (0 < r.2)
/-- (first's, second's, cents), as the program takes them off -/
def joinF : Nat → List T2 → List T2 → List T3
  | 0, _, _ => []
  | _ + 1, [], _ => []
  | _ + 1, _ :: _, [] => []
  | n + 1, (s, a) :: l, (t, b) :: r => (s, t, mn a b) :: joinF n (posF ((s, a - mn a b) :: l)) (posF ((t, b - mn a b) :: r))
def amt (l : List T2) (s : Int) : Int := ((l.filter fun r => decide (r.1 = s)).map (·.2)).sum
def tot (l : List T2) : Int := (l.map (·.2)).sum
def Pos (l : List T2) : Prop := ∀ r ∈ l, 0 < r.2
theorem posF_of {l : List T2} (h : Pos l) : posF l = l := List.filter_eq_self.mpr fun r hr => decide_eq_true (h r hr)
theorem posF_cons {s a : Int} {l : List T2} (h : Pos l) : posF ((s, a) :: l) = if 0 < a then (s, a) :: l else l := by
  unfold posF
  rw [List.filter_cons]
  have e := posF_of h
  unfold posF at e
  rw [e]
  by_cases c : 0 < a
  · simp [c]
  · simp [c]
theorem amt_cons (s a x : Int) (l : List T2) : amt ((s, a) :: l) x = (if s = x then a else 0) + amt l x := by
  unfold amt
  rw [List.filter_cons]
  by_cases c : s = x
  · simp [c]
  · simp [c]
theorem tot_cons (s a : Int) (l : List T2) : tot ((s, a) :: l) = a + tot l := by
  unfold tot
  rw [List.map_cons, List.sum_cons]
theorem tot_pos {l : List T2} (h : Pos l) : 0 ≤ tot l ∧ (tot l = 0 → l = []) := by
  induction l with
  | nil => exact ⟨Int.le_refl 0, fun _ => rfl⟩
  | cons r l ih =>
    obtain ⟨s, a⟩ := r
    have h1 := h (s, a) List.mem_cons_self
    have h2 := ih fun x hx => h x (List.mem_cons_of_mem _ hx)
    rw [tot_cons]
    simp only at h1
    exact ⟨by omega, fun z => by omega⟩
structure JoinOk (l r : List T2) (J : List T3) : Prop where
  pos : ∀ x ∈ J, 0 < x.2.2
  inl : ∀ x ∈ J, x.1 ∈ l.map (·.1)
  inr : ∀ x ∈ J, x.2.1 ∈ r.map (·.1)
  suml : ∀ s, ((J.filter fun x => decide (x.1 = s)).map (·.2.2)).sum = amt l s
  sumr : ∀ t, ((J.filter fun x => decide (x.2.1 = t)).map (·.2.2)).sum = amt r t
  nd : (J.map fun x => (x.1, x.2.1)).Nodup
  len : J.length ≤ l.length + r.length
theorem join_ok : ∀ (n : Nat) (l r : List T2), Pos l → Pos r → (l.map (·.1)).Nodup → (r.map (·.1)).Nodup → tot l = tot r → l.length + r.length ≤ n → JoinOk l r (joinF n l r)
  | 0, l, r, hl, hr, nl, nr, ht, hn => by
    have e1 : l = [] := List.length_eq_zero_iff.mp (by omega)
    have e2 : r = [] := List.length_eq_zero_iff.mp (by omega)
    subst e1 e2
    exact ⟨(fun x hx => nomatch hx), (fun x hx => nomatch hx), (fun x hx => nomatch hx), fun _ => rfl, fun _ => rfl, List.nodup_nil, Nat.le_refl 0⟩
  | n + 1, [], r, hl, hr, nl, nr, ht, hn => by
    have e2 : r = [] := (tot_pos hr).2 ht.symm
    subst e2
    exact ⟨(fun x hx => nomatch hx), (fun x hx => nomatch hx), (fun x hx => nomatch hx), fun _ => rfl, fun _ => rfl, List.nodup_nil, Nat.le_refl 0⟩
  | n + 1, x :: l, [], hl, hr, nl, nr, ht, hn => by
    have := (tot_pos hl).2 ht
    cases this
  | n + 1, (s, a) :: l, (t, b) :: r, hl, hr, nl, nr, ht, hn => by
    have ha : 0 < a := hl (s, a) List.mem_cons_self
    have hb : 0 < b := hr (t, b) List.mem_cons_self
    have hl' : Pos l := fun x hx => hl x (List.mem_cons_of_mem _ hx)
    have hr' : Pos r := fun x hx => hr x (List.mem_cons_of_mem _ hx)
    rw [List.map_cons, List.nodup_cons] at nl nr
    rw [tot_cons, tot_cons] at ht
    have hm : mn a b ≤ a ∧ mn a b ≤ b ∧ 0 < mn a b ∧ (mn a b = a ∨ mn a b = b) := by
      unfold mn
      split <;> omega
    rw [joinF]
    generalize mn a b = m at hm
    rw [posF_cons hl', posF_cons hr']
    -- what is left of both
    have key : ∀ (s a : Int) (l : List T2), Pos l → s ∉ l.map (·.1) → (l.map (·.1)).Nodup → m ≤ a → Pos (if 0 < a - m then (s, a - m) :: l else l) ∧ ((if 0 < a - m then (s, a - m) :: l else l).map (·.1)).Nodup ∧ tot (if 0 < a - m then (s, a - m) :: l else l) = a - m + tot l ∧
        (∀ x, amt (if 0 < a - m then (s, a - m) :: l else l) x = (if s = x then a - m else 0) + amt l x) ∧ (∀ x, x ∈ (if 0 < a - m then (s, a - m) :: l else l).map (·.1) → x ∈ l.map (·.1) ∨ (x = s ∧ m < a)) ∧ (if 0 < a - m then (s, a - m) :: l else l).length = l.length + (if m < a then 1 else 0) := by
      intro s a l hp hs hnd hma
      by_cases c : 0 < a - m
      · rw [if_pos c, if_pos (by omega)]
        refine ⟨fun x hx => ?_, by rw [List.map_cons, List.nodup_cons]; exact ⟨hs, hnd⟩, by rw [tot_cons], fun x => amt_cons s (a - m) x l, fun x hx => ?_, by rw [List.length_cons]⟩
        · rcases List.mem_cons.mp hx with z | z
          · rw [z]; exact c
          · exact hp x z
        · rw [List.map_cons] at hx
          rcases List.mem_cons.mp hx with z | z
          · exact .inr ⟨z, by omega⟩
          · exact .inl z
      · have e : a - m = 0 := by omega
        rw [if_neg c, if_neg (by omega)]
        refine ⟨hp, hnd, by omega, fun x => by rw [e]; split <;> omega, fun x hx => .inl hx, by omega⟩
    obtain ⟨l1, l2, l3, l4, l5, l6⟩ := key s a l hl' nl.1 nl.2 hm.1
    obtain ⟨r1, r2, r3, r4, r5, r6⟩ := key t b r hr' nr.1 nr.2 hm.2.1
    have hlen : l.length + r.length + 1 ≤ n := by
      simp only [List.length_cons] at hn
      omega
    have hsum : (if m < a then 1 else 0) + (if m < b then 1 else 0) ≤ (1 : Nat) := by
      rcases hm.2.2.2 with z | z
      · rw [if_neg (by omega)]; split <;> omega
      · rw [if_neg (c := m < b) (by omega)]; split <;> omega
    have ih := join_ok n _ _ l1 r1 l2 r2 (by rw [l3, r3]; omega) (by rw [l6, r6]; omega)
    generalize joinF n (if 0 < a - m then (s, a - m) :: l else l) (if 0 < b - m then (t, b - m) :: r else r) = J at ih
    refine ⟨fun x hx => ?_, fun x hx => ?_, fun x hx => ?_, fun x => ?_, fun x => ?_, ?_, ?_⟩
    · rcases List.mem_cons.mp hx with z | z
      · rw [z]; exact hm.2.2.1
      · exact ih.pos x z
    · rw [List.map_cons, List.mem_cons]
      rcases List.mem_cons.mp hx with z | z
      · rw [z]; exact .inl rfl
      · rcases l5 _ (ih.inl x z) with w | w
        · exact .inr w
        · exact .inl w.1
    · rw [List.map_cons, List.mem_cons]
      rcases List.mem_cons.mp hx with z | z
      · rw [z]; exact .inl rfl
      · rcases r5 _ (ih.inr x z) with w | w
        · exact .inr w
        · exact .inl w.1
    · have h1 := ih.suml x
      rw [l4 x] at h1
      rw [List.filter_cons, amt_cons]
      by_cases c : s = x
      · simp only [c, decide_true, if_true, List.map_cons, List.sum_cons] at h1 ⊢
        omega
      · simp only [c, decide_false, if_false, Bool.false_eq_true] at h1 ⊢
        omega
    · have h1 := ih.sumr x
      rw [r4 x] at h1
      rw [List.filter_cons, amt_cons]
      by_cases c : t = x
      · simp only [c, decide_true, if_true, List.map_cons, List.sum_cons] at h1 ⊢
        omega
      · simp only [c, decide_false, if_false, Bool.false_eq_true] at h1 ⊢
        omega
    · rw [List.map_cons, List.nodup_cons]
      refine ⟨fun z => ?_, ih.nd⟩
      obtain ⟨x, hx, e⟩ := List.mem_map.mp z
      simp only [Prod.mk.injEq] at e
      have q1 := l5 _ (ih.inl x hx)
      have q2 := r5 _ (ih.inr x hx)
      rw [e.1] at q1
      rw [e.2] at q2
      rcases q1 with q1 | q1
      · exact nl.1 q1
      · rcases q2 with q2 | q2
        · exact nr.1 q2
        · rcases hm.2.2.2 with w | w <;> omega
    · have := ih.len
      rw [l6, r6] at this
      simp only [List.length_cons]
      omega
end K43

/-! K43j: trails, walked. -/
namespace K43
open MP
def d2 (r : T2) : D := .tup [.int r.1, .int r.2]
def mk4 (u : Int) (x : T3) : T4 := (x.1, u, x.2.1, x.2.2)
theorem x_whl {F : FT} {cls : Nat → Nat} (c : E) (b : SB) (env : MP.Env) (M : Sto) : exec F cls (.whl c b) env M = whileD (fun env M => tst (ev F cls c env M)) (fun env M => exb F cls b env M) env M := by
  rw [exec]
abbrev wB : SB := (.cons (.setv 6 (.blt false .min2 (.cons (.idx (.idx (.var 4) (.int 0)) (.int 1)) (.cons (.idx (.idx (.var 5) (.int 0)) (.int 1)) .nil)))) (.cons (.exp (.app (.var 2) (.tup (.cons (.idx (.idx (.var 4) (.int 0)) (.int 0)) (.cons (.var 3) (.cons (.idx (.idx (.var 5) (.int 0)) (.int 0)) (.cons (.var 6) .nil))))))) (.cons (.setv 4 (.bin false .add (.lst false (.cons (.tup (.cons (.idx (.idx (.var 4) (.int 0)) (.int 0)) (.cons (.bin false .sub (.idx (.idx (.var 4) (.int 0)) (.int 1)) (.var 6)) .nil))) .nil)) (.slc false (.var 4) (.int 1) .absent))) (.cons (.setv 5 (.bin false .add (.lst false (.cons (.tup (.cons (.idx (.idx (.var 5) (.int 0)) (.int 0)) (.cons (.bin false .sub (.idx (.idx (.var 5) (.int 0)) (.int 1)) (.var 6)) .nil))) .nil)) (.slc false (.var 5) (.int 1) .absent))) (.cons (.setv 4 (.comp false [7] (.nm 7) .seq (.var 4) .absent (.cmp .gt (.idx (.var 7) (.int 1)) (.int 0)) (.var 7))) (.cons (.setv 5 (.comp false [7] (.nm 7) .seq (.var 5) .absent (.cmp .gt (.idx (.var 7) (.int 1)) (.int 0)) (.var 7))) .nil))))))
section
variable {F : FT} {M : Sto} {l : List T2}
theorem c_pos4 (hl : l.length ≤ 1000) (x0 x1 x2 x3 x5 x6 x7 : Option D) : ev F cls (.comp false [7] (.nm 7) .seq (.var 4) .absent (.cmp .gt (.idx (.var 7) (.int 1)) (.int 0)) (.var 7)) [x0, x1, x2, x3, some (.list (l.map d2)), x5, x6, x7] M = some (.list ((posF l).map d2), M) := by
  rw [e_comp]
  simp only [e_var, e_non, e_bl, e_int, e_str, e_bin, e_neg, e_not, e_and, e_or, e_cmp, e_chain, e_isN, e_ife, e_tup, e_lst, e_dct, e_idx, e_slc, e_blt, e_isi, e_fld, e_app, e_ext, e_idxof, e_dget, e_nil, e_cons, x_setv, x_sett, x_setp, x_seti, x_seti2, x_augi, x_setf, x_exp, x_ret, x_ife, x_frz, x_retN, x_pass, x_cont, x_nil, x_cons, getD_list, getD_tup, rd_int, rd_bl, rd_non, rd_str, rd_list, rd_tup, rd_fz, rd_dict, len_list, len_tup, abs_int, min2_int, max2_int, int_int, list_list, list_tup, mk_f, mk_t, truth_bl', truth_int', truth_list', tst_some, line0, line1, line2, line3, line4, line5, line6, line7, line8, asg, optC, optD, optI, isAbs, src_list, src_tup, src_enum, setI, body1, wipeE, List.map_cons, List.map_nil, List.length_cons, List.length_nil, List.replicate, List.cons_append, List.nil_append, List.getElem?_cons_zero, List.getElem?_cons_succ, List.set_cons_zero, List.set_cons_succ, Nat.reduceAdd, Nat.reduceSub, bop_add_int, bop_sub_int, cop_lt_int, cop_gt_int, cop_le_int, cop_ge_int, cop_eq_int, cop_ne_int, atI_c0, atI_c1, atI_c2, atI_c3, if_true, Bool.false_eq_true, if_false, ↓reduceIte, Bool.not_true, Bool.not_false]
  rw [if_pos (by rw [List.length_map]; unfold LINE; omega), compR_flT (g := d2) (q := fun r => decide (0 < r.2)) fun r _ => ?_]
  · rfl
  · simp only [turnF]
    simp only [e_var, e_non, e_bl, e_int, e_str, e_bin, e_neg, e_not, e_and, e_or, e_cmp, e_chain, e_isN, e_ife, e_tup, e_lst, e_dct, e_idx, e_slc, e_blt, e_isi, e_fld, e_app, e_ext, e_idxof, e_dget, e_nil, e_cons, x_setv, x_sett, x_setp, x_seti, x_seti2, x_augi, x_setf, x_exp, x_ret, x_ife, x_frz, x_retN, x_pass, x_cont, x_nil, x_cons, getD_list, getD_tup, rd_int, rd_bl, rd_non, rd_str, rd_list, rd_tup, rd_fz, rd_dict, len_list, len_tup, abs_int, min2_int, max2_int, int_int, list_list, list_tup, mk_f, mk_t, truth_bl', truth_int', truth_list', tst_some, line0, line1, line2, line3, line4, line5, line6, line7, line8, asg, optC, optD, optI, isAbs, src_list, src_tup, src_enum, setI, body1, wipeE, List.map_cons, List.map_nil, List.length_cons, List.length_nil, List.replicate, List.cons_append, List.nil_append, List.getElem?_cons_zero, List.getElem?_cons_succ, List.set_cons_zero, List.set_cons_succ, Nat.reduceAdd, Nat.reduceSub, bop_add_int, bop_sub_int, cop_lt_int, cop_gt_int, cop_le_int, cop_ge_int, cop_eq_int, cop_ne_int, atI_c0, atI_c1, atI_c2, atI_c3, if_true, Bool.false_eq_true, if_false, ↓reduceIte, Bool.not_true, Bool.not_false, show rd M (d2 r) = .tup [.int r.1, .int r.2] from rfl]
    cases decide (0 < r.2) <;> simp only [e_var, e_non, e_bl, e_int, e_str, e_bin, e_neg, e_not, e_and, e_or, e_cmp, e_chain, e_isN, e_ife, e_tup, e_lst, e_dct, e_idx, e_slc, e_blt, e_isi, e_fld, e_app, e_ext, e_idxof, e_dget, e_nil, e_cons, x_setv, x_sett, x_setp, x_seti, x_seti2, x_augi, x_setf, x_exp, x_ret, x_ife, x_frz, x_retN, x_pass, x_cont, x_nil, x_cons, getD_list, getD_tup, rd_int, rd_bl, rd_non, rd_str, rd_list, rd_tup, rd_fz, rd_dict, len_list, len_tup, abs_int, min2_int, max2_int, int_int, list_list, list_tup, mk_f, mk_t, truth_bl', truth_int', truth_list', tst_some, line0, line1, line2, line3, line4, line5, line6, line7, line8, asg, optC, optD, optI, isAbs, src_list, src_tup, src_enum, setI, body1, wipeE, List.map_cons, List.map_nil, List.length_cons, List.length_nil, List.replicate, List.cons_append, List.nil_append, List.getElem?_cons_zero, List.getElem?_cons_succ, List.set_cons_zero, List.set_cons_succ, Nat.reduceAdd, Nat.reduceSub, bop_add_int, bop_sub_int, cop_lt_int, cop_gt_int, cop_le_int, cop_ge_int, cop_eq_int, cop_ne_int, atI_c0, atI_c1, atI_c2, atI_c3, if_true, Bool.false_eq_true, if_false, ↓reduceIte, Bool.not_true, Bool.not_false]
theorem c_pos5 (hl : l.length ≤ 1000) (x0 x1 x2 x3 x4 x6 x7 : Option D) : ev F cls (.comp false [7] (.nm 7) .seq (.var 5) .absent (.cmp .gt (.idx (.var 7) (.int 1)) (.int 0)) (.var 7)) [x0, x1, x2, x3, x4, some (.list (l.map d2)), x6, x7] M = some (.list ((posF l).map d2), M) := by
  rw [e_comp]
  simp only [e_var, e_non, e_bl, e_int, e_str, e_bin, e_neg, e_not, e_and, e_or, e_cmp, e_chain, e_isN, e_ife, e_tup, e_lst, e_dct, e_idx, e_slc, e_blt, e_isi, e_fld, e_app, e_ext, e_idxof, e_dget, e_nil, e_cons, x_setv, x_sett, x_setp, x_seti, x_seti2, x_augi, x_setf, x_exp, x_ret, x_ife, x_frz, x_retN, x_pass, x_cont, x_nil, x_cons, getD_list, getD_tup, rd_int, rd_bl, rd_non, rd_str, rd_list, rd_tup, rd_fz, rd_dict, len_list, len_tup, abs_int, min2_int, max2_int, int_int, list_list, list_tup, mk_f, mk_t, truth_bl', truth_int', truth_list', tst_some, line0, line1, line2, line3, line4, line5, line6, line7, line8, asg, optC, optD, optI, isAbs, src_list, src_tup, src_enum, setI, body1, wipeE, List.map_cons, List.map_nil, List.length_cons, List.length_nil, List.replicate, List.cons_append, List.nil_append, List.getElem?_cons_zero, List.getElem?_cons_succ, List.set_cons_zero, List.set_cons_succ, Nat.reduceAdd, Nat.reduceSub, bop_add_int, bop_sub_int, cop_lt_int, cop_gt_int, cop_le_int, cop_ge_int, cop_eq_int, cop_ne_int, atI_c0, atI_c1, atI_c2, atI_c3, if_true, Bool.false_eq_true, if_false, ↓reduceIte, Bool.not_true, Bool.not_false]
  rw [if_pos (by rw [List.length_map]; unfold LINE; omega), compR_flT (g := d2) (q := fun r => decide (0 < r.2)) fun r _ => ?_]
  · rfl
  · simp only [turnF]
    simp only [e_var, e_non, e_bl, e_int, e_str, e_bin, e_neg, e_not, e_and, e_or, e_cmp, e_chain, e_isN, e_ife, e_tup, e_lst, e_dct, e_idx, e_slc, e_blt, e_isi, e_fld, e_app, e_ext, e_idxof, e_dget, e_nil, e_cons, x_setv, x_sett, x_setp, x_seti, x_seti2, x_augi, x_setf, x_exp, x_ret, x_ife, x_frz, x_retN, x_pass, x_cont, x_nil, x_cons, getD_list, getD_tup, rd_int, rd_bl, rd_non, rd_str, rd_list, rd_tup, rd_fz, rd_dict, len_list, len_tup, abs_int, min2_int, max2_int, int_int, list_list, list_tup, mk_f, mk_t, truth_bl', truth_int', truth_list', tst_some, line0, line1, line2, line3, line4, line5, line6, line7, line8, asg, optC, optD, optI, isAbs, src_list, src_tup, src_enum, setI, body1, wipeE, List.map_cons, List.map_nil, List.length_cons, List.length_nil, List.replicate, List.cons_append, List.nil_append, List.getElem?_cons_zero, List.getElem?_cons_succ, List.set_cons_zero, List.set_cons_succ, Nat.reduceAdd, Nat.reduceSub, bop_add_int, bop_sub_int, cop_lt_int, cop_gt_int, cop_le_int, cop_ge_int, cop_eq_int, cop_ne_int, atI_c0, atI_c1, atI_c2, atI_c3, if_true, Bool.false_eq_true, if_false, ↓reduceIte, Bool.not_true, Bool.not_false, show rd M (d2 r) = .tup [.int r.1, .int r.2] from rfl]
    cases decide (0 < r.2) <;> simp only [e_var, e_non, e_bl, e_int, e_str, e_bin, e_neg, e_not, e_and, e_or, e_cmp, e_chain, e_isN, e_ife, e_tup, e_lst, e_dct, e_idx, e_slc, e_blt, e_isi, e_fld, e_app, e_ext, e_idxof, e_dget, e_nil, e_cons, x_setv, x_sett, x_setp, x_seti, x_seti2, x_augi, x_setf, x_exp, x_ret, x_ife, x_frz, x_retN, x_pass, x_cont, x_nil, x_cons, getD_list, getD_tup, rd_int, rd_bl, rd_non, rd_str, rd_list, rd_tup, rd_fz, rd_dict, len_list, len_tup, abs_int, min2_int, max2_int, int_int, list_list, list_tup, mk_f, mk_t, truth_bl', truth_int', truth_list', tst_some, line0, line1, line2, line3, line4, line5, line6, line7, line8, asg, optC, optD, optI, isAbs, src_list, src_tup, src_enum, setI, body1, wipeE, List.map_cons, List.map_nil, List.length_cons, List.length_nil, List.replicate, List.cons_append, List.nil_append, List.getElem?_cons_zero, List.getElem?_cons_succ, List.set_cons_zero, List.set_cons_succ, Nat.reduceAdd, Nat.reduceSub, bop_add_int, bop_sub_int, cop_lt_int, cop_gt_int, cop_le_int, cop_ge_int, cop_eq_int, cop_ne_int, atI_c0, atI_c1, atI_c2, atI_c3, if_true, Bool.false_eq_true, if_false, ↓reduceIte, Bool.not_true, Bool.not_false]
end
theorem posF_len (l : List T2) : (posF l).length ≤ l.length := List.length_filter_le _ _
theorem while_run {F : FT} {x0 x1 : Option D} {u : Int} : ∀ (n : Nat) (l r : List T2) (G : List T4) (x : Option D), Pos l → Pos r → l.length + r.length ≤ n → G.length + n ≤ 1000 →
    ∃ y z w, whileD (fun env M => tst (ev F cls (.and (.var 4) (.var 5)) env M)) (fun env M => exb F cls wB env M) [x0, x1, some (.loc 0), some (.int u), some (.list (l.map d2)), some (.list (r.map d2)), x, none] [.list (G.map d4)] =
      some (.next, [x0, x1, some (.loc 0), some (.int u), some y, some z, w, none], [.list ((G ++ (joinF n l r).map (mk4 u)).map d4)])
  | n, [], r, G, x, hl, hr, hn, hg => by
    refine ⟨.list (([] : List T2).map d2), .list (r.map d2), x, ?_⟩
    rw [whileD]
    simp only [e_var, e_non, e_bl, e_int, e_str, e_bin, e_neg, e_not, e_and, e_or, e_cmp, e_chain, e_isN, e_ife, e_tup, e_lst, e_dct, e_idx, e_slc, e_blt, e_isi, e_fld, e_app, e_ext, e_idxof, e_dget, e_nil, e_cons, x_setv, x_sett, x_setp, x_seti, x_seti2, x_augi, x_setf, x_exp, x_ret, x_ife, x_frz, x_retN, x_pass, x_cont, x_nil, x_cons, getD_list, getD_tup, rd_int, rd_bl, rd_non, rd_str, rd_list, rd_tup, rd_fz, rd_dict, len_list, len_tup, abs_int, min2_int, max2_int, int_int, list_list, list_tup, mk_f, mk_t, truth_bl', truth_int', truth_list', tst_some, line0, line1, line2, line3, line4, line5, line6, line7, line8, asg, optC, optD, optI, isAbs, src_list, src_tup, src_enum, setI, body1, wipeE, List.map_cons, List.map_nil, List.length_cons, List.length_nil, List.replicate, List.cons_append, List.nil_append, List.getElem?_cons_zero, List.getElem?_cons_succ, List.set_cons_zero, List.set_cons_succ, Nat.reduceAdd, Nat.reduceSub, bop_add_int, bop_sub_int, cop_lt_int, cop_gt_int, cop_le_int, cop_ge_int, cop_eq_int, cop_ne_int, atI_c0, atI_c1, atI_c2, atI_c3, if_true, Bool.false_eq_true, if_false, ↓reduceIte, Bool.not_true, Bool.not_false, rd_list, List.isEmpty_nil]
    have e : joinF n [] r = [] := by cases n <;> rfl
    rw [e]
    simp
  | n, a :: l, [], G, x, hl, hr, hn, hg => by
    refine ⟨.list ((a :: l).map d2), .list (([] : List T2).map d2), x, ?_⟩
    rw [whileD]
    simp only [e_var, e_non, e_bl, e_int, e_str, e_bin, e_neg, e_not, e_and, e_or, e_cmp, e_chain, e_isN, e_ife, e_tup, e_lst, e_dct, e_idx, e_slc, e_blt, e_isi, e_fld, e_app, e_ext, e_idxof, e_dget, e_nil, e_cons, x_setv, x_sett, x_setp, x_seti, x_seti2, x_augi, x_setf, x_exp, x_ret, x_ife, x_frz, x_retN, x_pass, x_cont, x_nil, x_cons, getD_list, getD_tup, rd_int, rd_bl, rd_non, rd_str, rd_list, rd_tup, rd_fz, rd_dict, len_list, len_tup, abs_int, min2_int, max2_int, int_int, list_list, list_tup, mk_f, mk_t, truth_bl', truth_int', truth_list', tst_some, line0, line1, line2, line3, line4, line5, line6, line7, line8, asg, optC, optD, optI, isAbs, src_list, src_tup, src_enum, setI, body1, wipeE, List.map_cons, List.map_nil, List.length_cons, List.length_nil, List.replicate, List.cons_append, List.nil_append, List.getElem?_cons_zero, List.getElem?_cons_succ, List.set_cons_zero, List.set_cons_succ, Nat.reduceAdd, Nat.reduceSub, bop_add_int, bop_sub_int, cop_lt_int, cop_gt_int, cop_le_int, cop_ge_int, cop_eq_int, cop_ne_int, atI_c0, atI_c1, atI_c2, atI_c3, if_true, Bool.false_eq_true, if_false, ↓reduceIte, Bool.not_true, Bool.not_false, List.isEmpty_nil, List.isEmpty_cons]
    have e : joinF n (a :: l) [] = [] := by cases n <;> rfl
    rw [e]
    simp
  | 0, a :: l, b :: r, G, x, hl, hr, hn, hg => by simp at hn
  | n + 1, (s, a) :: l, (t, b) :: r, G, x, hl, hr, hn, hg => by
    have hl' : Pos l := fun x hx => hl x (List.mem_cons_of_mem _ hx)
    have hr' : Pos r := fun x hx => hr x (List.mem_cons_of_mem _ hx)
    have p1 : Pos (posF ((s, a - mn a b) :: l)) := fun x hx => of_decide_eq_true (List.mem_filter.mp hx).2
    have p2 : Pos (posF ((t, b - mn a b) :: r)) := fun x hx => of_decide_eq_true (List.mem_filter.mp hx).2
    simp only [List.length_cons] at hn
    have q : (posF ((s, a - mn a b) :: l)).length + (posF ((t, b - mn a b) :: r)).length ≤ n := by
      rw [posF_cons hl', posF_cons hr']
      have hm : mn a b = a ∨ mn a b = b := by
        unfold mn
        split <;> omega
      rcases hm with z | z
      · rw [if_neg (by omega)]
        split <;> (try simp only [List.length_cons]) <;> omega
      · rw [if_neg (c := 0 < b - mn a b) (by omega)]
        split <;> (try simp only [List.length_cons]) <;> omega
    obtain ⟨y, z, w, ih⟩ := while_run (F := F) (x0 := x0) (x1 := x1) (u := u) n _ _ (G ++ [mk4 u (s, t, mn a b)]) (some (.int (mn a b))) p1 p2 q (by rw [List.length_append, List.length_cons, List.length_nil]; omega)
    refine ⟨y, z, w, ?_⟩
    rw [whileD]
    have hGl : (G.map d4).length < LINE := by
      rw [List.length_map]
      unfold LINE
      omega
    have hat : ([MO.list (G.map d4)] : Sto)[0]? = some (.list (G.map d4)) := rfl
    have hset : ([MO.list (G.map d4)] : Sto).set 0 (.list (G.map d4 ++ [.tup [.int s, .int u, .int t, .int (mn a b)]])) = [.list ((G ++ [mk4 u (s, t, mn a b)]).map d4)] := by
      simp [mk4, d4]
    have ha1 : bop .add (.list [.tup [.int s, .int (a - mn a b)]]) (.list (l.map d2)) = some (.list (((s, a - mn a b) :: l).map d2)) := by
      rw [bop_add_list (by simp only [List.length_map, List.length_cons, List.length_nil]; unfold LINE; omega)]
      rfl
    have ha2 : bop .add (.list [.tup [.int t, .int (b - mn a b)]]) (.list (r.map d2)) = some (.list (((t, b - mn a b) :: r).map d2)) := by
      rw [bop_add_list (by simp only [List.length_map, List.length_cons, List.length_nil]; unfold LINE; omega)]
      rfl
    have hc1 : ∀ (d : D) (ds : List D), cutD (d :: ds) (some 1) none = ds := fun d ds => by
      rw [cutD_from _ (by decide)]
      rfl
    have hmn : (if b < a then b else a) = mn a b := rfl
    have hp4 := fun (x2 x3 x5 x6 x7 : Option D) (M : Sto) => c_pos4 (F := F) (M := M) (l := (s, a - mn a b) :: l) (by simp only [List.length_cons]; omega) x0 x1 x2 x3 x5 x6 x7
    have hp5 := fun (x2 x3 x4 x6 x7 : Option D) (M : Sto) => c_pos5 (F := F) (M := M) (l := (t, b - mn a b) :: r) (by simp only [List.length_cons]; omega) x0 x1 x2 x3 x4 x6 x7
    simp only [List.map_cons, show ∀ r : T2, d2 r = .tup [.int r.1, .int r.2] from fun _ => rfl] at hp4 hp5 ha1 ha2
    have e1 : ([MO.list (List.map d4 (G ++ [mk4 u (s, t, mn a b)]))] : Sto) = [MO.list (List.map d4 (G ++ [mk4 u (s, t, mn a b)]))] := rfl
    have ej : (G ++ [mk4 u (s, t, mn a b)] ++ (joinF n (posF ((s, a - mn a b) :: l)) (posF ((t, b - mn a b) :: r))).map (mk4 u)) = G ++ (joinF (n + 1) ((s, a) :: l) ((t, b) :: r)).map (mk4 u) := by
      rw [joinF, List.map_cons, List.append_assoc]
      rfl
    rw [ej] at ih
    rw [List.map_cons, List.map_cons, show d2 (s, a) = .tup [.int s, .int a] from rfl, show d2 (t, b) = .tup [.int t, .int b] from rfl]
    simp only [e_var, e_non, e_bl, e_int, e_str, e_bin, e_neg, e_not, e_and, e_or, e_cmp, e_chain, e_isN, e_ife, e_tup, e_lst, e_dct, e_idx, e_slc, e_blt, e_isi, e_fld, e_app, e_ext, e_idxof, e_dget, e_nil, e_cons, x_setv, x_sett, x_setp, x_seti, x_seti2, x_augi, x_setf, x_exp, x_ret, x_ife, x_frz, x_retN, x_pass, x_cont, x_nil, x_cons, getD_list, getD_tup, rd_int, rd_bl, rd_non, rd_str, rd_list, rd_tup, rd_fz, rd_dict, len_list, len_tup, abs_int, min2_int, max2_int, int_int, list_list, list_tup, mk_f, mk_t, truth_bl', truth_int', truth_list', tst_some, line0, line1, line2, line3, line4, line5, line6, line7, line8, asg, optC, optD, optI, isAbs, src_list, src_tup, src_enum, setI, body1, wipeE, List.map_cons, List.map_nil, List.length_cons, List.length_nil, List.replicate, List.cons_append, List.nil_append, List.getElem?_cons_zero, List.getElem?_cons_succ, List.set_cons_zero, List.set_cons_succ, Nat.reduceAdd, Nat.reduceSub, bop_add_int, bop_sub_int, cop_lt_int, cop_gt_int, cop_le_int, cop_ge_int, cop_eq_int, cop_ne_int, atI_c0, atI_c1, atI_c2, atI_c3, if_true, Bool.false_eq_true, if_false, ↓reduceIte, Bool.not_true, Bool.not_false, List.isEmpty_cons, hmn, hat, hGl, hset, hc1, ha1, ha2, hp4, hp5]
    exact ih
end K43

/-! K43k: trails, walked to its end. -/
namespace K43
open MP
def sel (A : List T3) (u : Int) : List T2 := (A.filter fun r => decide (r.2.1 = u)).map fun r => (r.1, r.2.2)
def stepJ (A B : List T3) (G : List T4) (u : Int) : List T4 := G ++ (joinF ((sel A u).length + (sel B u).length) (sel A u) (sel B u)).map (mk4 u)
def usesOf (A : List T3) : List Int := sortI (dd (A.map fun r => r.2.1))
def found (A B : List T3) : List T4 := (usesOf A).foldl (stepJ A B) []
def sort4 (Q : List T4) : List T4 := Q.mergeSort fun a b => lexLe (l4 a) (l4 b)
theorem sort4_map (Q : List T4) : (sortK (Q.map l4)).map kD = (sort4 Q).map d4 := by
  unfold sortK sort4
  rw [← List.map_mergeSort (f := l4) (r := fun a b => lexLe (l4 a) (l4 b)) (fun _ _ _ _ => rfl), List.map_map]
  rfl
theorem joinF_len : ∀ (n : Nat) (l r : List T2), (joinF n l r).length ≤ n
  | 0, _, _ => Nat.le_refl 0
  | n + 1, [], _ => Nat.zero_le _
  | n + 1, _ :: _, [] => Nat.zero_le _
  | n + 1, (s, a) :: l, (t, b) :: r => by
    rw [joinF, List.length_cons]
    exact Nat.succ_le_succ (joinF_len n _ _)
theorem sel_len (A : List T3) (u : Int) : (sel A u).length ≤ A.length := by
  unfold sel
  rw [List.length_map]
  exact List.length_filter_le _ _
section
variable {F : FT} {M : Sto} {A : List T3}
theorem c_use (hA : A.length ≤ 1000) (x1 x2 x3 x4 x5 x6 x7 : Option D) : ev F cls (.comp false [7] (.nm 7) .seq (.var 0) .absent .absent (.idx (.var 7) (.int 1))) [some (.list (A.map d3)), x1, x2, x3, x4, x5, x6, x7] M = some (.list ((A.map fun r => r.2.1).map D.int), M) := by
  rw [e_comp]
  simp only [e_var, e_non, e_bl, e_int, e_str, e_bin, e_neg, e_not, e_and, e_or, e_cmp, e_chain, e_isN, e_ife, e_tup, e_lst, e_dct, e_idx, e_slc, e_blt, e_isi, e_fld, e_app, e_ext, e_idxof, e_dget, e_nil, e_cons, x_setv, x_sett, x_setp, x_seti, x_seti2, x_augi, x_setf, x_exp, x_ret, x_ife, x_frz, x_retN, x_pass, x_cont, x_nil, x_cons, getD_list, getD_tup, rd_int, rd_bl, rd_non, rd_str, rd_list, rd_tup, rd_fz, rd_dict, len_list, len_tup, abs_int, min2_int, max2_int, int_int, list_list, list_tup, mk_f, mk_t, truth_bl', truth_int', truth_list', tst_some, line0, line1, line2, line3, line4, line5, line6, line7, line8, asg, optC, optD, optI, isAbs, src_list, src_tup, src_enum, setI, body1, wipeE, List.map_cons, List.map_nil, List.length_cons, List.length_nil, List.replicate, List.cons_append, List.nil_append, List.getElem?_cons_zero, List.getElem?_cons_succ, List.set_cons_zero, List.set_cons_succ, Nat.reduceAdd, Nat.reduceSub, bop_add_int, bop_sub_int, cop_lt_int, cop_gt_int, cop_le_int, cop_ge_int, cop_eq_int, cop_ne_int, atI_c0, atI_c1, atI_c2, atI_c3, if_true, Bool.false_eq_true, if_false, ↓reduceIte, Bool.not_true, Bool.not_false]
  rw [if_pos (by rw [List.length_map]; unfold LINE; omega), compR_mapT (g := fun r => .int r.2.1) fun r _ => ?_]
  · simp only [List.map_map]; rfl
  · simp only [turnF, d3]
    simp only [e_var, e_non, e_bl, e_int, e_str, e_bin, e_neg, e_not, e_and, e_or, e_cmp, e_chain, e_isN, e_ife, e_tup, e_lst, e_dct, e_idx, e_slc, e_blt, e_isi, e_fld, e_app, e_ext, e_idxof, e_dget, e_nil, e_cons, x_setv, x_sett, x_setp, x_seti, x_seti2, x_augi, x_setf, x_exp, x_ret, x_ife, x_frz, x_retN, x_pass, x_cont, x_nil, x_cons, getD_list, getD_tup, rd_int, rd_bl, rd_non, rd_str, rd_list, rd_tup, rd_fz, rd_dict, len_list, len_tup, abs_int, min2_int, max2_int, int_int, list_list, list_tup, mk_f, mk_t, truth_bl', truth_int', truth_list', tst_some, line0, line1, line2, line3, line4, line5, line6, line7, line8, asg, optC, optD, optI, isAbs, src_list, src_tup, src_enum, setI, body1, wipeE, List.map_cons, List.map_nil, List.length_cons, List.length_nil, List.replicate, List.cons_append, List.nil_append, List.getElem?_cons_zero, List.getElem?_cons_succ, List.set_cons_zero, List.set_cons_succ, Nat.reduceAdd, Nat.reduceSub, bop_add_int, bop_sub_int, cop_lt_int, cop_gt_int, cop_le_int, cop_ge_int, cop_eq_int, cop_ne_int, atI_c0, atI_c1, atI_c2, atI_c3, if_true, Bool.false_eq_true, if_false, ↓reduceIte, Bool.not_true, Bool.not_false]
theorem c_sel0 (hA : A.length ≤ 1000) (u : Int) (x1 x2 x4 x5 x6 x7 : Option D) : ev F cls (.comp false [7] (.nm 7) .seq (.var 0) .absent (.cmp .eq (.idx (.var 7) (.int 1)) (.var 3)) (.tup (.cons (.idx (.var 7) (.int 0)) (.cons (.idx (.var 7) (.int 2)) .nil)))) [some (.list (A.map d3)), x1, x2, some (.int u), x4, x5, x6, x7] M = some (.list ((sel A u).map d2), M) := by
  rw [e_comp]
  simp only [e_var, e_non, e_bl, e_int, e_str, e_bin, e_neg, e_not, e_and, e_or, e_cmp, e_chain, e_isN, e_ife, e_tup, e_lst, e_dct, e_idx, e_slc, e_blt, e_isi, e_fld, e_app, e_ext, e_idxof, e_dget, e_nil, e_cons, x_setv, x_sett, x_setp, x_seti, x_seti2, x_augi, x_setf, x_exp, x_ret, x_ife, x_frz, x_retN, x_pass, x_cont, x_nil, x_cons, getD_list, getD_tup, rd_int, rd_bl, rd_non, rd_str, rd_list, rd_tup, rd_fz, rd_dict, len_list, len_tup, abs_int, min2_int, max2_int, int_int, list_list, list_tup, mk_f, mk_t, truth_bl', truth_int', truth_list', tst_some, line0, line1, line2, line3, line4, line5, line6, line7, line8, asg, optC, optD, optI, isAbs, src_list, src_tup, src_enum, setI, body1, wipeE, List.map_cons, List.map_nil, List.length_cons, List.length_nil, List.replicate, List.cons_append, List.nil_append, List.getElem?_cons_zero, List.getElem?_cons_succ, List.set_cons_zero, List.set_cons_succ, Nat.reduceAdd, Nat.reduceSub, bop_add_int, bop_sub_int, cop_lt_int, cop_gt_int, cop_le_int, cop_ge_int, cop_eq_int, cop_ne_int, atI_c0, atI_c1, atI_c2, atI_c3, if_true, Bool.false_eq_true, if_false, ↓reduceIte, Bool.not_true, Bool.not_false]
  rw [if_pos (by rw [List.length_map]; unfold LINE; omega), compR_flT (g := fun r => d2 (r.1, r.2.2)) (q := fun r => decide (r.2.1 = u)) fun r _ => ?_]
  · unfold sel
    simp only [List.map_map]; rfl
  · simp only [turnF, d3]
    simp only [e_var, e_non, e_bl, e_int, e_str, e_bin, e_neg, e_not, e_and, e_or, e_cmp, e_chain, e_isN, e_ife, e_tup, e_lst, e_dct, e_idx, e_slc, e_blt, e_isi, e_fld, e_app, e_ext, e_idxof, e_dget, e_nil, e_cons, x_setv, x_sett, x_setp, x_seti, x_seti2, x_augi, x_setf, x_exp, x_ret, x_ife, x_frz, x_retN, x_pass, x_cont, x_nil, x_cons, getD_list, getD_tup, rd_int, rd_bl, rd_non, rd_str, rd_list, rd_tup, rd_fz, rd_dict, len_list, len_tup, abs_int, min2_int, max2_int, int_int, list_list, list_tup, mk_f, mk_t, truth_bl', truth_int', truth_list', tst_some, line0, line1, line2, line3, line4, line5, line6, line7, line8, asg, optC, optD, optI, isAbs, src_list, src_tup, src_enum, setI, body1, wipeE, List.map_cons, List.map_nil, List.length_cons, List.length_nil, List.replicate, List.cons_append, List.nil_append, List.getElem?_cons_zero, List.getElem?_cons_succ, List.set_cons_zero, List.set_cons_succ, Nat.reduceAdd, Nat.reduceSub, bop_add_int, bop_sub_int, cop_lt_int, cop_gt_int, cop_le_int, cop_ge_int, cop_eq_int, cop_ne_int, atI_c0, atI_c1, atI_c2, atI_c3, if_true, Bool.false_eq_true, if_false, ↓reduceIte, Bool.not_true, Bool.not_false]
    cases decide (r.2.1 = u) <;> simp only [e_var, e_non, e_bl, e_int, e_str, e_bin, e_neg, e_not, e_and, e_or, e_cmp, e_chain, e_isN, e_ife, e_tup, e_lst, e_dct, e_idx, e_slc, e_blt, e_isi, e_fld, e_app, e_ext, e_idxof, e_dget, e_nil, e_cons, x_setv, x_sett, x_setp, x_seti, x_seti2, x_augi, x_setf, x_exp, x_ret, x_ife, x_frz, x_retN, x_pass, x_cont, x_nil, x_cons, getD_list, getD_tup, rd_int, rd_bl, rd_non, rd_str, rd_list, rd_tup, rd_fz, rd_dict, len_list, len_tup, abs_int, min2_int, max2_int, int_int, list_list, list_tup, mk_f, mk_t, truth_bl', truth_int', truth_list', tst_some, line0, line1, line2, line3, line4, line5, line6, line7, line8, asg, optC, optD, optI, isAbs, src_list, src_tup, src_enum, setI, body1, wipeE, List.map_cons, List.map_nil, List.length_cons, List.length_nil, List.replicate, List.cons_append, List.nil_append, List.getElem?_cons_zero, List.getElem?_cons_succ, List.set_cons_zero, List.set_cons_succ, Nat.reduceAdd, Nat.reduceSub, bop_add_int, bop_sub_int, cop_lt_int, cop_gt_int, cop_le_int, cop_ge_int, cop_eq_int, cop_ne_int, atI_c0, atI_c1, atI_c2, atI_c3, if_true, Bool.false_eq_true, if_false, ↓reduceIte, Bool.not_true, Bool.not_false]
    rfl
theorem c_sel1 (hA : A.length ≤ 1000) (u : Int) (x0 x2 x4 x5 x6 x7 : Option D) : ev F cls (.comp false [7] (.nm 7) .seq (.var 1) .absent (.cmp .eq (.idx (.var 7) (.int 1)) (.var 3)) (.tup (.cons (.idx (.var 7) (.int 0)) (.cons (.idx (.var 7) (.int 2)) .nil)))) [x0, some (.list (A.map d3)), x2, some (.int u), x4, x5, x6, x7] M = some (.list ((sel A u).map d2), M) := by
  rw [e_comp]
  simp only [e_var, e_non, e_bl, e_int, e_str, e_bin, e_neg, e_not, e_and, e_or, e_cmp, e_chain, e_isN, e_ife, e_tup, e_lst, e_dct, e_idx, e_slc, e_blt, e_isi, e_fld, e_app, e_ext, e_idxof, e_dget, e_nil, e_cons, x_setv, x_sett, x_setp, x_seti, x_seti2, x_augi, x_setf, x_exp, x_ret, x_ife, x_frz, x_retN, x_pass, x_cont, x_nil, x_cons, getD_list, getD_tup, rd_int, rd_bl, rd_non, rd_str, rd_list, rd_tup, rd_fz, rd_dict, len_list, len_tup, abs_int, min2_int, max2_int, int_int, list_list, list_tup, mk_f, mk_t, truth_bl', truth_int', truth_list', tst_some, line0, line1, line2, line3, line4, line5, line6, line7, line8, asg, optC, optD, optI, isAbs, src_list, src_tup, src_enum, setI, body1, wipeE, List.map_cons, List.map_nil, List.length_cons, List.length_nil, List.replicate, List.cons_append, List.nil_append, List.getElem?_cons_zero, List.getElem?_cons_succ, List.set_cons_zero, List.set_cons_succ, Nat.reduceAdd, Nat.reduceSub, bop_add_int, bop_sub_int, cop_lt_int, cop_gt_int, cop_le_int, cop_ge_int, cop_eq_int, cop_ne_int, atI_c0, atI_c1, atI_c2, atI_c3, if_true, Bool.false_eq_true, if_false, ↓reduceIte, Bool.not_true, Bool.not_false]
  rw [if_pos (by rw [List.length_map]; unfold LINE; omega), compR_flT (g := fun r => d2 (r.1, r.2.2)) (q := fun r => decide (r.2.1 = u)) fun r _ => ?_]
  · unfold sel
    simp only [List.map_map]; rfl
  · simp only [turnF, d3]
    simp only [e_var, e_non, e_bl, e_int, e_str, e_bin, e_neg, e_not, e_and, e_or, e_cmp, e_chain, e_isN, e_ife, e_tup, e_lst, e_dct, e_idx, e_slc, e_blt, e_isi, e_fld, e_app, e_ext, e_idxof, e_dget, e_nil, e_cons, x_setv, x_sett, x_setp, x_seti, x_seti2, x_augi, x_setf, x_exp, x_ret, x_ife, x_frz, x_retN, x_pass, x_cont, x_nil, x_cons, getD_list, getD_tup, rd_int, rd_bl, rd_non, rd_str, rd_list, rd_tup, rd_fz, rd_dict, len_list, len_tup, abs_int, min2_int, max2_int, int_int, list_list, list_tup, mk_f, mk_t, truth_bl', truth_int', truth_list', tst_some, line0, line1, line2, line3, line4, line5, line6, line7, line8, asg, optC, optD, optI, isAbs, src_list, src_tup, src_enum, setI, body1, wipeE, List.map_cons, List.map_nil, List.length_cons, List.length_nil, List.replicate, List.cons_append, List.nil_append, List.getElem?_cons_zero, List.getElem?_cons_succ, List.set_cons_zero, List.set_cons_succ, Nat.reduceAdd, Nat.reduceSub, bop_add_int, bop_sub_int, cop_lt_int, cop_gt_int, cop_le_int, cop_ge_int, cop_eq_int, cop_ne_int, atI_c0, atI_c1, atI_c2, atI_c3, if_true, Bool.false_eq_true, if_false, ↓reduceIte, Bool.not_true, Bool.not_false]
    cases decide (r.2.1 = u) <;> simp only [e_var, e_non, e_bl, e_int, e_str, e_bin, e_neg, e_not, e_and, e_or, e_cmp, e_chain, e_isN, e_ife, e_tup, e_lst, e_dct, e_idx, e_slc, e_blt, e_isi, e_fld, e_app, e_ext, e_idxof, e_dget, e_nil, e_cons, x_setv, x_sett, x_setp, x_seti, x_seti2, x_augi, x_setf, x_exp, x_ret, x_ife, x_frz, x_retN, x_pass, x_cont, x_nil, x_cons, getD_list, getD_tup, rd_int, rd_bl, rd_non, rd_str, rd_list, rd_tup, rd_fz, rd_dict, len_list, len_tup, abs_int, min2_int, max2_int, int_int, list_list, list_tup, mk_f, mk_t, truth_bl', truth_int', truth_list', tst_some, line0, line1, line2, line3, line4, line5, line6, line7, line8, asg, optC, optD, optI, isAbs, src_list, src_tup, src_enum, setI, body1, wipeE, List.map_cons, List.map_nil, List.length_cons, List.length_nil, List.replicate, List.cons_append, List.nil_append, List.getElem?_cons_zero, List.getElem?_cons_succ, List.set_cons_zero, List.set_cons_succ, Nat.reduceAdd, Nat.reduceSub, bop_add_int, bop_sub_int, cop_lt_int, cop_gt_int, cop_le_int, cop_ge_int, cop_eq_int, cop_ne_int, atI_c0, atI_c1, atI_c2, atI_c3, if_true, Bool.false_eq_true, if_false, ↓reduceIte, Bool.not_true, Bool.not_false]
    rfl
end
/-- what both followings keep -/
structure Fol (A : List T3) : Prop where
  row : ∀ r ∈ A, 0 ≤ r.1 ∧ r.1 < 6 ∧ 0 ≤ r.2.1 ∧ r.2.1 < 6 ∧ 0 < r.2.2
  nd : (A.map l2).Nodup
  len : A.length ≤ 50
theorem uses_few {A : List T3} (h : Fol A) : (dd (A.map fun r => r.2.1)).length ≤ 6 := by
  have := len_sub (m := dd (A.map fun r => r.2.1)) (l := [0, 1, 2, 3, 4, 5]) (nodup_dd _) fun x hx => by
    rw [mem_dd] at hx
    obtain ⟨r, hr, rfl⟩ := List.mem_map.mp hx
    have := h.row r hr
    simp only [List.mem_cons, List.not_mem_nil, or_false]
    omega
  simpa using this
theorem sel_pos {A : List T3} (h : Fol A) (u : Int) : Pos (sel A u) := by
  intro x hx
  unfold sel at hx
  obtain ⟨r, hr, rfl⟩ := List.mem_map.mp hx
  exact (h.row r (List.mem_filter.mp hr).1).2.2.2.2
theorem trails_run {n : Nat} {A B : List T3} (hA : Fol A) (hB : Fol B) : run fns cls (n + 1) f_trails [.list (A.map d3), .list (B.map d3)] [] = some (.loc 1, [.list ((found A B).map d4), .list ((sort4 (found A B)).map d4)]) := by
  rw [run_full (fn := fns[0]) rfl rfl]
  show body1 (run fns cls n) cls ⟨"trails", 2, _, b_trails, []⟩ _ _ = _
  unfold b_trails
  have lA := hA.len
  have lB := hB.len
  have few := uses_few hA
  have hset : ∀ M, blt1 .srtset M [.list ((A.map fun r => r.2.1).map D.int)] = some (.list ((usesOf A).map D.int)) := fun M => srtset_int (by omega) (by rw [List.length_map]; omega)
  have hul : (usesOf A).length ≤ 6 := by
    unfold usesOf sortI
    rw [List.length_mergeSort]
    exact few
  obtain ⟨env', M', e1, hM, hG, x, y, z, w, he⟩ := forP_fold (f := turnB (run fns cls n) cls (.nm 3) (.cons (.setv 4 (.comp false [7] (.nm 7) .seq (.var 0) .absent (.cmp .eq (.idx (.var 7) (.int 1)) (.var 3)) (.tup (.cons (.idx (.var 7) (.int 0)) (.cons (.idx (.var 7) (.int 2)) .nil))))) (.cons (.setv 5 (.comp false [7] (.nm 7) .seq (.var 1) .absent (.cmp .eq (.idx (.var 7) (.int 1)) (.var 3)) (.tup (.cons (.idx (.var 7) (.int 0)) (.cons (.idx (.var 7) (.int 2)) .nil))))) (.cons (.whl (.and (.var 4) (.var 5)) wB) .nil))))
    (e := D.int) (step := stepJ A B) (J := fun i G env M => M = [.list (G.map d4)] ∧ G.length ≤ i * 100 ∧ ∃ x y z w, env = [some (.list (A.map d3)), some (.list (B.map d3)), some (.loc 0), x, y, z, w, none]) (l := usesOf A)
    (fun i u hi G env M ⟨hM, hG, x, y, z, w, he⟩ => by
      subst hM he
      have hil : i < 6 := by
        have := (List.getElem?_eq_some_iff.mp hi).1
        omega
      have s1 := sel_len A u
      have s2 := sel_len B u
      obtain ⟨y', z', w', hw⟩ := while_run (F := run fns cls n) (x0 := some (.list (A.map d3))) (x1 := some (.list (B.map d3))) (u := u) ((sel A u).length + (sel B u).length) (sel A u) (sel B u) G w (sel_pos hA u) (sel_pos hB u) (Nat.le_refl _) (by omega)
      refine ⟨.next, [some (.list (A.map d3)), some (.list (B.map d3)), some (.loc 0), some (.int u), some y', some z', w', none], [.list ((stepJ A B G u).map d4)], ?_, .inl rfl, rfl, ?_, _, _, _, _, rfl⟩
      · rw [turn_nm]
        have hx := (x_whl (F := run fns cls n) (cls := cls) (.and (.var 4) (.var 5)) wB _ _).trans hw
        simp only [e_var, e_non, e_bl, e_int, e_str, e_bin, e_neg, e_not, e_and, e_or, e_cmp, e_chain, e_isN, e_ife, e_tup, e_lst, e_dct, e_idx, e_slc, e_blt, e_isi, e_fld, e_app, e_ext, e_idxof, e_dget, e_nil, e_cons, x_setv, x_sett, x_setp, x_seti, x_seti2, x_augi, x_setf, x_exp, x_ret, x_ife, x_frz, x_retN, x_pass, x_cont, x_nil, x_cons, getD_list, getD_tup, rd_int, rd_bl, rd_non, rd_str, rd_list, rd_tup, rd_fz, rd_dict, len_list, len_tup, abs_int, min2_int, max2_int, int_int, list_list, list_tup, mk_f, mk_t, truth_bl', truth_int', truth_list', tst_some, line0, line1, line2, line3, line4, line5, line6, line7, line8, asg, optC, optD, optI, isAbs, src_list, src_tup, src_enum, setI, body1, wipeE, List.map_cons, List.map_nil, List.length_cons, List.length_nil, List.replicate, List.cons_append, List.nil_append, List.getElem?_cons_zero, List.getElem?_cons_succ, List.set_cons_zero, List.set_cons_succ, Nat.reduceAdd, Nat.reduceSub, bop_add_int, bop_sub_int, cop_lt_int, cop_gt_int, cop_le_int, cop_ge_int, cop_eq_int, cop_ne_int, atI_c0, atI_c1, atI_c2, atI_c3, if_true, Bool.false_eq_true, if_false, ↓reduceIte, Bool.not_true, Bool.not_false, c_sel0 (A := A) (by omega), c_sel1 (A := B) (by omega), hx]
        rfl
      · unfold stepJ
        have := joinF_len ((sel A u).length + (sel B u).length) (sel A u) (sel B u)
        rw [List.length_append, List.length_map]
        omega) [] [some (.list (A.map d3)), some (.list (B.map d3)), some (.loc 0), none, none, none, none, none] [.list []] ⟨rfl, by simp, none, none, none, none, rfl⟩
  subst hM he
  have hs : blt1 .sorted [.list ((found A B).map d4)] [.list ((found A B).map d4)] = some (.list ((sort4 (found A B)).map d4)) := by
    have e : (found A B).map d4 = ((found A B).map l4).map kD := by
      rw [List.map_map]
      rfl
    rw [e, sorted_k fun k hk => by
      obtain ⟨r, _, rfl⟩ := List.mem_map.mp hk
      exact List.cons_ne_nil _ _, sort4_map]
  have hrd : rd [MO.list ((found A B).map d4)] (.loc 0) = .list ((found A B).map d4) := rfl
  have ef : (usesOf A).foldl (stepJ A B) [] = found A B := rfl
  rw [ef] at e1
  simp only [e_var, e_non, e_bl, e_int, e_str, e_bin, e_neg, e_not, e_and, e_or, e_cmp, e_chain, e_isN, e_ife, e_tup, e_lst, e_dct, e_idx, e_slc, e_blt, e_isi, e_fld, e_app, e_ext, e_idxof, e_dget, e_nil, e_cons, x_setv, x_sett, x_setp, x_seti, x_seti2, x_augi, x_setf, x_exp, x_ret, x_ife, x_frz, x_retN, x_pass, x_cont, x_nil, x_cons, getD_list, getD_tup, rd_int, rd_bl, rd_non, rd_str, rd_list, rd_tup, rd_fz, rd_dict, len_list, len_tup, abs_int, min2_int, max2_int, int_int, list_list, list_tup, mk_f, mk_t, truth_bl', truth_int', truth_list', tst_some, line0, line1, line2, line3, line4, line5, line6, line7, line8, asg, optC, optD, optI, isAbs, src_list, src_tup, src_enum, setI, body1, wipeE, List.map_cons, List.map_nil, List.length_cons, List.length_nil, List.replicate, List.cons_append, List.nil_append, List.getElem?_cons_zero, List.getElem?_cons_succ, List.set_cons_zero, List.set_cons_succ, Nat.reduceAdd, Nat.reduceSub, bop_add_int, bop_sub_int, cop_lt_int, cop_gt_int, cop_le_int, cop_ge_int, cop_eq_int, cop_ne_int, atI_c0, atI_c1, atI_c2, atI_c3, if_true, Bool.false_eq_true, if_false, ↓reduceIte, Bool.not_true, Bool.not_false, c_use (A := A) (by omega), hset, x_for, e1, hrd, hs]
end K43

/-! K43l: what trails tells is right. -/
namespace K43
open MP
def JA (A B : List T3) (u : Int) : List T3 := joinF ((sel A u).length + (sel B u).length) (sel A u) (sel B u)
theorem foldl_app {α β : Type} (f : α → List β) : ∀ (l : List α) (G : List β), l.foldl (fun G a => G ++ f a) G = G ++ l.flatMap f
  | [], G => by simp
  | a :: l, G => by rw [List.foldl_cons, foldl_app f l, List.flatMap_cons, List.append_assoc]
theorem found_eq (A B : List T3) : found A B = (usesOf A).flatMap fun u => (JA A B u).map (mk4 u) := by
  have := foldl_app (fun u => (JA A B u).map (mk4 u)) (usesOf A) []
  rw [List.nil_append] at this
  exact this
theorem sum_perm {l m : List Int} (h : l.Perm m) : l.sum = m.sum := by
  induction h with
  | nil => rfl
  | cons x _ ih => rw [List.sum_cons, List.sum_cons, ih]
  | swap x y l => rw [List.sum_cons, List.sum_cons, List.sum_cons, List.sum_cons]; omega
  | trans _ _ h1 h2 => rw [h1, h2]
theorem sum3_perm {R T : List T3} (h : R.Perm T) (p : List Int) : sum3 R p = sum3 T p := sum_perm ((h.filter _).map _)
theorem sort4_perm (Q : List T4) : (sort4 Q).Perm Q := List.mergeSort_perm Q _
theorem sel_keys {A : List T3} (h : Fol A) (u : Int) : ((sel A u).map (·.1)).Nodup := by
  unfold sel
  rw [List.map_map]
  have h1 : ((A.filter fun r => decide (r.2.1 = u)).map l2).Nodup := h.nd.sublist ((List.filter_sublist).map l2)
  have h2 : ∀ r ∈ A.filter fun r => decide (r.2.1 = u), l2 r = [r.1, u] := fun r hr => by
    have := of_decide_eq_true (List.mem_filter.mp hr).2
    unfold l2
    rw [this]
  rw [List.map_congr_left h2] at h1
  have e : (A.filter fun r => decide (r.2.1 = u)).map (fun r => [r.1, u]) = ((A.filter fun r => decide (r.2.1 = u)).map ((fun r : T2 => r.1) ∘ fun r : T3 => (r.1, r.2.2))).map fun s => [s, u] := by
    rw [List.map_map]
    rfl
  rw [e] at h1
  exact List.Pairwise.of_map _ (fun a b hne z => hne (by rw [z])) h1
def EqU (A B : List T3) : Prop := ∀ u, tot (sel A u) = tot (sel B u)
theorem ja_ok {A B : List T3} (hA : Fol A) (hB : Fol B) (hE : EqU A B) (u : Int) : JoinOk (sel A u) (sel B u) (JA A B u) :=
  join_ok _ _ _ (sel_pos hA u) (sel_pos hB u) (sel_keys hA u) (sel_keys hB u) (hE u) (Nat.le_refl _)
theorem mem_uses {A : List T3} {u : Int} : u ∈ usesOf A ↔ ∃ r ∈ A, r.2.1 = u := by
  unfold usesOf
  rw [mem_sortI, mem_dd, List.mem_map]
theorem uses_nodup (A : List T3) : (usesOf A).Nodup := (sortI_perm _).nodup_iff.mpr (nodup_dd _)
theorem amt_sel (A : List T3) (s u : Int) : amt (sel A u) s = sum3 A [s, u] := by
  unfold amt sel sum3
  rw [List.filter_map, List.map_map, List.filter_filter]
  congr 1
  have e : (fun a : T3 => ((fun r : T2 => decide (r.1 = s)) ∘ fun r : T3 => (r.1, r.2.2)) a && decide (a.2.1 = u)) = fun r => decide (l2 r = [s, u]) := by
    funext r
    unfold l2
    simp [Function.comp, Bool.decide_and]
  rw [e]
  rfl
/-- a sum over all uses is that of its own use -/
theorem sum_flat {α : Type} {us : List Int} {f : Int → List α} {g : α → Int} {q : α → Bool} {u : Int} (nd : us.Nodup) (h : ∀ v ∈ us, v ≠ u → ∀ x ∈ f v, q x = false) : (((us.flatMap f).filter q).map g).sum = if u ∈ us then (((f u).filter q).map g).sum else 0 := by
  induction us with
  | nil => rfl
  | cons v us ih =>
    rw [List.nodup_cons] at nd
    have ih' := ih nd.2 fun w hw => h w (List.mem_cons_of_mem _ hw)
    rw [List.flatMap_cons, List.filter_append, List.map_append, List.sum_append, ih']
    by_cases c : v = u
    · subst c
      rw [if_neg nd.1, if_pos List.mem_cons_self, Int.add_zero]
    · have e : (f v).filter q = [] := List.filter_eq_nil_iff.mpr fun x hx => by rw [h v List.mem_cons_self c x hx]; exact Bool.false_ne_true
      rw [e]
      have e2 : (u ∈ v :: us) ↔ (u ∈ us) := by simp [Ne.symm c]
      simp only [e2, List.map_nil, List.sum_nil, Int.zero_add]
theorem sum_first {A B : List T3} (hA : Fol A) (hB : Fol B) (hE : EqU A B) (s u : Int) : sum3 ((found A B).map p1) [s, u] = sum3 A [s, u] := by
  have e1 : sum3 ((found A B).map p1) [s, u] = ((((usesOf A).flatMap fun u => (JA A B u).map (mk4 u)).filter fun x => decide (x.1 = s) && decide (x.2.1 = u)).map fun x => x.2.2.2).sum := by
    unfold sum3
    rw [found_eq, List.filter_map, List.map_map]
    congr 2
    congr 1
    funext x
    simp [p1, l2, Function.comp, Bool.decide_and]
  rw [e1, sum_flat (u := u) (uses_nodup A) fun v hv hne x hx => by
    obtain ⟨j, _, rfl⟩ := List.mem_map.mp hx
    simp [mk4, hne]]
  by_cases c : u ∈ usesOf A
  · rw [if_pos c, List.filter_map, List.map_map, ← amt_sel, ← (ja_ok hA hB hE u).suml s]
    congr 2
    congr 1
    funext x
    simp [mk4, Function.comp]
    rfl
  · rw [if_neg c]
    refine (sum_none fun z => c ?_).symm
    obtain ⟨r, hr, e⟩ := List.mem_map.mp z
    unfold l2 at e
    simp only [List.cons.injEq] at e
    exact mem_uses.mpr ⟨r, hr, e.2.1⟩
theorem sum_second {A B : List T3} (hA : Fol A) (hB : Fol B) (hE : EqU A B) (t u : Int) : sum3 ((found A B).map p2) [t, u] = sum3 B [t, u] := by
  have e1 : sum3 ((found A B).map p2) [t, u] = ((((usesOf A).flatMap fun u => (JA A B u).map (mk4 u)).filter fun x => decide (x.2.2.1 = t) && decide (x.2.1 = u)).map fun x => x.2.2.2).sum := by
    unfold sum3
    rw [found_eq, List.filter_map, List.map_map]
    congr 2
    congr 1
    funext x
    simp [p2, l2, Function.comp, Bool.decide_and]
  rw [e1, sum_flat (u := u) (uses_nodup A) fun v hv hne x hx => by
    obtain ⟨j, _, rfl⟩ := List.mem_map.mp hx
    simp [mk4, hne]]
  by_cases c : u ∈ usesOf A
  · rw [if_pos c, List.filter_map, List.map_map, ← amt_sel, ← (ja_ok hA hB hE u).sumr t]
    congr 2
    congr 1
    funext x
    simp [mk4, Function.comp]
    rfl
  · rw [if_neg c]
    refine (sum_none fun z => ?_).symm
    obtain ⟨r, hr, e⟩ := List.mem_map.mp z
    unfold l2 at e
    simp only [List.cons.injEq] at e
    -- a use of the second without one in the first
    have h0 : sel A u = [] := by
      unfold sel
      rw [List.map_eq_nil_iff, List.filter_eq_nil_iff]
      intro x hx w
      exact c (mem_uses.mpr ⟨x, hx, of_decide_eq_true w⟩)
    have h1 := hE u
    rw [h0] at h1
    have h2 := (tot_pos (sel_pos hB u)).2 h1.symm
    have h3 : (r.1, r.2.2) ∈ sel B u := by
      unfold sel
      exact List.mem_map.mpr ⟨r, List.mem_filter.mpr ⟨hr, decide_eq_true e.2.1⟩, rfl⟩
    rw [h2] at h3
    cases h3
end K43

/-! K43m: no fault in what trails tells. -/
namespace K43
open MP
def al (a b : Int) : Prop := (0 ≤ a ∧ a < 6 ∧ 0 ≤ b ∧ b < 6) ∨ (a = 9 ∧ b = 0)
def Good4 (r : T4) : Prop := al r.1 r.2.1 ∧ al r.2.2.1 r.2.1
def alls : List (List Int) := [9, 0] :: ([0, 1, 2, 3, 4, 5].flatMap fun a => [0, 1, 2, 3, 4, 5].map fun b => [a, b])
theorem al_mem {a b : Int} (h : al a b) : [a, b] ∈ alls := by
  unfold alls
  rcases h with ⟨h1, h2, h3, h4⟩ | ⟨rfl, rfl⟩
  · refine List.mem_cons_of_mem _ (List.mem_flatMap.mpr ⟨a, ?_, List.mem_map.mpr ⟨b, ?_, rfl⟩⟩)
    · simp only [List.mem_cons, List.not_mem_nil, or_false]
      omega
    · simp only [List.mem_cons, List.not_mem_nil, or_false]
      omega
  · exact List.mem_cons_self
theorem al_pos {a b : Int} (h : al a b) : 0 ≤ a ∧ 0 ≤ b := by
  unfold al at h
  omega
theorem ok3_of {A T : List T3} (hA : Fol A) (hT : ∀ r ∈ T, al r.1 r.2.1) (hl : T.length ≤ 200) : Ok3 A T := by
  have all2 : ∀ r ∈ A ++ T, al r.1 r.2.1 := fun r hr => by
    rcases List.mem_append.mp hr with z | z
    · have := hA.row r z
      unfold al
      omega
    · exact hT r z
  refine ⟨?_, fun r hr => al_pos (all2 r hr), by have := hA.len; omega⟩
  have := len_sub (m := dd ((A ++ T).map l2)) (l := alls) (nodup_dd _) fun x hx => by
    rw [mem_dd] at hx
    obtain ⟨r, hr, rfl⟩ := List.mem_map.mp hx
    exact al_mem (all2 r hr)
  have h37 : alls.length = 37 := by decide
  omega
theorem okq_of {A B : List T3} {Q : List T4} (hA : Fol A) (hB : Fol B) (hQ : ∀ r ∈ Q, Good4 r) (hl : Q.length ≤ 200) : OkQ A B Q := by
  have h1 := hA.len
  have h2 := hB.len
  refine ⟨ok3_of hA (fun r hr => ?_) (by rw [List.length_map]; exact hl), ok3_of hB (fun r hr => ?_) (by rw [List.length_map]; exact hl), by omega⟩
  · obtain ⟨x, hx, rfl⟩ := List.mem_map.mp hr
    exact (hQ x hx).1
  · obtain ⟨x, hx, rfl⟩ := List.mem_map.mp hr
    exact (hQ x hx).2
theorem sel_key {A : List T3} (h : Fol A) {u s : Int} (hs : s ∈ (sel A u).map (·.1)) : 0 ≤ s ∧ s < 6 ∧ 0 ≤ u ∧ u < 6 := by
  unfold sel at hs
  rw [List.map_map] at hs
  obtain ⟨r, hr, rfl⟩ := List.mem_map.mp hs
  have h1 := h.row r (List.mem_filter.mp hr).1
  have h2 := of_decide_eq_true (List.mem_filter.mp hr).2
  subst h2
  exact ⟨h1.1, h1.2.1, h1.2.2.1, h1.2.2.2.1⟩
theorem found_row {A B : List T3} (hA : Fol A) (hB : Fol B) (hE : EqU A B) : ∀ r ∈ found A B, (0 ≤ r.1 ∧ r.1 < 6) ∧ (0 ≤ r.2.1 ∧ r.2.1 < 6) ∧ (0 ≤ r.2.2.1 ∧ r.2.2.1 < 6) ∧ 0 < r.2.2.2 := by
  intro r hr
  rw [found_eq] at hr
  obtain ⟨u, hu, hr⟩ := List.mem_flatMap.mp hr
  obtain ⟨j, hj, rfl⟩ := List.mem_map.mp hr
  have ok := ja_ok hA hB hE u
  have k1 := sel_key hA (ok.inl j hj)
  have k2 := sel_key hB (ok.inr j hj)
  exact ⟨⟨k1.1, k1.2.1⟩, k1.2.2, ⟨k2.1, k2.2.1⟩, ok.pos j hj⟩
theorem found_nodup {A B : List T3} (hA : Fol A) (hB : Fol B) (hE : EqU A B) : ((found A B).map l3).Nodup := by
  rw [found_eq]
  have nd := uses_nodup A
  generalize usesOf A = us at nd
  induction us with
  | nil => exact List.nodup_nil
  | cons u us ih =>
    rw [List.nodup_cons] at nd
    rw [List.flatMap_cons, List.map_append, List.nodup_append]
    refine ⟨?_, ih nd.2, fun a ha b hb e => ?_⟩
    · rw [List.map_map]
      have h := (ja_ok hA hB hE u).nd
      have e : (JA A B u).map (l3 ∘ mk4 u) = ((JA A B u).map fun x => (x.1, x.2.1)).map fun p : Int × Int => [p.1, u, p.2] := by
        rw [List.map_map]
        rfl
      rw [e]
      refine List.Pairwise.map _ (fun a b hne z => hne ?_) h
      simp only [List.cons.injEq, and_true, true_and] at z
      exact Prod.ext z.1 z.2
    · subst e
      obtain ⟨x, hx, rfl⟩ := List.mem_map.mp ha
      obtain ⟨j, _, rfl⟩ := List.mem_map.mp hx
      obtain ⟨y, hy, e⟩ := List.mem_map.mp hb
      obtain ⟨v, hv, hy⟩ := List.mem_flatMap.mp hy
      obtain ⟨k, _, rfl⟩ := List.mem_map.mp hy
      simp only [l3, mk4, List.cons.injEq] at e
      exact nd.1 (e.2.1 ▸ hv)
theorem lex_43 {q r : T4} (h : lexLe (l4 q) (l4 r) = true) : lexLe (l3 q) (l3 r) = true := by
  simp only [l4, lexLe, Bool.or_eq_true, Bool.and_eq_true, decide_eq_true_eq] at h
  simp only [l3, lexLe, Bool.or_eq_true, Bool.and_eq_true, decide_eq_true_eq]
  rcases h with h | ⟨h1, h | ⟨h2, h | ⟨h3, _⟩⟩⟩
  · exact .inl h
  · exact .inr ⟨h1, .inl h⟩
  · exact .inr ⟨h1, .inr ⟨h2, .inl h⟩⟩
  · exact .inr ⟨h1, .inr ⟨h2, .inr ⟨h3, trivial⟩⟩⟩
theorem sort4_pw (Q : List T4) : (sort4 Q).Pairwise fun a b => lexLe (l4 a) (l4 b) = true :=
  List.pairwise_mergeSort (fun a b c => lexLe_trans (l4 a) (l4 b) (l4 c)) (fun a b => lexLe_total (l4 a) (l4 b)) Q
theorem form_none {A B : List T3} (hA : Fol A) (hB : Fol B) (hE : EqU A B) : formBad (sort4 (found A B)) = none := by
  unfold formBad
  rw [List.find?_eq_none]
  intro i hi
  rw [List.mem_range] at hi
  have hp := sort4_perm (found A B)
  have nd : ((sort4 (found A B)).map l3).Nodup := (hp.map l3).nodup_iff.mpr (found_nodup hA hB hE)
  have pw := sort4_pw (found A B)
  generalize sort4 (found A B) = Q at hp nd pw hi
  have hq : Q[i]? = some Q[i] := List.getElem?_eq_getElem hi
  rw [badAt_eq hq]
  have hc := (found_row hA hB hE Q[i] (hp.mem_iff.mp (List.getElem_mem hi))).2.2.2
  rw [show decide (Q[i].2.2.2 < 1) = false from decide_eq_false (by omega), Bool.false_or]
  by_cases h0 : 0 < i
  · have hj : i - 1 < Q.length := by omega
    rw [List.getElem?_eq_getElem hj]
    intro z
    rw [Bool.and_eq_true] at z
    have h1 := List.pairwise_iff_getElem.mp pw (i - 1) i hj hi (by omega)
    have e := lexLe_antisymm _ _ z.2 (lex_43 h1)
    have hn : (Q.map l3)[i - 1]'(by rw [List.length_map]; exact hj) ≠ (Q.map l3)[i]'(by rw [List.length_map]; exact hi) := (List.pairwise_iff_getElem.mp nd) (i - 1) i _ _ (by omega)
    rw [List.getElem_map, List.getElem_map] at hn
    exact hn e.symm
  · rw [decide_eq_false h0, Bool.false_and]
    exact Bool.false_ne_true
theorem first_none {R T : List T3} (h : ∀ p ∈ (R ++ T).map l2, sum3 R p = sum3 T p) : firstBad R T = none := by
  unfold firstBad
  rw [List.find?_eq_none]
  intro p hp
  rw [mem_sortK, mem_dd] at hp
  rw [h p hp]
  simp
/-- no fault -/
theorem trails_right {A B : List T3} (hA : Fol A) (hB : Fol B) (hE : EqU A B) : resT A B (sort4 (found A B)) = .non := by
  have f1 : firstBad A ((sort4 (found A B)).map p1) = none := first_none fun p hp => by
    obtain ⟨r, _, rfl⟩ := List.mem_map.mp hp
    rw [sum3_perm ((sort4_perm (found A B)).map p1)]
    exact (sum_first hA hB hE r.1 r.2.1).symm
  have f2 : firstBad B ((sort4 (found A B)).map p2) = none := first_none fun p hp => by
    obtain ⟨r, _, rfl⟩ := List.mem_map.mp hp
    rw [sum3_perm ((sort4_perm (found A B)).map p2)]
    exact (sum_second hA hB hE r.1 r.2.1).symm
  unfold resT
  rw [form_none hA hB hE, f1, f2]
  rfl
end K43

/-! K43n: the law's draws. -/
namespace K43
open MP
theorem call_tr {F : FT} {f : Nat} {ds : List D} {M M2 : Sto} {d : D} (h : F f ds M = some (d, M2)) (hb : below M.length d = true) (hc : (M2.take M.length).all (belowM M.length) = true) (hl : M.length ≤ M2.length) : callM F .tr f ds M = some (d, M2.take M.length) := by
  unfold callM
  simp only [h]
  rw [if_pos (by rw [hb, hc, decide_eq_true hl]; rfl)]
/-- all places that are named stand in the store -/
def Cl (M : Sto) : Prop := M.all (belowM M.length) = true
theorem below_ints (n : Nat) (cs : List Int) : belowM n (.list (cs.map D.int)) = true := by
  rw [belowM]
  exact belowL_all fun d hd => by
    obtain ⟨x, _, rfl⟩ := List.mem_map.mp hd
    rfl
theorem below_st (n c : Nat) (a : Int) (h : c < n) : belowM n (.list [.int a, .loc c]) = true := by
  simp [belowM, belowL, below, h]
/-- what stands below n is closed there -/
theorem closed {M M2 : Sto} {s c : Nat} (hM : Cl M) (st : St M s c) (st2 : St M2 s c) (old : ∀ i, i < M.length → i ≠ s → i ≠ c → M2[i]? = M[i]?) (hl : M.length ≤ M2.length) : (M2.take M.length).all (belowM M.length) = true := by
  obtain ⟨_, a, cs, h1, h2, _⟩ := st
  obtain ⟨_, a2, cs2, k1, k2, _⟩ := st2
  have hc : c < M.length := (List.getElem?_eq_some_iff.mp h2).1
  refine List.all_eq_true.mpr fun m hm => ?_
  obtain ⟨i, hi⟩ := List.getElem?_of_mem hm
  have hlt : i < M.length := by
    have := (List.getElem?_eq_some_iff.mp hi).1
    rw [List.length_take] at this
    omega
  rw [List.getElem?_take_of_lt hlt] at hi
  by_cases z1 : i = s
  · subst z1
    rw [k1] at hi
    cases hi
    exact below_st _ _ _ hc
  · by_cases z2 : i = c
    · subst z2
      rw [k2] at hi
      cases hi
      exact below_ints _ _
    · rw [old i hlt z1 z2] at hi
      exact List.all_eq_true.mp hM m (List.mem_of_getElem? hi)
theorem take_tr {n : Nat} {M : Sto} {s c : Nat} {m : Int} (h : St M s c) (hC : Cl M) (h0 : 0 < m) (h1 : m < 1073741824) :
    ∃ v M', callM (run fns cls (n + 1)) .tr 4 [.loc s, .int m] M = some (.int v, M') ∧ 0 ≤ v ∧ v < m ∧ St M' s c ∧ Sm M M' s c ∧ Cl M' := by
  obtain ⟨v, M', e, v0, v1, st, sm⟩ := take_run (n := n) h h0 h1
  have hl := sm.1
  have hc := closed hC h st (fun i _ a b => sm.2 i a b) (by omega)
  have et : M'.take M.length = M' := List.take_of_length_le (by omega)
  refine ⟨v, M', ?_, v0, v1, st, sm, ?_⟩
  · have := call_tr e rfl hc (by omega)
    rwa [et] at this
  · unfold Cl
    rw [et] at hc
    rw [hl]
    exact hc
/-- while rows are drawn: the list of rows stands behind all else -/
structure RS (M0 N : Sto) (R : List T3) (s c : Nat) : Prop where
  st0 : St M0 s c
  st : St N s c
  cl : Cl N
  len : N.length = M0.length + 1
  row : N[M0.length]? = some (.list (R.map d3))
  old : ∀ i, i < M0.length → i ≠ s → i ≠ c → N[i]? = M0[i]?
theorem St.lt {M : Sto} {s c : Nat} (h : St M s c) : s < M.length ∧ c < M.length := by
  obtain ⟨_, a, cs, h1, h2, _⟩ := h
  exact ⟨(List.getElem?_eq_some_iff.mp h1).1, (List.getElem?_eq_some_iff.mp h2).1⟩
theorem RS.take {n : Nat} {M0 N : Sto} {R : List T3} {s c : Nat} {m : Int} (h : RS M0 N R s c) (h0 : 0 < m) (h1 : m < 1073741824) :
    ∃ v N', callM (run fns cls (n + 1)) .tr 4 [.loc s, .int m] N = some (.int v, N') ∧ 0 ≤ v ∧ v < m ∧ RS M0 N' R s c := by
  obtain ⟨v, N', e, v0, v1, st, sm, cl⟩ := take_tr (n := n) h.st h.cl h0 h1
  have l0 := h.st0.lt
  refine ⟨v, N', e, v0, v1, h.st0, st, cl, by rw [sm.1, h.len], ?_, fun i hi a b => ?_⟩
  · rw [sm.2 _ (by omega) (by omega), h.row]
  · rw [sm.2 i a b, h.old i hi a b]
theorem RS.set {M0 N : Sto} {R : List T3} {s c : Nat} (h : RS M0 N R s c) (R' : List T3) : RS M0 (N.set M0.length (.list (R'.map d3))) R' s c := by
  have l0 := h.st0.lt
  have hl := h.len
  have hlt : M0.length < N.length := by omega
  obtain ⟨ne, a, cs, k1, k2, k3⟩ := h.st
  refine ⟨h.st0, ⟨ne, a, cs, ?_, ?_, k3⟩, ?_, by rw [List.length_set, hl], List.getElem?_set_self hlt, fun i hi a b => ?_⟩
  · rw [List.getElem?_set_ne (by omega)]; exact k1
  · rw [List.getElem?_set_ne (by omega)]; exact k2
  · unfold Cl
    rw [List.length_set]
    refine List.all_eq_true.mpr fun m hm => ?_
    rcases List.mem_or_eq_of_mem_set hm with z | z
    · exact List.all_eq_true.mp h.cl m z
    · rw [z, belowM]
      exact belowL_all fun d hd => by
        obtain ⟨r, _, rfl⟩ := List.mem_map.mp hd
        rfl
  · rw [List.getElem?_set_ne (by omega)]; exact h.old i hi a b
end K43

/-! K43o: the law's rows, in parts. -/
namespace K43
open MP
theorem e_compI {F : FT} {cls : Nat → Nat} (mu : Bool) (own : List Nat) (t : MP.T) (k : IK) (A C E0 : E) (env : MP.Env) (M : Sto) : ev F cls (.comp mu own t k A .absent C E0) env M = (match ev F cls A env M with
    | none => none
    | some (x, M1) => match srcOf k M1 x .non with
      | some (.pure xs) => if xs.length ≤ LINE then (match compR (turnF F cls own t C E0 env) xs M1 with
        | none => none
        | some (ys, M2) => mk mu (.list ys) M2) else none
      | _ => none) := by
  rw [ev]
  rfl
/-- each turn gives something that fits -/
theorem compR_J {α β : Type} {f : D → Sto → Option (Option D × Sto)} {e : α → D} {g : β → D} {J : Sto → Prop} {Y : α → β → Prop} : ∀ {l : List α}, (∀ a ∈ l, ∀ N, J N → ∃ b N', f (e a) N = some (some (g b), N') ∧ Y a b ∧ J N') →
    ∀ N, J N → ∃ (bs : List β) (N' : Sto), compR f (l.map e) N = some (bs.map g, N') ∧ bs.length = l.length ∧ (∀ (i : Nat) a b, l[i]? = some a → bs[i]? = some b → Y a b) ∧ J N'
  | [], _, N, j => ⟨[], N, rfl, rfl, fun i a b h => by simp at h, j⟩
  | a :: l, h, N, j => by
    obtain ⟨b, N1, e1, y1, j1⟩ := h a List.mem_cons_self N j
    obtain ⟨bs, N2, e2, hl, hy, j2⟩ := compR_J (fun x hx => h x (List.mem_cons_of_mem _ hx)) N1 j1
    refine ⟨b :: bs, N2, ?_, by rw [List.length_cons, List.length_cons, hl], fun i a' b' h1 h2 => ?_, j2⟩
    · rw [List.map_cons, compR, e1]
      simp only
      rw [e2]
      rfl
    · cases i with
      | zero =>
        simp only [List.getElem?_cons_zero, Option.some.injEq] at h1 h2
        subst h1 h2
        exact y1
      | succ i => exact hy i a' b' (by simpa using h1) (by simpa using h2)
/-- the order that is drawn -/
theorem order_run {n : Nat} {M0 N : Sto} {R : List T3} {s c many : Nat} {x1 x3 x4 x5 x6 x7 x8 x9 : Option D} (h : RS M0 N R s c) (hm : many ≤ 6) :
    ∃ (vs : List T2) (N' : Sto), ev (run fns cls (n + 1)) cls (.comp false [8] (.nm 8) .rng1 (.var 2) .absent .absent (.tup (.cons (.call .tr 4 (.cons (.var 0) (.cons (.int 50) .nil))) (.cons (.var 8) .nil)))) [some (.loc s), x1, some (.int (many : Nat)), x3, x4, x5, x6, x7, x8, x9] N = some (.list (vs.map d2), N') ∧
      vs.map (·.2) = (List.range many).map (fun i : Nat => (i : Int)) ∧ RS M0 N' R s c := by
  obtain ⟨bs, N', e1, hl, hy, hJ⟩ := compR_J (f := turnF (run fns cls (n + 1)) cls [8] (.nm 8) .absent (.tup (.cons (.call .tr 4 (.cons (.var 0) (.cons (.int 50) .nil))) (.cons (.var 8) .nil))) [some (.loc s), x1, some (.int (many : Nat)), x3, x4, x5, x6, x7, x8, x9])
    (e := fun i : Nat => D.int i) (g := d2) (J := fun N => RS M0 N R s c) (Y := fun (i : Nat) (b : T2) => b.2 = i) (l := List.range many) (fun i hi N hN => by
      obtain ⟨v, N1, e, _, _, h1⟩ := hN.take (n := n) (m := 50) (by decide) (by decide)
      refine ⟨(v, (i : Int)), N1, ?_, rfl, h1⟩
      simp only [turnF]
      simp only [e_var, e_non, e_bl, e_int, e_str, e_bin, e_neg, e_not, e_and, e_or, e_cmp, e_chain, e_isN, e_ife, e_tup, e_lst, e_dct, e_idx, e_slc, e_blt, e_isi, e_fld, e_app, e_ext, e_idxof, e_dget, e_nil, e_cons, x_setv, x_sett, x_setp, x_seti, x_seti2, x_augi, x_setf, x_exp, x_ret, x_ife, x_frz, x_retN, x_pass, x_cont, x_nil, x_cons, getD_list, getD_tup, rd_int, rd_bl, rd_non, rd_str, rd_list, rd_tup, rd_fz, rd_dict, len_list, len_tup, abs_int, min2_int, max2_int, int_int, list_list, list_tup, mk_f, mk_t, truth_bl', truth_int', truth_list', tst_some, line0, line1, line2, line3, line4, line5, line6, line7, line8, asg, optC, optD, optI, isAbs, src_list, src_tup, src_enum, setI, body1, wipeE, List.map_cons, List.map_nil, List.length_cons, List.length_nil, List.replicate, List.cons_append, List.nil_append, List.getElem?_cons_zero, List.getElem?_cons_succ, List.set_cons_zero, List.set_cons_succ, Nat.reduceAdd, Nat.reduceSub, bop_add_int, bop_sub_int, cop_lt_int, cop_gt_int, cop_le_int, cop_ge_int, cop_eq_int, cop_ne_int, atI_c0, atI_c1, atI_c2, atI_c3, if_true, Bool.false_eq_true, if_false, ↓reduceIte, Bool.not_true, Bool.not_false, e_call, e]
      rfl) N h
  refine ⟨bs, N', ?_, ?_, hJ⟩
  · rw [e_compI]
    simp only [e_var, e_non, e_bl, e_int, e_str, e_bin, e_neg, e_not, e_and, e_or, e_cmp, e_chain, e_isN, e_ife, e_tup, e_lst, e_dct, e_idx, e_slc, e_blt, e_isi, e_fld, e_app, e_ext, e_idxof, e_dget, e_nil, e_cons, x_setv, x_sett, x_setp, x_seti, x_seti2, x_augi, x_setf, x_exp, x_ret, x_ife, x_frz, x_retN, x_pass, x_cont, x_nil, x_cons, getD_list, getD_tup, rd_int, rd_bl, rd_non, rd_str, rd_list, rd_tup, rd_fz, rd_dict, len_list, len_tup, abs_int, min2_int, max2_int, int_int, list_list, list_tup, mk_f, mk_t, truth_bl', truth_int', truth_list', tst_some, line0, line1, line2, line3, line4, line5, line6, line7, line8, asg, optC, optD, optI, isAbs, src_list, src_tup, src_enum, setI, body1, wipeE, List.map_cons, List.map_nil, List.length_cons, List.length_nil, List.replicate, List.cons_append, List.nil_append, List.getElem?_cons_zero, List.getElem?_cons_succ, List.set_cons_zero, List.set_cons_succ, Nat.reduceAdd, Nat.reduceSub, bop_add_int, bop_sub_int, cop_lt_int, cop_gt_int, cop_le_int, cop_ge_int, cop_eq_int, cop_ne_int, atI_c0, atI_c1, atI_c2, atI_c3, if_true, Bool.false_eq_true, if_false, ↓reduceIte, Bool.not_true, Bool.not_false, src_rng1 (n := many) (by omega), e1]
    rw [if_pos (by rw [List.length_map, List.length_range]; unfold LINE; omega)]
  · apply List.ext_getElem?
    intro i
    rw [List.getElem?_map, List.getElem?_map]
    by_cases hi : i < many
    · have h1 : (List.range many)[i]? = some i := List.getElem?_range hi
      have h2 : i < bs.length := by rw [hl, List.length_range]; exact hi
      have := hy i i bs[i] h1 (List.getElem?_eq_getElem h2)
      rw [h1, List.getElem?_eq_getElem h2]
      simp [this]
    · rw [List.getElem?_eq_none (by rw [hl, List.length_range]; omega), List.getElem?_eq_none (by rw [List.length_range]; omega)]
      rfl
def k2 (r : T2) : List Int := [r.1, r.2]
def sort2 (vs : List T2) : List T2 := vs.mergeSort fun a b => lexLe (k2 a) (k2 b)
theorem sort2_run (vs : List T2) (M : Sto) : blt1 .sorted M [.list (vs.map d2)] = some (.list ((sort2 vs).map d2)) := by
  have e : vs.map d2 = (vs.map k2).map kD := by
    rw [List.map_map]
    rfl
  rw [e, sorted_k fun k hk => by
    obtain ⟨r, _, rfl⟩ := List.mem_map.mp hk
    exact List.cons_ne_nil _ _]
  unfold sortK sort2
  rw [← List.map_mergeSort (f := k2) (r := fun a b => lexLe (k2 a) (k2 b)) (fun _ _ _ _ => rfl), List.map_map]
  rfl
theorem sort2_perm (vs : List T2) : (sort2 vs).Perm vs := List.mergeSort_perm vs _
end K43

/-! K43p: a turn of the inner loop of the law's rows. -/
namespace K43
open MP
abbrev iB : SB := (.cons (.setv 9 (.ife (.cmp .gt (.var 5) (.int 0)) (.bin false .add (.int 1) (.call .tr 4 (.cons (.var 0) (.cons (.blt false .max2 (.cons (.int 1) (.cons (.var 5) .nil))) .nil)))) (.int 0))) (.cons (.setv 9 (.blt false .min2 (.cons (.var 9) (.cons (.var 5) .nil)))) (.cons (.ife (.cmp .gt (.var 9) (.int 0)) (.cons (.exp (.app (.var 3) (.tup (.cons (.var 8) (.cons (.var 4) (.cons (.var 9) .nil)))))) (.cons (.setv 5 (.bin false .sub (.var 5) (.var 9))) .nil)) .nil) .nil)))
def add3 (R : List T3) (src k pc : Int) : List T3 := if 0 < pc then R ++ [(src, k, pc)] else R
theorem inner_turn {n : Nat} {M0 N : Sto} {R : List T3} {s c : Nat} {x1 x2 x6 x7 x8 x9 : Option D} {k left place src : Int} (h : RS M0 N R s c) (hR : R.length ≤ 1000) (h0 : 0 ≤ left) (h1 : left < 1073741824) :
    ∃ (pc : Int) (N' : Sto) (y9 : D), turnB (run fns cls (n + 1)) cls (.tp [7, 8]) iB (d2 (place, src)) [some (.loc s), x1, x2, some (.loc M0.length), some (.int k), some (.int left), x6, x7, x8, x9] N =
      some (.next, [some (.loc s), x1, x2, some (.loc M0.length), some (.int k), some (.int (left - pc)), x6, some (.int place), some (.int src), some y9], N') ∧ 0 ≤ pc ∧ pc ≤ left ∧ (0 < left → 0 < pc) ∧ RS M0 N' (add3 R src k pc) s c := by
  rw [show d2 (place, src) = .tup [.int place, .int src] from rfl, turn_tp]
  by_cases c0 : 0 < left
  · have hmx : (if left > 1 then left else (1 : Int)) = left := by
      split <;> omega
    obtain ⟨v, N1, e, v0, v1, h2⟩ := h.take (n := n) (m := left) c0 h1
    have hmn : (if left < 1 + v then left else 1 + v) = 1 + v := by
      rw [if_neg (by omega)]
    have hp : decide (0 < 1 + v) = true := decide_eq_true (by omega)
    have hrow := h2.row
    have hlen : (R.map d3).length < LINE := by
      rw [List.length_map]
      unfold LINE
      omega
    refine ⟨1 + v, N1.set M0.length (.list ((R ++ [(src, k, 1 + v)]).map d3)), .int (1 + v), ?_, by omega, by omega, fun _ => by omega, ?_⟩
    · have hs : R.map d3 ++ [.tup [.int src, .int k, .int (1 + v)]] = (R ++ [(src, k, 1 + v)]).map d3 := by
        rw [List.map_append]
        rfl
      simp only [e_var, e_non, e_bl, e_int, e_str, e_bin, e_neg, e_not, e_and, e_or, e_cmp, e_chain, e_isN, e_ife, e_tup, e_lst, e_dct, e_idx, e_slc, e_blt, e_isi, e_fld, e_app, e_ext, e_idxof, e_dget, e_nil, e_cons, x_setv, x_sett, x_setp, x_seti, x_seti2, x_augi, x_setf, x_exp, x_ret, x_ife, x_frz, x_retN, x_pass, x_cont, x_nil, x_cons, getD_list, getD_tup, rd_int, rd_bl, rd_non, rd_str, rd_list, rd_tup, rd_fz, rd_dict, len_list, len_tup, abs_int, min2_int, max2_int, int_int, list_list, list_tup, mk_f, mk_t, truth_bl', truth_int', truth_list', tst_some, line0, line1, line2, line3, line4, line5, line6, line7, line8, asg, optC, optD, optI, isAbs, src_list, src_tup, src_enum, setI, body1, wipeE, List.map_cons, List.map_nil, List.length_cons, List.length_nil, List.replicate, List.cons_append, List.nil_append, List.getElem?_cons_zero, List.getElem?_cons_succ, List.set_cons_zero, List.set_cons_succ, Nat.reduceAdd, Nat.reduceSub, bop_add_int, bop_sub_int, cop_lt_int, cop_gt_int, cop_le_int, cop_ge_int, cop_eq_int, cop_ne_int, atI_c0, atI_c1, atI_c2, atI_c3, if_true, Bool.false_eq_true, if_false, ↓reduceIte, Bool.not_true, Bool.not_false, decide_eq_true c0, e_call, hmx, e, hmn, hp, hrow, hlen, hs]
    · unfold add3
      rw [if_pos (by omega)]
      exact h2.set _
  · have e0 : left = 0 := by omega
    subst e0
    refine ⟨0, N, .int 0, ?_, Int.le_refl 0, Int.le_refl 0, fun z => absurd z (by omega), ?_⟩
    · simp only [e_var, e_non, e_bl, e_int, e_str, e_bin, e_neg, e_not, e_and, e_or, e_cmp, e_chain, e_isN, e_ife, e_tup, e_lst, e_dct, e_idx, e_slc, e_blt, e_isi, e_fld, e_app, e_ext, e_idxof, e_dget, e_nil, e_cons, x_setv, x_sett, x_setp, x_seti, x_seti2, x_augi, x_setf, x_exp, x_ret, x_ife, x_frz, x_retN, x_pass, x_cont, x_nil, x_cons, getD_list, getD_tup, rd_int, rd_bl, rd_non, rd_str, rd_list, rd_tup, rd_fz, rd_dict, len_list, len_tup, abs_int, min2_int, max2_int, int_int, list_list, list_tup, mk_f, mk_t, truth_bl', truth_int', truth_list', tst_some, line0, line1, line2, line3, line4, line5, line6, line7, line8, asg, optC, optD, optI, isAbs, src_list, src_tup, src_enum, setI, body1, wipeE, List.map_cons, List.map_nil, List.length_cons, List.length_nil, List.replicate, List.cons_append, List.nil_append, List.getElem?_cons_zero, List.getElem?_cons_succ, List.set_cons_zero, List.set_cons_succ, Nat.reduceAdd, Nat.reduceSub, bop_add_int, bop_sub_int, cop_lt_int, cop_gt_int, cop_le_int, cop_ge_int, cop_eq_int, cop_ne_int, atI_c0, atI_c1, atI_c2, atI_c3, if_true, Bool.false_eq_true, if_false, ↓reduceIte, Bool.not_true, Bool.not_false, decide_eq_false c0, show decide ((0 : Int) < 0) = false from rfl, show (if (0 : Int) < 0 then (0 : Int) else 0) = 0 from rfl, Int.sub_zero]
    · unfold add3
      rw [if_neg (by omega)]
      exact h
end K43

/-! K43q: one use of the law's rows. -/
namespace K43
open MP
structure Inn (P : List T3) (k got : Int) (srcs : List Int) : Prop where
  row : ∀ r ∈ P, r.2.1 = k ∧ 0 < r.2.2 ∧ r.1 ∈ srcs
  nd : (P.map (·.1)).Nodup
  sum : (P.map (·.2.2)).sum = got
  len : P.length ≤ srcs.length
theorem inner_loop {n : Nat} {M0 : Sto} {s c : Nat} {x1 x2 x6 : Option D} {k : Int} : ∀ (l : List T2) (R : List T3) (left : Int) (x7 x8 x9 : Option D) (N : Sto), (l.map (·.2)).Nodup → RS M0 N R s c → R.length + l.length ≤ 1000 → 0 ≤ left → left < 1073741824 →
    ∃ (P : List T3) (left' : Int) (y7 y8 y9 : Option D) (N' : Sto), forP (turnB (run fns cls (n + 1)) cls (.tp [7, 8]) iB) (l.map d2) [some (.loc s), x1, x2, some (.loc M0.length), some (.int k), some (.int left), x6, x7, x8, x9] N =
      some (.next, [some (.loc s), x1, x2, some (.loc M0.length), some (.int k), some (.int left'), x6, y7, y8, y9], N') ∧ RS M0 N' (R ++ P) s c ∧ Inn P k (left - left') (l.map (·.2)) ∧ 0 ≤ left' ∧ left' ≤ left ∧ (l ≠ [] → 0 < left → P ≠ [])
  | [], R, left, x7, x8, x9, N, nd, h, hR, h0, h1 => by
    refine ⟨[], left, x7, x8, x9, N, rfl, by rw [List.append_nil]; exact h, ⟨fun r hr => (nomatch hr), List.nodup_nil, by simp, Nat.le_refl 0⟩, h0, Int.le_refl _, fun z => absurd rfl z⟩
  | (place, src) :: l, R, left, x7, x8, x9, N, nd, h, hR, h0, h1 => by
    rw [List.map_cons, List.nodup_cons] at nd
    simp only [List.length_cons] at hR
    obtain ⟨pc, N1, y9, e1, p0, p1, p2, h2⟩ := inner_turn (n := n) (x1 := x1) (x2 := x2) (x6 := x6) (x7 := x7) (x8 := x8) (x9 := x9) (k := k) (place := place) (src := src) h (by omega) h0 h1
    have hl : (add3 R src k pc).length ≤ R.length + 1 := by
      unfold add3
      split
      · rw [List.length_append]; exact Nat.le_refl _
      · omega
    obtain ⟨P, left', z7, z8, z9, N2, e2, h3, inn, q0, q1, q2⟩ := inner_loop (n := n) (x1 := x1) (x2 := x2) (x6 := x6) (k := k) l (add3 R src k pc) (left - pc) (some (.int place)) (some (.int src)) (some y9) N1 nd.2 h2 (by omega) (by omega) (by omega)
    refine ⟨(if 0 < pc then [(src, k, pc)] else []) ++ P, left', z7, z8, z9, N2, ?_, ?_, ⟨fun r hr => ?_, ?_, ?_, ?_⟩, q0, by omega, fun _ hl => ?_⟩
    · rw [List.map_cons, forP, e1]
      exact e2
    · have e : R ++ ((if 0 < pc then [(src, k, pc)] else []) ++ P) = add3 R src k pc ++ P := by
        unfold add3
        by_cases c : 0 < pc
        · simp [c]
        · simp [c]
      rw [e]
      exact h3
    · rcases List.mem_append.mp hr with z | z
      · by_cases c : 0 < pc
        · rw [if_pos c, List.mem_singleton] at z
          subst z
          exact ⟨rfl, c, List.mem_cons_self⟩
        · rw [if_neg c] at z; cases z
      · have := inn.row r z
        exact ⟨this.1, this.2.1, List.mem_cons_of_mem _ this.2.2⟩
    · by_cases c : 0 < pc
      · rw [if_pos c, List.map_append, List.map_cons, List.map_nil]
        show (src :: P.map (·.1)).Nodup
        rw [List.nodup_cons]
        refine ⟨fun z => ?_, inn.nd⟩
        obtain ⟨r, hr, e⟩ := List.mem_map.mp z
        have := (inn.row r hr).2.2
        rw [e] at this
        exact nd.1 this
      · rw [if_neg c, List.nil_append]
        exact inn.nd
    · have := inn.sum
      by_cases c : 0 < pc
      · rw [if_pos c, List.map_append, List.sum_append, this]
        simp only [List.map_cons, List.map_nil, List.sum_cons, List.sum_nil]
        omega
      · rw [if_neg c, List.nil_append, this]
        omega
    · have := inn.len
      rw [List.map_cons, List.length_cons]
      split
      · rw [List.length_append, List.length_cons, List.length_nil]; omega
      · rw [List.nil_append]; omega
    · rw [if_pos (p2 hl)]
      exact List.cons_ne_nil _ _
abbrev oB : SB := (.cons (.setv 5 (.idx (.var 1) (.var 4))) (.cons (.setv 6 (.comp false [8] (.nm 8) .rng1 (.var 2) .absent .absent (.tup (.cons (.call .tr 4 (.cons (.var 0) (.cons (.int 50) .nil))) (.cons (.var 8) .nil))))) (.cons (.for_ (.tp [7, 8]) .seq (.slc false (.blt false .sorted (.cons (.var 6) .nil)) .absent (.bin false .add (.int 1) (.call .tr 4 (.cons (.var 0) (.cons (.var 2) .nil))))) .absent iB) (.cons (.ife (.cmp .gt (.var 5) (.int 0)) (.cons (.seti (.var 3) (.neg (.int 1)) (.bin false .add (.slc false (.idx (.var 3) (.neg (.int 1))) .absent (.int 2)) (.tup (.cons (.bin false .add (.idx (.idx (.var 3) (.neg (.int 1))) (.int 2)) (.var 5)) .nil)))) .nil) .nil) .nil))))
theorem use_turn {n : Nat} {M0 N : Sto} {R : List T3} {s c many : Nat} {U : List Int} {i : Nat} {w : Int} {x4 x5 x6 x7 x8 x9 : Option D} (h : RS M0 N R s c) (hR : R.length ≤ 500) (m0 : 0 < many) (m1 : many ≤ 6) (hw : U[i]? = some w) (w0 : 0 < w) (w1 : w < 1073741824) :
    ∃ (P : List T3) (y5 y6 y7 y8 y9 : Option D) (N' : Sto), turnB (run fns cls (n + 1)) cls (.nm 4) oB (.int (i : Nat)) [some (.loc s), some (.list (U.map D.int)), some (.int (many : Nat)), some (.loc M0.length), x4, x5, x6, x7, x8, x9] N =
      some (.next, [some (.loc s), some (.list (U.map D.int)), some (.int (many : Nat)), some (.loc M0.length), some (.int (i : Nat)), y5, y6, y7, y8, y9], N') ∧ RS M0 N' (R ++ P) s c ∧ Inn P i w ((List.range many).map fun i : Nat => (i : Int)) := by
  rw [turn_nm]
  have hat : L2.atI (U.map D.int) (i : Int) = some (.int w) := L2.atI_nat (by rw [List.getElem?_map, hw]; rfl)
  obtain ⟨vs, N1, e1, hvs, h1⟩ := order_run (n := n) (x1 := some (.list (U.map D.int))) (x3 := some (.loc M0.length)) (x4 := some (.int (i : Nat))) (x5 := some (.int w)) (x6 := x6) (x7 := x7) (x8 := x8) (x9 := x9) h m1
  obtain ⟨v, N2, e2, v0, v1, h2⟩ := h1.take (n := n) (m := (many : Nat)) (by omega) (by omega)
  have hcut : cutD ((sort2 vs).map d2) none (some (1 + v)) = ((sort2 vs).take (1 + v).toNat).map d2 := by
    rw [cutD_to _ (by omega), List.map_take]
  have hsl : (sort2 vs).length = many := by
    have q := congrArg List.length hvs
    rw [List.length_map, List.length_map, List.length_range] at q
    rw [(sort2_perm vs).length_eq, q]
  have hnd : (((sort2 vs).take (1 + v).toNat).map (·.2)).Nodup := by
    have q : ((sort2 vs).map (·.2)).Nodup := by
      rw [((sort2_perm vs).map (·.2)).nodup_iff, hvs]
      exact List.Pairwise.map _ (fun a b hne z => hne (by omega)) List.nodup_range
    exact q.sublist ((List.take_sublist _ _).map _)
  have hll : ((sort2 vs).take (1 + v).toNat).length ≤ 6 := by
    rw [List.length_take]
    omega
  have hne : (sort2 vs).take (1 + v).toNat ≠ [] := by
    intro z
    have := congrArg List.length z
    rw [List.length_take, hsl] at this
    simp only [List.length_nil] at this
    omega
  obtain ⟨P, left, y7, y8, y9, N3, e3, h3, inn, q0, q1, q2⟩ := inner_loop (n := n) (x1 := some (.list (U.map D.int))) (x2 := some (.int (many : Nat))) (x6 := some (.list (vs.map d2))) (k := i) ((sort2 vs).take (1 + v).toNat) R w x7 x8 x9 N2 hnd h2 (by omega) (by omega) w1
  have srcs : ∀ x ∈ ((sort2 vs).take (1 + v).toNat).map (·.2), x ∈ (List.range many).map fun i : Nat => (i : Int) := fun x hx => by
    rw [← hvs]
    obtain ⟨r, hr, rfl⟩ := List.mem_map.mp hx
    exact List.mem_map.mpr ⟨r, (sort2_perm vs).mem_iff.mp (List.mem_of_mem_take hr), rfl⟩
  have inl : P.length ≤ ((List.range many).map fun i : Nat => (i : Int)).length := by
    have := inn.len
    rw [List.length_map] at this
    rw [List.length_map, List.length_range]
    have h4 : ((sort2 vs).take (1 + v).toNat).length ≤ many := by
      rw [List.length_take, hsl]
      omega
    omega
  by_cases c0 : 0 < left
  · obtain ⟨P1, r0, rfl⟩ : ∃ P1 r0, P = P1 ++ [r0] := by
      rcases List.eq_nil_or_concat P with z | ⟨a, b, z⟩
      · exact absurd z (q2 hne w0)
      · exact ⟨a, b, by rw [z, List.concat_eq_append]⟩
    have hrow := h3.row
    have em : (R ++ (P1 ++ [r0])).map d3 = (R ++ P1).map d3 ++ [d3 r0] := by simp
    rw [em] at hrow
    have hrd : rd N3 (.loc M0.length) = .list ((R ++ P1).map d3 ++ [d3 r0]) := rd_loc hrow
    have hlast : L2.atI ((R ++ P1).map d3 ++ [d3 r0]) (-1) = some (d3 r0) := L2.atI_last _ _
    have hix : L2.ixN ((R ++ P1).map d3 ++ [d3 r0]).length (-1) = some ((R ++ P1).map d3).length := by
      unfold L2.ixN
      rw [List.length_append, List.length_cons, List.length_nil, if_neg (by omega), if_pos (by omega)]
      congr 1
      omega
    have hr0 : r0.2.1 = (i : Int) := (inn.row r0 (List.mem_append_right _ List.mem_cons_self)).1
    have hset : ((R ++ P1).map d3 ++ [d3 r0]).set ((R ++ P1).map d3).length (.tup [.int r0.1, .int r0.2.1, .int (r0.2.2 + left)]) = (R ++ (P1 ++ [(r0.1, r0.2.1, r0.2.2 + left)])).map d3 := by
      rw [List.set_append_right _ _ (Nat.le_refl _), Nat.sub_self]
      simp [d3]
    have hadd : bop .add (.tup [.int r0.1, .int r0.2.1]) (.tup [.int (r0.2.2 + left)]) = some (.tup [.int r0.1, .int r0.2.1, .int (r0.2.2 + left)]) := rfl
    have hd : d3 r0 = .tup [.int r0.1, .int r0.2.1, .int r0.2.2] := rfl
    refine ⟨P1 ++ [(r0.1, r0.2.1, r0.2.2 + left)], some (.int left), some (.list (vs.map d2)), y7, y8, y9, N3.set M0.length (.list ((R ++ (P1 ++ [(r0.1, r0.2.1, r0.2.2 + left)])).map d3)), ?_, h3.set _, ⟨fun r hr => ?_, ?_, ?_, ?_⟩⟩
    · have hc2 : ∀ M, rd M (d3 r0) = .tup [.int r0.1, .int r0.2.1, .int r0.2.2] := fun _ => rfl
      simp only [e_var, e_non, e_bl, e_int, e_str, e_bin, e_neg, e_not, e_and, e_or, e_cmp, e_chain, e_isN, e_ife, e_tup, e_lst, e_dct, e_idx, e_slc, e_blt, e_isi, e_fld, e_app, e_ext, e_idxof, e_dget, e_nil, e_cons, x_setv, x_sett, x_setp, x_seti, x_seti2, x_augi, x_setf, x_exp, x_ret, x_ife, x_frz, x_retN, x_pass, x_cont, x_nil, x_cons, getD_list, getD_tup, rd_int, rd_bl, rd_non, rd_str, rd_list, rd_tup, rd_fz, rd_dict, len_list, len_tup, abs_int, min2_int, max2_int, int_int, list_list, list_tup, mk_f, mk_t, truth_bl', truth_int', truth_list', tst_some, line0, line1, line2, line3, line4, line5, line6, line7, line8, asg, optC, optD, optI, isAbs, src_list, src_tup, src_enum, setI, body1, wipeE, List.map_cons, List.map_nil, List.length_cons, List.length_nil, List.replicate, List.cons_append, List.nil_append, List.getElem?_cons_zero, List.getElem?_cons_succ, List.set_cons_zero, List.set_cons_succ, Nat.reduceAdd, Nat.reduceSub, bop_add_int, bop_sub_int, cop_lt_int, cop_gt_int, cop_le_int, cop_ge_int, cop_eq_int, cop_ne_int, atI_c0, atI_c1, atI_c2, atI_c3, if_true, Bool.false_eq_true, if_false, ↓reduceIte, Bool.not_true, Bool.not_false, hat, e1, x_for, sort2_run, e_call, e2, hcut, e3, decide_eq_true c0, hrd, hlast, hc2, cutD_2, hadd, hrow, hix, hset]
    · rcases List.mem_append.mp hr with z | z
      · have := inn.row r (List.mem_append_left _ z)
        exact ⟨this.1, this.2.1, srcs _ this.2.2⟩
      · rw [List.mem_singleton] at z
        subst z
        have := inn.row r0 (List.mem_append_right _ List.mem_cons_self)
        exact ⟨this.1, by show 0 < r0.2.2 + left; have := this.2.1; omega, srcs _ this.2.2⟩
    · have := inn.nd
      rw [List.map_append] at this ⊢
      exact this
    · have := inn.sum
      rw [List.map_append, List.sum_append] at this ⊢
      simp only [List.map_cons, List.map_nil, List.sum_cons, List.sum_nil] at this ⊢
      omega
    · rw [List.length_append] at inl ⊢
      exact inl
  · have e0 : left = 0 := by omega
    subst e0
    refine ⟨P, some (.int 0), some (.list (vs.map d2)), y7, y8, y9, N3, ?_, h3, ⟨fun r hr => ?_, inn.nd, by rw [inn.sum]; omega, inl⟩⟩
    · simp only [e_var, e_non, e_bl, e_int, e_str, e_bin, e_neg, e_not, e_and, e_or, e_cmp, e_chain, e_isN, e_ife, e_tup, e_lst, e_dct, e_idx, e_slc, e_blt, e_isi, e_fld, e_app, e_ext, e_idxof, e_dget, e_nil, e_cons, x_setv, x_sett, x_setp, x_seti, x_seti2, x_augi, x_setf, x_exp, x_ret, x_ife, x_frz, x_retN, x_pass, x_cont, x_nil, x_cons, getD_list, getD_tup, rd_int, rd_bl, rd_non, rd_str, rd_list, rd_tup, rd_fz, rd_dict, len_list, len_tup, abs_int, min2_int, max2_int, int_int, list_list, list_tup, mk_f, mk_t, truth_bl', truth_int', truth_list', tst_some, line0, line1, line2, line3, line4, line5, line6, line7, line8, asg, optC, optD, optI, isAbs, src_list, src_tup, src_enum, setI, body1, wipeE, List.map_cons, List.map_nil, List.length_cons, List.length_nil, List.replicate, List.cons_append, List.nil_append, List.getElem?_cons_zero, List.getElem?_cons_succ, List.set_cons_zero, List.set_cons_succ, Nat.reduceAdd, Nat.reduceSub, bop_add_int, bop_sub_int, cop_lt_int, cop_gt_int, cop_le_int, cop_ge_int, cop_eq_int, cop_ne_int, atI_c0, atI_c1, atI_c2, atI_c3, if_true, Bool.false_eq_true, if_false, ↓reduceIte, Bool.not_true, Bool.not_false, hat, e1, x_for, sort2_run, e_call, e2, hcut, e3, show decide ((0 : Int) < 0) = false from rfl]
    · have := inn.row r hr
      exact ⟨this.1, this.2.1, srcs _ this.2.2⟩
end K43

/-! K43r: the law's rows. -/
namespace K43
open MP
mutual
theorem below_mono {n m : Nat} (h : n ≤ m) : ∀ d : D, below n d = true → below m d = true
  | .non, _ => rfl
  | .bl _, _ => rfl
  | .int _, _ => rfl
  | .str _, _ => rfl
  | .list xs, b => by
    rw [below] at b ⊢
    exact belowL_mono h xs b
  | .tup xs, b => by
    rw [below] at b ⊢
    exact belowL_mono h xs b
  | .dict kvs, b => by
    rw [below] at b ⊢
    exact belowK_mono h kvs b
  | .loc k, b => by
    rw [below, decide_eq_true_eq] at b ⊢
    omega
  | .fz xs, b => by
    rw [below] at b ⊢
    exact belowL_mono h xs b
theorem belowL_mono {n m : Nat} (h : n ≤ m) : ∀ ds : List D, belowL n ds = true → belowL m ds = true
  | [], _ => rfl
  | d :: ds, b => by
    rw [belowL, Bool.and_eq_true] at b ⊢
    exact ⟨below_mono h d b.1, belowL_mono h ds b.2⟩
theorem belowK_mono {n m : Nat} (h : n ≤ m) : ∀ ds : List (L2.Key × D), belowK n ds = true → belowK m ds = true
  | [], _ => rfl
  | (_, d) :: ds, b => by
    rw [belowK, Bool.and_eq_true] at b ⊢
    exact ⟨below_mono h d b.1, belowK_mono h ds b.2⟩
end
theorem belowM_mono {n m : Nat} (h : n ≤ m) : ∀ x : MO, belowM n x = true → belowM m x = true
  | .dead, _ => rfl
  | .list xs, b => by
    rw [belowM] at b ⊢
    exact belowL_mono h xs b
  | .dK kvs, b => by
    rw [belowM] at b ⊢
    exact belowK_mono h kvs b
  | .dT kvs, b => by
    rw [belowM] at b ⊢
    induction kvs with
    | nil => rfl
    | cons x kvs ih =>
      rw [belowT, Bool.and_eq_true] at b ⊢
      exact ⟨below_mono h _ b.1, ih b.2⟩
  | .ins _ fs, b => by
    rw [belowM] at b ⊢
    induction fs with
    | nil => rfl
    | cons x kvs ih =>
      rw [belowS, Bool.and_eq_true] at b ⊢
      exact ⟨below_mono h _ b.1, ih b.2⟩
theorem St.app {M : Sto} {s c : Nat} (h : St M s c) (m : MO) : St (M ++ [m]) s c := by
  have l := h.lt
  obtain ⟨ne, a, cs, k1, k2, k3⟩ := h
  exact ⟨ne, a, cs, by rw [List.getElem?_append_left l.1]; exact k1, by rw [List.getElem?_append_left l.2]; exact k2, k3⟩
theorem Cl.app {M : Sto} (h : Cl M) {ds : List D} (hd : belowL (M.length + 1) ds = true) : Cl (M ++ [.list ds]) := by
  unfold Cl at h ⊢
  rw [List.length_append, List.length_cons, List.length_nil]
  refine List.all_eq_true.mpr fun m hm => ?_
  rcases List.mem_append.mp hm with z | z
  · exact belowM_mono (Nat.le_succ _) m (List.all_eq_true.mp h m z)
  · rw [List.mem_singleton] at z
    rw [z, belowM]
    exact hd
theorem RS.start {M0 : Sto} {s c : Nat} (h : St M0 s c) (hC : Cl M0) : RS M0 (M0 ++ [.list []]) [] s c :=
  ⟨h, h.app _, hC.app rfl, by rw [List.length_append]; rfl, by rw [List.getElem?_append_right (Nat.le_refl _), Nat.sub_self]; rfl, fun i hi _ _ => List.getElem?_append_left hi⟩
def wAt (U : List Int) (n : Nat) (u : Int) : Int := if 0 ≤ u ∧ u < n then U.getD u.toNat 0 else 0
structure RO (U : List Int) (R : List T3) (i : Nat) : Prop where
  row : ∀ r ∈ R, 0 ≤ r.1 ∧ r.1 < 6 ∧ 0 ≤ r.2.1 ∧ r.2.1 < i ∧ 0 < r.2.2
  nd : (R.map l2).Nodup
  tot : ∀ u, tot (sel R u) = wAt U i u
  len : R.length ≤ i * 6
theorem tot_app (R P : List T3) (u : Int) : tot (sel (R ++ P) u) = tot (sel R u) + tot (sel P u) := by
  unfold tot sel
  rw [List.filter_append, List.map_append, List.map_append, List.sum_append]
theorem RO.step {U : List Int} {R P : List T3} {i many : Nat} {w : Int} (h : RO U R i) (p : Inn P i w ((List.range many).map fun i : Nat => (i : Int))) (hm : many ≤ 6) (hw : U[i]? = some w) : RO U (R ++ P) (i + 1) := by
  have src : ∀ r ∈ P, 0 ≤ r.1 ∧ r.1 < 6 := fun r hr => by
    obtain ⟨j, hj, e⟩ := List.mem_map.mp (p.row r hr).2.2
    rw [List.mem_range] at hj
    omega
  refine ⟨fun r hr => ?_, ?_, fun u => ?_, ?_⟩
  · rcases List.mem_append.mp hr with z | z
    · have := h.row r z
      omega
    · have h1 := p.row r z
      have h2 := src r z
      omega
  · rw [List.map_append, List.nodup_append]
    refine ⟨h.nd, ?_, fun a ha b hb e => ?_⟩
    · have e : P.map l2 = (P.map (·.1)).map fun a => [a, (i : Int)] := by
        rw [List.map_map]
        refine List.map_congr_left fun r hr => ?_
        show [r.1, r.2.1] = [r.1, (i : Int)]
        rw [(p.row r hr).1]
      rw [e]
      exact List.Pairwise.map _ (fun a b hne z => hne (by simpa using z)) p.nd
    · obtain ⟨r, hr, rfl⟩ := List.mem_map.mp ha
      obtain ⟨q, hq, rfl⟩ := List.mem_map.mp hb
      have h1 := (h.row r hr).2.2.2.1
      have h2 := (p.row q hq).1
      simp only [l2, List.cons.injEq] at e
      omega
  · rw [tot_app, h.tot u]
    have hs : K43.tot (sel P u) = if u = (i : Int) then w else 0 := by
      by_cases c : u = (i : Int)
      · rw [if_pos c]
        have e : P.filter (fun r => decide (r.2.1 = u)) = P := List.filter_eq_self.mpr fun r hr => decide_eq_true (by rw [(p.row r hr).1, c])
        unfold K43.tot sel
        rw [e, List.map_map]
        exact p.sum
      · rw [if_neg c]
        have e : P.filter (fun r => decide (r.2.1 = u)) = [] := List.filter_eq_nil_iff.mpr fun r hr z => c ((of_decide_eq_true z).symm.trans (p.row r hr).1)
        unfold K43.tot sel
        rw [e]
        rfl
    rw [hs]
    unfold wAt
    by_cases c : u = (i : Int)
    · subst c
      rw [if_neg (by omega), if_pos rfl, if_pos (by omega), Int.toNat_natCast, List.getD_eq_getElem?_getD, hw]
      simp
    · rw [if_neg c, Int.add_zero]
      by_cases c2 : 0 ≤ u ∧ u < i
      · rw [if_pos c2, if_pos (by omega)]
      · rw [if_neg c2, if_neg (by omega)]
  · have := p.len
    rw [List.length_map, List.length_range] at this
    have := h.len
    rw [List.length_append]
    omega
def k3 (r : T3) : List Int := [r.1, r.2.1, r.2.2]
def sort3 (R : List T3) : List T3 := R.mergeSort fun a b => lexLe (k3 a) (k3 b)
theorem sort3_run (R : List T3) (M : Sto) : blt1 .sorted M [.list (R.map d3)] = some (.list ((sort3 R).map d3)) := by
  have e : R.map d3 = (R.map k3).map kD := by
    rw [List.map_map]
    rfl
  rw [e, sorted_k fun k hk => by
    obtain ⟨r, _, rfl⟩ := List.mem_map.mp hk
    exact List.cons_ne_nil _ _]
  unfold sortK sort3
  rw [← List.map_mergeSort (f := k3) (r := fun a b => lexLe (k3 a) (k3 b)) (fun _ _ _ _ => rfl), List.map_map]
  rfl
theorem sort3_perm (R : List T3) : (sort3 R).Perm R := List.mergeSort_perm R _
theorem tot_perm {R T : List T3} (h : R.Perm T) (u : Int) : tot (sel R u) = tot (sel T u) := sum_perm (((h.filter _).map _).map _)
theorem rows_run {n : Nat} {M0 : Sto} {s c many : Nat} {U : List Int} (st : St M0 s c) (hC : Cl M0) (m0 : 0 < many) (m1 : many ≤ 6) (hU : U.length ≤ 6) (hw : ∀ w ∈ U, 0 < w ∧ w < 1073741824) :
    ∃ (A : List T3) (M2 : Sto), callM (run fns cls (n + 2)) .tr 5 [.loc s, .list (U.map D.int), .int (many : Nat)] M0 = some (.list (A.map d3), M2) ∧ Fol A ∧ (∀ u, tot (sel A u) = wAt U U.length u) ∧ St M2 s c ∧ Sm M0 M2 s c ∧ Cl M2 := by
  obtain ⟨env', N, e1, R, x4, x5, x6, x7, x8, x9, he, rs, ro⟩ := forP_fold (f := turnB (run fns cls (n + 1)) cls (.nm 4) oB) (e := fun i : Nat => D.int i) (step := fun (_ : Unit) _ => ())
    (J := fun i _ env N => ∃ R x4 x5 x6 x7 x8 x9, env = [some (.loc s), some (.list (U.map D.int)), some (.int (many : Nat)), some (.loc M0.length), x4, x5, x6, x7, x8, x9] ∧ RS M0 N R s c ∧ RO U R i) (l := List.range U.length)
    (fun i a hi _ env N ⟨R, x4, x5, x6, x7, x8, x9, he, rs, ro⟩ => by
      subst he
      have hlt : i < U.length := by
        have := (List.getElem?_eq_some_iff.mp hi).1
        rwa [List.length_range] at this
      rw [List.getElem?_range hlt] at hi
      cases hi
      have hUi : U[i]? = some U[i] := List.getElem?_eq_getElem hlt
      have w0 := hw U[i] (List.getElem_mem hlt)
      obtain ⟨P, y5, y6, y7, y8, y9, N', e, rs', inn⟩ := use_turn (n := n) (x4 := x4) (x5 := x5) (x6 := x6) (x7 := x7) (x8 := x8) (x9 := x9) rs (by have := ro.len; omega) m0 m1 hUi w0.1 w0.2
      exact ⟨.next, _, N', e, .inl rfl, R ++ P, _, y5, y6, y7, y8, y9, rfl, rs', ro.step inn m1 hUi⟩)
    () [some (.loc s), some (.list (U.map D.int)), some (.int (many : Nat)), some (.loc M0.length), none, none, none, none, none, none] (M0 ++ [.list []])
    ⟨[], none, none, none, none, none, none, rfl, RS.start st hC, ⟨fun r hr => (nomatch hr), List.nodup_nil, fun u => by
      unfold wAt
      rw [if_neg (by omega)]
      rfl, by simp⟩⟩
  rw [List.length_range] at ro
  subst he
  have hrow := rs.row
  have hlen := rs.len
  have l0 := st.lt
  have hrun : run fns cls (n + 2) f_law_rows [.loc s, .list (U.map D.int), .int (many : Nat)] M0 = some (.list ((sort3 R).map d3), N.set M0.length .dead) := by
    rw [run_full (fn := fns[5]) rfl rfl]
    show body1 (run fns cls (n + 1)) cls ⟨"_law_rows", 3, _, b_law_rows, []⟩ _ _ = _
    unfold b_law_rows
    have hr : srcOf .rng1 (M0 ++ [MO.list []]) (.int ((U.map D.int).length : Nat)) .non = some (.pure ((List.range U.length).map fun (i : Nat) => D.int i)) := by
      rw [List.length_map]
      exact src_rng1 (by omega) _ _
    simp only [e_var, e_non, e_bl, e_int, e_str, e_bin, e_neg, e_not, e_and, e_or, e_cmp, e_chain, e_isN, e_ife, e_tup, e_lst, e_dct, e_idx, e_slc, e_blt, e_isi, e_fld, e_app, e_ext, e_idxof, e_dget, e_nil, e_cons, x_setv, x_sett, x_setp, x_seti, x_seti2, x_augi, x_setf, x_exp, x_ret, x_ife, x_frz, x_retN, x_pass, x_cont, x_nil, x_cons, getD_list, getD_tup, rd_int, rd_bl, rd_non, rd_str, rd_list, rd_tup, rd_fz, rd_dict, len_list, len_tup, abs_int, min2_int, max2_int, int_int, list_list, list_tup, mk_f, mk_t, truth_bl', truth_int', truth_list', tst_some, line0, line1, line2, line3, line4, line5, line6, line7, line8, asg, optC, optD, optI, isAbs, src_list, src_tup, src_enum, setI, body1, wipeE, List.map_cons, List.map_nil, List.length_cons, List.length_nil, List.replicate, List.cons_append, List.nil_append, List.getElem?_cons_zero, List.getElem?_cons_succ, List.set_cons_zero, List.set_cons_succ, Nat.reduceAdd, Nat.reduceSub, bop_add_int, bop_sub_int, cop_lt_int, cop_gt_int, cop_le_int, cop_ge_int, cop_eq_int, cop_ne_int, atI_c0, atI_c1, atI_c2, atI_c3, if_true, Bool.false_eq_true, if_false, ↓reduceIte, Bool.not_true, Bool.not_false, x_for, hr, e1, hrow, sort3_run]
  have st2 : St (N.set M0.length .dead) s c := by
    obtain ⟨ne, a, cs, k1, k2, k3⟩ := rs.st
    exact ⟨ne, a, cs, by rw [List.getElem?_set_ne (by omega)]; exact k1, by rw [List.getElem?_set_ne (by omega)]; exact k2, k3⟩
  have old : ∀ i, i < M0.length → i ≠ s → i ≠ c → (N.set M0.length .dead)[i]? = M0[i]? := fun i hi a b => by
    rw [List.getElem?_set_ne (by omega)]
    exact rs.old i hi a b
  have hl : M0.length ≤ (N.set M0.length .dead).length := by
    rw [List.length_set]
    omega
  have cl2 := closed hC st st2 old hl
  have e2 := call_tr hrun (by
    rw [below]
    exact belowL_all fun d hd => by
      obtain ⟨r, _, rfl⟩ := List.mem_map.mp hd
      rfl) cl2 hl
  have lt : ((N.set M0.length .dead).take M0.length).length = M0.length := by
    rw [List.length_take]
    omega
  refine ⟨sort3 R, _, e2, ⟨fun r hr => ?_, ?_, ?_⟩, fun u => by rw [tot_perm (sort3_perm R), ro.tot u], ?_, ⟨lt, fun i a b => ?_⟩, ?_⟩
  · have := ro.row r ((sort3_perm R).mem_iff.mp hr)
    omega
  · exact ((sort3_perm R).map l2).nodup_iff.mpr ro.nd
  · have := ro.len
    rw [(sort3_perm R).length_eq]
    omega
  · obtain ⟨ne, a, cs, k1, k2, k3⟩ := st2
    exact ⟨ne, a, cs, by rw [List.getElem?_take_of_lt l0.1]; exact k1, by rw [List.getElem?_take_of_lt l0.2]; exact k2, k3⟩
  · by_cases hi : i < M0.length
    · rw [List.getElem?_take_of_lt hi, old i hi a b]
    · rw [List.getElem?_eq_none (by omega), List.getElem?_eq_none (by omega)]
  · unfold Cl
    rw [lt]
    exact cl2
end K43

/-! K43s: bent rows. -/
namespace K43
open MP
/-- while rows are bent: a list behind all else -/
structure RQ (M0 N : Sto) (L : Nat) (Q : List T4) (s c : Nat) : Prop where
  st0 : St M0 s c
  cl0 : Cl M0
  st : St N s c
  cl : Cl N
  ge : M0.length ≤ L
  lt : L < N.length
  row : N[L]? = some (.list (Q.map d4))
  old : ∀ i, i < M0.length → i ≠ s → i ≠ c → N[i]? = M0[i]?
theorem RQ.take {n : Nat} {M0 N : Sto} {L : Nat} {Q : List T4} {s c : Nat} {m : Int} (h : RQ M0 N L Q s c) (h0 : 0 < m) (h1 : m < 1073741824) :
    ∃ v N', callM (run fns cls (n + 1)) .tr 4 [.loc s, .int m] N = some (.int v, N') ∧ 0 ≤ v ∧ v < m ∧ RQ M0 N' L Q s c := by
  obtain ⟨v, N', e, v0, v1, st, sm, cl⟩ := take_tr (n := n) h.st h.cl h0 h1
  have l0 := h.st0.lt
  have ge := h.ge
  refine ⟨v, N', e, v0, v1, h.st0, h.cl0, st, cl, h.ge, by rw [sm.1]; exact h.lt, ?_, fun i hi a b => ?_⟩
  · rw [sm.2 _ (by omega) (by omega), h.row]
  · rw [sm.2 i a b, h.old i hi a b]
theorem RQ.set {M0 N : Sto} {L : Nat} {Q : List T4} {s c : Nat} (h : RQ M0 N L Q s c) (Q' : List T4) : RQ M0 (N.set L (.list (Q'.map d4))) L Q' s c := by
  have l0 := h.st0.lt
  have ge := h.ge
  have hlt := h.lt
  obtain ⟨ne, a, cs, k1, k2, k3⟩ := h.st
  refine ⟨h.st0, h.cl0, ⟨ne, a, cs, ?_, ?_, k3⟩, ?_, h.ge, by rw [List.length_set]; exact hlt, List.getElem?_set_self hlt, fun i hi a b => ?_⟩
  · rw [List.getElem?_set_ne (by omega)]; exact k1
  · rw [List.getElem?_set_ne (by omega)]; exact k2
  · unfold Cl
    rw [List.length_set]
    refine List.all_eq_true.mpr fun m hm => ?_
    rcases List.mem_or_eq_of_mem_set hm with z | z
    · exact List.all_eq_true.mp h.cl m z
    · rw [z, belowM]
      exact belowL_all fun d hd => by
        obtain ⟨r, _, rfl⟩ := List.mem_map.mp hd
        rfl
  · rw [List.getElem?_set_ne (by omega)]; exact h.old i hi a b
theorem RQ.app {M0 N : Sto} {L : Nat} {Q : List T4} {s c : Nat} (h : RQ M0 N L Q s c) (Q' : List T4) : RQ M0 (N ++ [.list (Q'.map d4)]) N.length Q' s c := by
  have ge := h.ge
  have hlt := h.lt
  refine ⟨h.st0, h.cl0, h.st.app _, h.cl.app ?_, by omega, by rw [List.length_append]; exact Nat.lt_succ_self _, by rw [List.getElem?_append_right (Nat.le_refl _), Nat.sub_self]; rfl, fun i hi a b => ?_⟩
  · exact belowL_all fun d hd => by
      obtain ⟨r, _, rfl⟩ := List.mem_map.mp hd
      rfl
  · rw [List.getElem?_append_left (by omega)]
    exact h.old i hi a b
theorem RQ.start {M0 : Sto} {s c : Nat} (h : St M0 s c) (hC : Cl M0) (Q : List T4) : RQ M0 (M0 ++ [.list (Q.map d4)]) M0.length Q s c :=
  ⟨h, hC, h.app _, hC.app (belowL_all fun d hd => by
      obtain ⟨r, _, rfl⟩ := List.mem_map.mp hd
      rfl), Nat.le_refl _, by rw [List.length_append]; exact Nat.lt_succ_self _, by rw [List.getElem?_append_right (Nat.le_refl _), Nat.sub_self]; rfl, fun i hi _ _ => List.getElem?_append_left hi⟩
/-- the end of a bending: the list is dead, what stands behind is dropped -/
theorem RQ.fin {M0 N : Sto} {L : Nat} {Q : List T4} {s c : Nat} (h : RQ M0 N L Q s c) : (((N.set L .dead).take M0.length).all (belowM M0.length) = true ∧ M0.length ≤ (N.set L .dead).length) ∧ St ((N.set L .dead).take M0.length) s c ∧ Sm M0 ((N.set L .dead).take M0.length) s c ∧ Cl ((N.set L .dead).take M0.length) := by
  have l0 := h.st0.lt
  have ge := h.ge
  have hlt := h.lt
  have st2 : St (N.set L .dead) s c := by
    obtain ⟨ne, a, cs, k1, k2, k3⟩ := h.st
    exact ⟨ne, a, cs, by rw [List.getElem?_set_ne (by omega)]; exact k1, by rw [List.getElem?_set_ne (by omega)]; exact k2, k3⟩
  have old : ∀ i, i < M0.length → i ≠ s → i ≠ c → (N.set L .dead)[i]? = M0[i]? := fun i hi a b => by
    rw [List.getElem?_set_ne (by omega)]
    exact h.old i hi a b
  have hl : M0.length ≤ (N.set L .dead).length := by
    rw [List.length_set]
    omega
  have cl2 := closed h.cl0 h.st0 st2 old hl
  have lt : ((N.set L .dead).take M0.length).length = M0.length := by
    rw [List.length_take]
    omega
  refine ⟨⟨cl2, hl⟩, ?_, ⟨lt, fun i a b => ?_⟩, ?_⟩
  · obtain ⟨ne, a, cs, k1, k2, k3⟩ := st2
    exact ⟨ne, a, cs, by rw [List.getElem?_take_of_lt l0.1]; exact k1, by rw [List.getElem?_take_of_lt l0.2]; exact k2, k3⟩
  · by_cases hi : i < M0.length
    · rw [List.getElem?_take_of_lt hi, old i hi a b]
    · rw [List.getElem?_eq_none (by omega), List.getElem?_eq_none (by omega)]
  · unfold Cl
    rw [lt]
    exact cl2
end K43

/-! K43t: bent rows, the end of the def. -/
namespace K43
open MP
theorem sort4_run (Q : List T4) (M : Sto) : blt1 .sorted M [.list (Q.map d4)] = some (.list ((sort4 Q).map d4)) := by
  have e : Q.map d4 = (Q.map l4).map kD := by
    rw [List.map_map]
    rfl
  rw [e, sorted_k fun k hk => by
    obtain ⟨r, _, rfl⟩ := List.mem_map.mp hk
    exact List.cons_ne_nil _ _, sort4_map]
/-- a store that a bending leaves -/
structure Left (M0 N : Sto) (s c : Nat) : Prop where
  st0 : St M0 s c
  cl0 : Cl M0
  st : St N s c
  cl : Cl N
  len : M0.length ≤ N.length
  old : ∀ i, i < M0.length → i ≠ s → i ≠ c → N[i]? = M0[i]?
theorem Left.take {n : Nat} {M0 N : Sto} {s c : Nat} {m : Int} (h : Left M0 N s c) (h0 : 0 < m) (h1 : m < 1073741824) :
    ∃ v N', callM (run fns cls (n + 1)) .tr 4 [.loc s, .int m] N = some (.int v, N') ∧ 0 ≤ v ∧ v < m ∧ Left M0 N' s c := by
  obtain ⟨v, N', e, v0, v1, st, sm, cl⟩ := take_tr (n := n) h.st h.cl h0 h1
  exact ⟨v, N', e, v0, v1, h.st0, h.cl0, st, cl, by rw [sm.1]; exact h.len, fun i hi a b => by rw [sm.2 i a b, h.old i hi a b]⟩
theorem RQ.dead {M0 N : Sto} {L : Nat} {Q : List T4} {s c : Nat} (h : RQ M0 N L Q s c) : Left M0 (N.set L .dead) s c := by
  have l0 := h.st0.lt
  have ge := h.ge
  have hlt := h.lt
  obtain ⟨ne, a, cs, k1, k2, k3⟩ := h.st
  refine ⟨h.st0, h.cl0, ⟨ne, a, cs, ?_, ?_, k3⟩, ?_, by rw [List.length_set]; omega, fun i hi a b => ?_⟩
  · rw [List.getElem?_set_ne (by omega)]; exact k1
  · rw [List.getElem?_set_ne (by omega)]; exact k2
  · unfold Cl
    rw [List.length_set]
    refine List.all_eq_true.mpr fun m hm => ?_
    rcases List.mem_or_eq_of_mem_set hm with z | z
    · exact List.all_eq_true.mp h.cl m z
    · rw [z]; rfl
  · rw [List.getElem?_set_ne (by omega)]; exact h.old i hi a b
/-- what a call by tr gives back of it -/
theorem Left.cut {F : FT} {f : Nat} {ds : List D} {d : D} {M0 N : Sto} {s c : Nat} (h : Left M0 N s c) (e : F f ds M0 = some (d, N)) (hd : ∀ n, below n d = true) : ∃ M2, callM F .tr f ds M0 = some (d, M2) ∧ St M2 s c ∧ Sm M0 M2 s c ∧ Cl M2 := by
  have l0 := h.st0.lt
  have cl2 := closed h.cl0 h.st0 h.st h.old h.len
  have hl := h.len
  have lt : (N.take M0.length).length = M0.length := by
    rw [List.length_take]
    omega
  refine ⟨N.take M0.length, call_tr e (hd _) cl2 h.len, ?_, ⟨lt, fun i a b => ?_⟩, ?_⟩
  · obtain ⟨ne, a, cs, k1, k2, k3⟩ := h.st
    exact ⟨ne, a, cs, by rw [List.getElem?_take_of_lt l0.1]; exact k1, by rw [List.getElem?_take_of_lt l0.2]; exact k2, k3⟩
  · by_cases hi : i < M0.length
    · rw [List.getElem?_take_of_lt hi, h.old i hi a b]
    · rw [List.getElem?_eq_none (by omega), List.getElem?_eq_none (by omega)]
  · unfold Cl
    rw [lt]
    exact cl2
abbrev tailB : SB := (.cons (.frz 1) (.cons (.ret (.ife (.cmp .eq (.call .tr 4 (.cons (.var 0) (.cons (.int 2) .nil))) (.int 0)) (.blt false .sorted (.cons (.var 1) .nil)) (.var 1))) .nil))
theorem tail_run {n : Nat} {M0 N : Sto} {L : Nat} {Q : List T4} {s c : Nat} {x2 x3 x4 : Option D} (h : RQ M0 N L Q s c) : ∃ (Q' : List T4) (env' : MP.Env) (N' : Sto), exb (run fns cls (n + 1)) cls tailB [some (.loc s), some (.loc L), x2, x3, x4] N = some (.ret (.list (Q'.map d4)), env', N') ∧ Q'.Perm Q ∧ Left M0 N' s c := by
  obtain ⟨v, N', e, _, _, hl⟩ := h.dead.take (n := n) (m := 2) (by decide) (by decide)
  have hrow := h.row
  by_cases c0 : v = 0
  · refine ⟨sort4 Q, [some (.loc s), some (.list (Q.map d4)), x2, x3, x4], N', ?_, sort4_perm Q, hl⟩
    simp only [e_var, e_non, e_bl, e_int, e_str, e_bin, e_neg, e_not, e_and, e_or, e_cmp, e_chain, e_isN, e_ife, e_tup, e_lst, e_dct, e_idx, e_slc, e_blt, e_isi, e_fld, e_app, e_ext, e_idxof, e_dget, e_nil, e_cons, x_setv, x_sett, x_setp, x_seti, x_seti2, x_augi, x_setf, x_exp, x_ret, x_ife, x_frz, x_retN, x_pass, x_cont, x_nil, x_cons, getD_list, getD_tup, rd_int, rd_bl, rd_non, rd_str, rd_list, rd_tup, rd_fz, rd_dict, len_list, len_tup, abs_int, min2_int, max2_int, int_int, list_list, list_tup, mk_f, mk_t, truth_bl', truth_int', truth_list', tst_some, line0, line1, line2, line3, line4, line5, line6, line7, line8, asg, optC, optD, optI, isAbs, src_list, src_tup, src_enum, setI, body1, wipeE, List.map_cons, List.map_nil, List.length_cons, List.length_nil, List.replicate, List.cons_append, List.nil_append, List.getElem?_cons_zero, List.getElem?_cons_succ, List.set_cons_zero, List.set_cons_succ, Nat.reduceAdd, Nat.reduceSub, bop_add_int, bop_sub_int, cop_lt_int, cop_gt_int, cop_le_int, cop_ge_int, cop_eq_int, cop_ne_int, atI_c0, atI_c1, atI_c2, atI_c3, if_true, Bool.false_eq_true, if_false, ↓reduceIte, Bool.not_true, Bool.not_false, hrow, e_call, e, decide_eq_true c0, sort4_run]
  · refine ⟨Q, [some (.loc s), some (.list (Q.map d4)), x2, x3, x4], N', ?_, List.Perm.refl _, hl⟩
    simp only [e_var, e_non, e_bl, e_int, e_str, e_bin, e_neg, e_not, e_and, e_or, e_cmp, e_chain, e_isN, e_ife, e_tup, e_lst, e_dct, e_idx, e_slc, e_blt, e_isi, e_fld, e_app, e_ext, e_idxof, e_dget, e_nil, e_cons, x_setv, x_sett, x_setp, x_seti, x_seti2, x_augi, x_setf, x_exp, x_ret, x_ife, x_frz, x_retN, x_pass, x_cont, x_nil, x_cons, getD_list, getD_tup, rd_int, rd_bl, rd_non, rd_str, rd_list, rd_tup, rd_fz, rd_dict, len_list, len_tup, abs_int, min2_int, max2_int, int_int, list_list, list_tup, mk_f, mk_t, truth_bl', truth_int', truth_list', tst_some, line0, line1, line2, line3, line4, line5, line6, line7, line8, asg, optC, optD, optI, isAbs, src_list, src_tup, src_enum, setI, body1, wipeE, List.map_cons, List.map_nil, List.length_cons, List.length_nil, List.replicate, List.cons_append, List.nil_append, List.getElem?_cons_zero, List.getElem?_cons_succ, List.set_cons_zero, List.set_cons_succ, Nat.reduceAdd, Nat.reduceSub, bop_add_int, bop_sub_int, cop_lt_int, cop_gt_int, cop_le_int, cop_ge_int, cop_eq_int, cop_ne_int, atI_c0, atI_c1, atI_c2, atI_c3, if_true, Bool.false_eq_true, if_false, ↓reduceIte, Bool.not_true, Bool.not_false, hrow, e_call, e, decide_eq_false c0]
end K43

/-! K43u: bent rows. -/
namespace K43
open MP
def G6 (r : T4) : Prop := (0 ≤ r.1 ∧ r.1 < 6) ∧ (0 ≤ r.2.1 ∧ r.2.1 < 6) ∧ (0 ≤ r.2.2.1 ∧ r.2.2.1 < 6)
theorem G6.good {r : T4} (h : G6 r) : Good4 r := by
  unfold G6 at h
  unfold Good4 al
  omega
theorem atI_d4 {Q : List T4} {i : Int} (h0 : 0 ≤ i) (h : i.toNat < Q.length) : L2.atI (Q.map d4) i = some (d4 Q[i.toNat]) := atI_of h0 (by rw [List.getElem?_map, List.getElem?_eq_getElem h]; rfl)
abbrev b3 : S := (.ife (.cmp .eq (.var 2) (.int 2)) (.cons (.seti (.var 1) (.var 3) (.bin false .add (.slc false (.idx (.var 1) (.var 3)) .absent (.int 3)) (.tup (.cons (.bin false .add (.idx (.idx (.var 1) (.var 3)) (.int 3)) (.idx (.lst false (.cons (.int 1) (.cons (.bin false .sub (.int 0) (.int 1)) .nil))) (.call .tr 4 (.cons (.var 0) (.cons (.int 2) .nil))))) .nil)))) .nil) (.cons (.ife (.cmp .eq (.var 2) (.int 3)) (.cons (.setv 1 (.bin true .add (.bin false .add (.slc false (.var 1) .absent (.var 3)) (.lst false (.cons (.idx (.var 1) (.var 3)) .nil))) (.slc false (.var 1) (.var 3) .absent))) .nil) (.cons (.ife (.cmp .eq (.var 2) (.int 4)) (.cons (.seti2 (.var 1) (.var 3) (.var 1) (.var 4) (.idx (.var 1) (.var 4)) (.idx (.var 1) (.var 3))) .nil) (.cons (.ife (.cmp .eq (.var 2) (.int 5)) (.cons (.seti (.var 1) (.var 3) (.tup (.cons (.idx (.idx (.var 1) (.var 3)) (.int 0)) (.cons (.idx (.idx (.var 1) (.var 3)) (.int 1)) (.cons (.idx (.idx (.var 1) (.var 4)) (.int 2)) (.cons (.idx (.idx (.var 1) (.var 3)) (.int 3)) .nil)))))) .nil) (.cons (.seti2 (.var 1) (.var 3) (.var 1) (.var 4) (.bin false .add (.slc false (.idx (.var 1) (.var 3)) .absent (.int 3)) (.tup (.cons (.bin false .add (.idx (.idx (.var 1) (.var 3)) (.int 3)) (.int 1)) .nil))) (.bin false .add (.slc false (.idx (.var 1) (.var 4)) .absent (.int 3)) (.tup (.cons (.bin false .sub (.idx (.idx (.var 1) (.var 4)) (.int 3)) (.int 1)) .nil)))) .nil)) .nil)) .nil)) .nil))
theorem bent_run {n : Nat} {M0 : Sto} {s c t : Nat} {Q : List T4} (st : St M0 s c) (hC : Cl M0) (ht : M0[t]? = some (.list (Q.map d4))) (hQ : ∀ r ∈ Q, G6 r) (hl : Q.length ≤ 100) :
    ∃ (Q' : List T4) (M2 : Sto), callM (run fns cls (n + 2)) .tr 9 [.loc s, .loc t] M0 = some (.list (Q'.map d4), M2) ∧ (∀ r ∈ Q', Good4 r) ∧ Q'.length ≤ 200 ∧ St M2 s c ∧ Sm M0 M2 s c ∧ Cl M2 := by
  suffices hs : ∃ (Q' : List T4) (N : Sto), run fns cls (n + 2) f_law_bent [.loc s, .loc t] M0 = some (.list (Q'.map d4), N) ∧ (∀ r ∈ Q', Good4 r) ∧ Q'.length ≤ 200 ∧ Left M0 N s c by
    obtain ⟨Q', N, e, h1, h2, h3⟩ := hs
    obtain ⟨M2, e2, k1, k2, k3⟩ := h3.cut e fun n => by
      rw [below]
      exact belowL_all fun d hd => by
        obtain ⟨r, _, rfl⟩ := List.mem_map.mp hd
        rfl
    exact ⟨Q', M2, e2, h1, h2, k1, k2, k3⟩
  have l0 := st.lt
  have hrt : rd M0 (.loc t) = .list (Q.map d4) := rd_loc ht
  have r0 := RQ.start st hC Q
  -- the draws
  have hmx : (if ((Q.map d4).length : Int) > 1 then ((Q.map d4).length : Int) else 1) = max 1 (Q.length : Int) := by
    rw [List.length_map]
    omega
  obtain ⟨a, N1, e1, a0, a1, r1⟩ := r0.take (n := n) (m := max 1 (Q.length : Int)) (by omega) (by omega)
  obtain ⟨b, N2, e2, b0, b1, r2⟩ := r1.take (n := n) (m := max 1 (Q.length : Int)) (by omega) (by omega)
  obtain ⟨k, N3, e3, k0, k1, r3⟩ := r2.take (n := n) (m := 7) (by decide) (by decide)
  have g1 : rd (M0 ++ [MO.list (Q.map d4)]) (.loc M0.length) = .list (Q.map d4) := rd_loc r0.row
  have g2 : rd N1 (.loc M0.length) = .list (Q.map d4) := rd_loc r1.row
  have g4 : rd N3 (.loc M0.length) = .list (Q.map d4) := rd_loc r3.row
  have hrow := r3.row
  have start : run fns cls (n + 2) f_law_bent [.loc s, .loc t] M0 = (match exb (run fns cls (n + 1)) cls (match b_law_bent with
      | .cons _ (.cons _ (.cons _ r)) => r
      | r => r) [some (.loc s), some (.loc M0.length), some (.int k), some (.int a), some (.int b)] N3 with
    | some (.ret d, _, M1) => some (d, M1)
    | some (.next, _, M1) => some (.non, M1)
    | _ => none) := by
    rw [run_full (fn := fns[9]) rfl rfl]
    show body1 (run fns cls (n + 1)) cls ⟨"_law_bent", 2, _, b_law_bent, []⟩ _ _ = _
    unfold body1 b_law_bent
    simp only [List.map_cons, List.map_nil, List.length_cons, List.length_nil, List.replicate, List.cons_append, List.nil_append, Nat.reduceAdd, Nat.reduceSub]
    have h1 : exec (run fns cls (n + 1)) cls (.setv 1 (.blt true .list (.cons (.var 1) .nil))) [some (.loc s), some (.loc t), none, none, none] M0 = some (.next, [some (.loc s), some (.loc M0.length), none, none, none], M0 ++ [.list (Q.map d4)]) := by
      simp only [e_var, e_non, e_bl, e_int, e_str, e_bin, e_neg, e_not, e_and, e_or, e_cmp, e_chain, e_isN, e_ife, e_tup, e_lst, e_dct, e_idx, e_slc, e_blt, e_isi, e_fld, e_app, e_ext, e_idxof, e_dget, e_nil, e_cons, x_setv, x_sett, x_setp, x_seti, x_seti2, x_augi, x_setf, x_exp, x_ret, x_ife, x_frz, x_retN, x_pass, x_cont, x_nil, x_cons, getD_list, getD_tup, rd_int, rd_bl, rd_non, rd_str, rd_list, rd_tup, rd_fz, rd_dict, len_list, len_tup, abs_int, min2_int, max2_int, int_int, list_list, list_tup, mk_f, mk_t, truth_bl', truth_int', truth_list', tst_some, line0, line1, line2, line3, line4, line5, line6, line7, line8, asg, optC, optD, optI, isAbs, src_list, src_tup, src_enum, setI, body1, wipeE, List.map_cons, List.map_nil, List.length_cons, List.length_nil, List.replicate, List.cons_append, List.nil_append, List.getElem?_cons_zero, List.getElem?_cons_succ, List.set_cons_zero, List.set_cons_succ, Nat.reduceAdd, Nat.reduceSub, bop_add_int, bop_sub_int, cop_lt_int, cop_gt_int, cop_le_int, cop_ge_int, cop_eq_int, cop_ne_int, atI_c0, atI_c1, atI_c2, atI_c3, if_true, Bool.false_eq_true, if_false, ↓reduceIte, Bool.not_true, Bool.not_false, hrt]
    rw [xnext h1]
    have h2 : exec (run fns cls (n + 1)) cls (.setp 3 4 (.call .tr 4 (.cons (.var 0) (.cons (.blt false .max2 (.cons (.int 1) (.cons (.blt false .len (.cons (.var 1) .nil)) .nil))) .nil))) (.call .tr 4 (.cons (.var 0) (.cons (.blt false .max2 (.cons (.int 1) (.cons (.blt false .len (.cons (.var 1) .nil)) .nil))) .nil)))) [some (.loc s), some (.loc M0.length), none, none, none] (M0 ++ [.list (Q.map d4)]) =
        some (.next, [some (.loc s), some (.loc M0.length), none, some (.int a), some (.int b)], N2) := by
      simp only [e_var, e_non, e_bl, e_int, e_str, e_bin, e_neg, e_not, e_and, e_or, e_cmp, e_chain, e_isN, e_ife, e_tup, e_lst, e_dct, e_idx, e_slc, e_blt, e_isi, e_fld, e_app, e_ext, e_idxof, e_dget, e_nil, e_cons, x_setv, x_sett, x_setp, x_seti, x_seti2, x_augi, x_setf, x_exp, x_ret, x_ife, x_frz, x_retN, x_pass, x_cont, x_nil, x_cons, getD_list, getD_tup, rd_int, rd_bl, rd_non, rd_str, rd_list, rd_tup, rd_fz, rd_dict, len_list, len_tup, abs_int, min2_int, max2_int, int_int, list_list, list_tup, mk_f, mk_t, truth_bl', truth_int', truth_list', tst_some, line0, line1, line2, line3, line4, line5, line6, line7, line8, asg, optC, optD, optI, isAbs, src_list, src_tup, src_enum, setI, body1, wipeE, List.map_cons, List.map_nil, List.length_cons, List.length_nil, List.replicate, List.cons_append, List.nil_append, List.getElem?_cons_zero, List.getElem?_cons_succ, List.set_cons_zero, List.set_cons_succ, Nat.reduceAdd, Nat.reduceSub, bop_add_int, bop_sub_int, cop_lt_int, cop_gt_int, cop_le_int, cop_ge_int, cop_eq_int, cop_ne_int, atI_c0, atI_c1, atI_c2, atI_c3, if_true, Bool.false_eq_true, if_false, ↓reduceIte, Bool.not_true, Bool.not_false, e_call, g1, hmx, e1, g2, e2]
    rw [xnext h2]
    have h3 : exec (run fns cls (n + 1)) cls (.setv 2 (.call .tr 4 (.cons (.var 0) (.cons (.int 7) .nil)))) [some (.loc s), some (.loc M0.length), none, some (.int a), some (.int b)] N2 = some (.next, [some (.loc s), some (.loc M0.length), some (.int k), some (.int a), some (.int b)], N3) := by
      simp only [e_var, e_non, e_bl, e_int, e_str, e_bin, e_neg, e_not, e_and, e_or, e_cmp, e_chain, e_isN, e_ife, e_tup, e_lst, e_dct, e_idx, e_slc, e_blt, e_isi, e_fld, e_app, e_ext, e_idxof, e_dget, e_nil, e_cons, x_setv, x_sett, x_setp, x_seti, x_seti2, x_augi, x_setf, x_exp, x_ret, x_ife, x_frz, x_retN, x_pass, x_cont, x_nil, x_cons, getD_list, getD_tup, rd_int, rd_bl, rd_non, rd_str, rd_list, rd_tup, rd_fz, rd_dict, len_list, len_tup, abs_int, min2_int, max2_int, int_int, list_list, list_tup, mk_f, mk_t, truth_bl', truth_int', truth_list', tst_some, line0, line1, line2, line3, line4, line5, line6, line7, line8, asg, optC, optD, optI, isAbs, src_list, src_tup, src_enum, setI, body1, wipeE, List.map_cons, List.map_nil, List.length_cons, List.length_nil, List.replicate, List.cons_append, List.nil_append, List.getElem?_cons_zero, List.getElem?_cons_succ, List.set_cons_zero, List.set_cons_succ, Nat.reduceAdd, Nat.reduceSub, bop_add_int, bop_sub_int, cop_lt_int, cop_gt_int, cop_le_int, cop_ge_int, cop_eq_int, cop_ne_int, atI_c0, atI_c1, atI_c2, atI_c3, if_true, Bool.false_eq_true, if_false, ↓reduceIte, Bool.not_true, Bool.not_false, e_call, e3]
    rw [xnext h3]
    try rfl
  rw [start]
  unfold b_law_bent
  simp only
  have hD : ∀ N : Sto, ∀ X : List D, rd N (.list X) = .list X := fun _ _ => rfl
  by_cases cA : Q.length = 0 ∨ k = 0
  · refine ⟨Q ++ [(9, 0, 9, 1)], N3.set M0.length .dead, ?_, fun r hr => ?_, by rw [List.length_append, List.length_cons, List.length_nil]; omega, r3.dead⟩
    · have hadd : bop .add (.list (Q.map d4)) (.list [.tup [.int 9, .int 0, .int 9, .int 1]]) = some (.list ((Q ++ [(9, 0, 9, 1)]).map d4)) := by
        rw [bop_add_list (by simp only [List.length_map, List.length_cons, List.length_nil]; unfold LINE; omega), List.map_append]
        rfl
      by_cases c1 : Q.length = 0
      · have c1' : decide (((Q.map d4).length : Int) = 0) = true := decide_eq_true (by rw [List.length_map]; omega)
        simp only [e_var, e_non, e_bl, e_int, e_str, e_bin, e_neg, e_not, e_and, e_or, e_cmp, e_chain, e_isN, e_ife, e_tup, e_lst, e_dct, e_idx, e_slc, e_blt, e_isi, e_fld, e_app, e_ext, e_idxof, e_dget, e_nil, e_cons, x_setv, x_sett, x_setp, x_seti, x_seti2, x_augi, x_setf, x_exp, x_ret, x_ife, x_frz, x_retN, x_pass, x_cont, x_nil, x_cons, getD_list, getD_tup, rd_int, rd_bl, rd_non, rd_str, rd_list, rd_tup, rd_fz, rd_dict, len_list, len_tup, abs_int, min2_int, max2_int, int_int, list_list, list_tup, mk_f, mk_t, truth_bl', truth_int', truth_list', tst_some, line0, line1, line2, line3, line4, line5, line6, line7, line8, asg, optC, optD, optI, isAbs, src_list, src_tup, src_enum, setI, body1, wipeE, List.map_cons, List.map_nil, List.length_cons, List.length_nil, List.replicate, List.cons_append, List.nil_append, List.getElem?_cons_zero, List.getElem?_cons_succ, List.set_cons_zero, List.set_cons_succ, Nat.reduceAdd, Nat.reduceSub, bop_add_int, bop_sub_int, cop_lt_int, cop_gt_int, cop_le_int, cop_ge_int, cop_eq_int, cop_ne_int, atI_c0, atI_c1, atI_c2, atI_c3, if_true, Bool.false_eq_true, if_false, ↓reduceIte, Bool.not_true, Bool.not_false, g4, c1', hrow, hadd]
      · have c1' : decide (((Q.map d4).length : Int) = 0) = false := decide_eq_false (by rw [List.length_map]; omega)
        have c2 : k = 0 := cA.resolve_left c1
        simp only [e_var, e_non, e_bl, e_int, e_str, e_bin, e_neg, e_not, e_and, e_or, e_cmp, e_chain, e_isN, e_ife, e_tup, e_lst, e_dct, e_idx, e_slc, e_blt, e_isi, e_fld, e_app, e_ext, e_idxof, e_dget, e_nil, e_cons, x_setv, x_sett, x_setp, x_seti, x_seti2, x_augi, x_setf, x_exp, x_ret, x_ife, x_frz, x_retN, x_pass, x_cont, x_nil, x_cons, getD_list, getD_tup, rd_int, rd_bl, rd_non, rd_str, rd_list, rd_tup, rd_fz, rd_dict, len_list, len_tup, abs_int, min2_int, max2_int, int_int, list_list, list_tup, mk_f, mk_t, truth_bl', truth_int', truth_list', tst_some, line0, line1, line2, line3, line4, line5, line6, line7, line8, asg, optC, optD, optI, isAbs, src_list, src_tup, src_enum, setI, body1, wipeE, List.map_cons, List.map_nil, List.length_cons, List.length_nil, List.replicate, List.cons_append, List.nil_append, List.getElem?_cons_zero, List.getElem?_cons_succ, List.set_cons_zero, List.set_cons_succ, Nat.reduceAdd, Nat.reduceSub, bop_add_int, bop_sub_int, cop_lt_int, cop_gt_int, cop_le_int, cop_ge_int, cop_eq_int, cop_ne_int, atI_c0, atI_c1, atI_c2, atI_c3, if_true, Bool.false_eq_true, if_false, ↓reduceIte, Bool.not_true, Bool.not_false, g4, c1', decide_eq_true c2, hrow, hadd]
    · rcases List.mem_append.mp hr with z | z
      · exact (hQ r z).good
      · rw [List.mem_singleton] at z
        subst z
        exact ⟨.inr ⟨rfl, rfl⟩, .inr ⟨rfl, rfl⟩⟩
  · rw [not_or] at cA
    have c1' : decide (((Q.map d4).length : Int) = 0) = false := decide_eq_false (by rw [List.length_map]; omega)
    have ka : a.toNat < Q.length := by omega
    have kb : b.toNat < Q.length := by omega
    have hat := atI_d4 (Q := Q) a0 ka
    have hbt := atI_d4 (Q := Q) b0 kb
    have hca : cutD (Q.map d4) none (some a) = (Q.take a.toNat).map d4 := by rw [cutD_to _ a0, List.map_take]
    have s1 : exec (run fns cls (n + 1)) cls (.ife (.or (.cmp .eq (.blt false .len (.cons (.var 1) .nil)) (.int 0)) (.cmp .eq (.var 2) (.int 0))) (.cons (.frz 1) (.cons (.ret (.bin false .add (.var 1) (.lst false (.cons (.tup (.cons (.int 9) (.cons (.int 0) (.cons (.int 9) (.cons (.int 1) .nil))))) .nil)))) .nil)) .nil)
        [some (.loc s), some (.loc M0.length), some (.int k), some (.int a), some (.int b)] N3 = some (.next, [some (.loc s), some (.loc M0.length), some (.int k), some (.int a), some (.int b)], N3) := by
      simp only [e_var, e_non, e_bl, e_int, e_str, e_bin, e_neg, e_not, e_and, e_or, e_cmp, e_chain, e_isN, e_ife, e_tup, e_lst, e_dct, e_idx, e_slc, e_blt, e_isi, e_fld, e_app, e_ext, e_idxof, e_dget, e_nil, e_cons, x_setv, x_sett, x_setp, x_seti, x_seti2, x_augi, x_setf, x_exp, x_ret, x_ife, x_frz, x_retN, x_pass, x_cont, x_nil, x_cons, getD_list, getD_tup, rd_int, rd_bl, rd_non, rd_str, rd_list, rd_tup, rd_fz, rd_dict, len_list, len_tup, abs_int, min2_int, max2_int, int_int, list_list, list_tup, mk_f, mk_t, truth_bl', truth_int', truth_list', tst_some, line0, line1, line2, line3, line4, line5, line6, line7, line8, asg, optC, optD, optI, isAbs, src_list, src_tup, src_enum, setI, body1, wipeE, List.map_cons, List.map_nil, List.length_cons, List.length_nil, List.replicate, List.cons_append, List.nil_append, List.getElem?_cons_zero, List.getElem?_cons_succ, List.set_cons_zero, List.set_cons_succ, Nat.reduceAdd, Nat.reduceSub, bop_add_int, bop_sub_int, cop_lt_int, cop_gt_int, cop_le_int, cop_ge_int, cop_eq_int, cop_ne_int, atI_c0, atI_c1, atI_c2, atI_c3, if_true, Bool.false_eq_true, if_false, ↓reduceIte, Bool.not_true, Bool.not_false, g4, c1', decide_eq_false cA.2]
    rw [xnext s1]
    by_cases cB : k = 1
    · refine ⟨Q.take a.toNat ++ Q.drop (a + 1).toNat, N3.set M0.length .dead, ?_, fun r hr => ?_, by rw [List.length_append, List.length_take, List.length_drop]; omega, r3.dead⟩
      · have hcb : cutD (Q.map d4) (some (a + 1)) none = (Q.drop (a + 1).toNat).map d4 := by rw [cutD_from _ (by omega), List.map_drop]
        have hadd : bop .add (.list ((Q.take a.toNat).map d4)) (.list ((Q.drop (a + 1).toNat).map d4)) = some (.list ((Q.take a.toNat ++ Q.drop (a + 1).toNat).map d4)) := by
          rw [bop_add_list (by simp only [List.length_map, List.length_take, List.length_drop]; unfold LINE; omega), List.map_append]
        simp only [e_var, e_non, e_bl, e_int, e_str, e_bin, e_neg, e_not, e_and, e_or, e_cmp, e_chain, e_isN, e_ife, e_tup, e_lst, e_dct, e_idx, e_slc, e_blt, e_isi, e_fld, e_app, e_ext, e_idxof, e_dget, e_nil, e_cons, x_setv, x_sett, x_setp, x_seti, x_seti2, x_augi, x_setf, x_exp, x_ret, x_ife, x_frz, x_retN, x_pass, x_cont, x_nil, x_cons, getD_list, getD_tup, rd_int, rd_bl, rd_non, rd_str, rd_list, rd_tup, rd_fz, rd_dict, len_list, len_tup, abs_int, min2_int, max2_int, int_int, list_list, list_tup, mk_f, mk_t, truth_bl', truth_int', truth_list', tst_some, line0, line1, line2, line3, line4, line5, line6, line7, line8, asg, optC, optD, optI, isAbs, src_list, src_tup, src_enum, setI, body1, wipeE, List.map_cons, List.map_nil, List.length_cons, List.length_nil, List.replicate, List.cons_append, List.nil_append, List.getElem?_cons_zero, List.getElem?_cons_succ, List.set_cons_zero, List.set_cons_succ, Nat.reduceAdd, Nat.reduceSub, bop_add_int, bop_sub_int, cop_lt_int, cop_gt_int, cop_le_int, cop_ge_int, cop_eq_int, cop_ne_int, atI_c0, atI_c1, atI_c2, atI_c3, if_true, Bool.false_eq_true, if_false, ↓reduceIte, Bool.not_true, Bool.not_false, decide_eq_true cB, hrow, hca, hcb, hadd]
      · rcases List.mem_append.mp hr with z | z
        · exact (hQ r (List.mem_of_mem_take z)).good
        · exact (hQ r (List.mem_of_mem_drop z)).good
    · have s2 : exec (run fns cls (n + 1)) cls (.ife (.cmp .eq (.var 2) (.int 1)) (.cons (.frz 1) (.cons (.ret (.bin false .add (.slc false (.var 1) .absent (.var 3)) (.slc false (.var 1) (.bin false .add (.var 3) (.int 1)) .absent))) .nil)) .nil)
          [some (.loc s), some (.loc M0.length), some (.int k), some (.int a), some (.int b)] N3 = some (.next, [some (.loc s), some (.loc M0.length), some (.int k), some (.int a), some (.int b)], N3) := by
        simp only [e_var, e_non, e_bl, e_int, e_str, e_bin, e_neg, e_not, e_and, e_or, e_cmp, e_chain, e_isN, e_ife, e_tup, e_lst, e_dct, e_idx, e_slc, e_blt, e_isi, e_fld, e_app, e_ext, e_idxof, e_dget, e_nil, e_cons, x_setv, x_sett, x_setp, x_seti, x_seti2, x_augi, x_setf, x_exp, x_ret, x_ife, x_frz, x_retN, x_pass, x_cont, x_nil, x_cons, getD_list, getD_tup, rd_int, rd_bl, rd_non, rd_str, rd_list, rd_tup, rd_fz, rd_dict, len_list, len_tup, abs_int, min2_int, max2_int, int_int, list_list, list_tup, mk_f, mk_t, truth_bl', truth_int', truth_list', tst_some, line0, line1, line2, line3, line4, line5, line6, line7, line8, asg, optC, optD, optI, isAbs, src_list, src_tup, src_enum, setI, body1, wipeE, List.map_cons, List.map_nil, List.length_cons, List.length_nil, List.replicate, List.cons_append, List.nil_append, List.getElem?_cons_zero, List.getElem?_cons_succ, List.set_cons_zero, List.set_cons_succ, Nat.reduceAdd, Nat.reduceSub, bop_add_int, bop_sub_int, cop_lt_int, cop_gt_int, cop_le_int, cop_ge_int, cop_eq_int, cop_ne_int, atI_c0, atI_c1, atI_c2, atI_c3, if_true, Bool.false_eq_true, if_false, ↓reduceIte, Bool.not_true, Bool.not_false, decide_eq_false cB]
      rw [xnext s2]
      suffices h3 : ∃ (L' : Nat) (Q4 : List T4) (N4 : Sto), exec (run fns cls (n + 1)) cls b3 [some (.loc s), some (.loc M0.length), some (.int k), some (.int a), some (.int b)] N3 = some (.next, [some (.loc s), some (.loc L'), some (.int k), some (.int a), some (.int b)], N4) ∧ RQ M0 N4 L' Q4 s c ∧ (∀ r ∈ Q4, G6 r) ∧ Q4.length ≤ 101 by
        obtain ⟨L', Q4, N4, e4, r4, g6, l4⟩ := h3
        obtain ⟨Q5, env', N5, e5, pm, lf⟩ := tail_run (n := n) (x2 := some (.int k)) (x3 := some (.int a)) (x4 := some (.int b)) r4
        refine ⟨Q5, N5, ?_, fun r hr => (g6 r (pm.mem_iff.mp hr)).good, by rw [pm.length_eq]; omega, lf⟩
        rw [xnext e4, e5]
      have hix : L2.ixN (Q.map d4).length a = some a.toNat := by
        rw [List.length_map]
        exact ixN_of a0 (by omega)
      have hixb : L2.ixN (Q.map d4).length b = some b.toNat := by
        rw [List.length_map]
        exact ixN_of b0 (by omega)
      have hd4 : ∀ (N : Sto) (r : T4), rd N (d4 r) = .tup [.int r.1, .int r.2.1, .int r.2.2.1, .int r.2.2.2] := fun _ _ => rfl
      have ra : G6 Q[a.toNat] := hQ _ (List.getElem_mem ka)
      have rb : G6 Q[b.toNat] := hQ _ (List.getElem_mem kb)
      have tadd : ∀ x y z w : Int, bop .add (.tup [.int x, .int y, .int z]) (.tup [.int w]) = some (d4 (x, y, z, w)) := fun _ _ _ _ => rfl
      have mset : ∀ (X : List T4) (j : Nat) (r : T4), (X.map d4).set j (d4 r) = (X.set j r).map d4 := fun X j r => (List.map_set).symm
      have gset : ∀ (X : List T4) (j : Nat) (r : T4), (∀ q ∈ X, G6 q) → G6 r → ∀ q ∈ X.set j r, G6 q := fun X j r hX hr q hq => (List.mem_or_eq_of_mem_set hq).elim (hX q) fun z => z ▸ hr
      by_cases c2 : k = 2
      · obtain ⟨v, N4, e4, v0, v1, r4⟩ := r3.take (n := n) (m := 2) (by decide) (by decide)
        have hrow4 := r4.row
        have hv : ∃ w : Int, L2.atI [D.int 1, D.int (0 - 1)] v = some (.int w) := by
          rcases (show v = 0 ∨ v = 1 by omega) with z | z
          · subst z; exact ⟨1, rfl⟩
          · subst z; exact ⟨0 - 1, rfl⟩
        obtain ⟨w, hw⟩ := hv
        refine ⟨M0.length, Q.set a.toNat (Q[a.toNat].1, Q[a.toNat].2.1, Q[a.toNat].2.2.1, Q[a.toNat].2.2.2 + w), _, ?_, r4.set _, gset _ _ _ hQ ra, by rw [List.length_set]; omega⟩
        unfold b3
        simp only [e_var, e_non, e_bl, e_int, e_str, e_bin, e_neg, e_not, e_and, e_or, e_cmp, e_chain, e_isN, e_ife, e_tup, e_lst, e_dct, e_idx, e_slc, e_blt, e_isi, e_fld, e_app, e_ext, e_idxof, e_dget, e_nil, e_cons, x_setv, x_sett, x_setp, x_seti, x_seti2, x_augi, x_setf, x_exp, x_ret, x_ife, x_frz, x_retN, x_pass, x_cont, x_nil, x_cons, getD_list, getD_tup, rd_int, rd_bl, rd_non, rd_str, rd_list, rd_tup, rd_fz, rd_dict, len_list, len_tup, abs_int, min2_int, max2_int, int_int, list_list, list_tup, mk_f, mk_t, truth_bl', truth_int', truth_list', tst_some, line0, line1, line2, line3, line4, line5, line6, line7, line8, asg, optC, optD, optI, isAbs, src_list, src_tup, src_enum, setI, body1, wipeE, List.map_cons, List.map_nil, List.length_cons, List.length_nil, List.replicate, List.cons_append, List.nil_append, List.getElem?_cons_zero, List.getElem?_cons_succ, List.set_cons_zero, List.set_cons_succ, Nat.reduceAdd, Nat.reduceSub, bop_add_int, bop_sub_int, cop_lt_int, cop_gt_int, cop_le_int, cop_ge_int, cop_eq_int, cop_ne_int, atI_c0, atI_c1, atI_c2, atI_c3, if_true, Bool.false_eq_true, if_false, ↓reduceIte, Bool.not_true, Bool.not_false, decide_eq_true c2, g4, hat, hd4, cutD_3, e_call, e4, hw, tadd, hrow4, hix, mset]
      · by_cases c3 : k = 3
        · have hcc : cutD (Q.map d4) (some a) none = (Q.drop a.toNat).map d4 := by rw [cutD_from _ a0, List.map_drop]
          have h1 : bop .add (.list ((Q.take a.toNat).map d4)) (.list [d4 Q[a.toNat]]) = some (.list ((Q.take a.toNat ++ [Q[a.toNat]]).map d4)) := by
            rw [bop_add_list (by simp only [List.length_map, List.length_take, List.length_cons, List.length_nil]; unfold LINE; omega), List.map_append]
            rfl
          have h2 : bop .add (.list ((Q.take a.toNat ++ [Q[a.toNat]]).map d4)) (.list ((Q.drop a.toNat).map d4)) = some (.list ((Q.take a.toNat ++ [Q[a.toNat]] ++ Q.drop a.toNat).map d4)) := by
            rw [bop_add_list (by simp only [List.length_map, List.length_append, List.length_take, List.length_drop, List.length_cons, List.length_nil]; unfold LINE; omega), List.map_append (l₂ := Q.drop a.toNat)]
          refine ⟨N3.length, Q.take a.toNat ++ [Q[a.toNat]] ++ Q.drop a.toNat, _, ?_, r3.app _, fun r hr => ?_, by simp only [List.length_append, List.length_take, List.length_drop, List.length_cons, List.length_nil]; omega⟩
          · unfold b3
            simp only [e_var, e_non, e_bl, e_int, e_str, e_bin, e_neg, e_not, e_and, e_or, e_cmp, e_chain, e_isN, e_ife, e_tup, e_lst, e_dct, e_idx, e_slc, e_blt, e_isi, e_fld, e_app, e_ext, e_idxof, e_dget, e_nil, e_cons, x_setv, x_sett, x_setp, x_seti, x_seti2, x_augi, x_setf, x_exp, x_ret, x_ife, x_frz, x_retN, x_pass, x_cont, x_nil, x_cons, getD_list, getD_tup, rd_int, rd_bl, rd_non, rd_str, rd_list, rd_tup, rd_fz, rd_dict, len_list, len_tup, abs_int, min2_int, max2_int, int_int, list_list, list_tup, mk_f, mk_t, truth_bl', truth_int', truth_list', tst_some, line0, line1, line2, line3, line4, line5, line6, line7, line8, asg, optC, optD, optI, isAbs, src_list, src_tup, src_enum, setI, body1, wipeE, List.map_cons, List.map_nil, List.length_cons, List.length_nil, List.replicate, List.cons_append, List.nil_append, List.getElem?_cons_zero, List.getElem?_cons_succ, List.set_cons_zero, List.set_cons_succ, Nat.reduceAdd, Nat.reduceSub, bop_add_int, bop_sub_int, cop_lt_int, cop_gt_int, cop_le_int, cop_ge_int, cop_eq_int, cop_ne_int, atI_c0, atI_c1, atI_c2, atI_c3, if_true, Bool.false_eq_true, if_false, ↓reduceIte, Bool.not_true, Bool.not_false, decide_eq_false c2, decide_eq_true c3, g4, hat, hca, hcc, h1, h2]
          · rcases List.mem_append.mp hr with z | z
            · rcases List.mem_append.mp z with z | z
              · exact hQ r (List.mem_of_mem_take z)
              · rw [List.mem_singleton] at z
                rw [z]; exact ra
            · exact hQ r (List.mem_of_mem_drop z)
        · by_cases c4 : k = 4
          · have r4 := r3.set (Q.set a.toNat Q[b.toNat])
            have hrow4 := r4.row
            have hixb' : L2.ixN ((Q.set a.toNat Q[b.toNat]).map d4).length b = some b.toNat := by
              rw [List.length_map, List.length_set]
              exact ixN_of b0 (by omega)
            refine ⟨M0.length, (Q.set a.toNat Q[b.toNat]).set b.toNat Q[a.toNat], _, ?_, r4.set _, gset _ _ _ (gset _ _ _ hQ rb) ra, by rw [List.length_set, List.length_set]; omega⟩
            unfold b3
            simp only [e_var, e_non, e_bl, e_int, e_str, e_bin, e_neg, e_not, e_and, e_or, e_cmp, e_chain, e_isN, e_ife, e_tup, e_lst, e_dct, e_idx, e_slc, e_blt, e_isi, e_fld, e_app, e_ext, e_idxof, e_dget, e_nil, e_cons, x_setv, x_sett, x_setp, x_seti, x_seti2, x_augi, x_setf, x_exp, x_ret, x_ife, x_frz, x_retN, x_pass, x_cont, x_nil, x_cons, getD_list, getD_tup, rd_int, rd_bl, rd_non, rd_str, rd_list, rd_tup, rd_fz, rd_dict, len_list, len_tup, abs_int, min2_int, max2_int, int_int, list_list, list_tup, mk_f, mk_t, truth_bl', truth_int', truth_list', tst_some, line0, line1, line2, line3, line4, line5, line6, line7, line8, asg, optC, optD, optI, isAbs, src_list, src_tup, src_enum, setI, body1, wipeE, List.map_cons, List.map_nil, List.length_cons, List.length_nil, List.replicate, List.cons_append, List.nil_append, List.getElem?_cons_zero, List.getElem?_cons_succ, List.set_cons_zero, List.set_cons_succ, Nat.reduceAdd, Nat.reduceSub, bop_add_int, bop_sub_int, cop_lt_int, cop_gt_int, cop_le_int, cop_ge_int, cop_eq_int, cop_ne_int, atI_c0, atI_c1, atI_c2, atI_c3, if_true, Bool.false_eq_true, if_false, ↓reduceIte, Bool.not_true, Bool.not_false, decide_eq_false c2, decide_eq_false c3, decide_eq_true c4, g4, hat, hbt, hrow, hix, mset, hrow4, hixb']
          · by_cases c5 : k = 5
            · refine ⟨M0.length, Q.set a.toNat (Q[a.toNat].1, Q[a.toNat].2.1, Q[b.toNat].2.2.1, Q[a.toNat].2.2.2), _, ?_, r3.set _, gset _ _ _ hQ ⟨ra.1, ra.2.1, rb.2.2⟩, by rw [List.length_set]; omega⟩
              have hn : (.tup [.int Q[a.toNat].1, .int Q[a.toNat].2.1, .int Q[b.toNat].2.2.1, .int Q[a.toNat].2.2.2] : D) = d4 (Q[a.toNat].1, Q[a.toNat].2.1, Q[b.toNat].2.2.1, Q[a.toNat].2.2.2) := rfl
              unfold b3
              simp only [e_var, e_non, e_bl, e_int, e_str, e_bin, e_neg, e_not, e_and, e_or, e_cmp, e_chain, e_isN, e_ife, e_tup, e_lst, e_dct, e_idx, e_slc, e_blt, e_isi, e_fld, e_app, e_ext, e_idxof, e_dget, e_nil, e_cons, x_setv, x_sett, x_setp, x_seti, x_seti2, x_augi, x_setf, x_exp, x_ret, x_ife, x_frz, x_retN, x_pass, x_cont, x_nil, x_cons, getD_list, getD_tup, rd_int, rd_bl, rd_non, rd_str, rd_list, rd_tup, rd_fz, rd_dict, len_list, len_tup, abs_int, min2_int, max2_int, int_int, list_list, list_tup, mk_f, mk_t, truth_bl', truth_int', truth_list', tst_some, line0, line1, line2, line3, line4, line5, line6, line7, line8, asg, optC, optD, optI, isAbs, src_list, src_tup, src_enum, setI, body1, wipeE, List.map_cons, List.map_nil, List.length_cons, List.length_nil, List.replicate, List.cons_append, List.nil_append, List.getElem?_cons_zero, List.getElem?_cons_succ, List.set_cons_zero, List.set_cons_succ, Nat.reduceAdd, Nat.reduceSub, bop_add_int, bop_sub_int, cop_lt_int, cop_gt_int, cop_le_int, cop_ge_int, cop_eq_int, cop_ne_int, atI_c0, atI_c1, atI_c2, atI_c3, if_true, Bool.false_eq_true, if_false, ↓reduceIte, Bool.not_true, Bool.not_false, decide_eq_false c2, decide_eq_false c3, decide_eq_false c4, decide_eq_true c5, g4, hat, hbt, hd4, hrow, hix, hn, mset]
            · have r4 := r3.set (Q.set a.toNat (Q[a.toNat].1, Q[a.toNat].2.1, Q[a.toNat].2.2.1, Q[a.toNat].2.2.2 + 1))
              have hrow4 := r4.row
              have hixb' : L2.ixN ((Q.set a.toNat (Q[a.toNat].1, Q[a.toNat].2.1, Q[a.toNat].2.2.1, Q[a.toNat].2.2.2 + 1)).map d4).length b = some b.toNat := by
                rw [List.length_map, List.length_set]
                exact ixN_of b0 (by omega)
              refine ⟨M0.length, (Q.set a.toNat (Q[a.toNat].1, Q[a.toNat].2.1, Q[a.toNat].2.2.1, Q[a.toNat].2.2.2 + 1)).set b.toNat (Q[b.toNat].1, Q[b.toNat].2.1, Q[b.toNat].2.2.1, Q[b.toNat].2.2.2 - 1), _, ?_, r4.set _, gset _ _ _ (gset _ _ _ hQ ra) rb, by rw [List.length_set, List.length_set]; omega⟩
              unfold b3
              simp only [e_var, e_non, e_bl, e_int, e_str, e_bin, e_neg, e_not, e_and, e_or, e_cmp, e_chain, e_isN, e_ife, e_tup, e_lst, e_dct, e_idx, e_slc, e_blt, e_isi, e_fld, e_app, e_ext, e_idxof, e_dget, e_nil, e_cons, x_setv, x_sett, x_setp, x_seti, x_seti2, x_augi, x_setf, x_exp, x_ret, x_ife, x_frz, x_retN, x_pass, x_cont, x_nil, x_cons, getD_list, getD_tup, rd_int, rd_bl, rd_non, rd_str, rd_list, rd_tup, rd_fz, rd_dict, len_list, len_tup, abs_int, min2_int, max2_int, int_int, list_list, list_tup, mk_f, mk_t, truth_bl', truth_int', truth_list', tst_some, line0, line1, line2, line3, line4, line5, line6, line7, line8, asg, optC, optD, optI, isAbs, src_list, src_tup, src_enum, setI, body1, wipeE, List.map_cons, List.map_nil, List.length_cons, List.length_nil, List.replicate, List.cons_append, List.nil_append, List.getElem?_cons_zero, List.getElem?_cons_succ, List.set_cons_zero, List.set_cons_succ, Nat.reduceAdd, Nat.reduceSub, bop_add_int, bop_sub_int, cop_lt_int, cop_gt_int, cop_le_int, cop_ge_int, cop_eq_int, cop_ne_int, atI_c0, atI_c1, atI_c2, atI_c3, if_true, Bool.false_eq_true, if_false, ↓reduceIte, Bool.not_true, Bool.not_false, decide_eq_false c2, decide_eq_false c3, decide_eq_false c4, decide_eq_false c5, g4, hat, hbt, hd4, cutD_3, tadd, hrow, hix, mset, hrow4, hixb']
end K43

/-! K43v: the law's state. -/
namespace K43
open MP
theorem state_run {n : Nat} {ns : List Int} : ∃ (s c : Nat) (M : Sto), callM (run fns cls (n + 1)) .keep 3 [.fz (ns.map D.int)] [] = some (.loc s, M) ∧ St M s c ∧ Cl M := by
  have hcut : cutD (ns.map D.int) none (some 63) = (ns.take 63).map D.int := by
    rw [cutD_to _ (by decide), List.map_take]
    rfl
  have hc : ∀ M, ev (run fns cls n) cls (.comp true [2] (.nm 2) .seq (.slc false (.var 0) .absent (.int 63)) .absent .absent (.blt false .abs (.cons (.var 2) .nil))) [some (.fz (ns.map D.int)), none, none] M = some (.loc M.length, M ++ [.list (((ns.take 63).map fun i => if i < 0 then -i else i).map D.int)]) := fun M => by
    rw [e_comp]
    simp only [e_var, e_non, e_bl, e_int, e_str, e_bin, e_neg, e_not, e_and, e_or, e_cmp, e_chain, e_isN, e_ife, e_tup, e_lst, e_dct, e_idx, e_slc, e_blt, e_isi, e_fld, e_app, e_ext, e_idxof, e_dget, e_nil, e_cons, x_setv, x_sett, x_setp, x_seti, x_seti2, x_augi, x_setf, x_exp, x_ret, x_ife, x_frz, x_retN, x_pass, x_cont, x_nil, x_cons, getD_list, getD_tup, rd_int, rd_bl, rd_non, rd_str, rd_list, rd_tup, rd_fz, rd_dict, len_list, len_tup, abs_int, min2_int, max2_int, int_int, list_list, list_tup, mk_f, mk_t, truth_bl', truth_int', truth_list', tst_some, line0, line1, line2, line3, line4, line5, line6, line7, line8, asg, optC, optD, optI, isAbs, src_list, src_tup, src_enum, setI, body1, wipeE, List.map_cons, List.map_nil, List.length_cons, List.length_nil, List.replicate, List.cons_append, List.nil_append, List.getElem?_cons_zero, List.getElem?_cons_succ, List.set_cons_zero, List.set_cons_succ, Nat.reduceAdd, Nat.reduceSub, bop_add_int, bop_sub_int, cop_lt_int, cop_gt_int, cop_le_int, cop_ge_int, cop_eq_int, cop_ne_int, atI_c0, atI_c1, atI_c2, atI_c3, if_true, Bool.false_eq_true, if_false, ↓reduceIte, Bool.not_true, Bool.not_false, hcut]
    rw [if_pos (by rw [List.length_map, List.length_take]; unfold LINE; omega), compR_mapT (g := fun i => .int (if i < 0 then -i else i)) fun i _ => ?_]
    · rw [List.map_map]
      rfl
    · simp only [turnF]
      simp only [e_var, e_non, e_bl, e_int, e_str, e_bin, e_neg, e_not, e_and, e_or, e_cmp, e_chain, e_isN, e_ife, e_tup, e_lst, e_dct, e_idx, e_slc, e_blt, e_isi, e_fld, e_app, e_ext, e_idxof, e_dget, e_nil, e_cons, x_setv, x_sett, x_setp, x_seti, x_seti2, x_augi, x_setf, x_exp, x_ret, x_ife, x_frz, x_retN, x_pass, x_cont, x_nil, x_cons, getD_list, getD_tup, rd_int, rd_bl, rd_non, rd_str, rd_list, rd_tup, rd_fz, rd_dict, len_list, len_tup, abs_int, min2_int, max2_int, int_int, list_list, list_tup, mk_f, mk_t, truth_bl', truth_int', truth_list', tst_some, line0, line1, line2, line3, line4, line5, line6, line7, line8, asg, optC, optD, optI, isAbs, src_list, src_tup, src_enum, setI, body1, wipeE, List.map_cons, List.map_nil, List.length_cons, List.length_nil, List.replicate, List.cons_append, List.nil_append, List.getElem?_cons_zero, List.getElem?_cons_succ, List.set_cons_zero, List.set_cons_succ, Nat.reduceAdd, Nat.reduceSub, bop_add_int, bop_sub_int, cop_lt_int, cop_gt_int, cop_le_int, cop_ge_int, cop_eq_int, cop_ne_int, atI_c0, atI_c1, atI_c2, atI_c3, if_true, Bool.false_eq_true, if_false, ↓reduceIte, Bool.not_true, Bool.not_false]
  generalize hcs : (ns.take 63).map (fun i => if i < 0 then -i else i) = cs at hc
  have go : ∀ (r : Option (D × Sto)), run fns cls (n + 1) f_law_state [.fz (ns.map D.int)] [] = r → callM (run fns cls (n + 1)) .keep 3 [.fz (ns.map D.int)] [] = r := fun r h => h
  by_cases h0 : cs = []
  · subst h0
    refine ⟨2, 1, [.list [], .list [.int 0], .list [.int 0, .loc 1]], go _ ?_, ⟨by decide, 0, [0], rfl, rfl, by simp⟩, rfl⟩
    rw [run_full (fn := fns[3]) rfl rfl]
    show body1 (run fns cls n) cls ⟨"_law_state", 1, _, b_law_state, []⟩ _ _ = _
    unfold b_law_state
    have g1 : rd ([MO.list []] : Sto) (.loc 0) = .list [] := rfl
    simp only [e_var, e_non, e_bl, e_int, e_str, e_bin, e_neg, e_not, e_and, e_or, e_cmp, e_chain, e_isN, e_ife, e_tup, e_lst, e_dct, e_idx, e_slc, e_blt, e_isi, e_fld, e_app, e_ext, e_idxof, e_dget, e_nil, e_cons, x_setv, x_sett, x_setp, x_seti, x_seti2, x_augi, x_setf, x_exp, x_ret, x_ife, x_frz, x_retN, x_pass, x_cont, x_nil, x_cons, getD_list, getD_tup, rd_int, rd_bl, rd_non, rd_str, rd_list, rd_tup, rd_fz, rd_dict, len_list, len_tup, abs_int, min2_int, max2_int, int_int, list_list, list_tup, mk_f, mk_t, truth_bl', truth_int', truth_list', tst_some, line0, line1, line2, line3, line4, line5, line6, line7, line8, asg, optC, optD, optI, isAbs, src_list, src_tup, src_enum, setI, body1, wipeE, List.map_cons, List.map_nil, List.length_cons, List.length_nil, List.replicate, List.cons_append, List.nil_append, List.getElem?_cons_zero, List.getElem?_cons_succ, List.set_cons_zero, List.set_cons_succ, Nat.reduceAdd, Nat.reduceSub, bop_add_int, bop_sub_int, cop_lt_int, cop_gt_int, cop_le_int, cop_ge_int, cop_eq_int, cop_ne_int, atI_c0, atI_c1, atI_c2, atI_c3, if_true, Bool.false_eq_true, if_false, ↓reduceIte, Bool.not_true, Bool.not_false, hc, g1, show decide (((0 : Nat) : Int) = 0) = true from rfl]
  · refine ⟨1, 0, [.list (cs.map D.int), .list [.int 0, .loc 0]], go _ ?_, ⟨by decide, 0, cs, rfl, rfl, h0⟩, ?_⟩
    · rw [run_full (fn := fns[3]) rfl rfl]
      show body1 (run fns cls n) cls ⟨"_law_state", 1, _, b_law_state, []⟩ _ _ = _
      unfold b_law_state
      have g1 : rd ([MO.list (cs.map D.int)] : Sto) (.loc 0) = .list (cs.map D.int) := rfl
      have e0 : decide (((cs.map D.int).length : Int) = 0) = false := by
        have := List.length_pos_iff.mpr h0
        exact decide_eq_false (by rw [List.length_map]; omega)
      simp only [e_var, e_non, e_bl, e_int, e_str, e_bin, e_neg, e_not, e_and, e_or, e_cmp, e_chain, e_isN, e_ife, e_tup, e_lst, e_dct, e_idx, e_slc, e_blt, e_isi, e_fld, e_app, e_ext, e_idxof, e_dget, e_nil, e_cons, x_setv, x_sett, x_setp, x_seti, x_seti2, x_augi, x_setf, x_exp, x_ret, x_ife, x_frz, x_retN, x_pass, x_cont, x_nil, x_cons, getD_list, getD_tup, rd_int, rd_bl, rd_non, rd_str, rd_list, rd_tup, rd_fz, rd_dict, len_list, len_tup, abs_int, min2_int, max2_int, int_int, list_list, list_tup, mk_f, mk_t, truth_bl', truth_int', truth_list', tst_some, line0, line1, line2, line3, line4, line5, line6, line7, line8, asg, optC, optD, optI, isAbs, src_list, src_tup, src_enum, setI, body1, wipeE, List.map_cons, List.map_nil, List.length_cons, List.length_nil, List.replicate, List.cons_append, List.nil_append, List.getElem?_cons_zero, List.getElem?_cons_succ, List.set_cons_zero, List.set_cons_succ, Nat.reduceAdd, Nat.reduceSub, bop_add_int, bop_sub_int, cop_lt_int, cop_gt_int, cop_le_int, cop_ge_int, cop_eq_int, cop_ne_int, atI_c0, atI_c1, atI_c2, atI_c3, if_true, Bool.false_eq_true, if_false, ↓reduceIte, Bool.not_true, Bool.not_false, hc, g1, e0]
    · unfold Cl
      simp only [List.all_cons, List.all_nil, Bool.and_true, List.length_cons, List.length_nil, below_ints, Bool.true_and]
      rfl
end K43

/-! K43w: the law, its parts. -/
namespace K43
open MP
def SC (N : Sto) (s c : Nat) : Prop := St N s c ∧ Cl N
theorem SC.take {n : Nat} {N : Sto} {s c : Nat} {m : Int} (h : SC N s c) (h0 : 0 < m) (h1 : m < 1073741824) :
    ∃ v N', callM (run fns cls (n + 1)) .tr 4 [.loc s, .int m] N = some (.int v, N') ∧ 0 ≤ v ∧ v < m ∧ SC N' s c := by
  obtain ⟨v, N', e, v0, v1, st, sm, cl⟩ := take_tr (n := n) h.1 h.2 h0 h1
  exact ⟨v, N', e, v0, v1, st, cl⟩
theorem uses_run {n : Nat} {N : Sto} {s c : Nat} {x0 x2 x3 x4 x5 x6 x7 x8 x9 x10 : Option D} (h : SC N s c) : ∃ (U : List Int) (N' : Sto),
    ev (run fns cls (n + 1)) cls (.comp false [10] (.nm 10) .rng1 (.call .tr 4 (.cons (.var 1) (.cons (.int 7) .nil))) .absent .absent (.bin false .add (.int 1) (.call .tr 4 (.cons (.var 1) (.cons (.idx (.lst false (.cons (.int 4) (.cons (.int 60) (.cons (.int 999999999) .nil)))) (.call .tr 4 (.cons (.var 1) (.cons (.int 3) .nil)))) .nil)))))
      [x0, some (.loc s), x2, x3, x4, x5, x6, x7, x8, x9, x10] N = some (.list (U.map D.int), N') ∧ U.length ≤ 6 ∧ (∀ w ∈ U, 0 < w ∧ w < 1073741824) ∧ SC N' s c := by
  obtain ⟨v, N1, e1, v0, v1, h1⟩ := h.take (n := n) (m := 7) (by decide) (by decide)
  obtain ⟨k, rfl⟩ := Int.eq_ofNat_of_zero_le v0
  obtain ⟨U, N2, e2, hl, hy, h2⟩ := compR_J (f := turnF (run fns cls (n + 1)) cls [10] (.nm 10) .absent (.bin false .add (.int 1) (.call .tr 4 (.cons (.var 1) (.cons (.idx (.lst false (.cons (.int 4) (.cons (.int 60) (.cons (.int 999999999) .nil)))) (.call .tr 4 (.cons (.var 1) (.cons (.int 3) .nil)))) .nil)))) [x0, some (.loc s), x2, x3, x4, x5, x6, x7, x8, x9, x10])
    (e := fun i : Nat => D.int i) (g := D.int) (J := fun N => SC N s c) (Y := fun _ w => 0 < w ∧ w < 1073741824) (l := List.range k) (fun i hi N hN => by
      obtain ⟨j, N1, e, j0, j1, h1⟩ := hN.take (n := n) (m := 3) (by decide) (by decide)
      have hj : ∃ m : Int, L2.atI [D.int 4, D.int 60, D.int 999999999] j = some (.int m) ∧ 0 < m ∧ m < 1073741823 := by
        rcases (show j = 0 ∨ j = 1 ∨ j = 2 by omega) with z | z | z
        · subst z; exact ⟨4, rfl, by decide, by decide⟩
        · subst z; exact ⟨60, rfl, by decide, by decide⟩
        · subst z; exact ⟨999999999, rfl, by decide, by decide⟩
      obtain ⟨m, hm, m0, m1⟩ := hj
      obtain ⟨w, N2, e2, w0, w1, h2⟩ := h1.take (n := n) (m := m) m0 (by omega)
      refine ⟨1 + w, N2, ?_, ⟨by omega, by omega⟩, h2⟩
      simp only [turnF]
      simp only [e_var, e_non, e_bl, e_int, e_str, e_bin, e_neg, e_not, e_and, e_or, e_cmp, e_chain, e_isN, e_ife, e_tup, e_lst, e_dct, e_idx, e_slc, e_blt, e_isi, e_fld, e_app, e_ext, e_idxof, e_dget, e_nil, e_cons, x_setv, x_sett, x_setp, x_seti, x_seti2, x_augi, x_setf, x_exp, x_ret, x_ife, x_frz, x_retN, x_pass, x_cont, x_nil, x_cons, getD_list, getD_tup, rd_int, rd_bl, rd_non, rd_str, rd_list, rd_tup, rd_fz, rd_dict, len_list, len_tup, abs_int, min2_int, max2_int, int_int, list_list, list_tup, mk_f, mk_t, truth_bl', truth_int', truth_list', tst_some, line0, line1, line2, line3, line4, line5, line6, line7, line8, asg, optC, optD, optI, isAbs, src_list, src_tup, src_enum, setI, body1, wipeE, List.map_cons, List.map_nil, List.length_cons, List.length_nil, List.replicate, List.cons_append, List.nil_append, List.getElem?_cons_zero, List.getElem?_cons_succ, List.set_cons_zero, List.set_cons_succ, Nat.reduceAdd, Nat.reduceSub, bop_add_int, bop_sub_int, cop_lt_int, cop_gt_int, cop_le_int, cop_ge_int, cop_eq_int, cop_ne_int, atI_c0, atI_c1, atI_c2, atI_c3, if_true, Bool.false_eq_true, if_false, ↓reduceIte, Bool.not_true, Bool.not_false, e_call, e, hm, e2]) N1 h1
  refine ⟨U, N2, ?_, by rw [hl, List.length_range]; omega, fun w hw => ?_, h2⟩
  · rw [e_compI]
    simp only [e_var, e_non, e_bl, e_int, e_str, e_bin, e_neg, e_not, e_and, e_or, e_cmp, e_chain, e_isN, e_ife, e_tup, e_lst, e_dct, e_idx, e_slc, e_blt, e_isi, e_fld, e_app, e_ext, e_idxof, e_dget, e_nil, e_cons, x_setv, x_sett, x_setp, x_seti, x_seti2, x_augi, x_setf, x_exp, x_ret, x_ife, x_frz, x_retN, x_pass, x_cont, x_nil, x_cons, getD_list, getD_tup, rd_int, rd_bl, rd_non, rd_str, rd_list, rd_tup, rd_fz, rd_dict, len_list, len_tup, abs_int, min2_int, max2_int, int_int, list_list, list_tup, mk_f, mk_t, truth_bl', truth_int', truth_list', tst_some, line0, line1, line2, line3, line4, line5, line6, line7, line8, asg, optC, optD, optI, isAbs, src_list, src_tup, src_enum, setI, body1, wipeE, List.map_cons, List.map_nil, List.length_cons, List.length_nil, List.replicate, List.cons_append, List.nil_append, List.getElem?_cons_zero, List.getElem?_cons_succ, List.set_cons_zero, List.set_cons_succ, Nat.reduceAdd, Nat.reduceSub, bop_add_int, bop_sub_int, cop_lt_int, cop_gt_int, cop_le_int, cop_ge_int, cop_eq_int, cop_ne_int, atI_c0, atI_c1, atI_c2, atI_c3, if_true, Bool.false_eq_true, if_false, ↓reduceIte, Bool.not_true, Bool.not_false, e_call, e1, src_rng1 (n := k) (show k < 2 ^ 62 by omega), e2]
    rw [if_pos (by rw [List.length_map, List.length_range]; unfold LINE; omega)]
  · obtain ⟨i, hi⟩ := List.getElem?_of_mem hw
    have hlt : i < k := by
      have := (List.getElem?_eq_some_iff.mp hi).1
      rw [hl, List.length_range] at this
      exact this
    exact hy i i w (List.getElem?_range hlt) hi
end K43

/-! K43x: what the law compares. -/
namespace K43
open MP
theorem alike_ints (k : List Int) : PySem.W.alikeAll (pdL (k.map D.int)) (pdL (k.map D.int)) = true := by
  rw [pdL_ints]
  exact alikeAll_ints k k
theorem dp_res (w : PySem.Str) (hw : dp (.str w) = 0) (x : Option (List Int)) : dp (resF w x) ≤ 1 ∧ PySem.W.alike (pd (resF w x)) (pd (resF w x)) = true := by
  cases x with
  | none => exact ⟨by show dp .non ≤ 1; rw [dp]; omega, by show PySem.W.alike (pd .non) (pd .non) = true; rw [pd, PySem.W.alike]⟩
  | some p =>
    unfold resF
    constructor
    · rw [dp, dpL, hw]
      have := dpL_le (n := 0) (ds := p.map D.int) fun d hd => by
        obtain ⟨x, _, rfl⟩ := List.mem_map.mp hd
        rw [dp]
        omega
      omega
    · rw [pd, pdL, PySem.W.alike, PySem.W.alikeAll, alike_ints, pd, PySem.W.alike]
      rfl
theorem eq_resT (A B : List T3) (Q : List T4) : cop .ne (resT A B Q) (resT A B Q) = some false := by
  have key : dp (resT A B Q) ≤ 60 ∧ PySem.W.alike (pd (resT A B Q)) (pd (resT A B Q)) = true := by
    have h1 : dp (.str "form") = 0 := by decide +kernel
    have h2 : dp (.str "first") = 0 := by decide +kernel
    have h3 : dp (.str "second") = 0 := by decide +kernel
    unfold resT
    cases formBad Q with
    | some i =>
      constructor
      · have e : ∀ d1 d2 : D, dp (.tup [d1, d2]) = max (dp d1) (max (dp d2) 0) + 1 := fun d1 d2 => by rw [dp, dpL, dpL, dpL]
        show dp (.tup [.str "form", .int i]) ≤ 60
        rw [e, h1, dp_int]
        omega
      · simp only [pd, pdL, PySem.W.alike, PySem.W.alikeAll, Bool.and_self]
    | none =>
      cases e : firstBad A (Q.map p1) with
      | some p =>
        have := dp_res "first" h2 (some p)
        exact ⟨by have := this.1; unfold resF at this; simp only at this ⊢; omega, this.2⟩
      | none =>
        have := dp_res "second" h3 (firstBad B (Q.map p2))
        exact ⟨by have := this.1; simp only; omega, this.2⟩
  simp only [cop]
  rw [eqD_same key.1 key.2]
  rfl
theorem rows_same3 (A : List T3) : dp (.list (A.map d3)) ≤ 2 ∧ PySem.W.alike (pd (.list (A.map d3))) (pd (.list (A.map d3))) = true := by
  have e : A.map d3 = (A.map k3).map kD := by
    rw [List.map_map]
    rfl
  rw [e]
  constructor
  · rw [dp]
    have := dpL_le (n := 1) (ds := (A.map k3).map kD) fun d hd => by
      obtain ⟨k, _, rfl⟩ := List.mem_map.mp hd
      exact dp_k k
    omega
  · rw [pd, PySem.W.alike]
    exact alike_list fun x hx => by
      obtain ⟨k, _, rfl⟩ := List.mem_map.mp hx
      exact alike_k k k
theorem rows_same4 (A : List T4) : dp (.list (A.map d4)) ≤ 2 ∧ PySem.W.alike (pd (.list (A.map d4))) (pd (.list (A.map d4))) = true := by
  have e : A.map d4 = (A.map l4).map kD := by
    rw [List.map_map]
    rfl
  rw [e]
  constructor
  · rw [dp]
    have := dpL_le (n := 1) (ds := (A.map l4).map kD) fun d hd => by
      obtain ⟨k, _, rfl⟩ := List.mem_map.mp hd
      exact dp_k k
    omega
  · rw [pd, PySem.W.alike]
    exact alike_list fun x hx => by
      obtain ⟨k, _, rfl⟩ := List.mem_map.mp hx
      exact alike_k k k
theorem eq_rows (A : List T4) : cop .ne (.list (A.map d4)) (.list (A.map d4)) = some false := by
  have := rows_same4 A
  simp only [cop]
  rw [eqD_same (by omega) this.2]
  rfl
theorem eq_given (A B : List T3) : cop .ne (.tup [.list (A.map d3), .list (B.map d3)]) (.tup [.list (A.map d3), .list (B.map d3)]) = some false := by
  have h1 := rows_same3 A
  have h2 := rows_same3 B
  simp only [cop]
  rw [eqD_same ?_ ?_]
  · rfl
  · simp only [dp, dpL]
    have e1 := h1.1
    have e2 := h2.1
    simp only [dp] at e1 e2
    omega
  · rw [pd, PySem.W.alike]
    exact alike_list fun x hx => by
      rcases List.mem_cons.mp hx with z | z
      · rw [z]; exact h1.2
      · rw [List.mem_singleton] at z
        rw [z]; exact h2.2
end K43

/-! K43y: the law. -/
namespace K43
open MP
theorem bare_resT (A B : List T3) (Q : List T4) : bare (resT A B Q) = true := by
  unfold resT
  cases formBad Q with
  | some i => rfl
  | none =>
    cases e : firstBad A (Q.map p1) with
    | some p => exact bare_res "first" (some p)
    | none => exact bare_res _ _
theorem sel_sum (A : List T3) : ∀ {us : List Int}, us.Nodup → (us.map fun u => (sel A u).length).sum ≤ A.length := by
  induction A with
  | nil =>
    intro us _
    have : (us.map fun u => (sel ([] : List T3) u).length) = us.map fun _ => 0 := List.map_congr_left fun u _ => rfl
    rw [this]
    clear this
    induction us with
    | nil => simp
    | cons x us ih => simpa using ih (by simp_all)
  | cons r A ih =>
    intro us nd
    have key : ∀ vs : List Int, vs.Nodup → (vs.map fun u => (sel (r :: A) u).length).sum ≤ (vs.map fun u => (sel A u).length).sum + (if r.2.1 ∈ vs then 1 else 0) := by
      intro vs nd
      induction vs with
      | nil => simp
      | cons v vs ih2 =>
        rw [List.nodup_cons] at nd
        have := ih2 nd.2
        rw [List.map_cons, List.map_cons, List.sum_cons, List.sum_cons]
        by_cases h : r.2.1 = v
        · have e1 : (sel (r :: A) v).length = (sel A v).length + 1 := by
            unfold sel
            rw [List.filter_cons, if_pos (decide_eq_true h), List.map_cons, List.length_cons]
          have n1 : ¬ r.2.1 ∈ vs := fun z => nd.1 (h ▸ z)
          rw [if_neg n1] at this
          rw [if_pos (List.mem_cons.mpr (.inl h)), e1]
          omega
        · have e1 : (sel (r :: A) v).length = (sel A v).length := by
            unfold sel
            rw [List.filter_cons, if_neg (by simpa using h)]
          rw [e1]
          by_cases hm : r.2.1 ∈ vs
          · rw [if_pos hm] at this
            rw [if_pos (List.mem_cons_of_mem _ hm)]
            omega
          · rw [if_neg hm] at this
            rw [if_neg (fun z => (List.mem_cons.mp z).elim h hm)]
            omega
    have k1 := key us nd
    have k2 := ih nd
    rw [List.length_cons]
    split at k1 <;> omega
theorem found_len {A B : List T3} (hA : Fol A) (hB : Fol B) : (found A B).length ≤ 100 := by
  have h1 := sel_sum A (uses_nodup A)
  have h2 := sel_sum B (uses_nodup A)
  have l1 := hA.len
  have l2 := hB.len
  have key : ∀ us : List Int, (us.flatMap fun u => (JA A B u).map (mk4 u)).length ≤ (us.map fun u => (sel A u).length).sum + (us.map fun u => (sel B u).length).sum := by
    intro us
    induction us with
    | nil => simp
    | cons u us ih =>
      rw [List.flatMap_cons, List.length_append, List.map_cons, List.map_cons, List.sum_cons, List.sum_cons, List.length_map]
      have := joinF_len ((sel A u).length + (sel B u).length) (sel A u) (sel B u)
      unfold JA
      unfold JA at ih
      omega
  have := key (usesOf A)
  rw [found_eq]
  omega
theorem sort4_len (Q : List T4) : (sort4 Q).length = Q.length := (sort4_perm Q).length_eq
theorem below_q (n : Nat) (Q : List T4) : belowL n (Q.map d4) = true := belowL_all fun d hd => by
  obtain ⟨r, _, rfl⟩ := List.mem_map.mp hd
  rfl
theorem fault_bor {n : Nat} {N : Sto} {A B : List T3} {Q : List T4} {t : Nat} (h : OkQ A B Q) (ht : N[t]? = some (.list (Q.map d4))) : callM (run fns cls (n + 3)) .bor 8 [.list (A.map d3), .list (B.map d3), .loc t] N = some (resT A B Q, N) := by
  have e : ([D.list (A.map d3), .list (B.map d3), .loc t].map (rd N)) = [.list (A.map d3), .list (B.map d3), .list (Q.map d4)] := by
    simp only [List.map_cons, List.map_nil, rd_list, rd_loc ht]
  exact call_bor (by rw [e]; simp only [belowL, below_d3, below_d4, Bool.and_self]) (by rw [e]; exact lawfault_run h) (bare_resT A B Q)
theorem pfault_bor {n : Nat} {N : Sto} {A B : List T3} {Q : List T4} {t : Nat} (h : OkQ A B Q) (ht : N[t]? = some (.list (Q.map d4))) : callM (run fns cls (n + 2)) .bor 2 [.list (A.map d3), .list (B.map d3), .loc t] N = some (resT A B Q, N) := by
  have e : ([D.list (A.map d3), .list (B.map d3), .loc t].map (rd N)) = [.list (A.map d3), .list (B.map d3), .list (Q.map d4)] := by
    simp only [List.map_cons, List.map_nil, rd_list, rd_loc ht]
  exact call_bor (by rw [e]; simp only [belowL, below_d3, below_d4, Bool.and_self]) (by rw [e]; exact progfault_run h) (bare_resT A B Q)
theorem fault_borP {n : Nat} {N : Sto} {A B : List T3} {Q : List T4} (h : OkQ A B Q) : callM (run fns cls (n + 3)) .bor 8 [.list (A.map d3), .list (B.map d3), .list (Q.map d4)] N = some (resT A B Q, N) := by
  have e : ([D.list (A.map d3), .list (B.map d3), .list (Q.map d4)].map (rd N)) = [.list (A.map d3), .list (B.map d3), .list (Q.map d4)] := rfl
  exact call_bor (by rw [e]; simp only [belowL, below_d3, below_d4, Bool.and_self]) (by rw [e]; exact lawfault_run h) (bare_resT A B Q)
theorem pfault_borP {n : Nat} {N : Sto} {A B : List T3} {Q : List T4} (h : OkQ A B Q) : callM (run fns cls (n + 2)) .bor 2 [.list (A.map d3), .list (B.map d3), .list (Q.map d4)] N = some (resT A B Q, N) := by
  have e : ([D.list (A.map d3), .list (B.map d3), .list (Q.map d4)].map (rd N)) = [.list (A.map d3), .list (B.map d3), .list (Q.map d4)] := rfl
  exact call_bor (by rw [e]; simp only [belowL, below_d3, below_d4, Bool.and_self]) (by rw [e]; exact progfault_run h) (bare_resT A B Q)
theorem trails_own {n : Nat} {N : Sto} {A B : List T3} (hA : Fol A) (hB : Fol B) : callM (run fns cls (n + 1)) .own 0 [.list (A.map d3), .list (B.map d3)] N = some (.loc N.length, N ++ [.list ((sort4 (found A B)).map d4)]) :=
  call_own (by simp only [belowL, below_d3, Bool.and_self]) (trails_run hA hB) rfl (below_q 0 _)
theorem SC.app {N : Sto} {s c : Nat} (h : SC N s c) {ds : List D} (hd : belowL (N.length + 1) ds = true) : SC (N ++ [.list ds]) s c := ⟨h.1.app _, h.2.app hd⟩
end K43

/-! K43z: the law, walked. -/
namespace K43
open MP
abbrev lB : SB := (.cons (.setv 8 (.call .tr 9 (.cons (.var 1) (.cons (.var 4) .nil)))) (.cons (.setv 9 (.blt false .list (.cons (.var 8) .nil))) (.cons (.ife (.or (.cmp .ne (.call .bor 2 (.cons (.idx (.var 3) (.int 0)) (.cons (.idx (.var 3) (.int 1)) (.cons (.var 8) .nil)))) (.call .bor 8 (.cons (.var 6) (.cons (.var 7) (.cons (.var 8) .nil))))) (.or (.cmp .ne (.var 8) (.var 9)) (.cmp .ne (.var 3) (.tup (.cons (.var 6) (.cons (.var 7) .nil)))))) (.cons (.ret (.bl false)) .nil) .nil) .nil)))
abbrev gv (A B : List T3) : D := .tup [.list (A.map d3), .list (B.map d3)]
theorem turn_run {n : Nat} {N : Sto} {A B : List T3} {s c t : Nat} {Q : List T4} {x0 x2 x5 x8 x9 x10 : Option D} (i : Nat) (hA : Fol A) (hB : Fol B) (h : SC N s c) (ht : N[t]? = some (.list (Q.map d4))) (hQ : ∀ r ∈ Q, G6 r) (hl : Q.length ≤ 100) (ns : t ≠ s) (nc : t ≠ c) :
    ∃ (N' : Sto) (y8 y9 : Option D), turnB (run fns cls (n + 3)) cls (.nm 5) lB (.int (i : Nat)) [x0, some (.loc s), x2, some (gv A B), some (.loc t), x5, some (.list (A.map d3)), some (.list (B.map d3)), x8, x9, x10] N =
      some (.next, [x0, some (.loc s), x2, some (gv A B), some (.loc t), some (.int (i : Nat)), some (.list (A.map d3)), some (.list (B.map d3)), y8, y9, x10], N') ∧ SC N' s c ∧ N'[t]? = some (.list (Q.map d4)) := by
  obtain ⟨Q', N', e, hQ', hl', st, sm, cl⟩ := bent_run (n := n + 1) h.1 h.2 ht hQ hl
  have ok := okq_of hA hB hQ' hl'
  refine ⟨N', some (.list (Q'.map d4)), some (.list (Q'.map d4)), ?_, ⟨st, cl⟩, by rw [sm.2 t ns nc, ht]⟩
  rw [turn_nm]
  have c1 := eq_resT A B Q'
  have c2 := eq_rows Q'
  have c3 := eq_given A B
  have b1 : rd N' (resT A B Q') = resT A B Q' := by
    have := bare_resT A B Q'
    cases hx : resT A B Q' <;> first | rfl | (rw [hx] at this; simp [bare] at this)
  refine (xnext (env1 := [x0, some (.loc s), x2, some (gv A B), some (.loc t), some (.int (i : Nat)), some (.list (A.map d3)), some (.list (B.map d3)), some (.list (Q'.map d4)), x9, x10]) (M1 := N') ?_).trans ?_
  · simp only [e_var, e_non, e_bl, e_int, e_str, e_bin, e_neg, e_not, e_and, e_or, e_cmp, e_chain, e_isN, e_ife, e_tup, e_lst, e_dct, e_idx, e_slc, e_blt, e_isi, e_fld, e_app, e_ext, e_idxof, e_dget, e_nil, e_cons, x_setv, x_sett, x_setp, x_seti, x_seti2, x_augi, x_setf, x_exp, x_ret, x_ife, x_frz, x_retN, x_pass, x_cont, x_nil, x_cons, getD_list, getD_tup, rd_int, rd_bl, rd_non, rd_str, rd_list, rd_tup, rd_fz, rd_dict, len_list, len_tup, abs_int, min2_int, max2_int, int_int, list_list, list_tup, mk_f, mk_t, truth_bl', truth_int', truth_list', tst_some, line0, line1, line2, line3, line4, line5, line6, line7, line8, asg, optC, optD, optI, isAbs, src_list, src_tup, src_enum, setI, body1, wipeE, List.map_cons, List.map_nil, List.length_cons, List.length_nil, List.replicate, List.cons_append, List.nil_append, List.getElem?_cons_zero, List.getElem?_cons_succ, List.set_cons_zero, List.set_cons_succ, Nat.reduceAdd, Nat.reduceSub, bop_add_int, bop_sub_int, cop_lt_int, cop_gt_int, cop_le_int, cop_ge_int, cop_eq_int, cop_ne_int, atI_c0, atI_c1, atI_c2, atI_c3, if_true, Bool.false_eq_true, if_false, ↓reduceIte, Bool.not_true, Bool.not_false, e_call, e]
  refine (xnext (env1 := [x0, some (.loc s), x2, some (gv A B), some (.loc t), some (.int (i : Nat)), some (.list (A.map d3)), some (.list (B.map d3)), some (.list (Q'.map d4)), some (.list (Q'.map d4)), x10]) (M1 := N') ?_).trans ?_
  · simp only [e_var, e_non, e_bl, e_int, e_str, e_bin, e_neg, e_not, e_and, e_or, e_cmp, e_chain, e_isN, e_ife, e_tup, e_lst, e_dct, e_idx, e_slc, e_blt, e_isi, e_fld, e_app, e_ext, e_idxof, e_dget, e_nil, e_cons, x_setv, x_sett, x_setp, x_seti, x_seti2, x_augi, x_setf, x_exp, x_ret, x_ife, x_frz, x_retN, x_pass, x_cont, x_nil, x_cons, getD_list, getD_tup, rd_int, rd_bl, rd_non, rd_str, rd_list, rd_tup, rd_fz, rd_dict, len_list, len_tup, abs_int, min2_int, max2_int, int_int, list_list, list_tup, mk_f, mk_t, truth_bl', truth_int', truth_list', tst_some, line0, line1, line2, line3, line4, line5, line6, line7, line8, asg, optC, optD, optI, isAbs, src_list, src_tup, src_enum, setI, body1, wipeE, List.map_cons, List.map_nil, List.length_cons, List.length_nil, List.replicate, List.cons_append, List.nil_append, List.getElem?_cons_zero, List.getElem?_cons_succ, List.set_cons_zero, List.set_cons_succ, Nat.reduceAdd, Nat.reduceSub, bop_add_int, bop_sub_int, cop_lt_int, cop_gt_int, cop_le_int, cop_ge_int, cop_eq_int, cop_ne_int, atI_c0, atI_c1, atI_c2, atI_c3, if_true, Bool.false_eq_true, if_false, ↓reduceIte, Bool.not_true, Bool.not_false]
  simp only [e_var, e_non, e_bl, e_int, e_str, e_bin, e_neg, e_not, e_and, e_or, e_cmp, e_chain, e_isN, e_ife, e_tup, e_lst, e_dct, e_idx, e_slc, e_blt, e_isi, e_fld, e_app, e_ext, e_idxof, e_dget, e_nil, e_cons, x_setv, x_sett, x_setp, x_seti, x_seti2, x_augi, x_setf, x_exp, x_ret, x_ife, x_frz, x_retN, x_pass, x_cont, x_nil, x_cons, getD_list, getD_tup, rd_int, rd_bl, rd_non, rd_str, rd_list, rd_tup, rd_fz, rd_dict, len_list, len_tup, abs_int, min2_int, max2_int, int_int, list_list, list_tup, mk_f, mk_t, truth_bl', truth_int', truth_list', tst_some, line0, line1, line2, line3, line4, line5, line6, line7, line8, asg, optC, optD, optI, isAbs, src_list, src_tup, src_enum, setI, body1, wipeE, List.map_cons, List.map_nil, List.length_cons, List.length_nil, List.replicate, List.cons_append, List.nil_append, List.getElem?_cons_zero, List.getElem?_cons_succ, List.set_cons_zero, List.set_cons_succ, Nat.reduceAdd, Nat.reduceSub, bop_add_int, bop_sub_int, cop_lt_int, cop_gt_int, cop_le_int, cop_ge_int, cop_eq_int, cop_ne_int, atI_c0, atI_c1, atI_c2, atI_c3, if_true, Bool.false_eq_true, if_false, ↓reduceIte, Bool.not_true, Bool.not_false, e_call, pfault_borP ok, fault_borP ok, b1, c1, c2, c3]
theorem run_law (ns : List Int) (_ : ns.length ≤ 63) : ∃ M, run fns cls (29 + 1) 10 [.fz (ns.map D.int)] [] = some (.bl true, M) := by
  obtain ⟨s, c, M, e0, st0, cl0⟩ := state_run (n := 28) (ns := ns)
  have h0 : SC M s c := ⟨st0, cl0⟩
  obtain ⟨U, N1, e1, hU, hUw, h1⟩ := uses_run (n := 28) (x0 := some (.fz (ns.map D.int))) (x2 := none) (x3 := none) (x4 := none) (x5 := none) (x6 := none) (x7 := none) (x8 := none) (x9 := none) (x10 := none) h0
  obtain ⟨v, N2, e2, v0, v1, h2⟩ := h1.take (n := 28) (m := 6) (by decide) (by decide)
  obtain ⟨a, rfl⟩ := Int.eq_ofNat_of_zero_le v0
  obtain ⟨A, N3, e3, hA, tA, st3, sm3, cl3⟩ := rows_run (n := 27) (many := 1 + a) h2.1 h2.2 (by omega) (by omega) hU hUw
  have h3 : SC N3 s c := ⟨st3, cl3⟩
  obtain ⟨v, N4, e4, v0, v1, h4⟩ := h3.take (n := 28) (m := 6) (by decide) (by decide)
  obtain ⟨b, rfl⟩ := Int.eq_ofNat_of_zero_le v0
  obtain ⟨B, N5, e5, hB, tB, st5, sm5, cl5⟩ := rows_run (n := 27) (many := 1 + b) h4.1 h4.2 (by omega) (by omega) hU hUw
  have h5 : SC N5 s c := ⟨st5, cl5⟩
  have ca : (1 + (a : Int)) = ((1 + a : Nat) : Int) := by omega
  have cb : (1 + (b : Int)) = ((1 + b : Nat) : Int) := by omega
  have hE : EqU A B := fun u => by rw [tA, tB]
  have hG : ∀ r ∈ sort4 (found A B), G6 r := fun r hr => by
    have := found_row hA hB hE r ((sort4_perm _).mem_iff.mp hr)
    exact ⟨this.1, this.2.1, this.2.2.1⟩
  have hlen : (sort4 (found A B)).length ≤ 100 := by rw [sort4_len]; exact found_len hA hB
  have ok := okq_of hA hB (fun r hr => (hG r hr).good) (by omega)
  have hr := trails_right hA hB hE
  -- the told trails
  generalize hQ : sort4 (found A B) = Q at *
  have l5 := h5.1.lt
  have t1 : ∀ N, callM (run fns cls 29) .own 0 [.list (A.map d3), .list (B.map d3)] N = some (.loc N.length, N ++ [.list (Q.map d4)]) := fun N => by rw [← hQ]; exact trails_own hA hB
  have h6 := h5.app (ds := Q.map d4) (below_q _ _)
  have g6 : (N5 ++ [MO.list (Q.map d4)])[N5.length]? = some (.list (Q.map d4)) := by rw [List.getElem?_append_right (Nat.le_refl _), Nat.sub_self]; rfl
  have f6 := fault_bor (n := 26) ok g6
  have p6 := pfault_bor (n := 27) ok g6
  rw [hr] at f6 p6
  have y6 : tyName (N5 ++ [MO.list (Q.map d4)]) (.loc N5.length) = some "list" := by
    simp only [tyName, g6]
  let N7 : Sto := N5 ++ [MO.list (Q.map d4 ++ [.tup [.int 9, .int 9, .int 9, .int 9]])]
  have s7 : (N5 ++ [MO.list (Q.map d4)]).set N5.length (.list (Q.map d4 ++ [.tup [.int 9, .int 9, .int 9, .int 9]])) = N7 := by
    rw [List.set_append_right _ _ (Nat.le_refl _), Nat.sub_self]
    rfl
  have h7 : SC N7 s c := h5.app (by
    have e : Q.map d4 ++ [.tup [.int 9, .int 9, .int 9, .int 9]] = (Q ++ [(9, 9, 9, 9)]).map d4 := by
      rw [List.map_append]; rfl
    rw [e]
    exact below_q _ _)
  have l7 : N7.length = N5.length + 1 := by
    show (N5 ++ [_]).length = _
    rw [List.length_append]; rfl
  have h8 := h7.app (ds := Q.map d4) (below_q _ _)
  have g8 : (N7 ++ [MO.list (Q.map d4)])[N7.length]? = some (.list (Q.map d4)) := by rw [List.getElem?_append_right (Nat.le_refl _), Nat.sub_self]; rfl
  have f8 := fault_bor (n := 26) ok g8
  rw [hr] at f8
  have c3 := eq_given A B
  have loop := forP_fold (f := turnB (run fns cls 29) cls (.nm 5) lB) (e := fun i : Nat => D.int i) (step := fun (_ : Unit) _ => ())
    (J := fun i _ env N => ∃ x5 x8 x9, env = [some (.fz (ns.map D.int)), some (.loc s), some (.list (U.map D.int)), some (gv A B), some (.loc N7.length), x5, some (.list (A.map d3)), some (.list (B.map d3)), x8, x9, none] ∧ SC N s c ∧ N[N7.length]? = some (.list (Q.map d4))) (l := List.range 5)
    (fun i a hi _ env N ⟨x5, x8, x9, he, sc, ht⟩ => by
      subst he
      obtain ⟨N', y8, y9, e, sc', ht'⟩ := turn_run (n := 26) (x0 := some (.fz (ns.map D.int))) (x2 := some (.list (U.map D.int))) (x5 := x5) (x8 := x8) (x9 := x9) (x10 := none) a hA hB sc ht hG hlen (by omega) (by omega)
      exact ⟨.next, _, N', e, .inl rfl, _, _, _, rfl, sc', ht'⟩) ()
      [some (.fz (ns.map D.int)), some (.loc s), some (.list (U.map D.int)), some (gv A B), some (.loc N7.length), none, some (.list (A.map d3)), some (.list (B.map d3)), none, none, none] (N7 ++ [MO.list (Q.map d4)]) ⟨none, none, none, rfl, h8, g8⟩
  obtain ⟨env9, N9, e9, x5, x8, x9, he9, sc9, g9⟩ := loop
  have key : ∃ env' M', exb (run fns cls 29) cls b_law [some (.fz (ns.map D.int)), none, none, none, none, none, none, none, none, none, none] [] = some (.ret (.bl true), env', M') := by
    refine ⟨env9, N9, ?_⟩
    unfold b_law
    refine (xnext (env1 := [some (.fz (ns.map D.int)), some (.loc s), none, none, none, none, none, none, none, none, none]) (M1 := M) ?_).trans ?_
    · simp only [e_var, e_non, e_bl, e_int, e_str, e_bin, e_neg, e_not, e_and, e_or, e_cmp, e_chain, e_isN, e_ife, e_tup, e_lst, e_dct, e_idx, e_slc, e_blt, e_isi, e_fld, e_app, e_ext, e_idxof, e_dget, e_nil, e_cons, x_setv, x_sett, x_setp, x_seti, x_seti2, x_augi, x_setf, x_exp, x_ret, x_ife, x_frz, x_retN, x_pass, x_cont, x_nil, x_cons, getD_list, getD_tup, rd_int, rd_bl, rd_non, rd_str, rd_list, rd_tup, rd_fz, rd_dict, len_list, len_tup, abs_int, min2_int, max2_int, int_int, list_list, list_tup, mk_f, mk_t, truth_bl', truth_int', truth_list', tst_some, line0, line1, line2, line3, line4, line5, line6, line7, line8, asg, optC, optD, optI, isAbs, src_list, src_tup, src_enum, setI, body1, wipeE, List.map_cons, List.map_nil, List.length_cons, List.length_nil, List.replicate, List.cons_append, List.nil_append, List.getElem?_cons_zero, List.getElem?_cons_succ, List.set_cons_zero, List.set_cons_succ, Nat.reduceAdd, Nat.reduceSub, bop_add_int, bop_sub_int, cop_lt_int, cop_gt_int, cop_le_int, cop_ge_int, cop_eq_int, cop_ne_int, atI_c0, atI_c1, atI_c2, atI_c3, if_true, Bool.false_eq_true, if_false, ↓reduceIte, Bool.not_true, Bool.not_false, e_call, e0]
    refine (xnext (env1 := [some (.fz (ns.map D.int)), some (.loc s), some (.list (U.map D.int)), none, none, none, none, none, none, none, none]) (M1 := N1) ?_).trans ?_
    · rw [x_setv, e1]
      rfl
    refine (xnext (env1 := [some (.fz (ns.map D.int)), some (.loc s), some (.list (U.map D.int)), none, none, none, some (.list (A.map d3)), some (.list (B.map d3)), none, none, none]) (M1 := N5) ?_).trans ?_
    · simp only [e_var, e_non, e_bl, e_int, e_str, e_bin, e_neg, e_not, e_and, e_or, e_cmp, e_chain, e_isN, e_ife, e_tup, e_lst, e_dct, e_idx, e_slc, e_blt, e_isi, e_fld, e_app, e_ext, e_idxof, e_dget, e_nil, e_cons, x_setv, x_sett, x_setp, x_seti, x_seti2, x_augi, x_setf, x_exp, x_ret, x_ife, x_frz, x_retN, x_pass, x_cont, x_nil, x_cons, getD_list, getD_tup, rd_int, rd_bl, rd_non, rd_str, rd_list, rd_tup, rd_fz, rd_dict, len_list, len_tup, abs_int, min2_int, max2_int, int_int, list_list, list_tup, mk_f, mk_t, truth_bl', truth_int', truth_list', tst_some, line0, line1, line2, line3, line4, line5, line6, line7, line8, asg, optC, optD, optI, isAbs, src_list, src_tup, src_enum, setI, body1, wipeE, List.map_cons, List.map_nil, List.length_cons, List.length_nil, List.replicate, List.cons_append, List.nil_append, List.getElem?_cons_zero, List.getElem?_cons_succ, List.set_cons_zero, List.set_cons_succ, Nat.reduceAdd, Nat.reduceSub, bop_add_int, bop_sub_int, cop_lt_int, cop_gt_int, cop_le_int, cop_ge_int, cop_eq_int, cop_ne_int, atI_c0, atI_c1, atI_c2, atI_c3, if_true, Bool.false_eq_true, if_false, ↓reduceIte, Bool.not_true, Bool.not_false, e_call, e2, ca, e3, e4, cb, e5]
    refine (xnext (env1 := [some (.fz (ns.map D.int)), some (.loc s), some (.list (U.map D.int)), some (gv A B), none, none, some (.list (A.map d3)), some (.list (B.map d3)), none, none, none]) (M1 := N5) ?_).trans ?_
    · simp only [e_var, e_non, e_bl, e_int, e_str, e_bin, e_neg, e_not, e_and, e_or, e_cmp, e_chain, e_isN, e_ife, e_tup, e_lst, e_dct, e_idx, e_slc, e_blt, e_isi, e_fld, e_app, e_ext, e_idxof, e_dget, e_nil, e_cons, x_setv, x_sett, x_setp, x_seti, x_seti2, x_augi, x_setf, x_exp, x_ret, x_ife, x_frz, x_retN, x_pass, x_cont, x_nil, x_cons, getD_list, getD_tup, rd_int, rd_bl, rd_non, rd_str, rd_list, rd_tup, rd_fz, rd_dict, len_list, len_tup, abs_int, min2_int, max2_int, int_int, list_list, list_tup, mk_f, mk_t, truth_bl', truth_int', truth_list', tst_some, line0, line1, line2, line3, line4, line5, line6, line7, line8, asg, optC, optD, optI, isAbs, src_list, src_tup, src_enum, setI, body1, wipeE, List.map_cons, List.map_nil, List.length_cons, List.length_nil, List.replicate, List.cons_append, List.nil_append, List.getElem?_cons_zero, List.getElem?_cons_succ, List.set_cons_zero, List.set_cons_succ, Nat.reduceAdd, Nat.reduceSub, bop_add_int, bop_sub_int, cop_lt_int, cop_gt_int, cop_le_int, cop_ge_int, cop_eq_int, cop_ne_int, atI_c0, atI_c1, atI_c2, atI_c3, if_true, Bool.false_eq_true, if_false, ↓reduceIte, Bool.not_true, Bool.not_false]
    refine (xnext (env1 := [some (.fz (ns.map D.int)), some (.loc s), some (.list (U.map D.int)), some (gv A B), some (.loc N5.length), none, some (.list (A.map d3)), some (.list (B.map d3)), none, none, none]) (M1 := N5 ++ [MO.list (Q.map d4)]) ?_).trans ?_
    · simp only [e_var, e_non, e_bl, e_int, e_str, e_bin, e_neg, e_not, e_and, e_or, e_cmp, e_chain, e_isN, e_ife, e_tup, e_lst, e_dct, e_idx, e_slc, e_blt, e_isi, e_fld, e_app, e_ext, e_idxof, e_dget, e_nil, e_cons, x_setv, x_sett, x_setp, x_seti, x_seti2, x_augi, x_setf, x_exp, x_ret, x_ife, x_frz, x_retN, x_pass, x_cont, x_nil, x_cons, getD_list, getD_tup, rd_int, rd_bl, rd_non, rd_str, rd_list, rd_tup, rd_fz, rd_dict, len_list, len_tup, abs_int, min2_int, max2_int, int_int, list_list, list_tup, mk_f, mk_t, truth_bl', truth_int', truth_list', tst_some, line0, line1, line2, line3, line4, line5, line6, line7, line8, asg, optC, optD, optI, isAbs, src_list, src_tup, src_enum, setI, body1, wipeE, List.map_cons, List.map_nil, List.length_cons, List.length_nil, List.replicate, List.cons_append, List.nil_append, List.getElem?_cons_zero, List.getElem?_cons_succ, List.set_cons_zero, List.set_cons_succ, Nat.reduceAdd, Nat.reduceSub, bop_add_int, bop_sub_int, cop_lt_int, cop_gt_int, cop_le_int, cop_ge_int, cop_eq_int, cop_ne_int, atI_c0, atI_c1, atI_c2, atI_c3, if_true, Bool.false_eq_true, if_false, ↓reduceIte, Bool.not_true, Bool.not_false, e_call, t1]
    refine (xnext (env1 := [some (.fz (ns.map D.int)), some (.loc s), some (.list (U.map D.int)), some (gv A B), some (.loc N5.length), none, some (.list (A.map d3)), some (.list (B.map d3)), none, none, none]) (M1 := N5 ++ [MO.list (Q.map d4)]) ?_).trans ?_
    · simp only [e_var, e_non, e_bl, e_int, e_str, e_bin, e_neg, e_not, e_and, e_or, e_cmp, e_chain, e_isN, e_ife, e_tup, e_lst, e_dct, e_idx, e_slc, e_blt, e_isi, e_fld, e_app, e_ext, e_idxof, e_dget, e_nil, e_cons, x_setv, x_sett, x_setp, x_seti, x_seti2, x_augi, x_setf, x_exp, x_ret, x_ife, x_frz, x_retN, x_pass, x_cont, x_nil, x_cons, getD_list, getD_tup, rd_int, rd_bl, rd_non, rd_str, rd_list, rd_tup, rd_fz, rd_dict, len_list, len_tup, abs_int, min2_int, max2_int, int_int, list_list, list_tup, mk_f, mk_t, truth_bl', truth_int', truth_list', tst_some, line0, line1, line2, line3, line4, line5, line6, line7, line8, asg, optC, optD, optI, isAbs, src_list, src_tup, src_enum, setI, body1, wipeE, List.map_cons, List.map_nil, List.length_cons, List.length_nil, List.replicate, List.cons_append, List.nil_append, List.getElem?_cons_zero, List.getElem?_cons_succ, List.set_cons_zero, List.set_cons_succ, Nat.reduceAdd, Nat.reduceSub, bop_add_int, bop_sub_int, cop_lt_int, cop_gt_int, cop_le_int, cop_ge_int, cop_eq_int, cop_ne_int, atI_c0, atI_c1, atI_c2, atI_c3, if_true, Bool.false_eq_true, if_false, ↓reduceIte, Bool.not_true, Bool.not_false, e_call, y6, c3, f6, show (["list"] : List String).any (isKind "list") = true from rfl]
    refine (xnext (env1 := [some (.fz (ns.map D.int)), some (.loc s), some (.list (U.map D.int)), some (gv A B), some (.loc N5.length), none, some (.list (A.map d3)), some (.list (B.map d3)), none, none, none]) (M1 := N5 ++ [MO.list (Q.map d4)]) ?_).trans ?_
    · simp only [e_var, e_non, e_bl, e_int, e_str, e_bin, e_neg, e_not, e_and, e_or, e_cmp, e_chain, e_isN, e_ife, e_tup, e_lst, e_dct, e_idx, e_slc, e_blt, e_isi, e_fld, e_app, e_ext, e_idxof, e_dget, e_nil, e_cons, x_setv, x_sett, x_setp, x_seti, x_seti2, x_augi, x_setf, x_exp, x_ret, x_ife, x_frz, x_retN, x_pass, x_cont, x_nil, x_cons, getD_list, getD_tup, rd_int, rd_bl, rd_non, rd_str, rd_list, rd_tup, rd_fz, rd_dict, len_list, len_tup, abs_int, min2_int, max2_int, int_int, list_list, list_tup, mk_f, mk_t, truth_bl', truth_int', truth_list', tst_some, line0, line1, line2, line3, line4, line5, line6, line7, line8, asg, optC, optD, optI, isAbs, src_list, src_tup, src_enum, setI, body1, wipeE, List.map_cons, List.map_nil, List.length_cons, List.length_nil, List.replicate, List.cons_append, List.nil_append, List.getElem?_cons_zero, List.getElem?_cons_succ, List.set_cons_zero, List.set_cons_succ, Nat.reduceAdd, Nat.reduceSub, bop_add_int, bop_sub_int, cop_lt_int, cop_gt_int, cop_le_int, cop_ge_int, cop_eq_int, cop_ne_int, atI_c0, atI_c1, atI_c2, atI_c3, if_true, Bool.false_eq_true, if_false, ↓reduceIte, Bool.not_true, Bool.not_false, e_call, p6]
    refine (xnext (env1 := [some (.fz (ns.map D.int)), some (.loc s), some (.list (U.map D.int)), some (gv A B), some (.loc N5.length), none, some (.list (A.map d3)), some (.list (B.map d3)), none, none, none]) (M1 := N7) ?_).trans ?_
    · simp only [e_var, e_non, e_bl, e_int, e_str, e_bin, e_neg, e_not, e_and, e_or, e_cmp, e_chain, e_isN, e_ife, e_tup, e_lst, e_dct, e_idx, e_slc, e_blt, e_isi, e_fld, e_app, e_ext, e_idxof, e_dget, e_nil, e_cons, x_setv, x_sett, x_setp, x_seti, x_seti2, x_augi, x_setf, x_exp, x_ret, x_ife, x_frz, x_retN, x_pass, x_cont, x_nil, x_cons, getD_list, getD_tup, rd_int, rd_bl, rd_non, rd_str, rd_list, rd_tup, rd_fz, rd_dict, len_list, len_tup, abs_int, min2_int, max2_int, int_int, list_list, list_tup, mk_f, mk_t, truth_bl', truth_int', truth_list', tst_some, line0, line1, line2, line3, line4, line5, line6, line7, line8, asg, optC, optD, optI, isAbs, src_list, src_tup, src_enum, setI, body1, wipeE, List.map_cons, List.map_nil, List.length_cons, List.length_nil, List.replicate, List.cons_append, List.nil_append, List.getElem?_cons_zero, List.getElem?_cons_succ, List.set_cons_zero, List.set_cons_succ, Nat.reduceAdd, Nat.reduceSub, bop_add_int, bop_sub_int, cop_lt_int, cop_gt_int, cop_le_int, cop_ge_int, cop_eq_int, cop_ne_int, atI_c0, atI_c1, atI_c2, atI_c3, if_true, Bool.false_eq_true, if_false, ↓reduceIte, Bool.not_true, Bool.not_false, g6]
      rw [if_pos (by rw [List.length_map]; unfold LINE; omega)]
      simp only [s7]
    refine (xnext (env1 := [some (.fz (ns.map D.int)), some (.loc s), some (.list (U.map D.int)), some (gv A B), some (.loc N7.length), none, some (.list (A.map d3)), some (.list (B.map d3)), none, none, none]) (M1 := N7 ++ [MO.list (Q.map d4)]) ?_).trans ?_
    · simp only [e_var, e_non, e_bl, e_int, e_str, e_bin, e_neg, e_not, e_and, e_or, e_cmp, e_chain, e_isN, e_ife, e_tup, e_lst, e_dct, e_idx, e_slc, e_blt, e_isi, e_fld, e_app, e_ext, e_idxof, e_dget, e_nil, e_cons, x_setv, x_sett, x_setp, x_seti, x_seti2, x_augi, x_setf, x_exp, x_ret, x_ife, x_frz, x_retN, x_pass, x_cont, x_nil, x_cons, getD_list, getD_tup, rd_int, rd_bl, rd_non, rd_str, rd_list, rd_tup, rd_fz, rd_dict, len_list, len_tup, abs_int, min2_int, max2_int, int_int, list_list, list_tup, mk_f, mk_t, truth_bl', truth_int', truth_list', tst_some, line0, line1, line2, line3, line4, line5, line6, line7, line8, asg, optC, optD, optI, isAbs, src_list, src_tup, src_enum, setI, body1, wipeE, List.map_cons, List.map_nil, List.length_cons, List.length_nil, List.replicate, List.cons_append, List.nil_append, List.getElem?_cons_zero, List.getElem?_cons_succ, List.set_cons_zero, List.set_cons_succ, Nat.reduceAdd, Nat.reduceSub, bop_add_int, bop_sub_int, cop_lt_int, cop_gt_int, cop_le_int, cop_ge_int, cop_eq_int, cop_ne_int, atI_c0, atI_c1, atI_c2, atI_c3, if_true, Bool.false_eq_true, if_false, ↓reduceIte, Bool.not_true, Bool.not_false, e_call, t1]
    refine (xnext (env1 := [some (.fz (ns.map D.int)), some (.loc s), some (.list (U.map D.int)), some (gv A B), some (.loc N7.length), none, some (.list (A.map d3)), some (.list (B.map d3)), none, none, none]) (M1 := N7 ++ [MO.list (Q.map d4)]) ?_).trans ?_
    · simp only [e_var, e_non, e_bl, e_int, e_str, e_bin, e_neg, e_not, e_and, e_or, e_cmp, e_chain, e_isN, e_ife, e_tup, e_lst, e_dct, e_idx, e_slc, e_blt, e_isi, e_fld, e_app, e_ext, e_idxof, e_dget, e_nil, e_cons, x_setv, x_sett, x_setp, x_seti, x_seti2, x_augi, x_setf, x_exp, x_ret, x_ife, x_frz, x_retN, x_pass, x_cont, x_nil, x_cons, getD_list, getD_tup, rd_int, rd_bl, rd_non, rd_str, rd_list, rd_tup, rd_fz, rd_dict, len_list, len_tup, abs_int, min2_int, max2_int, int_int, list_list, list_tup, mk_f, mk_t, truth_bl', truth_int', truth_list', tst_some, line0, line1, line2, line3, line4, line5, line6, line7, line8, asg, optC, optD, optI, isAbs, src_list, src_tup, src_enum, setI, body1, wipeE, List.map_cons, List.map_nil, List.length_cons, List.length_nil, List.replicate, List.cons_append, List.nil_append, List.getElem?_cons_zero, List.getElem?_cons_succ, List.set_cons_zero, List.set_cons_succ, Nat.reduceAdd, Nat.reduceSub, bop_add_int, bop_sub_int, cop_lt_int, cop_gt_int, cop_le_int, cop_ge_int, cop_eq_int, cop_ne_int, atI_c0, atI_c1, atI_c2, atI_c3, if_true, Bool.false_eq_true, if_false, ↓reduceIte, Bool.not_true, Bool.not_false, e_call, f8]
    refine (xnext (env1 := env9) (M1 := N9) ?_).trans ?_
    · rw [x_for]
      simp only [e_var, e_non, e_bl, e_int, e_str, e_bin, e_neg, e_not, e_and, e_or, e_cmp, e_chain, e_isN, e_ife, e_tup, e_lst, e_dct, e_idx, e_slc, e_blt, e_isi, e_fld, e_app, e_ext, e_idxof, e_dget, e_nil, e_cons, x_setv, x_sett, x_setp, x_seti, x_seti2, x_augi, x_setf, x_exp, x_ret, x_ife, x_frz, x_retN, x_pass, x_cont, x_nil, x_cons, getD_list, getD_tup, rd_int, rd_bl, rd_non, rd_str, rd_list, rd_tup, rd_fz, rd_dict, len_list, len_tup, abs_int, min2_int, max2_int, int_int, list_list, list_tup, mk_f, mk_t, truth_bl', truth_int', truth_list', tst_some, line0, line1, line2, line3, line4, line5, line6, line7, line8, asg, optC, optD, optI, isAbs, src_list, src_tup, src_enum, setI, body1, wipeE, List.map_cons, List.map_nil, List.length_cons, List.length_nil, List.replicate, List.cons_append, List.nil_append, List.getElem?_cons_zero, List.getElem?_cons_succ, List.set_cons_zero, List.set_cons_succ, Nat.reduceAdd, Nat.reduceSub, bop_add_int, bop_sub_int, cop_lt_int, cop_gt_int, cop_le_int, cop_ge_int, cop_eq_int, cop_ne_int, atI_c0, atI_c1, atI_c2, atI_c3, if_true, Bool.false_eq_true, if_false, ↓reduceIte, Bool.not_true, Bool.not_false, src_rng1 (n := 5) (by decide)]
      exact e9
    simp only [e_var, e_non, e_bl, e_int, e_str, e_bin, e_neg, e_not, e_and, e_or, e_cmp, e_chain, e_isN, e_ife, e_tup, e_lst, e_dct, e_idx, e_slc, e_blt, e_isi, e_fld, e_app, e_ext, e_idxof, e_dget, e_nil, e_cons, x_setv, x_sett, x_setp, x_seti, x_seti2, x_augi, x_setf, x_exp, x_ret, x_ife, x_frz, x_retN, x_pass, x_cont, x_nil, x_cons, getD_list, getD_tup, rd_int, rd_bl, rd_non, rd_str, rd_list, rd_tup, rd_fz, rd_dict, len_list, len_tup, abs_int, min2_int, max2_int, int_int, list_list, list_tup, mk_f, mk_t, truth_bl', truth_int', truth_list', tst_some, line0, line1, line2, line3, line4, line5, line6, line7, line8, asg, optC, optD, optI, isAbs, src_list, src_tup, src_enum, setI, body1, wipeE, List.map_cons, List.map_nil, List.length_cons, List.length_nil, List.replicate, List.cons_append, List.nil_append, List.getElem?_cons_zero, List.getElem?_cons_succ, List.set_cons_zero, List.set_cons_succ, Nat.reduceAdd, Nat.reduceSub, bop_add_int, bop_sub_int, cop_lt_int, cop_gt_int, cop_le_int, cop_ge_int, cop_eq_int, cop_ne_int, atI_c0, atI_c1, atI_c2, atI_c3, if_true, Bool.false_eq_true, if_false, ↓reduceIte, Bool.not_true, Bool.not_false]
  obtain ⟨env', M', e⟩ := key
  refine ⟨M', ?_⟩
  rw [run_full (fn := fns[10]) rfl rfl]
  show body1 (run fns cls 29) cls ⟨"law", 1, _, b_law, []⟩ _ _ = _
  unfold body1
  simp only [List.map_cons, List.map_nil, List.length_cons, List.length_nil, List.replicate, List.cons_append, List.nil_append, Nat.reduceAdd, Nat.reduceSub]
  rw [e]
end K43


open PySem PySem.W PySem.Calls PyProof.Rows
theorem PySem.Challenge.cw_everycoin_k43_trails_holds : PySem.Challenge.rw_everycoin_k43_trails.Holds := by
  w_on; o_law
  refine HandSHeadRun.head_any (r := OpenLaw.row PySem.Challenge.rw_everycoin_k43_trails) (q := view (OpenLaw.row PySem.Challenge.rw_everycoin_k43_trails).prog [12]) (H := K43.hk) (ob := K43.ob) (M := 720) (loose := K43.loose) (d := HandSHeadRun.topDef (OpenLaw.row PySem.Challenge.rw_everycoin_k43_trails).prog 12) (kwd := []) K43.ob_eq
    (by kernel_rfl) (fun s => by kernel_rfl) K43.top_run (by kernel_rfl) (by kernel_rfl) (by kernel_rfl) (by rfl) (by first | assumption | decide +kernel) (by decide +kernel) ⟨rfl, rfl, rfl, rfl, rfl, by decide +kernel⟩ ?hw ?hc
  case hw => w_witness2
  case hc =>
    exact MP.walk_run (l := PySem.Challenge.rw_everycoin_k43_trails) (n := 63) (k := 29) (flaw := 10) (P := K43.P) (sl := K43.sl) (cls := K43.cls) rfl (by decide) (by kernel_rfl) ⟨rfl, by decide, by decide⟩ K43.tab rfl rfl (x := "script") (by kernel_rfl) rfl (by kernel_rfl) rfl K43.run_law
