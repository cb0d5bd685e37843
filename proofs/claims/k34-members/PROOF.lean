import PyProof.Rows.All
import Wide.All
import OpenK.AllK
import Wide.FinOn
import HandS.ForMost
import KE.SortData
import HandS.Deep
import HandS.TupSets
import HandS.TupAny
import HandS.Flow
import HandS.IsInst
import HandS.TupLe
import KE.KTupSum
import HandS.Small
import HandS.Strs
import PyProof.ReprRoads
import HandS.Defaults
import HandS.Codes
import HandS.HeadHook2
import HandS.Head0
import HandS.Head1
import HandS.Head2
import HandS.HeadEnd
import HandS.HeadHook1
import KE.KSortTupAny
import PySem.Challenge.RW_everycoin_k34_members_and_interests
set_option Elab.async false
set_option linter.all false
set_option maxRecDepth 100000
set_option maxHeartbeats 0
/-! MP1: value trees, the store, what they stand for in the abstract heap. -/
namespace MP
open PySem PySem.Spec PyProof.Rows L2

/-- a value tree; loc: a mutable thing of the store -/
inductive D where
  | non | bl (b : Bool) | int (i : Int) | str (x : Str)
  | list (xs : List D) | tup (xs : List D) | dict (kvs : List (Key × D)) | loc (n : Nat) | fz (xs : List D)
  deriving Inhabited

/-- what stands in the store -/
inductive MO where
  | dead
  | list (xs : List D)
  | dK (kvs : List (Key × D))
  | dT (kvs : List (List Key × D))
  | ins (c : Nat) (fs : List (Str × D))
  deriving Inhabited

abbrev Sto := List MO
abbrev Env := List (Option D)

def MO.live : MO → Prop
  | .dead => False
  | _ => True

/-- the live addresses -/
def Lv (ρ : List Addr) (M : Sto) (a : Addr) : Prop := ∃ (n : Nat) (m : MO), ρ[n]? = some a ∧ M[n]? = some m ∧ m.live

/-- a list that the module holds -/
def KL (K : PySem.W.Frag) (a : Addr) (vs : List V) : Prop := SqL K (fun _ => none) a vs
theorem KL.sq {K : PySem.W.Frag} {a : Addr} {vs : List V} (h : KL K a vs) (H : Hp) : SqL K H a vs := by
  rcases h with (h | ⟨o, h⟩) | h
  · cases h
  · cases h
  · exact .inr h
mutual
/-- v stands for the tree, F: addresses that pure things do not have -/
def Rp (K : PySem.W.Frag) (F : Addr → Prop) (ρ : List Addr) (H : Hp) : D → V → Prop
  | .non, v => v = .non
  | .bl b, v => v = .bl b
  | .int i, v => v = .int i
  | .str x, v => v = .str x
  | .list ds, v => ∃ a vs, v = .ref a ∧ H a = some (.lst vs) ∧ ¬ F a ∧ ds.length ≤ sizeLine ∧ RpL K F ρ H ds vs
  | .tup ds, v => ∃ a vs, v = .ref a ∧ SqT K H a vs ∧ ds.length ≤ sizeLine ∧ RpL K F ρ H ds vs
  | .dict kvs, v => ∃ a us, v = .ref a ∧ Rd H a (.dK us) ∧ ¬ F a ∧ RpK K F ρ H kvs us
  | .loc n, v => ∃ a, v = .ref a ∧ ρ[n]? = some a
  | .fz ds, v => ∃ a vs, v = .ref a ∧ (((∃ o, H a = some (.frz o (.lst vs))) ∧ ¬ F a) ∨ KL K a vs) ∧ ds.length ≤ sizeLine ∧ RpL K F ρ H ds vs
def RpL (K : PySem.W.Frag) (F : Addr → Prop) (ρ : List Addr) (H : Hp) : List D → List V → Prop
  | [], vs => vs = []
  | d :: ds, vs => ∃ v r, vs = v :: r ∧ Rp K F ρ H d v ∧ RpL K F ρ H ds r
def RpK (K : PySem.W.Frag) (F : Addr → Prop) (ρ : List Addr) (H : Hp) : List (Key × D) → List (Key × V) → Prop
  | [], us => us = []
  | (k, d) :: r, us => ∃ v q, us = (k, v) :: q ∧ Rp K F ρ H d v ∧ RpK K F ρ H r q
end
def RpT (K : PySem.W.Frag) (F : Addr → Prop) (ρ : List Addr) (H : Hp) : List (List Key × D) → List (List Key × V) → Prop
  | [], us => us = []
  | (k, d) :: r, us => ∃ v q, us = (k, v) :: q ∧ Rp K F ρ H d v ∧ RpT K F ρ H r q
def RpS (K : PySem.W.Frag) (F : Addr → Prop) (ρ : List Addr) (H : Hp) : List (Str × D) → List (Str × V) → Prop
  | [], us => us = []
  | (k, d) :: r, us => ∃ v q, us = (k, v) :: q ∧ Rp K F ρ H d v ∧ RpS K F ρ H r q

/-- going on: what pure things lean on -/
structure On (F : Addr → Prop) (ρ : List Addr) (H : Hp) (F' : Addr → Prop) (ρ' : List Addr) (H' : Hp) : Prop where
  pre : ∀ (n : Nat) (a : Addr), ρ[n]? = some a → ρ'[n]? = some a
  ls : ∀ a vs, H a = some (.lst vs) → ¬ F a → H' a = some (.lst vs) ∧ ¬ F' a
  fz : ∀ a vs, (∃ o, H a = some (.frz o (.lst vs))) → ¬ F a → (∃ o, H' a = some (.frz o (.lst vs))) ∧ ¬ F' a
  dk : ∀ a us, Rd H a (.dK us) → ¬ F a → Rd H' a (.dK us) ∧ ¬ F' a
  tup : ∀ a xs, Rd H a (.tup xs) → Rd H' a (.tup xs)
theorem On.refl {F ρ H} : On F ρ H F ρ H := ⟨fun _ _ h => h, fun _ _ h f => ⟨h, f⟩, fun _ _ h f => ⟨h, f⟩, fun _ _ h f => ⟨h, f⟩, fun _ _ h => h⟩
theorem On.trans {F ρ H F1 ρ1 H1 F2 ρ2 H2} (a : On F ρ H F1 ρ1 H1) (b : On F1 ρ1 H1 F2 ρ2 H2) : On F ρ H F2 ρ2 H2 :=
  ⟨fun n x h => b.pre n x (a.pre n x h), fun x u h f => b.ls x u (a.ls x u h f).1 (a.ls x u h f).2, fun x u h f => b.fz x u (a.fz x u h f).1 (a.fz x u h f).2, fun x u h f => b.dk x u (a.dk x u h f).1 (a.dk x u h f).2, fun x u h => b.tup x u (a.tup x u h)⟩
section
variable {K : PySem.W.Frag} {F F' : Addr → Prop} {ρ ρ' : List Addr} {H H' : Hp}
mutual
theorem Rp.on (o : On F ρ H F' ρ' H') : ∀ (d : D) (v : V), Rp K F ρ H d v → Rp K F' ρ' H' d v
  | .non, v, h => h
  | .bl _, v, h => h
  | .int _, v, h => h
  | .str _, v, h => h
  | .list ds, v, h => by
    obtain ⟨a, vs, e, r, f, z, l⟩ := h
    exact ⟨a, vs, e, (o.ls a _ r f).1, (o.ls a _ r f).2, z, RpL.on o ds vs l⟩
  | .tup ds, v, h => by
    obtain ⟨a, vs, e, r, z, l⟩ := h
    refine ⟨a, vs, e, ?_, z, RpL.on o ds vs l⟩
    rcases r with r | r
    · exact .inl (o.tup a _ r)
    · exact .inr r
  | .dict kvs, v, h => by
    obtain ⟨a, us, e, r, f, l⟩ := h
    exact ⟨a, us, e, (o.dk a _ r f).1, (o.dk a _ r f).2, RpK.on o kvs us l⟩
  | .loc n, v, h => by
    obtain ⟨a, e, r⟩ := h
    exact ⟨a, e, o.pre n a r⟩
  | .fz ds, v, h => by
    obtain ⟨a, vs, e, r, z, l⟩ := h
    exact ⟨a, vs, e, r.imp (fun q => o.fz a _ q.1 q.2) id, z, RpL.on o ds vs l⟩
theorem RpL.on (o : On F ρ H F' ρ' H') : ∀ (ds : List D) (vs : List V), RpL K F ρ H ds vs → RpL K F' ρ' H' ds vs
  | [], vs, h => h
  | d :: ds, vs, h => by
    obtain ⟨v, r, e, h1, h2⟩ := h
    exact ⟨v, r, e, Rp.on o d v h1, RpL.on o ds r h2⟩
theorem RpK.on (o : On F ρ H F' ρ' H') : ∀ (ds : List (Key × D)) (vs : List (Key × V)), RpK K F ρ H ds vs → RpK K F' ρ' H' ds vs
  | [], vs, h => h
  | (k, d) :: ds, vs, h => by
    obtain ⟨v, r, e, h1, h2⟩ := h
    exact ⟨v, r, e, Rp.on o d v h1, RpK.on o ds r h2⟩
end
theorem RpT.on (o : On F ρ H F' ρ' H') : ∀ (ds : List (List Key × D)) (vs : List (List Key × V)), RpT K F ρ H ds vs → RpT K F' ρ' H' ds vs
  | [], vs, h => h
  | (k, d) :: ds, vs, h => by
    obtain ⟨v, r, e, h1, h2⟩ := h
    exact ⟨v, r, e, Rp.on o d v h1, RpT.on o ds r h2⟩
theorem RpS.on (o : On F ρ H F' ρ' H') : ∀ (ds : List (Str × D)) (vs : List (Str × V)), RpS K F ρ H ds vs → RpS K F' ρ' H' ds vs
  | [], vs, h => h
  | (k, d) :: ds, vs, h => by
    obtain ⟨v, r, e, h1, h2⟩ := h
    exact ⟨v, r, e, Rp.on o d v h1, RpS.on o ds r h2⟩
theorem RpL.length : ∀ {ds : List D} {vs : List V}, RpL K F ρ H ds vs → vs.length = ds.length
  | [], vs, h => by
    have e : vs = [] := h
    rw [e]; rfl
  | d :: ds, vs, h => by
    obtain ⟨v, r, e, h1, h2⟩ := h
    rw [e, List.length_cons, List.length_cons, RpL.length h2]
theorem RpL.get : ∀ {ds : List D} {vs : List V} {i : Nat} {d : D}, RpL K F ρ H ds vs → ds[i]? = some d → ∃ v, vs[i]? = some v ∧ Rp K F ρ H d v
  | [], vs, i, d, h, e => by simp at e
  | d :: ds, vs, 0, d', h, e => by
    obtain ⟨v, r, rfl, h1, h2⟩ := h
    have e' : d = d' := by simpa using e
    subst e'
    exact ⟨v, rfl, h1⟩
  | d :: ds, vs, i + 1, d', h, e => by
    obtain ⟨v, r, rfl, h1, h2⟩ := h
    obtain ⟨u, q1, q2⟩ := RpL.get (i := i) h2 (by simpa using e)
    exact ⟨u, by simpa using q1, q2⟩
theorem RpL.append : ∀ {ds es : List D} {vs us : List V}, RpL K F ρ H ds vs → RpL K F ρ H es us → RpL K F ρ H (ds ++ es) (vs ++ us)
  | [], es, vs, us, h, g => by
    have e : vs = [] := h
    rw [e]; exact g
  | d :: ds, es, vs, us, h, g => by
    obtain ⟨v, r, rfl, h1, h2⟩ := h
    exact ⟨v, r ++ us, rfl, h1, RpL.append h2 g⟩
theorem RpL.one {d : D} {v : V} (h : Rp K F ρ H d v) : RpL K F ρ H [d] [v] := ⟨v, [], rfl, h, rfl⟩
theorem RpL.take : ∀ {ds : List D} {vs : List V} (n : Nat), RpL K F ρ H ds vs → RpL K F ρ H (ds.take n) (vs.take n)
  | [], vs, n, h => by
    have e : vs = [] := h
    rw [e, List.take_nil, List.take_nil]; rfl
  | d :: ds, vs, 0, h => rfl
  | d :: ds, vs, n + 1, h => by
    obtain ⟨v, r, rfl, h1, h2⟩ := h
    exact ⟨v, r.take n, rfl, h1, RpL.take n h2⟩
theorem RpL.drop : ∀ {ds : List D} {vs : List V} (n : Nat), RpL K F ρ H ds vs → RpL K F ρ H (ds.drop n) (vs.drop n)
  | [], vs, n, h => by
    have e : vs = [] := h
    rw [e, List.drop_nil, List.drop_nil]; rfl
  | d :: ds, vs, 0, h => h
  | d :: ds, vs, n + 1, h => by
    obtain ⟨v, r, rfl, h1, h2⟩ := h
    exact RpL.drop n h2
theorem RpL.set {d : D} {v : V} (q : Rp K F ρ H d v) : ∀ {ds : List D} {vs : List V} (n : Nat), RpL K F ρ H ds vs → RpL K F ρ H (ds.set n d) (vs.set n v)
  | [], vs, n, h => by
    have e : vs = [] := h
    rw [e]; rfl
  | d' :: ds, vs, 0, h => by
    obtain ⟨u, r, rfl, h1, h2⟩ := h
    exact ⟨v, r, rfl, q, h2⟩
  | d' :: ds, vs, n + 1, h => by
    obtain ⟨u, r, rfl, h1, h2⟩ := h
    exact ⟨u, r.set n v, rfl, h1, RpL.set q n h2⟩
theorem RpL.ints : ∀ {ns : List Int} {vs : List V}, RpL K F ρ H (ns.map D.int) vs → vs = ns.map V.int
  | [], vs, h => h
  | n :: ns, vs, h => by
    obtain ⟨u, r, rfl, h1, h2⟩ := h
    have e : u = V.int n := h1
    rw [e, RpL.ints h2]; rfl
theorem RpL.bls : ∀ {ns : List Bool} {vs : List V}, RpL K F ρ H (ns.map D.bl) vs → vs = ns.map V.bl
  | [], vs, h => h
  | n :: ns, vs, h => by
    obtain ⟨u, r, rfl, h1, h2⟩ := h
    have e : u = V.bl n := h1
    rw [e, RpL.bls h2]; rfl
end

/-- a thing of the store at its address -/
def MOk (K : PySem.W.Frag) (cls : Nat → Option Addr) (F : Addr → Prop) (ρ : List Addr) (H : Hp) (a : Addr) : MO → Prop
  | .dead => True
  | .list ds => ∃ vs, H a = some (.lst vs) ∧ ds.length ≤ sizeLine ∧ RpL K F ρ H ds vs
  | .dK kvs => ∃ us, H a = some (.dK us) ∧ RpK K F ρ H kvs us
  | .dT kvs => ∃ us, H a = some (.dT us) ∧ RpT K F ρ H kvs us
  | .ins c fs => ∃ C dx us, H a = some (.ins C dx us) ∧ cls c = some C ∧ RpS K F ρ H fs us

/-- addresses that pure things do not have: the callers' (G), the live ones -/
def Fb (G : Addr → Prop) (ρ : List Addr) (M : Sto) (a : Addr) : Prop := G a ∨ Lv ρ M a

structure Ok (K : PySem.W.Frag) (cls : Nat → Option Addr) (G : Addr → Prop) (ρ : List Addr) (M : Sto) (H : Hp) : Prop where
  len : ρ.length = M.length
  nd : ρ.Nodup
  trk : ∀ a ∈ ρ, ∃ o, H a = some o
  gt : ∀ a, G a → ∃ o, H a = some o
  gn : ∀ a, G a → a ∉ ρ
  ob : ∀ (n : Nat) (m : MO) (a : Addr), M[n]? = some m → ρ[n]? = some a → MOk K cls (Fb G ρ M) ρ H a m

/-- from a state to a later one -/
structure Ext (ρ : List Addr) (M : Sto) (H : Hp) (ρ' : List Addr) (M' : Sto) (H' : Hp) : Prop where
  pre : ∀ (n : Nat) (a : Addr), ρ[n]? = some a → ρ'[n]? = some a
  keep : ∀ a o, H a = some o → ¬ Lv ρ M a → H' a = some o ∧ ¬ Lv ρ' M' a
section
variable {K : PySem.W.Frag} {cls : Nat → Option Addr} {G : Addr → Prop} {ρ ρ' ρ1 ρ2 : List Addr} {M M' M1 M2 : Sto} {H H' H1 H2 : Hp}
theorem Ext.refl : Ext ρ M H ρ M H := ⟨fun _ _ h => h, fun _ _ h f => ⟨h, f⟩⟩
theorem Ext.trans (a : Ext ρ M H ρ1 M1 H1) (b : Ext ρ1 M1 H1 ρ2 M2 H2) : Ext ρ M H ρ2 M2 H2 :=
  ⟨fun n x h => b.pre n x (a.pre n x h), fun x u h f => b.keep x u (a.keep x u h f).1 (a.keep x u h f).2⟩
theorem Ok.gl (k : Ok K cls G ρ M H) (a : Addr) (g : G a) : ¬ Lv ρ M a := fun ⟨n, m, h1, _⟩ => k.gn a g (List.mem_of_getElem? h1)
/-- a live thing is no tuple -/
theorem Ok.lv (k : Ok K cls G ρ M H) {a : Addr} (l : Lv ρ M a) : ∃ o, H a = some o ∧ (∀ xs, o ≠ .tup xs) ∧ ∀ ob u, o ≠ .frz ob u := by
  obtain ⟨n, m, h1, h2, h3⟩ := l
  have q := k.ob n m a h2 h1
  cases m with
  | dead => exact h3.elim
  | list ds =>
    obtain ⟨vs, e, _⟩ := q
    exact ⟨_, e, (fun _ z => nomatch z), (fun _ _ z => nomatch z)⟩
  | dK ds =>
    obtain ⟨vs, e, _⟩ := q
    exact ⟨_, e, (fun _ z => nomatch z), (fun _ _ z => nomatch z)⟩
  | dT ds =>
    obtain ⟨vs, e, _⟩ := q
    exact ⟨_, e, (fun _ z => nomatch z), (fun _ _ z => nomatch z)⟩
  | ins c fs =>
    obtain ⟨_, _, _, e, _⟩ := q
    exact ⟨_, e, (fun _ z => nomatch z), (fun _ _ z => nomatch z)⟩
theorem Ext.on (k : Ok K cls G ρ M H) (e : Ext ρ M H ρ' M' H') : On (Fb G ρ M) ρ H (Fb G ρ' M') ρ' H' := by
  have rdk : ∀ a u, Rd H a u → ¬ Lv ρ M a → Rd H' a u ∧ ¬ Lv ρ' M' a := fun a u h f => by
    rcases h with h | ⟨o, h⟩
    · exact ⟨.inl (e.keep a _ h f).1, (e.keep a _ h f).2⟩
    · exact ⟨.inr ⟨o, (e.keep a _ h f).1⟩, (e.keep a _ h f).2⟩
  have nf : ∀ a, ¬ Fb G ρ M a → ¬ Lv ρ' M' a → ¬ Fb G ρ' M' a := fun a f l z => z.elim (fun g => f (.inl g)) l
  refine ⟨e.pre, fun a u h f => ?_, fun a u h f => ?_, fun a u h f => ?_, fun a xs h => ?_⟩
  · have q := e.keep a _ h fun l => f (.inr l)
    exact ⟨q.1, nf a f q.2⟩
  · obtain ⟨o, h⟩ := h
    have q := e.keep a _ h fun l => f (.inr l)
    exact ⟨⟨o, q.1⟩, nf a f q.2⟩
  · have q := rdk a _ h fun l => f (.inr l)
    exact ⟨q.1, nf a f q.2⟩
  · refine (rdk a _ h fun l => ?_).1
    obtain ⟨o, e1, e2, e3⟩ := k.lv l
    rcases h with h | ⟨ob, h⟩
    · rw [e1] at h; exact e2 xs (Option.some.inj h)
    · rw [e1] at h; exact e3 _ _ (Option.some.inj h)
end

/-- the slots -/
structure EnvR (K : PySem.W.Frag) (F : Addr → Prop) (ρ : List Addr) (H : Hp) (σ : L2.St) (env : Env) : Prop where
  len : σ.length = env.length
  at_ : ∀ (i : Nat) (d : D), env[i]? = some (some d) → ∃ v, σ[i]? = some (some v) ∧ Rp K F ρ H d v
section
variable {K : PySem.W.Frag} {F F' : Addr → Prop} {ρ ρ' : List Addr} {H H' : Hp} {σ : L2.St} {env : Env}
theorem EnvR.on (o : On F ρ H F' ρ' H') (r : EnvR K F ρ H σ env) : EnvR K F' ρ' H' σ env :=
  ⟨r.len, fun i d h => let ⟨v, e, q⟩ := r.at_ i d h; ⟨v, e, Rp.on o d v q⟩⟩
theorem EnvR.set (r : EnvR K F ρ H σ env) {d : D} {v : V} (q : Rp K F ρ H d v) (i : Nat) : EnvR K F ρ H (σ.set i (some v)) (env.set i (some d)) := by
  refine ⟨by rw [List.length_set, List.length_set]; exact r.len, fun j d' h => ?_⟩
  by_cases hj : i = j
  · subst hj
    by_cases hl : i < env.length
    · rw [List.getElem?_set_self hl] at h
      cases h
      exact ⟨v, by rw [List.getElem?_set_self (by rw [r.len]; exact hl)], q⟩
    · rw [List.getElem?_eq_none (by rw [List.length_set]; omega)] at h
      cases h
  · rw [List.getElem?_set_ne hj] at h
    obtain ⟨u, e, q'⟩ := r.at_ j d' h
    exact ⟨u, by rw [List.getElem?_set_ne hj]; exact e, q'⟩
/-- the block's own slots forgotten -/
def wipeE (env : Env) : List Nat → Env
  | [] => env
  | v :: vs => (wipeE env vs).set v none
theorem wipeE_length (env : Env) : ∀ vs, (wipeE env vs).length = env.length
  | [] => rfl
  | v :: vs => by unfold wipeE; rw [List.length_set, wipeE_length env vs]
theorem EnvR.wipe (r : EnvR K F ρ H σ env) : ∀ vs, EnvR K F ρ H (L2.wipe σ vs) (wipeE env vs)
  | [] => r
  | v :: vs => by
    have ih := EnvR.wipe r vs
    unfold L2.wipe wipeE
    refine ⟨by rw [List.length_set, List.length_set]; exact ih.len, fun j d h => ?_⟩
    by_cases hj : v = j
    · subst hj
      by_cases hl : v < (wipeE env vs).length
      · rw [List.getElem?_set_self hl] at h
        cases h
      · rw [List.getElem?_eq_none (by rw [List.length_set]; omega)] at h
        cases h
    · rw [List.getElem?_set_ne hj] at h
      obtain ⟨u, e, q'⟩ := ih.at_ j d h
      exact ⟨u, by rw [List.getElem?_set_ne hj]; exact e, q'⟩
end
end MP

/-! MP2: a small syntax and its evaluator. -/
namespace MP
open PySem PySem.Spec PyProof.Rows L2

inductive BO where
  | add | sub | mul | fdiv | mod | xor | pow
  deriving DecidableEq
inductive CO where
  | eq | ne | lt | le | gt | ge | inn | nin
  deriving DecidableEq
inductive Blt where
  | len | abs | min | max | min2 | max2 | sum | any | all | sorted | srtset | lenset | list | tuple | int | dict | repr | rng1 | rng2
  deriving DecidableEq
inductive IK where
  | seq | rng1 | rng2 | enum | zip | keys
  deriving DecidableEq
/-- how a def is called: on pure arguments alone; the same, its list stays a place of the store; the same of what lists of the store hold now, giving no list; what it made is dropped behind it; as it is -/
inductive CM where
  | pure | own | bor | tr | keep
  deriving DecidableEq
inductive T where
  | nm (i : Nat)
  | tp (is : List Nat)
  deriving DecidableEq
mutual
inductive E where
  | absent
  | var (i : Nat) | non | bl (b : Bool) | int (k : Int) | str (x : Str)
  | bin (mu : Bool) (o : BO) (a b : E) | neg (a : E) | not (a : E) | and (a b : E) | or (a b : E)
  | cmp (o : CO) (a b : E) | chain (o p : CO) (a b c : E) | isN (ng : Bool) (a : E) | ife (c a b : E)
  | tup (es : EL) | lst (mu : Bool) (es : EL) | dct (mu : Bool) (ks : List Str) (es : EL)
  | idx (a i : E) | slc (mu : Bool) (a lo hi : E)
  | blt (mu : Bool) (b : Blt) (es : EL)
  | isi (a : E) (tys : List String) (many : Bool)
  | call (m : CM) (f : Nat) (es : EL) | new (c : Nat) (es : EL) | meth (m : CM) (f : Nat) (o : E) (es : EL)
  | fld (a : E) (f : Str)
  | app (a e : E) | ext (a e : E) | idxof (a e : E) | dget (a k d : E)
  | comp (mu : Bool) (own : List Nat) (t : T) (k : IK) (a b c e : E)
inductive EL where
  | nil
  | cons (e : E) (es : EL)
end
mutual
inductive S where
  | setv (i : Nat) (e : E) | sett (is : List Nat) (e : E) | setp (i j : Nat) (a b : E)
  | seti (a i e : E) | seti2 (a i b j e g : E) | augi (a i : E) (o : BO) (e : E) | setf (a : E) (f : Str) (e : E)
  | exp (e : E) | ret (e : E) | retN
  | ife (c : E) (p q : SB) | for_ (t : T) (k : IK) (a b : E) (body : SB) | whl (c : E) (body : SB)
  | pass | cont | frz (i : Nat)
inductive SB where
  | nil
  | cons (s : S) (r : SB)
end
instance : Inhabited E := ⟨.absent⟩
instance : Inhabited SB := ⟨.nil⟩

/-! ### what values do -/
mutual
def pd : D → PyData
  | .non => .none
  | .bl b => .bool b
  | .int i => .int i
  | .str x => .str x
  | .list xs => .list (pdL xs)
  | .tup xs => .tuple (pdL xs)
  | .dict _ => .dict []
  | .loc _ => .dict []
  | .fz _ => .dict []
def pdL : List D → List PyData
  | [] => []
  | d :: ds => pd d :: pdL ds
end
/-- a key as data -/
def keyD : Key → D
  | .inl i => .int i
  | .inr x => .str x
def keyP : Key → PyData
  | .inl i => .int i
  | .inr x => .str x
mutual
/-- data, dicts too -/
def pdR : D → PyData
  | .non => .none
  | .bl b => .bool b
  | .int i => .int i
  | .str x => .str x
  | .list xs => .list (pdRL xs)
  | .tup xs => .tuple (pdRL xs)
  | .dict kvs => .dict (pdRK kvs)
  | .loc _ => .none
  | .fz _ => .none
def pdRL : List D → List PyData
  | [] => []
  | d :: ds => pdR d :: pdRL ds
def pdRK : List (Key × D) → List (PyData × PyData)
  | [] => []
  | (k, d) :: r => (keyP k, pdR d) :: pdRK r
end
mutual
/-- nothing of the store in it -/
def plainR : D → Bool
  | .loc _ => false
  | .fz _ => false
  | .list xs => plainRL xs
  | .tup xs => plainRL xs
  | .dict kvs => plainRK kvs
  | _ => true
def plainRL : List D → Bool
  | [] => true
  | d :: ds => plainR d && plainRL ds
def plainRK : List (Key × D) → Bool
  | [] => true
  | (_, d) :: r => plainR d && plainRK r
end
mutual
/-- depth; 100 for what is no plain data -/
def dp : D → Nat
  | .non => 0
  | .bl _ => 0
  | .int _ => 0
  | .str x => if PyData.strOk x then 0 else 100
  | .list xs => dpL xs + 1
  | .tup xs => dpL xs + 1
  | .dict _ => 100
  | .loc _ => 100
  | .fz _ => 100
def dpL : List D → Nat
  | [] => 0
  | d :: ds => max (dp d) (dpL ds)
end
mutual
/-- all places of the store that are named lie below n -/
def below (n : Nat) : D → Bool
  | .non => true
  | .bl _ => true
  | .int _ => true
  | .str _ => true
  | .list xs => belowL n xs
  | .tup xs => belowL n xs
  | .dict kvs => belowK n kvs
  | .loc m => decide (m < n)
  | .fz xs => belowL n xs
def belowL (n : Nat) : List D → Bool
  | [] => true
  | d :: ds => below n d && belowL n ds
def belowK (n : Nat) : List (Key × D) → Bool
  | [] => true
  | (_, d) :: ds => below n d && belowK n ds
end
def belowT (n : Nat) : List (List Key × D) → Bool
  | [] => true
  | (_, d) :: ds => below n d && belowT n ds
def belowS (n : Nat) : List (Str × D) → Bool
  | [] => true
  | (_, d) :: ds => below n d && belowS n ds
def belowM (n : Nat) : MO → Bool
  | .dead => true
  | .list xs => belowL n xs
  | .dK kvs => belowK n kvs
  | .dT kvs => belowT n kvs
  | .ins _ fs => belowS n fs

mutual
/-- no list, no dict, no place -/
def bare : D → Bool
  | .non => true
  | .bl _ => true
  | .int _ => true
  | .str _ => true
  | .list _ => false
  | .tup xs => bareL xs
  | .dict _ => false
  | .loc _ => false
  | .fz _ => false
def bareL : List D → Bool
  | [] => true
  | d :: ds => bare d && bareL ds
end
/-- a kind's name -/
def tyName (M : Sto) : D → Option String
  | .non => some "NoneType"
  | .bl _ => some "bool"
  | .int _ => some "int"
  | .str _ => some "str"
  | .list _ => some "list"
  | .tup _ => some "tuple"
  | .dict _ => some "dict"
  | .loc n => match M[n]? with
    | some (.list _) => some "list"
    | some (.dK _) => some "dict"
    | _ => none
  | .fz _ => none
def isKind (t u : String) : Bool := t == u || (t == "bool" && u == "int")
/-- what is read of a thing of the store -/
def rd (M : Sto) : D → D
  | .loc n => match M[n]? with
    | some (.list xs) => .list xs
    | some (.dK kvs) => .dict kvs
    | _ => .loc n
  | d => d
def LINE : Nat := 16777216

def bop : BO → D → D → Option D
  | .add, .int i, .int j => some (.int (i + j))
  | .add, .list xs, .list ys => if xs.length + ys.length ≤ LINE then some (.list (xs ++ ys)) else none
  | .add, .tup xs, .tup ys => if xs.length + ys.length ≤ LINE then some (.tup (xs ++ ys)) else none
  | .sub, .int i, .int j => some (.int (i - j))
  | .mul, .int i, .int j => if i.natAbs < 2 ^ 64 ∨ j.natAbs < 2 ^ 64 then some (.int (i * j)) else none
  | .mul, .list xs, .int k => if 0 ≤ k ∧ k ≤ LINE ∧ xs.length * k.toNat ≤ LINE then some (.list (List.replicate k.toNat xs).flatten) else none
  | .fdiv, .int i, .int j => if 0 < j ∧ j.natAbs < 1073741824 then some (.int (i / j)) else none
  | .mod, .int i, .int j => if 0 < j then some (.int (i % j)) else none
  | .xor, .int i, .int j => some (.int (Builtin.bitXor i j))
  | .pow, .int i, .int j => if 0 ≤ j ∧ j ≤ 1000 ∧ i.natAbs < 2 ^ 64 then some (.int (i ^ j.toNat)) else none
  | _, _, _ => none
/-- two texts -/
def strs2 : D → D → Option Bool
  | .str x, .str y => some (decide (x = y))
  | _, _ => none
def eqD (a b : D) : Option Bool := if dp a ≤ 60 ∧ dp b ≤ 60 then some (PyData.eqv (pd a) (pd b)) else strs2 a b
def lessD (a b : D) : Bool := W.dataLt (pd a) (pd b)
def isOrd : D → Bool
  | .int _ => true
  | .str _ => true
  | .tup _ => true
  | _ => false
def atom : D → Bool
  | .int _ => true
  | .str _ => true
  | _ => false
def flat1 : D → Bool
  | .int _ => true
  | .str _ => true
  | .tup xs => xs.all atom
  | _ => false
def cmpOk (a b : D) : Bool := W.alike (pd a) (pd b) && isOrd a && decide (dp a ≤ 60 ∧ dp b ≤ 60)
def flatOk (a b : D) : Bool := cmpOk a b && flat1 a && flat1 b
def memD (x : D) (ys : List D) : Option Bool := if dp x ≤ 60 ∧ dpL ys ≤ 60 then some (ys.any fun z => PyData.eqv (pd z) (pd x)) else none
def cop : CO → D → D → Option Bool
  | .eq, a, b => eqD a b
  | .ne, a, b => (eqD a b).map (!·)
  | .lt, a, b => if cmpOk a b then some (lessD a b) else none
  | .gt, a, b => if flatOk a b then some (lessD b a) else none
  | .le, a, b => if flatOk a b then some (!lessD b a) else none
  | .ge, a, b => if flatOk a b then some (!lessD a b) else none
  | .inn, x, .list ys => memD x ys
  | .inn, x, .tup ys => memD x ys
  | .nin, x, .list ys => (memD x ys).map (!·)
  | .nin, x, .tup ys => (memD x ys).map (!·)
  | _, _, _ => none
def truth (M : Sto) (d : D) : Option Bool := match rd M d with
  | .non => some false
  | .bl b => some b
  | .int i => some (i != 0)
  | .list xs => some (!xs.isEmpty)
  | .tup xs => some (!xs.isEmpty)
  | _ => none
def kvAt (k : Key) : List (Key × D) → Option D
  | [] => none
  | (q, d) :: r => if q = k then some d else kvAt k r
def keyOf : D → Option Key
  | .int i => some (.inl i)
  | .str x => some (.inr x)
  | _ => none
def getD_ (a i : D) : Option D := match a, i with
  | .list xs, .int k => atI xs k
  | .tup xs, .int k => atI xs k
  | .dict kvs, k => (keyOf k).bind fun q => kvAt q kvs
  | _, _ => none
def cutD (xs : List D) (lo hi : Option Int) : List D := (xs.drop (HT.sIx xs.length 0 lo)).take (HT.sIx xs.length xs.length hi - HT.sIx xs.length 0 lo)
def intsOf : List D → Option (List Int)
  | [] => some []
  | .int i :: r => (intsOf r).map (i :: ·)
  | _ :: _ => none
def blsOf : List D → Option (List Bool)
  | [] => some []
  | .bl i :: r => (blsOf r).map (i :: ·)
  | _ :: _ => none
def leastI : Int → List Int → Int
  | m, [] => m
  | m, x :: r => leastI (if x < m then x else m) r
def mostI : Int → List Int → Int
  | m, [] => m
  | m, x :: r => mostI (if m < x then x else m) r
def nonTup : D → Bool
  | .non => false
  | .tup _ => false
  | _ => true
def hasItem : D → Bool
  | .tup (_ :: _) => true
  | _ => false
def sortOk (xs : List D) : Bool := (xs.all fun a => xs.all fun b => W.alike (pd a) (pd b)) && (xs.all hasItem || xs.all nonTup) && decide (dpL xs ≤ 60)
def sortD (xs : List D) : List D := xs.mergeSort fun a b => !W.dataLt (pd b) (pd a)
def intsTup : D → Bool
  | .tup xs => (intsOf xs).isSome
  | _ => false
def isStrD : D → Bool
  | .str _ => true
  | _ => false
def isIntD : D → Bool
  | .int _ => true
  | _ => false
/-- each once, by the first -/
def dd {α : Type} [DecidableEq α] : List α → List α
  | [] => []
  | x :: r => x :: (dd r).filter fun y => decide (y ≠ x)
def lexLe : List Int → List Int → Bool
  | [], _ => true
  | _ :: _, [] => false
  | x :: xs, y :: ys => decide (x < y) || (decide (x = y) && lexLe xs ys)
def sortI (ns : List Int) : List Int := ns.mergeSort fun a b => decide (a ≤ b)
def sortK (ks : List (List Int)) : List (List Int) := ks.mergeSort lexLe
def kD (k : List Int) : D := .tup (k.map D.int)
def keysOf : List D → Option (List (List Int))
  | [] => some []
  | .tup xs :: r => match intsOf xs with
    | none => none
    | some k => (keysOf r).map (k :: ·)
  | _ :: _ => none
/-- tuples of one length, of whole numbers from 0 -/
def keysOk (ks : List (List Int)) : Bool := ks.all fun k => decide (k.length = (ks.headD []).length) && decide (0 < k.length) && k.all fun x => decide (0 ≤ x)
def isRefD : D → Bool
  | .list _ => true
  | .tup _ => true
  | .dict _ => true
  | _ => false
def blt1 (b : Blt) (M : Sto) (ds : List D) : Option D := match b, ds with
  | .len, [.list xs] => some (.int xs.length)
  | .len, [.tup xs] => some (.int xs.length)
  | .abs, [.int i] => some (.int (if i < 0 then -i else i))
  | .min2, [.int i, .int j] => some (.int (if j < i then j else i))
  | .max2, [.int i, .int j] => some (.int (if j > i then j else i))
  | .sum, [.list xs] => (intsOf xs).map fun ns => .int ns.sum
  | .sum, [.tup xs] => (intsOf xs).map fun ns => .int ns.sum
  | .min, [.list xs] => (intsOf xs).bind fun ns => match ns with
    | [] => none
    | n :: r => some (.int (leastI n r))
  | .max, [.list xs] => (intsOf xs).bind fun ns => match ns with
    | [] => none
    | n :: r => some (.int (mostI n r))
  | .any, [.list xs] => (blsOf xs).map fun ns => .bl (ns.any id)
  | .all, [.list xs] => (blsOf xs).map fun ns => .bl (ns.all id)
  | .int, [.int i] => some (.int i)
  | .int, [.bl b] => some (.int (if b then 1 else 0))
  | .tuple, [.list xs] => some (.tup xs)
  | .tuple, [.tup xs] => some (.tup xs)
  | .list, [.list xs] => some (.list xs)
  | .list, [.tup xs] => some (.list xs)
  | .sorted, [.list xs] => if sortOk xs then some (.list (sortD xs)) else none
  | .srtset, [.list xs] => match intsOf xs with
    | some ns => if (dd ns).length < 60 ∧ xs.length ≤ 4000 then some (.list ((sortI (dd ns)).map D.int)) else none
    | none => match keysOf xs with
      | some ks => if (dd ks).length < 60 ∧ keysOk ks = true then some (.list ((sortK (dd ks)).map kD)) else none
      | none => none
  | .rng1, [.int j] => if 0 ≤ j ∧ j ≤ LINE then some (.list ((List.range j.toNat).map fun (i : Nat) => D.int i)) else none
  | .repr, [d] => if isRefD d = true ∧ plainR d = true ∧ (pdR d).showable = true ∧ (pdR d).depth ≤ 60 ∧ (pdR d).shown.length ≤ LINE then some (.str (pdR d).shown) else none
  | _, _ => none
/-- a new list, of the store or not -/
def mk (mu : Bool) (d : D) (M : Sto) : Option (D × Sto) := if mu then (match d with
    | .list xs => some (.loc M.length, M ++ [.list xs])
    | .dict kvs => some (.loc M.length, M ++ [.dK kvs])
    | _ => none) else some (d, M)

inductive Src where
  | pure (xs : List D)
  | loc (n k : Nat)
def srcOf (k : IK) (M : Sto) (a b : D) : Option Src := match k, a, b with
  | .seq, .list xs, _ => some (.pure xs)
  | .seq, .tup xs, _ => some (.pure xs)
  | .seq, .loc n, _ => match M[n]? with
    | some (.list xs) => some (.loc n xs.length)
    | _ => none
  | .rng1, .int j, _ => if j.natAbs < 2 ^ 62 then some (.pure ((List.range j.toNat).map fun (i : Nat) => D.int i)) else none
  | .rng2, .int i, .int j => if i.natAbs < 2 ^ 62 ∧ j.natAbs < 2 ^ 62 then some (.pure ((List.range (j - i).toNat).map fun (q : Nat) => D.int (i + q))) else none
  | .enum, .list xs, _ => some (.pure (xs.mapIdx fun i x => D.tup [.int i, x]))
  | .keys, .dict kvs, _ => some (.pure (kvs.map fun kv => keyD kv.1))
  | _, _, _ => none
def asg (t : T) (x : D) (env : Env) : Option Env := match t with
  | .nm i => some (env.set i (some x))
  | .tp is => match x with
    | .tup ds => if ds.length = is.length then some ((is.zip ds).foldl (fun e p => e.set p.1 (some p.2)) env) else none
    | _ => none

def isAbs : E → Bool
  | .absent => true
  | _ => false
/-- a part of a slice -/
def optI (ab : Bool) (M : Sto) (r : Option (D × Sto)) : Option (Option Int × Sto) := if ab then some (none, M) else (match r with
  | some (.int i, M1) => some (some i, M1)
  | _ => none)
/-- a test -/
def tst (r : Option (D × Sto)) : Option (Bool × Sto) := match r with
  | none => none
  | some (x, M1) => match truth M1 x with
    | none => none
    | some b => some (b, M1)
def optC (ab : Bool) (M : Sto) (r : Option (D × Sto)) : Option (Bool × Sto) := if ab then some (true, M) else tst r
def optD (ab : Bool) (M : Sto) (r : Option (D × Sto)) : Option (D × Sto) := if ab then some (.non, M) else r
abbrev FT := Nat → List D → Sto → Option (D × Sto)
/-- a call -/
def callM (F : FT) (m : CM) (f : Nat) (ds : List D) (M : Sto) : Option (D × Sto) := match m with
  | .keep => F f ds M
  | .pure => if belowL 0 ds then (match F f ds [] with
      | some (d, M2) => if below 0 (rd M2 d) then some (rd M2 d, M) else none
      | none => none) else none
  | .own => if belowL 0 ds then (match F f ds [] with
      | some (.loc j, M2) => match M2[j]? with
        | some (.list xs) => if belowL 0 xs then some (.loc M.length, M ++ [.list xs]) else none
        | _ => none
      | _ => none) else none
  | .bor => if belowL 0 (ds.map (rd M)) then (match F f (ds.map (rd M)) [] with
      | some (d, M2) => if bare d then some (d, M) else none
      | none => none) else none
  | .tr => match F f ds M with
      | some (d, M2) => if below M.length d && (M2.take M.length).all (belowM M.length) && decide (M.length ≤ M2.length) then some (d, M2.take M.length) else none
      | none => none
/-- the block's turns -/
def compR (f : D → Sto → Option (Option D × Sto)) : List D → Sto → Option (List D × Sto)
  | [], M => some ([], M)
  | x :: xs, M => match f x M with
    | none => none
    | some (o, M1) => match compR f xs M1 with
      | none => none
      | some (ys, M2) => some ((match o with
        | some y => y :: ys
        | none => ys), M2)

mutual
def ev (F : FT) (cls : Nat → Nat) : E → Env → Sto → Option (D × Sto)
  | .absent, _, _ => none
  | .var i, env, M => match env[i]? with
    | some (some d) => some (d, M)
    | _ => none
  | .non, _, M => some (.non, M)
  | .bl b, _, M => some (.bl b, M)
  | .int k, _, M => some (.int k, M)
  | .str x, _, M => some (.str x, M)
  | .bin mu o a b, env, M => match ev F cls a env M with
    | none => none
    | some (x, M1) => match ev F cls b env M1 with
      | none => none
      | some (y, M2) => match bop o (rd M2 x) (rd M2 y) with
        | none => none
        | some d => mk mu d M2
  | .neg a, env, M => match ev F cls a env M with
    | some (.int i, M1) => some (.int (-i), M1)
    | _ => none
  | .not a, env, M => match ev F cls a env M with
    | none => none
    | some (x, M1) => match truth M1 x with
      | none => none
      | some b => some (.bl (!b), M1)
  | .and a b, env, M => match ev F cls a env M with
    | none => none
    | some (x, M1) => match truth M1 x with
      | none => none
      | some true => ev F cls b env M1
      | some false => some (x, M1)
  | .or a b, env, M => match ev F cls a env M with
    | none => none
    | some (x, M1) => match truth M1 x with
      | none => none
      | some true => some (x, M1)
      | some false => ev F cls b env M1
  | .cmp o a b, env, M => match ev F cls a env M with
    | none => none
    | some (x, M1) => match ev F cls b env M1 with
      | none => none
      | some (y, M2) => match cop o (rd M2 x) (rd M2 y) with
        | none => none
        | some d => some (.bl d, M2)
  | .chain o p a b c, env, M => match ev F cls a env M with
    | none => none
    | some (x, M1) => match ev F cls b env M1 with
      | none => none
      | some (y, M2) => match cop o (rd M2 x) (rd M2 y) with
        | none => none
        | some false => some (.bl false, M2)
        | some true => match ev F cls c env M2 with
          | none => none
          | some (z, M3) => match cop p (rd M3 y) (rd M3 z) with
            | none => none
            | some d => some (.bl d, M3)
  | .isN ng a, env, M => match ev F cls a env M with
    | none => none
    | some (.non, M1) => some (.bl (!ng), M1)
    | some (_, M1) => some (.bl ng, M1)
  | .ife c a b, env, M => match ev F cls c env M with
    | none => none
    | some (x, M1) => match truth M1 x with
      | none => none
      | some true => ev F cls a env M1
      | some false => ev F cls b env M1
  | .tup es, env, M => match evL F cls es env M with
    | none => none
    | some (ds, M1) => if ds.length ≤ LINE then some (.tup ds, M1) else none
  | .lst mu es, env, M => match evL F cls es env M with
    | none => none
    | some (ds, M1) => if ds.length ≤ LINE then mk mu (.list ds) M1 else none
  | .dct mu ks es, env, M => match evL F cls es env M with
    | none => none
    | some (ds, M1) => if ks.length = ds.length ∧ ks.Nodup ∧ ks.length ≤ 15 then mk mu (.dict ((ks.map Sum.inr).zip ds)) M1 else none
  | .idx a i, env, M => match ev F cls a env M with
    | none => none
    | some (x, M1) => match ev F cls i env M1 with
      | none => none
      | some (y, M2) => match getD_ (rd M2 x) y with
        | none => none
        | some d => some (d, M2)
  | .slc mu a lo hi, env, M => match ev F cls a env M with
    | none => none
    | some (x, M1) => match optI (isAbs lo) M1 (ev F cls lo env M1) with
      | none => none
      | some (l, M2) => match optI (isAbs hi) M2 (ev F cls hi env M2) with
        | none => none
        | some (h, M3) => match rd M3 x with
          | .list xs => mk mu (.list (cutD xs l h)) M3
          | .fz xs => mk mu (.list (cutD xs l h)) M3
          | .tup xs => some (.tup (cutD xs l h), M3)
          | _ => none
  | .blt mu b es, env, M => match evL F cls es env M with
    | none => none
    | some (ds, M1) => match blt1 b M1 (ds.map (rd M1)) with
      | none => none
      | some d => mk mu d M1
  | .isi a tys many, env, M => match ev F cls a env M with
    | none => none
    | some (x, M1) => match tyName M1 x with
      | none => none
      | some t => some (.bl (tys.any (isKind t)), M1)
  | .call m f es, env, M => match evL F cls es env M with
    | none => none
    | some (ds, M1) => callM F m f ds M1
  | .new c es, env, M => match evL F cls es env M with
    | none => none
    | some (ds, M1) => match F (cls c) (.loc M1.length :: ds) (M1 ++ [.ins c []]) with
      | some (.non, M2) => some (.loc M1.length, M2)
      | _ => none
  | .meth m f o es, env, M => match ev F cls o env M with
    | none => none
    | some (x, M1) => match evL F cls es env M1 with
      | none => none
      | some (ds, M2) => callM F m f (x :: ds) M2
  | .fld a f, env, M => match ev F cls a env M with
    | some (.loc n, M1) => match M1[n]? with
      | some (.ins _ fs) => match fs.lookup f with
        | none => none
        | some d => some (d, M1)
      | _ => none
    | _ => none
  | .app a e, env, M => match ev F cls a env M with
    | some (.loc n, M1) => match M1[n]? with
      | some (.list _) => match ev F cls e env M1 with
        | none => none
        | some (y, M2) => match M2[n]? with
          | some (.list xs) => if xs.length < LINE then some (.non, M2.set n (.list (xs ++ [y]))) else none
          | _ => none
      | _ => none
    | _ => none
  | .ext a e, env, M => match ev F cls a env M with
    | some (.loc n, M1) => match M1[n]? with
      | some (.list _) => match ev F cls e env M1 with
        | some (y, M2) => match M2[n]?, rd M2 y with
          | some (.list xs), .list ys => if xs.length + ys.length ≤ LINE then some (.non, M2.set n (.list (xs ++ ys))) else none
          | _, _ => none
        | none => none
      | _ => none
    | _ => none
  | .idxof a e, env, M => match ev F cls a env M with
    | none => none
    | some (x, M1) => match ev F cls e env M1 with
      | none => none
      | some (y, M2) => match rd M1 x, rd M2 x with
        | .list _, .list xs => if dp y ≤ 60 ∧ dpL xs ≤ 60 then (match xs.findIdx? fun z => PyData.eqv (pd z) (pd y) with
          | none => none
          | some j => some (.int j, M2)) else none
        | _, _ => none
  | .dget a k d, env, M => match ev F cls a env M with
    | none => none
    | some (x, M1) => match ev F cls k env M1 with
      | none => none
      | some (y, M2) => match ev F cls d env M2 with
        | none => none
        | some (z, M3) => match rd M3 x, keyOf y with
          | .dict kvs, some q => some ((kvAt q kvs).getD z, M3)
          | _, _ => none
  | .comp mu own t k a b c e, env, M => match ev F cls a env M with
    | none => none
    | some (x, M0) => match optD (isAbs b) M0 (ev F cls b env M0) with
     | none => none
     | some (y, M1) => match srcOf k M1 x y with
      | some (.pure xs) => if xs.length ≤ LINE then (match compR (fun x M => match asg t x (wipeE env own) with
          | none => none
          | some env1 => match optC (isAbs c) M (ev F cls c env1 M) with
            | none => none
            | some (false, M1) => some (none, M1)
            | some (true, M1) => match ev F cls e env1 M1 with
              | none => none
              | some (d, M2) => some (some d, M2)) xs M1 with
        | none => none
        | some (ys, M2) => mk mu (.list ys) M2) else none
      | _ => none
def evL (F : FT) (cls : Nat → Nat) : EL → Env → Sto → Option (List D × Sto)
  | .nil, _, M => some ([], M)
  | .cons e es, env, M => match ev F cls e env M with
    | none => none
    | some (d, M1) => match evL F cls es env M1 with
      | none => none
      | some (ds, M2) => some (d :: ds, M2)
end
end MP

/-! MP3: statements, defs, the run. -/
namespace MP
open PySem PySem.Spec PyProof.Rows L2

inductive Out where
  | next | cont | ret (d : D)
  deriving Inhabited
abbrev SR := Option (Out × Env × Sto)

/-- while -/
def whileD (c : Env → Sto → Option (Bool × Sto)) (b : Env → Sto → SR) (env : Env) (M : Sto) : SR :=
  match c env M with
  | none => none
  | some (false, M1) => some (.next, env, M1)
  | some (true, M1) => match b env M1 with
    | none => none
    | some (.ret d, e, M2) => some (.ret d, e, M2)
    | some (.next, e, M2) => whileD c b e M2
    | some (.cont, e, M2) => whileD c b e M2
partial_fixpoint

/-- for, over what stands -/
def forP (f : D → Env → Sto → SR) : List D → Env → Sto → SR
  | [], env, M => some (.next, env, M)
  | x :: xs, env, M => match f x env M with
    | none => none
    | some (.ret d, e, M2) => some (.ret d, e, M2)
    | some (.next, e, M2) => forP f xs e M2
    | some (.cont, e, M2) => forP f xs e M2
/-- for, over a list of the store: k turns from the i-th on -/
def forL (f : D → Env → Sto → SR) (n : Nat) : Nat → Nat → Env → Sto → SR
  | 0, i, env, M => match M[n]? with
    | some (.list xs) => if xs.length ≤ i then some (.next, env, M) else none
    | _ => none
  | k + 1, i, env, M => match M[n]? with
    | some (.list xs) => match xs[i]? with
      | none => none
      | some x => match f x env M with
        | none => none
        | some (.ret d, e, M2) => some (.ret d, e, M2)
        | some (.next, e, M2) => forL f n k (i + 1) e M2
        | some (.cont, e, M2) => forL f n k (i + 1) e M2
    | _ => none
def setI (M : Sto) (x y z : D) : Option Sto := match x with
  | .loc n => match M[n]? with
    | some (.list xs) => match y with
      | .int i => match ixN xs.length i with
        | some j => some (M.set n (.list (xs.set j z)))
        | none => none
      | _ => none
    | some (.dK kvs) => match keyOf y with
      | some q => if kvs.length < LINE then some (M.set n (.dK (putKD q z kvs))) else none
      | none => none
    | _ => none
  | _ => none
where
  /-- a store by key, in its place or at the end -/
  putKD (q : Key) (z : D) (kvs : List (Key × D)) : List (Key × D) :=
    if (kvs.any fun kv => decide (kv.1 = q)) = true then kvs.map (fun kv => if kv.1 = q then (kv.1, z) else kv) else kvs ++ [(q, z)]
def getL_ (a i : D) : Option D := match a, i with
  | .list xs, .int k => atI xs k
  | _, _ => none
def augOp : BO → D → D → Option D
  | .add, .int p, .int q => some (.int (p + q))
  | .sub, .int p, .int q => some (.int (p - q))
  | _, _, _ => none
def putS (f : Str) (z : D) : List (Str × D) → List (Str × D)
  | [] => [(f, z)]
  | (k, d) :: r => if f = k then (k, z) :: r else (k, d) :: putS f z r
mutual
def exec (F : FT) (cls : Nat → Nat) : S → Env → Sto → SR
  | .setv i e, env, M => match ev F cls e env M with
    | none => none
    | some (d, M1) => some (.next, env.set i (some d), M1)
  | .sett is e, env, M => match ev F cls e env M with
    | none => none
    | some (d, M1) => match asg (.tp is) d env with
      | none => none
      | some env1 => some (.next, env1, M1)
  | .setp i j a b, env, M => match ev F cls a env M with
    | none => none
    | some (x, M1) => match ev F cls b env M1 with
      | none => none
      | some (y, M2) => some (.next, (env.set i (some x)).set j (some y), M2)
  | .seti a i e, env, M => match ev F cls e env M with
    | none => none
    | some (z, M1) => match ev F cls a env M1 with
      | none => none
      | some (x, M2) => match ev F cls i env M2 with
        | none => none
        | some (y, M3) => match setI M3 x y z with
          | none => none
          | some M4 => some (.next, env, M4)
  | .seti2 a i b j e g, env, M => match ev F cls e env M with
    | none => none
    | some (z, M1) => match ev F cls g env M1 with
      | none => none
      | some (w, M2) => match ev F cls a env M2 with
        | none => none
        | some (x, M3) => match ev F cls i env M3 with
          | none => none
          | some (y, M4) => match setI M4 x y z with
            | none => none
            | some M5 => match ev F cls b env M5 with
              | none => none
              | some (x2, M6) => match ev F cls j env M6 with
                | none => none
                | some (y2, M7) => match setI M7 x2 y2 w with
                  | none => none
                  | some M8 => some (.next, env, M8)
  | .augi a i o e, env, M => match ev F cls a env M with
    | none => none
    | some (x, M1) => match ev F cls i env M1 with
      | none => none
      | some (y, M2) => match getL_ (rd M2 x) y with
        | none => none
        | some old => match ev F cls e env M2 with
          | none => none
          | some (v, M3) => match augOp o old v with
            | none => none
            | some z => match setI M3 x y z with
              | none => none
              | some M4 => some (.next, env, M4)
  | .setf a f e, env, M => match ev F cls e env M with
    | none => none
    | some (z, M1) => match ev F cls a env M1 with
      | some (.loc n, M2) => match M2[n]? with
        | some (.ins c fs) => if fs.length < 900 then some (.next, env, M2.set n (.ins c (putS f z fs))) else none
        | _ => none
      | _ => none
  | .exp e, env, M => match ev F cls e env M with
    | none => none
    | some (_, M1) => some (.next, env, M1)
  | .ret e, env, M => match ev F cls e env M with
    | none => none
    | some (d, M1) => some (.ret d, env, M1)
  | .retN, env, M => some (.ret .non, env, M)
  | .ife c p q, env, M => match tst (ev F cls c env M) with
    | none => none
    | some (true, M1) => exb F cls p env M1
    | some (false, M1) => exb F cls q env M1
  | .for_ t k a b body, env, M => match ev F cls a env M with
    | none => none
    | some (x, M0) => match optD (isAbs b) M0 (ev F cls b env M0) with
      | none => none
      | some (y, M1) => match srcOf k M1 x y with
        | some (.pure xs) => forP (fun x env M => match asg t x env with
          | none => none
          | some env1 => exb F cls body env1 M) xs env M1
        | some (.loc n k) => forL (fun x env M => match asg t x env with
          | none => none
          | some env1 => exb F cls body env1 M) n k 0 env M1
        | none => none
  | .whl c body, env, M => whileD (fun env M => tst (ev F cls c env M)) (fun env M => exb F cls body env M) env M
  | .pass, env, M => some (.next, env, M)
  | .cont, env, M => some (.cont, env, M)
  | .frz i, env, M => match env[i]? with
    | some (some (.loc n)) => match M[n]? with
      | some (.list xs) => some (.next, env.set i (some (.list xs)), M.set n .dead)
      | some (.dK kvs) => some (.next, env.set i (some (.dict kvs)), M.set n .dead)
      | _ => none
    | _ => none
def exb (F : FT) (cls : Nat → Nat) : SB → Env → Sto → SR
  | .nil, env, M => some (.next, env, M)
  | .cons s r, env, M => match exec F cls s env M with
    | none => none
    | some (.next, env1, M1) => exb F cls r env1 M1
    | some (.cont, env1, M1) => some (.cont, env1, M1)
    | some (.ret d, env1, M1) => some (.ret d, env1, M1)
end

structure Fn where
  name : Str
  np : Nat
  N : List Str
  body : SB
  ds : List D
  deriving Inhabited
def body1 (F : FT) (cls : Nat → Nat) (fn : Fn) (args : List D) (M : Sto) : Option (D × Sto) :=
  match exb F cls fn.body (args.map some ++ List.replicate (fn.N.length - args.length) none) M with
  | some (.ret d, _, M1) => some (d, M1)
  | some (.next, _, M1) => some (.non, M1)
  | _ => none
def run (fns : List Fn) (cls : Nat → Nat) : Nat → FT
  | 0, _, _, _ => none
  | n + 1, f, args, M => match fns[f]? with
    | none => none
    | some fn => if (args ++ fn.ds.drop (fn.ds.length - (fn.np - args.length))).length = fn.np then body1 (run fns cls n) cls fn (args ++ fn.ds.drop (fn.ds.length - (fn.np - args.length))) M else none
end MP

/-! MP4: the store grows, changes, shrinks. -/
namespace MP
open PySem PySem.Spec PyProof.Rows L2
section
variable {K : PySem.W.Frag} {ca : Nat → Option Addr} {G : Addr → Prop} {ρ ρ' : List Addr} {M M' : Sto} {H H' : Hp} {p : Addr}
theorem Ok.notin (k : Ok K ca G ρ M H) (hp : H p = none) : p ∉ ρ := fun h => by
  obtain ⟨o, e⟩ := k.trk p h
  rw [hp] at e; cases e
theorem Ok.notG (k : Ok K ca G ρ M H) (hp : H p = none) : ¬ G p := fun h => by
  obtain ⟨o, e⟩ := k.gt p h
  rw [hp] at e; cases e
theorem Ok.notLv (k : Ok K ca G ρ M H) (hp : H p = none) : ¬ Lv ρ M p := fun ⟨n, m, h1, _⟩ => k.notin hp (List.mem_of_getElem? h1)
theorem Ok.notF (k : Ok K ca G ρ M H) (hp : H p = none) : ¬ Fb G ρ M p := fun h => h.elim (k.notG hp) (k.notLv hp)
/-- a thing at its address, elsewhere and later -/
theorem MOk.on {F F' : Addr → Prop} {a : Addr} (o : On F ρ H F' ρ' H') (e : H' a = H a) : ∀ {m : MO}, MOk K ca F ρ H a m → MOk K ca F' ρ' H' a m
  | .dead, _ => trivial
  | .list ds, ⟨vs, h, z, q⟩ => ⟨vs, e.trans h, z, RpL.on o ds vs q⟩
  | .dK ds, ⟨vs, h, q⟩ => ⟨vs, e.trans h, RpK.on o ds vs q⟩
  | .dT ds, ⟨vs, h, q⟩ => ⟨vs, e.trans h, RpT.on o ds vs q⟩
  | .ins c fs, ⟨C, dx, us, h, z, q⟩ => ⟨C, dx, us, e.trans h, z, RpS.on o fs us q⟩
/-- a new thing that the store does not know -/
theorem Ok.new (k : Ok K ca G ρ M H) (hp : H p = none) (o : HO) : Ok K ca G ρ M (upd H p o) ∧ Ext ρ M H ρ M (upd H p o) := by
  have x : Ext ρ M H ρ M (upd H p o) := ⟨fun _ _ h => h, fun a u h f => ⟨by rw [upd_ne (ne_of_none h hp)]; exact h, f⟩⟩
  have on := x.on k
  refine ⟨⟨k.len, k.nd, fun a h => ?_, fun a h => ?_, k.gn, fun n m a h1 h2 => ?_⟩, x⟩
  · obtain ⟨u, e⟩ := k.trk a h
    exact ⟨u, by rw [upd_ne (ne_of_none e hp)]; exact e⟩
  · obtain ⟨u, e⟩ := k.gt a h
    exact ⟨u, by rw [upd_ne (ne_of_none e hp)]; exact e⟩
  · have hne : a ≠ p := fun z => k.notin hp (z ▸ List.mem_of_getElem? h2)
    exact MOk.on on (upd_ne hne) (k.ob n m a h1 h2)
theorem Rp.newList (k : Ok K ca G ρ M H) (hp : H p = none) {ds : List D} {vs : List V} (hz : ds.length ≤ sizeLine) (r : RpL K (Fb G ρ M) ρ H ds vs) : Rp K (Fb G ρ M) ρ (upd H p (.lst vs)) (.list ds) (.ref p) :=
  ⟨p, vs, rfl, upd_same, k.notF hp, hz, RpL.on ((k.new hp _).2.on k) ds vs r⟩
theorem Rp.newTup (k : Ok K ca G ρ M H) (hp : H p = none) {ds : List D} {vs : List V} (hz : ds.length ≤ sizeLine) (r : RpL K (Fb G ρ M) ρ H ds vs) : Rp K (Fb G ρ M) ρ (upd H p (.tup vs)) (.tup ds) (.ref p) :=
  ⟨p, vs, rfl, SqT.of upd_same, hz, RpL.on ((k.new hp _).2.on k) ds vs r⟩
theorem Rp.newDict (k : Ok K ca G ρ M H) (hp : H p = none) {ds : List (Key × D)} {vs : List (Key × V)} (r : RpK K (Fb G ρ M) ρ H ds vs) : Rp K (Fb G ρ M) ρ (upd H p (.dK vs)) (.dict ds) (.ref p) :=
  ⟨p, vs, rfl, .inl upd_same, k.notF hp, RpK.on ((k.new hp _).2.on k) ds vs r⟩
theorem Lv.append (hl : ρ.length = M.length) {m : MO} {a : Addr} : Lv (ρ ++ [p]) (M ++ [m]) a ↔ Lv ρ M a ∨ (a = p ∧ m.live) := by
  constructor
  · rintro ⟨n, q, h1, h2, h3⟩
    by_cases hn : n < ρ.length
    · rw [List.getElem?_append_left hn] at h1
      rw [List.getElem?_append_left (by omega)] at h2
      exact .inl ⟨n, q, h1, h2, h3⟩
    · rw [List.getElem?_append_right (by omega)] at h1 h2
      have e : n - ρ.length = 0 := by
        cases z : n - ρ.length with
        | zero => rfl
        | succ j => rw [z] at h1; simp at h1
      rw [e] at h1
      rw [← hl, e] at h2
      have h1' : p = a := by simpa using h1
      have h2' : m = q := by simpa using h2
      exact .inr ⟨h1'.symm, by rw [h2']; exact h3⟩
  · rintro (⟨n, q, h1, h2, h3⟩ | ⟨rfl, h3⟩)
    · have hn : n < ρ.length := by
        rcases Nat.lt_or_ge n ρ.length with z | z
        · exact z
        · rw [List.getElem?_eq_none z] at h1; cases h1
      exact ⟨n, q, by rw [List.getElem?_append_left hn]; exact h1, by rw [List.getElem?_append_left (by omega)]; exact h2, h3⟩
    · exact ⟨ρ.length, m, by rw [List.getElem?_append_right (Nat.le_refl _)]; simp, by rw [hl, List.getElem?_append_right (Nat.le_refl _)]; simp, h3⟩
/-- a new thing of the store -/
theorem Ok.newM (k : Ok K ca G ρ M H) (hp : H p = none) {o : HO} {m : MO} (hm : ∀ F' ρ' H', On (Fb G ρ M) ρ H F' ρ' H' → H' p = some o → MOk K ca F' ρ' H' p m) :
    Ok K ca G (ρ ++ [p]) (M ++ [m]) (upd H p o) ∧ Ext ρ M H (ρ ++ [p]) (M ++ [m]) (upd H p o) := by
  have lv := fun a => Lv.append (p := p) (m := m) (a := a) k.len
  have x : Ext ρ M H (ρ ++ [p]) (M ++ [m]) (upd H p o) := ⟨fun n a h => by
      have hn : n < ρ.length := by
        rcases Nat.lt_or_ge n ρ.length with z | z
        · exact z
        · rw [List.getElem?_eq_none z] at h; cases h
      rw [List.getElem?_append_left hn]; exact h,
    fun a u h f => ⟨by rw [upd_ne (ne_of_none h hp)]; exact h, fun l => ((lv a).mp l).elim f fun ⟨z, _⟩ => ne_of_none h hp z⟩⟩
  have on := x.on k
  refine ⟨⟨by rw [List.length_append, List.length_append, k.len]; rfl, ?_, fun a h => ?_, fun a h => ?_, fun a h l => ?_, fun n q a h1 h2 => ?_⟩, x⟩
  · rw [List.nodup_append]
    exact ⟨k.nd, by simp, fun a ha b hb => by
      have e : b = p := by simpa using hb
      subst e
      exact fun z => k.notin hp (z ▸ ha)⟩
  · rcases List.mem_append.mp h with h | h
    · obtain ⟨u, e⟩ := k.trk a h
      exact ⟨u, by rw [upd_ne (ne_of_none e hp)]; exact e⟩
    · have e : a = p := by simpa using h
      subst e
      exact ⟨o, upd_same⟩
  · obtain ⟨u, e⟩ := k.gt a h
    exact ⟨u, by rw [upd_ne (ne_of_none e hp)]; exact e⟩
  · rcases List.mem_append.mp l with l | l
    · exact k.gn a h l
    · have z : a = p := by simpa using l
      exact k.notG hp (z ▸ h)
  · by_cases hn : n < ρ.length
    · rw [List.getElem?_append_left (by rw [← k.len]; exact hn)] at h1
      rw [List.getElem?_append_left hn] at h2
      have hne : a ≠ p := fun z => k.notin hp (z ▸ List.mem_of_getElem? h2)
      exact MOk.on on (upd_ne hne) (k.ob n q a h1 h2)
    · rw [List.getElem?_append_right (by omega)] at h2
      rw [List.getElem?_append_right (by have := k.len; omega)] at h1
      have e : n - ρ.length = 0 := by
        cases z : n - ρ.length with
        | zero => rfl
        | succ j => rw [z] at h2; simp at h2
      rw [e] at h2
      rw [← k.len, e] at h1
      have h1' : m = q := by simpa using h1
      have h2' : p = a := by simpa using h2
      subst h1'; subst h2'
      exact hm _ _ _ on upd_same
theorem newM_at (k : Ok K ca G ρ M H) : (ρ ++ [p])[M.length]? = some p := by
  rw [← k.len, List.getElem?_append_right (Nat.le_refl _)]; simp

/-! ### a thing of the store changes -/
theorem set_get {α : Type} {l : List α} {n i : Nat} {x : α} (hn : n < l.length) : (l.set n x)[i]? = if n = i then some x else l[i]? := by
  by_cases h : n = i
  · subst h; rw [List.getElem?_set_self hn, if_pos rfl]
  · rw [List.getElem?_set_ne h, if_neg h]
theorem Lv.set {n : Nat} {m : MO} {a : Addr} (hn : n < M.length) (ha : ρ[n]? = some a) (nd : ρ.Nodup) {b : Addr} : Lv ρ (M.set n m) b ↔ (b ≠ a ∧ Lv ρ M b) ∨ (b = a ∧ m.live) := by
  have inj : ∀ (i : Nat) (c : Addr), ρ[i]? = some c → c = a → i = n := fun i c h e => by
    subst e
    have hi : i < ρ.length := (List.getElem?_eq_some_iff.mp h).1
    exact (List.getElem?_inj hi nd).mp (h.trans ha.symm)
  constructor
  · rintro ⟨i, q, h1, h2, h3⟩
    rw [set_get hn] at h2
    by_cases z : n = i
    · rw [if_pos z] at h2
      subst z
      rw [ha] at h1
      cases h1; cases h2
      exact .inr ⟨rfl, h3⟩
    · rw [if_neg z] at h2
      exact .inl ⟨fun e => z (inj i b h1 e).symm, i, q, h1, h2, h3⟩
  · rintro (⟨e, i, q, h1, h2, h3⟩ | ⟨e, h⟩)
    · refine ⟨i, q, h1, ?_, h3⟩
      rw [set_get hn, if_neg (fun z => e (by subst z; rw [ha] at h1; cases h1; rfl))]
      exact h2
    · subst e
      exact ⟨n, m, ha, by rw [set_get hn, if_pos rfl], h⟩
/-- a live thing is written -/
theorem Ok.write (k : Ok K ca G ρ M H) {n : Nat} {m m' : MO} {a : Addr} (hm : M[n]? = some m) (ha : ρ[n]? = some a) (hl : m.live) (hl' : m'.live) {o : HO}
    (h : ∀ F' ρ' H', On (Fb G ρ M) ρ H F' ρ' H' → H' a = some o → MOk K ca F' ρ' H' a m') : Ok K ca G ρ (M.set n m') (upd H a o) ∧ Ext ρ M H ρ (M.set n m') (upd H a o) := by
  have hn : n < M.length := (List.getElem?_eq_some_iff.mp hm).1
  have lv := fun b => Lv.set (b := b) (m := m') hn ha k.nd
  have la : Lv ρ M a := ⟨n, m, ha, hm, hl⟩
  have x : Ext ρ M H ρ (M.set n m') (upd H a o) := ⟨fun _ _ h => h, fun b u e f => by
    have hb : b ≠ a := fun z => f (z ▸ la)
    exact ⟨by rw [upd_ne hb]; exact e, fun l => ((lv b).mp l).elim (fun q => f q.2) fun q => hb q.1⟩⟩
  have on := x.on k
  refine ⟨⟨by rw [List.length_set]; exact k.len, k.nd, fun b hb => ?_, fun b hb => ?_, fun b g l => ?_, fun i q b h1 h2 => ?_⟩, x⟩
  · obtain ⟨u, e⟩ := k.trk b hb
    by_cases z : b = a
    · subst z; exact ⟨o, upd_same⟩
    · exact ⟨u, by rw [upd_ne z]; exact e⟩
  · obtain ⟨u, e⟩ := k.gt b hb
    by_cases z : b = a
    · subst z; exact ⟨o, upd_same⟩
    · exact ⟨u, by rw [upd_ne z]; exact e⟩
  · exact k.gn b g l
  · rw [set_get hn] at h1
    by_cases z : n = i
    · rw [if_pos z] at h1
      subst z
      rw [ha] at h2
      cases h1; cases h2
      exact h _ _ _ on upd_same
    · rw [if_neg z] at h1
      have hb : b ≠ a := fun e => z (by
        subst e
        have hi : n < ρ.length := (List.getElem?_eq_some_iff.mp ha).1
        exact (List.getElem?_inj hi k.nd).mp (ha.trans h2.symm))
      exact MOk.on on (upd_ne hb) (k.ob i q b h1 h2)
/-- a live thing is from now on a pure one -/
theorem Ok.freeze (k : Ok K ca G ρ M H) {n : Nat} {m : MO} {a : Addr} (hm : M[n]? = some m) (ha : ρ[n]? = some a) (hl : m.live) : Ok K ca G ρ (M.set n .dead) H ∧ Ext ρ M H ρ (M.set n .dead) H ∧ ¬ Fb G ρ (M.set n .dead) a := by
  have hn : n < M.length := (List.getElem?_eq_some_iff.mp hm).1
  have lv := fun b => Lv.set (b := b) (m := .dead) hn ha k.nd
  have la : Lv ρ M a := ⟨n, m, ha, hm, hl⟩
  have x : Ext ρ M H ρ (M.set n .dead) H := ⟨fun _ _ h => h, fun b u e f => ⟨e, fun l => ((lv b).mp l).elim (fun q => f q.2) fun q => q.2⟩⟩
  have on := x.on k
  refine ⟨⟨by rw [List.length_set]; exact k.len, k.nd, k.trk, k.gt, fun b g l => ?_, fun i q b h1 h2 => ?_⟩, x, fun z => ?_⟩
  · exact k.gn b g l
  · rw [set_get hn] at h1
    by_cases z : n = i
    · rw [if_pos z] at h1
      cases h1
      trivial
    · rw [if_neg z] at h1
      exact MOk.on on rfl (k.ob i q b h1 h2)
  · rcases z with z | z
    · exact k.gl a z la
    · rcases (lv a).mp z with q | q
      · exact q.1 rfl
      · exact q.2
theorem On.freeze (k : Ok K ca G ρ M H) {n : Nat} {m : MO} {a : Addr} (hm : M[n]? = some m) (ha : ρ[n]? = some a) (hl : m.live) : On (Fb G ρ M) ρ H (Fb G ρ (M.set n .dead)) ρ H := (k.freeze hm ha hl).2.1.on k

/-! ### what lies below a place -/
mutual
theorem Rp.cut {F F' : Addr → Prop} {n : Nat} (hF : ∀ a, F' a → F a) (hρ : ∀ i, i < n → ρ'[i]? = ρ[i]?) : ∀ (d : D) (v : V), below n d = true → Rp K F ρ H d v → Rp K F' ρ' H d v
  | .non, v, _, h => h
  | .bl _, v, _, h => h
  | .int _, v, _, h => h
  | .str _, v, _, h => h
  | .list ds, v, b, h => by
    obtain ⟨a, vs, e, r, f, z, l⟩ := h
    exact ⟨a, vs, e, r, fun q => f (hF a q), z, RpL.cut hF hρ ds vs (by simpa only [below] using b) l⟩
  | .tup ds, v, b, h => by
    obtain ⟨a, vs, e, r, z, l⟩ := h
    exact ⟨a, vs, e, r, z, RpL.cut hF hρ ds vs (by simpa only [below] using b) l⟩
  | .dict kvs, v, b, h => by
    obtain ⟨a, us, e, r, f, l⟩ := h
    exact ⟨a, us, e, r, fun q => f (hF a q), RpK.cut hF hρ kvs us (by simpa only [below] using b) l⟩
  | .loc m, v, b, h => by
    obtain ⟨a, e, r⟩ := h
    have hm : m < n := by simpa [below] using b
    exact ⟨a, e, (hρ m hm).trans r⟩
  | .fz ds, v, b, h => by
    obtain ⟨a, vs, e, r, z, l⟩ := h
    exact ⟨a, vs, e, r.imp (fun q => ⟨q.1, fun w => q.2 (hF a w)⟩) id, z, RpL.cut hF hρ ds vs (by simpa only [below] using b) l⟩
theorem RpL.cut {F F' : Addr → Prop} {n : Nat} (hF : ∀ a, F' a → F a) (hρ : ∀ i, i < n → ρ'[i]? = ρ[i]?) : ∀ (ds : List D) (vs : List V), belowL n ds = true → RpL K F ρ H ds vs → RpL K F' ρ' H ds vs
  | [], vs, _, h => h
  | d :: ds, vs, b, h => by
    obtain ⟨v, r, e, h1, h2⟩ := h
    rw [belowL, Bool.and_eq_true] at b
    exact ⟨v, r, e, Rp.cut hF hρ d v b.1 h1, RpL.cut hF hρ ds r b.2 h2⟩
theorem RpK.cut {F F' : Addr → Prop} {n : Nat} (hF : ∀ a, F' a → F a) (hρ : ∀ i, i < n → ρ'[i]? = ρ[i]?) : ∀ (ds : List (Key × D)) (vs : List (Key × V)), belowK n ds = true → RpK K F ρ H ds vs → RpK K F' ρ' H ds vs
  | [], vs, _, h => h
  | (k, d) :: ds, vs, b, h => by
    obtain ⟨v, r, e, h1, h2⟩ := h
    rw [belowK, Bool.and_eq_true] at b
    exact ⟨v, r, e, Rp.cut hF hρ d v b.1 h1, RpK.cut hF hρ ds r b.2 h2⟩
end
theorem RpT.cut {F F' : Addr → Prop} {n : Nat} (hF : ∀ a, F' a → F a) (hρ : ∀ i, i < n → ρ'[i]? = ρ[i]?) : ∀ (ds : List (List Key × D)) (vs : List (List Key × V)), belowT n ds = true → RpT K F ρ H ds vs → RpT K F' ρ' H ds vs
  | [], vs, _, h => h
  | (k, d) :: ds, vs, b, h => by
    obtain ⟨v, r, e, h1, h2⟩ := h
    rw [belowT, Bool.and_eq_true] at b
    exact ⟨v, r, e, Rp.cut hF hρ d v b.1 h1, RpT.cut hF hρ ds r b.2 h2⟩
theorem RpS.cut {F F' : Addr → Prop} {n : Nat} (hF : ∀ a, F' a → F a) (hρ : ∀ i, i < n → ρ'[i]? = ρ[i]?) : ∀ (ds : List (Str × D)) (vs : List (Str × V)), belowS n ds = true → RpS K F ρ H ds vs → RpS K F' ρ' H ds vs
  | [], vs, _, h => h
  | (k, d) :: ds, vs, b, h => by
    obtain ⟨v, r, e, h1, h2⟩ := h
    rw [belowS, Bool.and_eq_true] at b
    exact ⟨v, r, e, Rp.cut hF hρ d v b.1 h1, RpS.cut hF hρ ds r b.2 h2⟩
theorem MOk.cut {F F' : Addr → Prop} {n : Nat} {a : Addr} (hF : ∀ a, F' a → F a) (hρ : ∀ i, i < n → ρ'[i]? = ρ[i]?) : ∀ {m : MO}, belowM n m = true → MOk K ca F ρ H a m → MOk K ca F' ρ' H a m
  | .dead, _, _ => trivial
  | .list ds, b, ⟨vs, h, z, q⟩ => ⟨vs, h, z, RpL.cut hF hρ ds vs b q⟩
  | .dK ds, b, ⟨vs, h, q⟩ => ⟨vs, h, RpK.cut hF hρ ds vs b q⟩
  | .dT ds, b, ⟨vs, h, q⟩ => ⟨vs, h, RpT.cut hF hρ ds vs b q⟩
  | .ins c fs, b, ⟨C, dx, us, h, z, q⟩ => ⟨C, dx, us, h, z, RpS.cut hF hρ fs us b q⟩
/-- pure things need no store -/
theorem Rp.pure {F : Addr → Prop} {d : D} {v : V} (b : below 0 d = true) (h : Rp K F ρ H d v) (F' : Addr → Prop) (hF : ∀ a, F' a → F a) (ρ' : List Addr) : Rp K F' ρ' H d v := Rp.cut hF (fun i hi => absurd hi (Nat.not_lt_zero i)) d v b h
theorem RpL.pure {F : Addr → Prop} {d : List D} {v : List V} (b : belowL 0 d = true) (h : RpL K F ρ H d v) (F' : Addr → Prop) (hF : ∀ a, F' a → F a) (ρ' : List Addr) : RpL K F' ρ' H d v := RpL.cut hF (fun i hi => absurd hi (Nat.not_lt_zero i)) d v b h
mutual
/-- what holds no list leans on nothing that changes -/
theorem Rp.bare {F : Addr → Prop} (F' : Addr → Prop) (ρ' : List Addr) : ∀ (d : D) (v : V), bare d = true → Rp K F ρ H d v → Rp K F' ρ' H d v
  | .non, v, _, h => h
  | .bl _, v, _, h => h
  | .int _, v, _, h => h
  | .str _, v, _, h => h
  | .list _, v, b, h => by simp [MP.bare] at b
  | .tup ds, v, b, h => by
    obtain ⟨a, vs, e, r, z, l⟩ := h
    exact ⟨a, vs, e, r, z, RpL.bare F' ρ' ds vs (by simpa only [MP.bare] using b) l⟩
  | .dict _, v, b, h => by simp [MP.bare] at b
  | .loc _, v, b, h => by simp [MP.bare] at b
  | .fz _, v, b, h => by simp [MP.bare] at b
theorem RpL.bare {F : Addr → Prop} (F' : Addr → Prop) (ρ' : List Addr) : ∀ (ds : List D) (vs : List V), bareL ds = true → RpL K F ρ H ds vs → RpL K F' ρ' H ds vs
  | [], vs, _, h => h
  | d :: ds, vs, b, h => by
    obtain ⟨v, r, e, h1, h2⟩ := h
    rw [MP.bareL, Bool.and_eq_true] at b
    exact ⟨v, r, e, Rp.bare F' ρ' d v b.1 h1, RpL.bare F' ρ' ds r b.2 h2⟩
end
end
end MP

/-! MP5: around a call. -/
namespace MP
open PySem PySem.Spec PyProof.Rows L2
section
variable {K : PySem.W.Frag} {ca : Nat → Option Addr} {G : Addr → Prop} {ρ ρ2 : List Addr} {M M2 : Sto} {H H2 : Hp} {p : Addr}
theorem lv_nil {a : Addr} : ¬ Lv [] [] a := fun ⟨n, m, h, _⟩ => by simp at h
theorem Ok.lvTrk (k : Ok K ca G ρ M H) {a : Addr} (l : Lv ρ M a) : ∃ o, H a = some o := let ⟨o, e, _⟩ := k.lv l; ⟨o, e⟩
/-- the callee's start: nothing of the store, the callers' live things are not to be touched -/
theorem Ok.empty (k : Ok K ca G ρ M H) : Ok K ca (Fb G ρ M) [] [] H :=
  ⟨rfl, List.nodup_nil, (fun a h => nomatch h), fun a h => h.elim (k.gt a) k.lvTrk, fun a _ => List.not_mem_nil, fun n m a h => by simp at h⟩
theorem Ext.of_empty (x : Ext [] [] H ρ2 M2 H2) {a : Addr} {o : HO} (e : H a = some o) : H2 a = some o ∧ ¬ Lv ρ2 M2 a := x.keep a o e lv_nil
theorem Ok.back (k : Ok K ca G ρ M H) (x : Ext [] [] H ρ2 M2 H2) : Ok K ca G ρ M H2 ∧ Ext ρ M H ρ M H2 := by
  have e : Ext ρ M H ρ M H2 := ⟨fun _ _ h => h, fun a o h f => ⟨(x.of_empty h).1, f⟩⟩
  have on := e.on k
  refine ⟨⟨k.len, k.nd, fun a h => ?_, fun a h => ?_, k.gn, fun n m a h1 h2 => ?_⟩, e⟩
  · obtain ⟨o, q⟩ := k.trk a h
    exact ⟨o, (x.of_empty q).1⟩
  · obtain ⟨o, q⟩ := k.gt a h
    exact ⟨o, (x.of_empty q).1⟩
  · obtain ⟨o, q⟩ := k.trk a (List.mem_of_getElem? h2)
    exact MOk.on on ((x.of_empty q).1.trans q.symm) (k.ob n m a h1 h2)
/-- a list that the callee made is from now on one of the store -/
theorem Ok.adopt (k : Ok K ca G ρ M H) (x : Ext [] [] H ρ2 M2 H2) (k2 : Ok K ca (Fb G ρ M) ρ2 M2 H2) {j : Nat} {ds : List D} (h1 : ρ2[j]? = some p) (h2 : M2[j]? = some (.list ds)) (hb : belowL 0 ds = true) :
    Ok K ca G (ρ ++ [p]) (M ++ [.list ds]) H2 ∧ Ext ρ M H (ρ ++ [p]) (M ++ [.list ds]) H2 := by
  have l2 : Lv ρ2 M2 p := ⟨j, _, h1, h2, trivial⟩
  have hp : H p = none := by
    cases q : H p with
    | none => rfl
    | some o => exact absurd l2 (x.of_empty q).2
  have lv := fun a => Lv.append (p := p) (m := MO.list ds) (a := a) k.len
  have pre : ∀ (n : Nat) (a : Addr), ρ[n]? = some a → (ρ ++ [p])[n]? = some a := fun n a h => by
    have hn : n < ρ.length := (List.getElem?_eq_some_iff.mp h).1
    rw [List.getElem?_append_left hn]; exact h
  have e : Ext ρ M H (ρ ++ [p]) (M ++ [.list ds]) H2 := ⟨pre, fun a u h f => ⟨(x.of_empty h).1, fun l => ((lv a).mp l).elim f fun ⟨z, _⟩ => ne_of_none h hp z⟩⟩
  have on := e.on k
  have hF : ∀ a, Fb G (ρ ++ [p]) (M ++ [.list ds]) a → Fb (Fb G ρ M) ρ2 M2 a := fun a h => by
    rcases h with h | h
    · exact .inl (.inl h)
    · rcases (lv a).mp h with h | ⟨z, _⟩
      · exact .inl (.inr h)
      · exact .inr (z ▸ l2)
  refine ⟨⟨by rw [List.length_append, List.length_append, k.len]; rfl, ?_, fun a h => ?_, fun a h => ?_, fun a h l => ?_, fun n q a g1 g2 => ?_⟩, e⟩
  · rw [List.nodup_append]
    exact ⟨k.nd, by simp, fun a ha b hb => by
      have e : b = p := by simpa using hb
      subst e
      exact fun z => k.notin hp (z ▸ ha)⟩
  · rcases List.mem_append.mp h with h | h
    · obtain ⟨u, q⟩ := k.trk a h
      exact ⟨u, (x.of_empty q).1⟩
    · have z : a = p := by simpa using h
      subst z
      exact k2.lvTrk l2
  · obtain ⟨u, q⟩ := k.gt a h
    exact ⟨u, (x.of_empty q).1⟩
  · rcases List.mem_append.mp l with l | l
    · exact k.gn a h l
    · have z : a = p := by simpa using l
      exact k.notG hp (z ▸ h)
  · by_cases hn : n < ρ.length
    · rw [List.getElem?_append_left (by rw [← k.len]; exact hn)] at g1
      rw [List.getElem?_append_left hn] at g2
      obtain ⟨u, hu⟩ := k.trk a (List.mem_of_getElem? g2)
      exact MOk.on on ((x.of_empty hu).1.trans hu.symm) (k.ob n q a g1 g2)
    · rw [List.getElem?_append_right (by omega)] at g2
      rw [List.getElem?_append_right (by have := k.len; omega)] at g1
      have e : n - ρ.length = 0 := by
        cases z : n - ρ.length with
        | zero => rfl
        | succ j => rw [z] at g2; simp at g2
      rw [e] at g2
      rw [← k.len, e] at g1
      have g1' : MO.list ds = q := by simpa using g1
      have g2' : p = a := by simpa using g2
      subst g1'; subst g2'
      obtain ⟨vs, q1, q2, q3⟩ := k2.ob j _ p h2 h1
      exact ⟨vs, q1, q2, RpL.pure hb q3 _ hF _⟩
/-- what was made behind the first places is dropped -/
theorem Ok.trunc (k : Ok K ca G ρ M H) (x : Ext ρ M H ρ2 M2 H2) (k2 : Ok K ca G ρ2 M2 H2) (hl : M.length ≤ M2.length) (hb : (M2.take M.length).all (belowM M.length) = true) :
    Ok K ca G ρ (M2.take M.length) H2 ∧ Ext ρ M H ρ (M2.take M.length) H2 ∧ (∀ a, Fb G ρ (M2.take M.length) a → Fb G ρ2 M2 a) ∧ ∀ i, i < M.length → ρ[i]? = ρ2[i]? := by
  have hρ : ∀ i, i < M.length → ρ[i]? = ρ2[i]? := fun i hi => by
    have hi' : i < ρ.length := by rw [k.len]; exact hi
    have e : ρ[i]? = some ρ[i] := List.getElem?_eq_getElem hi'
    rw [e]; exact (x.pre i _ e).symm
  have lt : ∀ {i : Nat} {a : Addr}, ρ[i]? = some a → i < M.length := fun {i a} h => by
    rw [← k.len]; exact (List.getElem?_eq_some_iff.mp h).1
  have lv : ∀ a, Lv ρ (M2.take M.length) a → Lv ρ2 M2 a := fun a ⟨n, m, h1, h2, h3⟩ => by
    have hn := lt h1
    rw [List.getElem?_take_of_lt hn] at h2
    exact ⟨n, m, (hρ n hn) ▸ h1, h2, h3⟩
  have hF : ∀ a, Fb G ρ (M2.take M.length) a → Fb G ρ2 M2 a := fun a h => h.elim .inl fun q => .inr (lv a q)
  refine ⟨⟨by rw [List.length_take, k.len]; omega, k.nd, fun a h => ?_, k2.gt, fun a g l => ?_, fun n m a h1 h2 => ?_⟩,
    ⟨fun _ _ h => h, fun a o h f => ⟨(x.keep a o h f).1, fun l => (x.keep a o h f).2 (lv a l)⟩⟩, hF, hρ⟩
  · obtain ⟨n, hn⟩ := List.getElem?_of_mem h
    exact k2.trk a (List.mem_of_getElem? ((hρ n (lt hn)) ▸ hn))
  · obtain ⟨n, hn⟩ := List.getElem?_of_mem l
    exact k2.gn a g (List.mem_of_getElem? ((hρ n (lt hn)) ▸ hn))
  · have hn := lt h2
    have hm : m ∈ M2.take M.length := List.mem_of_getElem? h1
    rw [List.getElem?_take_of_lt hn] at h1
    exact MOk.cut hF hρ (List.all_eq_true.mp hb m hm) (k2.ob n m a h1 ((hρ n hn) ▸ h2))
end
end MP

/-! MP6: readings by the evaluator; operators by values. -/
namespace MP
open PySem PySem.Spec PyProof.Rows L2

/-- where one stands -/
structure At (K : PySem.W.Frag) (ca : Nat → Option Addr) (G : Addr → Prop) (ρ : List Addr) (M : Sto) (H : Hp) (σ : L2.St) (env : Env) : Prop where
  ok : Ok K ca G ρ M H
  en : EnvR K (Fb G ρ M) ρ H σ env
section
variable {K : PySem.W.Frag} {ca : Nat → Option Addr} {G : Addr → Prop} {ρ ρ' : List Addr} {M M' : Sto} {H H' : Hp} {σ : L2.St} {env : Env}
theorem At.to (a : At K ca G ρ M H σ env) (x : Ext ρ M H ρ' M' H') (k : Ok K ca G ρ' M' H') : At K ca G ρ' M' H' σ env := ⟨k, a.en.on (x.on a.ok)⟩
theorem At.mv (a : At K ca G ρ M H σ env) (x : Ext ρ M H ρ' M' H') {d : D} {v : V} (r : Rp K (Fb G ρ M) ρ H d v) : Rp K (Fb G ρ' M') ρ' H' d v := Rp.on (x.on a.ok) d v r
theorem At.mvL (a : At K ca G ρ M H σ env) (x : Ext ρ M H ρ' M' H') {d : List D} {v : List V} (r : RpL K (Fb G ρ M) ρ H d v) : RpL K (Fb G ρ' M') ρ' H' d v := RpL.on (x.on a.ok) d v r
end
/-- readings by an evaluation -/
def tE (K : PySem.W.Frag) (ca : Nat → Option Addr) (f : Env → Sto → Option (D × Sto)) : TE := fun σ H Q => ∃ G ρ env M d M', At K ca G ρ M H σ env ∧ f env M = some (d, M') ∧
  ∀ ρ' v H', Ext ρ M H ρ' M' H' → Ok K ca G ρ' M' H' → Rp K (Fb G ρ' M') ρ' H' d v → Q v H'
def tL (K : PySem.W.Frag) (ca : Nat → Option Addr) (f : Env → Sto → Option (List D × Sto)) : TA := fun σ H Q => ∃ G ρ env M d M', At K ca G ρ M H σ env ∧ f env M = some (d, M') ∧
  ∀ ρ' v H', Ext ρ M H ρ' M' H' → Ok K ca G ρ' M' H' → RpL K (Fb G ρ' M') ρ' H' d v → Q v H'
def tT (K : PySem.W.Frag) (ca : Nat → Option Addr) (f : Env → Sto → Option (Bool × Sto)) : TT := fun σ H Q => ∃ G ρ env M d M', At K ca G ρ M H σ env ∧ f env M = some (d, M') ∧
  ∀ ρ' H', Ext ρ M H ρ' M' H' → Ok K ca G ρ' M' H' → Q d H'
theorem PE.imp {X : Cx} {e : Expr} {t t' : TE} (h : PE X e t) (i : ∀ σ H Q, t' σ H Q → t σ H Q) : PE X e t' := ⟨fun pins s σ H Q I q => h.run pins s σ H Q I (i _ _ _ q)⟩
theorem PT.imp {X : Cx} {e : Expr} {t t' : TT} (h : PT X e t) (i : ∀ σ H Q, t' σ H Q → t σ H Q) : PT X e t' := ⟨fun pins s σ H Q I q => h.run pins s σ H Q I (i _ _ _ q)⟩
theorem PW.imp {X : Cx} {e : Expr} {t t' : TT} (h : PW X e t) (i : ∀ σ H Q, t' σ H Q → t σ H Q) : PW X e t' := ⟨fun w pins s σ H Q I q => h.run w pins s σ H Q I (i _ _ _ q)⟩
theorem PA.imp {X : Cx} {e : List Expr} {t t' : TA} (h : PA X e t) (i : ∀ σ H Q, t' σ H Q → t σ H Q) : PA X e t' := ⟨fun p pins s σ H Q I q => h.run p pins s σ H Q I (i _ _ _ q)⟩
theorem PS.imp {X : Cx} {e : Stmt} {t t' : TS} (h : PS X e t) (i : ∀ D σ H, t' D σ H → t D σ H) : PS X e t' := ⟨fun pins s σ H D I q => h.run pins s σ H D I (i _ _ _ q)⟩
theorem PSs.imp {X : Cx} {e : List Stmt} {t t' : TS} (h : PSs X e t) (i : ∀ D σ H, t' D σ H → t D σ H) : PSs X e t' := ⟨fun pins s σ H D I q => h.run pins s σ H D I (i _ _ _ q)⟩
section
variable {K : PySem.W.Frag} {ca : Nat → Option Addr} {G : Addr → Prop} {ρ : List Addr} {M M' : Sto} {H : Hp} {σ : L2.St} {env : Env}
theorem tE.go {f : Env → Sto → Option (D × Sto)} {d : D} (a : At K ca G ρ M H σ env) (e : f env M = some (d, M')) {Q : VK}
    (h : ∀ ρ' v H', Ext ρ M H ρ' M' H' → At K ca G ρ' M' H' σ env → Rp K (Fb G ρ' M') ρ' H' d v → Q v H') : tE K ca f σ H Q :=
  ⟨G, ρ, env, M, d, M', a, e, fun ρ' v H' x k r => h ρ' v H' x (a.to x k) r⟩
theorem tL.go {f : Env → Sto → Option (List D × Sto)} {d : List D} (a : At K ca G ρ M H σ env) (e : f env M = some (d, M')) {Q : List V → Hp → Prop}
    (h : ∀ ρ' v H', Ext ρ M H ρ' M' H' → At K ca G ρ' M' H' σ env → RpL K (Fb G ρ' M') ρ' H' d v → Q v H') : tL K ca f σ H Q :=
  ⟨G, ρ, env, M, d, M', a, e, fun ρ' v H' x k r => h ρ' v H' x (a.to x k) r⟩
theorem tT.go {f : Env → Sto → Option (Bool × Sto)} {d : Bool} (a : At K ca G ρ M H σ env) (e : f env M = some (d, M')) {Q : Bool → Hp → Prop}
    (h : ∀ ρ' H', Ext ρ M H ρ' M' H' → At K ca G ρ' M' H' σ env → Q d H') : tT K ca f σ H Q :=
  ⟨G, ρ, env, M, d, M', a, e, fun ρ' H' x k => h ρ' H' x (a.to x k)⟩
end

/-! ### reading -/
section
variable {K : PySem.W.Frag} {ca : Nat → Option Addr} {F : Addr → Prop} {G : Addr → Prop} {ρ : List Addr} {M : Sto} {H : Hp}
/-- what is read: a list may be one of the store -/
def Rs (K : PySem.W.Frag) (F : Addr → Prop) (ρ : List Addr) (H : Hp) : D → V → Prop
  | .list ds, v => ∃ a vs, v = .ref a ∧ H a = some (.lst vs) ∧ ds.length ≤ sizeLine ∧ RpL K F ρ H ds vs
  | .dict kvs, v => ∃ a us, v = .ref a ∧ Rd H a (.dK us) ∧ RpK K F ρ H kvs us
  | d, v => Rp K F ρ H d v
theorem Rs.ofRp : ∀ {d : D} {v : V}, Rp K F ρ H d v → Rs K F ρ H d v
  | .list _, _, ⟨a, vs, e, h, _, z, r⟩ => ⟨a, vs, e, h, z, r⟩
  | .dict _, _, ⟨a, vs, e, h, _, r⟩ => ⟨a, vs, e, h, r⟩
  | .non, _, h => h
  | .bl _, _, h => h
  | .int _, _, h => h
  | .str _, _, h => h
  | .tup _, _, h => h
  | .loc _, _, h => h
  | .fz _, _, h => h
theorem Ok.rs (k : Ok K ca G ρ M H) {d : D} {v : V} (r : Rp K (Fb G ρ M) ρ H d v) : Rs K (Fb G ρ M) ρ H (rd M d) v := by
  cases d with
  | loc n =>
    obtain ⟨a, e, h⟩ := r
    have base : Rs K (Fb G ρ M) ρ H (.loc n) v := ⟨a, e, h⟩
    cases q : M[n]? with
    | none =>
      have e2 : rd M (.loc n) = .loc n := by simp only [rd, q]
      rw [e2]; exact base
    | some m =>
      cases m with
      | list xs =>
        have e2 : rd M (.loc n) = .list xs := by simp only [rd, q]
        obtain ⟨vs, h1, h2, h3⟩ := k.ob n _ a q h
        rw [e2]; exact ⟨a, vs, e, h1, h2, h3⟩
      | dK kvs =>
        have e2 : rd M (.loc n) = .dict kvs := by simp only [rd, q]
        obtain ⟨us, h1, h3⟩ := k.ob n _ a q h
        rw [e2]; exact ⟨a, us, e, .inl h1, h3⟩
      | dead =>
        have e2 : rd M (.loc n) = .loc n := by simp only [rd, q]
        rw [e2]; exact base
      | dT _ =>
        have e2 : rd M (.loc n) = .loc n := by simp only [rd, q]
        rw [e2]; exact base
      | ins _ _ =>
        have e2 : rd M (.loc n) = .loc n := by simp only [rd, q]
        rw [e2]; exact base
  | non => exact Rs.ofRp r
  | bl _ => exact Rs.ofRp r
  | int _ => exact Rs.ofRp r
  | str _ => exact Rs.ofRp r
  | list _ => exact Rs.ofRp r
  | tup _ => exact Rs.ofRp r
  | dict _ => exact Rs.ofRp r
  | fz _ => exact Rs.ofRp r
theorem lineEq : LINE = sizeLine := by rw [sizeLine_eq]; rfl

/-! ### plain data -/
mutual
theorem Rp.dp : ∀ (d : D) (v : V), dp d ≤ 99 → Rp K F ρ H d v → Dp K H v (pd d)
  | .non, v, _, h => by
    have e : v = .non := h
    subst e
    exact .non
  | .bl b, v, _, h => by
    have e : v = .bl b := h
    subst e
    exact .bl b
  | .int i, v, _, h => by
    have e : v = .int i := h
    subst e
    exact .int i
  | .str x, v, _, h => by
    have e : v = .str x := h
    subst e
    exact .str x
  | .list ds, v, z, h => by
    obtain ⟨a, vs, e, h1, _, _, h2⟩ := h
    subst e
    simp only [MP.dp] at z
    rw [pd]
    exact .lst (SqL.of h1) (RpL.dp ds vs (by omega) h2)
  | .tup ds, v, z, h => by
    obtain ⟨a, vs, e, h1, _, h2⟩ := h
    subst e
    simp only [MP.dp] at z
    rw [pd]
    exact .tup h1 (RpL.dp ds vs (by omega) h2)
  | .dict _, _, z, _ => by simp only [MP.dp] at z; omega
  | .loc _, _, z, _ => by simp only [MP.dp] at z; omega
  | .fz _, _, z, _ => by simp only [MP.dp] at z; omega
theorem RpL.dp : ∀ (ds : List D) (vs : List V), dpL ds ≤ 99 → RpL K F ρ H ds vs → DpAll K H vs (pdL ds)
  | [], vs, _, h => by
    have e : vs = [] := h
    subst e
    rw [pdL]
    exact .nil
  | d :: ds, vs, z, h => by
    obtain ⟨v, r, e, h1, h2⟩ := h
    subst e
    simp only [dpL] at z
    rw [pdL]
    exact .cons (Rp.dp d v (by omega) h1) (RpL.dp ds r (by omega) h2)
end
mutual
theorem dp_lay : ∀ (d : D), dp d ≤ 99 → (pd d).canLay0 = true ∧ (pd d).depth = dp d
  | .non, _ => ⟨by simp [pd, PyData.canLay0], by simp [pd, PyData.depth, MP.dp]⟩
  | .bl _, _ => ⟨by simp [pd, PyData.canLay0], by simp [pd, PyData.depth, MP.dp]⟩
  | .int _, _ => ⟨by simp [pd, PyData.canLay0], by simp [pd, PyData.depth, MP.dp]⟩
  | .str x, z => by
    simp only [MP.dp] at z ⊢
    split at z
    · rename_i h
      rw [if_pos h]
      exact ⟨by simp [pd, PyData.canLay0, h], by simp [pd, PyData.depth]⟩
    · omega
  | .list ds, z => by
    simp only [MP.dp] at z
    have q := dpL_lay ds (by omega)
    exact ⟨by rw [pd, PyData.canLay0]; exact q.1, by rw [pd, PyData.depth, q.2, MP.dp]⟩
  | .tup ds, z => by
    simp only [MP.dp] at z
    have q := dpL_lay ds (by omega)
    exact ⟨by rw [pd, PyData.canLay0]; exact q.1, by rw [pd, PyData.depth, q.2, MP.dp]⟩
  | .dict _, z => by simp only [MP.dp] at z; omega
  | .loc _, z => by simp only [MP.dp] at z; omega
  | .fz _, z => by simp only [MP.dp] at z; omega
theorem dpL_lay : ∀ (ds : List D), dpL ds ≤ 99 → PyData.canLayAll0 (pdL ds) = true ∧ PyData.depthAll (pdL ds) = dpL ds
  | [], _ => ⟨by simp [pdL, PyData.canLayAll0], by simp [pdL, PyData.depthAll, dpL]⟩
  | d :: ds, z => by
    simp only [dpL] at z
    have q1 := dp_lay d (by omega)
    have q2 := dpL_lay ds (by omega)
    exact ⟨by rw [pdL, PyData.canLayAll0, q1.1, q2.1]; rfl, by rw [pdL, PyData.depthAll, q1.2, q2.2, dpL]⟩
end
theorem dp_shaped {d : D} (h : dp d ≤ 60) : SeqAt.shaped (pd d) = true := by
  have q := dp_lay d (by omega)
  unfold SeqAt.shaped
  rw [q.1, q.2, Bool.true_and]
  exact decide_eq_true (by omega)
theorem Rs.dp {d : D} {v : V} (z : MP.dp d ≤ 99) (h : Rs K F ρ H d v) : Dp K H v (pd d) := by
  cases d with
  | list ds =>
    obtain ⟨a, vs, e, h1, _, h2⟩ := h
    subst e
    simp only [MP.dp] at z
    rw [pd]
    exact .lst (SqL.of h1) (RpL.dp ds vs (by omega) h2)
  | dict _ => simp only [MP.dp] at z; omega
  | non => exact Rp.dp (F := F) (ρ := ρ) _ v z h
  | bl _ => exact Rp.dp (F := F) (ρ := ρ) _ v z h
  | int _ => exact Rp.dp (F := F) (ρ := ρ) _ v z h
  | str _ => exact Rp.dp (F := F) (ρ := ρ) _ v z h
  | tup _ => exact Rp.dp (F := F) (ρ := ρ) _ v z h
  | loc _ => exact Rp.dp (F := F) (ρ := ρ) _ v z h
  | fz _ => exact Rp.dp (F := F) (ρ := ρ) _ v z h
theorem pdL_map : ∀ ds : List D, pdL ds = ds.map pd
  | [] => rfl
  | d :: ds => by rw [pdL, pdL_map ds, List.map_cons]
end

/-! ### operators by values -/
def Meet (K : PySem.W.Frag) (ca : Nat → Option Addr) (G : Addr → Prop) (ρ : List Addr) (M : Sto) (H : Hp) (mu : Bool) (d : D) (Q : VK) : Prop :=
  ∀ d' M', mk mu d M = some (d', M') → ∀ (h : ∀ ρ' v H', Ext ρ M H ρ' M' H' → Ok K ca G ρ' M' H' → Rp K (Fb G ρ' M') ρ' H' d' v → Q v H'), True
section
variable {K : PySem.W.Frag} {ca : Nat → Option Addr} {G : Addr → Prop} {ρ : List Addr} {M M' : Sto} {H : Hp} {mu : Bool} {d' : D} {Q : VK}
/-- what follows a value that may become one of the store -/
abbrev Kont (K : PySem.W.Frag) (ca : Nat → Option Addr) (G : Addr → Prop) (ρ : List Addr) (M : Sto) (H : Hp) (M' : Sto) (d' : D) (Q : VK) : Prop :=
  ∀ ρ' v H', Ext ρ M H ρ' M' H' → Ok K ca G ρ' M' H' → Rp K (Fb G ρ' M') ρ' H' d' v → Q v H'
theorem mk_list (k : Ok K ca G ρ M H) {ds : List D} {vs : List V} (e : mk mu (.list ds) M = some (d', M')) (h : Kont K ca G ρ M H M' d' Q) (hz : ds.length ≤ sizeLine) (r : RpL K (Fb G ρ M) ρ H ds vs) {p : Addr} (hp : H p = none) :
    Q (.ref p) (upd H p (.lst vs)) := by
  unfold mk at e
  cases mu with
  | false =>
    cases e
    have q := k.new hp (.lst vs)
    exact h ρ _ _ q.2 q.1 (Rp.newList k hp hz r)
  | true =>
    cases e
    have q := k.newM (m := .list ds) (o := .lst vs) hp fun F' ρ' H' o e => ⟨vs, e, hz, RpL.on o ds vs r⟩
    exact h _ _ _ q.2 q.1 ⟨p, rfl, newM_at k⟩
theorem mk_dict (k : Ok K ca G ρ M H) {ds : List (Key × D)} {vs : List (Key × V)} (e : mk mu (.dict ds) M = some (d', M')) (h : Kont K ca G ρ M H M' d' Q) (r : RpK K (Fb G ρ M) ρ H ds vs) {p : Addr} (hp : H p = none) :
    Q (.ref p) (upd H p (.dK vs)) := by
  unfold mk at e
  cases mu with
  | false =>
    cases e
    have q := k.new hp (.dK vs)
    exact h ρ _ _ q.2 q.1 (Rp.newDict k hp r)
  | true =>
    cases e
    have q := k.newM (m := .dK ds) (o := .dK vs) hp fun F' ρ' H' o e => ⟨vs, e, RpK.on o ds vs r⟩
    exact h _ _ _ q.2 q.1 ⟨p, rfl, newM_at k⟩
/-- what is no list and no dict stays as it is -/
theorem mk_flat {d : D} (hl : ∀ ds, d ≠ .list ds) (hd : ∀ ds, d ≠ .dict ds) (e : mk mu d M = some (d', M')) : d' = d ∧ M' = M := by
  unfold mk at e
  cases mu with
  | false => cases e; exact ⟨rfl, rfl⟩
  | true =>
    cases d with
    | list ds => exact absurd rfl (hl ds)
    | dict ds => exact absurd rfl (hd ds)
    | _ => cases e
theorem mk_tup (k : Ok K ca G ρ M H) {ds : List D} {vs : List V} (h : Kont K ca G ρ M H M (.tup ds) Q) (hz : ds.length ≤ sizeLine) (r : RpL K (Fb G ρ M) ρ H ds vs) {p : Addr} (hp : H p = none) :
    Q (.ref p) (upd H p (.tup vs)) := by
  have q := k.new hp (.tup vs)
  exact h ρ _ _ q.2 q.1 (Rp.newTup k hp hz r)
theorem kont_here (k : Ok K ca G ρ M H) {d : D} {v : V} (h : Kont K ca G ρ M H M d Q) (r : Rp K (Fb G ρ M) ρ H d v) : Q v H := h ρ v H .refl k r
end

/-- + of two, at once -/
def rAddA (K : PySem.W.Frag) : R2 := fun x y H Q => rI0 (fun i j => .int (i + j)) x y H Q ∨ (rCat x y H Q ∨ rCatA K x y H Q)
theorem opAdd {X : Cx} : OpR X (binaryOp .Add) (rAddA X.K) := op_add.or (op_cat.or op_catA)
def rMulA : R2 := fun x y H Q => rI CMul (fun i j => .int (i * j)) x y H Q ∨ rRep x y H Q
theorem opMul {X : Cx} : OpR X (binaryOp .Mult) rMulA := op_mul.or op_rep
def opOf : BO → Operator
  | .add => .Add
  | .sub => .Sub
  | .mul => .Mult
  | .fdiv => .FloorDiv
  | .mod => .Mod
  | .xor => .BitXor
  | .pow => .Pow
def rB (K : PySem.W.Frag) : BO → R2
  | .add => rAddA K
  | .sub => rI0 fun i j => .int (i - j)
  | .mul => rMulA
  | .fdiv => rI CDiv fun i j => .int (i / j)
  | .mod => rI (fun _ j => 0 < j) fun i j => .int (i % j)
  | .xor => rI0 fun i j => .int (Builtin.bitXor i j)
  | .pow => rI CPow fun i j => .int (i ^ j.toNat)
theorem opB {X : Cx} : ∀ o : BO, OpR X (binaryOp (opOf o)) (rB X.K o)
  | .add => opAdd
  | .sub => op_sub
  | .mul => opMul
  | .fdiv => op_fdiv
  | .mod => op_mod
  | .xor => op_xor
  | .pow => op_pow
theorem RpL.replicate {K : PySem.W.Frag} {F : Addr → Prop} {ρ : List Addr} {H : Hp} {ds : List D} {vs : List V} (r : RpL K F ρ H ds vs) : ∀ n : Nat, RpL K F ρ H (List.replicate n ds).flatten (List.replicate n vs).flatten
  | 0 => rfl
  | n + 1 => by
    rw [List.replicate_succ, List.replicate_succ, List.flatten_cons, List.flatten_cons]
    exact RpL.append r (RpL.replicate r n)
theorem len_rep {α : Type} (l : List α) : ∀ n : Nat, (List.replicate n l).flatten.length = l.length * n
  | 0 => by simp
  | n + 1 => by
    rw [List.replicate_succ, List.flatten_cons, List.length_append, len_rep l n, Nat.mul_succ, Nat.add_comm]
section
variable {K : PySem.W.Frag} {ca : Nat → Option Addr} {G : Addr → Prop} {ρ : List Addr} {M M' : Sto} {H : Hp} {mu : Bool} {d d' : D} {Q : VK} {dx dy : D} {x y : V}
theorem nat64 {i : Int} (h : i.natAbs < 2 ^ 64) : -(2 ^ 64) < i ∧ i < 2 ^ 64 := by omega
theorem bop_ok (k : Ok K ca G ρ M H) : ∀ (o : BO), bop o dx dy = some d → Rs K (Fb G ρ M) ρ H dx x → Rs K (Fb G ρ M) ρ H dy y → mk mu d M = some (d', M') → Kont K ca G ρ M H M' d' Q → rB K o x y H Q := by
  intro o e rx ry em h
  have int : ∀ {n : Int}, d = .int n → Q (.int n) H := fun {n} z => by
    subst z
    obtain ⟨rfl, rfl⟩ := mk_flat (by intro _ z; cases z) (by intro _ z; cases z) em
    exact kont_here k h rfl
  cases o with
  | add =>
    cases dx with
    | int i =>
      cases dy with
      | int j =>
        cases e
        exact .inl ⟨i, j, rx, ry, int rfl⟩
      | _ => cases e
    | list xs =>
      cases dy with
      | list ys =>
        simp only [bop] at e
        split at e
        · rename_i hz
          cases e
          obtain ⟨a, vs, e1, h1, z1, r1⟩ := rx
          obtain ⟨b, us, e2, h2, z2, r2⟩ := ry
          rw [lineEq] at hz
          refine .inr (.inl ⟨a, b, vs, us, e1, e2, h1, h2, by rw [r1.length, r2.length]; exact hz, fun p hp => ?_⟩)
          exact mk_list k em h (by rw [List.length_append]; exact hz) (RpL.append r1 r2) hp
        · cases e
      | _ => cases e
    | tup xs =>
      cases dy with
      | tup ys =>
        simp only [bop] at e
        split at e
        · rename_i hz
          cases e
          obtain ⟨rfl, rfl⟩ := mk_flat (by intro _ z; cases z) (by intro _ z; cases z) em
          obtain ⟨a, vs, e1, h1, z1, r1⟩ := rx
          obtain ⟨b, us, e2, h2, z2, r2⟩ := ry
          rw [lineEq] at hz
          refine .inr (.inr ⟨a, b, vs, us, e1, e2, h1, h2, by rw [r1.length, r2.length]; exact hz, fun z => ?_, fun z1' z2' => ?_, fun z1' z2' p hp => ?_⟩)
          · have zx : xs = [] := List.length_eq_zero_iff.mp (by rw [← r1.length, z]; rfl)
            subst zx
            exact kont_here k h ⟨b, us, rfl, h2, z2, r2⟩
          · have zy : ys = [] := List.length_eq_zero_iff.mp (by rw [← r2.length, z2']; rfl)
            subst zy
            exact kont_here k h ⟨a, vs, rfl, h1, by rw [List.append_nil]; exact z1, by rw [List.append_nil]; exact r1⟩
          · exact mk_tup k h (by rw [List.length_append]; exact hz) (RpL.append r1 r2) hp
        · cases e
      | _ => cases e
    | _ => cases e
  | sub =>
    cases dx with
    | int i =>
      cases dy with
      | int j =>
        cases e
        exact ⟨i, j, rx, ry, int rfl⟩
      | _ => cases e
    | _ => cases e
  | mul =>
    cases dx with
    | int i =>
      cases dy with
      | int j =>
        simp only [bop] at e
        split at e
        · rename_i hc
          cases e
          exact .inl ⟨i, j, rx, ry, hc.elim (fun z => .inl (nat64 z)) (fun z => .inr (nat64 z)), int rfl⟩
        · cases e
      | _ => cases e
    | list xs =>
      cases dy with
      | int n =>
        simp only [bop] at e
        split at e
        · rename_i hz
          cases e
          obtain ⟨a, vs, e1, h1, z1, r1⟩ := rx
          have hL : (LINE : Int) = 16777216 := rfl
          obtain ⟨c1, c2, c3⟩ := hz
          rw [lineEq] at c3
          refine .inr ⟨a, n, vs, e1, ry, h1, by omega, by omega, by rw [r1.length]; exact c3, fun p hp => ?_⟩
          exact mk_list k em h (by rw [len_rep]; exact c3) (RpL.replicate r1 _) hp
        · cases e
      | _ => cases e
    | _ => cases e
  | fdiv =>
    cases dx with
    | int i =>
      cases dy with
      | int j =>
        simp only [bop] at e
        split at e
        · rename_i hc
          cases e
          exact ⟨i, j, rx, ry, ⟨hc.1, by omega⟩, int rfl⟩
        · cases e
      | _ => cases e
    | _ => cases e
  | mod =>
    cases dx with
    | int i =>
      cases dy with
      | int j =>
        simp only [bop] at e
        split at e
        · rename_i hc
          cases e
          exact ⟨i, j, rx, ry, hc, int rfl⟩
        · cases e
      | _ => cases e
    | _ => cases e
  | xor =>
    cases dx with
    | int i =>
      cases dy with
      | int j =>
        cases e
        exact ⟨i, j, rx, ry, int rfl⟩
      | _ => cases e
    | _ => cases e
  | pow =>
    cases dx with
    | int i =>
      cases dy with
      | int j =>
        simp only [bop] at e
        split at e
        · rename_i hc
          cases e
          exact ⟨i, j, rx, ry, ⟨hc.1, by omega, hc.2.2⟩, int rfl⟩
        · cases e
      | _ => cases e
    | _ => cases e
end
end MP

/-! MP7: comparisons by values. -/
namespace MP
open PySem PySem.Spec PySem.SeqAt PySem.W PyProof.Rows L2

theorem alike_sym : ∀ (x y : PyData), alike x y = true → alike y x = true := by
  have big : ∀ n : Nat, (∀ x y : PyData, sizeOf x ≤ n → alike x y = true → alike y x = true) ∧ (∀ xs ys : List PyData, sizeOf xs ≤ n → alikeAll xs ys = true → alikeAll ys xs = true) := by
    intro n
    induction n with
    | zero =>
      refine ⟨fun x y h => ?_, fun xs ys h => ?_⟩
      · cases x <;> simp at h
      · cases xs <;> simp at h
    | succ n ih =>
      refine ⟨fun x y h => ?_, fun xs ys h => ?_⟩
      · cases x with
        | list xs =>
          cases y with
          | list ys =>
            intro q
            rw [alike] at q ⊢
            exact ih.2 xs ys (by simp at h; omega) q
          | _ => intro q; simp [alike] at q
        | tuple xs =>
          cases y with
          | tuple ys =>
            intro q
            rw [alike] at q ⊢
            exact ih.2 xs ys (by simp at h; omega) q
          | _ => intro q; simp [alike] at q
        | _ => cases y <;> intro q <;> first | (simp [alike] at q; done) | simp [alike]
      · cases xs with
        | nil => cases ys <;> intro _ <;> simp [alikeAll]
        | cons x xs =>
          cases ys with
          | nil => intro _; simp [alikeAll]
          | cons y ys =>
            intro q
            rw [alikeAll, Bool.and_eq_true] at q ⊢
            simp at h
            exact ⟨ih.1 x y (by omega) q.1, ih.2 xs ys (by omega) q.2⟩
  exact fun x y => (big (sizeOf x)).1 x y (Nat.le_refl _)
def atomP : PyData → Bool
  | .int _ => true
  | .str _ => true
  | _ => false
/-- what the operator gives of two -/
def resOp : CmpOp → PyData → PyData → Bool
  | .Gt, x, y => dataLt y x
  | .LtE, x, y => !dataLt y x
  | .GtE, x, y => !dataLt x y
  | _, x, y => dataLt x y
def resN : CmpOp → Nat → Nat → Bool
  | .Gt, n, m => decide (n > m)
  | .LtE, n, m => decide (n ≤ m)
  | .GtE, n, m => decide (n ≥ m)
  | _, n, m => decide (n < m)
def isGLG : CmpOp → Bool
  | .Gt => true
  | .LtE => true
  | .GtE => true
  | _ => false
theorem decide_le {n m : Int} : decide (n ≤ m) = !decide (m < n) := by
  by_cases h : m < n
  · rw [decide_eq_true h, decide_eq_false (by omega)]; rfl
  · rw [decide_eq_false h, decide_eq_true (by omega)]; rfl
theorem rcOp_atom {op : CmpOp} (ho : isGLG op = true) {A : Around} {s : Shared} {a b : Value} {x y : PyData} {as bs : List Addr} (ra : Reads s.heap a x as) (rb : Reads s.heap b y bs) (h : alike x y = true) (ha : atomP x = true) :
    Ob.RcOp op A s a b (resOp op x y) := by
  cases x with
  | int i =>
    cases y with
    | int j =>
      cases ra; cases rb
      cases op with
      | Gt =>
        show Ob.RcOp _ _ _ _ _ (dataLt _ _)
        rw [dataLt_int]; exact Ob.RcOp.gt_int _ _ _ _
      | LtE =>
        show Ob.RcOp _ _ _ _ _ (!dataLt _ _)
        rw [dataLt_int, ← decide_le]; exact Ob.RcOp.le_int _ _ _ _
      | GtE =>
        show Ob.RcOp _ _ _ _ _ (!dataLt _ _)
        rw [dataLt_int, ← decide_le]; exact Ob.RcOp.ge_int _ _ _ _
      | _ => cases ho
    | _ => simp [alike] at h
  | str i =>
    cases y with
    | str j =>
      cases ra; cases rb
      cases op with
      | Gt =>
        show Ob.RcOp _ _ _ _ _ (dataLt _ _)
        rw [dataLt_str]; exact fun _ _ _ _ q => PySem.P.gt_str q
      | LtE =>
        show Ob.RcOp _ _ _ _ _ (!dataLt _ _)
        rw [dataLt_str]; exact fun _ _ _ _ q => PySem.P.le_str q
      | GtE =>
        show Ob.RcOp _ _ _ _ _ (!dataLt _ _)
        rw [dataLt_str]; exact fun _ _ _ _ q => PySem.P.ge_str q
      | _ => cases ho
    | _ => simp [alike] at h
  | _ => cases ha
theorem lexAt_shift (e r : Nat → Bool) (z : Bool) : ∀ k i, Ob.lexAt (fun j => e (j + 1)) (fun j => r (j + 1)) z i k = Ob.lexAt e r z (i + 1) k
  | 0, _ => rfl
  | k + 1, i => by
    rw [Ob.lexAt_succ, Ob.lexAt_succ, lexAt_shift e r z k (i + 1)]
theorem rowLt_nil_nil : rowLt [] [] = false := by
  show lexLt itemOrd _ _ = false
  exact lex_irrefl _
theorem rowLt_nil_cons (y : PyData) (ys : List PyData) : rowLt [] (y :: ys) = true := by
  show lexLt itemOrd _ _ = true
  rw [toks_all_cons, keyToksAll, lex_diff (O := itemOrd) (by simp)]
  rfl
theorem rowLt_cons_nil (y : PyData) (ys : List PyData) : rowLt (y :: ys) [] = false := by
  show lexLt itemOrd _ _ = false
  rw [toks_all_cons, keyToksAll, lex_diff (O := itemOrd) (by simp)]
  rfl
theorem rowLt_cons {x y : PyData} (h : alike x y = true) (xs ys : List PyData) : rowLt (x :: xs) (y :: ys) = if PyData.eqv x y = true then rowLt xs ys else dataLt x y := dataLt_cons h xs ys
def resRow : CmpOp → List PyData → List PyData → Bool
  | .Gt, x, y => rowLt y x
  | .LtE, x, y => !rowLt y x
  | .GtE, x, y => !rowLt x y
  | _, x, y => rowLt x y
theorem beqc {α : Type} [BEq α] [LawfulBEq α] (a b : α) : (a == b) = (b == a) := by
  rw [Bool.eq_iff_iff, beq_iff_eq, beq_iff_eq]; exact eq_comm
theorem eqv_sym : ∀ (x y : PyData), atomP x = true → PyData.eqv x y = PyData.eqv y x
  | .int i, .int j, _ => by rw [PyData.eqv, PyData.eqv]; exact beqc i j
  | .int i, .bool j, _ => by rw [PyData.eqv, PyData.eqv]; exact beqc _ _
  | .int i, .none, _ => by rw [PyData.eqv, PyData.eqv]
  | .int i, .str _, _ => by rw [PyData.eqv, PyData.eqv]
  | .int i, .list _, _ => by rw [PyData.eqv, PyData.eqv]
  | .int i, .tuple _, _ => by rw [PyData.eqv, PyData.eqv]
  | .int i, .dict _, _ => by rw [PyData.eqv, PyData.eqv]
  | .str i, .str j, _ => by rw [PyData.eqv, PyData.eqv]; exact beqc i j
  | .str i, .bool j, _ => by rw [PyData.eqv, PyData.eqv]
  | .str i, .none, _ => by rw [PyData.eqv, PyData.eqv]
  | .str i, .int _, _ => by rw [PyData.eqv, PyData.eqv]
  | .str i, .list _, _ => by rw [PyData.eqv, PyData.eqv]
  | .str i, .tuple _, _ => by rw [PyData.eqv, PyData.eqv]
  | .str i, .dict _, _ => by rw [PyData.eqv, PyData.eqv]
theorem lexAt_row {op : CmpOp} (ho : isGLG op = true) : ∀ (xs ys : List PyData), alikeAll xs ys = true → xs.all atomP = true →
    Ob.lexAt (pairEq xs ys) (fun j => resOp op (xs.getD j .none) (ys.getD j .none)) (resN op xs.length ys.length) 0 (min xs.length ys.length) = resRow op xs ys
  | [], [], _, _ => by
    show resN op 0 0 = _
    cases op <;> first | exact absurd ho (by decide) | simp [resN, resRow, rowLt_nil_nil]
  | [], y :: ys, _, _ => by
    rw [show min ([] : List PyData).length (y :: ys).length = 0 by simp]
    show resN op 0 (ys.length + 1) = _
    cases op <;> first | exact absurd ho (by decide) | simp [resN, resRow, rowLt_nil_cons, rowLt_cons_nil]
  | x :: xs, [], _, _ => by
    rw [show min (x :: xs).length ([] : List PyData).length = 0 by simp]
    show resN op (xs.length + 1) 0 = _
    cases op <;> first | exact absurd ho (by decide) | simp [resN, resRow, rowLt_nil_cons, rowLt_cons_nil]
  | x :: xs, y :: ys, h, ha => by
    obtain ⟨h1, h2⟩ := alike_all_cons h
    rw [List.all_cons, Bool.and_eq_true] at ha
    have ih := lexAt_row ho xs ys h2 ha.2
    rw [show min (x :: xs).length (y :: ys).length = min xs.length ys.length + 1 by simp only [List.length_cons]; omega, Ob.lexAt_succ]
    have en : resN op (x :: xs).length (y :: ys).length = resN op xs.length ys.length := by
      cases op <;> first | exact absurd ho (by decide) | (simp only [resN, List.length_cons]; exact decide_eq_decide.mpr (by omega))
    rw [en, ← lexAt_shift]
    have e0 : pairEq (x :: xs) (y :: ys) 0 = PyData.eqv x y := rfl
    have es := eqv_sym x y ha.1
    have h1' := alike_sym x y h1
    rw [e0]
    cases hx : PyData.eqv x y with
    | true =>
      rw [if_pos rfl]
      refine Eq.trans (b := Ob.lexAt (pairEq xs ys) (fun j => resOp op (xs.getD j .none) (ys.getD j .none)) (resN op xs.length ys.length) 0 (min xs.length ys.length)) rfl ?_
      rw [ih]
      rw [hx] at es
      cases op <;> first | exact absurd ho (by decide) | simp only [resRow, rowLt_cons h1, rowLt_cons h1', hx, ← es, if_true]
    | false =>
      rw [if_neg Bool.false_ne_true]
      rw [hx] at es
      have n2 : ¬ PyData.eqv y x = true := by rw [← es]; exact Bool.false_ne_true
      have n1 : ¬ PyData.eqv x y = true := by rw [hx]; exact Bool.false_ne_true
      show resOp op x y = _
      cases op <;> first | exact absurd ho (by decide) | simp only [resRow, resOp, rowLt_cons h1, rowLt_cons h1', if_neg n1, if_neg n2]
def flatP : PyData → Bool
  | .int _ => true
  | .str _ => true
  | .tuple xs => xs.all atomP
  | _ => false
theorem rcOp_tups {op : CmpOp} (ho : isGLG op = true) {A : Around} {s : Shared} {l b : Addr} {items items2 : Array Value} {e r : Nat → Bool} (hl : s.heap.IsTuple l items) (hb : s.heap.IsTuple b items2) (hu : A.units < cLine)
    (he : ∀ j (h1 : j < items.size) (h2 : j < items2.size), EqAt A.in1 s items[j] items2[j] (e j))
    (hr : ∀ j (h1 : j < items.size) (h2 : j < items2.size), e j = false → Ob.RcOp op A.in1 s items[j] items2[j] (r j)) :
    Ob.RcOp op A s (.ref l) (.ref b) (Ob.lexAt e r (resN op items.size items2.size) 0 (min items.size items2.size)) := by
  cases op with
  | Gt => exact Ob.RcOp.tuples_gt hl hb hu he hr
  | LtE => exact Ob.RcOp.tuples_le hl hb hu he hr
  | GtE => exact Ob.RcOp.tuples_ge hl hb hu he hr
  | _ => cases ho
theorem readsAll_at {h : Heap} : ∀ {vs : List Value} {xs : List PyData} {as : List Addr}, ReadsAll h vs xs as → ∀ j (h1 : j < vs.length), ∃ bs, Reads h vs[j] (xs.getD j .none) bs
  | _, _, _, .nil, j, h1 => absurd h1 (Nat.not_lt_zero _)
  | _, _, _, .cons r rs, 0, _ => ⟨_, r⟩
  | _, _, _, .cons r rs, j + 1, h1 => readsAll_at rs j (Nat.lt_of_succ_lt_succ h1)
theorem alikeAll_at : ∀ {xs ys : List PyData}, alikeAll xs ys = true → ∀ j, j < xs.length → j < ys.length → alike (xs.getD j .none) (ys.getD j .none) = true
  | [], _, _, j, h1, _ => absurd h1 (Nat.not_lt_zero _)
  | _ :: _, [], _, j, _, h2 => absurd h2 (Nat.not_lt_zero _)
  | x :: xs, y :: ys, h, 0, _, _ => (alike_all_cons h).1
  | x :: xs, y :: ys, h, j + 1, h1, h2 => alikeAll_at (alike_all_cons h).2 j (Nat.lt_of_succ_lt_succ h1) (Nat.lt_of_succ_lt_succ h2)
theorem all_at {xs : List PyData} (h : xs.all atomP = true) {j : Nat} (hj : j < xs.length) : atomP (xs.getD j .none) = true := by
  rw [List.getD_eq_getElem?_getD, List.getElem?_eq_getElem hj]
  exact List.all_eq_true.mp h _ (List.getElem_mem hj)
theorem rcOp_flat {op : CmpOp} (ho : isGLG op = true) {A : Around} {s : Shared} {a b : Value} {x y : PyData} {as bs : List Addr} (ra : Reads s.heap a x as) (rb : Reads s.heap b y bs) (h : alike x y = true) (hf : flatP x = true) (hg : flatP y = true)
    (hu : A.units + 64 < cLine) (hd : x.depth ≤ 62) : Ob.RcOp op A s a b (resOp op x y) := by
  cases x with
  | int i => exact rcOp_atom ho ra rb h rfl
  | str i => exact rcOp_atom ho ra rb h rfl
  | tuple xs =>
    cases y with
    | tuple ys =>
      have hal : alikeAll xs ys = true := by simpa [alike] using h
      cases ra with
      | @tuple l o vs n _ as₁ g1 g2 g3 g4 =>
        cases rb with
        | @tuple l' o' vs' n' _ bs₁ k1 k2 k3 k4 =>
          have n1 : vs.size = xs.length := by simpa using ReadsAll.length _ _ _ g4
          have n2 : vs'.size = ys.length := by simpa using ReadsAll.length _ _ _ k4
          have dq : PyData.depthAll xs + 1 ≤ 62 := by simpa [PyData.depth] using hd
          have ui : A.in1.units = A.units + 1 := rfl
          have T := rcOp_tups ho (A := A) (s := s) (e := pairEq xs ys) (r := fun j => resOp op (xs.getD j .none) (ys.getD j .none)) ⟨_, g1, g2, _, g3⟩ ⟨_, k1, k2, _, k3⟩ (by omega) (fun j j1 j2 => by
            have := eqAt_alikeAll xs ys A.in1 s vs.toList vs'.toList _ _ g4 k4 hal (by rw [ui]; omega) j (by simpa using j1) (by simpa using j2)
            simpa using this) (fun j j1 j2 _ => by
            obtain ⟨_, q1⟩ := readsAll_at g4 j (by simpa using j1)
            obtain ⟨_, q2⟩ := readsAll_at k4 j (by simpa using j2)
            have := rcOp_atom ho (A := A.in1) q1 q2 (alikeAll_at hal j (by omega) (by omega)) (all_at hf (by omega))
            simpa using this)
          rw [n1, n2, lexAt_row ho xs ys hal hf] at T
          have e : resRow op xs ys = resOp op (.tuple xs) (.tuple ys) := by
            cases op <;> first | exact absurd ho (by decide) | (simp only [resRow, resOp, dataLt_tuple]; rfl)
          rw [e] at T
          exact T
    | _ => simp [alike] at h
  | _ => cases hf
section
variable {X : Cx}
def rLtA (K : PySem.W.Frag) : R2 := fun x y H Q => ∃ d e, Dp K H x d ∧ Dp K H y e ∧ alike d e = true ∧ d ≠ .none ∧ d.depth ≤ 60 ∧ Q (.bl (dataLt d e)) H
theorem op_ltA (hu : X.A.units + 64 < cLine) : OpR X (compareOp .Lt) (rLtA X.K) := by
  intro pins s σ H x y v u Q I rx ry h
  obtain ⟨d, e, hd, he, ha, hn, hz, q⟩ := h
  obtain ⟨as, r1⟩ := Dp.reads I d x v hd rx
  obtain ⟨bs, r2⟩ := Dp.reads I e y u he ry
  have z : wpAny (model X.prog X.w) X.A (compareOp .Lt v u) (EP X pins σ Q) X.xe s := rcLt_alike d e X.A s v u as bs r1 r2 ha hn (by have := Nat.min_le_left d.depth e.depth; omega) X.prog X.w X.xe (EP X pins σ Q) ⟨.bl _, H, I, rfl, q⟩
  exact z
def rGLG (K : PySem.W.Frag) (op : CmpOp) : R2 := fun x y H Q => ∃ d e, Dp K H x d ∧ Dp K H y e ∧ alike d e = true ∧ flatP d = true ∧ flatP e = true ∧ d.depth ≤ 60 ∧ Q (.bl (resOp op d e)) H
theorem op_glg (hu : X.A.units + 64 < cLine) : ∀ (op : CmpOp), isGLG op = true → OpR X (compareOp op) (rGLG X.K op) := by
  intro op ho pins s σ H x y v u Q I rx ry h
  obtain ⟨d, e, hd, he, ha, hf, hg, hz, q⟩ := h
  obtain ⟨as, r1⟩ := Dp.reads I d x v hd rx
  obtain ⟨bs, r2⟩ := Dp.reads I e y u he ry
  have z := rcOp_flat ho (A := X.A) r1 r2 ha hf hg hu (by omega) X.prog X.w X.xe (EP X pins σ Q) ⟨.bl _, H, I, rfl, q⟩
  cases op with
  | Gt => exact z
  | LtE => exact z
  | GtE => exact z
  | _ => cases ho
def rInT (K : PySem.W.Frag) (ng : Bool) : R2 := fun x y H Q => ∃ d ds, Dp K H x d ∧ Dp K H y (.tuple ds) ∧ SeqAt.shaped d = true ∧ SeqAt.shaped (.tuple ds) = true ∧ Q (.bl (if ng then !(ds.any fun z => PyData.eqv z d) else ds.any fun z => PyData.eqv z d)) H
theorem op_inT (hu : X.A.units + 65 < cLine) : OpR X (compareOp .In) (rInT X.K false) := by
  intro pins s σ H x y v u Q I rx ry h
  obtain ⟨d, ds, hd, he, sd, se, q⟩ := h
  obtain ⟨as, r1⟩ := Dp.reads I d x v hd rx
  obtain ⟨bs, r2⟩ := Dp.reads I (.tuple ds) y u he ry
  have c := SeqAt.canLay_of_shaped se
  rw [PyData.canLay0] at c
  exact SeqAt.in_tuple_reads r2 r1 c (SeqAt.canLay_of_shaped sd) (room_in_shaped sd hu) ⟨.bl _, H, I, rfl, q⟩
theorem op_ninT (hu : X.A.units + 65 < cLine) : OpR X (compareOp .NotIn) (rInT X.K true) := by
  intro pins s σ H x y v u Q I rx ry h
  obtain ⟨d, ds, hd, he, sd, se, q⟩ := h
  obtain ⟨as, r1⟩ := Dp.reads I d x v hd rx
  obtain ⟨bs, r2⟩ := Dp.reads I (.tuple ds) y u he ry
  have c := SeqAt.canLay_of_shaped se
  rw [PyData.canLay0] at c
  exact SeqAt.notIn_tuple_reads r2 r1 c (SeqAt.canLay_of_shaped sd) (room_in_shaped sd hu) ⟨.bl _, H, I, rfl, q⟩
end
/-- two texts of any kind -/
def rStr (ng : Bool) : R2 := fun x y H Q => ∃ u w : Str, x = .str u ∧ y = .str w ∧ Q (.bl (if ng then !decide (u = w) else decide (u = w))) H
theorem strs2_inv {dx dy : D} {b : Bool} (e : strs2 dx dy = some b) : ∃ u w : Str, dx = .str u ∧ dy = .str w ∧ b = decide (u = w) := by
  unfold strs2 at e
  split at e
  · cases e
    exact ⟨_, _, rfl, rfl, rfl⟩
  · cases e
section
variable {X : Cx}
theorem op_strEq : OpR X (compareOp .Eq) (rStr false) := fun pins s σ H x y v u Q I rx ry h => by
  obtain ⟨a, b, rfl, rfl, q⟩ := h
  exact op_eq pins s σ H _ _ v u Q I rx ry ⟨rfl, by
    rw [show decide (V.str a = V.str b) = decide (a = b) from decide_eq_decide.mpr ⟨fun e => V.str.inj e, fun e => congrArg _ e⟩]
    exact q⟩
theorem op_strNe : OpR X (compareOp .NotEq) (rStr true) := fun pins s σ H x y v u Q I rx ry h => by
  obtain ⟨a, b, rfl, rfl, q⟩ := h
  exact op_ne pins s σ H _ _ v u Q I rx ry ⟨rfl, by
    rw [show decide (V.str a = V.str b) = decide (a = b) from decide_eq_decide.mpr ⟨fun e => V.str.inj e, fun e => congrArg _ e⟩]
    exact q⟩
end
def copOf : CO → CmpOp
  | .eq => .Eq
  | .ne => .NotEq
  | .lt => .Lt
  | .le => .LtE
  | .gt => .Gt
  | .ge => .GtE
  | .inn => .In
  | .nin => .NotIn
def rC (K : PySem.W.Frag) : CO → R2
  | .eq => fun x y H Q => rEqD K x y H Q ∨ rStr false x y H Q
  | .ne => fun x y H Q => rNeD K x y H Q ∨ rStr true x y H Q
  | .lt => rLtA K
  | .le => rGLG K .LtE
  | .gt => rGLG K .Gt
  | .ge => rGLG K .GtE
  | .inn => fun x y H Q => rInD K x y H Q ∨ rInT K false x y H Q
  | .nin => fun x y H Q => rNotInD K x y H Q ∨ rInT K true x y H Q
theorem opC {X : Cx} (hu : X.A.units + 65 < cLine) : ∀ o : CO, OpR X (compareOp (copOf o)) (rC X.K o)
  | .eq => (op_eqD (by omega)).or op_strEq
  | .ne => (op_neD (by omega)).or op_strNe
  | .lt => op_ltA (by omega)
  | .le => op_glg (by omega) .LtE rfl
  | .gt => op_glg (by omega) .Gt rfl
  | .ge => op_glg (by omega) .GtE rfl
  | .inn => (op_inD hu).or (op_inT hu)
  | .nin => (op_notInD hu).or (op_ninT hu)
section
variable {K : PySem.W.Frag} {F : Addr → Prop} {ρ : List Addr} {H : Hp} {dx dy : D} {x y : V} {b : Bool} {Q : VK}
theorem atom_pd : ∀ {d : D}, atom d = true → atomP (pd d) = true
  | .int _, _ => rfl
  | .str _, _ => rfl
  | .non, h => by cases h
  | .bl _, h => by cases h
  | .list _, h => by cases h
  | .tup _, h => by cases h
  | .dict _, h => by cases h
  | .loc _, h => by cases h
  | .fz _, h => by cases h
theorem flat_pd : ∀ {d : D}, flat1 d = true → flatP (pd d) = true
  | .int _, _ => rfl
  | .str _, _ => rfl
  | .tup xs, h => by
    rw [pd, pdL_map]
    show (xs.map pd).all atomP = true
    rw [List.all_map]
    exact List.all_eq_true.mpr fun d hd => atom_pd (List.all_eq_true.mp h d hd)
  | .non, h => by cases h
  | .bl _, h => by cases h
  | .list _, h => by cases h
  | .dict _, h => by cases h
  | .loc _, h => by cases h
  | .fz _, h => by cases h
theorem any_pdL {d : D} : ∀ ys : List D, ((pdL ys).any fun z => PyData.eqv z (pd d)) = ys.any fun z => PyData.eqv (pd z) (pd d)
  | [] => rfl
  | y :: ys => by rw [pdL, List.any_cons, List.any_cons, any_pdL ys]
theorem mem_shaped {ys : List D} (h : dpL ys ≤ 60) : SeqAt.shaped (.list (pdL ys)) = true ∧ SeqAt.shaped (.tuple (pdL ys)) = true := by
  have q := dpL_lay ys (by omega)
  unfold SeqAt.shaped
  simp only [PyData.canLay0, PyData.depth, q.1, q.2, Bool.true_and]
  exact ⟨decide_eq_true (by omega), decide_eq_true (by omega)⟩
theorem Rs.dpList {ys : List D} (h : dpL ys ≤ 60) (r : Rs K F ρ H (.list ys) y) : Dp K H y (.list (pdL ys)) := by
  have := Rs.dp (d := .list ys) (by simp only [MP.dp]; omega) r
  rwa [pd] at this
theorem Rs.dpTup {ys : List D} (h : dpL ys ≤ 60) (r : Rs K F ρ H (.tup ys) y) : Dp K H y (.tuple (pdL ys)) := by
  have := Rs.dp (d := .tup ys) (by simp only [MP.dp]; omega) r
  rwa [pd] at this
theorem cop_ok : ∀ (o : CO), cop o dx dy = some b → Rs K F ρ H dx x → Rs K F ρ H dy y → Q (.bl b) H → rC K o x y H Q := by
  intro o e rx ry q
  have ord : ∀ {u w : D}, cmpOk u w = true → (alike (pd u) (pd w) = true ∧ isOrd u = true) ∧ MP.dp u ≤ 60 ∧ MP.dp w ≤ 60 := fun {u w} h => by
    unfold cmpOk at h
    rw [Bool.and_eq_true, Bool.and_eq_true, decide_eq_true_eq] at h
    exact ⟨h.1, h.2⟩
  have nn : ∀ {u : D}, isOrd u = true → pd u ≠ .none := fun {u} h => by cases u <;> first | exact absurd h (by decide) | (rw [pd]; intro z; cases z)
  cases o with
  | eq =>
    simp only [cop, eqD] at e
    split at e
    · rename_i h
      cases e
      exact .inl ⟨_, _, Rs.dp (by omega) rx, Rs.dp (by omega) ry, dp_shaped h.1, dp_shaped h.2, q⟩
    · obtain ⟨u, w, rfl, rfl, rfl⟩ := strs2_inv e
      exact .inr ⟨u, w, rx, ry, q⟩
  | ne =>
    simp only [cop, eqD] at e
    split at e
    · rename_i h
      cases e
      exact .inl ⟨_, _, Rs.dp (by omega) rx, Rs.dp (by omega) ry, dp_shaped h.1, dp_shaped h.2, q⟩
    · obtain ⟨b0, e0, rfl⟩ := Option.map_eq_some_iff.mp e
      obtain ⟨u, w, rfl, rfl, rfl⟩ := strs2_inv e0
      exact .inr ⟨u, w, rx, ry, q⟩
  | lt =>
    simp only [cop] at e
    split at e
    · rename_i h
      cases e
      have h := ord h
      exact ⟨_, _, Rs.dp (by omega) rx, Rs.dp (by omega) ry, h.1.1, nn h.1.2, by rw [(dp_lay dx (by omega)).2]; exact h.2.1, q⟩
    · cases e
  | gt =>
    simp only [cop] at e
    split at e
    · rename_i h
      cases e
      unfold flatOk at h
      rw [Bool.and_eq_true, Bool.and_eq_true] at h
      have g := ord h.1.1
      exact ⟨_, _, Rs.dp (by omega) rx, Rs.dp (by omega) ry, g.1.1, flat_pd h.1.2, flat_pd h.2, by rw [(dp_lay dx (by omega)).2]; exact g.2.1, q⟩
    · cases e
  | le =>
    simp only [cop] at e
    split at e
    · rename_i h
      cases e
      unfold flatOk at h
      rw [Bool.and_eq_true, Bool.and_eq_true] at h
      have g := ord h.1.1
      exact ⟨_, _, Rs.dp (by omega) rx, Rs.dp (by omega) ry, g.1.1, flat_pd h.1.2, flat_pd h.2, by rw [(dp_lay dx (by omega)).2]; exact g.2.1, q⟩
    · cases e
  | ge =>
    simp only [cop] at e
    split at e
    · rename_i h
      cases e
      unfold flatOk at h
      rw [Bool.and_eq_true, Bool.and_eq_true] at h
      have g := ord h.1.1
      exact ⟨_, _, Rs.dp (by omega) rx, Rs.dp (by omega) ry, g.1.1, flat_pd h.1.2, flat_pd h.2, by rw [(dp_lay dx (by omega)).2]; exact g.2.1, q⟩
    · cases e
  | inn =>
    cases dy with
    | list ys =>
      simp only [cop, memD] at e
      split at e
      · rename_i h
        cases e
        rw [← any_pdL] at q
        exact .inl ⟨_, _, Rs.dp (by omega) rx, Rs.dpList h.2 ry, dp_shaped h.1, (mem_shaped h.2).1, q⟩
      · cases e
    | tup ys =>
      simp only [cop, memD] at e
      split at e
      · rename_i h
        cases e
        rw [← any_pdL] at q
        exact .inr ⟨_, _, Rs.dp (by omega) rx, Rs.dpTup h.2 ry, dp_shaped h.1, (mem_shaped h.2).2, q⟩
      · cases e
    | _ => cases dx <;> cases e
  | nin =>
    cases dy with
    | list ys =>
      simp only [cop, memD] at e
      split at e
      · rename_i h
        cases e
        rw [← any_pdL] at q
        exact .inl ⟨_, _, Rs.dp (by omega) rx, Rs.dpList h.2 ry, dp_shaped h.1, (mem_shaped h.2).1, q⟩
      · cases e
    | tup ys =>
      simp only [cop, memD] at e
      split at e
      · rename_i h
        cases e
        rw [← any_pdL] at q
        exact .inr ⟨_, _, Rs.dp (by omega) rx, Rs.dpTup h.2 ry, dp_shaped h.1, (mem_shaped h.2).2, q⟩
      · cases e
    | _ => cases dx <;> cases e
end
end MP

/-! MP8: expressions. -/
namespace MP
open PySem PySem.Spec PyProof.Rows L2
section
variable {X : Cx} {ca : Nat → Option Addr} {F : FT} {cls : Nat → Nat} {e a b c : Expr} {es : List Expr} {pos : Pos} {A B C : E} {AS : EL} {mu : Bool}
abbrev PEv (X : Cx) (ca : Nat → Option Addr) (F : FT) (cls : Nat → Nat) (e : Expr) (A : E) : Prop := PE X e (tE X.K ca (ev F cls A))
abbrev PTv (X : Cx) (ca : Nat → Option Addr) (F : FT) (cls : Nat → Nat) (e : Expr) (A : E) : Prop := PT X e (tT X.K ca fun env M => tst (ev F cls A env M))
abbrev PWv (X : Cx) (ca : Nat → Option Addr) (F : FT) (cls : Nat → Nat) (e : Expr) (A : E) : Prop := PW X e (tT X.K ca fun env M => tst (ev F cls A env M))
abbrev PAv (X : Cx) (ca : Nat → Option Addr) (F : FT) (cls : Nat → Nat) (es : List Expr) (AS : EL) : Prop := PA X es (tL X.K ca (evL F cls AS))

theorem v_var {i : Nat} {x : Str} (hN : X.N[i]? = some x) (hv : Vis X.env.scope x) (hd : (x == ("__debug__" : Str)) = false) (hcd : (x == ("__classdict__" : Str)) = false) : PEv X ca F cls (.Name x pos) (.var i) := by
  refine PE.imp (pe_var hN hv hd hcd) fun σ H Q ⟨G, ρ, env, M, d, M', a0, h, q⟩ => ?_
  rw [ev] at h
  split at h
  · rename_i d0 e1
    cases h
    obtain ⟨v, e2, r⟩ := a0.en.at_ i d e1
    exact ⟨v, e2, q ρ v H .refl a0.ok r⟩
  · cases h
theorem v_lit {d : D} {v : V} (h : PE X e (tC v)) (hA : ∀ env M, ev F cls A env M = some (d, M)) (hr : ∀ G ρ H, Rp X.K G ρ H d v) : PEv X ca F cls e A := by
  refine PE.imp h fun σ H Q ⟨G, ρ, env, M, d', M', a0, e1, q⟩ => ?_
  rw [hA] at e1
  cases e1
  exact q ρ v H .refl a0.ok (hr _ _ _)
theorem v_non {j : Nat} : PEv X ca F cls (.Constant .none j pos) .non := v_lit (d := .non) pe_non (fun _ _ => by rw [ev]) fun _ _ _ => rfl
theorem v_bl {k : Bool} {j : Nat} : PEv X ca F cls (.Constant (.bool k) j pos) (.bl k) := v_lit (d := .bl k) pe_bl (fun _ _ => by rw [ev]) fun _ _ _ => rfl
theorem v_int {k : Int} {j : Nat} : PEv X ca F cls (.Constant (.int k) j pos) (.int k) := v_lit (d := .int k) pe_int (fun _ _ => by rw [ev]) fun _ _ _ => rfl
theorem v_str {k : Str} {j : Nat} : PEv X ca F cls (.Constant (.str k) j pos) (.str k) := v_lit (d := .str k) pe_str (fun _ _ => by rw [ev]) fun _ _ _ => rfl
theorem v_bin (o : BO) (ha : PEv X ca F cls a A) (hb : PEv X ca F cls b B) : PEv X ca F cls (.BinOp a (opOf o) b pos) (.bin mu o A B) := by
  refine PE.imp (pe_op (opB o) ha hb) fun σ H Q ⟨G, ρ, env, M, d, M', a0, h, q⟩ => ?_
  rw [ev] at h
  split at h
  · cases h
  · rename_i x M1 e1
    split at h
    · cases h
    · rename_i y M2 e2
      split at h
      · cases h
      · rename_i d0 e3
        exact tE.go a0 e1 fun ρ1 v1 H1 x1 a1 r1 => tE.go a1 e2 fun ρ2 v2 H2 x2 a2 r2 =>
          bop_ok a2.ok o e3 (a2.ok.rs (a1.mv x2 r1)) (a2.ok.rs r2) h fun ρ' v H' x3 k3 r3 => q ρ' v H' ((x1.trans x2).trans x3) k3 r3
theorem v_neg (ha : PEv X ca F cls a A) : PEv X ca F cls (.UnaryOp .USub a pos) (.neg A) := by
  refine PE.imp (pe_un un_neg ha) fun σ H Q ⟨G, ρ, env, M, d, M', a0, h, q⟩ => ?_
  rw [ev] at h
  split at h
  · rename_i i M1 e1
    cases h
    exact tE.go a0 e1 fun ρ1 v1 H1 x1 a1 r1 => ⟨i, r1, q ρ1 _ H1 x1 a1.ok rfl⟩
  · cases h

/-! ### truth -/
theorem truth_ok {K : PySem.W.Frag} {G : Addr → Prop} {ρ : List Addr} {M : Sto} {H : Hp} {d : D} {v : V} {k : Bool} (ok : Ok K ca G ρ M H) (r : Rp K (Fb G ρ M) ρ H d v) (e : truth M d = some k) : TruV K v H k := by
  have q := ok.rs r
  unfold truth at e
  generalize rd M d = d' at q e
  cases d' with
  | non =>
    cases e
    have z : v = .non := q
    subst z
    rfl
  | bl b =>
    cases e
    have z : v = .bl k := q
    subst z
    rfl
  | int i =>
    cases e
    have z : v = .int i := q
    subst z
    rfl
  | list xs =>
    cases e
    obtain ⟨a, vs, rfl, h1, _, h2⟩ := q
    refine .inl ⟨vs, SqL.of h1, ?_⟩
    have hl := h2.length
    cases xs <;> cases vs <;> first | rfl | (simp at hl)
  | tup xs =>
    cases e
    obtain ⟨a, vs, rfl, h1, _, h2⟩ := q
    refine .inr (.inl ⟨vs, h1, ?_⟩)
    have hl := h2.length
    cases xs <;> cases vs <;> first | rfl | (simp at hl)
  | str _ => cases e
  | dict _ => cases e
  | loc _ => cases e
  | fz _ => cases e
theorem tst_inv {r : Option (D × Sto)} {k : Bool} {M1 : Sto} (h : tst r = some (k, M1)) : ∃ x, r = some (x, M1) ∧ truth M1 x = some k := by
  unfold tst at h
  split at h
  · cases h
  · rename_i x M2
    split at h
    · cases h
    · rename_i k' e
      cases h
      exact ⟨x, rfl, e⟩
theorem tst_mk {r : Option (D × Sto)} {x : D} {k : Bool} {M1 : Sto} (e : r = some (x, M1)) (t : truth M1 x = some k) : tst r = some (k, M1) := by
  subst e
  simp only [tst, t]
/-- an expression whose test is its value's truth -/
theorem v_test (ha : PEv X ca F cls a A) (he : ∀ whole, isTrue a X.env whole = (do let v ← whole; standAt a.pos; holding [v] (truthy v))) : PTv X ca F cls a A := by
  refine PT.imp (pt_truth ha he) fun σ H Q ⟨G, ρ, env, M, k, M', a0, h, q⟩ => ?_
  obtain ⟨x, e1, e2⟩ := tst_inv h
  exact tE.go a0 e1 fun ρ1 v1 H1 x1 a1 r1 => ⟨k, truth_ok a1.ok r1 e2, q ρ1 H1 x1 a1.ok⟩
theorem not_inv {env : Env} {M : Sto} {d : D} {M' : Sto} (h : ev F cls (.not A) env M = some (d, M')) : ∃ x k, ev F cls A env M = some (x, M') ∧ truth M' x = some k ∧ d = .bl (!k) := by
  rw [ev] at h
  split at h
  · cases h
  · rename_i x M1 e1
    split at h
    · cases h
    · rename_i k e2
      cases h
      exact ⟨x, k, e1, e2, rfl⟩
theorem v_not (ha : PEv X ca F cls a A) : PEv X ca F cls (.UnaryOp .Not a pos) (.not A) := by
  refine PE.imp (pe_notT ha) fun σ H Q ⟨G, ρ, env, M, d, M', a0, h, q⟩ => ?_
  obtain ⟨x, k, e1, e2, rfl⟩ := not_inv h
  exact tE.go a0 e1 fun ρ1 v1 H1 x1 a1 r1 => ⟨k, truth_ok a1.ok r1 e2, q ρ1 _ H1 x1 a1.ok rfl⟩
theorem truth_bl {M : Sto} {b k : Bool} (e : truth M (.bl b) = some k) : k = b := by
  unfold truth rd at e
  exact (Option.some.inj e).symm
theorem t_not (ha : PTv X ca F cls a A) : PTv X ca F cls (.UnaryOp .Not a pos) (.not A) := by
  refine PT.imp (pt_not ha) fun σ H Q ⟨G, ρ, env, M, k, M', a0, h, q⟩ => ?_
  obtain ⟨x, e1, e2⟩ := tst_inv h
  obtain ⟨y, k', e3, e4, rfl⟩ := not_inv e1
  have z := truth_bl e2
  subst z
  exact tT.go a0 (tst_mk e3 e4) fun ρ1 H1 x1 a1 => q ρ1 H1 x1 a1.ok
/-! ### and, or -/
theorem and_inv {env : Env} {M : Sto} {d : D} {M' : Sto} (h : ev F cls (.and A B) env M = some (d, M')) : ∃ x M1 k, ev F cls A env M = some (x, M1) ∧ truth M1 x = some k ∧ (if k = true then ev F cls B env M1 = some (d, M') else d = x ∧ M' = M1) := by
  rw [ev] at h
  split at h
  · cases h
  · rename_i x M1 e1
    split at h
    · cases h
    · rename_i e2
      exact ⟨x, M1, true, e1, e2, h⟩
    · rename_i e2
      cases h
      exact ⟨d, M', false, e1, e2, rfl, rfl⟩
theorem or_inv {env : Env} {M : Sto} {d : D} {M' : Sto} (h : ev F cls (.or A B) env M = some (d, M')) : ∃ x M1 k, ev F cls A env M = some (x, M1) ∧ truth M1 x = some k ∧ (if k = true then d = x ∧ M' = M1 else ev F cls B env M1 = some (d, M')) := by
  rw [ev] at h
  split at h
  · cases h
  · rename_i x M1 e1
    split at h
    · cases h
    · rename_i e2
      cases h
      exact ⟨d, M', true, e1, e2, rfl, rfl⟩
    · rename_i e2
      exact ⟨x, M1, false, e1, e2, h⟩
variable {rest : List Expr}
theorem v_and (ha : PEv X ca F cls a A) (hb : PEv X ca F cls (.BoolOp .And (b :: rest) pos) B) : PEv X ca F cls (.BoolOp .And (a :: b :: rest) pos) (.and A B) := by
  refine PE.imp (pe_andT ha hb) fun σ H Q ⟨G, ρ, env, M, d, M', a0, h, q⟩ => ?_
  obtain ⟨x, M1, k, e1, e2, e3⟩ := and_inv h
  refine tE.go a0 e1 fun ρ1 v1 H1 x1 a1 r1 => ⟨k, truth_ok a1.ok r1 e2, ?_⟩
  cases k with
  | true => exact tE.go a1 e3 fun ρ2 v2 H2 x2 a2 r2 => q ρ2 v2 H2 (x1.trans x2) a2.ok r2
  | false =>
    obtain ⟨rfl, rfl⟩ := e3
    exact q ρ1 v1 H1 x1 a1.ok r1
theorem v_or (ha : PEv X ca F cls a A) (hb : PEv X ca F cls (.BoolOp .Or (b :: rest) pos) B) : PEv X ca F cls (.BoolOp .Or (a :: b :: rest) pos) (.or A B) := by
  refine PE.imp (pe_orT ha hb) fun σ H Q ⟨G, ρ, env, M, d, M', a0, h, q⟩ => ?_
  obtain ⟨x, M1, k, e1, e2, e3⟩ := or_inv h
  refine tE.go a0 e1 fun ρ1 v1 H1 x1 a1 r1 => ⟨k, truth_ok a1.ok r1 e2, ?_⟩
  cases k with
  | false => exact tE.go a1 e3 fun ρ2 v2 H2 x2 a2 r2 => q ρ2 v2 H2 (x1.trans x2) a2.ok r2
  | true =>
    obtain ⟨rfl, rfl⟩ := e3
    exact q ρ1 v1 H1 x1 a1.ok r1
theorem w_and (ha : PTv X ca F cls a A) (hb : PWv X ca F cls (.BoolOp .And (b :: rest) pos) B) : PWv X ca F cls (.BoolOp .And (a :: b :: rest) pos) (.and A B) := by
  refine PW.imp (pw_and ha hb) fun σ H Q ⟨G, ρ, env, M, k0, M', a0, h, q⟩ => ?_
  obtain ⟨y, e0, e9⟩ := tst_inv h
  obtain ⟨x, M1, k, e1, e2, e3⟩ := and_inv e0
  refine tT.go a0 (tst_mk e1 e2) fun ρ1 H1 x1 a1 => ?_
  cases k with
  | true => exact tT.go a1 (tst_mk (show ev F cls B env M1 = some (y, M') from e3) e9) fun ρ2 H2 x2 a2 => q ρ2 H2 (x1.trans x2) a2.ok
  | false =>
    obtain ⟨rfl, rfl⟩ := e3
    rw [e2] at e9
    cases e9
    exact q ρ1 H1 x1 a1.ok
theorem w_or (ha : PTv X ca F cls a A) (hb : PWv X ca F cls (.BoolOp .Or (b :: rest) pos) B) : PWv X ca F cls (.BoolOp .Or (a :: b :: rest) pos) (.or A B) := by
  refine PW.imp (pw_or ha hb) fun σ H Q ⟨G, ρ, env, M, k0, M', a0, h, q⟩ => ?_
  obtain ⟨y, e0, e9⟩ := tst_inv h
  obtain ⟨x, M1, k, e1, e2, e3⟩ := or_inv e0
  refine tT.go a0 (tst_mk e1 e2) fun ρ1 H1 x1 a1 => ?_
  cases k with
  | false => exact tT.go a1 (tst_mk (show ev F cls B env M1 = some (y, M') from e3) e9) fun ρ2 H2 x2 a2 => q ρ2 H2 (x1.trans x2) a2.ok
  | true =>
    obtain ⟨rfl, rfl⟩ := e3
    rw [e2] at e9
    cases e9
    exact q ρ1 H1 x1 a1.ok

/-! ### comparisons -/
theorem cmp_inv {o : CO} {env : Env} {M : Sto} {d : D} {M' : Sto} (h : ev F cls (.cmp o A B) env M = some (d, M')) : ∃ x M1 y k, ev F cls A env M = some (x, M1) ∧ ev F cls B env M1 = some (y, M') ∧ cop o (rd M' x) (rd M' y) = some k ∧ d = .bl k := by
  rw [ev] at h
  split at h
  · cases h
  · rename_i x M1 e1
    split at h
    · cases h
    · rename_i y M2 e2
      split at h
      · cases h
      · rename_i k e3
        cases h
        exact ⟨x, M1, y, k, e1, e2, e3, rfl⟩
theorem cmp_run (o : CO) {K : PySem.W.Frag} {G : Addr → Prop} {ρ : List Addr} {M M1 M' : Sto} {H : Hp} {σ : L2.St} {env : Env} {x y : D} {k : Bool} {Q : VK} (a0 : At K ca G ρ M H σ env) (e1 : ev F cls A env M = some (x, M1)) (e2 : ev F cls B env M1 = some (y, M')) (e3 : cop o (rd M' x) (rd M' y) = some k)
    (q : ∀ ρ' H', Ext ρ M H ρ' M' H' → Ok K ca G ρ' M' H' → Q (.bl k) H') : tOp (rC K o) (tE K ca (ev F cls A)) (tE K ca (ev F cls B)) σ H Q :=
  tE.go a0 e1 fun ρ1 v1 H1 x1 a1 r1 => tE.go a1 e2 fun ρ2 v2 H2 x2 a2 r2 => cop_ok (F := Fb G ρ2 M') (ρ := ρ2) o e3 (a2.ok.rs (a1.mv x2 r1)) (a2.ok.rs r2) (q ρ2 H2 (x1.trans x2) a2.ok)
theorem v_cmp (o : CO) (hu : X.A.units + 65 < cLine) (hm : behindInMarks (copOf o) b = false) (ha : PEv X ca F cls a A) (hb : PEv X ca F cls b B) : PEv X ca F cls (.Compare a [copOf o] [b] pos) (.cmp o A B) := by
  refine PE.imp (pe_cmpR (opC hu o) ha hb hm) fun σ H Q ⟨G, ρ, env, M, d, M', a0, h, q⟩ => ?_
  obtain ⟨x, M1, y, k, e1, e2, e3, rfl⟩ := cmp_inv h
  exact cmp_run o a0 e1 e2 e3 fun ρ' H' x3 k3 => q ρ' _ H' x3 k3 rfl
theorem t_cmp (o : CO) (hu : X.A.units + 65 < cLine) (hm : behindInMarks (copOf o) b = false) (ha : PEv X ca F cls a A) (hb : PEv X ca F cls b B) : PTv X ca F cls (.Compare a [copOf o] [b] pos) (.cmp o A B) := by
  refine PT.imp (pt_cmpR (opC hu o) ha hb hm) fun σ H Q ⟨G, ρ, env, M, k0, M', a0, h, q⟩ => ?_
  obtain ⟨z, e0, e9⟩ := tst_inv h
  obtain ⟨x, M1, y, k, e1, e2, e3, rfl⟩ := cmp_inv e0
  have z := truth_bl e9
  subst z
  exact cmp_run o a0 e1 e2 e3 fun ρ' H' x3 k3 => ⟨k0, rfl, q ρ' H' x3 k3⟩
theorem chain_inv {o p : CO} {env : Env} {M : Sto} {d : D} {M' : Sto} (h : ev F cls (.chain o p A B C) env M = some (d, M')) : ∃ x M1 y M2 k, ev F cls A env M = some (x, M1) ∧ ev F cls B env M1 = some (y, M2) ∧ cop o (rd M2 x) (rd M2 y) = some k ∧
    (if k = true then ∃ z k', ev F cls C env M2 = some (z, M') ∧ cop p (rd M' y) (rd M' z) = some k' ∧ d = .bl k' else d = .bl false ∧ M' = M2) := by
  rw [ev] at h
  split at h
  · cases h
  · rename_i x M1 e1
    split at h
    · cases h
    · rename_i y M2 e2
      split at h
      · cases h
      · rename_i e3
        cases h
        exact ⟨x, M1, y, M', false, e1, e2, e3, rfl, rfl⟩
      · rename_i e3
        split at h
        · cases h
        · rename_i z M3 e4
          split at h
          · cases h
          · rename_i k' e5
            cases h
            exact ⟨x, M1, y, M2, true, e1, e2, e3, z, k', e4, e5, rfl⟩
theorem chain_run (o p : CO) {K : PySem.W.Frag} {G : Addr → Prop} {ρ : List Addr} {M M' : Sto} {H : Hp} {σ : L2.St} {env : Env} {d : D} {Q : VK} (a0 : At K ca G ρ M H σ env) (h : ev F cls (.chain o p A B C) env M = some (d, M'))
    (q : ∀ ρ' H' k, d = .bl k → Ext ρ M H ρ' M' H' → Ok K ca G ρ' M' H' → Q (.bl k) H') : tChain (rC K o) (rC K p) (tE K ca (ev F cls A)) (tE K ca (ev F cls B)) (tE K ca (ev F cls C)) σ H Q := by
  obtain ⟨x, M1, y, M2, k, e1, e2, e3, e4⟩ := chain_inv h
  refine tE.go a0 e1 fun ρ1 v1 H1 x1 a1 r1 => tE.go a1 e2 fun ρ2 v2 H2 x2 a2 r2 => cop_ok (F := Fb G ρ2 M2) (ρ := ρ2) o e3 (a2.ok.rs (a1.mv x2 r1)) (a2.ok.rs r2) ⟨k, rfl, ?_⟩
  cases k with
  | false =>
    obtain ⟨rfl, rfl⟩ := e4
    exact q ρ2 H2 false rfl (x1.trans x2) a2.ok
  | true =>
    obtain ⟨z, k', e5, e6, rfl⟩ := e4
    exact tE.go a2 e5 fun ρ3 v3 H3 x3 a3 r3 => cop_ok (F := Fb G ρ3 M') (ρ := ρ3) p e6 (a3.ok.rs (a2.mv x3 r2)) (a3.ok.rs r3) (q ρ3 H3 k' rfl ((x1.trans x2).trans x3) a3.ok)
theorem v_chain (o p : CO) (hu : X.A.units + 65 < cLine) (hm : lastMarks [copOf o, copOf p] [b, c] = false) (ha : PEv X ca F cls a A) (hb : PEv X ca F cls b B) (hc : PEv X ca F cls c C) : PEv X ca F cls (.Compare a [copOf o, copOf p] [b, c] pos) (.chain o p A B C) := by
  refine PE.imp (pe_chain (opC hu o) (opC hu p) ha hb hc hm) fun σ H Q ⟨G, ρ, env, M, d, M', a0, h, q⟩ => ?_
  exact chain_run o p a0 h fun ρ' H' k e x k3 => by
    subst e
    exact q ρ' _ H' x k3 rfl
theorem t_chain (o p : CO) (hu : X.A.units + 65 < cLine) (hm : lastMarks [copOf o, copOf p] [b, c] = false) (ha : PEv X ca F cls a A) (hb : PEv X ca F cls b B) (hc : PEv X ca F cls c C) : PTv X ca F cls (.Compare a [copOf o, copOf p] [b, c] pos) (.chain o p A B C) := by
  refine PT.imp (pt_chain (opC hu o) (opC hu p) ha hb hc hm) fun σ H Q ⟨G, ρ, env, M, k0, M', a0, h, q⟩ => ?_
  obtain ⟨z, e0, e9⟩ := tst_inv h
  exact chain_run o p a0 e0 fun ρ' H' k e x k3 => by
    subst e
    have z := truth_bl e9
    subst z
    exact ⟨_, rfl, q ρ' H' x k3⟩
theorem isN_inv {ng : Bool} {env : Env} {M : Sto} {d : D} {M' : Sto} (h : ev F cls (.isN ng A) env M = some (d, M')) : ∃ x, ev F cls A env M = some (x, M') ∧ ((x = .non ∧ d = .bl (!ng)) ∨ (x ≠ .non ∧ d = .bl ng)) := by
  rw [ev] at h
  split at h
  · cases h
  · rename_i e1
    cases h
    exact ⟨.non, e1, .inl ⟨rfl, rfl⟩⟩
  · rename_i x M1 hx e1
    cases h
    exact ⟨x, e1, .inr ⟨fun z => hx z, rfl⟩⟩
theorem Rp.non_iff {K : PySem.W.Frag} {F : Addr → Prop} {ρ : List Addr} {H : Hp} {d : D} {v : V} (r : Rp K F ρ H d v) : v = .non ↔ d = .non := by
  cases d with
  | non => exact ⟨fun _ => rfl, fun _ => r⟩
  | bl b =>
    have z : v = .bl b := r
    subst z
    exact ⟨fun z => (nomatch z), fun z => (nomatch z)⟩
  | int b =>
    have z : v = .int b := r
    subst z
    exact ⟨fun z => (nomatch z), fun z => (nomatch z)⟩
  | str b =>
    have z : v = .str b := r
    subst z
    exact ⟨fun z => (nomatch z), fun z => (nomatch z)⟩
  | list _ =>
    obtain ⟨a, vs, rfl, _⟩ := r
    exact ⟨fun z => (nomatch z), fun z => (nomatch z)⟩
  | tup _ =>
    obtain ⟨a, vs, rfl, _⟩ := r
    exact ⟨fun z => (nomatch z), fun z => (nomatch z)⟩
  | dict _ =>
    obtain ⟨a, vs, rfl, _⟩ := r
    exact ⟨fun z => (nomatch z), fun z => (nomatch z)⟩
  | loc _ =>
    obtain ⟨a, rfl, _⟩ := r
    exact ⟨fun z => (nomatch z), fun z => (nomatch z)⟩
  | fz _ =>
    obtain ⟨a, vs, rfl, _⟩ := r
    exact ⟨fun z => (nomatch z), fun z => (nomatch z)⟩
theorem isN_run {ng : Bool} {K : PySem.W.Frag} {G : Addr → Prop} {ρ : List Addr} {M M' : Sto} {H : Hp} {σ : L2.St} {env : Env} {d : D} {Q : VK} (a0 : At K ca G ρ M H σ env) (h : ev F cls (.isN ng A) env M = some (d, M'))
    (q : ∀ ρ' H' k, d = .bl k → Ext ρ M H ρ' M' H' → Ok K ca G ρ' M' H' → Q (.bl k) H') : tE K ca (ev F cls A) σ H fun x H1 => Q (.bl (if ng then !decide (x = .non) else decide (x = .non))) H1 := by
  obtain ⟨x, e1, e2⟩ := isN_inv h
  refine tE.go a0 e1 fun ρ1 v1 H1 x1 a1 r1 => ?_
  have z := r1.non_iff
  refine q ρ1 H1 _ ?_ x1 a1.ok
  rcases e2 with ⟨e, e'⟩ | ⟨e, e'⟩
  · rw [e', decide_eq_true (z.mpr e)]
    cases ng <;> rfl
  · rw [e', decide_eq_false (fun w => e (z.mp w))]
    cases ng <;> rfl
theorem v_is {j : Nat} {pos' : Pos} (ha : PEv X ca F cls a A) : PEv X ca F cls (.Compare a [.Is] [.Constant .none j pos'] pos) (.isN false A) :=
  PE.imp (pe_cmp (pc_isN ha)) fun σ H Q ⟨G, ρ, env, M, d, M', a0, h, q⟩ => isN_run a0 h fun ρ' H' k e x k3 => by subst e; exact q ρ' _ H' x k3 rfl
theorem v_isnot {j : Nat} {pos' : Pos} (ha : PEv X ca F cls a A) : PEv X ca F cls (.Compare a [.IsNot] [.Constant .none j pos'] pos) (.isN true A) :=
  PE.imp (pe_cmp (pc_notN ha)) fun σ H Q ⟨G, ρ, env, M, d, M', a0, h, q⟩ => isN_run a0 h fun ρ' H' k e x k3 => by subst e; exact q ρ' _ H' x k3 rfl
theorem t_is {j : Nat} {pos' : Pos} (ha : PEv X ca F cls a A) : PTv X ca F cls (.Compare a [.Is] [.Constant .none j pos'] pos) (.isN false A) :=
  PT.imp (pt_cmp (pc_isN ha)) fun σ H Q ⟨G, ρ, env, M, k0, M', a0, h, q⟩ => by
    obtain ⟨z, e0, e9⟩ := tst_inv h
    exact isN_run (Q := fun x H1 => ∃ c, x = .bl c ∧ Q c H1) a0 e0 fun ρ' H' k e x k3 => by
      subst e
      have z := truth_bl e9
      subst z
      exact ⟨_, rfl, q ρ' H' x k3⟩
theorem t_isnot {j : Nat} {pos' : Pos} (ha : PEv X ca F cls a A) : PTv X ca F cls (.Compare a [.IsNot] [.Constant .none j pos'] pos) (.isN true A) :=
  PT.imp (pt_cmp (pc_notN ha)) fun σ H Q ⟨G, ρ, env, M, k0, M', a0, h, q⟩ => by
    obtain ⟨z, e0, e9⟩ := tst_inv h
    exact isN_run (Q := fun x H1 => ∃ c, x = .bl c ∧ Q c H1) a0 e0 fun ρ' H' k e x k3 => by
      subst e
      have z := truth_bl e9
      subst z
      exact ⟨_, rfl, q ρ' H' x k3⟩
theorem ife_inv {env : Env} {M : Sto} {d : D} {M' : Sto} (h : ev F cls (.ife C A B) env M = some (d, M')) : ∃ M1 k, tst (ev F cls C env M) = some (k, M1) ∧ (if k = true then ev F cls A env M1 else ev F cls B env M1) = some (d, M') := by
  rw [ev] at h
  split at h
  · cases h
  · rename_i x M1 e1
    split at h
    · cases h
    · rename_i e2
      exact ⟨M1, true, tst_mk e1 e2, h⟩
    · rename_i e2
      exact ⟨M1, false, tst_mk e1 e2, h⟩
theorem v_ife (hc : PTv X ca F cls c C) (ha : PEv X ca F cls a A) (hb : PEv X ca F cls b B) : PEv X ca F cls (.IfExp c a b pos) (.ife C A B) := by
  refine PE.imp (pe_ifExp hc ha hb) fun σ H Q ⟨G, ρ, env, M, d, M', a0, h, q⟩ => ?_
  obtain ⟨M1, k, e1, e2⟩ := ife_inv h
  refine tT.go a0 e1 fun ρ1 H1 x1 a1 => ?_
  cases k with
  | true => exact tE.go a1 e2 fun ρ2 v2 H2 x2 a2 r2 => q ρ2 v2 H2 (x1.trans x2) a2.ok r2
  | false => exact tE.go a1 e2 fun ρ2 v2 H2 x2 a2 r2 => q ρ2 v2 H2 (x1.trans x2) a2.ok r2
theorem pt_ifE {c a b : Expr} {tc ta tb : TT} (hc : PT X c tc) (ha : PT X a ta) (hb : PT X b tb) : PT X (.IfExp c a b pos) fun σ H Q => tc σ H fun k H1 => if k = true then ta σ H1 Q else tb σ H1 Q := by
  refine ⟨fun pins s σ H Q I h => ?_⟩
  refine isTrue_IfExp (thn (hc.run pins s σ H _ I h) fun d s1 ⟨H1, I1, q1⟩ => ?_)
  cases d with
  | true => exact ha.run pins s1 σ H1 Q I1 q1
  | false => exact hb.run pins s1 σ H1 Q I1 q1
theorem t_ife (hc : PTv X ca F cls c C) (ha : PTv X ca F cls a A) (hb : PTv X ca F cls b B) : PTv X ca F cls (.IfExp c a b pos) (.ife C A B) := by
  refine PT.imp (pt_ifE hc ha hb) fun σ H Q ⟨G, ρ, env, M, k0, M', a0, h, q⟩ => ?_
  obtain ⟨z, e0, e9⟩ := tst_inv h
  obtain ⟨M1, k, e1, e2⟩ := ife_inv e0
  refine tT.go a0 e1 fun ρ1 H1 x1 a1 => ?_
  cases k with
  | true => exact tT.go a1 (tst_mk (show ev F cls A env M1 = some (z, M') from e2) e9) fun ρ2 H2 x2 a2 => q ρ2 H2 (x1.trans x2) a2.ok
  | false => exact tT.go a1 (tst_mk (show ev F cls B env M1 = some (z, M') from e2) e9) fun ρ2 H2 x2 a2 => q ρ2 H2 (x1.trans x2) a2.ok
end
end MP

/-! MP9: lists of arguments, displays, places, slices, built-ins. -/
namespace MP
open PySem PySem.Spec PyProof.Rows L2
section
variable {X : Cx} {ca : Nat → Option Addr} {F : FT} {cls : Nat → Nat} {e a b c : Expr} {es : List Expr} {pos p : Pos} {A B C : E} {AS : EL} {mu : Bool}
theorem PE.or {t1 t2 : TE} (h1 : PE X e t1) (h2 : PE X e t2) : PE X e fun σ H Q => t1 σ H Q ∨ t2 σ H Q := ⟨fun pins s σ H Q I h => h.elim (h1.run pins s σ H Q I) (h2.run pins s σ H Q I)⟩
theorem v_anil : PAv X ca F cls [] .nil := PA.imp pa_nil fun σ H Q ⟨G, ρ, env, M, d, M', a0, h, q⟩ => by
  rw [evL] at h
  cases h
  exact q ρ [] H .refl a0.ok rfl
theorem acons_inv {env : Env} {M : Sto} {ds : List D} {M' : Sto} (h : evL F cls (.cons A AS) env M = some (ds, M')) : ∃ d M1 r, ev F cls A env M = some (d, M1) ∧ evL F cls AS env M1 = some (r, M') ∧ ds = d :: r := by
  rw [evL] at h
  split at h
  · cases h
  · rename_i d M1 e1
    split at h
    · cases h
    · rename_i r M2 e2
      cases h
      exact ⟨d, M1, r, e1, e2, rfl⟩
theorem v_acons (ha : PEv X ca F cls e A) (hs : PAv X ca F cls es AS) (hst : starEach (e :: es) X.env = (false, eval e X.env) :: starEach es X.env) : PAv X ca F cls (e :: es) (.cons A AS) :=
  PA.imp (pa_cons ha hs hst) fun σ H Q ⟨G, ρ, env, M, d, M', a0, h, q⟩ => by
    obtain ⟨d, M1, r, e1, e2, rfl⟩ := acons_inv h
    exact tE.go a0 e1 fun ρ1 v1 H1 x1 a1 r1 => tL.go a1 e2 fun ρ2 v2 H2 x2 a2 r2 => q ρ2 (v1 :: v2) H2 (x1.trans x2) a2.ok ⟨v1, v2, rfl, a1.mv x2 r1, r2⟩
theorem v_tup {k : Nat} (hs : PAv X ca F cls es AS) : PEv X ca F cls (.Tuple es k pos) (.tup AS) :=
  PE.imp (pe_tup hs) fun σ H Q ⟨G, ρ, env, M, d, M', a0, h, q⟩ => by
    rw [ev] at h
    split at h
    · cases h
    · rename_i ds M1 e1
      split at h
      · rename_i hz
        cases h
        rw [lineEq] at hz
        exact tL.go a0 e1 fun ρ1 v1 H1 x1 a1 r1 => ⟨by rw [r1.length]; exact hz, fun p hp => mk_tup a1.ok (fun ρ' v H' x k r => q ρ' v H' (x1.trans x) k r) hz r1 hp⟩
      · cases h
theorem v_lst (hs : PAv X ca F cls es AS) : PEv X ca F cls (.List es pos) (.lst mu AS) :=
  PE.imp (pe_lst hs) fun σ H Q ⟨G, ρ, env, M, d, M', a0, h, q⟩ => by
    rw [ev] at h
    split at h
    · cases h
    · rename_i ds M1 e1
      split at h
      · rename_i hz
        rw [lineEq] at hz
        exact tL.go a0 e1 fun ρ1 v1 H1 x1 a1 r1 => ⟨by rw [r1.length]; exact hz, fun p hp => mk_list a1.ok h (fun ρ' v H' x k r => q ρ' v H' (x1.trans x) k r) hz r1 hp⟩
      · cases h

/-! ### places -/
theorem RpL.atI {K : PySem.W.Frag} {F : Addr → Prop} {ρ : List Addr} {H : Hp} {ds : List D} {vs : List V} {i : Int} {d : D} (r : RpL K F ρ H ds vs) (e : L2.atI ds i = some d) : ∃ v, L2.atI vs i = some v ∧ Rp K F ρ H d v := by
  unfold L2.atI at e ⊢
  rw [r.length]
  cases q : ixN ds.length i with
  | none => rw [q] at e; cases e
  | some j =>
    rw [q] at e
    exact RpL.get r e
theorem kvAt_ok {K : PySem.W.Frag} {F : Addr → Prop} {ρ : List Addr} {H : Hp} {k : Key} : ∀ {kvs : List (Key × D)} {us : List (Key × V)}, RpK K F ρ H kvs us → (∀ d, kvAt k kvs = some d → ∃ v, valV us k = some v ∧ Rp K F ρ H d v) ∧ (kvAt k kvs = none → valV us k = none)
  | [], us, h => by
    have z : us = [] := h
    subst z
    exact ⟨(fun d e => nomatch e), fun _ => rfl⟩
  | (q, d) :: r, us, h => by
    obtain ⟨v, w, rfl, h1, h2⟩ := h
    have ih := kvAt_ok (k := k) h2
    by_cases hq : q = k
    · rw [valV_pos (p := (q, v)) hq]
      simp only [kvAt, if_pos hq]
      exact ⟨(fun d' e => ⟨v, rfl, by cases e; exact h1⟩), (fun e => nomatch e)⟩
    · rw [valV_neg (p := (q, v)) hq]
      simp only [kvAt, if_neg hq]
      exact ih
theorem keyOf_ok {K : PySem.W.Frag} {F : Addr → Prop} {ρ : List Addr} {H : Hp} {d : D} {v : V} {k : Key} (e : MP.keyOf d = some k) (r : Rp K F ρ H d v) : v = kV k := by
  cases d with
  | int i =>
    cases e
    exact r
  | str x =>
    cases e
    exact r
  | _ => cases e
theorem idx_inv {env : Env} {M : Sto} {d : D} {M' : Sto} (h : ev F cls (.idx A B) env M = some (d, M')) : ∃ x M1 y, ev F cls A env M = some (x, M1) ∧ ev F cls B env M1 = some (y, M') ∧ getD_ (rd M' x) y = some d := by
  rw [ev] at h
  split at h
  · cases h
  · rename_i x M1 e1
    split at h
    · cases h
    · rename_i y M2 e2
      split at h
      · cases h
      · rename_i d0 e3
        cases h
        exact ⟨x, M1, y, e1, e2, e3⟩
theorem v_idx (hu : X.A.units + 1 < cLine) (ha : PEv X ca F cls a A) (hb : PEv X ca F cls b B) (hs : PlainIx b) : PEv X ca F cls (.Subscript a b pos) (.idx A B) := by
  refine PE.imp (PE.or (pe_ix ix_seq ha hb hs) (pe_dget hu ha hb hs)) fun σ H Q ⟨G, ρ, env, M, d, M', a0, h, q⟩ => ?_
  obtain ⟨x, M1, y, e1, e2, e3⟩ := idx_inv h
  cases z : rd M' x with
  | list xs =>
    rw [z] at e3
    cases y with
    | int i =>
      refine .inl (tE.go a0 e1 fun ρ1 v1 H1 x1 a1 r1 => tE.go a1 e2 fun ρ2 v2 H2 x2 a2 r2 => ?_)
      have rs := a2.ok.rs (a1.mv x2 r1)
      rw [z] at rs
      obtain ⟨p, vs, g1, g2, _, g4⟩ := rs
      obtain ⟨v, k1, k2⟩ := RpL.atI g4 e3
      exact .inl ⟨p, vs, i, v, g1, r2, SqL.of g2, k1, q ρ2 v H2 (x1.trans x2) a2.ok k2⟩
    | _ => cases e3
  | tup xs =>
    rw [z] at e3
    cases y with
    | int i =>
      refine .inl (tE.go a0 e1 fun ρ1 v1 H1 x1 a1 r1 => tE.go a1 e2 fun ρ2 v2 H2 x2 a2 r2 => ?_)
      have rs := a2.ok.rs (a1.mv x2 r1)
      rw [z] at rs
      obtain ⟨p, vs, g1, g2, _, g4⟩ := rs
      obtain ⟨v, k1, k2⟩ := RpL.atI g4 e3
      exact .inr (.inl ⟨p, vs, i, v, g1, r2, g2, k1, q ρ2 v H2 (x1.trans x2) a2.ok k2⟩)
    | _ => cases e3
  | dict kvs =>
    rw [z] at e3
    have e4 : ∃ k, MP.keyOf y = some k ∧ kvAt k kvs = some d := by
      simp only [getD_] at e3
      cases w : MP.keyOf y with
      | none => rw [w] at e3; cases e3
      | some k => rw [w] at e3; exact ⟨k, rfl, e3⟩
    obtain ⟨k, e5, e6⟩ := e4
    refine .inr (tE.go a0 e1 fun ρ1 v1 H1 x1 a1 r1 => tE.go a1 e2 fun ρ2 v2 H2 x2 a2 r2 => ?_)
    have rs := a2.ok.rs (a1.mv x2 r1)
    rw [z] at rs
    obtain ⟨p, us, g1, g2, g4⟩ := rs
    obtain ⟨v, k1, k2⟩ := (kvAt_ok g4).1 d e6
    exact ⟨p, v, g1, .inl ⟨us, k, g2, keyOf_ok e5 r2, k1.symm⟩, q ρ2 v H2 (x1.trans x2) a2.ok k2⟩
  | _ => rw [z] at e3; cases e3

/-! ### slices -/
def tO (K : PySem.W.Frag) (ca : Nat → Option Addr) (f : Env → Sto → Option (Option Int × Sto)) : TO := fun σ H Q => ∃ G ρ env M d M', At K ca G ρ M H σ env ∧ f env M = some (d, M') ∧
  ∀ ρ' H', Ext ρ M H ρ' M' H' → Ok K ca G ρ' M' H' → Q d H'
theorem tO.go {K : PySem.W.Frag} {G : Addr → Prop} {ρ : List Addr} {M M' : Sto} {H : Hp} {σ : L2.St} {env : Env} {f : Env → Sto → Option (Option Int × Sto)} {d : Option Int} (a : At K ca G ρ M H σ env) (e : f env M = some (d, M')) {Q : Option Int → Hp → Prop}
    (h : ∀ ρ' H', Ext ρ M H ρ' M' H' → At K ca G ρ' M' H' σ env → Q d H') : tO K ca f σ H Q :=
  ⟨G, ρ, env, M, d, M', a, e, fun ρ' H' x k => h ρ' H' x (a.to x k)⟩
abbrev POv (X : Cx) (ca : Nat → Option Addr) (F : FT) (cls : Nat → Nat) (e : Option Expr) (A : E) : Prop := PO X e (tO X.K ca fun env M => optI (isAbs A) M (ev F cls A env M))
theorem PO.imp {o : Option Expr} {t t' : TO} (h : PO X o t) (i : ∀ σ H Q, t' σ H Q → t σ H Q) : PO X o t' := ⟨fun pins s σ H Q I q => h.run pins s σ H Q I (i _ _ _ q)⟩
theorem v_onone : POv X ca F cls none .absent := PO.imp po_none fun σ H Q ⟨G, ρ, env, M, d, M', a0, h, q⟩ => by
  simp only [optI, isAbs, if_true] at h
  cases h
  exact q ρ H .refl a0.ok
theorem v_osome (hA : isAbs A = false) (ha : PEv X ca F cls a A) : POv X ca F cls (some a) A := PO.imp (po_some ha) fun σ H Q ⟨G, ρ, env, M, d, M', a0, h, q⟩ => by
  simp only [optI, hA, if_neg Bool.false_ne_true] at h
  split at h
  · rename_i i M1 e1
    cases h
    exact tE.go a0 e1 fun ρ1 v1 H1 x1 a1 r1 => ⟨i, r1, q ρ1 H1 x1 a1.ok⟩
  · cases h
def rSlc (K : PySem.W.Frag) : V → Option Int → Option Int → Hp → VK → Prop := fun x lo hi H Q => rSlL K x lo hi H Q ∨ rSlA K x lo hi H Q
theorem cut_ok {K : PySem.W.Frag} {F : Addr → Prop} {ρ : List Addr} {H : Hp} {ds : List D} {vs : List V} (lo hi : Option Int) (r : RpL K F ρ H ds vs) : RpL K F ρ H (cutD ds lo hi) (cutV vs lo hi) := by
  unfold cutD cutV
  rw [r.length]
  exact (r.drop _).take _
theorem cutD_length (ds : List D) (lo hi : Option Int) : (cutD ds lo hi).length ≤ ds.length := by
  unfold cutD
  rw [List.length_take, List.length_drop]
  omega
theorem v_slc {lo hi : Option Expr} {p2 : Pos} (ha : PEv X ca F cls a A) (hl : POv X ca F cls lo B) (hh : POv X ca F cls hi C) : PEv X ca F cls (.Subscript a (.Slice lo hi none p2) pos) (.slc mu A B C) := by
  refine PE.imp (pe_slice (sl_list.or sl_tupA) ha hl hh) fun σ H Q ⟨G, ρ, env, M, d, M', a0, h, q⟩ => ?_
  rw [ev] at h
  split at h
  · cases h
  · rename_i x M1 e1
    split at h
    · cases h
    · rename_i l M2 e2
      split at h
      · cases h
      · rename_i u M3 e3
        refine tE.go a0 e1 fun ρ1 v1 H1 x1 a1 r1 => tO.go a1 e2 fun ρ2 H2 x2 a2 => tO.go a2 e3 fun ρ3 H3 x3 a3 => ?_
        have r3 := a2.mv x3 (a1.mv x2 r1)
        have rs := a3.ok.rs r3
        have xx := (x1.trans x2).trans x3
        split at h
        · rename_i xs z
          rw [z] at rs
          obtain ⟨p, vs, g1, g2, g3, g4⟩ := rs
          exact .inl ⟨p, vs, g1, SqL.of g2, fun p' hp => mk_list a3.ok h (fun ρ' v H' x k r => q ρ' v H' (xx.trans x) k r) (Nat.le_trans (cutD_length _ _ _) g3) (cut_ok l u g4) hp⟩
        · rename_i xs z
          rw [z] at rs
          obtain ⟨p, vs, g1, g2, g3, g4⟩ := rs
          have g2' : SqL X.K H3 p vs := g2.elim (fun q => .inl (.inr q.1)) fun q => q.sq _
          exact .inl ⟨p, vs, g1, g2', fun p' hp => mk_list a3.ok h (fun ρ' v H' x k r => q ρ' v H' (xx.trans x) k r) (Nat.le_trans (cutD_length _ _ _) g3) (cut_ok l u g4) hp⟩
        · rename_i xs z
          cases h
          rw [z] at rs
          obtain ⟨p, vs, g1, g2, g3, g4⟩ := rs
          refine .inr ⟨p, vs, g1, g2, fun w => ?_, fun _ p' hp => mk_tup a3.ok (fun ρ' v H' x k r => q ρ' v H' (xx.trans x) k r) (Nat.le_trans (cutD_length _ _ _) g3) (cut_ok l u g4) hp⟩
          have ecut : cutD xs l u = xs := by
            unfold cutD
            rw [← g4.length, w.1, w.2, List.drop_zero, Nat.sub_zero, g4.length, List.take_length]
          rw [ecut] at q
          exact q ρ3 _ H3 xx a3.ok ⟨p, vs, rfl, g2, g3, g4⟩
        · cases h

/-! ### built-ins -/
/-- what a built-in does with read arguments -/
def BOk (X : Cx) (ca : Nat → Option Addr) (b : Blt) (r : List V → Hp → VK → Prop) : Prop :=
  ∀ (G : Addr → Prop) (ρ : List Addr) (M : Sto) (H : Hp) (ds : List D) (vs : List V) (mu : Bool) (d d' : D) (M' : Sto) (Q : VK), Ok X.K ca G ρ M H → RpL X.K (Fb G ρ M) ρ H ds vs → blt1 b M (ds.map (rd M)) = some d → mk mu d M = some (d', M') → Kont X.K ca G ρ M H M' d' Q → r vs H Q
theorem v_blt {b : Blt} {r : List V → Hp → VK → Prop} (h : PE X e (tCB r (tL X.K ca (evL F cls AS)))) (hb : BOk X ca b r) : PEv X ca F cls e (.blt mu b AS) :=
  PE.imp h fun σ H Q ⟨G, ρ, env, M, d, M', a0, h, q⟩ => by
    rw [ev] at h
    split at h
    · cases h
    · rename_i ds M1 e1
      split at h
      · cases h
      · rename_i d0 e2
        exact tL.go a0 e1 fun ρ1 v1 H1 x1 a1 r1 => hb G ρ1 M1 H1 ds v1 mu d0 d M' Q a1.ok r1 e2 h fun ρ' v H' x k r => q ρ' v H' (x1.trans x) k r
section
variable {K : PySem.W.Frag} {G : Addr → Prop} {ρ : List Addr} {M M' : Sto} {H : Hp} {ds : List D} {vs : List V} {Q : VK} {d' : D}
theorem int_out {i : Int} {mu : Bool} (ok : Ok K ca G ρ M H) (e : mk mu (.int i) M = some (d', M')) (h : Kont K ca G ρ M H M' d' Q) : Q (.int i) H := by
  obtain ⟨rfl, rfl⟩ := mk_flat (by intro _ z; cases z) (by intro _ z; cases z) e
  exact kont_here ok h rfl
theorem bl_out {i : Bool} {mu : Bool} (ok : Ok K ca G ρ M H) (e : mk mu (.bl i) M = some (d', M')) (h : Kont K ca G ρ M H M' d' Q) : Q (.bl i) H := by
  obtain ⟨rfl, rfl⟩ := mk_flat (by intro _ z; cases z) (by intro _ z; cases z) e
  exact kont_here ok h rfl
theorem one_arg {x : D} (r : RpL K (Fb G ρ M) ρ H ds vs) (ok : Ok K ca G ρ M H) (e : ds.map (rd M) = [x]) : ∃ d v, ds = [d] ∧ vs = [v] ∧ rd M d = x ∧ Rp K (Fb G ρ M) ρ H d v ∧ Rs K (Fb G ρ M) ρ H x v := by
  match ds, e with
  | [d], e =>
    obtain ⟨v, w, rfl, h1, h2⟩ := r
    have z : w = [] := h2
    subst z
    have e' : rd M d = x := by simpa using e
    exact ⟨d, v, rfl, rfl, e', h1, e' ▸ ok.rs h1⟩
theorem two_args {x y : D} (r : RpL K (Fb G ρ M) ρ H ds vs) (ok : Ok K ca G ρ M H) (e : ds.map (rd M) = [x, y]) : ∃ v w, vs = [v, w] ∧ Rs K (Fb G ρ M) ρ H x v ∧ Rs K (Fb G ρ M) ρ H y w := by
  match ds, e with
  | [d, d2], e =>
    obtain ⟨v, w, rfl, h1, h2⟩ := r
    obtain ⟨v2, w2, rfl, h3, h4⟩ := h2
    have z : w2 = [] := h4
    subst z
    have e' : rd M d = x ∧ rd M d2 = y := by simpa using e
    exact ⟨v, v2, rfl, e'.1 ▸ ok.rs h1, e'.2 ▸ ok.rs h3⟩
end
theorem intsOf_eq : ∀ {ds : List D} {ns : List Int}, intsOf ds = some ns → ds = ns.map D.int
  | [], ns, h => by cases h; rfl
  | .int i :: r, ns, h => by
    rw [intsOf] at h
    cases q : intsOf r with
    | none => rw [q] at h; cases h
    | some ms =>
      rw [q] at h
      cases h
      rw [intsOf_eq q]; rfl
  | .non :: _, _, h => by cases h
  | .bl _ :: _, _, h => by cases h
  | .str _ :: _, _, h => by cases h
  | .list _ :: _, _, h => by cases h
  | .tup _ :: _, _, h => by cases h
  | .dict _ :: _, _, h => by cases h
  | .loc _ :: _, _, h => by cases h
  | .fz _ :: _, _, h => by cases h
theorem blsOf_eq : ∀ {ds : List D} {ns : List Bool}, blsOf ds = some ns → ds = ns.map D.bl
  | [], ns, h => by cases h; rfl
  | .bl i :: r, ns, h => by
    rw [blsOf] at h
    cases q : blsOf r with
    | none => rw [q] at h; cases h
    | some ms =>
      rw [q] at h
      cases h
      rw [blsOf_eq q]; rfl
  | .non :: _, _, h => by cases h
  | .int _ :: _, _, h => by cases h
  | .str _ :: _, _, h => by cases h
  | .list _ :: _, _, h => by cases h
  | .tup _ :: _, _, h => by cases h
  | .dict _ :: _, _, h => by cases h
  | .loc _ :: _, _, h => by cases h
  | .fz _ :: _, _, h => by cases h
theorem b_len : BOk X ca .len (fun xs H Q => ∃ x n, xs = [x] ∧ LenV X.K x H n ∧ Q (.int n) H) := by
  intro G ρ M H ds vs mu d d' M' Q ok r e em h
  unfold blt1 at e
  split at e <;> try contradiction
  · rename_i xs _ q
    cases e
    obtain ⟨d0, v, rfl, rfl, z, r0, rs⟩ := one_arg r ok q
    obtain ⟨p, us, rfl, g1, g2, g3⟩ := rs
    exact ⟨_, us.length, rfl, .inl ⟨us, SqL.of g1, rfl⟩, by rw [g3.length]; exact int_out ok em h⟩
  · rename_i xs _ q
    cases e
    obtain ⟨d0, v, rfl, rfl, z, r0, rs⟩ := one_arg r ok q
    obtain ⟨p, us, rfl, g1, g2, g3⟩ := rs
    exact ⟨_, us.length, rfl, .inr ⟨us, g1, rfl⟩, by rw [g3.length]; exact int_out ok em h⟩
theorem b_abs : BOk X ca .abs (fun xs H Q => ∃ i, xs = [.int i] ∧ Q (.int (if i < 0 then -i else i)) H) := by
  intro G ρ M H ds vs mu d d' M' Q ok r e em h
  unfold blt1 at e
  split at e <;> try contradiction
  rename_i i _ q
  cases e
  obtain ⟨d0, v, rfl, rfl, z, r0, rs⟩ := one_arg r ok q
  exact ⟨i, by rw [show v = .int i from rs], int_out ok em h⟩
theorem b_max2 : BOk X ca .max2 (fun xs H Q => ∃ i j, xs = [.int i, .int j] ∧ Q (.int (if j > i then j else i)) H) := by
  intro G ρ M H ds vs mu d d' M' Q ok r e em h
  unfold blt1 at e
  split at e <;> try contradiction
  rename_i i j _ q
  cases e
  obtain ⟨v, w, rfl, r1, r2⟩ := two_args r ok q
  exact ⟨i, j, by rw [show v = .int i from r1, show w = .int j from r2], int_out ok em h⟩
theorem b_min2 : BOk X ca .min2 (fun xs H Q => ∃ i j, xs = [.int i, .int j] ∧ Q (.int (if j < i then j else i)) H) := by
  intro G ρ M H ds vs mu d d' M' Q ok r e em h
  unfold blt1 at e
  split at e <;> try contradiction
  rename_i i j _ q
  cases e
  obtain ⟨v, w, rfl, r1, r2⟩ := two_args r ok q
  exact ⟨i, j, by rw [show v = .int i from r1, show w = .int j from r2], int_out ok em h⟩
theorem b_int : BOk X ca .int (fun xs H Q => (∃ i, xs = [.int i] ∧ Q (.int i) H) ∨ ∃ k, xs = [.bl k] ∧ Q (.int (if k then 1 else 0)) H) := by
  intro G ρ M H ds vs mu d d' M' Q ok r e em h
  unfold blt1 at e
  split at e <;> try contradiction
  · rename_i i _ q
    cases e
    obtain ⟨d0, v, rfl, rfl, z, r0, rs⟩ := one_arg r ok q
    exact .inl ⟨i, by rw [show v = .int i from rs], int_out ok em h⟩
  · rename_i i _ q
    cases e
    obtain ⟨d0, v, rfl, rfl, z, r0, rs⟩ := one_arg r ok q
    exact .inr ⟨i, by rw [show v = .bl i from rs], int_out ok em h⟩
/-- sum, of a list or a tuple -/
def rSumT (K : PySem.W.Frag) : List V → Hp → VK → Prop := fun vs H Q => ∃ (a : Addr) (ns : List Int), vs = [V.ref a] ∧ SqT K H a (ns.map V.int) ∧ Q (.int ns.sum) H
theorem cr_sumT (hc : X.calm = true) : CallR X (.builtin "sum") (rSumT X.K) := by
  intro pins s σ H vs us Q I r h
  obtain ⟨a, ns, rfl, hs, q⟩ := h
  obtain ⟨its, rv, ht, _⟩ := I.tuple hs
  rw [Vals.ref1 r]
  obtain ⟨xs, e⟩ := rv.ints.allInts.items
  have hn : numsOf (intItems xs).toList = ns := by rw [← e]; exact rv.ints.numsOf
  rw [nums_intItems] at hn
  rw [e] at ht
  refine PySem.W.ktm_sumG (I.ok.hd hc) ht fun h' tk t' hk => ?_
  refine ⟨.int ns.sum, H, I.kept hk, ⟨t', ?_⟩, q⟩
  rw [preSum_eq, List.take_of_length_le (by simp), hn]
def rSumA (K : PySem.W.Frag) : List V → Hp → VK → Prop := fun vs H Q => rSum K vs H Q ∨ rSumT K vs H Q
theorem cr_sumA (hc : X.calm = true) : CallR X (.builtin "sum") (rSumA X.K) := fun pins s σ H vs us Q I r h => h.elim (cr_sum hc pins s σ H vs us Q I r) (cr_sumT hc pins s σ H vs us Q I r)
theorem b_sum : BOk X ca .sum (rSumA X.K) := by
  intro G ρ M H ds vs mu d d' M' Q ok r e em h
  unfold blt1 at e
  split at e <;> try contradiction
  · rename_i xs _ q
    obtain ⟨d0, v, rfl, rfl, z, r0, rs⟩ := one_arg r ok q
    obtain ⟨p, us, rfl, g1, g2, g3⟩ := rs
    cases w : intsOf xs with
    | none => rw [w] at e; cases e
    | some ns =>
      rw [w] at e
      cases e
      rw [intsOf_eq w] at g3
      have z := RpL.ints g3
      subst z
      exact .inl ⟨p, ns, rfl, SqL.of g1, int_out ok em h⟩
  · rename_i xs _ q
    obtain ⟨d0, v, rfl, rfl, z, r0, rs⟩ := one_arg r ok q
    obtain ⟨p, us, rfl, g1, g2, g3⟩ := rs
    cases w : intsOf xs with
    | none => rw [w] at e; cases e
    | some ns =>
      rw [w] at e
      cases e
      rw [intsOf_eq w] at g3
      have z := RpL.ints g3
      subst z
      exact .inr ⟨p, ns, rfl, g1, int_out ok em h⟩
theorem b_any : BOk X ca .any (rAny X.K) := by
  intro G ρ M H ds vs mu d d' M' Q ok r e em h
  unfold blt1 at e
  split at e <;> try contradiction
  rename_i xs _ q
  obtain ⟨d0, v, rfl, rfl, z, r0, rs⟩ := one_arg r ok q
  obtain ⟨p, us, rfl, g1, g2, g3⟩ := rs
  cases w : blsOf xs with
  | none => rw [w] at e; cases e
  | some ns =>
    rw [w] at e
    cases e
    rw [blsOf_eq w] at g3
    have z := RpL.bls g3
    subst z
    exact ⟨p, ns, rfl, SqL.of g1, bl_out ok em h⟩
theorem b_all : BOk X ca .all (rAll X.K) := by
  intro G ρ M H ds vs mu d d' M' Q ok r e em h
  unfold blt1 at e
  split at e <;> try contradiction
  rename_i xs _ q
  obtain ⟨d0, v, rfl, rfl, z, r0, rs⟩ := one_arg r ok q
  obtain ⟨p, us, rfl, g1, g2, g3⟩ := rs
  cases w : blsOf xs with
  | none => rw [w] at e; cases e
  | some ns =>
    rw [w] at e
    cases e
    rw [blsOf_eq w] at g3
    have z := RpL.bls g3
    subst z
    exact ⟨p, ns, rfl, SqL.of g1, bl_out ok em h⟩
theorem leastI_ok : ∀ (r : List Int) (n m : Int), m ∈ n :: r → (∀ y, y ∈ n :: r → m ≤ y) → m = leastI n r
  | [], n, m, h, _ => by simpa [leastI] using h
  | x :: r, n, m, h, l => by
    rw [leastI]
    have hn := l n List.mem_cons_self
    have hx := l x (List.mem_cons_of_mem _ List.mem_cons_self)
    refine leastI_ok r _ m ?_ fun y hy => ?_
    · simp only [List.mem_cons] at h ⊢
      rcases h with h | h | h
      · split
        · exact .inl (by omega)
        · exact .inl h
      · split
        · exact .inl h
        · exact .inl (by omega)
      · exact .inr h
    · rcases List.mem_cons.mp hy with z | z
      · subst z; split <;> assumption
      · exact l y (List.mem_cons_of_mem _ (List.mem_cons_of_mem _ z))
theorem mostI_ok : ∀ (r : List Int) (n m : Int), m ∈ n :: r → (∀ y, y ∈ n :: r → y ≤ m) → m = mostI n r
  | [], n, m, h, _ => by simpa [mostI] using h
  | x :: r, n, m, h, l => by
    rw [mostI]
    have hn := l n List.mem_cons_self
    have hx := l x (List.mem_cons_of_mem _ List.mem_cons_self)
    refine mostI_ok r _ m ?_ fun y hy => ?_
    · simp only [List.mem_cons] at h ⊢
      rcases h with h | h | h
      · split
        · exact .inl (by omega)
        · exact .inl h
      · split
        · exact .inl h
        · exact .inl (by omega)
      · exact .inr h
    · rcases List.mem_cons.mp hy with z | z
      · subst z; split <;> assumption
      · exact l y (List.mem_cons_of_mem _ (List.mem_cons_of_mem _ z))
theorem b_min : BOk X ca .min (rMin X.K) := by
  intro G ρ M H ds vs mu d d' M' Q ok r e em h
  unfold blt1 at e
  split at e <;> try contradiction
  rename_i xs _ q
  obtain ⟨d0, v, rfl, rfl, z, r0, rs⟩ := one_arg r ok q
  obtain ⟨p, us, rfl, g1, g2, g3⟩ := rs
  cases w : intsOf xs with
  | none => rw [w] at e; cases e
  | some ns =>
    rw [w] at e
    rw [intsOf_eq w] at g3
    have z := RpL.ints g3
    subst z
    cases ns with
    | nil => cases e
    | cons n r' =>
      cases e
      exact ⟨p, _, rfl, SqL.of g1, by simp, fun m h1 h2 => by rw [leastI_ok r' n m h1 h2]; exact int_out ok em h⟩
theorem b_max : BOk X ca .max (rMax X.K) := by
  intro G ρ M H ds vs mu d d' M' Q ok r e em h
  unfold blt1 at e
  split at e <;> try contradiction
  rename_i xs _ q
  obtain ⟨d0, v, rfl, rfl, z, r0, rs⟩ := one_arg r ok q
  obtain ⟨p, us, rfl, g1, g2, g3⟩ := rs
  cases w : intsOf xs with
  | none => rw [w] at e; cases e
  | some ns =>
    rw [w] at e
    rw [intsOf_eq w] at g3
    have z := RpL.ints g3
    subst z
    cases ns with
    | nil => cases e
    | cons n r' =>
      cases e
      exact ⟨p, _, rfl, SqL.of g1, by simp, fun m h1 h2 => by rw [mostI_ok r' n m h1 h2]; exact int_out ok em h⟩
theorem b_list : BOk X ca .list (fun xs H Q => ∃ p ys, xs = [.ref p] ∧ (SqL X.K H p ys ∨ SqT X.K H p ys) ∧ ∀ l, H l = none → Q (.ref l) (upd H l (.lst ys))) := by
  intro G ρ M H ds vs mu d d' M' Q ok r e em h
  unfold blt1 at e
  split at e <;> try contradiction
  · rename_i xs _ q
    cases e
    obtain ⟨d0, v, rfl, rfl, z, r0, rs⟩ := one_arg r ok q
    obtain ⟨p, us, rfl, g1, g2, g3⟩ := rs
    exact ⟨p, us, rfl, .inl (SqL.of g1), fun l hl => mk_list ok em h g2 g3 hl⟩
  · rename_i xs _ q
    cases e
    obtain ⟨d0, v, rfl, rfl, z, r0, rs⟩ := one_arg r ok q
    obtain ⟨p, us, rfl, g1, g2, g3⟩ := rs
    exact ⟨p, us, rfl, .inr g1, fun l hl => mk_list ok em h g2 g3 hl⟩
theorem b_tuple : BOk X ca .tuple (fun xs H Q => ∃ p ys, xs = [.ref p] ∧ ((SqL X.K H p ys ∧ ∀ l, H l = none → Q (.ref l) (upd H l (.tup ys))) ∨ (SqT X.K H p ys ∧ Q (.ref p) H))) := by
  intro G ρ M H ds vs mu d d' M' Q ok r e em h
  unfold blt1 at e
  split at e <;> try contradiction
  · rename_i xs _ q
    cases e
    obtain ⟨rfl, rfl⟩ := mk_flat (by intro _ z; cases z) (by intro _ z; cases z) em
    obtain ⟨d0, v, rfl, rfl, z, r0, rs⟩ := one_arg r ok q
    obtain ⟨p, us, rfl, g1, g2, g3⟩ := rs
    exact ⟨p, us, rfl, .inl ⟨SqL.of g1, fun l hl => mk_tup ok h g2 g3 hl⟩⟩
  · rename_i xs _ q
    cases e
    obtain ⟨rfl, rfl⟩ := mk_flat (by intro _ z; cases z) (by intro _ z; cases z) em
    obtain ⟨d0, v, rfl, rfl, z, r0, rs⟩ := one_arg r ok q
    obtain ⟨p, us, rfl, g1, g2, g3⟩ := rs
    exact ⟨p, us, rfl, .inr ⟨g1, kont_here ok h ⟨p, us, rfl, g1, g2, g3⟩⟩⟩
end
end MP

/-! MP10: sorted, isinstance, append, calls. -/
namespace MP
open PySem PySem.Spec PyProof.Rows L2
section
variable {K : PySem.W.Frag} {F : Addr → Prop} {ρ : List Addr} {H : Hp}
def Rv (K : PySem.W.Frag) (F : Addr → Prop) (ρ : List Addr) (H : Hp) (u : Value) (d : D) : Prop := ∃ x : V, L2.RelV x u ∧ Rp K F ρ H d x
theorem each_in : ∀ {xs : List V} {us : List Value} {ds : List D}, Vals xs us → RpL K F ρ H ds xs → PySem.W.EachIs (Rv K F ρ H) us ds
  | _, _, [], .nil, _ => .nil
  | _, _, _ :: _, .nil, h => by
    obtain ⟨_, _, z, _⟩ := h
    cases z
  | _, _, [], .cons _ _, h => by
    have z : _ :: _ = ([] : List V) := h
    cases z
  | _, _, d :: ds, .cons r t, h => by
    obtain ⟨v, w, z, h1, h2⟩ := h
    cases z
    exact .cons ⟨_, r, h1⟩ (each_in t h2)
theorem each_out : ∀ {us : List Value} {ds : List D}, PySem.W.EachIs (Rv K F ρ H) us ds → ∃ xs, Vals xs us ∧ RpL K F ρ H ds xs
  | _, _, .nil => ⟨[], .nil, rfl⟩
  | _, _, .cons ⟨x, r, h⟩ t => by
    obtain ⟨xs, h1, h2⟩ := each_out t
    exact ⟨x :: xs, .cons r h1, x, xs, rfl, h, h2⟩
theorem dpL_mem : ∀ {ds : List D} {n : Nat}, dpL ds ≤ n → ∀ d ∈ ds, dp d ≤ n
  | [], _, _, d, h => nomatch h
  | x :: r, n, h, d, hd => by
    rw [dpL] at h
    rcases List.mem_cons.mp hd with z | z
    · subst z; omega
    · exact dpL_mem (by omega) d z
end
section
variable {X : Cx}
def rSrt (K : PySem.W.Frag) : List V → Hp → VK → Prop := fun vs H Q => ∃ (F : Addr → Prop) (ρ : List Addr) (a : Addr) (xs : List V) (ds : List D), vs = [.ref a] ∧ SqL K H a xs ∧ RpL K F ρ H ds xs ∧ sortOk ds = true ∧ ds.length ≤ sizeLine ∧
  ∀ ys p, RpL K F ρ H (sortD ds) ys → H p = none → Q (.ref p) (upd H p (.lst ys))
theorem nonTup_pd : ∀ {d : D}, nonTup d = true → pd d ≠ .none ∧ ∀ xs, pd d ≠ .tuple xs
  | .non, h => by cases h
  | .tup _, h => by cases h
  | .bl _, _ => by rw [pd]; exact ⟨(by intro w; cases w), (by intro xs w; cases w)⟩
  | .int _, _ => by rw [pd]; exact ⟨(by intro w; cases w), (by intro xs w; cases w)⟩
  | .str _, _ => by rw [pd]; exact ⟨(by intro w; cases w), (by intro xs w; cases w)⟩
  | .list _, _ => by rw [pd]; exact ⟨(by intro w; cases w), (by intro xs w; cases w)⟩
  | .dict _, _ => by rw [pd]; exact ⟨(by intro w; cases w), (by intro xs w; cases w)⟩
  | .loc _, _ => by rw [pd]; exact ⟨(by intro w; cases w), (by intro xs w; cases w)⟩
  | .fz _, _ => by rw [pd]; exact ⟨(by intro w; cases w), (by intro xs w; cases w)⟩
theorem sort_all {ds : List D} (h : sortOk ds = true) : PySem.W.AllAlike (ds.map pd) ∧ PySem.W.Sortable (ds.map pd) ∧ dpL ds ≤ 60 := by
  unfold sortOk at h
  rw [Bool.and_eq_true, Bool.and_eq_true, Bool.or_eq_true, decide_eq_true_eq, List.all_eq_true] at h
  obtain ⟨⟨h1, h2⟩, h3⟩ := h
  refine ⟨fun d hd e he => ?_, ?_, h3⟩
  · obtain ⟨d0, q0, rfl⟩ := List.mem_map.mp hd
    obtain ⟨e0, q1, rfl⟩ := List.mem_map.mp he
    exact List.all_eq_true.mp (h1 d0 q0) e0 q1
  · rcases h2 with h2 | h2
    · refine .inl fun d hd => ?_
      obtain ⟨d0, q0, rfl⟩ := List.mem_map.mp hd
      have z := List.all_eq_true.mp h2 d0 q0
      unfold hasItem at z
      split at z
      · rename_i x r
        exact ⟨pd x, pdL r, by rw [pd, pdL]⟩
      · cases z
    · refine .inr fun d hd => ?_
      obtain ⟨d0, q0, rfl⟩ := List.mem_map.mp hd
      have z := List.all_eq_true.mp h2 d0 q0
      exact nonTup_pd z
theorem opSrt (hu : X.A.units + 100 < cLine) : CallR X (.builtin "sorted") (rSrt X.K) := by
  intro pins s σ H vs us Q I r h
  obtain ⟨F, ρ, a, xs, ds, rfl, hs, hr, ho, hz, q⟩ := h
  obtain ⟨its, rv, pl, _⟩ := I.list hs
  rw [Vals.ref1 r]
  obtain ⟨hal, hk, hd⟩ := sort_all ho
  have e := each_in rv hr
  have er : PySem.W.EachIs (fun v b => ∃ as, Reads s.heap v (pd b) as) its ds := by
    have go : ∀ {us : List Value} {ds : List D}, PySem.W.EachIs (Rv X.K F ρ H) us ds → dpL ds ≤ 60 → PySem.W.EachIs (fun v b => ∃ as, Reads s.heap v (pd b) as) us ds := fun {us ds} h => by
      induction h with
      | nil => intro _; exact .nil
      | cons g _ ih =>
        intro hz
        rw [dpL] at hz
        obtain ⟨x, g1, g2⟩ := g
        exact .cons (Dp.reads I _ x _ (Rp.dp _ x (by omega) g2) g1) (ih (by omega))
    exact go e hd
  refine PySem.W.sorted_data (enc := pd) pl.isList e er hal hk hz (fun d hd' => by
    have := dpL_mem hd d hd'
    rw [(dp_lay d (by omega)).2]
    omega) fun out hl eo => ?_
  obtain ⟨ys, v1, v2⟩ := each_out eo
  obtain ⟨ep, he'⟩ := PyProof.Rows.sortedAll_at s.heap its out.toArray
  have hlen : ys.length ≤ sizeLine := by rw [Vals.length v1, hl]; exact hz
  exact ⟨.ref _, upd H (s.heap.objs.size + 1) (.lst ys), I.laid (t' := s.toks) (fun _ _ => PyProof.Rows.sortedAll_old) (Nat.le_succ _) ⟨hlen, out, ep, v1, he'⟩, rfl, q ys _ v2 (I.hok.fresh (Nat.le_succ _))⟩
theorem sortD_length (ds : List D) : (sortD ds).length = ds.length := List.length_mergeSort ds
theorem b_sorted {ca : Nat → Option Addr} : BOk X ca .sorted (rSrt X.K) := by
  intro G ρ M H ds vs mu d d' M' Q ok r e em h
  unfold blt1 at e
  split at e <;> try contradiction
  rename_i xs _ q
  split at e
  · rename_i hs
    cases e
    obtain ⟨d0, v, rfl, rfl, z, r0, rs⟩ := one_arg r ok q
    obtain ⟨p, us, rfl, g1, g2, g3⟩ := rs
    exact ⟨_, ρ, p, us, xs, rfl, SqL.of g1, g3, hs, g2, fun ys p hr hp => mk_list ok em h (by rw [sortD_length]; exact g2) hr hp⟩
  · cases e
end

/-! ### isinstance -/
theorem tyName_ok {K : PySem.W.Frag} {ca : Nat → Option Addr} {G : Addr → Prop} {ρ : List Addr} {M : Sto} {H : Hp} {d : D} {v : V} {t : String} (ok : Ok K ca G ρ M H) (r : Rp K (Fb G ρ M) ρ H d v) (e : tyName M d = some t) : TyX K H v (.type t) := by
  cases d with
  | non =>
    cases e
    have z : v = .non := r
    subst z
    exact .base .non
  | bl b =>
    cases e
    have z : v = .bl b := r
    subst z
    exact .base (.bl b)
  | int b =>
    cases e
    have z : v = .int b := r
    subst z
    exact .base (.int b)
  | str b =>
    cases e
    have z : v = .str b := r
    subst z
    exact .base (.str b)
  | list ds =>
    cases e
    obtain ⟨a, vs, rfl, h, _⟩ := r
    exact .base (.lst h)
  | tup ds =>
    cases e
    obtain ⟨a, vs, rfl, h, _⟩ := r
    rcases h with (h | ⟨o, h⟩) | ⟨o, its, n, h, hc, _⟩
    · exact .base (.tup h)
    · exact .fTuple h
    · exact .kTuple h hc
  | dict kvs =>
    cases e
    obtain ⟨a, us, rfl, h, _⟩ := r
    rcases h with h | ⟨o, h⟩
    · exact .base (.dK h)
    · exact .fDict h
  | fz ds => cases e
  | loc n =>
    obtain ⟨a, rfl, h⟩ := r
    unfold tyName at e
    simp only at e
    split at e
    · rename_i xs q
      cases e
      obtain ⟨vs, h1, _⟩ := ok.ob n _ a q h
      exact .base (.lst h1)
    · rename_i kvs q
      cases e
      obtain ⟨vs, h1, _⟩ := ok.ob n _ a q h
      exact .base (.dK h1)
    · cases e
/-- the kinds that are asked for -/
def kindNames : List String := ["NoneType", "bool", "int", "str", "list", "tuple", "dict"]
theorem kit_all : (kindNames.all fun t => kindNames.all fun u => kitB t u == some (isKind t u)) = true := by decide +kernel
theorem kit_one {t u : String} (ht : t ∈ kindNames) (hu : u ∈ kindNames) {K : PySem.W.Frag} : PySem.W.kitOne K (.type t) (.type u) = some (isKind t u) := by
  have h := List.all_eq_true.mp (List.all_eq_true.mp kit_all t ht) u hu
  exact kit_ty (eq_of_beq h)
theorem tyName_mem {M : Sto} {d : D} {t : String} (e : tyName M d = some t) : t ∈ kindNames := by
  unfold tyName at e
  split at e <;> first
    | (cases e; done)
    | (cases e; decide)
    | (split at e <;> first | (cases e; decide) | cases e)
section
variable {X : Cx} {ca : Nat → Option Addr} {F : FT} {cls : Nat → Nat} {e a b c : Expr} {es : List Expr} {pos p p1 : Pos} {A B C : E} {AS : EL} {mu : Bool}
theorem isi_inv {tys : List String} {many : Bool} {env : Env} {M : Sto} {d : D} {M' : Sto} (h : ev F cls (.isi A tys many) env M = some (d, M')) : ∃ x t, ev F cls A env M = some (x, M') ∧ tyName M' x = some t ∧ d = .bl (tys.any (isKind t)) := by
  rw [ev] at h
  split at h
  · cases h
  · rename_i x M1 e1
    split at h
    · cases h
    · rename_i t e2
      cases h
      exact ⟨x, t, e1, e2, rfl⟩
/-- isinstance(a, T) -/
theorem v_isi {u : String} (hu : u ∈ kindNames) (ha : PEv X ca F cls a A) (hT : PE X b (tC (.ty u))) (hg : Gl X "isinstance") (hm : X.mg "isinstance" = none)
    (hst : starEach [a, b] X.env = (false, eval a X.env) :: starEach [b] X.env) (hst2 : starEach [b] X.env = (false, eval b X.env) :: starEach [] X.env) (hpl : (backTo pos (starEach [b] X.env)).any (·.1) = false) :
    PEv X ca F cls (.Call (.Name "isinstance" p) [a, b] [] pos) (.isi A [u] false) := by
  refine PE.imp (pe_callB call_isi hg hm PyProof.Rows.boot_isinstance (pa_cons ha (pa_cons hT pa_nil hst2) hst) (he := hst) (hpl := hpl)) fun σ H Q ⟨G, ρ, env, M, d, M', a0, h, q⟩ => ?_
  obtain ⟨x, t, e1, e2, rfl⟩ := isi_inv h
  refine tE.go a0 e1 fun ρ1 v1 H1 x1 a1 r1 => ⟨v1, .ty u, .type t, .type u, isKind t u, rfl, .ty u, tyName_ok a1.ok r1 e2, kit_one (tyName_mem e2) hu, ?_⟩
  exact q ρ1 _ H1 x1 a1.ok (by show V.bl (isKind t u) = V.bl ([u].any (isKind t)); simp)
end
end MP

/-! MP11: calls; append. -/
namespace MP
open PySem PySem.Spec PyProof.Rows L2
/-- what a def keeps: it does what the evaluator says -/
def spF (K : PySem.W.Frag) (ca : Nat → Option Addr) (g : List D → Sto → Option (D × Sto)) (np : Nat) : Sp := fun vs H Q _ => vs.length = np ∧ ∃ G ρ M ds d M', Ok K ca G ρ M H ∧ RpL K (Fb G ρ M) ρ H ds vs ∧ g ds M = some (d, M') ∧ Kont K ca G ρ M H M' d Q
section
variable {K : PySem.W.Frag} {ca : Nat → Option Addr} {G : Addr → Prop} {ρ : List Addr} {M M' : Sto} {H : Hp} {ds dds : List D} {vs dvs : List V} {d : D} {Q : VK} {F : FT} {f : Nat} {np : Nat} {E : XK}
theorem fb_nil {G' : Addr → Prop} {a : Addr} (h : Fb G' [] [] a) : G' a := h.elim id fun l => (lv_nil l).elim
/-- a result that is a list of the store is from now on a pure one -/
theorem rd_pure {ρ2 : List Addr} {M2 : Sto} {H2 : Hp} {v : V} {d2 : D} (k2 : Ok K ca (Fb G ρ M) ρ2 M2 H2) (r : Rp K (Fb (Fb G ρ M) ρ2 M2) ρ2 H2 d2 v) (b : below 0 (rd M2 d2) = true) : Rp K (Fb G ρ M) ρ H2 (rd M2 d2) v := by
  cases d2 with
  | loc n =>
    have rs := k2.rs r
    obtain ⟨a, e, h⟩ := r
    cases q : rd M2 (.loc n) with
    | list xs =>
      rw [q] at rs b
      obtain ⟨a', vs, e', h1, h2, h3⟩ := rs
      have ea : a' = a := by rw [e] at e'; exact (V.ref.inj e').symm
      subst ea
      have hl : Lv ρ2 M2 a' := by
        unfold rd at q
        simp only at q
        split at q
        · rename_i ys z
          exact ⟨n, _, h, z, trivial⟩
        · cases q
        · cases q
      refine ⟨a', vs, e', h1, fun w => k2.gl a' w hl, h2, RpL.pure (by simpa only [below] using b) h3 _ (fun a w => .inl w) _⟩
    | dict kvs =>
      rw [q] at rs b
      obtain ⟨a', us, e', h1, h3⟩ := rs
      have ea : a' = a := by rw [e] at e'; exact (V.ref.inj e').symm
      subst ea
      have hl : Lv ρ2 M2 a' := by
        unfold rd at q
        simp only at q
        split at q
        · cases q
        · rename_i ys z
          exact ⟨n, _, h, z, trivial⟩
        · cases q
      exact ⟨a', us, e', h1, fun w => k2.gl a' w hl, RpK.cut (fun a w => .inl w) (fun i hi => absurd hi (Nat.not_lt_zero i)) kvs us (by simpa only [below] using b) h3⟩
    | loc m =>
      rw [q] at b
      simp [below] at b
    | _ =>
      unfold rd at q
      simp only at q
      split at q <;> cases q
  | _ => exact Rp.pure b r _ (fun a w => .inl w) _
theorem Ok.noG (k : Ok K ca G ρ M H) : Ok K ca (fun _ => False) [] [] H := ⟨rfl, List.nodup_nil, (fun a h => nomatch h), (fun a h => h.elim), (fun a h => h.elim), fun n m a h => by simp at h⟩
theorem rs_bor (k : Ok K ca G ρ M H) : ∀ {ds : List D} {vs : List V}, RpL K (Fb G ρ M) ρ H ds vs → belowL 0 (ds.map (rd M)) = true → RpL K (Fb (fun _ => False) [] []) [] H (ds.map (rd M)) vs
  | [], vs, h, _ => h
  | d :: ds, vs, h, b => by
    obtain ⟨v, w, rfl, h1, h2⟩ := h
    rw [List.map_cons, belowL, Bool.and_eq_true] at b
    refine ⟨v, w, rfl, ?_, rs_bor k h2 b.2⟩
    have rs := k.rs h1
    have nf : ∀ a, ¬ Fb (fun _ => False) [] [] a := fun a h => fb_nil h
    have bb := b.1
    generalize rd M d = d' at rs bb
    cases d' with
    | list xs =>
      obtain ⟨a, vs, e, g1, g2, g3⟩ := rs
      exact ⟨a, vs, e, g1, nf a, g2, RpL.pure (by simpa only [below] using bb) g3 _ (fun a w => (nf a w).elim) _⟩
    | dict kvs =>
      obtain ⟨a, us, e, g1, g3⟩ := rs
      exact ⟨a, us, e, g1, nf a, RpK.cut (fun a w => (nf a w).elim) (fun i hi => absurd hi (Nat.not_lt_zero i)) kvs us (by simpa only [below] using bb) g3⟩
    | loc m => simp [below] at bb
    | _ => exact Rp.pure (F := Fb G ρ M) (ρ := ρ) bb rs _ (fun a w => (nf a w).elim) _
/-- the call by a mode -/
theorem call_ok (m : CM) (ok : Ok K ca G ρ M H) (r : RpL K (Fb G ρ M) ρ H ds vs) (e : callM F m f ds M = some (d, M')) (h : Kont K ca G ρ M H M' d Q) (hdef : ∀ F' ρ' H', RpL K F' ρ' H' dds dvs) (hF : ∀ xs M, xs.length = ds.length → F f xs M = F f (xs ++ dds) M)
    (hn : ds.length + dds.length = np) : spF K ca (F f) np (vs ++ dvs) H Q E := by
  have hln : (vs ++ dvs).length = np := by rw [List.length_append, r.length, (hdef (Fb G ρ M) ρ H).length]; exact hn
  refine ⟨hln, ?_⟩
  cases m with
  | keep =>
    rw [show callM F .keep f ds M = F f ds M from rfl, hF ds M rfl] at e
    exact ⟨G, ρ, M, ds ++ dds, d, M', ok, RpL.append r (hdef _ _ _), e, h⟩
  | pure =>
    unfold callM at e
    simp only at e
    split at e
    · rename_i hb
      split at e
      · rename_i d2 M2 e2
        split at e
        · rename_i hd
          cases e
          rw [hF ds _ rfl] at e2
          refine ⟨Fb G ρ M, [], [], ds ++ dds, d2, M2, ok.empty, RpL.append (RpL.pure hb r _ (fun a w => fb_nil w) _) (hdef _ _ _), e2, fun ρ2 v H2 x k2 r2 => ?_⟩
          have bk := ok.back x
          exact h ρ v H2 bk.2 bk.1 (rd_pure k2 r2 hd)
        · cases e
      · cases e
    · cases e
  | own =>
    unfold callM at e
    simp only at e
    split at e
    · rename_i hb
      split at e
      · rename_i j M2 e2
        split at e
        · rename_i xs e3
          split at e
          · rename_i hx
            cases e
            rw [hF ds _ rfl] at e2
            refine ⟨Fb G ρ M, [], [], ds ++ dds, .loc j, M2, ok.empty, RpL.append (RpL.pure hb r _ (fun a w => fb_nil w) _) (hdef _ _ _), e2, fun ρ2 v H2 x k2 r2 => ?_⟩
            obtain ⟨p, rfl, hp⟩ := r2
            have ad := ok.adopt x k2 hp e3 hx
            exact h _ _ _ ad.2 ad.1 ⟨p, rfl, newM_at ok⟩
          · cases e
        · cases e
      · cases e
    · cases e
  | bor =>
    unfold callM at e
    simp only at e
    split at e
    · rename_i hb
      split at e
      · rename_i d2 M2 e2
        split at e
        · rename_i hd
          cases e
          rw [hF _ _ (by rw [List.length_map])] at e2
          refine ⟨fun _ => False, [], [], ds.map (rd M) ++ dds, d, M2, ok.noG, RpL.append (rs_bor ok r hb) (hdef _ _ _), e2, fun ρ2 v H2 x k2 r2 => ?_⟩
          have bk := ok.back x
          exact h ρ v H2 bk.2 bk.1 (Rp.bare _ _ d v hd r2)
        · cases e
      · cases e
    · cases e
  | tr =>
    unfold callM at e
    simp only at e
    split at e
    · rename_i d2 M2 e2
      split at e
      · rename_i hb
        cases e
        rw [Bool.and_eq_true, Bool.and_eq_true, decide_eq_true_eq] at hb
        rw [hF ds _ rfl] at e2
        refine ⟨G, ρ, M, ds ++ dds, d, M2, ok, RpL.append r (hdef _ _ _), e2, fun ρ2 v H2 x k2 r2 => ?_⟩
        obtain ⟨t1, t2, t3, t4⟩ := ok.trunc x k2 hb.2 hb.1.2
        exact h ρ v H2 t2 t1 (Rp.cut t3 t4 d v hb.1.1 r2)
      · cases e
    · cases e
end
section
variable {X : Cx} {ca : Nat → Option Addr} {F : FT} {cls : Nat → Nat} {e a b c : Expr} {es : List Expr} {pos p p1 : Pos} {A B C : E} {AS : EL} {mu : Bool}
/-- how a def is called from here -/
structure Callee (X : Cx) (ca : Nat → Option Addr) (F : FT) (k : Nat) (x : Str) (f : Nat) (np n : Nat) : Prop where
  ex : ∃ (fa : Addr) (fd : FuncData) (ps : List Str) (dvs : List V) (dus : List Value) (dds : List D), X.mg x = some (.ref fa) ∧ PySem.W.keepIn X.K (.ref fa) = true ∧ FnOk X.prog X.w X.K X.mg X.base CX0 k fa fd ps (spF X.K ca (F f) np) ∧ Binds X.K fd ps dus ∧ Vals dvs dus ∧
    (∀ F' ρ' H', RpL X.K F' ρ' H' dds dvs) ∧ (∀ xs M, xs.length = n → F f xs M = F f (xs ++ dds) M) ∧ n + dds.length = np
def ELlen : EL → Nat
  | .nil => 0
  | .cons _ r => ELlen r + 1
theorem evL_len : ∀ {AS : EL} {env : Env} {M : Sto} {ds : List D} {M' : Sto}, evL F cls AS env M = some (ds, M') → ds.length = ELlen AS
  | .nil, env, M, ds, M', h => by
    rw [evL] at h
    cases h
    rfl
  | .cons A AS, env, M, ds, M', h => by
    obtain ⟨d, M1, r, e1, e2, rfl⟩ := acons_inv h
    rw [List.length_cons, evL_len e2]; rfl
theorem v_call {m : CM} {f k np : Nat} {x : Str} (cl : Callee X ca F k x f np (ELlen AS)) (hr : Room k X.A) (hg : Gl X x) (hs : PAv X ca F cls (e :: es) AS) (hdb : (x == ("__debug__" : Str)) = false)
    (he : starEach (e :: es) X.env = (false, eval e X.env) :: starEach es X.env) (hpl : (backTo pos (starEach es X.env)).any (·.1) = false) : PEv X ca F cls (.Call (.Name x p) (e :: es) [] pos) (.call m f AS) := by
  obtain ⟨fa, fd, ps, dvs, dus, dds, h1, h2, h3, h4, h5, h6, h7, h8⟩ := cl.ex
  refine PE.imp (pe_call (E := E0) h3 hr hg h1 h2 h4 h5 pass0 hs hdb he hpl) fun σ H Q ⟨G, ρ, env, M, d, M', a0, h, q⟩ => ?_
  rw [ev] at h
  split at h
  · cases h
  · rename_i ds M1 e1
    have hl := evL_len e1
    exact tL.go a0 e1 fun ρ1 v1 H1 x1 a1 r1 => call_ok m a1.ok r1 h (fun ρ' v H' x k r => q ρ' v H' (x1.trans x) k r) h6 (by rw [hl]; exact h7) (by rw [hl]; exact h8)
theorem v_call0 {m : CM} {f k np : Nat} {x : Str} (cl : Callee X ca F k x f np 0) (hr : Room k X.A) (hg : Gl X x) (hdb : (x == ("__debug__" : Str)) = false) : PEv X ca F cls (.Call (.Name x p) [] [] pos) (.call m f .nil) := by
  obtain ⟨fa, fd, ps, dvs, dus, dds, h1, h2, h3, h4, h5, h6, h7, h8⟩ := cl.ex
  refine PE.imp (pe_call0 (E := E0) h3 hr hg h1 h2 h4 h5 pass0 hdb) fun σ H Q ⟨G, ρ, env, M, d, M', a0, h, q⟩ => ?_
  rw [ev, evL] at h
  exact call_ok (E := E0) (ds := []) (vs := []) m a0.ok rfl h q h6 h7 h8

/-! ### append, extend -/
theorem app_inv {env : Env} {M : Sto} {d : D} {M' : Sto} (h : ev F cls (.app A B) env M = some (d, M')) : ∃ (n : Nat) (M1 : Sto) (zs : List D) (y : D) (M2 : Sto) (xs : List D), ev F cls A env M = some (.loc n, M1) ∧ M1[n]? = some (.list zs) ∧ ev F cls B env M1 = some (y, M2) ∧ M2[n]? = some (.list xs) ∧ xs.length < LINE ∧ d = .non ∧ M' = M2.set n (.list (xs ++ [y])) := by
  rw [ev] at h
  split at h
  · rename_i n M1 e1
    split at h
    · rename_i zs e0
      split at h
      · cases h
      · rename_i y M2 e2
        split at h
        · rename_i xs e3
          split at h
          · rename_i hz
            cases h
            exact ⟨n, M1, zs, y, M2, xs, e1, e0, e2, e3, hz, rfl, rfl⟩
          · cases h
        · cases h
    · cases h
  · cases h
theorem v_app {apos : Pos} (ha : PEv X ca F cls a A) (hb : PEv X ca F cls b B) (hbase : attributeBase a "append" X.env (eval a X.env) = eval a X.env)
    (hfew : ((backTo pos (starEach [b] X.env)).all (fun x => !x.1) && (backToKw pos (keywordEach [] X.env)).all (fun x => x.1.isSome) && decide (([b] : List Expr).length + ([] : List Keyword).length + (if ([] : List Keyword).isEmpty then 0 else 1) < 30)) = true)
    (hline : (apos.endLine == pos.line) = true) (hst : starEach [b] X.env = (false, eval b X.env) :: starEach [] X.env) (hplain : (backTo pos (starEach [] X.env)).any (·.1) = false) :
    PEv X ca F cls (.Call (.Attribute a "append" apos) [b] [] pos) (.app A B) := by
  refine PE.imp (pe_bm PySem.F.plainAttrs_list PySem.F.slot_list_append PySem.F.type_list_append mt_append ha (pa_cons hb pa_nil hst) hbase hfew hline hst hplain) fun σ H Q ⟨G, ρ, env, M, d, M', a0, h, q⟩ => ?_
  obtain ⟨n, M1, zs, y, M2, xs, e1, e0, e2, e3, hz, rfl, rfl⟩ := app_inv h
  refine tE.go a0 e1 fun ρ1 v1 H1 x1 a1 r1 => ?_
  obtain ⟨p, rfl, hp⟩ := r1
  obtain ⟨us, k1, _⟩ := a1.ok.ob n _ p e0 hp
  refine ⟨.inl ⟨rfl, us, SqL.of k1⟩, tE.go a1 e2 fun ρ2 v2 H2 x2 a2 r2 => ?_⟩
  obtain ⟨vs, g1, g2, g3⟩ := a2.ok.ob n _ p e3 (x2.pre n p hp)
  rw [lineEq] at hz
  refine ⟨p, vs, v2, rfl, rfl, g1, by rw [g3.length]; exact hz, ?_⟩
  have w := a2.ok.write (m' := .list (xs ++ [y])) (o := .lst (vs ++ [v2])) e3 (x2.pre n p hp) trivial trivial fun F' ρ' H' o e => ⟨_, e, by rw [List.length_append]; exact hz, RpL.on o _ _ (RpL.append g3 (RpL.one r2))⟩
  exact q ρ2 _ _ ((x1.trans x2).trans w.2) w.1 rfl
theorem ext_inv {env : Env} {M : Sto} {d : D} {M' : Sto} (h : ev F cls (.ext A B) env M = some (d, M')) : ∃ (n : Nat) (M1 : Sto) (zs : List D) (y : D) (M2 : Sto) (xs ys : List D), ev F cls A env M = some (.loc n, M1) ∧ M1[n]? = some (.list zs) ∧ ev F cls B env M1 = some (y, M2) ∧ M2[n]? = some (.list xs) ∧ rd M2 y = .list ys ∧ xs.length + ys.length ≤ LINE ∧ d = .non ∧ M' = M2.set n (.list (xs ++ ys)) := by
  rw [ev] at h
  split at h
  · rename_i n M1 e1
    split at h
    · rename_i zs e0
      split at h
      · rename_i y M2 e2
        split at h
        · rename_i xs ys e3 e4
          split at h
          · rename_i hz
            cases h
            exact ⟨n, M1, zs, y, M2, xs, ys, e1, e0, e2, e3, e4, hz, rfl, rfl⟩
          · cases h
        · cases h
      · cases h
    · cases h
  · cases h
theorem v_ext {apos : Pos} (ha : PEv X ca F cls a A) (hb : PEv X ca F cls b B) (hbase : attributeBase a "extend" X.env (eval a X.env) = eval a X.env)
    (hfew : ((backTo pos (starEach [b] X.env)).all (fun x => !x.1) && (backToKw pos (keywordEach [] X.env)).all (fun x => x.1.isSome) && decide (([b] : List Expr).length + ([] : List Keyword).length + (if ([] : List Keyword).isEmpty then 0 else 1) < 30)) = true)
    (hline : (apos.endLine == pos.line) = true) (hst : starEach [b] X.env = (false, eval b X.env) :: starEach [] X.env) (hplain : (backTo pos (starEach [] X.env)).any (·.1) = false) :
    PEv X ca F cls (.Call (.Attribute a "extend" apos) [b] [] pos) (.ext A B) := by
  refine PE.imp (pe_bm PySem.F.plainAttrs_list PySem.F.slot_list_extend PySem.F.type_list_extend mt_extend ha (pa_cons hb pa_nil hst) hbase hfew hline hst hplain) fun σ H Q ⟨G, ρ, env, M, d, M', a0, h, q⟩ => ?_
  obtain ⟨n, M1, zs, y, M2, xs, ys, e1, e0, e2, e3, e4, hz, rfl, rfl⟩ := ext_inv h
  refine tE.go a0 e1 fun ρ1 v1 H1 x1 a1 r1 => ?_
  obtain ⟨p, rfl, hp⟩ := r1
  obtain ⟨us, k1, _⟩ := a1.ok.ob n _ p e0 hp
  refine ⟨.inl ⟨rfl, us, SqL.of k1⟩, tE.go a1 e2 fun ρ2 v2 H2 x2 a2 r2 => ?_⟩
  obtain ⟨vs, g1, g2, g3⟩ := a2.ok.ob n _ p e3 (x2.pre n p hp)
  have rs := a2.ok.rs r2
  rw [e4] at rs
  obtain ⟨b', ws, rfl, c1, c2, c3⟩ := rs
  rw [lineEq] at hz
  refine ⟨p, b', vs, ws, rfl, rfl, g1, c1, by rw [g3.length, c3.length]; exact hz, ?_⟩
  have w := a2.ok.write (m' := .list (xs ++ ys)) (o := .lst (vs ++ ws)) e3 (x2.pre n p hp) trivial trivial fun F' ρ' H' o e => ⟨_, e, by rw [List.length_append]; exact hz, RpL.on o _ _ (RpL.append g3 c3)⟩
  exact q ρ2 _ _ ((x1.trans x2).trans w.2) w.1 rfl
end
end MP

/-! MP12: what is walked; comprehensions. -/
namespace MP
open PySem PySem.Spec PyProof.Rows L2
/-- an iterator serves the values vs (or pairs of place and value) while st holds -/
structure Srv (J : It) (st : Hp → Prop) (vs : List V) (en : Bool) : Prop where
  go : ∀ (i : Nat) (H : Hp) (v : V), st H → vs[i]? = some v → J.go i H ∧ ∀ x H', J.yld i H x H' → if en = true then ∃ T, H T = none ∧ H' = upd H T (.tup [.int i, v]) ∧ x = .ref T else H' = H ∧ x = v
  stop : ∀ (i : Nat) (H : Hp), st H → vs.length ≤ i → J.stop i H
/-- what a source's iterator is -/
def SrcOk (K : PySem.W.Frag) (G : Addr → Prop) (ρ : List Addr) (M : Sto) (H : Hp) (J : It) : Src → Prop
  | .pure xs => ∃ ds vs en st, xs = (if en = true then ds.mapIdx fun i x => D.tup [.int i, x] else ds) ∧ RpL K (Fb G ρ M) ρ H ds vs ∧ Srv J st vs en ∧ ∀ H2 : Hp, (∀ a o, H a = some o → ¬ Lv ρ M a → H2 a = some o) → st H2
  | .loc n _ => ∃ a, ρ[n]? = some a ∧ J = Itl K a
def tI (K : PySem.W.Frag) (ca : Nat → Option Addr) (f : Env → Sto → Option (Src × Sto)) : TI := fun σ H R => ∃ G ρ env M s M', At K ca G ρ M H σ env ∧ f env M = some (s, M') ∧
  ∀ ρ' H' J, Ext ρ M H ρ' M' H' → Ok K ca G ρ' M' H' → SrcOk K G ρ' M' H' J s → R J H'
theorem PI.imp {X : Cx} {tg e : Expr} {t t' : TI} (h : PI X tg e t) (i : ∀ σ H R, t' σ H R → t σ H R) : PI X tg e t' := ⟨fun pins s σ H R I q => h.run pins s σ H R I (i _ _ _ q)⟩
/-- the evaluation of what is walked -/
def evI (F : FT) (cls : Nat → Nat) (k : IK) (a b : E) (env : Env) (M : Sto) : Option (Src × Sto) := match ev F cls a env M with
  | none => none
  | some (x, M0) => match optD (isAbs b) M0 (ev F cls b env M0) with
    | none => none
    | some (y, M1) => match srcOf k M1 x y with
      | none => none
      | some s => some (s, M1)
theorem Srv.list {K : PySem.W.Frag} {a : Addr} {vs : List V} : Srv (Itl K a) (fun H => H a = some (.lst vs)) vs false :=
  ⟨fun i H v h e => ⟨⟨vs, v, SqL.of h, e⟩, fun x H' ⟨e1, e2⟩ => by
      rw [if_neg Bool.false_ne_true]
      exact ⟨e1, Option.some.inj ((e2 vs (SqL.of h)).symm.trans e)⟩⟩,
    fun i H h l => ⟨vs, SqL.of h, l⟩⟩
theorem Srv.tup {K : PySem.W.Frag} {a : Addr} {vs : List V} : Srv (Itt K a) (fun H => SqT K H a vs) vs false :=
  ⟨fun i H v h e => ⟨⟨vs, v, h, e⟩, fun x H' ⟨e1, e2⟩ => by
      rw [if_neg Bool.false_ne_true]
      exact ⟨e1, Option.some.inj ((e2 vs h).symm.trans e)⟩⟩,
    fun i H h l => ⟨vs, h, l⟩⟩
theorem Srv.range {lo : Int} {n : Nat} : Srv (Itr lo n) (fun _ => True) ((List.range n).map fun (i : Nat) => V.int (lo + i)) false :=
  ⟨fun i H v _ e => by
      have hi : i < n := by
        have := (List.getElem?_eq_some_iff.mp e).1
        simpa using this
      refine ⟨hi, fun x H' ⟨e1, e2⟩ => ?_⟩
      rw [if_neg Bool.false_ne_true]
      refine ⟨e1, ?_⟩
      rw [List.getElem?_map, List.getElem?_range hi] at e
      rw [e2]
      exact Option.some.inj e,
    fun i H _ l => by
      have l' : n ≤ i := by simpa using l
      exact l'⟩
theorem RpL.range {K : PySem.W.Frag} {F : Addr → Prop} {ρ : List Addr} {H : Hp} (lo : Int) : ∀ (l : List Nat), RpL K F ρ H (l.map fun (i : Nat) => D.int (lo + i)) (l.map fun (i : Nat) => V.int (lo + i))
  | [] => rfl
  | x :: l => ⟨_, _, rfl, rfl, RpL.range lo l⟩
section
variable {X : Cx} {ca : Nat → Option Addr} {F : FT} {cls : Nat → Nat} {tg e a b c : Expr} {es : List Expr} {pos p p1 : Pos} {A B C : E} {AS : EL} {mu : Bool}
abbrev PIv (X : Cx) (ca : Nat → Option Addr) (F : FT) (cls : Nat → Nat) (tg e : Expr) (k : IK) (A B : E) : Prop := PI X tg e (tI X.K ca (evI F cls k A B))
theorem PI.or {t1 t2 : TI} (h1 : PI X tg e t1) (h2 : PI X tg e t2) : PI X tg e fun σ H Q => t1 σ H Q ∨ t2 σ H Q := ⟨fun pins s σ H Q I h => h.elim (h1.run pins s σ H Q I) (h2.run pins s σ H Q I)⟩
theorem evI_inv {k : IK} {env : Env} {M : Sto} {s : Src} {M' : Sto} (h : evI F cls k A B env M = some (s, M')) : ∃ x M0 y, ev F cls A env M = some (x, M0) ∧ optD (isAbs B) M0 (ev F cls B env M0) = some (y, M') ∧ srcOf k M' x y = some s := by
  unfold evI at h
  split at h
  · cases h
  · rename_i x M0 e1
    split at h
    · cases h
    · rename_i y M1 e2
      split at h
      · cases h
      · rename_i s0 e3
        cases h
        exact ⟨x, M0, y, e1, e2, e3⟩
theorem i_seq (ha : PEv X ca F cls a A) : PIv X ca F cls tg a .seq A .absent := by
  refine PI.imp (PI.or (pi_list ha) (pi_tup ha)) fun σ H R ⟨G, ρ, env, M, s, M', a0, h, q⟩ => ?_
  obtain ⟨x, M0, y, e1, e2, e3⟩ := evI_inv h
  simp only [optD, isAbs, if_true] at e2
  cases e2
  cases x with
  | list xs =>
    simp only [srcOf] at e3
    cases e3
    refine .inl (tE.go a0 e1 fun ρ1 v1 H1 x1 a1 r1 => ?_)
    obtain ⟨p, vs, rfl, g1, g2, g3, g4⟩ := r1
    have nl : ¬ Lv ρ1 M' p := fun l => g2 (.inr l)
    exact ⟨p, rfl, ⟨vs, SqL.of g1⟩, q ρ1 H1 _ x1 a1.ok ⟨xs, vs, false, _, rfl, g4, Srv.list, fun H2 k => k p _ g1 nl⟩⟩
  | tup xs =>
    simp only [srcOf] at e3
    cases e3
    refine .inr (tE.go a0 e1 fun ρ1 v1 H1 x1 a1 r1 => ?_)
    obtain ⟨p, vs, rfl, g1, g3, g4⟩ := r1
    refine ⟨p, rfl, ⟨vs, g1⟩, q ρ1 H1 _ x1 a1.ok ⟨xs, vs, false, _, rfl, g4, Srv.tup, fun H2 k => ?_⟩⟩
    rcases g1 with g1 | g1
    · have nl : ¬ Lv ρ1 M' p := fun l => by
        obtain ⟨o, k1, k2, k3⟩ := a1.ok.lv l
        rcases g1 with g1 | ⟨ob, g1⟩
        · rw [k1] at g1; exact k2 _ (Option.some.inj g1)
        · rw [k1] at g1; exact k3 _ _ (Option.some.inj g1)
      rcases g1 with g1 | ⟨ob, g1⟩
      · exact .inl (.inl (k p _ g1 nl))
      · exact .inl (.inr ⟨ob, k p _ g1 nl⟩)
    · exact .inr g1
  | loc n =>
    simp only [srcOf] at e3
    split at e3
    · rename_i xs e4
      cases e3
      refine .inl (tE.go a0 e1 fun ρ1 v1 H1 x1 a1 r1 => ?_)
      obtain ⟨p, rfl, hp⟩ := r1
      obtain ⟨vs, g1, g2, g3⟩ := a1.ok.ob n _ p e4 hp
      exact ⟨p, rfl, ⟨vs, SqL.of g1⟩, q ρ1 H1 _ x1 a1.ok ⟨p, hp, rfl⟩⟩
    · cases e3
  | _ => cases e3
theorem i_rng1 (ha : PEv X ca F cls a A) (hg : Gl X "range") (hm : X.mg "range" = none) (hst : starEach [a] X.env = [(false, eval a X.env)]) : PIv X ca F cls tg (.Call (.Name "range" p) [a] [] pos) .rng1 A .absent := by
  refine PI.imp (pi_range1 hg hm (pa_cons ha pa_nil hst) hst) fun σ H R ⟨G, ρ, env, M, s, M', a0, h, q⟩ => ?_
  obtain ⟨x, M0, y, e1, e2, e3⟩ := evI_inv h
  simp only [optD, isAbs, if_true] at e2
  cases e2
  cases x with
  | int j =>
    simp only [srcOf] at e3
    split at e3
    · rename_i hz
      cases e3
      refine tE.go a0 e1 fun ρ1 v1 H1 x1 a1 r1 => ⟨j, by rw [show v1 = .int j from r1], by omega, by omega, q ρ1 H1 _ x1 a1.ok ?_⟩
      have e0 : ∀ l : List Nat, (l.map fun (i : Nat) => D.int i) = l.map fun (i : Nat) => D.int (0 + (i : Int)) := fun l => List.map_congr_left fun i _ => by rw [Int.zero_add]
      exact ⟨_, _, false, _, rfl, by rw [e0]; exact RpL.range 0 _, Srv.range, fun _ _ => trivial⟩
    · cases e3
  | _ => cases e3
theorem i_rng2 (ha : PEv X ca F cls a A) (hb : PEv X ca F cls b B) (hB : isAbs B = false) (hg : Gl X "range") (hm : X.mg "range" = none) (hst : starEach [a, b] X.env = [(false, eval a X.env), (false, eval b X.env)]) (hst2 : starEach [b] X.env = [(false, eval b X.env)]) : PIv X ca F cls tg (.Call (.Name "range" p) [a, b] [] pos) .rng2 A B := by
  refine PI.imp (pi_range2 hg hm (pa_cons ha (pa_cons hb pa_nil hst2) (by rw [hst, hst2])) hst hst2) fun σ H R ⟨G, ρ, env, M, s, M', a0, h, q⟩ => ?_
  obtain ⟨x, M0, y, e1, e2, e3⟩ := evI_inv h
  simp only [optD, hB, if_neg Bool.false_ne_true] at e2
  cases x with
  | int i =>
    cases y with
    | int j =>
      simp only [srcOf] at e3
      split at e3
      · rename_i hz
        cases e3
        exact tE.go a0 e1 fun ρ1 v1 H1 x1 a1 r1 => tE.go a1 e2 fun ρ2 v2 H2 x2 a2 r2 => ⟨i, j, by rw [show v1 = .int i from r1, show v2 = .int j from r2], by omega, q ρ2 H2 _ (x1.trans x2) a2.ok ⟨_, _, false, _, rfl, RpL.range i _, Srv.range, fun _ _ => trivial⟩⟩
      · cases e3
    | _ => cases e3
  | _ => cases y <;> cases e3
theorem Srv.enum {K : PySem.W.Frag} {a : Addr} {vs : List V} : Srv (Ite K a) (fun H => H a = some (.lst vs)) vs true :=
  ⟨fun i H v h e => ⟨⟨vs, v, SqL.of h, e⟩, fun x H' ⟨T, y, e1, e2, e3, e4⟩ => by
      rw [if_pos rfl]
      have ey : y = v := Option.some.inj ((e4 vs (SqL.of h)).symm.trans e)
      subst ey
      exact ⟨T, e2, e3, e1⟩⟩,
    fun i H h l => ⟨vs, SqL.of h, l⟩⟩
theorem i_enum {elts : List Expr} {kk : Nat} {tpos : Pos} (ha : PEv X ca F cls a A) (hg : Gl X "enumerate") (hm : X.mg "enumerate" = none) (hst : starEach [a] X.env = [(false, eval a X.env)]) : PIv X ca F cls (.Tuple elts kk tpos) (.Call (.Name "enumerate" p) [a] [] pos) .enum A .absent := by
  refine PI.imp (pi_enum hg hm (pa_cons ha pa_nil hst) hst) fun σ H R ⟨G, ρ, env, M, s, M', a0, h, q⟩ => ?_
  obtain ⟨x, M0, y, e1, e2, e3⟩ := evI_inv h
  simp only [optD, isAbs, if_true] at e2
  cases e2
  cases x with
  | list xs =>
    simp only [srcOf] at e3
    cases e3
    refine tE.go a0 e1 fun ρ1 v1 H1 x1 a1 r1 => ?_
    obtain ⟨p, vs, rfl, g1, g2, g3, g4⟩ := r1
    have nl : ¬ Lv ρ1 M' p := fun l => g2 (.inr l)
    exact ⟨p, vs, rfl, SqL.of g1, q ρ1 H1 _ x1 a1.ok ⟨xs, vs, true, _, rfl, g4, Srv.enum, fun H2 k => k p _ g1 nl⟩⟩
  | _ => cases e3

/-! ### targets -/
theorem asg_ok {K : PySem.W.Frag} {G : Addr → Prop} {F : Addr → Prop} {ρ : List Addr} {H : Hp} {σ : L2.St} {env : Env} {i : Nat} {d : D} {v : V} (r : EnvR K F ρ H σ env) (q : Rp K F ρ H d v) {env1 : Env} (e : asg (.nm i) d env = some env1) : EnvR K F ρ H (σ.set i (some v)) env1 := by
  cases e
  exact r.set q i
def gT (K : PySem.W.Frag) : T → TG
  | .nm i => gName i
  | .tp is => gTup K is.length (is.foldr (fun i g => gCons (gName i) g) gNil)
theorem foldl_set {K : PySem.W.Frag} {F : Addr → Prop} {ρ : List Addr} {H : Hp} {Q : L2.St → Hp → Prop} : ∀ {is : List Nat} {ds : List D} {vs : List V} {σ : L2.St} {env : Env}, is.length = ds.length → RpL K F ρ H ds vs → EnvR K F ρ H σ env →
    (∀ σ', EnvR K F ρ H σ' ((is.zip ds).foldl (fun e p => e.set p.1 (some p.2)) env) → (∀ j, j ∉ is → σ'[j]? = σ[j]?) → Q σ' H) → is.foldr (fun i g => gCons (gName i) g) gNil vs σ H Q
  | [], [], vs, σ, env, _, h, r, q => ⟨h, q σ r fun _ _ => rfl⟩
  | [], _ :: _, _, _, _, l, _, _, _ => by cases l
  | _ :: _, [], _, _, _, l, _, _, _ => by cases l
  | i :: is, d :: ds, vs, σ, env, l, h, r, q => by
    obtain ⟨v, w, rfl, h1, h2⟩ := h
    refine ⟨v, w, rfl, ?_⟩
    show is.foldr (fun i g => gCons (gName i) g) gNil w (σ.set i (some v)) H Q
    exact foldl_set (by simpa using l) h2 (r.set h1 i) fun σ' r' k => q σ' r' fun j hj => by
      rw [List.mem_cons, not_or] at hj
      rw [k j hj.2, List.getElem?_set_ne (Ne.symm hj.1)]
def tslots : T → List Nat
  | .nm i => [i]
  | .tp is => is
theorem gT_ok {K : PySem.W.Frag} {F : Addr → Prop} {ρ : List Addr} {H : Hp} {σ : L2.St} {env env1 : Env} {d : D} {v : V} {t : T} {Q : L2.St → Hp → Prop} (r : EnvR K F ρ H σ env) (q : Rp K F ρ H d v) (e : asg t d env = some env1)
    (h : ∀ σ', EnvR K F ρ H σ' env1 → (∀ j, j ∉ tslots t → σ'[j]? = σ[j]?) → Q σ' H) : gT K t v σ H Q := by
  cases t with
  | nm i =>
    cases e
    exact h _ (r.set q i) fun j hj => by
      have z : i ≠ j := fun w => hj (by subst w; exact List.mem_cons_self)
      exact List.getElem?_set_ne z
  | tp is =>
    cases d with
    | tup ds =>
      simp only [asg] at e
      split at e
      · rename_i hl
        cases e
        obtain ⟨a, vs, rfl, g1, g2, g3⟩ := q
        exact ⟨a, vs, rfl, g1, by rw [g3.length, hl], foldl_set hl.symm g3 r h⟩
      · cases e
    | _ => cases e
end
end MP

/-! MP13: comprehensions. -/
namespace MP
open PySem PySem.Spec PyProof.Rows L2
/-- the block's own list, not to be touched -/
def Gd (G : Addr → Prop) (D : Addr) : Addr → Prop := fun a => G a ∨ a = D
section
variable {K : PySem.W.Frag} {ca : Nat → Option Addr} {G : Addr → Prop} {ρ ρ1 : List Addr} {M M1 : Sto} {H H1 : Hp} {D : Addr}
theorem Ext.onD (k : Ok K ca G ρ1 M1 H1) (e : Ext ρ1 M1 H1 ρ M H) (hD : H1 D = none) : On (Fb G ρ1 M1) ρ1 H1 (Fb (Gd G D) ρ M) ρ H := by
  have o := e.on k
  have nf : ∀ a, ¬ Fb G ρ M a → a ≠ D → ¬ Fb (Gd G D) ρ M a := fun a f z w => by
    rcases w with (w | w) | w
    · exact f (.inl w)
    · exact z w
    · exact f (.inr w)
  refine ⟨o.pre, fun a u h f => ?_, fun a u h f => ?_, fun a u h f => ?_, o.tup⟩
  · have q := o.ls a u h f
    exact ⟨q.1, nf a q.2 (ne_of_none h hD)⟩
  · have q := o.fz a u h f
    obtain ⟨ob, h⟩ := h
    exact ⟨q.1, nf a q.2 (ne_of_none h hD)⟩
  · have q := o.dk a u h f
    rcases h with h | ⟨ob, h⟩
    · exact ⟨q.1, nf a q.2 (ne_of_none h hD)⟩
    · exact ⟨q.1, nf a q.2 (ne_of_none h hD)⟩
theorem Ok.guard (k : Ok K ca G ρ M H) (hD : H D = none) (o : HO) : Ok K ca (Gd G D) ρ M (upd H D o) ∧ Ext ρ M H ρ M (upd H D o) := by
  have n := k.new hD o
  have on := n.2.onD k hD
  refine ⟨⟨k.len, k.nd, n.1.trk, fun a g => ?_, fun a g => ?_, fun i m a h1 h2 => ?_⟩, n.2⟩
  · rcases g with g | g
    · exact n.1.gt a g
    · subst g; exact ⟨o, upd_same⟩
  · rcases g with g | g
    · exact k.gn a g
    · subst g; exact k.notin hD
  · have hne : a ≠ D := fun z => k.notin hD (z ▸ List.mem_of_getElem? h2)
    exact MOk.on on (upd_ne hne) (k.ob i m a h1 h2)
theorem On.gset {F : Addr → Prop} (fD : F D) {acc : List V} (hD : H D = some (.lst acc)) (acc' : List V) : On F ρ H F ρ (upd H D (.lst acc')) := by
  have ne : ∀ a, ¬ F a → a ≠ D := fun a f z => f (z ▸ fD)
  refine ⟨fun _ _ h => h, fun a u h f => ⟨by rw [upd_ne (ne a f)]; exact h, f⟩, fun a u ⟨o, h⟩ f => ⟨⟨o, by rw [upd_ne (ne a f)]; exact h⟩, f⟩, fun a u h f => ⟨?_, f⟩, fun a u h => ?_⟩
  · rcases h with h | ⟨o, h⟩
    · exact .inl (by rw [upd_ne (ne a f)]; exact h)
    · exact .inr ⟨o, by rw [upd_ne (ne a f)]; exact h⟩
  · have z : a ≠ D := fun z => by
      subst z
      rcases h with h | ⟨o, h⟩
      · rw [hD] at h; cases h
      · rw [hD] at h; cases h
    rcases h with h | ⟨o, h⟩
    · exact .inl (by rw [upd_ne z]; exact h)
    · exact .inr ⟨o, by rw [upd_ne z]; exact h⟩
theorem Ok.gset (k : Ok K ca G ρ M H) (gD : G D) {acc : List V} (hD : H D = some (.lst acc)) (acc' : List V) : Ok K ca G ρ M (upd H D (.lst acc')) := by
  have on : On (Fb G ρ M) ρ H (Fb G ρ M) ρ (upd H D (.lst acc')) := On.gset (.inl gD) hD acc'
  refine ⟨k.len, k.nd, fun a h => ?_, fun a h => ?_, k.gn, fun i m a h1 h2 => ?_⟩
  · by_cases z : a = D
    · subst z; exact ⟨_, upd_same⟩
    · rw [upd_ne z]; exact k.trk a h
  · by_cases z : a = D
    · subst z; exact ⟨_, upd_same⟩
    · rw [upd_ne z]; exact k.gt a h
  · have hne : a ≠ D := fun z => k.gn D gD (z ▸ List.mem_of_getElem? h2)
    exact MOk.on on (upd_ne hne) (k.ob i m a h1 h2)
theorem Ext.updD (e : Ext ρ1 M1 H1 ρ M H) (hD : H1 D = none) (o : HO) : Ext ρ1 M1 H1 ρ M (upd H D o) := ⟨e.pre, fun a u h f => ⟨by rw [upd_ne (ne_of_none h hD)]; exact (e.keep a u h f).1, (e.keep a u h f).2⟩⟩
theorem On.unguard : On (Fb (Gd G D) ρ M) ρ H (Fb G ρ M) ρ H := by
  have nf : ∀ a, ¬ Fb (Gd G D) ρ M a → ¬ Fb G ρ M a := fun a f z => f (z.elim (fun g => .inl (.inl g)) .inr)
  exact ⟨fun _ _ h => h, fun a u h f => ⟨h, nf a f⟩, fun a u h f => ⟨h, nf a f⟩, fun a u h f => ⟨h, nf a f⟩, fun a u h => h⟩
theorem Ok.unguard (k : Ok K ca (Gd G D) ρ M H) : Ok K ca G ρ M H :=
  ⟨k.len, k.nd, k.trk, fun a g => k.gt a (.inl g), fun a g => k.gn a (.inl g), fun i m a h1 h2 => MOk.on On.unguard rfl (k.ob i m a h1 h2)⟩
/-- the guarded list becomes one of the store -/
theorem Ok.join (k : Ok K ca (Gd G D) ρ M H) (x : Ext ρ1 M1 H1 ρ M H) (hD1 : H1 D = none) (hG : ¬ G D) {ds : List MP.D} {vs : List V} (hD : H D = some (.lst vs)) (hz : ds.length ≤ sizeLine) (r : RpL K (Fb (Gd G D) ρ M) ρ H ds vs) :
    Ok K ca G (ρ ++ [D]) (M ++ [.list ds]) H ∧ Ext ρ1 M1 H1 (ρ ++ [D]) (M ++ [.list ds]) H := by
  have lv := fun a => Lv.append (p := D) (m := MO.list ds) (a := a) k.len
  have pre : ∀ (n : Nat) (a : Addr), ρ[n]? = some a → (ρ ++ [D])[n]? = some a := fun n a h => by
    have hn : n < ρ.length := (List.getElem?_eq_some_iff.mp h).1
    rw [List.getElem?_append_left hn]; exact h
  have dn : D ∉ ρ := k.gn D (.inr rfl)
  have hF : ∀ a, ¬ Fb (Gd G D) ρ M a → ¬ Fb G (ρ ++ [D]) (M ++ [.list ds]) a := fun a f h => by
    rcases h with h | h
    · exact f (.inl (.inl h))
    · rcases (lv a).mp h with h | ⟨z, _⟩
      · exact f (.inr h)
      · exact f (.inl (.inr z))
  have on : On (Fb (Gd G D) ρ M) ρ H (Fb G (ρ ++ [D]) (M ++ [.list ds])) (ρ ++ [D]) H := ⟨pre, fun a u h f => ⟨h, hF a f⟩, fun a u h f => ⟨h, hF a f⟩, fun a u h f => ⟨h, hF a f⟩, fun a u h => h⟩
  refine ⟨⟨by rw [List.length_append, List.length_append, k.len]; rfl, ?_, fun a h => ?_, fun a g => k.gt a (.inl g), fun a g l => ?_, fun n q a h1 h2 => ?_⟩, ⟨fun n a h => pre n a (x.pre n a h), fun a u h f => ⟨(x.keep a u h f).1, fun l => ?_⟩⟩⟩
  · rw [List.nodup_append]
    exact ⟨k.nd, by simp, fun a ha b hb => by
      have e : b = D := by simpa using hb
      subst e
      exact fun z => dn (z ▸ ha)⟩
  · rcases List.mem_append.mp h with h | h
    · exact k.trk a h
    · have e : a = D := by simpa using h
      subst e
      exact ⟨_, hD⟩
  · rcases List.mem_append.mp l with l | l
    · exact k.gn a (.inl g) l
    · have z : a = D := by simpa using l
      exact hG (z ▸ g)
  · by_cases hn : n < ρ.length
    · rw [List.getElem?_append_left (by rw [← k.len]; exact hn)] at h1
      rw [List.getElem?_append_left hn] at h2
      exact MOk.on on rfl (k.ob n q a h1 h2)
    · rw [List.getElem?_append_right (by omega)] at h2
      rw [List.getElem?_append_right (by have := k.len; omega)] at h1
      have e : n - ρ.length = 0 := by
        cases z : n - ρ.length with
        | zero => rfl
        | succ j => rw [z] at h2; simp at h2
      rw [e] at h2
      rw [← k.len, e] at h1
      have h1' : MO.list ds = q := by simpa using h1
      have h2' : D = a := by simpa using h2
      subst h1'; subst h2'
      exact ⟨vs, hD, hz, RpL.on on _ _ r⟩
  · rcases (lv a).mp l with l | ⟨z, _⟩
    · exact (x.keep a u h f).2 l
    · exact ne_of_none h hD1 z
theorem wipe_at {σ : L2.St} {j : Nat} : ∀ {vs : List Nat}, (L2.wipe σ vs)[j]? = if j ∈ vs ∧ j < σ.length then some none else σ[j]?
  | [] => by simp [L2.wipe]
  | v :: vs => by
    unfold L2.wipe
    by_cases hj : v = j
    · subst hj
      by_cases hl : v < σ.length
      · rw [List.getElem?_set_self (by rw [L2.wipe_length]; exact hl), if_pos ⟨List.mem_cons_self, hl⟩]
      · rw [List.getElem?_eq_none (by rw [List.length_set, L2.wipe_length]; omega), if_neg (fun z => hl z.2), List.getElem?_eq_none (by omega)]
    · rw [List.getElem?_set_ne hj, wipe_at (vs := vs)]
      have e : (j ∈ v :: vs) ↔ (j ∈ vs) := by simp [Ne.symm hj]
      simp only [e]
theorem wipe_same {σ σ2 : L2.St} {vs : List Nat} (hl : σ2.length = σ.length) (h : ∀ j, j ∉ vs → σ2[j]? = (L2.wipe σ vs)[j]?) : L2.wipe σ2 vs = L2.wipe σ vs := by
  refine List.ext_getElem? fun j => ?_
  rw [wipe_at, wipe_at, hl]
  by_cases hj : j ∈ vs
  · by_cases hk : j < σ.length
    · rw [if_pos ⟨hj, hk⟩, if_pos ⟨hj, hk⟩]
    · rw [if_neg (fun z => hk z.2), if_neg (fun z => hk z.2), List.getElem?_eq_none (by omega), List.getElem?_eq_none (by omega)]
  · rw [if_neg (fun z => hj z.1), if_neg (fun z => hj z.1), h j hj, wipe_at, if_neg (fun z => hj z.1)]
/-- one thing that is served -/
theorem srv_step {J : It} {st : Hp → Prop} {ds xs : List MP.D} {vs : List V} {en : Bool} {i : Nat} (hx : xs = (if en = true then ds.mapIdx fun i x => MP.D.tup [.int i, x] else ds)) (k : Ok K ca G ρ M H) (r : RpL K (Fb G ρ M) ρ H ds vs) (sv : Srv J st vs en) (hs : st H) (hi : i < xs.length) :
    J.go i H ∧ ∃ d, xs[i]? = some d ∧ ∀ x H', J.yld i H x H' → Ok K ca G ρ M H' ∧ Ext ρ M H ρ M H' ∧ Rp K (Fb G ρ M) ρ H' d x := by
  have hl : i < ds.length := by
    rw [hx] at hi
    cases en <;> simpa using hi
  obtain ⟨v, e1, e2⟩ := r.get (i := i) (List.getElem?_eq_getElem hl)
  obtain ⟨g, y⟩ := sv.go i H v hs e1
  refine ⟨g, ?_⟩
  cases en with
  | false =>
    rw [if_neg Bool.false_ne_true] at hx
    subst hx
    refine ⟨xs[i], List.getElem?_eq_getElem hl, fun x H' q => ?_⟩
    have z := y x H' q
    rw [if_neg Bool.false_ne_true] at z
    obtain ⟨rfl, rfl⟩ := z
    exact ⟨k, .refl, e2⟩
  | true =>
    rw [if_pos rfl] at hx
    subst hx
    refine ⟨.tup [.int i, ds[i]], by rw [List.getElem?_mapIdx, List.getElem?_eq_getElem hl]; rfl, fun x H' q => ?_⟩
    have z := y x H' q
    rw [if_pos rfl] at z
    obtain ⟨T, hT, rfl, rfl⟩ := z
    have n := k.new hT (.tup [.int i, v])
    exact ⟨n.1, n.2, Rp.newTup k hT (by rw [sizeLine_eq]; show 2 ≤ 16777216; omega) ⟨_, _, rfl, rfl, _, _, rfl, e2, rfl⟩⟩
end
/-! ### the comprehension -/
/-- a turn of the block -/
def turnF (F : FT) (cls : Nat → Nat) (own : List Nat) (t : T) (C B : E) (env : Env) (x : D) (M : Sto) : Option (Option D × Sto) := match asg t x (wipeE env own) with
  | none => none
  | some env1 => match optC (isAbs C) M (ev F cls C env1 M) with
    | none => none
    | some (false, M1) => some (none, M1)
    | some (true, M1) => match ev F cls B env1 M1 with
      | none => none
      | some (d, M2) => some (some d, M2)
section
variable {K : PySem.W.Frag} {ca : Nat → Option Addr} {G : Addr → Prop} {ρ ρ1 : List Addr} {M M1 M' : Sto} {H H1 : Hp} {σ : L2.St} {env : Env} {F : FT} {cls : Nat → Nat} {mu : Bool} {own : List Nat} {t : T} {k : IK} {A B C E0 : E} {d : D}
theorem comp_inv (h : ev F cls (.comp mu own t k A B C E0) env M = some (d, M')) : ∃ xs M1 ys M2, evI F cls k A B env M = some (.pure xs, M1) ∧ xs.length ≤ LINE ∧ compR (turnF F cls own t C E0 env) xs M1 = some (ys, M2) ∧ mk mu (.list ys) M2 = some (d, M') := by
  rw [ev] at h
  split at h
  · cases h
  · rename_i x M0 e1
    split at h
    · cases h
    · rename_i y M1 e2
      split at h
      · rename_i xs e3
        split at h
        · rename_i hz
          split at h
          · cases h
          · rename_i ys M2 e4
            refine ⟨xs, M1, ys, M2, ?_, hz, e4, h⟩
            simp only [evI, e1, e2, e3]
        · cases h
      · cases h
theorem turn_inv {x : D} {o : Option D} {M2 : Sto} (h : turnF F cls own t C E0 env x M = some (o, M2)) : ∃ env1, asg t x (wipeE env own) = some env1 ∧ ∃ b M1, optC (isAbs C) M (ev F cls C env1 M) = some (b, M1) ∧ (if b = true then ∃ d, ev F cls E0 env1 M1 = some (d, M2) ∧ o = some d else o = none ∧ M2 = M1) := by
  unfold turnF at h
  split at h
  · cases h
  · rename_i env1 e1
    refine ⟨env1, e1, ?_⟩
    split at h
    · cases h
    · rename_i M1 e2
      cases h
      exact ⟨false, _, e2, by rw [if_neg Bool.false_ne_true]; exact ⟨rfl, rfl⟩⟩
    · rename_i M1 e2
      split at h
      · cases h
      · rename_i d M2 e3
        cases h
        exact ⟨true, _, e2, by rw [if_pos rfl]; exact ⟨d, e3, rfl⟩⟩
/-- the block's test -/
def ttC (K : PySem.W.Frag) (ca : Nat → Option Addr) (F : FT) (cls : Nat → Nat) (C : E) : TT := if isAbs C = true then tYes else tT K ca fun env M => tst (ev F cls C env M)
theorem ttC_go {H : Hp} {σ : L2.St} {env : Env} {b : Bool} {Q : Bool → Hp → Prop} (a : At K ca G ρ M H σ env) (e : optC (isAbs C) M (ev F cls C env M) = some (b, M1)) (h : ∀ ρ' H', Ext ρ M H ρ' M1 H' → At K ca G ρ' M1 H' σ env → Q b H') : ttC K ca F cls C σ H Q := by
  unfold ttC
  unfold optC at e
  cases z : isAbs C with
  | true =>
    rw [z, if_pos rfl] at e
    rw [if_pos rfl]
    cases e
    exact h ρ H .refl a
  | false =>
    rw [z, if_neg Bool.false_ne_true] at e
    rw [if_neg Bool.false_ne_true]
    exact tT.go (f := fun env M => tst (ev F cls C env M)) a e h
theorem tLc_ok {Q : VK} (hs : ∀ j ∈ tslots t, j ∈ own) (a0 : At K ca G ρ M H σ env) (h : ev F cls (.comp mu own t k A B C E0) env M = some (d, M')) (q : ∀ ρ' v H', Ext ρ M H ρ' M' H' → Ok K ca G ρ' M' H' → Rp K (Fb G ρ' M') ρ' H' d v → Q v H') :
    tLc (tI K ca (evI F cls k A B)) (gT K t) (ttC K ca F cls C) (tE K ca (ev F cls E0)) own σ H Q := by
  obtain ⟨xs, M1, ys, M2, e1, hz, e2, e3⟩ := comp_inv h
  refine ⟨G, ρ, env, M, .pure xs, M1, a0, e1, fun ρ1 H1 J x1 k1 sk L hL => ?_⟩
  obtain ⟨ds, vs, en, st, hx, hr, sv, hst⟩ := sk
  have hGL : ¬ G L := k1.notG hL
  refine ⟨fun i m H => m = xs.length - i ∧ i ≤ xs.length ∧ ∃ ρ M acc as rest, Ext ρ1 M1 H1 ρ M H ∧ Ok K ca (Gd G L) ρ M H ∧ H L = some (.lst acc) ∧ RpL K (Fb (Gd G L) ρ M) ρ H as acc ∧ compR (turnF F cls own t C E0 env) (xs.drop i) M = some (rest, M2) ∧ ys = as ++ rest ∧ as.length ≤ i,
    ⟨xs.length, by rw [Nat.sub_zero], Nat.zero_le _, ρ1, M1, [], [], ys, (k1.guard hL _).2, (k1.guard hL _).1, upd_same, rfl, by rw [List.drop_zero]; exact e2, rfl, Nat.le_refl _⟩, fun i m H ⟨hm, hi, ρ2, M3, acc, as, rest, x2, k2, hD, ra, er, ey, hla⟩ => ?_⟩
  have on := x2.onD k1 hL
  have hst2 : st H := hst H fun a o e f => (x2.keep a o e f).1
  have hlen : ds.length = xs.length := by rw [hx]; cases en <;> simp
  rcases Nat.lt_or_ge i xs.length with hlt | hge
  · right
    obtain ⟨g, x0, ex, ys0⟩ := srv_step hx k2 (RpL.on on ds vs hr) sv hst2 hlt
    have hdr : xs.drop i = x0 :: xs.drop (i + 1) := by
      rw [List.getElem?_eq_getElem hlt] at ex
      cases ex
      exact List.drop_eq_getElem_cons hlt
    rw [hdr, compR] at er
    split at er
    · cases er
    · rename_i o M4 et
      split at er
      · cases er
      · rename_i zs M5 ez
        injection er with er
        injection er with er1 er2
        subst er2
        obtain ⟨env1, f1, b, M6, f2, f3⟩ := turn_inv et
        refine ⟨g, fun H' => ∃ m', m' < m ∧ _, fun H' q => q, fun xv H' hy => ?_⟩
        obtain ⟨k3, x3, rx⟩ := ys0 xv H' hy
        have en3 : EnvR K (Fb (Gd G L) ρ2 M3) ρ2 H' (L2.wipe σ own) (wipeE env own) := (((a0.to x1 k1).en.on on).on (x3.on k2)).wipe own
        refine gT_ok en3 rx f1 fun σ' r' hk => ⟨?_, ?_⟩
        · refine wipe_same ?_ fun j hj => hk j fun z => hj (hs j z)
          have l1 := r'.len
          have l2 := en3.len
          have l3 : env1.length = (wipeE env own).length := by
            cases t with
            | nm i => cases f1; rw [List.length_set]
            | tp is =>
              simp only [asg] at f1
              split at f1
              · split at f1
                · cases f1
                  generalize is.zip _ = l
                  generalize wipeE env own = e
                  induction l generalizing e with
                  | nil => rfl
                  | cons p l ih => rw [List.foldl_cons, ih, List.length_set]
                · cases f1
              · cases f1
          rw [L2.wipe_length] at l2
          omega
        · refine ttC_go ⟨k3, r'⟩ f2 fun ρ4 H4 x4 a4 => ?_
          cases b with
          | false =>
            rw [if_neg Bool.false_ne_true] at f3 ⊢
            obtain ⟨rfl, rfl⟩ := f3
            have x34 := x3.trans x4
            refine ⟨m - 1, by omega, by omega, hlt, ρ4, M4, acc, as, zs, x2.trans x34, a4.ok, ?_, RpL.on (x34.on k2) _ _ ra, ez, ?_, by omega⟩
            · exact (x34.keep L _ hD (k2.gl L (.inr rfl))).1
            · rw [ey, ← er1]
          | true =>
            rw [if_pos rfl] at f3 ⊢
            obtain ⟨y, f4, rfl⟩ := f3
            refine tE.go a4 f4 fun ρ5 v5 H5 x5 a5 r5 => ?_
            have x35 := (x3.trans x4).trans x5
            have hD5 := (x35.keep L _ hD (k2.gl L (.inr rfl))).1
            have ra5 := RpL.on (x35.on k2) _ _ ra
            have hal := ra.length
            rw [lineEq] at hz
            have gs := On.gset (ρ := ρ5) (F := Fb (Gd G L) ρ5 M4) (.inl (.inr rfl)) hD5 (acc ++ [v5])
            refine ⟨acc, hD5, by omega, m - 1, by omega, by omega, hlt, ρ5, M4, acc ++ [v5], as ++ [y], zs, (x2.trans x35).updD hL _, a5.ok.gset (.inr rfl) hD5 _, upd_same, ?_, ez, ?_, ?_⟩
            · exact RpL.on gs _ _ (RpL.append ra5 (RpL.one r5))
            · rw [ey, ← er1, List.append_assoc]; rfl
            · rw [List.length_append]; exact Nat.succ_le_succ hla
  · left
    have hi' : i = xs.length := Nat.le_antisymm hi hge
    refine ⟨sv.stop i H hst2 (by rw [hr.length, hlen]; exact hge), ?_⟩
    rw [List.drop_eq_nil_of_le hge, compR] at er
    injection er with er
    injection er with er1 er2
    subst er1; subst er2
    rw [List.append_nil] at ey
    subst ey
    have hz' : ys.length ≤ sizeLine := by rw [← lineEq]; omega
    have ku := k2.unguard
    have ra' := RpL.on On.unguard _ _ ra
    have x02 := x1.trans x2
    have nl : ¬ Fb G ρ2 M3 L := fun z => z.elim hGL (k2.gl L (.inr rfl))
    cases mu with
    | false =>
      unfold mk at e3
      rw [if_neg Bool.false_ne_true] at e3
      cases e3
      exact q ρ2 _ H x02 ku ⟨L, acc, rfl, hD, nl, hz', ra'⟩
    | true =>
      unfold mk at e3
      simp only [if_true] at e3
      cases e3
      have j := k2.join x2 hL hGL hD hz' ra
      exact q _ _ H (x1.trans j.2) j.1 ⟨L, rfl, newM_at ku⟩
end
end MP

/-! MP14: statements. -/
namespace MP
open PySem PySem.Spec PyProof.Rows L2
/-- what is wanted behind a statement's outcome -/
def En (K : PySem.W.Frag) (G : Addr → Prop) (ρ : List Addr) (M : Sto) (D : Ends) (σ : L2.St) (H : Hp) : Out → Prop
  | .next => D.nx σ H
  | .cont => D.ct σ H
  | .ret d => ∀ v, Rp K (Fb G ρ M) ρ H d v → D.rt v H
/-- readings of statements by the run -/
def tS (K : PySem.W.Frag) (ca : Nat → Option Addr) (f : Env → Sto → SR) : TS := fun D σ H => ∃ G ρ env M o env' M', At K ca G ρ M H σ env ∧ f env M = some (o, env', M') ∧
  ∀ ρ' σ' H', Ext ρ M H ρ' M' H' → At K ca G ρ' M' H' σ' env' → En K G ρ' M' D σ' H' o
theorem tS.go {K : PySem.W.Frag} {ca : Nat → Option Addr} {f : Env → Sto → SR} {G : Addr → Prop} {ρ : List Addr} {M M' : Sto} {H : Hp} {σ : L2.St} {env env' : Env} {o : Out} {D : Ends} (a : At K ca G ρ M H σ env) (e : f env M = some (o, env', M'))
    (h : ∀ ρ' σ' H', Ext ρ M H ρ' M' H' → At K ca G ρ' M' H' σ' env' → En K G ρ' M' D σ' H' o) : tS K ca f D σ H := ⟨G, ρ, env, M, o, env', M', a, e, h⟩
section
variable {X : Cx} {ca : Nat → Option Addr} {F : FT} {cls : Nat → Nat} {e a b c : Expr} {es : List Expr} {pos p p1 : Pos} {A B C E0 : E} {AS : EL} {st : Stmt} {ss : List Stmt}
abbrev PSv (X : Cx) (ca : Nat → Option Addr) (F : FT) (cls : Nat → Nat) (st : Stmt) (A : S) : Prop := PS X st (tS X.K ca (exec F cls A))
abbrev PBv (X : Cx) (ca : Nat → Option Addr) (F : FT) (cls : Nat → Nat) (ss : List Stmt) (A : SB) : Prop := PSs X ss (tS X.K ca (exb F cls A))
theorem b_nil : PBv X ca F cls [] .nil := PSs.imp pss_nil fun D σ H ⟨G, ρ, env, M, o, env', M', a0, h, q⟩ => by
  rw [exb] at h
  cases h
  exact q ρ σ H .refl a0
theorem exb_cons_inv {s : S} {r : SB} {env : Env} {M : Sto} {o : Out} {env' : Env} {M' : Sto} (h : exb F cls (.cons s r) env M = some (o, env', M')) : ∃ o1 env1 M1, exec F cls s env M = some (o1, env1, M1) ∧ (o1 = .next ∧ exb F cls r env1 M1 = some (o, env', M') ∨ (o1 ≠ .next ∧ o = o1 ∧ env' = env1 ∧ M' = M1)) := by
  rw [exb] at h
  split at h
  · cases h
  · rename_i env1 M1 e1
    exact ⟨.next, env1, M1, e1, .inl ⟨rfl, h⟩⟩
  · rename_i env1 M1 e1
    cases h
    exact ⟨.cont, _, _, e1, .inr ⟨(fun z => by cases z), rfl, rfl, rfl⟩⟩
  · rename_i d env1 M1 e1
    cases h
    exact ⟨.ret d, _, _, e1, .inr ⟨(fun z => by cases z), rfl, rfl, rfl⟩⟩
theorem En.trans {K : PySem.W.Frag} {G : Addr → Prop} {ρ : List Addr} {M : Sto} {D : Ends} {nx : L2.St → Hp → Prop} {σ : L2.St} {H : Hp} {o : Out} (n : o ≠ .next) (h : En K G ρ M D σ H o) : En K G ρ M { D with nx := nx } σ H o := by
  cases o with
  | next => exact absurd rfl n
  | cont => exact h
  | ret d => exact h
theorem b_cons {s : S} {r : SB} (h1 : PSv X ca F cls st s) (h2 : PBv X ca F cls ss r) : PBv X ca F cls (st :: ss) (.cons s r) := by
  refine PSs.imp (pss_cons h1 h2) fun D σ H ⟨G, ρ, env, M, o, env', M', a0, h, q⟩ => ?_
  obtain ⟨o1, env1, M1, e1, k⟩ := exb_cons_inv h
  refine tS.go a0 e1 fun ρ1 σ1 H1 x1 a1 => ?_
  rcases k with ⟨rfl, e2⟩ | ⟨n, rfl, rfl, rfl⟩
  · exact tS.go a1 e2 fun ρ2 σ2 H2 x2 a2 => q ρ2 σ2 H2 (x1.trans x2) a2
  · exact (q ρ1 σ1 H1 x1 a1).trans n
/-- a list of the store is pure from here on -/
theorem b_frz {i : Nat} {r : SB} (h2 : PBv X ca F cls ss r) : PBv X ca F cls ss (.cons (.frz i) r) := by
  refine PSs.imp h2 fun D σ H ⟨G, ρ, env, M, o, env', M', a0, h, q⟩ => ?_
  obtain ⟨o1, env1, M1, e1, k⟩ := exb_cons_inv h
  rw [exec] at e1
  split at e1
  · rename_i n en
    obtain ⟨v, ev, rv⟩ := a0.en.at_ i _ en
    obtain ⟨p, rfl, hp⟩ := rv
    split at e1
    · rename_i xs em
      cases e1
      have fz := a0.ok.freeze em hp trivial
      have on := On.freeze a0.ok em hp trivial
      obtain ⟨vs, g1, g2, g3⟩ := a0.ok.ob n _ p em hp
      have en' := (a0.en.on on).set (d := .list xs) (v := .ref p) ⟨p, vs, rfl, g1, fz.2.2, g2, RpL.on on _ _ g3⟩ i
      have es : σ.set i (some (V.ref p)) = σ := by
        refine List.ext_getElem? fun j => ?_
        by_cases hj : i = j
        · subst hj
          rw [List.getElem?_set_self (List.getElem?_eq_some_iff.mp ev).1, ev]
        · rw [List.getElem?_set_ne hj]
      rw [es] at en'
      rcases k with ⟨_, e2⟩ | ⟨n, _⟩
      · exact tS.go ⟨fz.1, en'⟩ e2 fun ρ2 σ2 H2 x2 a2 => q ρ2 σ2 H2 (fz.2.1.trans x2) a2
      · exact absurd rfl n
    · rename_i xs em
      cases e1
      have fz := a0.ok.freeze em hp trivial
      have on := On.freeze a0.ok em hp trivial
      obtain ⟨us, g1, g3⟩ := a0.ok.ob n _ p em hp
      have en' := (a0.en.on on).set (d := .dict xs) (v := .ref p) ⟨p, us, rfl, .inl g1, fz.2.2, RpK.on on _ _ g3⟩ i
      have es : σ.set i (some (V.ref p)) = σ := by
        refine List.ext_getElem? fun j => ?_
        by_cases hj : i = j
        · subst hj
          rw [List.getElem?_set_self (List.getElem?_eq_some_iff.mp ev).1, ev]
        · rw [List.getElem?_set_ne hj]
      rw [es] at en'
      rcases k with ⟨_, e2⟩ | ⟨n, _⟩
      · exact tS.go ⟨fz.1, en'⟩ e2 fun ρ2 σ2 H2 x2 a2 => q ρ2 σ2 H2 (fz.2.1.trans x2) a2
      · exact absurd rfl n
    · cases e1
  · cases e1
theorem b_doc {x : Str} {j : Nat} {pos' : Pos} {r : SB} (h2 : PBv X ca F cls ss r) : PBv X ca F cls (.Expr (.Constant (.str x) j pos) pos' :: ss) r := by
  refine PSs.imp (pss_cons ps_doc h2) fun D σ H ⟨G, ρ, env, M, o, env', M', a0, h, q⟩ => ?_
  exact tS.go a0 h q
theorem s_pass : PSv X ca F cls (.Pass pos) .pass := PS.imp ps_pass fun D σ H ⟨G, ρ, env, M, o, env', M', a0, h, q⟩ => by
  rw [exec] at h
  cases h
  exact q ρ σ H .refl a0
theorem s_cont : PSv X ca F cls (.Continue pos) .cont := PS.imp ps_continue fun D σ H ⟨G, ρ, env, M, o, env', M', a0, h, q⟩ => by
  rw [exec] at h
  cases h
  exact q ρ σ H .refl a0
theorem s_retN : PSv X ca F cls (.Return none pos) .retN := PS.imp ps_retN fun D σ H ⟨G, ρ, env, M, o, env', M', a0, h, q⟩ => by
  rw [exec] at h
  cases h
  exact q ρ σ H .refl a0 .non rfl
theorem s_ret (ha : PEv X ca F cls a A) : PSv X ca F cls (.Return (some a) pos) (.ret A) := PS.imp (ps_ret ha) fun D σ H ⟨G, ρ, env, M, o, env', M', a0, h, q⟩ => by
  rw [exec] at h
  split at h
  · cases h
  · rename_i d M1 e1
    cases h
    exact tE.go a0 e1 fun ρ1 v1 H1 x1 a1 r1 => q ρ1 σ H1 x1 a1 v1 r1
theorem s_exp (ha : PEv X ca F cls a A) (hs : swapsWith a none pos.line X.env = pure false) : PSv X ca F cls (.Expr a pos) (.exp A) := PS.imp (ps_expr ha hs) fun D σ H ⟨G, ρ, env, M, o, env', M', a0, h, q⟩ => by
  rw [exec] at h
  split at h
  · cases h
  · rename_i d M1 e1
    cases h
    exact tE.go a0 e1 fun ρ1 v1 H1 x1 a1 r1 => q ρ1 σ H1 x1 a1
theorem s_if {P Q : SB} {ts fs : List Stmt} (hc : PTv X ca F cls c C) (ht : PBv X ca F cls ts P) (hf : PBv X ca F cls fs Q) : PSv X ca F cls (.If c ts fs pos) (.ife C P Q) := PS.imp (ps_if hc ht hf) fun D σ H ⟨G, ρ, env, M, o, env', M', a0, h, q⟩ => by
  rw [exec] at h
  split at h
  · cases h
  · rename_i M1 e1
    exact tT.go a0 e1 fun ρ1 H1 x1 a1 => by
      rw [if_pos rfl]
      exact tS.go a1 h fun ρ2 σ2 H2 x2 a2 => q ρ2 σ2 H2 (x1.trans x2) a2
  · rename_i M1 e1
    exact tT.go a0 e1 fun ρ1 H1 x1 a1 => by
      rw [if_neg Bool.false_ne_true]
      exact tS.go a1 h fun ρ2 σ2 H2 x2 a2 => q ρ2 σ2 H2 (x1.trans x2) a2
/-- name = value, a reading by the evaluator in hand -/
theorem s_set {i : Nat} {t : TE} (ha : PS X st (tAsg t (gName i))) (ht : ∀ σ H Q, tE X.K ca (ev F cls A) σ H Q → t σ H Q) : PSv X ca F cls st (.setv i A) := PS.imp ha fun D σ H ⟨G, ρ, env, M, o, env', M', a0, h, q⟩ => by
  rw [exec] at h
  split at h
  · cases h
  · rename_i d M1 e1
    cases h
    exact ht _ _ _ (tE.go a0 e1 fun ρ1 v1 H1 x1 a1 r1 => q ρ1 _ H1 x1 ⟨a1.ok, a1.en.set r1 i⟩)
theorem s_sett {is : List Nat} (ha : PS X st (tAsg (tE X.K ca (ev F cls A)) (gT X.K (.tp is)))) : PSv X ca F cls st (.sett is A) := PS.imp ha fun D σ H ⟨G, ρ, env, M, o, env', M', a0, h, q⟩ => by
  rw [exec] at h
  split at h
  · cases h
  · rename_i d M1 e1
    split at h
    · cases h
    · rename_i env1 e2
      cases h
      exact tE.go a0 e1 fun ρ1 v1 H1 x1 a1 r1 => gT_ok a1.en r1 e2 fun σ' r' _ => q ρ1 σ' H1 x1 ⟨a1.ok, r'⟩
theorem s_setp {i j : Nat} (ha : PS X st (tPar i j (tL X.K ca (evL F cls (.cons A (.cons B .nil)))))) : PSv X ca F cls st (.setp i j A B) := PS.imp ha fun D σ H ⟨G, ρ, env, M, o, env', M', a0, h, q⟩ => by
  rw [exec] at h
  split at h
  · cases h
  · rename_i x M1 e1
    split at h
    · cases h
    · rename_i y M2 e2
      cases h
      refine tL.go (d := [x, y]) a0 (M' := M') (by rw [evL, e1]; simp only; rw [evL, e2]; simp only; rw [evL]) fun ρ1 v1 H1 x1 a1 r1 => ?_
      obtain ⟨v, w, rfl, r2, r3⟩ := r1
      obtain ⟨v', w', rfl, r4, r5⟩ := r3
      have z : w' = [] := r5
      subst z
      exact ⟨v, v', rfl, q ρ1 _ H1 x1 ⟨a1.ok, (a1.en.set r2 i).set r4 j⟩⟩

/-! ### stores by subscript -/
def rSetA : TSet := fun o i v H Q => rSetL o i v H Q ∨ rSetD o i v H Q
theorem set_any (hu : X.A.units + 1 < cLine) : PSet X rSetA := by
  intro pins s σ H o i v ov iv u Q I ro ri rv h
  rcases h with h | h
  · exact set_list pins s σ H o i v ov iv u Q I ro ri rv h
  · exact set_dict hu pins s σ H o i v ov iv u Q I ro ri rv h
theorem RpK.any {K : PySem.W.Frag} {F : Addr → Prop} {ρ : List Addr} {H : Hp} {q : Key} : ∀ {kvs : List (Key × D)} {us : List (Key × V)}, RpK K F ρ H kvs us → (us.any fun kv => decide (kv.1 = q)) = kvs.any fun kv => decide (kv.1 = q)
  | [], us, h => by
    have e : us = [] := h
    subst e; rfl
  | (k, d) :: kvs, us, h => by
    obtain ⟨w, us', rfl, h1, h2⟩ := h
    rw [List.any_cons, List.any_cons, RpK.any h2]
theorem RpK.map {K : PySem.W.Frag} {F : Addr → Prop} {ρ : List Addr} {H : Hp} {q : Key} {z : D} {v : V} (r : Rp K F ρ H z v) : ∀ {kvs : List (Key × D)} {us : List (Key × V)}, RpK K F ρ H kvs us →
    RpK K F ρ H (kvs.map fun kv => if kv.1 = q then (kv.1, z) else kv) (us.map fun kv => if kv.1 = q then (kv.1, v) else kv)
  | [], us, h => by
    have e : us = [] := h
    subst e; rfl
  | (k, d) :: kvs, us, h => by
    obtain ⟨w, us', rfl, h1, h2⟩ := h
    rw [List.map_cons, List.map_cons]
    by_cases hk : k = q
    · rw [if_pos hk, if_pos hk]
      exact ⟨v, _, rfl, r, RpK.map r h2⟩
    · rw [if_neg hk, if_neg hk]
      exact ⟨w, _, rfl, h1, RpK.map r h2⟩
theorem RpK.snoc {K : PySem.W.Frag} {F : Addr → Prop} {ρ : List Addr} {H : Hp} {q : Key} {z : D} {v : V} (r : Rp K F ρ H z v) : ∀ {kvs : List (Key × D)} {us : List (Key × V)}, RpK K F ρ H kvs us → RpK K F ρ H (kvs ++ [(q, z)]) (us ++ [(q, v)])
  | [], us, h => by
    have e : us = [] := h
    subst e
    exact ⟨v, [], rfl, r, rfl⟩
  | (k, d) :: kvs, us, h => by
    obtain ⟨w, us', rfl, h1, h2⟩ := h
    exact ⟨w, us' ++ [(q, v)], rfl, h1, RpK.snoc r h2⟩
theorem RpK.putK {K : PySem.W.Frag} {F : Addr → Prop} {ρ : List Addr} {H : Hp} {q : Key} {z : D} {v : V} (r : Rp K F ρ H z v) {kvs : List (Key × D)} {us : List (Key × V)} (h : RpK K F ρ H kvs us) : RpK K F ρ H (setI.putKD q z kvs) (L2.putK us q v) := by
  unfold setI.putKD L2.putK
  rw [RpK.any h]
  split
  · exact RpK.map r h
  · exact RpK.snoc r h
theorem RpK.length {K : PySem.W.Frag} {F : Addr → Prop} {ρ : List Addr} {H : Hp} : ∀ {kvs : List (Key × D)} {us : List (Key × V)}, RpK K F ρ H kvs us → us.length = kvs.length
  | [], us, h => by
    have e : us = [] := h
    subst e; rfl
  | (k, d) :: kvs, us, h => by
    obtain ⟨w, us', rfl, h1, h2⟩ := h
    rw [List.length_cons, List.length_cons, RpK.length h2]
theorem key_ok {K : PySem.W.Frag} {F : Addr → Prop} {ρ : List Addr} {H : Hp} {y : D} {q : Key} {v : V} (e : keyOf y = some q) (r : Rp K F ρ H y v) : v = kV q := by
  cases y <;> cases e
  · exact r
  · exact r
/-- the store by subscript does what the run says -/
theorem setI_ok {K : PySem.W.Frag} {ca : Nat → Option Addr} {G : Addr → Prop} {ρ : List Addr} {M M' : Sto} {H : Hp} {x y z : D} {xv yv zv : V} {Q : Hp → Prop} (k : Ok K ca G ρ M H) (e : setI M x y z = some M') (rx : Rp K (Fb G ρ M) ρ H x xv) (ry : Rp K (Fb G ρ M) ρ H y yv) (rz : Rp K (Fb G ρ M) ρ H z zv)
    (h : ∀ H', Ext ρ M H ρ M' H' → Ok K ca G ρ M' H' → Q H') : rSetA xv yv zv H Q := by
  cases x with
  | loc n =>
    obtain ⟨p, rfl, hp⟩ := rx
    unfold setI at e
    simp only at e
    split at e
    · rename_i xs em
      split at e
      · rename_i i
        split at e
        · rename_i j ej
          cases e
          obtain ⟨vs, g1, g2, g3⟩ := k.ob n _ p em hp
          have w := k.write (m' := .list (xs.set j z)) (o := .lst (vs.set j zv)) em hp trivial trivial fun F' ρ' H' o e => ⟨_, e, by rw [List.length_set]; exact g2, RpL.on o _ _ (RpL.set rz j g3)⟩
          exact .inl ⟨p, vs, i, j, rfl, ry, g1, by rw [g3.length]; exact ej, h _ w.2 w.1⟩
        · cases e
      · cases e
    · rename_i kvs em
      split at e
      · rename_i q eq
        split at e
        · rename_i hz
          cases e
          obtain ⟨us, g1, g3⟩ := k.ob n _ p em hp
          have w := k.write (m' := .dK (setI.putKD q z kvs)) (o := .dK (L2.putK us q zv)) em hp trivial trivial fun F' ρ' H' o e => ⟨_, e, RpK.on o _ _ (RpK.putK rz g3)⟩
          have ek := key_ok eq ry
          subst ek
          exact .inr ⟨p, _, rfl, DPut.k g1 (by rw [g3.length, ← lineEq]; exact hz), h _ w.2 w.1⟩
        · cases e
      · cases e
    · cases e
  | _ => cases e
end
end MP

/-! MP15: stores by subscript, loops. -/
namespace MP
open PySem PySem.Spec PyProof.Rows L2
section
variable {X : Cx} {ca : Nat → Option Addr} {F : FT} {cls : Nat → Nat} {e a b c : Expr} {es : List Expr} {pos p p1 : Pos} {A B C I0 J0 E0 E1 : E} {AS : EL} {st : Stmt} {ss : List Stmt}
theorem s_seti (ha : PS X st (tAsg (tE X.K ca (ev F cls E0)) (gSub (tE X.K ca (ev F cls A)) (tE X.K ca (ev F cls I0)) rSetA))) : PSv X ca F cls st (.seti A I0 E0) := PS.imp ha fun D σ H ⟨G, ρ, env, M, o, env', M', a0, h, q⟩ => by
  rw [exec] at h
  split at h
  · cases h
  · rename_i z M1 e1
    split at h
    · cases h
    · rename_i x M2 e2
      split at h
      · cases h
      · rename_i y M3 e3
        split at h
        · cases h
        · rename_i M4 e4
          cases h
          exact tE.go a0 e1 fun ρ1 v1 H1 x1 a1 r1 => tE.go a1 e2 fun ρ2 v2 H2 x2 a2 r2 => tE.go a2 e3 fun ρ3 v3 H3 x3 a3 r3 =>
            setI_ok a3.ok e4 (a2.mv x3 r2) r3 (a2.mv x3 (a1.mv x2 r1)) fun H4 x4 k4 => q ρ3 σ H4 (((x1.trans x2).trans x3).trans x4) (a3.to x4 k4)
theorem s_seti2 (ha : PS X st (tAsg (tE X.K ca (ev F cls (.tup (.cons E0 (.cons E1 .nil))))) (gTup X.K 2 (gCons (gSub (tE X.K ca (ev F cls A)) (tE X.K ca (ev F cls I0)) rSetA) (gCons (gSub (tE X.K ca (ev F cls B)) (tE X.K ca (ev F cls J0)) rSetA) gNil))))) :
    PSv X ca F cls st (.seti2 A I0 B J0 E0 E1) := PS.imp ha fun D σ H ⟨G, ρ, env, M, o, env', M', a0, h, q⟩ => by
  rw [exec] at h
  split at h
  · cases h
  · rename_i z M1 e1
    split at h
    · cases h
    · rename_i w M2 e2
      split at h
      · cases h
      · rename_i x M3 e3
        split at h
        · cases h
        · rename_i y M4 e4
          split at h
          · cases h
          · rename_i M5 e5
            split at h
            · cases h
            · rename_i x2 M6 e6
              split at h
              · cases h
              · rename_i y2 M7 e7
                split at h
                · cases h
                · rename_i M8 e8
                  cases h
                  have et : ev F cls (.tup (.cons E0 (.cons E1 .nil))) env M = some (.tup [z, w], M2) := by
                    rw [ev, evL, e1]; simp only; rw [evL, e2]; simp only; rw [evL]
                    rfl
                  refine tE.go a0 et fun ρ1 v1 H1 x1 a1 r1 => ?_
                  obtain ⟨pt, vs, rfl, g1, g2, g3⟩ := r1
                  obtain ⟨zv, r', rfl, rz, g4⟩ := g3
                  obtain ⟨wv, r'', rfl, rw', g5⟩ := g4
                  have e0 : r'' = [] := g5
                  subst e0
                  refine ⟨pt, _, rfl, g1, rfl, zv, _, rfl, ?_⟩
                  refine tE.go a1 e3 fun ρ3 v3 H3 x3 a3 r3 => tE.go a3 e4 fun ρ4 v4 H4 x4 a4 r4 => setI_ok a4.ok e5 (a3.mv x4 r3) r4 (a3.mv x4 (a1.mv x3 rz)) fun H5 x5 k5 => ?_
                  have a5 := a4.to x5 k5
                  refine ⟨wv, _, rfl, ?_⟩
                  refine tE.go a5 e6 fun ρ6 v6 H6 x6 a6 r6 => tE.go a6 e7 fun ρ7 v7 H7 x7 a7 r7 => setI_ok a7.ok e8 (a6.mv x7 r6) r7 (a6.mv x7 (a5.mv x6 (a4.mv x5 (a3.mv x4 (a1.mv x3 rw'))))) fun H8 x8 k8 => ?_
                  exact ⟨rfl, q ρ7 σ H8 (((((((x1.trans x3).trans x4).trans x5).trans x6).trans x7).trans x8)) (a7.to x8 k8)⟩
/-- an item of a list, by values -/
theorem get_list : PGet X (rIxL X.K) := by
  intro pins s σ H o i ov iv Q I ro ri h
  obtain ⟨p, xs, i, z, rfl, rfl, hq, he, q⟩ := h
  cases ro
  obtain ⟨t, rfl⟩ := ri
  obtain ⟨its, r, pl, hz⟩ := I.list hq
  obtain ⟨j, h1, h2, h3, h4, h5⟩ := atI_get he
  obtain ⟨w, ew, rw'⟩ := r.get h2
  have hl := r.length
  have hn := line63
  have fin : EP X pins σ Q w s := ⟨z, H, I, rw', q⟩
  by_cases h0 : 0 ≤ i
  · have hj : i.toNat = j := by
      rw [seqIndex_of h0 h5] at h1
      exact Option.some.inj h1
    exact wpAny_getItem_list pl.isList h0 (by omega) (by rw [hj]; simpa using ew) fin
  · have hj : (i + (its.toArray.size : Int)).toNat = j := by
      rw [seqIndex_neg (by omega) h4] at h1
      rw [List.size_toArray, ← hl]
      exact Option.some.inj h1
    exact wpAny_getItem_list_neg pl.isList (by omega) (by rw [List.size_toArray] <;> omega) (by omega) (by rw [hj]; simpa using ew) fin
def augBO : BO → Bool
  | .add => true
  | .sub => true
  | _ => false
def augF : BO → Int → Int → Int
  | .sub, i, j => i - j
  | _, i, j => i + j
theorem augOp_inv {o : BO} {x y z : D} (h : augOp o x y = some z) : augBO o = true ∧ ∃ i j, x = .int i ∧ y = .int j ∧ z = .int (augF o i j) := by
  unfold augOp at h
  split at h
  · cases h; exact ⟨rfl, _, _, rfl, rfl, rfl⟩
  · cases h; exact ⟨rfl, _, _, rfl, rfl, rfl⟩
  · cases h
theorem getL_inv {a i d : D} (h : getL_ a i = some d) : ∃ xs k, a = .list xs ∧ i = .int k ∧ atI xs k = some d := by
  unfold getL_ at h
  split at h
  · exact ⟨_, _, rfl, rfl, h⟩
  · cases h
theorem s_augi {o : BO} (hsA : augBO o = true → PS X st (tAugS (tE X.K ca (ev F cls A)) (tE X.K ca (ev F cls I0)) (tE X.K ca (ev F cls E0)) (rIxL X.K) (ipI (augF o)) rSetA)) (ho : augBO o = true) : PSv X ca F cls st (.augi A I0 o E0) := PS.imp (hsA ho) fun D σ H ⟨G, ρ, env, M, oo, env', M', a0, h, q⟩ => by
  rw [exec] at h
  split at h
  · cases h
  · rename_i x M1 e1
    split at h
    · cases h
    · rename_i y M2 e2
      split at h
      · cases h
      · rename_i old e3
        split at h
        · cases h
        · rename_i v M3 e4
          split at h
          · cases h
          · rename_i z e5
            split at h
            · cases h
            · rename_i M4 e6
              cases h
              obtain ⟨_, i, j, rfl, rfl, rfl⟩ := augOp_inv e5
              obtain ⟨xs, k, g1, rfl, g2⟩ := getL_inv e3
              refine tE.go a0 e1 fun ρ1 v1 H1 x1 a1 r1 => tE.go a1 e2 fun ρ2 v2 H2 x2 a2 r2 => ?_
              have r1' := a1.mv x2 r1
              have rs := a2.ok.rs r1'
              rw [g1] at rs
              obtain ⟨pp, vs, rfl, k1, k2, k3⟩ := rs
              obtain ⟨u, u1, u2⟩ := RpL.atI k3 g2
              refine ⟨pp, vs, k, u, rfl, r2, SqL.of k1, u1, ?_⟩
              refine tE.go a2 e4 fun ρ3 v3 H3 x3 a3 r3 => ⟨i, j, u2, r3, ?_⟩
              exact setI_ok a3.ok e6 (a2.mv x3 r1') (a2.mv x3 r2) rfl fun H4 x4 k4 => q ρ3 σ H4 (((x1.trans x2).trans x3).trans x4) (a3.to x4 k4)
theorem ip_aug : ∀ {o : BO}, augBO o = true → PIp X (opOf o) (ipI (augF o))
  | .add, _ => ip_add
  | .sub, _ => ip_sub

/-! ### for -/
theorem evI_for {t : T} {k : IK} {body : SB} {env : Env} {M : Sto} {r : Out × Env × Sto} (h : exec F cls (.for_ t k A B body) env M = some r) : ∃ s M1, evI F cls k A B env M = some (s, M1) ∧ (match s with
    | .pure xs => forP (fun x env M => match asg t x env with
      | none => none
      | some env1 => exb F cls body env1 M) xs env M1
    | .loc n k => forL (fun x env M => match asg t x env with
      | none => none
      | some env1 => exb F cls body env1 M) n k 0 env M1) = some r := by
  rw [exec] at h
  split at h
  · cases h
  · rename_i x M0 e1
    split at h
    · cases h
    · rename_i y M1 e2
      split at h
      · rename_i xs e3
        refine ⟨.pure xs, M1, ?_, h⟩
        simp only [evI, e1, e2, e3]
      · rename_i n k e3
        refine ⟨.loc n k, M1, ?_, h⟩
        simp only [evI, e1, e2, e3]
      · cases h
/-- a turn -/
def turnB (F : FT) (cls : Nat → Nat) (t : T) (body : SB) (x : D) (env : Env) (M : Sto) : SR := match asg t x env with
  | none => none
  | some env1 => exb F cls body env1 M
theorem turnB_inv {t : T} {body : SB} {x : D} {env : Env} {M : Sto} {r : Out × Env × Sto} (h : turnB F cls t body x env M = some r) : ∃ env1, asg t x env = some env1 ∧ exb F cls body env1 M = some r := by
  unfold turnB at h
  split at h
  · cases h
  · rename_i env1 e1
    exact ⟨env1, e1, h⟩
theorem forP_inv {f : D → Env → Sto → SR} {x : D} {xs : List D} {env : Env} {M : Sto} {r : Out × Env × Sto} (h : forP f (x :: xs) env M = some r) : ∃ o env1 M1, f x env M = some (o, env1, M1) ∧ ((∃ d, o = .ret d ∧ r = (.ret d, env1, M1)) ∨ ((o = .next ∨ o = .cont) ∧ forP f xs env1 M1 = some r)) := by
  rw [forP] at h
  split at h
  · cases h
  · rename_i d env1 M1 e1
    cases h
    exact ⟨_, env1, M1, e1, .inl ⟨d, rfl, rfl⟩⟩
  · rename_i env1 M1 e1
    exact ⟨_, env1, M1, e1, .inr ⟨.inl rfl, h⟩⟩
  · rename_i env1 M1 e1
    exact ⟨_, env1, M1, e1, .inr ⟨.inr rfl, h⟩⟩
/-- a turn's body -/
theorem turn_go {t : T} {body : SB} {x : D} {xv : V} {G : Addr → Prop} {ρ : List Addr} {M M1 : Sto} {H : Hp} {σ : L2.St} {env env1 : Env} {o : Out} {D : Ends} {N : L2.St → Hp → Prop} (a : At X.K ca G ρ M H σ env) (r : Rp X.K (Fb G ρ M) ρ H x xv) (h : turnB F cls t body x env M = some (o, env1, M1))
    (hr : ∀ d, o = .ret d → ∀ ρ' σ' H', Ext ρ M H ρ' M1 H' → At X.K ca G ρ' M1 H' σ' env1 → ∀ v, Rp X.K (Fb G ρ' M1) ρ' H' d v → D.rt v H')
    (hn : (o = .next ∨ o = .cont) → ∀ ρ' σ' H', Ext ρ M H ρ' M1 H' → At X.K ca G ρ' M1 H' σ' env1 → N σ' H') :
    gT X.K t xv σ H fun σ2 H2 => tS X.K ca (exb F cls body) { D with nx := N, ct := N, bk := D.nx } σ2 H2 := by
  obtain ⟨env2, e1, e2⟩ := turnB_inv h
  refine gT_ok a.en r e1 fun σ' r' _ => tS.go ⟨a.ok, r'⟩ e2 fun ρ' σ'' H' x' a' => ?_
  cases o with
  | next => exact hn (.inl rfl) ρ' σ'' H' x' a'
  | cont => exact hn (.inr rfl) ρ' σ'' H' x' a'
  | ret d => exact fun v rv => hr d rfl ρ' σ'' H' x' a' v rv
theorem s_for {t : T} {k : IK} {body : SB} (ha : PS X st (tFor (tI X.K ca (evI F cls k A B)) (gT X.K t) (tS X.K ca (exb F cls body)))) : PSv X ca F cls st (.for_ t k A B body) := PS.imp ha fun D σ H ⟨G, ρ, env, M, o, env', M', a0, h, q⟩ => by
  obtain ⟨s, M1, e1, e2⟩ := evI_for h
  refine ⟨G, ρ, env, M, s, M1, a0, e1, fun ρ1 H1 J x1 k1 sk => ?_⟩
  have a1 := a0.to x1 k1
  cases s with
  | pure xs =>
    obtain ⟨ds, vs, en, st0, hx, hr, sv, hst⟩ := sk
    have e2 : forP (turnB F cls t body) xs env M1 = some (o, env', M') := e2
    refine ⟨fun i m σ H => m = xs.length - i ∧ i ≤ xs.length ∧ ∃ ρ M env, Ext ρ1 M1 H1 ρ M H ∧ At X.K ca G ρ M H σ env ∧ forP (turnB F cls t body) (xs.drop i) env M = some (o, env', M'),
      ⟨xs.length, by rw [Nat.sub_zero], Nat.zero_le _, ρ1, M1, env, .refl, a1, by rw [List.drop_zero]; exact e2⟩, fun i m σ2 H2 ⟨hm, hi, ρ2, M2, env2, x2, a2, er⟩ => ?_⟩
    have hst2 : st0 H2 := hst H2 fun a o e f => (x2.keep a o e f).1
    have hlen : ds.length = xs.length := by rw [hx]; cases en <;> simp
    rcases Nat.lt_or_ge i xs.length with hlt | hge
    · right
      obtain ⟨g, x0, ex, ys0⟩ := srv_step hx a2.ok (a1.mvL x2 hr) sv hst2 hlt
      have hdr : xs.drop i = x0 :: xs.drop (i + 1) := by
        rw [List.getElem?_eq_getElem hlt] at ex
        cases ex
        exact List.drop_eq_getElem_cons hlt
      rw [hdr] at er
      obtain ⟨o1, env3, M3, et, ho⟩ := forP_inv er
      refine ⟨g, fun σ' H' => ∃ m', m' < m ∧ _, fun σ' H' q => q, fun xv H3 hy => ?_⟩
      obtain ⟨k3, x3, rx⟩ := ys0 xv H3 hy
      have a3 := a2.to x3 k3
      refine turn_go a3 rx et (fun d hd ρ4 σ4 H4 x4 a4 v rv => ?_) fun hn ρ4 σ4 H4 x4 a4 => ?_
      · rcases ho with ⟨d', e3, e4⟩ | ⟨e3, e4⟩
        · rw [hd] at e3
          cases e3; cases e4
          exact q ρ4 σ4 H4 (((x1.trans x2).trans x3).trans x4) a4 v rv
        · rw [hd] at e3
          rcases e3 with e3 | e3 <;> cases e3
      · rcases ho with ⟨d', e3, e4⟩ | ⟨e3, e4⟩
        · rw [e3] at hn
          rcases hn with hn | hn <;> cases hn
        · exact ⟨m - 1, by omega, by omega, hlt, ρ4, M3, env3, (x2.trans x3).trans x4, a4, e4⟩
    · left
      refine ⟨sv.stop i H2 hst2 (by rw [hr.length, hlen]; exact hge), ?_⟩
      rw [List.drop_eq_nil_of_le hge, forP] at er
      cases er
      exact q ρ2 σ2 H2 (x1.trans x2) a2
  | loc n kk =>
    obtain ⟨p, hp, rfl⟩ := sk
    have e2 : forL (turnB F cls t body) n kk 0 env M1 = some (o, env', M') := e2
    refine ⟨fun i m σ H => ∃ ρ M env, Ext ρ1 M1 H1 ρ M H ∧ At X.K ca G ρ M H σ env ∧ forL (turnB F cls t body) n m i env M = some (o, env', M'),
      ⟨kk, ρ1, M1, env, .refl, a1, e2⟩, fun i m σ2 H2 ⟨ρ2, M2, env2, x2, a2, er⟩ => ?_⟩
    have hp2 := x2.pre n p hp
    cases m with
    | zero =>
      rw [forL] at er
      split at er
      · rename_i xs em
        split at er
        · rename_i hz
          cases er
          obtain ⟨vs, g1, g2, g3⟩ := a2.ok.ob n _ p em hp2
          exact .inl ⟨⟨vs, SqL.of g1, by rw [g3.length]; exact hz⟩, q ρ2 σ2 H2 (x1.trans x2) a2⟩
        · cases er
      · cases er
    | succ m =>
      rw [forL] at er
      split at er
      · rename_i xs em
        split at er
        · cases er
        · rename_i x0 ex
          obtain ⟨vs, g1, g2, g3⟩ := a2.ok.ob n _ p em hp2
          obtain ⟨u, u1, u2⟩ := g3.get ex
          right
          refine ⟨⟨vs, u, SqL.of g1, u1⟩, fun σ' H' => ∃ m', m' < m + 1 ∧ _, fun σ' H' q => q, fun xv H3 hy => ?_⟩
          obtain ⟨rfl, hy⟩ := hy
          have exv : xv = u := Option.some.inj ((hy vs (SqL.of g1)).symm.trans u1)
          subst exv
          split at er
          · cases er
          · rename_i d env3 M3 et
            cases er
            exact turn_go a2 u2 et (fun d' hd ρ4 σ4 H4 x4 a4 v rv => by cases hd; exact q ρ4 σ4 H4 ((x1.trans x2).trans x4) a4 v rv) fun hn => by rcases hn with hn | hn <;> cases hn
          · rename_i env3 M3 et
            exact turn_go a2 u2 et (fun d' hd => by cases hd) fun hn ρ4 σ4 H4 x4 a4 => ⟨m, Nat.lt_succ_self m, ρ4, M3, env3, x2.trans x4, a4, er⟩
          · rename_i env3 M3 et
            exact turn_go a2 u2 et (fun d' hd => by cases hd) fun hn ρ4 σ4 H4 x4 a4 => ⟨m, Nat.lt_succ_self m, ρ4, M3, env3, x2.trans x4, a4, er⟩
      · cases er

/-! ### while -/
/-- while, n turns at most -/
def whileN (c : Env → Sto → Option (Bool × Sto)) (b : Env → Sto → SR) : Nat → Env → Sto → SR
  | 0, _, _ => none
  | n + 1, env, M => match c env M with
    | none => none
    | some (false, M1) => some (.next, env, M1)
    | some (true, M1) => match b env M1 with
      | none => none
      | some (.ret d, e, M2) => some (.ret d, e, M2)
      | some (.next, e, M2) => whileN c b n e M2
      | some (.cont, e, M2) => whileN c b n e M2
theorem whileD_N (c : Env → Sto → Option (Bool × Sto)) (b : Env → Sto → SR) : ∀ (env : Env) (M : Sto) (r : Out × Env × Sto), whileD c b env M = some r → ∃ n, whileN c b n env M = some r := by
  refine whileD.partial_correctness c b (fun env M r => ∃ n, whileN c b n env M = some r) fun f ih env M r h => ?_
  split at h
  · cases h
  · rename_i M1 e1
    exact ⟨1, by rw [whileN, e1]; exact h⟩
  · rename_i M1 e1
    split at h
    · cases h
    · rename_i d e M2 e2
      exact ⟨1, by rw [whileN, e1]; simp only; rw [e2]; exact h⟩
    · rename_i e M2 e2
      obtain ⟨n, hn⟩ := ih _ _ _ h
      exact ⟨n + 1, by rw [whileN, e1]; simp only; rw [e2]; exact hn⟩
    · rename_i e M2 e2
      obtain ⟨n, hn⟩ := ih _ _ _ h
      exact ⟨n + 1, by rw [whileN, e1]; simp only; rw [e2]; exact hn⟩
theorem s_whl {body : SB} (ha : PS X st (tWhile (tT X.K ca fun env M => tst (ev F cls C env M)) (tS X.K ca (exb F cls body)))) : PSv X ca F cls st (.whl C body) := PS.imp ha fun D σ H ⟨G, ρ, env, M, o, env', M', a0, h, q⟩ => by
  rw [exec] at h
  obtain ⟨n, hn⟩ := whileD_N _ _ _ _ _ h
  refine ⟨fun m σ H1 => ∃ ρ1 M1 env, Ext ρ M H ρ1 M1 H1 ∧ At X.K ca G ρ1 M1 H1 σ env ∧ whileN (fun env M => tst (ev F cls C env M)) (fun env M => exb F cls body env M) m env M1 = some (o, env', M'), ⟨n, ρ, M, env, .refl, a0, hn⟩, fun m σ1 H1 ⟨ρ1, M1, env1, x1, a1, er⟩ => ?_⟩
  cases m with
  | zero => cases er
  | succ m =>
    rw [whileN] at er
    split at er
    · cases er
    · rename_i M2 e1
      cases er
      exact tT.go (f := fun env M => tst (ev F cls C env M)) a1 e1 fun ρ2 H2 x2 a2 => by
        rw [if_neg Bool.false_ne_true]
        exact q ρ2 σ1 H2 (x1.trans x2) a2
    · rename_i M2 e1
      refine tT.go (f := fun env M => tst (ev F cls C env M)) a1 e1 fun ρ2 H2 x2 a2 => ?_
      rw [if_pos rfl]
      refine ⟨fun σ' H' => ∃ m', m' < m + 1 ∧ _, fun σ' H' q => q, ?_⟩
      split at er
      · cases er
      · rename_i d e M3 e2
        cases er
        exact tS.go a2 e2 fun ρ3 σ3 H3 x3 a3 v rv => q ρ3 σ3 H3 ((x1.trans x2).trans x3) a3 v rv
      · rename_i e M3 e2
        exact tS.go a2 e2 fun ρ3 σ3 H3 x3 a3 => ⟨m, Nat.lt_succ_self m, ρ3, M3, e, (x1.trans x2).trans x3, a3, er⟩
      · rename_i e M3 e2
        exact tS.go a2 e2 fun ρ3 σ3 H3 x3 a3 => ⟨m, Nat.lt_succ_self m, ρ3, M3, e, (x1.trans x2).trans x3, a3, er⟩
end
end MP

/-! MP16: what the checker asks of shapes. -/
namespace MP
open PySem PySem.Spec PyProof.Rows L2
/-! ### strings -/
def sq (a b : Str) : Bool := a.cps.toList == b.cps.toList
theorem sq_eq {a b : Str} (h : sq a b = true) : a = b := by
  have e : a.cps.toList = b.cps.toList := eq_of_beq h
  cases a; cases b
  congr 1
  exact Array.toList_inj.mp e
theorem sq_refl (a : Str) : sq a a = true := beq_self_eq_true _
theorem sq_ne {a b : Str} (h : sq a b = false) : a ≠ b := fun e => by
  subst e
  rw [sq_refl] at h; cases h
theorem sq_beq {a b : Str} (h : sq a b = false) : (a == b) = false := beq_eq_false_iff_ne.mpr (sq_ne h)
def lkS {α : Type} (x : Str) : List (Str × α) → Option α
  | [] => none
  | (y, a) :: r => if sq x y then some a else lkS x r
theorem lkS_eq {α : Type} (x : Str) : ∀ l : List (Str × α), lkS x l = l.lookup x
  | [] => rfl
  | (y, a) :: r => by
    rw [lkS, List.lookup_cons]
    cases h : sq x y with
    | true =>
      have e := sq_eq h
      subst e
      simp
    | false =>
      have z : (x == y) = false := sq_beq h
      rw [z]
      simp only [Bool.false_eq_true, if_false]
      exact lkS_eq x r
def isK (k : Option NameKind) (j : NameKind) : Bool := match k with
  | some q => decide (q = j)
  | none => false
theorem isK_eq {k : Option NameKind} {j : NameKind} (h : isK k j = true) : k = some j := by
  cases k with
  | none => cases h
  | some q => exact congrArg some (of_decide_eq_true h)
def visB (sc : Scope) (x : Str) : Bool := match lkS x sc.names with
  | some .local => true
  | some .cell => true
  | some .free => true
  | _ => false
theorem visB_ok {sc : Scope} {x : Str} (h : visB sc x = true) : Vis sc x := by
  unfold visB at h
  rw [lkS_eq] at h
  unfold Vis
  split at h
  · rename_i e; exact .inl e
  · rename_i e; exact .inr (.inl e)
  · rename_i e; exact .inr (.inr e)
  · cases h
def locB (sc : Scope) (x : Str) : Bool := match lkS x sc.names with
  | some .local => true
  | some .cell => true
  | _ => false
theorem locB_ok {sc : Scope} {x : Str} (h : locB sc x = true) : L2.Loc sc x := by
  unfold locB at h
  rw [lkS_eq] at h
  unfold L2.Loc
  split at h
  · rename_i e; exact .inl e
  · rename_i e; exact .inr e
  · cases h
def lclB (sc : Scope) (x : Str) : Bool := isK (lkS x sc.names) .local
theorem lclB_ok {sc : Scope} {x : Str} (h : lclB sc x = true) : sc.names.lookup x = some .local := by
  unfold lclB at h
  rw [lkS_eq] at h
  exact isK_eq h
def glB (sc : Scope) (x : Str) : Bool := isK (lkS x sc.names) .globalImplicit
theorem glB_ok {X : Cx} {sc : Scope} {x : Str} (e : X.env.scope = sc) (h : glB sc x = true) : Gl X x := by
  unfold glB at h
  rw [lkS_eq] at h
  show X.env.scope.names.lookup x = _
  rw [e]
  exact isK_eq h
def atB (N : List Str) (i : Nat) (x : Str) : Bool := match N[i]? with
  | some y => sq y x
  | none => false
theorem atB_ok {N : List Str} {i : Nat} {x : Str} (h : atB N i x = true) : N[i]? = some x := by
  unfold atB at h
  split at h
  · rename_i y e
    rw [e, sq_eq h]
  · cases h

/-! ### shapes -/
def isStar : Expr → Bool
  | .Starred _ _ => true
  | _ => false
def noStar (es : List Expr) : Bool := es.all fun e => !isStar e
theorem star_cons {e : Expr} {es : List Expr} {env : PySem.Env} (h : isStar e = false) : starEach (e :: es) env = (false, eval e env) :: starEach es env := by
  cases e <;> first | rfl | (cases h)
theorem star_plain {env : PySem.Env} {pos : Pos} : ∀ {es : List Expr}, noStar es = true → (backTo pos (starEach es env)).any (·.1) = false
  | [], _ => rfl
  | e :: es, h => by
    rw [noStar, List.all_cons, Bool.and_eq_true, Bool.not_eq_true'] at h
    rw [star_cons h.1]
    show (false || (backTo pos (starEach es env)).any (·.1)) = false
    rw [Bool.false_or]
    exact star_plain h.2
def plainT : Expr → Bool
  | .UnaryOp .Not _ _ => false
  | .BoolOp _ _ _ => false
  | .IfExp _ _ _ _ => false
  | .Compare _ _ _ _ => false
  | _ => true
theorem plainT_ok {e : Expr} {env : PySem.Env} (h : plainT e = true) : ∀ whole, isTrue e env whole = (do let v ← whole; standAt e.pos; holding [v] (truthy v)) := by
  intro whole
  cases e with
  | UnaryOp op a pos => cases op <;> first | rfl | (cases h)
  | BoolOp _ _ _ => cases h
  | IfExp _ _ _ _ => cases h
  | Compare _ _ _ _ => cases h
  | _ => rfl
def plainI : Expr → Bool
  | .Slice _ _ _ _ => false
  | _ => true
theorem plainI_ok {e : Expr} (h : plainI e = true) : PlainIx e := by
  intro o i
  cases e with
  | Slice _ _ _ _ => cases h
  | _ => rfl
theorem augI_ok {e : Expr} (h : plainI e = true) : ∀ ov iv new, augStore e ov iv new = (do holding [new, ov, iv] (setItem ov iv new); release [new, ov, iv] []; pure .next) := by
  intro ov iv new
  cases e with
  | Slice _ _ _ _ => cases h
  | _ => rfl
def isSet : Expr → Bool
  | .Set _ _ _ => true
  | _ => false
theorem noSet_marks {e : Expr} {op : CmpOp} (h : isSet e = false) : behindInMarks op e = false := by
  cases e <;> first | rfl | (cases h)
theorem noSet_folded {e : Expr} {env : PySem.Env} (h : isSet e = false) : ∀ x, foldedSetIterable e env x = pure x := by
  intro x
  cases e <;> first | rfl | (cases h)
def isCall : Expr → Bool
  | .Call _ _ _ _ => true
  | _ => false
theorem base_ok {o : Expr} {attr : Str} {env : PySem.Env} {w : Sem Value} (h : isCall o = false) : attributeBase o attr env w = w := by
  cases o <;> first | rfl | (cases h)
def isCompr : Expr → Bool
  | .ListComp _ _ _ _ => true
  | .SetComp _ _ _ _ => true
  | .DictComp _ _ _ _ _ => true
  | _ => false
theorem sw_no {e : Expr} {t : Option Expr} {l : Nat} {env : PySem.Env} (h : isCompr e = false) : swapsWith e t l env = pure false := by
  cases e <;> first | rfl | (cases h)
def isTupE : Expr → Bool
  | .Tuple _ _ _ => true
  | _ => false
theorem sst_no {tg e : Expr} {env : PySem.Env} (h : isTupE e = false) : swappedStores [tg] e env = pure none := by
  cases tg <;> cases e <;> first | rfl | (cases h)
theorem sst_one {a i : Expr} {p1 : Pos} {e : Expr} {env : PySem.Env} : swappedStores [.Subscript a i p1] e env = pure none := by
  cases e <;> rfl
theorem sst_sub {a i b j : Expr} {p1 p2 pt : Pos} {k : Nat} {e : Expr} {env : PySem.Env} : swappedStores [.Tuple [.Subscript a i p1, .Subscript b j p2] k pt] e env = pure none := by
  cases e with
  | Tuple vs k2 p3 =>
    unfold swappedStores
    simp only [List.filterMap_cons, List.filterMap_nil, List.length_nil, List.length_cons]
    split
    · rfl
    · split
      · rfl
      · rfl
  | _ => rfl
theorem sst_pair {x y : Str} {px py pt p3 : Pos} {k k2 : Nat} {a b : Expr} {env : PySem.Env} (hk : env.scope.kind = .function) (hx : env.scope.names.lookup x = some .local) (hy : env.scope.names.lookup y = some .local) (hl : (py.line == px.line) = true) (hxy : x ≠ y)
    (hs : isStar a = false ∧ isStar b = false) (hf : (foldedForSure 8 a && foldedForSure 8 b) = false) (hc : (constantsAlone 8 a && constantsAlone 8 b) = false) :
    swappedStores [.Tuple [.Name x px, .Name y py] k pt] (.Tuple [a, b] k2 p3) env = pure (some [x, y]) := by
  have kx : env.kindOf x = some .local := hx
  have ky : env.kindOf y = some .local := hy
  have hb : env.blockKind = .function := by unfold Env.blockKind; rw [hk]; rfl
  have s1 : ∀ e : Expr, isStar e = false → (match e with | .Starred .. => true | _ => false) = false := fun e h => by cases e <;> first | rfl | (cases h)
  unfold swappedStores
  have n1 : (x == y) = false := beq_eq_false_iff_ne.mpr hxy
  have n2 : (y == x) = false := beq_eq_false_iff_ne.mpr (Ne.symm hxy)
  have ed : [x, y].eraseDups = [x, y] := by
    simp [List.eraseDups_cons, n1, n2, hxy, Ne.symm hxy]
  simp only [hb, List.length_cons, List.length_nil, List.any_cons, List.any_nil, s1 a hs.1, s1 b hs.2, List.head?_cons, Option.map_some, Option.getD_some, Expr.pos, List.filterMap_cons, List.filterMap_nil, kx, ky, hl, beq_self_eq_true, Bool.and_self, if_true, Bool.and_true, ed, List.all_cons, List.all_nil, hf, hc,
    Bool.or_self, Bool.or_false, Bool.not_true, bne_self_eq_false, Bool.false_eq_true, if_false, Nat.reduceAdd, Nat.reduceBEq, Bool.true_or, Bool.not_false]
  refine if_neg fun h => ?_
  rcases (Bool.or_eq_true _ _).mp h with h | h
  · have z := s1 a hs.1
    exact absurd (h.symm.trans z) (by decide)
  · have z := s1 b hs.2
    exact absurd (h.symm.trans z) (by decide)
end MP

/-! MP23: a set made of a list that may be long, its members few. -/
namespace MP
open PySem PySem.Spec PyProof.Rows L2
section
variable {P : Program} {w : World} {A : Around} {E : Value → Shared → Prop}
/-- what stays at each old address -/
abbrev OldIn (h0 h : Heap) : Prop := ∀ b o, h0.get? b = some o → h.get? b = some o
/-- Rel i: what is known of the set at S behind the first i things -/
structure Fill (P : Program) (w : World) (B : Around) (h0 : Heap) (S : Addr) (vs : Array Value) (Rel : Nat → Heap → Prop) : Prop where
  stay : ∀ i h h', Rel i h → (∀ o, h.get? S = some o → h'.get? S = some o) → OldIn h0 h' → Rel i h'
  step : ∀ (i : Nat) (v : Value) (s : Shared) (Q : Bool → Shared → Prop) (E : Value → Shared → Prop), vs[i]? = some v → Rel i s.heap → OldIn h0 s.heap →
    (∀ b h' tk, s.toks ≤ tk → Heap.SameBut S s.heap h' → Rel (i + 1) h' → Q b { s with heap := h', toks := tk }) → wpAny (model P w) B (setAdd S v) Q E s
theorem fill_loop {I S : Addr} {fp wr : List Addr} {G : Array GenState → Array GenState → Prop} {Pv : Nat → Value → Prop} {St : Nat → Shared → Prop} {R : Result → Shared → Prop} {vs : Array Value} {h0 : Heap} {Rel : Nat → Heap → Prop}
    (W : WalksS P w A.in1 I fp wr G vs.size Pv St) (nS : S ∉ fp) (at_ : ∀ i v, Pv i v → vs[i]? = some v) (fl : Fill P w A.in1 h0 S vs Rel) (zS : h0.get? S = none) (zw : ∀ b ∈ wr, h0.get? b = none)
    (fin : ∀ s', Moved (S :: wr) G s s' → Rel vs.size s'.heap → OldIn h0 s'.heap → R (.ok (.ret .none)) s') : ∀ (left i : Nat) (t : Shared), i + left = vs.size → St i t → Rel i t.heap → OldIn h0 t.heap → Moved (S :: wr) G s t →
      codeAny (model P w) A (.builtin "set.update.loop" ⟨[.ref S, .ref I], []⟩) R t
  | left, i, t, hn, st, rel, old, mv => by
    have nw : S ∉ wr := fun z => nS (W.sub S z)
    have up : ∀ {x y : Shared}, Moved wr G x y → Moved (S :: wr) G x y := fun m => m.mono fun b hb => List.mem_cons_of_mem S hb
    have old' : ∀ {x y : Shared}, Moved wr G x y → OldIn h0 x.heap → OldIn h0 y.heap := fun m o b u e => m.heap b u (fun z => by rw [zw b z] at e; cases e) (o b u e)
    refine codeAny_builtin F.entry_set_update_loop ?_
    rw [Around.under_plainId F.plain_set_update_loop _]
    cases left with
    | zero =>
      have ei : i = vs.size := hn
      subst ei
      change wpAny _ A.in1 (pyNext (Value.ref I) >>= _) _ _ t
      refine wpAny_bind (W.done t _ _ st fun t1 m1 => ?_)
      change wpAny _ A.in1 (ret .none) _ _ t1
      exact wpAny_pure (fin t1 (Moved.trans W.gtrans mv (up m1)) (fl.stay _ _ _ rel (fun o e => m1.heap S o nw e) (old' m1 old)) (old' m1 old))
    | succ left =>
      change wpAny _ A.in1 (pyNext (Value.ref I) >>= _) _ _ t
      refine wpAny_bind (W.item i t _ _ (by omega) st fun v t1 pv st1 m1 => ?_)
      have o1 := old' m1 old
      have r1 := fl.stay i _ t1.heap rel (fun o e => m1.heap S o nw e) o1
      change wpAny _ A.in1 (holding [v] (setAdd S v) >>= _) _ _ t1
      refine wpAny_bind (wpAny_holding (fl.step i v t1 _ _ (at_ i v pv) r1 o1 fun b h2 tk htk sb r2 => ?_))
      have o2 : OldIn h0 h2 := fun b u e => (sb.2 b fun z => by rw [z, zS] at e; cases e).trans (o1 b u e)
      refine wpAny_pure ⟨plainId_quiet F.plain_set_update_loop _, fill_loop W nS at_ fl zS zw fin left (i + 1) _ (by omega) (W.frame (i + 1) t1 h2 tk st1 htk fun b hb u e => ?_) r2 o2 ?_⟩
      · rw [sb.2 b fun z => nS (z ▸ hb)]; exact e
      · refine Moved.trans W.gtrans mv ((up m1).then_heap htk fun b u hb e => ?_)
        rw [sb.2 b fun z => hb (z ▸ List.mem_cons_self)]; exact e
/-- an empty set, newly made -/
abbrev set0 (w : World) : Obj := { cls := .type "set", dict := none, data := .set #[] 0 (.fresh 0 0 (!w.params.followText "set-order")) }
set_option maxHeartbeats 3200000 in
theorem set_from {s : Shared} {l : Addr} {vs : Array Value} {Rel : Nat → Heap → Prop} {Q : Value → Shared → Prop} (hh : A.handled = none) (hl : s.heap.IsList l vs) (fl : ∀ B : Around, B.units ≤ A.units + 3 → Fill P w B s.heap s.heap.objs.size vs Rel)
    (ini : ∀ h, h.get? s.heap.objs.size = some (set0 w) → OldIn s.heap h → Rel 0 h) (fin : ∀ h tk, Rel vs.size h → OldIn s.heap h → Q (.ref s.heap.objs.size) { s with heap := h, toks := tk }) :
    wpAny (model P w) A (call (.type "set") [.ref l]) Q E s := by
  obtain ⟨cc, tt, mro⟩ := F.called_set.mro
  have k1 := F.called_set.made
  have k2 := F.called_set.sub
  have k3 := F.called_set.notType
  have k4 := F.called_set.canCreate
  have k5 := F.typeCall_set_1 (.ref l)
  refine wpAny_call (codeAny_of_tree ?_)
  change wpAny _ _ (callAny (Value.type "set") _) _ _ _
  refine wpAny_pure ⟨Code.quiet_builtin _ (by decide +kernel), codeAny_builtin F.entry_type_call ?_⟩
  rw [Around.under_plain (weight_type_call_type "set" [.ref l] []) rfl]
  repeat (any_goals (first | assumption
                           | wp_step))
  have base : codeAny (model P w) A.in1 (.call (.builtin "set.__new__") ⟨[.type "set", .ref l], []⟩) (wants (fun obj s1 => obj = .ref s.heap.objs.size ∧ s1 = { s with heap := s.heap.push (set0 w) }) E) s := code_set_led1 (.ref l) ⟨rfl, rfl⟩
  refine codeAny_mono base fun r s1 hr => ?_
  cases r with
  | error e => exact hr
  | ok f1 =>
    cases f1 with
    | ret obj =>
      obtain ⟨rfl, rfl⟩ := hr
      have gS : (s.heap.push (set0 w)).get? s.heap.objs.size = some (set0 w) := Heap.get?_push_size _ rfl
      have gT : Shared.TypeIs { s with heap := s.heap.push (set0 w) } (.ref s.heap.objs.size) "set" := ⟨_, gS, rfl⟩
      have q1 := F.called_set.init.lookup
      have q2 := F.called_set.init.bind (.ref s.heap.objs.size)
      repeat (any_goals (first | assumption
                               | wp_step))
      refine codeAny_mono (codeAny_call_builtin (R := wants (fun r s2 => r = .none ∧ ∃ h tk, s2 = { s with heap := h, toks := tk } ∧ Rel vs.size h ∧ OldIn s.heap h) E) F.called_set.init.plain F.entry_set_init (check_set_init_1 gT ?_)) fun r2 s2 hr2 => ?_
      · obtain ⟨⟨c0, d0, dat, sl⟩, ol, c1, nl, d1⟩ := hl
        simp only at c1 d1
        subst c1; subst d1
        have ol1 : (s.heap.push (set0 w)).get? l = some { cls := .type "list", dict := d0, data := .seq vs nl, slots := sl } := Heap.get?_push_of_some _ ol
        have z1 := F.sub_list_set
        have z2 := F.sub_list_frozenset
        have z3 : (Value.type "list" == Value.type "dict") = false := rfl
        have ll : (s.heap.push (set0 w)).IsList l vs := ⟨_, ol1, rfl, nl, rfl⟩
        unfold Builtin.«set.__init__» noKeywords Builtin.Frozenset.updateFrom
        generalize ePI : pyIter = PI
        wp_walk
        subst ePI
        refine wpAny_pyIter_list ll (wpAny_bind (wpAny_runValue ?_))
        have lS : l < s.heap.objs.size := Heap.lt_size ol
        have nn : ∀ b, s.heap.objs.size ≤ b → s.heap.get? b = none := fun b hb => by
          cases q : s.heap.get? b with
          | none => rfl
          | some o => exact absurd (Heap.lt_size q) (Nat.not_lt.mpr hb)
        have h3 : A.in1.in1.in1.handled = none := by simp [hh]
        have nI : l ≠ (s.heap.push (set0 w)).objs.size := by
          rw [Heap.size_push]
          exact Nat.ne_of_lt (Nat.lt_succ_of_lt lS)
        have nS : s.heap.objs.size ∉ [(s.heap.push (set0 w)).objs.size, l] := by
          rw [Heap.size_push]
          intro z
          rcases List.mem_cons.mp z with z | z
          · exact absurd z (Nat.ne_of_lt (Nat.lt_succ_self _))
          · exact absurd (List.mem_singleton.mp z) (Nat.ne_of_gt lS)
        have gI : ∀ o : Obj, ((s.heap.push (set0 w)).push o).get? s.heap.objs.size = some (set0 w) := fun o => Heap.get?_push_of_some _ gS
        have oI : ∀ o : Obj, OldIn s.heap ((s.heap.push (set0 w)).push o) := fun o b u e => Heap.get?_push_of_some _ (Heap.get?_push_of_some _ e)
        have WL := (Walks.list (prog := P) (w := w) h3 _ l nI vs).toS
        refine fill_loop WL nS (fun i v z => z) (fl _ ?hu) (nn _ (Nat.le_refl _)) (fun b hb => nn b ?_) (fun s3 mv rl old => ?_) vs.size 0 _ (Nat.zero_add _) ?st (ini _ (gI _) (oI _)) (oI _) (Moved.refl WL.grefl)
        case hu => exact Nat.le_refl _
        case st => exact ⟨⟨_, Heap.get?_push_size _ rfl, rfl, rfl⟩, ll.push _⟩
        · rw [List.mem_singleton.mp hb, Heap.size_push]
          omega
        · obtain ⟨h3, g3, d3, t3, os3⟩ := s3
          have e1 : g3 = s.gens := mv.gens
          have e2 : d3 = s.drawn := mv.drawn
          have e3 : os3 = s.os := mv.os
          subst e1; subst e2; subst e3
          change wpAny _ _ _ _ _ _
          refine wpAny_pure ?_
          change wpAny _ _ (ret .none) _ _ _
          exact wpAny_pure ⟨rfl, h3, t3, rfl, rl, old⟩
      · cases r2 with
        | error e => exact hr2
        | ok f2 =>
          cases f2 with
          | ret u =>
            obtain ⟨rfl, h2, tk, rfl, rl, old⟩ := hr2
            repeat (any_goals (first | assumption
                                     | wp_step))
            exact fin _ _ rl old
          | _ => exact hr2.elim
    | _ => exact hr.elim
end
end MP

/-! MP24: sorted(set(..)). -/
namespace MP
open PySem PySem.Spec PyProof.Rows L2
/-! ### in plain Lean -/
section
variable {α : Type} [DecidableEq α]
theorem mem_dd {x : α} : ∀ {l : List α}, x ∈ dd l ↔ x ∈ l
  | [] => Iff.rfl
  | y :: r => by
    rw [dd, List.mem_cons, List.mem_cons, List.mem_filter, mem_dd (l := r), decide_eq_true_eq]
    by_cases h : x = y
    · simp [h]
    · simp [h]
theorem nodup_dd : ∀ l : List α, (dd l).Nodup
  | [] => List.nodup_nil
  | y :: r => by
    rw [dd, List.nodup_cons]
    refine ⟨fun h => ?_, (nodup_dd r).filter _⟩
    have := (List.mem_filter.mp h).2
    simp at this
theorem len_sub : ∀ {m l : List α}, m.Nodup → (∀ x ∈ m, x ∈ l) → m.length ≤ l.length
  | [], _, _, _ => Nat.zero_le _
  | x :: r, l, h, hs => by
    rw [List.nodup_cons] at h
    have hx := hs x List.mem_cons_self
    have ih := len_sub (l := l.erase x) h.2 fun y hy => (List.mem_erase_of_ne fun (e : y = x) => h.1 (e ▸ hy)).mpr (hs y (List.mem_cons_of_mem _ hy))
    rw [List.length_erase_of_mem hx] at ih
    have := List.length_pos_of_mem hx
    rw [List.length_cons]
    omega
theorem len_dd {l : List α} {m : List α} (h : m.Nodup) (hs : ∀ x ∈ m, x ∈ l) : m.length ≤ (dd l).length := len_sub h fun x hx => mem_dd.mpr (hs x hx)
end
theorem lexLe_refl : ∀ a : List Int, lexLe a a = true
  | [] => rfl
  | x :: xs => by simp [lexLe, lexLe_refl xs]
theorem lexLe_total : ∀ a b : List Int, (lexLe a b || lexLe b a) = true
  | [], _ => rfl
  | _ :: _, [] => rfl
  | x :: xs, y :: ys => by
    have ih := lexLe_total xs ys
    simp only [lexLe, Bool.or_eq_true, Bool.and_eq_true, decide_eq_true_eq] at ih ⊢
    rcases Int.lt_trichotomy x y with h | h | h
    · exact .inl (.inl h)
    · subst h
      exact ih.imp (fun h => .inr ⟨rfl, h⟩) fun h => .inr ⟨rfl, h⟩
    · exact .inr (.inl h)
theorem lexLe_trans : ∀ a b c : List Int, lexLe a b = true → lexLe b c = true → lexLe a c = true
  | [], _, _, _, _ => rfl
  | _ :: _, [], _, h, _ => by cases h
  | _ :: _, _ :: _, [], _, h => by cases h
  | x :: xs, y :: ys, z :: zs, h1, h2 => by
    simp only [lexLe, Bool.or_eq_true, Bool.and_eq_true, decide_eq_true_eq] at h1 h2 ⊢
    rcases h1 with h1 | ⟨rfl, h1⟩
    · rcases h2 with h2 | ⟨rfl, h2⟩
      · exact .inl (by omega)
      · exact .inl h1
    · rcases h2 with h2 | ⟨rfl, h2⟩
      · exact .inl h2
      · exact .inr ⟨rfl, lexLe_trans xs ys zs h1 h2⟩
theorem lexLe_antisymm : ∀ a b : List Int, lexLe a b = true → lexLe b a = true → a = b
  | [], [], _, _ => rfl
  | [], _ :: _, _, h => by cases h
  | _ :: _, [], h, _ => by cases h
  | x :: xs, y :: ys, h1, h2 => by
    simp only [lexLe, Bool.or_eq_true, Bool.and_eq_true, decide_eq_true_eq] at h1 h2
    rcases h1 with h1 | ⟨rfl, h1⟩
    · rcases h2 with h2 | ⟨rfl, h2⟩ <;> omega
    · rcases h2 with h2 | ⟨_, h2⟩
      · omega
      · rw [lexLe_antisymm xs ys h1 h2]
theorem sortK_pw (l : List (List Int)) : (sortK l).Pairwise fun a b => lexLe a b = true := List.pairwise_mergeSort lexLe_trans lexLe_total l
theorem sortK_perm (l : List (List Int)) : (sortK l).Perm l := List.mergeSort_perm l _
theorem sortI_pw (l : List Int) : (sortI l).Pairwise fun a b => a ≤ b := (List.pairwise_mergeSort (le := fun a b : Int => decide (a ≤ b)) (fun a b c h1 h2 => by simp only [decide_eq_true_eq] at *; omega) (fun a b => by simp only [Bool.or_eq_true, decide_eq_true_eq]; omega) l).imp fun h => of_decide_eq_true h
theorem sortI_perm (l : List Int) : (sortI l).Perm l := List.mergeSort_perm l _
theorem code_le {B : Int} : ∀ {a b : List Int}, a.length = b.length → TS.Bd B a → TS.Bd B b → TS.code B a ≤ TS.code B b → lexLe a b = true
  | [], _, _, _, _, _ => rfl
  | _ :: _, [], h, _, _, _ => by cases h
  | x :: xs, y :: ys, h, h1, h2, h3 => by
    have hl : xs.length = ys.length := by simpa using h
    simp only [lexLe, Bool.or_eq_true, Bool.and_eq_true, decide_eq_true_eq]
    rcases Int.lt_trichotomy x y with z | z | z
    · exact .inl z
    · subst z
      refine .inr ⟨rfl, code_le hl h1.tail h2.tail ?_⟩
      refine Int.not_lt.mp fun z => ?_
      have q := (TS.code_same (B := B) (d := x) hl.symm).mpr z
      omega
    · have q := TS.code_lt hl.symm h2.tail h1.tail z
      omega
theorem sort_is {l m : List (List Int)} (hp : m.Perm (dd l)) (hs : m.Pairwise fun a b => lexLe a b = true) : m = sortK (dd l) :=
  List.Perm.eq_of_pairwise (le := fun a b => lexLe a b = true) (fun a b _ _ => lexLe_antisymm a b) hs (sortK_pw _) (hp.trans (sortK_perm _).symm)
theorem sortI_is {l m : List Int} (hp : m.Perm (dd l)) (hs : m.Pairwise fun a b => a ≤ b) : m = sortI (dd l) :=
  List.Perm.eq_of_pairwise (le := fun a b : Int => a ≤ b) (fun a b _ _ h1 h2 => Int.le_antisymm h1 h2) hs (sortI_pw _) (hp.trans (sortI_perm _).symm)
/-- a bound of all numbers -/
theorem bound_of : ∀ l : List Int, ∃ B : Int, ∀ x ∈ l, x < B
  | [] => ⟨0, fun _ h => nomatch h⟩
  | y :: l => by
    obtain ⟨B, h⟩ := bound_of l
    refine ⟨max B (y + 1), fun x hx => ?_⟩
    rcases List.mem_cons.mp hx with rfl | hx
    · omega
    · have := h x hx
      omega
/-! ### a set of tuples of whole numbers -/
section
variable {P : Program} {w : World} {A : Around}
def RelT (P : Program) (w : World) (S : Addr) (kk : List (Addr × List Int)) (i : Nat) (h : Heap) : Prop := ∃ L es ep t, SetTR P w h S L es ep t ∧ Got kk i L
theorem fill_tups {h0 : Heap} {S : Addr} {vs : Array Value} {kk : List (Addr × List Int)} {B : Around} (hv : vs.toList = kk.map fun p => Value.ref p.1) (hk : ∀ p ∈ kk, IsT P w h0 p.2 p.1) (few : (dd (kk.map (·.2))).length < 60) (hu : B.units < cLine) (zS : h0.get? S = none) : Fill P w B h0 S vs (RelT P w S kk) := by
  have sub : ∀ {i : Nat} {L : List (Addr × List Int)}, Got kk i L → ∀ p ∈ L, p ∈ kk := fun g p hp => List.mem_of_mem_take (g.sub p hp)
  refine ⟨fun i h h' ⟨L, es, ep, t, R, g⟩ h1 h2 => ⟨L, es, ep, t, R.keep h1 fun p hp => isT_keep (hk p (sub g p hp)) h2, g⟩, fun i v s Q E hi ⟨L, es, ep, t, R, g⟩ old hQ => ?_⟩
  have ev : (kk.map fun p => Value.ref p.1)[i]? = some v := by rw [← hv, Array.getElem?_toList]; exact hi
  rw [List.getElem?_map] at ev
  obtain ⟨p, hp, rfl⟩ := Option.map_eq_some_iff.mp ev
  have ht : IsT P w s.heap p.2 p.1 := isT_keep (hk p (List.mem_of_getElem? hp)) old
  have hL : L.length < 60 := by
    have q := len_dd (l := kk.map (·.2)) R.nd fun x hx => by
      obtain ⟨r, hr, rfl⟩ := List.mem_map.mp hx
      exact List.mem_map.mpr ⟨r, sub g r hr, rfl⟩
    rw [List.length_map] at q
    omega
  unfold setAdd
  refine wpAny_holding (wpAny_bind (wpAny_pyHash_tuple hu ht ?_))
  refine add_at (s := { s with toks := s.toks + (p.2.length + 1) }) R ht hu (by omega) fun b h' L' es' ep' t' sb R' c1 c2 => ?_
  refine hQ b h' _ (Nat.le_add_right _ _) sb ⟨L', es', ep', t', R', ?_⟩
  rcases Classical.em (p.2 ∈ L.map (·.2)) with c | c
  · rw [c1 c]; exact g.same hp c
  · exact g.more hp (c2 c)
def RelI (w : World) (S : Addr) (ns : List Int) (i : Nat) (h : Heap) : Prop := ∃ c, c ≤ i ∧ SetR w h S (fun j => decide (j ∈ ns.take i)) c
theorem fill_ints {h0 : Heap} {S : Addr} {vs : Array Value} {ns : List Int} {B : Around} (hv : IntsAre vs.toList ns) (hb : vs.size + 1 < scanBound) : Fill P w B h0 S vs (RelI w S ns) := by
  refine ⟨fun i h h' ⟨c, hc, R⟩ h1 h2 => ⟨c, hc, R.at h1⟩, fun i v s Q E hi ⟨c, hc, R⟩ old hQ => ?_⟩
  have hsz : vs.size = ns.length := by
    have q := IntsAre.length hv
    rw [Array.length_toList] at q
    exact q
  have hin : i < vs.size := (Array.getElem?_eq_some_iff.mp hi).1
  obtain ⟨t, ev⟩ := PyProof.Rows.IntsAre.int_at hv i v (by rw [Array.getElem?_toList]; exact hi)
  have hz : ns[i]? = some (ns.getD i 0) := by
    rw [List.getD_eq_getElem?_getD, List.getElem?_eq_getElem (by omega)]
    rfl
  generalize ns.getD i 0 = z at ev hz
  subst ev
  unfold setAdd
  refine wpAny_holding (wpAny_bind ((intKind P w).pyHash (k := z) (intKind_is _ _ _ _) ?_))
  refine setR_add_hashed (s := { s with toks := s.toks + 1 }) R (by omega) fun h' sb R2 => ?_
  refine hQ _ h' _ (Nat.le_succ _) sb ⟨_, ?_, R2.congr fun j => ?_⟩
  · split <;> omega
  · rw [List.take_add_one, hz]
    simp [List.mem_append]
end
section
variable {X : Cx}
/-- set(xs) of tuples -/
def rSetT (K : PySem.W.Frag) (P : Program) (w : World) : List V → Hp → VK → Prop := fun xs H Q => ∃ (l : Addr) (kk : List (Addr × List Int)), xs = [V.ref l] ∧ SqL K H l (kk.map fun p => V.ref p.1) ∧ (∀ p ∈ kk, SqT K H p.1 (p.2.map V.int)) ∧ (dd (kk.map (·.2))).length < 60 ∧
  ∀ a L, H a = none → (∀ p ∈ L, p ∈ kk) → (∀ p ∈ kk, p.2 ∈ L.map (·.2)) → Q (.ref a) (upd H a (SetTO P w a L))
theorem cr_setT (hc : X.calm = true) (hu : X.A.units + 64 < cLine) : CallR X (.type "set") (rSetT X.K X.prog X.w) := by
  intro pins s σ H xs us Q I r h
  obtain ⟨l, kk, rfl, hl, hk, hf, q⟩ := h
  rw [Vals.ref1 r]
  obtain ⟨its, rv, pl, hz⟩ := I.list hl
  have e1 : its.toArray.toList = kk.map fun p => Value.ref p.1 := by simpa using refs_of_vals rv
  have z0 : s.heap.get? s.heap.objs.size = none := by
    cases e : s.heap.get? s.heap.objs.size with
    | none => rfl
    | some o => exact absurd (Heap.lt_size e) (Nat.lt_irrefl _)
  refine set_from (P := X.prog) (w := X.w) (Rel := RelT X.prog X.w s.heap.objs.size kk) (I.ok.hd hc) pl.isList (fun B hB => fill_tups e1 (fun p hp => I.isT (hk p hp)) hf (by omega) z0) (fun h g old => ⟨[], #[], 0, _, setTR_fresh g, Got.zero kk⟩) fun h tk ⟨L, es, ep, t, R, g⟩ old => ?_
  have ez : its.toArray.size = kk.length := by rw [← Array.length_toList, e1, List.length_map]
  rw [ez] at g
  refine ⟨.ref s.heap.objs.size, upd H s.heap.objs.size (SetTO X.prog X.w s.heap.objs.size L), I.laid (t' := tk) old (Nat.le_refl _) (setTO_new R.t0), rfl, q _ L (I.hok.fresh (Nat.le_refl _)) (fun p hp => List.mem_of_mem_take (g.sub p hp)) fun p hp => ?_⟩
  exact g.all p (by rw [List.take_length]; exact hp)
/-- set(xs) of whole numbers -/
def rSetI (K : PySem.W.Frag) (w : World) : List V → Hp → VK → Prop := fun xs H Q => ∃ (l : Addr) (ns : List Int), xs = [V.ref l] ∧ SqL K H l (ns.map V.int) ∧ (dd ns).length < 60 ∧ ns.length ≤ 4000 ∧
  ∀ a n, H a = none → n < 64 → Q (.ref a) (upd H a (SetO w a (fun j => decide (j ∈ ns)) n))
theorem setR_few {w : World} {h : Heap} {a : Addr} {ns : List Int} {c : Nat} (R : SetR w h a (fun j => decide (j ∈ ns)) c) : c ≤ (dd ns).length := by
  obtain ⟨o, es, ep, t, _, _, _, _, nd, hm, _, _, hn, _⟩ := R
  have q := len_dd (l := ns) nd fun x hx => of_decide_eq_true ((hm x).mpr hx)
  rw [List.length_map, Array.length_toList, hn] at q
  exact q
theorem cr_setI (hc : X.calm = true) : CallR X (.type "set") (rSetI X.K X.w) := by
  intro pins s σ H xs us Q I r h
  obtain ⟨l, ns, rfl, hl, hf, hm, q⟩ := h
  rw [Vals.ref1 r]
  obtain ⟨its, rv, pl, hz⟩ := I.list hl
  have hi : IntsAre its.toArray.toList ns := by simpa using intsAre_of rv
  have hlen : its.length = ns.length := by rw [← rv.length, List.length_map]
  have hsb : its.toArray.size + 1 < scanBound := by
    rw [List.size_toArray]
    unfold scanBound
    omega
  refine set_from (P := X.prog) (w := X.w) (Rel := RelI X.w s.heap.objs.size ns) (I.ok.hd hc) pl.isList (fun B hB => fill_ints hi hsb) (fun h g old => ⟨0, Nat.le_refl 0, setR_new_at g⟩) fun h tk ⟨c, hc, R⟩ old => ?_
  have et : ns.take its.toArray.size = ns := List.take_of_length_le (by rw [List.size_toArray]; omega)
  rw [et] at R
  have := setR_few R
  exact ⟨.ref s.heap.objs.size, upd H s.heap.objs.size (SetO X.w s.heap.objs.size (fun j => decide (j ∈ ns)) c), I.laid (t' := tk) old (Nat.le_refl _) (setO_new R), rfl, q _ c (I.hok.fresh (Nat.le_refl _)) (by omega)⟩
/-! ### both together -/
theorem keysOf_eq : ∀ {ds : List D} {ks : List (List Int)}, keysOf ds = some ks → ds = ks.map kD
  | [], ks, h => by cases h; rfl
  | .tup xs :: r, ks, h => by
    rw [keysOf] at h
    split at h
    · cases h
    · rename_i k e
      obtain ⟨ms, e2, rfl⟩ := Option.map_eq_some_iff.mp h
      rw [keysOf_eq e2, intsOf_eq e]
      rfl
  | .non :: _, _, h => by cases h
  | .bl _ :: _, _, h => by cases h
  | .int _ :: _, _, h => by cases h
  | .str _ :: _, _, h => by cases h
  | .list _ :: _, _, h => by cases h
  | .dict _ :: _, _, h => by cases h
  | .loc _ :: _, _, h => by cases h
  | .fz _ :: _, _, h => by cases h
theorem RpL.keys {K : PySem.W.Frag} {F : Addr → Prop} {ρ : List Addr} {H : Hp} : ∀ {ks : List (List Int)} {vs : List V}, RpL K F ρ H (ks.map kD) vs → ∃ kk : List (Addr × List Int), kk.map (·.2) = ks ∧ vs = kk.map (fun p => V.ref p.1) ∧ ∀ p ∈ kk, SqT K H p.1 (p.2.map V.int)
  | [], vs, h => by
    have e : vs = [] := h
    exact ⟨[], rfl, e, fun p hp => nomatch hp⟩
  | k :: ks, vs, h => by
    obtain ⟨v, r, rfl, h1, h2⟩ := h
    obtain ⟨a, us, rfl, g1, g2, g3⟩ := h1
    obtain ⟨kk, e1, e2, e3⟩ := RpL.keys h2
    rw [g3.ints] at g1
    exact ⟨(a, k) :: kk, by rw [List.map_cons, e1], by rw [List.map_cons, e2], fun p hp => (List.mem_cons.mp hp).elim (fun z => z ▸ g1) (e3 p)⟩
theorem RpL.ofKeys {K : PySem.W.Frag} {F : Addr → Prop} {ρ : List Addr} {H : Hp} : ∀ {kk : List (Addr × List Int)}, (∀ p ∈ kk, SqT K H p.1 (p.2.map V.int) ∧ p.2.length ≤ sizeLine) → RpL K F ρ H (kk.map fun p => kD p.2) (kk.map fun p => V.ref p.1)
  | [], _ => rfl
  | p :: kk, h => by
    have q := h p List.mem_cons_self
    have go : ∀ k : List Int, RpL K F ρ H (k.map D.int) (k.map V.int) := fun k => by
      induction k with
      | nil => rfl
      | cons x k ih => exact ⟨_, _, rfl, rfl, ih⟩
    exact ⟨_, _, rfl, ⟨p.1, _, rfl, q.1, by rw [List.length_map]; exact q.2, go _⟩, RpL.ofKeys fun r hr => h r (List.mem_cons_of_mem _ hr)⟩
theorem RpL.ofInts {K : PySem.W.Frag} {F : Addr → Prop} {ρ : List Addr} {H : Hp} : ∀ (k : List Int), RpL K F ρ H (k.map D.int) (k.map V.int)
  | [] => rfl
  | x :: k => ⟨_, _, rfl, rfl, RpL.ofInts k⟩
section
variable {X : Cx} {ca : Nat → Option Addr} {F : FT} {cls : Nat → Nat} {e : Expr} {pos p p1 p2 : Pos} {AS : EL} {mu : Bool}
/-- what sorted(set(..)) does with what is read -/
def rSrtSet (X : Cx) : List V → Hp → VK → Prop := fun vs H Q => (rSetT X.K X.prog X.w vs H fun v H' => rSortedT X.K X.prog X.w [v] H' Q) ∨ (rSetI X.K X.w vs H fun v H' => rSortedSet X.w [v] H' Q)
theorem b_srtset : BOk X ca .srtset (rSrtSet X) := by
  intro G ρ M H ds vs mu d d' M' Q ok r e em h
  unfold blt1 at e
  split at e <;> try contradiction
  rename_i xs _ q
  obtain ⟨d0, v, rfl, rfl, z, r0, rs⟩ := one_arg r ok q
  obtain ⟨l, us, rfl, g1, g2, g3⟩ := rs
  split at e
  · rename_i ns en
    split at e
    · rename_i hz
      cases e
      have ex := intsOf_eq en
      subst ex
      rw [g3.ints] at g1
      rw [List.length_map] at hz
      refine .inr ⟨l, ns, rfl, SqL.of g1, hz.1, hz.2, fun a n ha hn => ⟨a, _, n, rfl, upd_same, hn, fun ms t h1 h2 h3 ht => ?_⟩⟩
      have k1 := ok.new ha (SetO X.w a (fun j => decide (j ∈ ns)) n)
      have nd : ms.Nodup := h1.imp fun h => Int.ne_of_lt h
      have pm : ms.Perm (dd ns) := (List.perm_ext_iff_of_nodup nd (nodup_dd ns)).mpr fun x => by rw [h2, mem_dd]; simp
      have es : ms = sortI (dd ns) := sortI_is pm (h1.imp fun h => Int.le_of_lt h)
      have hl : (ms.map D.int).length ≤ sizeLine := by rw [List.length_map, h3, sizeLine_eq]; omega
      rw [← es] at em
      exact mk_list k1.1 em (fun ρ' v H' x k r => h ρ' v H' (k1.2.trans x) k r) hl (RpL.ofInts ms) ht
    · cases e
  · rename_i en
    split at e
    · rename_i ks ek
      split at e
      · rename_i hz
        cases e
        have ex := keysOf_eq ek
        subst ex
        obtain ⟨kk, e1, e2, e3⟩ := g3.keys
        rw [e2] at g1
        refine .inl ⟨l, kk, rfl, SqL.of g1, e3, by rw [e1]; exact hz.1, fun a L ha hL1 hL2 => ?_⟩
        have k1 := ok.new ha (SetTO X.prog X.w a L)
        have kp := hz.2
        unfold keysOk at kp
        have inK : ∀ p ∈ kk, p.2 ∈ ks := fun p hp => by rw [← e1]; exact List.mem_map.mpr ⟨p, hp, rfl⟩
        have kq : ∀ p ∈ L, p.2.length = (ks.headD []).length ∧ 0 < p.2.length ∧ ∀ x ∈ p.2, 0 ≤ x := fun p hp => by
          have q := List.all_eq_true.mp kp p.2 (inK p (hL1 p hp))
          simp only [Bool.and_eq_true, decide_eq_true_eq, List.all_eq_true] at q
          exact ⟨q.1.1, q.1.2, q.2⟩
        obtain ⟨B, hB⟩ := bound_of (L.map (·.2)).flatten
        have bd : ∀ p ∈ L, TS.Bd B p.2 := fun p hp x hx => ⟨(kq p hp).2.2 x hx, hB x (List.mem_flatten.mpr ⟨p.2, List.mem_map.mpr ⟨p, hp, rfl⟩, hx⟩)⟩
        have hs : ∀ p ∈ L, SqT X.K (upd H a (SetTO X.prog X.w a L)) p.1 (p.2.map V.int) := fun p hp => by
          rcases e3 p (hL1 p hp) with z | z
          · exact .inl ((k1.2.on ok).tup _ _ z)
          · exact .inr z
        have dim : 1 ≤ max 1 (ks.headD []).length := by omega
        refine ⟨a, L, max 1 (ks.headD []).length, B, rfl, upd_same, hs, dim, fun p hp => ⟨by have := kq p hp; omega, bd p hp⟩, fun L' t pm nd few pw ht => ?_⟩
        have pw2 : (L'.map (·.2)).Pairwise fun a b => lexLe a b = true := List.pairwise_map.mpr (pw.imp_of_mem fun {p q} hp hq hc => code_le (by rw [(kq p (pm.mem_iff.mp hp)).1, (kq q (pm.mem_iff.mp hq)).1]) (bd p (pm.mem_iff.mp hp)) (bd q (pm.mem_iff.mp hq)) hc)
        have pm2 : (L'.map (·.2)).Perm (dd ks) := (List.perm_ext_iff_of_nodup nd (nodup_dd ks)).mpr fun x => by
          rw [mem_dd]
          constructor
          · intro hx
            obtain ⟨p, hp, rfl⟩ := List.mem_map.mp hx
            exact inK p (hL1 p (pm.mem_iff.mp hp))
          · intro hx
            rw [← e1] at hx
            obtain ⟨p, hp, rfl⟩ := List.mem_map.mp hx
            obtain ⟨q, hq, e⟩ := List.mem_map.mp (hL2 p hp)
            exact List.mem_map.mpr ⟨q, pm.mem_iff.mpr hq, e⟩
        have es := sort_is pm2 pw2
        rw [← es, List.map_map] at em
        have big : ∀ p ∈ L, p.2.length ≤ sizeLine := fun p hp => by
          have hp2 := hL1 p hp
          obtain ⟨i, hi⟩ := List.getElem?_of_mem (inK p hp2)
          obtain ⟨u, _, hu⟩ := g3.get (i := i) (d := kD p.2) (by rw [List.getElem?_map, hi]; rfl)
          obtain ⟨_, _, _, _, hz, _⟩ := hu
          rw [List.length_map] at hz
          exact hz
        have rr : RpL X.K (Fb G ρ M) ρ (upd H a (SetTO X.prog X.w a L)) (L'.map (kD ∘ fun p => p.2)) (L'.map fun p => V.ref p.1) := RpL.ofKeys fun p hp => ⟨hs p (pm.mem_iff.mp hp), big p (pm.mem_iff.mp hp)⟩
        exact mk_list k1.1 em (fun ρ' v H' x k r => h ρ' v H' (k1.2.trans x) k r) (by rw [List.length_map, sizeLine_eq]; omega) rr ht
      · cases e
    · cases e
/-- sorted(set(e)) -/
theorem v_srtset {pp : Pos} (hc : X.calm = true) (hu : X.A.units + 64 < cLine) (ha : PAv X ca F cls [e] AS) (hs : isStar e = false) (g1 : Gl X "sorted") (g2 : Gl X "set") (m1 : X.mg "sorted" = none) (m2 : X.mg "set" = none) :
    PEv X ca F cls (.Call (.Name "sorted" p) [.Call (.Name "set" p1) [e] [] p2] [] pp) (.blt mu .srtset AS) := by
  have c1 : CallR X (.type "set") (fun vs H Q => rSetT X.K X.prog X.w vs H Q ∨ rSetI X.K X.w vs H Q) := fun pins s σ H xs us Q I r h => h.elim (cr_setT hc hu pins s σ H xs us Q I r) (cr_setI hc pins s σ H xs us Q I r)
  have c2 : CallR X (.builtin "sorted") (fun vs H Q => rSortedT X.K X.prog X.w vs H Q ∨ rSortedSet X.w vs H Q) := fun pins s σ H xs us Q I r h => h.elim (cr_sortedT hc pins s σ H xs us Q I r) (cr_sortedSet hc pins s σ H xs us Q I r)
  refine v_blt (r := rSrtSet X) (PE.imp (pe_callB c2 g1 m1 boot_sorted (pa_cons (pe_callTy c1 g2 m2 boot_set ha (he := star_cons hs) (hpl := rfl)) pa_nil rfl) (he := rfl) (hpl := rfl)) fun σ H Q h => ?_) b_srtset
  obtain ⟨G, ρ, env, M, d, M', a0, e1, q⟩ := h
  refine ⟨G, ρ, env, M, d, M', a0, e1, fun ρ' v H' x k r => ?_⟩
  rcases q ρ' v H' x k r with ⟨l, kk, w1, w2, w3, w4, w5⟩ | ⟨l, ns, w1, w2, w3, w4, w5⟩
  · exact .inl ⟨l, kk, w1, w2, w3, w4, fun a L z1 z2 z3 => .inl (w5 a L z1 z2 z3)⟩
  · exact .inr ⟨l, ns, w1, w2, w3, w4, fun a n z1 z2 => .inr (w5 a n z1 z2)⟩
end
end
end MP

/-! MP29: index, dict displays, walks over a dict's keys, repr. -/
namespace MP
open PySem PySem.Spec PyProof.Rows L2
section
variable {X : Cx} {ca : Nat → Option Addr} {F : FT} {cls : Nat → Nat} {e a b c : Expr} {es : List Expr} {pos p p1 : Pos} {A B C : E} {AS : EL} {mu : Bool}
/-! ### index -/
theorem idxof_inv {env : Env} {M : Sto} {d : D} {M' : Sto} (h : ev F cls (.idxof A B) env M = some (d, M')) : ∃ (x : D) (M1 : Sto) (y : D) (zs xs : List D) (j : Nat), ev F cls A env M = some (x, M1) ∧ ev F cls B env M1 = some (y, M') ∧ rd M1 x = .list zs ∧ rd M' x = .list xs ∧ dp y ≤ 60 ∧ dpL xs ≤ 60 ∧
    xs.findIdx? (fun z => PyData.eqv (pd z) (pd y)) = some j ∧ d = .int j := by
  rw [ev] at h
  split at h
  · cases h
  · rename_i x M1 e1
    split at h
    · cases h
    · rename_i y M2 e2
      split at h
      · rename_i zs xs e3 e4
        split at h
        · rename_i hz
          split at h
          · cases h
          · rename_i j hj
            cases h
            exact ⟨x, M1, y, zs, xs, j, e1, e2, e3, e4, hz.1, hz.2, hj, rfl⟩
        · cases h
      · cases h
theorem pdL_at : ∀ {xs : List D} {i : Nat}, (pdL xs)[i]? = (xs[i]?).map pd
  | [], i => by rw [pdL]; simp
  | x :: xs, 0 => by rw [pdL]; simp
  | x :: xs, i + 1 => by rw [pdL, List.getElem?_cons_succ, List.getElem?_cons_succ, pdL_at]
theorem v_idxof {apos : Pos} (hu : X.A.units + 65 < cLine) (ha : PEv X ca F cls a A) (hb : PEv X ca F cls b B) (hbase : attributeBase a "index" X.env (eval a X.env) = eval a X.env)
    (hfew : ((backTo pos (starEach [b] X.env)).all (fun x => !x.1) && (backToKw pos (keywordEach [] X.env)).all (fun x => x.1.isSome) && decide (([b] : List Expr).length + ([] : List Keyword).length + (if ([] : List Keyword).isEmpty then 0 else 1) < 30)) = true)
    (hline : (apos.endLine == pos.line) = true) (hst : starEach [b] X.env = (false, eval b X.env) :: starEach [] X.env) (hplain : (backTo pos (starEach [] X.env)).any (·.1) = false) :
    PEv X ca F cls (.Call (.Attribute a "index" apos) [b] [] pos) (.idxof A B) := by
  refine PE.imp (pe_bm PySem.F.plainAttrs_list PySem.F.slot_list_index PySem.F.type_list_index (mt_indexD hu) ha (pa_cons hb pa_nil hst) hbase hfew hline hst hplain) fun σ H Q ⟨G, ρ, env, M, d, M', a0, h, q⟩ => ?_
  obtain ⟨x, M1, y, zs, xs, j, e1, e2, e3, e4, hy, hx, hj, rfl⟩ := idxof_inv h
  refine tE.go a0 e1 fun ρ1 v1 H1 x1 a1 r1 => ?_
  have rs1 := a1.ok.rs r1
  rw [e3] at rs1
  obtain ⟨a', us, rfl, k1, _⟩ := rs1
  refine ⟨.inl ⟨rfl, us, SqL.of k1⟩, tE.go a1 e2 fun ρ2 v2 H2 x2 a2 r2 => ?_⟩
  have rs2 := a2.ok.rs (a1.mv x2 r1)
  rw [e4] at rs2
  have dl := Rs.dpList hx rs2
  have sy := Rs.ofRp r2
  obtain ⟨hlt, hje, hno⟩ := List.findIdx?_eq_some_iff_getElem.mp hj
  refine ⟨a', v2, pd y, pdL xs, j, pd xs[j], rfl, rfl, dl, Rs.dp (by omega) sy, (mem_shaped hx).1, dp_shaped hy, ?_, hje, fun m z' hm ez => ?_, q ρ2 _ _ (x1.trans x2) a2.ok rfl⟩
  · rw [pdL_at, List.getElem?_eq_getElem hlt]
    rfl
  · have hml : m < xs.length := by omega
    rw [pdL_at, List.getElem?_eq_getElem hml] at ez
    cases ez
    exact Bool.eq_false_iff.mpr (hno m hm)
/-! ### displays -/
theorem v_dnew {mu : Bool} : PEv X ca F cls (.Dict [] [] pos) (.dct mu [] .nil) := by
  refine PE.imp pe_dnewK fun σ H Q ⟨G, ρ, env, M, d, M', a0, h, q⟩ => fun p hp => ?_
  rw [ev, evL] at h
  simp only [List.length_nil, List.nodup_nil, true_and, Nat.zero_le, if_true, List.map_nil, List.zip_nil_left] at h
  cases mu with
  | true =>
    cases h
    obtain ⟨k, x⟩ := a0.ok.newM (m := .dK []) hp (o := .dK []) fun F' ρ' H' o e => ⟨_, e, rfl⟩
    exact q _ _ _ x k ⟨p, rfl, newM_at a0.ok⟩
  | false =>
    cases h
    obtain ⟨k, x⟩ := a0.ok.new hp (.dK [])
    exact q _ _ _ x k (Rp.newDict (ds := []) (vs := []) a0.ok hp rfl)
/-- the values of a display, from the left -/
def trsOf (K : PySem.W.Frag) (ca : Nat → Option Addr) (F : FT) (cls : Nat → Nat) : List Str → EL → List (TE × TE)
  | k :: ks, .cons A AS => (tC (.str k), tE K ca (ev F cls A)) :: trsOf K ca F cls ks AS
  | _, _ => []
theorem trs_go {K : PySem.W.Frag} {G : Addr → Prop} {M' : Sto} : ∀ {ks : List Str} {AS : EL} {ds : List D} {ρ : List Addr} {M : Sto} {H : Hp} {σ : L2.St} {env : Env} {Q : List (V × V) → Hp → Prop}, ks.length = ds.length → At K ca G ρ M H σ env → evL F cls AS env M = some (ds, M') →
    (∀ ρ' vs H', Ext ρ M H ρ' M' H' → Ok K ca G ρ' M' H' → RpL K (Fb G ρ' M') ρ' H' ds vs → Q ((ks.map V.str).zip vs) H') → tPairs (trsOf K ca F cls ks AS) σ H Q
  | [], .nil, ds, ρ, M, H, σ, env, Q, hl, a, h, q => by
    rw [evL] at h
    cases h
    exact q ρ [] H .refl a.ok rfl
  | [], .cons A AS, ds, ρ, M, H, σ, env, Q, hl, a, h, q => by
    obtain ⟨d, M1, r, e1, e2, rfl⟩ := acons_inv h
    cases hl
  | k :: ks, .nil, ds, ρ, M, H, σ, env, Q, hl, a, h, q => by
    rw [evL] at h
    cases h
    cases hl
  | k :: ks, .cons A AS, ds, ρ, M, H, σ, env, Q, hl, a, h, q => by
    obtain ⟨d, M1, r, e1, e2, rfl⟩ := acons_inv h
    refine tE.go a e1 fun ρ1 v1 H1 x1 a1 r1 => ?_
    refine trs_go (by simpa using hl) a1 e2 fun ρ2 vs H2 x2 k2 r2 => ?_
    exact q ρ2 (v1 :: vs) H2 (x1.trans x2) k2 ⟨v1, vs, rfl, a1.mv x2 r1, r2⟩
inductive EachV (X : Cx) (ca : Nat → Option Addr) (F : FT) (cls : Nat → Nat) : EL → List Expr → Prop
  | nil : EachV X ca F cls .nil []
  | cons {A : E} {AS : EL} {e : Expr} {es : List Expr} : PEv X ca F cls e A → EachV X ca F cls AS es → EachV X ca F cls (.cons A AS) (e :: es)
def keysB : List Str → List (Option Expr) → Bool
  | [], [] => true
  | k :: ks, some (.Constant (.str x) _ _) :: r => sq k x && keysB ks r
  | _, _ => false
theorem keysB_len : ∀ {ks : List Str} {keys : List (Option Expr)}, keysB ks keys = true → keys.length = ks.length ∧ keys.all (·.isSome) = true
  | [], [], _ => ⟨rfl, rfl⟩
  | k :: ks, [], h => by cases h
  | [], _ :: _, h => by cases h
  | k :: ks, o :: r, h => by
    unfold keysB at h
    split at h
    · rename_i z1 z2
      cases z1
    · rename_i k0 ks0 x0 _ _ r0 z1 z2
      injection z1 with z1 z3
      injection z2 with z2 z4
      subst z1 z3 z2 z4
      rw [Bool.and_eq_true] at h
      obtain ⟨h1, h2⟩ := keysB_len h.2
      exact ⟨by rw [List.length_cons, List.length_cons, h1], by rw [List.all_cons, h2]; rfl⟩
    · cases h
theorem pps_of : ∀ {ks : List Str} {keys : List (Option Expr)} {AS : EL} {values : List Expr}, keysB ks keys = true → EachV X ca F cls AS values → ks.length = values.length → PPs X pos keys values (trsOf X.K ca F cls ks AS)
  | [], [], _, _, _, .nil, _ => pps_nil
  | [], _ :: _, _, _, h, _, _ => by cases h
  | k :: ks, [], _, _, h, _, _ => by cases h
  | [], [], _, _, _, .cons _ _, hl => by cases hl
  | k :: ks, o :: r, _, _, h, .nil, hl => by cases hl
  | k :: ks, o :: r, _, _, h, .cons hv he, hl => by
    unfold keysB at h
    split at h
    · rename_i z1 z2
      cases z1
    · rename_i k0 ks0 x0 _ _ r0 z1 z2
      injection z1 with z1 z3
      injection z2 with z2 z4
      subst z1 z3 z2 z4
      rw [Bool.and_eq_true] at h
      have e1 := sq_eq h.1
      subst e1
      exact pps_cons pe_str hv (pps_of h.2 he (by simpa using hl))
    · cases h
theorem merge_nd : ∀ (kvs acc : List (Key × V)), (kvs.map (·.1)).Nodup → (∀ kv ∈ kvs, ∀ a ∈ acc, a.1 ≠ kv.1) → mergeK acc kvs = acc ++ kvs
  | [], acc, _, _ => by unfold mergeK; simp
  | kv :: r, acc, nd, h => by
    rw [List.map_cons, List.nodup_cons] at nd
    have h1 : putK acc kv.1 kv.2 = acc ++ [kv] := by
      unfold putK
      rw [if_neg]
      simp only [List.any_eq_true, decide_eq_true_eq, not_exists, not_and]
      exact fun a ha => h kv List.mem_cons_self a ha
    have h2 := merge_nd r (acc ++ [kv]) nd.2 fun kv' hkv' a ha => by
      rcases List.mem_append.mp ha with z | z
      · exact h kv' (List.mem_cons_of_mem _ hkv') a z
      · rw [List.mem_singleton.mp z]
        exact fun z => nd.1 (List.mem_map.mpr ⟨kv', hkv', z.symm⟩)
    show mergeK (putK acc kv.1 kv.2) r = _
    rw [h1, h2, List.append_assoc]
    rfl
theorem RpK.zip {K : PySem.W.Frag} {Fb' : Addr → Prop} {ρ : List Addr} {H : Hp} : ∀ {ks : List Str} {ds : List D} {vs : List V}, ks.length = ds.length → RpL K Fb' ρ H ds vs → RpK K Fb' ρ H ((ks.map Sum.inr).zip ds) ((ks.map Sum.inr).zip vs)
  | [], [], vs, _, r => by
    have e : vs = [] := r
    subst e
    rfl
  | k :: ks, d :: ds, vs, hl, r => by
    obtain ⟨v, r', rfl, h1, h2⟩ := r
    exact ⟨v, _, rfl, h1, RpK.zip (by simpa using hl) h2⟩
  | [], _ :: _, _, hl, _ => by cases hl
  | _ :: _, [], _, hl, _ => by cases hl
theorem v_dct {ks : List Str} {keys : List (Option Expr)} {values : List Expr} (hk : keysB ks keys = true) (he : EachV X ca F cls AS values) (hl : ks.length = values.length) (h0 : keys.isEmpty = false) : PEv X ca F cls (.Dict keys values pos) (.dct false ks AS) := by
  obtain ⟨kl, ka⟩ := keysB_len hk
  by_cases h15 : ks.length ≤ 15
  · refine PE.imp (pe_disp (pps_of (pos := pos) hk he hl) ka (by omega) (fun z => by rw [z] at h0; cases h0) (by omega)) fun σ H Q ⟨G, ρ, env, M, d, M', a0, h, q⟩ => fun p hp => ?_
    rw [ev] at h
    split at h
    · cases h
    · rename_i ds M1 e1
      split at h
      · rename_i hg
        obtain ⟨g1, g2, g3⟩ := hg
        cases h
        -- while the values are made, p is nobody's
        have pG := a0.ok.notG hp
        have pρ := a0.ok.notin hp
        obtain ⟨k1, x1⟩ := a0.ok.new hp (.dK [])
        have ne : ∀ {a : Addr} {o : HO}, H a = some o → a ≠ p := fun h z => by rw [z, hp] at h; cases h
        have nf : ∀ {a : Addr}, a ≠ p → ¬ Fb G ρ M a → ¬ Fb (fun a => G a ∨ a = p) ρ M a := fun n f z => z.elim (fun z => z.elim (fun z => f (.inl z)) n) fun z => f (.inr z)
        have onH : On (Fb G ρ M) ρ H (Fb (fun a => G a ∨ a = p) ρ M) ρ (upd H p (.dK [])) := by
          refine ⟨fun _ _ h => h, fun a u h f => ⟨by rw [upd_ne (ne h)]; exact h, nf (ne h) f⟩, fun a u ⟨o, h⟩ f => ⟨⟨o, by rw [upd_ne (ne h)]; exact h⟩, nf (ne h) f⟩, fun a u h f => ?_, fun a u h => ?_⟩
          · rcases h with h | ⟨o, h⟩
            · exact ⟨.inl (by rw [upd_ne (ne h)]; exact h), nf (ne h) f⟩
            · exact ⟨.inr ⟨o, by rw [upd_ne (ne h)]; exact h⟩, nf (ne h) f⟩
          · rcases h with h | ⟨o, h⟩
            · exact .inl (by rw [upd_ne (ne h)]; exact h)
            · exact .inr ⟨o, by rw [upd_ne (ne h)]; exact h⟩
        have okG : Ok X.K ca (fun a => G a ∨ a = p) ρ M (upd H p (.dK [])) :=
          ⟨k1.len, k1.nd, k1.trk, fun a ha => ha.elim (fun g => k1.gt a g) fun g => ⟨.dK [], by subst g; exact upd_same⟩, fun a ha => ha.elim (fun g => k1.gn a g) fun g => g ▸ pρ, fun n m a h1 h2 => MOk.on onH (upd_ne fun z => pρ (z ▸ List.mem_of_getElem? h2)) (a0.ok.ob n m a h1 h2)⟩
        refine trs_go (by rw [g1]) ⟨okG, a0.en.on onH⟩ e1 fun ρ2 vs H2 x2 k2 r2 => ?_
        have hvs := r2.length
        have nl : ¬ Lv ρ M p := fun ⟨n, m, h1, _⟩ => pρ (List.mem_of_getElem? h1)
        obtain ⟨p2, nl2⟩ := x2.keep p _ upd_same nl
        have pρ2 := k2.gn p (.inr rfl)
        have ez : ∀ (ks : List Str) (vs : List V), ((ks.map V.str).zip vs) = ((ks.map Sum.inr).zip vs).map fun kv : Key × V => (kV kv.1, kv.2) := by
          intro ks
          induction ks with
          | nil => intro vs; rfl
          | cons k ks ih =>
            intro vs
            cases vs with
            | nil => rfl
            | cons v vs => rw [List.map_cons, List.map_cons, List.zip_cons_cons, List.zip_cons_cons, List.map_cons, ih]; rfl
        have nd : (((ks.map Sum.inr).zip vs).map fun kv : Key × V => kv.1).Nodup := by
          rw [List.map_fst_zip (by rw [List.length_map]; omega)]
          exact List.Pairwise.map _ (fun _ _ z w => z (Sum.inr.inj w)) g2
        refine ⟨p2, (ks.map Sum.inr).zip vs, ez ks vs, by rw [List.length_zip, List.length_map]; omega, ?_⟩
        rw [merge_nd _ [] nd (fun _ _ a ha => nomatch ha), List.nil_append]
        generalize hkv : (ks.map Sum.inr).zip vs = kvs at *
        have ne2 : ∀ {a : Addr} {o : HO}, H2 a = some o → o ≠ .dK [] → a ≠ p := fun h n z => by rw [z, p2] at h; cases h; exact n rfl
        have back : ∀ {a : Addr}, ¬ Fb (fun a => G a ∨ a = p) ρ2 M' a → a ≠ p ∧ ¬ Fb G ρ2 M' a := fun f => ⟨fun z => f (.inl (.inr z)), fun z => f (z.elim (fun z => .inl (.inl z)) .inr)⟩
        have onB : On (Fb (fun a => G a ∨ a = p) ρ2 M') ρ2 H2 (Fb G ρ2 M') ρ2 (upd H2 p (.dK kvs)) := by
          refine ⟨fun _ _ h => h, fun a u h f => ⟨by rw [upd_ne (back f).1]; exact h, (back f).2⟩, fun a u ⟨o, h⟩ f => ⟨⟨o, by rw [upd_ne (back f).1]; exact h⟩, (back f).2⟩, fun a u h f => ?_, fun a u h => ?_⟩
          · rcases h with h | ⟨o, h⟩
            · exact ⟨.inl (by rw [upd_ne (back f).1]; exact h), (back f).2⟩
            · exact ⟨.inr ⟨o, by rw [upd_ne (back f).1]; exact h⟩, (back f).2⟩
          · rcases h with h | ⟨o, h⟩
            · exact .inl (by rw [upd_ne (ne2 h (fun z => nomatch z))]; exact h)
            · exact .inr ⟨o, by rw [upd_ne (ne2 h (fun z => nomatch z))]; exact h⟩
        have k3 : Ok X.K ca G ρ2 M' (upd H2 p (.dK kvs)) := by
          refine ⟨k2.len, k2.nd, fun a ha => ?_, fun a ha => ?_, fun a ha => k2.gn a (.inl ha), fun n m a h1 h2 => MOk.on onB (upd_ne fun z => pρ2 (z ▸ List.mem_of_getElem? h2)) (k2.ob n m a h1 h2)⟩
          · have hne : a ≠ p := fun z => pρ2 (z ▸ ha)
            rw [upd_ne hne]
            exact k2.trk a ha
          · have hne : a ≠ p := fun z => pG (z ▸ ha)
            rw [upd_ne hne]
            exact k2.gt a (.inl ha)
        have x3 : Ext ρ M H ρ2 M' (upd H2 p (.dK kvs)) := ⟨x2.pre, fun a o h f => by
          have q2 := x2.keep a o (by rw [upd_ne (ne h)]; exact h) f
          exact ⟨by rw [upd_ne (ne h)]; exact q2.1, q2.2⟩⟩
        refine q ρ2 _ _ x3 k3 ⟨p, kvs, rfl, .inl upd_same, fun z => z.elim pG nl2, ?_⟩
        have rk := RpK.on onB _ _ (RpK.zip (ks := ks) (by rw [g1]) r2)
        rw [hkv] at rk
        exact rk
      · cases h
  · refine ⟨fun pins s σ H Q I ⟨G, ρ, env, M, d, M', a0, h, q⟩ => ?_⟩
    rw [ev] at h
    split at h
    · cases h
    · split at h
      · rename_i hg
        exact absurd hg.2.2 h15
      · cases h
end
end MP

/-! MP30: repr of data, where nothing is being shown already. -/
namespace MP
open PySem PySem.Spec PyProof.Rows L2
section
variable {X : Cx} {pins : List (Addr × Obj)} {σ : L2.St} {H : Hp} {s : Shared} {Fb' : Addr → Prop} {ρ : List Addr}
theorem keyP_reads {k : Key} {u : Value} (h : Heap) (r : keyIs k u = true) : Reads h u (keyP k) [] := by
  rcases keyIs_shape r with ⟨i, t, rfl, rfl⟩ | ⟨x, t, rfl, rfl⟩
  · exact Reads.int i t
  · exact Reads.str x t
mutual
theorem reads_one (I : Inv X pins σ H s) (hs : H sysModules = none) : ∀ (d : D) (v : V) (u : Value), plainR d = true → Rs X.K Fb' ρ H d v → RelV v u → ∃ as, Reads s.heap u (pdR d) as ∧ sysModules ∉ as
  | .non, v, u, _, r, q => by
    have e : v = .non := r
    subst e
    cases q
    exact ⟨_, Reads.none, by simp⟩
  | .bl b, v, u, _, r, q => by
    have e : v = .bl b := r
    subst e
    cases q
    exact ⟨_, Reads.bool b, by simp⟩
  | .int i, v, u, _, r, q => by
    have e : v = .int i := r
    subst e
    obtain ⟨t, rfl⟩ := q
    exact ⟨_, Reads.int i t, by simp⟩
  | .str x, v, u, _, r, q => by
    have e : v = .str x := r
    subst e
    obtain ⟨t, rfl⟩ := q
    exact ⟨_, Reads.str x t, by simp⟩
  | .list ds, v, u, hp, r, q => by
    obtain ⟨a, vs, rfl, h1, _, h2⟩ := r
    obtain rfl : u = Value.ref a := q
    obtain ⟨its, rv, ⟨o, n, ho, hc, _, hd⟩, _⟩ := I.list (SqL.of h1)
    obtain ⟨as, k1, k2⟩ := reads_all I hs ds vs its (by simpa only [plainR] using hp) h2 rv
    have hne : sysModules ≠ a := fun z => by
      rw [z, h1] at hs
      cases hs
    rw [pdR]
    exact ⟨a :: as, Reads.list ho hc hd k1, fun z => (List.mem_cons.mp z).elim hne k2⟩
  | .tup ds, v, u, hp, r, q => by
    obtain ⟨a, vs, rfl, h1, _, h2⟩ := r
    obtain rfl : u = Value.ref a := q
    obtain ⟨its, rv, ⟨o, ho, hc, n, hd⟩, _⟩ := I.tuple h1
    obtain ⟨as, k1, k2⟩ := reads_all I hs ds vs its (by simpa only [plainR] using hp) h2 rv
    rw [pdR]
    exact ⟨as, Reads.tuple ho hc hd k1, k2⟩
  | .dict kvs, v, u, hp, r, q => by
    obtain ⟨a, us, rfl, h1, h2⟩ := r
    obtain rfl : u = Value.ref a := q
    obtain ⟨_, hm, vs, kv, o, es, ep, ho, hx, hd, hk, hpr, _⟩ := dk_rd I.hok h1
    obtain ⟨as, bs, k1, k2, k3, k4⟩ := reads_kv I hs kvs us vs es.toList (by simpa only [plainR] using hp) h2 kv hpr
    have hne : sysModules ≠ a := fun z => by
      subst z
      simp at hm
    rw [pdR]
    refine ⟨a :: as ++ bs, Reads.dict ho hx.1 hd k1 k2, fun z => ?_⟩
    rcases List.mem_append.mp z with z | z
    · exact (List.mem_cons.mp z).elim hne k3
    · exact k4 z
  | .loc _, v, u, hp, _, _ => by simp [plainR] at hp
  | .fz _, v, u, hp, _, _ => by simp [plainR] at hp
theorem reads_all (I : Inv X pins σ H s) (hs : H sysModules = none) : ∀ (ds : List D) (vs : List V) (us : List Value), plainRL ds = true → RpL X.K Fb' ρ H ds vs → Vals vs us → ∃ as, ReadsAll s.heap us (pdRL ds) as ∧ sysModules ∉ as
  | [], vs, us, _, r, q => by
    have e : vs = [] := r
    subst e
    cases q
    rw [pdRL]
    exact ⟨_, ReadsAll.nil, by simp⟩
  | d :: ds, vs, us, hp, r, q => by
    obtain ⟨v, w, rfl, r1, r2⟩ := r
    cases q with
    | cons q1 q2 =>
      rw [plainRL, Bool.and_eq_true] at hp
      obtain ⟨as, k1, k2⟩ := reads_one I hs d v _ hp.1 (Rs.ofRp r1) q1
      obtain ⟨bs, k3, k4⟩ := reads_all I hs ds w _ hp.2 r2 q2
      rw [pdRL]
      exact ⟨as ++ bs, ReadsAll.cons k1 k3, fun z => (List.mem_append.mp z).elim k2 k4⟩
theorem reads_kv (I : Inv X pins σ H s) (hs : H sysModules = none) : ∀ (kvs : List (Key × D)) (us : List (Key × V)) (vs : List (Key × Value)) (es : List DictEntry), plainRK kvs = true → RpK X.K Fb' ρ H kvs us → KV us vs → Pairs (mixKind X.prog X.w) es vs →
    ∃ as bs, ReadsAll s.heap (es.map (·.key)) ((pdRK kvs).map (·.1)) as ∧ ReadsAll s.heap (es.map (·.val)) ((pdRK kvs).map (·.2)) bs ∧ sysModules ∉ as ∧ sysModules ∉ bs
  | [], us, vs, es, _, r, q, hp => by
    have e : us = [] := r
    subst e
    cases q
    cases hp
    rw [pdRK]
    exact ⟨_, _, ReadsAll.nil, ReadsAll.nil, by simp, by simp⟩
  | (k, d) :: kvs, us, vs, es, hpl, r, q, hp => by
    obtain ⟨v, w, rfl, r1, r2⟩ := r
    cases q with
    | cons q1 q2 =>
      cases hp with
      | cons p1 p2 =>
        rw [plainRK, Bool.and_eq_true] at hpl
        rename_i q3 e3 es3 pr
        obtain ⟨e1, e2⟩ := q1
        obtain ⟨as, k1, k2⟩ := reads_one I hs d v _ hpl.1 (Rs.ofRp r1) e2
        obtain ⟨bs, cs, k3, k4, k5, k6⟩ := reads_kv I hs kvs w _ _ hpl.2 r2 q2 pr
        rw [pdRK]
        refine ⟨[] ++ bs, as ++ cs, ReadsAll.cons (keyP_reads _ ?_) k3, ReadsAll.cons ?_ k4, k5, fun z => (List.mem_append.mp z).elim k2 k6⟩
        · have := p1
          rw [mixKind_is, ← e1] at this
          exact this
        · show Reads s.heap e3.val (pdR d) as
          rw [p2]
          exact k1
end
theorem boot_repr : bootBuiltins "repr" = some (.builtin "repr") := by decide +kernel
/-- repr(x) of what has an address -/
def rRepr (K : PySem.W.Frag) : List V → Hp → VK → Prop := fun xs H Q => ∃ (Fb' : Addr → Prop) (ρ : List Addr) (d : D) (v : V), xs = [v] ∧ Rs K Fb' ρ H d v ∧ isRefD d = true ∧ plainR d = true ∧ (pdR d).showable = true ∧ (pdR d).depth ≤ 60 ∧ (pdR d).shown.length ≤ LINE ∧ Q (.str (pdR d).shown) H
theorem call_reprD (hg : X.A.guards = some []) (hu : X.A.units + 65 < cLine) (hsm : ∃ o, X.base.get? sysModules = some o) : CallR X (.builtin "repr") (rRepr X.K) := by
  intro pins s σ H xs us Q I r h
  obtain ⟨Fb', ρ, d, v, rfl, rs, hr, hp, h1, h2, h3, q⟩ := h
  obtain ⟨o, hs⟩ := hsm
  obtain ⟨u, rfl, ru⟩ := vals1 r
  obtain ⟨as, rd, nsm⟩ := reads_one I (I.bs _ _ hs).2 d v u hp rs ru
  obtain ⟨a, rfl⟩ : ∃ a, u = Value.ref a := by
    cases d with
    | list ds => obtain ⟨a, _, rfl, _⟩ := rs; exact ⟨a, ru⟩
    | tup ds => obtain ⟨a, _, rfl, _⟩ := rs; exact ⟨a, ru⟩
    | dict ds => obtain ⟨a, _, rfl, _⟩ := rs; exact ⟨a, ru⟩
    | _ => cases hr
  rw [lineEq] at h3
  exact repr_of_reads' (h₀ := s.heap) rd h1 (fun _ => nsm) hg (by omega) (fun _ _ e => e) (fun h' u' tk hk => ⟨.str _, H, I.un (Un.kept hk) (I.hok.kept hk), ⟨u', rfl⟩, q⟩) h3
theorem b_repr {ca : Nat → Option Addr} : BOk X ca .repr (rRepr X.K) := by
  intro G ρ M H ds vs mu d d' M' Q ok r e em h
  unfold blt1 at e
  split at e <;> try contradiction
  rename_i x _ q
  split at e
  · rename_i hz
    obtain ⟨z1, z2, z3, z4, z5⟩ := hz
    cases e
    obtain ⟨d0, v, rfl, rfl, z, r0, rs⟩ := one_arg r ok q
    obtain ⟨rfl, rfl⟩ := mk_flat (by intro _ z; cases z) (by intro _ z; cases z) em
    exact ⟨_, _, x, v, rfl, rs, z1, z2, z3, z4, z5, kont_here ok h rfl⟩
  · cases e
end
end MP

/-! MP31: for over a dict's keys. -/
namespace MP
open PySem PySem.Spec PyProof.Rows L2
section
variable {K : PySem.W.Frag} {ca : Nat → Option Addr} {G : Addr → Prop} {ρ ρ' : List Addr} {M M' : Sto} {H H2 : Hp} {d : Addr} {us : List (Key × V)}
/-- a dict, locked or not -/
theorem On.lock {Fb' : Addr → Prop} (h1 : Rd H d (.dK us)) (h2 : Rd H2 d (.dK us)) (he : ∀ a, a ≠ d → H2 a = H a) : On Fb' ρ H Fb' ρ H2 := by
  have ne : ∀ {a : Addr} {o : HO}, H a = some o → (∀ us, o ≠ .dK us) → (∀ ob us, o ≠ .frz ob (.dK us)) → a ≠ d := fun h n1 n2 z => by
    subst z
    rcases h1 with q | ⟨ob, q⟩
    · rw [h] at q; exact n1 _ (Option.some.inj q)
    · rw [h] at q; exact n2 _ _ (Option.some.inj q)
  refine ⟨fun _ _ h => h, fun a u h f => ⟨?_, f⟩, fun a u ⟨o, h⟩ f => ⟨⟨o, ?_⟩, f⟩, fun a u h f => ⟨?_, f⟩, fun a u h => ?_⟩
  · rw [he a (ne h (fun _ z => nomatch z) (fun _ _ z => nomatch z))]; exact h
  · rw [he a (ne h (fun _ z => nomatch z) (fun _ _ z => nomatch z))]; exact h
  · by_cases e : a = d
    · subst e
      have : u = us := by
        rcases h with q | ⟨o, q⟩ <;> rcases h1 with q1 | ⟨o1, q1⟩ <;> (rw [q] at q1; first | (cases q1; done) | (cases q1; rfl))
      rw [this]; exact h2
    · rcases h with q | ⟨o, q⟩
      · exact .inl (by rw [he a e]; exact q)
      · exact .inr ⟨o, by rw [he a e]; exact q⟩
  · rcases h with q | ⟨o, q⟩
    · exact .inl (by rw [he a (ne q (fun _ z => nomatch z) (fun _ _ z => nomatch z))]; exact q)
    · exact .inr ⟨o, by rw [he a (ne q (fun _ z => nomatch z) (fun _ _ z => nomatch z))]; exact q⟩
theorem Ok.lock (k : Ok K ca G ρ M H) (nl : ¬ Lv ρ M d) (h1 : Rd H d (.dK us)) (h2 : Rd H2 d (.dK us)) (he : ∀ a, a ≠ d → H2 a = H a) : Ok K ca G ρ M H2 := by
  have on : On (Fb G ρ M) ρ H (Fb G ρ M) ρ H2 := On.lock h1 h2 he
  have there : ∀ a, (∃ o, H a = some o) → ∃ o, H2 a = some o := fun a ⟨o, h⟩ => by
    by_cases e : a = d
    · subst e
      rcases h2 with q | ⟨ob, q⟩
      · exact ⟨_, q⟩
      · exact ⟨_, q⟩
    · exact ⟨o, by rw [he a e]; exact h⟩
  refine ⟨k.len, k.nd, fun a h => there a (k.trk a h), fun a h => there a (k.gt a h), k.gn, fun n m a g1 g2 => ?_⟩
  by_cases e : a = d
  · subst e
    have hd : m = .dead := by
      cases m with
      | dead => rfl
      | _ => exact absurd ⟨n, _, g2, g1, trivial⟩ nl
    subst hd
    trivial
  · exact MOk.on on (he a e) (k.ob n m a g1 g2)
theorem RpK.keys {Fb' : Addr → Prop} : ∀ {kvs : List (Key × D)} {us : List (Key × V)}, RpK K Fb' ρ H kvs us → us.map (·.1) = kvs.map (·.1)
  | [], us, r => by
    have e : us = [] := r
    subst e
    rfl
  | (k, d) :: kvs, us, r => by
    obtain ⟨v, w, rfl, _, r2⟩ := r
    rw [List.map_cons, List.map_cons, RpK.keys r2]
theorem rp_key {Fb' : Addr → Prop} (k : Key) : Rp K Fb' ρ H (keyD k) (kV k) := by
  cases k <;> rfl
end
section
variable {X : Cx} {ca : Nat → Option Addr} {F : FT} {cls : Nat → Nat} {t : T} {body : SB} {st : Stmt}
/-- the walk, over the locked dict -/
theorem keys_go {G : Addr → Prop} {ρ : List Addr} {M M' : Sto} {H : Hp} {σ : L2.St} {env env' : Env} {o : Out} {d : Addr} {ob : Obj} {us : List (Key × V)} {ks : List Key} {D : Ends} (a0 : At X.K ca G ρ M H σ env) (hd : H d = some (.frz ob (.dK us))) (nl : ¬ Lv ρ M d) (hk : us.map (·.1) = ks)
    (e2 : forP (turnB F cls t body) (ks.map keyD) env M = some (o, env', M')) (q : ∀ ρ' σ' H', Ext ρ M H ρ' M' H' → At X.K ca G ρ' M' H' σ' env' → En X.K G ρ' M' D σ' H' o) {i0 : Nat} (hv : ∃ v, σ[i0]? = some (some v) ∧ v = .ref d) :
    tFor (iKeys (tVar i0)) (gT X.K t) (tS X.K ca (exb F cls body)) D σ H := by
  obtain ⟨v, e1, rfl⟩ := hv
  have hl : us.length = ks.length := by rw [← hk, List.length_map]
  refine ⟨_, e1, d, ob, rfl, .inl ⟨us, hd, ?_⟩⟩
  refine ⟨fun i m σ H1 => m = ks.length - i ∧ i ≤ ks.length ∧ ∃ ρ1 M1 env1, Ext ρ M H ρ1 M1 H1 ∧ At X.K ca G ρ1 M1 H1 σ env1 ∧ forP (turnB F cls t body) ((ks.map keyD).drop i) env1 M1 = some (o, env', M'),
    ⟨ks.length, by rw [Nat.sub_zero], Nat.zero_le _, ρ, M, env, .refl, a0, by rw [List.drop_zero]; exact e2⟩, fun i m σ2 H2 ⟨hm, hi, ρ2, M2, env2, x2, a2, er⟩ => ?_⟩
  have hd2 : H2 d = some (.frz ob (.dK us)) := (x2.keep d _ hd nl).1
  rcases Nat.lt_or_ge i ks.length with hlt | hge
  · right
    have hdr : (ks.map keyD).drop i = keyD ks[i] :: (ks.map keyD).drop (i + 1) := by
      rw [List.drop_eq_getElem_cons (by rw [List.length_map]; exact hlt), List.getElem_map]
    rw [hdr] at er
    obtain ⟨o1, env3, M3, et, ho⟩ := forP_inv er
    refine ⟨⟨hd2, by omega⟩, fun σ' H' => ∃ m', m' < m ∧ _, fun σ' H' q => q, fun xv H3 hy => ?_⟩
    obtain ⟨rfl, k, v, ek, rfl⟩ := hy
    have ek2 : k = ks[i] := by
      have h1 : (us.map (·.1))[i]? = some k := by rw [List.getElem?_map, ek]; rfl
      rw [hk, List.getElem?_eq_getElem hlt] at h1
      exact (Option.some.inj h1).symm
    subst ek2
    refine turn_go a2 (rp_key _) et (fun d hd ρ4 σ4 H4 x4 a4 v rv => ?_) fun hn ρ4 σ4 H4 x4 a4 => ?_
    · rcases ho with ⟨d', e3, e4⟩ | ⟨e3, e4⟩
      · rw [hd] at e3
        cases e3; cases e4
        exact q ρ4 σ4 H4 (x2.trans x4) a4 v rv
      · rw [hd] at e3
        rcases e3 with e3 | e3 <;> cases e3
    · rcases ho with ⟨d', e3, e4⟩ | ⟨e3, e4⟩
      · rw [e3] at hn
        rcases hn with hn | hn <;> cases hn
      · exact ⟨m - 1, by omega, by omega, hlt, ρ4, M3, env3, x2.trans x4, a4, e4⟩
  · left
    refine ⟨⟨hd2, by omega⟩, ?_⟩
    rw [List.drop_eq_nil_of_le (by rw [List.length_map]; exact hge), forP] at er
    cases er
    exact q ρ2 σ2 H2 x2 a2
theorem ps_or {t1 t2 : TS} (h1 : PS X st t1) (h2 : PS X st t2) : PS X st fun D σ H => t1 D σ H ∨ t2 D σ H := ⟨fun pins s σ H D I h => h.elim (h1.run pins s σ H D I) (h2.run pins s σ H D I)⟩
theorem s_keys {i : Nat} (ha : PS X st (tFor (iKeys (tVar i)) (gT X.K t) (tS X.K ca (exb F cls body)))) : PSv X ca F cls st (.for_ t .keys (.var i) .absent body) := PS.imp (ps_or ha (ps_lock ha)) fun D σ H ⟨G, ρ, env, M, o, env', M', a0, h, q⟩ => by
  obtain ⟨s, M1, e1, e2⟩ := evI_for h
  obtain ⟨x, M0, y, f1, f2, f3⟩ := evI_inv e1
  rw [ev] at f1
  split at f1
  · rename_i d0 he
    cases f1
    unfold optD isAbs at f2
    simp only [if_true] at f2
    cases f2
    obtain ⟨kvs, rfl, rfl⟩ : ∃ kvs : List (Key × MP.D), x = MP.D.dict kvs ∧ s = .pure (kvs.map fun kv => keyD kv.1) := by
      cases x with
      | dict kvs =>
        simp only [srcOf, Option.some.injEq] at f3
        exact ⟨kvs, rfl, f3.symm⟩
      | _ => simp [srcOf] at f3
    obtain ⟨v, e3, r3⟩ := a0.en.at_ i _ he
    obtain ⟨a, us, rfl, hr, nf, rk⟩ := r3
    have nl : ¬ Lv ρ M a := fun z => nf (.inr z)
    have hk := RpK.keys rk
    have e2 : forP (turnB F cls t body) (kvs.map fun kv => keyD kv.1) env M = some (o, env', M') := e2
    rw [show (kvs.map fun kv => keyD kv.1) = (kvs.map (·.1)).map keyD by rw [List.map_map]; rfl] at e2
    rcases hr with hd | ⟨ob, hd⟩
    · right
      refine ⟨a, _, hd, trivial, fun od => ?_⟩
      have h2 : Rd (upd H a (.frz od (.dK us))) a (.dK us) := .inr ⟨od, upd_same⟩
      have hne : ∀ b, b ≠ a → upd H a (.frz od (.dK us)) b = H b := fun b hb => upd_ne hb
      refine keys_go ⟨a0.ok.lock nl (.inl hd) h2 hne, a0.en.on (On.lock (.inl hd) h2 hne)⟩ upd_same nl hk e2 (fun ρ' σ' H' x' a' => ?_) ⟨_, e3, rfl⟩
      have hd' := x'.keep a _ upd_same nl
      have h3 : Rd (upd H' a (.dK us)) a (.dK us) := .inl upd_same
      have hne3 : ∀ b, b ≠ a → upd H' a (.dK us) b = H' b := fun b hb => upd_ne hb
      have x3 : Ext ρ M H ρ' M' (upd H' a (.dK us)) := ⟨x'.pre, fun b u hb f => by
        by_cases e : b = a
        · subst e
          rw [hd] at hb
          cases hb
          exact ⟨upd_same, hd'.2⟩
        · have q3 := x'.keep b u (by rw [hne b e]; exact hb) f
          exact ⟨by rw [upd_ne e]; exact q3.1, q3.2⟩⟩
      have on3 : On (Fb G ρ' M') ρ' H' (Fb G ρ' M') ρ' (upd H' a (.dK us)) := On.lock (.inr ⟨od, hd'.1⟩) h3 hne3
      have a3 : At X.K ca G ρ' M' (upd H' a (.dK us)) σ' env' := ⟨a'.ok.lock hd'.2 (.inr ⟨od, hd'.1⟩) h3 hne3, a'.en.on on3⟩
      have q3 := q ρ' σ' _ x3 a3
      cases o with
      | next => exact ⟨hd'.1, q3⟩
      | cont => exact ⟨hd'.1, q3⟩
      | ret dd => exact fun v rv => ⟨hd'.1, q3 v (Rp.on on3 dd v rv)⟩
    · left
      exact keys_go a0 hd nl hk e2 q ⟨_, e3, rfl⟩
  · cases f1
end
end MP

/-! MP17: the checker of expressions. -/
namespace MP
open PySem PySem.Spec PyProof.Rows L2
structure Pm where
  fns : List Fn
  fnb : Nat → Bool
  N : List Str
  /-- repr may stand here: nothing is being shown -/
  rp : Bool := false
/-- .. and may not within a block -/
def Pm.off (P : Pm) : Pm := { P with rp := false }
/-- names of built-ins that the module does not bind -/
def bltNames : List Str := ["len", "abs", "min", "max", "sum", "any", "all", "sorted", "list", "tuple", "int", "range", "enumerate", "isinstance", "set", "dict", "str", "bool", "repr", "zip"]
/-- the context of a body or block -/
structure Ag (P : Pm) (ca : Nat → Option Addr) (F : FT) (k : Nat) (X : Cx) (sc : Scope) : Prop where
  N : X.N = P.N
  nd : P.N.Nodup
  sc : X.env.scope = sc
  calm : X.calm = true
  room : Room k X.A
  mgb : ∀ x ∈ bltNames, X.mg x = none
  gd : P.rp = true → X.A.guards = some [] ∧ ∃ o, X.base.get? sysModules = some o
  cal : ∀ (f : Nat) (fn : Fn) (n : Nat), P.fnb f = true → P.fns[f]? = some fn → n ≤ fn.np → fn.np ≤ n + fn.ds.length → Callee X ca F k fn.name f fn.np n
theorem Ag.hu {P : Pm} {ca : Nat → Option Addr} {F : FT} {k : Nat} {X : Cx} {sc : Scope} (g : Ag P ca F k X sc) : X.A.units + 200 < cLine := by
  have := g.room.un
  omega
theorem Ag.off {P : Pm} {ca : Nat → Option Addr} {F : FT} {k : Nat} {X : Cx} {sc : Scope} (g : Ag P ca F k X sc) : Ag P.off ca F k X sc := ⟨g.N, g.nd, g.sc, g.calm, g.room, g.mgb, (fun z => by cases z), g.cal⟩
theorem Ag.nd' {P : Pm} {ca : Nat → Option Addr} {F : FT} {k : Nat} {X : Cx} {sc : Scope} (g : Ag P ca F k X sc) : X.N.Nodup := by rw [g.N]; exact g.nd
/-! ### parts -/
def opIs (o : BO) (p : Operator) : Bool := decide (opOf o = p)
theorem opIs_ok {o : BO} {p : Operator} (h : opIs o p = true) : p = opOf o := (of_decide_eq_true h).symm
def copIs (o : CO) (p : CmpOp) : Bool := decide (copOf o = p)
theorem copIs_ok {o : CO} {p : CmpOp} (h : copIs o p = true) : p = copOf o := (of_decide_eq_true h).symm
def EB (sc : Scope) (x : Str) : Bool := glB sc x
def bltB : Blt → Str → Nat → Bool
  | .len, x, 1 => sq x "len"
  | .abs, x, 1 => sq x "abs"
  | .min, x, 1 => sq x "min"
  | .max, x, 1 => sq x "max"
  | .min2, x, 2 => sq x "min"
  | .max2, x, 2 => sq x "max"
  | .sum, x, 1 => sq x "sum"
  | .any, x, 1 => sq x "any"
  | .all, x, 1 => sq x "all"
  | .sorted, x, 1 => sq x "sorted"
  | .list, x, 1 => sq x "list"
  | .tuple, x, 1 => sq x "tuple"
  | .int, x, 1 => sq x "int"
  | _, _, _ => false
section
variable {P : Pm} {ca : Nat → Option Addr} {F : FT} {cls : Nat → Nat} {k : Nat} {X : Cx} {sc : Scope} {e a b c : Expr} {es : List Expr} {pos p p1 : Pos} {A B C : E} {AS : EL} {mu : Bool}
theorem v_bltN {bt : Blt} {x : Str} (g : Ag P ca F k X sc) (hb : bltB bt x (e :: es).length = true) (hg : glB sc x = true) (ha : PAv X ca F cls (e :: es) AS) (hs : isStar e = false) (hn : noStar es = true) :
    PEv X ca F cls (.Call (.Name x p) (e :: es) [] pos) (.blt mu bt AS) := by
  have he := star_cons (es := es) (env := X.env) hs
  have hpl := star_plain (env := X.env) (pos := pos) hn
  have gl := glB_ok (X := X) g.sc hg
  have hu := g.hu
  unfold bltB at hb
  split at hb
  all_goals first | (cases hb; done) | skip
  all_goals have hx := sq_eq hb
  all_goals subst hx
  · exact v_blt (pe_callB call_len gl (g.mgb _ (by decide +kernel)) boot_len ha (he := he) (hpl := hpl)) b_len
  · exact v_blt (pe_callB call_abs gl (g.mgb _ (by decide +kernel)) boot_abs ha (he := he) (hpl := hpl)) b_abs
  · exact v_blt (pe_callB (cr_min g.calm) gl (g.mgb _ (by decide +kernel)) boot_min ha (he := he) (hpl := hpl)) b_min
  · exact v_blt (pe_callB (cr_max g.calm) gl (g.mgb _ (by decide +kernel)) boot_max ha (he := he) (hpl := hpl)) b_max
  · exact v_blt (pe_callB (call_min2 g.calm) gl (g.mgb _ (by decide +kernel)) boot_min ha (he := he) (hpl := hpl)) b_min2
  · exact v_blt (pe_callB (call_max2 g.calm) gl (g.mgb _ (by decide +kernel)) boot_max ha (he := he) (hpl := hpl)) b_max2
  · exact v_blt (pe_callB (cr_sumA g.calm) gl (g.mgb _ (by decide +kernel)) boot_sum ha (he := he) (hpl := hpl)) b_sum
  · exact v_blt (pe_callB (cr_any g.calm) gl (g.mgb _ (by decide +kernel)) boot_any ha (he := he) (hpl := hpl)) b_any
  · exact v_blt (pe_callB (cr_all g.calm) gl (g.mgb _ (by decide +kernel)) boot_all ha (he := he) (hpl := hpl)) b_all
  · exact v_blt (pe_callB (opSrt (by omega)) gl (g.mgb _ (by decide +kernel)) boot_sorted ha (he := he) (hpl := hpl)) b_sorted
  · exact v_blt (pe_callTy call_list_of gl (g.mgb _ (by decide +kernel)) boot_list ha (he := he) (hpl := hpl)) b_list
  · exact v_blt (pe_callTy call_tuple_of gl (g.mgb _ (by decide +kernel)) boot_tuple ha (he := he) (hpl := hpl)) b_tuple
  · exact v_blt (pe_callTy call_int1 gl (g.mgb _ (by decide +kernel)) boot_int ha (he := he) (hpl := hpl)) b_int

/-! ### a type's name -/
theorem pe_tyN {x : Str} {T : String} (hg : Gl X x) (hm : X.mg x = none) (hv : bootBuiltins x = some (.type T)) (hn : x ≠ "__name__") (hd : (x == ("__debug__" : Str)) = false) : PE X (.Name x p) (tC (.ty T)) :=
  ⟨fun pins s σ H Q I h => ld_blt I hg hm hv ⟨.ty T, H, I, rfl, h⟩ hn hd⟩
def tyB (x : Str) (u : String) : Bool := (sq x "int" && u == "int") || (sq x "str" && u == "str") || (sq x "bool" && u == "bool") || (sq x "list" && u == "list") || (sq x "tuple" && u == "tuple") || (sq x "dict" && u == "dict")
theorem tyB_ok {x : Str} {u : String} (g : Ag P ca F k X sc) (h : tyB x u = true) (hg : glB sc x = true) : u ∈ kindNames ∧ PE X (.Name x p) (tC (.ty u)) := by
  have gl := glB_ok (X := X) g.sc hg
  unfold tyB at h
  simp only [Bool.or_eq_true, Bool.and_eq_true, beq_iff_eq] at h
  rcases h with ((((h | h) | h) | h) | h) | h
  all_goals obtain ⟨h, rfl⟩ := h
  all_goals have hx := sq_eq h
  all_goals subst hx
  · exact ⟨by decide, pe_tyN gl (g.mgb _ (by decide +kernel)) boot_int (by decide +kernel) (by decide +kernel)⟩
  · exact ⟨by decide, pe_tyN gl (g.mgb _ (by decide +kernel)) boot_str (by decide +kernel) (by decide +kernel)⟩
  · exact ⟨by decide, pe_tyN gl (g.mgb _ (by decide +kernel)) boot_bool (by decide +kernel) (by decide +kernel)⟩
  · exact ⟨by decide, pe_tyN gl (g.mgb _ (by decide +kernel)) boot_list (by decide +kernel) (by decide +kernel)⟩
  · exact ⟨by decide, pe_tyN gl (g.mgb _ (by decide +kernel)) boot_tuple (by decide +kernel) (by decide +kernel)⟩
  · exact ⟨by decide, pe_tyN gl (g.mgb _ (by decide +kernel)) boot_dict (by decide +kernel) (by decide +kernel)⟩
end

/-! ### blocks -/
def ownOf (N : List Str) : List Nat → List (Str × Nat)
  | [] => []
  | i :: r => match N[i]? with
    | some x => (x, i) :: ownOf N r
    | none => ("", i) :: ownOf N r
theorem ownOf_ix (N : List Str) : ∀ l : List Nat, (ownOf N l).map (·.2) = l
  | [] => rfl
  | i :: r => by
    unfold ownOf
    split <;> (rw [List.map_cons, ownOf_ix N r])
def blkB (N : List Str) (sc scope : Scope) (own : List Nat) : Bool :=
  decide (scope.kind = .function) && (scope.names.all fun y => isK (lkS y.1 scope.names) y.2) && (own.all fun i => (N[i]?).isSome) &&
  (scope.names.all fun y => match y.2 with
    | .free => (isK (lkS y.1 sc.names) .cell || isK (lkS y.1 sc.names) .free)
    | .local => (own.any fun i => atB N i y.1) || !(N.any fun x => sq x y.1)
    | .cell => (own.any fun i => atB N i y.1) || !(N.any fun x => sq x y.1)
    | _ => true)
theorem ownOf_mem {N : List Str} {i : Nat} {x : Str} : ∀ {l : List Nat}, i ∈ l → N[i]? = some x → x ∈ (ownOf N l).map (·.1)
  | [], h, _ => nomatch h
  | j :: r, h, e => by
    unfold ownOf
    rcases List.mem_cons.mp h with h | h
    · subst h
      rw [e]
      exact List.mem_cons_self
    · split <;> exact List.mem_cons_of_mem _ (ownOf_mem h e)
theorem ownOf_at {N : List Str} : ∀ {l : List Nat}, (l.all fun i => (N[i]?).isSome) = true → ∀ p ∈ ownOf N l, N[p.2]? = some p.1
  | [], _, p, h => nomatch h
  | j :: r, ha, p, h => by
    rw [List.all_cons, Bool.and_eq_true] at ha
    unfold ownOf at h
    split at h
    · rename_i x e
      rcases List.mem_cons.mp h with h | h
      · rw [h]; exact e
      · exact ownOf_at ha.2 p h
    · rename_i e
      rw [e] at ha
      cases ha.1
theorem blkB_ok {N : List Str} {sc scope : Scope} {own : List Nat} (h : blkB N sc scope own = true) : BlkOk N sc scope (ownOf N own) := by
  unfold blkB at h
  rw [Bool.and_eq_true, Bool.and_eq_true, Bool.and_eq_true] at h
  obtain ⟨⟨⟨h1, h2⟩, h3⟩, h4⟩ := h
  have own' : ∀ y ∈ scope.names, ((own.any fun i => atB N i y.1) || !(N.any fun x => sq x y.1)) = true → y.1 ∈ (ownOf N own).map (·.1) ∨ y.1 ∉ N := fun y hy z => by
    rw [Bool.or_eq_true] at z
    rcases z with z | z
    · obtain ⟨i, hi, e⟩ := List.any_eq_true.mp z
      exact .inl (ownOf_mem hi (atB_ok e))
    · refine .inr fun hm => ?_
      rw [Bool.not_eq_true'] at z
      have q := List.any_eq_false.mp z y.1 hm
      rw [sq_refl] at q
      exact q rfl
  refine ⟨of_decide_eq_true h1, fun y hy => ?_, ownOf_at h3, fun y hy e => ?_, fun y hy e => ?_⟩
  · have q := isK_eq (List.all_eq_true.mp h2 y hy)
    rw [lkS_eq] at q
    exact q
  · have q := List.all_eq_true.mp h4 y hy
    rw [e] at q
    simp only [Bool.or_eq_true] at q
    rcases q with q | q
    · have q := isK_eq q; rw [lkS_eq] at q; exact .inl q
    · have q := isK_eq q; rw [lkS_eq] at q; exact .inr q
  · have q := List.all_eq_true.mp h4 y hy
    rcases e with e | e
    · rw [e] at q
      exact own' y hy q
    · rw [e] at q
      exact own' y hy q
/-- a target: names that are local here; top: a def's own body -/
def lcB (top : Bool) (sc : Scope) (x : Str) : Bool := match top with
  | true => locB sc x
  | false => lclB sc x
theorem lcB_ok {top : Bool} {X : Cx} {sc : Scope} {x : Str} (hsc : X.env.scope = sc) (hf : top = true → ∀ x, X.fn x = true) (h : lcB top sc x = true) : L2.Loc X.env.scope x ∧ (X.fn x = true ∨ X.env.scope.names.lookup x = some .local) := by
  subst hsc
  cases top with
  | true => exact ⟨locB_ok h, .inl (hf rfl x)⟩
  | false => exact ⟨.inl (lclB_ok h), .inr (lclB_ok h)⟩
def tgtB (N : List Str) (top : Bool) (sc : Scope) : T → Expr → Bool
  | .nm i, .Name x _ => atB N i x && lcB top sc x
  | .tp is, .Tuple es _ _ => tgts is es
  | _, _ => false
where
  tgts : List Nat → List Expr → Bool
    | [], [] => true
    | i :: is, .Name x _ :: es => atB N i x && lcB top sc x && tgts is es
    | _, _ => false
theorem tgts_ok {top : Bool} {X : Cx} {N : List Str} {sc : Scope} (hN : X.N = N) (nd : X.N.Nodup) (hsc : X.env.scope = sc) (hf : top = true → ∀ x, X.fn x = true) : ∀ {is : List Nat} {es : List Expr}, tgtB.tgts N top sc is es = true → PGs X es (is.foldr (fun i g => gCons (gName i) g) gNil) ∧ (assignEach es X.env).length = is.length ∧ (assignEach es X.env).findIdx? (·.1) = none
  | [], [], _ => ⟨pgs_nil, rfl, rfl⟩
  | i :: is, e :: es, h => by
    cases e with
    | Name x p =>
      rw [tgtB.tgts, Bool.and_eq_true, Bool.and_eq_true] at h
      obtain ⟨h1, h2, h3⟩ := tgts_ok hN nd hsc hf h.2
      obtain ⟨l1, l2⟩ := lcB_ok hsc hf h.1.2
      refine ⟨pgs_cons (pg_name nd (by rw [hN]; exact atB_ok h.1.1) l1 l2) h1, ?_, ?_⟩
      · show (assignEach es X.env).length + 1 = is.length + 1
        rw [h2]
      · show List.findIdx? (·.1) ((false, assign (.Name x p) X.env) :: assignEach es X.env) = none
        rw [List.findIdx?_cons]
        simp only [Bool.false_eq_true, if_false, h3, Option.map_none]
    | _ => cases h
  | [], _ :: _, h => by cases h
  | _ :: _, [], h => by cases h
theorem tgtB_ok {top : Bool} {X : Cx} {N : List Str} {sc : Scope} {t : T} {e : Expr} (hN : X.N = N) (nd : X.N.Nodup) (hc : X.calm = true) (hsc : X.env.scope = sc) (hf : top = true → ∀ x, X.fn x = true) (h : tgtB N top sc t e = true) : PG X e (gT X.K t) := by
  cases t with
  | nm i =>
    cases e with
    | Name x p =>
      rw [tgtB, Bool.and_eq_true] at h
      obtain ⟨l1, l2⟩ := lcB_ok hsc hf h.2
      exact pg_name nd (by rw [hN]; exact atB_ok h.1) l1 l2
    | _ => cases h
  | tp is =>
    cases e with
    | Tuple es k p =>
      rw [tgtB] at h
      obtain ⟨h1, h2, h3⟩ := tgts_ok hN nd hsc hf h
      exact pg_tup hc h1 h2 h3
    | _ => cases h
end MP

/-! MP18: expressions, checked. -/
namespace MP
open PySem PySem.Spec PyProof.Rows L2
def clB (P : Pm) (f : Nat) (x : Str) (n : Nat) : Bool := match P.fns[f]? with
  | some fn => P.fnb f && sq fn.name x && decide (n ≤ fn.np) && decide (fn.np ≤ n + fn.ds.length)
  | none => false
def tsub (t : T) (own : List Nat) : Bool := (tslots t).all fun j => own.contains j
def noEL : EL → Bool
  | .nil => true
  | _ => false
mutual
/-- tm: as a test -/
def chkE (P : Pm) (tm : Bool) (sc : Scope) : E → Expr → Bool
  | .absent, _ => false
  | .var i, e => match e with
    | .Name x _ => atB P.N i x && visB sc x && !sq x "__debug__" && !sq x "__classdict__"
    | _ => false
  | .non, e => match e with
    | .Constant .none _ _ => true
    | _ => false
  | .bl b, e => match e with
    | .Constant (.bool k) _ _ => b == k
    | _ => false
  | .int i, e => match e with
    | .Constant (.int k) _ _ => decide (i = k)
    | _ => false
  | .str i, e => match e with
    | .Constant (.str k) _ _ => sq i k
    | _ => false
  | .bin _ o A B, e => match e with
    | .BinOp a p b _ => opIs o p && chkE P false sc A a && chkE P false sc B b
    | _ => false
  | .neg A, e => match e with
    | .UnaryOp .USub a _ => chkE P false sc A a
    | _ => false
  | .not A, e => match e with
    | .UnaryOp .Not a _ => chkE P tm sc A a
    | _ => false
  | .and A B, e => match e with
    | .BoolOp .And (a :: b :: rest) pos => chkE P tm sc A a && chkE P tm sc B (match rest with
      | [] => b
      | _ :: _ => .BoolOp .And (b :: rest) pos)
    | _ => false
  | .or A B, e => match e with
    | .BoolOp .Or (a :: b :: rest) pos => chkE P tm sc A a && chkE P tm sc B (match rest with
      | [] => b
      | _ :: _ => .BoolOp .Or (b :: rest) pos)
    | _ => false
  | .cmp o A B, e => match e with
    | .Compare a [p] [b] _ => copIs o p && !isSet b && chkE P false sc A a && chkE P false sc B b
    | _ => false
  | .chain o o2 A B C, e => match e with
    | .Compare a [p, p2] [b, c] _ => copIs o p && copIs o2 p2 && !isSet c && chkE P false sc A a && chkE P false sc B b && chkE P false sc C c
    | _ => false
  | .isN ng A, e => match e with
    | .Compare a [.Is] [.Constant .none _ _] _ => !ng && chkE P false sc A a
    | .Compare a [.IsNot] [.Constant .none _ _] _ => ng && chkE P false sc A a
    | _ => false
  | .ife C A B, e => match e with
    | .IfExp c a b _ => chkE P true sc C c && chkE P tm sc A a && chkE P tm sc B b
    | _ => false
  | .tup es, e => match e with
    | .Tuple l _ _ => chkL P sc es l
    | _ => false
  | .lst _ es, e => match e with
    | .List l _ => chkL P sc es l
    | _ => false
  | .dct mu ks es, e => match e with
    | .Dict keys values _ => (keys.isEmpty && values.isEmpty && ks.isEmpty && noEL es) || (!mu && !keys.isEmpty && keysB ks keys && decide (ks.length = values.length) && chkL P sc es values)
    | _ => false
  | .idx A I, e => match e with
    | .Subscript a i _ => plainI i && chkE P false sc A a && chkE P false sc I i
    | _ => false
  | .slc _ A lo hi, e => match e with
    | .Subscript a (.Slice l h none _) _ => chkE P false sc A a && (match l with
      | none => isAbs lo
      | some l => !isAbs lo && chkE P false sc lo l) && (match h with
      | none => isAbs hi
      | some l => !isAbs hi && chkE P false sc hi l)
    | _ => false
  | .blt _ bt es, e => match e with
    | .Call (.Name x _) l [] _ => (bltB bt x l.length && glB sc x && decide (0 < l.length) && chkL P sc es l) || (decide (bt = .srtset) && sq x "sorted" && glB sc x && (match l with
      | [.Call (.Name y _) [a] [] _] => sq y "set" && glB sc y && !isStar a && chkL P sc es [a]
      | _ => false)) || (decide (bt = .repr) && P.rp && sq x "repr" && glB sc x && (match l with
      | [a] => !isStar a && chkL P sc es [a]
      | _ => false))
    | _ => false
  | .isi A tys many, e => match e with
    | .Call (.Name x _) [a, .Name t _] [] _ => !many && sq x "isinstance" && glB sc x && glB sc t && (match tys with
      | [u] => tyB t u
      | _ => false) && !isStar a && chkE P false sc A a
    | _ => false
  | .call _ f es, e => match e with
    | .Call (.Name x _) l [] _ => clB P f x (ELlen es) && glB sc x && !sq x "__debug__" && chkL P sc es l
    | _ => false
  | .new _ _, _ => false
  | .meth _ _ _ _, _ => false
  | .fld _ _, _ => false
  | .app A B, e => match e with
    | .Call (.Attribute a x apos) [b] [] pos => sq x "append" && (apos.endLine == pos.line) && !isCall a && !isStar b && chkE P false sc A a && chkE P false sc B b
    | _ => false
  | .ext A B, e => match e with
    | .Call (.Attribute a x apos) [b] [] pos => sq x "extend" && (apos.endLine == pos.line) && !isCall a && !isStar b && chkE P false sc A a && chkE P false sc B b
    | _ => false
  | .idxof A B, e => match e with
    | .Call (.Attribute a x apos) [b] [] pos => sq x "index" && (apos.endLine == pos.line) && !isCall a && !isStar b && chkE P false sc A a && chkE P false sc B b
    | _ => false
  | .dget _ _ _, _ => false
  | .comp _ own t k A B C E0, e => match e with
    | .ListComp elt [⟨tg, iter, ifs, asy⟩] scope _ => decide (asy = 0) && blkB P.N sc scope own && tgtB P.N false (relS scope sc) t tg && tsub t own && !isSet iter && (match k with
      | .seq => isAbs B && chkE P false sc A iter
      | .rng1 => (match iter with
        | .Call (.Name x _) [a] [] _ => sq x "range" && glB sc x && isAbs B && !isStar a && chkE P false sc A a
        | _ => false)
      | .rng2 => (match iter with
        | .Call (.Name x _) [a, b] [] _ => sq x "range" && glB sc x && !isAbs B && !isStar a && !isStar b && chkE P false sc A a && chkE P false sc B b
        | _ => false)
      | .enum => (match iter with
        | .Call (.Name x _) [a] [] _ => sq x "enumerate" && glB sc x && isAbs B && isTupE tg && !isStar a && chkE P false sc A a
        | _ => false)
      | .zip => false
      | .keys => false) && (match ifs with
      | [] => isAbs C
      | [c] => !isAbs C && chkE P.off true (relS scope sc) C c
      | _ => false) && chkE P.off false (relS scope sc) E0 elt
    | _ => false
def chkL (P : Pm) (sc : Scope) : EL → List Expr → Bool
  | .nil, l => match l with
    | [] => true
    | _ => false
  | .cons A AS, l => match l with
    | e :: es => !isStar e && chkE P false sc A e && chkL P sc AS es
    | _ => false
end
/-- what walking needs, checked -/
def chkI (P : Pm) (sc : Scope) (k : IK) (A B : E) (tg iter : Expr) : Bool := match k with
  | .seq => isAbs B && chkE P false sc A iter
  | .rng1 => (match iter with
    | .Call (.Name x _) [a] [] _ => sq x "range" && glB sc x && isAbs B && !isStar a && chkE P false sc A a
    | _ => false)
  | .rng2 => (match iter with
    | .Call (.Name x _) [a, b] [] _ => sq x "range" && glB sc x && !isAbs B && !isStar a && !isStar b && chkE P false sc A a && chkE P false sc B b
    | _ => false)
  | .enum => (match iter with
    | .Call (.Name x _) [a] [] _ => sq x "enumerate" && glB sc x && isAbs B && isTupE tg && !isStar a && chkE P false sc A a
    | _ => false)
  | .zip => false
  | .keys => false
/-- a walk over a dict's keys -/
def keysI (P : Pm) (sc : Scope) (k : IK) (A B : E) (iter : Expr) : Bool := match k, A, iter with
  | .keys, .var i, .Name x _ => atB P.N i x && visB sc x && !sq x "__debug__" && !sq x "__classdict__" && isAbs B
  | _, _, _ => false
/-- what a checked expression keeps -/
def Snd (tm : Bool) (X : Cx) (ca : Nat → Option Addr) (F : FT) (cls : Nat → Nat) (e : Expr) (A : E) : Prop := match tm with
  | false => PEv X ca F cls e A
  | true => PTv X ca F cls e A ∧ ∀ op vs pos, e = .BoolOp op vs pos → PWv X ca F cls e A
section
variable {P : Pm} {ca : Nat → Option Addr} {F : FT} {cls : Nat → Nat} {k : Nat} {X : Cx} {sc : Scope} {e a b c : Expr} {es : List Expr} {pos p p1 : Pos} {A B C E0 : E} {AS : EL} {mu tm : Bool}
theorem Snd.of (h : PEv X ca F cls e A) (hp : plainT e = true) : Snd tm X ca F cls e A := by
  cases tm with
  | false => exact h
  | true => exact ⟨v_test h (plainT_ok hp), fun op vs pos z => by rw [z] at hp; cases hp⟩
theorem Snd.ofT (h : PEv X ca F cls e A) (ht : PTv X ca F cls e A) (hb : ∀ op vs pos, e ≠ .BoolOp op vs pos) : Snd tm X ca F cls e A := by
  cases tm with
  | false => exact h
  | true => exact ⟨ht, fun op vs pos z => absurd z (hb op vs pos)⟩
theorem chkL_len : ∀ {AS : EL} {l : List Expr}, chkL P sc AS l = true → ELlen AS = l.length
  | .nil, [], _ => rfl
  | .nil, _ :: _, h => by simp [chkL] at h
  | .cons _ _, [], h => by simp [chkL] at h
  | .cons A AS, e :: es, h => by
    rw [chkL, Bool.and_eq_true] at h
    rw [ELlen, List.length_cons, chkL_len h.2]
theorem chkL_star : ∀ {AS : EL} {l : List Expr}, chkL P sc AS l = true → noStar l = true
  | .nil, [], _ => rfl
  | .nil, _ :: _, h => by simp [chkL] at h
  | .cons _ _, [], h => by simp [chkL] at h
  | .cons A AS, e :: es, h => by
    rw [chkL, Bool.and_eq_true, Bool.and_eq_true] at h
    rw [noStar, List.all_cons, h.1.1]
    exact chkL_star h.2
theorem clB_ok {f n : Nat} {x : Str} (g : Ag P ca F k X sc) (h : clB P f x n = true) : ∃ np, Callee X ca F k x f np n := by
  unfold clB at h
  split at h
  · rename_i fn e
    simp only [Bool.and_eq_true, decide_eq_true_eq] at h
    obtain ⟨⟨⟨h1, h2⟩, h3⟩, h4⟩ := h
    have z := sq_eq h2
    subst z
    exact ⟨fn.np, g.cal f fn n h1 e h3 h4⟩
  · cases h
theorem Ag.blk {s : Shared} {H : Hp} {scope : Scope} {cenv : PySem.Env} {fp : List Addr} (g : Ag P ca F k X sc) (he : cenv.scope = relS scope sc) : Ag P.off ca F k (X.blk s H scope cenv fp) (relS scope sc) :=
  ⟨g.N, g.nd, he, g.calm, g.room, g.mgb, fun z => (by cases z), fun f fn n h1 h2 h3 h4 => ⟨(g.cal f fn n h1 h2 h3 h4).ex⟩⟩
theorem few1 {apos : Pos} (hb : isStar b = false) : ((backTo pos (starEach [b] X.env)).all (fun x => !x.1) && (backToKw pos (keywordEach [] X.env)).all (fun x => x.1.isSome) && decide (([b] : List Expr).length + ([] : List Keyword).length + (if ([] : List Keyword).isEmpty then 0 else 1) < 30)) = true := by
  rw [star_cons hb]
  rfl
/-- the context of a comprehension's block, from its parts -/
theorem v_comp {t : T} {kk : IK} {own : List Nat} {tg iter elt : Expr} {ifs : List Expr} {scope : Scope} (g : Ag P ca F k X sc) (hi : PIv X ca F cls tg iter kk A B) (hb : blkB P.N sc scope own = true) (ht : tgtB P.N false (relS scope sc) t tg = true) (hs : tsub t own = true) (hf : isSet iter = false)
    (hif : ∀ X', Ag P.off ca F k X' (relS scope sc) → PTs X' ifs (ttC X'.K ca F cls C)) (he : ∀ X', Ag P.off ca F k X' (relS scope sc) → PEv X' ca F cls elt E0) :
    ∃ t', PE X (.ListComp elt [⟨tg, iter, ifs, 0⟩] scope pos) t' ∧ (∀ {i : Nat} {y : Str} {py spos : Pos}, X.N[i]? = some y → X.env.scope.names.lookup y = some .local → swapsWith (.ListComp elt [⟨tg, iter, ifs, 0⟩] scope pos) (some (.Name y py)) spos.line X.env = pure true → PS X (.Assign [.Name y py] (.ListComp elt [⟨tg, iter, ifs, 0⟩] scope pos) spos) (tAsg t' (gName i))) ∧
      ∀ mu σ H Q, tE X.K ca (ev F cls (.comp mu own t kk A B C E0)) σ H Q → t' σ H Q := by
  have ok : BlkOk X.N X.env.scope scope (ownOf P.N own) := by rw [g.N, g.sc]; exact blkB_ok hb
  have ag : ∀ (s : Shared) (H : Hp) (C : Addr) (cl : List (Str × Addr)) (fp : List Addr), Ag P.off ca F k (X.blk s H scope (compEnvC scope cl C X.env) fp) (relS scope sc) := fun s H C cl fp => g.blk (by show relS scope X.env.scope = _; rw [g.sc])
  have hsub : ∀ j ∈ tslots t, j ∈ own := fun j hj => List.contains_iff_mem.mp (List.all_eq_true.mp hs j hj)
  have hg : ∀ (s : Shared) (H : Hp) (C : Addr) (cl : List (Str × Addr)) (fp : List Addr), PG (X.blk s H scope (compEnvC scope cl C X.env) fp) tg (gT X.K t) := fun s H C cl fp => tgtB_ok (ag s H C cl fp).N (ag s H C cl fp).nd' (ag s H C cl fp).calm (ag s H C cl fp).sc (fun z => by cases z) ht
  refine ⟨_, pe_lc (tt := ttC X.K ca F cls C) (te := tE X.K ca (ev F cls E0)) g.calm g.nd' hi ok hg (fun s H C cl fp => hif _ (ag s H C cl fp)) (fun s H C cl fp => he _ (ag s H C cl fp)) (noSet_folded hf), fun {i y py spos} h1 h2 h3 => ps_setLc (tt := ttC X.K ca F cls C) (te := tE X.K ca (ev F cls E0)) g.calm g.nd' h1 h2 h3 hi ok hg (fun s H C cl fp => hif _ (ag s H C cl fp)) (fun s H C cl fp => he _ (ag s H C cl fp)) (noSet_folded hf), fun mu σ H Q ⟨G, ρ, env, M, d, M', a0, h, q⟩ => ?_⟩
  rw [ownOf_ix]
  exact tLc_ok hsub a0 h q
end
end MP

/-! MP19: a checked expression does what the evaluator says. -/
namespace MP
open PySem PySem.Spec PyProof.Rows L2
section
variable {ca : Nat → Option Addr} {F : FT} {cls : Nat → Nat} {k : Nat}
theorem chkI_ok {P : Pm} {X : Cx} {sc : Scope} {A B : E} {kk : IK} {tg iter : Expr} (g : Ag P ca F k X sc) (hA : ∀ e, chkE P false sc A e = true → PEv X ca F cls e A) (hB : ∀ e, chkE P false sc B e = true → PEv X ca F cls e B) (h : chkI P sc kk A B tg iter = true) : PIv X ca F cls tg iter kk A B := by
  have absB : ∀ {B : E}, isAbs B = true → B = .absent := fun {B} h => by cases B <;> first | rfl | (cases h)
  unfold chkI at h
  cases kk with
  | seq =>
    simp only [Bool.and_eq_true] at h
    rw [absB h.1]
    exact i_seq (hA _ h.2)
  | rng1 =>
    simp only at h
    split at h
    · simp only [Bool.and_eq_true, Bool.not_eq_true'] at h
      obtain ⟨⟨⟨⟨h1, h2⟩, h3⟩, h4⟩, h5⟩ := h
      have z := sq_eq h1
      subst z
      rw [absB h3]
      exact i_rng1 (hA _ h5) (glB_ok g.sc h2) (g.mgb _ (by decide +kernel)) (star_cons h4)
    · cases h
  | rng2 =>
    simp only at h
    split at h
    · simp only [Bool.and_eq_true, Bool.not_eq_true'] at h
      obtain ⟨⟨⟨⟨⟨⟨h1, h2⟩, h3⟩, h4⟩, h5⟩, h6⟩, h7⟩ := h
      have z := sq_eq h1
      subst z
      exact i_rng2 (hA _ h6) (hB _ h7) h3 (glB_ok g.sc h2) (g.mgb _ (by decide +kernel)) (by rw [star_cons h4, star_cons h5]; rfl) (star_cons h5)
    · cases h
  | enum =>
    simp only at h
    split at h
    · simp only [Bool.and_eq_true, Bool.not_eq_true'] at h
      obtain ⟨⟨⟨⟨⟨h1, h2⟩, h3⟩, h4⟩, h5⟩, h6⟩ := h
      have z := sq_eq h1
      subst z
      rw [absB h3]
      cases tg with
      | Tuple elts kk p => exact i_enum (hA _ h6) (glB_ok g.sc h2) (g.mgb _ (by decide +kernel)) (star_cons h5)
      | _ => cases h4
    · cases h
  | zip => cases h
  | keys => cases h
mutual
theorem chkE_ok : ∀ (A : E) (P : Pm) (tm : Bool) (sc : Scope) (X : Cx) (e : Expr), Ag P ca F k X sc → chkE P tm sc A e = true → Snd tm X ca F cls e A
  | .absent, P, tm, sc, X, e, g, h => by simp [chkE] at h
  | .var i, P, tm, sc, X, e, g, h => by
    unfold chkE at h
    split at h
    · simp only [Bool.and_eq_true, Bool.not_eq_true'] at h
      obtain ⟨⟨⟨h1, h2⟩, h3⟩, h4⟩ := h
      exact Snd.of (v_var (by rw [g.N]; exact atB_ok h1) (by rw [g.sc]; exact visB_ok h2) (sq_beq h3) (sq_beq h4)) rfl
    · cases h
  | .non, P, tm, sc, X, e, g, h => by
    unfold chkE at h
    split at h
    · exact Snd.of v_non rfl
    · cases h
  | .bl b, P, tm, sc, X, e, g, h => by
    unfold chkE at h
    split at h
    · have z := eq_of_beq h
      subst z
      exact Snd.of v_bl rfl
    · cases h
  | .int i, P, tm, sc, X, e, g, h => by
    unfold chkE at h
    split at h
    · have z := of_decide_eq_true h
      subst z
      exact Snd.of v_int rfl
    · cases h
  | .str i, P, tm, sc, X, e, g, h => by
    unfold chkE at h
    split at h
    · have z := sq_eq h
      subst z
      exact Snd.of v_str rfl
    · cases h
  | .bin mu o A B, P, tm, sc, X, e, g, h => by
    unfold chkE at h
    split at h
    · simp only [Bool.and_eq_true] at h
      obtain ⟨⟨h1, h2⟩, h3⟩ := h
      have z := opIs_ok h1
      subst z
      exact Snd.of (v_bin o (chkE_ok A P false sc X _ g h2) (chkE_ok B P false sc X _ g h3)) rfl
    · cases h
  | .neg A, P, tm, sc, X, e, g, h => by
    unfold chkE at h
    split at h
    · exact Snd.of (v_neg (chkE_ok A P false sc X _ g h)) rfl
    · cases h
  | .not A, P, tm, sc, X, e, g, h => by
    unfold chkE at h
    split at h
    · have q := chkE_ok A P tm sc X _ g h
      cases tm with
      | false => exact v_not q
      | true => exact ⟨t_not q.1, fun _ _ _ z => by cases z⟩
    · cases h
  | .and A B, P, tm, sc, X, e, g, h => by
    unfold chkE at h
    split at h
    · rename_i a b rest pos
      simp only [Bool.and_eq_true] at h
      have q1 := chkE_ok A P tm sc X _ g h.1
      have q2 := chkE_ok B P tm sc X _ g h.2
      cases tm with
      | false =>
        cases rest with
        | nil => exact v_and q1 (pe_one q2)
        | cons c rest => exact v_and q1 q2
      | true =>
        have w : PWv X ca F cls (.BoolOp .And (a :: b :: rest) pos) (.and A B) := by
          cases rest with
          | nil => exact w_and q1.1 (pw_and1 q2.1)
          | cons c rest => exact w_and q1.1 (q2.2 _ _ _ rfl)
        exact ⟨w.pt, fun _ _ _ _ => w⟩
    · cases h
  | .or A B, P, tm, sc, X, e, g, h => by
    unfold chkE at h
    split at h
    · rename_i a b rest pos
      simp only [Bool.and_eq_true] at h
      have q1 := chkE_ok A P tm sc X _ g h.1
      have q2 := chkE_ok B P tm sc X _ g h.2
      cases tm with
      | false =>
        cases rest with
        | nil => exact v_or q1 (pe_one q2)
        | cons c rest => exact v_or q1 q2
      | true =>
        have w : PWv X ca F cls (.BoolOp .Or (a :: b :: rest) pos) (.or A B) := by
          cases rest with
          | nil => exact w_or q1.1 (pw_or1 q2.1)
          | cons c rest => exact w_or q1.1 (q2.2 _ _ _ rfl)
        exact ⟨w.pt, fun _ _ _ _ => w⟩
    · cases h
  | .cmp o A B, P, tm, sc, X, e, g, h => by
    unfold chkE at h
    split at h
    · simp only [Bool.and_eq_true, Bool.not_eq_true'] at h
      obtain ⟨⟨⟨h1, h2⟩, h3⟩, h4⟩ := h
      have z := copIs_ok h1
      subst z
      have hu := g.hu
      have q1 := chkE_ok A P false sc X _ g h3
      have q2 := chkE_ok B P false sc X _ g h4
      exact Snd.ofT (v_cmp o (by omega) (noSet_marks h2) q1 q2) (t_cmp o (by omega) (noSet_marks h2) q1 q2) fun _ _ _ z => by cases z
    · cases h
  | .chain o o2 A B C, P, tm, sc, X, e, g, h => by
    unfold chkE at h
    split at h
    · simp only [Bool.and_eq_true, Bool.not_eq_true'] at h
      obtain ⟨⟨⟨⟨⟨h1, h2⟩, h3⟩, h4⟩, h5⟩, h6⟩ := h
      have z := copIs_ok h1
      subst z
      have z := copIs_ok h2
      subst z
      have hu := g.hu
      have q1 := chkE_ok A P false sc X _ g h4
      have q2 := chkE_ok B P false sc X _ g h5
      have q3 := chkE_ok C P false sc X _ g h6
      have lm : ∀ b c, isSet c = false → lastMarks [copOf o, copOf o2] [b, c] = false := fun b c h => noSet_marks h
      exact Snd.ofT (v_chain o o2 (by omega) (lm _ _ h3) q1 q2 q3) (t_chain o o2 (by omega) (lm _ _ h3) q1 q2 q3) fun _ _ _ z => by cases z
    · cases h
  | .isN ng A, P, tm, sc, X, e, g, h => by
    unfold chkE at h
    split at h
    · simp only [Bool.and_eq_true, Bool.not_eq_true'] at h
      obtain ⟨rfl, h1⟩ := h
      have q := chkE_ok A P false sc X _ g h1
      exact Snd.ofT (v_is q) (t_is q) fun _ _ _ z => by cases z
    · simp only [Bool.and_eq_true] at h
      obtain ⟨rfl, h1⟩ := h
      have q := chkE_ok A P false sc X _ g h1
      exact Snd.ofT (v_isnot q) (t_isnot q) fun _ _ _ z => by cases z
    · cases h
  | .ife C A B, P, tm, sc, X, e, g, h => by
    unfold chkE at h
    split at h
    · simp only [Bool.and_eq_true] at h
      obtain ⟨⟨h1, h2⟩, h3⟩ := h
      have q1 := (chkE_ok C P true sc X _ g h1).1
      have q2 := chkE_ok A P tm sc X _ g h2
      have q3 := chkE_ok B P tm sc X _ g h3
      cases tm with
      | false => exact v_ife q1 q2 q3
      | true => exact ⟨t_ife q1 q2.1 q3.1, fun _ _ _ z => by cases z⟩
    · cases h
  | .tup es, P, tm, sc, X, e, g, h => by
    unfold chkE at h
    split at h
    · exact Snd.of (v_tup (chkL_ok es P sc X _ g h)) rfl
    · cases h
  | .lst mu es, P, tm, sc, X, e, g, h => by
    unfold chkE at h
    split at h
    · exact Snd.of (v_lst (chkL_ok es P sc X _ g h)) rfl
    · cases h
  | .dct mu ks es, P, tm, sc, X, e, g, h => by
    unfold chkE at h
    split at h
    · rename_i keys values pos
      simp only [Bool.or_eq_true, Bool.and_eq_true, Bool.not_eq_true', decide_eq_true_eq] at h
      rcases h with ⟨⟨⟨h1, h2⟩, h3⟩, h4⟩ | ⟨⟨⟨⟨h1, h2⟩, h3⟩, h4⟩, h5⟩
      · have z1 := List.isEmpty_iff.mp h1
        have z2 := List.isEmpty_iff.mp h2
        have z3 := List.isEmpty_iff.mp h3
        subst z1 z2 z3
        cases es with
        | nil => exact Snd.of v_dnew rfl
        | cons A AS => cases h4
      · subst h1
        exact Snd.of (v_dct h3 (chkL_each es P sc X _ g h5) h4 h2) rfl
    · cases h
  | .idx A I, P, tm, sc, X, e, g, h => by
    unfold chkE at h
    split at h
    · simp only [Bool.and_eq_true] at h
      obtain ⟨⟨h1, h2⟩, h3⟩ := h
      have hu := g.hu
      exact Snd.of (v_idx (by omega) (chkE_ok A P false sc X _ g h2) (chkE_ok I P false sc X _ g h3) (plainI_ok h1)) rfl
    · cases h
  | .slc mu A lo hi, P, tm, sc, X, e, g, h => by
    unfold chkE at h
    have absB : ∀ {B : E}, isAbs B = true → B = .absent := fun {B} h => by cases B <;> first | rfl | (cases h)
    split at h
    · rename_i a l u p2 p3
      simp only [Bool.and_eq_true] at h
      obtain ⟨⟨h1, h2⟩, h3⟩ := h
      have q1 : POv X ca F cls l lo := by
        cases l with
        | none => rw [absB h2]; exact v_onone
        | some l =>
          simp only [Bool.and_eq_true, Bool.not_eq_true'] at h2
          exact v_osome h2.1 (chkE_ok lo P false sc X _ g h2.2)
      have q2 : POv X ca F cls u hi := by
        cases u with
        | none => rw [absB h3]; exact v_onone
        | some l =>
          simp only [Bool.and_eq_true, Bool.not_eq_true'] at h3
          exact v_osome h3.1 (chkE_ok hi P false sc X _ g h3.2)
      exact Snd.of (v_slc (chkE_ok A P false sc X _ g h1) q1 q2) rfl
    · cases h
  | .blt mu bt es, P, tm, sc, X, e, g, h => by
    unfold chkE at h
    split at h
    · rename_i x p l p2
      simp only [Bool.or_eq_true, Bool.and_eq_true, decide_eq_true_eq] at h
      rcases h with (⟨⟨⟨h1, h2⟩, h3⟩, h4⟩ | ⟨⟨⟨rfl, h1⟩, h2⟩, h3⟩) | ⟨⟨⟨⟨rfl, h0⟩, h1⟩, h2⟩, h3⟩
      · cases l with
        | nil => exact absurd h3 (Nat.lt_irrefl 0)
        | cons e l =>
          have hn := chkL_star h4
          have hn' := hn
          rw [noStar, List.all_cons, Bool.and_eq_true, Bool.not_eq_true'] at hn'
          exact Snd.of (v_bltN g h1 h2 (chkL_ok es P sc X _ g h4) hn'.1 hn'.2) rfl
      · have z := sq_eq h1
        subst z
        split at h3
        · simp only [Bool.and_eq_true, Bool.not_eq_true'] at h3
          obtain ⟨⟨⟨k1, k2⟩, k3⟩, k4⟩ := h3
          have z := sq_eq k1
          subst z
          have hu := g.hu
          exact Snd.of (v_srtset g.calm (by omega) (chkL_ok es P sc X _ g k4) k3 (glB_ok g.sc h2) (glB_ok g.sc k2) (g.mgb _ (by decide +kernel)) (g.mgb _ (by decide +kernel))) rfl
        · cases h3
      · have z := sq_eq h1
        subst z
        split at h3
        · simp only [Bool.and_eq_true, Bool.not_eq_true'] at h3
          obtain ⟨k1, k2⟩ := h3
          obtain ⟨g1, g2⟩ := g.gd h0
          have hu := g.hu
          exact Snd.of (v_blt (pe_callB (call_reprD g1 (by omega) g2) (glB_ok g.sc h2) (g.mgb _ (by decide +kernel)) boot_repr (chkL_ok es P sc X _ g k2) (he := star_cons k1) (hpl := rfl)) b_repr) rfl
        · cases h3
    · cases h
  | .isi A tys many, P, tm, sc, X, e, g, h => by
    unfold chkE at h
    split at h
    · simp only [Bool.and_eq_true, Bool.not_eq_true'] at h
      obtain ⟨⟨⟨⟨⟨⟨rfl, h1⟩, h2⟩, h3⟩, h4⟩, h5⟩, h6⟩ := h
      have z := sq_eq h1
      subst z
      split at h4
      · rename_i u
        have ty := fun p => tyB_ok (p := p) g h4 h3
        exact Snd.of (v_isi (ty default).1 (chkE_ok A P false sc X _ g h6) (ty _).2 (glB_ok g.sc h2) (g.mgb _ (by decide +kernel)) (star_cons h5) (star_cons rfl) rfl) rfl
      · cases h4
    · cases h
  | .call m f es, P, tm, sc, X, e, g, h => by
    unfold chkE at h
    split at h
    · rename_i x p l p2
      simp only [Bool.and_eq_true, Bool.not_eq_true'] at h
      obtain ⟨⟨⟨h1, h2⟩, h3⟩, h4⟩ := h
      obtain ⟨np, cl⟩ := clB_ok g h1
      have hs := chkL_ok es P sc X _ g h4
      have hn := chkL_star h4
      cases l with
      | nil =>
        have e0 := chkL_len h4
        cases es with
        | nil => exact Snd.of (v_call0 cl g.room (glB_ok g.sc h2) (sq_beq h3)) rfl
        | cons A AS => simp [ELlen] at e0
      | cons e l =>
        rw [noStar, List.all_cons, Bool.and_eq_true, Bool.not_eq_true'] at hn
        exact Snd.of (v_call cl g.room (glB_ok g.sc h2) hs (sq_beq h3) (star_cons hn.1) (star_plain hn.2)) rfl
    · cases h
  | .new _ _, P, tm, sc, X, e, g, h => by simp [chkE] at h
  | .meth _ _ _ _, P, tm, sc, X, e, g, h => by simp [chkE] at h
  | .fld _ _, P, tm, sc, X, e, g, h => by simp [chkE] at h
  | .app A B, P, tm, sc, X, e, g, h => by
    unfold chkE at h
    split at h
    · simp only [Bool.and_eq_true, Bool.not_eq_true'] at h
      obtain ⟨⟨⟨⟨⟨h1, h2⟩, h3⟩, h4⟩, h5⟩, h6⟩ := h
      have z := sq_eq h1
      subst z
      exact Snd.of (v_app (chkE_ok A P false sc X _ g h5) (chkE_ok B P false sc X _ g h6) (base_ok h3) (few1 (apos := default) h4) h2 (star_cons h4) rfl) rfl
    · cases h
  | .ext A B, P, tm, sc, X, e, g, h => by
    unfold chkE at h
    split at h
    · simp only [Bool.and_eq_true, Bool.not_eq_true'] at h
      obtain ⟨⟨⟨⟨⟨h1, h2⟩, h3⟩, h4⟩, h5⟩, h6⟩ := h
      have z := sq_eq h1
      subst z
      exact Snd.of (v_ext (chkE_ok A P false sc X _ g h5) (chkE_ok B P false sc X _ g h6) (base_ok h3) (few1 (apos := default) h4) h2 (star_cons h4) rfl) rfl
    · cases h
  | .idxof A B, P, tm, sc, X, e, g, h => by
    unfold chkE at h
    split at h
    · simp only [Bool.and_eq_true, Bool.not_eq_true'] at h
      obtain ⟨⟨⟨⟨⟨h1, h2⟩, h3⟩, h4⟩, h5⟩, h6⟩ := h
      have z := sq_eq h1
      subst z
      have hu := g.hu
      exact Snd.of (v_idxof (by omega) (chkE_ok A P false sc X _ g h5) (chkE_ok B P false sc X _ g h6) (base_ok h3) (few1 (apos := default) h4) h2 (star_cons h4) rfl) rfl
    · cases h
  | .dget _ _ _, P, tm, sc, X, e, g, h => by simp [chkE] at h
  | .comp mu own t kk A B C E0, P, tm, sc, X, e, g, h => by
    unfold chkE at h
    split at h
    · rename_i elt tg iter ifs asy scope pos
      simp only [Bool.and_eq_true, Bool.not_eq_true', decide_eq_true_eq] at h
      obtain ⟨⟨⟨⟨⟨⟨⟨rfl, h1⟩, h2⟩, h3⟩, h4⟩, h5⟩, h6⟩, h7⟩ := h
      have hi : PIv X ca F cls tg iter kk A B := chkI_ok g (fun e h => chkE_ok A P false sc X e g h) (fun e h => chkE_ok B P false sc X e g h) h5
      have hif : ∀ X', Ag P.off ca F k X' (relS scope sc) → PTs X' ifs (ttC X'.K ca F cls C) := fun X' g' => by
        unfold ttC
        split at h6
        · rw [if_pos h6]; exact pts_nil
        · simp only [Bool.and_eq_true, Bool.not_eq_true'] at h6
          rw [if_neg (by rw [h6.1]; exact Bool.false_ne_true)]
          exact pts_one (chkE_ok C P.off true (relS scope sc) X' _ g' h6.2).1
        · cases h6
      obtain ⟨t', w1, w2, w3⟩ := v_comp (pos := pos) g hi h1 h2 h3 h4 hif fun X' g' => chkE_ok E0 P.off false (relS scope sc) X' _ g' h7
      exact Snd.of (PE.imp w1 (w3 mu)) rfl
    · cases h
theorem chkL_ok : ∀ (A : EL) (P : Pm) (sc : Scope) (X : Cx) (es : List Expr), Ag P ca F k X sc → chkL P sc A es = true → PAv X ca F cls es A
  | .nil, P, sc, X, es, g, h => by
    unfold chkL at h
    split at h
    · exact v_anil
    · cases h
  | .cons A AS, P, sc, X, es, g, h => by
    unfold chkL at h
    split at h
    · simp only [Bool.and_eq_true, Bool.not_eq_true'] at h
      exact v_acons (chkE_ok A P false sc X _ g h.1.2) (chkL_ok AS P sc X _ g h.2) (star_cons h.1.1)
    · cases h
theorem chkL_each : ∀ (A : EL) (P : Pm) (sc : Scope) (X : Cx) (es : List Expr), Ag P ca F k X sc → chkL P sc A es = true → EachV X ca F cls A es
  | .nil, P, sc, X, es, g, h => by
    unfold chkL at h
    split at h
    · exact .nil
    · cases h
  | .cons A AS, P, sc, X, es, g, h => by
    unfold chkL at h
    split at h
    · simp only [Bool.and_eq_true, Bool.not_eq_true'] at h
      exact .cons (chkE_ok A P false sc X _ g h.1.2) (chkL_each AS P sc X _ g h.2)
    · cases h
end
end
end MP

/-! MP20: statements, checked. -/
namespace MP
open PySem PySem.Spec PyProof.Rows L2
/-- the block keeps no name y of its own -/
def noOwn (scope : Scope) (y : Str) : Bool := scope.names.all fun p => !(sq p.1 y && (decide (p.2 = .local) || decide (p.2 = .cell)))
/-- y = e: how the value of a comprehension goes into y: at once (true), or as any value -/
def swB (sc : Scope) (y : Str) (py : Pos) : Expr → Bool
  | .ListComp _ _ scope pos => lclB sc y && (py.line == pos.line) && noOwn scope y
  | _ => false
def swN (sc : Scope) (y : Str) (py : Pos) : Expr → Bool
  | .ListComp _ _ scope pos => !lclB sc y || !(py.line == pos.line)
  | e => !isCompr e
theorem noOwn_ok {scope : Scope} {y : Str} (h : noOwn scope y = true) : (scope.names.any fun (n, k) => n == y && (k == .local || k == .cell)) = false := by
  refine List.any_eq_false.mpr fun p hp z => ?_
  have q := List.all_eq_true.mp h p hp
  obtain ⟨n, k⟩ := p
  simp only [Bool.and_eq_true, Bool.or_eq_true, beq_iff_eq] at z
  obtain ⟨rfl, z⟩ := z
  simp only [sq_refl, Bool.true_and, Bool.not_eq_true', Bool.or_eq_false_iff, decide_eq_false_iff_not] at q
  rcases z with z | z
  · exact q.1 z
  · exact q.2 z
theorem lclB_no {sc : Scope} {x : Str} (h : lclB sc x = false) : sc.names.lookup x ≠ some .local := fun e => by
  unfold lclB at h
  rw [lkS_eq, e] at h
  cases h
theorem swN_ok {sc : Scope} {y : Str} {py : Pos} {e : Expr} {l : Nat} {env : PySem.Env} (hsc : env.scope = sc) (h : swN sc y py e = true) : swapsWith e (some (.Name y py)) l env = pure false := by
  subst hsc
  unfold swN at h
  split at h
  · rename_i elt gs scope pos
    rw [Bool.or_eq_true, Bool.not_eq_true', Bool.not_eq_true'] at h
    have e1 : swapsWith (.ListComp elt gs scope pos) (some (.Name y py)) l env = pure (env.blockKind == .function && env.kindOf y == some .local && py.line == pos.line && !(scope.names.any fun (n, k) => n == y && (k == .local || k == .cell))) := rfl
    rw [e1]
    congr 1
    rcases h with h | h
    · have z : (env.kindOf y == some .local) = false := beq_eq_false_iff_ne.mpr (lclB_no h)
      rw [z, Bool.and_false, Bool.false_and, Bool.false_and]
    · rw [h, Bool.and_false, Bool.false_and]
  · rw [Bool.not_eq_true'] at h
    exact sw_no h
theorem sw_sub {a i e : Expr} {p : Pos} {l : Nat} {env : PySem.Env} : swapsWith e (some (.Subscript a i p)) l env = pure false := by
  cases e <;> rfl
theorem sw_tup {es : List Expr} {k : Nat} {p : Pos} {e : Expr} {l : Nat} {env : PySem.Env} : swapsWith e (some (.Tuple es k p)) l env = pure false := by
  cases e <;> rfl
theorem sws_sub {a i e : Expr} {p : Pos} {l : Nat} {env : PySem.Env} : swapsWithSole [.Subscript a i p] e l env = pure false := by cases e <;> rfl
theorem sws_tup {es : List Expr} {k : Nat} {p : Pos} {e : Expr} {l : Nat} {env : PySem.Env} : swapsWithSole [.Tuple es k p] e l env = pure false := by cases e <;> rfl
theorem sst_pairN {x y : Str} {px py pt : Pos} {k : Nat} {e : Expr} {env : PySem.Env} (h : env.scope.names.lookup x ≠ some .local ∨ env.scope.names.lookup y ≠ some .local) : swappedStores [.Tuple [.Name x px, .Name y py] k pt] e env = pure none := by
  have kxy : (env.kindOf x == some .local) = false ∨ (env.kindOf y == some .local) = false := h.imp (fun h => beq_eq_false_iff_ne.mpr h) fun h => beq_eq_false_iff_ne.mpr h
  cases e with
  | Tuple vs k2 p3 =>
    unfold swappedStores
    simp only [List.filterMap_cons, List.filterMap_nil, List.length_cons, List.length_nil]
    split
    · rfl
    · split
      · rfl
      · rcases kxy with z | z
        · simp only [z, Bool.false_and, Bool.false_eq_true, if_false]
          split <;> (split <;> first | rfl | (rename_i hh; exact absurd rfl hh))
        · simp only [z, Bool.false_and, Bool.false_eq_true, if_false]
          split <;> (split <;> first | rfl | (rename_i hh; exact absurd rfl hh))
  | _ => rfl
end MP

/-! MP21: statements, checked: soundness. -/
namespace MP
open PySem PySem.Spec PyProof.Rows L2
mutual
def chkS (P : Pm) (sc : Scope) : S → Stmt → Bool
  | .setv i A, st => match st with
    | .Assign [.Name x px] e _ => atB P.N i x && locB sc x && chkE P false sc A e && (swN sc x px e || swB sc x px e)
    | _ => false
  | .sett is A, st => match st with
    | .Assign [tg] e _ => tgtB P.N true sc (.tp is) tg && chkE P false sc A e && !isTupE e && isTupE tg
    | _ => false
  | .setp i j A B, st => match st with
    | .Assign [.Tuple [.Name x px, .Name y py] _ _] (.Tuple [a, b] _ _) _ => atB P.N i x && atB P.N j y && !sq x y && !isStar a && !isStar b && chkE P false sc A a && chkE P false sc B b &&
      ((lclB sc x && lclB sc y && (py.line == px.line) && !(foldedForSure 8 a && foldedForSure 8 b) && !(constantsAlone 8 a && constantsAlone 8 b)) ||
       (locB sc x && locB sc y && (!lclB sc x || !lclB sc y)))
    | _ => false
  | .seti A I E0, st => match st with
    | .Assign [.Subscript a i _] e _ => plainI i && chkE P false sc A a && chkE P false sc I i && chkE P false sc E0 e
    | _ => false
  | .seti2 A I B J E0 E1, st => match st with
    | .Assign [.Tuple [.Subscript a i _, .Subscript b j _] _ _] (.Tuple [e, g] _ _) _ => plainI i && plainI j && !isStar e && !isStar g && chkE P false sc A a && chkE P false sc I i && chkE P false sc B b && chkE P false sc J j && chkE P false sc E0 e && chkE P false sc E1 g
    | _ => false
  | .augi A I o E0, st => match st with
    | .AugAssign (.Subscript a i _) op e _ => augBO o && opIs o op && plainI i && chkE P false sc A a && chkE P false sc I i && chkE P false sc E0 e
    | _ => false
  | .setf _ _ _, _ => false
  | .exp A, st => match st with
    | .Expr e _ => chkE P false sc A e && !isCompr e
    | _ => false
  | .ret A, st => match st with
    | .Return (some e) _ => chkE P false sc A e
    | _ => false
  | .retN, st => match st with
    | .Return none _ => true
    | _ => false
  | .ife C p q, st => match st with
    | .If c a b _ => chkE P true sc C c && chkB P sc p a && chkB P sc q b
    | _ => false
  | .for_ t k A B body, st => match st with
    | .For tg iter b [] _ => (chkI P sc k A B tg iter || keysI P sc k A B iter) && tgtB P.N true sc t tg && !isSet iter && chkB P sc body b
    | _ => false
  | .whl C body, st => match st with
    | .While c b [] _ => chkE P true sc C c && chkB P sc body b
    | _ => false
  | .pass, st => match st with
    | .Pass _ => true
    | _ => false
  | .cont, st => match st with
    | .Continue _ => true
    | _ => false
  | .frz _, _ => false
def chkB (P : Pm) (sc : Scope) : SB → List Stmt → Bool
  | .nil, l => match l with
    | [] => true
    | _ => false
  | .cons (.frz _) r, l => chkB P sc r l
  | .cons s r, l => match l with
    | st :: l => chkS P sc s st && chkB P sc r l
    | _ => false
end
theorem asg_sub {o i : Expr} {pos : Pos} {env : PySem.Env} (h : plainI i = true) : ∀ v, assign (.Subscript o i pos) env v = (do
    let ov ← holding [v] (eval o env)
    let iv ← holding [v, ov] (eval i env)
    standAt pos
    holding [v, ov, iv] (setItem ov iv v)
    release [v, ov, iv] []) := by
  intro v
  cases i <;> first | rfl | (cases h)
structure AgT (P : Pm) (ca : Nat → Option Addr) (F : FT) (k : Nat) (X : Cx) (sc : Scope) : Prop where
  ag : Ag P ca F k X sc
  fnt : ∀ x, X.fn x = true
  xe : X.xe = fun _ _ => False
  kind : sc.kind = .function
section
variable {P : Pm} {ca : Nat → Option Addr} {F : FT} {cls : Nat → Nat} {k : Nat} {X : Cx} {sc : Scope}
theorem AgT.own (g : AgT P ca F k X sc) : PassesOwn (model X.prog X.w) X.A X.env X.xe := by
  rw [g.xe]
  exact PassesOwn.never
/-- a checked comprehension, as a value and into a name -/
theorem comp_two {mu : Bool} {own : List Nat} {t : T} {kk : IK} {A B C E0 : E} {e : Expr} (g : Ag P ca F k X sc) (h : chkE P false sc (.comp mu own t kk A B C E0) e = true) :
    ∃ t', (∀ {i : Nat} {y : Str} {py spos : Pos}, X.N[i]? = some y → X.env.scope.names.lookup y = some .local → swapsWith e (some (.Name y py)) spos.line X.env = pure true → PS X (.Assign [.Name y py] e spos) (tAsg t' (gName i))) ∧
      ∀ σ H Q, tE X.K ca (ev F cls (.comp mu own t kk A B C E0)) σ H Q → t' σ H Q := by
  unfold chkE at h
  split at h
  · rename_i elt tg iter ifs asy scope pos
    simp only [Bool.and_eq_true, Bool.not_eq_true', decide_eq_true_eq] at h
    obtain ⟨⟨⟨⟨⟨⟨⟨rfl, h1⟩, h2⟩, h3⟩, h4⟩, h5⟩, h6⟩, h7⟩ := h
    have hi : PIv X ca F cls tg iter kk A B := chkI_ok g (fun e h => chkE_ok A P false sc X e g h) (fun e h => chkE_ok B P false sc X e g h) h5
    have hif : ∀ X', Ag P.off ca F k X' (relS scope sc) → PTs X' ifs (ttC X'.K ca F cls C) := fun X' g' => by
      unfold ttC
      split at h6
      · rw [if_pos h6]; exact pts_nil
      · simp only [Bool.and_eq_true, Bool.not_eq_true'] at h6
        rw [if_neg (by rw [h6.1]; exact Bool.false_ne_true)]
        exact pts_one (chkE_ok C P.off true (relS scope sc) X' _ g' h6.2).1
      · cases h6
    obtain ⟨t', w1, w2, w3⟩ := v_comp (pos := pos) g hi h1 h2 h3 h4 hif fun X' g' => chkE_ok E0 P.off false (relS scope sc) X' _ g' h7
    exact ⟨t', w2, w3 mu⟩
  · cases h
theorem swB_ok {y : Str} {py spos : Pos} {e : Expr} (g : AgT P ca F k X sc) (h : swB sc y py e = true) : X.env.scope.names.lookup y = some .local ∧ swapsWith e (some (.Name y py)) spos.line X.env = pure true := by
  unfold swB at h
  split at h
  · rename_i elt gs scope pos
    simp only [Bool.and_eq_true] at h
    obtain ⟨⟨h1, h2⟩, h3⟩ := h
    have hl : X.env.scope.names.lookup y = some .local := by rw [g.ag.sc]; exact lclB_ok h1
    exact ⟨hl, sw_true (by rw [g.ag.sc]; exact g.kind) hl h2 (noOwn_ok h3)⟩
  · cases h
theorem isComp_of {A : E} {e : Expr} {y : Str} {py : Pos} (h : swB sc y py e = true) (hc : chkE P false sc A e = true) : ∃ mu own t kk B C D E0, A = .comp mu own t kk B C D E0 := by
  unfold swB at h
  split at h
  · cases A with
    | comp mu own t kk B C D E0 => exact ⟨mu, own, t, kk, B, C, D, E0, rfl⟩
    | _ => simp [chkE] at hc
  · cases h
mutual
theorem chkS_ok : ∀ (A : S) (st : Stmt), AgT P ca F k X sc → chkS P sc A st = true → PSv X ca F cls st A
  | .setv i A, st, g, h => by
    unfold chkS at h
    split at h
    · simp only [Bool.and_eq_true, Bool.or_eq_true] at h
      obtain ⟨⟨⟨h1, h2⟩, h3⟩, h4⟩ := h
      have hN := atB_ok h1
      rw [← g.ag.N] at hN
      rcases h4 with h4 | h4
      · exact s_set (ps_set g.ag.nd' hN (by rw [g.ag.sc]; exact locB_ok h2) (chkE_ok A P false sc X _ g.ag h3) (swN_ok g.ag.sc h4) (.inl (g.fnt _))) fun _ _ _ z => z
      · obtain ⟨mu, own, t, kk, B, C, D, E0, rfl⟩ := isComp_of h4 h3
        obtain ⟨t', w1, w2⟩ := comp_two (cls := cls) g.ag h3
        obtain ⟨z1, z2⟩ := swB_ok g h4
        exact s_set (w1 hN z1 z2) w2
    · cases h
  | .sett is A, st, g, h => by
    unfold chkS at h
    split at h
    · rename_i tg e pos
      simp only [Bool.and_eq_true, Bool.not_eq_true'] at h
      obtain ⟨⟨⟨h1, h2⟩, h3⟩, h4⟩ := h
      cases tg with
      | Tuple es kt pt => exact s_sett (ps_asg (chkE_ok A P false sc X _ g.ag h2) (tgtB_ok g.ag.N g.ag.nd' g.ag.calm g.ag.sc (fun _ => g.fnt) h1) sws_tup (sst_no h3) rfl)
      | _ => cases h4
    · cases h
  | .setp i j A B, st, g, h => by
    unfold chkS at h
    split at h
    · rename_i x px y py _ _ a b _ _ _
      simp only [Bool.and_eq_true, Bool.or_eq_true, Bool.not_eq_true'] at h
      obtain ⟨⟨⟨⟨⟨⟨⟨h1, h2⟩, h3⟩, h4⟩, h5⟩, h6⟩, h7⟩, h8⟩ := h
      have hx := atB_ok h1
      have hy := atB_ok h2
      rw [← g.ag.N] at hx hy
      have hxy := sq_ne h3
      have hij : i ≠ j := fun z => by
        subst z
        rw [hx] at hy
        exact hxy (Option.some.inj hy)
      have pa := v_acons (cls := cls) (chkE_ok A P false sc X _ g.ag h6) (v_acons (chkE_ok B P false sc X _ g.ag h7) v_anil (star_cons h5)) (star_cons h4)
      rcases h8 with ⟨⟨⟨⟨l1, l2⟩, l3⟩, l4⟩, l5⟩ | ⟨⟨l1, l2⟩, l3⟩
      · have n1 : X.env.scope.names.lookup x = some .local := by rw [g.ag.sc]; exact lclB_ok l1
        have n2 : X.env.scope.names.lookup y = some .local := by rw [g.ag.sc]; exact lclB_ok l2
        exact s_setp (ps_par g.ag.calm g.ag.nd' hx hy hij n1 n2 pa (sst_pair (by rw [g.ag.sc]; exact g.kind) n1 n2 l3 hxy ⟨h4, h5⟩ l4 l5) sws_tup)
      · have tg : ∀ kt pt, tgtB P.N true sc (.tp [i, j]) (.Tuple [.Name x px, .Name y py] kt pt) = true := fun kt pt => by
          simp only [tgtB, tgtB.tgts, lcB, h1, h2, l1, l2, Bool.and_self]
        have nn : X.env.scope.names.lookup x ≠ some .local ∨ X.env.scope.names.lookup y ≠ some .local := by
          rw [g.ag.sc]
          exact l3.imp lclB_no lclB_no
        refine PS.imp (ps_asg (v_tup pa) (tgtB_ok g.ag.N g.ag.nd' g.ag.calm g.ag.sc (fun _ => g.fnt) (tg _ _)) sws_tup (sst_pairN nn) rfl) fun D σ H ⟨G, ρ, env, M, o, env', M', a0, hh, q⟩ => ?_
        rw [exec] at hh
        split at hh
        · cases hh
        · rename_i x1 M1 e1
          split at hh
          · cases hh
          · rename_i y1 M2 e2
            cases hh
            have et : ev F cls (.tup (.cons A (.cons B .nil))) env M = some (.tup [x1, y1], M') := by
              rw [ev, evL, e1]; simp only; rw [evL, e2]; simp only; rw [evL]
              rfl
            exact tE.go a0 et fun ρ1 v1 H1 x1 a1 r1 => gT_ok a1.en r1 rfl fun σ' r' _ => q ρ1 σ' H1 x1 ⟨a1.ok, r'⟩
    · cases h
  | .seti A I E0, st, g, h => by
    unfold chkS at h
    split at h
    · simp only [Bool.and_eq_true] at h
      obtain ⟨⟨⟨h0, h1⟩, h2⟩, h3⟩ := h
      have hu := g.ag.hu
      exact s_seti (ps_asg (chkE_ok E0 P false sc X _ g.ag h3) (pg_sub (chkE_ok A P false sc X _ g.ag h1) (chkE_ok I P false sc X _ g.ag h2) (set_any (by omega)) (asg_sub h0)) sws_sub sst_one rfl)
    · cases h
  | .seti2 A I B J E0 E1, st, g, h => by
    unfold chkS at h
    split at h
    · simp only [Bool.and_eq_true, Bool.not_eq_true'] at h
      obtain ⟨⟨⟨⟨⟨⟨⟨⟨⟨k1, k2⟩, h1⟩, h2⟩, h3⟩, h4⟩, h5⟩, h6⟩, h7⟩, h8⟩ := h
      have hu := g.ag.hu
      have pa := v_acons (cls := cls) (chkE_ok E0 P false sc X _ g.ag h7) (v_acons (chkE_ok E1 P false sc X _ g.ag h8) v_anil (star_cons h2)) (star_cons h1)
      exact s_seti2 (ps_asg (v_tup pa) (pg_tup g.ag.calm (pgs_cons (pg_sub (chkE_ok A P false sc X _ g.ag h3) (chkE_ok I P false sc X _ g.ag h4) (set_any (by omega)) (asg_sub k1)) (pgs_cons (pg_sub (chkE_ok B P false sc X _ g.ag h5) (chkE_ok J P false sc X _ g.ag h6) (set_any (by omega)) (asg_sub k2)) pgs_nil rfl) rfl) rfl rfl) sws_tup sst_sub rfl)
    · cases h
  | .augi A I o E0, st, g, h => by
    unfold chkS at h
    split at h
    · simp only [Bool.and_eq_true] at h
      obtain ⟨⟨⟨⟨⟨h1, h2⟩, h3⟩, h4⟩, h5⟩, h6⟩ := h
      have z := opIs_ok h2
      subst z
      have hu := g.ag.hu
      exact s_augi (fun ho => ps_augS (chkE_ok A P false sc X _ g.ag h4) (chkE_ok I P false sc X _ g.ag h5) get_list (chkE_ok E0 P false sc X _ g.ag h6) (ip_aug ho) (set_any (by omega)) (augI_ok h3)) h1
    · cases h
  | .setf _ _ _, st, g, h => by simp [chkS] at h
  | .exp A, st, g, h => by
    unfold chkS at h
    split at h
    · simp only [Bool.and_eq_true, Bool.not_eq_true'] at h
      exact s_exp (chkE_ok A P false sc X _ g.ag h.1) (sw_no h.2)
    · cases h
  | .ret A, st, g, h => by
    unfold chkS at h
    split at h
    · exact s_ret (chkE_ok A P false sc X _ g.ag h)
    · cases h
  | .retN, st, g, h => by
    unfold chkS at h
    split at h
    · exact s_retN
    · cases h
  | .ife C p q, st, g, h => by
    unfold chkS at h
    split at h
    · simp only [Bool.and_eq_true] at h
      exact s_if (chkE_ok C P true sc X _ g.ag h.1.1).1 (chkB_ok p _ g h.1.2) (chkB_ok q _ g h.2)
    · cases h
  | .for_ t kk A B body, st, g, h => by
    unfold chkS at h
    split at h
    · simp only [Bool.and_eq_true, Bool.not_eq_true'] at h
      obtain ⟨⟨⟨h1, h2⟩, h3⟩, h4⟩ := h
      rcases (Bool.or_eq_true _ _).mp h1 with h1 | h1
      · exact s_for (ps_for g.own g.ag.calm (chkI_ok g.ag (fun e h => chkE_ok A P false sc X e g.ag h) (fun e h => chkE_ok B P false sc X e g.ag h) h1) (tgtB_ok g.ag.N g.ag.nd' g.ag.calm g.ag.sc (fun _ => g.fnt) h2) (chkB_ok body _ g h4) (noSet_folded h3))
      · unfold keysI at h1
        split at h1
        · simp only [Bool.and_eq_true, Bool.not_eq_true'] at h1
          obtain ⟨⟨⟨⟨k1, k2⟩, k3⟩, k4⟩, k5⟩ := h1
          have absB : ∀ {B : E}, isAbs B = true → B = .absent := fun {B} h => by cases B <;> first | rfl | (cases h)
          rw [absB k5]
          exact s_keys (ps_for g.own g.ag.calm (pi_keys (pe_var (by rw [g.ag.N]; exact atB_ok k1) (by rw [g.ag.sc]; exact visB_ok k2) (sq_beq k3) (sq_beq k4))) (tgtB_ok g.ag.N g.ag.nd' g.ag.calm g.ag.sc (fun _ => g.fnt) h2) (chkB_ok body _ g h4) (noSet_folded h3))
        · cases h1
    · cases h
  | .whl C body, st, g, h => by
    unfold chkS at h
    split at h
    · simp only [Bool.and_eq_true] at h
      exact s_whl (ps_while g.own (chkE_ok C P true sc X _ g.ag h.1).1 (chkB_ok body _ g h.2))
    · cases h
  | .pass, st, g, h => by
    unfold chkS at h
    split at h
    · exact s_pass
    · cases h
  | .cont, st, g, h => by
    unfold chkS at h
    split at h
    · exact s_cont
    · cases h
  | .frz _, st, g, h => by simp [chkS] at h
theorem chkB_ok : ∀ (A : SB) (ss : List Stmt), AgT P ca F k X sc → chkB P sc A ss = true → PBv X ca F cls ss A
  | .nil, ss, g, h => by
    unfold chkB at h
    split at h
    · exact b_nil
    · cases h
  | .cons s r, ss, g, h => by
    by_cases hs : ∃ i, s = .frz i
    · obtain ⟨i, rfl⟩ := hs
      rw [chkB] at h
      exact b_frz (chkB_ok r ss g h)
    · cases ss with
      | nil =>
        exfalso
        cases s <;> first | (exact hs ⟨_, rfl⟩) | (simp [chkB] at h)
      | cons st l =>
        have h' : chkS P sc s st = true ∧ chkB P sc r l = true := by
          cases s <;> first | (exact absurd ⟨_, rfl⟩ hs) | (simpa only [chkB, Bool.and_eq_true] using h)
        exact b_cons (chkS_ok s st g h'.1) (chkB_ok r l g h'.2)
end
end
end MP

/-! MP22: defs, checked. -/
namespace MP
open PySem PySem.Spec PyProof.Rows L2
def dropDoc : List Stmt → List Stmt
  | .Expr (.Constant (.str _) _ _) _ :: r => r
  | l => l
theorem dropDoc_ok {X : Cx} {ca : Nat → Option Addr} {F : FT} {cls : Nat → Nat} {body : List Stmt} {B : SB} (h : PBv X ca F cls (dropDoc body) B) : PBv X ca F cls body B := by
  unfold dropDoc at h
  split at h
  · exact b_doc h
  · exact h
/-- a def of the module and its datum agree -/
structure DefOk (P : Pm) (K : PySem.W.Frag) (mg : Str → Option Value) (fn : Fn) : Prop where
  ex : ∃ (fa : Addr) (fd : FuncData) (params : Arguments) (body : List Stmt) (scope : Scope) (dvs : List V), FunD K fn.name fn.name params body scope dvs [] fa fd ∧ mg fn.name = some (.ref fa) ∧ FnScope fn.N (fn.N.take fn.np) scope ∧ chkB { P with N := fn.N } scope fn.body (dropDoc body) = true ∧
    (∀ F ρ H, RpL K F ρ H fn.ds dvs) ∧ ∀ n, n ≤ fn.np → fn.np ≤ n + fn.ds.length → ∃ dus, Vals (dvs.drop (fn.ds.length - (fn.np - n))) dus ∧ Binds K fd (fn.N.take fn.np) dus
  np : fn.np ≤ fn.N.length
theorem env_start {K : PySem.W.Frag} {F : Addr → Prop} {ρ : List Addr} {H : Hp} {N : List Str} {ds : List D} {vs : List V} (r : RpL K F ρ H ds vs) (hl : ds.length ≤ N.length) : EnvR K F ρ H (L2.start N vs) (ds.map some ++ List.replicate (N.length - ds.length) none) := by
  have hv := r.length
  refine ⟨?_, fun i d h => ?_⟩
  · unfold L2.start
    simp only [List.length_append, List.length_map, List.length_replicate]
    omega
  · have hi : i < ds.length := by
      rcases Nat.lt_or_ge i ds.length with z | z
      · exact z
      · rw [List.getElem?_append_right (by rw [List.length_map]; exact z)] at h
        rw [List.getElem?_replicate] at h
        split at h <;> cases h
    rw [List.getElem?_append_left (by rw [List.length_map]; exact hi), List.getElem?_map] at h
    obtain ⟨d', e, e'⟩ := Option.map_eq_some_iff.mp h
    cases e'
    obtain ⟨v, q1, q2⟩ := r.get e
    refine ⟨v, ?_, q2⟩
    unfold L2.start
    rw [List.getElem?_append_left (by rw [List.length_map, hv]; exact hi), List.getElem?_map, q1]
    rfl
section
variable {P : Pm} {prog : Program} {w : World} {K : PySem.W.Frag} {mg : Str → Option Value} {base : Heap} {ca : Nat → Option Addr} {cls : Nat → Nat}
theorem run_full {fns : List Fn} {n f : Nat} {fn : Fn} {xs : List D} {M : Sto} (hf : fns[f]? = some fn) (hl : xs.length = fn.np) : run fns cls (n + 1) f xs M = body1 (run fns cls n) cls fn xs M := by
  rw [run, hf]
  simp only
  have e : fn.ds.drop (fn.ds.length - (fn.np - xs.length)) = [] := by
    rw [hl, Nat.sub_self, Nat.sub_zero, List.drop_length]
  rw [e, List.append_nil, if_pos hl]
theorem run_short {fns : List Fn} {n f : Nat} {fn : Fn} {xs : List D} {M : Sto} (hf : fns[f]? = some fn) (h2 : fn.np ≤ xs.length + fn.ds.length) (h1 : xs.length ≤ fn.np) :
    run fns cls n f xs M = run fns cls n f (xs ++ fn.ds.drop (fn.ds.length - (fn.np - xs.length))) M := by
  have hlen : (xs ++ fn.ds.drop (fn.ds.length - (fn.np - xs.length))).length = fn.np := by
    rw [List.length_append, List.length_drop]
    omega
  cases n with
  | zero => rfl
  | succ n => rw [run_full hf hlen, run, hf]; simp only; rw [if_pos hlen]
/-- what is known of all defs at a depth -/
def AllAt (P : Pm) (prog : Program) (w : World) (K : PySem.W.Frag) (mg : Str → Option Value) (base : Heap) (ca : Nat → Option Addr) (cls : Nat → Nat) (n : Nat) : Prop := ∀ (f : Nat) (fn : Fn), P.fnb f = true → P.fns[f]? = some fn →
    ∃ (fa : Addr) (fd : FuncData) (dvs : List V), mg fn.name = some (.ref fa) ∧ PySem.W.keepIn K (.ref fa) = true ∧ FnOk prog w K mg base CX0 n fa fd (fn.N.take fn.np) (spF K ca (run P.fns cls n f) fn.np) ∧
      (∀ F ρ H, RpL K F ρ H fn.ds dvs) ∧ ∀ n, n ≤ fn.np → fn.np ≤ n + fn.ds.length → ∃ dus, Vals (dvs.drop (fn.ds.length - (fn.np - n))) dus ∧ Binds K fd (fn.N.take fn.np) dus
theorem fn_one {n f : Nat} {fn : Fn} (hrp : P.rp = false) {fa : Addr} {fd : FuncData} {params : Arguments} {body : List Stmt} {scope : Scope} {dvs : List V} (IH : AllAt P prog w K mg base ca cls n) (hm : ∀ x ∈ bltNames, mg x = none) (he : P.fns[f]? = some fn) (F : FunD K fn.name fn.name params body scope dvs [] fa fd)
    (h2 : FnScope fn.N (fn.N.take fn.np) scope) (h3 : chkB { P with N := fn.N } scope fn.body (dropDoc body) = true) (np : fn.np ≤ fn.N.length) : FnOk prog w K mg base CX0 (n + 1) fa fd (fn.N.take fn.np) (spF K ca (run P.fns cls (n + 1) f) fn.np) := by
  refine F.ok h2 (fun vs H Q E h => ?_) (fun cdv A outer s H vs Q E hr h => ⟨tS K ca (exb (run P.fns cls n) cls fn.body), PSs.nox (dropDoc_ok (chkB_ok (P := { P with N := fn.N }) (k := n) (sc := scope) fn.body _ ?_ h3)), ?_⟩)
  · rw [List.length_take, Nat.min_eq_left np]
    exact h.1
  · refine ⟨⟨rfl, h2.nd, rfl, rfl, hr, hm, fun z => (by rw [hrp] at z; cases z), fun g gn m hg hge hm1 hm2 => ⟨?_⟩⟩, fun _ => rfl, rfl, h2.kind⟩
    obtain ⟨ga, gd, gdv, g1, g2, g3, g4, g5⟩ := IH g gn hg hge
    obtain ⟨dus, d1, d2⟩ := g5 m hm1 hm2
    have hdl : ∀ F ρ H, RpL K F ρ H (gn.ds.drop (gn.ds.length - (gn.np - m))) (gdv.drop (gn.ds.length - (gn.np - m))) := fun F ρ H => (g4 F ρ H).drop _
    exact ⟨ga, gd, gn.N.take gn.np, _, dus, gn.ds.drop (gn.ds.length - (gn.np - m)), g1, g2, g3, d2, d1, hdl, fun xs M hx => by subst hx; exact run_short hge hm2 hm1, by rw [List.length_drop]; omega⟩
  · obtain ⟨hl, G, ρ, M, ds, d, M', k, r, e, hk⟩ := h
    have hds : ds.length = fn.np := by rw [← r.length]; exact hl
    rw [run_full he hds] at e
    unfold body1 at e
    split at e
    · rename_i d1 env1 M1 e1
      cases e
      exact tS.go ⟨k, env_start r (by rw [hds]; exact np)⟩ e1 fun ρ' σ' H' x a v rv => hk ρ' v H' x a.ok rv
    · rename_i env1 M1 e1
      cases e
      exact tS.go ⟨k, env_start r (by rw [hds]; exact np)⟩ e1 fun ρ' σ' H' x a => hk ρ' .non H' x a.ok rfl
    · cases e
theorem fns_ok (hrp : P.rp = false) (hD : ∀ f fn, P.fnb f = true → P.fns[f]? = some fn → DefOk P K mg fn) (hm : ∀ x ∈ bltNames, mg x = none) : ∀ (n : Nat), AllAt P prog w K mg base ca cls n
  | 0, f, fn, hf, he => by
    have q := hD f fn hf he
    obtain ⟨fa, fd, params, body, scope, dvs, F, h1, h2, h3, h4, h5⟩ := q.ex
    refine ⟨fa, fd, dvs, h1, F.kp, ⟨fun vs H Q E h => ?_, fun A outer s H args us vs Q E _ _ _ _ h => ?_⟩, h4, h5⟩
    · rw [List.length_take, Nat.min_eq_left q.np]
      exact h.1
    · obtain ⟨_, G, ρ, M, ds, d, M', _, _, e, _⟩ := h
      cases e
  | n + 1, f, fn, hf, he => by
    have q := hD f fn hf he
    obtain ⟨fa, fd, params, body, scope, dvs, F, h1, h2, h3, h4, h5⟩ := q.ex
    exact ⟨fa, fd, dvs, h1, F.kp, fn_one hrp (fns_ok hrp hD hm n) hm he F h2 h3 q.np, h4, h5⟩
end
end MP

/-! MP32: what a def's call binds; a last parameter may have a default. -/
namespace MP
open PySem PySem.Spec PyProof.Rows L2
def simpleA (p : Arguments) (ps : List Str) : Bool := p.posonlyargs.isEmpty && p.vararg.isNone && p.kwonlyargs.isEmpty && p.kwarg.isNone && (p.args.map (·.arg)).length == ps.length && ((p.args.map (·.arg)).zip ps).all fun q => sq q.1 q.2
theorem zip_sq : ∀ {l ps : List Str}, l.length = ps.length → ((l.zip ps).all fun q => sq q.1 q.2) = true → l = ps
  | [], [], _, _ => rfl
  | [], _ :: _, h, _ => by cases h
  | _ :: _, [], h, _ => by cases h
  | x :: l, y :: ps, h, h2 => by
    rw [List.zip_cons_cons, List.all_cons, Bool.and_eq_true] at h2
    have e1 : x = y := sq_eq h2.1
    rw [e1, zip_sq (by simpa using h) h2.2]
theorem lookup_zip : ∀ {ps : List Str} {us : List Value}, us.length = ps.length → ∀ x ∈ ps, ((ps.zip us).lookup x).isNone = false
  | [], _, _, x, hx => nomatch hx
  | p :: ps, [], h, _, _ => by cases h
  | p :: ps, u :: us, h, x, hx => by
    rw [List.zip_cons_cons, List.lookup_cons]
    cases e : x == p with
    | true => rfl
    | false =>
      rcases List.mem_cons.mp hx with z | z
      · subst z; simp at e
      · exact lookup_zip (by simpa using h) x z
theorem filterMap_zip : ∀ {ps : List Str} {us : List Value}, us.length = ps.length → ps.Nodup → (ps.filterMap fun n => ((ps.zip us).lookup n).map (n, ·)) = ps.zip us := by
  have go : ∀ (ps : List Str) (us : List Value) (pre : List (Str × Value)), us.length = ps.length → ps.Nodup → (∀ q ∈ pre, q.1 ∉ ps) → (ps.filterMap fun n => ((pre ++ ps.zip us).lookup n).map (n, ·)) = ps.zip us := by
    intro ps
    induction ps with
    | nil => intro us pre _ _ _; rfl
    | cons p ps ih =>
      intro us pre hl nd hp
      cases us with
      | nil => cases hl
      | cons u us =>
        rw [List.nodup_cons] at nd
        have lk : ∀ (pre : List (Str × Value)), (∀ q ∈ pre, q.1 ∉ p :: ps) → (pre ++ (p :: ps).zip (u :: us)).lookup p = some u := by
          intro pre
          induction pre with
          | nil => intro _; rw [List.nil_append, List.zip_cons_cons, List.lookup_cons]; simp
          | cons q pre ih2 =>
            intro hq
            rw [List.cons_append, List.lookup_cons]
            have hne : (p == q.1) = false := beq_eq_false_iff_ne.mpr fun z => hq q List.mem_cons_self (z ▸ List.mem_cons_self)
            rw [hne]
            exact ih2 fun r hr => hq r (List.mem_cons_of_mem _ hr)
        rw [List.filterMap_cons, lk pre hp]
        simp only [Option.map_some, List.zip_cons_cons]
        congr 1
        have := ih us (pre ++ [(p, u)]) (by simpa using hl) nd.2 fun q hq => by
          rcases List.mem_append.mp hq with z | z
          · exact fun w => hp q z (List.mem_cons_of_mem _ w)
          · rw [List.mem_singleton.mp z]; exact nd.1
        rw [List.append_assoc] at this
        exact this
  intro ps us hl nd
  exact go ps us [] hl nd fun q hq => nomatch hq
theorem bind_simple {x qual : Str} {params : Arguments} {body : List Stmt} {scope : Scope} {kV doc pm : Value} {an : Option Addr} {cdv ct : Value} {ps : List Str} {us : List Value} (h : simpleA params ps = true) (nd : ps.Nodup) (hl : us.length = ps.length) :
    bindArgs (PySem.W.fnOf x qual params body scope .none kV doc pm an cdv ct) ⟨us, []⟩ = pure (ps.zip us) := by
  unfold simpleA at h
  simp only [Bool.and_eq_true, beq_iff_eq] at h
  obtain ⟨⟨⟨⟨⟨h1, h2⟩, h3⟩, h4⟩, h5⟩, h6⟩ := h
  have e := zip_sq h5 h6
  obtain ⟨po, args, va, ko, kd, kw, df⟩ := params
  simp only at h1 h2 h3 h4 e
  have e1 : po = [] := List.isEmpty_iff.mp h1
  have e2 : va = none := Option.isNone_iff_eq_none.mp h2
  have e3 : ko = [] := List.isEmpty_iff.mp h3
  have e4 : kw = none := Option.isNone_iff_eq_none.mp h4
  subst e1 e2 e3 e4
  have miss : (ps.take (ps.length - 0)).filter (fun n => ((ps.zip us).lookup n).isNone) = [] := by
    rw [Nat.sub_zero, List.take_length, List.filter_eq_nil_iff]
    intro y hy
    rw [lookup_zip hl y hy]
    exact Bool.false_ne_true
  have fm := filterMap_zip hl nd
  unfold bindArgs
  simp only [List.map_nil, List.nil_append, e, List.append_nil, PySem.W.fnOf, List.forIn_nil, pure_bind]
  have si : seqItems? Value.none = pure none := rfl
  have dd0 : ps.drop (ps.length - (([] : List Value).drop (0 - ps.length)).length) = [] := by simp
  simp [si, hl, fm]
  intro y hy hno
  obtain ⟨i, hi⟩ := List.getElem?_of_mem hy
  have hlt : i < ps.length := (List.getElem?_eq_some_iff.mp hi).1
  have hz : (ps.zip us)[i]? = some (y, us[i]'(by omega)) := by
    rw [List.getElem?_zip_eq_some]
    exact ⟨hi, List.getElem?_eq_getElem _⟩
  exact absurd (List.mem_of_getElem? hz) (hno _)
theorem bind_one {x qual : Str} {params : Arguments} {body : List Stmt} {scope : Scope} {kV doc pm : Value} {an : Option Addr} {cdv ct : Value} {T : Addr} {ps : List Str} {us : List Value} {dv : Value} (h : simpleA params ps = true) (nd : ps.Nodup) (hl : us.length + 1 = ps.length) :
    ∃ k, bindArgs (PySem.W.fnOf x qual params body scope (.ref T) kV doc pm an cdv ct) ⟨us, []⟩ = seqItems? (.ref T) >>= k ∧ k (some #[dv]) = pure (ps.zip (us ++ [dv])) := by
  unfold simpleA at h
  simp only [Bool.and_eq_true, beq_iff_eq] at h
  obtain ⟨⟨⟨⟨⟨h1, h2⟩, h3⟩, h4⟩, h5⟩, h6⟩ := h
  have e := zip_sq h5 h6
  obtain ⟨po, args, va, ko, kd, kw, df⟩ := params
  simp only at h1 h2 h3 h4 e
  have e1 : po = [] := List.isEmpty_iff.mp h1
  have e2 : va = none := Option.isNone_iff_eq_none.mp h2
  have e3 : ko = [] := List.isEmpty_iff.mp h3
  have e4 : kw = none := Option.isNone_iff_eq_none.mp h4
  subst e1 e2 e3 e4
  obtain ⟨ps0, z, rfl⟩ : ∃ ps0 z, ps = ps0 ++ [z] := by
    have hne : ps ≠ [] := fun q => by rw [q] at hl; simp at hl
    exact ⟨ps.dropLast, ps.getLast hne, (List.dropLast_concat_getLast hne).symm⟩
  have hl0 : us.length = ps0.length := by simpa using hl
  have nd0 : ps0.Nodup := (List.nodup_append.mp nd).1
  have hz : z ∉ ps0 := fun q => (List.nodup_append.mp nd).2.2 z q z (by simp) rfl
  have zz : (ps0 ++ [z]).zip us = ps0.zip us := by
    have q : (ps0 ++ [z]).zip (us ++ []) = ps0.zip us ++ [z].zip [] := List.zip_append hl0.symm
    rw [List.append_nil] at q
    rw [q]
    simp
  have zd : (ps0 ++ [z]).zip (us ++ [dv]) = ps0.zip us ++ [(z, dv)] := by
    rw [List.zip_append hl0.symm]
    rfl
  have lz : (ps0.zip us).lookup z = none := by
    cases q : (ps0.zip us).lookup z with
    | none => rfl
    | some v => exact absurd (List.of_mem_zip (PySem.mem_of_lookup q)).1 hz
  have miss : ps0.filter (fun n => ((ps0.zip us).lookup n).isNone) = [] := by
    rw [List.filter_eq_nil_iff]
    intro y hy
    rw [lookup_zip hl0 y hy]
    exact Bool.false_ne_true
  have fm := filterMap_zip (ps := ps0 ++ [z]) (us := us ++ [dv]) (by simp [hl0]) nd
  rw [zd] at fm
  have d1 : [dv].drop ([dv].length - (ps0 ++ [z]).length) = [dv] := by
    rw [show [dv].length - (ps0 ++ [z]).length = 0 by simp]
    rfl
  have t1 : (ps0 ++ [z]).take ((ps0 ++ [z]).length - [dv].length) = ps0 := by
    rw [show (ps0 ++ [z]).length - [dv].length = ps0.length by simp]
    simp
  have t2 : (ps0 ++ [z]).drop ((ps0 ++ [z]).length - [dv].length) = [z] := by
    rw [show (ps0 ++ [z]).length - [dv].length = ps0.length by simp]
    simp
  have g1 : ¬ us.length > (ps0 ++ [z]).length := by simp [hl0]
  unfold bindArgs
  simp only [List.map_nil, List.nil_append, e, List.append_nil, PySem.W.fnOf, List.forIn_nil, pure_bind]
  refine ⟨_, rfl, ?_⟩
  simp only [Option.getD_some, g1, false_and, decide_false, Bool.false_and, Bool.false_eq_true, if_false, pure_bind, d1, t1, t2, zz, miss, List.isEmpty_nil, Bool.not_true, List.zip_cons_cons, List.zip_nil_right, List.forIn_cons, List.forIn_nil, lz, Option.isNone_none, if_true, bind_pure_comp, map_pure, fm, zd]
theorem bind_all1 {x qual : Str} {params : Arguments} {body : List Stmt} {scope : Scope} {kV doc pm : Value} {an : Option Addr} {cdv ct : Value} {T : Addr} {ps : List Str} {us : List Value} {dv : Value} (h : simpleA params ps = true) (nd : ps.Nodup) (hl : us.length = ps.length) (h0 : ps ≠ []) :
    ∃ k, bindArgs (PySem.W.fnOf x qual params body scope (.ref T) kV doc pm an cdv ct) ⟨us, []⟩ = seqItems? (.ref T) >>= k ∧ k (some #[dv]) = pure (ps.zip us) := by
  unfold simpleA at h
  simp only [Bool.and_eq_true, beq_iff_eq] at h
  obtain ⟨⟨⟨⟨⟨h1, h2⟩, h3⟩, h4⟩, h5⟩, h6⟩ := h
  have e := zip_sq h5 h6
  obtain ⟨po, args, va, ko, kd, kw, df⟩ := params
  simp only at h1 h2 h3 h4 e
  have e1 : po = [] := List.isEmpty_iff.mp h1
  have e2 : va = none := Option.isNone_iff_eq_none.mp h2
  have e3 : ko = [] := List.isEmpty_iff.mp h3
  have e4 : kw = none := Option.isNone_iff_eq_none.mp h4
  subst e1 e2 e3 e4
  have fm := filterMap_zip hl nd
  have hp : 0 < ps.length := List.length_pos_iff.mpr h0
  have d1 : [dv].drop ([dv].length - ps.length) = [dv] := by
    rw [show [dv].length - ps.length = 0 by simp; omega]
    rfl
  have miss : ∀ m, (ps.take m).filter (fun n => ((ps.zip us).lookup n).isNone) = [] := fun m => by
    rw [List.filter_eq_nil_iff]
    intro y hy
    rw [lookup_zip hl y (List.mem_of_mem_take hy)]
    exact Bool.false_ne_true
  obtain ⟨z, t2⟩ : ∃ z, ps.drop (ps.length - [dv].length) = [z] := by
    have : (ps.drop (ps.length - [dv].length)).length = 1 := by
      rw [List.length_drop]
      simp
      omega
    exact List.length_eq_one_iff.mp this
  have hz : z ∈ ps := List.mem_of_mem_drop (i := ps.length - [dv].length) (by rw [t2]; simp)
  have lz := lookup_zip hl z hz
  have g1 : ¬ us.length > ps.length := by omega
  unfold bindArgs
  simp only [List.map_nil, List.nil_append, e, List.append_nil, PySem.W.fnOf, List.forIn_nil, pure_bind]
  refine ⟨_, rfl, ?_⟩
  simp only [Option.getD_some, g1, false_and, decide_false, Bool.false_and, Bool.false_eq_true, if_false, pure_bind, d1, miss, t2, List.isEmpty_nil, Bool.not_true, List.zip_cons_cons, List.zip_nil_right, List.forIn_cons, List.forIn_nil, lz, if_true, bind_pure_comp, map_pure, fm]
end MP

/-! MP25: what a def's call binds. -/
namespace MP
open PySem PySem.Spec PyProof.Rows L2
/-- the defaults: none, or one that is () or None -/
def dfB : List D → List Expr → Bool
  | [], [] => true
  | [.tup []], [.Tuple [] _ _] => true
  | [.non], [.Constant .none _ _] => true
  | _, _ => false
def emptyB (K : PySem.W.Frag) (a : Addr) : Bool := match K.lookup a with
  | some ⟨.type c, _, .seq its _, _⟩ => decide (c = "tuple") && its.toList.isEmpty
  | _ => false
/-- the first default of the def x, if it is () -/
def emptyAt (x : Str) (K : PySem.W.Frag) : Addr := match emptyB K (He.dflAt (x, none) 0 K) with
  | true => He.dflAt (x, none) 0 K
  | false => He.dflAt (x, none) 0 K + 1
def dflOf (x : Str) : List Expr → List He.Dv
  | [.Tuple [] _ _] => [.adr (emptyAt x)]
  | [.Constant .none _ _] => [.non]
  | _ => []
theorem empty_ok {K : PySem.W.Frag} {a : Addr} (h : emptyB K a = true) (H : Hp) : SqT K H a [] := by
  unfold emptyB at h
  split at h
  · rename_i c _ its n _ e
    rw [Bool.and_eq_true, decide_eq_true_eq] at h
    have z := List.isEmpty_iff.mp h.2
    exact .inr ⟨_, its, n, e, congrArg Value.type h.1, rfl, by rw [← Array.length_toList, z]; exact Nat.zero_le _, by rw [z]; exact .nil⟩
  · cases h
theorem dfl_at {K : PySem.W.Frag} {x : Str} {params : Arguments} {body : List Stmt} {scope : Scope} {a : Addr} {fd : FuncData} (F : FunD K x x params body scope [.ref a] [] (He.ga K x) fd) : He.dflAt (x, none) 0 K = a := by
  obtain ⟨oc, od, dV, kV, doc, pm, an, cdv, ct, osl, rfl, lk, _, hD, _⟩ := F.ex
  rcases hD with ⟨e, _⟩ | ⟨_, T, o, its, n, rfl, lT, oT, rT⟩
  · cases e
  · have lk' : K.lookup (He.fAd K (x, none)) = _ := lk
    obtain ⟨c, d, dt, sl⟩ := o
    have oT' : dt = .seq its.toArray n := oT
    subst oT'
    cases rT with
    | cons r rs =>
      rename_i u us
      obtain rfl : u = Value.ref a := r
      unfold He.dflAt
      simp only [lk', PySem.W.fnOf, lT]
      simp
theorem dfl_ok {K : PySem.W.Frag} {x : Str} {params : Arguments} {body : List Stmt} {scope : Scope} {fd : FuncData} {ds : List D} {es : List Expr} (F : FunD K x x params body scope ((dflOf x es).map (He.Dv.v K)) [] (He.ga K x) fd) (h : dfB ds es = true) :
    (∀ F ρ H, RpL K F ρ H ds ((dflOf x es).map (He.Dv.v K))) ∧ (ds.length ≤ 1) ∧ ((dflOf x es).map (He.Dv.v K)).length = ds.length := by
  unfold dfB at h
  split at h
  · exact ⟨fun _ _ _ => rfl, Nat.zero_le _, rfl⟩
  · have e := dfl_at (a := emptyAt x K) F
    have hb : emptyB K (emptyAt x K) = true := by
      have e2 : emptyAt x K = (match emptyB K (He.dflAt (x, none) 0 K) with
        | true => He.dflAt (x, none) 0 K
        | false => He.dflAt (x, none) 0 K + 1) := rfl
      rw [e] at e2
      cases q : emptyB K (emptyAt x K) with
      | true => rfl
      | false =>
        rw [q] at e2
        exact absurd e2 (Nat.ne_of_lt (Nat.lt_succ_self _))
    exact ⟨fun _ _ H => ⟨_, [], rfl, ⟨_, [], rfl, empty_ok hb H, Nat.zero_le _, rfl⟩, rfl⟩, Nat.le_refl 1, rfl⟩
  · exact ⟨fun _ _ _ => ⟨_, [], rfl, rfl, rfl⟩, Nat.le_refl 1, rfl⟩
  · cases h
theorem dfl_binds {K : PySem.W.Frag} {x : Str} {params : Arguments} {body : List Stmt} {scope : Scope} {dvs : List V} {f : Addr} {fd : FuncData} {ps : List Str} {n : Nat} (F : FunD K x x params body scope dvs [] f fd) (hs : simpleA params ps = true) (nd : ps.Nodup) (h0 : ps ≠ []) (hl : dvs.length ≤ 1) (h1 : n ≤ ps.length) (h2 : ps.length ≤ n + dvs.length) :
    ∃ dus, Vals (dvs.drop (dvs.length - (ps.length - n))) dus ∧ Binds K fd ps dus := by
  rcases dvs with _ | ⟨v, _ | ⟨w, r⟩⟩
  · refine ⟨[], ?_, ?_⟩
    · rw [List.drop_nil]
      exact .nil
    · exact F.bindsN fun kV doc pm an cdv ct us hl => bind_simple hs nd hl
  · have h2 : ps.length ≤ n + 1 := h2
    by_cases e : n = ps.length
    · have ej : ([v] : List V).length - (ps.length - n) = 1 := by rw [e, Nat.sub_self]; rfl
      rw [ej]
      refine F.binds1 n 1 (by simp) (by simp [e]) ?_
      intro T kV doc pm an cdv ct us its hu hi
      obtain ⟨dv, rfl⟩ := List.length_eq_one_iff.mp (show its.length = 1 from hi)
      obtain ⟨k, k1, k2⟩ := bind_all1 (x := x) (qual := x) (body := body) (scope := scope) (kV := kV) (doc := doc) (pm := pm) (an := an) (cdv := cdv) (ct := ct) (T := T) (dv := dv) hs nd (hu.trans e) h0
      refine ⟨k, k1, ?_⟩
      rw [k2]
      simp
    · have ej : ([v] : List V).length - (ps.length - n) = 0 := by
        show 1 - _ = 0
        omega
      rw [ej]
      refine F.binds1 n 0 (by simp) (by show n + (1 - 0) = _; omega) ?_
      intro T kV doc pm an cdv ct us its hu hi
      obtain ⟨dv, rfl⟩ := List.length_eq_one_iff.mp (show its.length = 1 from hi)
      obtain ⟨k, k1, k2⟩ := bind_one (x := x) (qual := x) (body := body) (scope := scope) (kV := kV) (doc := doc) (pm := pm) (an := an) (cdv := cdv) (ct := ct) (T := T) (dv := dv) hs nd (show us.length + 1 = ps.length by omega)
      refine ⟨k, k1, ?_⟩
      rw [k2]
      rfl
  · exact absurd hl (by simp)
/-- the datum of a def, by the checker -/
def defB (P : Pm) (fn : Fn) (params : Arguments) (body : List Stmt) (scope : Scope) : Bool :=
  simpleA params (fn.N.take fn.np) && decide (fn.np ≤ fn.N.length) && (dfB fn.ds params.defaults && (fn.ds.isEmpty || decide (0 < fn.np))) && C8.scC fn.N (fn.N.take fn.np) scope && chkB { P with N := fn.N } scope fn.body (dropDoc body)
theorem defB_ok {P : Pm} {K : PySem.W.Frag} {mg : Str → Option Value} {fn : Fn} {fd : FuncData} {params : Arguments} {body : List Stmt} {scope : Scope} (F : FunD K fn.name fn.name params body scope ((dflOf fn.name params.defaults).map (He.Dv.v K)) [] (He.ga K fn.name) fd) (hm : mg fn.name = some (.ref (He.ga K fn.name))) (h : defB P fn params body scope = true) : DefOk P K mg fn := by
  unfold defB at h
  simp only [Bool.and_eq_true, Bool.or_eq_true, decide_eq_true_eq] at h
  obtain ⟨⟨⟨⟨h1, h2⟩, h3, h6⟩, h4⟩, h5⟩ := h
  have S := C8.fnScope_by h4
  obtain ⟨d1, d2, d3⟩ := dfl_ok F h3
  have nd : (fn.N.take fn.np).Nodup := S.nd.sublist (List.take_sublist _ _)
  have hl : (fn.N.take fn.np).length = fn.np := by rw [List.length_take, Nat.min_eq_left h2]
  refine ⟨⟨_, fd, params, body, scope, _, F, hm, S, h5, d1, fun n hn hn2 => ?_⟩, h2⟩
  have key := fun h0 => dfl_binds (n := n) F h1 nd h0 (by omega) (by omega) (by omega)
  rw [hl] at key
  rw [← d3]
  by_cases h0 : fn.N.take fn.np = []
  · have e : fn.np = 0 := by rw [h0] at hl; exact hl.symm
    have e2 : fn.ds = [] := h6.elim List.isEmpty_iff.mp fun z => absurd z (by omega)
    have e3 : ((dflOf fn.name params.defaults).map (He.Dv.v K)) = [] := List.eq_nil_of_length_eq_zero (by rw [d3, e2]; rfl)
    rw [e3] at F ⊢
    exact ⟨[], by rw [List.drop_nil]; exact .nil, F.bindsN fun kV doc pm an cdv ct us hl => bind_simple h1 nd hl⟩
  · exact key h0
end MP

/-! MP26: from the run to the law. -/
namespace MP
open PySem PySem.Spec PyProof.Rows L2
/-- the i-th statement of a program, as a def's datum -/
def stAt (p : Program) (i : Nat) : Stmt := p.main.body.getD i (.Pass ⟨0, 0, 0, 0⟩)
def nmOf : Stmt → Str
  | .FunctionDef (name := n) .. => n
  | _ => ""
def datum (st : Stmt) : He.DefD := ⟨(nmOf st, none), nmOf st, nmOf st, defArgs st, defBody st, defScope st, dflOf (nmOf st) (defArgs st).defaults, []⟩
def facts0 (dl : List He.DefD) : List He.Fa := dl.map (fun d => He.Fa.glo d.name) ++ bltNames.map He.Fa.free
/-- the table and the text agree -/
def allB (P : Pm) (sl : List Stmt) : Bool := (List.range P.fns.length).all fun f => match P.fns[f]?, sl[f]? with
  | some fn, some st => !P.fnb f || (sq (nmOf st) fn.name && defB P fn (defArgs st) (defBody st) (defScope st))
  | _, _ => false
section
variable {P : Pm} {sl : List Stmt} {K : PySem.W.Frag} {h : Heap} {mg : Str → Option Value}
theorem allB_def (hb : allB P sl = true) (X : K.In h) (G : h.Ns mainGlobals mg) (c : He.SaysD (facts0 (sl.map datum)) (sl.map datum) K) {f : Nat} {fn : Fn} (hf : P.fnb f = true) (he : P.fns[f]? = some fn) :
    ∃ (params : Arguments) (body : List Stmt) (scope : Scope) (fd : FuncData), FunD K fn.name fn.name params body scope ((dflOf fn.name params.defaults).map (He.Dv.v K)) [] (He.ga K fn.name) fd ∧ mg fn.name = some (.ref (He.ga K fn.name)) ∧ defB P fn params body scope = true := by
  have hl : f < P.fns.length := (List.getElem?_eq_some_iff.mp he).1
  have q := List.all_eq_true.mp hb f (List.mem_range.mpr hl)
  rw [he] at q
  cases e : sl[f]? with
  | none => rw [e] at q; cases q
  | some st =>
    rw [e] at q
    simp only [hf, Bool.not_true, Bool.false_or, Bool.and_eq_true] at q
    have hn := sq_eq q.1
    have ed : (sl.map datum)[f]? = some (datum st) := by rw [List.getElem?_map, e]; rfl
    obtain ⟨fd, FD⟩ := c.def_ f ed
    have fact := c.fact f (f := .glo (nmOf st)) (by
      unfold facts0
      rw [List.getElem?_append_left (by rw [List.length_map, List.length_map]; exact (List.getElem?_eq_some_iff.mp e).1), List.getElem?_map, ed]
      rfl)
    have gm := He.glo_ok X G fact
    have F2 : FunD K fn.name fn.name (defArgs st) (defBody st) (defScope st) ((dflOf fn.name (defArgs st).defaults).map (He.Dv.v K)) [] (He.ga K fn.name) fd := by rw [← hn]; exact FD
    rw [hn] at gm
    exact ⟨_, _, _, fd, F2, gm, q.2⟩
theorem allB_ok (hb : allB P sl = true) (X : K.In h) (G : h.Ns mainGlobals mg) (c : He.SaysD (facts0 (sl.map datum)) (sl.map datum) K) : (∀ f fn, P.fnb f = true → P.fns[f]? = some fn → DefOk P K mg fn) ∧ ∀ x ∈ bltNames, mg x = none := by
  refine ⟨fun f fn hf he => ?_, fun x hx => ?_⟩
  · obtain ⟨params, body, scope, fd, F, gm, q⟩ := allB_def hb X G c hf he
    exact defB_ok F gm q
  · obtain ⟨i, hi⟩ := List.getElem?_of_mem hx
    have fact := c.fact ((sl.map datum).length + i) (f := .free x) (by
      unfold facts0
      rw [List.getElem?_append_right (by simp only [List.length_map]; omega), List.getElem?_map]
      simp only [List.length_map]
      rw [show sl.length + i - sl.length = i by omega, hi]
      rfl)
    exact He.free_ok X G fact
end
theorem ok_none {K : PySem.W.Frag} {ca : Nat → Option Addr} {H : Hp} : Ok K ca (fun _ => False) [] [] H := ⟨rfl, List.nodup_nil, (fun a h => nomatch h), (fun a h => h.elim), (fun a h => h.elim), fun n m a h => by simp at h⟩
/-- the law's own def, with what a look at its text says -/
def lawB (P : Pm) (fn : Fn) (st : Stmt) : Bool := sq (nmOf st) fn.name && defB { P with rp := true } fn (defArgs st) (defBody st) (defScope st)
section
variable {P : Pm} {prog : Program} {w : World} {K : PySem.W.Frag} {mg : Str → Option Value} {ca : Nat → Option Addr} {cls : Nat → Nat}
/-- the law's body runs in its frame -/
theorem law_body {base : Heap} {n flaw : Nat} {fn : Fn} {st : Stmt} {fd : FuncData} {s : Shared} {H : Hp} {a : Addr} {om : Obj} {d0 : D} {x : Str} {M : Sto}
    (IH : AllAt P prog w K mg base ca cls n) (hm : ∀ x ∈ bltNames, mg x = none) (F : FunD K fn.name fn.name (defArgs st) (defBody st) (defScope st) [] [] (He.ga K fn.name) fd)
    (hl : lawB P fn st = true) (hx : fn.N.take fn.np = [x]) (hnp : fn.np = 1) (he : P.fns[flaw]? = some fn) (room : Room (n + 1) callerA)
    (hsm : base.get? sysModules = some om) (ev0 : Env0 prog w K mg base callerA [] s H) (ok : Ok K ca (fun _ => False) [] [] H) (r0 : Rp K (Fb (fun _ => False) [] []) [] H d0 (.ref a))
    (hb : BindsTo s fd ⟨[.ref a], []⟩ [(x, .ref a)]) (hrun : run P.fns cls (n + 1) flaw [d0] [] = some (.bl true, M)) :
    codeAny (model prog w) callerA (.call (.ref (He.ga K fn.name)) ⟨[.ref a], []⟩)
      (CR CX0 [] prog w H s (fun v _ => v = .bl true) E0) s := by
  unfold lawB at hl
  rw [Bool.and_eq_true] at hl
  have hq := hl.2
  unfold defB at hq
  simp only [Bool.and_eq_true, decide_eq_true_eq] at hq
  obtain ⟨⟨⟨⟨_, hle⟩, _⟩, hsc⟩, hchk⟩ := hq
  have S := C8.fnScope_by hsc
  rw [hx] at S
  obtain ⟨oc, od, dV, kV, doc, pm, an, cdv, ct, osl, rfl, lk, hcd, _, _⟩ := F.ex
  have kin : K.In s.heap := ev0.mod.kin.keeps fun b o e => (ev0.bs b o e).1
  have nolim : s.heap.NoLimit := ev0.mod.nolimit.keeps fun b o e => (ev0.bs b o e).1
  have kinds : ∀ y ∈ ([x] : List Str).zip ([.ref a] : List Value), (defScope st).names.lookup y.1 = some .local ∨
      ((defScope st).names.lookup y.1 = some .cell ∧ ((cellsFrom (s.heap.objs.size + 1) (defScope st).names []).lookup y.1).isSome = true) := by
    rintro ⟨y, v⟩ hy
    rcases S.par y (List.of_mem_zip hy).1 with q | q
    · exact Or.inl q
    · exact Or.inr (And.intro q (PySem.W.cellsFrom_some _ _ _ (Or.inl q)))
  have code := PySem.W.codeRec_of kin hcd
  have hdep := room.depth
  apply codeAny_call_function hdep (kin _ _ lk) rfl S.co S.gen rfl code
  apply hb
  apply wpAny_newFunctionEnv_cells S.kind kinds
  intro env henv s1 inc
  subst henv
  refine And.intro (nolim.keeps inc.toInCall.keep) (codeAny_func ?_)
  have hinv := inv_start (CX := CX0) (E := E0) (vs := [.ref a]) S room.hd ev0 rfl (Paired.cons rfl .nil) inc
  generalize hX : cxOf CX0 prog w K mg base fn.N fn.name (defScope st) (He.ga K fn.name) cdv callerA [] s H E0 = X at hinv
  have ag : AgT { P with N := fn.N, rp := true } ca (run P.fns cls n) n X.nox (defScope st) := by
    subst hX
    refine ⟨⟨rfl, S.nd, rfl, rfl, room.deeper _, hm, fun _ => ⟨rfl, om, hsm⟩, fun g gn m hg hge hm1 hm2 => ⟨?_⟩⟩, fun _ => rfl, rfl, S.kind⟩
    obtain ⟨ga, gd, gdv, g1, g2, g3, g4, g5⟩ := IH g gn hg hge
    obtain ⟨dus, d1, d2⟩ := g5 m hm1 hm2
    have hdl : ∀ F ρ H, RpL K F ρ H (gn.ds.drop (gn.ds.length - (gn.np - m))) (gdv.drop (gn.ds.length - (gn.np - m))) := fun F ρ H => (g4 F ρ H).drop _
    exact ⟨ga, gd, gn.N.take gn.np, _, dus, gn.ds.drop (gn.ds.length - (gn.np - m)), g1, g2, g3, d2, d1, hdl, fun xs M hx => by subst hx; exact run_short hge hm2 hm1, by rw [List.length_drop]; omega⟩
  have body := PSs.nox (dropDoc_ok (chkB_ok (cls := cls) (P := { P with N := fn.N, rp := true }) (k := n) (sc := defScope st) fn.body _ ag hchk))
  rw [run_full he (by rw [hnp]; rfl)] at hrun
  have hK : X.K = K := by rw [← hX]; rfl
  have read : tS X.nox.K ca (exb (run P.fns cls n) cls fn.body) { nx := fun _ _ => False, rt := fun v _ => v = .bl true } (start fn.N [.ref a]) H := by
    show tS X.K ca _ _ _ _
    rw [hK]
    have hE := env_start (K := K) (F := Fb (fun _ => False) [] []) (ρ := []) (H := H) (N := fn.N) (RpL.one r0) (by rw [List.length_singleton, ← hnp]; exact hle)
    unfold body1 at hrun
    split at hrun
    · rename_i d1 env1 M1 e1
      cases hrun
      exact tS.go ⟨ok, hE⟩ e1 fun ρ' σ' H' _ _ v rv => rv
    · cases hrun
    · cases hrun
  have hA : X.A = callerA.deeper (envOfC fn.name (defScope st) s.heap.objs.size (He.ga K fn.name) cdv) := by rw [← hX]; rfl
  have he2 : X.env = envOfC fn.name (defScope st) s.heap.objs.size (He.ga K fn.name) cdv := by rw [← hX]; rfl
  have res := body.run [] s1 _ H _ hinv read
  subst hX
  refine wpAny_mono res ?_ fun e s' bad => bad
  intro fl s' hs
  cases fl with
  | next => exact hs.elim fun _ q => q.elim fun _ q => q.2.elim
  | brk => exact hs.elim fun _ q => q.elim fun _ q => q.2.elim
  | cont => exact hs.elim fun _ q => q.elim fun _ q => q.2.elim
  | ret u =>
    obtain ⟨v, σ', H', J, rv, q⟩ := hs
    exact ⟨v, H', J.os, J.bare, J.base, J.hok, rv, q⟩
end
/-- the script alone is known at the entry (or it is an object of the module) -/
def seed (a : Addr) (oa : Obj) (vs : List V) : Hp := fun b => if b = a then some (.frz oa (.lst vs)) else none
/-- from a head by facts: the run says True at every script. The law's def may show data -/
theorem walk_law {l : PySem.W.OpenLaw} {n k flaw : Nat} {q : Program} {loose : List Str} {XP : (Str → Option Value) → Heap → Prop} {d : DefRec} {P : Pm} {sl : List Stmt} {st : Stmt} {cls : Nat → Nat} {fnl : Fn} {x : Str}
    (hn : l.most = some n) (hn2 : n ≤ sizeLine) (hdf : d.params.defaults = []) (hr : Room (k + 1) callerA) (hrp : P.rp = false) (hb : allB P sl = true) (hst : sl[flaw]? = some st) (hfl : P.fns[flaw]? = some fnl) (hlaw : lawB P fnl st = true)
    (hx : fnl.N.take fnl.np = [x]) (hnp : fnl.np = 1) (hname : d.name = fnl.name) (hde : (defArgs st).defaults = []) (hsi : simpleA (defArgs st) (fnl.N.take fnl.np) = true) (himp : importsNone q = true)
    (run_ok : ∀ ns : List Int, ns.length ≤ n → ∃ M, run P.fns cls (k + 1) flaw [.fz (ns.map D.int)] [] = some (.bl true, M)) :
    PySem.W.WalkO q loose XP (He.hookD 4 (facts0 (sl.map datum)) (sl.map datum)).says l.row.toRowW d [] (fun f vs => PySem.call f vs) := by
  apply Att.attach_call hn hdf
  intro w s0 s1 mg mb fa o pm cd doc a vs ns G Y _ _ _ hmg hobj hints hlen hgen
  obtain ⟨K, KX, c⟩ := Y
  have hnm : nmOf st = fnl.name := by
    unfold lawB at hlaw
    rw [Bool.and_eq_true] at hlaw
    exact sq_eq hlaw.1
  have ed : (sl.map datum)[flaw]? = some (datum st) := by rw [List.getElem?_map, hst]; rfl
  obtain ⟨fd, FD⟩ := c.def_ flaw ed
  have fact := c.fact flaw (f := .glo (nmOf st)) (by
    unfold facts0
    rw [List.getElem?_append_left (by rw [List.length_map, List.length_map]; exact (List.getElem?_eq_some_iff.mp hst).1), List.getElem?_map, ed]
    rfl)
  have gm := He.glo_ok KX G.T.g fact
  rw [hnm] at gm
  have F : FunD K fnl.name fnl.name (defArgs st) (defBody st) (defScope st) [] [] (He.ga K fnl.name) fd := by
    have e : (datum st).dvs K = [] := by
      show ((dflOf (nmOf st) (defArgs st).defaults).map (He.Dv.v K)) = []
      rw [hde]
      rfl
    have F0 : FunD K (nmOf st) (nmOf st) (defArgs st) (defBody st) (defScope st) ((datum st).dvs K) [] (He.ga K (nmOf st)) fd := FD
    rw [e, hnm] at F0
    exact F0
  rw [hname, gm] at hmg
  obtain rfl : He.ga K fnl.name = fa := by
    injection hmg with z
    injection z
  obtain ⟨mm, ⟨om, _, _, hom, dom, _⟩, _⟩ := (G.T.seer himp).mods
  obtain ⟨M, hM⟩ := run_ok ns hlen
  have bind1 : BindsTo s1 fd ⟨[.ref a], []⟩ [(x, .ref a)] := by
    unfold lawB at hlaw
    rw [Bool.and_eq_true] at hlaw
    have hq := hlaw.2
    unfold defB at hq
    simp only [Bool.and_eq_true, decide_eq_true_eq] at hq
    have S := C8.fnScope_by hq.1.2
    have nd : (fnl.N.take fnl.np).Nodup := S.nd.sublist (List.take_sublist _ _)
    have b := F.bindsA (ps := fnl.N.take fnl.np) (fun kV doc pm an cdv ct us hl => bind_simple hsi nd hl) s1 [.ref a] (by rw [hx]; rfl)
    rw [hx] at b
    exact b
  have lenV := hints.length
  have hl16 : ns.length ≤ sizeLine := Nat.le_trans hlen hn2
  -- over an abstract heap that knows the script at most
  have core : ∀ H : Hp, (∀ b u, H b = some u → b = a ∧ ∃ ob xs, u = .frz ob (.lst xs)) → (H a ≠ none → K.lookup a = none) → HOk l.prog w H s1.heap → Rp K (Fb (fun _ => False) [] []) [] H (.fz (ns.map D.int)) (.ref a) →
      codeAny (model l.prog w) callerA (.call (.ref (He.ga K fnl.name)) ⟨[.ref a], []⟩) (fun r s' => r = .ok (.ret (.bool true)) ∧ OldK s1.heap s'.heap ∧ s'.os = s1.os ∧ AllBare s'.gens) s1 := by
    intro H only hK hok r0
    have bare0 : ∀ {b : Addr} {ob : Obj}, s1.heap.get? b = some ob → (∀ us m, ob.data ≠ .seq us m) → H b = none := by
      intro b ob e nd
      rcases hb2 : H b with _ | u
      · rfl
      · obtain ⟨rfl, _⟩ := only b u hb2
        rw [hobj] at e
        cases e
        exact absurd rfl (nd _ _)
    have inB : ∀ {b : Addr} {ob : Obj}, s1.heap.get? b = some ob → H b = none → (hidT s1.heap H).get? b = some ob := fun e z => hidT_get e z
    have nsB : ∀ {b : Addr} {m : Str → Option Value}, s1.heap.Ns b m → (hidT s1.heap H).Ns b m := by
      rintro b m ⟨ob, es, ep, e, dd, rest⟩
      exact ⟨ob, es, ep, inB e (bare0 e fun us m z => by rw [dd] at z; cases z), dd, rest⟩
    have kinB : K.In (hidT s1.heap H) := by
      intro b ob e
      refine inB (KX b ob e) ?_
      rcases hb2 : H b with _ | u
      · rfl
      · obtain ⟨rfl, _⟩ := only b u hb2
        rw [hK (by rw [hb2]; exact fun z => nomatch z)] at e
        cases e
    have modB : Mod K mg (hidT s1.heap H) := by
      obtain ⟨mc, n1, n2⟩ := G.T.nolimit
      exact ⟨kinB, nsB G.T.g, ⟨mb, nsB G.T.b, G.T.builtins⟩, mc, nsB n1, n2⟩
    have smB : (hidT s1.heap H).get? sysModules = some om := inB hom (bare0 hom fun us m z => by rw [dom] at z; cases z)
    have env0 : Env0 l.prog w K mg (hidT s1.heap H) callerA [] s1 H := by
      constructor
      · rfl
      · exact modB
      · intro b ob e
        exact of_hidT e
      · rw [hidT_size]
        exact Nat.le_refl _
      · trivial
      · intro b hb
        exact absurd (show b ∈ ([] : List Addr) from hb) List.not_mem_nil
      · exact hok
      · exact .of_eq hgen
    obtain ⟨hD, hbl⟩ := allB_ok hb kinB (nsB G.T.g) c
    have all := fns_ok (prog := l.prog) (w := w) (base := hidT s1.heap H) (ca := fun _ => none) (cls := cls) hrp hD hbl k
    have res := law_body all hbl F hlaw hx hnp hfl hr smB env0 ok_none r0 bind1 hM
    apply codeAny_mono res
    intro r s' h
    cases r with
    | error e => exact h.elim
    | ok fl =>
      cases fl with
      | ret u =>
        obtain ⟨v, H', hos, hbare, un, hok', rv, hv⟩ := h
        have hv2 : v = .bl true := hv
        subst hv2
        obtain rfl : u = Value.bool true := rv
        refine ⟨rfl, OldK.of_keep ?_, hos, hbare⟩
        intro b ob e
        rcases hb2 : H b with _ | u
        · exact un.keep b ob e hb2 (fun z => absurd (show b ∈ ([] : List Addr) from z) List.not_mem_nil) List.not_mem_nil
        · obtain ⟨_, o2, xs, rfl⟩ := only b u hb2
          have k1 := (hok b _ hb2).1
          have k2 := (hok' b _ (un.frzs b o2 _ hb2)).1
          rw [e] at k1
          cases k1
          exact k2
      | _ => exact False.elim h
  have rvs := vals_ints hints
  rcases hka : K.lookup a with _ | oK
  · -- the script is the caller's
    have same : seed a { cls := .type "list", data := .seq vs.toArray } (ns.map V.int) a = some (.frz { cls := .type "list", data := .seq vs.toArray } (.lst (ns.map V.int))) := if_pos rfl
    refine core (seed a { cls := .type "list", data := .seq vs.toArray } (ns.map V.int)) ?_ (fun _ => hka) ?_ ?_
    · intro b u z
      unfold seed at z
      split at z
      · rename_i e
        cases z
        exact ⟨e, _, _, rfl⟩
      · cases z
    · intro b u z
      unfold seed at z
      split at z
      · rename_i e
        cases z
        subst e
        exact ⟨hobj, by rw [List.length_map]; exact hl16, vs, _, rvs, hobj⟩
      · cases z
    · exact ⟨a, ns.map V.int, rfl, .inl ⟨⟨_, same⟩, fun z => fb_nil z⟩, by rw [List.length_map]; omega, RpL.ofInts ns⟩
  · -- .. or an object of the module
    have e := KX a oK hka
    rw [hobj] at e
    cases e
    refine core (fun _ => none) (fun b u z => nomatch z) (fun z => absurd rfl z) (fun b u z => nomatch z) ?_
    refine ⟨a, ns.map V.int, rfl, .inr (.inr ⟨_, vs.toArray, _, hka, rfl, rfl, rfl, ?_, by simpa using rvs⟩), by rw [List.length_map]; omega, RpL.ofInts ns⟩
    rw [List.size_toArray, lenV]
    exact hl16
end MP

/-! MP27: running by hand. -/
namespace MP
open PySem PySem.Spec PyProof.Rows L2
/-! ### operators on whole numbers -/
@[simp] theorem bop_add_int (i j : Int) : bop .add (.int i) (.int j) = some (.int (i + j)) := rfl
@[simp] theorem bop_sub_int (i j : Int) : bop .sub (.int i) (.int j) = some (.int (i - j)) := rfl
theorem bop_mul_int {i j : Int} (h : j.natAbs < 2 ^ 64) : bop .mul (.int i) (.int j) = some (.int (i * j)) := by
  simp only [bop]
  rw [if_pos (.inr h)]
theorem bop_mod_int {i j : Int} (h : 0 < j) : bop .mod (.int i) (.int j) = some (.int (i % j)) := by
  simp only [bop]
  rw [if_pos h]
theorem bop_fdiv_int {i j : Int} (h : 0 < j) (h2 : j < 1073741824) : bop .fdiv (.int i) (.int j) = some (.int (i / j)) := by
  simp only [bop]
  rw [if_pos ⟨h, by omega⟩]
theorem lessD_int (i j : Int) : lessD (.int i) (.int j) = decide (i < j) := by
  unfold lessD
  rw [pd, pd, W.dataLt_int]
theorem cmpOk_int (i j : Int) : cmpOk (.int i) (.int j) = true := by
  unfold cmpOk
  rw [pd, pd]
  simp [W.alike, isOrd, dp]
theorem flatOk_int (i j : Int) : flatOk (.int i) (.int j) = true := by
  unfold flatOk
  rw [cmpOk_int]; rfl
@[simp] theorem cop_lt_int (i j : Int) : cop .lt (.int i) (.int j) = some (decide (i < j)) := by
  simp only [cop]
  rw [if_pos (cmpOk_int i j), lessD_int]
@[simp] theorem cop_gt_int (i j : Int) : cop .gt (.int i) (.int j) = some (decide (j < i)) := by
  simp only [cop]
  rw [if_pos (flatOk_int i j), lessD_int]
@[simp] theorem cop_le_int (i j : Int) : cop .le (.int i) (.int j) = some (decide (i ≤ j)) := by
  simp only [cop]
  rw [if_pos (flatOk_int i j), lessD_int]
  congr 1
  by_cases h : i ≤ j
  · simp [h, Int.not_lt.mpr h]
  · simp [h, Int.not_le.mp h]
@[simp] theorem cop_ge_int (i j : Int) : cop .ge (.int i) (.int j) = some (decide (j ≤ i)) := by
  simp only [cop]
  rw [if_pos (flatOk_int i j), lessD_int]
  congr 1
  by_cases h : j ≤ i
  · simp [h, Int.not_lt.mpr h]
  · simp [h, Int.not_le.mp h]
@[simp] theorem cop_eq_int (i j : Int) : cop .eq (.int i) (.int j) = some (decide (i = j)) := by
  simp only [cop, eqD]
  rw [if_pos (by simp [dp]), pd, pd, PyData.eqv]
  rfl
@[simp] theorem cop_ne_int (i j : Int) : cop .ne (.int i) (.int j) = some (!decide (i = j)) := by
  simp only [cop, eqD]
  rw [if_pos (by simp [dp]), pd, pd, PyData.eqv]
  rfl
/-! ### lists -/
theorem atI_of {α : Type} {xs : List α} {i : Int} {x : α} (h0 : 0 ≤ i) (h : xs[i.toNat]? = some x) : L2.atI xs i = some x := by
  have := L2.atI_nat h
  rwa [Int.toNat_of_nonneg h0] at this
theorem ixN_of {n : Nat} {i : Int} (h0 : 0 ≤ i) (h : i < n) : ixN n i = some i.toNat := by
  unfold ixN
  rw [if_pos h0, if_pos h]
@[simp] theorem atI_c0 {α : Type} (x : α) (xs : List α) : L2.atI (x :: xs) 0 = some x := atI_of (by decide) rfl
@[simp] theorem atI_c1 {α : Type} (x y : α) (xs : List α) : L2.atI (x :: y :: xs) 1 = some y := atI_of (by decide) rfl
@[simp] theorem atI_c2 {α : Type} (x y z : α) (xs : List α) : L2.atI (x :: y :: z :: xs) 2 = some z := atI_of (by decide) rfl
@[simp] theorem atI_c3 {α : Type} (x y z u : α) (xs : List α) : L2.atI (x :: y :: z :: u :: xs) 3 = some u := atI_of (by decide) rfl
theorem ixN_c0 (n : Nat) : ixN (n + 1) 0 = some 0 := ixN_of (by decide) (by omega)
/-- what a run of statements comes to -/
theorem xnext {F : FT} {cls : Nat → Nat} {s : S} {r : SB} {env env1 : Env} {M M1 : Sto} (h : exec F cls s env M = some (.next, env1, M1)) : exb F cls (.cons s r) env M = exb F cls r env1 M1 := by
  rw [exb, h]
theorem xret {F : FT} {cls : Nat → Nat} {s : S} {r : SB} {env env1 : Env} {M M1 : Sto} {d : D} (h : exec F cls s env M = some (.ret d, env1, M1)) : exb F cls (.cons s r) env M = some (.ret d, env1, M1) := by
  rw [exb, h]
theorem xcont {F : FT} {cls : Nat → Nat} {s : S} {r : SB} {env env1 : Env} {M M1 : Sto} (h : exec F cls s env M = some (.cont, env1, M1)) : exb F cls (.cons s r) env M = some (.cont, env1, M1) := by
  rw [exb, h]
/-! ### one step at a time; what walks or calls stays as it is -/
section
variable {F : FT} {cls : Nat → Nat} {env : Env} {M : Sto}
theorem e_var (i : Nat) : ev F cls (.var i) env M = match env[i]? with
    | some (some d) => some (d, M)
    | _ => none := by rw [ev]; try rfl
theorem e_non : ev F cls .non env M = some (.non, M) := by rw [ev]
theorem e_bl (b : Bool) : ev F cls (.bl b) env M = some (.bl b, M) := by rw [ev]
theorem e_int (k : Int) : ev F cls (.int k) env M = some (.int k, M) := by rw [ev]
theorem e_str (x : PySem.Str) : ev F cls (.str x) env M = some (.str x, M) := by rw [ev]
theorem e_bin (mu : Bool) (o : BO) (a b : E) : ev F cls (.bin mu o a b) env M = (match ev F cls a env M with
    | none => none
    | some (x, M1) => match ev F cls b env M1 with
      | none => none
      | some (y, M2) => match bop o (rd M2 x) (rd M2 y) with
        | none => none
        | some d => mk mu d M2) := by rw [ev]; first | rfl | done
theorem e_neg (a : E) : ev F cls (.neg a) env M = (match ev F cls a env M with
    | some (.int i, M1) => some (.int (-i), M1)
    | _ => none) := by rw [ev]; first | rfl | done
theorem e_not (a : E) : ev F cls (.not a) env M = (match ev F cls a env M with
    | none => none
    | some (x, M1) => match truth M1 x with
      | none => none
      | some b => some (.bl (!b), M1)) := by rw [ev]; first | rfl | done
theorem e_and (a b : E) : ev F cls (.and a b) env M = (match ev F cls a env M with
    | none => none
    | some (x, M1) => match truth M1 x with
      | none => none
      | some true => ev F cls b env M1
      | some false => some (x, M1)) := by rw [ev]; first | rfl | done
theorem e_or (a b : E) : ev F cls (.or a b) env M = (match ev F cls a env M with
    | none => none
    | some (x, M1) => match truth M1 x with
      | none => none
      | some true => some (x, M1)
      | some false => ev F cls b env M1) := by rw [ev]; first | rfl | done
theorem e_cmp (o : CO) (a b : E) : ev F cls (.cmp o a b) env M = (match ev F cls a env M with
    | none => none
    | some (x, M1) => match ev F cls b env M1 with
      | none => none
      | some (y, M2) => match cop o (rd M2 x) (rd M2 y) with
        | none => none
        | some d => some (.bl d, M2)) := by rw [ev]; first | rfl | done
theorem e_chain (o p : CO) (a b c : E) : ev F cls (.chain o p a b c) env M = (match ev F cls a env M with
    | none => none
    | some (x, M1) => match ev F cls b env M1 with
      | none => none
      | some (y, M2) => match cop o (rd M2 x) (rd M2 y) with
        | none => none
        | some false => some (.bl false, M2)
        | some true => match ev F cls c env M2 with
          | none => none
          | some (z, M3) => match cop p (rd M3 y) (rd M3 z) with
            | none => none
            | some d => some (.bl d, M3)) := by rw [ev]; first | rfl | done
theorem e_isN (ng : Bool) (a : E) : ev F cls (.isN ng a) env M = (match ev F cls a env M with
    | none => none
    | some (.non, M1) => some (.bl (!ng), M1)
    | some (_, M1) => some (.bl ng, M1)) := by rw [ev]; first | rfl | done
theorem e_ife (c a b : E) : ev F cls (.ife c a b) env M = (match ev F cls c env M with
    | none => none
    | some (x, M1) => match truth M1 x with
      | none => none
      | some true => ev F cls a env M1
      | some false => ev F cls b env M1) := by rw [ev]; first | rfl | done
theorem e_tup (es : EL) : ev F cls (.tup es) env M = (match evL F cls es env M with
    | none => none
    | some (ds, M1) => if ds.length ≤ LINE then some (.tup ds, M1) else none) := by rw [ev]; first | rfl | done
theorem e_lst (mu : Bool) (es : EL) : ev F cls (.lst mu es) env M = (match evL F cls es env M with
    | none => none
    | some (ds, M1) => if ds.length ≤ LINE then mk mu (.list ds) M1 else none) := by rw [ev]; first | rfl | done
theorem e_dct (mu : Bool) (ks : List PySem.Str) (es : EL) : ev F cls (.dct mu ks es) env M = (match evL F cls es env M with
    | none => none
    | some (ds, M1) => if ks.length = ds.length ∧ ks.Nodup ∧ ks.length ≤ 15 then mk mu (.dict ((ks.map Sum.inr).zip ds)) M1 else none) := by rw [ev]; first | rfl | done
theorem e_idx (a i : E) : ev F cls (.idx a i) env M = (match ev F cls a env M with
    | none => none
    | some (x, M1) => match ev F cls i env M1 with
      | none => none
      | some (y, M2) => match getD_ (rd M2 x) y with
        | none => none
        | some d => some (d, M2)) := by rw [ev]; first | rfl | done
theorem e_slc (mu : Bool) (a lo hi : E) : ev F cls (.slc mu a lo hi) env M = (match ev F cls a env M with
    | none => none
    | some (x, M1) => match optI (isAbs lo) M1 (ev F cls lo env M1) with
      | none => none
      | some (l, M2) => match optI (isAbs hi) M2 (ev F cls hi env M2) with
        | none => none
        | some (h, M3) => match rd M3 x with
          | .list xs => mk mu (.list (cutD xs l h)) M3
          | .fz xs => mk mu (.list (cutD xs l h)) M3
          | .tup xs => some (.tup (cutD xs l h), M3)
          | _ => none) := by rw [ev]; first | rfl | done
theorem e_blt (mu : Bool) (b : Blt) (es : EL) : ev F cls (.blt mu b es) env M = (match evL F cls es env M with
    | none => none
    | some (ds, M1) => match blt1 b M1 (ds.map (rd M1)) with
      | none => none
      | some d => mk mu d M1) := by rw [ev]; first | rfl | done
theorem e_isi (a : E) (tys : List String) (many : Bool) : ev F cls (.isi a tys many) env M = (match ev F cls a env M with
    | none => none
    | some (x, M1) => match tyName M1 x with
      | none => none
      | some t => some (.bl (tys.any (isKind t)), M1)) := by rw [ev]; first | rfl | done
theorem e_fld (a : E) (f : PySem.Str) : ev F cls (.fld a f) env M = (match ev F cls a env M with
    | some (.loc n, M1) => match M1[n]? with
      | some (.ins _ fs) => match fs.lookup f with
        | none => none
        | some d => some (d, M1)
      | _ => none
    | _ => none) := by rw [ev]; first | rfl | done
theorem e_app (a e : E) : ev F cls (.app a e) env M = (match ev F cls a env M with
    | some (.loc n, M1) => match M1[n]? with
      | some (.list _) => match ev F cls e env M1 with
        | none => none
        | some (y, M2) => match M2[n]? with
          | some (.list xs) => if xs.length < LINE then some (.non, M2.set n (.list (xs ++ [y]))) else none
          | _ => none
      | _ => none
    | _ => none) := by rw [ev]; first | rfl | done
theorem e_ext (a e : E) : ev F cls (.ext a e) env M = (match ev F cls a env M with
    | some (.loc n, M1) => match M1[n]? with
      | some (.list _) => match ev F cls e env M1 with
        | some (y, M2) => match M2[n]?, rd M2 y with
          | some (.list xs), .list ys => if xs.length + ys.length ≤ LINE then some (.non, M2.set n (.list (xs ++ ys))) else none
          | _, _ => none
        | none => none
      | _ => none
    | _ => none) := by rw [ev]; first | rfl | done
theorem e_idxof (a e : E) : ev F cls (.idxof a e) env M = (match ev F cls a env M with
    | none => none
    | some (x, M1) => match ev F cls e env M1 with
      | none => none
      | some (y, M2) => match rd M1 x, rd M2 x with
        | .list _, .list xs => if dp y ≤ 60 ∧ dpL xs ≤ 60 then (match xs.findIdx? fun z => PyData.eqv (pd z) (pd y) with
          | none => none
          | some j => some (.int j, M2)) else none
        | _, _ => none) := by rw [ev]; first | rfl | done
theorem e_dget (a k d : E) : ev F cls (.dget a k d) env M = (match ev F cls a env M with
    | none => none
    | some (x, M1) => match ev F cls k env M1 with
      | none => none
      | some (y, M2) => match ev F cls d env M2 with
        | none => none
        | some (z, M3) => match rd M3 x, keyOf y with
          | .dict kvs, some q => some ((kvAt q kvs).getD z, M3)
          | _, _ => none) := by rw [ev]; first | rfl | done
theorem e_nil : evL F cls .nil env M = some ([], M) := by rw [evL]
theorem e_cons (e : E) (es : EL) : evL F cls (.cons e es) env M = (match ev F cls e env M with
    | none => none
    | some (d, M1) => match evL F cls es env M1 with
      | none => none
      | some (ds, M2) => some (d :: ds, M2)) := by rw [evL]; try rfl
theorem x_setv (i : Nat) (e : E) : exec F cls (.setv i e) env M = (match ev F cls e env M with
    | none => none
    | some (d, M1) => some (.next, env.set i (some d), M1)) := by rw [exec]; first | rfl | done
theorem x_sett (is : List Nat) (e : E) : exec F cls (.sett is e) env M = (match ev F cls e env M with
    | none => none
    | some (d, M1) => match asg (.tp is) d env with
      | none => none
      | some env1 => some (.next, env1, M1)) := by rw [exec]; first | rfl | done
theorem x_setp (i j : Nat) (a b : E) : exec F cls (.setp i j a b) env M = (match ev F cls a env M with
    | none => none
    | some (x, M1) => match ev F cls b env M1 with
      | none => none
      | some (y, M2) => some (.next, (env.set i (some x)).set j (some y), M2)) := by rw [exec]; first | rfl | done
theorem x_seti (a i e : E) : exec F cls (.seti a i e) env M = (match ev F cls e env M with
    | none => none
    | some (z, M1) => match ev F cls a env M1 with
      | none => none
      | some (x, M2) => match ev F cls i env M2 with
        | none => none
        | some (y, M3) => match setI M3 x y z with
          | none => none
          | some M4 => some (.next, env, M4)) := by rw [exec]; first | rfl | done
theorem x_seti2 (a i b j e g : E) : exec F cls (.seti2 a i b j e g) env M = (match ev F cls e env M with
    | none => none
    | some (z, M1) => match ev F cls g env M1 with
      | none => none
      | some (w, M2) => match ev F cls a env M2 with
        | none => none
        | some (x, M3) => match ev F cls i env M3 with
          | none => none
          | some (y, M4) => match setI M4 x y z with
            | none => none
            | some M5 => match ev F cls b env M5 with
              | none => none
              | some (x2, M6) => match ev F cls j env M6 with
                | none => none
                | some (y2, M7) => match setI M7 x2 y2 w with
                  | none => none
                  | some M8 => some (.next, env, M8)) := by rw [exec]; first | rfl | done
theorem x_augi (a i : E) (o : BO) (e : E) : exec F cls (.augi a i o e) env M = (match ev F cls a env M with
    | none => none
    | some (x, M1) => match ev F cls i env M1 with
      | none => none
      | some (y, M2) => match getL_ (rd M2 x) y with
        | none => none
        | some old => match ev F cls e env M2 with
          | none => none
          | some (v, M3) => match augOp o old v with
            | none => none
            | some z => match setI M3 x y z with
              | none => none
              | some M4 => some (.next, env, M4)) := by rw [exec]; first | rfl | done
theorem x_setf (a : E) (f : PySem.Str) (e : E) : exec F cls (.setf a f e) env M = (match ev F cls e env M with
    | none => none
    | some (z, M1) => match ev F cls a env M1 with
      | some (.loc n, M2) => match M2[n]? with
        | some (.ins c fs) => if fs.length < 900 then some (.next, env, M2.set n (.ins c (putS f z fs))) else none
        | _ => none
      | _ => none) := by rw [exec]; first | rfl | done
theorem x_exp (e : E) : exec F cls (.exp e) env M = (match ev F cls e env M with
    | none => none
    | some (_, M1) => some (.next, env, M1)) := by rw [exec]; first | rfl | done
theorem x_ret (e : E) : exec F cls (.ret e) env M = (match ev F cls e env M with
    | none => none
    | some (d, M1) => some (.ret d, env, M1)) := by rw [exec]; first | rfl | done
theorem x_ife (c : E) (p q : SB) : exec F cls (.ife c p q) env M = (match tst (ev F cls c env M) with
    | none => none
    | some (true, M1) => exb F cls p env M1
    | some (false, M1) => exb F cls q env M1) := by rw [exec]; first | rfl | done
theorem x_frz (i : Nat) : exec F cls (.frz i) env M = (match env[i]? with
    | some (some (.loc n)) => match M[n]? with
      | some (.list xs) => some (.next, env.set i (some (.list xs)), M.set n .dead)
      | some (.dK kvs) => some (.next, env.set i (some (.dict kvs)), M.set n .dead)
      | _ => none
    | _ => none) := by rw [exec]; first | rfl | done
theorem x_retN : exec F cls .retN env M = some (.ret .non, env, M) := by rw [exec]
theorem x_pass : exec F cls .pass env M = some (.next, env, M) := by rw [exec]
theorem x_cont : exec F cls .cont env M = some (.cont, env, M) := by rw [exec]
theorem x_nil : exb F cls .nil env M = some (.next, env, M) := by rw [exb]
theorem x_cons (s : S) (r : SB) : exb F cls (.cons s r) env M = (match exec F cls s env M with
    | none => none
    | some (.next, env1, M1) => exb F cls r env1 M1
    | some (.cont, env1, M1) => some (.cont, env1, M1)
    | some (.ret d, env1, M1) => some (.ret d, env1, M1)) := by rw [exb]; try rfl
end
theorem getD_list (xs : List D) (k : Int) : getD_ (.list xs) (.int k) = L2.atI xs k := rfl
theorem getD_tup (xs : List D) (k : Int) : getD_ (.tup xs) (.int k) = L2.atI xs k := rfl
theorem rd_int (M : Sto) (i : Int) : rd M (.int i) = .int i := rfl
theorem rd_bl (M : Sto) (i : Bool) : rd M (.bl i) = .bl i := rfl
theorem rd_non (M : Sto) : rd M .non = .non := rfl
theorem rd_str (M : Sto) (i : PySem.Str) : rd M (.str i) = .str i := rfl
theorem rd_list (M : Sto) (i : List D) : rd M (.list i) = .list i := rfl
theorem rd_tup (M : Sto) (i : List D) : rd M (.tup i) = .tup i := rfl
theorem rd_fz (M : Sto) (i : List D) : rd M (.fz i) = .fz i := rfl
theorem rd_dict (M : Sto) (i : List (L2.Key × D)) : rd M (.dict i) = .dict i := rfl
theorem rd_loc {M : Sto} {n : Nat} {xs : List D} (h : M[n]? = some (.list xs)) : rd M (.loc n) = .list xs := by
  simp only [rd, h]
theorem bop_add_list {xs ys : List D} (h : xs.length + ys.length ≤ LINE) : bop .add (.list xs) (.list ys) = some (.list (xs ++ ys)) := by
  simp only [bop]
  rw [if_pos h]
theorem bop_add_tup {xs ys : List D} (h : xs.length + ys.length ≤ LINE) : bop .add (.tup xs) (.tup ys) = some (.tup (xs ++ ys)) := by
  simp only [bop]
  rw [if_pos h]
theorem len_list (xs : List D) (M : Sto) : blt1 .len M [.list xs] = some (.int xs.length) := rfl
theorem len_tup (xs : List D) (M : Sto) : blt1 .len M [.tup xs] = some (.int xs.length) := rfl
theorem abs_int (i : Int) (M : Sto) : blt1 .abs M [.int i] = some (.int (if i < 0 then -i else i)) := rfl
theorem min2_int (i j : Int) (M : Sto) : blt1 .min2 M [.int i, .int j] = some (.int (if j < i then j else i)) := rfl
theorem max2_int (i j : Int) (M : Sto) : blt1 .max2 M [.int i, .int j] = some (.int (if j > i then j else i)) := rfl
theorem int_int (i : Int) (M : Sto) : blt1 .int M [.int i] = some (.int i) := rfl
theorem list_list (i : List D) (M : Sto) : blt1 .list M [.list i] = some (.list i) := rfl
theorem list_tup (i : List D) (M : Sto) : blt1 .list M [.tup i] = some (.list i) := rfl
theorem mk_f (d : D) (M : Sto) : mk false d M = some (d, M) := rfl
theorem mk_t (d : List D) (M : Sto) : mk true (.list d) M = some (.loc M.length, M ++ [.list d]) := rfl
theorem truth_bl' (M : Sto) (b : Bool) : truth M (.bl b) = some b := rfl
theorem truth_int' (M : Sto) (b : Int) : truth M (.int b) = some (b != 0) := rfl
theorem truth_list' (M : Sto) (b : List D) : truth M (.list b) = some (!b.isEmpty) := rfl
theorem line0 : (0 ≤ LINE) = True := by simp [LINE]
theorem line1 : (1 ≤ LINE) = True := by simp [LINE]
theorem line2 : (2 ≤ LINE) = True := by simp [LINE]
theorem line3 : (3 ≤ LINE) = True := by simp [LINE]
theorem line4 : (4 ≤ LINE) = True := by simp [LINE]
theorem line5 : (5 ≤ LINE) = True := by simp [LINE]
theorem line6 : (6 ≤ LINE) = True := by simp [LINE]
theorem line7 : (7 ≤ LINE) = True := by simp [LINE]
theorem line8 : (8 ≤ LINE) = True := by simp [LINE]
theorem src_list (xs : List D) (M : Sto) (y : D) : srcOf .seq M (.list xs) y = some (.pure xs) := rfl
theorem src_tup (xs : List D) (M : Sto) (y : D) : srcOf .seq M (.tup xs) y = some (.pure xs) := rfl
theorem src_enum (xs : List D) (M : Sto) (y : D) : srcOf .enum M (.list xs) y = some (.pure (xs.mapIdx fun i x => D.tup [.int i, x])) := rfl
theorem src_loc {n : Nat} {xs : List D} {M : Sto} (h : M[n]? = some (.list xs)) (y : D) : srcOf .seq M (.loc n) y = some (.loc n xs.length) := by
  simp only [srcOf, h]
theorem src_rng1 {n : Nat} (h : n < 2 ^ 62) (M : Sto) (y : D) : srcOf .rng1 M (.int (n : Int)) y = some (.pure ((List.range n).map fun (i : Nat) => D.int i)) := by
  simp only [srcOf]
  rw [if_pos (by omega), Int.toNat_natCast]
theorem tst_some (d : D) (M : Sto) : tst (some (d, M)) = match truth M d with
    | none => none
    | some b => some (b, M) := rfl
/-! ### comprehensions, loops -/
theorem compR_map {f : D → Sto → Option (Option D × Sto)} {g : D → D} {M : Sto} : ∀ {xs : List D}, (∀ x ∈ xs, f x M = some (some (g x), M)) → compR f xs M = some (xs.map g, M)
  | [], _ => rfl
  | x :: xs, h => by
    rw [compR, h x List.mem_cons_self]
    simp only
    rw [compR_map fun y hy => h y (List.mem_cons_of_mem _ hy)]
    rfl
theorem compR_fm {f : D → Sto → Option (Option D × Sto)} {g : D → Option D} {M : Sto} : ∀ {xs : List D}, (∀ x ∈ xs, f x M = some (g x, M)) → compR f xs M = some (xs.filterMap g, M)
  | [], _ => rfl
  | x :: xs, h => by
    rw [compR, h x List.mem_cons_self]
    simp only
    rw [compR_fm fun y hy => h y (List.mem_cons_of_mem _ hy), List.filterMap_cons]
    cases g x <;> rfl
end MP

/-! MP28: tuples of whole numbers; sorting; finding. -/
namespace MP
open PySem PySem.Spec PyProof.Rows L2
theorem pdL_ints (k : List Int) : pdL (k.map D.int) = k.map PyData.int := by
  rw [pdL_map, List.map_map]
  exact List.map_congr_left fun x _ => by rw [Function.comp, pd]
theorem pd_k (k : List Int) : pd (kD k) = .tuple (k.map PyData.int) := by
  unfold kD
  rw [pd, pdL_ints]
theorem dpL_le {n : Nat} : ∀ {ds : List D}, (∀ d ∈ ds, dp d ≤ n) → dpL ds ≤ n
  | [], _ => by rw [dpL]; omega
  | d :: ds, h => by
    have h1 := h d List.mem_cons_self
    have h2 := dpL_le fun x hx => h x (List.mem_cons_of_mem d hx)
    rw [dpL]
    omega
theorem dp_int (i : Int) : dp (.int i) = 0 := by rw [dp]
theorem dp_k (k : List Int) : dp (kD k) ≤ 1 := by
  unfold kD
  rw [dp]
  have := dpL_le (n := 0) (ds := k.map D.int) fun d hd => by
    obtain ⟨x, _, rfl⟩ := List.mem_map.mp hd
    rw [dp]
    omega
  omega
theorem eqvAll_ints : ∀ a b : List Int, PyData.eqvAll (a.map .int) (b.map .int) = decide (a = b)
  | [], [] => by simp [PyData.eqvAll]
  | [], _ :: _ => by simp [PyData.eqvAll]
  | _ :: _, [] => by simp [PyData.eqvAll]
  | x :: a, y :: b => by
    rw [List.map_cons, List.map_cons, PyData.eqvAll, eqvAll_ints a b, PyData.eqv]
    simp [Bool.decide_and]
    rfl
theorem eqv_k (a b : List Int) : PyData.eqv (pd (kD a)) (pd (kD b)) = decide (a = b) := by
  rw [pd_k, pd_k, PyData.eqv, eqvAll_ints]
theorem alikeAll_ints : ∀ a b : List Int, W.alikeAll (a.map .int) (b.map .int) = true
  | [], _ => by simp [W.alikeAll]
  | _ :: _, [] => by simp [W.alikeAll]
  | x :: a, y :: b => by
    rw [List.map_cons, List.map_cons, W.alikeAll, alikeAll_ints a b]
    simp [W.alike]
theorem alike_k (a b : List Int) : W.alike (pd (kD a)) (pd (kD b)) = true := by
  rw [pd_k, pd_k, W.alike, alikeAll_ints]
theorem lexLe_lt : ∀ a b : List Int, (!decide (b < a)) = lexLe a b
  | [], b => by simp [lexLe]
  | x :: a, [] => by
    have : ([] : List Int) < x :: a := List.nil_lt_cons x a
    simp [lexLe, this]
  | x :: a, y :: b => by
    have ih := lexLe_lt a b
    rw [lexLe, ← ih]
    by_cases h : x < y
    · have h2 : ¬ (y :: b < x :: a) := fun z => by
        rcases List.cons_lt_cons_iff.mp z with z | z <;> omega
      simp [h, h2]
    · by_cases h3 : x = y
      · subst h3
        simp [List.cons_lt_cons_iff]
      · have h2 : y :: b < x :: a := List.cons_lt_cons_iff.mpr (.inl (by omega))
        simp [h, h3, h2]
theorem lessD_k (a b : List Int) : lessD (kD a) (kD b) = !lexLe b a := by
  unfold lessD
  rw [pd_k, pd_k, W.dataLt_tuple]
  have e := W.dataLt_ints a b
  unfold W.rowLt at e
  rw [e, ← lexLe_lt, Bool.not_not]
theorem flat_k (k : List Int) : flat1 (kD k) = true := by
  unfold kD flat1
  refine List.all_eq_true.mpr fun d hd => ?_
  obtain ⟨x, _, rfl⟩ := List.mem_map.mp hd
  rfl
theorem cmpOk_k (a b : List Int) : cmpOk (kD a) (kD b) = true := by
  unfold cmpOk
  have h1 := dp_k a
  have h2 := dp_k b
  rw [alike_k, Bool.true_and, show isOrd (kD a) = true from rfl, Bool.true_and, decide_eq_true_eq]
  omega
theorem flatOk_k (a b : List Int) : flatOk (kD a) (kD b) = true := by
  unfold flatOk
  rw [cmpOk_k, flat_k, flat_k]; rfl
theorem cop_eq_k (a b : List Int) : cop .eq (kD a) (kD b) = some (decide (a = b)) := by
  simp only [cop, eqD]
  have h1 := dp_k a
  have h2 := dp_k b
  rw [if_pos (by omega), eqv_k]
theorem cop_ne_k (a b : List Int) : cop .ne (kD a) (kD b) = some (!decide (a = b)) := by
  simp only [cop, eqD]
  have h1 := dp_k a
  have h2 := dp_k b
  rw [if_pos (by omega), eqv_k]
  rfl
theorem cop_ge_k (a b : List Int) : cop .ge (kD a) (kD b) = some (lexLe b a) := by
  simp only [cop]
  rw [if_pos (flatOk_k a b), lessD_k, Bool.not_not]
theorem cop_le_k (a b : List Int) : cop .le (kD a) (kD b) = some (lexLe a b) := by
  simp only [cop]
  rw [if_pos (flatOk_k a b), lessD_k, Bool.not_not]
theorem cop_lt_k (a b : List Int) : cop .lt (kD a) (kD b) = some (!lexLe b a) := by
  simp only [cop]
  rw [if_pos (cmpOk_k a b), lessD_k]
/-! ### what is the same -/
theorem eqD_same {d : D} (h : dp d ≤ 60) (ha : W.alike (pd d) (pd d) = true) : eqD d d = some true := by
  unfold eqD
  rw [if_pos ⟨h, h⟩, W.eqv_refl_alike _ ha]
theorem alike_list {xs : List D} (h : ∀ x ∈ xs, W.alike (pd x) (pd x) = true) : W.alikeAll (pdL xs) (pdL xs) = true := by
  induction xs with
  | nil => rw [pdL, W.alikeAll]
  | cons x xs ih =>
    rw [pdL, W.alikeAll, h x List.mem_cons_self, ih fun y hy => h y (List.mem_cons_of_mem _ hy)]
    rfl
/-! ### sorted -/
theorem sortOk_k {ks : List (List Int)} (h : ∀ k ∈ ks, k ≠ []) : sortOk (ks.map kD) = true := by
  unfold sortOk
  have h1 := dpL_le (n := 1) (ds := ks.map kD) fun d hd => by
    obtain ⟨k, _, rfl⟩ := List.mem_map.mp hd
    exact dp_k k
  rw [Bool.and_eq_true, Bool.and_eq_true, Bool.or_eq_true, decide_eq_true_eq]
  refine ⟨⟨List.all_eq_true.mpr fun a ha => List.all_eq_true.mpr fun b hb => ?_, .inl (List.all_eq_true.mpr fun a ha => ?_)⟩, by omega⟩
  · obtain ⟨k, _, rfl⟩ := List.mem_map.mp ha
    obtain ⟨k', _, rfl⟩ := List.mem_map.mp hb
    exact alike_k k k'
  · obtain ⟨k, hk, rfl⟩ := List.mem_map.mp ha
    cases k with
    | nil => exact absurd rfl (h [] hk)
    | cons x k => rfl
theorem sortD_k (ks : List (List Int)) : sortD (ks.map kD) = (sortK ks).map kD := by
  unfold sortD sortK
  refine (List.map_mergeSort fun a _ b _ => ?_).symm
  have e := lessD_k b a
  unfold lessD at e
  rw [e, Bool.not_not]
theorem sorted_k {ks : List (List Int)} {M : Sto} (h : ∀ k ∈ ks, k ≠ []) : blt1 .sorted M [.list (ks.map kD)] = some (.list ((sortK ks).map kD)) := by
  simp only [blt1]
  rw [if_pos (sortOk_k h), sortD_k]
theorem sortOk_int (ns : List Int) : sortOk (ns.map D.int) = true := by
  unfold sortOk
  have h1 := dpL_le (n := 0) (ds := ns.map D.int) fun d hd => by
    obtain ⟨k, _, rfl⟩ := List.mem_map.mp hd
    rw [dp]
    omega
  rw [Bool.and_eq_true, Bool.and_eq_true, Bool.or_eq_true, decide_eq_true_eq]
  refine ⟨⟨List.all_eq_true.mpr fun a ha => List.all_eq_true.mpr fun b hb => ?_, .inr (List.all_eq_true.mpr fun a ha => ?_)⟩, by omega⟩
  · obtain ⟨k, _, rfl⟩ := List.mem_map.mp ha
    obtain ⟨k', _, rfl⟩ := List.mem_map.mp hb
    rw [pd, pd, W.alike]
  · obtain ⟨k, hk, rfl⟩ := List.mem_map.mp ha
    rfl
theorem sortD_int (ns : List Int) : sortD (ns.map D.int) = (sortI ns).map D.int := by
  unfold sortD sortI
  refine (List.map_mergeSort fun a _ b _ => ?_).symm
  have e := lessD_int b a
  unfold lessD at e
  rw [e]
  by_cases h : a ≤ b
  · simp [h, Int.not_lt.mpr h]
  · simp [h, Int.not_le.mp h]
theorem mem_sortK {x : List Int} {l : List (List Int)} : x ∈ sortK l ↔ x ∈ l := (sortK_perm l).mem_iff
theorem mem_sortI {x : Int} {l : List Int} : x ∈ sortI l ↔ x ∈ l := (sortI_perm l).mem_iff
theorem length_sortK (l : List (List Int)) : (sortK l).length = l.length := List.length_mergeSort l
/-! ### the least that is so -/
theorem find_sorted {α : Type} {le : α → α → Prop} (as : ∀ a b, le a b → le b a → a = b) {q : α → Bool} : ∀ {l1 l2 : List α}, l1.Pairwise le → l2.Pairwise le → (∀ x, x ∈ l1 ↔ x ∈ l2) → l1.find? q = l2.find? q := by
  have least : ∀ {l : List α} {x : α}, l.Pairwise le → l.find? q = some x → x ∈ l ∧ q x = true ∧ ∀ y ∈ l, q y = true → y = x ∨ le x y := by
    intro l
    induction l with
    | nil => intro x _ h; cases h
    | cons a l ih =>
      intro x hp h
      rw [List.pairwise_cons] at hp
      rw [List.find?_cons] at h
      cases e : q a with
      | true =>
        rw [e] at h
        cases h
        exact ⟨List.mem_cons_self, e, fun y hy _ => (List.mem_cons.mp hy).imp id (hp.1 y)⟩
      | false =>
        rw [e] at h
        obtain ⟨h1, h2, h3⟩ := ih hp.2 h
        refine ⟨List.mem_cons_of_mem _ h1, h2, fun y hy hq => ?_⟩
        rcases List.mem_cons.mp hy with z | z
        · subst z; rw [e] at hq; cases hq
        · exact h3 y z hq
  intro l1 l2 p1 p2 hm
  cases e1 : l1.find? q with
  | none =>
    cases e2 : l2.find? q with
    | none => rfl
    | some y =>
      obtain ⟨h1, h2, _⟩ := least p2 e2
      have := List.find?_eq_none.mp e1 y ((hm y).mpr h1)
      exact absurd h2 this
  | some x =>
    obtain ⟨h1, h2, h3⟩ := least p1 e1
    cases e2 : l2.find? q with
    | none =>
      have := List.find?_eq_none.mp e2 x ((hm x).mp h1)
      exact absurd h2 this
    | some y =>
      obtain ⟨k1, k2, k3⟩ := least p2 e2
      rcases h3 y ((hm y).mpr k1) k2 with z | z
      · rw [z]
      · rcases k3 x ((hm x).mp h1) h2 with w | w
        · rw [w]
        · rw [as x y z w]
/-! ### comprehensions over what is read -/
theorem compR_mapT {α : Type} {f : D → Sto → Option (Option D × Sto)} {e g : α → D} {M : Sto} : ∀ {l : List α}, (∀ a ∈ l, f (e a) M = some (some (g a), M)) → compR f (l.map e) M = some (l.map g, M)
  | [], _ => rfl
  | x :: xs, h => by
    rw [List.map_cons, compR, h x List.mem_cons_self]
    simp only
    rw [compR_mapT fun y hy => h y (List.mem_cons_of_mem _ hy)]
    rfl
theorem compR_fmT {α : Type} {f : D → Sto → Option (Option D × Sto)} {e : α → D} {g : α → Option D} {M : Sto} : ∀ {l : List α}, (∀ a ∈ l, f (e a) M = some (g a, M)) → compR f (l.map e) M = some (l.filterMap g, M)
  | [], _ => rfl
  | x :: xs, h => by
    rw [List.map_cons, compR, h x List.mem_cons_self]
    simp only
    rw [compR_fmT fun y hy => h y (List.mem_cons_of_mem _ hy), List.filterMap_cons]
    cases g x <;> rfl
/-- a filter -/
theorem compR_flT {α : Type} {f : D → Sto → Option (Option D × Sto)} {e g : α → D} {q : α → Bool} {M : Sto} {l : List α} (h : ∀ a ∈ l, f (e a) M = some (if q a = true then some (g a) else none, M)) : compR f (l.map e) M = some ((l.filter q).map g, M) := by
  rw [compR_fmT (g := fun a => if q a = true then some (g a) else none) h]
  congr 2
  induction l with
  | nil => rfl
  | cons x l ih =>
    rw [List.filterMap_cons, List.filter_cons]
    cases hq : q x with
    | true => simp only [if_true, List.map_cons]; rw [ih fun y hy => h y (List.mem_cons_of_mem _ hy)]
    | false => simp only [Bool.false_eq_true, if_false]; exact ih fun y hy => h y (List.mem_cons_of_mem _ hy)
@[simp] theorem cutD_2 (x y : D) (r : List D) : cutD (x :: y :: r) none (some 2) = [x, y] := by
  unfold cutD
  simp [HT.sIx]
@[simp] theorem cutD_3 (x y z : D) (r : List D) : cutD (x :: y :: z :: r) none (some 3) = [x, y, z] := by
  unfold cutD
  simp [HT.sIx]
theorem cutD_to (xs : List D) {j : Int} (h : 0 ≤ j) : cutD xs none (some j) = xs.take j.toNat := by
  unfold cutD HT.sIx
  simp only [if_neg (Int.not_lt.mpr h), List.drop_zero, Nat.sub_zero]
  rcases Nat.le_total j.toNat xs.length with z | z
  · rw [Nat.min_eq_left z]
  · rw [Nat.min_eq_right z, List.take_length, List.take_of_length_le z]
theorem cutD_from (xs : List D) {j : Int} (h : 0 ≤ j) : cutD xs (some j) none = xs.drop j.toNat := by
  unfold cutD HT.sIx
  simp only [if_neg (Int.not_lt.mpr h)]
  rcases Nat.le_total j.toNat xs.length with z | z
  · rw [Nat.min_eq_left z, List.take_of_length_le (by rw [List.length_drop]; omega)]
  · rw [Nat.min_eq_right z, List.drop_length, List.drop_of_length_le z, List.take_nil]
theorem intsOf_map : ∀ ns : List Int, intsOf (ns.map D.int) = some ns
  | [] => rfl
  | n :: ns => by rw [List.map_cons, intsOf, intsOf_map ns]; rfl
theorem sum_map (ns : List Int) (M : Sto) : blt1 .sum M [.list (ns.map D.int)] = some (.int ns.sum) := by
  simp only [blt1]
  rw [intsOf_map]; rfl
theorem sum_mapT (ns : List Int) (M : Sto) : blt1 .sum M [.tup (ns.map D.int)] = some (.int ns.sum) := by
  simp only [blt1]
  rw [intsOf_map]; rfl
theorem keysOf_map : ∀ ks : List (List Int), keysOf (ks.map kD) = some ks
  | [] => rfl
  | k :: ks => by
    rw [List.map_cons]
    unfold kD
    rw [keysOf, intsOf_map]
    simp only
    rw [show (fun k : List Int => D.tup (k.map D.int)) = kD from rfl, keysOf_map ks]
    rfl
theorem srtset_k {ks : List (List Int)} {M : Sto} (hne : ks ≠ []) (hf : (dd ks).length < 60) (ho : keysOk ks = true) : blt1 .srtset M [.list (ks.map kD)] = some (.list ((sortK (dd ks)).map kD)) := by
  simp only [blt1]
  have e : intsOf (ks.map kD) = none := by
    cases ks with
    | nil => exact absurd rfl hne
    | cons k ks => rfl
  rw [e, keysOf_map]
  simp only
  rw [if_pos ⟨hf, ho⟩]
theorem srtset_nil (M : Sto) : blt1 .srtset M [.list []] = some (.list []) := by
  show (if (dd ([] : List Int)).length < 60 ∧ ([] : List D).length ≤ 4000 then some (D.list ((sortI (dd [])).map D.int)) else none) = _
  rw [if_pos ⟨by decide, by decide⟩]
  simp [sortI, dd]
theorem srtset_int {ns : List Int} {M : Sto} (hf : (dd ns).length < 60) (hm : ns.length ≤ 4000) : blt1 .srtset M [.list (ns.map D.int)] = some (.list ((sortI (dd ns)).map D.int)) := by
  simp only [blt1]
  rw [intsOf_map]
  simp only
  rw [if_pos ⟨hf, by rw [List.length_map]; exact hm⟩]
/-- a walk that ends at the first that is so; the slots it uses may change, all else stays: P says what stays -/
theorem forP_find {α : Type} {f : D → Env → Sto → SR} {e : α → D} {q : α → Bool} {res : α → D} {M : Sto} {P : Env → Prop} : ∀ {l : List α}, (∀ p ∈ l, ∀ env, P env → ∃ env', f (e p) env M = some (if q p = true then .ret (res p) else .next, env', M) ∧ P env') →
    ∀ env, P env → ∃ env', forP f (l.map e) env M = some (match l.find? q with
      | some p => .ret (res p)
      | none => .next, env', M) ∧ P env'
  | [], _, env, h1 => ⟨env, rfl, h1⟩
  | p :: ps, h, env, h1 => by
    obtain ⟨env2, e2, k1⟩ := h p List.mem_cons_self env h1
    rw [List.find?_cons, List.map_cons, forP, e2]
    cases hq : q p with
    | true => exact ⟨env2, by simp, k1⟩
    | false =>
      simp only [Bool.false_eq_true, if_false]
      exact forP_find (fun p hp => h p (List.mem_cons_of_mem _ hp)) env2 k1
theorem x_for {F : FT} {cls : Nat → Nat} (t : T) (k : IK) (A B : E) (body : SB) (env : Env) (M : Sto) : exec F cls (.for_ t k A B body) env M = (match ev F cls A env M with
    | none => none
    | some (x, M0) => match optD (isAbs B) M0 (ev F cls B env M0) with
      | none => none
      | some (y, M1) => match srcOf k M1 x y with
        | some (.pure xs) => forP (turnB F cls t body) xs env M1
        | some (.loc n k) => forL (turnB F cls t body) n k 0 env M1
        | none => none) := by
  rw [exec]
  rfl
theorem e_comp {F : FT} {cls : Nat → Nat} (mu : Bool) (own : List Nat) (t : T) (A C E0 : E) (env : Env) (M : Sto) : ev F cls (.comp mu own t .seq A .absent C E0) env M = (match ev F cls A env M with
    | none => none
    | some (x, M1) => match srcOf .seq M1 x .non with
      | some (.pure xs) => if xs.length ≤ LINE then (match compR (turnF F cls own t C E0 env) xs M1 with
        | none => none
        | some (ys, M2) => mk mu (.list ys) M2) else none
      | _ => none) := by
  rw [ev]
  rfl
theorem forP_fold {α β : Type} {f : D → Env → Sto → SR} {e : α → D} {J : Nat → β → Env → Sto → Prop} {step : β → α → β} {l : List α} (h : ∀ i a, l[i]? = some a → ∀ b env M, J i b env M → ∃ o env' M', f (e a) env M = some (o, env', M') ∧ (o = .next ∨ o = .cont) ∧ J (i + 1) (step b a) env' M')
    (b : β) (env : Env) (M : Sto) (j0 : J 0 b env M) : ∃ env' M', forP f (l.map e) env M = some (.next, env', M') ∧ J l.length (l.foldl step b) env' M' := by
  have go : ∀ (k i : Nat) (b : β) (env : Env) (M : Sto), i + k = l.length → J i b env M → ∃ env' M', forP f ((l.drop i).map e) env M = some (.next, env', M') ∧ J l.length ((l.drop i).foldl step b) env' M' := by
    intro k
    induction k with
    | zero =>
      intro i b env M hi j
      have e1 : l.drop i = [] := List.drop_eq_nil_of_le (by omega)
      rw [e1]
      have e2 : i = l.length := by omega
      exact ⟨env, M, rfl, e2 ▸ j⟩
    | succ k ih =>
      intro i b env M hi j
      have hlt : i < l.length := by omega
      obtain ⟨o, env1, M1, e1, ho, j1⟩ := h i l[i] (List.getElem?_eq_getElem hlt) b env M j
      obtain ⟨env2, M2, e2, j2⟩ := ih (i + 1) _ _ _ (by omega) j1
      rw [List.drop_eq_getElem_cons hlt]
      refine ⟨env2, M2, ?_, j2⟩
      rw [List.map_cons, forP, e1]
      rcases ho with rfl | rfl <;> exact e2
  have := go l.length 0 b env M (by omega) j0
  rwa [List.drop_zero] at this
theorem e_call {F : FT} {cls : Nat → Nat} (m : CM) (f : Nat) (es : EL) (env : Env) (M : Sto) : ev F cls (.call m f es) env M = (match evL F cls es env M with
    | none => none
    | some (ds, M1) => callM F m f ds M1) := by
  rw [ev]
  try rfl
theorem call_pure {F : FT} {f : Nat} {ds : List D} {M M2 : Sto} {d : D} (hb : belowL 0 ds = true) (h : F f ds [] = some (d, M2)) (hd : below 0 (rd M2 d) = true) : callM F .pure f ds M = some (rd M2 d, M) := by
  unfold callM
  simp only
  rw [if_pos hb, h]
  simp only
  rw [if_pos hd]
theorem call_bor {F : FT} {f : Nat} {ds : List D} {M M2 : Sto} {d : D} (hb : belowL 0 (ds.map (rd M)) = true) (h : F f (ds.map (rd M)) [] = some (d, M2)) (hd : bare d = true) : callM F .bor f ds M = some (d, M) := by
  unfold callM
  simp only
  rw [if_pos hb, h]
  simp only
  rw [if_pos hd]
theorem call_own {F : FT} {f : Nat} {ds : List D} {M M2 : Sto} {j : Nat} {xs : List D} (hb : belowL 0 ds = true) (h : F f ds [] = some (.loc j, M2)) (hj : M2[j]? = some (.list xs)) (hd : belowL 0 xs = true) : callM F .own f ds M = some (.loc M.length, M ++ [.list xs]) := by
  unfold callM
  simp only
  rw [if_pos hb, h]
  simp only [hj]
  rw [if_pos hd]
theorem belowL_all {n : Nat} : ∀ {ds : List D}, (∀ d ∈ ds, below n d = true) → belowL n ds = true
  | [], _ => rfl
  | d :: ds, h => by rw [belowL, h d List.mem_cons_self, belowL_all fun x hx => h x (List.mem_cons_of_mem _ hx)]; rfl
theorem below_k (n : Nat) (k : List Int) : below n (kD k) = true := by
  unfold kD
  rw [below]
  exact belowL_all fun d hd => by
    obtain ⟨x, _, rfl⟩ := List.mem_map.mp hd
    rfl
theorem turn_nm {F : FT} {cls : Nat → Nat} (i : Nat) (body : SB) (x : D) (env : Env) (M : Sto) : turnB F cls (.nm i) body x env M = exb F cls body (env.set i (some x)) M := rfl
theorem turn_tp {F : FT} {cls : Nat → Nat} (i j : Nat) (body : SB) (x y : D) (env : Env) (M : Sto) : turnB F cls (.tp [i, j]) body (.tup [x, y]) env M = exb F cls body ((env.set i (some x)).set j (some y)) M := rfl
end MP

/-! MP33: the laws' draws: their state, what stays while they draw. -/
namespace MP
def bTake : SB := (.cons (.setv 2 (.idx (.var 0) (.int 1))) (.cons (.setv 3 (.bin false .mod (.idx (.var 0) (.int 0)) (.blt false .len (.cons (.var 2) .nil)))) (.cons (.setv 4 (.idx (.var 2) (.var 3))) (.cons (.ife (.cmp .ge (.var 4) (.int 1000000000000000000)) (.cons (.seti (.var 2) (.var 3) (.bin false .fdiv (.var 4) (.var 1))) (.cons (.ret (.bin false .mod (.var 4) (.var 1))) .nil)) .nil) (.cons (.seti (.var 0) (.int 0) (.bin false .add (.idx (.var 0) (.int 0)) (.int 1))) (.cons (.setv 5 (.bin false .mod (.blt false .int (.cons (.bin false .add (.bin false .mul (.var 4) (.int 48271)) (.bin false .mul (.idx (.var 0) (.int 0)) (.int 69621))) .nil)) (.int 2147483647))) (.cons (.setv 5 (.bin false .mod (.blt false .int (.cons (.bin false .add (.bin false .mul (.var 5) (.int 16807)) (.bin false .mul (.idx (.var 0) (.int 0)) (.int 7919))) .nil)) (.int 1000000007))) (.cons (.ret (.bin false .mod (.bin false .fdiv (.var 5) (.int 7)) (.var 1))) .nil))))))))
def bState : SB := (.cons (.setv 1 (.comp true [2] (.nm 2) .seq (.slc false (.var 0) .absent (.int 63)) .absent .absent (.blt false .abs (.cons (.var 2) .nil)))) (.cons (.ife (.cmp .eq (.blt false .len (.cons (.var 1) .nil)) (.int 0)) (.cons (.setv 1 (.lst true (.cons (.int 0) .nil))) .nil) .nil) (.cons (.ret (.lst true (.cons (.int 0) (.cons (.var 1) .nil)))) .nil)))
def fnTake : Fn := ⟨"_law_take", 2, ["state", "most", "cells", "at", "cell", "mixed"], bTake, []⟩
def fnState : Fn := ⟨"_law_state", 1, ["script", "cells", "cell"], bState, []⟩
section
variable {fns : List Fn} {cls : Nat → Nat}
/-- the law's own state: at s the place and the cells' list, at c the cells -/
def St (M : Sto) (s c : Nat) : Prop := s ≠ c ∧ ∃ (a : Int) (cs : List Int), M[s]? = some (.list [.int a, .loc c]) ∧ M[c]? = some (.list (cs.map D.int)) ∧ cs ≠ []
/-- only the state is another -/
def Sm (M M' : Sto) (s c : Nat) : Prop := M'.length = M.length ∧ ∀ i, i ≠ s → i ≠ c → M'[i]? = M[i]?
theorem take_run {f : Nat} (hf : fns[f]? = some fnTake) {n : Nat} {M : Sto} {s c : Nat} {m : Int} (h : St M s c) (h0 : 0 < m) (h1 : m < 1073741824) :
    ∃ v M', run fns cls (n + 1) f [.loc s, .int m] M = some (.int v, M') ∧ 0 ≤ v ∧ v < m ∧ St M' s c ∧ Sm M M' s c := by
  obtain ⟨hne, a, cs, hs, hc, hcs⟩ := h
  rw [run_full hf rfl]
  show ∃ v M', body1 (run fns cls n) cls ⟨"_law_take", 2, _, bTake, []⟩ _ _ = _ ∧ _
  unfold bTake
  have hl : 0 < (cs.length : Int) := by
    have := List.length_pos_iff.mpr hcs
    omega
  have hm0 := Int.emod_nonneg a (Int.ne_of_gt hl)
  have hm1 := Int.emod_lt_of_pos a hl
  have hi : (a % (cs.length : Int)).toNat < cs.length := by omega
  have hat : L2.atI (cs.map D.int) (a % (cs.length : Int)) = some (.int cs[(a % (cs.length : Int)).toNat]) := atI_of hm0 (by rw [List.getElem?_map, List.getElem?_eq_getElem hi]; rfl)
  generalize hcell : cs[(a % (cs.length : Int)).toNat] = cell at hat
  have hix : L2.ixN cs.length (a % (cs.length : Int)) = some (a % (cs.length : Int)).toNat := ixN_of hm0 hm1
  have hsl : s < M.length := (List.getElem?_eq_some_iff.mp hs).1
  have hcl : c < M.length := (List.getElem?_eq_some_iff.mp hc).1
  by_cases hb : 1000000000000000000 ≤ cell
  · simp only [e_var, e_non, e_bl, e_int, e_str, e_bin, e_neg, e_not, e_and, e_or, e_cmp, e_chain, e_isN, e_ife, e_tup, e_lst, e_dct, e_idx, e_slc, e_blt, e_isi, e_fld, e_app, e_ext, e_idxof, e_dget, e_nil, e_cons, x_setv, x_sett, x_setp, x_seti, x_seti2, x_augi, x_setf, x_exp, x_ret, x_ife, x_frz, x_retN, x_pass, x_cont, x_nil, x_cons, getD_list, getD_tup, rd_int, rd_bl, rd_non, rd_str, rd_list, rd_tup, rd_fz, rd_dict, len_list, len_tup, abs_int, min2_int, max2_int, int_int, list_list, list_tup, mk_f, mk_t, truth_bl', truth_int', truth_list', tst_some, line0, line1, line2, line3, line4, line5, line6, line7, line8, asg, optC, optD, optI, isAbs, src_list, src_tup, src_enum, setI, body1, wipeE, List.map_cons, List.map_nil, List.length_cons, List.length_nil, List.replicate, List.cons_append, List.nil_append, List.getElem?_cons_zero, List.getElem?_cons_succ, List.set_cons_zero, List.set_cons_succ, List.zip_cons_cons, List.zip_nil_right, List.foldl_cons, List.foldl_nil, Nat.reduceAdd, Nat.reduceSub, bop_add_int, bop_sub_int, cop_lt_int, cop_gt_int, cop_le_int, cop_ge_int, cop_eq_int, cop_ne_int, atI_c0, atI_c1, atI_c2, atI_c3, if_true, Bool.false_eq_true, if_false, ↓reduceIte, Bool.not_true, Bool.not_false, rd_loc hs, rd_loc hc, hs, hc, bop_mod_int hl, List.length_map, hat, decide_eq_true hb, bop_fdiv_int h0 h1, hix, bop_mod_int h0]
    refine ⟨_, _, rfl, Int.emod_nonneg _ (Int.ne_of_gt h0), Int.emod_lt_of_pos _ h0, ⟨hne, a, cs.set (a % (cs.length : Int)).toNat (cell / m), ?_, ?_, ?_⟩, by rw [List.length_set], fun i h1 h2 => ?_⟩
    · rw [List.getElem?_set_ne (Ne.symm hne)]; exact hs
    · rw [List.getElem?_set_self hcl, List.map_set]
    · intro z
      have := congrArg List.length z
      rw [List.length_set] at this
      exact hcs (List.length_eq_zero_iff.mp this)
    · rw [List.getElem?_set_ne (Ne.symm h2)]
  · have hs2 : (M.set s (.list [.int (a + 1), .loc c]))[s]? = some (.list [.int (a + 1), .loc c]) := List.getElem?_set_self hsl
    simp only [e_var, e_non, e_bl, e_int, e_str, e_bin, e_neg, e_not, e_and, e_or, e_cmp, e_chain, e_isN, e_ife, e_tup, e_lst, e_dct, e_idx, e_slc, e_blt, e_isi, e_fld, e_app, e_ext, e_idxof, e_dget, e_nil, e_cons, x_setv, x_sett, x_setp, x_seti, x_seti2, x_augi, x_setf, x_exp, x_ret, x_ife, x_frz, x_retN, x_pass, x_cont, x_nil, x_cons, getD_list, getD_tup, rd_int, rd_bl, rd_non, rd_str, rd_list, rd_tup, rd_fz, rd_dict, len_list, len_tup, abs_int, min2_int, max2_int, int_int, list_list, list_tup, mk_f, mk_t, truth_bl', truth_int', truth_list', tst_some, line0, line1, line2, line3, line4, line5, line6, line7, line8, asg, optC, optD, optI, isAbs, src_list, src_tup, src_enum, setI, body1, wipeE, List.map_cons, List.map_nil, List.length_cons, List.length_nil, List.replicate, List.cons_append, List.nil_append, List.getElem?_cons_zero, List.getElem?_cons_succ, List.set_cons_zero, List.set_cons_succ, List.zip_cons_cons, List.zip_nil_right, List.foldl_cons, List.foldl_nil, Nat.reduceAdd, Nat.reduceSub, bop_add_int, bop_sub_int, cop_lt_int, cop_gt_int, cop_le_int, cop_ge_int, cop_eq_int, cop_ne_int, atI_c0, atI_c1, atI_c2, atI_c3, if_true, Bool.false_eq_true, if_false, ↓reduceIte, Bool.not_true, Bool.not_false, rd_loc hs, rd_loc hc, hs, hc, bop_mod_int hl, List.length_map, hat, decide_eq_false hb, ixN_c0, hs2, rd_loc hs2, bop_mul_int (show (48271 : Int).natAbs < 2 ^ 64 by decide), bop_mul_int (show (69621 : Int).natAbs < 2 ^ 64 by decide), bop_mul_int (show (16807 : Int).natAbs < 2 ^ 64 by decide), bop_mul_int (show (7919 : Int).natAbs < 2 ^ 64 by decide),
      bop_mod_int (show (0 : Int) < 2147483647 by decide), bop_mod_int (show (0 : Int) < 1000000007 by decide), bop_fdiv_int (show (0 : Int) < 7 by decide) (by decide), bop_mod_int h0]
    refine ⟨_, _, rfl, Int.emod_nonneg _ (Int.ne_of_gt h0), Int.emod_lt_of_pos _ h0, ⟨hne, a + 1, cs, hs2, ?_, hcs⟩, by rw [List.length_set], fun i h1 h2 => ?_⟩
    · rw [List.getElem?_set_ne hne]; exact hc
    · rw [List.getElem?_set_ne (Ne.symm h1)]
theorem call_tr {F : FT} {f : Nat} {ds : List D} {M M2 : Sto} {d : D} (h : F f ds M = some (d, M2)) (hb : below M.length d = true) (hc : (M2.take M.length).all (belowM M.length) = true) (hl : M.length ≤ M2.length) : callM F .tr f ds M = some (d, M2.take M.length) := by
  unfold callM
  simp only [h]
  rw [if_pos (by rw [hb, hc, decide_eq_true hl]; rfl)]
/-- all places that are named stand in the store -/
def Cl (M : Sto) : Prop := M.all (belowM M.length) = true
theorem below_ints (n : Nat) (cs : List Int) : belowM n (.list (cs.map D.int)) = true := by
  rw [belowM]
  exact belowL_all fun d hd => by
    obtain ⟨x, _, rfl⟩ := List.mem_map.mp hd
    rfl
theorem below_st (n c : Nat) (a : Int) (h : c < n) : belowM n (.list [.int a, .loc c]) = true := by
  simp [belowM, belowL, below, h]
/-- what stands below n is closed there -/
theorem closed {M M2 : Sto} {s c : Nat} (hM : Cl M) (st : St M s c) (st2 : St M2 s c) (old : ∀ i, i < M.length → i ≠ s → i ≠ c → M2[i]? = M[i]?) (hl : M.length ≤ M2.length) : (M2.take M.length).all (belowM M.length) = true := by
  obtain ⟨_, a, cs, h1, h2, _⟩ := st
  obtain ⟨_, a2, cs2, k1, k2, _⟩ := st2
  have hc : c < M.length := (List.getElem?_eq_some_iff.mp h2).1
  refine List.all_eq_true.mpr fun m hm => ?_
  obtain ⟨i, hi⟩ := List.getElem?_of_mem hm
  have hlt : i < M.length := by
    have := (List.getElem?_eq_some_iff.mp hi).1
    rw [List.length_take] at this
    omega
  rw [List.getElem?_take_of_lt hlt] at hi
  by_cases z1 : i = s
  · subst z1
    rw [k1] at hi
    cases hi
    exact below_st _ _ _ hc
  · by_cases z2 : i = c
    · subst z2
      rw [k2] at hi
      cases hi
      exact below_ints _ _
    · rw [old i hlt z1 z2] at hi
      exact List.all_eq_true.mp hM m (List.mem_of_getElem? hi)
theorem take_tr {f : Nat} (hf : fns[f]? = some fnTake) {n : Nat} {M : Sto} {s c : Nat} {m : Int} (h : St M s c) (hC : Cl M) (h0 : 0 < m) (h1 : m < 1073741824) :
    ∃ v M', callM (run fns cls (n + 1)) .tr f [.loc s, .int m] M = some (.int v, M') ∧ 0 ≤ v ∧ v < m ∧ St M' s c ∧ Sm M M' s c ∧ Cl M' := by
  obtain ⟨v, M', e, v0, v1, st, sm⟩ := take_run (cls := cls) hf (n := n) h h0 h1
  have hl := sm.1
  have hc := closed hC h st (fun i _ a b => sm.2 i a b) (by omega)
  have et : M'.take M.length = M' := List.take_of_length_le (by omega)
  refine ⟨v, M', ?_, v0, v1, st, sm, ?_⟩
  · have := call_tr e rfl hc (by omega)
    rwa [et] at this
  · unfold Cl
    rw [et] at hc
    rw [hl]
    exact hc
theorem St.lt {M : Sto} {s c : Nat} (h : St M s c) : s < M.length ∧ c < M.length := by
  obtain ⟨_, a, cs, h1, h2, _⟩ := h
  exact ⟨(List.getElem?_eq_some_iff.mp h1).1, (List.getElem?_eq_some_iff.mp h2).1⟩
mutual
theorem below_mono {n m : Nat} (h : n ≤ m) : ∀ d : D, below n d = true → below m d = true
  | .non, _ => rfl
  | .bl _, _ => rfl
  | .int _, _ => rfl
  | .str _, _ => rfl
  | .list xs, b => by
    rw [below] at b ⊢
    exact belowL_mono h xs b
  | .tup xs, b => by
    rw [below] at b ⊢
    exact belowL_mono h xs b
  | .dict kvs, b => by
    rw [below] at b ⊢
    exact belowK_mono h kvs b
  | .loc k, b => by
    rw [below, decide_eq_true_eq] at b ⊢
    omega
  | .fz xs, b => by
    rw [below] at b ⊢
    exact belowL_mono h xs b
theorem belowL_mono {n m : Nat} (h : n ≤ m) : ∀ ds : List D, belowL n ds = true → belowL m ds = true
  | [], _ => rfl
  | d :: ds, b => by
    rw [belowL, Bool.and_eq_true] at b ⊢
    exact ⟨below_mono h d b.1, belowL_mono h ds b.2⟩
theorem belowK_mono {n m : Nat} (h : n ≤ m) : ∀ ds : List (L2.Key × D), belowK n ds = true → belowK m ds = true
  | [], _ => rfl
  | (_, d) :: ds, b => by
    rw [belowK, Bool.and_eq_true] at b ⊢
    exact ⟨below_mono h d b.1, belowK_mono h ds b.2⟩
end
theorem belowM_mono {n m : Nat} (h : n ≤ m) : ∀ x : MO, belowM n x = true → belowM m x = true
  | .dead, _ => rfl
  | .list xs, b => by
    rw [belowM] at b ⊢
    exact belowL_mono h xs b
  | .dK kvs, b => by
    rw [belowM] at b ⊢
    exact belowK_mono h kvs b
  | .dT kvs, b => by
    rw [belowM] at b ⊢
    induction kvs with
    | nil => rfl
    | cons x kvs ih =>
      rw [belowT, Bool.and_eq_true] at b ⊢
      exact ⟨below_mono h _ b.1, ih b.2⟩
  | .ins _ fs, b => by
    rw [belowM] at b ⊢
    induction fs with
    | nil => rfl
    | cons x kvs ih =>
      rw [belowS, Bool.and_eq_true] at b ⊢
      exact ⟨below_mono h _ b.1, ih b.2⟩
theorem St.app {M : Sto} {s c : Nat} (h : St M s c) (m : MO) : St (M ++ [m]) s c := by
  have l := h.lt
  obtain ⟨ne, a, cs, k1, k2, k3⟩ := h
  exact ⟨ne, a, cs, by rw [List.getElem?_append_left l.1]; exact k1, by rw [List.getElem?_append_left l.2]; exact k2, k3⟩
theorem Cl.app {M : Sto} (h : Cl M) {ds : List D} (hd : belowL (M.length + 1) ds = true) : Cl (M ++ [.list ds]) := by
  unfold Cl at h ⊢
  rw [List.length_append, List.length_cons, List.length_nil]
  refine List.all_eq_true.mpr fun m hm => ?_
  rcases List.mem_append.mp hm with z | z
  · exact belowM_mono (Nat.le_succ _) m (List.all_eq_true.mp h m z)
  · rw [List.mem_singleton] at z
    rw [z, belowM]
    exact hd
/-- what is so while a def draws: M0 at its entry, N now -/
structure SW (M0 N : Sto) (s c : Nat) : Prop where
  st0 : St M0 s c
  cl0 : Cl M0
  st : St N s c
  cl : Cl N
  len : M0.length ≤ N.length
  old : ∀ i, i < M0.length → i ≠ s → i ≠ c → N[i]? = M0[i]?
theorem SW.here {M : Sto} {s c : Nat} (h : St M s c) (hC : Cl M) : SW M M s c := ⟨h, hC, h, hC, Nat.le_refl _, fun _ _ _ _ => rfl⟩
/-- nothing but the state may be another -/
def Kp (N N' : Sto) (s c : Nat) : Prop := N'.length = N.length ∧ ∀ i, i ≠ s → i ≠ c → N'[i]? = N[i]?
theorem Kp.refl {N : Sto} {s c : Nat} : Kp N N s c := ⟨rfl, fun _ _ _ => rfl⟩
theorem Kp.trans {N1 N2 N3 : Sto} {s c : Nat} (a : Kp N1 N2 s c) (b : Kp N2 N3 s c) : Kp N1 N3 s c := ⟨b.1.trans a.1, fun i x y => (b.2 i x y).trans (a.2 i x y)⟩
/-- the draws of the table's own def at f -/
structure TakeOk (F : FT) (f : Nat) : Prop where
  take : ∀ (M0 N : Sto) (s c : Nat) (m : Int), SW M0 N s c → 0 < m → m < 1073741824 → ∃ v N', callM F .tr f [.loc s, .int m] N = some (.int v, N') ∧ 0 ≤ v ∧ v < m ∧ SW M0 N' s c ∧ Kp N N' s c
theorem take_ok {f : Nat} (hf : fns[f]? = some fnTake) (n : Nat) : TakeOk (run fns cls (n + 1)) f := ⟨fun M0 N s c m h h0 h1 => by
  obtain ⟨v, N', e, v0, v1, st, sm, cl⟩ := take_tr (cls := cls) hf (n := n) h.st h.cl h0 h1
  exact ⟨v, N', e, v0, v1, ⟨h.st0, h.cl0, st, cl, by rw [sm.1]; exact h.len, fun i hi a b => by rw [sm.2 i a b, h.old i hi a b]⟩, sm⟩⟩
theorem SW.take {F : FT} {f : Nat} (T : TakeOk F f) {M0 N : Sto} {s c : Nat} (h : SW M0 N s c) (m : Int) (h0 : 0 < m) (h1 : m < 1073741824) : ∃ v N', callM F .tr f [.loc s, .int m] N = some (.int v, N') ∧ 0 ≤ v ∧ v < m ∧ SW M0 N' s c ∧ Kp N N' s c := T.take M0 N s c m h h0 h1
theorem SW.ne {M0 N : Sto} {s c L : Nat} (h : SW M0 N s c) (hL : M0.length ≤ L) : L ≠ s ∧ L ≠ c := by
  have := h.st0.lt
  omega
/-- a new list behind all else -/
theorem SW.new {M0 N : Sto} {s c : Nat} (h : SW M0 N s c) {ds : List D} (hd : belowL (N.length + 1) ds = true) : SW M0 (N ++ [.list ds]) s c :=
  ⟨h.st0, h.cl0, h.st.app _, h.cl.app hd, by rw [List.length_append]; have := h.len; omega, fun i hi a b => by
    have := h.len
    rw [List.getElem?_append_left (by omega), h.old i hi a b]⟩
theorem SW.set {M0 N : Sto} {s c L : Nat} (h : SW M0 N s c) (hL : M0.length ≤ L) {m : MO} (hm : belowM N.length m = true) : SW M0 (N.set L m) s c := by
  have ne := h.ne hL
  obtain ⟨nn, a, cs, k1, k2, k3⟩ := h.st
  refine ⟨h.st0, h.cl0, ⟨nn, a, cs, by rw [List.getElem?_set_ne ne.1]; exact k1, by rw [List.getElem?_set_ne ne.2]; exact k2, k3⟩, ?_, by rw [List.length_set]; exact h.len, fun i hi a b => by rw [List.getElem?_set_ne (by omega)]; exact h.old i hi a b⟩
  unfold Cl
  rw [List.length_set]
  refine List.all_eq_true.mpr fun x hx => ?_
  rcases List.mem_or_eq_of_mem_set hx with z | z
  · exact List.all_eq_true.mp h.cl x z
  · rw [z]; exact hm
/-- the end of a call by tr -/
theorem SW.cut {M0 N : Sto} {s c : Nat} (h : SW M0 N s c) {F : FT} {f : Nat} {ds : List D} {d : D} (e : F f ds M0 = some (d, N)) (hd : below M0.length d = true) : ∃ M2, callM F .tr f ds M0 = some (d, M2) ∧ SW M0 M2 s c ∧ Kp M0 M2 s c := by
  have l0 := h.st0.lt
  have cl2 := closed h.cl0 h.st0 h.st h.old h.len
  have hl := h.len
  have lt : (N.take M0.length).length = M0.length := by
    rw [List.length_take]
    omega
  refine ⟨N.take M0.length, call_tr e hd cl2 h.len, ⟨h.st0, h.cl0, ?_, ?_, by rw [lt]; exact Nat.le_refl _, fun i hi a b => by rw [List.getElem?_take_of_lt hi, h.old i hi a b]⟩, lt, fun i a b => ?_⟩
  · obtain ⟨ne, a, cs, k1, k2, k3⟩ := h.st
    exact ⟨ne, a, cs, by rw [List.getElem?_take_of_lt l0.1]; exact k1, by rw [List.getElem?_take_of_lt l0.2]; exact k2, k3⟩
  · unfold Cl
    rw [lt]
    exact cl2
  · by_cases hi : i < M0.length
    · rw [List.getElem?_take_of_lt hi, h.old i hi a b]
    · rw [List.getElem?_eq_none (by omega), List.getElem?_eq_none (by omega)]
theorem SW.trans {M0 M1 N : Sto} {s c : Nat} (a : SW M0 M1 s c) (b : SW M1 N s c) : SW M0 N s c :=
  ⟨a.st0, a.cl0, b.st, b.cl, Nat.le_trans a.len b.len, fun i hi x y => by rw [b.old i (Nat.lt_of_lt_of_le hi a.len) x y, a.old i hi x y]⟩
theorem state_run {f : Nat} (hf : fns[f]? = some fnState) {n : Nat} {ns : List Int} : ∃ (s c : Nat) (M : Sto), callM (run fns cls (n + 1)) .keep f [.fz (ns.map D.int)] [] = some (.loc s, M) ∧ St M s c ∧ Cl M := by
  have hcut : cutD (ns.map D.int) none (some 63) = (ns.take 63).map D.int := by
    rw [cutD_to _ (by decide), List.map_take]
    rfl
  have hc : ∀ M, ev (run fns cls n) cls (.comp true [2] (.nm 2) .seq (.slc false (.var 0) .absent (.int 63)) .absent .absent (.blt false .abs (.cons (.var 2) .nil))) [some (.fz (ns.map D.int)), none, none] M = some (.loc M.length, M ++ [.list (((ns.take 63).map fun i => if i < 0 then -i else i).map D.int)]) := fun M => by
    rw [e_comp]
    simp only [e_var, e_non, e_bl, e_int, e_str, e_bin, e_neg, e_not, e_and, e_or, e_cmp, e_chain, e_isN, e_ife, e_tup, e_lst, e_dct, e_idx, e_slc, e_blt, e_isi, e_fld, e_app, e_ext, e_idxof, e_dget, e_nil, e_cons, x_setv, x_sett, x_setp, x_seti, x_seti2, x_augi, x_setf, x_exp, x_ret, x_ife, x_frz, x_retN, x_pass, x_cont, x_nil, x_cons, getD_list, getD_tup, rd_int, rd_bl, rd_non, rd_str, rd_list, rd_tup, rd_fz, rd_dict, len_list, len_tup, abs_int, min2_int, max2_int, int_int, list_list, list_tup, mk_f, mk_t, truth_bl', truth_int', truth_list', tst_some, line0, line1, line2, line3, line4, line5, line6, line7, line8, asg, optC, optD, optI, isAbs, src_list, src_tup, src_enum, setI, body1, wipeE, List.map_cons, List.map_nil, List.length_cons, List.length_nil, List.replicate, List.cons_append, List.nil_append, List.getElem?_cons_zero, List.getElem?_cons_succ, List.set_cons_zero, List.set_cons_succ, List.zip_cons_cons, List.zip_nil_right, List.foldl_cons, List.foldl_nil, Nat.reduceAdd, Nat.reduceSub, bop_add_int, bop_sub_int, cop_lt_int, cop_gt_int, cop_le_int, cop_ge_int, cop_eq_int, cop_ne_int, atI_c0, atI_c1, atI_c2, atI_c3, if_true, Bool.false_eq_true, if_false, ↓reduceIte, Bool.not_true, Bool.not_false, hcut]
    rw [if_pos (by rw [List.length_map, List.length_take]; unfold LINE; omega), compR_mapT (g := fun i => .int (if i < 0 then -i else i)) fun i _ => ?_]
    · rw [List.map_map]
      rfl
    · simp only [turnF]
      simp only [e_var, e_non, e_bl, e_int, e_str, e_bin, e_neg, e_not, e_and, e_or, e_cmp, e_chain, e_isN, e_ife, e_tup, e_lst, e_dct, e_idx, e_slc, e_blt, e_isi, e_fld, e_app, e_ext, e_idxof, e_dget, e_nil, e_cons, x_setv, x_sett, x_setp, x_seti, x_seti2, x_augi, x_setf, x_exp, x_ret, x_ife, x_frz, x_retN, x_pass, x_cont, x_nil, x_cons, getD_list, getD_tup, rd_int, rd_bl, rd_non, rd_str, rd_list, rd_tup, rd_fz, rd_dict, len_list, len_tup, abs_int, min2_int, max2_int, int_int, list_list, list_tup, mk_f, mk_t, truth_bl', truth_int', truth_list', tst_some, line0, line1, line2, line3, line4, line5, line6, line7, line8, asg, optC, optD, optI, isAbs, src_list, src_tup, src_enum, setI, body1, wipeE, List.map_cons, List.map_nil, List.length_cons, List.length_nil, List.replicate, List.cons_append, List.nil_append, List.getElem?_cons_zero, List.getElem?_cons_succ, List.set_cons_zero, List.set_cons_succ, List.zip_cons_cons, List.zip_nil_right, List.foldl_cons, List.foldl_nil, Nat.reduceAdd, Nat.reduceSub, bop_add_int, bop_sub_int, cop_lt_int, cop_gt_int, cop_le_int, cop_ge_int, cop_eq_int, cop_ne_int, atI_c0, atI_c1, atI_c2, atI_c3, if_true, Bool.false_eq_true, if_false, ↓reduceIte, Bool.not_true, Bool.not_false]
  generalize hcs : (ns.take 63).map (fun i => if i < 0 then -i else i) = cs at hc
  have go : ∀ (r : Option (D × Sto)), run fns cls (n + 1) f [.fz (ns.map D.int)] [] = r → callM (run fns cls (n + 1)) .keep f [.fz (ns.map D.int)] [] = r := fun r h => h
  by_cases h0 : cs = []
  · subst h0
    refine ⟨2, 1, [.list [], .list [.int 0], .list [.int 0, .loc 1]], go _ ?_, ⟨by decide, 0, [0], rfl, rfl, by simp⟩, rfl⟩
    rw [run_full hf rfl]
    show body1 (run fns cls n) cls ⟨"_law_state", 1, _, bState, []⟩ _ _ = _
    unfold bState
    have g1 : rd ([MO.list []] : Sto) (.loc 0) = .list [] := rfl
    simp only [e_var, e_non, e_bl, e_int, e_str, e_bin, e_neg, e_not, e_and, e_or, e_cmp, e_chain, e_isN, e_ife, e_tup, e_lst, e_dct, e_idx, e_slc, e_blt, e_isi, e_fld, e_app, e_ext, e_idxof, e_dget, e_nil, e_cons, x_setv, x_sett, x_setp, x_seti, x_seti2, x_augi, x_setf, x_exp, x_ret, x_ife, x_frz, x_retN, x_pass, x_cont, x_nil, x_cons, getD_list, getD_tup, rd_int, rd_bl, rd_non, rd_str, rd_list, rd_tup, rd_fz, rd_dict, len_list, len_tup, abs_int, min2_int, max2_int, int_int, list_list, list_tup, mk_f, mk_t, truth_bl', truth_int', truth_list', tst_some, line0, line1, line2, line3, line4, line5, line6, line7, line8, asg, optC, optD, optI, isAbs, src_list, src_tup, src_enum, setI, body1, wipeE, List.map_cons, List.map_nil, List.length_cons, List.length_nil, List.replicate, List.cons_append, List.nil_append, List.getElem?_cons_zero, List.getElem?_cons_succ, List.set_cons_zero, List.set_cons_succ, List.zip_cons_cons, List.zip_nil_right, List.foldl_cons, List.foldl_nil, Nat.reduceAdd, Nat.reduceSub, bop_add_int, bop_sub_int, cop_lt_int, cop_gt_int, cop_le_int, cop_ge_int, cop_eq_int, cop_ne_int, atI_c0, atI_c1, atI_c2, atI_c3, if_true, Bool.false_eq_true, if_false, ↓reduceIte, Bool.not_true, Bool.not_false, hc, g1, show decide (((0 : Nat) : Int) = 0) = true from rfl]
  · refine ⟨1, 0, [.list (cs.map D.int), .list [.int 0, .loc 0]], go _ ?_, ⟨by decide, 0, cs, rfl, rfl, h0⟩, ?_⟩
    · rw [run_full hf rfl]
      show body1 (run fns cls n) cls ⟨"_law_state", 1, _, bState, []⟩ _ _ = _
      unfold bState
      have g1 : rd ([MO.list (cs.map D.int)] : Sto) (.loc 0) = .list (cs.map D.int) := rfl
      have e0 : decide (((cs.map D.int).length : Int) = 0) = false := by
        have := List.length_pos_iff.mpr h0
        exact decide_eq_false (by rw [List.length_map]; omega)
      simp only [e_var, e_non, e_bl, e_int, e_str, e_bin, e_neg, e_not, e_and, e_or, e_cmp, e_chain, e_isN, e_ife, e_tup, e_lst, e_dct, e_idx, e_slc, e_blt, e_isi, e_fld, e_app, e_ext, e_idxof, e_dget, e_nil, e_cons, x_setv, x_sett, x_setp, x_seti, x_seti2, x_augi, x_setf, x_exp, x_ret, x_ife, x_frz, x_retN, x_pass, x_cont, x_nil, x_cons, getD_list, getD_tup, rd_int, rd_bl, rd_non, rd_str, rd_list, rd_tup, rd_fz, rd_dict, len_list, len_tup, abs_int, min2_int, max2_int, int_int, list_list, list_tup, mk_f, mk_t, truth_bl', truth_int', truth_list', tst_some, line0, line1, line2, line3, line4, line5, line6, line7, line8, asg, optC, optD, optI, isAbs, src_list, src_tup, src_enum, setI, body1, wipeE, List.map_cons, List.map_nil, List.length_cons, List.length_nil, List.replicate, List.cons_append, List.nil_append, List.getElem?_cons_zero, List.getElem?_cons_succ, List.set_cons_zero, List.set_cons_succ, List.zip_cons_cons, List.zip_nil_right, List.foldl_cons, List.foldl_nil, Nat.reduceAdd, Nat.reduceSub, bop_add_int, bop_sub_int, cop_lt_int, cop_gt_int, cop_le_int, cop_ge_int, cop_eq_int, cop_ne_int, atI_c0, atI_c1, atI_c2, atI_c3, if_true, Bool.false_eq_true, if_false, ↓reduceIte, Bool.not_true, Bool.not_false, hc, g1, e0]
    · unfold Cl
      simp only [List.all_cons, List.all_nil, Bool.and_true, List.length_cons, List.length_nil, below_ints, Bool.true_and]
      rfl
end
/-! ### loops and blocks with an invariant -/
theorem forP_J {α : Type} {f : D → Env → Sto → SR} {e : α → D} {J : Nat → Env → Sto → Prop} {l : List α} (h : ∀ i a, l[i]? = some a → ∀ env M, J i env M → ∃ o env' M', f (e a) env M = some (o, env', M') ∧ (o = .next ∨ o = .cont) ∧ J (i + 1) env' M')
    (env : Env) (M : Sto) (j0 : J 0 env M) : ∃ env' M', forP f (l.map e) env M = some (.next, env', M') ∧ J l.length env' M' := by
  obtain ⟨env', M', e1, j⟩ := forP_fold (f := f) (e := e) (J := fun i (_ : Unit) env M => J i env M) (step := fun b _ => b) (l := l) (fun i a hi _ env M j => h i a hi env M j) () env M j0
  exact ⟨env', M', e1, j⟩
theorem x_forP {F : FT} {cls : Nat → Nat} {t : T} {k : IK} {A B : E} {body : SB} {env env' : Env} {M M0 M1 M' : Sto} {x y : D} {xs : List D} {o : Out} (hA : ev F cls A env M = some (x, M0)) (hB : optD (isAbs B) M0 (ev F cls B env M0) = some (y, M1)) (hs : srcOf k M1 x y = some (.pure xs))
    (h : forP (turnB F cls t body) xs env M1 = some (o, env', M')) : exec F cls (.for_ t k A B body) env M = some (o, env', M') := by
  rw [x_for, hA]
  simp only [hB, hs]
  exact h
theorem e_compI {F : FT} {cls : Nat → Nat} (mu : Bool) (own : List Nat) (t : T) (k : IK) (A C E0 : E) (env : Env) (M : Sto) : ev F cls (.comp mu own t k A .absent C E0) env M = (match ev F cls A env M with
    | none => none
    | some (x, M1) => match srcOf k M1 x .non with
      | some (.pure xs) => if xs.length ≤ LINE then (match compR (turnF F cls own t C E0 env) xs M1 with
        | none => none
        | some (ys, M2) => mk mu (.list ys) M2) else none
      | _ => none) := by
  rw [ev]
  rfl
/-- each turn gives something that fits -/
theorem compR_J {α β : Type} {f : D → Sto → Option (Option D × Sto)} {e : α → D} {g : β → D} {J : Sto → Prop} {Y : α → β → Prop} : ∀ {l : List α}, (∀ a ∈ l, ∀ N, J N → ∃ b N', f (e a) N = some (some (g b), N') ∧ Y a b ∧ J N') →
    ∀ N, J N → ∃ (bs : List β) (N' : Sto), compR f (l.map e) N = some (bs.map g, N') ∧ bs.length = l.length ∧ (∀ (i : Nat) a b, l[i]? = some a → bs[i]? = some b → Y a b) ∧ J N'
  | [], _, N, j => ⟨[], N, rfl, rfl, fun i a b h => by simp at h, j⟩
  | a :: l, h, N, j => by
    obtain ⟨b, N1, e1, y1, j1⟩ := h a List.mem_cons_self N j
    obtain ⟨bs, N2, e2, hl, hy, j2⟩ := compR_J (fun x hx => h x (List.mem_cons_of_mem _ hx)) N1 j1
    refine ⟨b :: bs, N2, ?_, by rw [List.length_cons, List.length_cons, hl], fun i a' b' h1 h2 => ?_, j2⟩
    · rw [List.map_cons, compR, e1]
      simp only
      rw [e2]
      rfl
    · cases i with
      | zero =>
        simp only [List.getElem?_cons_zero, Option.some.injEq] at h1 h2
        subst h1 h2
        exact y1
      | succ i => exact hy i a' b' (by simpa using h1) (by simpa using h2)
end MP

/-! MP34: texts, sorting by data, filters. -/
namespace MP
open PySem PySem.Spec PyProof.Rows L2
/-! ### texts -/
theorem cop_eq_str (a b : PySem.Str) : cop .eq (.str a) (.str b) = some (decide (a = b)) := by
  simp only [cop, eqD]
  split
  · rw [pd, pd, PyData.eqv]
    rfl
  · rfl
theorem cop_ne_str (a b : PySem.Str) : cop .ne (.str a) (.str b) = some (!decide (a = b)) := by
  have h := cop_eq_str a b
  simp only [cop] at h ⊢
  rw [h]
  rfl
/-- a text of code points -/
abbrev okS (x : PySem.Str) : Bool := PyData.strOk x
theorem dp_str {x : PySem.Str} (h : okS x = true) : dp (.str x) = 0 := by
  rw [dp, if_pos h]
theorem cop_lt_str {a b : PySem.Str} (ha : okS a = true) (hb : okS b = true) : cop .lt (.str a) (.str b) = some (decide (a.cps.toList < b.cps.toList)) := by
  have e : W.alike (pd (.str a)) (pd (.str b)) = true := by rw [pd, pd, W.alike]
  have ok : cmpOk (.str a) (.str b) = true := by
    unfold cmpOk
    rw [e, dp_str ha, dp_str hb]
    rfl
  simp only [cop]
  rw [if_pos ok]
  unfold lessD
  rw [pd, pd, W.dataLt_str]
theorem eqv_str (a b : PySem.Str) : PyData.eqv (.str a) (.str b) = decide (a = b) := by
  rw [PyData.eqv]
  rfl
theorem dpL_strs {ys : List PySem.Str} (h : ∀ y ∈ ys, okS y = true) : dpL (ys.map D.str) = 0 := by
  induction ys with
  | nil => rfl
  | cons y ys ih =>
    rw [List.map_cons, dpL, dp_str (h y List.mem_cons_self), ih fun z hz => h z (List.mem_cons_of_mem _ hz)]
    rfl
theorem memD_strs {x : PySem.Str} {ys : List PySem.Str} (hx : okS x = true) (h : ∀ y ∈ ys, okS y = true) : memD (.str x) (ys.map D.str) = some (decide (x ∈ ys)) := by
  unfold memD
  rw [if_pos ⟨by rw [dp_str hx]; omega, by rw [dpL_strs h]; omega⟩]
  congr 1
  rw [List.any_map, Bool.eq_iff_iff, List.any_eq_true, decide_eq_true_eq]
  constructor
  · rintro ⟨y, hy, e⟩
    simp only [Function.comp, pd, eqv_str, decide_eq_true_eq] at e
    exact e ▸ hy
  · intro hy
    exact ⟨x, hy, by simp only [Function.comp, pd, eqv_str, decide_eq_true_eq]⟩
theorem cop_inn_list (x : D) (ys : List D) : cop .inn x (.list ys) = memD x ys := by cases x <;> rfl
theorem cop_inn_tup (x : D) (ys : List D) : cop .inn x (.tup ys) = memD x ys := by cases x <;> rfl
theorem cop_nin_list (x : D) (ys : List D) : cop .nin x (.list ys) = (memD x ys).map (!·) := by cases x <;> rfl
theorem cop_nin_tup (x : D) (ys : List D) : cop .nin x (.tup ys) = (memD x ys).map (!·) := by cases x <;> rfl
/-- what is plain -/
theorem dpL_of {n : Nat} {α : Type} {e : α → D} {l : List α} (h : ∀ a ∈ l, dp (e a) ≤ n) : dpL (l.map e) ≤ n := dpL_le fun d hd => by
  obtain ⟨a, ha, rfl⟩ := List.mem_map.mp hd
  exact h a ha
/-- what is in a list, by an injective way of telling -/
theorem memD_map {α : Type} [DecidableEq α] {e : α → D} {x : α} {ys : List α} (hx : dp (e x) ≤ 60) (h : ∀ y ∈ ys, dp (e y) ≤ 60) (he : ∀ y ∈ ys, PyData.eqv (pd (e y)) (pd (e x)) = decide (y = x)) : memD (e x) (ys.map e) = some (decide (x ∈ ys)) := by
  unfold memD
  rw [if_pos ⟨hx, dpL_of h⟩]
  congr 1
  rw [List.any_map, Bool.eq_iff_iff, List.any_eq_true, decide_eq_true_eq]
  constructor
  · rintro ⟨y, hy, z⟩
    rw [Function.comp, he y hy, decide_eq_true_eq] at z
    exact z ▸ hy
  · intro hy
    exact ⟨x, hy, by rw [Function.comp, he x hy, decide_eq_true_eq]⟩
/-! ### sorting -/
/-- sorted, by what is told -/
def srt {α : Type} (e : α → D) (l : List α) : List α := l.mergeSort fun a b => !W.dataLt (pd (e b)) (pd (e a))
theorem sortD_map {α : Type} (e : α → D) (l : List α) : sortD (l.map e) = (srt e l).map e := by
  unfold sortD srt
  exact (List.map_mergeSort (f := e) (r := fun a b => !W.dataLt (pd (e b)) (pd (e a))) (s := fun a b => !W.dataLt (pd b) (pd a)) fun a _ b _ => rfl).symm
theorem srt_perm {α : Type} (e : α → D) (l : List α) : (srt e l).Perm l := List.mergeSort_perm l _
theorem mem_srt {α : Type} {e : α → D} {l : List α} {x : α} : x ∈ srt e l ↔ x ∈ l := (srt_perm e l).mem_iff
theorem srt_len {α : Type} (e : α → D) (l : List α) : (srt e l).length = l.length := (srt_perm e l).length_eq
theorem dataLt_trans {a b c : PyData} (h1 : W.dataLt a b = true) (h2 : W.dataLt b c = true) : W.dataLt a c = true := lex_trans _ _ _ h1 h2
theorem dataLt_total {a b : PyData} (h1 : W.dataLt a b = false) (h2 : W.dataLt b a = false) : W.keyToks a = W.keyToks b := lex_total _ _ h1 h2
theorem dataLt_asymm {a b : PyData} (h1 : W.dataLt a b = true) : W.dataLt b a = false := by
  cases h : W.dataLt b a with
  | false => rfl
  | true =>
    have := dataLt_trans h1 h
    have z : W.dataLt a a = false := lex_irrefl _
    rw [z] at this
    cases this
theorem dataLe_trans {a b c : PyData} (h1 : W.dataLt b a = false) (h2 : W.dataLt c b = false) : W.dataLt c a = false := by
  cases h : W.dataLt c a with
  | false => rfl
  | true =>
    cases h3 : W.dataLt a b with
    | true =>
      have := dataLt_trans h h3
      rw [h2] at this
      cases this
    | false =>
      have e := dataLt_total h1 h3
      have : W.dataLt c a = W.dataLt c b := by
        unfold W.dataLt
        rw [e]
      rw [h, h2] at this
      cases this
theorem srt_pw {α : Type} (e : α → D) (l : List α) : (srt e l).Pairwise fun a b => W.dataLt (pd (e b)) (pd (e a)) = false := by
  have := List.pairwise_mergeSort (le := fun a b => !W.dataLt (pd (e b)) (pd (e a))) (fun a b c h1 h2 => by
    rw [Bool.not_eq_true'] at h1 h2 ⊢
    exact dataLe_trans h1 h2) (fun a b => by
    cases h : W.dataLt (pd (e b)) (pd (e a)) with
    | false => rfl
    | true => rw [dataLt_asymm h]; rfl) l
  exact this.imp fun h => by rwa [Bool.not_eq_true'] at h
theorem sortOk_map {α : Type} {e : α → D} {l : List α} (ha : ∀ a ∈ l, ∀ b ∈ l, W.alike (pd (e a)) (pd (e b)) = true) (hk : (∀ a ∈ l, hasItem (e a) = true) ∨ ∀ a ∈ l, nonTup (e a) = true) (hd : ∀ a ∈ l, dp (e a) ≤ 60) : sortOk (l.map e) = true := by
  unfold sortOk
  rw [Bool.and_eq_true, Bool.and_eq_true, Bool.or_eq_true, decide_eq_true_eq]
  refine ⟨⟨List.all_eq_true.mpr fun a ha' => List.all_eq_true.mpr fun b hb' => ?_, hk.imp (fun h => List.all_eq_true.mpr fun a ha' => ?_) fun h => List.all_eq_true.mpr fun a ha' => ?_⟩, dpL_of hd⟩
  · obtain ⟨a, h1, rfl⟩ := List.mem_map.mp ha'
    obtain ⟨b, h2, rfl⟩ := List.mem_map.mp hb'
    exact ha a h1 b h2
  · obtain ⟨a, h1, rfl⟩ := List.mem_map.mp ha'
    exact h a h1
  · obtain ⟨a, h1, rfl⟩ := List.mem_map.mp ha'
    exact h a h1
theorem sorted_map {α : Type} {e : α → D} {l : List α} {M : Sto} (h : sortOk (l.map e) = true) : blt1 .sorted M [.list (l.map e)] = some (.list ((srt e l).map e)) := by
  simp only [blt1]
  rw [if_pos h, sortD_map]
theorem sorted_strs {ys : List PySem.Str} {M : Sto} (h : ∀ y ∈ ys, okS y = true) : blt1 .sorted M [.list (ys.map D.str)] = some (.list ((srt D.str ys).map D.str)) :=
  sorted_map (sortOk_map (fun a _ b _ => by rw [pd, pd, W.alike]) (.inr fun a _ => rfl) fun a ha => by rw [dp_str (h a ha)]; omega)
/-! ### blocks -/
section
variable {F : FT} {cls : Nat → Nat} {own : List Nat} {t : T} {A C E0 : E} {env : Env} {M M1 : Sto} {α : Type} {e g : α → D} {l : List α}
/-- what a walk takes -/
def srcIs (d : D) (xs : List D) : Prop := d = .list xs ∨ d = .tup xs
theorem comp_src {x : D} {xs : List D} (hA : ev F cls A env M = some (x, M1)) (hs : srcOf .seq M1 x .non = some (.pure xs)) : ev F cls (.comp false own t .seq A .absent C E0) env M = (if xs.length ≤ LINE then (match compR (turnF F cls own t C E0 env) xs M1 with
    | none => none
    | some (ys, M2) => some (.list ys, M2)) else none) := by
  rw [e_comp, hA]
  simp only [hs, mk_f]
  try rfl
theorem comp_flt {x : D} {q : α → Bool} (hA : ev F cls A env M = some (x, M1)) (hs : srcOf .seq M1 x .non = some (.pure (l.map e))) (hl : l.length ≤ LINE) (hf : ∀ a ∈ l, turnF F cls own t C E0 env (e a) M1 = some (if q a = true then some (g a) else none, M1)) :
    ev F cls (.comp false own t .seq A .absent C E0) env M = some (.list ((l.filter q).map g), M1) := by
  rw [comp_src hA hs, if_pos (by rw [List.length_map]; exact hl), compR_flT hf]
theorem comp_map {x : D} (hA : ev F cls A env M = some (x, M1)) (hs : srcOf .seq M1 x .non = some (.pure (l.map e))) (hl : l.length ≤ LINE) (hf : ∀ a ∈ l, turnF F cls own t C E0 env (e a) M1 = some (some (g a), M1)) :
    ev F cls (.comp false own t .seq A .absent C E0) env M = some (.list (l.map g), M1) := by
  rw [comp_src hA hs, if_pos (by rw [List.length_map]; exact hl), compR_mapT hf]
end
theorem src_of_list (xs : List D) (M : Sto) : srcOf .seq M (.list xs) .non = some (.pure xs) := rfl
theorem src_of_tup (xs : List D) (M : Sto) : srcOf .seq M (.tup xs) .non = some (.pure xs) := rfl
theorem ite_t {α : Type} {b : Bool} {x y : α} (h : b = true) : (if b = true then x else y) = x := if_pos h
/-- the first that is so -/
theorem at0_filter {α : Type} {e : α → D} {q : α → Bool} {l : List α} {a : α} (h : l.find? q = some a) : L2.atI ((l.filter q).map e) 0 = some (e a) := by
  have : (l.filter q).head? = some a := by rw [← h, List.head?_filter]
  cases hf : l.filter q with
  | nil => rw [hf] at this; cases this
  | cons b r =>
    rw [hf] at this
    cases this
    rw [List.map_cons, atI_c0]
/-- of two sorted lists the first ones that are so are told alike, if the same ones are so -/
theorem head_sorted {α : Type} {e : α → D} {q1 q2 : α → Bool} {l1 l2 : List α} {P : α → Prop} (inj : ∀ a b, P a → P b → W.keyToks (pd (e a)) = W.keyToks (pd (e b)) → a = b) (hP1 : ∀ a ∈ l1, q1 a = true → P a)
    (p1 : l1.Pairwise fun a b => W.dataLt (pd (e b)) (pd (e a)) = false) (p2 : l2.Pairwise fun a b => W.dataLt (pd (e b)) (pd (e a)) = false) (hm : ∀ x, (x ∈ l1 ∧ q1 x = true) ↔ (x ∈ l2 ∧ q2 x = true)) : l1.find? q1 = l2.find? q2 := by
  have least : ∀ {l : List α} {q : α → Bool} {x : α}, (l.Pairwise fun a b => W.dataLt (pd (e b)) (pd (e a)) = false) → l.find? q = some x → x ∈ l ∧ q x = true ∧ ∀ y ∈ l, q y = true → y = x ∨ W.dataLt (pd (e y)) (pd (e x)) = false := by
    intro l
    induction l with
    | nil => intro q x _ h; cases h
    | cons a l ih =>
      intro q x hp h
      rw [List.pairwise_cons] at hp
      rw [List.find?_cons] at h
      cases z : q a with
      | true =>
        rw [z] at h
        cases h
        exact ⟨List.mem_cons_self, z, fun y hy _ => (List.mem_cons.mp hy).imp id (hp.1 y)⟩
      | false =>
        rw [z] at h
        obtain ⟨h1, h2, h3⟩ := ih hp.2 h
        refine ⟨List.mem_cons_of_mem _ h1, h2, fun y hy hq => ?_⟩
        rcases List.mem_cons.mp hy with w | w
        · subst w; rw [z] at hq; cases hq
        · exact h3 y w hq
  cases e1 : l1.find? q1 with
  | none =>
    cases e2 : l2.find? q2 with
    | none => rfl
    | some y =>
      obtain ⟨h1, h2, _⟩ := least p2 e2
      have h3 := (hm y).mpr ⟨h1, h2⟩
      exact absurd h3.2 (List.find?_eq_none.mp e1 y h3.1)
  | some x =>
    obtain ⟨h1, h2, h3⟩ := least p1 e1
    cases e2 : l2.find? q2 with
    | none =>
      have h4 := (hm x).mp ⟨h1, h2⟩
      exact absurd h4.2 (List.find?_eq_none.mp e2 x h4.1)
    | some y =>
      obtain ⟨k1, k2, k3⟩ := least p2 e2
      have hx := (hm x).mp ⟨h1, h2⟩
      have hy := (hm y).mpr ⟨k1, k2⟩
      rcases h3 y hy.1 hy.2 with z | z
      · rw [z]
      · rcases k3 x hx.1 hx.2 with w | w
        · rw [w]
        · rw [inj x y (hP1 x h1 h2) (hP1 y hy.1 hy.2) (dataLt_total w z)]
/-! ### bodies -/
section
variable {F : FT} {cls : Nat → Nat} {env env1 env' : Env} {M M1 M' : Sto}
theorem run_of {fns : List Fn} {n f : Nat} {fn : Fn} {xs : List D} {d : D} (hf : fns[f]? = some fn) (hl : xs.length = fn.np) (hb : ∃ env', exb (run fns cls n) cls fn.body (xs.map some ++ List.replicate (fn.N.length - xs.length) none) M = some (.ret d, env', M')) : run fns cls (n + 1) f xs M = some (d, M') := by
  obtain ⟨env', h⟩ := hb
  rw [run_full hf hl]
  unfold body1
  rw [h]
theorem r_ret {e : E} {r : SB} {d : D} (h : ev F cls e env M = some (d, M1)) : ∃ env', exb F cls (.cons (.ret e) r) env M = some (.ret d, env', M1) := ⟨env, xret (by rw [x_ret, h])⟩
theorem r_next {s : S} {r : SB} {d : D} (h : exec F cls s env M = some (.next, env1, M1)) (h2 : ∃ env', exb F cls r env1 M1 = some (.ret d, env', M')) : ∃ env', exb F cls (.cons s r) env M = some (.ret d, env', M') := by
  obtain ⟨env', e⟩ := h2
  exact ⟨env', (xnext h).trans e⟩
theorem r_set {i : Nat} {e : E} {r : SB} {d x : D} (h : ev F cls e env M = some (x, M1)) (h2 : ∃ env', exb F cls r (env.set i (some x)) M1 = some (.ret d, env', M')) : ∃ env', exb F cls (.cons (.setv i e) r) env M = some (.ret d, env', M') := r_next (by rw [x_setv, h]) h2
/-- a test that fails, a test that holds and returns -/
theorem r_no {c : E} {p r : SB} {d : D} (h : tst (ev F cls c env M) = some (false, M1)) (h2 : ∃ env', exb F cls r env M1 = some (.ret d, env', M')) : ∃ env', exb F cls (.cons (.ife c p .nil) r) env M = some (.ret d, env', M') := r_next (by rw [x_ife, h]; exact x_nil) h2
theorem r_yes {c : E} {p q r : SB} {d : D} (h : tst (ev F cls c env M) = some (true, M1)) (h2 : ∃ env', exb F cls p env M1 = some (.ret d, env', M')) : ∃ env', exb F cls (.cons (.ife c p q) r) env M = some (.ret d, env', M') := by
  obtain ⟨env', e⟩ := h2
  exact ⟨env', xret (by rw [x_ife, h]; exact e)⟩
end
/-- a walk over a list of the store that stays as it is -/
theorem forL_J {α : Type} {f : D → Env → Sto → SR} {e : α → D} {J : Nat → Env → Sto → Prop} {l : List α} {n : Nat} (hn : ∀ i env M, J i env M → M[n]? = some (.list (l.map e)))
    (h : ∀ i a, l[i]? = some a → ∀ env M, J i env M → ∃ o env' M', f (e a) env M = some (o, env', M') ∧ (o = .next ∨ o = .cont) ∧ J (i + 1) env' M')
    (env : Env) (M : Sto) (j0 : J 0 env M) : ∃ env' M', forL f n l.length 0 env M = some (.next, env', M') ∧ J l.length env' M' := by
  have go : ∀ (k i : Nat) (env : Env) (M : Sto), i + k = l.length → J i env M → ∃ env' M', forL f n k i env M = some (.next, env', M') ∧ J l.length env' M' := by
    intro k
    induction k with
    | zero =>
      intro i env M hi j
      have e2 : i = l.length := by omega
      refine ⟨env, M, ?_, e2 ▸ j⟩
      rw [forL, hn i env M j]
      simp only
      rw [if_pos (by rw [List.length_map]; omega)]
    | succ k ih =>
      intro i env M hi j
      have hlt : i < l.length := by omega
      obtain ⟨o, env1, M1, e1, ho, j1⟩ := h i l[i] (List.getElem?_eq_getElem hlt) env M j
      obtain ⟨env2, M2, e2, j2⟩ := ih (i + 1) env1 M1 (by omega) j1
      refine ⟨env2, M2, ?_, j2⟩
      rw [forL, hn i env M j]
      simp only
      rw [List.getElem?_map, List.getElem?_eq_getElem hlt]
      simp only [Option.map_some, e1]
      rcases ho with rfl | rfl <;> exact e2
  exact go l.length 0 env M (by omega) j0
theorem x_forL {F : FT} {cls : Nat → Nat} {t : T} {k : IK} {A B : E} {body : SB} {env env' : Env} {M M0 M1 M' : Sto} {x y : D} {m j : Nat} {o : Out} (hA : ev F cls A env M = some (x, M0)) (hB : optD (isAbs B) M0 (ev F cls B env M0) = some (y, M1)) (hs : srcOf k M1 x y = some (.loc m j))
    (h : forL (turnB F cls t body) m j 0 env M1 = some (o, env', M')) : exec F cls (.for_ t k A B body) env M = some (o, env', M') := by
  rw [x_for, hA]
  simp only [hB, hs]
  exact h
/-- a walk over a variable's list, of the store or not -/
theorem x_forA {α : Type} {F : FT} {cls : Nat → Nat} {t : T} {A : E} {body : SB} {e : α → D} {J : Nat → Env → Sto → Prop} {l : List α} {env : Env} {M : Sto} {x : D} (hA : ev F cls A env M = some (x, M))
    (hx : x = .list (l.map e) ∨ ∃ n, x = .loc n ∧ ∀ i env M, J i env M → M[n]? = some (.list (l.map e)))
    (h : ∀ i a, l[i]? = some a → ∀ env M, J i env M → ∃ o env' M', turnB F cls t body (e a) env M = some (o, env', M') ∧ (o = .next ∨ o = .cont) ∧ J (i + 1) env' M') (j0 : J 0 env M) :
    ∃ env' M', exec F cls (.for_ t .seq A .absent body) env M = some (.next, env', M') ∧ J l.length env' M' := by
  rcases hx with rfl | ⟨n, rfl, hn⟩
  · obtain ⟨env', M', e1, j⟩ := forP_J h env M j0
    exact ⟨env', M', x_forP (y := .non) (M1 := M) hA rfl rfl e1, j⟩
  · obtain ⟨env', M', e1, j⟩ := forL_J hn h env M j0
    refine ⟨env', M', x_forL (y := .non) (M1 := M) (m := n) (j := l.length) hA rfl ?_ e1, j⟩
    simp only [srcOf, hn 0 env M j0, List.length_map]
theorem atI_last {α : Type} (xs : List α) (h : xs ≠ []) : L2.atI xs (-1) = xs.getLast? := by
  have hl : 0 < xs.length := List.length_pos_iff.mpr h
  unfold L2.atI L2.ixN
  rw [if_neg (by decide), if_pos (by omega)]
  simp only [Option.bind_some]
  rw [List.getLast?_eq_getElem?]
  congr 1
  omega
/-- a filter whose test draws -/
theorem compR_S {α : Type} {f : D → Sto → Option (Option D × Sto)} {e : α → D} {J : Sto → Prop} : ∀ {l : List α}, (∀ a ∈ l, ∀ N, J N → ∃ (b : Bool) (N' : Sto), f (e a) N = some (if b = true then some (e a) else none, N') ∧ J N') →
    ∀ N, J N → ∃ (l' : List α) (N' : Sto), compR f (l.map e) N = some (l'.map e, N') ∧ l'.Sublist l ∧ J N'
  | [], _, N, j => ⟨[], N, rfl, .slnil, j⟩
  | a :: l, h, N, j => by
    obtain ⟨b, N1, e1, j1⟩ := h a List.mem_cons_self N j
    obtain ⟨l', N2, e2, s2, j2⟩ := compR_S (fun x hx => h x (List.mem_cons_of_mem _ hx)) N1 j1
    cases b with
    | true => exact ⟨a :: l', N2, by rw [List.map_cons, compR, e1]; simp only [if_true]; rw [e2]; rfl, s2.cons_cons a, j2⟩
    | false => exact ⟨l', N2, by rw [List.map_cons, compR, e1]; simp only [Bool.false_eq_true, if_false]; rw [e2], s2.cons a, j2⟩
/-- a store by a new key -/
theorem put_new {q : L2.Key} {z : D} {kvs : List (L2.Key × D)} (h : q ∉ kvs.map (·.1)) : setI.putKD q z kvs = kvs ++ [(q, z)] := by
  unfold setI.putKD
  rw [if_neg]
  simp only [List.any_eq_true, decide_eq_true_eq, not_exists, not_and]
  exact fun kv hk e => h (List.mem_map.mpr ⟨kv, hk, e⟩)
theorem kvAt_mem {q : L2.Key} {z : D} : ∀ {kvs : List (L2.Key × D)}, (kvs.map (·.1)).Nodup → (q, z) ∈ kvs → kvAt q kvs = some z
  | [], _, h => nomatch h
  | (k, d) :: r, nd, h => by
    rw [List.map_cons, List.nodup_cons] at nd
    rw [kvAt]
    rcases List.mem_cons.mp h with e | e
    · cases e
      rw [if_pos rfl]
    · rw [if_neg (fun z => nd.1 (List.mem_map.mpr ⟨(q, _), e, z.symm⟩))]
      exact kvAt_mem nd.2 e
theorem keyOf_keyD (k : L2.Key) : keyOf (keyD k) = some k := by cases k <;> rfl
theorem rd_keyD (M : Sto) (k : L2.Key) : rd M (keyD k) = keyD k := by cases k <;> rfl
theorem getD_key (kvs : List (L2.Key × D)) (k : L2.Key) : getD_ (.dict kvs) (keyD k) = kvAt k kvs := by cases k <;> rfl
theorem src_keys (kvs : List (L2.Key × D)) (M : Sto) (y : D) : srcOf .keys M (.dict kvs) y = some (.pure (kvs.map fun kv => keyD kv.1)) := rfl
end MP

/-! MP35: lists that are being made while a def draws. -/
namespace MP
open PySem PySem.Spec PyProof.Rows L2
/-- the lists fx stand in the store, behind what stood at the entry -/
structure WS (M0 N : Sto) (s c : Nat) (fx : List (Nat × List D)) : Prop where
  sw : SW M0 N s c
  at_ : ∀ p ∈ fx, M0.length ≤ p.1 ∧ N[p.1]? = some (.list p.2)
  nd : (fx.map (·.1)).Nodup
section
variable {M0 N N' : Sto} {s c : Nat} {fx : List (Nat × List D)} {L : Nat} {xs ys : List D}
theorem WS.start (h : St M0 s c) (hC : Cl M0) : WS M0 M0 s c [] := ⟨.here h hC, (fun p hp => nomatch hp), List.nodup_nil⟩
theorem WS.kp (h : WS M0 N s c fx) (sw : SW M0 N' s c) (k : Kp N N' s c) : WS M0 N' s c fx := ⟨sw, fun p hp => by
  obtain ⟨h1, h2⟩ := h.at_ p hp
  have ne := sw.ne h1
  exact ⟨h1, by rw [k.2 _ ne.1 ne.2]; exact h2⟩, h.nd⟩
theorem WS.take {F : FT} {f : Nat} (T : TakeOk F f) (h : WS M0 N s c fx) (m : Int) (h0 : 0 < m) (h1 : m < 1073741824) : ∃ v N', callM F .tr f [.loc s, .int m] N = some (.int v, N') ∧ 0 ≤ v ∧ v < m ∧ WS M0 N' s c fx ∧ N'.length = N.length := by
  obtain ⟨v, N', e, v0, v1, sw, k⟩ := h.sw.take T m h0 h1
  exact ⟨v, N', e, v0, v1, h.kp sw k, k.1⟩
theorem WS.lt (h : WS M0 N s c fx) : ∀ p ∈ fx, p.1 < N.length := fun p hp => (List.getElem?_eq_some_iff.mp (h.at_ p hp).2).1
theorem WS.push (h : WS M0 N s c fx) (hd : belowL (N.length + 1) xs = true) : WS M0 (N ++ [.list xs]) s c ((N.length, xs) :: fx) := by
  refine ⟨h.sw.new hd, fun p hp => ?_, ?_⟩
  · rcases List.mem_cons.mp hp with e | e
    · subst e
      exact ⟨h.sw.len, by rw [List.getElem?_append_right (Nat.le_refl _), Nat.sub_self]; rfl⟩
    · exact ⟨(h.at_ p e).1, by rw [List.getElem?_append_left (h.lt p e)]; exact (h.at_ p e).2⟩
  · rw [List.map_cons, List.nodup_cons]
    refine ⟨fun z => ?_, h.nd⟩
    obtain ⟨p, hp, e⟩ := List.mem_map.mp z
    have := h.lt p hp
    omega
/-- the list at the head of fx is another from now on -/
theorem WS.set (h : WS M0 N s c ((L, xs) :: fx)) (hd : belowL N.length ys = true) : WS M0 (N.set L (.list ys)) s c ((L, ys) :: fx) := by
  have hL := h.at_ _ List.mem_cons_self
  have hlt := h.lt _ List.mem_cons_self
  have nd := h.nd
  rw [List.map_cons, List.nodup_cons] at nd
  refine ⟨h.sw.set hL.1 (by rw [belowM]; exact hd), fun p hp => ?_, h.nd⟩
  rcases List.mem_cons.mp hp with e | e
  · subst e
    exact ⟨hL.1, by rw [List.getElem?_set_self hlt]⟩
  · have ne : L ≠ p.1 := fun z => nd.1 (List.mem_map.mpr ⟨p, e, z.symm⟩)
    exact ⟨(h.at_ p (List.mem_cons_of_mem _ e)).1, by rw [List.getElem?_set_ne ne]; exact (h.at_ p (List.mem_cons_of_mem _ e)).2⟩
/-- the list at the head of fx is frozen -/
theorem WS.dead (h : WS M0 N s c ((L, xs) :: fx)) : WS M0 (N.set L .dead) s c fx := by
  have hL := h.at_ _ List.mem_cons_self
  have nd := h.nd
  rw [List.map_cons, List.nodup_cons] at nd
  refine ⟨h.sw.set hL.1 rfl, fun p hp => ?_, nd.2⟩
  have ne : L ≠ p.1 := fun z => nd.1 (List.mem_map.mpr ⟨p, hp, z.symm⟩)
  exact ⟨(h.at_ p (List.mem_cons_of_mem _ hp)).1, by rw [List.getElem?_set_ne ne]; exact (h.at_ p (List.mem_cons_of_mem _ hp)).2⟩
theorem WS.drop (h : WS M0 N s c ((L, xs) :: fx)) : WS M0 N s c fx := ⟨h.sw, fun p hp => h.at_ p (List.mem_cons_of_mem _ hp), (List.nodup_cons.mp (by have := h.nd; rwa [List.map_cons] at this)).2⟩
theorem WS.perm {fx' : List (Nat × List D)} (h : WS M0 N s c fx) (p : fx'.Perm fx) : WS M0 N s c fx' := ⟨h.sw, fun q hq => h.at_ q (p.mem_iff.mp hq), (p.map _).nodup_iff.mpr h.nd⟩
theorem WS.hd (h : WS M0 N s c ((L, xs) :: fx)) : N[L]? = some (.list xs) := (h.at_ _ List.mem_cons_self).2
end
theorem bop_mul_intL {i j : Int} (h : i.natAbs < 2 ^ 64) : bop .mul (.int i) (.int j) = some (.int (i * j)) := by
  simp only [bop]
  rw [if_pos (.inl h)]
theorem tuple_list (xs : List D) (M : Sto) : blt1 .tuple M [.list xs] = some (.tup xs) := rfl
theorem int_bl (b : Bool) (M : Sto) : blt1 .int M [.bl b] = some (.int (if b then 1 else 0)) := rfl
theorem atI_map {α : Type} {e : α → D} {l : List α} {i : Int} {a : α} (h0 : 0 ≤ i) (h : l[i.toNat]? = some a) : L2.atI (l.map e) i = some (e a) := atI_of h0 (by rw [List.getElem?_map, h]; rfl)
end MP

/-! MP36: how long a repr may be. -/
namespace MP
open PySem PySem.Spec PyProof.Rows L2
structure Rb (d : D) (b h : Nat) : Prop where
  pl : plainR d = true
  sh : (pdR d).showable = true
  dep : (pdR d).depth ≤ h
  len : (pdR d).shown.length ≤ b
theorem join_le (b : Nat) : ∀ ts : List Str, (∀ t ∈ ts, t.length ≤ b) → (Str.join ", " ts).length ≤ ts.length * (b + 2)
  | [], _ => Nat.zero_le _
  | [x], h => by
    have := h x (List.mem_cons_self ..)
    show x.length ≤ _
    simp only [List.length_cons, List.length_nil]
    omega
  | x :: y :: r, h => by
    have ih := join_le b (y :: r) fun t ht => h t (List.mem_cons_of_mem _ ht)
    have h0 := h x (List.mem_cons_self ..)
    show (x ++ ", " ++ Str.join ", " (y :: r)).length ≤ _
    have e2 : ((", " : String) : Str).length = 2 := rfl
    rw [strLen_append, strLen_append, e2, List.length_cons, Nat.succ_mul]
    omega
theorem nat_len {n k : Nat} (hk : 0 < k) (h : n < 10 ^ k) : (((toString (n : Int)) : String) : Str).length ≤ k := by
  have e : (toString (n : Int) : String) = Nat.repr n := rfl
  rw [e, Str.ofString_eq_toList]
  show ((Nat.repr n).toList.map Char.toNat).toArray.size ≤ k
  rw [List.size_toArray, List.length_map]
  have := (Nat.length_repr_le_iff hk).mpr h
  exact this
theorem Rb.mono {d : D} {b h b' h' : Nat} (r : Rb d b h) (hb : b ≤ b') (hh : h ≤ h') : Rb d b' h' := ⟨r.pl, r.sh, Nat.le_trans r.dep hh, Nat.le_trans r.len hb⟩
theorem Rb.int {i : Int} (h0 : 0 ≤ i) (h1 : i < 1000000000) (h : Nat) : Rb (.int i) 9 h := by
  obtain ⟨n, rfl⟩ := Int.eq_ofNat_of_zero_le h0
  refine ⟨rfl, ?_, Nat.zero_le _, ?_⟩
  · have : n < 2 ^ 1920 := Nat.lt_of_lt_of_le (show n < 2 ^ 30 by omega) (Nat.pow_le_pow_right (by decide) (by decide))
    show decide ((n : Int).natAbs.log2 < 1920) = true
    rw [decide_eq_true_eq]
    exact log2_small this
  · show (PyData.shown (.int n)).length ≤ 9
    rw [PyData.shown_int]
    exact nat_len (by decide) (by omega)
theorem Rb.str {x : PySem.Str} {b : Nat} (hx : (reprText x).length ≤ b) (h : Nat) : Rb (.str x) b h := by
  refine ⟨rfl, rfl, Nat.zero_le _, ?_⟩
  show (PyData.shown (.str x)).length ≤ b
  rw [PyData.shown_str]
  exact hx
theorem rb_all {b h : Nat} : ∀ {ds : List D}, (∀ d ∈ ds, Rb d b h) → plainRL ds = true ∧ PyData.showableAll (pdRL ds) = true ∧ PyData.depthAll (pdRL ds) ≤ h ∧ (∀ t ∈ PyData.shownAll (pdRL ds), t.length ≤ b) ∧ (pdRL ds).length = ds.length
  | [], _ => ⟨rfl, rfl, Nat.zero_le _, fun t ht => by simp [pdRL, PyData.shownAll] at ht, rfl⟩
  | d :: ds, H => by
    obtain ⟨h1, h2, h3, h4, h5⟩ := rb_all (ds := ds) fun x hx => H x (List.mem_cons_of_mem _ hx)
    have r := H d (List.mem_cons_self ..)
    refine ⟨?_, ?_, ?_, fun t ht => ?_, ?_⟩
    · rw [plainRL, r.pl, h1]; rfl
    · rw [pdRL, PyData.showableAll, r.sh, h2]; rfl
    · rw [pdRL, PyData.depthAll]
      exact Nat.max_le.mpr ⟨r.dep, h3⟩
    · rw [pdRL, PyData.shownAll] at ht
      rcases List.mem_cons.mp ht with rfl | ht
      · exact r.len
      · exact h4 t ht
    · rw [pdRL, List.length_cons, List.length_cons, h5]
theorem Rb.list {b h : Nat} {ds : List D} (H : ∀ d ∈ ds, Rb d b h) : Rb (.list ds) (ds.length * (b + 2) + 3) (h + 1) := by
  obtain ⟨h1, h2, h3, h4, h5⟩ := rb_all H
  refine ⟨h1, ?_, ?_, ?_⟩
  · rw [pdR, PyData.showable]; exact h2
  · rw [pdR, PyData.depth]; omega
  · rw [pdR, PyData.shown_list, strLen_append, strLen_append]
    have := join_le b _ h4
    rw [PyData.shownAll_length, h5] at this
    have e1 : (("[" : String) : Str).length = 1 := rfl
    have e2 : (("]" : String) : Str).length = 1 := rfl
    rw [e1, e2]
    omega
theorem Rb.tup {b h : Nat} {ds : List D} (H : ∀ d ∈ ds, Rb d b h) : Rb (.tup ds) (ds.length * (b + 2) + 3) (h + 1) := by
  obtain ⟨h1, h2, h3, h4, h5⟩ := rb_all H
  refine ⟨h1, ?_, ?_, ?_⟩
  · rw [pdR, PyData.showable]; exact h2
  · rw [pdR, PyData.depth]; omega
  · rw [pdR, PyData.shown_tuple, strLen_append, strLen_append]
    have := join_le b _ h4
    rw [PyData.shownAll_length, h5] at this
    have e1 : (("(" : String) : Str).length = 1 := rfl
    have e2 : (((if (pdRL ds).length == 1 then ",)" else ")" : String)) : Str).length ≤ 2 := by split <;> decide
    rw [e1]
    omega
/-- a key that is a text -/
def Rk (k : L2.Key) (b : Nat) : Prop := ∃ x, k = .inr x ∧ (reprText x).length ≤ b
theorem rb_kv {a b h : Nat} : ∀ {kvs : List (L2.Key × D)}, (∀ q ∈ kvs, Rk q.1 a ∧ Rb q.2 b h) → plainRK kvs = true ∧ PyData.showableKv (pdRK kvs) = true ∧ PyData.depthKv (pdRK kvs) ≤ h ∧ (∀ t ∈ PyData.shownKv (pdRK kvs), t.length ≤ a + b + 2) ∧ (PyData.shownKv (pdRK kvs)).length = kvs.length
  | [], _ => ⟨rfl, rfl, Nat.zero_le _, fun t ht => by simp [pdRK, PyData.shownKv] at ht, rfl⟩
  | (k, d) :: kvs, H => by
    obtain ⟨h1, h2, h3, h4, h5⟩ := rb_kv (kvs := kvs) fun x hx => H x (List.mem_cons_of_mem _ hx)
    obtain ⟨⟨x, hk, hx⟩, r⟩ := H (k, d) (List.mem_cons_self ..)
    subst hk
    have r' : Rb d b h := r
    refine ⟨?_, ?_, ?_, fun t ht => ?_, ?_⟩
    · rw [plainRK, r'.pl, h1]; rfl
    · rw [pdRK, PyData.showableKv, r'.sh, h2]; rfl
    · rw [pdRK, PyData.depthKv]
      have h0 : PyData.depth (keyP (.inr x)) = 0 := rfl
      have := r'.dep
      omega
    · rw [pdRK, PyData.shownKv] at ht
      rcases List.mem_cons.mp ht with rfl | ht
      · rw [strLen_append, strLen_append]
        have e2 : ((": " : String) : Str).length = 2 := rfl
        have e1 : (keyP (.inr x)).shown = reprText x := PyData.shown_str x
        rw [e1, e2]
        have := r'.len
        omega
      · exact h4 t ht
    · rw [pdRK, PyData.shownKv, List.length_cons, List.length_cons, h5]
theorem Rb.dict {a b h : Nat} {kvs : List (L2.Key × D)} (H : ∀ q ∈ kvs, Rk q.1 a ∧ Rb q.2 b h) : Rb (.dict kvs) (kvs.length * (a + b + 4) + 3) (h + 1) := by
  obtain ⟨h1, h2, h3, h4, h5⟩ := rb_kv H
  refine ⟨h1, ?_, ?_, ?_⟩
  · rw [pdR, PyData.showable]; exact h2
  · rw [pdR, PyData.depth]; omega
  · rw [pdR, PyData.shown_dict, strLen_append, strLen_append]
    have := join_le _ _ h4
    rw [h5] at this
    have e1 : (("{" : String) : Str).length = 1 := rfl
    have e2 : (("}" : String) : Str).length = 1 := rfl
    rw [e1, e2]
    have e3 : a + b + 2 + 2 = a + b + 4 := rfl
    rw [e3] at this
    omega
theorem repr_is {d : D} {b h : Nat} (r : Rb d b h) (hr : isRefD d = true) (hb : b ≤ LINE) (hh : h ≤ 60) (M : Sto) : blt1 .repr M [d] = some (.str (pdR d).shown) := by
  unfold blt1
  exact if_pos ⟨hr, r.pl, r.sh, Nat.le_trans r.dep hh, Nat.le_trans r.len hb⟩
end MP

/-! CM1: a committee's world, as plain data and as it is told. -/
namespace CM
open MP PySem PyProof.Rows L2
abbrev Tx := PySem.Str
structure Ask where
  name : Tx
  grantee : Tx
  purpose : Tx
  amounts : List Int
structure Rnd where
  purpose : Tx
  budget : Int
  most : Int
  shut : Int
structure Bal where
  purpose : Tx
  member : Tx
  row : List Tx
structure Wld where
  members : List Tx
  kin : List (Tx × Tx)
  asks : List Ask
  rounds : List Rnd
  ballots : List Bal
def eAsk (a : Ask) : D := .tup [.str a.name, .str a.grantee, .str a.purpose, .tup (a.amounts.map D.int), .tup [.tup [.str "all", .int 1]]]
def eKin (p : Tx × Tx) : D := .tup [.str p.1, .str p.2]
def eRnd (r : Rnd) : D := .tup [.str r.purpose, .int r.budget, .int r.most, .int 50, .int r.shut]
def eBal (b : Bal) : D := .tup [.str b.purpose, .str b.member, .tup (b.row.map D.str)]
def eTup (xs : List Tx) : D := .tup (xs.map D.str)
def pool : List Tx := ["ann", "bob", "cy", "dan", "eve", "fay", "gus", "hal", "ida", "jo", "kim", "lee"]
def names : List Tx := ["q5", "a", "zoo", "b", "q1", "m", "c", "q10"]
def kvW (w : Wld) : List (Key × D) := [(.inr "parties", .list (pool.map fun x => .tup [.str x, .tup [.str x]])), (.inr "purposes", .list [.str "p", .str "r"]), (.inr "gifts", .list []), (.inr "pledges", .list []), (.inr "funds", .list []), (.inr "lists", .list []),
  (.inr "members", .list (w.members.map D.str)), (.inr "kin", .list (w.kin.map eKin)), (.inr "rounds", .list (w.rounds.map eRnd)), (.inr "asks", .list (w.asks.map eAsk)), (.inr "swaps", .list []), (.inr "ballots", .list (w.ballots.map eBal)), (.inr "reports", .list []), (.inr "spent", .list [])]
def eW (w : Wld) : D := .dict (kvW w)
/-- what the drawn worlds keep -/
structure Wld.Ok (w : Wld) (ma mm : Nat) : Prop where
  mlen : w.members.length ≤ mm
  mem : ∀ x ∈ w.members, x ∈ pool
  klen : w.kin.length ≤ 14
  kin : ∀ p ∈ w.kin, p.1 ∈ pool ∧ p.2 ∈ pool
  alen : w.asks.length ≤ ma
  apos : w.asks ≠ []
  anm : w.asks.map (·.name) = names.take w.asks.length
  ask : ∀ a ∈ w.asks, a.grantee ∈ pool ∧ (a.purpose = "p" ∨ a.purpose = "r") ∧ a.amounts.length ≤ 4 ∧ a.amounts ≠ [] ∧ ∀ n ∈ a.amounts, 1 ≤ n ∧ n ≤ 20
  rlen : w.rounds.length ≤ 2
  rnd : ∀ r ∈ w.rounds, (r.purpose = "p" ∨ r.purpose = "r") ∧ 1 ≤ r.budget ∧ r.budget ≤ 100000 ∧ 1 ≤ r.most ∧ r.most ≤ 4 ∧ (r.shut = 0 ∨ r.shut = 1)
  blen : w.ballots.length ≤ 2 * mm
  bal : ∀ b ∈ w.ballots, (b.purpose = "p" ∨ b.purpose = "r") ∧ b.member ∈ pool ∧ b.row.length ≤ 5 ∧ ∀ q ∈ b.row, q ∈ names
/-- d is a dict from which the world is read -/
structure Has (d : D) (w : Wld) : Prop where
  dict : ∃ kvs, d = .dict kvs
  below : ∀ n, below n d = true
  members : getD_ d (.str "members") = some (.list (w.members.map D.str))
  kin : getD_ d (.str "kin") = some (.list (w.kin.map eKin))
  rounds : getD_ d (.str "rounds") = some (.list (w.rounds.map eRnd))
  asks : getD_ d (.str "asks") = some (.list (w.asks.map eAsk))
  ballots : getD_ d (.str "ballots") = some (.list (w.ballots.map eBal))
theorem Has.rd {d : D} {w : Wld} (h : Has d w) (M : Sto) : rd M d = d := by
  obtain ⟨kvs, rfl⟩ := h.dict
  rfl
theorem below_of {n : Nat} {α : Type} {e : α → D} {l : List α} (h : ∀ a, MP.below n (e a) = true) : belowL n (l.map e) = true := belowL_all fun d hd => by
  obtain ⟨a, _, rfl⟩ := List.mem_map.mp hd
  exact h a
theorem below_ask (n : Nat) (a : Ask) : below n (eAsk a) = true := by
  unfold eAsk
  simp only [below, belowL, Bool.true_and, Bool.and_true]
  exact below_of fun _ => rfl
theorem below_kin (n : Nat) (a : Tx × Tx) : below n (eKin a) = true := rfl
theorem below_rnd (n : Nat) (a : Rnd) : below n (eRnd a) = true := rfl
theorem below_bal (n : Nat) (a : Bal) : below n (eBal a) = true := by
  unfold eBal
  simp only [below, belowL, Bool.true_and, Bool.and_true]
  exact below_of fun _ => rfl
theorem belowK_app (n : Nat) : ∀ a b : List (Key × D), belowK n (a ++ b) = (belowK n a && belowK n b)
  | [], b => rfl
  | (k, d) :: a, b => by rw [List.cons_append, belowK, belowK, belowK_app n a b, Bool.and_assoc]
theorem below_kvW (n : Nat) (w : Wld) : belowK n (kvW w) = true := by
  unfold kvW
  have e1 := below_of (n := n) (l := w.members) (e := D.str) fun _ => rfl
  have e2 := below_of (n := n) (l := w.kin) (below_kin n)
  have e3 := below_of (n := n) (l := w.rounds) (below_rnd n)
  have e4 := below_of (n := n) (l := w.asks) (below_ask n)
  have e5 := below_of (n := n) (l := w.ballots) (below_bal n)
  have e6 : belowL n (pool.map fun x => D.tup [.str x, .tup [.str x]]) = true := below_of fun _ => rfl
  simp only [belowK, below, e1, e2, e3, e4, e5, e6, belowL, Bool.and_self]
theorem kvAt_app {k : Key} {d : D} : ∀ {a b : List (Key × D)}, kvAt k a = some d → kvAt k (a ++ b) = some d
  | [], b, h => by cases h
  | (q, x) :: a, b, h => by
    rw [List.cons_append, kvAt]
    rw [kvAt] at h
    split at h
    · rename_i e
      rw [if_pos e]
      exact h
    · rename_i e
      rw [if_neg e]
      exact kvAt_app h
theorem has_app (w : Wld) (more : List (Key × D)) (hb : ∀ n, belowK n more = true) : Has (.dict (kvW w ++ more)) w := by
  have key : ∀ (x : Tx) (d : D), kvAt (.inr x) (kvW w) = some d → getD_ (.dict (kvW w ++ more)) (.str x) = some d := fun x d h => kvAt_app h
  refine ⟨⟨_, rfl⟩, fun n => by rw [below, belowK_app, below_kvW, hb]; rfl, key _ _ ?_, key _ _ ?_, key _ _ ?_, key _ _ ?_, key _ _ ?_⟩ <;> rfl
theorem has_w (w : Wld) : Has (eW w) w := by
  have := has_app w [] fun _ => rfl
  rwa [List.append_nil] at this
/-- texts -/
theorem pool_ok : ∀ x ∈ pool, okS x = true := by decide +kernel
theorem names_ok : ∀ x ∈ names, okS x = true := by decide +kernel
end CM

/-! CM2: interest, votes, bars, spots, in plain Lean. -/
namespace CM
open MP PySem PyProof.Rows L2
def nearW (w : Wld) (p : Tx) : List Tx := srt D.str (((w.kin.filter fun q => decide (q.1 = p)).map (·.2)) ++ ((w.kin.filter fun q => decide (q.2 = p)).map (·.1)))
/-- the shortest row of kin to g, the least -/
def inter (w : Wld) (m g : Tx) : Option (List Tx) := if m = g then some [m] else if g ∈ nearW w m then some [m, g] else ((nearW w m).find? fun p => decide (g ∈ nearW w p)).map fun p => [m, p, g]
def eTO : Option (List Tx) → D
  | none => .non
  | some xs => eTup xs
def lastP (g : Tx) (r : List Tx) : Bool := decide (r.getLast? = some g)
def moreI (w : Wld) (R : List (List Tx)) : List (List Tx) := R.flatMap fun r => (nearW w (r.getLastD "")).map fun q => r ++ [q]
/-- the law's search -/
def lawI (w : Wld) (g : Tx) : Nat → List (List Tx) → Option (List Tx)
  | 0, _ => none
  | k + 1, R => match (srt eTup R).find? (lastP g) with
    | some r => some r
    | none => lawI w g k (moreI w R)
theorem mem_near {w : Wld} {p x : Tx} : x ∈ nearW w p ↔ (p, x) ∈ w.kin ∨ (x, p) ∈ w.kin := by
  unfold nearW
  rw [mem_srt, List.mem_append, List.mem_map, List.mem_map]
  constructor
  · rintro (⟨q, hq, rfl⟩ | ⟨q, hq, rfl⟩)
    · obtain ⟨h1, h2⟩ := List.mem_filter.mp hq
      rw [decide_eq_true_eq] at h2
      exact .inl (h2 ▸ h1)
    · obtain ⟨h1, h2⟩ := List.mem_filter.mp hq
      rw [decide_eq_true_eq] at h2
      exact .inr (h2 ▸ h1)
  · rintro (h | h)
    · exact .inl ⟨_, List.mem_filter.mpr ⟨h, by simp⟩, rfl⟩
    · exact .inr ⟨_, List.mem_filter.mpr ⟨h, by simp⟩, rfl⟩
theorem near_len (w : Wld) (p : Tx) : (nearW w p).length ≤ w.kin.length + w.kin.length := by
  unfold nearW
  rw [srt_len, List.length_append, List.length_map, List.length_map]
  have := List.length_filter_le (fun q : Tx × Tx => decide (q.1 = p)) w.kin
  have := List.length_filter_le (fun q : Tx × Tx => decide (q.2 = p)) w.kin
  omega
theorem toks3 {m p p' g : Tx} (h : W.keyToks (pd (eTup [m, p, g])) = W.keyToks (pd (eTup [m, p', g]))) : p = p' := by
  simp only [eTup, List.map_cons, List.map_nil, pd, pdL, W.keyToks, W.keyToksAll, List.cons_append, List.nil_append, List.append_assoc, List.cons.injEq, Sum.inr.injEq, true_and, and_true] at h
  cases p; cases p'
  congr 1
  exact Array.toList_inj.mp h
theorem lt3 {m p p' g : Tx} (h : W.dataLt (pd (.str p')) (pd (.str p)) = false) : W.dataLt (pd (eTup [m, p', g])) (pd (eTup [m, p, g])) = false := by
  have ea : ∀ x y : Tx, W.alike (.str x) (.str y) = true := fun x y => by rw [W.alike]
  have er : ∀ x : Tx, PyData.eqv (.str x) (.str x) = true := fun x => by rw [eqv_str]; simp
  simp only [eTup, List.map_cons, List.map_nil, pd, pdL] at h ⊢
  rw [W.dataLt_tuple, W.dataLt_cons (ea _ _), if_pos (er m), W.dataLt_cons (ea _ _)]
  split
  · rw [W.dataLt_cons (ea _ _), if_pos (er g)]
    exact lex_irrefl _
  · exact h
theorem getLast3 {m p q g : Tx} : lastP g [m, p, q] = decide (q = g) := by simp [lastP]
theorem getLast2 {m p g : Tx} : lastP g [m, p] = decide (p = g) := by simp [lastP]
/-- the law's search finds the same -/
theorem lawI_eq (w : Wld) (m g : Tx) : lawI w g 3 [[m]] = inter w m g := by
  have s1 : srt eTup [[m]] = [[m]] := List.perm_singleton.mp (srt_perm eTup [[m]])
  unfold inter
  by_cases h1 : m = g
  · rw [if_pos h1, lawI, s1]
    simp [lastP, h1]
  · rw [if_neg h1, lawI, s1]
    have e1 : [[m]].find? (lastP g) = none := by simp [lastP, h1]
    rw [e1]
    simp only
    have m1 : moreI w [[m]] = (nearW w m).map fun p => [m, p] := by simp [moreI]
    rw [m1, lawI]
    by_cases h2 : g ∈ nearW w m
    · rw [if_pos h2]
      cases e2 : (srt eTup ((nearW w m).map fun p => [m, p])).find? (lastP g) with
      | none =>
        have := List.find?_eq_none.mp e2 [m, g] (mem_srt.mpr (List.mem_map.mpr ⟨g, h2, rfl⟩))
        rw [getLast2] at this
        simp at this
      | some r =>
        have h3 := List.find?_some e2
        obtain ⟨p, hp, rfl⟩ := List.mem_map.mp (mem_srt.mp (List.mem_of_find?_eq_some e2))
        rw [getLast2, decide_eq_true_eq] at h3
        rw [h3]
    · rw [if_neg h2]
      have e2 : (srt eTup ((nearW w m).map fun p => [m, p])).find? (lastP g) = none := List.find?_eq_none.mpr fun r hr => by
        obtain ⟨p, hp, rfl⟩ := List.mem_map.mp (mem_srt.mp hr)
        rw [getLast2, decide_eq_true_eq]
        exact fun z => h2 (z ▸ hp)
      rw [e2]
      simp only
      have m2 : moreI w ((nearW w m).map fun p => [m, p]) = (nearW w m).flatMap fun p => (nearW w p).map fun q => [m, p, q] := by
        unfold moreI
        rw [List.flatMap_map]
        rfl
      rw [m2, lawI]
      have key : (srt eTup ((nearW w m).flatMap fun p => (nearW w p).map fun q => [m, p, q])).find? (lastP g) = (((nearW w m).filter fun p => decide (g ∈ nearW w p)).map fun p => [m, p, g]).find? fun _ => true := by
        refine head_sorted (e := eTup) (P := fun r => ∃ p, r = [m, p, g]) ?_ ?_ (srt_pw _ _) ?_ fun x => ?_
        · rintro a b ⟨p, rfl⟩ ⟨p', rfl⟩ h
          rw [toks3 h]
        · intro a ha hq
          obtain ⟨p, hp, hx⟩ := List.mem_flatMap.mp (mem_srt.mp ha)
          obtain ⟨q, hq2, rfl⟩ := List.mem_map.mp hx
          rw [getLast3, decide_eq_true_eq] at hq
          exact ⟨p, by rw [hq]⟩
        · rw [List.pairwise_map]
          refine (List.Pairwise.filter _ ?_).imp fun h => lt3 h
          exact srt_pw D.str _
        · rw [mem_srt]
          constructor
          · rintro ⟨ha, hq⟩
            obtain ⟨p, hp, hx⟩ := List.mem_flatMap.mp ha
            obtain ⟨q, hq2, rfl⟩ := List.mem_map.mp hx
            rw [getLast3, decide_eq_true_eq] at hq
            subst hq
            exact ⟨List.mem_map.mpr ⟨p, List.mem_filter.mpr ⟨hp, decide_eq_true hq2⟩, rfl⟩, rfl⟩
          · rintro ⟨ha, _⟩
            obtain ⟨p, hp, rfl⟩ := List.mem_map.mp ha
            obtain ⟨h3, h4⟩ := List.mem_filter.mp hp
            exact ⟨List.mem_flatMap.mpr ⟨p, h3, List.mem_map.mpr ⟨g, of_decide_eq_true h4, rfl⟩⟩, by rw [getLast3]; simp⟩
      rw [key]
      have e3 : ∀ l : List Tx, ((l.filter fun p => decide (g ∈ nearW w p)).map fun p => [m, p, g]).find? (fun _ => true) = (l.find? fun p => decide (g ∈ nearW w p)).map fun p => [m, p, g] := by
        intro l
        induction l with
        | nil => rfl
        | cons p l ih =>
          rw [List.filter_cons, List.find?_cons]
          cases z : decide (g ∈ nearW w p) with
          | true => simp
          | false => simpa using ih
      rw [e3]
      cases (nearW w m).find? fun p => decide (g ∈ nearW w p) <;> rfl
def freeW (w : Wld) (g : Tx) : List Tx := w.members.filter fun m => (inter w m g).isNone
def eMB (r : Tx × List Tx) : D := .tup [.str r.1, .tup (r.2.map D.str)]
def rowsV (w : Wld) (p : Tx) (C : List (Tx × List Tx)) : List (Tx × List Tx) := ((w.ballots.filter fun b => decide (b.purpose = p)).map fun b => (b.member, b.row)) ++ C
def votesW (w : Wld) (a : Ask) (C : List (Tx × List Tx)) : Nat := ((rowsV w a.purpose C).filter fun r => decide (a.name ∈ r.2) && decide (r.1 ∈ freeW w a.grantee)).length
def barW (w : Wld) (a : Ask) : Int := if (((freeW w a.grantee).length : Int) + 1) / 2 > 1 then (((freeW w a.grantee).length : Int) + 1) / 2 else 1
def idxW (w : Wld) (nm : Tx) : Nat := (w.asks.map (·.name)).findIdx fun x => decide (x = nm)
/-- rows by votes and spot -/
def eRow (r : Int × (Int × Int) × Tx) : D := .tup [.int r.1, .tup [.int r.2.1.1, .int r.2.1.2], .str r.2.2]
def rowOf (w : Wld) (C : List (Tx × List Tx)) (a : Ask) : Int × (Int × Int) × Tx := (0 - (votesW w a C : Int), (a.amounts.sum, (idxW w a.name : Int)), a.name)
def rowsG (w : Wld) (p : Tx) (C : List (Tx × List Tx)) : List (Int × (Int × Int) × Tx) := ((w.asks.filter fun a => decide (a.purpose = p)).filter fun a => decide (barW w a ≤ votesW w a C)).map (rowOf w C)
/-- those that fit, up to the first that does not -/
def fits : Int → List (Int × (Int × Int) × Tx) → List Tx
  | _, [] => []
  | left, r :: rs => if left - r.2.1.1 < 0 then [] else r.2.2 :: fits (left - r.2.1.1) rs
def grantW (w : Wld) (p : Tx) (C : List (Tx × List Tx)) : List Tx := match w.rounds.find? fun r => decide (r.purpose = p) with
  | none => []
  | some r => fits r.budget (srt eRow (rowsG w p C))
/-! ### what is needed of a drawn world -/
section
variable {w : Wld} {ma mm : Nat}
theorem Wld.Ok.near_ok (h : w.Ok ma mm) {p x : Tx} (hx : x ∈ nearW w p) : x ∈ pool := by
  rcases mem_near.mp hx with z | z
  · exact (h.kin _ z).2
  · exact (h.kin _ z).1
theorem Wld.Ok.near_len (h : w.Ok ma mm) (p : Tx) : (nearW w p).length ≤ 28 := by
  have h1 := CM.near_len w p
  have h2 := h.klen
  omega
theorem below_str (n : Nat) (xs : List Tx) : belowL n (xs.map D.str) = true := below_of fun _ => rfl
theorem below_eTO (n : Nat) (x : Option (List Tx)) : MP.below n (eTO x) = true := by
  cases x with
  | none => rfl
  | some xs => exact below_str n xs
theorem rd_eTO (M : Sto) (x : Option (List Tx)) : MP.rd M (eTO x) = eTO x := by cases x <;> rfl
theorem isn_eTO (x : Option (List Tx)) : (match eTO x with
    | .non => true
    | _ => false) = x.isNone := by cases x <;> rfl
theorem ask_find (h : (w.asks.map (·.name)).Nodup) {a : Ask} (ha : a ∈ w.asks) : w.asks.find? (fun b => decide (b.name = a.name)) = some a := by
  generalize w.asks = l at *
  induction l with
  | nil => cases ha
  | cons b l ih =>
    rw [List.map_cons, List.nodup_cons] at h
    rw [List.find?_cons]
    by_cases e : b.name = a.name
    · rw [decide_eq_true e]
      rcases List.mem_cons.mp ha with z | z
      · rw [z]
      · exact absurd (List.mem_map.mpr ⟨a, z, e.symm⟩) h.1
    · rw [decide_eq_false e]
      rcases List.mem_cons.mp ha with z | z
      · exact absurd (by rw [z]) e
      · exact ih h.2 z
theorem names_nodup : names.Nodup := by decide +kernel
theorem Wld.Ok.nd (h : w.Ok ma mm) : (w.asks.map (·.name)).Nodup := by
  rw [h.anm]
  exact names_nodup.sublist (List.take_sublist _ _)
theorem Wld.Ok.nm (h : w.Ok ma mm) {a : Ask} (ha : a ∈ w.asks) : a.name ∈ names := by
  have : a.name ∈ w.asks.map (·.name) := List.mem_map.mpr ⟨a, ha, rfl⟩
  rw [h.anm] at this
  exact List.mem_of_mem_take this
end
theorem pure_of {F : FT} {f : Nat} {ds : List D} {d : D} {M M2 : Sto} (h : F f ds [] = some (d, M2)) (hb : belowL 0 ds = true) (hd : MP.below 0 d = true) (hr : MP.rd M2 d = d) : callM F .pure f ds M = some (d, M) := by
  have := call_pure (M := M) hb h (by rw [hr]; exact hd)
  rwa [hr] at this
theorem line_of {α : Type} {l : List α} {k : Nat} (h : l.length ≤ k) (hk : k ≤ 1000000) : l.length ≤ LINE := by unfold LINE; omega
theorem asg_nm (i : Nat) (x : D) (env : MP.Env) : asg (.nm i) x env = some (env.set i (some x)) := rfl
theorem asg_tp2 (i j : Nat) (x y : D) (env : MP.Env) : asg (.tp [i, j]) (.tup [x, y]) env = some ((env.set i (some x)).set j (some y)) := rfl
theorem asg_tp3 (i j k : Nat) (x y z : D) (env : MP.Env) : asg (.tp [i, j, k]) (.tup [x, y, z]) env = some (((env.set i (some x)).set j (some y)).set k (some z)) := rfl
theorem map_str_inj {xs ys : List Tx} (h : xs.map D.str = ys.map D.str) : xs = ys := by
  induction xs generalizing ys with
  | nil => cases ys with
    | nil => rfl
    | cons y ys => cases h
  | cons x xs ih => cases ys with
    | nil => cases h
    | cons y ys =>
      rw [List.map_cons, List.map_cons] at h
      injection h with h1 h2
      injection h1 with h1
      rw [h1, ih h2]
end CM

/-! CM3: how long a world's repr is. -/
namespace CM
open MP PySem PyProof.Rows L2
theorem pool_rb : ∀ x ∈ pool, (reprText x).length ≤ 12 := by decide +kernel
theorem names_rb : ∀ x ∈ names, (reprText x).length ≤ 12 := by decide +kernel
theorem pur_rb {x : Tx} (h : x = "p" ∨ x = "r") : (reprText x).length ≤ 12 := by
  rcases h with rfl | rfl <;> decide +kernel
theorem rb_few {α : Type} {e : α → D} {l : List α} {b h k B : Nat} (H : ∀ a ∈ l, Rb (e a) b h) (hk : l.length ≤ k) (hB : k * (b + 2) + 3 ≤ B) {h' : Nat} (hh : h + 1 ≤ h') : Rb (.list (l.map e)) B h' := by
  refine (Rb.list (b := b) (h := h) (ds := l.map e) fun d hd => ?_).mono ?_ hh
  · obtain ⟨a, ha, rfl⟩ := List.mem_map.mp hd
    exact H a ha
  · rw [List.length_map]
    have := Nat.mul_le_mul_right (b + 2) hk
    omega
theorem rb_fewT {α : Type} {e : α → D} {l : List α} {b h k B : Nat} (H : ∀ a ∈ l, Rb (e a) b h) (hk : l.length ≤ k) (hB : k * (b + 2) + 3 ≤ B) {h' : Nat} (hh : h + 1 ≤ h') : Rb (.tup (l.map e)) B h' := by
  refine (Rb.tup (b := b) (h := h) (ds := l.map e) fun d hd => ?_).mono ?_ hh
  · obtain ⟨a, ha, rfl⟩ := List.mem_map.mp hd
    exact H a ha
  · rw [List.length_map]
    have := Nat.mul_le_mul_right (b + 2) hk
    omega
theorem rb_two {x y : D} {b h : Nat} (h1 : Rb x b h) (h2 : Rb y b h) : Rb (.tup [x, y]) (2 * (b + 2) + 3) (h + 1) := Rb.tup fun d hd => by
  rcases List.mem_cons.mp hd with rfl | hd
  · exact h1
  · rcases List.mem_cons.mp hd with rfl | hd
    · exact h2
    · cases hd
theorem rb_kin {p : Tx × Tx} (h : p.1 ∈ pool ∧ p.2 ∈ pool) : Rb (eKin p) 31 1 := rb_two (b := 12) (.str (pool_rb _ h.1) 0) (.str (pool_rb _ h.2) 0)
theorem rb_party (x : Tx) (h : x ∈ pool) : Rb (.tup [.str x, .tup [.str x]]) 41 2 := rb_two (b := 17) (.str (Nat.le_trans (pool_rb _ h) (by decide)) 1) ((Rb.tup (b := 12) (h := 0) fun d hd => by
  rcases List.mem_cons.mp hd with rfl | hd
  · exact .str (pool_rb _ h) 0
  · cases hd).mono (by show 1 * (12 + 2) + 3 ≤ 17; decide) (by decide))
theorem rb_all : Rb (.tup [.tup [.str "all", .int 1]]) 47 2 := (Rb.tup (b := 31) (h := 1) fun d hd => by
  rcases List.mem_cons.mp hd with rfl | hd
  · exact rb_two (b := 12) (.str (by decide +kernel) 0) ((Rb.int (by decide) (by decide) 0).mono (by decide) (Nat.le_refl _))
  · cases hd).mono (by decide) (by decide)
theorem rb_rnd {r : Rnd} (h : (r.purpose = "p" ∨ r.purpose = "r") ∧ 1 ≤ r.budget ∧ r.budget ≤ 100000 ∧ 1 ≤ r.most ∧ r.most ≤ 4 ∧ (r.shut = 0 ∨ r.shut = 1)) : Rb (eRnd r) 73 1 := by
  obtain ⟨h1, h2, h3, h4, h5, h6⟩ := h
  have i1 : Rb (.int r.budget) 12 0 := (Rb.int (by omega) (by omega) 0).mono (by decide) (Nat.le_refl _)
  have i2 : Rb (.int r.most) 12 0 := (Rb.int (by omega) (by omega) 0).mono (by decide) (Nat.le_refl _)
  have i3 : Rb (.int 50) 12 0 := (Rb.int (by omega) (by omega) 0).mono (by decide) (Nat.le_refl _)
  have i4 : Rb (.int r.shut) 12 0 := (Rb.int (by omega) (by omega) 0).mono (by decide) (Nat.le_refl _)
  refine Rb.tup (b := 12) (h := 0) fun d hd => ?_
  simp only [List.mem_cons, List.not_mem_nil, or_false] at hd
  rcases hd with rfl | rfl | rfl | rfl | rfl
  · exact .str (pur_rb h1) 0
  · exact i1
  · exact i2
  · exact i3
  · exact i4
theorem rb_ask {a : Ask} (hn : a.name ∈ names) (h : a.grantee ∈ pool ∧ (a.purpose = "p" ∨ a.purpose = "r") ∧ a.amounts.length ≤ 4 ∧ a.amounts ≠ [] ∧ ∀ n ∈ a.amounts, 1 ≤ n ∧ n ≤ 20) : Rb (eAsk a) 248 3 := by
  obtain ⟨h1, h2, h3, _, h4⟩ := h
  refine Rb.tup (b := 47) (h := 2) fun d hd => ?_
  simp only [List.mem_cons, List.not_mem_nil, or_false] at hd
  rcases hd with rfl | rfl | rfl | rfl | rfl
  · exact .str (Nat.le_trans (names_rb _ hn) (by decide)) 2
  · exact .str (Nat.le_trans (pool_rb _ h1) (by decide)) 2
  · exact .str (Nat.le_trans (pur_rb h2) (by decide)) 2
  · exact rb_fewT (b := 9) (h := 0) (fun n hn => Rb.int (by have := h4 n hn; omega) (by have := h4 n hn; omega) 0) h3 (by decide) (by decide)
  · exact rb_all
theorem rb_bal {b : Bal} (h : (b.purpose = "p" ∨ b.purpose = "r") ∧ b.member ∈ pool ∧ b.row.length ≤ 5 ∧ ∀ q ∈ b.row, q ∈ names) : Rb (eBal b) 228 2 := by
  obtain ⟨h1, h2, h3, h4⟩ := h
  refine Rb.tup (b := 73) (h := 1) fun d hd => ?_
  simp only [List.mem_cons, List.not_mem_nil, or_false] at hd
  rcases hd with rfl | rfl | rfl
  · exact .str (Nat.le_trans (pur_rb h1) (by decide)) 1
  · exact .str (Nat.le_trans (pool_rb _ h2) (by decide)) 1
  · exact rb_fewT (b := 12) (h := 0) (fun n hn => .str (names_rb _ (h4 n hn)) 0) h3 (by decide) (by decide)
theorem rk_of {x : Tx} (h : (reprText x).length ≤ 12) : Rk (.inr x) 12 := ⟨x, rfl, h⟩
theorem rb_nil : Rb (.list []) 10000 4 := (Rb.list (b := 0) (h := 0) (ds := []) fun d hd => nomatch hd).mono (by decide) (by decide)
theorem rb_w {w : Wld} {ma mm : Nat} (ok : w.Ok ma mm) (h1 : ma ≤ 20) (h2 : mm ≤ 20) : Rb (eW w) 150000 5 := by
  have e1 := ok.mlen
  have e2 := ok.alen
  have e3 := ok.blen
  have r1 : Rb (.list (pool.map fun x => .tup [.str x, .tup [.str x]])) 10000 4 := rb_few (b := 41) (h := 2) (k := 12) rb_party (by decide) (by decide) (by decide)
  have r2 : Rb (.list [.str "p", .str "r"]) 10000 4 := rb_few (α := Tx) (e := D.str) (l := ["p", "r"]) (b := 12) (h := 0) (k := 2) (fun x hx => .str (pur_rb (by simpa using hx)) 0) (by decide) (by decide) (by decide)
  have r3 : Rb (.list (w.members.map D.str)) 10000 4 := rb_few (b := 12) (h := 0) (k := 20) (fun x hx => .str (pool_rb x (ok.mem x hx)) 0) (by omega) (by decide) (by decide)
  have r4 : Rb (.list (w.kin.map eKin)) 10000 4 := rb_few (b := 31) (h := 1) (k := 14) (fun p hp => rb_kin (ok.kin p hp)) ok.klen (by decide) (by decide)
  have r5 : Rb (.list (w.rounds.map eRnd)) 10000 4 := rb_few (b := 73) (h := 1) (k := 2) (fun r hr => rb_rnd (ok.rnd r hr)) ok.rlen (by decide) (by decide)
  have r6 : Rb (.list (w.asks.map eAsk)) 10000 4 := rb_few (b := 248) (h := 3) (k := 20) (fun a ha => rb_ask (ok.nm ha) (ok.ask a ha)) (by omega) (by decide) (by decide)
  have r7 : Rb (.list (w.ballots.map eBal)) 10000 4 := rb_few (b := 228) (h := 2) (k := 40) (fun b hb => rb_bal (ok.bal b hb)) (by omega) (by decide) (by decide)
  refine (Rb.dict (a := 12) (b := 10000) (h := 4) (kvs := kvW w) fun q hq => ?_).mono (by show 14 * 10016 + 3 ≤ 150000; decide) (Nat.le_refl _)
  unfold kvW at hq
  simp only [List.mem_cons, List.not_mem_nil, or_false] at hq
  rcases hq with rfl | rfl | rfl | rfl | rfl | rfl | rfl | rfl | rfl | rfl | rfl | rfl | rfl | rfl
  · exact ⟨rk_of (by decide +kernel), r1⟩
  · exact ⟨rk_of (by decide +kernel), r2⟩
  · exact ⟨rk_of (by decide +kernel), rb_nil⟩
  · exact ⟨rk_of (by decide +kernel), rb_nil⟩
  · exact ⟨rk_of (by decide +kernel), rb_nil⟩
  · exact ⟨rk_of (by decide +kernel), rb_nil⟩
  · exact ⟨rk_of (by decide +kernel), r3⟩
  · exact ⟨rk_of (by decide +kernel), r4⟩
  · exact ⟨rk_of (by decide +kernel), r5⟩
  · exact ⟨rk_of (by decide +kernel), r6⟩
  · exact ⟨rk_of (by decide +kernel), rb_nil⟩
  · exact ⟨rk_of (by decide +kernel), r7⟩
  · exact ⟨rk_of (by decide +kernel), rb_nil⟩
  · exact ⟨rk_of (by decide +kernel), rb_nil⟩
theorem repr_w {w : Wld} {ma mm : Nat} (ok : w.Ok ma mm) (h1 : ma ≤ 20) (h2 : mm ≤ 20) (M : Sto) : blt1 .repr M [eW w] = some (.str (pdR (eW w)).shown) := repr_is (rb_w ok h1 h2) rfl (by decide) (by decide) M
end CM

namespace K34
open MP PySem
def b_ask_of : SB := (.cons (.ret (.idx (.comp false [2] (.nm 2) .seq (.idx (.var 0) (.str "asks")) .absent (.cmp .eq (.idx (.var 2) (.int 0)) (.var 1)) (.var 2)) (.int 0))) .nil)
abbrev f_ask_of : Nat := 0
def b_round_of : SB := (.cons (.setv 2 (.comp false [3] (.nm 3) .seq (.idx (.var 0) (.str "rounds")) .absent (.cmp .eq (.idx (.var 3) (.int 0)) (.var 1)) (.var 3))) (.cons (.ret (.ife (.var 2) (.idx (.var 2) (.int 0)) .non)) .nil))
abbrev f_round_of : Nat := 1
def b_kin_of : SB := (.cons (.setv 2 (.comp false [3, 4] (.tp [3, 4]) .seq (.idx (.var 0) (.str "kin")) .absent (.cmp .eq (.var 3) (.var 1)) (.var 4))) (.cons (.ret (.blt false .sorted (.cons (.bin false .add (.var 2) (.comp false [3, 4] (.tp [3, 4]) .seq (.idx (.var 0) (.str "kin")) .absent (.cmp .eq (.var 4) (.var 1)) (.var 3))) .nil))) .nil))
abbrev f_kin_of : Nat := 2
def b_interest : SB := (.cons (.setv 3 (.idx (.call .pure 0 (.cons (.var 0) (.cons (.var 2) .nil))) (.int 1))) (.cons (.ife (.cmp .eq (.var 1) (.var 3)) (.cons (.ret (.tup (.cons (.var 1) .nil))) .nil) .nil) (.cons (.setv 4 (.call .pure 2 (.cons (.var 0) (.cons (.var 1) .nil)))) (.cons (.ife (.cmp .inn (.var 3) (.var 4)) (.cons (.ret (.tup (.cons (.var 1) (.cons (.var 3) .nil)))) .nil) .nil) (.cons (.setv 5 (.comp false [6] (.nm 6) .seq (.var 4) .absent (.cmp .inn (.var 3) (.call .pure 2 (.cons (.var 0) (.cons (.var 6) .nil)))) (.tup (.cons (.var 1) (.cons (.var 6) (.cons (.var 3) .nil)))))) (.cons (.ret (.ife (.var 5) (.idx (.var 5) (.int 0)) .non)) .nil))))))
abbrev f_interest : Nat := 3
def b_electors : SB := (.cons (.ret (.comp true [2] (.nm 2) .seq (.idx (.var 0) (.str "members")) .absent (.isN false (.call .pure 3 (.cons (.var 0) (.cons (.var 2) (.cons (.var 1) .nil))))) (.var 2))) .nil)
abbrev f_electors : Nat := 4
def b_missing : SB := (.cons (.setv 2 (.call .pure 1 (.cons (.var 0) (.cons (.var 1) .nil)))) (.cons (.ife (.or (.isN false (.var 2)) (.cmp .eq (.idx (.var 2) (.int 4)) (.int 1))) (.cons (.ret (.lst true .nil)) .nil) .nil) (.cons (.setv 3 (.comp false [4] (.nm 4) .seq (.idx (.var 0) (.str "ballots")) .absent (.cmp .eq (.idx (.var 4) (.int 0)) (.var 1)) (.idx (.var 4) (.int 1)))) (.cons (.ret (.comp true [5] (.nm 5) .seq (.idx (.var 0) (.str "members")) .absent (.cmp .nin (.var 5) (.var 3)) (.var 5))) .nil))))
abbrev f_missing : Nat := 5
def b_votes : SB := (.cons (.setv 3 (.idx (.call .pure 0 (.cons (.var 0) (.cons (.var 1) .nil))) (.int 2))) (.cons (.setv 4 (.comp false [6] (.nm 6) .seq (.idx (.var 0) (.str "ballots")) .absent (.cmp .eq (.idx (.var 6) (.int 0)) (.var 3)) (.tup (.cons (.idx (.var 6) (.int 1)) (.cons (.idx (.var 6) (.int 2)) .nil))))) (.cons (.setv 5 (.call .pure 4 (.cons (.var 0) (.cons (.var 1) .nil)))) (.cons (.ret (.blt false .len (.cons (.comp false [7, 8] (.tp [7, 8]) .seq (.bin false .add (.var 4) (.blt false .list (.cons (.var 2) .nil))) .absent (.and (.cmp .inn (.var 1) (.var 8)) (.cmp .inn (.var 7) (.var 5))) (.var 7)) .nil))) .nil))))
abbrev f_votes : Nat := 6
def b_quorum : SB := (.cons (.ret (.blt false .max2 (.cons (.int 1) (.cons (.bin false .fdiv (.bin false .add (.blt false .len (.cons (.call .pure 4 (.cons (.var 0) (.cons (.var 1) .nil))) .nil)) (.int 1)) (.int 2)) .nil)))) .nil)
abbrev f_quorum : Nat := 7
def b_others_of : SB := (.cons (.setv 2 (.idx (.call .pure 0 (.cons (.var 0) (.cons (.var 1) .nil))) (.int 2))) (.cons (.ret (.comp false [3] (.nm 3) .seq (.idx (.var 0) (.str "asks")) .absent (.and (.cmp .eq (.idx (.var 3) (.int 2)) (.var 2)) (.cmp .ne (.idx (.var 3) (.int 0)) (.var 1))) (.idx (.var 3) (.int 0)))) .nil))
abbrev f_others_of : Nat := 8
def b_place : SB := (.cons (.setv 2 (.comp false [3] (.nm 3) .seq (.idx (.var 0) (.str "asks")) .absent .absent (.idx (.var 3) (.int 0)))) (.cons (.ret (.tup (.cons (.blt false .sum (.cons (.idx (.call .pure 0 (.cons (.var 0) (.cons (.var 1) .nil))) (.int 3)) .nil)) (.cons (.idxof (.var 2) (.var 1)) .nil)))) .nil))
abbrev f_place : Nat := 9
def b_needs : SB := (.cons (.setv 2 (.call .pure 6 (.cons (.var 0) (.cons (.var 1) .nil)))) (.cons (.setv 3 (.lst true .nil)) (.cons (.for_ (.nm 4) .seq (.call .pure 8 (.cons (.var 0) (.cons (.var 1) .nil))) .absent (.cons (.setv 5 (.ife (.cmp .lt (.call .pure 9 (.cons (.var 0) (.cons (.var 4) .nil))) (.call .pure 9 (.cons (.var 0) (.cons (.var 1) .nil)))) (.var 2) (.bin false .add (.var 2) (.int 1)))) (.cons (.exp (.app (.var 3) (.tup (.cons (.var 4) (.cons (.blt false .max2 (.cons (.int 0) (.cons (.bin false .sub (.blt false .max2 (.cons (.var 5) (.cons (.call .pure 7 (.cons (.var 0) (.cons (.var 4) .nil))) .nil))) (.call .pure 6 (.cons (.var 0) (.cons (.var 4) .nil)))) .nil))) .nil))))) .nil))) (.cons (.frz 3) (.cons (.ret (.var 3)) .nil)))))
abbrev f_needs : Nat := 10
def b_law_state : SB := (.cons (.setv 1 (.comp true [2] (.nm 2) .seq (.slc false (.var 0) .absent (.int 63)) .absent .absent (.blt false .abs (.cons (.var 2) .nil)))) (.cons (.ife (.cmp .eq (.blt false .len (.cons (.var 1) .nil)) (.int 0)) (.cons (.setv 1 (.lst true (.cons (.int 0) .nil))) .nil) .nil) (.cons (.ret (.lst true (.cons (.int 0) (.cons (.var 1) .nil)))) .nil)))
abbrev f_law_state : Nat := 11
def b_law_take : SB := (.cons (.setv 2 (.idx (.var 0) (.int 1))) (.cons (.setv 3 (.bin false .mod (.idx (.var 0) (.int 0)) (.blt false .len (.cons (.var 2) .nil)))) (.cons (.setv 4 (.idx (.var 2) (.var 3))) (.cons (.ife (.cmp .ge (.var 4) (.int 1000000000000000000)) (.cons (.seti (.var 2) (.var 3) (.bin false .fdiv (.var 4) (.var 1))) (.cons (.ret (.bin false .mod (.var 4) (.var 1))) .nil)) .nil) (.cons (.seti (.var 0) (.int 0) (.bin false .add (.idx (.var 0) (.int 0)) (.int 1))) (.cons (.setv 5 (.bin false .mod (.blt false .int (.cons (.bin false .add (.bin false .mul (.var 4) (.int 48271)) (.bin false .mul (.idx (.var 0) (.int 0)) (.int 69621))) .nil)) (.int 2147483647))) (.cons (.setv 5 (.bin false .mod (.blt false .int (.cons (.bin false .add (.bin false .mul (.var 5) (.int 16807)) (.bin false .mul (.idx (.var 0) (.int 0)) (.int 7919))) .nil)) (.int 1000000007))) (.cons (.ret (.bin false .mod (.bin false .fdiv (.var 5) (.int 7)) (.var 1))) .nil))))))))
abbrev f_law_take : Nat := 12
def b_law_world : SB := (.cons (.setv 3 (.lst false (.cons (.str "ann") (.cons (.str "bob") (.cons (.str "cy") (.cons (.str "dan") (.cons (.str "eve") (.cons (.str "fay") (.cons (.str "gus") (.cons (.str "hal") (.cons (.str "ida") (.cons (.str "jo") (.cons (.str "kim") (.cons (.str "lee") .nil)))))))))))))) (.cons (.setv 4 (.call .tr 12 (.cons (.var 0) (.cons (.int 12) .nil)))) (.cons (.setv 5 (.cmp .gt (.call .tr 12 (.cons (.var 0) (.cons (.int 3) .nil))) (.int 0))) (.cons (.setv 6 (.ife (.var 5) (.bin false .sub (.var 2) (.call .tr 12 (.cons (.var 0) (.cons (.blt false .min2 (.cons (.int 4) (.cons (.var 2) .nil))) .nil)))) (.call .tr 12 (.cons (.var 0) (.cons (.bin false .add (.var 2) (.int 1)) .nil))))) (.cons (.setv 7 (.comp false [9] (.nm 9) .rng1 (.var 6) .absent .absent (.idx (.var 3) (.bin false .mod (.bin false .add (.var 4) (.bin false .mul (.int 5) (.var 9))) (.int 12))))) (.cons (.setv 8 (.lst true .nil)) (.cons (.for_ (.nm 9) .rng1 (.idx (.lst false (.cons (.int 0) (.cons (.int 2) (.cons (.int 6) (.cons (.int 14) .nil))))) (.call .tr 12 (.cons (.var 0) (.cons (.ife (.var 5) (.int 2) (.int 4)) .nil)))) .absent (.cons (.setp 20 21 (.idx (.var 3) (.call .tr 12 (.cons (.var 0) (.cons (.int 12) .nil)))) (.idx (.var 3) (.call .tr 12 (.cons (.var 0) (.cons (.int 12) .nil))))) (.cons (.ife (.and (.cmp .lt (.var 20) (.var 21)) (.cmp .nin (.tup (.cons (.var 20) (.cons (.var 21) .nil))) (.var 8))) (.cons (.exp (.app (.var 8) (.tup (.cons (.var 20) (.cons (.var 21) .nil))))) .nil) .nil) .nil))) (.cons (.setv 10 (.lst true .nil)) (.cons (.setv 11 (.lst false (.cons (.str "q5") (.cons (.str "a") (.cons (.str "zoo") (.cons (.str "b") (.cons (.str "q1") (.cons (.str "m") (.cons (.str "c") (.cons (.str "q10") .nil)))))))))) (.cons (.for_ (.nm 9) .rng1 (.bin false .add (.int 1) (.call .tr 12 (.cons (.var 0) (.cons (.var 1) .nil)))) .absent (.cons (.setv 16 (.blt false .tuple (.cons (.comp false [25] (.nm 25) .rng1 (.bin false .add (.int 1) (.call .tr 12 (.cons (.var 0) (.cons (.int 4) .nil)))) .absent .absent (.bin false .add (.int 1) (.call .tr 12 (.cons (.var 0) (.cons (.idx (.lst false (.cons (.int 3) (.cons (.int 20) .nil))) (.call .tr 12 (.cons (.var 0) (.cons (.int 2) .nil)))) .nil))))) .nil))) (.cons (.setv 13 (.ife (.cmp .eq (.call .tr 12 (.cons (.var 0) (.cons (.int 6) .nil))) (.int 0)) (.str "r") (.str "p"))) (.cons (.setv 17 (.ife (.var 5) (.idx (.var 3) (.bin false .mod (.bin false .add (.var 4) (.bin false .mul (.int 5) (.bin false .add (.var 6) (.call .tr 12 (.cons (.var 0) (.cons (.bin false .sub (.int 12) (.var 6)) .nil)))))) (.int 12))) (.idx (.var 3) (.call .tr 12 (.cons (.var 0) (.cons (.int 12) .nil)))))) (.cons (.exp (.app (.var 10) (.tup (.cons (.idx (.var 11) (.var 9)) (.cons (.var 17) (.cons (.var 13) (.cons (.var 16) (.cons (.tup (.cons (.tup (.cons (.str "all") (.cons (.int 1) .nil))) .nil)) .nil)))))))) .nil))))) (.cons (.frz 10) (.cons (.setv 12 (.lst true .nil)) (.cons (.for_ (.nm 13) .seq (.lst false (.cons (.str "p") (.cons (.str "r") .nil))) .absent (.cons (.ife (.cmp .gt (.call .tr 12 (.cons (.var 0) (.cons (.int 8) .nil))) (.int 0)) (.cons (.setv 22 (.bin false .add (.int 1) (.idx (.lst false (.cons (.call .tr 12 (.cons (.var 0) (.cons (.int 12) .nil))) (.cons (.call .tr 12 (.cons (.var 0) (.cons (.int 60) .nil))) (.cons (.int 0) (.cons (.int 1000) .nil))))) (.call .tr 12 (.cons (.var 0) (.cons (.int 4) .nil)))))) (.cons (.ife (.var 5) (.cons (.setv 22 (.bin false .add (.blt false .sum (.cons (.slc false (.comp false [24] (.nm 24) .seq (.var 10) .absent (.cmp .eq (.idx (.var 24) (.int 2)) (.var 13)) (.blt false .sum (.cons (.idx (.var 24) (.int 3)) .nil))) .absent (.bin false .add (.int 1) (.call .tr 12 (.cons (.var 0) (.cons (.int 3) .nil))))) .nil)) (.call .tr 12 (.cons (.var 0) (.cons (.int 3) .nil))))) (.cons (.setv 22 (.blt false .max2 (.cons (.int 1) (.cons (.var 22) .nil)))) .nil)) .nil) (.cons (.exp (.app (.var 12) (.tup (.cons (.var 13) (.cons (.var 22) (.cons (.bin false .add (.int 1) (.call .tr 12 (.cons (.var 0) (.cons (.int 4) .nil)))) (.cons (.int 50) (.cons (.blt false .int (.cons (.cmp .eq (.call .tr 12 (.cons (.var 0) (.cons (.int 6) .nil))) (.int 0)) .nil)) .nil)))))))) .nil))) .nil) .nil)) (.cons (.setv 14 (.lst true .nil)) (.cons (.for_ (.nm 15) .seq (.var 12) .absent (.cons (.setv 18 (.comp false [24] (.nm 24) .seq (.var 10) .absent (.cmp .eq (.idx (.var 24) (.int 2)) (.idx (.var 15) (.int 0))) (.idx (.var 24) (.int 0)))) (.cons (.setv 6 (.ife (.var 5) (.blt false .max2 (.cons (.int 0) (.cons (.bin false .sub (.bin false .sub (.blt false .len (.cons (.var 7) .nil)) (.int 1)) (.call .tr 12 (.cons (.var 0) (.cons (.int 3) .nil)))) .nil))) (.call .tr 12 (.cons (.var 0) (.cons (.bin false .add (.blt false .len (.cons (.var 7) .nil)) (.int 1)) .nil))))) (.cons (.for_ (.nm 19) .seq (.ife (.cmp .eq (.call .tr 12 (.cons (.var 0) (.cons (.int 2) .nil))) (.int 0)) (.slc false (.var 7) .absent (.var 6)) (.slc false (.var 7) (.bin false .sub (.blt false .len (.cons (.var 7) .nil)) (.var 6)) .absent)) .absent (.cons (.setv 23 (.lst true .nil)) (.cons (.for_ (.nm 9) .rng1 (.blt false .max2 (.cons (.blt false .int (.cons (.var 5) .nil)) (.cons (.call .tr 12 (.cons (.var 0) (.cons (.bin false .add (.idx (.var 15) (.int 2)) (.int 1)) .nil))) .nil))) .absent (.cons (.setv 20 (.ife (.cmp .gt (.blt false .len (.cons (.var 18) .nil)) (.int 0)) (.idx (.var 18) (.call .tr 12 (.cons (.var 0) (.cons (.blt false .len (.cons (.var 18) .nil)) .nil)))) .non)) (.cons (.setv 20 (.ife (.and (.var 5) (.and (.cmp .gt (.blt false .len (.cons (.var 18) .nil)) (.int 0)) (.and (.cmp .eq (.var 9) (.int 0)) (.cmp .gt (.call .tr 12 (.cons (.var 0) (.cons (.int 5) .nil))) (.int 0))))) (.idx (.var 18) (.int 0)) (.var 20))) (.cons (.ife (.and (.isN true (.var 20)) (.cmp .nin (.var 20) (.var 23))) (.cons (.exp (.app (.var 23) (.var 20))) .nil) .nil) .nil)))) (.cons (.exp (.app (.var 14) (.tup (.cons (.idx (.var 15) (.int 0)) (.cons (.var 19) (.cons (.blt false .tuple (.cons (.var 23) .nil)) .nil)))))) .nil)))) .nil)))) (.cons (.frz 12) (.cons (.frz 14) (.cons (.frz 8) (.cons (.ret (.dct false ["parties", "purposes", "gifts", "pledges", "funds", "lists", "members", "kin", "rounds", "asks", "swaps", "ballots", "reports", "spent"] (.cons (.comp false [20] (.nm 20) .seq (.var 3) .absent .absent (.tup (.cons (.var 20) (.cons (.tup (.cons (.var 20) .nil)) .nil)))) (.cons (.lst false (.cons (.str "p") (.cons (.str "r") .nil))) (.cons (.lst false .nil) (.cons (.lst false .nil) (.cons (.lst false .nil) (.cons (.lst false .nil) (.cons (.var 7) (.cons (.blt false .sorted (.cons (.var 8) .nil)) (.cons (.var 12) (.cons (.var 10) (.cons (.lst false .nil) (.cons (.var 14) (.cons (.lst false .nil) (.cons (.lst false .nil) .nil)))))))))))))))) .nil)))))))))))))))))))
abbrev f_law_world : Nat := 13
def b_law_own : SB := (.cons (.setv 1 (.dct true [] .nil)) (.cons (.for_ (.nm 2) .keys (.var 0) .absent (.cons (.seti (.var 1) (.var 2) (.blt false .list (.cons (.idx (.var 0) (.var 2)) .nil))) .nil)) (.cons (.setv 3 (.dct true [] .nil)) (.cons (.for_ (.nm 4) .seq (.idx (.var 0) (.str "asks")) .absent (.cons (.seti (.var 3) (.idx (.var 4) (.int 0)) (.comp false [5] (.nm 5) .seq (.idx (.var 0) (.str "members")) .absent (.isN false (.call .pure 17 (.cons (.var 0) (.cons (.var 5) (.cons (.idx (.var 4) (.int 0)) .nil))))) (.var 5))) .nil)) (.cons (.frz 3) (.cons (.seti (.var 1) (.str "free") (.var 3)) (.cons (.frz 1) (.cons (.ret (.var 1)) .nil))))))))
abbrev f_law_own : Nat := 14
def b_law_ask : SB := (.cons (.ret (.idx (.comp false [2] (.nm 2) .seq (.idx (.var 0) (.str "asks")) .absent (.cmp .eq (.idx (.var 2) (.int 0)) (.var 1)) (.var 2)) (.int 0))) .nil)
abbrev f_law_ask : Nat := 15
def b_law_near : SB := (.cons (.ret (.blt false .sorted (.cons (.bin false .add (.comp false [2, 3] (.tp [2, 3]) .seq (.idx (.var 0) (.str "kin")) .absent (.cmp .eq (.var 2) (.var 1)) (.var 3)) (.comp false [2, 3] (.tp [2, 3]) .seq (.idx (.var 0) (.str "kin")) .absent (.cmp .eq (.var 3) (.var 1)) (.var 2))) .nil))) .nil)
abbrev f_law_near : Nat := 16
def b_law_interest : SB := (.cons (.setv 3 (.idx (.call .pure 15 (.cons (.var 0) (.cons (.var 2) .nil))) (.int 1))) (.cons (.setv 4 (.lst false (.cons (.tup (.cons (.var 1) .nil)) .nil))) (.cons (.for_ (.nm 5) .rng1 (.int 3) .absent (.cons (.setv 6 (.comp false [8] (.nm 8) .seq (.blt false .sorted (.cons (.var 4) .nil)) .absent (.cmp .eq (.idx (.var 8) (.neg (.int 1))) (.var 3)) (.var 8))) (.cons (.ife (.cmp .gt (.blt false .len (.cons (.var 6) .nil)) (.int 0)) (.cons (.ret (.idx (.var 6) (.int 0))) .nil) .nil) (.cons (.setv 7 (.lst true .nil)) (.cons (.for_ (.nm 8) .seq (.var 4) .absent (.cons (.exp (.ext (.var 7) (.comp false [9] (.nm 9) .seq (.call .pure 16 (.cons (.var 0) (.cons (.idx (.var 8) (.neg (.int 1))) .nil))) .absent .absent (.bin false .add (.var 8) (.tup (.cons (.var 9) .nil)))))) .nil)) (.cons (.setv 4 (.var 7)) .nil)))))) (.cons (.ret .non) .nil))))
abbrev f_law_interest : Nat := 17
def b_law_free : SB := (.cons (.ret (.idx (.idx (.var 0) (.str "free")) (.var 1))) .nil)
abbrev f_law_free : Nat := 18
def b_law_round : SB := (.cons (.setv 2 (.comp false [3] (.nm 3) .seq (.idx (.var 0) (.str "rounds")) .absent (.cmp .eq (.idx (.var 3) (.int 0)) (.var 1)) (.var 3))) (.cons (.ret (.ife (.cmp .gt (.blt false .len (.cons (.var 2) .nil)) (.int 0)) (.idx (.var 2) (.int 0)) .non)) .nil))
abbrev f_law_round : Nat := 19
def b_law_missing : SB := (.cons (.setv 2 (.call .pure 19 (.cons (.var 0) (.cons (.var 1) .nil)))) (.cons (.setv 3 (.comp false [4] (.nm 4) .seq (.idx (.var 0) (.str "ballots")) .absent (.cmp .eq (.idx (.var 4) (.int 0)) (.var 1)) (.idx (.var 4) (.int 1)))) (.cons (.ret (.ife (.or (.isN false (.var 2)) (.cmp .eq (.idx (.var 2) (.int 4)) (.int 1))) (.lst false .nil) (.comp false [5] (.nm 5) .seq (.idx (.var 0) (.str "members")) .absent (.cmp .nin (.var 5) (.var 3)) (.var 5)))) .nil)))
abbrev f_law_missing : Nat := 20
def b_law_votes : SB := (.cons (.setv 3 (.idx (.call .pure 15 (.cons (.var 0) (.cons (.var 1) .nil))) (.int 2))) (.cons (.setv 4 (.call .pure 18 (.cons (.var 0) (.cons (.var 1) .nil)))) (.cons (.setv 5 (.bin false .add (.comp false [6] (.nm 6) .seq (.idx (.var 0) (.str "ballots")) .absent (.cmp .eq (.idx (.var 6) (.int 0)) (.var 3)) (.tup (.cons (.idx (.var 6) (.int 1)) (.cons (.idx (.var 6) (.int 2)) .nil)))) (.blt false .list (.cons (.var 2) .nil)))) (.cons (.ret (.blt false .len (.cons (.comp false [7, 8] (.tp [7, 8]) .seq (.var 5) .absent (.and (.cmp .inn (.var 1) (.var 8)) (.cmp .inn (.var 7) (.var 4))) (.int 1)) .nil))) .nil))))
abbrev f_law_votes : Nat := 21
def b_law_bar : SB := (.cons (.ret (.blt false .max2 (.cons (.int 1) (.cons (.bin false .fdiv (.bin false .add (.blt false .len (.cons (.call .pure 18 (.cons (.var 0) (.cons (.var 1) .nil))) .nil)) (.int 1)) (.int 2)) .nil)))) .nil)
abbrev f_law_bar : Nat := 22
def b_law_spot : SB := (.cons (.setv 2 (.comp false [3] (.nm 3) .seq (.idx (.var 0) (.str "asks")) .absent .absent (.idx (.var 3) (.int 0)))) (.cons (.ret (.tup (.cons (.blt false .sum (.cons (.idx (.call .pure 15 (.cons (.var 0) (.cons (.var 1) .nil))) (.int 3)) .nil)) (.cons (.idxof (.var 2) (.var 1)) .nil)))) .nil))
abbrev f_law_spot : Nat := 23
def b_law_granted : SB := (.cons (.setv 3 (.call .pure 19 (.cons (.var 0) (.cons (.var 1) .nil)))) (.cons (.ife (.isN false (.var 3)) (.cons (.ret (.lst false .nil)) .nil) .nil) (.cons (.setv 4 (.lst true .nil)) (.cons (.for_ (.nm 5) .seq (.idx (.var 0) (.str "asks")) .absent (.cons (.setv 8 (.ife (.cmp .eq (.idx (.var 5) (.int 2)) (.var 1)) (.call .pure 21 (.cons (.var 0) (.cons (.idx (.var 5) (.int 0)) (.cons (.var 2) .nil)))) (.int 0))) (.cons (.ife (.and (.cmp .eq (.idx (.var 5) (.int 2)) (.var 1)) (.cmp .ge (.var 8) (.call .pure 22 (.cons (.var 0) (.cons (.idx (.var 5) (.int 0)) .nil))))) (.cons (.exp (.app (.var 4) (.tup (.cons (.bin false .sub (.int 0) (.var 8)) (.cons (.call .pure 23 (.cons (.var 0) (.cons (.idx (.var 5) (.int 0)) .nil))) (.cons (.idx (.var 5) (.int 0)) .nil)))))) .nil) .nil) .nil))) (.cons (.setv 6 (.idx (.var 3) (.int 1))) (.cons (.setv 7 (.lst true .nil)) (.cons (.for_ (.tp [8, 9, 10]) .seq (.blt false .sorted (.cons (.var 4) .nil)) .absent (.cons (.setv 6 (.bin false .sub (.var 6) (.idx (.var 9) (.int 0)))) (.cons (.ife (.cmp .lt (.var 6) (.int 0)) (.cons (.frz 7) (.cons (.ret (.var 7)) .nil)) .nil) (.cons (.exp (.app (.var 7) (.var 10))) .nil)))) (.cons (.frz 7) (.cons (.ret (.var 7)) .nil)))))))))
abbrev f_law_granted : Nat := 24
def b_law_needs : SB := (.cons (.setv 2 (.call .pure 21 (.cons (.var 0) (.cons (.var 1) (.cons (.lst false .nil) .nil))))) (.cons (.setv 3 (.lst true .nil)) (.cons (.for_ (.nm 4) .seq (.comp false [6] (.nm 6) .seq (.idx (.var 0) (.str "asks")) .absent (.and (.cmp .eq (.idx (.var 6) (.int 2)) (.idx (.call .pure 15 (.cons (.var 0) (.cons (.var 1) .nil))) (.int 2))) (.cmp .ne (.idx (.var 6) (.int 0)) (.var 1))) (.idx (.var 6) (.int 0))) .absent (.cons (.setv 5 (.blt false .max2 (.cons (.call .pure 22 (.cons (.var 0) (.cons (.var 4) .nil))) (.cons (.bin false .add (.var 2) (.blt false .int (.cons (.cmp .gt (.call .pure 23 (.cons (.var 0) (.cons (.var 4) .nil))) (.call .pure 23 (.cons (.var 0) (.cons (.var 1) .nil)))) .nil))) .nil)))) (.cons (.exp (.app (.var 3) (.tup (.cons (.var 4) (.cons (.blt false .max2 (.cons (.int 0) (.cons (.bin false .sub (.var 5) (.call .pure 21 (.cons (.var 0) (.cons (.var 4) (.cons (.lst false .nil) .nil))))) .nil))) .nil))))) .nil))) (.cons (.frz 3) (.cons (.ret (.var 3)) .nil)))))
abbrev f_law_needs : Nat := 25
def b_law : SB := (.cons (.setv 1 (.call .keep 11 (.cons (.var 0) .nil))) (.cons (.setv 2 (.call .tr 13 (.cons (.var 1) (.cons (.int 8) (.cons (.int 9) .nil))))) (.cons (.setv 3 (.call .pure 14 (.cons (.var 2) .nil))) (.cons (.setv 4 (.blt false .repr (.cons (.var 2) .nil))) (.cons (.for_ (.nm 5) .seq (.idx (.var 3) (.str "asks")) .absent (.cons (.setv 6 (.idx (.var 5) (.int 0))) (.cons (.for_ (.nm 7) .seq (.idx (.var 3) (.str "members")) .absent (.cons (.ife (.cmp .ne (.call .pure 3 (.cons (.var 2) (.cons (.var 7) (.cons (.var 6) .nil)))) (.call .pure 17 (.cons (.var 3) (.cons (.var 7) (.cons (.var 6) .nil))))) (.cons (.ret (.bl false)) .nil) .nil) .nil)) (.cons (.setv 8 (.call .own 4 (.cons (.var 2) (.cons (.var 6) .nil)))) (.cons (.ife (.or (.not (.isi (.var 8) ["list"] false)) (.or (.cmp .ne (.var 8) (.call .pure 18 (.cons (.var 3) (.cons (.var 6) .nil)))) (.cmp .ne (.call .pure 10 (.cons (.var 2) (.cons (.var 6) .nil))) (.call .pure 25 (.cons (.var 3) (.cons (.var 6) .nil)))))) (.cons (.ret (.bl false)) .nil) .nil) (.cons (.setv 9 (.call .own 5 (.cons (.var 2) (.cons (.idx (.var 5) (.int 2)) .nil)))) (.cons (.ife (.or (.not (.isi (.var 9) ["list"] false)) (.cmp .ne (.var 9) (.call .pure 20 (.cons (.var 3) (.cons (.idx (.var 5) (.int 2)) .nil))))) (.cons (.ret (.bl false)) .nil) .nil) (.cons (.setv 10 (.slc false (.comp false [7] (.nm 7) .seq (.blt false .sorted (.cons (.var 9) .nil)) .absent (.cmp .inn (.var 7) (.var 8)) (.tup (.cons (.var 7) (.cons (.tup (.cons (.var 6) .nil)) .nil)))) .absent (.call .tr 12 (.cons (.var 1) (.cons (.int 9) .nil))))) (.cons (.setv 11 (.call .pure 6 (.cons (.var 2) (.cons (.var 6) .nil)))) (.cons (.ife (.or (.isi (.var 11) ["bool"] false) (.or (.cmp .ne (.var 11) (.call .pure 21 (.cons (.var 3) (.cons (.var 6) (.cons (.lst false .nil) .nil))))) (.cmp .ne (.call .pure 6 (.cons (.var 2) (.cons (.var 6) (.cons (.var 10) .nil)))) (.call .pure 21 (.cons (.var 3) (.cons (.var 6) (.cons (.var 10) .nil))))))) (.cons (.ret (.bl false)) .nil) .nil) (.cons (.exp (.app (.var 8) (.str "zz"))) (.cons (.exp (.app (.var 9) (.str "zz"))) (.cons (.ife (.or (.cmp .ne (.call .own 4 (.cons (.var 2) (.cons (.var 6) .nil))) (.call .pure 18 (.cons (.var 3) (.cons (.var 6) .nil)))) (.cmp .ne (.call .own 5 (.cons (.var 2) (.cons (.idx (.var 5) (.int 2)) .nil))) (.call .pure 20 (.cons (.var 3) (.cons (.idx (.var 5) (.int 2)) .nil))))) (.cons (.ret (.bl false)) .nil) .nil) .nil))))))))))))) (.cons (.ret (.cmp .eq (.blt false .repr (.cons (.var 2) .nil)) (.var 4))) .nil))))))
abbrev f_law : Nat := 26
def fns : List Fn := [
  ⟨"ask_of", 2, ["state", "name", "row"], b_ask_of, []⟩,
  ⟨"round_of", 2, ["state", "purpose", "found", "row"], b_round_of, []⟩,
  ⟨"kin_of", 2, ["state", "party", "found", "one", "other"], b_kin_of, []⟩,
  ⟨"interest", 3, ["state", "member", "name", "grantee", "near", "rows", "party"], b_interest, []⟩,
  ⟨"electors", 2, ["state", "name", "member"], b_electors, []⟩,
  ⟨"missing", 2, ["state", "purpose", "told", "voters", "row", "member"], b_missing, []⟩,
  ⟨"votes", 3, ["state", "name", "completion", "purpose", "ballots", "free", "row", "member", "ballot"], b_votes, [(.tup [])]⟩,
  ⟨"quorum", 2, ["state", "name"], b_quorum, []⟩,
  ⟨"others_of", 2, ["state", "name", "purpose", "row"], b_others_of, []⟩,
  ⟨"place", 2, ["state", "name", "names", "row"], b_place, []⟩,
  ⟨"needs", 2, ["state", "name", "own", "found", "other", "bar"], b_needs, []⟩,
  ⟨"_law_state", 1, ["script", "cells", "cell"], b_law_state, []⟩,
  ⟨"_law_take", 2, ["state", "most", "cells", "at", "cell", "mixed"], b_law_take, []⟩,
  ⟨"_law_world", 3, ["state", "most_asks", "most_members", "pool", "turn", "close", "many", "members", "kin", "k", "asks", "names", "rounds", "purpose", "ballots", "told", "amounts", "grantee", "own", "member", "one", "other", "budget", "row", "ask", "j"], b_law_world, []⟩,
  ⟨"_law_own", 1, ["s", "w", "key", "free", "ask", "member"], b_law_own, []⟩,
  ⟨"_law_ask", 2, ["w", "name", "row"], b_law_ask, []⟩,
  ⟨"_law_near", 2, ["w", "party", "x", "y"], b_law_near, []⟩,
  ⟨"_law_interest", 3, ["w", "member", "name", "goal", "rows", "step", "found", "more", "row", "party"], b_law_interest, []⟩,
  ⟨"_law_free", 2, ["w", "name"], b_law_free, []⟩,
  ⟨"_law_round", 2, ["w", "purpose", "found", "row"], b_law_round, []⟩,
  ⟨"_law_missing", 2, ["w", "purpose", "told", "voted", "row", "member"], b_law_missing, []⟩,
  ⟨"_law_votes", 3, ["w", "name", "completion", "purpose", "free", "rows", "row", "member", "ballot"], b_law_votes, []⟩,
  ⟨"_law_bar", 2, ["w", "name"], b_law_bar, []⟩,
  ⟨"_law_spot", 2, ["w", "name", "names", "row"], b_law_spot, []⟩,
  ⟨"_law_granted", 3, ["w", "purpose", "completion", "told", "rows", "ask", "left", "found", "number", "spot", "name"], b_law_granted, []⟩,
  ⟨"_law_needs", 2, ["w", "name", "own", "found", "other", "bar", "row"], b_law_needs, []⟩,
  ⟨"law", 1, ["script", "state", "s", "w", "kept", "ask", "name", "member", "free", "told", "completion", "number"], b_law, []⟩]
def cls : Nat → Nat := fun c => ([] : List Nat).getD c 0
end K34

namespace K34
open PySem PySem.Spec PyProof.Rows L2
abbrev prg : Program := PySem.Challenge.pw_everycoin_k34_members_and_interests
def P : MP.Pm := ⟨fns, fun f => !(f == 26), [], false⟩
def sl : List Stmt := [1, 2, 3, 4, 5, 6, 7, 8, 9, 10, 11, 13, 14, 15, 16, 17, 18, 19, 20, 21, 22, 23, 24, 25, 26, 27, 28].map (MP.stAt prg)
theorem tab : MP.allB P sl = true := by kernel_rfl
abbrev stLaw : Stmt := MP.stAt prg 28
abbrev fnLaw : MP.Fn := ⟨"law", 1, ["script", "state", "s", "w", "kept", "ask", "name", "member", "free", "told", "completion", "number"], b_law, []⟩
theorem tabLaw : MP.lawB P fnLaw stLaw = true := by kernel_rfl
def dl : List He.DefD := sl.map MP.datum
abbrev R : PySem.W.OpenRow := PySem.W.OpenLaw.row PySem.Challenge.rw_everycoin_k34_members_and_interests
abbrev hk : PySem.W.Hook := He.hookD 4 (MP.facts0 dl) dl
def ob (s : PySem.W.SharedT) : He.AlD := He.obsDG 4 (MP.facts0 dl) dl (HandSHeadRun.getT s)
theorem ob_eq (s : PySem.W.SharedT) : ob s = hk.obs s.abs := He.obsDG_eq (HandSHeadRun.getT_eq s)
def loose : List PySem.Str := (["ask_of", "round_of", "kin_of", "interest", "electors", "missing", "votes", "quorum", "others_of", "place", "needs", "_law_state", "_law_take", "_law_world", "_law_own", "_law_ask", "_law_near", "_law_interest", "_law_free", "_law_round", "_law_missing", "_law_votes", "_law_bar", "_law_spot", "_law_granted", "_law_needs"] : List PySem.Str)
theorem top_run (w : World) : HandSHeadRun.RunEq R (PySem.W.view R.prog [28]) hk ob 1360 loose w := by
  intro os
  kernel_rfl
end K34

/-! K34a: what is read of a world. -/
namespace K34
open MP CM
section
variable {n : Nat} {M : Sto} {d : D} {w : Wld}
theorem ask_run {nm : Tx} {a : Ask} (h : Has d w) (ok : w.Ok 8 9) (ha : w.asks.find? (fun a => decide (a.name = nm)) = some a) : callM (run fns cls (n + 1)) .pure f_ask_of [d, .str nm] M = some (eAsk a, M) := by
  refine pure_of (M2 := []) (run_of (f := f_ask_of) rfl rfl (r_ret ?_)) (by rw [belowL, h.below]; rfl) (below_ask 0 a) rfl
  rw [e_idx, comp_flt (e := eAsk) (g := eAsk) (q := fun a => decide (a.name = nm)) (l := w.asks) (M1 := []) (x := .list (w.asks.map eAsk)) ?_ rfl (line_of ok.alen (by decide)) ?_]
  · simp only [e_var, e_non, e_bl, e_int, e_str, e_bin, e_neg, e_not, e_and, e_or, e_cmp, e_chain, e_isN, e_ife, e_tup, e_lst, e_dct, e_idx, e_slc, e_blt, e_isi, e_fld, e_app, e_ext, e_idxof, e_dget, e_nil, e_cons, x_setv, x_sett, x_setp, x_seti, x_seti2, x_augi, x_setf, x_exp, x_ret, x_ife, x_frz, x_retN, x_pass, x_cont, x_nil, x_cons, getD_list, getD_tup, rd_int, rd_bl, rd_non, rd_str, rd_list, rd_tup, rd_fz, rd_dict, len_list, len_tup, abs_int, min2_int, max2_int, int_int, list_list, list_tup, mk_f, mk_t, truth_bl', truth_int', truth_list', tst_some, line0, line1, line2, line3, line4, line5, line6, line7, line8, asg, optC, optD, optI, isAbs, src_list, src_tup, src_enum, setI, body1, wipeE, List.map_cons, List.map_nil, List.length_cons, List.length_nil, List.replicate, List.cons_append, List.nil_append, List.getElem?_cons_zero, List.getElem?_cons_succ, List.set_cons_zero, List.set_cons_succ, List.zip_cons_cons, List.zip_nil_right, List.foldl_cons, List.foldl_nil, Nat.reduceAdd, Nat.reduceSub, bop_add_int, bop_sub_int, cop_lt_int, cop_gt_int, cop_le_int, cop_ge_int, cop_eq_int, cop_ne_int, atI_c0, atI_c1, atI_c2, atI_c3, if_true, Bool.false_eq_true, if_false, ↓reduceIte, Bool.not_true, Bool.not_false, getD_list, at0_filter ha]
  · simp only [e_var, e_non, e_bl, e_int, e_str, e_bin, e_neg, e_not, e_and, e_or, e_cmp, e_chain, e_isN, e_ife, e_tup, e_lst, e_dct, e_idx, e_slc, e_blt, e_isi, e_fld, e_app, e_ext, e_idxof, e_dget, e_nil, e_cons, x_setv, x_sett, x_setp, x_seti, x_seti2, x_augi, x_setf, x_exp, x_ret, x_ife, x_frz, x_retN, x_pass, x_cont, x_nil, x_cons, getD_list, getD_tup, rd_int, rd_bl, rd_non, rd_str, rd_list, rd_tup, rd_fz, rd_dict, len_list, len_tup, abs_int, min2_int, max2_int, int_int, list_list, list_tup, mk_f, mk_t, truth_bl', truth_int', truth_list', tst_some, line0, line1, line2, line3, line4, line5, line6, line7, line8, asg, optC, optD, optI, isAbs, src_list, src_tup, src_enum, setI, body1, wipeE, List.map_cons, List.map_nil, List.length_cons, List.length_nil, List.replicate, List.cons_append, List.nil_append, List.getElem?_cons_zero, List.getElem?_cons_succ, List.set_cons_zero, List.set_cons_succ, List.zip_cons_cons, List.zip_nil_right, List.foldl_cons, List.foldl_nil, Nat.reduceAdd, Nat.reduceSub, bop_add_int, bop_sub_int, cop_lt_int, cop_gt_int, cop_le_int, cop_ge_int, cop_eq_int, cop_ne_int, atI_c0, atI_c1, atI_c2, atI_c3, if_true, Bool.false_eq_true, if_false, ↓reduceIte, Bool.not_true, Bool.not_false, h.rd, h.asks]
  · intro a _
    simp only [turnF, eAsk]
    simp only [e_var, e_non, e_bl, e_int, e_str, e_bin, e_neg, e_not, e_and, e_or, e_cmp, e_chain, e_isN, e_ife, e_tup, e_lst, e_dct, e_idx, e_slc, e_blt, e_isi, e_fld, e_app, e_ext, e_idxof, e_dget, e_nil, e_cons, x_setv, x_sett, x_setp, x_seti, x_seti2, x_augi, x_setf, x_exp, x_ret, x_ife, x_frz, x_retN, x_pass, x_cont, x_nil, x_cons, getD_list, getD_tup, rd_int, rd_bl, rd_non, rd_str, rd_list, rd_tup, rd_fz, rd_dict, len_list, len_tup, abs_int, min2_int, max2_int, int_int, list_list, list_tup, mk_f, mk_t, truth_bl', truth_int', truth_list', tst_some, line0, line1, line2, line3, line4, line5, line6, line7, line8, asg, optC, optD, optI, isAbs, src_list, src_tup, src_enum, setI, body1, wipeE, List.map_cons, List.map_nil, List.length_cons, List.length_nil, List.replicate, List.cons_append, List.nil_append, List.getElem?_cons_zero, List.getElem?_cons_succ, List.set_cons_zero, List.set_cons_succ, List.zip_cons_cons, List.zip_nil_right, List.foldl_cons, List.foldl_nil, Nat.reduceAdd, Nat.reduceSub, bop_add_int, bop_sub_int, cop_lt_int, cop_gt_int, cop_le_int, cop_ge_int, cop_eq_int, cop_ne_int, atI_c0, atI_c1, atI_c2, atI_c3, if_true, Bool.false_eq_true, if_false, ↓reduceIte, Bool.not_true, Bool.not_false, cop_eq_str]
    cases decide (a.name = nm) <;> rfl
theorem lask_run {nm : Tx} {a : Ask} (h : Has d w) (ok : w.Ok 8 9) (ha : w.asks.find? (fun a => decide (a.name = nm)) = some a) : callM (run fns cls (n + 1)) .pure f_law_ask [d, .str nm] M = some (eAsk a, M) := by
  refine pure_of (M2 := []) (run_of (f := f_law_ask) rfl rfl (r_ret ?_)) (by rw [belowL, h.below]; rfl) (below_ask 0 a) rfl
  rw [e_idx, comp_flt (e := eAsk) (g := eAsk) (q := fun a => decide (a.name = nm)) (l := w.asks) (M1 := []) (x := .list (w.asks.map eAsk)) ?_ rfl (line_of ok.alen (by decide)) ?_]
  · simp only [e_var, e_non, e_bl, e_int, e_str, e_bin, e_neg, e_not, e_and, e_or, e_cmp, e_chain, e_isN, e_ife, e_tup, e_lst, e_dct, e_idx, e_slc, e_blt, e_isi, e_fld, e_app, e_ext, e_idxof, e_dget, e_nil, e_cons, x_setv, x_sett, x_setp, x_seti, x_seti2, x_augi, x_setf, x_exp, x_ret, x_ife, x_frz, x_retN, x_pass, x_cont, x_nil, x_cons, getD_list, getD_tup, rd_int, rd_bl, rd_non, rd_str, rd_list, rd_tup, rd_fz, rd_dict, len_list, len_tup, abs_int, min2_int, max2_int, int_int, list_list, list_tup, mk_f, mk_t, truth_bl', truth_int', truth_list', tst_some, line0, line1, line2, line3, line4, line5, line6, line7, line8, asg, optC, optD, optI, isAbs, src_list, src_tup, src_enum, setI, body1, wipeE, List.map_cons, List.map_nil, List.length_cons, List.length_nil, List.replicate, List.cons_append, List.nil_append, List.getElem?_cons_zero, List.getElem?_cons_succ, List.set_cons_zero, List.set_cons_succ, List.zip_cons_cons, List.zip_nil_right, List.foldl_cons, List.foldl_nil, Nat.reduceAdd, Nat.reduceSub, bop_add_int, bop_sub_int, cop_lt_int, cop_gt_int, cop_le_int, cop_ge_int, cop_eq_int, cop_ne_int, atI_c0, atI_c1, atI_c2, atI_c3, if_true, Bool.false_eq_true, if_false, ↓reduceIte, Bool.not_true, Bool.not_false, getD_list, at0_filter ha]
  · simp only [e_var, e_non, e_bl, e_int, e_str, e_bin, e_neg, e_not, e_and, e_or, e_cmp, e_chain, e_isN, e_ife, e_tup, e_lst, e_dct, e_idx, e_slc, e_blt, e_isi, e_fld, e_app, e_ext, e_idxof, e_dget, e_nil, e_cons, x_setv, x_sett, x_setp, x_seti, x_seti2, x_augi, x_setf, x_exp, x_ret, x_ife, x_frz, x_retN, x_pass, x_cont, x_nil, x_cons, getD_list, getD_tup, rd_int, rd_bl, rd_non, rd_str, rd_list, rd_tup, rd_fz, rd_dict, len_list, len_tup, abs_int, min2_int, max2_int, int_int, list_list, list_tup, mk_f, mk_t, truth_bl', truth_int', truth_list', tst_some, line0, line1, line2, line3, line4, line5, line6, line7, line8, asg, optC, optD, optI, isAbs, src_list, src_tup, src_enum, setI, body1, wipeE, List.map_cons, List.map_nil, List.length_cons, List.length_nil, List.replicate, List.cons_append, List.nil_append, List.getElem?_cons_zero, List.getElem?_cons_succ, List.set_cons_zero, List.set_cons_succ, List.zip_cons_cons, List.zip_nil_right, List.foldl_cons, List.foldl_nil, Nat.reduceAdd, Nat.reduceSub, bop_add_int, bop_sub_int, cop_lt_int, cop_gt_int, cop_le_int, cop_ge_int, cop_eq_int, cop_ne_int, atI_c0, atI_c1, atI_c2, atI_c3, if_true, Bool.false_eq_true, if_false, ↓reduceIte, Bool.not_true, Bool.not_false, h.rd, h.asks]
  · intro a _
    simp only [turnF, eAsk]
    simp only [e_var, e_non, e_bl, e_int, e_str, e_bin, e_neg, e_not, e_and, e_or, e_cmp, e_chain, e_isN, e_ife, e_tup, e_lst, e_dct, e_idx, e_slc, e_blt, e_isi, e_fld, e_app, e_ext, e_idxof, e_dget, e_nil, e_cons, x_setv, x_sett, x_setp, x_seti, x_seti2, x_augi, x_setf, x_exp, x_ret, x_ife, x_frz, x_retN, x_pass, x_cont, x_nil, x_cons, getD_list, getD_tup, rd_int, rd_bl, rd_non, rd_str, rd_list, rd_tup, rd_fz, rd_dict, len_list, len_tup, abs_int, min2_int, max2_int, int_int, list_list, list_tup, mk_f, mk_t, truth_bl', truth_int', truth_list', tst_some, line0, line1, line2, line3, line4, line5, line6, line7, line8, asg, optC, optD, optI, isAbs, src_list, src_tup, src_enum, setI, body1, wipeE, List.map_cons, List.map_nil, List.length_cons, List.length_nil, List.replicate, List.cons_append, List.nil_append, List.getElem?_cons_zero, List.getElem?_cons_succ, List.set_cons_zero, List.set_cons_succ, List.zip_cons_cons, List.zip_nil_right, List.foldl_cons, List.foldl_nil, Nat.reduceAdd, Nat.reduceSub, bop_add_int, bop_sub_int, cop_lt_int, cop_gt_int, cop_le_int, cop_ge_int, cop_eq_int, cop_ne_int, atI_c0, atI_c1, atI_c2, atI_c3, if_true, Bool.false_eq_true, if_false, ↓reduceIte, Bool.not_true, Bool.not_false, cop_eq_str]
    cases decide (a.name = nm) <;> rfl
def eRO : Option Rnd → D
  | none => .non
  | some r => eRnd r
theorem round_run {p : Tx} (h : Has d w) (ok : w.Ok 8 9) : callM (run fns cls (n + 1)) .pure f_round_of [d, .str p] M = some (eRO (w.rounds.find? fun r => decide (r.purpose = p)), M) := by
  have hb : ∀ x, below 0 (eRO x) = true := fun x => by cases x <;> rfl
  have hr : ∀ x M, rd M (eRO x) = eRO x := fun x M => by cases x <;> rfl
  refine pure_of (M2 := []) (run_of (f := f_round_of) rfl rfl (r_set (x := .list ((w.rounds.filter fun r => decide (r.purpose = p)).map eRnd)) (M1 := []) ?_ (r_ret ?_))) (by rw [belowL, h.below]; rfl) (hb _) (hr _ _)
  · rw [comp_flt (e := eRnd) (g := eRnd) (q := fun r => decide (r.purpose = p)) (l := w.rounds) (M1 := []) (x := .list (w.rounds.map eRnd)) ?_ rfl (line_of ok.rlen (by decide)) ?_]
    · simp only [e_var, e_non, e_bl, e_int, e_str, e_bin, e_neg, e_not, e_and, e_or, e_cmp, e_chain, e_isN, e_ife, e_tup, e_lst, e_dct, e_idx, e_slc, e_blt, e_isi, e_fld, e_app, e_ext, e_idxof, e_dget, e_nil, e_cons, x_setv, x_sett, x_setp, x_seti, x_seti2, x_augi, x_setf, x_exp, x_ret, x_ife, x_frz, x_retN, x_pass, x_cont, x_nil, x_cons, getD_list, getD_tup, rd_int, rd_bl, rd_non, rd_str, rd_list, rd_tup, rd_fz, rd_dict, len_list, len_tup, abs_int, min2_int, max2_int, int_int, list_list, list_tup, mk_f, mk_t, truth_bl', truth_int', truth_list', tst_some, line0, line1, line2, line3, line4, line5, line6, line7, line8, asg, optC, optD, optI, isAbs, src_list, src_tup, src_enum, setI, body1, wipeE, List.map_cons, List.map_nil, List.length_cons, List.length_nil, List.replicate, List.cons_append, List.nil_append, List.getElem?_cons_zero, List.getElem?_cons_succ, List.set_cons_zero, List.set_cons_succ, List.zip_cons_cons, List.zip_nil_right, List.foldl_cons, List.foldl_nil, Nat.reduceAdd, Nat.reduceSub, bop_add_int, bop_sub_int, cop_lt_int, cop_gt_int, cop_le_int, cop_ge_int, cop_eq_int, cop_ne_int, atI_c0, atI_c1, atI_c2, atI_c3, if_true, Bool.false_eq_true, if_false, ↓reduceIte, Bool.not_true, Bool.not_false, h.rd, h.rounds]
    · intro r _
      simp only [turnF, eRnd]
      simp only [e_var, e_non, e_bl, e_int, e_str, e_bin, e_neg, e_not, e_and, e_or, e_cmp, e_chain, e_isN, e_ife, e_tup, e_lst, e_dct, e_idx, e_slc, e_blt, e_isi, e_fld, e_app, e_ext, e_idxof, e_dget, e_nil, e_cons, x_setv, x_sett, x_setp, x_seti, x_seti2, x_augi, x_setf, x_exp, x_ret, x_ife, x_frz, x_retN, x_pass, x_cont, x_nil, x_cons, getD_list, getD_tup, rd_int, rd_bl, rd_non, rd_str, rd_list, rd_tup, rd_fz, rd_dict, len_list, len_tup, abs_int, min2_int, max2_int, int_int, list_list, list_tup, mk_f, mk_t, truth_bl', truth_int', truth_list', tst_some, line0, line1, line2, line3, line4, line5, line6, line7, line8, asg, optC, optD, optI, isAbs, src_list, src_tup, src_enum, setI, body1, wipeE, List.map_cons, List.map_nil, List.length_cons, List.length_nil, List.replicate, List.cons_append, List.nil_append, List.getElem?_cons_zero, List.getElem?_cons_succ, List.set_cons_zero, List.set_cons_succ, List.zip_cons_cons, List.zip_nil_right, List.foldl_cons, List.foldl_nil, Nat.reduceAdd, Nat.reduceSub, bop_add_int, bop_sub_int, cop_lt_int, cop_gt_int, cop_le_int, cop_ge_int, cop_eq_int, cop_ne_int, atI_c0, atI_c1, atI_c2, atI_c3, if_true, Bool.false_eq_true, if_false, ↓reduceIte, Bool.not_true, Bool.not_false, cop_eq_str]
      cases decide (r.purpose = p) <;> rfl
  · have hd : (w.rounds.filter fun r => decide (r.purpose = p)).head? = w.rounds.find? fun r => decide (r.purpose = p) := List.head?_filter
    cases e : w.rounds.filter fun r => decide (r.purpose = p) with
    | nil =>
      rw [e] at hd
      rw [← hd]
      simp only [e_var, e_non, e_bl, e_int, e_str, e_bin, e_neg, e_not, e_and, e_or, e_cmp, e_chain, e_isN, e_ife, e_tup, e_lst, e_dct, e_idx, e_slc, e_blt, e_isi, e_fld, e_app, e_ext, e_idxof, e_dget, e_nil, e_cons, x_setv, x_sett, x_setp, x_seti, x_seti2, x_augi, x_setf, x_exp, x_ret, x_ife, x_frz, x_retN, x_pass, x_cont, x_nil, x_cons, getD_list, getD_tup, rd_int, rd_bl, rd_non, rd_str, rd_list, rd_tup, rd_fz, rd_dict, len_list, len_tup, abs_int, min2_int, max2_int, int_int, list_list, list_tup, mk_f, mk_t, truth_bl', truth_int', truth_list', tst_some, line0, line1, line2, line3, line4, line5, line6, line7, line8, asg, optC, optD, optI, isAbs, src_list, src_tup, src_enum, setI, body1, wipeE, List.map_cons, List.map_nil, List.length_cons, List.length_nil, List.replicate, List.cons_append, List.nil_append, List.getElem?_cons_zero, List.getElem?_cons_succ, List.set_cons_zero, List.set_cons_succ, List.zip_cons_cons, List.zip_nil_right, List.foldl_cons, List.foldl_nil, Nat.reduceAdd, Nat.reduceSub, bop_add_int, bop_sub_int, cop_lt_int, cop_gt_int, cop_le_int, cop_ge_int, cop_eq_int, cop_ne_int, atI_c0, atI_c1, atI_c2, atI_c3, if_true, Bool.false_eq_true, if_false, ↓reduceIte, Bool.not_true, Bool.not_false, List.isEmpty_nil]
      rfl
    | cons r rs =>
      rw [e] at hd
      rw [← hd]
      simp only [e_var, e_non, e_bl, e_int, e_str, e_bin, e_neg, e_not, e_and, e_or, e_cmp, e_chain, e_isN, e_ife, e_tup, e_lst, e_dct, e_idx, e_slc, e_blt, e_isi, e_fld, e_app, e_ext, e_idxof, e_dget, e_nil, e_cons, x_setv, x_sett, x_setp, x_seti, x_seti2, x_augi, x_setf, x_exp, x_ret, x_ife, x_frz, x_retN, x_pass, x_cont, x_nil, x_cons, getD_list, getD_tup, rd_int, rd_bl, rd_non, rd_str, rd_list, rd_tup, rd_fz, rd_dict, len_list, len_tup, abs_int, min2_int, max2_int, int_int, list_list, list_tup, mk_f, mk_t, truth_bl', truth_int', truth_list', tst_some, line0, line1, line2, line3, line4, line5, line6, line7, line8, asg, optC, optD, optI, isAbs, src_list, src_tup, src_enum, setI, body1, wipeE, List.map_cons, List.map_nil, List.length_cons, List.length_nil, List.replicate, List.cons_append, List.nil_append, List.getElem?_cons_zero, List.getElem?_cons_succ, List.set_cons_zero, List.set_cons_succ, List.zip_cons_cons, List.zip_nil_right, List.foldl_cons, List.foldl_nil, Nat.reduceAdd, Nat.reduceSub, bop_add_int, bop_sub_int, cop_lt_int, cop_gt_int, cop_le_int, cop_ge_int, cop_eq_int, cop_ne_int, atI_c0, atI_c1, atI_c2, atI_c3, if_true, Bool.false_eq_true, if_false, ↓reduceIte, Bool.not_true, Bool.not_false, List.isEmpty_cons]
      rfl
theorem lround_run {p : Tx} (h : Has d w) (ok : w.Ok 8 9) : callM (run fns cls (n + 1)) .pure f_law_round [d, .str p] M = some (eRO (w.rounds.find? fun r => decide (r.purpose = p)), M) := by
  have hb : ∀ x, below 0 (eRO x) = true := fun x => by cases x <;> rfl
  have hr : ∀ x M, rd M (eRO x) = eRO x := fun x M => by cases x <;> rfl
  refine pure_of (M2 := []) (run_of (f := f_law_round) rfl rfl (r_set (x := .list ((w.rounds.filter fun r => decide (r.purpose = p)).map eRnd)) (M1 := []) ?_ (r_ret ?_))) (by rw [belowL, h.below]; rfl) (hb _) (hr _ _)
  · rw [comp_flt (e := eRnd) (g := eRnd) (q := fun r => decide (r.purpose = p)) (l := w.rounds) (M1 := []) (x := .list (w.rounds.map eRnd)) ?_ rfl (line_of ok.rlen (by decide)) ?_]
    · simp only [e_var, e_non, e_bl, e_int, e_str, e_bin, e_neg, e_not, e_and, e_or, e_cmp, e_chain, e_isN, e_ife, e_tup, e_lst, e_dct, e_idx, e_slc, e_blt, e_isi, e_fld, e_app, e_ext, e_idxof, e_dget, e_nil, e_cons, x_setv, x_sett, x_setp, x_seti, x_seti2, x_augi, x_setf, x_exp, x_ret, x_ife, x_frz, x_retN, x_pass, x_cont, x_nil, x_cons, getD_list, getD_tup, rd_int, rd_bl, rd_non, rd_str, rd_list, rd_tup, rd_fz, rd_dict, len_list, len_tup, abs_int, min2_int, max2_int, int_int, list_list, list_tup, mk_f, mk_t, truth_bl', truth_int', truth_list', tst_some, line0, line1, line2, line3, line4, line5, line6, line7, line8, asg, optC, optD, optI, isAbs, src_list, src_tup, src_enum, setI, body1, wipeE, List.map_cons, List.map_nil, List.length_cons, List.length_nil, List.replicate, List.cons_append, List.nil_append, List.getElem?_cons_zero, List.getElem?_cons_succ, List.set_cons_zero, List.set_cons_succ, List.zip_cons_cons, List.zip_nil_right, List.foldl_cons, List.foldl_nil, Nat.reduceAdd, Nat.reduceSub, bop_add_int, bop_sub_int, cop_lt_int, cop_gt_int, cop_le_int, cop_ge_int, cop_eq_int, cop_ne_int, atI_c0, atI_c1, atI_c2, atI_c3, if_true, Bool.false_eq_true, if_false, ↓reduceIte, Bool.not_true, Bool.not_false, h.rd, h.rounds]
    · intro r _
      simp only [turnF, eRnd]
      simp only [e_var, e_non, e_bl, e_int, e_str, e_bin, e_neg, e_not, e_and, e_or, e_cmp, e_chain, e_isN, e_ife, e_tup, e_lst, e_dct, e_idx, e_slc, e_blt, e_isi, e_fld, e_app, e_ext, e_idxof, e_dget, e_nil, e_cons, x_setv, x_sett, x_setp, x_seti, x_seti2, x_augi, x_setf, x_exp, x_ret, x_ife, x_frz, x_retN, x_pass, x_cont, x_nil, x_cons, getD_list, getD_tup, rd_int, rd_bl, rd_non, rd_str, rd_list, rd_tup, rd_fz, rd_dict, len_list, len_tup, abs_int, min2_int, max2_int, int_int, list_list, list_tup, mk_f, mk_t, truth_bl', truth_int', truth_list', tst_some, line0, line1, line2, line3, line4, line5, line6, line7, line8, asg, optC, optD, optI, isAbs, src_list, src_tup, src_enum, setI, body1, wipeE, List.map_cons, List.map_nil, List.length_cons, List.length_nil, List.replicate, List.cons_append, List.nil_append, List.getElem?_cons_zero, List.getElem?_cons_succ, List.set_cons_zero, List.set_cons_succ, List.zip_cons_cons, List.zip_nil_right, List.foldl_cons, List.foldl_nil, Nat.reduceAdd, Nat.reduceSub, bop_add_int, bop_sub_int, cop_lt_int, cop_gt_int, cop_le_int, cop_ge_int, cop_eq_int, cop_ne_int, atI_c0, atI_c1, atI_c2, atI_c3, if_true, Bool.false_eq_true, if_false, ↓reduceIte, Bool.not_true, Bool.not_false, cop_eq_str]
      cases decide (r.purpose = p) <;> rfl
  · have hd : (w.rounds.filter fun r => decide (r.purpose = p)).head? = w.rounds.find? fun r => decide (r.purpose = p) := List.head?_filter
    cases e : w.rounds.filter fun r => decide (r.purpose = p) with
    | nil =>
      rw [e] at hd
      rw [← hd]
      simp only [e_var, e_non, e_bl, e_int, e_str, e_bin, e_neg, e_not, e_and, e_or, e_cmp, e_chain, e_isN, e_ife, e_tup, e_lst, e_dct, e_idx, e_slc, e_blt, e_isi, e_fld, e_app, e_ext, e_idxof, e_dget, e_nil, e_cons, x_setv, x_sett, x_setp, x_seti, x_seti2, x_augi, x_setf, x_exp, x_ret, x_ife, x_frz, x_retN, x_pass, x_cont, x_nil, x_cons, getD_list, getD_tup, rd_int, rd_bl, rd_non, rd_str, rd_list, rd_tup, rd_fz, rd_dict, len_list, len_tup, abs_int, min2_int, max2_int, int_int, list_list, list_tup, mk_f, mk_t, truth_bl', truth_int', truth_list', tst_some, line0, line1, line2, line3, line4, line5, line6, line7, line8, asg, optC, optD, optI, isAbs, src_list, src_tup, src_enum, setI, body1, wipeE, List.map_cons, List.map_nil, List.length_cons, List.length_nil, List.replicate, List.cons_append, List.nil_append, List.getElem?_cons_zero, List.getElem?_cons_succ, List.set_cons_zero, List.set_cons_succ, List.zip_cons_cons, List.zip_nil_right, List.foldl_cons, List.foldl_nil, Nat.reduceAdd, Nat.reduceSub, bop_add_int, bop_sub_int, cop_lt_int, cop_gt_int, cop_le_int, cop_ge_int, cop_eq_int, cop_ne_int, atI_c0, atI_c1, atI_c2, atI_c3, if_true, Bool.false_eq_true, if_false, ↓reduceIte, Bool.not_true, Bool.not_false, show decide (((([] : List D).length : Nat) : Int) > 0) = false from rfl]
      rfl
    | cons r rs =>
      rw [e] at hd
      rw [← hd]
      have hp : decide (((rs.map eRnd).length + 1 : Nat) > (0 : Int)) = true := decide_eq_true (by omega)
      simp only [e_var, e_non, e_bl, e_int, e_str, e_bin, e_neg, e_not, e_and, e_or, e_cmp, e_chain, e_isN, e_ife, e_tup, e_lst, e_dct, e_idx, e_slc, e_blt, e_isi, e_fld, e_app, e_ext, e_idxof, e_dget, e_nil, e_cons, x_setv, x_sett, x_setp, x_seti, x_seti2, x_augi, x_setf, x_exp, x_ret, x_ife, x_frz, x_retN, x_pass, x_cont, x_nil, x_cons, getD_list, getD_tup, rd_int, rd_bl, rd_non, rd_str, rd_list, rd_tup, rd_fz, rd_dict, len_list, len_tup, abs_int, min2_int, max2_int, int_int, list_list, list_tup, mk_f, mk_t, truth_bl', truth_int', truth_list', tst_some, line0, line1, line2, line3, line4, line5, line6, line7, line8, asg, optC, optD, optI, isAbs, src_list, src_tup, src_enum, setI, body1, wipeE, List.map_cons, List.map_nil, List.length_cons, List.length_nil, List.replicate, List.cons_append, List.nil_append, List.getElem?_cons_zero, List.getElem?_cons_succ, List.set_cons_zero, List.set_cons_succ, List.zip_cons_cons, List.zip_nil_right, List.foldl_cons, List.foldl_nil, Nat.reduceAdd, Nat.reduceSub, bop_add_int, bop_sub_int, cop_lt_int, cop_gt_int, cop_le_int, cop_ge_int, cop_eq_int, cop_ne_int, atI_c0, atI_c1, atI_c2, atI_c3, if_true, Bool.false_eq_true, if_false, ↓reduceIte, Bool.not_true, Bool.not_false, hp]
      rfl
end
end K34

/-! K34b: kin, interest. -/
namespace K34
open MP CM
section
variable {n : Nat} {M : Sto} {d : D} {w : Wld}
theorem near_sorted {p : Tx} (ok : w.Ok 8 9) (M : Sto) : blt1 .sorted M [.list ((((w.kin.filter fun q => decide (q.1 = p)).map (·.2)) ++ ((w.kin.filter fun q => decide (q.2 = p)).map (·.1))).map D.str)] = some (.list ((nearW w p).map D.str)) :=
  sorted_strs fun y hy => pool_ok y (ok.near_ok (p := p) (mem_srt.mpr hy))
theorem kadd {p : Tx} (ok : w.Ok 8 9) : bop .add (.list ((w.kin.filter fun q => decide (q.1 = p)).map fun q => D.str q.2)) (.list ((w.kin.filter fun q => decide (q.2 = p)).map fun q => D.str q.1)) = some (.list ((((w.kin.filter fun q => decide (q.1 = p)).map (·.2)) ++ ((w.kin.filter fun q => decide (q.2 = p)).map (·.1))).map D.str)) := by
  have h1 := List.length_filter_le (fun q : Tx × Tx => decide (q.1 = p)) w.kin
  have h2 := List.length_filter_le (fun q : Tx × Tx => decide (q.2 = p)) w.kin
  have h3 := ok.klen
  rw [bop_add_list (by simp only [List.length_map]; unfold LINE; omega), List.map_append, List.map_map, List.map_map]
  rfl
theorem kin_run {p : Tx} (h : Has d w) (ok : w.Ok 8 9) : callM (run fns cls (n + 1)) .pure f_kin_of [d, .str p] M = some (.list ((nearW w p).map D.str), M) := by
  refine pure_of (M2 := []) (run_of (f := f_kin_of) rfl rfl (r_set (x := .list ((w.kin.filter fun q => decide (q.1 = p)).map fun q => D.str q.2)) (M1 := []) ?_ (r_ret ?_))) (by rw [belowL, h.below]; rfl) (below_str 0 _) rfl
  · rw [comp_flt (e := eKin) (g := fun q => .str q.2) (q := fun q => decide (q.1 = p)) (l := w.kin) (M1 := []) (x := .list (w.kin.map eKin)) ?_ rfl (line_of ok.klen (by decide)) ?_]
    · simp only [e_var, e_non, e_bl, e_int, e_str, e_bin, e_neg, e_not, e_and, e_or, e_cmp, e_chain, e_isN, e_ife, e_tup, e_lst, e_dct, e_idx, e_slc, e_blt, e_isi, e_fld, e_app, e_ext, e_idxof, e_dget, e_nil, e_cons, x_setv, x_sett, x_setp, x_seti, x_seti2, x_augi, x_setf, x_exp, x_ret, x_ife, x_frz, x_retN, x_pass, x_cont, x_nil, x_cons, getD_list, getD_tup, rd_int, rd_bl, rd_non, rd_str, rd_list, rd_tup, rd_fz, rd_dict, len_list, len_tup, abs_int, min2_int, max2_int, int_int, list_list, list_tup, mk_f, mk_t, truth_bl', truth_int', truth_list', tst_some, line0, line1, line2, line3, line4, line5, line6, line7, line8, asg, optC, optD, optI, isAbs, src_list, src_tup, src_enum, setI, body1, wipeE, List.map_cons, List.map_nil, List.length_cons, List.length_nil, List.replicate, List.cons_append, List.nil_append, List.getElem?_cons_zero, List.getElem?_cons_succ, List.set_cons_zero, List.set_cons_succ, List.zip_cons_cons, List.zip_nil_right, List.foldl_cons, List.foldl_nil, Nat.reduceAdd, Nat.reduceSub, bop_add_int, bop_sub_int, cop_lt_int, cop_gt_int, cop_le_int, cop_ge_int, cop_eq_int, cop_ne_int, atI_c0, atI_c1, atI_c2, atI_c3, if_true, Bool.false_eq_true, if_false, ↓reduceIte, Bool.not_true, Bool.not_false, h.rd, h.kin]
    · intro r _
      simp only [turnF, eKin]
      simp only [e_var, e_non, e_bl, e_int, e_str, e_bin, e_neg, e_not, e_and, e_or, e_cmp, e_chain, e_isN, e_ife, e_tup, e_lst, e_dct, e_idx, e_slc, e_blt, e_isi, e_fld, e_app, e_ext, e_idxof, e_dget, e_nil, e_cons, x_setv, x_sett, x_setp, x_seti, x_seti2, x_augi, x_setf, x_exp, x_ret, x_ife, x_frz, x_retN, x_pass, x_cont, x_nil, x_cons, getD_list, getD_tup, rd_int, rd_bl, rd_non, rd_str, rd_list, rd_tup, rd_fz, rd_dict, len_list, len_tup, abs_int, min2_int, max2_int, int_int, list_list, list_tup, mk_f, mk_t, truth_bl', truth_int', truth_list', tst_some, line0, line1, line2, line3, line4, line5, line6, line7, line8, asg, optC, optD, optI, isAbs, src_list, src_tup, src_enum, setI, body1, wipeE, List.map_cons, List.map_nil, List.length_cons, List.length_nil, List.replicate, List.cons_append, List.nil_append, List.getElem?_cons_zero, List.getElem?_cons_succ, List.set_cons_zero, List.set_cons_succ, List.zip_cons_cons, List.zip_nil_right, List.foldl_cons, List.foldl_nil, Nat.reduceAdd, Nat.reduceSub, bop_add_int, bop_sub_int, cop_lt_int, cop_gt_int, cop_le_int, cop_ge_int, cop_eq_int, cop_ne_int, atI_c0, atI_c1, atI_c2, atI_c3, if_true, Bool.false_eq_true, if_false, ↓reduceIte, Bool.not_true, Bool.not_false, cop_eq_str, asg_tp2]
      cases decide (r.1 = p) <;> rfl
  · have hc : ∀ x2, ev (run fns cls n) cls (.comp false [3, 4] (.tp [3, 4]) .seq (.idx (.var 0) (.str "kin")) .absent (.cmp .eq (.var 4) (.var 1)) (.var 3)) [some d, some (.str p), x2, none, none] [] = some (.list ((w.kin.filter fun q => decide (q.2 = p)).map fun q => D.str q.1), []) := by
      intro x2
      rw [comp_flt (e := eKin) (g := fun q => .str q.1) (q := fun q => decide (q.2 = p)) (l := w.kin) (M1 := []) (x := .list (w.kin.map eKin)) ?_ rfl (line_of ok.klen (by decide)) ?_]
      · simp only [e_var, e_non, e_bl, e_int, e_str, e_bin, e_neg, e_not, e_and, e_or, e_cmp, e_chain, e_isN, e_ife, e_tup, e_lst, e_dct, e_idx, e_slc, e_blt, e_isi, e_fld, e_app, e_ext, e_idxof, e_dget, e_nil, e_cons, x_setv, x_sett, x_setp, x_seti, x_seti2, x_augi, x_setf, x_exp, x_ret, x_ife, x_frz, x_retN, x_pass, x_cont, x_nil, x_cons, getD_list, getD_tup, rd_int, rd_bl, rd_non, rd_str, rd_list, rd_tup, rd_fz, rd_dict, len_list, len_tup, abs_int, min2_int, max2_int, int_int, list_list, list_tup, mk_f, mk_t, truth_bl', truth_int', truth_list', tst_some, line0, line1, line2, line3, line4, line5, line6, line7, line8, asg, optC, optD, optI, isAbs, src_list, src_tup, src_enum, setI, body1, wipeE, List.map_cons, List.map_nil, List.length_cons, List.length_nil, List.replicate, List.cons_append, List.nil_append, List.getElem?_cons_zero, List.getElem?_cons_succ, List.set_cons_zero, List.set_cons_succ, List.zip_cons_cons, List.zip_nil_right, List.foldl_cons, List.foldl_nil, Nat.reduceAdd, Nat.reduceSub, bop_add_int, bop_sub_int, cop_lt_int, cop_gt_int, cop_le_int, cop_ge_int, cop_eq_int, cop_ne_int, atI_c0, atI_c1, atI_c2, atI_c3, if_true, Bool.false_eq_true, if_false, ↓reduceIte, Bool.not_true, Bool.not_false, h.rd, h.kin]
      · intro r _
        simp only [turnF, eKin]
        simp only [e_var, e_non, e_bl, e_int, e_str, e_bin, e_neg, e_not, e_and, e_or, e_cmp, e_chain, e_isN, e_ife, e_tup, e_lst, e_dct, e_idx, e_slc, e_blt, e_isi, e_fld, e_app, e_ext, e_idxof, e_dget, e_nil, e_cons, x_setv, x_sett, x_setp, x_seti, x_seti2, x_augi, x_setf, x_exp, x_ret, x_ife, x_frz, x_retN, x_pass, x_cont, x_nil, x_cons, getD_list, getD_tup, rd_int, rd_bl, rd_non, rd_str, rd_list, rd_tup, rd_fz, rd_dict, len_list, len_tup, abs_int, min2_int, max2_int, int_int, list_list, list_tup, mk_f, mk_t, truth_bl', truth_int', truth_list', tst_some, line0, line1, line2, line3, line4, line5, line6, line7, line8, asg, optC, optD, optI, isAbs, src_list, src_tup, src_enum, setI, body1, wipeE, List.map_cons, List.map_nil, List.length_cons, List.length_nil, List.replicate, List.cons_append, List.nil_append, List.getElem?_cons_zero, List.getElem?_cons_succ, List.set_cons_zero, List.set_cons_succ, List.zip_cons_cons, List.zip_nil_right, List.foldl_cons, List.foldl_nil, Nat.reduceAdd, Nat.reduceSub, bop_add_int, bop_sub_int, cop_lt_int, cop_gt_int, cop_le_int, cop_ge_int, cop_eq_int, cop_ne_int, atI_c0, atI_c1, atI_c2, atI_c3, if_true, Bool.false_eq_true, if_false, ↓reduceIte, Bool.not_true, Bool.not_false, cop_eq_str, asg_tp2]
        cases decide (r.2 = p) <;> rfl
    simp only [e_var, e_non, e_bl, e_int, e_str, e_bin, e_neg, e_not, e_and, e_or, e_cmp, e_chain, e_isN, e_ife, e_tup, e_lst, e_dct, e_idx, e_slc, e_blt, e_isi, e_fld, e_app, e_ext, e_idxof, e_dget, e_nil, e_cons, x_setv, x_sett, x_setp, x_seti, x_seti2, x_augi, x_setf, x_exp, x_ret, x_ife, x_frz, x_retN, x_pass, x_cont, x_nil, x_cons, getD_list, getD_tup, rd_int, rd_bl, rd_non, rd_str, rd_list, rd_tup, rd_fz, rd_dict, len_list, len_tup, abs_int, min2_int, max2_int, int_int, list_list, list_tup, mk_f, mk_t, truth_bl', truth_int', truth_list', tst_some, line0, line1, line2, line3, line4, line5, line6, line7, line8, asg, optC, optD, optI, isAbs, src_list, src_tup, src_enum, setI, body1, wipeE, List.map_cons, List.map_nil, List.length_cons, List.length_nil, List.replicate, List.cons_append, List.nil_append, List.getElem?_cons_zero, List.getElem?_cons_succ, List.set_cons_zero, List.set_cons_succ, List.zip_cons_cons, List.zip_nil_right, List.foldl_cons, List.foldl_nil, Nat.reduceAdd, Nat.reduceSub, bop_add_int, bop_sub_int, cop_lt_int, cop_gt_int, cop_le_int, cop_ge_int, cop_eq_int, cop_ne_int, atI_c0, atI_c1, atI_c2, atI_c3, if_true, Bool.false_eq_true, if_false, ↓reduceIte, Bool.not_true, Bool.not_false, hc, kadd ok, near_sorted ok]
theorem lnear_run {p : Tx} (h : Has d w) (ok : w.Ok 8 9) : callM (run fns cls (n + 1)) .pure f_law_near [d, .str p] M = some (.list ((nearW w p).map D.str), M) := by
  refine pure_of (M2 := []) (run_of (f := f_law_near) rfl rfl (r_ret ?_)) (by rw [belowL, h.below]; rfl) (below_str 0 _) rfl
  have hc1 : ev (run fns cls n) cls (.comp false [2, 3] (.tp [2, 3]) .seq (.idx (.var 0) (.str "kin")) .absent (.cmp .eq (.var 2) (.var 1)) (.var 3)) [some d, some (.str p), none, none] [] = some (.list ((w.kin.filter fun q => decide (q.1 = p)).map fun q => D.str q.2), []) := by
    rw [comp_flt (e := eKin) (g := fun q => .str q.2) (q := fun q => decide (q.1 = p)) (l := w.kin) (M1 := []) (x := .list (w.kin.map eKin)) ?_ rfl (line_of ok.klen (by decide)) ?_]
    · simp only [e_var, e_non, e_bl, e_int, e_str, e_bin, e_neg, e_not, e_and, e_or, e_cmp, e_chain, e_isN, e_ife, e_tup, e_lst, e_dct, e_idx, e_slc, e_blt, e_isi, e_fld, e_app, e_ext, e_idxof, e_dget, e_nil, e_cons, x_setv, x_sett, x_setp, x_seti, x_seti2, x_augi, x_setf, x_exp, x_ret, x_ife, x_frz, x_retN, x_pass, x_cont, x_nil, x_cons, getD_list, getD_tup, rd_int, rd_bl, rd_non, rd_str, rd_list, rd_tup, rd_fz, rd_dict, len_list, len_tup, abs_int, min2_int, max2_int, int_int, list_list, list_tup, mk_f, mk_t, truth_bl', truth_int', truth_list', tst_some, line0, line1, line2, line3, line4, line5, line6, line7, line8, asg, optC, optD, optI, isAbs, src_list, src_tup, src_enum, setI, body1, wipeE, List.map_cons, List.map_nil, List.length_cons, List.length_nil, List.replicate, List.cons_append, List.nil_append, List.getElem?_cons_zero, List.getElem?_cons_succ, List.set_cons_zero, List.set_cons_succ, List.zip_cons_cons, List.zip_nil_right, List.foldl_cons, List.foldl_nil, Nat.reduceAdd, Nat.reduceSub, bop_add_int, bop_sub_int, cop_lt_int, cop_gt_int, cop_le_int, cop_ge_int, cop_eq_int, cop_ne_int, atI_c0, atI_c1, atI_c2, atI_c3, if_true, Bool.false_eq_true, if_false, ↓reduceIte, Bool.not_true, Bool.not_false, h.rd, h.kin]
    · intro r _
      simp only [turnF, eKin]
      simp only [e_var, e_non, e_bl, e_int, e_str, e_bin, e_neg, e_not, e_and, e_or, e_cmp, e_chain, e_isN, e_ife, e_tup, e_lst, e_dct, e_idx, e_slc, e_blt, e_isi, e_fld, e_app, e_ext, e_idxof, e_dget, e_nil, e_cons, x_setv, x_sett, x_setp, x_seti, x_seti2, x_augi, x_setf, x_exp, x_ret, x_ife, x_frz, x_retN, x_pass, x_cont, x_nil, x_cons, getD_list, getD_tup, rd_int, rd_bl, rd_non, rd_str, rd_list, rd_tup, rd_fz, rd_dict, len_list, len_tup, abs_int, min2_int, max2_int, int_int, list_list, list_tup, mk_f, mk_t, truth_bl', truth_int', truth_list', tst_some, line0, line1, line2, line3, line4, line5, line6, line7, line8, asg, optC, optD, optI, isAbs, src_list, src_tup, src_enum, setI, body1, wipeE, List.map_cons, List.map_nil, List.length_cons, List.length_nil, List.replicate, List.cons_append, List.nil_append, List.getElem?_cons_zero, List.getElem?_cons_succ, List.set_cons_zero, List.set_cons_succ, List.zip_cons_cons, List.zip_nil_right, List.foldl_cons, List.foldl_nil, Nat.reduceAdd, Nat.reduceSub, bop_add_int, bop_sub_int, cop_lt_int, cop_gt_int, cop_le_int, cop_ge_int, cop_eq_int, cop_ne_int, atI_c0, atI_c1, atI_c2, atI_c3, if_true, Bool.false_eq_true, if_false, ↓reduceIte, Bool.not_true, Bool.not_false, cop_eq_str, asg_tp2]
      cases decide (r.1 = p) <;> rfl
  have hc2 : ev (run fns cls n) cls (.comp false [2, 3] (.tp [2, 3]) .seq (.idx (.var 0) (.str "kin")) .absent (.cmp .eq (.var 3) (.var 1)) (.var 2)) [some d, some (.str p), none, none] [] = some (.list ((w.kin.filter fun q => decide (q.2 = p)).map fun q => D.str q.1), []) := by
    rw [comp_flt (e := eKin) (g := fun q => .str q.1) (q := fun q => decide (q.2 = p)) (l := w.kin) (M1 := []) (x := .list (w.kin.map eKin)) ?_ rfl (line_of ok.klen (by decide)) ?_]
    · simp only [e_var, e_non, e_bl, e_int, e_str, e_bin, e_neg, e_not, e_and, e_or, e_cmp, e_chain, e_isN, e_ife, e_tup, e_lst, e_dct, e_idx, e_slc, e_blt, e_isi, e_fld, e_app, e_ext, e_idxof, e_dget, e_nil, e_cons, x_setv, x_sett, x_setp, x_seti, x_seti2, x_augi, x_setf, x_exp, x_ret, x_ife, x_frz, x_retN, x_pass, x_cont, x_nil, x_cons, getD_list, getD_tup, rd_int, rd_bl, rd_non, rd_str, rd_list, rd_tup, rd_fz, rd_dict, len_list, len_tup, abs_int, min2_int, max2_int, int_int, list_list, list_tup, mk_f, mk_t, truth_bl', truth_int', truth_list', tst_some, line0, line1, line2, line3, line4, line5, line6, line7, line8, asg, optC, optD, optI, isAbs, src_list, src_tup, src_enum, setI, body1, wipeE, List.map_cons, List.map_nil, List.length_cons, List.length_nil, List.replicate, List.cons_append, List.nil_append, List.getElem?_cons_zero, List.getElem?_cons_succ, List.set_cons_zero, List.set_cons_succ, List.zip_cons_cons, List.zip_nil_right, List.foldl_cons, List.foldl_nil, Nat.reduceAdd, Nat.reduceSub, bop_add_int, bop_sub_int, cop_lt_int, cop_gt_int, cop_le_int, cop_ge_int, cop_eq_int, cop_ne_int, atI_c0, atI_c1, atI_c2, atI_c3, if_true, Bool.false_eq_true, if_false, ↓reduceIte, Bool.not_true, Bool.not_false, h.rd, h.kin]
    · intro r _
      simp only [turnF, eKin]
      simp only [e_var, e_non, e_bl, e_int, e_str, e_bin, e_neg, e_not, e_and, e_or, e_cmp, e_chain, e_isN, e_ife, e_tup, e_lst, e_dct, e_idx, e_slc, e_blt, e_isi, e_fld, e_app, e_ext, e_idxof, e_dget, e_nil, e_cons, x_setv, x_sett, x_setp, x_seti, x_seti2, x_augi, x_setf, x_exp, x_ret, x_ife, x_frz, x_retN, x_pass, x_cont, x_nil, x_cons, getD_list, getD_tup, rd_int, rd_bl, rd_non, rd_str, rd_list, rd_tup, rd_fz, rd_dict, len_list, len_tup, abs_int, min2_int, max2_int, int_int, list_list, list_tup, mk_f, mk_t, truth_bl', truth_int', truth_list', tst_some, line0, line1, line2, line3, line4, line5, line6, line7, line8, asg, optC, optD, optI, isAbs, src_list, src_tup, src_enum, setI, body1, wipeE, List.map_cons, List.map_nil, List.length_cons, List.length_nil, List.replicate, List.cons_append, List.nil_append, List.getElem?_cons_zero, List.getElem?_cons_succ, List.set_cons_zero, List.set_cons_succ, List.zip_cons_cons, List.zip_nil_right, List.foldl_cons, List.foldl_nil, Nat.reduceAdd, Nat.reduceSub, bop_add_int, bop_sub_int, cop_lt_int, cop_gt_int, cop_le_int, cop_ge_int, cop_eq_int, cop_ne_int, atI_c0, atI_c1, atI_c2, atI_c3, if_true, Bool.false_eq_true, if_false, ↓reduceIte, Bool.not_true, Bool.not_false, cop_eq_str, asg_tp2]
      cases decide (r.2 = p) <;> rfl
  simp only [e_var, e_non, e_bl, e_int, e_str, e_bin, e_neg, e_not, e_and, e_or, e_cmp, e_chain, e_isN, e_ife, e_tup, e_lst, e_dct, e_idx, e_slc, e_blt, e_isi, e_fld, e_app, e_ext, e_idxof, e_dget, e_nil, e_cons, x_setv, x_sett, x_setp, x_seti, x_seti2, x_augi, x_setf, x_exp, x_ret, x_ife, x_frz, x_retN, x_pass, x_cont, x_nil, x_cons, getD_list, getD_tup, rd_int, rd_bl, rd_non, rd_str, rd_list, rd_tup, rd_fz, rd_dict, len_list, len_tup, abs_int, min2_int, max2_int, int_int, list_list, list_tup, mk_f, mk_t, truth_bl', truth_int', truth_list', tst_some, line0, line1, line2, line3, line4, line5, line6, line7, line8, asg, optC, optD, optI, isAbs, src_list, src_tup, src_enum, setI, body1, wipeE, List.map_cons, List.map_nil, List.length_cons, List.length_nil, List.replicate, List.cons_append, List.nil_append, List.getElem?_cons_zero, List.getElem?_cons_succ, List.set_cons_zero, List.set_cons_succ, List.zip_cons_cons, List.zip_nil_right, List.foldl_cons, List.foldl_nil, Nat.reduceAdd, Nat.reduceSub, bop_add_int, bop_sub_int, cop_lt_int, cop_gt_int, cop_le_int, cop_ge_int, cop_eq_int, cop_ne_int, atI_c0, atI_c1, atI_c2, atI_c3, if_true, Bool.false_eq_true, if_false, ↓reduceIte, Bool.not_true, Bool.not_false, hc1, hc2, kadd ok, near_sorted ok]
theorem mem_run {x : Tx} {ys : List Tx} (hx : x ∈ pool) (hy : ∀ y ∈ ys, y ∈ pool) : cop .inn (.str x) (.list (ys.map D.str)) = some (decide (x ∈ ys)) := by
  rw [cop_inn_list, memD_strs (pool_ok x hx) fun y h => pool_ok y (hy y h)]
theorem inter_run {nm m : Tx} {a : Ask} (h : Has d w) (ok : w.Ok 8 9) (ha : w.asks.find? (fun a => decide (a.name = nm)) = some a) (hg : a.grantee ∈ pool) (hm : m ∈ pool) : callM (run fns cls (n + 2)) .pure f_interest [d, .str m, .str nm] M = some (eTO (inter w m a.grantee), M) := by
  refine pure_of (M2 := []) (run_of (f := f_interest) rfl rfl (r_set (x := .str a.grantee) (M1 := []) ?_ ?_)) (by rw [belowL, h.below]; rfl) (below_eTO 0 _) (rd_eTO _ _)
  · have := ask_run (n := n) (M := []) h ok ha
    simp only [e_var, e_non, e_bl, e_int, e_str, e_bin, e_neg, e_not, e_and, e_or, e_cmp, e_chain, e_isN, e_ife, e_tup, e_lst, e_dct, e_idx, e_slc, e_blt, e_isi, e_fld, e_app, e_ext, e_idxof, e_dget, e_nil, e_cons, x_setv, x_sett, x_setp, x_seti, x_seti2, x_augi, x_setf, x_exp, x_ret, x_ife, x_frz, x_retN, x_pass, x_cont, x_nil, x_cons, getD_list, getD_tup, rd_int, rd_bl, rd_non, rd_str, rd_list, rd_tup, rd_fz, rd_dict, len_list, len_tup, abs_int, min2_int, max2_int, int_int, list_list, list_tup, mk_f, mk_t, truth_bl', truth_int', truth_list', tst_some, line0, line1, line2, line3, line4, line5, line6, line7, line8, asg, optC, optD, optI, isAbs, src_list, src_tup, src_enum, setI, body1, wipeE, List.map_cons, List.map_nil, List.length_cons, List.length_nil, List.replicate, List.cons_append, List.nil_append, List.getElem?_cons_zero, List.getElem?_cons_succ, List.set_cons_zero, List.set_cons_succ, List.zip_cons_cons, List.zip_nil_right, List.foldl_cons, List.foldl_nil, Nat.reduceAdd, Nat.reduceSub, bop_add_int, bop_sub_int, cop_lt_int, cop_gt_int, cop_le_int, cop_ge_int, cop_eq_int, cop_ne_int, atI_c0, atI_c1, atI_c2, atI_c3, if_true, Bool.false_eq_true, if_false, ↓reduceIte, Bool.not_true, Bool.not_false, e_call, this, eAsk]
  · unfold inter
    by_cases h1 : m = a.grantee
    · rw [if_pos h1]
      refine r_yes (M1 := []) (by simp only [e_var, e_non, e_bl, e_int, e_str, e_bin, e_neg, e_not, e_and, e_or, e_cmp, e_chain, e_isN, e_ife, e_tup, e_lst, e_dct, e_idx, e_slc, e_blt, e_isi, e_fld, e_app, e_ext, e_idxof, e_dget, e_nil, e_cons, x_setv, x_sett, x_setp, x_seti, x_seti2, x_augi, x_setf, x_exp, x_ret, x_ife, x_frz, x_retN, x_pass, x_cont, x_nil, x_cons, getD_list, getD_tup, rd_int, rd_bl, rd_non, rd_str, rd_list, rd_tup, rd_fz, rd_dict, len_list, len_tup, abs_int, min2_int, max2_int, int_int, list_list, list_tup, mk_f, mk_t, truth_bl', truth_int', truth_list', tst_some, line0, line1, line2, line3, line4, line5, line6, line7, line8, asg, optC, optD, optI, isAbs, src_list, src_tup, src_enum, setI, body1, wipeE, List.map_cons, List.map_nil, List.length_cons, List.length_nil, List.replicate, List.cons_append, List.nil_append, List.getElem?_cons_zero, List.getElem?_cons_succ, List.set_cons_zero, List.set_cons_succ, List.zip_cons_cons, List.zip_nil_right, List.foldl_cons, List.foldl_nil, Nat.reduceAdd, Nat.reduceSub, bop_add_int, bop_sub_int, cop_lt_int, cop_gt_int, cop_le_int, cop_ge_int, cop_eq_int, cop_ne_int, atI_c0, atI_c1, atI_c2, atI_c3, if_true, Bool.false_eq_true, if_false, ↓reduceIte, Bool.not_true, Bool.not_false, cop_eq_str, decide_eq_true h1]) (r_ret ?_)
      simp only [e_var, e_non, e_bl, e_int, e_str, e_bin, e_neg, e_not, e_and, e_or, e_cmp, e_chain, e_isN, e_ife, e_tup, e_lst, e_dct, e_idx, e_slc, e_blt, e_isi, e_fld, e_app, e_ext, e_idxof, e_dget, e_nil, e_cons, x_setv, x_sett, x_setp, x_seti, x_seti2, x_augi, x_setf, x_exp, x_ret, x_ife, x_frz, x_retN, x_pass, x_cont, x_nil, x_cons, getD_list, getD_tup, rd_int, rd_bl, rd_non, rd_str, rd_list, rd_tup, rd_fz, rd_dict, len_list, len_tup, abs_int, min2_int, max2_int, int_int, list_list, list_tup, mk_f, mk_t, truth_bl', truth_int', truth_list', tst_some, line0, line1, line2, line3, line4, line5, line6, line7, line8, asg, optC, optD, optI, isAbs, src_list, src_tup, src_enum, setI, body1, wipeE, List.map_cons, List.map_nil, List.length_cons, List.length_nil, List.replicate, List.cons_append, List.nil_append, List.getElem?_cons_zero, List.getElem?_cons_succ, List.set_cons_zero, List.set_cons_succ, List.zip_cons_cons, List.zip_nil_right, List.foldl_cons, List.foldl_nil, Nat.reduceAdd, Nat.reduceSub, bop_add_int, bop_sub_int, cop_lt_int, cop_gt_int, cop_le_int, cop_ge_int, cop_eq_int, cop_ne_int, atI_c0, atI_c1, atI_c2, atI_c3, if_true, Bool.false_eq_true, if_false, ↓reduceIte, Bool.not_true, Bool.not_false]
      rfl
    · rw [if_neg h1]
      refine r_no (M1 := []) (by simp only [e_var, e_non, e_bl, e_int, e_str, e_bin, e_neg, e_not, e_and, e_or, e_cmp, e_chain, e_isN, e_ife, e_tup, e_lst, e_dct, e_idx, e_slc, e_blt, e_isi, e_fld, e_app, e_ext, e_idxof, e_dget, e_nil, e_cons, x_setv, x_sett, x_setp, x_seti, x_seti2, x_augi, x_setf, x_exp, x_ret, x_ife, x_frz, x_retN, x_pass, x_cont, x_nil, x_cons, getD_list, getD_tup, rd_int, rd_bl, rd_non, rd_str, rd_list, rd_tup, rd_fz, rd_dict, len_list, len_tup, abs_int, min2_int, max2_int, int_int, list_list, list_tup, mk_f, mk_t, truth_bl', truth_int', truth_list', tst_some, line0, line1, line2, line3, line4, line5, line6, line7, line8, asg, optC, optD, optI, isAbs, src_list, src_tup, src_enum, setI, body1, wipeE, List.map_cons, List.map_nil, List.length_cons, List.length_nil, List.replicate, List.cons_append, List.nil_append, List.getElem?_cons_zero, List.getElem?_cons_succ, List.set_cons_zero, List.set_cons_succ, List.zip_cons_cons, List.zip_nil_right, List.foldl_cons, List.foldl_nil, Nat.reduceAdd, Nat.reduceSub, bop_add_int, bop_sub_int, cop_lt_int, cop_gt_int, cop_le_int, cop_ge_int, cop_eq_int, cop_ne_int, atI_c0, atI_c1, atI_c2, atI_c3, if_true, Bool.false_eq_true, if_false, ↓reduceIte, Bool.not_true, Bool.not_false, cop_eq_str, decide_eq_false h1]) (r_set (x := .list ((nearW w m).map D.str)) (M1 := []) ?_ ?_)
      · have := kin_run (n := n) (M := []) (p := m) h ok
        simp only [e_var, e_non, e_bl, e_int, e_str, e_bin, e_neg, e_not, e_and, e_or, e_cmp, e_chain, e_isN, e_ife, e_tup, e_lst, e_dct, e_idx, e_slc, e_blt, e_isi, e_fld, e_app, e_ext, e_idxof, e_dget, e_nil, e_cons, x_setv, x_sett, x_setp, x_seti, x_seti2, x_augi, x_setf, x_exp, x_ret, x_ife, x_frz, x_retN, x_pass, x_cont, x_nil, x_cons, getD_list, getD_tup, rd_int, rd_bl, rd_non, rd_str, rd_list, rd_tup, rd_fz, rd_dict, len_list, len_tup, abs_int, min2_int, max2_int, int_int, list_list, list_tup, mk_f, mk_t, truth_bl', truth_int', truth_list', tst_some, line0, line1, line2, line3, line4, line5, line6, line7, line8, asg, optC, optD, optI, isAbs, src_list, src_tup, src_enum, setI, body1, wipeE, List.map_cons, List.map_nil, List.length_cons, List.length_nil, List.replicate, List.cons_append, List.nil_append, List.getElem?_cons_zero, List.getElem?_cons_succ, List.set_cons_zero, List.set_cons_succ, List.zip_cons_cons, List.zip_nil_right, List.foldl_cons, List.foldl_nil, Nat.reduceAdd, Nat.reduceSub, bop_add_int, bop_sub_int, cop_lt_int, cop_gt_int, cop_le_int, cop_ge_int, cop_eq_int, cop_ne_int, atI_c0, atI_c1, atI_c2, atI_c3, if_true, Bool.false_eq_true, if_false, ↓reduceIte, Bool.not_true, Bool.not_false, e_call, this]
      · have hmem := fun p => mem_run (x := a.grantee) (ys := nearW w p) hg fun y hy => ok.near_ok hy
        by_cases h2 : a.grantee ∈ nearW w m
        · rw [if_pos h2]
          refine r_yes (M1 := []) (by simp only [e_var, e_non, e_bl, e_int, e_str, e_bin, e_neg, e_not, e_and, e_or, e_cmp, e_chain, e_isN, e_ife, e_tup, e_lst, e_dct, e_idx, e_slc, e_blt, e_isi, e_fld, e_app, e_ext, e_idxof, e_dget, e_nil, e_cons, x_setv, x_sett, x_setp, x_seti, x_seti2, x_augi, x_setf, x_exp, x_ret, x_ife, x_frz, x_retN, x_pass, x_cont, x_nil, x_cons, getD_list, getD_tup, rd_int, rd_bl, rd_non, rd_str, rd_list, rd_tup, rd_fz, rd_dict, len_list, len_tup, abs_int, min2_int, max2_int, int_int, list_list, list_tup, mk_f, mk_t, truth_bl', truth_int', truth_list', tst_some, line0, line1, line2, line3, line4, line5, line6, line7, line8, asg, optC, optD, optI, isAbs, src_list, src_tup, src_enum, setI, body1, wipeE, List.map_cons, List.map_nil, List.length_cons, List.length_nil, List.replicate, List.cons_append, List.nil_append, List.getElem?_cons_zero, List.getElem?_cons_succ, List.set_cons_zero, List.set_cons_succ, List.zip_cons_cons, List.zip_nil_right, List.foldl_cons, List.foldl_nil, Nat.reduceAdd, Nat.reduceSub, bop_add_int, bop_sub_int, cop_lt_int, cop_gt_int, cop_le_int, cop_ge_int, cop_eq_int, cop_ne_int, atI_c0, atI_c1, atI_c2, atI_c3, if_true, Bool.false_eq_true, if_false, ↓reduceIte, Bool.not_true, Bool.not_false, hmem, decide_eq_true h2]) (r_ret ?_)
          simp only [e_var, e_non, e_bl, e_int, e_str, e_bin, e_neg, e_not, e_and, e_or, e_cmp, e_chain, e_isN, e_ife, e_tup, e_lst, e_dct, e_idx, e_slc, e_blt, e_isi, e_fld, e_app, e_ext, e_idxof, e_dget, e_nil, e_cons, x_setv, x_sett, x_setp, x_seti, x_seti2, x_augi, x_setf, x_exp, x_ret, x_ife, x_frz, x_retN, x_pass, x_cont, x_nil, x_cons, getD_list, getD_tup, rd_int, rd_bl, rd_non, rd_str, rd_list, rd_tup, rd_fz, rd_dict, len_list, len_tup, abs_int, min2_int, max2_int, int_int, list_list, list_tup, mk_f, mk_t, truth_bl', truth_int', truth_list', tst_some, line0, line1, line2, line3, line4, line5, line6, line7, line8, asg, optC, optD, optI, isAbs, src_list, src_tup, src_enum, setI, body1, wipeE, List.map_cons, List.map_nil, List.length_cons, List.length_nil, List.replicate, List.cons_append, List.nil_append, List.getElem?_cons_zero, List.getElem?_cons_succ, List.set_cons_zero, List.set_cons_succ, List.zip_cons_cons, List.zip_nil_right, List.foldl_cons, List.foldl_nil, Nat.reduceAdd, Nat.reduceSub, bop_add_int, bop_sub_int, cop_lt_int, cop_gt_int, cop_le_int, cop_ge_int, cop_eq_int, cop_ne_int, atI_c0, atI_c1, atI_c2, atI_c3, if_true, Bool.false_eq_true, if_false, ↓reduceIte, Bool.not_true, Bool.not_false]
          rfl
        · rw [if_neg h2]
          refine r_no (M1 := []) (by simp only [e_var, e_non, e_bl, e_int, e_str, e_bin, e_neg, e_not, e_and, e_or, e_cmp, e_chain, e_isN, e_ife, e_tup, e_lst, e_dct, e_idx, e_slc, e_blt, e_isi, e_fld, e_app, e_ext, e_idxof, e_dget, e_nil, e_cons, x_setv, x_sett, x_setp, x_seti, x_seti2, x_augi, x_setf, x_exp, x_ret, x_ife, x_frz, x_retN, x_pass, x_cont, x_nil, x_cons, getD_list, getD_tup, rd_int, rd_bl, rd_non, rd_str, rd_list, rd_tup, rd_fz, rd_dict, len_list, len_tup, abs_int, min2_int, max2_int, int_int, list_list, list_tup, mk_f, mk_t, truth_bl', truth_int', truth_list', tst_some, line0, line1, line2, line3, line4, line5, line6, line7, line8, asg, optC, optD, optI, isAbs, src_list, src_tup, src_enum, setI, body1, wipeE, List.map_cons, List.map_nil, List.length_cons, List.length_nil, List.replicate, List.cons_append, List.nil_append, List.getElem?_cons_zero, List.getElem?_cons_succ, List.set_cons_zero, List.set_cons_succ, List.zip_cons_cons, List.zip_nil_right, List.foldl_cons, List.foldl_nil, Nat.reduceAdd, Nat.reduceSub, bop_add_int, bop_sub_int, cop_lt_int, cop_gt_int, cop_le_int, cop_ge_int, cop_eq_int, cop_ne_int, atI_c0, atI_c1, atI_c2, atI_c3, if_true, Bool.false_eq_true, if_false, ↓reduceIte, Bool.not_true, Bool.not_false, hmem, decide_eq_false h2]) (r_set (x := .list (((nearW w m).filter fun p => decide (a.grantee ∈ nearW w p)).map fun p => eTup [m, p, a.grantee])) (M1 := []) ?_ (r_ret ?_))
          · rw [comp_flt (e := D.str) (g := fun p => eTup [m, p, a.grantee]) (q := fun p => decide (a.grantee ∈ nearW w p)) (l := nearW w m) (M1 := []) (x := .list ((nearW w m).map D.str)) ?_ rfl (line_of (ok.near_len m) (by decide)) ?_]
            · simp only [e_var, e_non, e_bl, e_int, e_str, e_bin, e_neg, e_not, e_and, e_or, e_cmp, e_chain, e_isN, e_ife, e_tup, e_lst, e_dct, e_idx, e_slc, e_blt, e_isi, e_fld, e_app, e_ext, e_idxof, e_dget, e_nil, e_cons, x_setv, x_sett, x_setp, x_seti, x_seti2, x_augi, x_setf, x_exp, x_ret, x_ife, x_frz, x_retN, x_pass, x_cont, x_nil, x_cons, getD_list, getD_tup, rd_int, rd_bl, rd_non, rd_str, rd_list, rd_tup, rd_fz, rd_dict, len_list, len_tup, abs_int, min2_int, max2_int, int_int, list_list, list_tup, mk_f, mk_t, truth_bl', truth_int', truth_list', tst_some, line0, line1, line2, line3, line4, line5, line6, line7, line8, asg, optC, optD, optI, isAbs, src_list, src_tup, src_enum, setI, body1, wipeE, List.map_cons, List.map_nil, List.length_cons, List.length_nil, List.replicate, List.cons_append, List.nil_append, List.getElem?_cons_zero, List.getElem?_cons_succ, List.set_cons_zero, List.set_cons_succ, List.zip_cons_cons, List.zip_nil_right, List.foldl_cons, List.foldl_nil, Nat.reduceAdd, Nat.reduceSub, bop_add_int, bop_sub_int, cop_lt_int, cop_gt_int, cop_le_int, cop_ge_int, cop_eq_int, cop_ne_int, atI_c0, atI_c1, atI_c2, atI_c3, if_true, Bool.false_eq_true, if_false, ↓reduceIte, Bool.not_true, Bool.not_false]
            · intro p _
              have := kin_run (n := n) (M := []) (p := p) h ok
              simp only [turnF]
              simp only [e_var, e_non, e_bl, e_int, e_str, e_bin, e_neg, e_not, e_and, e_or, e_cmp, e_chain, e_isN, e_ife, e_tup, e_lst, e_dct, e_idx, e_slc, e_blt, e_isi, e_fld, e_app, e_ext, e_idxof, e_dget, e_nil, e_cons, x_setv, x_sett, x_setp, x_seti, x_seti2, x_augi, x_setf, x_exp, x_ret, x_ife, x_frz, x_retN, x_pass, x_cont, x_nil, x_cons, getD_list, getD_tup, rd_int, rd_bl, rd_non, rd_str, rd_list, rd_tup, rd_fz, rd_dict, len_list, len_tup, abs_int, min2_int, max2_int, int_int, list_list, list_tup, mk_f, mk_t, truth_bl', truth_int', truth_list', tst_some, line0, line1, line2, line3, line4, line5, line6, line7, line8, asg, optC, optD, optI, isAbs, src_list, src_tup, src_enum, setI, body1, wipeE, List.map_cons, List.map_nil, List.length_cons, List.length_nil, List.replicate, List.cons_append, List.nil_append, List.getElem?_cons_zero, List.getElem?_cons_succ, List.set_cons_zero, List.set_cons_succ, List.zip_cons_cons, List.zip_nil_right, List.foldl_cons, List.foldl_nil, Nat.reduceAdd, Nat.reduceSub, bop_add_int, bop_sub_int, cop_lt_int, cop_gt_int, cop_le_int, cop_ge_int, cop_eq_int, cop_ne_int, atI_c0, atI_c1, atI_c2, atI_c3, if_true, Bool.false_eq_true, if_false, ↓reduceIte, Bool.not_true, Bool.not_false, e_call, this, hmem]
              cases decide (a.grantee ∈ nearW w p) <;> first | rfl | (simp only [e_var, e_non, e_bl, e_int, e_str, e_bin, e_neg, e_not, e_and, e_or, e_cmp, e_chain, e_isN, e_ife, e_tup, e_lst, e_dct, e_idx, e_slc, e_blt, e_isi, e_fld, e_app, e_ext, e_idxof, e_dget, e_nil, e_cons, x_setv, x_sett, x_setp, x_seti, x_seti2, x_augi, x_setf, x_exp, x_ret, x_ife, x_frz, x_retN, x_pass, x_cont, x_nil, x_cons, getD_list, getD_tup, rd_int, rd_bl, rd_non, rd_str, rd_list, rd_tup, rd_fz, rd_dict, len_list, len_tup, abs_int, min2_int, max2_int, int_int, list_list, list_tup, mk_f, mk_t, truth_bl', truth_int', truth_list', tst_some, line0, line1, line2, line3, line4, line5, line6, line7, line8, asg, optC, optD, optI, isAbs, src_list, src_tup, src_enum, setI, body1, wipeE, List.map_cons, List.map_nil, List.length_cons, List.length_nil, List.replicate, List.cons_append, List.nil_append, List.getElem?_cons_zero, List.getElem?_cons_succ, List.set_cons_zero, List.set_cons_succ, List.zip_cons_cons, List.zip_nil_right, List.foldl_cons, List.foldl_nil, Nat.reduceAdd, Nat.reduceSub, bop_add_int, bop_sub_int, cop_lt_int, cop_gt_int, cop_le_int, cop_ge_int, cop_eq_int, cop_ne_int, atI_c0, atI_c1, atI_c2, atI_c3, if_true, Bool.false_eq_true, if_false, ↓reduceIte, Bool.not_true, Bool.not_false]; rfl)
          · have hd : ((nearW w m).filter fun p => decide (a.grantee ∈ nearW w p)).head? = (nearW w m).find? fun p => decide (a.grantee ∈ nearW w p) := List.head?_filter
            cases e : (nearW w m).filter fun p => decide (a.grantee ∈ nearW w p) with
            | nil =>
              rw [e] at hd
              rw [← hd]
              simp only [e_var, e_non, e_bl, e_int, e_str, e_bin, e_neg, e_not, e_and, e_or, e_cmp, e_chain, e_isN, e_ife, e_tup, e_lst, e_dct, e_idx, e_slc, e_blt, e_isi, e_fld, e_app, e_ext, e_idxof, e_dget, e_nil, e_cons, x_setv, x_sett, x_setp, x_seti, x_seti2, x_augi, x_setf, x_exp, x_ret, x_ife, x_frz, x_retN, x_pass, x_cont, x_nil, x_cons, getD_list, getD_tup, rd_int, rd_bl, rd_non, rd_str, rd_list, rd_tup, rd_fz, rd_dict, len_list, len_tup, abs_int, min2_int, max2_int, int_int, list_list, list_tup, mk_f, mk_t, truth_bl', truth_int', truth_list', tst_some, line0, line1, line2, line3, line4, line5, line6, line7, line8, asg, optC, optD, optI, isAbs, src_list, src_tup, src_enum, setI, body1, wipeE, List.map_cons, List.map_nil, List.length_cons, List.length_nil, List.replicate, List.cons_append, List.nil_append, List.getElem?_cons_zero, List.getElem?_cons_succ, List.set_cons_zero, List.set_cons_succ, List.zip_cons_cons, List.zip_nil_right, List.foldl_cons, List.foldl_nil, Nat.reduceAdd, Nat.reduceSub, bop_add_int, bop_sub_int, cop_lt_int, cop_gt_int, cop_le_int, cop_ge_int, cop_eq_int, cop_ne_int, atI_c0, atI_c1, atI_c2, atI_c3, if_true, Bool.false_eq_true, if_false, ↓reduceIte, Bool.not_true, Bool.not_false, List.isEmpty_nil]
              rfl
            | cons r rs =>
              rw [e] at hd
              rw [← hd]
              simp only [e_var, e_non, e_bl, e_int, e_str, e_bin, e_neg, e_not, e_and, e_or, e_cmp, e_chain, e_isN, e_ife, e_tup, e_lst, e_dct, e_idx, e_slc, e_blt, e_isi, e_fld, e_app, e_ext, e_idxof, e_dget, e_nil, e_cons, x_setv, x_sett, x_setp, x_seti, x_seti2, x_augi, x_setf, x_exp, x_ret, x_ife, x_frz, x_retN, x_pass, x_cont, x_nil, x_cons, getD_list, getD_tup, rd_int, rd_bl, rd_non, rd_str, rd_list, rd_tup, rd_fz, rd_dict, len_list, len_tup, abs_int, min2_int, max2_int, int_int, list_list, list_tup, mk_f, mk_t, truth_bl', truth_int', truth_list', tst_some, line0, line1, line2, line3, line4, line5, line6, line7, line8, asg, optC, optD, optI, isAbs, src_list, src_tup, src_enum, setI, body1, wipeE, List.map_cons, List.map_nil, List.length_cons, List.length_nil, List.replicate, List.cons_append, List.nil_append, List.getElem?_cons_zero, List.getElem?_cons_succ, List.set_cons_zero, List.set_cons_succ, List.zip_cons_cons, List.zip_nil_right, List.foldl_cons, List.foldl_nil, Nat.reduceAdd, Nat.reduceSub, bop_add_int, bop_sub_int, cop_lt_int, cop_gt_int, cop_le_int, cop_ge_int, cop_eq_int, cop_ne_int, atI_c0, atI_c1, atI_c2, atI_c3, if_true, Bool.false_eq_true, if_false, ↓reduceIte, Bool.not_true, Bool.not_false, List.isEmpty_cons]
              rfl
end
end K34

/-! K34c: the law's search for interest. -/
namespace K34
open MP CM
structure GoodR (R : List (List Tx)) (k j : Nat) : Prop where
  ne : ∀ r ∈ R, r ≠ []
  pl : ∀ r ∈ R, ∀ x ∈ r, x ∈ pool
  len : R.length ≤ k
  rl : ∀ r ∈ R, r.length ≤ j
theorem alike_strs : ∀ a b : List Tx, PySem.W.alikeAll (pdL (a.map D.str)) (pdL (b.map D.str)) = true
  | [], b => by rw [List.map_nil, pdL, PySem.W.alikeAll]
  | x :: a, [] => by rw [List.map_nil, List.map_cons, pdL, pdL, PySem.W.alikeAll]
  | x :: a, y :: b => by
    rw [List.map_cons, List.map_cons, pdL, pdL, PySem.W.alikeAll, alike_strs a b, pd, pd, PySem.W.alike]
    rfl
theorem dp_eTup {r : List Tx} (h : ∀ x ∈ r, okS x = true) : dp (eTup r) = 1 := by
  unfold eTup
  rw [dp, dpL_strs h]
theorem sorted_R {R : List (List Tx)} {k j : Nat} (g : GoodR R k j) (M : Sto) : blt1 .sorted M [.list (R.map eTup)] = some (.list ((srt eTup R).map eTup)) :=
  sorted_map (sortOk_map (fun a _ b _ => by unfold eTup; rw [pd, pd, PySem.W.alike]; exact alike_strs a b) (.inl fun a ha => by
    have := g.ne a ha
    cases a with
    | nil => exact absurd rfl this
    | cons x a => rfl) fun a ha => by rw [dp_eTup fun x hx => pool_ok x (g.pl a ha x hx)]; decide)
theorem last_at {r : List Tx} (h : r ≠ []) : L2.atI (r.map D.str) (-1) = some (.str (r.getLastD "")) := by
  rw [atI_last _ (fun z => h (List.map_eq_nil_iff.mp z)), List.getLast?_map]
  cases r with
  | nil => exact absurd rfl h
  | cons x r => rfl
theorem lastP_eq {r : List Tx} (h : r ≠ []) (g : Tx) : lastP g r = decide (r.getLastD "" = g) := by
  unfold lastP
  cases r with
  | nil => exact absurd rfl h
  | cons x r =>
    congr 1
    rw [List.getLast?_cons, List.getLastD_cons]
    simp [List.getLastD_eq_getLast?]
theorem getLastD_mem {r : List Tx} (h : r ≠ []) : r.getLastD "" ∈ r := by
  cases r with
  | nil => exact absurd rfl h
  | cons x r => rw [List.getLastD_cons]; exact List.getLastD_mem_cons
section
variable {n : Nat} {d : D} {w : Wld}
theorem good_more (ok : w.Ok 8 9) {R : List (List Tx)} {k j : Nat} (g : GoodR R k j) : GoodR (moreI w R) (28 * k) (j + 1) := by
  refine ⟨fun r hr => ?_, fun r hr x hx => ?_, ?_, fun r hr => ?_⟩
  · obtain ⟨s, hs, h⟩ := List.mem_flatMap.mp hr
    obtain ⟨q, hq, rfl⟩ := List.mem_map.mp h
    simp
  · obtain ⟨s, hs, h⟩ := List.mem_flatMap.mp hr
    obtain ⟨q, hq, rfl⟩ := List.mem_map.mp h
    rcases List.mem_append.mp hx with z | z
    · exact g.pl s hs x z
    · rw [List.mem_singleton.mp z]
      exact ok.near_ok hq
  · have key : ∀ l : List (List Tx), (moreI w l).length ≤ 28 * l.length := by
      intro l
      induction l with
      | nil => simp [moreI]
      | cons r l ih =>
        unfold moreI at ih ⊢
        rw [List.flatMap_cons, List.length_append, List.length_map, List.length_cons]
        have := ok.near_len (r.getLastD "")
        omega
    have := key R
    have := g.len
    omega
  · obtain ⟨s, hs, h⟩ := List.mem_flatMap.mp hr
    obtain ⟨q, hq, rfl⟩ := List.mem_map.mp h
    have := g.rl s hs
    simp
    omega
abbrev bodyX : SB := (.cons (.exp (.ext (.var 7) (.comp false [9] (.nm 9) .seq (.call .pure f_law_near (.cons (.var 0) (.cons (.idx (.var 8) (.neg (.int 1))) .nil))) .absent .absent (.bin false .add (.var 8) (.tup (.cons (.var 9) .nil)))))) .nil)
theorem moreI_take (w : Wld) (R : List (List Tx)) (i : Nat) (r : List Tx) (h : R[i]? = some r) : moreI w (R.take (i + 1)) = moreI w (R.take i) ++ (nearW w (r.getLastD "")).map fun q => r ++ [q] := by
  have hlt := (List.getElem?_eq_some_iff.mp h).1
  have e : R.take (i + 1) = R.take i ++ [r] := by
    rw [List.take_succ, h]
    rfl
  rw [e]
  unfold moreI
  rw [List.flatMap_append]
  simp
theorem take_len (w : Wld) (ok : w.Ok 8 9) (R : List (List Tx)) (k j i : Nat) (g : GoodR R k j) : (moreI w (R.take i)).length ≤ 28 * k := by
  have g2 : GoodR (R.take i) k j := ⟨fun r hr => g.ne r (List.mem_of_mem_take hr), fun r hr => g.pl r (List.mem_of_mem_take hr), by rw [List.length_take]; have := g.len; omega, fun r hr => g.rl r (List.mem_of_mem_take hr)⟩
  exact (good_more ok g2).len
/-- one more party behind each row -/
theorem more_run {N : Sto} {R : List (List Tx)} {k j : Nat} {r4 : D} {x1 x2 x3 x5 x6 x8 x9 : Option D} (h : Has d w) (ok : w.Ok 8 9) (g : GoodR R k j) (hk : k ≤ 784) (hj : j ≤ 100) (hr4 : r4 = .list (R.map eTup) ∨ ∃ L, r4 = .loc L ∧ N[L]? = some (.list (R.map eTup))) :
    ∃ y8 y9, exec (run fns cls (n + 1)) cls (.for_ (.nm 8) .seq (.var 4) .absent bodyX) [some d, x1, x2, x3, some r4, x5, x6, some (.loc N.length), x8, x9] (N ++ [.list []]) =
      some (.next, [some d, x1, x2, x3, some r4, x5, x6, some (.loc N.length), y8, y9], N ++ [.list ((moreI w R).map eTup)]) := by
  have gN : ∀ xs : List D, (N ++ [MO.list xs])[N.length]? = some (.list xs) := fun xs => by rw [List.getElem?_append_right (Nat.le_refl _), Nat.sub_self]; rfl
  obtain ⟨env', M', e1, y8, y9, rfl, rfl⟩ := x_forA (F := run fns cls (n + 1)) (cls := cls) (t := .nm 8) (A := .var 4) (body := bodyX) (e := eTup) (l := R)
    (J := fun i env M => ∃ y8 y9, env = [some d, x1, x2, x3, some r4, x5, x6, some (.loc N.length), y8, y9] ∧ M = N ++ [.list ((moreI w (R.take i)).map eTup)])
    (env := [some d, x1, x2, x3, some r4, x5, x6, some (.loc N.length), x8, x9]) (M := N ++ [.list []]) (x := r4) (by simp only [e_var, e_non, e_bl, e_int, e_str, e_bin, e_neg, e_not, e_and, e_or, e_cmp, e_chain, e_isN, e_ife, e_tup, e_lst, e_dct, e_idx, e_slc, e_blt, e_isi, e_fld, e_app, e_ext, e_idxof, e_dget, e_nil, e_cons, x_setv, x_sett, x_setp, x_seti, x_seti2, x_augi, x_setf, x_exp, x_ret, x_ife, x_frz, x_retN, x_pass, x_cont, x_nil, x_cons, getD_list, getD_tup, rd_int, rd_bl, rd_non, rd_str, rd_list, rd_tup, rd_fz, rd_dict, len_list, len_tup, abs_int, min2_int, max2_int, int_int, list_list, list_tup, mk_f, mk_t, truth_bl', truth_int', truth_list', tst_some, line0, line1, line2, line3, line4, line5, line6, line7, line8, asg, optC, optD, optI, isAbs, src_list, src_tup, src_enum, setI, body1, wipeE, List.map_cons, List.map_nil, List.length_cons, List.length_nil, List.replicate, List.cons_append, List.nil_append, List.getElem?_cons_zero, List.getElem?_cons_succ, List.set_cons_zero, List.set_cons_succ, List.zip_cons_cons, List.zip_nil_right, List.foldl_cons, List.foldl_nil, Nat.reduceAdd, Nat.reduceSub, bop_add_int, bop_sub_int, cop_lt_int, cop_gt_int, cop_le_int, cop_ge_int, cop_eq_int, cop_ne_int, atI_c0, atI_c1, atI_c2, atI_c3, if_true, Bool.false_eq_true, if_false, ↓reduceIte, Bool.not_true, Bool.not_false])
    (hr4.imp id fun ⟨L, e, hL⟩ => ⟨L, e, fun i env M ⟨_, _, _, hM⟩ => by
      rw [hM, List.getElem?_append_left (List.getElem?_eq_some_iff.mp hL).1]
      exact hL⟩)
    (fun i r hi env M ⟨y8, y9, he, hM⟩ => by
      subst he hM
      have hr := g.ne r (List.mem_of_getElem? hi)
      have hlen := take_len w ok R k j (i + 1) g
      rw [moreI_take w R i r hi, List.length_append, List.length_map] at hlen
      have hn := lnear_run (n := n) (M := N ++ [.list ((moreI w (R.take i)).map eTup)]) (p := r.getLastD "") h ok
      refine ⟨.next, _, _, ?_, .inl rfl, some (eTup r), y9, rfl, rfl⟩
      rw [turn_nm]
      have hc : ev (run fns cls (n + 1)) cls (.comp false [9] (.nm 9) .seq (.call .pure f_law_near (.cons (.var 0) (.cons (.idx (.var 8) (.neg (.int 1))) .nil))) .absent .absent (.bin false .add (.var 8) (.tup (.cons (.var 9) .nil))))
          [some d, x1, x2, x3, some r4, x5, x6, some (.loc N.length), some (eTup r), y9] (N ++ [.list ((moreI w (R.take i)).map eTup)]) = some (.list ((nearW w (r.getLastD "")).map fun q => eTup (r ++ [q])), N ++ [.list ((moreI w (R.take i)).map eTup)]) := by
        rw [comp_map (e := D.str) (g := fun q => eTup (r ++ [q])) (l := nearW w (r.getLastD "")) (M1 := N ++ [.list ((moreI w (R.take i)).map eTup)]) (x := .list ((nearW w (r.getLastD "")).map D.str)) ?_ rfl (line_of (ok.near_len _) (by decide)) ?_]
        · have := last_at hr
          simp only [e_var, e_non, e_bl, e_int, e_str, e_bin, e_neg, e_not, e_and, e_or, e_cmp, e_chain, e_isN, e_ife, e_tup, e_lst, e_dct, e_idx, e_slc, e_blt, e_isi, e_fld, e_app, e_ext, e_idxof, e_dget, e_nil, e_cons, x_setv, x_sett, x_setp, x_seti, x_seti2, x_augi, x_setf, x_exp, x_ret, x_ife, x_frz, x_retN, x_pass, x_cont, x_nil, x_cons, getD_list, getD_tup, rd_int, rd_bl, rd_non, rd_str, rd_list, rd_tup, rd_fz, rd_dict, len_list, len_tup, abs_int, min2_int, max2_int, int_int, list_list, list_tup, mk_f, mk_t, truth_bl', truth_int', truth_list', tst_some, line0, line1, line2, line3, line4, line5, line6, line7, line8, asg, optC, optD, optI, isAbs, src_list, src_tup, src_enum, setI, body1, wipeE, List.map_cons, List.map_nil, List.length_cons, List.length_nil, List.replicate, List.cons_append, List.nil_append, List.getElem?_cons_zero, List.getElem?_cons_succ, List.set_cons_zero, List.set_cons_succ, List.zip_cons_cons, List.zip_nil_right, List.foldl_cons, List.foldl_nil, Nat.reduceAdd, Nat.reduceSub, bop_add_int, bop_sub_int, cop_lt_int, cop_gt_int, cop_le_int, cop_ge_int, cop_eq_int, cop_ne_int, atI_c0, atI_c1, atI_c2, atI_c3, if_true, Bool.false_eq_true, if_false, ↓reduceIte, Bool.not_true, Bool.not_false, e_call, show ∀ M, rd M (eTup r) = .tup (r.map D.str) from fun _ => rfl, getD_tup, this, hn]
        · intro q hq
          have ha : bop .add (.tup (r.map D.str)) (.tup [.str q]) = some (eTup (r ++ [q])) := by
            rw [bop_add_tup (by
              have := g.rl r (List.mem_of_getElem? hi)
              simp only [List.length_map, List.length_cons, List.length_nil]
              unfold LINE
              omega)]
            unfold eTup
            rw [List.map_append]
            rfl
          simp only [turnF]
          simp only [e_var, e_non, e_bl, e_int, e_str, e_bin, e_neg, e_not, e_and, e_or, e_cmp, e_chain, e_isN, e_ife, e_tup, e_lst, e_dct, e_idx, e_slc, e_blt, e_isi, e_fld, e_app, e_ext, e_idxof, e_dget, e_nil, e_cons, x_setv, x_sett, x_setp, x_seti, x_seti2, x_augi, x_setf, x_exp, x_ret, x_ife, x_frz, x_retN, x_pass, x_cont, x_nil, x_cons, getD_list, getD_tup, rd_int, rd_bl, rd_non, rd_str, rd_list, rd_tup, rd_fz, rd_dict, len_list, len_tup, abs_int, min2_int, max2_int, int_int, list_list, list_tup, mk_f, mk_t, truth_bl', truth_int', truth_list', tst_some, line0, line1, line2, line3, line4, line5, line6, line7, line8, asg, optC, optD, optI, isAbs, src_list, src_tup, src_enum, setI, body1, wipeE, List.map_cons, List.map_nil, List.length_cons, List.length_nil, List.replicate, List.cons_append, List.nil_append, List.getElem?_cons_zero, List.getElem?_cons_succ, List.set_cons_zero, List.set_cons_succ, List.zip_cons_cons, List.zip_nil_right, List.foldl_cons, List.foldl_nil, Nat.reduceAdd, Nat.reduceSub, bop_add_int, bop_sub_int, cop_lt_int, cop_gt_int, cop_le_int, cop_ge_int, cop_eq_int, cop_ne_int, atI_c0, atI_c1, atI_c2, atI_c3, if_true, Bool.false_eq_true, if_false, ↓reduceIte, Bool.not_true, Bool.not_false, show ∀ M, rd M (eTup r) = .tup (r.map D.str) from fun _ => rfl, ha]
      simp only [e_var, e_non, e_bl, e_int, e_str, e_bin, e_neg, e_not, e_and, e_or, e_cmp, e_chain, e_isN, e_ife, e_tup, e_lst, e_dct, e_idx, e_slc, e_blt, e_isi, e_fld, e_app, e_ext, e_idxof, e_dget, e_nil, e_cons, x_setv, x_sett, x_setp, x_seti, x_seti2, x_augi, x_setf, x_exp, x_ret, x_ife, x_frz, x_retN, x_pass, x_cont, x_nil, x_cons, getD_list, getD_tup, rd_int, rd_bl, rd_non, rd_str, rd_list, rd_tup, rd_fz, rd_dict, len_list, len_tup, abs_int, min2_int, max2_int, int_int, list_list, list_tup, mk_f, mk_t, truth_bl', truth_int', truth_list', tst_some, line0, line1, line2, line3, line4, line5, line6, line7, line8, asg, optC, optD, optI, isAbs, src_list, src_tup, src_enum, setI, body1, wipeE, List.map_cons, List.map_nil, List.length_cons, List.length_nil, List.replicate, List.cons_append, List.nil_append, List.getElem?_cons_zero, List.getElem?_cons_succ, List.set_cons_zero, List.set_cons_succ, List.zip_cons_cons, List.zip_nil_right, List.foldl_cons, List.foldl_nil, Nat.reduceAdd, Nat.reduceSub, bop_add_int, bop_sub_int, cop_lt_int, cop_gt_int, cop_le_int, cop_ge_int, cop_eq_int, cop_ne_int, atI_c0, atI_c1, atI_c2, atI_c3, if_true, Bool.false_eq_true, if_false, ↓reduceIte, Bool.not_true, Bool.not_false, gN, hc]
      rw [if_pos (by simp only [List.length_map]; unfold LINE; omega)]
      rw [List.set_append_right _ _ (Nat.le_refl _), Nat.sub_self, moreI_take w R i r hi, List.map_append, List.map_map]
      rfl) ⟨x8, x9, rfl, by simp [moreI]⟩
  refine ⟨y8, y9, ?_⟩
  rw [e1, List.take_length]
end
end K34

/-! K34d: the law's interest; electors. -/
namespace K34
open MP CM
section
variable {n : Nat} {d : D} {w : Wld}
abbrev bodyI : SB := (.cons (.setv 6 (.comp false [8] (.nm 8) .seq (.blt false .sorted (.cons (.var 4) .nil)) .absent (.cmp .eq (.idx (.var 8) (.neg (.int 1))) (.var 3)) (.var 8))) (.cons (.ife (.cmp .gt (.blt false .len (.cons (.var 6) .nil)) (.int 0)) (.cons (.ret (.idx (.var 6) (.int 0))) .nil) .nil) (.cons (.setv 7 (.lst true .nil)) (.cons (.for_ (.nm 8) .seq (.var 4) .absent bodyX) (.cons (.setv 4 (.var 7)) .nil)))))
def outI (o : Option (List Tx)) : Out := match o with
  | some r => .ret (eTup r)
  | none => .next
theorem inter_loop {m nm g : Tx} (h : Has d w) (ok : w.Ok 8 9) : ∀ (l : List Nat) (R : List (List Tx)) (k j : Nat) (r4 : D) (N : Sto) (x5 x6 x7 x8 x9 : Option D), GoodR R k j → k * 28 ^ l.length ≤ 21952 → j + l.length ≤ 10 → (r4 = .list (R.map eTup) ∨ ∃ L, r4 = .loc L ∧ N[L]? = some (.list (R.map eTup))) →
    ∃ env' N', forP (turnB (run fns cls (n + 1)) cls (.nm 5) bodyI) (l.map fun i : Nat => D.int i) [some d, some (.str m), some (.str nm), some (.str g), some r4, x5, x6, x7, x8, x9] N = some (outI (lawI w g l.length R), env', N')
  | [], R, k, j, r4, N, x5, x6, x7, x8, x9, _, _, _, _ => ⟨_, _, rfl⟩
  | i :: l, R, k, j, r4, N, x5, x6, x7, x8, x9, gR, hk, hj, hr4 => by
    have hk2 : k ≤ 784 := by
      have : 1 ≤ 28 ^ l.length := by first | exact Nat.pow_pos (by decide) | exact Nat.pos_pow (by decide) | exact Nat.pos_pow_of_pos _ (by decide)
      rw [List.length_cons, Nat.pow_succ] at hk
      have h2 : k * 28 ≤ k * (28 ^ l.length * 28) := Nat.mul_le_mul_left k (Nat.le_mul_of_pos_left 28 (by omega))
      omega
    rw [List.length_cons] at hj
    have hrd : rd N r4 = .list (R.map eTup) := by
      rcases hr4 with rfl | ⟨L, rfl, hL⟩
      · rfl
      · exact rd_loc hL
    have hc : ev (run fns cls (n + 1)) cls (.comp false [8] (.nm 8) .seq (.blt false .sorted (.cons (.var 4) .nil)) .absent (.cmp .eq (.idx (.var 8) (.neg (.int 1))) (.var 3)) (.var 8)) [some d, some (.str m), some (.str nm), some (.str g), some r4, some (.int (i : Nat)), x6, x7, x8, x9] N = some (.list (((srt eTup R).filter (lastP g)).map eTup), N) := by
      rw [comp_flt (e := eTup) (g := eTup) (q := lastP g) (l := srt eTup R) (M1 := N) (x := .list ((srt eTup R).map eTup)) ?_ rfl (by rw [srt_len]; exact line_of gR.len (by omega)) ?_]
      · simp only [e_var, e_non, e_bl, e_int, e_str, e_bin, e_neg, e_not, e_and, e_or, e_cmp, e_chain, e_isN, e_ife, e_tup, e_lst, e_dct, e_idx, e_slc, e_blt, e_isi, e_fld, e_app, e_ext, e_idxof, e_dget, e_nil, e_cons, x_setv, x_sett, x_setp, x_seti, x_seti2, x_augi, x_setf, x_exp, x_ret, x_ife, x_frz, x_retN, x_pass, x_cont, x_nil, x_cons, getD_list, getD_tup, rd_int, rd_bl, rd_non, rd_str, rd_list, rd_tup, rd_fz, rd_dict, len_list, len_tup, abs_int, min2_int, max2_int, int_int, list_list, list_tup, mk_f, mk_t, truth_bl', truth_int', truth_list', tst_some, line0, line1, line2, line3, line4, line5, line6, line7, line8, asg, optC, optD, optI, isAbs, src_list, src_tup, src_enum, setI, body1, wipeE, List.map_cons, List.map_nil, List.length_cons, List.length_nil, List.replicate, List.cons_append, List.nil_append, List.getElem?_cons_zero, List.getElem?_cons_succ, List.set_cons_zero, List.set_cons_succ, List.zip_cons_cons, List.zip_nil_right, List.foldl_cons, List.foldl_nil, Nat.reduceAdd, Nat.reduceSub, bop_add_int, bop_sub_int, cop_lt_int, cop_gt_int, cop_le_int, cop_ge_int, cop_eq_int, cop_ne_int, atI_c0, atI_c1, atI_c2, atI_c3, if_true, Bool.false_eq_true, if_false, ↓reduceIte, Bool.not_true, Bool.not_false, hrd, sorted_R gR]
      · intro r hr
        have hne := gR.ne r (mem_srt.mp hr)
        have hl := last_at hne
        simp only [turnF]
        simp only [e_var, e_non, e_bl, e_int, e_str, e_bin, e_neg, e_not, e_and, e_or, e_cmp, e_chain, e_isN, e_ife, e_tup, e_lst, e_dct, e_idx, e_slc, e_blt, e_isi, e_fld, e_app, e_ext, e_idxof, e_dget, e_nil, e_cons, x_setv, x_sett, x_setp, x_seti, x_seti2, x_augi, x_setf, x_exp, x_ret, x_ife, x_frz, x_retN, x_pass, x_cont, x_nil, x_cons, getD_list, getD_tup, rd_int, rd_bl, rd_non, rd_str, rd_list, rd_tup, rd_fz, rd_dict, len_list, len_tup, abs_int, min2_int, max2_int, int_int, list_list, list_tup, mk_f, mk_t, truth_bl', truth_int', truth_list', tst_some, line0, line1, line2, line3, line4, line5, line6, line7, line8, asg, optC, optD, optI, isAbs, src_list, src_tup, src_enum, setI, body1, wipeE, List.map_cons, List.map_nil, List.length_cons, List.length_nil, List.replicate, List.cons_append, List.nil_append, List.getElem?_cons_zero, List.getElem?_cons_succ, List.set_cons_zero, List.set_cons_succ, List.zip_cons_cons, List.zip_nil_right, List.foldl_cons, List.foldl_nil, Nat.reduceAdd, Nat.reduceSub, bop_add_int, bop_sub_int, cop_lt_int, cop_gt_int, cop_le_int, cop_ge_int, cop_eq_int, cop_ne_int, atI_c0, atI_c1, atI_c2, atI_c3, if_true, Bool.false_eq_true, if_false, ↓reduceIte, Bool.not_true, Bool.not_false, show ∀ M, rd M (eTup r) = .tup (r.map D.str) from fun _ => rfl, hl, cop_eq_str, ← lastP_eq hne g]
        cases lastP g r <;> rfl
    have hd : ((srt eTup R).filter (lastP g)).head? = (srt eTup R).find? (lastP g) := List.head?_filter
    rw [List.map_cons, forP, List.length_cons, lawI, turn_nm]
    cases e : (srt eTup R).filter (lastP g) with
    | cons r rs =>
      rw [e] at hd hc
      rw [← hd]
      have hp : decide (((rs.map eTup).length + 1 : Nat) > (0 : Int)) = true := decide_eq_true (by omega)
      have : exb (run fns cls (n + 1)) cls bodyI [some d, some (.str m), some (.str nm), some (.str g), some r4, some (.int (i : Nat)), x6, x7, x8, x9] N = some (.ret (eTup r), [some d, some (.str m), some (.str nm), some (.str g), some r4, some (.int (i : Nat)), some (.list ((r :: rs).map eTup)), x7, x8, x9], N) := by
        simp only [e_var, e_non, e_bl, e_int, e_str, e_bin, e_neg, e_not, e_and, e_or, e_cmp, e_chain, e_isN, e_ife, e_tup, e_lst, e_dct, e_idx, e_slc, e_blt, e_isi, e_fld, e_app, e_ext, e_idxof, e_dget, e_nil, e_cons, x_setv, x_sett, x_setp, x_seti, x_seti2, x_augi, x_setf, x_exp, x_ret, x_ife, x_frz, x_retN, x_pass, x_cont, x_nil, x_cons, getD_list, getD_tup, rd_int, rd_bl, rd_non, rd_str, rd_list, rd_tup, rd_fz, rd_dict, len_list, len_tup, abs_int, min2_int, max2_int, int_int, list_list, list_tup, mk_f, mk_t, truth_bl', truth_int', truth_list', tst_some, line0, line1, line2, line3, line4, line5, line6, line7, line8, asg, optC, optD, optI, isAbs, src_list, src_tup, src_enum, setI, body1, wipeE, List.map_cons, List.map_nil, List.length_cons, List.length_nil, List.replicate, List.cons_append, List.nil_append, List.getElem?_cons_zero, List.getElem?_cons_succ, List.set_cons_zero, List.set_cons_succ, List.zip_cons_cons, List.zip_nil_right, List.foldl_cons, List.foldl_nil, Nat.reduceAdd, Nat.reduceSub, bop_add_int, bop_sub_int, cop_lt_int, cop_gt_int, cop_le_int, cop_ge_int, cop_eq_int, cop_ne_int, atI_c0, atI_c1, atI_c2, atI_c3, if_true, Bool.false_eq_true, if_false, ↓reduceIte, Bool.not_true, Bool.not_false, hc, hp]
      simp only [List.set_cons_zero, List.set_cons_succ, this]
      exact ⟨_, _, rfl⟩
    | nil =>
      rw [e] at hd hc
      rw [← hd]
      have hk3 : 28 * k * 28 ^ l.length ≤ 21952 := by
        rw [List.length_cons, Nat.pow_succ] at hk
        calc 28 * k * 28 ^ l.length = k * (28 ^ l.length * 28) := by rw [Nat.mul_comm 28 k, Nat.mul_assoc, Nat.mul_comm 28]
          _ ≤ 21952 := hk
      obtain ⟨y8, y9, em⟩ := more_run (n := n) (N := N) (x1 := some (.str m)) (x2 := some (.str nm)) (x3 := some (.str g)) (x5 := some (.int (i : Nat))) (x6 := some (.list [])) (x8 := x8) (x9 := x9) h ok gR hk2 (by omega) hr4
      have gN : (N ++ [MO.list ((moreI w R).map eTup)])[N.length]? = some (.list ((moreI w R).map eTup)) := by rw [List.getElem?_append_right (Nat.le_refl _), Nat.sub_self]; rfl
      have hp : decide ((0 : Int) < ((0 : Nat) : Int)) = false := rfl
      have : exb (run fns cls (n + 1)) cls bodyI [some d, some (.str m), some (.str nm), some (.str g), some r4, some (.int (i : Nat)), x6, x7, x8, x9] N = some (.next, [some d, some (.str m), some (.str nm), some (.str g), some (.loc N.length), some (.int (i : Nat)), some (.list []), some (.loc N.length), y8, y9], N ++ [.list ((moreI w R).map eTup)]) := by
        unfold bodyI
        refine (xnext (env1 := [some d, some (.str m), some (.str nm), some (.str g), some r4, some (.int (i : Nat)), some (.list []), x7, x8, x9]) (M1 := N) (by simp only [e_var, e_non, e_bl, e_int, e_str, e_bin, e_neg, e_not, e_and, e_or, e_cmp, e_chain, e_isN, e_ife, e_tup, e_lst, e_dct, e_idx, e_slc, e_blt, e_isi, e_fld, e_app, e_ext, e_idxof, e_dget, e_nil, e_cons, x_setv, x_sett, x_setp, x_seti, x_seti2, x_augi, x_setf, x_exp, x_ret, x_ife, x_frz, x_retN, x_pass, x_cont, x_nil, x_cons, getD_list, getD_tup, rd_int, rd_bl, rd_non, rd_str, rd_list, rd_tup, rd_fz, rd_dict, len_list, len_tup, abs_int, min2_int, max2_int, int_int, list_list, list_tup, mk_f, mk_t, truth_bl', truth_int', truth_list', tst_some, line0, line1, line2, line3, line4, line5, line6, line7, line8, asg, optC, optD, optI, isAbs, src_list, src_tup, src_enum, setI, body1, wipeE, List.map_cons, List.map_nil, List.length_cons, List.length_nil, List.replicate, List.cons_append, List.nil_append, List.getElem?_cons_zero, List.getElem?_cons_succ, List.set_cons_zero, List.set_cons_succ, List.zip_cons_cons, List.zip_nil_right, List.foldl_cons, List.foldl_nil, Nat.reduceAdd, Nat.reduceSub, bop_add_int, bop_sub_int, cop_lt_int, cop_gt_int, cop_le_int, cop_ge_int, cop_eq_int, cop_ne_int, atI_c0, atI_c1, atI_c2, atI_c3, if_true, Bool.false_eq_true, if_false, ↓reduceIte, Bool.not_true, Bool.not_false, hc])).trans ?_
        refine (xnext (env1 := [some d, some (.str m), some (.str nm), some (.str g), some r4, some (.int (i : Nat)), some (.list []), x7, x8, x9]) (M1 := N) (by simp only [e_var, e_non, e_bl, e_int, e_str, e_bin, e_neg, e_not, e_and, e_or, e_cmp, e_chain, e_isN, e_ife, e_tup, e_lst, e_dct, e_idx, e_slc, e_blt, e_isi, e_fld, e_app, e_ext, e_idxof, e_dget, e_nil, e_cons, x_setv, x_sett, x_setp, x_seti, x_seti2, x_augi, x_setf, x_exp, x_ret, x_ife, x_frz, x_retN, x_pass, x_cont, x_nil, x_cons, getD_list, getD_tup, rd_int, rd_bl, rd_non, rd_str, rd_list, rd_tup, rd_fz, rd_dict, len_list, len_tup, abs_int, min2_int, max2_int, int_int, list_list, list_tup, mk_f, mk_t, truth_bl', truth_int', truth_list', tst_some, line0, line1, line2, line3, line4, line5, line6, line7, line8, asg, optC, optD, optI, isAbs, src_list, src_tup, src_enum, setI, body1, wipeE, List.map_cons, List.map_nil, List.length_cons, List.length_nil, List.replicate, List.cons_append, List.nil_append, List.getElem?_cons_zero, List.getElem?_cons_succ, List.set_cons_zero, List.set_cons_succ, List.zip_cons_cons, List.zip_nil_right, List.foldl_cons, List.foldl_nil, Nat.reduceAdd, Nat.reduceSub, bop_add_int, bop_sub_int, cop_lt_int, cop_gt_int, cop_le_int, cop_ge_int, cop_eq_int, cop_ne_int, atI_c0, atI_c1, atI_c2, atI_c3, if_true, Bool.false_eq_true, if_false, ↓reduceIte, Bool.not_true, Bool.not_false, hp])).trans ?_
        refine (xnext (env1 := [some d, some (.str m), some (.str nm), some (.str g), some r4, some (.int (i : Nat)), some (.list []), some (.loc N.length), x8, x9]) (M1 := N ++ [.list []]) (by simp only [e_var, e_non, e_bl, e_int, e_str, e_bin, e_neg, e_not, e_and, e_or, e_cmp, e_chain, e_isN, e_ife, e_tup, e_lst, e_dct, e_idx, e_slc, e_blt, e_isi, e_fld, e_app, e_ext, e_idxof, e_dget, e_nil, e_cons, x_setv, x_sett, x_setp, x_seti, x_seti2, x_augi, x_setf, x_exp, x_ret, x_ife, x_frz, x_retN, x_pass, x_cont, x_nil, x_cons, getD_list, getD_tup, rd_int, rd_bl, rd_non, rd_str, rd_list, rd_tup, rd_fz, rd_dict, len_list, len_tup, abs_int, min2_int, max2_int, int_int, list_list, list_tup, mk_f, mk_t, truth_bl', truth_int', truth_list', tst_some, line0, line1, line2, line3, line4, line5, line6, line7, line8, asg, optC, optD, optI, isAbs, src_list, src_tup, src_enum, setI, body1, wipeE, List.map_cons, List.map_nil, List.length_cons, List.length_nil, List.replicate, List.cons_append, List.nil_append, List.getElem?_cons_zero, List.getElem?_cons_succ, List.set_cons_zero, List.set_cons_succ, List.zip_cons_cons, List.zip_nil_right, List.foldl_cons, List.foldl_nil, Nat.reduceAdd, Nat.reduceSub, bop_add_int, bop_sub_int, cop_lt_int, cop_gt_int, cop_le_int, cop_ge_int, cop_eq_int, cop_ne_int, atI_c0, atI_c1, atI_c2, atI_c3, if_true, Bool.false_eq_true, if_false, ↓reduceIte, Bool.not_true, Bool.not_false])).trans ?_
        refine (xnext em).trans ?_
        simp only [e_var, e_non, e_bl, e_int, e_str, e_bin, e_neg, e_not, e_and, e_or, e_cmp, e_chain, e_isN, e_ife, e_tup, e_lst, e_dct, e_idx, e_slc, e_blt, e_isi, e_fld, e_app, e_ext, e_idxof, e_dget, e_nil, e_cons, x_setv, x_sett, x_setp, x_seti, x_seti2, x_augi, x_setf, x_exp, x_ret, x_ife, x_frz, x_retN, x_pass, x_cont, x_nil, x_cons, getD_list, getD_tup, rd_int, rd_bl, rd_non, rd_str, rd_list, rd_tup, rd_fz, rd_dict, len_list, len_tup, abs_int, min2_int, max2_int, int_int, list_list, list_tup, mk_f, mk_t, truth_bl', truth_int', truth_list', tst_some, line0, line1, line2, line3, line4, line5, line6, line7, line8, asg, optC, optD, optI, isAbs, src_list, src_tup, src_enum, setI, body1, wipeE, List.map_cons, List.map_nil, List.length_cons, List.length_nil, List.replicate, List.cons_append, List.nil_append, List.getElem?_cons_zero, List.getElem?_cons_succ, List.set_cons_zero, List.set_cons_succ, List.zip_cons_cons, List.zip_nil_right, List.foldl_cons, List.foldl_nil, Nat.reduceAdd, Nat.reduceSub, bop_add_int, bop_sub_int, cop_lt_int, cop_gt_int, cop_le_int, cop_ge_int, cop_eq_int, cop_ne_int, atI_c0, atI_c1, atI_c2, atI_c3, if_true, Bool.false_eq_true, if_false, ↓reduceIte, Bool.not_true, Bool.not_false]
      obtain ⟨env', N', e2⟩ := inter_loop (nm := nm) (m := m) (g := g) h ok l (moreI w R) (28 * k) (j + 1) (.loc N.length) (N ++ [.list ((moreI w R).map eTup)]) (some (.int (i : Nat))) (some (.list [])) (some (.loc N.length)) y8 y9 (good_more ok gR) hk3 (by omega) (.inr ⟨_, rfl, gN⟩)
      simp only [List.set_cons_zero, List.set_cons_succ, this, List.head?_nil]
      exact ⟨env', N', e2⟩
theorem linter_run {M : Sto} {nm m : Tx} {a : Ask} (h : Has d w) (ok : w.Ok 8 9) (ha : w.asks.find? (fun a => decide (a.name = nm)) = some a) (hm : m ∈ pool) : callM (run fns cls (n + 2)) .pure f_law_interest [d, .str m, .str nm] M = some (eTO (inter w m a.grantee), M) := by
  obtain ⟨env', N', e1⟩ := inter_loop (n := n) (m := m) (nm := nm) (g := a.grantee) h ok (List.range 3) [[m]] 1 1 (.list ([[m]].map eTup)) [] none none none none none ⟨by simp, by simpa using hm, by simp, by simp⟩ (by decide) (by decide) (.inl rfl)
  rw [show (List.range 3).length = 3 from rfl, lawI_eq] at e1
  have := lask_run (n := n) (M := []) h ok ha
  have run1 : ∃ N', run fns cls (n + 2) f_law_interest [d, .str m, .str nm] [] = some (eTO (inter w m a.grantee), N') := by
    cases hi : inter w m a.grantee with
    | none =>
      rw [hi] at e1
      refine ⟨N', run_of (f := f_law_interest) rfl rfl (r_set (x := .str a.grantee) (M1 := []) (by simp only [e_var, e_non, e_bl, e_int, e_str, e_bin, e_neg, e_not, e_and, e_or, e_cmp, e_chain, e_isN, e_ife, e_tup, e_lst, e_dct, e_idx, e_slc, e_blt, e_isi, e_fld, e_app, e_ext, e_idxof, e_dget, e_nil, e_cons, x_setv, x_sett, x_setp, x_seti, x_seti2, x_augi, x_setf, x_exp, x_ret, x_ife, x_frz, x_retN, x_pass, x_cont, x_nil, x_cons, getD_list, getD_tup, rd_int, rd_bl, rd_non, rd_str, rd_list, rd_tup, rd_fz, rd_dict, len_list, len_tup, abs_int, min2_int, max2_int, int_int, list_list, list_tup, mk_f, mk_t, truth_bl', truth_int', truth_list', tst_some, line0, line1, line2, line3, line4, line5, line6, line7, line8, asg, optC, optD, optI, isAbs, src_list, src_tup, src_enum, setI, body1, wipeE, List.map_cons, List.map_nil, List.length_cons, List.length_nil, List.replicate, List.cons_append, List.nil_append, List.getElem?_cons_zero, List.getElem?_cons_succ, List.set_cons_zero, List.set_cons_succ, List.zip_cons_cons, List.zip_nil_right, List.foldl_cons, List.foldl_nil, Nat.reduceAdd, Nat.reduceSub, bop_add_int, bop_sub_int, cop_lt_int, cop_gt_int, cop_le_int, cop_ge_int, cop_eq_int, cop_ne_int, atI_c0, atI_c1, atI_c2, atI_c3, if_true, Bool.false_eq_true, if_false, ↓reduceIte, Bool.not_true, Bool.not_false, e_call, this, eAsk]) (r_set (x := .list ([[m]].map eTup)) (M1 := []) (by simp only [e_var, e_non, e_bl, e_int, e_str, e_bin, e_neg, e_not, e_and, e_or, e_cmp, e_chain, e_isN, e_ife, e_tup, e_lst, e_dct, e_idx, e_slc, e_blt, e_isi, e_fld, e_app, e_ext, e_idxof, e_dget, e_nil, e_cons, x_setv, x_sett, x_setp, x_seti, x_seti2, x_augi, x_setf, x_exp, x_ret, x_ife, x_frz, x_retN, x_pass, x_cont, x_nil, x_cons, getD_list, getD_tup, rd_int, rd_bl, rd_non, rd_str, rd_list, rd_tup, rd_fz, rd_dict, len_list, len_tup, abs_int, min2_int, max2_int, int_int, list_list, list_tup, mk_f, mk_t, truth_bl', truth_int', truth_list', tst_some, line0, line1, line2, line3, line4, line5, line6, line7, line8, asg, optC, optD, optI, isAbs, src_list, src_tup, src_enum, setI, body1, wipeE, List.map_cons, List.map_nil, List.length_cons, List.length_nil, List.replicate, List.cons_append, List.nil_append, List.getElem?_cons_zero, List.getElem?_cons_succ, List.set_cons_zero, List.set_cons_succ, List.zip_cons_cons, List.zip_nil_right, List.foldl_cons, List.foldl_nil, Nat.reduceAdd, Nat.reduceSub, bop_add_int, bop_sub_int, cop_lt_int, cop_gt_int, cop_le_int, cop_ge_int, cop_eq_int, cop_ne_int, atI_c0, atI_c1, atI_c2, atI_c3, if_true, Bool.false_eq_true, if_false, ↓reduceIte, Bool.not_true, Bool.not_false]; rfl) (r_next (x_forP (x := .int (3 : Nat)) (M0 := []) (y := .non) (M1 := []) (by simp only [e_var, e_non, e_bl, e_int, e_str, e_bin, e_neg, e_not, e_and, e_or, e_cmp, e_chain, e_isN, e_ife, e_tup, e_lst, e_dct, e_idx, e_slc, e_blt, e_isi, e_fld, e_app, e_ext, e_idxof, e_dget, e_nil, e_cons, x_setv, x_sett, x_setp, x_seti, x_seti2, x_augi, x_setf, x_exp, x_ret, x_ife, x_frz, x_retN, x_pass, x_cont, x_nil, x_cons, getD_list, getD_tup, rd_int, rd_bl, rd_non, rd_str, rd_list, rd_tup, rd_fz, rd_dict, len_list, len_tup, abs_int, min2_int, max2_int, int_int, list_list, list_tup, mk_f, mk_t, truth_bl', truth_int', truth_list', tst_some, line0, line1, line2, line3, line4, line5, line6, line7, line8, asg, optC, optD, optI, isAbs, src_list, src_tup, src_enum, setI, body1, wipeE, List.map_cons, List.map_nil, List.length_cons, List.length_nil, List.replicate, List.cons_append, List.nil_append, List.getElem?_cons_zero, List.getElem?_cons_succ, List.set_cons_zero, List.set_cons_succ, List.zip_cons_cons, List.zip_nil_right, List.foldl_cons, List.foldl_nil, Nat.reduceAdd, Nat.reduceSub, bop_add_int, bop_sub_int, cop_lt_int, cop_gt_int, cop_le_int, cop_ge_int, cop_eq_int, cop_ne_int, atI_c0, atI_c1, atI_c2, atI_c3, if_true, Bool.false_eq_true, if_false, ↓reduceIte, Bool.not_true, Bool.not_false]; rfl) rfl (src_rng1 (n := 3) (by decide) _ _) e1) ?_)))⟩
      exact ⟨env', xret (by simp only [e_var, e_non, e_bl, e_int, e_str, e_bin, e_neg, e_not, e_and, e_or, e_cmp, e_chain, e_isN, e_ife, e_tup, e_lst, e_dct, e_idx, e_slc, e_blt, e_isi, e_fld, e_app, e_ext, e_idxof, e_dget, e_nil, e_cons, x_setv, x_sett, x_setp, x_seti, x_seti2, x_augi, x_setf, x_exp, x_ret, x_ife, x_frz, x_retN, x_pass, x_cont, x_nil, x_cons, getD_list, getD_tup, rd_int, rd_bl, rd_non, rd_str, rd_list, rd_tup, rd_fz, rd_dict, len_list, len_tup, abs_int, min2_int, max2_int, int_int, list_list, list_tup, mk_f, mk_t, truth_bl', truth_int', truth_list', tst_some, line0, line1, line2, line3, line4, line5, line6, line7, line8, asg, optC, optD, optI, isAbs, src_list, src_tup, src_enum, setI, body1, wipeE, List.map_cons, List.map_nil, List.length_cons, List.length_nil, List.replicate, List.cons_append, List.nil_append, List.getElem?_cons_zero, List.getElem?_cons_succ, List.set_cons_zero, List.set_cons_succ, List.zip_cons_cons, List.zip_nil_right, List.foldl_cons, List.foldl_nil, Nat.reduceAdd, Nat.reduceSub, bop_add_int, bop_sub_int, cop_lt_int, cop_gt_int, cop_le_int, cop_ge_int, cop_eq_int, cop_ne_int, atI_c0, atI_c1, atI_c2, atI_c3, if_true, Bool.false_eq_true, if_false, ↓reduceIte, Bool.not_true, Bool.not_false]; rfl)⟩
    | some r =>
      rw [hi] at e1
      refine ⟨N', run_of (f := f_law_interest) rfl rfl (r_set (x := .str a.grantee) (M1 := []) (by simp only [e_var, e_non, e_bl, e_int, e_str, e_bin, e_neg, e_not, e_and, e_or, e_cmp, e_chain, e_isN, e_ife, e_tup, e_lst, e_dct, e_idx, e_slc, e_blt, e_isi, e_fld, e_app, e_ext, e_idxof, e_dget, e_nil, e_cons, x_setv, x_sett, x_setp, x_seti, x_seti2, x_augi, x_setf, x_exp, x_ret, x_ife, x_frz, x_retN, x_pass, x_cont, x_nil, x_cons, getD_list, getD_tup, rd_int, rd_bl, rd_non, rd_str, rd_list, rd_tup, rd_fz, rd_dict, len_list, len_tup, abs_int, min2_int, max2_int, int_int, list_list, list_tup, mk_f, mk_t, truth_bl', truth_int', truth_list', tst_some, line0, line1, line2, line3, line4, line5, line6, line7, line8, asg, optC, optD, optI, isAbs, src_list, src_tup, src_enum, setI, body1, wipeE, List.map_cons, List.map_nil, List.length_cons, List.length_nil, List.replicate, List.cons_append, List.nil_append, List.getElem?_cons_zero, List.getElem?_cons_succ, List.set_cons_zero, List.set_cons_succ, List.zip_cons_cons, List.zip_nil_right, List.foldl_cons, List.foldl_nil, Nat.reduceAdd, Nat.reduceSub, bop_add_int, bop_sub_int, cop_lt_int, cop_gt_int, cop_le_int, cop_ge_int, cop_eq_int, cop_ne_int, atI_c0, atI_c1, atI_c2, atI_c3, if_true, Bool.false_eq_true, if_false, ↓reduceIte, Bool.not_true, Bool.not_false, e_call, this, eAsk]) (r_set (x := .list ([[m]].map eTup)) (M1 := []) (by simp only [e_var, e_non, e_bl, e_int, e_str, e_bin, e_neg, e_not, e_and, e_or, e_cmp, e_chain, e_isN, e_ife, e_tup, e_lst, e_dct, e_idx, e_slc, e_blt, e_isi, e_fld, e_app, e_ext, e_idxof, e_dget, e_nil, e_cons, x_setv, x_sett, x_setp, x_seti, x_seti2, x_augi, x_setf, x_exp, x_ret, x_ife, x_frz, x_retN, x_pass, x_cont, x_nil, x_cons, getD_list, getD_tup, rd_int, rd_bl, rd_non, rd_str, rd_list, rd_tup, rd_fz, rd_dict, len_list, len_tup, abs_int, min2_int, max2_int, int_int, list_list, list_tup, mk_f, mk_t, truth_bl', truth_int', truth_list', tst_some, line0, line1, line2, line3, line4, line5, line6, line7, line8, asg, optC, optD, optI, isAbs, src_list, src_tup, src_enum, setI, body1, wipeE, List.map_cons, List.map_nil, List.length_cons, List.length_nil, List.replicate, List.cons_append, List.nil_append, List.getElem?_cons_zero, List.getElem?_cons_succ, List.set_cons_zero, List.set_cons_succ, List.zip_cons_cons, List.zip_nil_right, List.foldl_cons, List.foldl_nil, Nat.reduceAdd, Nat.reduceSub, bop_add_int, bop_sub_int, cop_lt_int, cop_gt_int, cop_le_int, cop_ge_int, cop_eq_int, cop_ne_int, atI_c0, atI_c1, atI_c2, atI_c3, if_true, Bool.false_eq_true, if_false, ↓reduceIte, Bool.not_true, Bool.not_false]; rfl) ⟨env', xret (x_forP (x := .int (3 : Nat)) (M0 := []) (y := .non) (M1 := []) (by simp only [e_var, e_non, e_bl, e_int, e_str, e_bin, e_neg, e_not, e_and, e_or, e_cmp, e_chain, e_isN, e_ife, e_tup, e_lst, e_dct, e_idx, e_slc, e_blt, e_isi, e_fld, e_app, e_ext, e_idxof, e_dget, e_nil, e_cons, x_setv, x_sett, x_setp, x_seti, x_seti2, x_augi, x_setf, x_exp, x_ret, x_ife, x_frz, x_retN, x_pass, x_cont, x_nil, x_cons, getD_list, getD_tup, rd_int, rd_bl, rd_non, rd_str, rd_list, rd_tup, rd_fz, rd_dict, len_list, len_tup, abs_int, min2_int, max2_int, int_int, list_list, list_tup, mk_f, mk_t, truth_bl', truth_int', truth_list', tst_some, line0, line1, line2, line3, line4, line5, line6, line7, line8, asg, optC, optD, optI, isAbs, src_list, src_tup, src_enum, setI, body1, wipeE, List.map_cons, List.map_nil, List.length_cons, List.length_nil, List.replicate, List.cons_append, List.nil_append, List.getElem?_cons_zero, List.getElem?_cons_succ, List.set_cons_zero, List.set_cons_succ, List.zip_cons_cons, List.zip_nil_right, List.foldl_cons, List.foldl_nil, Nat.reduceAdd, Nat.reduceSub, bop_add_int, bop_sub_int, cop_lt_int, cop_gt_int, cop_le_int, cop_ge_int, cop_eq_int, cop_ne_int, atI_c0, atI_c1, atI_c2, atI_c3, if_true, Bool.false_eq_true, if_false, ↓reduceIte, Bool.not_true, Bool.not_false]; rfl) rfl (src_rng1 (n := 3) (by decide) _ _) e1)⟩))⟩
  obtain ⟨N', e2⟩ := run1
  exact pure_of e2 (by rw [belowL, h.below]; rfl) (below_eTO 0 _) (rd_eTO _ _)
end
end K34

/-! K34e: electors, votes, bars, spots. -/
namespace K34
open MP CM
theorem isN_eTO (F : FT) (cls : Nat → Nat) (A : E) (env : MP.Env) (M M1 : Sto) (x : Option (List Tx)) (h : ev F cls A env M = some (eTO x, M1)) : ev F cls (.isN false A) env M = some (.bl x.isNone, M1) := by
  rw [e_isN, h]
  cases x <;> rfl
/-- completions that are told -/
structure OkC (C : List (Tx × List Tx)) : Prop where
  len : C.length ≤ 20
  mem : ∀ r ∈ C, r.1 ∈ pool ∧ ∀ q ∈ r.2, q ∈ names
section
variable {n : Nat} {M : Sto} {d : D} {w : Wld}
theorem comp_fltM {F : FT} {cls : Nat → Nat} {own : List Nat} {t : T} {A C E0 : E} {env : MP.Env} {M M1 : Sto} {α : Type} {e g : α → D} {l : List α} {x : D} {q : α → Bool} (hA : ev F cls A env M = some (x, M1)) (hs : srcOf .seq M1 x .non = some (.pure (l.map e))) (hl : l.length ≤ LINE) (hf : ∀ a ∈ l, turnF F cls own t C E0 env (e a) M1 = some (if q a = true then some (g a) else none, M1)) :
    ev F cls (.comp true own t .seq A .absent C E0) env M = some (.loc M1.length, M1 ++ [.list ((l.filter q).map g)]) := by
  rw [e_comp, hA]
  simp only [hs, mk_t]
  rw [if_pos (by rw [List.length_map]; exact hl), compR_flT hf]
theorem electors_hrun {a : Ask} (h : Has d w) (ok : w.Ok 8 9) (ha : a ∈ w.asks) : run fns cls (n + 3) f_electors [d, .str a.name] [] = some (.loc 0, [.list ((freeW w a.grantee).map D.str)]) := by
  refine run_of (f := f_electors) rfl rfl (r_ret ?_)
  rw [comp_fltM (e := D.str) (g := D.str) (q := fun m => (inter w m a.grantee).isNone) (l := w.members) (M1 := []) (x := .list (w.members.map D.str)) ?_ rfl (line_of ok.mlen (by decide)) ?_]
  · rfl
  · simp only [e_var, e_non, e_bl, e_int, e_str, e_bin, e_neg, e_not, e_and, e_or, e_cmp, e_chain, e_isN, e_ife, e_tup, e_lst, e_dct, e_idx, e_slc, e_blt, e_isi, e_fld, e_app, e_ext, e_idxof, e_dget, e_nil, e_cons, x_setv, x_sett, x_setp, x_seti, x_seti2, x_augi, x_setf, x_exp, x_ret, x_ife, x_frz, x_retN, x_pass, x_cont, x_nil, x_cons, getD_list, getD_tup, rd_int, rd_bl, rd_non, rd_str, rd_list, rd_tup, rd_fz, rd_dict, len_list, len_tup, abs_int, min2_int, max2_int, int_int, list_list, list_tup, mk_f, mk_t, truth_bl', truth_int', truth_list', tst_some, line0, line1, line2, line3, line4, line5, line6, line7, line8, asg, optC, optD, optI, isAbs, src_list, src_tup, src_enum, setI, body1, wipeE, List.map_cons, List.map_nil, List.length_cons, List.length_nil, List.replicate, List.cons_append, List.nil_append, List.getElem?_cons_zero, List.getElem?_cons_succ, List.set_cons_zero, List.set_cons_succ, List.zip_cons_cons, List.zip_nil_right, List.foldl_cons, List.foldl_nil, Nat.reduceAdd, Nat.reduceSub, bop_add_int, bop_sub_int, cop_lt_int, cop_gt_int, cop_le_int, cop_ge_int, cop_eq_int, cop_ne_int, atI_c0, atI_c1, atI_c2, atI_c3, if_true, Bool.false_eq_true, if_false, ↓reduceIte, Bool.not_true, Bool.not_false, h.rd, h.members]
  · intro m hm
    have := inter_run (n := n) (M := []) (nm := a.name) (m := m) h ok (ask_find ok.nd ha) (ok.ask a ha).1 (ok.mem m hm)
    have hc := isN_eTO (run fns cls (n + 2)) cls (.call .pure f_interest (.cons (.var 0) (.cons (.var 2) (.cons (.var 1) .nil)))) [some d, some (.str a.name), some (.str m)] [] [] (inter w m a.grantee) (by simp only [e_var, e_non, e_bl, e_int, e_str, e_bin, e_neg, e_not, e_and, e_or, e_cmp, e_chain, e_isN, e_ife, e_tup, e_lst, e_dct, e_idx, e_slc, e_blt, e_isi, e_fld, e_app, e_ext, e_idxof, e_dget, e_nil, e_cons, x_setv, x_sett, x_setp, x_seti, x_seti2, x_augi, x_setf, x_exp, x_ret, x_ife, x_frz, x_retN, x_pass, x_cont, x_nil, x_cons, getD_list, getD_tup, rd_int, rd_bl, rd_non, rd_str, rd_list, rd_tup, rd_fz, rd_dict, len_list, len_tup, abs_int, min2_int, max2_int, int_int, list_list, list_tup, mk_f, mk_t, truth_bl', truth_int', truth_list', tst_some, line0, line1, line2, line3, line4, line5, line6, line7, line8, asg, optC, optD, optI, isAbs, src_list, src_tup, src_enum, setI, body1, wipeE, List.map_cons, List.map_nil, List.length_cons, List.length_nil, List.replicate, List.cons_append, List.nil_append, List.getElem?_cons_zero, List.getElem?_cons_succ, List.set_cons_zero, List.set_cons_succ, List.zip_cons_cons, List.zip_nil_right, List.foldl_cons, List.foldl_nil, Nat.reduceAdd, Nat.reduceSub, bop_add_int, bop_sub_int, cop_lt_int, cop_gt_int, cop_le_int, cop_ge_int, cop_eq_int, cop_ne_int, atI_c0, atI_c1, atI_c2, atI_c3, if_true, Bool.false_eq_true, if_false, ↓reduceIte, Bool.not_true, Bool.not_false, e_call, this])
    simp only [turnF]
    simp only [e_var, e_non, e_bl, e_int, e_str, e_bin, e_neg, e_not, e_and, e_or, e_cmp, e_chain, e_isN, e_ife, e_tup, e_lst, e_dct, e_idx, e_slc, e_blt, e_isi, e_fld, e_app, e_ext, e_idxof, e_dget, e_nil, e_cons, x_setv, x_sett, x_setp, x_seti, x_seti2, x_augi, x_setf, x_exp, x_ret, x_ife, x_frz, x_retN, x_pass, x_cont, x_nil, x_cons, getD_list, getD_tup, rd_int, rd_bl, rd_non, rd_str, rd_list, rd_tup, rd_fz, rd_dict, len_list, len_tup, abs_int, min2_int, max2_int, int_int, list_list, list_tup, mk_f, mk_t, truth_bl', truth_int', truth_list', tst_some, line0, line1, line2, line3, line4, line5, line6, line7, line8, asg, optC, optD, optI, isAbs, src_list, src_tup, src_enum, setI, body1, wipeE, List.map_cons, List.map_nil, List.length_cons, List.length_nil, List.replicate, List.cons_append, List.nil_append, List.getElem?_cons_zero, List.getElem?_cons_succ, List.set_cons_zero, List.set_cons_succ, List.zip_cons_cons, List.zip_nil_right, List.foldl_cons, List.foldl_nil, Nat.reduceAdd, Nat.reduceSub, bop_add_int, bop_sub_int, cop_lt_int, cop_gt_int, cop_le_int, cop_ge_int, cop_eq_int, cop_ne_int, atI_c0, atI_c1, atI_c2, atI_c3, if_true, Bool.false_eq_true, if_false, ↓reduceIte, Bool.not_true, Bool.not_false, hc]
    cases (inter w m a.grantee).isNone <;> rfl
theorem electors_run {a : Ask} (h : Has d w) (ok : w.Ok 8 9) (ha : a ∈ w.asks) : callM (run fns cls (n + 3)) .pure f_electors [d, .str a.name] M = some (.list ((freeW w a.grantee).map D.str), M) :=
  call_pure (by rw [belowL, h.below]; rfl) (electors_hrun h ok ha) (below_str 0 _)
theorem electors_own {a : Ask} (h : Has d w) (ok : w.Ok 8 9) (ha : a ∈ w.asks) : callM (run fns cls (n + 3)) .own f_electors [d, .str a.name] M = some (.loc M.length, M ++ [.list ((freeW w a.grantee).map D.str)]) :=
  call_own (by rw [belowL, h.below]; rfl) (electors_hrun h ok ha) rfl (below_str 0 _)
theorem mb_len (ok : w.Ok 8 9) {C : List (Tx × List Tx)} (hC : OkC C) (p : Tx) : (rowsV w p C).length ≤ 38 := by
  unfold rowsV
  rw [List.length_append, List.length_map]
  have h1 := List.length_filter_le (fun b : Bal => decide (b.purpose = p)) w.ballots
  have h2 := ok.blen
  have h3 := hC.len
  omega
theorem mb_ok (ok : w.Ok 8 9) {C : List (Tx × List Tx)} (hC : OkC C) (p : Tx) : ∀ r ∈ rowsV w p C, r.1 ∈ pool ∧ ∀ q ∈ r.2, q ∈ names := fun r hr => by
  rcases List.mem_append.mp hr with z | z
  · obtain ⟨b, hb, rfl⟩ := List.mem_map.mp z
    have := ok.bal b (List.mem_filter.mp hb).1
    exact ⟨this.2.1, this.2.2.2⟩
  · exact hC.mem r z
theorem mb_add {C : List (Tx × List Tx)} (ok : w.Ok 8 9) (hC : OkC C) (p : Tx) : bop .add (.list ((w.ballots.filter fun b => decide (b.purpose = p)).map fun b => eMB (b.member, b.row))) (.list (C.map eMB)) = some (.list ((rowsV w p C).map eMB)) := by
  have := mb_len ok hC p
  unfold rowsV at this
  rw [List.length_append, List.length_map] at this
  rw [bop_add_list (by simp only [List.length_map]; unfold LINE; omega)]
  unfold rowsV
  rw [List.map_append, List.map_map]
  rfl
theorem free_pool (ok : w.Ok 8 9) (g : Tx) : ∀ y ∈ freeW w g, y ∈ pool := fun y hy => ok.mem y (List.mem_filter.mp hy).1
theorem mem_names {x : Tx} {ys : List Tx} (hx : x ∈ names) (hy : ∀ y ∈ ys, y ∈ names) : cop .inn (.str x) (.tup (ys.map D.str)) = some (decide (x ∈ ys)) := by
  rw [cop_inn_tup, memD_strs (names_ok x hx) fun y h => names_ok y (hy y h)]
/-- a completion as it is handed in -/
def isC (c : D) (C : List (Tx × List Tx)) : Prop := c = .list (C.map eMB) ∨ (c = .tup [] ∧ C = [])
theorem list_C {c : D} {C : List (Tx × List Tx)} (h : isC c C) (M : Sto) : blt1 .list M [rd M c] = some (.list (C.map eMB)) := by
  rcases h with rfl | ⟨rfl, rfl⟩ <;> rfl
theorem below_mb (n : Nat) (r : Tx × List Tx) : below n (eMB r) = true := by
  unfold eMB
  simp only [below, belowL, Bool.true_and, Bool.and_true]
  exact below_of fun _ => rfl
theorem below_C {c : D} {C : List (Tx × List Tx)} (h : isC c C) : below 0 c = true := by
  rcases h with rfl | ⟨rfl, rfl⟩
  · exact below_of (below_mb 0)
  · rfl
theorem votes_run {a : Ask} {c : D} {C : List (Tx × List Tx)} (h : Has d w) (ok : w.Ok 8 9) (ha : a ∈ w.asks) (hc : isC c C) (hC : OkC C) : callM (run fns cls (n + 4)) .pure f_votes [d, .str a.name, c] M = some (.int (votesW w a C : Nat), M) := by
  refine pure_of (M2 := []) (run_of (f := f_votes) rfl rfl (r_set (x := .str a.purpose) (M1 := []) ?_ (r_set (x := .list ((w.ballots.filter fun b => decide (b.purpose = a.purpose)).map fun b => eMB (b.member, b.row))) (M1 := []) ?_ (r_set (x := .list ((freeW w a.grantee).map D.str)) (M1 := []) ?_ (r_ret ?_))))) (by simp only [belowL, h.below, below_C hc]; rfl) rfl rfl
  · have := ask_run (n := n + 2) (M := []) h ok (ask_find ok.nd ha)
    simp only [e_var, e_non, e_bl, e_int, e_str, e_bin, e_neg, e_not, e_and, e_or, e_cmp, e_chain, e_isN, e_ife, e_tup, e_lst, e_dct, e_idx, e_slc, e_blt, e_isi, e_fld, e_app, e_ext, e_idxof, e_dget, e_nil, e_cons, x_setv, x_sett, x_setp, x_seti, x_seti2, x_augi, x_setf, x_exp, x_ret, x_ife, x_frz, x_retN, x_pass, x_cont, x_nil, x_cons, getD_list, getD_tup, rd_int, rd_bl, rd_non, rd_str, rd_list, rd_tup, rd_fz, rd_dict, len_list, len_tup, abs_int, min2_int, max2_int, int_int, list_list, list_tup, mk_f, mk_t, truth_bl', truth_int', truth_list', tst_some, line0, line1, line2, line3, line4, line5, line6, line7, line8, asg, optC, optD, optI, isAbs, src_list, src_tup, src_enum, setI, body1, wipeE, List.map_cons, List.map_nil, List.length_cons, List.length_nil, List.replicate, List.cons_append, List.nil_append, List.getElem?_cons_zero, List.getElem?_cons_succ, List.set_cons_zero, List.set_cons_succ, List.zip_cons_cons, List.zip_nil_right, List.foldl_cons, List.foldl_nil, Nat.reduceAdd, Nat.reduceSub, bop_add_int, bop_sub_int, cop_lt_int, cop_gt_int, cop_le_int, cop_ge_int, cop_eq_int, cop_ne_int, atI_c0, atI_c1, atI_c2, atI_c3, if_true, Bool.false_eq_true, if_false, ↓reduceIte, Bool.not_true, Bool.not_false, e_call, this, eAsk]
  · rw [comp_flt (e := eBal) (g := fun b => eMB (b.member, b.row)) (q := fun b => decide (b.purpose = a.purpose)) (l := w.ballots) (M1 := []) (x := .list (w.ballots.map eBal)) ?_ rfl (line_of ok.blen (by decide)) ?_]
    · simp only [e_var, e_non, e_bl, e_int, e_str, e_bin, e_neg, e_not, e_and, e_or, e_cmp, e_chain, e_isN, e_ife, e_tup, e_lst, e_dct, e_idx, e_slc, e_blt, e_isi, e_fld, e_app, e_ext, e_idxof, e_dget, e_nil, e_cons, x_setv, x_sett, x_setp, x_seti, x_seti2, x_augi, x_setf, x_exp, x_ret, x_ife, x_frz, x_retN, x_pass, x_cont, x_nil, x_cons, getD_list, getD_tup, rd_int, rd_bl, rd_non, rd_str, rd_list, rd_tup, rd_fz, rd_dict, len_list, len_tup, abs_int, min2_int, max2_int, int_int, list_list, list_tup, mk_f, mk_t, truth_bl', truth_int', truth_list', tst_some, line0, line1, line2, line3, line4, line5, line6, line7, line8, asg, optC, optD, optI, isAbs, src_list, src_tup, src_enum, setI, body1, wipeE, List.map_cons, List.map_nil, List.length_cons, List.length_nil, List.replicate, List.cons_append, List.nil_append, List.getElem?_cons_zero, List.getElem?_cons_succ, List.set_cons_zero, List.set_cons_succ, List.zip_cons_cons, List.zip_nil_right, List.foldl_cons, List.foldl_nil, Nat.reduceAdd, Nat.reduceSub, bop_add_int, bop_sub_int, cop_lt_int, cop_gt_int, cop_le_int, cop_ge_int, cop_eq_int, cop_ne_int, atI_c0, atI_c1, atI_c2, atI_c3, if_true, Bool.false_eq_true, if_false, ↓reduceIte, Bool.not_true, Bool.not_false, h.rd, h.ballots]
    · intro b _
      simp only [turnF, eBal]
      simp only [e_var, e_non, e_bl, e_int, e_str, e_bin, e_neg, e_not, e_and, e_or, e_cmp, e_chain, e_isN, e_ife, e_tup, e_lst, e_dct, e_idx, e_slc, e_blt, e_isi, e_fld, e_app, e_ext, e_idxof, e_dget, e_nil, e_cons, x_setv, x_sett, x_setp, x_seti, x_seti2, x_augi, x_setf, x_exp, x_ret, x_ife, x_frz, x_retN, x_pass, x_cont, x_nil, x_cons, getD_list, getD_tup, rd_int, rd_bl, rd_non, rd_str, rd_list, rd_tup, rd_fz, rd_dict, len_list, len_tup, abs_int, min2_int, max2_int, int_int, list_list, list_tup, mk_f, mk_t, truth_bl', truth_int', truth_list', tst_some, line0, line1, line2, line3, line4, line5, line6, line7, line8, asg, optC, optD, optI, isAbs, src_list, src_tup, src_enum, setI, body1, wipeE, List.map_cons, List.map_nil, List.length_cons, List.length_nil, List.replicate, List.cons_append, List.nil_append, List.getElem?_cons_zero, List.getElem?_cons_succ, List.set_cons_zero, List.set_cons_succ, List.zip_cons_cons, List.zip_nil_right, List.foldl_cons, List.foldl_nil, Nat.reduceAdd, Nat.reduceSub, bop_add_int, bop_sub_int, cop_lt_int, cop_gt_int, cop_le_int, cop_ge_int, cop_eq_int, cop_ne_int, atI_c0, atI_c1, atI_c2, atI_c3, if_true, Bool.false_eq_true, if_false, ↓reduceIte, Bool.not_true, Bool.not_false, cop_eq_str]
      cases decide (b.purpose = a.purpose) <;> rfl
  · have := electors_run (n := n) (M := []) h ok ha
    simp only [e_var, e_non, e_bl, e_int, e_str, e_bin, e_neg, e_not, e_and, e_or, e_cmp, e_chain, e_isN, e_ife, e_tup, e_lst, e_dct, e_idx, e_slc, e_blt, e_isi, e_fld, e_app, e_ext, e_idxof, e_dget, e_nil, e_cons, x_setv, x_sett, x_setp, x_seti, x_seti2, x_augi, x_setf, x_exp, x_ret, x_ife, x_frz, x_retN, x_pass, x_cont, x_nil, x_cons, getD_list, getD_tup, rd_int, rd_bl, rd_non, rd_str, rd_list, rd_tup, rd_fz, rd_dict, len_list, len_tup, abs_int, min2_int, max2_int, int_int, list_list, list_tup, mk_f, mk_t, truth_bl', truth_int', truth_list', tst_some, line0, line1, line2, line3, line4, line5, line6, line7, line8, asg, optC, optD, optI, isAbs, src_list, src_tup, src_enum, setI, body1, wipeE, List.map_cons, List.map_nil, List.length_cons, List.length_nil, List.replicate, List.cons_append, List.nil_append, List.getElem?_cons_zero, List.getElem?_cons_succ, List.set_cons_zero, List.set_cons_succ, List.zip_cons_cons, List.zip_nil_right, List.foldl_cons, List.foldl_nil, Nat.reduceAdd, Nat.reduceSub, bop_add_int, bop_sub_int, cop_lt_int, cop_gt_int, cop_le_int, cop_ge_int, cop_eq_int, cop_ne_int, atI_c0, atI_c1, atI_c2, atI_c3, if_true, Bool.false_eq_true, if_false, ↓reduceIte, Bool.not_true, Bool.not_false, e_call, this]
  · rw [e_blt, e_cons, comp_flt (e := eMB) (g := fun r => .str r.1) (q := fun r => decide (a.name ∈ r.2) && decide (r.1 ∈ freeW w a.grantee)) (l := rowsV w a.purpose C) (M1 := []) (x := .list ((rowsV w a.purpose C).map eMB)) ?_ rfl (line_of (mb_len ok hC _) (by decide)) ?_]
    · simp only [e_var, e_non, e_bl, e_int, e_str, e_bin, e_neg, e_not, e_and, e_or, e_cmp, e_chain, e_isN, e_ife, e_tup, e_lst, e_dct, e_idx, e_slc, e_blt, e_isi, e_fld, e_app, e_ext, e_idxof, e_dget, e_nil, e_cons, x_setv, x_sett, x_setp, x_seti, x_seti2, x_augi, x_setf, x_exp, x_ret, x_ife, x_frz, x_retN, x_pass, x_cont, x_nil, x_cons, getD_list, getD_tup, rd_int, rd_bl, rd_non, rd_str, rd_list, rd_tup, rd_fz, rd_dict, len_list, len_tup, abs_int, min2_int, max2_int, int_int, list_list, list_tup, mk_f, mk_t, truth_bl', truth_int', truth_list', tst_some, line0, line1, line2, line3, line4, line5, line6, line7, line8, asg, optC, optD, optI, isAbs, src_list, src_tup, src_enum, setI, body1, wipeE, List.map_cons, List.map_nil, List.length_cons, List.length_nil, List.replicate, List.cons_append, List.nil_append, List.getElem?_cons_zero, List.getElem?_cons_succ, List.set_cons_zero, List.set_cons_succ, List.zip_cons_cons, List.zip_nil_right, List.foldl_cons, List.foldl_nil, Nat.reduceAdd, Nat.reduceSub, bop_add_int, bop_sub_int, cop_lt_int, cop_gt_int, cop_le_int, cop_ge_int, cop_eq_int, cop_ne_int, atI_c0, atI_c1, atI_c2, atI_c3, if_true, Bool.false_eq_true, if_false, ↓reduceIte, Bool.not_true, Bool.not_false, List.length_map]
      rfl
    · simp only [e_var, e_non, e_bl, e_int, e_str, e_bin, e_neg, e_not, e_and, e_or, e_cmp, e_chain, e_isN, e_ife, e_tup, e_lst, e_dct, e_idx, e_slc, e_blt, e_isi, e_fld, e_app, e_ext, e_idxof, e_dget, e_nil, e_cons, x_setv, x_sett, x_setp, x_seti, x_seti2, x_augi, x_setf, x_exp, x_ret, x_ife, x_frz, x_retN, x_pass, x_cont, x_nil, x_cons, getD_list, getD_tup, rd_int, rd_bl, rd_non, rd_str, rd_list, rd_tup, rd_fz, rd_dict, len_list, len_tup, abs_int, min2_int, max2_int, int_int, list_list, list_tup, mk_f, mk_t, truth_bl', truth_int', truth_list', tst_some, line0, line1, line2, line3, line4, line5, line6, line7, line8, asg, optC, optD, optI, isAbs, src_list, src_tup, src_enum, setI, body1, wipeE, List.map_cons, List.map_nil, List.length_cons, List.length_nil, List.replicate, List.cons_append, List.nil_append, List.getElem?_cons_zero, List.getElem?_cons_succ, List.set_cons_zero, List.set_cons_succ, List.zip_cons_cons, List.zip_nil_right, List.foldl_cons, List.foldl_nil, Nat.reduceAdd, Nat.reduceSub, bop_add_int, bop_sub_int, cop_lt_int, cop_gt_int, cop_le_int, cop_ge_int, cop_eq_int, cop_ne_int, atI_c0, atI_c1, atI_c2, atI_c3, if_true, Bool.false_eq_true, if_false, ↓reduceIte, Bool.not_true, Bool.not_false, list_C hc, mb_add ok hC]
    · intro r hr
      have h1 := mb_ok ok hC _ r hr
      have m1 := mem_names (ok.nm ha) h1.2
      have m2 := mem_run h1.1 (free_pool ok a.grantee)
      simp only [turnF, eMB]
      simp only [e_var, e_non, e_bl, e_int, e_str, e_bin, e_neg, e_not, e_and, e_or, e_cmp, e_chain, e_isN, e_ife, e_tup, e_lst, e_dct, e_idx, e_slc, e_blt, e_isi, e_fld, e_app, e_ext, e_idxof, e_dget, e_nil, e_cons, x_setv, x_sett, x_setp, x_seti, x_seti2, x_augi, x_setf, x_exp, x_ret, x_ife, x_frz, x_retN, x_pass, x_cont, x_nil, x_cons, getD_list, getD_tup, rd_int, rd_bl, rd_non, rd_str, rd_list, rd_tup, rd_fz, rd_dict, len_list, len_tup, abs_int, min2_int, max2_int, int_int, list_list, list_tup, mk_f, mk_t, truth_bl', truth_int', truth_list', tst_some, line0, line1, line2, line3, line4, line5, line6, line7, line8, asg, optC, optD, optI, isAbs, src_list, src_tup, src_enum, setI, body1, wipeE, List.map_cons, List.map_nil, List.length_cons, List.length_nil, List.replicate, List.cons_append, List.nil_append, List.getElem?_cons_zero, List.getElem?_cons_succ, List.set_cons_zero, List.set_cons_succ, List.zip_cons_cons, List.zip_nil_right, List.foldl_cons, List.foldl_nil, Nat.reduceAdd, Nat.reduceSub, bop_add_int, bop_sub_int, cop_lt_int, cop_gt_int, cop_le_int, cop_ge_int, cop_eq_int, cop_ne_int, atI_c0, atI_c1, atI_c2, atI_c3, if_true, Bool.false_eq_true, if_false, ↓reduceIte, Bool.not_true, Bool.not_false, m1, m2]
      cases decide (a.name ∈ r.2) <;> (simp only [e_var, e_non, e_bl, e_int, e_str, e_bin, e_neg, e_not, e_and, e_or, e_cmp, e_chain, e_isN, e_ife, e_tup, e_lst, e_dct, e_idx, e_slc, e_blt, e_isi, e_fld, e_app, e_ext, e_idxof, e_dget, e_nil, e_cons, x_setv, x_sett, x_setp, x_seti, x_seti2, x_augi, x_setf, x_exp, x_ret, x_ife, x_frz, x_retN, x_pass, x_cont, x_nil, x_cons, getD_list, getD_tup, rd_int, rd_bl, rd_non, rd_str, rd_list, rd_tup, rd_fz, rd_dict, len_list, len_tup, abs_int, min2_int, max2_int, int_int, list_list, list_tup, mk_f, mk_t, truth_bl', truth_int', truth_list', tst_some, line0, line1, line2, line3, line4, line5, line6, line7, line8, asg, optC, optD, optI, isAbs, src_list, src_tup, src_enum, setI, body1, wipeE, List.map_cons, List.map_nil, List.length_cons, List.length_nil, List.replicate, List.cons_append, List.nil_append, List.getElem?_cons_zero, List.getElem?_cons_succ, List.set_cons_zero, List.set_cons_succ, List.zip_cons_cons, List.zip_nil_right, List.foldl_cons, List.foldl_nil, Nat.reduceAdd, Nat.reduceSub, bop_add_int, bop_sub_int, cop_lt_int, cop_gt_int, cop_le_int, cop_ge_int, cop_eq_int, cop_ne_int, atI_c0, atI_c1, atI_c2, atI_c3, if_true, Bool.false_eq_true, if_false, ↓reduceIte, Bool.not_true, Bool.not_false, Bool.true_and, Bool.false_and, m2]; try (cases decide (r.1 ∈ freeW w a.grantee) <;> rfl))
theorem bar_of (x : List Tx) (M : Sto) : (if (((x.length : Nat) : Int) + 1) / 2 > 1 then (((x.length : Nat) : Int) + 1) / 2 else (1 : Int)) = if ((x.length : Int) + 1) / 2 > 1 then ((x.length : Int) + 1) / 2 else 1 := rfl
theorem quorum_run {a : Ask} (h : Has d w) (ok : w.Ok 8 9) (ha : a ∈ w.asks) : callM (run fns cls (n + 4)) .pure f_quorum [d, .str a.name] M = some (.int (barW w a), M) := by
  refine pure_of (M2 := []) (run_of (f := f_quorum) rfl rfl (r_ret ?_)) (by rw [belowL, h.below]; rfl) rfl rfl
  have := electors_run (n := n) (M := []) h ok ha
  simp only [e_var, e_non, e_bl, e_int, e_str, e_bin, e_neg, e_not, e_and, e_or, e_cmp, e_chain, e_isN, e_ife, e_tup, e_lst, e_dct, e_idx, e_slc, e_blt, e_isi, e_fld, e_app, e_ext, e_idxof, e_dget, e_nil, e_cons, x_setv, x_sett, x_setp, x_seti, x_seti2, x_augi, x_setf, x_exp, x_ret, x_ife, x_frz, x_retN, x_pass, x_cont, x_nil, x_cons, getD_list, getD_tup, rd_int, rd_bl, rd_non, rd_str, rd_list, rd_tup, rd_fz, rd_dict, len_list, len_tup, abs_int, min2_int, max2_int, int_int, list_list, list_tup, mk_f, mk_t, truth_bl', truth_int', truth_list', tst_some, line0, line1, line2, line3, line4, line5, line6, line7, line8, asg, optC, optD, optI, isAbs, src_list, src_tup, src_enum, setI, body1, wipeE, List.map_cons, List.map_nil, List.length_cons, List.length_nil, List.replicate, List.cons_append, List.nil_append, List.getElem?_cons_zero, List.getElem?_cons_succ, List.set_cons_zero, List.set_cons_succ, List.zip_cons_cons, List.zip_nil_right, List.foldl_cons, List.foldl_nil, Nat.reduceAdd, Nat.reduceSub, bop_add_int, bop_sub_int, cop_lt_int, cop_gt_int, cop_le_int, cop_ge_int, cop_eq_int, cop_ne_int, atI_c0, atI_c1, atI_c2, atI_c3, if_true, Bool.false_eq_true, if_false, ↓reduceIte, Bool.not_true, Bool.not_false, e_call, this, List.length_map, bop_fdiv_int (show (0 : Int) < 2 by decide) (by decide)]
  rfl
theorem idx_run (ok : w.Ok 8 9) {a : Ask} (ha : a ∈ w.asks) : (w.asks.map fun b => D.str b.name).findIdx? (fun z => PySem.PyData.eqv (pd z) (pd (.str a.name))) = some (idxW w a.name) := by
  have e : (fun z : D => PySem.PyData.eqv (pd z) (pd (.str a.name))) ∘ (fun b : Ask => D.str b.name) = fun b => decide (b.name = a.name) := by
    funext b
    rw [Function.comp, pd, pd, eqv_str]
  unfold idxW
  rw [List.findIdx?_map, e, List.findIdx?_eq_some_iff_findIdx_eq, List.findIdx_map]
  refine ⟨?_, rfl⟩
  rw [List.findIdx_lt_length]
  exact ⟨a, ha, by simp⟩
theorem names_c {F : FT} {N : Sto} (h : Has d w) (ok : w.Ok 8 9) (x1 x2 x3 : Option D) : ev F cls (.comp false [3] (.nm 3) .seq (.idx (.var 0) (.str "asks")) .absent .absent (.idx (.var 3) (.int 0))) [some d, x1, x2, x3] N = some (.list (w.asks.map fun b => D.str b.name), N) := by
  rw [comp_map (e := eAsk) (g := fun b => .str b.name) (l := w.asks) (M1 := N) (x := .list (w.asks.map eAsk)) ?_ rfl (line_of ok.alen (by decide)) ?_]
  · simp only [e_var, e_non, e_bl, e_int, e_str, e_bin, e_neg, e_not, e_and, e_or, e_cmp, e_chain, e_isN, e_ife, e_tup, e_lst, e_dct, e_idx, e_slc, e_blt, e_isi, e_fld, e_app, e_ext, e_idxof, e_dget, e_nil, e_cons, x_setv, x_sett, x_setp, x_seti, x_seti2, x_augi, x_setf, x_exp, x_ret, x_ife, x_frz, x_retN, x_pass, x_cont, x_nil, x_cons, getD_list, getD_tup, rd_int, rd_bl, rd_non, rd_str, rd_list, rd_tup, rd_fz, rd_dict, len_list, len_tup, abs_int, min2_int, max2_int, int_int, list_list, list_tup, mk_f, mk_t, truth_bl', truth_int', truth_list', tst_some, line0, line1, line2, line3, line4, line5, line6, line7, line8, asg, optC, optD, optI, isAbs, src_list, src_tup, src_enum, setI, body1, wipeE, List.map_cons, List.map_nil, List.length_cons, List.length_nil, List.replicate, List.cons_append, List.nil_append, List.getElem?_cons_zero, List.getElem?_cons_succ, List.set_cons_zero, List.set_cons_succ, List.zip_cons_cons, List.zip_nil_right, List.foldl_cons, List.foldl_nil, Nat.reduceAdd, Nat.reduceSub, bop_add_int, bop_sub_int, cop_lt_int, cop_gt_int, cop_le_int, cop_ge_int, cop_eq_int, cop_ne_int, atI_c0, atI_c1, atI_c2, atI_c3, if_true, Bool.false_eq_true, if_false, ↓reduceIte, Bool.not_true, Bool.not_false, h.rd, h.asks]
  · intro b _
    simp only [turnF, eAsk]
    simp only [e_var, e_non, e_bl, e_int, e_str, e_bin, e_neg, e_not, e_and, e_or, e_cmp, e_chain, e_isN, e_ife, e_tup, e_lst, e_dct, e_idx, e_slc, e_blt, e_isi, e_fld, e_app, e_ext, e_idxof, e_dget, e_nil, e_cons, x_setv, x_sett, x_setp, x_seti, x_seti2, x_augi, x_setf, x_exp, x_ret, x_ife, x_frz, x_retN, x_pass, x_cont, x_nil, x_cons, getD_list, getD_tup, rd_int, rd_bl, rd_non, rd_str, rd_list, rd_tup, rd_fz, rd_dict, len_list, len_tup, abs_int, min2_int, max2_int, int_int, list_list, list_tup, mk_f, mk_t, truth_bl', truth_int', truth_list', tst_some, line0, line1, line2, line3, line4, line5, line6, line7, line8, asg, optC, optD, optI, isAbs, src_list, src_tup, src_enum, setI, body1, wipeE, List.map_cons, List.map_nil, List.length_cons, List.length_nil, List.replicate, List.cons_append, List.nil_append, List.getElem?_cons_zero, List.getElem?_cons_succ, List.set_cons_zero, List.set_cons_succ, List.zip_cons_cons, List.zip_nil_right, List.foldl_cons, List.foldl_nil, Nat.reduceAdd, Nat.reduceSub, bop_add_int, bop_sub_int, cop_lt_int, cop_gt_int, cop_le_int, cop_ge_int, cop_eq_int, cop_ne_int, atI_c0, atI_c1, atI_c2, atI_c3, if_true, Bool.false_eq_true, if_false, ↓reduceIte, Bool.not_true, Bool.not_false]
theorem asks_dp (ok : w.Ok 8 9) : dpL (w.asks.map fun b => D.str b.name) ≤ 60 := dpL_of fun b hb => by rw [dp_str (names_ok _ (ok.nm hb))]; omega
theorem place_run {a : Ask} (h : Has d w) (ok : w.Ok 8 9) (ha : a ∈ w.asks) : callM (run fns cls (n + 2)) .pure f_place [d, .str a.name] M = some (.tup [.int a.amounts.sum, .int (idxW w a.name : Nat)], M) := by
  refine pure_of (M2 := []) (run_of (f := f_place) rfl rfl (r_set (x := .list (w.asks.map fun b => D.str b.name)) (M1 := []) ?_ (r_ret ?_))) (by rw [belowL, h.below]; rfl) rfl rfl
  · exact names_c h ok _ _ _
  · have := ask_run (n := n) (M := []) h ok (ask_find ok.nd ha)
    have hd : dp (.str a.name) ≤ 60 ∧ dpL (w.asks.map fun b => D.str b.name) ≤ 60 := ⟨by rw [dp_str (names_ok _ (ok.nm ha))]; omega, asks_dp ok⟩
    have hi := idx_run ok ha
    simp only [e_var, e_non, e_bl, e_int, e_str, e_bin, e_neg, e_not, e_and, e_or, e_cmp, e_chain, e_isN, e_ife, e_tup, e_lst, e_dct, e_idx, e_slc, e_blt, e_isi, e_fld, e_app, e_ext, e_idxof, e_dget, e_nil, e_cons, x_setv, x_sett, x_setp, x_seti, x_seti2, x_augi, x_setf, x_exp, x_ret, x_ife, x_frz, x_retN, x_pass, x_cont, x_nil, x_cons, getD_list, getD_tup, rd_int, rd_bl, rd_non, rd_str, rd_list, rd_tup, rd_fz, rd_dict, len_list, len_tup, abs_int, min2_int, max2_int, int_int, list_list, list_tup, mk_f, mk_t, truth_bl', truth_int', truth_list', tst_some, line0, line1, line2, line3, line4, line5, line6, line7, line8, asg, optC, optD, optI, isAbs, src_list, src_tup, src_enum, setI, body1, wipeE, List.map_cons, List.map_nil, List.length_cons, List.length_nil, List.replicate, List.cons_append, List.nil_append, List.getElem?_cons_zero, List.getElem?_cons_succ, List.set_cons_zero, List.set_cons_succ, List.zip_cons_cons, List.zip_nil_right, List.foldl_cons, List.foldl_nil, Nat.reduceAdd, Nat.reduceSub, bop_add_int, bop_sub_int, cop_lt_int, cop_gt_int, cop_le_int, cop_ge_int, cop_eq_int, cop_ne_int, atI_c0, atI_c1, atI_c2, atI_c3, if_true, Bool.false_eq_true, if_false, ↓reduceIte, Bool.not_true, Bool.not_false, e_call, this, eAsk, sum_mapT, hd, and_self, hi]
end
end K34

/-! K34f: the law's own votes, bars, spots. -/
namespace K34
open MP CM
/-- the law's own copy: the world and who is free -/
structure HasF (d : D) (w : Wld) : Prop where
  has : Has d w
  free : ∃ fr : List (L2.Key × D), getD_ d (.str "free") = some (.dict fr) ∧ ∀ a ∈ w.asks, kvAt (.inr a.name) fr = some (.list ((freeW w a.grantee).map D.str))
section
variable {n : Nat} {M : Sto} {d : D} {w : Wld}
theorem free_run {a : Ask} (h : HasF d w) (ok : w.Ok 8 9) (ha : a ∈ w.asks) : callM (run fns cls (n + 1)) .pure f_law_free [d, .str a.name] M = some (.list ((freeW w a.grantee).map D.str), M) := by
  obtain ⟨fr, f1, f2⟩ := h.free
  refine pure_of (M2 := []) (run_of (f := f_law_free) rfl rfl (r_ret ?_)) (by rw [belowL, h.has.below]; rfl) (below_str 0 _) rfl
  have g : getD_ (.dict fr) (.str a.name) = some (.list ((freeW w a.grantee).map D.str)) := f2 a ha
  simp only [e_var, e_non, e_bl, e_int, e_str, e_bin, e_neg, e_not, e_and, e_or, e_cmp, e_chain, e_isN, e_ife, e_tup, e_lst, e_dct, e_idx, e_slc, e_blt, e_isi, e_fld, e_app, e_ext, e_idxof, e_dget, e_nil, e_cons, x_setv, x_sett, x_setp, x_seti, x_seti2, x_augi, x_setf, x_exp, x_ret, x_ife, x_frz, x_retN, x_pass, x_cont, x_nil, x_cons, getD_list, getD_tup, rd_int, rd_bl, rd_non, rd_str, rd_list, rd_tup, rd_fz, rd_dict, len_list, len_tup, abs_int, min2_int, max2_int, int_int, list_list, list_tup, mk_f, mk_t, truth_bl', truth_int', truth_list', tst_some, line0, line1, line2, line3, line4, line5, line6, line7, line8, asg, optC, optD, optI, isAbs, src_list, src_tup, src_enum, setI, body1, wipeE, List.map_cons, List.map_nil, List.length_cons, List.length_nil, List.replicate, List.cons_append, List.nil_append, List.getElem?_cons_zero, List.getElem?_cons_succ, List.set_cons_zero, List.set_cons_succ, List.zip_cons_cons, List.zip_nil_right, List.foldl_cons, List.foldl_nil, Nat.reduceAdd, Nat.reduceSub, bop_add_int, bop_sub_int, cop_lt_int, cop_gt_int, cop_le_int, cop_ge_int, cop_eq_int, cop_ne_int, atI_c0, atI_c1, atI_c2, atI_c3, if_true, Bool.false_eq_true, if_false, ↓reduceIte, Bool.not_true, Bool.not_false, h.has.rd, f1, g]
theorem lvotes_run {a : Ask} {C : List (Tx × List Tx)} (h : HasF d w) (ok : w.Ok 8 9) (ha : a ∈ w.asks) (hC : OkC C) : callM (run fns cls (n + 2)) .pure f_law_votes [d, .str a.name, .list (C.map eMB)] M = some (.int (votesW w a C : Nat), M) := by
  refine pure_of (M2 := []) (run_of (f := f_law_votes) rfl rfl (r_set (x := .str a.purpose) (M1 := []) ?_ (r_set (x := .list ((freeW w a.grantee).map D.str)) (M1 := []) ?_ (r_set (x := .list ((rowsV w a.purpose C).map eMB)) (M1 := []) ?_ (r_ret ?_))))) (by simp only [belowL, h.has.below, below_C (.inl rfl)]; rfl) rfl rfl
  · have := lask_run (n := n) (M := []) h.has ok (ask_find ok.nd ha)
    simp only [e_var, e_non, e_bl, e_int, e_str, e_bin, e_neg, e_not, e_and, e_or, e_cmp, e_chain, e_isN, e_ife, e_tup, e_lst, e_dct, e_idx, e_slc, e_blt, e_isi, e_fld, e_app, e_ext, e_idxof, e_dget, e_nil, e_cons, x_setv, x_sett, x_setp, x_seti, x_seti2, x_augi, x_setf, x_exp, x_ret, x_ife, x_frz, x_retN, x_pass, x_cont, x_nil, x_cons, getD_list, getD_tup, rd_int, rd_bl, rd_non, rd_str, rd_list, rd_tup, rd_fz, rd_dict, len_list, len_tup, abs_int, min2_int, max2_int, int_int, list_list, list_tup, mk_f, mk_t, truth_bl', truth_int', truth_list', tst_some, line0, line1, line2, line3, line4, line5, line6, line7, line8, asg, optC, optD, optI, isAbs, src_list, src_tup, src_enum, setI, body1, wipeE, List.map_cons, List.map_nil, List.length_cons, List.length_nil, List.replicate, List.cons_append, List.nil_append, List.getElem?_cons_zero, List.getElem?_cons_succ, List.set_cons_zero, List.set_cons_succ, List.zip_cons_cons, List.zip_nil_right, List.foldl_cons, List.foldl_nil, Nat.reduceAdd, Nat.reduceSub, bop_add_int, bop_sub_int, cop_lt_int, cop_gt_int, cop_le_int, cop_ge_int, cop_eq_int, cop_ne_int, atI_c0, atI_c1, atI_c2, atI_c3, if_true, Bool.false_eq_true, if_false, ↓reduceIte, Bool.not_true, Bool.not_false, e_call, this, eAsk]
  · have := free_run (n := n) (M := []) h ok ha
    simp only [e_var, e_non, e_bl, e_int, e_str, e_bin, e_neg, e_not, e_and, e_or, e_cmp, e_chain, e_isN, e_ife, e_tup, e_lst, e_dct, e_idx, e_slc, e_blt, e_isi, e_fld, e_app, e_ext, e_idxof, e_dget, e_nil, e_cons, x_setv, x_sett, x_setp, x_seti, x_seti2, x_augi, x_setf, x_exp, x_ret, x_ife, x_frz, x_retN, x_pass, x_cont, x_nil, x_cons, getD_list, getD_tup, rd_int, rd_bl, rd_non, rd_str, rd_list, rd_tup, rd_fz, rd_dict, len_list, len_tup, abs_int, min2_int, max2_int, int_int, list_list, list_tup, mk_f, mk_t, truth_bl', truth_int', truth_list', tst_some, line0, line1, line2, line3, line4, line5, line6, line7, line8, asg, optC, optD, optI, isAbs, src_list, src_tup, src_enum, setI, body1, wipeE, List.map_cons, List.map_nil, List.length_cons, List.length_nil, List.replicate, List.cons_append, List.nil_append, List.getElem?_cons_zero, List.getElem?_cons_succ, List.set_cons_zero, List.set_cons_succ, List.zip_cons_cons, List.zip_nil_right, List.foldl_cons, List.foldl_nil, Nat.reduceAdd, Nat.reduceSub, bop_add_int, bop_sub_int, cop_lt_int, cop_gt_int, cop_le_int, cop_ge_int, cop_eq_int, cop_ne_int, atI_c0, atI_c1, atI_c2, atI_c3, if_true, Bool.false_eq_true, if_false, ↓reduceIte, Bool.not_true, Bool.not_false, e_call, this]
  · rw [e_bin, comp_flt (e := eBal) (g := fun b => eMB (b.member, b.row)) (q := fun b => decide (b.purpose = a.purpose)) (l := w.ballots) (M1 := []) (x := .list (w.ballots.map eBal)) ?_ rfl (line_of ok.blen (by decide)) ?_]
    · simp only [e_var, e_non, e_bl, e_int, e_str, e_bin, e_neg, e_not, e_and, e_or, e_cmp, e_chain, e_isN, e_ife, e_tup, e_lst, e_dct, e_idx, e_slc, e_blt, e_isi, e_fld, e_app, e_ext, e_idxof, e_dget, e_nil, e_cons, x_setv, x_sett, x_setp, x_seti, x_seti2, x_augi, x_setf, x_exp, x_ret, x_ife, x_frz, x_retN, x_pass, x_cont, x_nil, x_cons, getD_list, getD_tup, rd_int, rd_bl, rd_non, rd_str, rd_list, rd_tup, rd_fz, rd_dict, len_list, len_tup, abs_int, min2_int, max2_int, int_int, list_list, list_tup, mk_f, mk_t, truth_bl', truth_int', truth_list', tst_some, line0, line1, line2, line3, line4, line5, line6, line7, line8, asg, optC, optD, optI, isAbs, src_list, src_tup, src_enum, setI, body1, wipeE, List.map_cons, List.map_nil, List.length_cons, List.length_nil, List.replicate, List.cons_append, List.nil_append, List.getElem?_cons_zero, List.getElem?_cons_succ, List.set_cons_zero, List.set_cons_succ, List.zip_cons_cons, List.zip_nil_right, List.foldl_cons, List.foldl_nil, Nat.reduceAdd, Nat.reduceSub, bop_add_int, bop_sub_int, cop_lt_int, cop_gt_int, cop_le_int, cop_ge_int, cop_eq_int, cop_ne_int, atI_c0, atI_c1, atI_c2, atI_c3, if_true, Bool.false_eq_true, if_false, ↓reduceIte, Bool.not_true, Bool.not_false, list_C (.inl rfl), mb_add ok hC]
    · simp only [e_var, e_non, e_bl, e_int, e_str, e_bin, e_neg, e_not, e_and, e_or, e_cmp, e_chain, e_isN, e_ife, e_tup, e_lst, e_dct, e_idx, e_slc, e_blt, e_isi, e_fld, e_app, e_ext, e_idxof, e_dget, e_nil, e_cons, x_setv, x_sett, x_setp, x_seti, x_seti2, x_augi, x_setf, x_exp, x_ret, x_ife, x_frz, x_retN, x_pass, x_cont, x_nil, x_cons, getD_list, getD_tup, rd_int, rd_bl, rd_non, rd_str, rd_list, rd_tup, rd_fz, rd_dict, len_list, len_tup, abs_int, min2_int, max2_int, int_int, list_list, list_tup, mk_f, mk_t, truth_bl', truth_int', truth_list', tst_some, line0, line1, line2, line3, line4, line5, line6, line7, line8, asg, optC, optD, optI, isAbs, src_list, src_tup, src_enum, setI, body1, wipeE, List.map_cons, List.map_nil, List.length_cons, List.length_nil, List.replicate, List.cons_append, List.nil_append, List.getElem?_cons_zero, List.getElem?_cons_succ, List.set_cons_zero, List.set_cons_succ, List.zip_cons_cons, List.zip_nil_right, List.foldl_cons, List.foldl_nil, Nat.reduceAdd, Nat.reduceSub, bop_add_int, bop_sub_int, cop_lt_int, cop_gt_int, cop_le_int, cop_ge_int, cop_eq_int, cop_ne_int, atI_c0, atI_c1, atI_c2, atI_c3, if_true, Bool.false_eq_true, if_false, ↓reduceIte, Bool.not_true, Bool.not_false, h.has.rd, h.has.ballots]
    · intro b _
      simp only [turnF, eBal]
      simp only [e_var, e_non, e_bl, e_int, e_str, e_bin, e_neg, e_not, e_and, e_or, e_cmp, e_chain, e_isN, e_ife, e_tup, e_lst, e_dct, e_idx, e_slc, e_blt, e_isi, e_fld, e_app, e_ext, e_idxof, e_dget, e_nil, e_cons, x_setv, x_sett, x_setp, x_seti, x_seti2, x_augi, x_setf, x_exp, x_ret, x_ife, x_frz, x_retN, x_pass, x_cont, x_nil, x_cons, getD_list, getD_tup, rd_int, rd_bl, rd_non, rd_str, rd_list, rd_tup, rd_fz, rd_dict, len_list, len_tup, abs_int, min2_int, max2_int, int_int, list_list, list_tup, mk_f, mk_t, truth_bl', truth_int', truth_list', tst_some, line0, line1, line2, line3, line4, line5, line6, line7, line8, asg, optC, optD, optI, isAbs, src_list, src_tup, src_enum, setI, body1, wipeE, List.map_cons, List.map_nil, List.length_cons, List.length_nil, List.replicate, List.cons_append, List.nil_append, List.getElem?_cons_zero, List.getElem?_cons_succ, List.set_cons_zero, List.set_cons_succ, List.zip_cons_cons, List.zip_nil_right, List.foldl_cons, List.foldl_nil, Nat.reduceAdd, Nat.reduceSub, bop_add_int, bop_sub_int, cop_lt_int, cop_gt_int, cop_le_int, cop_ge_int, cop_eq_int, cop_ne_int, atI_c0, atI_c1, atI_c2, atI_c3, if_true, Bool.false_eq_true, if_false, ↓reduceIte, Bool.not_true, Bool.not_false, cop_eq_str]
      cases decide (b.purpose = a.purpose) <;> rfl
  · rw [e_blt, e_cons, comp_flt (e := eMB) (g := fun r => .int 1) (q := fun r => decide (a.name ∈ r.2) && decide (r.1 ∈ freeW w a.grantee)) (l := rowsV w a.purpose C) (M1 := []) (x := .list ((rowsV w a.purpose C).map eMB)) ?_ rfl (line_of (mb_len ok hC _) (by decide)) ?_]
    · simp only [e_var, e_non, e_bl, e_int, e_str, e_bin, e_neg, e_not, e_and, e_or, e_cmp, e_chain, e_isN, e_ife, e_tup, e_lst, e_dct, e_idx, e_slc, e_blt, e_isi, e_fld, e_app, e_ext, e_idxof, e_dget, e_nil, e_cons, x_setv, x_sett, x_setp, x_seti, x_seti2, x_augi, x_setf, x_exp, x_ret, x_ife, x_frz, x_retN, x_pass, x_cont, x_nil, x_cons, getD_list, getD_tup, rd_int, rd_bl, rd_non, rd_str, rd_list, rd_tup, rd_fz, rd_dict, len_list, len_tup, abs_int, min2_int, max2_int, int_int, list_list, list_tup, mk_f, mk_t, truth_bl', truth_int', truth_list', tst_some, line0, line1, line2, line3, line4, line5, line6, line7, line8, asg, optC, optD, optI, isAbs, src_list, src_tup, src_enum, setI, body1, wipeE, List.map_cons, List.map_nil, List.length_cons, List.length_nil, List.replicate, List.cons_append, List.nil_append, List.getElem?_cons_zero, List.getElem?_cons_succ, List.set_cons_zero, List.set_cons_succ, List.zip_cons_cons, List.zip_nil_right, List.foldl_cons, List.foldl_nil, Nat.reduceAdd, Nat.reduceSub, bop_add_int, bop_sub_int, cop_lt_int, cop_gt_int, cop_le_int, cop_ge_int, cop_eq_int, cop_ne_int, atI_c0, atI_c1, atI_c2, atI_c3, if_true, Bool.false_eq_true, if_false, ↓reduceIte, Bool.not_true, Bool.not_false, List.length_map]
      rfl
    · simp only [e_var, e_non, e_bl, e_int, e_str, e_bin, e_neg, e_not, e_and, e_or, e_cmp, e_chain, e_isN, e_ife, e_tup, e_lst, e_dct, e_idx, e_slc, e_blt, e_isi, e_fld, e_app, e_ext, e_idxof, e_dget, e_nil, e_cons, x_setv, x_sett, x_setp, x_seti, x_seti2, x_augi, x_setf, x_exp, x_ret, x_ife, x_frz, x_retN, x_pass, x_cont, x_nil, x_cons, getD_list, getD_tup, rd_int, rd_bl, rd_non, rd_str, rd_list, rd_tup, rd_fz, rd_dict, len_list, len_tup, abs_int, min2_int, max2_int, int_int, list_list, list_tup, mk_f, mk_t, truth_bl', truth_int', truth_list', tst_some, line0, line1, line2, line3, line4, line5, line6, line7, line8, asg, optC, optD, optI, isAbs, src_list, src_tup, src_enum, setI, body1, wipeE, List.map_cons, List.map_nil, List.length_cons, List.length_nil, List.replicate, List.cons_append, List.nil_append, List.getElem?_cons_zero, List.getElem?_cons_succ, List.set_cons_zero, List.set_cons_succ, List.zip_cons_cons, List.zip_nil_right, List.foldl_cons, List.foldl_nil, Nat.reduceAdd, Nat.reduceSub, bop_add_int, bop_sub_int, cop_lt_int, cop_gt_int, cop_le_int, cop_ge_int, cop_eq_int, cop_ne_int, atI_c0, atI_c1, atI_c2, atI_c3, if_true, Bool.false_eq_true, if_false, ↓reduceIte, Bool.not_true, Bool.not_false]
    · intro r hr
      have h1 := mb_ok ok hC _ r hr
      have m1 := mem_names (ok.nm ha) h1.2
      have m2 := mem_run h1.1 (free_pool ok a.grantee)
      simp only [turnF, eMB]
      simp only [e_var, e_non, e_bl, e_int, e_str, e_bin, e_neg, e_not, e_and, e_or, e_cmp, e_chain, e_isN, e_ife, e_tup, e_lst, e_dct, e_idx, e_slc, e_blt, e_isi, e_fld, e_app, e_ext, e_idxof, e_dget, e_nil, e_cons, x_setv, x_sett, x_setp, x_seti, x_seti2, x_augi, x_setf, x_exp, x_ret, x_ife, x_frz, x_retN, x_pass, x_cont, x_nil, x_cons, getD_list, getD_tup, rd_int, rd_bl, rd_non, rd_str, rd_list, rd_tup, rd_fz, rd_dict, len_list, len_tup, abs_int, min2_int, max2_int, int_int, list_list, list_tup, mk_f, mk_t, truth_bl', truth_int', truth_list', tst_some, line0, line1, line2, line3, line4, line5, line6, line7, line8, asg, optC, optD, optI, isAbs, src_list, src_tup, src_enum, setI, body1, wipeE, List.map_cons, List.map_nil, List.length_cons, List.length_nil, List.replicate, List.cons_append, List.nil_append, List.getElem?_cons_zero, List.getElem?_cons_succ, List.set_cons_zero, List.set_cons_succ, List.zip_cons_cons, List.zip_nil_right, List.foldl_cons, List.foldl_nil, Nat.reduceAdd, Nat.reduceSub, bop_add_int, bop_sub_int, cop_lt_int, cop_gt_int, cop_le_int, cop_ge_int, cop_eq_int, cop_ne_int, atI_c0, atI_c1, atI_c2, atI_c3, if_true, Bool.false_eq_true, if_false, ↓reduceIte, Bool.not_true, Bool.not_false, m1, m2]
      cases decide (a.name ∈ r.2) <;> (simp only [e_var, e_non, e_bl, e_int, e_str, e_bin, e_neg, e_not, e_and, e_or, e_cmp, e_chain, e_isN, e_ife, e_tup, e_lst, e_dct, e_idx, e_slc, e_blt, e_isi, e_fld, e_app, e_ext, e_idxof, e_dget, e_nil, e_cons, x_setv, x_sett, x_setp, x_seti, x_seti2, x_augi, x_setf, x_exp, x_ret, x_ife, x_frz, x_retN, x_pass, x_cont, x_nil, x_cons, getD_list, getD_tup, rd_int, rd_bl, rd_non, rd_str, rd_list, rd_tup, rd_fz, rd_dict, len_list, len_tup, abs_int, min2_int, max2_int, int_int, list_list, list_tup, mk_f, mk_t, truth_bl', truth_int', truth_list', tst_some, line0, line1, line2, line3, line4, line5, line6, line7, line8, asg, optC, optD, optI, isAbs, src_list, src_tup, src_enum, setI, body1, wipeE, List.map_cons, List.map_nil, List.length_cons, List.length_nil, List.replicate, List.cons_append, List.nil_append, List.getElem?_cons_zero, List.getElem?_cons_succ, List.set_cons_zero, List.set_cons_succ, List.zip_cons_cons, List.zip_nil_right, List.foldl_cons, List.foldl_nil, Nat.reduceAdd, Nat.reduceSub, bop_add_int, bop_sub_int, cop_lt_int, cop_gt_int, cop_le_int, cop_ge_int, cop_eq_int, cop_ne_int, atI_c0, atI_c1, atI_c2, atI_c3, if_true, Bool.false_eq_true, if_false, ↓reduceIte, Bool.not_true, Bool.not_false, Bool.true_and, Bool.false_and, m2]; try (cases decide (r.1 ∈ freeW w a.grantee) <;> rfl))
theorem bar_run {a : Ask} (h : HasF d w) (ok : w.Ok 8 9) (ha : a ∈ w.asks) : callM (run fns cls (n + 2)) .pure f_law_bar [d, .str a.name] M = some (.int (barW w a), M) := by
  refine pure_of (M2 := []) (run_of (f := f_law_bar) rfl rfl (r_ret ?_)) (by rw [belowL, h.has.below]; rfl) rfl rfl
  have := free_run (n := n) (M := []) h ok ha
  simp only [e_var, e_non, e_bl, e_int, e_str, e_bin, e_neg, e_not, e_and, e_or, e_cmp, e_chain, e_isN, e_ife, e_tup, e_lst, e_dct, e_idx, e_slc, e_blt, e_isi, e_fld, e_app, e_ext, e_idxof, e_dget, e_nil, e_cons, x_setv, x_sett, x_setp, x_seti, x_seti2, x_augi, x_setf, x_exp, x_ret, x_ife, x_frz, x_retN, x_pass, x_cont, x_nil, x_cons, getD_list, getD_tup, rd_int, rd_bl, rd_non, rd_str, rd_list, rd_tup, rd_fz, rd_dict, len_list, len_tup, abs_int, min2_int, max2_int, int_int, list_list, list_tup, mk_f, mk_t, truth_bl', truth_int', truth_list', tst_some, line0, line1, line2, line3, line4, line5, line6, line7, line8, asg, optC, optD, optI, isAbs, src_list, src_tup, src_enum, setI, body1, wipeE, List.map_cons, List.map_nil, List.length_cons, List.length_nil, List.replicate, List.cons_append, List.nil_append, List.getElem?_cons_zero, List.getElem?_cons_succ, List.set_cons_zero, List.set_cons_succ, List.zip_cons_cons, List.zip_nil_right, List.foldl_cons, List.foldl_nil, Nat.reduceAdd, Nat.reduceSub, bop_add_int, bop_sub_int, cop_lt_int, cop_gt_int, cop_le_int, cop_ge_int, cop_eq_int, cop_ne_int, atI_c0, atI_c1, atI_c2, atI_c3, if_true, Bool.false_eq_true, if_false, ↓reduceIte, Bool.not_true, Bool.not_false, e_call, this, List.length_map, bop_fdiv_int (show (0 : Int) < 2 by decide) (by decide)]
  rfl
theorem spot_run {a : Ask} (h : Has d w) (ok : w.Ok 8 9) (ha : a ∈ w.asks) : callM (run fns cls (n + 2)) .pure f_law_spot [d, .str a.name] M = some (.tup [.int a.amounts.sum, .int (idxW w a.name : Nat)], M) := by
  refine pure_of (M2 := []) (run_of (f := f_law_spot) rfl rfl (r_set (x := .list (w.asks.map fun b => D.str b.name)) (M1 := []) ?_ (r_ret ?_))) (by rw [belowL, h.below]; rfl) rfl rfl
  · exact names_c h ok _ _ _
  · have := lask_run (n := n) (M := []) h ok (ask_find ok.nd ha)
    have hd : dp (.str a.name) ≤ 60 ∧ dpL (w.asks.map fun b => D.str b.name) ≤ 60 := ⟨by rw [dp_str (names_ok _ (ok.nm ha))]; omega, asks_dp ok⟩
    have hi := idx_run ok ha
    simp only [e_var, e_non, e_bl, e_int, e_str, e_bin, e_neg, e_not, e_and, e_or, e_cmp, e_chain, e_isN, e_ife, e_tup, e_lst, e_dct, e_idx, e_slc, e_blt, e_isi, e_fld, e_app, e_ext, e_idxof, e_dget, e_nil, e_cons, x_setv, x_sett, x_setp, x_seti, x_seti2, x_augi, x_setf, x_exp, x_ret, x_ife, x_frz, x_retN, x_pass, x_cont, x_nil, x_cons, getD_list, getD_tup, rd_int, rd_bl, rd_non, rd_str, rd_list, rd_tup, rd_fz, rd_dict, len_list, len_tup, abs_int, min2_int, max2_int, int_int, list_list, list_tup, mk_f, mk_t, truth_bl', truth_int', truth_list', tst_some, line0, line1, line2, line3, line4, line5, line6, line7, line8, asg, optC, optD, optI, isAbs, src_list, src_tup, src_enum, setI, body1, wipeE, List.map_cons, List.map_nil, List.length_cons, List.length_nil, List.replicate, List.cons_append, List.nil_append, List.getElem?_cons_zero, List.getElem?_cons_succ, List.set_cons_zero, List.set_cons_succ, List.zip_cons_cons, List.zip_nil_right, List.foldl_cons, List.foldl_nil, Nat.reduceAdd, Nat.reduceSub, bop_add_int, bop_sub_int, cop_lt_int, cop_gt_int, cop_le_int, cop_ge_int, cop_eq_int, cop_ne_int, atI_c0, atI_c1, atI_c2, atI_c3, if_true, Bool.false_eq_true, if_false, ↓reduceIte, Bool.not_true, Bool.not_false, e_call, this, eAsk, sum_mapT, hd, and_self, hi]
end
/-! ### rows of votes -/
theorem dp_row {r : Int × (Int × Int) × Tx} (h : okS r.2.2 = true) : dp (eRow r) = 2 := by
  unfold eRow
  simp only [dp, dpL]
  have := dp_str h
  rw [dp] at this
  omega
theorem sorted_rows {R : List (Int × (Int × Int) × Tx)} (h : ∀ r ∈ R, okS r.2.2 = true) (M : Sto) : blt1 .sorted M [.list (R.map eRow)] = some (.list ((srt eRow R).map eRow)) :=
  sorted_map (sortOk_map (fun a _ b _ => by
    unfold eRow
    simp only [pd, pdL, PySem.W.alike, PySem.W.alikeAll, Bool.and_self]) (.inl fun a _ => rfl) fun a ha => by rw [dp_row (h a ha)]; decide)
theorem rows_names {w : Wld} (ok : w.Ok 8 9) {p : Tx} {C : List (Tx × List Tx)} : ∀ r ∈ rowsG w p C, r.2.2 ∈ names := fun r hr => by
  obtain ⟨a, ha, rfl⟩ := List.mem_map.mp hr
  exact ok.nm (List.mem_filter.mp (List.mem_filter.mp ha).1).1
end K34

/-! K34j: the law's own copy. -/
namespace K34
open MP CM
theorem take_next {α : Type} {l : List α} {i : Nat} {a : α} (h : l[i]? = some a) : l.take (i + 1) = l.take i ++ [a] := by
  rw [List.take_succ, h]
  rfl
section
variable {n : Nat} {w : Wld}
def frOf (w : Wld) (l : List Ask) : List (L2.Key × D) := l.map fun a => (.inr a.name, .list ((freeW w a.grantee).map D.str))
def dO (w : Wld) : D := .dict (kvW w ++ [(.inr "free", .dict (frOf w w.asks))])
theorem frOf_keys (w : Wld) (l : List Ask) : (frOf w l).map (·.1) = (l.map (·.name)).map Sum.inr := by
  unfold frOf
  rw [List.map_map, List.map_map]
  rfl
theorem below_fr (n : Nat) (w : Wld) : ∀ l, belowK n (frOf w l) = true
  | [] => rfl
  | a :: l => by
    show (below n (.list ((freeW w a.grantee).map D.str)) && belowK n (frOf w l)) = true
    rw [below_fr n w l, below, below_str]
    rfl
theorem hasF_dO (ok : w.Ok 8 9) : HasF (dO w) w := by
  have hb : ∀ n, belowK n [((.inr "free" : L2.Key), D.dict (frOf w w.asks))] = true := fun n => by
    rw [belowK, below, below_fr]
    rfl
  refine ⟨has_app w _ hb, frOf w w.asks, ?_, fun a ha => kvAt_mem ?_ (List.mem_map.mpr ⟨a, ha, rfl⟩)⟩
  · show kvAt (.inr "free") (kvW w ++ [((.inr "free" : L2.Key), D.dict (frOf w w.asks))]) = some (.dict (frOf w w.asks))
    rfl
  · rw [frOf_keys]
    exact List.Pairwise.map _ (fun _ _ z e => z (Sum.inr.inj e)) ok.nd
theorem kvW_nodup (w : Wld) : ((kvW w).map (·.1)).Nodup := by
  have e : (kvW w).map (·.1) = (["parties", "purposes", "gifts", "pledges", "funds", "lists", "members", "kin", "rounds", "asks", "swaps", "ballots", "reports", "spent"] : List Tx).map Sum.inr := rfl
  rw [e]
  exact List.Pairwise.map _ (fun _ _ z e => z (Sum.inr.inj e)) (by decide +kernel : (["parties", "purposes", "gifts", "pledges", "funds", "lists", "members", "kin", "rounds", "asks", "swaps", "ballots", "reports", "spent"] : List Tx).Nodup)
theorem kvW_list (w : Wld) : ∀ kv ∈ kvW w, ∃ xs, kv.2 = .list xs := by
  intro kv h
  unfold kvW at h
  simp only [List.mem_cons, List.not_mem_nil, or_false] at h
  rcases h with h | h | h | h | h | h | h | h | h | h | h | h | h | h <;> (subst h; exact ⟨_, rfl⟩)
theorem kvW_free (w : Wld) : (Sum.inr "free" : L2.Key) ∉ (kvW w).map (·.1) := by
  have e : (kvW w).map (·.1) = (["parties", "purposes", "gifts", "pledges", "funds", "lists", "members", "kin", "rounds", "asks", "swaps", "ballots", "reports", "spent"] : List Tx).map Sum.inr := rfl
  rw [e]
  intro h
  obtain ⟨x, hx, e⟩ := List.mem_map.mp h
  injection e with e
  subst e
  exact absurd hx (by decide +kernel)
theorem not_take {α β : Type} {f : α → β} {l : List α} {i : Nat} {a : α} (nd : (l.map f).Nodup) (h : l[i]? = some a) : f a ∉ (l.take i).map f := by
  have hlt := (List.getElem?_eq_some_iff.mp h).1
  have e : l = l.take i ++ a :: l.drop (i + 1) := by
    have h2 := List.drop_eq_getElem_cons hlt
    rw [List.getElem?_eq_getElem hlt] at h
    cases h
    rw [← h2, List.take_append_drop]
  rw [e, List.map_append, List.map_cons] at nd
  intro z
  exact (List.nodup_append.mp nd).2.2 _ z _ List.mem_cons_self rfl
abbrev body1O : SB := (.cons (.seti (.var 1) (.var 2) (.blt false .list (.cons (.idx (.var 0) (.var 2)) .nil))) .nil)
theorem copy_loop {F : FT} : ∃ x2, forP (turnB F cls (.nm 2) body1O) ((kvW w).map fun kv => keyD kv.1) [some (eW w), some (.loc 0), none, none, none, none] [.dK []] = some (.next, [some (eW w), some (.loc 0), x2, none, none, none], [.dK (kvW w)]) := by
  obtain ⟨env', M', e1, x2, rfl, rfl⟩ := forP_J (f := turnB F cls (.nm 2) body1O) (e := fun kv : L2.Key × D => keyD kv.1) (l := kvW w)
    (J := fun i env M => ∃ x2, env = [some (eW w), some (.loc 0), x2, none, none, none] ∧ M = [.dK ((kvW w).take i)])
    (fun i kv hi env M ⟨x2, he, hM⟩ => by
      subst he hM
      obtain ⟨k, d⟩ := kv
      have hmem := List.mem_of_getElem? hi
      obtain ⟨xs, hx⟩ := kvW_list w _ hmem
      have hx : d = .list xs := hx
      subst hx
      have hk : kvAt k (kvW w) = some (.list xs) := kvAt_mem (kvW_nodup w) hmem
      have hput := put_new (z := .list xs) (not_take (f := fun kv : L2.Key × D => kv.1) (kvW_nodup w) hi)
      refine ⟨.next, _, _, ?_, .inl rfl, some (keyD k), rfl, rfl⟩
      rw [turn_nm]
      simp only [e_var, e_non, e_bl, e_int, e_str, e_bin, e_neg, e_not, e_and, e_or, e_cmp, e_chain, e_isN, e_ife, e_tup, e_lst, e_dct, e_idx, e_slc, e_blt, e_isi, e_fld, e_app, e_ext, e_idxof, e_dget, e_nil, e_cons, x_setv, x_sett, x_setp, x_seti, x_seti2, x_augi, x_setf, x_exp, x_ret, x_ife, x_frz, x_retN, x_pass, x_cont, x_nil, x_cons, getD_list, getD_tup, rd_int, rd_bl, rd_non, rd_str, rd_list, rd_tup, rd_fz, rd_dict, len_list, len_tup, abs_int, min2_int, max2_int, int_int, list_list, list_tup, mk_f, mk_t, truth_bl', truth_int', truth_list', tst_some, line0, line1, line2, line3, line4, line5, line6, line7, line8, asg, optC, optD, optI, isAbs, src_list, src_tup, src_enum, setI, body1, wipeE, List.map_cons, List.map_nil, List.length_cons, List.length_nil, List.replicate, List.cons_append, List.nil_append, List.getElem?_cons_zero, List.getElem?_cons_succ, List.set_cons_zero, List.set_cons_succ, List.zip_cons_cons, List.zip_nil_right, List.foldl_cons, List.foldl_nil, Nat.reduceAdd, Nat.reduceSub, bop_add_int, bop_sub_int, cop_lt_int, cop_gt_int, cop_le_int, cop_ge_int, cop_eq_int, cop_ne_int, atI_c0, atI_c1, atI_c2, atI_c3, if_true, Bool.false_eq_true, if_false, ↓reduceIte, Bool.not_true, Bool.not_false, eW, getD_key, hk, keyOf_keyD, rd_keyD]
      rw [if_pos (by
        rw [List.length_take]
        have : (kvW w).length = 14 := rfl
        unfold LINE
        omega), hput, take_next hi]) [some (eW w), some (.loc 0), none, none, none, none] [.dK []] ⟨none, rfl, rfl⟩
  refine ⟨x2, ?_⟩
  rw [e1, List.take_length]
abbrev body2O : SB := (.cons (.seti (.var 3) (.idx (.var 4) (.int 0)) (.comp false [5] (.nm 5) .seq (.idx (.var 0) (.str "members")) .absent (.isN false (.call .pure f_law_interest (.cons (.var 0) (.cons (.var 5) (.cons (.idx (.var 4) (.int 0)) .nil))))) (.var 5))) .nil)
theorem free_loop (ok : w.Ok 8 9) (x2 : Option D) : ∃ x4, forP (turnB (run fns cls (n + 2)) cls (.nm 4) body2O) (w.asks.map eAsk) [some (eW w), some (.loc 0), x2, some (.loc 1), none, none] [.dK (kvW w), .dK []] = some (.next, [some (eW w), some (.loc 0), x2, some (.loc 1), x4, none], [.dK (kvW w), .dK (frOf w w.asks)]) := by
  have h := has_w w
  obtain ⟨env', M', e1, x4, rfl, rfl⟩ := forP_J (f := turnB (run fns cls (n + 2)) cls (.nm 4) body2O) (e := eAsk) (l := w.asks)
    (J := fun i env M => ∃ x4, env = [some (eW w), some (.loc 0), x2, some (.loc 1), x4, none] ∧ M = [.dK (kvW w), .dK (frOf w (w.asks.take i))])
    (fun i a hi env M ⟨x4, he, hM⟩ => by
      subst he hM
      have ha := List.mem_of_getElem? hi
      have hput := put_new (q := .inr a.name) (z := .list ((freeW w a.grantee).map D.str)) (kvs := frOf w (w.asks.take i)) (by
        rw [frOf_keys]
        intro z
        obtain ⟨x, hx, e⟩ := List.mem_map.mp z
        injection e with e
        subst e
        exact not_take (f := fun a : Ask => a.name) ok.nd hi hx)
      have hc : ∀ M, ev (run fns cls (n + 2)) cls (.comp false [5] (.nm 5) .seq (.idx (.var 0) (.str "members")) .absent (.isN false (.call .pure f_law_interest (.cons (.var 0) (.cons (.var 5) (.cons (.idx (.var 4) (.int 0)) .nil))))) (.var 5)) [some (eW w), some (.loc 0), x2, some (.loc 1), some (eAsk a), none] M = some (.list ((freeW w a.grantee).map D.str), M) := by
        intro M
        rw [comp_flt (e := D.str) (g := D.str) (q := fun m => (inter w m a.grantee).isNone) (l := w.members) (M1 := M) (x := .list (w.members.map D.str)) ?_ rfl (line_of ok.mlen (by decide)) ?_]
        · rfl
        · simp only [e_var, e_non, e_bl, e_int, e_str, e_bin, e_neg, e_not, e_and, e_or, e_cmp, e_chain, e_isN, e_ife, e_tup, e_lst, e_dct, e_idx, e_slc, e_blt, e_isi, e_fld, e_app, e_ext, e_idxof, e_dget, e_nil, e_cons, x_setv, x_sett, x_setp, x_seti, x_seti2, x_augi, x_setf, x_exp, x_ret, x_ife, x_frz, x_retN, x_pass, x_cont, x_nil, x_cons, getD_list, getD_tup, rd_int, rd_bl, rd_non, rd_str, rd_list, rd_tup, rd_fz, rd_dict, len_list, len_tup, abs_int, min2_int, max2_int, int_int, list_list, list_tup, mk_f, mk_t, truth_bl', truth_int', truth_list', tst_some, line0, line1, line2, line3, line4, line5, line6, line7, line8, asg, optC, optD, optI, isAbs, src_list, src_tup, src_enum, setI, body1, wipeE, List.map_cons, List.map_nil, List.length_cons, List.length_nil, List.replicate, List.cons_append, List.nil_append, List.getElem?_cons_zero, List.getElem?_cons_succ, List.set_cons_zero, List.set_cons_succ, List.zip_cons_cons, List.zip_nil_right, List.foldl_cons, List.foldl_nil, Nat.reduceAdd, Nat.reduceSub, bop_add_int, bop_sub_int, cop_lt_int, cop_gt_int, cop_le_int, cop_ge_int, cop_eq_int, cop_ne_int, atI_c0, atI_c1, atI_c2, atI_c3, if_true, Bool.false_eq_true, if_false, ↓reduceIte, Bool.not_true, Bool.not_false, h.rd, h.members]
        · intro m hm
          have := linter_run (n := n) (M := M) (nm := a.name) (m := m) h ok (ask_find ok.nd ha) (ok.mem m hm)
          have hc := isN_eTO (run fns cls (n + 2)) cls (.call .pure f_law_interest (.cons (.var 0) (.cons (.var 5) (.cons (.idx (.var 4) (.int 0)) .nil)))) [some (eW w), some (.loc 0), x2, some (.loc 1), some (eAsk a), some (.str m)] M M (inter w m a.grantee) (by simp only [e_var, e_non, e_bl, e_int, e_str, e_bin, e_neg, e_not, e_and, e_or, e_cmp, e_chain, e_isN, e_ife, e_tup, e_lst, e_dct, e_idx, e_slc, e_blt, e_isi, e_fld, e_app, e_ext, e_idxof, e_dget, e_nil, e_cons, x_setv, x_sett, x_setp, x_seti, x_seti2, x_augi, x_setf, x_exp, x_ret, x_ife, x_frz, x_retN, x_pass, x_cont, x_nil, x_cons, getD_list, getD_tup, rd_int, rd_bl, rd_non, rd_str, rd_list, rd_tup, rd_fz, rd_dict, len_list, len_tup, abs_int, min2_int, max2_int, int_int, list_list, list_tup, mk_f, mk_t, truth_bl', truth_int', truth_list', tst_some, line0, line1, line2, line3, line4, line5, line6, line7, line8, asg, optC, optD, optI, isAbs, src_list, src_tup, src_enum, setI, body1, wipeE, List.map_cons, List.map_nil, List.length_cons, List.length_nil, List.replicate, List.cons_append, List.nil_append, List.getElem?_cons_zero, List.getElem?_cons_succ, List.set_cons_zero, List.set_cons_succ, List.zip_cons_cons, List.zip_nil_right, List.foldl_cons, List.foldl_nil, Nat.reduceAdd, Nat.reduceSub, bop_add_int, bop_sub_int, cop_lt_int, cop_gt_int, cop_le_int, cop_ge_int, cop_eq_int, cop_ne_int, atI_c0, atI_c1, atI_c2, atI_c3, if_true, Bool.false_eq_true, if_false, ↓reduceIte, Bool.not_true, Bool.not_false, e_call, eAsk, this])
          simp only [turnF]
          simp only [e_var, e_non, e_bl, e_int, e_str, e_bin, e_neg, e_not, e_and, e_or, e_cmp, e_chain, e_isN, e_ife, e_tup, e_lst, e_dct, e_idx, e_slc, e_blt, e_isi, e_fld, e_app, e_ext, e_idxof, e_dget, e_nil, e_cons, x_setv, x_sett, x_setp, x_seti, x_seti2, x_augi, x_setf, x_exp, x_ret, x_ife, x_frz, x_retN, x_pass, x_cont, x_nil, x_cons, getD_list, getD_tup, rd_int, rd_bl, rd_non, rd_str, rd_list, rd_tup, rd_fz, rd_dict, len_list, len_tup, abs_int, min2_int, max2_int, int_int, list_list, list_tup, mk_f, mk_t, truth_bl', truth_int', truth_list', tst_some, line0, line1, line2, line3, line4, line5, line6, line7, line8, asg, optC, optD, optI, isAbs, src_list, src_tup, src_enum, setI, body1, wipeE, List.map_cons, List.map_nil, List.length_cons, List.length_nil, List.replicate, List.cons_append, List.nil_append, List.getElem?_cons_zero, List.getElem?_cons_succ, List.set_cons_zero, List.set_cons_succ, List.zip_cons_cons, List.zip_nil_right, List.foldl_cons, List.foldl_nil, Nat.reduceAdd, Nat.reduceSub, bop_add_int, bop_sub_int, cop_lt_int, cop_gt_int, cop_le_int, cop_ge_int, cop_eq_int, cop_ne_int, atI_c0, atI_c1, atI_c2, atI_c3, if_true, Bool.false_eq_true, if_false, ↓reduceIte, Bool.not_true, Bool.not_false, hc]
          cases (inter w m a.grantee).isNone <;> rfl
      refine ⟨.next, _, _, ?_, .inl rfl, some (eAsk a), rfl, rfl⟩
      rw [turn_nm]
      simp only [e_var, e_non, e_bl, e_int, e_str, e_bin, e_neg, e_not, e_and, e_or, e_cmp, e_chain, e_isN, e_ife, e_tup, e_lst, e_dct, e_idx, e_slc, e_blt, e_isi, e_fld, e_app, e_ext, e_idxof, e_dget, e_nil, e_cons, x_setv, x_sett, x_setp, x_seti, x_seti2, x_augi, x_setf, x_exp, x_ret, x_ife, x_frz, x_retN, x_pass, x_cont, x_nil, x_cons, getD_list, getD_tup, rd_int, rd_bl, rd_non, rd_str, rd_list, rd_tup, rd_fz, rd_dict, len_list, len_tup, abs_int, min2_int, max2_int, int_int, list_list, list_tup, mk_f, mk_t, truth_bl', truth_int', truth_list', tst_some, line0, line1, line2, line3, line4, line5, line6, line7, line8, asg, optC, optD, optI, isAbs, src_list, src_tup, src_enum, setI, body1, wipeE, List.map_cons, List.map_nil, List.length_cons, List.length_nil, List.replicate, List.cons_append, List.nil_append, List.getElem?_cons_zero, List.getElem?_cons_succ, List.set_cons_zero, List.set_cons_succ, List.zip_cons_cons, List.zip_nil_right, List.foldl_cons, List.foldl_nil, Nat.reduceAdd, Nat.reduceSub, bop_add_int, bop_sub_int, cop_lt_int, cop_gt_int, cop_le_int, cop_ge_int, cop_eq_int, cop_ne_int, atI_c0, atI_c1, atI_c2, atI_c3, if_true, Bool.false_eq_true, if_false, ↓reduceIte, Bool.not_true, Bool.not_false, hc]
      rw [eAsk]
      simp only [e_var, e_non, e_bl, e_int, e_str, e_bin, e_neg, e_not, e_and, e_or, e_cmp, e_chain, e_isN, e_ife, e_tup, e_lst, e_dct, e_idx, e_slc, e_blt, e_isi, e_fld, e_app, e_ext, e_idxof, e_dget, e_nil, e_cons, x_setv, x_sett, x_setp, x_seti, x_seti2, x_augi, x_setf, x_exp, x_ret, x_ife, x_frz, x_retN, x_pass, x_cont, x_nil, x_cons, getD_list, getD_tup, rd_int, rd_bl, rd_non, rd_str, rd_list, rd_tup, rd_fz, rd_dict, len_list, len_tup, abs_int, min2_int, max2_int, int_int, list_list, list_tup, mk_f, mk_t, truth_bl', truth_int', truth_list', tst_some, line0, line1, line2, line3, line4, line5, line6, line7, line8, asg, optC, optD, optI, isAbs, src_list, src_tup, src_enum, setI, body1, wipeE, List.map_cons, List.map_nil, List.length_cons, List.length_nil, List.replicate, List.cons_append, List.nil_append, List.getElem?_cons_zero, List.getElem?_cons_succ, List.set_cons_zero, List.set_cons_succ, List.zip_cons_cons, List.zip_nil_right, List.foldl_cons, List.foldl_nil, Nat.reduceAdd, Nat.reduceSub, bop_add_int, bop_sub_int, cop_lt_int, cop_gt_int, cop_le_int, cop_ge_int, cop_eq_int, cop_ne_int, atI_c0, atI_c1, atI_c2, atI_c3, if_true, Bool.false_eq_true, if_false, ↓reduceIte, Bool.not_true, Bool.not_false, keyOf]
      rw [if_pos (by
        unfold frOf
        rw [List.length_map, List.length_take]
        have := ok.alen
        unfold LINE
        omega), hput, take_next hi]
      unfold frOf
      rw [List.map_append]
      rfl) [some (eW w), some (.loc 0), x2, some (.loc 1), none, none] [.dK (kvW w), .dK []] ⟨none, rfl, rfl⟩
  refine ⟨x4, ?_⟩
  rw [e1, List.take_length]
theorem own_run (ok : w.Ok 8 9) (N : Sto) : callM (run fns cls (n + 3)) .pure f_law_own [eW w] N = some (dO w, N) := by
  have h := has_w w
  have F := hasF_dO ok
  obtain ⟨x2, e1⟩ := copy_loop (F := run fns cls (n + 2)) (w := w)
  obtain ⟨x4, e2⟩ := free_loop (n := n) ok x2
  have hput := put_new (z := .dict (frOf w w.asks)) (kvW_free w)
  refine pure_of (M2 := [.dead, .dead]) (run_of (f := f_law_own) rfl rfl ?_) (by rw [belowL, h.below]; rfl) (F.has.below 0) (F.has.rd _)
  refine r_set (x := .loc 0) (M1 := [.dK []]) (by rw [e_dct]; simp only [e_var, e_non, e_bl, e_int, e_str, e_bin, e_neg, e_not, e_and, e_or, e_cmp, e_chain, e_isN, e_ife, e_tup, e_lst, e_dct, e_idx, e_slc, e_blt, e_isi, e_fld, e_app, e_ext, e_idxof, e_dget, e_nil, e_cons, x_setv, x_sett, x_setp, x_seti, x_seti2, x_augi, x_setf, x_exp, x_ret, x_ife, x_frz, x_retN, x_pass, x_cont, x_nil, x_cons, getD_list, getD_tup, rd_int, rd_bl, rd_non, rd_str, rd_list, rd_tup, rd_fz, rd_dict, len_list, len_tup, abs_int, min2_int, max2_int, int_int, list_list, list_tup, mk_f, mk_t, truth_bl', truth_int', truth_list', tst_some, line0, line1, line2, line3, line4, line5, line6, line7, line8, asg, optC, optD, optI, isAbs, src_list, src_tup, src_enum, setI, body1, wipeE, List.map_cons, List.map_nil, List.length_cons, List.length_nil, List.replicate, List.cons_append, List.nil_append, List.getElem?_cons_zero, List.getElem?_cons_succ, List.set_cons_zero, List.set_cons_succ, List.zip_cons_cons, List.zip_nil_right, List.foldl_cons, List.foldl_nil, Nat.reduceAdd, Nat.reduceSub, bop_add_int, bop_sub_int, cop_lt_int, cop_gt_int, cop_le_int, cop_ge_int, cop_eq_int, cop_ne_int, atI_c0, atI_c1, atI_c2, atI_c3, if_true, Bool.false_eq_true, if_false, ↓reduceIte, Bool.not_true, Bool.not_false, List.nodup_nil]; try rfl) ?_
  refine r_next (x_forP (x := eW w) (y := .non) (M0 := [.dK []]) (M1 := [.dK []]) (by simp only [e_var, e_non, e_bl, e_int, e_str, e_bin, e_neg, e_not, e_and, e_or, e_cmp, e_chain, e_isN, e_ife, e_tup, e_lst, e_dct, e_idx, e_slc, e_blt, e_isi, e_fld, e_app, e_ext, e_idxof, e_dget, e_nil, e_cons, x_setv, x_sett, x_setp, x_seti, x_seti2, x_augi, x_setf, x_exp, x_ret, x_ife, x_frz, x_retN, x_pass, x_cont, x_nil, x_cons, getD_list, getD_tup, rd_int, rd_bl, rd_non, rd_str, rd_list, rd_tup, rd_fz, rd_dict, len_list, len_tup, abs_int, min2_int, max2_int, int_int, list_list, list_tup, mk_f, mk_t, truth_bl', truth_int', truth_list', tst_some, line0, line1, line2, line3, line4, line5, line6, line7, line8, asg, optC, optD, optI, isAbs, src_list, src_tup, src_enum, setI, body1, wipeE, List.map_cons, List.map_nil, List.length_cons, List.length_nil, List.replicate, List.cons_append, List.nil_append, List.getElem?_cons_zero, List.getElem?_cons_succ, List.set_cons_zero, List.set_cons_succ, List.zip_cons_cons, List.zip_nil_right, List.foldl_cons, List.foldl_nil, Nat.reduceAdd, Nat.reduceSub, bop_add_int, bop_sub_int, cop_lt_int, cop_gt_int, cop_le_int, cop_ge_int, cop_eq_int, cop_ne_int, atI_c0, atI_c1, atI_c2, atI_c3, if_true, Bool.false_eq_true, if_false, ↓reduceIte, Bool.not_true, Bool.not_false]) rfl (src_keys _ _ _) e1) ?_
  refine r_set (x := .loc 1) (M1 := [.dK (kvW w), .dK []]) (by rw [e_dct]; simp only [e_var, e_non, e_bl, e_int, e_str, e_bin, e_neg, e_not, e_and, e_or, e_cmp, e_chain, e_isN, e_ife, e_tup, e_lst, e_dct, e_idx, e_slc, e_blt, e_isi, e_fld, e_app, e_ext, e_idxof, e_dget, e_nil, e_cons, x_setv, x_sett, x_setp, x_seti, x_seti2, x_augi, x_setf, x_exp, x_ret, x_ife, x_frz, x_retN, x_pass, x_cont, x_nil, x_cons, getD_list, getD_tup, rd_int, rd_bl, rd_non, rd_str, rd_list, rd_tup, rd_fz, rd_dict, len_list, len_tup, abs_int, min2_int, max2_int, int_int, list_list, list_tup, mk_f, mk_t, truth_bl', truth_int', truth_list', tst_some, line0, line1, line2, line3, line4, line5, line6, line7, line8, asg, optC, optD, optI, isAbs, src_list, src_tup, src_enum, setI, body1, wipeE, List.map_cons, List.map_nil, List.length_cons, List.length_nil, List.replicate, List.cons_append, List.nil_append, List.getElem?_cons_zero, List.getElem?_cons_succ, List.set_cons_zero, List.set_cons_succ, List.zip_cons_cons, List.zip_nil_right, List.foldl_cons, List.foldl_nil, Nat.reduceAdd, Nat.reduceSub, bop_add_int, bop_sub_int, cop_lt_int, cop_gt_int, cop_le_int, cop_ge_int, cop_eq_int, cop_ne_int, atI_c0, atI_c1, atI_c2, atI_c3, if_true, Bool.false_eq_true, if_false, ↓reduceIte, Bool.not_true, Bool.not_false, List.nodup_nil]; try rfl) ?_
  refine r_next (x_forP (x := .list (w.asks.map eAsk)) (y := .non) (M0 := [.dK (kvW w), .dK []]) (M1 := [.dK (kvW w), .dK []]) (by simp only [e_var, e_non, e_bl, e_int, e_str, e_bin, e_neg, e_not, e_and, e_or, e_cmp, e_chain, e_isN, e_ife, e_tup, e_lst, e_dct, e_idx, e_slc, e_blt, e_isi, e_fld, e_app, e_ext, e_idxof, e_dget, e_nil, e_cons, x_setv, x_sett, x_setp, x_seti, x_seti2, x_augi, x_setf, x_exp, x_ret, x_ife, x_frz, x_retN, x_pass, x_cont, x_nil, x_cons, getD_list, getD_tup, rd_int, rd_bl, rd_non, rd_str, rd_list, rd_tup, rd_fz, rd_dict, len_list, len_tup, abs_int, min2_int, max2_int, int_int, list_list, list_tup, mk_f, mk_t, truth_bl', truth_int', truth_list', tst_some, line0, line1, line2, line3, line4, line5, line6, line7, line8, asg, optC, optD, optI, isAbs, src_list, src_tup, src_enum, setI, body1, wipeE, List.map_cons, List.map_nil, List.length_cons, List.length_nil, List.replicate, List.cons_append, List.nil_append, List.getElem?_cons_zero, List.getElem?_cons_succ, List.set_cons_zero, List.set_cons_succ, List.zip_cons_cons, List.zip_nil_right, List.foldl_cons, List.foldl_nil, Nat.reduceAdd, Nat.reduceSub, bop_add_int, bop_sub_int, cop_lt_int, cop_gt_int, cop_le_int, cop_ge_int, cop_eq_int, cop_ne_int, atI_c0, atI_c1, atI_c2, atI_c3, if_true, Bool.false_eq_true, if_false, ↓reduceIte, Bool.not_true, Bool.not_false, h.rd, h.asks]) rfl rfl e2) ?_
  refine r_next (env1 := [some (eW w), some (.loc 0), x2, some (.dict (frOf w w.asks)), x4, none]) (M1 := [.dK (kvW w), .dead]) (by simp only [e_var, e_non, e_bl, e_int, e_str, e_bin, e_neg, e_not, e_and, e_or, e_cmp, e_chain, e_isN, e_ife, e_tup, e_lst, e_dct, e_idx, e_slc, e_blt, e_isi, e_fld, e_app, e_ext, e_idxof, e_dget, e_nil, e_cons, x_setv, x_sett, x_setp, x_seti, x_seti2, x_augi, x_setf, x_exp, x_ret, x_ife, x_frz, x_retN, x_pass, x_cont, x_nil, x_cons, getD_list, getD_tup, rd_int, rd_bl, rd_non, rd_str, rd_list, rd_tup, rd_fz, rd_dict, len_list, len_tup, abs_int, min2_int, max2_int, int_int, list_list, list_tup, mk_f, mk_t, truth_bl', truth_int', truth_list', tst_some, line0, line1, line2, line3, line4, line5, line6, line7, line8, asg, optC, optD, optI, isAbs, src_list, src_tup, src_enum, setI, body1, wipeE, List.map_cons, List.map_nil, List.length_cons, List.length_nil, List.replicate, List.cons_append, List.nil_append, List.getElem?_cons_zero, List.getElem?_cons_succ, List.set_cons_zero, List.set_cons_succ, List.zip_cons_cons, List.zip_nil_right, List.foldl_cons, List.foldl_nil, Nat.reduceAdd, Nat.reduceSub, bop_add_int, bop_sub_int, cop_lt_int, cop_gt_int, cop_le_int, cop_ge_int, cop_eq_int, cop_ne_int, atI_c0, atI_c1, atI_c2, atI_c3, if_true, Bool.false_eq_true, if_false, ↓reduceIte, Bool.not_true, Bool.not_false]) ?_
  refine r_next (env1 := [some (eW w), some (.loc 0), x2, some (.dict (frOf w w.asks)), x4, none]) (M1 := [.dK (kvW w ++ [(.inr "free", .dict (frOf w w.asks))]), .dead]) ?_ ?_
  · simp only [e_var, e_non, e_bl, e_int, e_str, e_bin, e_neg, e_not, e_and, e_or, e_cmp, e_chain, e_isN, e_ife, e_tup, e_lst, e_dct, e_idx, e_slc, e_blt, e_isi, e_fld, e_app, e_ext, e_idxof, e_dget, e_nil, e_cons, x_setv, x_sett, x_setp, x_seti, x_seti2, x_augi, x_setf, x_exp, x_ret, x_ife, x_frz, x_retN, x_pass, x_cont, x_nil, x_cons, getD_list, getD_tup, rd_int, rd_bl, rd_non, rd_str, rd_list, rd_tup, rd_fz, rd_dict, len_list, len_tup, abs_int, min2_int, max2_int, int_int, list_list, list_tup, mk_f, mk_t, truth_bl', truth_int', truth_list', tst_some, line0, line1, line2, line3, line4, line5, line6, line7, line8, asg, optC, optD, optI, isAbs, src_list, src_tup, src_enum, setI, body1, wipeE, List.map_cons, List.map_nil, List.length_cons, List.length_nil, List.replicate, List.cons_append, List.nil_append, List.getElem?_cons_zero, List.getElem?_cons_succ, List.set_cons_zero, List.set_cons_succ, List.zip_cons_cons, List.zip_nil_right, List.foldl_cons, List.foldl_nil, Nat.reduceAdd, Nat.reduceSub, bop_add_int, bop_sub_int, cop_lt_int, cop_gt_int, cop_le_int, cop_ge_int, cop_eq_int, cop_ne_int, atI_c0, atI_c1, atI_c2, atI_c3, if_true, Bool.false_eq_true, if_false, ↓reduceIte, Bool.not_true, Bool.not_false, keyOf]
    rw [if_pos (by
      have : (kvW w).length = 14 := rfl
      unfold LINE
      omega), hput]
  · refine r_next (env1 := [some (eW w), some (dO w), x2, some (.dict (frOf w w.asks)), x4, none]) (M1 := [.dead, .dead]) (by simp only [e_var, e_non, e_bl, e_int, e_str, e_bin, e_neg, e_not, e_and, e_or, e_cmp, e_chain, e_isN, e_ife, e_tup, e_lst, e_dct, e_idx, e_slc, e_blt, e_isi, e_fld, e_app, e_ext, e_idxof, e_dget, e_nil, e_cons, x_setv, x_sett, x_setp, x_seti, x_seti2, x_augi, x_setf, x_exp, x_ret, x_ife, x_frz, x_retN, x_pass, x_cont, x_nil, x_cons, getD_list, getD_tup, rd_int, rd_bl, rd_non, rd_str, rd_list, rd_tup, rd_fz, rd_dict, len_list, len_tup, abs_int, min2_int, max2_int, int_int, list_list, list_tup, mk_f, mk_t, truth_bl', truth_int', truth_list', tst_some, line0, line1, line2, line3, line4, line5, line6, line7, line8, asg, optC, optD, optI, isAbs, src_list, src_tup, src_enum, setI, body1, wipeE, List.map_cons, List.map_nil, List.length_cons, List.length_nil, List.replicate, List.cons_append, List.nil_append, List.getElem?_cons_zero, List.getElem?_cons_succ, List.set_cons_zero, List.set_cons_succ, List.zip_cons_cons, List.zip_nil_right, List.foldl_cons, List.foldl_nil, Nat.reduceAdd, Nat.reduceSub, bop_add_int, bop_sub_int, cop_lt_int, cop_gt_int, cop_le_int, cop_ge_int, cop_eq_int, cop_ne_int, atI_c0, atI_c1, atI_c2, atI_c3, if_true, Bool.false_eq_true, if_false, ↓reduceIte, Bool.not_true, Bool.not_false]; rfl) (r_ret (by simp only [e_var, e_non, e_bl, e_int, e_str, e_bin, e_neg, e_not, e_and, e_or, e_cmp, e_chain, e_isN, e_ife, e_tup, e_lst, e_dct, e_idx, e_slc, e_blt, e_isi, e_fld, e_app, e_ext, e_idxof, e_dget, e_nil, e_cons, x_setv, x_sett, x_setp, x_seti, x_seti2, x_augi, x_setf, x_exp, x_ret, x_ife, x_frz, x_retN, x_pass, x_cont, x_nil, x_cons, getD_list, getD_tup, rd_int, rd_bl, rd_non, rd_str, rd_list, rd_tup, rd_fz, rd_dict, len_list, len_tup, abs_int, min2_int, max2_int, int_int, list_list, list_tup, mk_f, mk_t, truth_bl', truth_int', truth_list', tst_some, line0, line1, line2, line3, line4, line5, line6, line7, line8, asg, optC, optD, optI, isAbs, src_list, src_tup, src_enum, setI, body1, wipeE, List.map_cons, List.map_nil, List.length_cons, List.length_nil, List.replicate, List.cons_append, List.nil_append, List.getElem?_cons_zero, List.getElem?_cons_succ, List.set_cons_zero, List.set_cons_succ, List.zip_cons_cons, List.zip_nil_right, List.foldl_cons, List.foldl_nil, Nat.reduceAdd, Nat.reduceSub, bop_add_int, bop_sub_int, cop_lt_int, cop_gt_int, cop_le_int, cop_ge_int, cop_eq_int, cop_ne_int, atI_c0, atI_c1, atI_c2, atI_c3, if_true, Bool.false_eq_true, if_false, ↓reduceIte, Bool.not_true, Bool.not_false]))
end
end K34

/-! K34k: who is missing; completions drawn. -/
namespace K34
open MP CM
def votedW (w : Wld) (p : Tx) : List Tx := (w.ballots.filter fun b => decide (b.purpose = p)).map (·.member)
def missW (w : Wld) (p : Tx) : List Tx := match w.rounds.find? fun r => decide (r.purpose = p) with
  | none => []
  | some r => if r.shut = 1 then [] else w.members.filter fun m => !decide (m ∈ votedW w p)
theorem miss_sub (w : Wld) (p : Tx) : ∀ x ∈ missW w p, x ∈ w.members := fun x hx => by
  unfold missW at hx
  split at hx
  · cases hx
  · split at hx
    · cases hx
    · exact (List.mem_filter.mp hx).1
theorem miss_len (w : Wld) (p : Tx) : (missW w p).length ≤ w.members.length := by
  unfold missW
  split
  · exact Nat.zero_le _
  · split
    · exact Nat.zero_le _
    · exact List.length_filter_le _ _
section
variable {n : Nat} {d : D} {w : Wld}
theorem lmissing_run {p : Tx} (h : Has d w) (ok : w.Ok 8 9) (M : Sto) : callM (run fns cls (n + 2)) .pure f_law_missing [d, .str p] M = some (.list ((missW w p).map D.str), M) := by
  have hr := lround_run (n := n) (M := []) (p := p) h ok
  refine pure_of (M2 := []) (run_of (f := f_law_missing) rfl rfl (r_set (x := eRO (w.rounds.find? fun r => decide (r.purpose = p))) (M1 := []) (by simp only [e_var, e_non, e_bl, e_int, e_str, e_bin, e_neg, e_not, e_and, e_or, e_cmp, e_chain, e_isN, e_ife, e_tup, e_lst, e_dct, e_idx, e_slc, e_blt, e_isi, e_fld, e_app, e_ext, e_idxof, e_dget, e_nil, e_cons, x_setv, x_sett, x_setp, x_seti, x_seti2, x_augi, x_setf, x_exp, x_ret, x_ife, x_frz, x_retN, x_pass, x_cont, x_nil, x_cons, getD_list, getD_tup, rd_int, rd_bl, rd_non, rd_str, rd_list, rd_tup, rd_fz, rd_dict, len_list, len_tup, abs_int, min2_int, max2_int, int_int, list_list, list_tup, mk_f, mk_t, truth_bl', truth_int', truth_list', tst_some, line0, line1, line2, line3, line4, line5, line6, line7, line8, asg, optC, optD, optI, isAbs, src_list, src_tup, src_enum, setI, body1, wipeE, List.map_cons, List.map_nil, List.length_cons, List.length_nil, List.replicate, List.cons_append, List.nil_append, List.getElem?_cons_zero, List.getElem?_cons_succ, List.set_cons_zero, List.set_cons_succ, List.zip_cons_cons, List.zip_nil_right, List.foldl_cons, List.foldl_nil, Nat.reduceAdd, Nat.reduceSub, bop_add_int, bop_sub_int, cop_lt_int, cop_gt_int, cop_le_int, cop_ge_int, cop_eq_int, cop_ne_int, atI_c0, atI_c1, atI_c2, atI_c3, if_true, Bool.false_eq_true, if_false, ↓reduceIte, Bool.not_true, Bool.not_false, e_call, hr]) (r_set (x := .list ((votedW w p).map D.str)) (M1 := []) ?_ (r_ret ?_)))) (by rw [belowL, h.below]; rfl) (below_str 0 _) rfl
  · rw [comp_flt (e := eBal) (g := fun b => .str b.member) (q := fun b => decide (b.purpose = p)) (l := w.ballots) (M1 := []) (x := .list (w.ballots.map eBal)) ?_ rfl (line_of ok.blen (by decide)) ?_]
    · unfold votedW
      rw [List.map_map]
      rfl
    · simp only [e_var, e_non, e_bl, e_int, e_str, e_bin, e_neg, e_not, e_and, e_or, e_cmp, e_chain, e_isN, e_ife, e_tup, e_lst, e_dct, e_idx, e_slc, e_blt, e_isi, e_fld, e_app, e_ext, e_idxof, e_dget, e_nil, e_cons, x_setv, x_sett, x_setp, x_seti, x_seti2, x_augi, x_setf, x_exp, x_ret, x_ife, x_frz, x_retN, x_pass, x_cont, x_nil, x_cons, getD_list, getD_tup, rd_int, rd_bl, rd_non, rd_str, rd_list, rd_tup, rd_fz, rd_dict, len_list, len_tup, abs_int, min2_int, max2_int, int_int, list_list, list_tup, mk_f, mk_t, truth_bl', truth_int', truth_list', tst_some, line0, line1, line2, line3, line4, line5, line6, line7, line8, asg, optC, optD, optI, isAbs, src_list, src_tup, src_enum, setI, body1, wipeE, List.map_cons, List.map_nil, List.length_cons, List.length_nil, List.replicate, List.cons_append, List.nil_append, List.getElem?_cons_zero, List.getElem?_cons_succ, List.set_cons_zero, List.set_cons_succ, List.zip_cons_cons, List.zip_nil_right, List.foldl_cons, List.foldl_nil, Nat.reduceAdd, Nat.reduceSub, bop_add_int, bop_sub_int, cop_lt_int, cop_gt_int, cop_le_int, cop_ge_int, cop_eq_int, cop_ne_int, atI_c0, atI_c1, atI_c2, atI_c3, if_true, Bool.false_eq_true, if_false, ↓reduceIte, Bool.not_true, Bool.not_false, h.rd, h.ballots]
    · intro b _
      simp only [turnF, eBal]
      simp only [e_var, e_non, e_bl, e_int, e_str, e_bin, e_neg, e_not, e_and, e_or, e_cmp, e_chain, e_isN, e_ife, e_tup, e_lst, e_dct, e_idx, e_slc, e_blt, e_isi, e_fld, e_app, e_ext, e_idxof, e_dget, e_nil, e_cons, x_setv, x_sett, x_setp, x_seti, x_seti2, x_augi, x_setf, x_exp, x_ret, x_ife, x_frz, x_retN, x_pass, x_cont, x_nil, x_cons, getD_list, getD_tup, rd_int, rd_bl, rd_non, rd_str, rd_list, rd_tup, rd_fz, rd_dict, len_list, len_tup, abs_int, min2_int, max2_int, int_int, list_list, list_tup, mk_f, mk_t, truth_bl', truth_int', truth_list', tst_some, line0, line1, line2, line3, line4, line5, line6, line7, line8, asg, optC, optD, optI, isAbs, src_list, src_tup, src_enum, setI, body1, wipeE, List.map_cons, List.map_nil, List.length_cons, List.length_nil, List.replicate, List.cons_append, List.nil_append, List.getElem?_cons_zero, List.getElem?_cons_succ, List.set_cons_zero, List.set_cons_succ, List.zip_cons_cons, List.zip_nil_right, List.foldl_cons, List.foldl_nil, Nat.reduceAdd, Nat.reduceSub, bop_add_int, bop_sub_int, cop_lt_int, cop_gt_int, cop_le_int, cop_ge_int, cop_eq_int, cop_ne_int, atI_c0, atI_c1, atI_c2, atI_c3, if_true, Bool.false_eq_true, if_false, ↓reduceIte, Bool.not_true, Bool.not_false, cop_eq_str]
      cases decide (b.purpose = p) <;> rfl
  · have hc : ev (run fns cls (n + 1)) cls (.comp false [5] (.nm 5) .seq (.idx (.var 0) (.str "members")) .absent (.cmp .nin (.var 5) (.var 3)) (.var 5)) [some d, some (.str p), some (eRO (w.rounds.find? fun r => decide (r.purpose = p))), some (.list ((votedW w p).map D.str)), none, none] [] = some (.list ((w.members.filter fun m => !decide (m ∈ votedW w p)).map D.str), []) := by
      rw [comp_flt (e := D.str) (g := D.str) (q := fun m => !decide (m ∈ votedW w p)) (l := w.members) (M1 := []) (x := .list (w.members.map D.str)) ?_ rfl (line_of ok.mlen (by decide)) ?_]
      · simp only [e_var, e_non, e_bl, e_int, e_str, e_bin, e_neg, e_not, e_and, e_or, e_cmp, e_chain, e_isN, e_ife, e_tup, e_lst, e_dct, e_idx, e_slc, e_blt, e_isi, e_fld, e_app, e_ext, e_idxof, e_dget, e_nil, e_cons, x_setv, x_sett, x_setp, x_seti, x_seti2, x_augi, x_setf, x_exp, x_ret, x_ife, x_frz, x_retN, x_pass, x_cont, x_nil, x_cons, getD_list, getD_tup, rd_int, rd_bl, rd_non, rd_str, rd_list, rd_tup, rd_fz, rd_dict, len_list, len_tup, abs_int, min2_int, max2_int, int_int, list_list, list_tup, mk_f, mk_t, truth_bl', truth_int', truth_list', tst_some, line0, line1, line2, line3, line4, line5, line6, line7, line8, asg, optC, optD, optI, isAbs, src_list, src_tup, src_enum, setI, body1, wipeE, List.map_cons, List.map_nil, List.length_cons, List.length_nil, List.replicate, List.cons_append, List.nil_append, List.getElem?_cons_zero, List.getElem?_cons_succ, List.set_cons_zero, List.set_cons_succ, List.zip_cons_cons, List.zip_nil_right, List.foldl_cons, List.foldl_nil, Nat.reduceAdd, Nat.reduceSub, bop_add_int, bop_sub_int, cop_lt_int, cop_gt_int, cop_le_int, cop_ge_int, cop_eq_int, cop_ne_int, atI_c0, atI_c1, atI_c2, atI_c3, if_true, Bool.false_eq_true, if_false, ↓reduceIte, Bool.not_true, Bool.not_false, h.rd, h.members]
      · intro m hm
        have hn : cop .nin (.str m) (.list ((votedW w p).map D.str)) = some (!decide (m ∈ votedW w p)) := by
          rw [cop_nin_list, memD_strs (pool_ok m (ok.mem m hm)) fun y hy => ?_]
          · rfl
          · obtain ⟨b, hb, rfl⟩ := List.mem_map.mp hy
            exact pool_ok _ (ok.bal b (List.mem_filter.mp hb).1).2.1
        simp only [turnF]
        simp only [e_var, e_non, e_bl, e_int, e_str, e_bin, e_neg, e_not, e_and, e_or, e_cmp, e_chain, e_isN, e_ife, e_tup, e_lst, e_dct, e_idx, e_slc, e_blt, e_isi, e_fld, e_app, e_ext, e_idxof, e_dget, e_nil, e_cons, x_setv, x_sett, x_setp, x_seti, x_seti2, x_augi, x_setf, x_exp, x_ret, x_ife, x_frz, x_retN, x_pass, x_cont, x_nil, x_cons, getD_list, getD_tup, rd_int, rd_bl, rd_non, rd_str, rd_list, rd_tup, rd_fz, rd_dict, len_list, len_tup, abs_int, min2_int, max2_int, int_int, list_list, list_tup, mk_f, mk_t, truth_bl', truth_int', truth_list', tst_some, line0, line1, line2, line3, line4, line5, line6, line7, line8, asg, optC, optD, optI, isAbs, src_list, src_tup, src_enum, setI, body1, wipeE, List.map_cons, List.map_nil, List.length_cons, List.length_nil, List.replicate, List.cons_append, List.nil_append, List.getElem?_cons_zero, List.getElem?_cons_succ, List.set_cons_zero, List.set_cons_succ, List.zip_cons_cons, List.zip_nil_right, List.foldl_cons, List.foldl_nil, Nat.reduceAdd, Nat.reduceSub, bop_add_int, bop_sub_int, cop_lt_int, cop_gt_int, cop_le_int, cop_ge_int, cop_eq_int, cop_ne_int, atI_c0, atI_c1, atI_c2, atI_c3, if_true, Bool.false_eq_true, if_false, ↓reduceIte, Bool.not_true, Bool.not_false, hn]
        cases decide (m ∈ votedW w p) <;> rfl
    unfold missW
    cases hR : w.rounds.find? (fun r => decide (r.purpose = p)) with
    | none =>
      rw [hR] at hc
      simp only [eRO] at hc ⊢
      simp only [e_var, e_non, e_bl, e_int, e_str, e_bin, e_neg, e_not, e_and, e_or, e_cmp, e_chain, e_isN, e_ife, e_tup, e_lst, e_dct, e_idx, e_slc, e_blt, e_isi, e_fld, e_app, e_ext, e_idxof, e_dget, e_nil, e_cons, x_setv, x_sett, x_setp, x_seti, x_seti2, x_augi, x_setf, x_exp, x_ret, x_ife, x_frz, x_retN, x_pass, x_cont, x_nil, x_cons, getD_list, getD_tup, rd_int, rd_bl, rd_non, rd_str, rd_list, rd_tup, rd_fz, rd_dict, len_list, len_tup, abs_int, min2_int, max2_int, int_int, list_list, list_tup, mk_f, mk_t, truth_bl', truth_int', truth_list', tst_some, line0, line1, line2, line3, line4, line5, line6, line7, line8, asg, optC, optD, optI, isAbs, src_list, src_tup, src_enum, setI, body1, wipeE, List.map_cons, List.map_nil, List.length_cons, List.length_nil, List.replicate, List.cons_append, List.nil_append, List.getElem?_cons_zero, List.getElem?_cons_succ, List.set_cons_zero, List.set_cons_succ, List.zip_cons_cons, List.zip_nil_right, List.foldl_cons, List.foldl_nil, Nat.reduceAdd, Nat.reduceSub, bop_add_int, bop_sub_int, cop_lt_int, cop_gt_int, cop_le_int, cop_ge_int, cop_eq_int, cop_ne_int, atI_c0, atI_c1, atI_c2, atI_c3, if_true, Bool.false_eq_true, if_false, ↓reduceIte, Bool.not_true, Bool.not_false, e_isN]
      try rfl
    | some r =>
      rw [hR] at hc
      simp only [eRO] at hc ⊢
      by_cases h1 : r.shut = 1
      · rw [if_pos h1]
        simp only [e_var, e_non, e_bl, e_int, e_str, e_bin, e_neg, e_not, e_and, e_or, e_cmp, e_chain, e_isN, e_ife, e_tup, e_lst, e_dct, e_idx, e_slc, e_blt, e_isi, e_fld, e_app, e_ext, e_idxof, e_dget, e_nil, e_cons, x_setv, x_sett, x_setp, x_seti, x_seti2, x_augi, x_setf, x_exp, x_ret, x_ife, x_frz, x_retN, x_pass, x_cont, x_nil, x_cons, getD_list, getD_tup, rd_int, rd_bl, rd_non, rd_str, rd_list, rd_tup, rd_fz, rd_dict, len_list, len_tup, abs_int, min2_int, max2_int, int_int, list_list, list_tup, mk_f, mk_t, truth_bl', truth_int', truth_list', tst_some, line0, line1, line2, line3, line4, line5, line6, line7, line8, asg, optC, optD, optI, isAbs, src_list, src_tup, src_enum, setI, body1, wipeE, List.map_cons, List.map_nil, List.length_cons, List.length_nil, List.replicate, List.cons_append, List.nil_append, List.getElem?_cons_zero, List.getElem?_cons_succ, List.set_cons_zero, List.set_cons_succ, List.zip_cons_cons, List.zip_nil_right, List.foldl_cons, List.foldl_nil, Nat.reduceAdd, Nat.reduceSub, bop_add_int, bop_sub_int, cop_lt_int, cop_gt_int, cop_le_int, cop_ge_int, cop_eq_int, cop_ne_int, atI_c0, atI_c1, atI_c2, atI_c3, if_true, Bool.false_eq_true, if_false, ↓reduceIte, Bool.not_true, Bool.not_false, e_isN, eRnd, show ∀ x y z u v : D, L2.atI [x, y, z, u, v] 4 = some v from fun _ _ _ _ _ => rfl, decide_eq_true h1]
        try rfl
      · rw [if_neg h1]
        simp only [e_var, e_non, e_bl, e_int, e_str, e_bin, e_neg, e_not, e_and, e_or, e_cmp, e_chain, e_isN, e_ife, e_tup, e_lst, e_dct, e_idx, e_slc, e_blt, e_isi, e_fld, e_app, e_ext, e_idxof, e_dget, e_nil, e_cons, x_setv, x_sett, x_setp, x_seti, x_seti2, x_augi, x_setf, x_exp, x_ret, x_ife, x_frz, x_retN, x_pass, x_cont, x_nil, x_cons, getD_list, getD_tup, rd_int, rd_bl, rd_non, rd_str, rd_list, rd_tup, rd_fz, rd_dict, len_list, len_tup, abs_int, min2_int, max2_int, int_int, list_list, list_tup, mk_f, mk_t, truth_bl', truth_int', truth_list', tst_some, line0, line1, line2, line3, line4, line5, line6, line7, line8, asg, optC, optD, optI, isAbs, src_list, src_tup, src_enum, setI, body1, wipeE, List.map_cons, List.map_nil, List.length_cons, List.length_nil, List.replicate, List.cons_append, List.nil_append, List.getElem?_cons_zero, List.getElem?_cons_succ, List.set_cons_zero, List.set_cons_succ, List.zip_cons_cons, List.zip_nil_right, List.foldl_cons, List.foldl_nil, Nat.reduceAdd, Nat.reduceSub, bop_add_int, bop_sub_int, cop_lt_int, cop_gt_int, cop_le_int, cop_ge_int, cop_eq_int, cop_ne_int, atI_c0, atI_c1, atI_c2, atI_c3, if_true, Bool.false_eq_true, if_false, ↓reduceIte, Bool.not_true, Bool.not_false, e_isN, eRnd, show ∀ x y z u v : D, L2.atI [x, y, z, u, v] 4 = some v from fun _ _ _ _ _ => rfl, decide_eq_false h1]
        exact hc
end
end K34

/-! K34g: who is missing (the program's own); what an ask needs. -/
namespace K34
open MP CM
section
variable {n : Nat} {M : Sto} {d : D} {w : Wld}
theorem missing_hrun {p : Tx} (h : Has d w) (ok : w.Ok 8 9) : run fns cls (n + 2) f_missing [d, .str p] [] = some (.loc 0, [.list ((missW w p).map D.str)]) := by
  have hr := round_run (n := n) (M := []) (p := p) h ok
  unfold missW
  cases hR : w.rounds.find? (fun r => decide (r.purpose = p)) with
  | none =>
    rw [hR] at hr
    exact run_of (f := f_missing) rfl rfl (r_set (x := .non) (M1 := []) (by simp only [e_var, e_non, e_bl, e_int, e_str, e_bin, e_neg, e_not, e_and, e_or, e_cmp, e_chain, e_isN, e_ife, e_tup, e_lst, e_dct, e_idx, e_slc, e_blt, e_isi, e_fld, e_app, e_ext, e_idxof, e_dget, e_nil, e_cons, x_setv, x_sett, x_setp, x_seti, x_seti2, x_augi, x_setf, x_exp, x_ret, x_ife, x_frz, x_retN, x_pass, x_cont, x_nil, x_cons, getD_list, getD_tup, rd_int, rd_bl, rd_non, rd_str, rd_list, rd_tup, rd_fz, rd_dict, len_list, len_tup, abs_int, min2_int, max2_int, int_int, list_list, list_tup, mk_f, mk_t, truth_bl', truth_int', truth_list', tst_some, line0, line1, line2, line3, line4, line5, line6, line7, line8, asg, optC, optD, optI, isAbs, src_list, src_tup, src_enum, setI, body1, wipeE, List.map_cons, List.map_nil, List.length_cons, List.length_nil, List.replicate, List.cons_append, List.nil_append, List.getElem?_cons_zero, List.getElem?_cons_succ, List.set_cons_zero, List.set_cons_succ, List.zip_cons_cons, List.zip_nil_right, List.foldl_cons, List.foldl_nil, Nat.reduceAdd, Nat.reduceSub, bop_add_int, bop_sub_int, cop_lt_int, cop_gt_int, cop_le_int, cop_ge_int, cop_eq_int, cop_ne_int, atI_c0, atI_c1, atI_c2, atI_c3, if_true, Bool.false_eq_true, if_false, ↓reduceIte, Bool.not_true, Bool.not_false, e_call, hr]; try rfl) (r_yes (M1 := []) (by simp only [e_var, e_non, e_bl, e_int, e_str, e_bin, e_neg, e_not, e_and, e_or, e_cmp, e_chain, e_isN, e_ife, e_tup, e_lst, e_dct, e_idx, e_slc, e_blt, e_isi, e_fld, e_app, e_ext, e_idxof, e_dget, e_nil, e_cons, x_setv, x_sett, x_setp, x_seti, x_seti2, x_augi, x_setf, x_exp, x_ret, x_ife, x_frz, x_retN, x_pass, x_cont, x_nil, x_cons, getD_list, getD_tup, rd_int, rd_bl, rd_non, rd_str, rd_list, rd_tup, rd_fz, rd_dict, len_list, len_tup, abs_int, min2_int, max2_int, int_int, list_list, list_tup, mk_f, mk_t, truth_bl', truth_int', truth_list', tst_some, line0, line1, line2, line3, line4, line5, line6, line7, line8, asg, optC, optD, optI, isAbs, src_list, src_tup, src_enum, setI, body1, wipeE, List.map_cons, List.map_nil, List.length_cons, List.length_nil, List.replicate, List.cons_append, List.nil_append, List.getElem?_cons_zero, List.getElem?_cons_succ, List.set_cons_zero, List.set_cons_succ, List.zip_cons_cons, List.zip_nil_right, List.foldl_cons, List.foldl_nil, Nat.reduceAdd, Nat.reduceSub, bop_add_int, bop_sub_int, cop_lt_int, cop_gt_int, cop_le_int, cop_ge_int, cop_eq_int, cop_ne_int, atI_c0, atI_c1, atI_c2, atI_c3, if_true, Bool.false_eq_true, if_false, ↓reduceIte, Bool.not_true, Bool.not_false, e_isN]) (r_ret (by simp only [e_var, e_non, e_bl, e_int, e_str, e_bin, e_neg, e_not, e_and, e_or, e_cmp, e_chain, e_isN, e_ife, e_tup, e_lst, e_dct, e_idx, e_slc, e_blt, e_isi, e_fld, e_app, e_ext, e_idxof, e_dget, e_nil, e_cons, x_setv, x_sett, x_setp, x_seti, x_seti2, x_augi, x_setf, x_exp, x_ret, x_ife, x_frz, x_retN, x_pass, x_cont, x_nil, x_cons, getD_list, getD_tup, rd_int, rd_bl, rd_non, rd_str, rd_list, rd_tup, rd_fz, rd_dict, len_list, len_tup, abs_int, min2_int, max2_int, int_int, list_list, list_tup, mk_f, mk_t, truth_bl', truth_int', truth_list', tst_some, line0, line1, line2, line3, line4, line5, line6, line7, line8, asg, optC, optD, optI, isAbs, src_list, src_tup, src_enum, setI, body1, wipeE, List.map_cons, List.map_nil, List.length_cons, List.length_nil, List.replicate, List.cons_append, List.nil_append, List.getElem?_cons_zero, List.getElem?_cons_succ, List.set_cons_zero, List.set_cons_succ, List.zip_cons_cons, List.zip_nil_right, List.foldl_cons, List.foldl_nil, Nat.reduceAdd, Nat.reduceSub, bop_add_int, bop_sub_int, cop_lt_int, cop_gt_int, cop_le_int, cop_ge_int, cop_eq_int, cop_ne_int, atI_c0, atI_c1, atI_c2, atI_c3, if_true, Bool.false_eq_true, if_false, ↓reduceIte, Bool.not_true, Bool.not_false]; try rfl))))
  | some r =>
    rw [hR] at hr
    have at4 : ∀ x y z u v : D, L2.atI [x, y, z, u, v] 4 = some v := fun _ _ _ _ _ => rfl
    by_cases h1 : r.shut = 1
    · simp only
      rw [if_pos h1]
      exact run_of (f := f_missing) rfl rfl (r_set (x := eRnd r) (M1 := []) (by simp only [e_var, e_non, e_bl, e_int, e_str, e_bin, e_neg, e_not, e_and, e_or, e_cmp, e_chain, e_isN, e_ife, e_tup, e_lst, e_dct, e_idx, e_slc, e_blt, e_isi, e_fld, e_app, e_ext, e_idxof, e_dget, e_nil, e_cons, x_setv, x_sett, x_setp, x_seti, x_seti2, x_augi, x_setf, x_exp, x_ret, x_ife, x_frz, x_retN, x_pass, x_cont, x_nil, x_cons, getD_list, getD_tup, rd_int, rd_bl, rd_non, rd_str, rd_list, rd_tup, rd_fz, rd_dict, len_list, len_tup, abs_int, min2_int, max2_int, int_int, list_list, list_tup, mk_f, mk_t, truth_bl', truth_int', truth_list', tst_some, line0, line1, line2, line3, line4, line5, line6, line7, line8, asg, optC, optD, optI, isAbs, src_list, src_tup, src_enum, setI, body1, wipeE, List.map_cons, List.map_nil, List.length_cons, List.length_nil, List.replicate, List.cons_append, List.nil_append, List.getElem?_cons_zero, List.getElem?_cons_succ, List.set_cons_zero, List.set_cons_succ, List.zip_cons_cons, List.zip_nil_right, List.foldl_cons, List.foldl_nil, Nat.reduceAdd, Nat.reduceSub, bop_add_int, bop_sub_int, cop_lt_int, cop_gt_int, cop_le_int, cop_ge_int, cop_eq_int, cop_ne_int, atI_c0, atI_c1, atI_c2, atI_c3, if_true, Bool.false_eq_true, if_false, ↓reduceIte, Bool.not_true, Bool.not_false, e_call, hr]; try rfl) (r_yes (M1 := []) (by simp only [e_var, e_non, e_bl, e_int, e_str, e_bin, e_neg, e_not, e_and, e_or, e_cmp, e_chain, e_isN, e_ife, e_tup, e_lst, e_dct, e_idx, e_slc, e_blt, e_isi, e_fld, e_app, e_ext, e_idxof, e_dget, e_nil, e_cons, x_setv, x_sett, x_setp, x_seti, x_seti2, x_augi, x_setf, x_exp, x_ret, x_ife, x_frz, x_retN, x_pass, x_cont, x_nil, x_cons, getD_list, getD_tup, rd_int, rd_bl, rd_non, rd_str, rd_list, rd_tup, rd_fz, rd_dict, len_list, len_tup, abs_int, min2_int, max2_int, int_int, list_list, list_tup, mk_f, mk_t, truth_bl', truth_int', truth_list', tst_some, line0, line1, line2, line3, line4, line5, line6, line7, line8, asg, optC, optD, optI, isAbs, src_list, src_tup, src_enum, setI, body1, wipeE, List.map_cons, List.map_nil, List.length_cons, List.length_nil, List.replicate, List.cons_append, List.nil_append, List.getElem?_cons_zero, List.getElem?_cons_succ, List.set_cons_zero, List.set_cons_succ, List.zip_cons_cons, List.zip_nil_right, List.foldl_cons, List.foldl_nil, Nat.reduceAdd, Nat.reduceSub, bop_add_int, bop_sub_int, cop_lt_int, cop_gt_int, cop_le_int, cop_ge_int, cop_eq_int, cop_ne_int, atI_c0, atI_c1, atI_c2, atI_c3, if_true, Bool.false_eq_true, if_false, ↓reduceIte, Bool.not_true, Bool.not_false, e_isN, eRnd, at4, decide_eq_true h1]) (r_ret (by simp only [e_var, e_non, e_bl, e_int, e_str, e_bin, e_neg, e_not, e_and, e_or, e_cmp, e_chain, e_isN, e_ife, e_tup, e_lst, e_dct, e_idx, e_slc, e_blt, e_isi, e_fld, e_app, e_ext, e_idxof, e_dget, e_nil, e_cons, x_setv, x_sett, x_setp, x_seti, x_seti2, x_augi, x_setf, x_exp, x_ret, x_ife, x_frz, x_retN, x_pass, x_cont, x_nil, x_cons, getD_list, getD_tup, rd_int, rd_bl, rd_non, rd_str, rd_list, rd_tup, rd_fz, rd_dict, len_list, len_tup, abs_int, min2_int, max2_int, int_int, list_list, list_tup, mk_f, mk_t, truth_bl', truth_int', truth_list', tst_some, line0, line1, line2, line3, line4, line5, line6, line7, line8, asg, optC, optD, optI, isAbs, src_list, src_tup, src_enum, setI, body1, wipeE, List.map_cons, List.map_nil, List.length_cons, List.length_nil, List.replicate, List.cons_append, List.nil_append, List.getElem?_cons_zero, List.getElem?_cons_succ, List.set_cons_zero, List.set_cons_succ, List.zip_cons_cons, List.zip_nil_right, List.foldl_cons, List.foldl_nil, Nat.reduceAdd, Nat.reduceSub, bop_add_int, bop_sub_int, cop_lt_int, cop_gt_int, cop_le_int, cop_ge_int, cop_eq_int, cop_ne_int, atI_c0, atI_c1, atI_c2, atI_c3, if_true, Bool.false_eq_true, if_false, ↓reduceIte, Bool.not_true, Bool.not_false]; try rfl))))
    · simp only
      rw [if_neg h1]
      refine run_of (f := f_missing) rfl rfl (r_set (x := eRnd r) (M1 := []) (by simp only [e_var, e_non, e_bl, e_int, e_str, e_bin, e_neg, e_not, e_and, e_or, e_cmp, e_chain, e_isN, e_ife, e_tup, e_lst, e_dct, e_idx, e_slc, e_blt, e_isi, e_fld, e_app, e_ext, e_idxof, e_dget, e_nil, e_cons, x_setv, x_sett, x_setp, x_seti, x_seti2, x_augi, x_setf, x_exp, x_ret, x_ife, x_frz, x_retN, x_pass, x_cont, x_nil, x_cons, getD_list, getD_tup, rd_int, rd_bl, rd_non, rd_str, rd_list, rd_tup, rd_fz, rd_dict, len_list, len_tup, abs_int, min2_int, max2_int, int_int, list_list, list_tup, mk_f, mk_t, truth_bl', truth_int', truth_list', tst_some, line0, line1, line2, line3, line4, line5, line6, line7, line8, asg, optC, optD, optI, isAbs, src_list, src_tup, src_enum, setI, body1, wipeE, List.map_cons, List.map_nil, List.length_cons, List.length_nil, List.replicate, List.cons_append, List.nil_append, List.getElem?_cons_zero, List.getElem?_cons_succ, List.set_cons_zero, List.set_cons_succ, List.zip_cons_cons, List.zip_nil_right, List.foldl_cons, List.foldl_nil, Nat.reduceAdd, Nat.reduceSub, bop_add_int, bop_sub_int, cop_lt_int, cop_gt_int, cop_le_int, cop_ge_int, cop_eq_int, cop_ne_int, atI_c0, atI_c1, atI_c2, atI_c3, if_true, Bool.false_eq_true, if_false, ↓reduceIte, Bool.not_true, Bool.not_false, e_call, hr]; try rfl) (r_no (M1 := []) (by simp only [e_var, e_non, e_bl, e_int, e_str, e_bin, e_neg, e_not, e_and, e_or, e_cmp, e_chain, e_isN, e_ife, e_tup, e_lst, e_dct, e_idx, e_slc, e_blt, e_isi, e_fld, e_app, e_ext, e_idxof, e_dget, e_nil, e_cons, x_setv, x_sett, x_setp, x_seti, x_seti2, x_augi, x_setf, x_exp, x_ret, x_ife, x_frz, x_retN, x_pass, x_cont, x_nil, x_cons, getD_list, getD_tup, rd_int, rd_bl, rd_non, rd_str, rd_list, rd_tup, rd_fz, rd_dict, len_list, len_tup, abs_int, min2_int, max2_int, int_int, list_list, list_tup, mk_f, mk_t, truth_bl', truth_int', truth_list', tst_some, line0, line1, line2, line3, line4, line5, line6, line7, line8, asg, optC, optD, optI, isAbs, src_list, src_tup, src_enum, setI, body1, wipeE, List.map_cons, List.map_nil, List.length_cons, List.length_nil, List.replicate, List.cons_append, List.nil_append, List.getElem?_cons_zero, List.getElem?_cons_succ, List.set_cons_zero, List.set_cons_succ, List.zip_cons_cons, List.zip_nil_right, List.foldl_cons, List.foldl_nil, Nat.reduceAdd, Nat.reduceSub, bop_add_int, bop_sub_int, cop_lt_int, cop_gt_int, cop_le_int, cop_ge_int, cop_eq_int, cop_ne_int, atI_c0, atI_c1, atI_c2, atI_c3, if_true, Bool.false_eq_true, if_false, ↓reduceIte, Bool.not_true, Bool.not_false, e_isN, eRnd, at4, decide_eq_false h1]) (r_set (x := .list ((votedW w p).map D.str)) (M1 := []) ?_ (r_ret ?_))))
      · rw [comp_flt (e := eBal) (g := fun b => .str b.member) (q := fun b => decide (b.purpose = p)) (l := w.ballots) (M1 := []) (x := .list (w.ballots.map eBal)) ?_ rfl (line_of ok.blen (by decide)) ?_]
        · unfold votedW
          rw [List.map_map]
          rfl
        · simp only [e_var, e_non, e_bl, e_int, e_str, e_bin, e_neg, e_not, e_and, e_or, e_cmp, e_chain, e_isN, e_ife, e_tup, e_lst, e_dct, e_idx, e_slc, e_blt, e_isi, e_fld, e_app, e_ext, e_idxof, e_dget, e_nil, e_cons, x_setv, x_sett, x_setp, x_seti, x_seti2, x_augi, x_setf, x_exp, x_ret, x_ife, x_frz, x_retN, x_pass, x_cont, x_nil, x_cons, getD_list, getD_tup, rd_int, rd_bl, rd_non, rd_str, rd_list, rd_tup, rd_fz, rd_dict, len_list, len_tup, abs_int, min2_int, max2_int, int_int, list_list, list_tup, mk_f, mk_t, truth_bl', truth_int', truth_list', tst_some, line0, line1, line2, line3, line4, line5, line6, line7, line8, asg, optC, optD, optI, isAbs, src_list, src_tup, src_enum, setI, body1, wipeE, List.map_cons, List.map_nil, List.length_cons, List.length_nil, List.replicate, List.cons_append, List.nil_append, List.getElem?_cons_zero, List.getElem?_cons_succ, List.set_cons_zero, List.set_cons_succ, List.zip_cons_cons, List.zip_nil_right, List.foldl_cons, List.foldl_nil, Nat.reduceAdd, Nat.reduceSub, bop_add_int, bop_sub_int, cop_lt_int, cop_gt_int, cop_le_int, cop_ge_int, cop_eq_int, cop_ne_int, atI_c0, atI_c1, atI_c2, atI_c3, if_true, Bool.false_eq_true, if_false, ↓reduceIte, Bool.not_true, Bool.not_false, h.rd, h.ballots]
        · intro b _
          simp only [turnF, eBal]
          simp only [e_var, e_non, e_bl, e_int, e_str, e_bin, e_neg, e_not, e_and, e_or, e_cmp, e_chain, e_isN, e_ife, e_tup, e_lst, e_dct, e_idx, e_slc, e_blt, e_isi, e_fld, e_app, e_ext, e_idxof, e_dget, e_nil, e_cons, x_setv, x_sett, x_setp, x_seti, x_seti2, x_augi, x_setf, x_exp, x_ret, x_ife, x_frz, x_retN, x_pass, x_cont, x_nil, x_cons, getD_list, getD_tup, rd_int, rd_bl, rd_non, rd_str, rd_list, rd_tup, rd_fz, rd_dict, len_list, len_tup, abs_int, min2_int, max2_int, int_int, list_list, list_tup, mk_f, mk_t, truth_bl', truth_int', truth_list', tst_some, line0, line1, line2, line3, line4, line5, line6, line7, line8, asg, optC, optD, optI, isAbs, src_list, src_tup, src_enum, setI, body1, wipeE, List.map_cons, List.map_nil, List.length_cons, List.length_nil, List.replicate, List.cons_append, List.nil_append, List.getElem?_cons_zero, List.getElem?_cons_succ, List.set_cons_zero, List.set_cons_succ, List.zip_cons_cons, List.zip_nil_right, List.foldl_cons, List.foldl_nil, Nat.reduceAdd, Nat.reduceSub, bop_add_int, bop_sub_int, cop_lt_int, cop_gt_int, cop_le_int, cop_ge_int, cop_eq_int, cop_ne_int, atI_c0, atI_c1, atI_c2, atI_c3, if_true, Bool.false_eq_true, if_false, ↓reduceIte, Bool.not_true, Bool.not_false, cop_eq_str]
          cases decide (b.purpose = p) <;> rfl
      · rw [comp_fltM (e := D.str) (g := D.str) (q := fun m => !decide (m ∈ votedW w p)) (l := w.members) (M1 := []) (x := .list (w.members.map D.str)) ?_ rfl (line_of ok.mlen (by decide)) ?_]
        · rfl
        · simp only [e_var, e_non, e_bl, e_int, e_str, e_bin, e_neg, e_not, e_and, e_or, e_cmp, e_chain, e_isN, e_ife, e_tup, e_lst, e_dct, e_idx, e_slc, e_blt, e_isi, e_fld, e_app, e_ext, e_idxof, e_dget, e_nil, e_cons, x_setv, x_sett, x_setp, x_seti, x_seti2, x_augi, x_setf, x_exp, x_ret, x_ife, x_frz, x_retN, x_pass, x_cont, x_nil, x_cons, getD_list, getD_tup, rd_int, rd_bl, rd_non, rd_str, rd_list, rd_tup, rd_fz, rd_dict, len_list, len_tup, abs_int, min2_int, max2_int, int_int, list_list, list_tup, mk_f, mk_t, truth_bl', truth_int', truth_list', tst_some, line0, line1, line2, line3, line4, line5, line6, line7, line8, asg, optC, optD, optI, isAbs, src_list, src_tup, src_enum, setI, body1, wipeE, List.map_cons, List.map_nil, List.length_cons, List.length_nil, List.replicate, List.cons_append, List.nil_append, List.getElem?_cons_zero, List.getElem?_cons_succ, List.set_cons_zero, List.set_cons_succ, List.zip_cons_cons, List.zip_nil_right, List.foldl_cons, List.foldl_nil, Nat.reduceAdd, Nat.reduceSub, bop_add_int, bop_sub_int, cop_lt_int, cop_gt_int, cop_le_int, cop_ge_int, cop_eq_int, cop_ne_int, atI_c0, atI_c1, atI_c2, atI_c3, if_true, Bool.false_eq_true, if_false, ↓reduceIte, Bool.not_true, Bool.not_false, h.rd, h.members]
        · intro m hm
          have hn : cop .nin (.str m) (.list ((votedW w p).map D.str)) = some (!decide (m ∈ votedW w p)) := by
            rw [cop_nin_list, memD_strs (pool_ok m (ok.mem m hm)) fun y hy => ?_]
            · rfl
            · obtain ⟨b, hb, rfl⟩ := List.mem_map.mp hy
              exact pool_ok _ (ok.bal b (List.mem_filter.mp hb).1).2.1
          simp only [turnF]
          simp only [e_var, e_non, e_bl, e_int, e_str, e_bin, e_neg, e_not, e_and, e_or, e_cmp, e_chain, e_isN, e_ife, e_tup, e_lst, e_dct, e_idx, e_slc, e_blt, e_isi, e_fld, e_app, e_ext, e_idxof, e_dget, e_nil, e_cons, x_setv, x_sett, x_setp, x_seti, x_seti2, x_augi, x_setf, x_exp, x_ret, x_ife, x_frz, x_retN, x_pass, x_cont, x_nil, x_cons, getD_list, getD_tup, rd_int, rd_bl, rd_non, rd_str, rd_list, rd_tup, rd_fz, rd_dict, len_list, len_tup, abs_int, min2_int, max2_int, int_int, list_list, list_tup, mk_f, mk_t, truth_bl', truth_int', truth_list', tst_some, line0, line1, line2, line3, line4, line5, line6, line7, line8, asg, optC, optD, optI, isAbs, src_list, src_tup, src_enum, setI, body1, wipeE, List.map_cons, List.map_nil, List.length_cons, List.length_nil, List.replicate, List.cons_append, List.nil_append, List.getElem?_cons_zero, List.getElem?_cons_succ, List.set_cons_zero, List.set_cons_succ, List.zip_cons_cons, List.zip_nil_right, List.foldl_cons, List.foldl_nil, Nat.reduceAdd, Nat.reduceSub, bop_add_int, bop_sub_int, cop_lt_int, cop_gt_int, cop_le_int, cop_ge_int, cop_eq_int, cop_ne_int, atI_c0, atI_c1, atI_c2, atI_c3, if_true, Bool.false_eq_true, if_false, ↓reduceIte, Bool.not_true, Bool.not_false, hn]
          cases decide (m ∈ votedW w p) <;> rfl
theorem missing_own {p : Tx} (h : Has d w) (ok : w.Ok 8 9) : callM (run fns cls (n + 2)) .own f_missing [d, .str p] M = some (.loc M.length, M ++ [.list ((missW w p).map D.str)]) :=
  call_own (by rw [belowL, h.below]; rfl) (missing_hrun h ok) rfl (below_str 0 _)
theorem votes_short {d x : D} (h : Has d w) (m : Nat) (hx : below 0 x = true) (N : Sto) : callM (run fns cls m) .pure f_votes [d, x] N = callM (run fns cls m) .pure f_votes [d, x, .tup []] N := by
  have hb1 : belowL 0 [d, x] = true := by simp only [belowL, h.below, hx]; rfl
  have hb2 : belowL 0 [d, x, .tup []] = true := by simp only [belowL, h.below, hx]; rfl
  have hr : ∀ M, run fns cls m f_votes [d, x] M = run fns cls m f_votes [d, x, .tup []] M := fun M => run_short (fn := ⟨"votes", 3, ["state", "name", "completion", "purpose", "ballots", "free", "row", "member", "ballot"], b_votes, [(.tup [])]⟩) rfl (Nat.le_refl 3) (show 2 ≤ 3 by decide)
  unfold callM
  simp only
  rw [if_pos hb1, if_pos hb2, hr]
def othW (w : Wld) (a : Ask) : List Ask := w.asks.filter fun b => decide (b.purpose = a.purpose) && !decide (b.name = a.name)
theorem oth_mem {a b : Ask} (h : b ∈ othW w a) : b ∈ w.asks ∧ b.name ≠ a.name := by
  have := List.mem_filter.mp h
  refine ⟨this.1, fun z => ?_⟩
  rw [decide_eq_true z] at this
  simp at this
theorem oth_len (w : Wld) (a : Ask) : (othW w a).length ≤ w.asks.length := List.length_filter_le _ _
theorem others_run {a : Ask} (h : Has d w) (ok : w.Ok 8 9) (ha : a ∈ w.asks) : callM (run fns cls (n + 2)) .pure f_others_of [d, .str a.name] M = some (.list ((othW w a).map fun b => D.str b.name), M) := by
  refine pure_of (M2 := []) (run_of (f := f_others_of) rfl rfl (r_set (x := .str a.purpose) (M1 := []) ?_ (r_ret ?_))) (by rw [belowL, h.below]; rfl) (below_of fun _ => rfl) rfl
  · have := ask_run (n := n) (M := []) h ok (ask_find ok.nd ha)
    simp only [e_var, e_non, e_bl, e_int, e_str, e_bin, e_neg, e_not, e_and, e_or, e_cmp, e_chain, e_isN, e_ife, e_tup, e_lst, e_dct, e_idx, e_slc, e_blt, e_isi, e_fld, e_app, e_ext, e_idxof, e_dget, e_nil, e_cons, x_setv, x_sett, x_setp, x_seti, x_seti2, x_augi, x_setf, x_exp, x_ret, x_ife, x_frz, x_retN, x_pass, x_cont, x_nil, x_cons, getD_list, getD_tup, rd_int, rd_bl, rd_non, rd_str, rd_list, rd_tup, rd_fz, rd_dict, len_list, len_tup, abs_int, min2_int, max2_int, int_int, list_list, list_tup, mk_f, mk_t, truth_bl', truth_int', truth_list', tst_some, line0, line1, line2, line3, line4, line5, line6, line7, line8, asg, optC, optD, optI, isAbs, src_list, src_tup, src_enum, setI, body1, wipeE, List.map_cons, List.map_nil, List.length_cons, List.length_nil, List.replicate, List.cons_append, List.nil_append, List.getElem?_cons_zero, List.getElem?_cons_succ, List.set_cons_zero, List.set_cons_succ, List.zip_cons_cons, List.zip_nil_right, List.foldl_cons, List.foldl_nil, Nat.reduceAdd, Nat.reduceSub, bop_add_int, bop_sub_int, cop_lt_int, cop_gt_int, cop_le_int, cop_ge_int, cop_eq_int, cop_ne_int, atI_c0, atI_c1, atI_c2, atI_c3, if_true, Bool.false_eq_true, if_false, ↓reduceIte, Bool.not_true, Bool.not_false, e_call, this, eAsk]
  · rw [comp_flt (e := eAsk) (g := fun b => .str b.name) (q := fun b => decide (b.purpose = a.purpose) && !decide (b.name = a.name)) (l := w.asks) (M1 := []) (x := .list (w.asks.map eAsk)) ?_ rfl (line_of ok.alen (by decide)) ?_]
    · rfl
    · simp only [e_var, e_non, e_bl, e_int, e_str, e_bin, e_neg, e_not, e_and, e_or, e_cmp, e_chain, e_isN, e_ife, e_tup, e_lst, e_dct, e_idx, e_slc, e_blt, e_isi, e_fld, e_app, e_ext, e_idxof, e_dget, e_nil, e_cons, x_setv, x_sett, x_setp, x_seti, x_seti2, x_augi, x_setf, x_exp, x_ret, x_ife, x_frz, x_retN, x_pass, x_cont, x_nil, x_cons, getD_list, getD_tup, rd_int, rd_bl, rd_non, rd_str, rd_list, rd_tup, rd_fz, rd_dict, len_list, len_tup, abs_int, min2_int, max2_int, int_int, list_list, list_tup, mk_f, mk_t, truth_bl', truth_int', truth_list', tst_some, line0, line1, line2, line3, line4, line5, line6, line7, line8, asg, optC, optD, optI, isAbs, src_list, src_tup, src_enum, setI, body1, wipeE, List.map_cons, List.map_nil, List.length_cons, List.length_nil, List.replicate, List.cons_append, List.nil_append, List.getElem?_cons_zero, List.getElem?_cons_succ, List.set_cons_zero, List.set_cons_succ, List.zip_cons_cons, List.zip_nil_right, List.foldl_cons, List.foldl_nil, Nat.reduceAdd, Nat.reduceSub, bop_add_int, bop_sub_int, cop_lt_int, cop_gt_int, cop_le_int, cop_ge_int, cop_eq_int, cop_ne_int, atI_c0, atI_c1, atI_c2, atI_c3, if_true, Bool.false_eq_true, if_false, ↓reduceIte, Bool.not_true, Bool.not_false, h.rd, h.asks]
    · intro b _
      simp only [turnF, eAsk]
      simp only [e_var, e_non, e_bl, e_int, e_str, e_bin, e_neg, e_not, e_and, e_or, e_cmp, e_chain, e_isN, e_ife, e_tup, e_lst, e_dct, e_idx, e_slc, e_blt, e_isi, e_fld, e_app, e_ext, e_idxof, e_dget, e_nil, e_cons, x_setv, x_sett, x_setp, x_seti, x_seti2, x_augi, x_setf, x_exp, x_ret, x_ife, x_frz, x_retN, x_pass, x_cont, x_nil, x_cons, getD_list, getD_tup, rd_int, rd_bl, rd_non, rd_str, rd_list, rd_tup, rd_fz, rd_dict, len_list, len_tup, abs_int, min2_int, max2_int, int_int, list_list, list_tup, mk_f, mk_t, truth_bl', truth_int', truth_list', tst_some, line0, line1, line2, line3, line4, line5, line6, line7, line8, asg, optC, optD, optI, isAbs, src_list, src_tup, src_enum, setI, body1, wipeE, List.map_cons, List.map_nil, List.length_cons, List.length_nil, List.replicate, List.cons_append, List.nil_append, List.getElem?_cons_zero, List.getElem?_cons_succ, List.set_cons_zero, List.set_cons_succ, List.zip_cons_cons, List.zip_nil_right, List.foldl_cons, List.foldl_nil, Nat.reduceAdd, Nat.reduceSub, bop_add_int, bop_sub_int, cop_lt_int, cop_gt_int, cop_le_int, cop_ge_int, cop_eq_int, cop_ne_int, atI_c0, atI_c1, atI_c2, atI_c3, if_true, Bool.false_eq_true, if_false, ↓reduceIte, Bool.not_true, Bool.not_false, cop_eq_str, cop_ne_str]
      cases decide (b.purpose = a.purpose) <;> simp only [e_var, e_non, e_bl, e_int, e_str, e_bin, e_neg, e_not, e_and, e_or, e_cmp, e_chain, e_isN, e_ife, e_tup, e_lst, e_dct, e_idx, e_slc, e_blt, e_isi, e_fld, e_app, e_ext, e_idxof, e_dget, e_nil, e_cons, x_setv, x_sett, x_setp, x_seti, x_seti2, x_augi, x_setf, x_exp, x_ret, x_ife, x_frz, x_retN, x_pass, x_cont, x_nil, x_cons, getD_list, getD_tup, rd_int, rd_bl, rd_non, rd_str, rd_list, rd_tup, rd_fz, rd_dict, len_list, len_tup, abs_int, min2_int, max2_int, int_int, list_list, list_tup, mk_f, mk_t, truth_bl', truth_int', truth_list', tst_some, line0, line1, line2, line3, line4, line5, line6, line7, line8, asg, optC, optD, optI, isAbs, src_list, src_tup, src_enum, setI, body1, wipeE, List.map_cons, List.map_nil, List.length_cons, List.length_nil, List.replicate, List.cons_append, List.nil_append, List.getElem?_cons_zero, List.getElem?_cons_succ, List.set_cons_zero, List.set_cons_succ, List.zip_cons_cons, List.zip_nil_right, List.foldl_cons, List.foldl_nil, Nat.reduceAdd, Nat.reduceSub, bop_add_int, bop_sub_int, cop_lt_int, cop_gt_int, cop_le_int, cop_ge_int, cop_eq_int, cop_ne_int, atI_c0, atI_c1, atI_c2, atI_c3, if_true, Bool.false_eq_true, if_false, ↓reduceIte, Bool.not_true, Bool.not_false, cop_ne_str, Bool.true_and, Bool.false_and] <;> cases decide (b.name = a.name) <;> rfl
/-- places -/
def plW (w : Wld) (a : Ask) : List Int := [a.amounts.sum, (idxW w a.name : Nat)]
theorem pl_is (w : Wld) (a : Ask) : D.tup [.int a.amounts.sum, .int (idxW w a.name : Nat)] = kD (plW w a) := rfl
def needW (w : Wld) (a b : Ask) : Int :=
  let bar : Int := if lexLe (plW w a) (plW w b) = true then (votesW w a [] : Int) + 1 else (votesW w a [] : Int)
  let m : Int := (if barW w b > bar then barW w b else bar) - (votesW w b [] : Int)
  if m > 0 then m else 0
def eNeed (w : Wld) (a b : Ask) : D := .tup [.str b.name, .int (needW w a b)]
theorem below_need (n : Nat) (w : Wld) (a b : Ask) : below n (eNeed w a b) = true := rfl
abbrev bodyN : SB := (.cons (.setv 5 (.ife (.cmp .lt (.call .pure f_place (.cons (.var 0) (.cons (.var 4) .nil))) (.call .pure f_place (.cons (.var 0) (.cons (.var 1) .nil)))) (.var 2) (.bin false .add (.var 2) (.int 1)))) (.cons (.exp (.app (.var 3) (.tup (.cons (.var 4) (.cons (.blt false .max2 (.cons (.int 0) (.cons (.bin false .sub (.blt false .max2 (.cons (.var 5) (.cons (.call .pure f_quorum (.cons (.var 0) (.cons (.var 4) .nil))) .nil))) (.call .pure f_votes (.cons (.var 0) (.cons (.var 4) .nil)))) .nil))) .nil))))) .nil))
theorem needs_run {a : Ask} (h : Has d w) (ok : w.Ok 8 9) (ha : a ∈ w.asks) : callM (run fns cls (n + 5)) .pure f_needs [d, .str a.name] M = some (.list ((othW w a).map (eNeed w a)), M) := by
  have ov := fun (M : Sto) (b : Ask) (hb : b ∈ w.asks) => (votes_short (x := .str b.name) h (n + 4) rfl M).trans (votes_run (n := n) (M := M) (c := .tup []) (C := []) h ok hb (.inr ⟨rfl, rfl⟩) ⟨by simp, fun r hr => nomatch hr⟩)
  have oo := fun M => others_run (n := n + 2) (M := M) h ok ha
  have hpa := fun M => place_run (n := n + 2) (M := M) h ok ha
  have hva := fun M => ov M a ha
  obtain ⟨env', M', e1, x4, x5, rfl, rfl⟩ := forP_J (f := turnB (run fns cls (n + 4)) cls (.nm 4) bodyN) (e := fun b : Ask => D.str b.name) (l := othW w a)
    (J := fun i env M => ∃ x4 x5, env = [some d, some (.str a.name), some (.int (votesW w a [] : Nat)), some (.loc 0), x4, x5] ∧ M = [.list (((othW w a).take i).map (eNeed w a))])
    (fun i b hi env M ⟨x4, x5, he, hM⟩ => by
      subst he hM
      have hb := oth_mem (List.mem_of_getElem? hi)
      have hpb := fun M => place_run (n := n + 2) (M := M) h ok hb.1
      have hvb := fun M => ov M b hb.1
      have hqb := fun M => quorum_run (n := n) (M := M) h ok hb.1
      have hlt := cop_lt_k (plW w b) (plW w a)
      rw [← pl_is, ← pl_is] at hlt
      have hlen : (((othW w a).take i).map (eNeed w a)).length < LINE := by
        rw [List.length_map, List.length_take]
        have := oth_len w a
        have := ok.alen
        unfold LINE
        omega
      refine ⟨.next, [some d, some (.str a.name), some (.int (votesW w a [] : Nat)), some (.loc 0), some (.str b.name), some (.int (if lexLe (plW w a) (plW w b) = true then (votesW w a [] : Int) + 1 else (votesW w a [] : Int)))], _, ?_, .inl rfl, _, _, rfl, rfl⟩
      rw [turn_nm, take_next hi, List.map_append]
      cases hl : lexLe (plW w a) (plW w b) with
      | true =>
        rw [hl] at hlt
        simp only [e_var, e_non, e_bl, e_int, e_str, e_bin, e_neg, e_not, e_and, e_or, e_cmp, e_chain, e_isN, e_ife, e_tup, e_lst, e_dct, e_idx, e_slc, e_blt, e_isi, e_fld, e_app, e_ext, e_idxof, e_dget, e_nil, e_cons, x_setv, x_sett, x_setp, x_seti, x_seti2, x_augi, x_setf, x_exp, x_ret, x_ife, x_frz, x_retN, x_pass, x_cont, x_nil, x_cons, getD_list, getD_tup, rd_int, rd_bl, rd_non, rd_str, rd_list, rd_tup, rd_fz, rd_dict, len_list, len_tup, abs_int, min2_int, max2_int, int_int, list_list, list_tup, mk_f, mk_t, truth_bl', truth_int', truth_list', tst_some, line0, line1, line2, line3, line4, line5, line6, line7, line8, asg, optC, optD, optI, isAbs, src_list, src_tup, src_enum, setI, body1, wipeE, List.map_cons, List.map_nil, List.length_cons, List.length_nil, List.replicate, List.cons_append, List.nil_append, List.getElem?_cons_zero, List.getElem?_cons_succ, List.set_cons_zero, List.set_cons_succ, List.zip_cons_cons, List.zip_nil_right, List.foldl_cons, List.foldl_nil, Nat.reduceAdd, Nat.reduceSub, bop_add_int, bop_sub_int, cop_lt_int, cop_gt_int, cop_le_int, cop_ge_int, cop_eq_int, cop_ne_int, atI_c0, atI_c1, atI_c2, atI_c3, if_true, Bool.false_eq_true, if_false, ↓reduceIte, Bool.not_true, Bool.not_false, e_call, hpa, hpb, hlt, hva, hvb, hqb]
        rw [if_pos hlen]
        simp only [eNeed, needW, hl, if_true, Bool.false_eq_true, if_false]
      | false =>
        rw [hl] at hlt
        simp only [e_var, e_non, e_bl, e_int, e_str, e_bin, e_neg, e_not, e_and, e_or, e_cmp, e_chain, e_isN, e_ife, e_tup, e_lst, e_dct, e_idx, e_slc, e_blt, e_isi, e_fld, e_app, e_ext, e_idxof, e_dget, e_nil, e_cons, x_setv, x_sett, x_setp, x_seti, x_seti2, x_augi, x_setf, x_exp, x_ret, x_ife, x_frz, x_retN, x_pass, x_cont, x_nil, x_cons, getD_list, getD_tup, rd_int, rd_bl, rd_non, rd_str, rd_list, rd_tup, rd_fz, rd_dict, len_list, len_tup, abs_int, min2_int, max2_int, int_int, list_list, list_tup, mk_f, mk_t, truth_bl', truth_int', truth_list', tst_some, line0, line1, line2, line3, line4, line5, line6, line7, line8, asg, optC, optD, optI, isAbs, src_list, src_tup, src_enum, setI, body1, wipeE, List.map_cons, List.map_nil, List.length_cons, List.length_nil, List.replicate, List.cons_append, List.nil_append, List.getElem?_cons_zero, List.getElem?_cons_succ, List.set_cons_zero, List.set_cons_succ, List.zip_cons_cons, List.zip_nil_right, List.foldl_cons, List.foldl_nil, Nat.reduceAdd, Nat.reduceSub, bop_add_int, bop_sub_int, cop_lt_int, cop_gt_int, cop_le_int, cop_ge_int, cop_eq_int, cop_ne_int, atI_c0, atI_c1, atI_c2, atI_c3, if_true, Bool.false_eq_true, if_false, ↓reduceIte, Bool.not_true, Bool.not_false, e_call, hpa, hpb, hlt, hva, hvb, hqb]
        rw [if_pos hlen]
        simp only [eNeed, needW, hl, if_true, Bool.false_eq_true, if_false]) [some d, some (.str a.name), some (.int (votesW w a [] : Nat)), some (.loc 0), none, none] [.list []] ⟨none, none, rfl, rfl⟩
  rw [List.take_length] at e1
  refine pure_of (M2 := [.dead]) (run_of (f := f_needs) rfl rfl ?_) (by rw [belowL, h.below]; rfl) (below_of (below_need 0 w a)) rfl
  refine r_set (x := .int (votesW w a [] : Nat)) (M1 := []) (by simp only [e_var, e_non, e_bl, e_int, e_str, e_bin, e_neg, e_not, e_and, e_or, e_cmp, e_chain, e_isN, e_ife, e_tup, e_lst, e_dct, e_idx, e_slc, e_blt, e_isi, e_fld, e_app, e_ext, e_idxof, e_dget, e_nil, e_cons, x_setv, x_sett, x_setp, x_seti, x_seti2, x_augi, x_setf, x_exp, x_ret, x_ife, x_frz, x_retN, x_pass, x_cont, x_nil, x_cons, getD_list, getD_tup, rd_int, rd_bl, rd_non, rd_str, rd_list, rd_tup, rd_fz, rd_dict, len_list, len_tup, abs_int, min2_int, max2_int, int_int, list_list, list_tup, mk_f, mk_t, truth_bl', truth_int', truth_list', tst_some, line0, line1, line2, line3, line4, line5, line6, line7, line8, asg, optC, optD, optI, isAbs, src_list, src_tup, src_enum, setI, body1, wipeE, List.map_cons, List.map_nil, List.length_cons, List.length_nil, List.replicate, List.cons_append, List.nil_append, List.getElem?_cons_zero, List.getElem?_cons_succ, List.set_cons_zero, List.set_cons_succ, List.zip_cons_cons, List.zip_nil_right, List.foldl_cons, List.foldl_nil, Nat.reduceAdd, Nat.reduceSub, bop_add_int, bop_sub_int, cop_lt_int, cop_gt_int, cop_le_int, cop_ge_int, cop_eq_int, cop_ne_int, atI_c0, atI_c1, atI_c2, atI_c3, if_true, Bool.false_eq_true, if_false, ↓reduceIte, Bool.not_true, Bool.not_false, e_call, hva]) ?_
  refine r_set (x := .loc 0) (M1 := [.list []]) (by simp only [e_var, e_non, e_bl, e_int, e_str, e_bin, e_neg, e_not, e_and, e_or, e_cmp, e_chain, e_isN, e_ife, e_tup, e_lst, e_dct, e_idx, e_slc, e_blt, e_isi, e_fld, e_app, e_ext, e_idxof, e_dget, e_nil, e_cons, x_setv, x_sett, x_setp, x_seti, x_seti2, x_augi, x_setf, x_exp, x_ret, x_ife, x_frz, x_retN, x_pass, x_cont, x_nil, x_cons, getD_list, getD_tup, rd_int, rd_bl, rd_non, rd_str, rd_list, rd_tup, rd_fz, rd_dict, len_list, len_tup, abs_int, min2_int, max2_int, int_int, list_list, list_tup, mk_f, mk_t, truth_bl', truth_int', truth_list', tst_some, line0, line1, line2, line3, line4, line5, line6, line7, line8, asg, optC, optD, optI, isAbs, src_list, src_tup, src_enum, setI, body1, wipeE, List.map_cons, List.map_nil, List.length_cons, List.length_nil, List.replicate, List.cons_append, List.nil_append, List.getElem?_cons_zero, List.getElem?_cons_succ, List.set_cons_zero, List.set_cons_succ, List.zip_cons_cons, List.zip_nil_right, List.foldl_cons, List.foldl_nil, Nat.reduceAdd, Nat.reduceSub, bop_add_int, bop_sub_int, cop_lt_int, cop_gt_int, cop_le_int, cop_ge_int, cop_eq_int, cop_ne_int, atI_c0, atI_c1, atI_c2, atI_c3, if_true, Bool.false_eq_true, if_false, ↓reduceIte, Bool.not_true, Bool.not_false]; try rfl) ?_
  refine r_next (x_forP (x := .list ((othW w a).map fun b => D.str b.name)) (y := .non) (M0 := [.list []]) (M1 := [.list []]) (by simp only [e_var, e_non, e_bl, e_int, e_str, e_bin, e_neg, e_not, e_and, e_or, e_cmp, e_chain, e_isN, e_ife, e_tup, e_lst, e_dct, e_idx, e_slc, e_blt, e_isi, e_fld, e_app, e_ext, e_idxof, e_dget, e_nil, e_cons, x_setv, x_sett, x_setp, x_seti, x_seti2, x_augi, x_setf, x_exp, x_ret, x_ife, x_frz, x_retN, x_pass, x_cont, x_nil, x_cons, getD_list, getD_tup, rd_int, rd_bl, rd_non, rd_str, rd_list, rd_tup, rd_fz, rd_dict, len_list, len_tup, abs_int, min2_int, max2_int, int_int, list_list, list_tup, mk_f, mk_t, truth_bl', truth_int', truth_list', tst_some, line0, line1, line2, line3, line4, line5, line6, line7, line8, asg, optC, optD, optI, isAbs, src_list, src_tup, src_enum, setI, body1, wipeE, List.map_cons, List.map_nil, List.length_cons, List.length_nil, List.replicate, List.cons_append, List.nil_append, List.getElem?_cons_zero, List.getElem?_cons_succ, List.set_cons_zero, List.set_cons_succ, List.zip_cons_cons, List.zip_nil_right, List.foldl_cons, List.foldl_nil, Nat.reduceAdd, Nat.reduceSub, bop_add_int, bop_sub_int, cop_lt_int, cop_gt_int, cop_le_int, cop_ge_int, cop_eq_int, cop_ne_int, atI_c0, atI_c1, atI_c2, atI_c3, if_true, Bool.false_eq_true, if_false, ↓reduceIte, Bool.not_true, Bool.not_false, e_call, oo]) rfl rfl e1) ?_
  refine r_next (env1 := [some d, some (.str a.name), some (.int (votesW w a [] : Nat)), some (.list ((othW w a).map (eNeed w a))), x4, x5]) (M1 := [.dead]) (by simp only [e_var, e_non, e_bl, e_int, e_str, e_bin, e_neg, e_not, e_and, e_or, e_cmp, e_chain, e_isN, e_ife, e_tup, e_lst, e_dct, e_idx, e_slc, e_blt, e_isi, e_fld, e_app, e_ext, e_idxof, e_dget, e_nil, e_cons, x_setv, x_sett, x_setp, x_seti, x_seti2, x_augi, x_setf, x_exp, x_ret, x_ife, x_frz, x_retN, x_pass, x_cont, x_nil, x_cons, getD_list, getD_tup, rd_int, rd_bl, rd_non, rd_str, rd_list, rd_tup, rd_fz, rd_dict, len_list, len_tup, abs_int, min2_int, max2_int, int_int, list_list, list_tup, mk_f, mk_t, truth_bl', truth_int', truth_list', tst_some, line0, line1, line2, line3, line4, line5, line6, line7, line8, asg, optC, optD, optI, isAbs, src_list, src_tup, src_enum, setI, body1, wipeE, List.map_cons, List.map_nil, List.length_cons, List.length_nil, List.replicate, List.cons_append, List.nil_append, List.getElem?_cons_zero, List.getElem?_cons_succ, List.set_cons_zero, List.set_cons_succ, List.zip_cons_cons, List.zip_nil_right, List.foldl_cons, List.foldl_nil, Nat.reduceAdd, Nat.reduceSub, bop_add_int, bop_sub_int, cop_lt_int, cop_gt_int, cop_le_int, cop_ge_int, cop_eq_int, cop_ne_int, atI_c0, atI_c1, atI_c2, atI_c3, if_true, Bool.false_eq_true, if_false, ↓reduceIte, Bool.not_true, Bool.not_false]) (r_ret (by simp only [e_var, e_non, e_bl, e_int, e_str, e_bin, e_neg, e_not, e_and, e_or, e_cmp, e_chain, e_isN, e_ife, e_tup, e_lst, e_dct, e_idx, e_slc, e_blt, e_isi, e_fld, e_app, e_ext, e_idxof, e_dget, e_nil, e_cons, x_setv, x_sett, x_setp, x_seti, x_seti2, x_augi, x_setf, x_exp, x_ret, x_ife, x_frz, x_retN, x_pass, x_cont, x_nil, x_cons, getD_list, getD_tup, rd_int, rd_bl, rd_non, rd_str, rd_list, rd_tup, rd_fz, rd_dict, len_list, len_tup, abs_int, min2_int, max2_int, int_int, list_list, list_tup, mk_f, mk_t, truth_bl', truth_int', truth_list', tst_some, line0, line1, line2, line3, line4, line5, line6, line7, line8, asg, optC, optD, optI, isAbs, src_list, src_tup, src_enum, setI, body1, wipeE, List.map_cons, List.map_nil, List.length_cons, List.length_nil, List.replicate, List.cons_append, List.nil_append, List.getElem?_cons_zero, List.getElem?_cons_succ, List.set_cons_zero, List.set_cons_succ, List.zip_cons_cons, List.zip_nil_right, List.foldl_cons, List.foldl_nil, Nat.reduceAdd, Nat.reduceSub, bop_add_int, bop_sub_int, cop_lt_int, cop_gt_int, cop_le_int, cop_ge_int, cop_eq_int, cop_ne_int, atI_c0, atI_c1, atI_c2, atI_c3, if_true, Bool.false_eq_true, if_false, ↓reduceIte, Bool.not_true, Bool.not_false]; try rfl))
end
end K34

/-! K34i: what an ask needs, by the law. -/
namespace K34
open MP CM
theorem cop_gt_k (a b : List Int) : cop .gt (kD a) (kD b) = some (!lexLe a b) := by
  simp only [cop]
  rw [if_pos (flatOk_k a b), lessD_k]
theorem lex_flip {x y u v : Int} (h : y ≠ v) : (!lexLe [u, v] [x, y]) = lexLe [x, y] [u, v] := by
  simp only [lexLe, Bool.and_true]
  by_cases h1 : x < u
  · simp [h1, show ¬u < x by omega, show ¬u = x by omega]
  · by_cases h2 : x = u
    · subst h2
      by_cases h3 : y < v
      · simp [h3, show ¬v < y by omega, show ¬v = y by omega]
      · simp [h3, show v < y by omega, h]
    · simp [h1, h2, show u < x by omega]
section
variable {n : Nat} {M : Sto} {d : D} {w : Wld}
theorem idx_ne {a b : Ask} (ha : a ∈ w.asks) (hb : b ∈ w.asks) (h : b.name ≠ a.name) : (idxW w b.name : Int) ≠ (idxW w a.name : Int) := by
  intro e
  have e' : idxW w b.name = idxW w a.name := by omega
  unfold idxW at e'
  have h1 : (w.asks.map (·.name)).findIdx (fun x => decide (x = a.name)) < (w.asks.map (·.name)).length := by
    rw [List.findIdx_lt_length]
    exact ⟨a.name, List.mem_map.mpr ⟨a, ha, rfl⟩, by simp⟩
  have h2 : (w.asks.map (·.name)).findIdx (fun x => decide (x = b.name)) < (w.asks.map (·.name)).length := by
    rw [List.findIdx_lt_length]
    exact ⟨b.name, List.mem_map.mpr ⟨b, hb, rfl⟩, by simp⟩
  have g1 := List.findIdx_getElem (w := h1)
  have g2 := List.findIdx_getElem (w := h2)
  rw [decide_eq_true_eq] at g1 g2
  apply h
  rw [← g1, ← g2]
  simp only [e']
theorem need_law {a b : Ask} (ha : a ∈ w.asks) (hb : b ∈ w.asks) (h : b.name ≠ a.name) : needW w a b =
    (let bar : Int := if (votesW w a [] : Int) + (if lexLe (plW w b) (plW w a) = true then 0 else 1) > barW w b then (votesW w a [] : Int) + (if lexLe (plW w b) (plW w a) = true then 0 else 1) else barW w b
     if bar - (votesW w b [] : Int) > 0 then bar - (votesW w b [] : Int) else 0) := by
  have e := lex_flip (x := a.amounts.sum) (y := (idxW w a.name : Nat)) (u := b.amounts.sum) (v := (idxW w b.name : Nat)) (fun z => idx_ne ha hb h z.symm)
  have e' : lexLe (plW w a) (plW w b) = !lexLe (plW w b) (plW w a) := e.symm
  unfold needW
  rw [e']
  cases lexLe (plW w b) (plW w a) with
  | true =>
    simp only [Bool.not_true, Bool.false_eq_true, if_false, if_true, Int.add_zero]
    split <;> split <;> split <;> omega
  | false =>
    simp only [Bool.not_false, Bool.false_eq_true, if_false, if_true]
    split <;> split <;> split <;> omega
abbrev bodyLN : SB := (.cons (.setv 5 (.blt false .max2 (.cons (.call .pure f_law_bar (.cons (.var 0) (.cons (.var 4) .nil))) (.cons (.bin false .add (.var 2) (.blt false .int (.cons (.cmp .gt (.call .pure f_law_spot (.cons (.var 0) (.cons (.var 4) .nil))) (.call .pure f_law_spot (.cons (.var 0) (.cons (.var 1) .nil)))) .nil))) .nil)))) (.cons (.exp (.app (.var 3) (.tup (.cons (.var 4) (.cons (.blt false .max2 (.cons (.int 0) (.cons (.bin false .sub (.var 5) (.call .pure f_law_votes (.cons (.var 0) (.cons (.var 4) (.cons (.lst false .nil) .nil))))) .nil))) .nil))))) .nil))
theorem lneeds_run {a : Ask} (h : HasF d w) (ok : w.Ok 8 9) (ha : a ∈ w.asks) : callM (run fns cls (n + 4)) .pure f_law_needs [d, .str a.name] M = some (.list ((othW w a).map (eNeed w a)), M) := by
  have ov : ∀ (M : Sto) (b : Ask) (hb : b ∈ w.asks), callM (run fns cls (n + 3)) .pure f_law_votes [d, .str b.name, .list []] M = some (.int (votesW w b [] : Nat), M) := fun M b hb => lvotes_run (n := n + 1) (M := M) (C := []) h ok hb ⟨by simp, fun r hr => nomatch hr⟩
  have ol := fun M => lask_run (n := n + 2) (M := M) (nm := a.name) h.has ok (ask_find ok.nd ha)
  have hpa := fun M => spot_run (n := n + 1) (M := M) h.has ok ha
  have hva := fun M => ov M a ha
  have hint : ∀ M b, blt1 .int M [.bl b] = some (.int (if b = true then 1 else 0)) := fun M b => rfl
  obtain ⟨env', M', e1, x4, x5, rfl, rfl⟩ := forP_J (f := turnB (run fns cls (n + 3)) cls (.nm 4) bodyLN) (e := fun b : Ask => D.str b.name) (l := othW w a)
    (J := fun i env M => ∃ x4 x5, env = [some d, some (.str a.name), some (.int (votesW w a [] : Nat)), some (.loc 0), x4, x5, none] ∧ M = [.list (((othW w a).take i).map (eNeed w a))])
    (fun i b hi env M ⟨x4, x5, he, hM⟩ => by
      subst he hM
      have hb := oth_mem (List.mem_of_getElem? hi)
      have hpb := fun M => spot_run (n := n + 1) (M := M) h.has ok hb.1
      have hvb := fun M => ov M b hb.1
      have hqb := fun M => bar_run (n := n + 1) (M := M) h ok hb.1
      have hgt := cop_gt_k (plW w b) (plW w a)
      rw [← pl_is, ← pl_is] at hgt
      have hlen : (((othW w a).take i).map (eNeed w a)).length < LINE := by
        rw [List.length_map, List.length_take]
        have := oth_len w a
        have := ok.alen
        unfold LINE
        omega
      have hneed := need_law ha hb.1 hb.2
      refine ⟨.next, [some d, some (.str a.name), some (.int (votesW w a [] : Nat)), some (.loc 0), some (.str b.name), some (.int (if (votesW w a [] : Int) + (if lexLe (plW w b) (plW w a) = true then 0 else 1) > barW w b then (votesW w a [] : Int) + (if lexLe (plW w b) (plW w a) = true then 0 else 1) else barW w b)), none], _, ?_, .inl rfl, _, _, rfl, rfl⟩
      rw [turn_nm, take_next hi, List.map_append, List.map_cons, List.map_nil, eNeed, hneed]
      cases hl : lexLe (plW w b) (plW w a) <;>
      · rw [hl] at hgt
        simp only [e_var, e_non, e_bl, e_int, e_str, e_bin, e_neg, e_not, e_and, e_or, e_cmp, e_chain, e_isN, e_ife, e_tup, e_lst, e_dct, e_idx, e_slc, e_blt, e_isi, e_fld, e_app, e_ext, e_idxof, e_dget, e_nil, e_cons, x_setv, x_sett, x_setp, x_seti, x_seti2, x_augi, x_setf, x_exp, x_ret, x_ife, x_frz, x_retN, x_pass, x_cont, x_nil, x_cons, getD_list, getD_tup, rd_int, rd_bl, rd_non, rd_str, rd_list, rd_tup, rd_fz, rd_dict, len_list, len_tup, abs_int, min2_int, max2_int, int_int, list_list, list_tup, mk_f, mk_t, truth_bl', truth_int', truth_list', tst_some, line0, line1, line2, line3, line4, line5, line6, line7, line8, asg, optC, optD, optI, isAbs, src_list, src_tup, src_enum, setI, body1, wipeE, List.map_cons, List.map_nil, List.length_cons, List.length_nil, List.replicate, List.cons_append, List.nil_append, List.getElem?_cons_zero, List.getElem?_cons_succ, List.set_cons_zero, List.set_cons_succ, List.zip_cons_cons, List.zip_nil_right, List.foldl_cons, List.foldl_nil, Nat.reduceAdd, Nat.reduceSub, bop_add_int, bop_sub_int, cop_lt_int, cop_gt_int, cop_le_int, cop_ge_int, cop_eq_int, cop_ne_int, atI_c0, atI_c1, atI_c2, atI_c3, if_true, Bool.false_eq_true, if_false, ↓reduceIte, Bool.not_true, Bool.not_false, e_call, hpa, hpb, hgt, hva, hvb, hqb, hint]
        rw [if_pos hlen]) [some d, some (.str a.name), some (.int (votesW w a [] : Nat)), some (.loc 0), none, none, none] [.list []] ⟨none, none, rfl, rfl⟩
  rw [List.take_length] at e1
  refine pure_of (M2 := [.dead]) (run_of (f := f_law_needs) rfl rfl ?_) (by rw [belowL, h.has.below]; rfl) (below_of (below_need 0 w a)) rfl
  refine r_set (x := .int (votesW w a [] : Nat)) (M1 := []) (by simp only [e_var, e_non, e_bl, e_int, e_str, e_bin, e_neg, e_not, e_and, e_or, e_cmp, e_chain, e_isN, e_ife, e_tup, e_lst, e_dct, e_idx, e_slc, e_blt, e_isi, e_fld, e_app, e_ext, e_idxof, e_dget, e_nil, e_cons, x_setv, x_sett, x_setp, x_seti, x_seti2, x_augi, x_setf, x_exp, x_ret, x_ife, x_frz, x_retN, x_pass, x_cont, x_nil, x_cons, getD_list, getD_tup, rd_int, rd_bl, rd_non, rd_str, rd_list, rd_tup, rd_fz, rd_dict, len_list, len_tup, abs_int, min2_int, max2_int, int_int, list_list, list_tup, mk_f, mk_t, truth_bl', truth_int', truth_list', tst_some, line0, line1, line2, line3, line4, line5, line6, line7, line8, asg, optC, optD, optI, isAbs, src_list, src_tup, src_enum, setI, body1, wipeE, List.map_cons, List.map_nil, List.length_cons, List.length_nil, List.replicate, List.cons_append, List.nil_append, List.getElem?_cons_zero, List.getElem?_cons_succ, List.set_cons_zero, List.set_cons_succ, List.zip_cons_cons, List.zip_nil_right, List.foldl_cons, List.foldl_nil, Nat.reduceAdd, Nat.reduceSub, bop_add_int, bop_sub_int, cop_lt_int, cop_gt_int, cop_le_int, cop_ge_int, cop_eq_int, cop_ne_int, atI_c0, atI_c1, atI_c2, atI_c3, if_true, Bool.false_eq_true, if_false, ↓reduceIte, Bool.not_true, Bool.not_false, e_call, hva]) ?_
  refine r_set (x := .loc 0) (M1 := [.list []]) (by simp only [e_var, e_non, e_bl, e_int, e_str, e_bin, e_neg, e_not, e_and, e_or, e_cmp, e_chain, e_isN, e_ife, e_tup, e_lst, e_dct, e_idx, e_slc, e_blt, e_isi, e_fld, e_app, e_ext, e_idxof, e_dget, e_nil, e_cons, x_setv, x_sett, x_setp, x_seti, x_seti2, x_augi, x_setf, x_exp, x_ret, x_ife, x_frz, x_retN, x_pass, x_cont, x_nil, x_cons, getD_list, getD_tup, rd_int, rd_bl, rd_non, rd_str, rd_list, rd_tup, rd_fz, rd_dict, len_list, len_tup, abs_int, min2_int, max2_int, int_int, list_list, list_tup, mk_f, mk_t, truth_bl', truth_int', truth_list', tst_some, line0, line1, line2, line3, line4, line5, line6, line7, line8, asg, optC, optD, optI, isAbs, src_list, src_tup, src_enum, setI, body1, wipeE, List.map_cons, List.map_nil, List.length_cons, List.length_nil, List.replicate, List.cons_append, List.nil_append, List.getElem?_cons_zero, List.getElem?_cons_succ, List.set_cons_zero, List.set_cons_succ, List.zip_cons_cons, List.zip_nil_right, List.foldl_cons, List.foldl_nil, Nat.reduceAdd, Nat.reduceSub, bop_add_int, bop_sub_int, cop_lt_int, cop_gt_int, cop_le_int, cop_ge_int, cop_eq_int, cop_ne_int, atI_c0, atI_c1, atI_c2, atI_c3, if_true, Bool.false_eq_true, if_false, ↓reduceIte, Bool.not_true, Bool.not_false]; try rfl) ?_
  refine r_next (x_forP (x := .list ((othW w a).map fun b => D.str b.name)) (y := .non) (M0 := [.list []]) (M1 := [.list []]) ?_ rfl rfl e1) ?_
  · rw [comp_flt (e := eAsk) (g := fun b => .str b.name) (q := fun b => decide (b.purpose = a.purpose) && !decide (b.name = a.name)) (l := w.asks) (M1 := [.list []]) (x := .list (w.asks.map eAsk)) ?_ rfl (line_of ok.alen (by decide)) ?_]
    · rfl
    · simp only [e_var, e_non, e_bl, e_int, e_str, e_bin, e_neg, e_not, e_and, e_or, e_cmp, e_chain, e_isN, e_ife, e_tup, e_lst, e_dct, e_idx, e_slc, e_blt, e_isi, e_fld, e_app, e_ext, e_idxof, e_dget, e_nil, e_cons, x_setv, x_sett, x_setp, x_seti, x_seti2, x_augi, x_setf, x_exp, x_ret, x_ife, x_frz, x_retN, x_pass, x_cont, x_nil, x_cons, getD_list, getD_tup, rd_int, rd_bl, rd_non, rd_str, rd_list, rd_tup, rd_fz, rd_dict, len_list, len_tup, abs_int, min2_int, max2_int, int_int, list_list, list_tup, mk_f, mk_t, truth_bl', truth_int', truth_list', tst_some, line0, line1, line2, line3, line4, line5, line6, line7, line8, asg, optC, optD, optI, isAbs, src_list, src_tup, src_enum, setI, body1, wipeE, List.map_cons, List.map_nil, List.length_cons, List.length_nil, List.replicate, List.cons_append, List.nil_append, List.getElem?_cons_zero, List.getElem?_cons_succ, List.set_cons_zero, List.set_cons_succ, List.zip_cons_cons, List.zip_nil_right, List.foldl_cons, List.foldl_nil, Nat.reduceAdd, Nat.reduceSub, bop_add_int, bop_sub_int, cop_lt_int, cop_gt_int, cop_le_int, cop_ge_int, cop_eq_int, cop_ne_int, atI_c0, atI_c1, atI_c2, atI_c3, if_true, Bool.false_eq_true, if_false, ↓reduceIte, Bool.not_true, Bool.not_false, h.has.rd, h.has.asks]
    · intro b _
      simp only [turnF, eAsk]
      have ol' := ol [.list []]
      unfold eAsk at ol'
      simp only [e_var, e_non, e_bl, e_int, e_str, e_bin, e_neg, e_not, e_and, e_or, e_cmp, e_chain, e_isN, e_ife, e_tup, e_lst, e_dct, e_idx, e_slc, e_blt, e_isi, e_fld, e_app, e_ext, e_idxof, e_dget, e_nil, e_cons, x_setv, x_sett, x_setp, x_seti, x_seti2, x_augi, x_setf, x_exp, x_ret, x_ife, x_frz, x_retN, x_pass, x_cont, x_nil, x_cons, getD_list, getD_tup, rd_int, rd_bl, rd_non, rd_str, rd_list, rd_tup, rd_fz, rd_dict, len_list, len_tup, abs_int, min2_int, max2_int, int_int, list_list, list_tup, mk_f, mk_t, truth_bl', truth_int', truth_list', tst_some, line0, line1, line2, line3, line4, line5, line6, line7, line8, asg, optC, optD, optI, isAbs, src_list, src_tup, src_enum, setI, body1, wipeE, List.map_cons, List.map_nil, List.length_cons, List.length_nil, List.replicate, List.cons_append, List.nil_append, List.getElem?_cons_zero, List.getElem?_cons_succ, List.set_cons_zero, List.set_cons_succ, List.zip_cons_cons, List.zip_nil_right, List.foldl_cons, List.foldl_nil, Nat.reduceAdd, Nat.reduceSub, bop_add_int, bop_sub_int, cop_lt_int, cop_gt_int, cop_le_int, cop_ge_int, cop_eq_int, cop_ne_int, atI_c0, atI_c1, atI_c2, atI_c3, if_true, Bool.false_eq_true, if_false, ↓reduceIte, Bool.not_true, Bool.not_false, cop_eq_str, cop_ne_str, e_call, ol']
      cases decide (b.purpose = a.purpose) <;> simp only [e_var, e_non, e_bl, e_int, e_str, e_bin, e_neg, e_not, e_and, e_or, e_cmp, e_chain, e_isN, e_ife, e_tup, e_lst, e_dct, e_idx, e_slc, e_blt, e_isi, e_fld, e_app, e_ext, e_idxof, e_dget, e_nil, e_cons, x_setv, x_sett, x_setp, x_seti, x_seti2, x_augi, x_setf, x_exp, x_ret, x_ife, x_frz, x_retN, x_pass, x_cont, x_nil, x_cons, getD_list, getD_tup, rd_int, rd_bl, rd_non, rd_str, rd_list, rd_tup, rd_fz, rd_dict, len_list, len_tup, abs_int, min2_int, max2_int, int_int, list_list, list_tup, mk_f, mk_t, truth_bl', truth_int', truth_list', tst_some, line0, line1, line2, line3, line4, line5, line6, line7, line8, asg, optC, optD, optI, isAbs, src_list, src_tup, src_enum, setI, body1, wipeE, List.map_cons, List.map_nil, List.length_cons, List.length_nil, List.replicate, List.cons_append, List.nil_append, List.getElem?_cons_zero, List.getElem?_cons_succ, List.set_cons_zero, List.set_cons_succ, List.zip_cons_cons, List.zip_nil_right, List.foldl_cons, List.foldl_nil, Nat.reduceAdd, Nat.reduceSub, bop_add_int, bop_sub_int, cop_lt_int, cop_gt_int, cop_le_int, cop_ge_int, cop_eq_int, cop_ne_int, atI_c0, atI_c1, atI_c2, atI_c3, if_true, Bool.false_eq_true, if_false, ↓reduceIte, Bool.not_true, Bool.not_false, cop_ne_str, Bool.true_and, Bool.false_and] <;> cases decide (b.name = a.name) <;> rfl
  refine r_next (env1 := [some d, some (.str a.name), some (.int (votesW w a [] : Nat)), some (.list ((othW w a).map (eNeed w a))), x4, x5, none]) (M1 := [.dead]) (by simp only [e_var, e_non, e_bl, e_int, e_str, e_bin, e_neg, e_not, e_and, e_or, e_cmp, e_chain, e_isN, e_ife, e_tup, e_lst, e_dct, e_idx, e_slc, e_blt, e_isi, e_fld, e_app, e_ext, e_idxof, e_dget, e_nil, e_cons, x_setv, x_sett, x_setp, x_seti, x_seti2, x_augi, x_setf, x_exp, x_ret, x_ife, x_frz, x_retN, x_pass, x_cont, x_nil, x_cons, getD_list, getD_tup, rd_int, rd_bl, rd_non, rd_str, rd_list, rd_tup, rd_fz, rd_dict, len_list, len_tup, abs_int, min2_int, max2_int, int_int, list_list, list_tup, mk_f, mk_t, truth_bl', truth_int', truth_list', tst_some, line0, line1, line2, line3, line4, line5, line6, line7, line8, asg, optC, optD, optI, isAbs, src_list, src_tup, src_enum, setI, body1, wipeE, List.map_cons, List.map_nil, List.length_cons, List.length_nil, List.replicate, List.cons_append, List.nil_append, List.getElem?_cons_zero, List.getElem?_cons_succ, List.set_cons_zero, List.set_cons_succ, List.zip_cons_cons, List.zip_nil_right, List.foldl_cons, List.foldl_nil, Nat.reduceAdd, Nat.reduceSub, bop_add_int, bop_sub_int, cop_lt_int, cop_gt_int, cop_le_int, cop_ge_int, cop_eq_int, cop_ne_int, atI_c0, atI_c1, atI_c2, atI_c3, if_true, Bool.false_eq_true, if_false, ↓reduceIte, Bool.not_true, Bool.not_false]) (r_ret (by simp only [e_var, e_non, e_bl, e_int, e_str, e_bin, e_neg, e_not, e_and, e_or, e_cmp, e_chain, e_isN, e_ife, e_tup, e_lst, e_dct, e_idx, e_slc, e_blt, e_isi, e_fld, e_app, e_ext, e_idxof, e_dget, e_nil, e_cons, x_setv, x_sett, x_setp, x_seti, x_seti2, x_augi, x_setf, x_exp, x_ret, x_ife, x_frz, x_retN, x_pass, x_cont, x_nil, x_cons, getD_list, getD_tup, rd_int, rd_bl, rd_non, rd_str, rd_list, rd_tup, rd_fz, rd_dict, len_list, len_tup, abs_int, min2_int, max2_int, int_int, list_list, list_tup, mk_f, mk_t, truth_bl', truth_int', truth_list', tst_some, line0, line1, line2, line3, line4, line5, line6, line7, line8, asg, optC, optD, optI, isAbs, src_list, src_tup, src_enum, setI, body1, wipeE, List.map_cons, List.map_nil, List.length_cons, List.length_nil, List.replicate, List.cons_append, List.nil_append, List.getElem?_cons_zero, List.getElem?_cons_succ, List.set_cons_zero, List.set_cons_succ, List.zip_cons_cons, List.zip_nil_right, List.foldl_cons, List.foldl_nil, Nat.reduceAdd, Nat.reduceSub, bop_add_int, bop_sub_int, cop_lt_int, cop_gt_int, cop_le_int, cop_ge_int, cop_eq_int, cop_ne_int, atI_c0, atI_c1, atI_c2, atI_c3, if_true, Bool.false_eq_true, if_false, ↓reduceIte, Bool.not_true, Bool.not_false]; try rfl))
end
end K34

/-! K34m: the world: members, kin, asks. -/
namespace K34
open MP CM
def poolAt (x : Int) : Tx := pool.getD x.toNat ""
theorem pool_get {x : Int} (h0 : 0 ≤ x) (h1 : x < 12) : L2.atI (pool.map D.str) x = some (.str (poolAt x)) ∧ poolAt x ∈ pool := by
  have hl : x.toNat < pool.length := by
    have : pool.length = 12 := rfl
    omega
  have e : pool[x.toNat]? = some (poolAt x) := by
    unfold poolAt
    rw [List.getD_eq_getElem?_getD, List.getElem?_eq_getElem hl]
    rfl
  exact ⟨atI_map h0 e, List.mem_of_getElem? e⟩
abbrev poolD : D := .list (pool.map D.str)
abbrev namesD : D := .list (names.map D.str)
/-- the slots of a world's making -/
abbrev we (s : Nat) (ma mm tn : Int) (cl : Bool) (x6 : Option D) (ms : List Tx) (x8 x9 x10 x11 x12 x13 x14 x15 x16 x17 x18 x19 x20 x21 x22 x23 x24 x25 : Option D) : MP.Env :=
  [some (.loc s), some (.int ma), some (.int mm), some poolD, some (.int tn), some (.bl cl), x6, some (.list (ms.map D.str)), x8, x9, x10, x11, x12, x13, x14, x15, x16, x17, x18, x19, x20, x21, x22, x23, x24, x25]
section
variable {n : Nat} {M0 : Sto} {s c : Nat}
abbrev tk : Nat := f_law_take
theorem TK (n : Nat) : TakeOk (run fns cls (n + 1)) tk := take_ok (fns := fns) (cls := cls) (f := tk) rfl n
/-- members -/
theorem members_ev {F : FT} {tn : Int} (t0 : 0 ≤ tn) (t1 : tn < 12) {m : Nat} (hm : m ≤ 100) {x0 x1 x2 x5 x7 : Option D} {x8 x9 : Option D} {r : MP.Env} {N : Sto} :
    ev F cls (.comp false [9] (.nm 9) .rng1 (.var 6) .absent .absent (.idx (.var 3) (.bin false .mod (.bin false .add (.var 4) (.bin false .mul (.int 5) (.var 9))) (.int 12)))) (x0 :: x1 :: x2 :: some poolD :: some (.int tn) :: x5 :: some (.int (m : Nat)) :: x7 :: x8 :: x9 :: r) N =
      some (.list (((List.range m).map fun k : Nat => poolAt ((tn + 5 * (k : Int)) % 12)).map D.str), N) := by
  rw [e_compI]
  simp only [e_var, e_non, e_bl, e_int, e_str, e_bin, e_neg, e_not, e_and, e_or, e_cmp, e_chain, e_isN, e_ife, e_tup, e_lst, e_dct, e_idx, e_slc, e_blt, e_isi, e_fld, e_app, e_ext, e_idxof, e_dget, e_nil, e_cons, x_setv, x_sett, x_setp, x_seti, x_seti2, x_augi, x_setf, x_exp, x_ret, x_ife, x_frz, x_retN, x_pass, x_cont, x_nil, x_cons, getD_list, getD_tup, rd_int, rd_bl, rd_non, rd_str, rd_list, rd_tup, rd_fz, rd_dict, len_list, len_tup, abs_int, min2_int, max2_int, int_int, list_list, list_tup, mk_f, mk_t, truth_bl', truth_int', truth_list', tst_some, line0, line1, line2, line3, line4, line5, line6, line7, line8, asg, optC, optD, optI, isAbs, src_list, src_tup, src_enum, setI, body1, wipeE, List.map_cons, List.map_nil, List.length_cons, List.length_nil, List.replicate, List.cons_append, List.nil_append, List.getElem?_cons_zero, List.getElem?_cons_succ, List.set_cons_zero, List.set_cons_succ, List.zip_cons_cons, List.zip_nil_right, List.foldl_cons, List.foldl_nil, Nat.reduceAdd, Nat.reduceSub, bop_add_int, bop_sub_int, cop_lt_int, cop_gt_int, cop_le_int, cop_ge_int, cop_eq_int, cop_ne_int, atI_c0, atI_c1, atI_c2, atI_c3, if_true, Bool.false_eq_true, if_false, ↓reduceIte, Bool.not_true, Bool.not_false, src_rng1 (n := m) (show m < 2 ^ 62 by omega)]
  rw [if_pos (by rw [List.length_map, List.length_range]; unfold LINE; omega), compR_mapT (g := fun k : Nat => .str (poolAt ((tn + 5 * (k : Int)) % 12))) fun k _ => ?_]
  · simp only [mk_f, List.map_map]
    rfl
  · have h0 := Int.emod_nonneg (tn + 5 * (k : Int)) (show (12 : Int) ≠ 0 by decide)
    have h1 := Int.emod_lt_of_pos (tn + 5 * (k : Int)) (show (0 : Int) < 12 by decide)
    have hp := (pool_get h0 h1).1
    simp only [turnF]
    simp only [e_var, e_non, e_bl, e_int, e_str, e_bin, e_neg, e_not, e_and, e_or, e_cmp, e_chain, e_isN, e_ife, e_tup, e_lst, e_dct, e_idx, e_slc, e_blt, e_isi, e_fld, e_app, e_ext, e_idxof, e_dget, e_nil, e_cons, x_setv, x_sett, x_setp, x_seti, x_seti2, x_augi, x_setf, x_exp, x_ret, x_ife, x_frz, x_retN, x_pass, x_cont, x_nil, x_cons, getD_list, getD_tup, rd_int, rd_bl, rd_non, rd_str, rd_list, rd_tup, rd_fz, rd_dict, len_list, len_tup, abs_int, min2_int, max2_int, int_int, list_list, list_tup, mk_f, mk_t, truth_bl', truth_int', truth_list', tst_some, line0, line1, line2, line3, line4, line5, line6, line7, line8, asg, optC, optD, optI, isAbs, src_list, src_tup, src_enum, setI, body1, wipeE, List.map_cons, List.map_nil, List.length_cons, List.length_nil, List.replicate, List.cons_append, List.nil_append, List.getElem?_cons_zero, List.getElem?_cons_succ, List.set_cons_zero, List.set_cons_succ, List.zip_cons_cons, List.zip_nil_right, List.foldl_cons, List.foldl_nil, Nat.reduceAdd, Nat.reduceSub, bop_add_int, bop_sub_int, cop_lt_int, cop_gt_int, cop_le_int, cop_ge_int, cop_eq_int, cop_ne_int, atI_c0, atI_c1, atI_c2, atI_c3, if_true, Bool.false_eq_true, if_false, ↓reduceIte, Bool.not_true, Bool.not_false, bop_mul_intL (show (5 : Int).natAbs < 2 ^ 64 by decide), bop_mod_int (show (0 : Int) < 12 by decide), hp]
theorem dp_kin {p : Tx × Tx} (h : p.1 ∈ pool ∧ p.2 ∈ pool) : dp (eKin p) = 1 := by
  unfold eKin
  simp only [dp, dpL]
  have h1 := dp_str (pool_ok _ h.1)
  have h2 := dp_str (pool_ok _ h.2)
  rw [dp] at h1 h2
  omega
theorem eqv_kin (p q : Tx × Tx) : PySem.PyData.eqv (pd (eKin p)) (pd (eKin q)) = decide (p = q) := by
  unfold eKin
  simp only [pd, pdL, PySem.PyData.eqv, PySem.PyData.eqvAll, Bool.and_true]
  rw [Bool.eq_iff_iff, Bool.and_eq_true, decide_eq_true_eq, beq_iff_eq, beq_iff_eq]
  constructor
  · intro h
    exact Prod.ext h.1 h.2
  · intro h
    rw [h]
    exact ⟨rfl, rfl⟩
def okK (kin : List (Tx × Tx)) : Prop := ∀ p ∈ kin, p.1 ∈ pool ∧ p.2 ∈ pool
theorem nin_kin {p : Tx × Tx} {kin : List (Tx × Tx)} (h : p.1 ∈ pool ∧ p.2 ∈ pool) (hk : okK kin) : cop .nin (.tup [.str p.1, .str p.2]) (.list (kin.map eKin)) = some (!decide (p ∈ kin)) := by
  rw [cop_nin_list, show D.tup [.str p.1, .str p.2] = eKin p from rfl, memD_map (by rw [dp_kin h]; decide) (fun y hy => by rw [dp_kin (hk y hy)]; decide) fun y _ => eqv_kin y p, Option.map_some]
  congr 2
  exact decide_eq_decide.mpr Iff.rfl
abbrev bodyK : SB := (.cons (.setp 20 21 (.idx (.var 3) (.call .tr tk (.cons (.var 0) (.cons (.int 12) .nil)))) (.idx (.var 3) (.call .tr tk (.cons (.var 0) (.cons (.int 12) .nil))))) (.cons (.ife (.and (.cmp .lt (.var 20) (.var 21)) (.cmp .nin (.tup (.cons (.var 20) (.cons (.var 21) .nil))) (.var 8))) (.cons (.exp (.app (.var 8) (.tup (.cons (.var 20) (.cons (.var 21) .nil))))) .nil) .nil) .nil))
theorem kin_turn {N : Sto} {fx : List (Nat × List D)} {ma mm tn : Int} {cl : Bool} {x6 x9 x20 x21 : Option D} {ms : List Tx} {L : Nat} {kin : List (Tx × Tx)} (i : Nat) (h : WS M0 N s c ((L, kin.map eKin) :: fx)) (hk : okK kin) (hl : kin.length ≤ i) (hi : i ≤ 14) :
    ∃ (N' : Sto) (kin' : List (Tx × Tx)) (y20 y21 : Option D), turnB (run fns cls (n + 1)) cls (.nm 9) bodyK (.int (i : Nat)) (we s ma mm tn cl x6 ms (some (.loc L)) x9 none none none none none none none none none none x20 x21 none none none none) N =
      some (.next, we s ma mm tn cl x6 ms (some (.loc L)) (some (.int (i : Nat))) none none none none none none none none none none y20 y21 none none none none, N') ∧ WS M0 N' s c ((L, kin'.map eKin) :: fx) ∧ okK kin' ∧ kin'.length ≤ i + 1 := by
  obtain ⟨a, N1, e1, a0, a1, h1, _⟩ := h.take (TK n) 12 (by decide) (by decide)
  obtain ⟨b, N2, e2, b0, b1, h2, _⟩ := h1.take (TK n) 12 (by decide) (by decide)
  obtain ⟨pa, ma1⟩ := pool_get a0 a1
  obtain ⟨pb, mb1⟩ := pool_get b0 b1
  have hlt := cop_lt_str (pool_ok _ ma1) (pool_ok _ mb1)
  have hrow := h2.hd
  have hnin := nin_kin (p := (poolAt a, poolAt b)) ⟨ma1, mb1⟩ hk
  have hrd : rd N2 (.loc L) = .list (kin.map eKin) := rd_loc hrow
  have step1 : exec (run fns cls (n + 1)) cls (.setp 20 21 (.idx (.var 3) (.call .tr tk (.cons (.var 0) (.cons (.int 12) .nil)))) (.idx (.var 3) (.call .tr tk (.cons (.var 0) (.cons (.int 12) .nil))))) (we s ma mm tn cl x6 ms (some (.loc L)) (some (.int (i : Nat))) none none none none none none none none none none x20 x21 none none none none) N =
      some (.next, we s ma mm tn cl x6 ms (some (.loc L)) (some (.int (i : Nat))) none none none none none none none none none none (some (.str (poolAt a))) (some (.str (poolAt b))) none none none none, N2) := by
    simp only [e_var, e_non, e_bl, e_int, e_str, e_bin, e_neg, e_not, e_and, e_or, e_cmp, e_chain, e_isN, e_ife, e_tup, e_lst, e_dct, e_idx, e_slc, e_blt, e_isi, e_fld, e_app, e_ext, e_idxof, e_dget, e_nil, e_cons, x_setv, x_sett, x_setp, x_seti, x_seti2, x_augi, x_setf, x_exp, x_ret, x_ife, x_frz, x_retN, x_pass, x_cont, x_nil, x_cons, getD_list, getD_tup, rd_int, rd_bl, rd_non, rd_str, rd_list, rd_tup, rd_fz, rd_dict, len_list, len_tup, abs_int, min2_int, max2_int, int_int, list_list, list_tup, mk_f, mk_t, truth_bl', truth_int', truth_list', tst_some, line0, line1, line2, line3, line4, line5, line6, line7, line8, asg, optC, optD, optI, isAbs, src_list, src_tup, src_enum, setI, body1, wipeE, List.map_cons, List.map_nil, List.length_cons, List.length_nil, List.replicate, List.cons_append, List.nil_append, List.getElem?_cons_zero, List.getElem?_cons_succ, List.set_cons_zero, List.set_cons_succ, List.zip_cons_cons, List.zip_nil_right, List.foldl_cons, List.foldl_nil, Nat.reduceAdd, Nat.reduceSub, bop_add_int, bop_sub_int, cop_lt_int, cop_gt_int, cop_le_int, cop_ge_int, cop_eq_int, cop_ne_int, atI_c0, atI_c1, atI_c2, atI_c3, if_true, Bool.false_eq_true, if_false, ↓reduceIte, Bool.not_true, Bool.not_false, e_call, e1, pa, e2, pb]
  by_cases hc : (poolAt a).cps.toList < (poolAt b).cps.toList ∧ (poolAt a, poolAt b) ∉ kin
  · refine ⟨N2.set L (.list ((kin ++ [(poolAt a, poolAt b)]).map eKin)), kin ++ [(poolAt a, poolAt b)], some (.str (poolAt a)), some (.str (poolAt b)), ?_, h2.set (below_of fun _ => rfl), fun p hp => ?_, by rw [List.length_append]; simp; omega⟩
    · rw [turn_nm]
      refine (xnext step1).trans ?_
      simp only [e_var, e_non, e_bl, e_int, e_str, e_bin, e_neg, e_not, e_and, e_or, e_cmp, e_chain, e_isN, e_ife, e_tup, e_lst, e_dct, e_idx, e_slc, e_blt, e_isi, e_fld, e_app, e_ext, e_idxof, e_dget, e_nil, e_cons, x_setv, x_sett, x_setp, x_seti, x_seti2, x_augi, x_setf, x_exp, x_ret, x_ife, x_frz, x_retN, x_pass, x_cont, x_nil, x_cons, getD_list, getD_tup, rd_int, rd_bl, rd_non, rd_str, rd_list, rd_tup, rd_fz, rd_dict, len_list, len_tup, abs_int, min2_int, max2_int, int_int, list_list, list_tup, mk_f, mk_t, truth_bl', truth_int', truth_list', tst_some, line0, line1, line2, line3, line4, line5, line6, line7, line8, asg, optC, optD, optI, isAbs, src_list, src_tup, src_enum, setI, body1, wipeE, List.map_cons, List.map_nil, List.length_cons, List.length_nil, List.replicate, List.cons_append, List.nil_append, List.getElem?_cons_zero, List.getElem?_cons_succ, List.set_cons_zero, List.set_cons_succ, List.zip_cons_cons, List.zip_nil_right, List.foldl_cons, List.foldl_nil, Nat.reduceAdd, Nat.reduceSub, bop_add_int, bop_sub_int, cop_lt_int, cop_gt_int, cop_le_int, cop_ge_int, cop_eq_int, cop_ne_int, atI_c0, atI_c1, atI_c2, atI_c3, if_true, Bool.false_eq_true, if_false, ↓reduceIte, Bool.not_true, Bool.not_false, hlt, decide_eq_true hc.1, hrd, hnin, decide_eq_false hc.2, hrow, List.length_map]
      rw [if_pos (by unfold LINE; omega), List.map_append]
      rfl
    · rcases List.mem_append.mp hp with z | z
      · exact hk p z
      · rw [List.mem_singleton.mp z]
        exact ⟨ma1, mb1⟩
  · refine ⟨N2, kin, some (.str (poolAt a)), some (.str (poolAt b)), ?_, h2, hk, Nat.le_succ_of_le hl⟩
    rw [turn_nm]
    refine (xnext step1).trans ?_
    by_cases hc1 : (poolAt a).cps.toList < (poolAt b).cps.toList
    · have hc2 : (poolAt a, poolAt b) ∈ kin := Decidable.of_not_not fun z => hc ⟨hc1, z⟩
      simp only [e_var, e_non, e_bl, e_int, e_str, e_bin, e_neg, e_not, e_and, e_or, e_cmp, e_chain, e_isN, e_ife, e_tup, e_lst, e_dct, e_idx, e_slc, e_blt, e_isi, e_fld, e_app, e_ext, e_idxof, e_dget, e_nil, e_cons, x_setv, x_sett, x_setp, x_seti, x_seti2, x_augi, x_setf, x_exp, x_ret, x_ife, x_frz, x_retN, x_pass, x_cont, x_nil, x_cons, getD_list, getD_tup, rd_int, rd_bl, rd_non, rd_str, rd_list, rd_tup, rd_fz, rd_dict, len_list, len_tup, abs_int, min2_int, max2_int, int_int, list_list, list_tup, mk_f, mk_t, truth_bl', truth_int', truth_list', tst_some, line0, line1, line2, line3, line4, line5, line6, line7, line8, asg, optC, optD, optI, isAbs, src_list, src_tup, src_enum, setI, body1, wipeE, List.map_cons, List.map_nil, List.length_cons, List.length_nil, List.replicate, List.cons_append, List.nil_append, List.getElem?_cons_zero, List.getElem?_cons_succ, List.set_cons_zero, List.set_cons_succ, List.zip_cons_cons, List.zip_nil_right, List.foldl_cons, List.foldl_nil, Nat.reduceAdd, Nat.reduceSub, bop_add_int, bop_sub_int, cop_lt_int, cop_gt_int, cop_le_int, cop_ge_int, cop_eq_int, cop_ne_int, atI_c0, atI_c1, atI_c2, atI_c3, if_true, Bool.false_eq_true, if_false, ↓reduceIte, Bool.not_true, Bool.not_false, hlt, decide_eq_true hc1, hrd, hnin, decide_eq_true hc2]
    · simp only [e_var, e_non, e_bl, e_int, e_str, e_bin, e_neg, e_not, e_and, e_or, e_cmp, e_chain, e_isN, e_ife, e_tup, e_lst, e_dct, e_idx, e_slc, e_blt, e_isi, e_fld, e_app, e_ext, e_idxof, e_dget, e_nil, e_cons, x_setv, x_sett, x_setp, x_seti, x_seti2, x_augi, x_setf, x_exp, x_ret, x_ife, x_frz, x_retN, x_pass, x_cont, x_nil, x_cons, getD_list, getD_tup, rd_int, rd_bl, rd_non, rd_str, rd_list, rd_tup, rd_fz, rd_dict, len_list, len_tup, abs_int, min2_int, max2_int, int_int, list_list, list_tup, mk_f, mk_t, truth_bl', truth_int', truth_list', tst_some, line0, line1, line2, line3, line4, line5, line6, line7, line8, asg, optC, optD, optI, isAbs, src_list, src_tup, src_enum, setI, body1, wipeE, List.map_cons, List.map_nil, List.length_cons, List.length_nil, List.replicate, List.cons_append, List.nil_append, List.getElem?_cons_zero, List.getElem?_cons_succ, List.set_cons_zero, List.set_cons_succ, List.zip_cons_cons, List.zip_nil_right, List.foldl_cons, List.foldl_nil, Nat.reduceAdd, Nat.reduceSub, bop_add_int, bop_sub_int, cop_lt_int, cop_gt_int, cop_le_int, cop_ge_int, cop_eq_int, cop_ne_int, atI_c0, atI_c1, atI_c2, atI_c3, if_true, Bool.false_eq_true, if_false, ↓reduceIte, Bool.not_true, Bool.not_false, hlt, decide_eq_false hc1]
theorem kin_loop {N : Sto} {fx : List (Nat × List D)} {ma mm tn : Int} {cl : Bool} {x6 : Option D} {ms : List Tx} {L : Nat} (k : Nat) (hk : k ≤ 14) (h : WS M0 N s c ((L, []) :: fx)) :
    ∃ (N' : Sto) (kin : List (Tx × Tx)) (y9 y20 y21 : Option D), forP (turnB (run fns cls (n + 1)) cls (.nm 9) bodyK) ((List.range k).map fun i : Nat => D.int i) (we s ma mm tn cl x6 ms (some (.loc L)) none none none none none none none none none none none none none none none none none) N =
      some (.next, we s ma mm tn cl x6 ms (some (.loc L)) y9 none none none none none none none none none none y20 y21 none none none none, N') ∧ WS M0 N' s c ((L, kin.map eKin) :: fx) ∧ okK kin ∧ kin.length ≤ k := by
  obtain ⟨env', N', e1, kin, y9, y20, y21, rfl, w1, w2, w3⟩ := forP_J (f := turnB (run fns cls (n + 1)) cls (.nm 9) bodyK) (e := fun i : Nat => D.int i) (l := List.range k)
    (J := fun i env N => ∃ kin y9 y20 y21, env = we s ma mm tn cl x6 ms (some (.loc L)) y9 none none none none none none none none none none y20 y21 none none none none ∧ WS M0 N s c ((L, kin.map eKin) :: fx) ∧ okK kin ∧ kin.length ≤ i)
    (fun i a hi env N ⟨kin, y9, y20, y21, he, w1, w2, w3⟩ => by
      have hlt := (List.getElem?_eq_some_iff.mp hi).1
      rw [List.length_range] at hlt
      have ea : a = i := by
        rw [List.getElem?_range hlt] at hi
        exact (Option.some.inj hi).symm
      subst he ea
      obtain ⟨N', kin', z20, z21, e, w4, w5, w6⟩ := kin_turn (n := n) (x9 := y9) (x20 := y20) (x21 := y21) a w1 w2 w3 (by omega)
      exact ⟨.next, _, N', e, .inl rfl, kin', _, z20, z21, rfl, w4, w5, w6⟩) (we s ma mm tn cl x6 ms (some (.loc L)) none none none none none none none none none none none none none none none none none) N ⟨[], none, none, none, rfl, h, (fun p hp => nomatch hp), Nat.le_refl 0⟩
  rw [List.length_range] at w3
  exact ⟨N', kin, y9, y20, y21, e1, w1, w2, w3⟩
end
end K34

/-! K34n: the world: asks. -/
namespace K34
open MP CM
section
variable {n : Nat} {M0 : Sto} {s c : Nat}
def okA (a : Ask) : Prop := a.grantee ∈ pool ∧ (a.purpose = "p" ∨ a.purpose = "r") ∧ a.amounts.length ≤ 4 ∧ a.amounts ≠ [] ∧ ∀ n ∈ a.amounts, 1 ≤ n ∧ n ≤ 20
abbrev bodyA : SB := (.cons (.setv 16 (.blt false .tuple (.cons (.comp false [25] (.nm 25) .rng1 (.bin false .add (.int 1) (.call .tr tk (.cons (.var 0) (.cons (.int 4) .nil)))) .absent .absent (.bin false .add (.int 1) (.call .tr tk (.cons (.var 0) (.cons (.idx (.lst false (.cons (.int 3) (.cons (.int 20) .nil))) (.call .tr tk (.cons (.var 0) (.cons (.int 2) .nil)))) .nil))))) .nil))) (.cons (.setv 13 (.ife (.cmp .eq (.call .tr tk (.cons (.var 0) (.cons (.int 6) .nil))) (.int 0)) (.str "r") (.str "p"))) (.cons (.setv 17 (.ife (.var 5) (.idx (.var 3) (.bin false .mod (.bin false .add (.var 4) (.bin false .mul (.int 5) (.bin false .add (.var 6) (.call .tr tk (.cons (.var 0) (.cons (.bin false .sub (.int 12) (.var 6)) .nil)))))) (.int 12))) (.idx (.var 3) (.call .tr tk (.cons (.var 0) (.cons (.int 12) .nil)))))) (.cons (.exp (.app (.var 10) (.tup (.cons (.idx (.var 11) (.var 9)) (.cons (.var 17) (.cons (.var 13) (.cons (.var 16) (.cons (.tup (.cons (.tup (.cons (.str "all") (.cons (.int 1) .nil))) .nil)) .nil)))))))) .nil))))
abbrev wa (s : Nat) (ma mm tn : Int) (cl : Bool) (m : Nat) (ms : List Tx) (L8 L10 : Nat) (x9 x13 x16 x17 x20 x21 : Option D) : MP.Env := we s ma mm tn cl (some (.int (m : Nat))) ms (some (.loc L8)) x9 (some (.loc L10)) (some namesD) none x13 none none x16 x17 none none x20 x21 none none none none
theorem ask_turn {N : Sto} {fx : List (Nat × List D)} {ma mm tn : Int} {cl : Bool} {m : Nat} {ms : List Tx} {L8 L10 : Nat} {asks : List Ask} {x9 x13 x16 x17 x20 x21 : Option D} (t0 : 0 ≤ tn) (t1 : tn < 12) (hm : m ≤ 9) (i : Nat) (h : WS M0 N s c ((L10, asks.map eAsk) :: fx)) (hl : asks.length = i) (hi : i < 8) :
    ∃ (N' : Sto) (a : Ask) (y13 y16 y17 : Option D), turnB (run fns cls (n + 1)) cls (.nm 9) bodyA (.int (i : Nat)) (wa s ma mm tn cl m ms L8 L10 x9 x13 x16 x17 x20 x21) N =
      some (.next, wa s ma mm tn cl m ms L8 L10 (some (.int (i : Nat))) y13 y16 y17 x20 x21, N') ∧ WS M0 N' s c ((L10, (asks ++ [a]).map eAsk) :: fx) ∧ okA a ∧ names[i]? = some a.name := by
  obtain ⟨k, N1, e1, k0, k1, h1, _⟩ := h.take (TK n) 4 (by decide) (by decide)
  obtain ⟨kn, rfl⟩ := Int.eq_ofNat_of_zero_le k0
  -- the amounts
  obtain ⟨am, N2, e2, am1, am2, h2⟩ := compR_J (f := turnF (run fns cls (n + 1)) cls [25] (.nm 25) .absent (.bin false .add (.int 1) (.call .tr tk (.cons (.var 0) (.cons (.idx (.lst false (.cons (.int 3) (.cons (.int 20) .nil))) (.call .tr tk (.cons (.var 0) (.cons (.int 2) .nil)))) .nil)))) (wa s ma mm tn cl m ms L8 L10 (some (.int (i : Nat))) x13 x16 x17 x20 x21))
    (e := fun j : Nat => D.int j) (g := D.int) (J := fun N => WS M0 N s c ((L10, asks.map eAsk) :: fx)) (Y := fun _ v => 1 ≤ v ∧ v ≤ 20) (l := List.range (1 + kn)) (fun j _ N hN => by
      obtain ⟨b, Na, ea, b0, b1, ha, _⟩ := hN.take (TK n) 2 (by decide) (by decide)
      have hmx : ∃ z : Int, L2.atI [D.int 3, D.int 20] b = some (.int z) ∧ 0 < z ∧ z ≤ 20 := by
        rcases (show b = 0 ∨ b = 1 by omega) with w | w
        · subst w; exact ⟨3, rfl, by decide, by decide⟩
        · subst w; exact ⟨20, rfl, by decide, by decide⟩
      obtain ⟨z, hz, z0, z1⟩ := hmx
      obtain ⟨v, Nb, eb, v0, v1, hb, _⟩ := ha.take (TK n) z z0 (by omega)
      refine ⟨1 + v, Nb, ?_, ⟨by omega, by omega⟩, hb⟩
      simp only [turnF]
      simp only [e_var, e_non, e_bl, e_int, e_str, e_bin, e_neg, e_not, e_and, e_or, e_cmp, e_chain, e_isN, e_ife, e_tup, e_lst, e_dct, e_idx, e_slc, e_blt, e_isi, e_fld, e_app, e_ext, e_idxof, e_dget, e_nil, e_cons, x_setv, x_sett, x_setp, x_seti, x_seti2, x_augi, x_setf, x_exp, x_ret, x_ife, x_frz, x_retN, x_pass, x_cont, x_nil, x_cons, getD_list, getD_tup, rd_int, rd_bl, rd_non, rd_str, rd_list, rd_tup, rd_fz, rd_dict, len_list, len_tup, abs_int, min2_int, max2_int, int_int, list_list, list_tup, mk_f, mk_t, truth_bl', truth_int', truth_list', tst_some, line0, line1, line2, line3, line4, line5, line6, line7, line8, asg, optC, optD, optI, isAbs, src_list, src_tup, src_enum, setI, body1, wipeE, List.map_cons, List.map_nil, List.length_cons, List.length_nil, List.replicate, List.cons_append, List.nil_append, List.getElem?_cons_zero, List.getElem?_cons_succ, List.set_cons_zero, List.set_cons_succ, List.zip_cons_cons, List.zip_nil_right, List.foldl_cons, List.foldl_nil, Nat.reduceAdd, Nat.reduceSub, bop_add_int, bop_sub_int, cop_lt_int, cop_gt_int, cop_le_int, cop_ge_int, cop_eq_int, cop_ne_int, atI_c0, atI_c1, atI_c2, atI_c3, if_true, Bool.false_eq_true, if_false, ↓reduceIte, Bool.not_true, Bool.not_false, e_call, ea, hz, eb]) N1 h1
  have eAm : ev (run fns cls (n + 1)) cls (.comp false [25] (.nm 25) .rng1 (.bin false .add (.int 1) (.call .tr tk (.cons (.var 0) (.cons (.int 4) .nil)))) .absent .absent (.bin false .add (.int 1) (.call .tr tk (.cons (.var 0) (.cons (.idx (.lst false (.cons (.int 3) (.cons (.int 20) .nil))) (.call .tr tk (.cons (.var 0) (.cons (.int 2) .nil)))) .nil))))) (wa s ma mm tn cl m ms L8 L10 (some (.int (i : Nat))) x13 x16 x17 x20 x21) N = some (.list (am.map D.int), N2) := by
    rw [e_compI]
    have e1' : (1 + (kn : Int)) = ((1 + kn : Nat) : Int) := by omega
    simp only [e_var, e_non, e_bl, e_int, e_str, e_bin, e_neg, e_not, e_and, e_or, e_cmp, e_chain, e_isN, e_ife, e_tup, e_lst, e_dct, e_idx, e_slc, e_blt, e_isi, e_fld, e_app, e_ext, e_idxof, e_dget, e_nil, e_cons, x_setv, x_sett, x_setp, x_seti, x_seti2, x_augi, x_setf, x_exp, x_ret, x_ife, x_frz, x_retN, x_pass, x_cont, x_nil, x_cons, getD_list, getD_tup, rd_int, rd_bl, rd_non, rd_str, rd_list, rd_tup, rd_fz, rd_dict, len_list, len_tup, abs_int, min2_int, max2_int, int_int, list_list, list_tup, mk_f, mk_t, truth_bl', truth_int', truth_list', tst_some, line0, line1, line2, line3, line4, line5, line6, line7, line8, asg, optC, optD, optI, isAbs, src_list, src_tup, src_enum, setI, body1, wipeE, List.map_cons, List.map_nil, List.length_cons, List.length_nil, List.replicate, List.cons_append, List.nil_append, List.getElem?_cons_zero, List.getElem?_cons_succ, List.set_cons_zero, List.set_cons_succ, List.zip_cons_cons, List.zip_nil_right, List.foldl_cons, List.foldl_nil, Nat.reduceAdd, Nat.reduceSub, bop_add_int, bop_sub_int, cop_lt_int, cop_gt_int, cop_le_int, cop_ge_int, cop_eq_int, cop_ne_int, atI_c0, atI_c1, atI_c2, atI_c3, if_true, Bool.false_eq_true, if_false, ↓reduceIte, Bool.not_true, Bool.not_false, e_call, e1, e1', src_rng1 (n := 1 + kn) (show 1 + kn < 2 ^ 62 by omega)]
    rw [if_pos (by rw [List.length_map, List.length_range]; unfold LINE; omega), e2]
    try rfl
  obtain ⟨b, N3, e3, b0, b1, h3, _⟩ := h2.take (TK n) 6 (by decide) (by decide)
  -- the grantee
  have gr : ∃ (g : Tx) (N4 : Sto), g ∈ pool ∧ WS M0 N4 s c ((L10, asks.map eAsk) :: fx) ∧ ∀ y13 y16, ev (run fns cls (n + 1)) cls (.ife (.var 5) (.idx (.var 3) (.bin false .mod (.bin false .add (.var 4) (.bin false .mul (.int 5) (.bin false .add (.var 6) (.call .tr tk (.cons (.var 0) (.cons (.bin false .sub (.int 12) (.var 6)) .nil)))))) (.int 12))) (.idx (.var 3) (.call .tr tk (.cons (.var 0) (.cons (.int 12) .nil)))))
      (wa s ma mm tn cl m ms L8 L10 (some (.int (i : Nat))) y13 y16 x17 x20 x21) N3 = some (.str g, N4) := by
    cases cl with
    | true =>
      obtain ⟨v, N4, e4, v0, v1, h4, _⟩ := h3.take (TK n) (12 - (m : Int)) (by omega) (by omega)
      have g0 := Int.emod_nonneg (tn + 5 * ((m : Int) + v)) (show (12 : Int) ≠ 0 by decide)
      have g1 := Int.emod_lt_of_pos (tn + 5 * ((m : Int) + v)) (show (0 : Int) < 12 by decide)
      obtain ⟨p1, p2⟩ := pool_get g0 g1
      refine ⟨_, N4, p2, h4, fun y13 y16 => ?_⟩
      simp only [e_var, e_non, e_bl, e_int, e_str, e_bin, e_neg, e_not, e_and, e_or, e_cmp, e_chain, e_isN, e_ife, e_tup, e_lst, e_dct, e_idx, e_slc, e_blt, e_isi, e_fld, e_app, e_ext, e_idxof, e_dget, e_nil, e_cons, x_setv, x_sett, x_setp, x_seti, x_seti2, x_augi, x_setf, x_exp, x_ret, x_ife, x_frz, x_retN, x_pass, x_cont, x_nil, x_cons, getD_list, getD_tup, rd_int, rd_bl, rd_non, rd_str, rd_list, rd_tup, rd_fz, rd_dict, len_list, len_tup, abs_int, min2_int, max2_int, int_int, list_list, list_tup, mk_f, mk_t, truth_bl', truth_int', truth_list', tst_some, line0, line1, line2, line3, line4, line5, line6, line7, line8, asg, optC, optD, optI, isAbs, src_list, src_tup, src_enum, setI, body1, wipeE, List.map_cons, List.map_nil, List.length_cons, List.length_nil, List.replicate, List.cons_append, List.nil_append, List.getElem?_cons_zero, List.getElem?_cons_succ, List.set_cons_zero, List.set_cons_succ, List.zip_cons_cons, List.zip_nil_right, List.foldl_cons, List.foldl_nil, Nat.reduceAdd, Nat.reduceSub, bop_add_int, bop_sub_int, cop_lt_int, cop_gt_int, cop_le_int, cop_ge_int, cop_eq_int, cop_ne_int, atI_c0, atI_c1, atI_c2, atI_c3, if_true, Bool.false_eq_true, if_false, ↓reduceIte, Bool.not_true, Bool.not_false, e_call, e4, bop_mul_intL (show (5 : Int).natAbs < 2 ^ 64 by decide), bop_mod_int (show (0 : Int) < 12 by decide), p1]
    | false =>
      obtain ⟨v, N4, e4, v0, v1, h4, _⟩ := h3.take (TK n) 12 (by decide) (by decide)
      obtain ⟨p1, p2⟩ := pool_get v0 v1
      refine ⟨_, N4, p2, h4, fun y13 y16 => ?_⟩
      simp only [e_var, e_non, e_bl, e_int, e_str, e_bin, e_neg, e_not, e_and, e_or, e_cmp, e_chain, e_isN, e_ife, e_tup, e_lst, e_dct, e_idx, e_slc, e_blt, e_isi, e_fld, e_app, e_ext, e_idxof, e_dget, e_nil, e_cons, x_setv, x_sett, x_setp, x_seti, x_seti2, x_augi, x_setf, x_exp, x_ret, x_ife, x_frz, x_retN, x_pass, x_cont, x_nil, x_cons, getD_list, getD_tup, rd_int, rd_bl, rd_non, rd_str, rd_list, rd_tup, rd_fz, rd_dict, len_list, len_tup, abs_int, min2_int, max2_int, int_int, list_list, list_tup, mk_f, mk_t, truth_bl', truth_int', truth_list', tst_some, line0, line1, line2, line3, line4, line5, line6, line7, line8, asg, optC, optD, optI, isAbs, src_list, src_tup, src_enum, setI, body1, wipeE, List.map_cons, List.map_nil, List.length_cons, List.length_nil, List.replicate, List.cons_append, List.nil_append, List.getElem?_cons_zero, List.getElem?_cons_succ, List.set_cons_zero, List.set_cons_succ, List.zip_cons_cons, List.zip_nil_right, List.foldl_cons, List.foldl_nil, Nat.reduceAdd, Nat.reduceSub, bop_add_int, bop_sub_int, cop_lt_int, cop_gt_int, cop_le_int, cop_ge_int, cop_eq_int, cop_ne_int, atI_c0, atI_c1, atI_c2, atI_c3, if_true, Bool.false_eq_true, if_false, ↓reduceIte, Bool.not_true, Bool.not_false, e_call, e4, p1]
  obtain ⟨g, N4, hg, h4, eg⟩ := gr
  have hnl : names.length = 8 := rfl
  have hn : names[i]? = some names[i] := List.getElem?_eq_getElem (by omega)
  have hat : L2.atI (names.map D.str) (i : Int) = some (.str names[i]) := atI_map (by omega) (by rw [Int.toNat_natCast]; exact hn)
  have hrow := h4.hd
  have key : ∀ pr : Tx, (pr = "p" ∨ pr = "r") → exec (run fns cls (n + 1)) cls (.setv 13 (.ife (.cmp .eq (.call .tr tk (.cons (.var 0) (.cons (.int 6) .nil))) (.int 0)) (.str "r") (.str "p"))) (wa s ma mm tn cl m ms L8 L10 (some (.int (i : Nat))) x13 (some (.tup (am.map D.int))) x17 x20 x21) N2 = some (.next, wa s ma mm tn cl m ms L8 L10 (some (.int (i : Nat))) (some (.str pr)) (some (.tup (am.map D.int))) x17 x20 x21, N3) →
      ∃ (N' : Sto) (a : Ask) (y13 y16 y17 : Option D), turnB (run fns cls (n + 1)) cls (.nm 9) bodyA (.int (i : Nat)) (wa s ma mm tn cl m ms L8 L10 x9 x13 x16 x17 x20 x21) N =
        some (.next, wa s ma mm tn cl m ms L8 L10 (some (.int (i : Nat))) y13 y16 y17 x20 x21, N') ∧ WS M0 N' s c ((L10, (asks ++ [a]).map eAsk) :: fx) ∧ okA a ∧ names[i]? = some a.name := by
    intro pr hpr e13
    refine ⟨N4.set L10 (.list ((asks ++ [Ask.mk names[i] g pr am]).map eAsk)), Ask.mk names[i] g pr am, some (.str pr), some (.tup (am.map D.int)), some (.str g), ?_, h4.set (below_of (below_ask _)), ⟨hg, hpr, by show am.length ≤ 4; rw [am1, List.length_range]; omega, fun z => ?_, fun v hv => ?_⟩, hn⟩
    · rw [turn_nm]
      refine (xnext (env1 := wa s ma mm tn cl m ms L8 L10 (some (.int (i : Nat))) x13 (some (.tup (am.map D.int))) x17 x20 x21) (M1 := N2) ?_).trans ?_
      · have := eAm
        simp only [e_var, e_non, e_bl, e_int, e_str, e_bin, e_neg, e_not, e_and, e_or, e_cmp, e_chain, e_isN, e_ife, e_tup, e_lst, e_dct, e_idx, e_slc, e_blt, e_isi, e_fld, e_app, e_ext, e_idxof, e_dget, e_nil, e_cons, x_setv, x_sett, x_setp, x_seti, x_seti2, x_augi, x_setf, x_exp, x_ret, x_ife, x_frz, x_retN, x_pass, x_cont, x_nil, x_cons, getD_list, getD_tup, rd_int, rd_bl, rd_non, rd_str, rd_list, rd_tup, rd_fz, rd_dict, len_list, len_tup, abs_int, min2_int, max2_int, int_int, list_list, list_tup, mk_f, mk_t, truth_bl', truth_int', truth_list', tst_some, line0, line1, line2, line3, line4, line5, line6, line7, line8, asg, optC, optD, optI, isAbs, src_list, src_tup, src_enum, setI, body1, wipeE, List.map_cons, List.map_nil, List.length_cons, List.length_nil, List.replicate, List.cons_append, List.nil_append, List.getElem?_cons_zero, List.getElem?_cons_succ, List.set_cons_zero, List.set_cons_succ, List.zip_cons_cons, List.zip_nil_right, List.foldl_cons, List.foldl_nil, Nat.reduceAdd, Nat.reduceSub, bop_add_int, bop_sub_int, cop_lt_int, cop_gt_int, cop_le_int, cop_ge_int, cop_eq_int, cop_ne_int, atI_c0, atI_c1, atI_c2, atI_c3, if_true, Bool.false_eq_true, if_false, ↓reduceIte, Bool.not_true, Bool.not_false, this, tuple_list]
      refine (xnext e13).trans ?_
      refine (xnext (env1 := wa s ma mm tn cl m ms L8 L10 (some (.int (i : Nat))) (some (.str pr)) (some (.tup (am.map D.int))) (some (.str g)) x20 x21) (M1 := N4) ?_).trans ?_
      · rw [x_setv, eg]
        rfl
      · simp only [e_var, e_non, e_bl, e_int, e_str, e_bin, e_neg, e_not, e_and, e_or, e_cmp, e_chain, e_isN, e_ife, e_tup, e_lst, e_dct, e_idx, e_slc, e_blt, e_isi, e_fld, e_app, e_ext, e_idxof, e_dget, e_nil, e_cons, x_setv, x_sett, x_setp, x_seti, x_seti2, x_augi, x_setf, x_exp, x_ret, x_ife, x_frz, x_retN, x_pass, x_cont, x_nil, x_cons, getD_list, getD_tup, rd_int, rd_bl, rd_non, rd_str, rd_list, rd_tup, rd_fz, rd_dict, len_list, len_tup, abs_int, min2_int, max2_int, int_int, list_list, list_tup, mk_f, mk_t, truth_bl', truth_int', truth_list', tst_some, line0, line1, line2, line3, line4, line5, line6, line7, line8, asg, optC, optD, optI, isAbs, src_list, src_tup, src_enum, setI, body1, wipeE, List.map_cons, List.map_nil, List.length_cons, List.length_nil, List.replicate, List.cons_append, List.nil_append, List.getElem?_cons_zero, List.getElem?_cons_succ, List.set_cons_zero, List.set_cons_succ, List.zip_cons_cons, List.zip_nil_right, List.foldl_cons, List.foldl_nil, Nat.reduceAdd, Nat.reduceSub, bop_add_int, bop_sub_int, cop_lt_int, cop_gt_int, cop_le_int, cop_ge_int, cop_eq_int, cop_ne_int, atI_c0, atI_c1, atI_c2, atI_c3, if_true, Bool.false_eq_true, if_false, ↓reduceIte, Bool.not_true, Bool.not_false, hat, hrow, List.length_map]
        rw [if_pos (by unfold LINE; omega), List.map_append]
        rfl
    · have z2 : am = [] := z
      rw [z2, List.length_range] at am1
      simp at am1
      omega
    · obtain ⟨j, hj⟩ := List.getElem?_of_mem hv
      have hlt := (List.getElem?_eq_some_iff.mp hj).1
      rw [am1] at hlt
      exact am2 j _ v (List.getElem?_eq_getElem hlt) hj
  by_cases hb : b = 0
  · exact key "r" (.inr rfl) (by simp only [e_var, e_non, e_bl, e_int, e_str, e_bin, e_neg, e_not, e_and, e_or, e_cmp, e_chain, e_isN, e_ife, e_tup, e_lst, e_dct, e_idx, e_slc, e_blt, e_isi, e_fld, e_app, e_ext, e_idxof, e_dget, e_nil, e_cons, x_setv, x_sett, x_setp, x_seti, x_seti2, x_augi, x_setf, x_exp, x_ret, x_ife, x_frz, x_retN, x_pass, x_cont, x_nil, x_cons, getD_list, getD_tup, rd_int, rd_bl, rd_non, rd_str, rd_list, rd_tup, rd_fz, rd_dict, len_list, len_tup, abs_int, min2_int, max2_int, int_int, list_list, list_tup, mk_f, mk_t, truth_bl', truth_int', truth_list', tst_some, line0, line1, line2, line3, line4, line5, line6, line7, line8, asg, optC, optD, optI, isAbs, src_list, src_tup, src_enum, setI, body1, wipeE, List.map_cons, List.map_nil, List.length_cons, List.length_nil, List.replicate, List.cons_append, List.nil_append, List.getElem?_cons_zero, List.getElem?_cons_succ, List.set_cons_zero, List.set_cons_succ, List.zip_cons_cons, List.zip_nil_right, List.foldl_cons, List.foldl_nil, Nat.reduceAdd, Nat.reduceSub, bop_add_int, bop_sub_int, cop_lt_int, cop_gt_int, cop_le_int, cop_ge_int, cop_eq_int, cop_ne_int, atI_c0, atI_c1, atI_c2, atI_c3, if_true, Bool.false_eq_true, if_false, ↓reduceIte, Bool.not_true, Bool.not_false, e_call, e3, decide_eq_true hb])
  · exact key "p" (.inl rfl) (by simp only [e_var, e_non, e_bl, e_int, e_str, e_bin, e_neg, e_not, e_and, e_or, e_cmp, e_chain, e_isN, e_ife, e_tup, e_lst, e_dct, e_idx, e_slc, e_blt, e_isi, e_fld, e_app, e_ext, e_idxof, e_dget, e_nil, e_cons, x_setv, x_sett, x_setp, x_seti, x_seti2, x_augi, x_setf, x_exp, x_ret, x_ife, x_frz, x_retN, x_pass, x_cont, x_nil, x_cons, getD_list, getD_tup, rd_int, rd_bl, rd_non, rd_str, rd_list, rd_tup, rd_fz, rd_dict, len_list, len_tup, abs_int, min2_int, max2_int, int_int, list_list, list_tup, mk_f, mk_t, truth_bl', truth_int', truth_list', tst_some, line0, line1, line2, line3, line4, line5, line6, line7, line8, asg, optC, optD, optI, isAbs, src_list, src_tup, src_enum, setI, body1, wipeE, List.map_cons, List.map_nil, List.length_cons, List.length_nil, List.replicate, List.cons_append, List.nil_append, List.getElem?_cons_zero, List.getElem?_cons_succ, List.set_cons_zero, List.set_cons_succ, List.zip_cons_cons, List.zip_nil_right, List.foldl_cons, List.foldl_nil, Nat.reduceAdd, Nat.reduceSub, bop_add_int, bop_sub_int, cop_lt_int, cop_gt_int, cop_le_int, cop_ge_int, cop_eq_int, cop_ne_int, atI_c0, atI_c1, atI_c2, atI_c3, if_true, Bool.false_eq_true, if_false, ↓reduceIte, Bool.not_true, Bool.not_false, e_call, e3, decide_eq_false hb])
theorem ask_loop {N : Sto} {fx : List (Nat × List D)} {ma mm tn : Int} {cl : Bool} {m : Nat} {ms : List Tx} {L8 L10 : Nat} {x9 x20 x21 : Option D} (t0 : 0 ≤ tn) (t1 : tn < 12) (hm : m ≤ 9) (k : Nat) (hk : k ≤ 8) (h : WS M0 N s c ((L10, []) :: fx)) :
    ∃ (N' : Sto) (asks : List Ask) (y9 y13 y16 y17 : Option D), forP (turnB (run fns cls (n + 1)) cls (.nm 9) bodyA) ((List.range k).map fun i : Nat => D.int i) (wa s ma mm tn cl m ms L8 L10 x9 none none none x20 x21) N =
      some (.next, wa s ma mm tn cl m ms L8 L10 y9 y13 y16 y17 x20 x21, N') ∧ WS M0 N' s c ((L10, asks.map eAsk) :: fx) ∧ asks.length = k ∧ (∀ a ∈ asks, okA a) ∧ asks.map (·.name) = names.take k := by
  obtain ⟨env', N', e1, asks, y9, y13, y16, y17, rfl, w1, w2, w3, w4⟩ := forP_J (f := turnB (run fns cls (n + 1)) cls (.nm 9) bodyA) (e := fun i : Nat => D.int i) (l := List.range k)
    (J := fun i env N => ∃ asks y9 y13 y16 y17, env = wa s ma mm tn cl m ms L8 L10 y9 y13 y16 y17 x20 x21 ∧ WS M0 N s c ((L10, asks.map eAsk) :: fx) ∧ asks.length = i ∧ (∀ a ∈ asks, okA a) ∧ asks.map (·.name) = names.take i)
    (fun i a hi env N ⟨asks, y9, y13, y16, y17, he, w1, w2, w3, w4⟩ => by
      have hlt := (List.getElem?_eq_some_iff.mp hi).1
      rw [List.length_range] at hlt
      have ea : a = i := by
        rw [List.getElem?_range hlt] at hi
        exact (Option.some.inj hi).symm
      subst he ea
      obtain ⟨N', b, z13, z16, z17, e, w5, w6, w7⟩ := ask_turn (n := n) (ma := ma) (mm := mm) (cl := cl) (ms := ms) (L8 := L8) (x9 := y9) (x13 := y13) (x16 := y16) (x17 := y17) (x20 := x20) (x21 := x21) t0 t1 hm a w1 w2 (by omega)
      refine ⟨.next, _, N', e, .inl rfl, asks ++ [b], _, z13, z16, z17, rfl, w5, by rw [List.length_append, w2]; rfl, fun x hx => ?_, ?_⟩
      · rcases List.mem_append.mp hx with z | z
        · exact w3 x z
        · rw [List.mem_singleton.mp z]; exact w6
      · rw [List.map_append, w4, take_next w7]
        rfl) (wa s ma mm tn cl m ms L8 L10 x9 none none none x20 x21) N ⟨[], x9, none, none, none, rfl, h, rfl, (fun p hp => nomatch hp), rfl⟩
  rw [List.length_range] at w2 w4
  exact ⟨N', asks, y9, y13, y16, y17, e1, w1, w2, w3, w4⟩
end
end K34

/-! K34o: the world: rounds. -/
namespace K34
open MP CM
section
variable {n : Nat} {M0 : Sto} {s c : Nat}
def okR (r : Rnd) : Prop := (r.purpose = "p" ∨ r.purpose = "r") ∧ 1 ≤ r.budget ∧ r.budget ≤ 100000 ∧ 1 ≤ r.most ∧ r.most ≤ 4 ∧ (r.shut = 0 ∨ r.shut = 1)
abbrev wr (s : Nat) (ma mm tn : Int) (cl : Bool) (x6 : Option D) (ms : List Tx) (L8 : Nat) (x9 : Option D) (asks : List Ask) (x12 x13 x14 x15 x16 x17 x18 x19 x20 x21 x22 x23 : Option D) : MP.Env := we s ma mm tn cl x6 ms (some (.loc L8)) x9 (some (.list (asks.map eAsk))) (some namesD) x12 x13 x14 x15 x16 x17 x18 x19 x20 x21 x22 x23 none none
theorem sum_le : ∀ (l : List Int) (b : Int), (∀ v ∈ l, v ≤ b) → l.sum ≤ b * l.length
  | [], b, _ => by simp
  | v :: l, b, h => by
    have h1 := h v List.mem_cons_self
    have h2 := sum_le l b fun x hx => h x (List.mem_cons_of_mem _ hx)
    rw [List.sum_cons, List.length_cons]
    have : b * ((l.length + 1 : Nat) : Int) = b * (l.length : Int) + b := by
      rw [Int.natCast_add]
      simp [Int.mul_add]
    omega
theorem sum_80 {a : Ask} (h : okA a) : a.amounts.sum ≤ 80 := by
  have h1 := sum_le a.amounts 20 fun v hv => (h.2.2.2.2 v hv).2
  have h2 := h.2.2.1
  omega
abbrev bodyR : SB := (.cons (.ife (.cmp .gt (.call .tr tk (.cons (.var 0) (.cons (.int 8) .nil))) (.int 0)) (.cons (.setv 22 (.bin false .add (.int 1) (.idx (.lst false (.cons (.call .tr tk (.cons (.var 0) (.cons (.int 12) .nil))) (.cons (.call .tr tk (.cons (.var 0) (.cons (.int 60) .nil))) (.cons (.int 0) (.cons (.int 1000) .nil))))) (.call .tr tk (.cons (.var 0) (.cons (.int 4) .nil)))))) (.cons (.ife (.var 5) (.cons (.setv 22 (.bin false .add (.blt false .sum (.cons (.slc false (.comp false [24] (.nm 24) .seq (.var 10) .absent (.cmp .eq (.idx (.var 24) (.int 2)) (.var 13)) (.blt false .sum (.cons (.idx (.var 24) (.int 3)) .nil))) .absent (.bin false .add (.int 1) (.call .tr tk (.cons (.var 0) (.cons (.int 3) .nil))))) .nil)) (.call .tr tk (.cons (.var 0) (.cons (.int 3) .nil))))) (.cons (.setv 22 (.blt false .max2 (.cons (.int 1) (.cons (.var 22) .nil)))) .nil)) .nil) (.cons (.exp (.app (.var 12) (.tup (.cons (.var 13) (.cons (.var 22) (.cons (.bin false .add (.int 1) (.call .tr tk (.cons (.var 0) (.cons (.int 4) .nil)))) (.cons (.int 50) (.cons (.blt false .int (.cons (.cmp .eq (.call .tr tk (.cons (.var 0) (.cons (.int 6) .nil))) (.int 0)) .nil)) .nil)))))))) .nil))) .nil) .nil)
theorem round_turn {N : Sto} {fx : List (Nat × List D)} {ma mm tn : Int} {cl : Bool} {ms : List Tx} {L8 L12 : Nat} {asks : List Ask} {rounds : List Rnd} {x6 x9 x13 x14 x15 x16 x17 x18 x19 x20 x21 x22 x23 : Option D} {pr : Tx} (hpr : pr = "p" ∨ pr = "r") (h : WS M0 N s c ((L12, rounds.map eRnd) :: fx)) (ha : ∀ a ∈ asks, okA a) (hl : asks.length ≤ 8) (hr : rounds.length ≤ 10) :
    ∃ (N' : Sto) (rs : List Rnd) (y22 : Option D), turnB (run fns cls (n + 1)) cls (.nm 13) bodyR (.str pr) (wr s ma mm tn cl x6 ms L8 x9 asks (some (.loc L12)) x13 x14 x15 x16 x17 x18 x19 x20 x21 x22 x23) N =
      some (.next, wr s ma mm tn cl x6 ms L8 x9 asks (some (.loc L12)) (some (.str pr)) x14 x15 x16 x17 x18 x19 x20 x21 y22 x23, N') ∧ WS M0 N' s c ((L12, (rounds ++ rs).map eRnd) :: fx) ∧ (∀ r ∈ rs, okR r) ∧ rs.length ≤ 1 := by
  rw [turn_nm]
  obtain ⟨v, N1, e1, v0, v1, h1, _⟩ := h.take (TK n) 8 (by decide) (by decide)
  by_cases hv : v > 0
  · -- the first budget
    obtain ⟨p, N2, e2, p0, p1, h2, _⟩ := h1.take (TK n) 12 (by decide) (by decide)
    obtain ⟨q, N3, e3, q0, q1, h3, _⟩ := h2.take (TK n) 60 (by decide) (by decide)
    obtain ⟨j, N4, e4, j0, j1, h4, _⟩ := h3.take (TK n) 4 (by decide) (by decide)
    have hb : ∃ b : Int, L2.atI [D.int p, D.int q, D.int 0, D.int 1000] j = some (.int b) ∧ 0 ≤ b ∧ b ≤ 1000 := by
      rcases (show j = 0 ∨ j = 1 ∨ j = 2 ∨ j = 3 by omega) with w | w | w | w <;> subst w
      · exact ⟨p, rfl, by omega, by omega⟩
      · exact ⟨q, rfl, by omega, by omega⟩
      · exact ⟨0, rfl, by omega, by omega⟩
      · exact ⟨1000, rfl, by omega, by omega⟩
    obtain ⟨b, eb, b0, b1⟩ := hb
    have s1 : exec (run fns cls (n + 1)) cls (.setv 22 (.bin false .add (.int 1) (.idx (.lst false (.cons (.call .tr tk (.cons (.var 0) (.cons (.int 12) .nil))) (.cons (.call .tr tk (.cons (.var 0) (.cons (.int 60) .nil))) (.cons (.int 0) (.cons (.int 1000) .nil))))) (.call .tr tk (.cons (.var 0) (.cons (.int 4) .nil))))))
        (wr s ma mm tn cl x6 ms L8 x9 asks (some (.loc L12)) (some (.str pr)) x14 x15 x16 x17 x18 x19 x20 x21 x22 x23) N1 = some (.next, wr s ma mm tn cl x6 ms L8 x9 asks (some (.loc L12)) (some (.str pr)) x14 x15 x16 x17 x18 x19 x20 x21 (some (.int (1 + b))) x23, N4) := by
      simp only [e_var, e_non, e_bl, e_int, e_str, e_bin, e_neg, e_not, e_and, e_or, e_cmp, e_chain, e_isN, e_ife, e_tup, e_lst, e_dct, e_idx, e_slc, e_blt, e_isi, e_fld, e_app, e_ext, e_idxof, e_dget, e_nil, e_cons, x_setv, x_sett, x_setp, x_seti, x_seti2, x_augi, x_setf, x_exp, x_ret, x_ife, x_frz, x_retN, x_pass, x_cont, x_nil, x_cons, getD_list, getD_tup, rd_int, rd_bl, rd_non, rd_str, rd_list, rd_tup, rd_fz, rd_dict, len_list, len_tup, abs_int, min2_int, max2_int, int_int, list_list, list_tup, mk_f, mk_t, truth_bl', truth_int', truth_list', tst_some, line0, line1, line2, line3, line4, line5, line6, line7, line8, asg, optC, optD, optI, isAbs, src_list, src_tup, src_enum, setI, body1, wipeE, List.map_cons, List.map_nil, List.length_cons, List.length_nil, List.replicate, List.cons_append, List.nil_append, List.getElem?_cons_zero, List.getElem?_cons_succ, List.set_cons_zero, List.set_cons_succ, List.zip_cons_cons, List.zip_nil_right, List.foldl_cons, List.foldl_nil, Nat.reduceAdd, Nat.reduceSub, bop_add_int, bop_sub_int, cop_lt_int, cop_gt_int, cop_le_int, cop_ge_int, cop_eq_int, cop_ne_int, atI_c0, atI_c1, atI_c2, atI_c3, if_true, Bool.false_eq_true, if_false, ↓reduceIte, Bool.not_true, Bool.not_false, e_call, e2, e3, e4, eb]
    -- the second
    have s2 : ∃ (b2 : Int) (N5 : Sto), 1 ≤ b2 ∧ b2 ≤ 100000 ∧ WS M0 N5 s c ((L12, rounds.map eRnd) :: fx) ∧ exec (run fns cls (n + 1)) cls (.ife (.var 5) (.cons (.setv 22 (.bin false .add (.blt false .sum (.cons (.slc false (.comp false [24] (.nm 24) .seq (.var 10) .absent (.cmp .eq (.idx (.var 24) (.int 2)) (.var 13)) (.blt false .sum (.cons (.idx (.var 24) (.int 3)) .nil))) .absent (.bin false .add (.int 1) (.call .tr tk (.cons (.var 0) (.cons (.int 3) .nil))))) .nil)) (.call .tr tk (.cons (.var 0) (.cons (.int 3) .nil))))) (.cons (.setv 22 (.blt false .max2 (.cons (.int 1) (.cons (.var 22) .nil)))) .nil)) .nil)
        (wr s ma mm tn cl x6 ms L8 x9 asks (some (.loc L12)) (some (.str pr)) x14 x15 x16 x17 x18 x19 x20 x21 (some (.int (1 + b))) x23) N4 = some (.next, wr s ma mm tn cl x6 ms L8 x9 asks (some (.loc L12)) (some (.str pr)) x14 x15 x16 x17 x18 x19 x20 x21 (some (.int b2)) x23, N5) := by
      cases cl with
      | false => exact ⟨1 + b, N4, by omega, by omega, h4, by simp only [e_var, e_non, e_bl, e_int, e_str, e_bin, e_neg, e_not, e_and, e_or, e_cmp, e_chain, e_isN, e_ife, e_tup, e_lst, e_dct, e_idx, e_slc, e_blt, e_isi, e_fld, e_app, e_ext, e_idxof, e_dget, e_nil, e_cons, x_setv, x_sett, x_setp, x_seti, x_seti2, x_augi, x_setf, x_exp, x_ret, x_ife, x_frz, x_retN, x_pass, x_cont, x_nil, x_cons, getD_list, getD_tup, rd_int, rd_bl, rd_non, rd_str, rd_list, rd_tup, rd_fz, rd_dict, len_list, len_tup, abs_int, min2_int, max2_int, int_int, list_list, list_tup, mk_f, mk_t, truth_bl', truth_int', truth_list', tst_some, line0, line1, line2, line3, line4, line5, line6, line7, line8, asg, optC, optD, optI, isAbs, src_list, src_tup, src_enum, setI, body1, wipeE, List.map_cons, List.map_nil, List.length_cons, List.length_nil, List.replicate, List.cons_append, List.nil_append, List.getElem?_cons_zero, List.getElem?_cons_succ, List.set_cons_zero, List.set_cons_succ, List.zip_cons_cons, List.zip_nil_right, List.foldl_cons, List.foldl_nil, Nat.reduceAdd, Nat.reduceSub, bop_add_int, bop_sub_int, cop_lt_int, cop_gt_int, cop_le_int, cop_ge_int, cop_eq_int, cop_ne_int, atI_c0, atI_c1, atI_c2, atI_c3, if_true, Bool.false_eq_true, if_false, ↓reduceIte, Bool.not_true, Bool.not_false]⟩
      | true =>
        obtain ⟨t, N5, e5, t0, t1, h5, _⟩ := h4.take (TK n) 3 (by decide) (by decide)
        obtain ⟨u, N6, e6, u0, u1, h6, _⟩ := h5.take (TK n) 3 (by decide) (by decide)
        have hc : ev (run fns cls (n + 1)) cls (.comp false [24] (.nm 24) .seq (.var 10) .absent (.cmp .eq (.idx (.var 24) (.int 2)) (.var 13)) (.blt false .sum (.cons (.idx (.var 24) (.int 3)) .nil))) (wr s ma mm tn true x6 ms L8 x9 asks (some (.loc L12)) (some (.str pr)) x14 x15 x16 x17 x18 x19 x20 x21 (some (.int (1 + b))) x23) N4 =
            some (.list (((asks.filter fun a => decide (a.purpose = pr)).map fun a => a.amounts.sum).map D.int), N4) := by
          rw [comp_flt (e := eAsk) (g := fun a => .int a.amounts.sum) (q := fun a => decide (a.purpose = pr)) (l := asks) (M1 := N4) (x := .list (asks.map eAsk)) ?_ rfl (line_of hl (by decide)) ?_]
          · rw [List.map_map]
            rfl
          · simp only [e_var, e_non, e_bl, e_int, e_str, e_bin, e_neg, e_not, e_and, e_or, e_cmp, e_chain, e_isN, e_ife, e_tup, e_lst, e_dct, e_idx, e_slc, e_blt, e_isi, e_fld, e_app, e_ext, e_idxof, e_dget, e_nil, e_cons, x_setv, x_sett, x_setp, x_seti, x_seti2, x_augi, x_setf, x_exp, x_ret, x_ife, x_frz, x_retN, x_pass, x_cont, x_nil, x_cons, getD_list, getD_tup, rd_int, rd_bl, rd_non, rd_str, rd_list, rd_tup, rd_fz, rd_dict, len_list, len_tup, abs_int, min2_int, max2_int, int_int, list_list, list_tup, mk_f, mk_t, truth_bl', truth_int', truth_list', tst_some, line0, line1, line2, line3, line4, line5, line6, line7, line8, asg, optC, optD, optI, isAbs, src_list, src_tup, src_enum, setI, body1, wipeE, List.map_cons, List.map_nil, List.length_cons, List.length_nil, List.replicate, List.cons_append, List.nil_append, List.getElem?_cons_zero, List.getElem?_cons_succ, List.set_cons_zero, List.set_cons_succ, List.zip_cons_cons, List.zip_nil_right, List.foldl_cons, List.foldl_nil, Nat.reduceAdd, Nat.reduceSub, bop_add_int, bop_sub_int, cop_lt_int, cop_gt_int, cop_le_int, cop_ge_int, cop_eq_int, cop_ne_int, atI_c0, atI_c1, atI_c2, atI_c3, if_true, Bool.false_eq_true, if_false, ↓reduceIte, Bool.not_true, Bool.not_false]
          · intro a _
            simp only [turnF, eAsk]
            simp only [e_var, e_non, e_bl, e_int, e_str, e_bin, e_neg, e_not, e_and, e_or, e_cmp, e_chain, e_isN, e_ife, e_tup, e_lst, e_dct, e_idx, e_slc, e_blt, e_isi, e_fld, e_app, e_ext, e_idxof, e_dget, e_nil, e_cons, x_setv, x_sett, x_setp, x_seti, x_seti2, x_augi, x_setf, x_exp, x_ret, x_ife, x_frz, x_retN, x_pass, x_cont, x_nil, x_cons, getD_list, getD_tup, rd_int, rd_bl, rd_non, rd_str, rd_list, rd_tup, rd_fz, rd_dict, len_list, len_tup, abs_int, min2_int, max2_int, int_int, list_list, list_tup, mk_f, mk_t, truth_bl', truth_int', truth_list', tst_some, line0, line1, line2, line3, line4, line5, line6, line7, line8, asg, optC, optD, optI, isAbs, src_list, src_tup, src_enum, setI, body1, wipeE, List.map_cons, List.map_nil, List.length_cons, List.length_nil, List.replicate, List.cons_append, List.nil_append, List.getElem?_cons_zero, List.getElem?_cons_succ, List.set_cons_zero, List.set_cons_succ, List.zip_cons_cons, List.zip_nil_right, List.foldl_cons, List.foldl_nil, Nat.reduceAdd, Nat.reduceSub, bop_add_int, bop_sub_int, cop_lt_int, cop_gt_int, cop_le_int, cop_ge_int, cop_eq_int, cop_ne_int, atI_c0, atI_c1, atI_c2, atI_c3, if_true, Bool.false_eq_true, if_false, ↓reduceIte, Bool.not_true, Bool.not_false, cop_eq_str, sum_mapT]
            cases decide (a.purpose = pr) <;> (simp only [e_var, e_non, e_bl, e_int, e_str, e_bin, e_neg, e_not, e_and, e_or, e_cmp, e_chain, e_isN, e_ife, e_tup, e_lst, e_dct, e_idx, e_slc, e_blt, e_isi, e_fld, e_app, e_ext, e_idxof, e_dget, e_nil, e_cons, x_setv, x_sett, x_setp, x_seti, x_seti2, x_augi, x_setf, x_exp, x_ret, x_ife, x_frz, x_retN, x_pass, x_cont, x_nil, x_cons, getD_list, getD_tup, rd_int, rd_bl, rd_non, rd_str, rd_list, rd_tup, rd_fz, rd_dict, len_list, len_tup, abs_int, min2_int, max2_int, int_int, list_list, list_tup, mk_f, mk_t, truth_bl', truth_int', truth_list', tst_some, line0, line1, line2, line3, line4, line5, line6, line7, line8, asg, optC, optD, optI, isAbs, src_list, src_tup, src_enum, setI, body1, wipeE, List.map_cons, List.map_nil, List.length_cons, List.length_nil, List.replicate, List.cons_append, List.nil_append, List.getElem?_cons_zero, List.getElem?_cons_succ, List.set_cons_zero, List.set_cons_succ, List.zip_cons_cons, List.zip_nil_right, List.foldl_cons, List.foldl_nil, Nat.reduceAdd, Nat.reduceSub, bop_add_int, bop_sub_int, cop_lt_int, cop_gt_int, cop_le_int, cop_ge_int, cop_eq_int, cop_ne_int, atI_c0, atI_c1, atI_c2, atI_c3, if_true, Bool.false_eq_true, if_false, ↓reduceIte, Bool.not_true, Bool.not_false, sum_mapT]; try rfl)
        have hcut : ∀ xs : List Int, cutD (xs.map D.int) none (some (1 + t)) = (xs.take (1 + t).toNat).map D.int := fun xs => by rw [cutD_to _ (by omega), List.map_take]
        have hsum := sum_le ((((asks.filter fun a => decide (a.purpose = pr)).map fun a => a.amounts.sum)).take (1 + t).toNat) 80 fun v hv => by
          obtain ⟨a, ha', rfl⟩ := List.mem_map.mp (List.mem_of_mem_take hv)
          exact sum_80 (ha a (List.mem_filter.mp ha').1)
        have hlen : (((((asks.filter fun a => decide (a.purpose = pr)).map fun a => a.amounts.sum)).take (1 + t).toNat).length : Int) ≤ 8 := by
          rw [List.length_take, List.length_map]
          have := List.length_filter_le (fun a : Ask => decide (a.purpose = pr)) asks
          omega
        refine ⟨_, N6, ?_, ?_, h6, by simp only [e_var, e_non, e_bl, e_int, e_str, e_bin, e_neg, e_not, e_and, e_or, e_cmp, e_chain, e_isN, e_ife, e_tup, e_lst, e_dct, e_idx, e_slc, e_blt, e_isi, e_fld, e_app, e_ext, e_idxof, e_dget, e_nil, e_cons, x_setv, x_sett, x_setp, x_seti, x_seti2, x_augi, x_setf, x_exp, x_ret, x_ife, x_frz, x_retN, x_pass, x_cont, x_nil, x_cons, getD_list, getD_tup, rd_int, rd_bl, rd_non, rd_str, rd_list, rd_tup, rd_fz, rd_dict, len_list, len_tup, abs_int, min2_int, max2_int, int_int, list_list, list_tup, mk_f, mk_t, truth_bl', truth_int', truth_list', tst_some, line0, line1, line2, line3, line4, line5, line6, line7, line8, asg, optC, optD, optI, isAbs, src_list, src_tup, src_enum, setI, body1, wipeE, List.map_cons, List.map_nil, List.length_cons, List.length_nil, List.replicate, List.cons_append, List.nil_append, List.getElem?_cons_zero, List.getElem?_cons_succ, List.set_cons_zero, List.set_cons_succ, List.zip_cons_cons, List.zip_nil_right, List.foldl_cons, List.foldl_nil, Nat.reduceAdd, Nat.reduceSub, bop_add_int, bop_sub_int, cop_lt_int, cop_gt_int, cop_le_int, cop_ge_int, cop_eq_int, cop_ne_int, atI_c0, atI_c1, atI_c2, atI_c3, if_true, Bool.false_eq_true, if_false, ↓reduceIte, Bool.not_true, Bool.not_false, hc, e_call, e5, hcut, sum_map, e6]; rfl⟩
        · split <;> omega
        · split <;> omega
    obtain ⟨b2, N5, c0, c1, h5, s2⟩ := s2
    obtain ⟨mo, N6, e6, mo0, mo1, h6, _⟩ := h5.take (TK n) 4 (by decide) (by decide)
    obtain ⟨sh, N7, e7, sh0, sh1, h7, _⟩ := h6.take (TK n) 6 (by decide) (by decide)
    have hrow := h7.hd
    have hrow5 := h5.hd
    refine ⟨N7.set L12 (.list ((rounds ++ [Rnd.mk pr b2 (1 + mo) (if decide (sh = 0) then 1 else 0)]).map eRnd)), [Rnd.mk pr b2 (1 + mo) (if decide (sh = 0) then 1 else 0)], some (.int b2), ?_, h7.set (below_of (below_rnd _)), fun r hr' => ?_, Nat.le_refl 1⟩
    · have step : exb (run fns cls (n + 1)) cls (.cons (.setv 22 (.bin false .add (.int 1) (.idx (.lst false (.cons (.call .tr tk (.cons (.var 0) (.cons (.int 12) .nil))) (.cons (.call .tr tk (.cons (.var 0) (.cons (.int 60) .nil))) (.cons (.int 0) (.cons (.int 1000) .nil))))) (.call .tr tk (.cons (.var 0) (.cons (.int 4) .nil)))))) (.cons (.ife (.var 5) (.cons (.setv 22 (.bin false .add (.blt false .sum (.cons (.slc false (.comp false [24] (.nm 24) .seq (.var 10) .absent (.cmp .eq (.idx (.var 24) (.int 2)) (.var 13)) (.blt false .sum (.cons (.idx (.var 24) (.int 3)) .nil))) .absent (.bin false .add (.int 1) (.call .tr tk (.cons (.var 0) (.cons (.int 3) .nil))))) .nil)) (.call .tr tk (.cons (.var 0) (.cons (.int 3) .nil))))) (.cons (.setv 22 (.blt false .max2 (.cons (.int 1) (.cons (.var 22) .nil)))) .nil)) .nil) (.cons (.exp (.app (.var 12) (.tup (.cons (.var 13) (.cons (.var 22) (.cons (.bin false .add (.int 1) (.call .tr tk (.cons (.var 0) (.cons (.int 4) .nil)))) (.cons (.int 50) (.cons (.blt false .int (.cons (.cmp .eq (.call .tr tk (.cons (.var 0) (.cons (.int 6) .nil))) (.int 0)) .nil)) .nil)))))))) .nil)))
          (wr s ma mm tn cl x6 ms L8 x9 asks (some (.loc L12)) (some (.str pr)) x14 x15 x16 x17 x18 x19 x20 x21 x22 x23) N1 = some (.next, wr s ma mm tn cl x6 ms L8 x9 asks (some (.loc L12)) (some (.str pr)) x14 x15 x16 x17 x18 x19 x20 x21 (some (.int b2)) x23, N7.set L12 (.list ((rounds ++ [Rnd.mk pr b2 (1 + mo) (if decide (sh = 0) then 1 else 0)]).map eRnd))) := by
        refine (xnext s1).trans ((xnext s2).trans ?_)
        simp only [e_var, e_non, e_bl, e_int, e_str, e_bin, e_neg, e_not, e_and, e_or, e_cmp, e_chain, e_isN, e_ife, e_tup, e_lst, e_dct, e_idx, e_slc, e_blt, e_isi, e_fld, e_app, e_ext, e_idxof, e_dget, e_nil, e_cons, x_setv, x_sett, x_setp, x_seti, x_seti2, x_augi, x_setf, x_exp, x_ret, x_ife, x_frz, x_retN, x_pass, x_cont, x_nil, x_cons, getD_list, getD_tup, rd_int, rd_bl, rd_non, rd_str, rd_list, rd_tup, rd_fz, rd_dict, len_list, len_tup, abs_int, min2_int, max2_int, int_int, list_list, list_tup, mk_f, mk_t, truth_bl', truth_int', truth_list', tst_some, line0, line1, line2, line3, line4, line5, line6, line7, line8, asg, optC, optD, optI, isAbs, src_list, src_tup, src_enum, setI, body1, wipeE, List.map_cons, List.map_nil, List.length_cons, List.length_nil, List.replicate, List.cons_append, List.nil_append, List.getElem?_cons_zero, List.getElem?_cons_succ, List.set_cons_zero, List.set_cons_succ, List.zip_cons_cons, List.zip_nil_right, List.foldl_cons, List.foldl_nil, Nat.reduceAdd, Nat.reduceSub, bop_add_int, bop_sub_int, cop_lt_int, cop_gt_int, cop_le_int, cop_ge_int, cop_eq_int, cop_ne_int, atI_c0, atI_c1, atI_c2, atI_c3, if_true, Bool.false_eq_true, if_false, ↓reduceIte, Bool.not_true, Bool.not_false, e_call, e6, e7, int_bl, hrow5, hrow, List.length_map]
        rw [if_pos (by unfold LINE; omega), List.map_append]
        rfl
      refine (xnext (env1 := wr s ma mm tn cl x6 ms L8 x9 asks (some (.loc L12)) (some (.str pr)) x14 x15 x16 x17 x18 x19 x20 x21 (some (.int b2)) x23) (M1 := N7.set L12 (.list ((rounds ++ [Rnd.mk pr b2 (1 + mo) (if decide (sh = 0) then 1 else 0)]).map eRnd))) ?_).trans x_nil
      rw [x_ife]
      have ht : tst (ev (run fns cls (n + 1)) cls (.cmp .gt (.call .tr tk (.cons (.var 0) (.cons (.int 8) .nil))) (.int 0)) (wr s ma mm tn cl x6 ms L8 x9 asks (some (.loc L12)) (some (.str pr)) x14 x15 x16 x17 x18 x19 x20 x21 x22 x23) N) = some (true, N1) := by
        simp only [e_var, e_non, e_bl, e_int, e_str, e_bin, e_neg, e_not, e_and, e_or, e_cmp, e_chain, e_isN, e_ife, e_tup, e_lst, e_dct, e_idx, e_slc, e_blt, e_isi, e_fld, e_app, e_ext, e_idxof, e_dget, e_nil, e_cons, x_setv, x_sett, x_setp, x_seti, x_seti2, x_augi, x_setf, x_exp, x_ret, x_ife, x_frz, x_retN, x_pass, x_cont, x_nil, x_cons, getD_list, getD_tup, rd_int, rd_bl, rd_non, rd_str, rd_list, rd_tup, rd_fz, rd_dict, len_list, len_tup, abs_int, min2_int, max2_int, int_int, list_list, list_tup, mk_f, mk_t, truth_bl', truth_int', truth_list', tst_some, line0, line1, line2, line3, line4, line5, line6, line7, line8, asg, optC, optD, optI, isAbs, src_list, src_tup, src_enum, setI, body1, wipeE, List.map_cons, List.map_nil, List.length_cons, List.length_nil, List.replicate, List.cons_append, List.nil_append, List.getElem?_cons_zero, List.getElem?_cons_succ, List.set_cons_zero, List.set_cons_succ, List.zip_cons_cons, List.zip_nil_right, List.foldl_cons, List.foldl_nil, Nat.reduceAdd, Nat.reduceSub, bop_add_int, bop_sub_int, cop_lt_int, cop_gt_int, cop_le_int, cop_ge_int, cop_eq_int, cop_ne_int, atI_c0, atI_c1, atI_c2, atI_c3, if_true, Bool.false_eq_true, if_false, ↓reduceIte, Bool.not_true, Bool.not_false, e_call, e1, decide_eq_true hv]
      have ht' : tst (ev (run fns cls (n + 1)) cls (.cmp .gt (.call .tr tk (.cons (.var 0) (.cons (.int 8) .nil))) (.int 0)) ((wr s ma mm tn cl x6 ms L8 x9 asks (some (.loc L12)) x13 x14 x15 x16 x17 x18 x19 x20 x21 x22 x23).set 13 (some (.str pr))) N) = some (true, N1) := ht
      rw [ht']
      exact step
    · rw [List.mem_singleton.mp hr']
      refine ⟨hpr, c0, c1, by show 1 ≤ 1 + mo; omega, by show 1 + mo ≤ 4; omega, ?_⟩
      show (if decide (sh = 0) = true then (1 : Int) else 0) = 0 ∨ (if decide (sh = 0) = true then (1 : Int) else 0) = 1
      split
      · exact .inr rfl
      · exact .inl rfl
  · refine ⟨N1, [], x22, ?_, by rw [List.append_nil]; exact h1, (fun r hr => nomatch hr), Nat.zero_le 1⟩
    simp only [e_var, e_non, e_bl, e_int, e_str, e_bin, e_neg, e_not, e_and, e_or, e_cmp, e_chain, e_isN, e_ife, e_tup, e_lst, e_dct, e_idx, e_slc, e_blt, e_isi, e_fld, e_app, e_ext, e_idxof, e_dget, e_nil, e_cons, x_setv, x_sett, x_setp, x_seti, x_seti2, x_augi, x_setf, x_exp, x_ret, x_ife, x_frz, x_retN, x_pass, x_cont, x_nil, x_cons, getD_list, getD_tup, rd_int, rd_bl, rd_non, rd_str, rd_list, rd_tup, rd_fz, rd_dict, len_list, len_tup, abs_int, min2_int, max2_int, int_int, list_list, list_tup, mk_f, mk_t, truth_bl', truth_int', truth_list', tst_some, line0, line1, line2, line3, line4, line5, line6, line7, line8, asg, optC, optD, optI, isAbs, src_list, src_tup, src_enum, setI, body1, wipeE, List.map_cons, List.map_nil, List.length_cons, List.length_nil, List.replicate, List.cons_append, List.nil_append, List.getElem?_cons_zero, List.getElem?_cons_succ, List.set_cons_zero, List.set_cons_succ, List.zip_cons_cons, List.zip_nil_right, List.foldl_cons, List.foldl_nil, Nat.reduceAdd, Nat.reduceSub, bop_add_int, bop_sub_int, cop_lt_int, cop_gt_int, cop_le_int, cop_ge_int, cop_eq_int, cop_ne_int, atI_c0, atI_c1, atI_c2, atI_c3, if_true, Bool.false_eq_true, if_false, ↓reduceIte, Bool.not_true, Bool.not_false, e_call, e1, decide_eq_false hv]
end
end K34

/-! K34p: the world: ballots. -/
namespace K34
open MP CM
section
variable {n : Nat} {M0 : Sto} {s c : Nat}
/-- the slots while ballots are made -/
abbrev wb (s : Nat) (ma mm tn : Int) (cl : Bool) (x6 : Option D) (ms : List Tx) (L8 : Nat) (x9 : Option D) (asks : List Ask) (L12 : Nat) (x13 : Option D) (L14 : Nat) (x15 x16 x17 x18 x19 x20 x21 x22 x23 : Option D) : MP.Env := wr s ma mm tn cl x6 ms L8 x9 asks (some (.loc L12)) x13 (some (.loc L14)) x15 x16 x17 x18 x19 x20 x21 x22 x23
abbrev bodyV : SB := (.cons (.setv 20 (.ife (.cmp .gt (.blt false .len (.cons (.var 18) .nil)) (.int 0)) (.idx (.var 18) (.call .tr tk (.cons (.var 0) (.cons (.blt false .len (.cons (.var 18) .nil)) .nil)))) .non)) (.cons (.setv 20 (.ife (.and (.var 5) (.and (.cmp .gt (.blt false .len (.cons (.var 18) .nil)) (.int 0)) (.and (.cmp .eq (.var 9) (.int 0)) (.cmp .gt (.call .tr tk (.cons (.var 0) (.cons (.int 5) .nil))) (.int 0))))) (.idx (.var 18) (.int 0)) (.var 20))) (.cons (.ife (.and (.isN true (.var 20)) (.cmp .nin (.var 20) (.var 23))) (.cons (.exp (.app (.var 23) (.var 20))) .nil) .nil) .nil)))
theorem vote_turn {N : Sto} {fx : List (Nat × List D)} {ma mm tn : Int} {cl : Bool} {ms : List Tx} {L8 L12 L14 L23 : Nat} {asks : List Ask} {own row : List Tx} {x6 x9 x13 x15 x16 x17 x19 x20 x21 x22 : Option D} (i : Nat) (h : WS M0 N s c ((L23, row.map D.str) :: fx)) (ho : ∀ q ∈ own, q ∈ names) (hl : own.length ≤ 8) (hr : ∀ q ∈ row, q ∈ names) (hrl : row.length ≤ i) (hi : i ≤ 5) :
    ∃ (N' : Sto) (row' : List Tx) (y20 : Option D), turnB (run fns cls (n + 1)) cls (.nm 9) bodyV (.int (i : Nat)) (wb s ma mm tn cl x6 ms L8 x9 asks L12 x13 L14 x15 x16 x17 (some (.list (own.map D.str))) x19 x20 x21 x22 (some (.loc L23))) N =
      some (.next, wb s ma mm tn cl x6 ms L8 (some (.int (i : Nat))) asks L12 x13 L14 x15 x16 x17 (some (.list (own.map D.str))) x19 y20 x21 x22 (some (.loc L23)), N') ∧ WS M0 N' s c ((L23, row'.map D.str) :: fx) ∧ (∀ q ∈ row', q ∈ names) ∧ row'.length ≤ i + 1 := by
  rw [turn_nm]
  by_cases h0 : own = []
  · subst h0
    have hp : decide ((0 : Int) < ((0 : Nat) : Int)) = false := rfl
    refine ⟨N, row, some .non, ?_, h, hr, Nat.le_succ_of_le hrl⟩
    cases cl <;> simp only [e_var, e_non, e_bl, e_int, e_str, e_bin, e_neg, e_not, e_and, e_or, e_cmp, e_chain, e_isN, e_ife, e_tup, e_lst, e_dct, e_idx, e_slc, e_blt, e_isi, e_fld, e_app, e_ext, e_idxof, e_dget, e_nil, e_cons, x_setv, x_sett, x_setp, x_seti, x_seti2, x_augi, x_setf, x_exp, x_ret, x_ife, x_frz, x_retN, x_pass, x_cont, x_nil, x_cons, getD_list, getD_tup, rd_int, rd_bl, rd_non, rd_str, rd_list, rd_tup, rd_fz, rd_dict, len_list, len_tup, abs_int, min2_int, max2_int, int_int, list_list, list_tup, mk_f, mk_t, truth_bl', truth_int', truth_list', tst_some, line0, line1, line2, line3, line4, line5, line6, line7, line8, asg, optC, optD, optI, isAbs, src_list, src_tup, src_enum, setI, body1, wipeE, List.map_cons, List.map_nil, List.length_cons, List.length_nil, List.replicate, List.cons_append, List.nil_append, List.getElem?_cons_zero, List.getElem?_cons_succ, List.set_cons_zero, List.set_cons_succ, List.zip_cons_cons, List.zip_nil_right, List.foldl_cons, List.foldl_nil, Nat.reduceAdd, Nat.reduceSub, bop_add_int, bop_sub_int, cop_lt_int, cop_gt_int, cop_le_int, cop_ge_int, cop_eq_int, cop_ne_int, atI_c0, atI_c1, atI_c2, atI_c3, if_true, Bool.false_eq_true, if_false, ↓reduceIte, Bool.not_true, Bool.not_false, hp, e_isN]
  · have hlen : 0 < own.length := List.length_pos_iff.mpr h0
    have hp : decide ((0 : Int) < ((own.length : Nat) : Int)) = true := decide_eq_true (by omega)
    obtain ⟨v, N1, e1, v0, v1, h1, _⟩ := h.take (TK n) (own.length : Nat) (by omega) (by omega)
    have hvl : v.toNat < own.length := by omega
    have hat : L2.atI (own.map D.str) v = some (.str own[v.toNat]) := atI_map v0 (List.getElem?_eq_getElem hvl)
    have hat0 : L2.atI (own.map D.str) 0 = some (.str own[0]) := atI_map (by decide) (List.getElem?_eq_getElem hlen)
    have s1 : exec (run fns cls (n + 1)) cls (.setv 20 (.ife (.cmp .gt (.blt false .len (.cons (.var 18) .nil)) (.int 0)) (.idx (.var 18) (.call .tr tk (.cons (.var 0) (.cons (.blt false .len (.cons (.var 18) .nil)) .nil)))) .non)) (wb s ma mm tn cl x6 ms L8 (some (.int (i : Nat))) asks L12 x13 L14 x15 x16 x17 (some (.list (own.map D.str))) x19 x20 x21 x22 (some (.loc L23))) N =
        some (.next, wb s ma mm tn cl x6 ms L8 (some (.int (i : Nat))) asks L12 x13 L14 x15 x16 x17 (some (.list (own.map D.str))) x19 (some (.str own[v.toNat])) x21 x22 (some (.loc L23)), N1) := by
      simp only [e_var, e_non, e_bl, e_int, e_str, e_bin, e_neg, e_not, e_and, e_or, e_cmp, e_chain, e_isN, e_ife, e_tup, e_lst, e_dct, e_idx, e_slc, e_blt, e_isi, e_fld, e_app, e_ext, e_idxof, e_dget, e_nil, e_cons, x_setv, x_sett, x_setp, x_seti, x_seti2, x_augi, x_setf, x_exp, x_ret, x_ife, x_frz, x_retN, x_pass, x_cont, x_nil, x_cons, getD_list, getD_tup, rd_int, rd_bl, rd_non, rd_str, rd_list, rd_tup, rd_fz, rd_dict, len_list, len_tup, abs_int, min2_int, max2_int, int_int, list_list, list_tup, mk_f, mk_t, truth_bl', truth_int', truth_list', tst_some, line0, line1, line2, line3, line4, line5, line6, line7, line8, asg, optC, optD, optI, isAbs, src_list, src_tup, src_enum, setI, body1, wipeE, List.map_cons, List.map_nil, List.length_cons, List.length_nil, List.replicate, List.cons_append, List.nil_append, List.getElem?_cons_zero, List.getElem?_cons_succ, List.set_cons_zero, List.set_cons_succ, List.zip_cons_cons, List.zip_nil_right, List.foldl_cons, List.foldl_nil, Nat.reduceAdd, Nat.reduceSub, bop_add_int, bop_sub_int, cop_lt_int, cop_gt_int, cop_le_int, cop_ge_int, cop_eq_int, cop_ne_int, atI_c0, atI_c1, atI_c2, atI_c3, if_true, Bool.false_eq_true, if_false, ↓reduceIte, Bool.not_true, Bool.not_false, List.length_map, hp, e_call, e1, hat]
    have s2 : ∃ (o : Tx) (N2 : Sto), o ∈ own ∧ WS M0 N2 s c ((L23, row.map D.str) :: fx) ∧ exec (run fns cls (n + 1)) cls (.setv 20 (.ife (.and (.var 5) (.and (.cmp .gt (.blt false .len (.cons (.var 18) .nil)) (.int 0)) (.and (.cmp .eq (.var 9) (.int 0)) (.cmp .gt (.call .tr tk (.cons (.var 0) (.cons (.int 5) .nil))) (.int 0))))) (.idx (.var 18) (.int 0)) (.var 20)))
        (wb s ma mm tn cl x6 ms L8 (some (.int (i : Nat))) asks L12 x13 L14 x15 x16 x17 (some (.list (own.map D.str))) x19 (some (.str own[v.toNat])) x21 x22 (some (.loc L23))) N1 = some (.next, wb s ma mm tn cl x6 ms L8 (some (.int (i : Nat))) asks L12 x13 L14 x15 x16 x17 (some (.list (own.map D.str))) x19 (some (.str o)) x21 x22 (some (.loc L23)), N2) := by
      cases cl with
      | false => exact ⟨own[v.toNat], N1, List.getElem_mem hvl, h1, by simp only [e_var, e_non, e_bl, e_int, e_str, e_bin, e_neg, e_not, e_and, e_or, e_cmp, e_chain, e_isN, e_ife, e_tup, e_lst, e_dct, e_idx, e_slc, e_blt, e_isi, e_fld, e_app, e_ext, e_idxof, e_dget, e_nil, e_cons, x_setv, x_sett, x_setp, x_seti, x_seti2, x_augi, x_setf, x_exp, x_ret, x_ife, x_frz, x_retN, x_pass, x_cont, x_nil, x_cons, getD_list, getD_tup, rd_int, rd_bl, rd_non, rd_str, rd_list, rd_tup, rd_fz, rd_dict, len_list, len_tup, abs_int, min2_int, max2_int, int_int, list_list, list_tup, mk_f, mk_t, truth_bl', truth_int', truth_list', tst_some, line0, line1, line2, line3, line4, line5, line6, line7, line8, asg, optC, optD, optI, isAbs, src_list, src_tup, src_enum, setI, body1, wipeE, List.map_cons, List.map_nil, List.length_cons, List.length_nil, List.replicate, List.cons_append, List.nil_append, List.getElem?_cons_zero, List.getElem?_cons_succ, List.set_cons_zero, List.set_cons_succ, List.zip_cons_cons, List.zip_nil_right, List.foldl_cons, List.foldl_nil, Nat.reduceAdd, Nat.reduceSub, bop_add_int, bop_sub_int, cop_lt_int, cop_gt_int, cop_le_int, cop_ge_int, cop_eq_int, cop_ne_int, atI_c0, atI_c1, atI_c2, atI_c3, if_true, Bool.false_eq_true, if_false, ↓reduceIte, Bool.not_true, Bool.not_false]⟩
      | true =>
        by_cases hk : ((i : Nat) : Int) = 0
        · obtain ⟨u, N2, e2, u0, u1, h2, _⟩ := h1.take (TK n) 5 (by decide) (by decide)
          by_cases hu : u > 0
          · exact ⟨own[0], N2, List.getElem_mem hlen, h2, by simp only [e_var, e_non, e_bl, e_int, e_str, e_bin, e_neg, e_not, e_and, e_or, e_cmp, e_chain, e_isN, e_ife, e_tup, e_lst, e_dct, e_idx, e_slc, e_blt, e_isi, e_fld, e_app, e_ext, e_idxof, e_dget, e_nil, e_cons, x_setv, x_sett, x_setp, x_seti, x_seti2, x_augi, x_setf, x_exp, x_ret, x_ife, x_frz, x_retN, x_pass, x_cont, x_nil, x_cons, getD_list, getD_tup, rd_int, rd_bl, rd_non, rd_str, rd_list, rd_tup, rd_fz, rd_dict, len_list, len_tup, abs_int, min2_int, max2_int, int_int, list_list, list_tup, mk_f, mk_t, truth_bl', truth_int', truth_list', tst_some, line0, line1, line2, line3, line4, line5, line6, line7, line8, asg, optC, optD, optI, isAbs, src_list, src_tup, src_enum, setI, body1, wipeE, List.map_cons, List.map_nil, List.length_cons, List.length_nil, List.replicate, List.cons_append, List.nil_append, List.getElem?_cons_zero, List.getElem?_cons_succ, List.set_cons_zero, List.set_cons_succ, List.zip_cons_cons, List.zip_nil_right, List.foldl_cons, List.foldl_nil, Nat.reduceAdd, Nat.reduceSub, bop_add_int, bop_sub_int, cop_lt_int, cop_gt_int, cop_le_int, cop_ge_int, cop_eq_int, cop_ne_int, atI_c0, atI_c1, atI_c2, atI_c3, if_true, Bool.false_eq_true, if_false, ↓reduceIte, Bool.not_true, Bool.not_false, List.length_map, hp, decide_eq_true hk, e_call, e2, decide_eq_true hu, hat0]⟩
          · exact ⟨own[v.toNat], N2, List.getElem_mem hvl, h2, by simp only [e_var, e_non, e_bl, e_int, e_str, e_bin, e_neg, e_not, e_and, e_or, e_cmp, e_chain, e_isN, e_ife, e_tup, e_lst, e_dct, e_idx, e_slc, e_blt, e_isi, e_fld, e_app, e_ext, e_idxof, e_dget, e_nil, e_cons, x_setv, x_sett, x_setp, x_seti, x_seti2, x_augi, x_setf, x_exp, x_ret, x_ife, x_frz, x_retN, x_pass, x_cont, x_nil, x_cons, getD_list, getD_tup, rd_int, rd_bl, rd_non, rd_str, rd_list, rd_tup, rd_fz, rd_dict, len_list, len_tup, abs_int, min2_int, max2_int, int_int, list_list, list_tup, mk_f, mk_t, truth_bl', truth_int', truth_list', tst_some, line0, line1, line2, line3, line4, line5, line6, line7, line8, asg, optC, optD, optI, isAbs, src_list, src_tup, src_enum, setI, body1, wipeE, List.map_cons, List.map_nil, List.length_cons, List.length_nil, List.replicate, List.cons_append, List.nil_append, List.getElem?_cons_zero, List.getElem?_cons_succ, List.set_cons_zero, List.set_cons_succ, List.zip_cons_cons, List.zip_nil_right, List.foldl_cons, List.foldl_nil, Nat.reduceAdd, Nat.reduceSub, bop_add_int, bop_sub_int, cop_lt_int, cop_gt_int, cop_le_int, cop_ge_int, cop_eq_int, cop_ne_int, atI_c0, atI_c1, atI_c2, atI_c3, if_true, Bool.false_eq_true, if_false, ↓reduceIte, Bool.not_true, Bool.not_false, List.length_map, hp, decide_eq_true hk, e_call, e2, decide_eq_false hu]⟩
        · exact ⟨own[v.toNat], N1, List.getElem_mem hvl, h1, by simp only [e_var, e_non, e_bl, e_int, e_str, e_bin, e_neg, e_not, e_and, e_or, e_cmp, e_chain, e_isN, e_ife, e_tup, e_lst, e_dct, e_idx, e_slc, e_blt, e_isi, e_fld, e_app, e_ext, e_idxof, e_dget, e_nil, e_cons, x_setv, x_sett, x_setp, x_seti, x_seti2, x_augi, x_setf, x_exp, x_ret, x_ife, x_frz, x_retN, x_pass, x_cont, x_nil, x_cons, getD_list, getD_tup, rd_int, rd_bl, rd_non, rd_str, rd_list, rd_tup, rd_fz, rd_dict, len_list, len_tup, abs_int, min2_int, max2_int, int_int, list_list, list_tup, mk_f, mk_t, truth_bl', truth_int', truth_list', tst_some, line0, line1, line2, line3, line4, line5, line6, line7, line8, asg, optC, optD, optI, isAbs, src_list, src_tup, src_enum, setI, body1, wipeE, List.map_cons, List.map_nil, List.length_cons, List.length_nil, List.replicate, List.cons_append, List.nil_append, List.getElem?_cons_zero, List.getElem?_cons_succ, List.set_cons_zero, List.set_cons_succ, List.zip_cons_cons, List.zip_nil_right, List.foldl_cons, List.foldl_nil, Nat.reduceAdd, Nat.reduceSub, bop_add_int, bop_sub_int, cop_lt_int, cop_gt_int, cop_le_int, cop_ge_int, cop_eq_int, cop_ne_int, atI_c0, atI_c1, atI_c2, atI_c3, if_true, Bool.false_eq_true, if_false, ↓reduceIte, Bool.not_true, Bool.not_false, List.length_map, hp, decide_eq_false hk]⟩
    obtain ⟨o, N2, ho2, h2, s2⟩ := s2
    have hrow := h2.hd
    have hrd : rd N2 (.loc L23) = .list (row.map D.str) := rd_loc hrow
    have hnin : cop .nin (.str o) (.list (row.map D.str)) = some (!decide (o ∈ row)) := by
      rw [cop_nin_list, memD_strs (names_ok o (ho o ho2)) fun y hy => names_ok y (hr y hy)]
      rfl
    by_cases hm : o ∈ row
    · refine ⟨N2, row, some (.str o), ?_, h2, hr, Nat.le_succ_of_le hrl⟩
      refine (xnext s1).trans ((xnext s2).trans ?_)
      simp only [e_var, e_non, e_bl, e_int, e_str, e_bin, e_neg, e_not, e_and, e_or, e_cmp, e_chain, e_isN, e_ife, e_tup, e_lst, e_dct, e_idx, e_slc, e_blt, e_isi, e_fld, e_app, e_ext, e_idxof, e_dget, e_nil, e_cons, x_setv, x_sett, x_setp, x_seti, x_seti2, x_augi, x_setf, x_exp, x_ret, x_ife, x_frz, x_retN, x_pass, x_cont, x_nil, x_cons, getD_list, getD_tup, rd_int, rd_bl, rd_non, rd_str, rd_list, rd_tup, rd_fz, rd_dict, len_list, len_tup, abs_int, min2_int, max2_int, int_int, list_list, list_tup, mk_f, mk_t, truth_bl', truth_int', truth_list', tst_some, line0, line1, line2, line3, line4, line5, line6, line7, line8, asg, optC, optD, optI, isAbs, src_list, src_tup, src_enum, setI, body1, wipeE, List.map_cons, List.map_nil, List.length_cons, List.length_nil, List.replicate, List.cons_append, List.nil_append, List.getElem?_cons_zero, List.getElem?_cons_succ, List.set_cons_zero, List.set_cons_succ, List.zip_cons_cons, List.zip_nil_right, List.foldl_cons, List.foldl_nil, Nat.reduceAdd, Nat.reduceSub, bop_add_int, bop_sub_int, cop_lt_int, cop_gt_int, cop_le_int, cop_ge_int, cop_eq_int, cop_ne_int, atI_c0, atI_c1, atI_c2, atI_c3, if_true, Bool.false_eq_true, if_false, ↓reduceIte, Bool.not_true, Bool.not_false, e_isN, hrd, hnin, decide_eq_true hm]
    · refine ⟨N2.set L23 (.list ((row ++ [o]).map D.str)), row ++ [o], some (.str o), ?_, h2.set (below_str _ _), fun q hq => ?_, by rw [List.length_append]; simp; omega⟩
      · refine (xnext s1).trans ((xnext s2).trans ?_)
        simp only [e_var, e_non, e_bl, e_int, e_str, e_bin, e_neg, e_not, e_and, e_or, e_cmp, e_chain, e_isN, e_ife, e_tup, e_lst, e_dct, e_idx, e_slc, e_blt, e_isi, e_fld, e_app, e_ext, e_idxof, e_dget, e_nil, e_cons, x_setv, x_sett, x_setp, x_seti, x_seti2, x_augi, x_setf, x_exp, x_ret, x_ife, x_frz, x_retN, x_pass, x_cont, x_nil, x_cons, getD_list, getD_tup, rd_int, rd_bl, rd_non, rd_str, rd_list, rd_tup, rd_fz, rd_dict, len_list, len_tup, abs_int, min2_int, max2_int, int_int, list_list, list_tup, mk_f, mk_t, truth_bl', truth_int', truth_list', tst_some, line0, line1, line2, line3, line4, line5, line6, line7, line8, asg, optC, optD, optI, isAbs, src_list, src_tup, src_enum, setI, body1, wipeE, List.map_cons, List.map_nil, List.length_cons, List.length_nil, List.replicate, List.cons_append, List.nil_append, List.getElem?_cons_zero, List.getElem?_cons_succ, List.set_cons_zero, List.set_cons_succ, List.zip_cons_cons, List.zip_nil_right, List.foldl_cons, List.foldl_nil, Nat.reduceAdd, Nat.reduceSub, bop_add_int, bop_sub_int, cop_lt_int, cop_gt_int, cop_le_int, cop_ge_int, cop_eq_int, cop_ne_int, atI_c0, atI_c1, atI_c2, atI_c3, if_true, Bool.false_eq_true, if_false, ↓reduceIte, Bool.not_true, Bool.not_false, e_isN, hrd, hnin, decide_eq_false hm, hrow, List.length_map]
        rw [if_pos (by unfold LINE; omega), List.map_append]
        rfl
      · rcases List.mem_append.mp hq with z | z
        · exact hr q z
        · rw [List.mem_singleton.mp z]
          exact ho o ho2
theorem vote_loop {N : Sto} {fx : List (Nat × List D)} {ma mm tn : Int} {cl : Bool} {ms : List Tx} {L8 L12 L14 L23 : Nat} {asks : List Ask} {own : List Tx} {x6 x9 x13 x15 x16 x17 x19 x20 x21 x22 : Option D} (k : Nat) (hk : k ≤ 5) (h : WS M0 N s c ((L23, []) :: fx)) (ho : ∀ q ∈ own, q ∈ names) (hl : own.length ≤ 8) :
    ∃ (N' : Sto) (row : List Tx) (y9 y20 : Option D), forP (turnB (run fns cls (n + 1)) cls (.nm 9) bodyV) ((List.range k).map fun i : Nat => D.int i) (wb s ma mm tn cl x6 ms L8 x9 asks L12 x13 L14 x15 x16 x17 (some (.list (own.map D.str))) x19 x20 x21 x22 (some (.loc L23))) N =
      some (.next, wb s ma mm tn cl x6 ms L8 y9 asks L12 x13 L14 x15 x16 x17 (some (.list (own.map D.str))) x19 y20 x21 x22 (some (.loc L23)), N') ∧ WS M0 N' s c ((L23, row.map D.str) :: fx) ∧ (∀ q ∈ row, q ∈ names) ∧ row.length ≤ k := by
  obtain ⟨env', N', e1, row, y9, y20, rfl, w1, w2, w3⟩ := forP_J (f := turnB (run fns cls (n + 1)) cls (.nm 9) bodyV) (e := fun i : Nat => D.int i) (l := List.range k)
    (J := fun i env N => ∃ row y9 y20, env = wb s ma mm tn cl x6 ms L8 y9 asks L12 x13 L14 x15 x16 x17 (some (.list (own.map D.str))) x19 y20 x21 x22 (some (.loc L23)) ∧ WS M0 N s c ((L23, row.map D.str) :: fx) ∧ (∀ q ∈ row, q ∈ names) ∧ row.length ≤ i)
    (fun i a hi env N ⟨row, y9, y20, he, w1, w2, w3⟩ => by
      have hlt := (List.getElem?_eq_some_iff.mp hi).1
      rw [List.length_range] at hlt
      have ea : a = i := by
        rw [List.getElem?_range hlt] at hi
        exact (Option.some.inj hi).symm
      subst he ea
      obtain ⟨N', row', z20, e, w4, w5, w6⟩ := vote_turn (n := n) (ma := ma) (mm := mm) (tn := tn) (cl := cl) (ms := ms) (L8 := L8) (L12 := L12) (L14 := L14) (asks := asks) (x6 := x6) (x9 := y9) (x13 := x13) (x15 := x15) (x16 := x16) (x17 := x17) (x19 := x19) (x20 := y20) (x21 := x21) (x22 := x22) a w1 ho hl w2 w3 (by omega)
      exact ⟨.next, _, N', e, .inl rfl, row', _, z20, rfl, w4, w5, w6⟩) (wb s ma mm tn cl x6 ms L8 x9 asks L12 x13 L14 x15 x16 x17 (some (.list (own.map D.str))) x19 x20 x21 x22 (some (.loc L23))) N ⟨[], x9, x20, rfl, h, (fun p hp => nomatch hp), Nat.le_refl 0⟩
  rw [List.length_range] at w3
  exact ⟨N', row, y9, y20, e1, w1, w2, w3⟩
def okB (b : Bal) : Prop := (b.purpose = "p" ∨ b.purpose = "r") ∧ b.member ∈ pool ∧ b.row.length ≤ 5 ∧ ∀ q ∈ b.row, q ∈ names
abbrev bodyM : SB := (.cons (.setv 23 (.lst true .nil)) (.cons (.for_ (.nm 9) .rng1 (.blt false .max2 (.cons (.blt false .int (.cons (.var 5) .nil)) (.cons (.call .tr tk (.cons (.var 0) (.cons (.bin false .add (.idx (.var 15) (.int 2)) (.int 1)) .nil))) .nil))) .absent bodyV) (.cons (.exp (.app (.var 14) (.tup (.cons (.idx (.var 15) (.int 0)) (.cons (.var 19) (.cons (.blt false .tuple (.cons (.var 23) .nil)) .nil)))))) .nil)))
theorem member_turn {N : Sto} {fx : List (Nat × List D)} {ma mm tn : Int} {cl : Bool} {ms : List Tx} {L8 L12 L14 : Nat} {asks : List Ask} {own : List Tx} {bs : List Bal} {r : Rnd} {m : Tx} {x6 x9 x13 x16 x17 x19 x20 x21 x22 x23 : Option D} (h : WS M0 N s c ((L14, bs.map eBal) :: fx)) (hr : okR r) (hm : m ∈ pool) (ho : ∀ q ∈ own, q ∈ names) (hl : own.length ≤ 8) (hbl : bs.length ≤ 1000) :
    ∃ (N' : Sto) (b : Bal) (y9 y20 y23 : Option D), turnB (run fns cls (n + 1)) cls (.nm 19) bodyM (.str m) (wb s ma mm tn cl x6 ms L8 x9 asks L12 x13 L14 (some (eRnd r)) x16 x17 (some (.list (own.map D.str))) x19 x20 x21 x22 x23) N =
      some (.next, wb s ma mm tn cl x6 ms L8 y9 asks L12 x13 L14 (some (eRnd r)) x16 x17 (some (.list (own.map D.str))) (some (.str m)) y20 x21 x22 y23, N') ∧ WS M0 N' s c ((L14, (bs ++ [b]).map eBal) :: fx) ∧ okB b := by
  rw [turn_nm]
  have h0 := h.push (xs := []) rfl
  have hr1 : ∀ M, rd M (eRnd r) = eRnd r := fun _ => rfl
  have hr2 : getD_ (eRnd r) (.int 2) = some (.int r.most) := rfl
  have hr0 : getD_ (eRnd r) (.int 0) = some (.str r.purpose) := rfl
  obtain ⟨hp1, _, _, hm1, hm4, _⟩ := hr
  obtain ⟨v, N1, e1, v0, v1, h1, _⟩ := h0.take (TK n) (r.most + 1) (by omega) (by omega)
  have hk : ∃ k : Nat, (if v > (if cl = true then (1 : Int) else 0) then v else (if cl = true then (1 : Int) else 0)) = (k : Int) ∧ k ≤ 5 := by
    refine ⟨(if v > (if cl = true then (1 : Int) else 0) then v else (if cl = true then (1 : Int) else 0)).toNat, ?_, ?_⟩
    · cases cl <;> simp only [if_true, Bool.false_eq_true, if_false] <;> split <;> omega
    · cases cl <;> simp only [if_true, Bool.false_eq_true, if_false] <;> split <;> omega
  obtain ⟨k, ek, hk5⟩ := hk
  obtain ⟨N2, row, y9, y20, e2, w1, w2, w3⟩ := vote_loop (n := n) (ma := ma) (mm := mm) (tn := tn) (cl := cl) (ms := ms) (L8 := L8) (L12 := L12) (L14 := L14) (asks := asks) (own := own) (x6 := x6) (x9 := x9) (x13 := x13) (x15 := some (eRnd r)) (x16 := x16) (x17 := x17) (x19 := some (.str m)) (x20 := x20) (x21 := x21) (x22 := x22) k hk5 h1 ho hl
  have hrow := w1.hd
  have hrd : rd N2 (.loc N.length) = .list (row.map D.str) := rd_loc hrow
  have w4 := w1.drop
  have hbal := w4.hd
  refine ⟨N2.set L14 (.list ((bs ++ [Bal.mk r.purpose m row]).map eBal)), Bal.mk r.purpose m row, y9, y20, some (.loc N.length), ?_, w4.set (below_of (below_bal _)), hp1, hm, by show row.length ≤ 5; omega, w2⟩
  refine (xnext (env1 := wb s ma mm tn cl x6 ms L8 x9 asks L12 x13 L14 (some (eRnd r)) x16 x17 (some (.list (own.map D.str))) (some (.str m)) x20 x21 x22 (some (.loc N.length))) (M1 := N ++ [MO.list []]) (by simp only [e_var, e_non, e_bl, e_int, e_str, e_bin, e_neg, e_not, e_and, e_or, e_cmp, e_chain, e_isN, e_ife, e_tup, e_lst, e_dct, e_idx, e_slc, e_blt, e_isi, e_fld, e_app, e_ext, e_idxof, e_dget, e_nil, e_cons, x_setv, x_sett, x_setp, x_seti, x_seti2, x_augi, x_setf, x_exp, x_ret, x_ife, x_frz, x_retN, x_pass, x_cont, x_nil, x_cons, getD_list, getD_tup, rd_int, rd_bl, rd_non, rd_str, rd_list, rd_tup, rd_fz, rd_dict, len_list, len_tup, abs_int, min2_int, max2_int, int_int, list_list, list_tup, mk_f, mk_t, truth_bl', truth_int', truth_list', tst_some, line0, line1, line2, line3, line4, line5, line6, line7, line8, asg, optC, optD, optI, isAbs, src_list, src_tup, src_enum, setI, body1, wipeE, List.map_cons, List.map_nil, List.length_cons, List.length_nil, List.replicate, List.cons_append, List.nil_append, List.getElem?_cons_zero, List.getElem?_cons_succ, List.set_cons_zero, List.set_cons_succ, List.zip_cons_cons, List.zip_nil_right, List.foldl_cons, List.foldl_nil, Nat.reduceAdd, Nat.reduceSub, bop_add_int, bop_sub_int, cop_lt_int, cop_gt_int, cop_le_int, cop_ge_int, cop_eq_int, cop_ne_int, atI_c0, atI_c1, atI_c2, atI_c3, if_true, Bool.false_eq_true, if_false, ↓reduceIte, Bool.not_true, Bool.not_false])).trans ?_
  have ef := x_forP (F := run fns cls (n + 1)) (cls := cls) (t := .nm 9) (body := bodyV) (k := .rng1) (A := .blt false .max2 (.cons (.blt false .int (.cons (.var 5) .nil)) (.cons (.call .tr tk (.cons (.var 0) (.cons (.bin false .add (.idx (.var 15) (.int 2)) (.int 1)) .nil))) .nil))) (B := .absent) (env := wb s ma mm tn cl x6 ms L8 x9 asks L12 x13 L14 (some (eRnd r)) x16 x17 (some (.list (own.map D.str))) (some (.str m)) x20 x21 x22 (some (.loc N.length))) (M := N ++ [MO.list []]) (x := .int (k : Nat)) (y := .non) (M0 := N1) (M1 := N1) (by simp only [e_var, e_non, e_bl, e_int, e_str, e_bin, e_neg, e_not, e_and, e_or, e_cmp, e_chain, e_isN, e_ife, e_tup, e_lst, e_dct, e_idx, e_slc, e_blt, e_isi, e_fld, e_app, e_ext, e_idxof, e_dget, e_nil, e_cons, x_setv, x_sett, x_setp, x_seti, x_seti2, x_augi, x_setf, x_exp, x_ret, x_ife, x_frz, x_retN, x_pass, x_cont, x_nil, x_cons, getD_list, getD_tup, rd_int, rd_bl, rd_non, rd_str, rd_list, rd_tup, rd_fz, rd_dict, len_list, len_tup, abs_int, min2_int, max2_int, int_int, list_list, list_tup, mk_f, mk_t, truth_bl', truth_int', truth_list', tst_some, line0, line1, line2, line3, line4, line5, line6, line7, line8, asg, optC, optD, optI, isAbs, src_list, src_tup, src_enum, setI, body1, wipeE, List.map_cons, List.map_nil, List.length_cons, List.length_nil, List.replicate, List.cons_append, List.nil_append, List.getElem?_cons_zero, List.getElem?_cons_succ, List.set_cons_zero, List.set_cons_succ, List.zip_cons_cons, List.zip_nil_right, List.foldl_cons, List.foldl_nil, Nat.reduceAdd, Nat.reduceSub, bop_add_int, bop_sub_int, cop_lt_int, cop_gt_int, cop_le_int, cop_ge_int, cop_eq_int, cop_ne_int, atI_c0, atI_c1, atI_c2, atI_c3, if_true, Bool.false_eq_true, if_false, ↓reduceIte, Bool.not_true, Bool.not_false, int_bl, hr1, hr2, e_call, e1, ek]) rfl (src_rng1 (n := k) (by omega) _ _) e2
  refine (xnext ef).trans ?_
  simp only [e_var, e_non, e_bl, e_int, e_str, e_bin, e_neg, e_not, e_and, e_or, e_cmp, e_chain, e_isN, e_ife, e_tup, e_lst, e_dct, e_idx, e_slc, e_blt, e_isi, e_fld, e_app, e_ext, e_idxof, e_dget, e_nil, e_cons, x_setv, x_sett, x_setp, x_seti, x_seti2, x_augi, x_setf, x_exp, x_ret, x_ife, x_frz, x_retN, x_pass, x_cont, x_nil, x_cons, getD_list, getD_tup, rd_int, rd_bl, rd_non, rd_str, rd_list, rd_tup, rd_fz, rd_dict, len_list, len_tup, abs_int, min2_int, max2_int, int_int, list_list, list_tup, mk_f, mk_t, truth_bl', truth_int', truth_list', tst_some, line0, line1, line2, line3, line4, line5, line6, line7, line8, asg, optC, optD, optI, isAbs, src_list, src_tup, src_enum, setI, body1, wipeE, List.map_cons, List.map_nil, List.length_cons, List.length_nil, List.replicate, List.cons_append, List.nil_append, List.getElem?_cons_zero, List.getElem?_cons_succ, List.set_cons_zero, List.set_cons_succ, List.zip_cons_cons, List.zip_nil_right, List.foldl_cons, List.foldl_nil, Nat.reduceAdd, Nat.reduceSub, bop_add_int, bop_sub_int, cop_lt_int, cop_gt_int, cop_le_int, cop_ge_int, cop_eq_int, cop_ne_int, atI_c0, atI_c1, atI_c2, atI_c3, if_true, Bool.false_eq_true, if_false, ↓reduceIte, Bool.not_true, Bool.not_false, hbal, hr1, hr0, hrd, tuple_list, List.length_map]
  rw [if_pos (by unfold LINE; omega), List.map_append]
  rfl
end
end K34

/-! K34q: the world: all ballots. -/
namespace K34
open MP CM
section
variable {n : Nat} {M0 : Sto} {s c : Nat}
theorem member_loop {N : Sto} {fx : List (Nat × List D)} {ma mm tn : Int} {cl : Bool} {ms : List Tx} {L8 L12 L14 : Nat} {asks : List Ask} {own : List Tx} {bs : List Bal} {r : Rnd} {x6 x9 x13 x16 x17 x19 x20 x21 x22 x23 : Option D} (sub : List Tx) (hsub : ∀ m ∈ sub, m ∈ pool) (hsl : sub.length ≤ 20) (h : WS M0 N s c ((L14, bs.map eBal) :: fx)) (hr : okR r) (ho : ∀ q ∈ own, q ∈ names) (hl : own.length ≤ 8) (hbl : bs.length ≤ 100) (hb : ∀ b ∈ bs, okB b) :
    ∃ (N' : Sto) (bs' : List Bal) (y9 y19 y20 y23 : Option D), forP (turnB (run fns cls (n + 1)) cls (.nm 19) bodyM) (sub.map D.str) (wb s ma mm tn cl x6 ms L8 x9 asks L12 x13 L14 (some (eRnd r)) x16 x17 (some (.list (own.map D.str))) x19 x20 x21 x22 x23) N =
      some (.next, wb s ma mm tn cl x6 ms L8 y9 asks L12 x13 L14 (some (eRnd r)) x16 x17 (some (.list (own.map D.str))) y19 y20 x21 x22 y23, N') ∧ WS M0 N' s c ((L14, bs'.map eBal) :: fx) ∧ (∀ b ∈ bs', okB b) ∧ bs'.length = bs.length + sub.length := by
  obtain ⟨env', N', e1, bs', y9, y19, y20, y23, rfl, w1, w2, w3⟩ := forP_J (f := turnB (run fns cls (n + 1)) cls (.nm 19) bodyM) (e := D.str) (l := sub)
    (J := fun i env N => ∃ bs' y9 y19 y20 y23, env = wb s ma mm tn cl x6 ms L8 y9 asks L12 x13 L14 (some (eRnd r)) x16 x17 (some (.list (own.map D.str))) y19 y20 x21 x22 y23 ∧ WS M0 N s c ((L14, bs'.map eBal) :: fx) ∧ (∀ b ∈ bs', okB b) ∧ bs'.length = bs.length + i)
    (fun i m hi env N ⟨bs', y9, y19, y20, y23, he, w1, w2, w3⟩ => by
      have hlt := (List.getElem?_eq_some_iff.mp hi).1
      subst he
      obtain ⟨N', b, z9, z20, z23, e, w4, w5⟩ := member_turn (n := n) (ma := ma) (mm := mm) (tn := tn) (cl := cl) (ms := ms) (L8 := L8) (L12 := L12) (L14 := L14) (asks := asks) (own := own) (x6 := x6) (x9 := y9) (x13 := x13) (x16 := x16) (x17 := x17) (x19 := y19) (x20 := y20) (x21 := x21) (x22 := x22) (x23 := y23) w1 hr (hsub m (List.mem_of_getElem? hi)) ho hl (by omega)
      refine ⟨.next, _, N', e, .inl rfl, bs' ++ [b], z9, _, z20, z23, rfl, w4, fun x hx => ?_, by rw [List.length_append, w3]; simp; omega⟩
      rcases List.mem_append.mp hx with z | z
      · exact w2 x z
      · rw [List.mem_singleton.mp z]; exact w5) (wb s ma mm tn cl x6 ms L8 x9 asks L12 x13 L14 (some (eRnd r)) x16 x17 (some (.list (own.map D.str))) x19 x20 x21 x22 x23) N ⟨bs, x9, x19, x20, x23, rfl, h, hb, rfl⟩
  exact ⟨N', bs', y9, y19, y20, y23, e1, w1, w2, w3⟩
abbrev bodyT : SB := (.cons (.setv 18 (.comp false [24] (.nm 24) .seq (.var 10) .absent (.cmp .eq (.idx (.var 24) (.int 2)) (.idx (.var 15) (.int 0))) (.idx (.var 24) (.int 0)))) (.cons (.setv 6 (.ife (.var 5) (.blt false .max2 (.cons (.int 0) (.cons (.bin false .sub (.bin false .sub (.blt false .len (.cons (.var 7) .nil)) (.int 1)) (.call .tr tk (.cons (.var 0) (.cons (.int 3) .nil)))) .nil))) (.call .tr tk (.cons (.var 0) (.cons (.bin false .add (.blt false .len (.cons (.var 7) .nil)) (.int 1)) .nil))))) (.cons (.for_ (.nm 19) .seq (.ife (.cmp .eq (.call .tr tk (.cons (.var 0) (.cons (.int 2) .nil))) (.int 0)) (.slc false (.var 7) .absent (.var 6)) (.slc false (.var 7) (.bin false .sub (.blt false .len (.cons (.var 7) .nil)) (.var 6)) .absent)) .absent bodyM) .nil)))
theorem ballot_turn {N : Sto} {fx : List (Nat × List D)} {ma mm tn : Int} {cl : Bool} {ms : List Tx} {L8 L12 L14 : Nat} {asks : List Ask} {bs : List Bal} {r : Rnd} {x6 x9 x13 x15 x16 x17 x18 x19 x20 x21 x22 x23 : Option D} (h : WS M0 N s c ((L14, bs.map eBal) :: fx)) (hr : okR r) (hms : ∀ m ∈ ms, m ∈ pool) (hml : ms.length ≤ 9) (hal : asks.length ≤ 8) (han : ∀ a ∈ asks, a.name ∈ names) (hbl : bs.length ≤ 90) (hb : ∀ b ∈ bs, okB b) :
    ∃ (N' : Sto) (bs' : List Bal) (y6 y9 y18 y19 y20 y23 : Option D), turnB (run fns cls (n + 1)) cls (.nm 15) bodyT (eRnd r) (wb s ma mm tn cl x6 ms L8 x9 asks L12 x13 L14 x15 x16 x17 x18 x19 x20 x21 x22 x23) N =
      some (.next, wb s ma mm tn cl y6 ms L8 y9 asks L12 x13 L14 (some (eRnd r)) x16 x17 y18 y19 y20 x21 x22 y23, N') ∧ WS M0 N' s c ((L14, bs'.map eBal) :: fx) ∧ (∀ b ∈ bs', okB b) ∧ bs'.length ≤ bs.length + ms.length := by
  rw [turn_nm]
  have hr1 : ∀ M, rd M (eRnd r) = eRnd r := fun _ => rfl
  have hr0 : getD_ (eRnd r) (.int 0) = some (.str r.purpose) := rfl
  generalize hown : (asks.filter fun a => decide (a.purpose = r.purpose)).map (·.name) = own
  have ho : ∀ q ∈ own, q ∈ names := fun q hq => by
    rw [← hown] at hq
    obtain ⟨a, ha, rfl⟩ := List.mem_map.mp hq
    exact han a (List.mem_filter.mp ha).1
  have hol : own.length ≤ 8 := by
    rw [← hown, List.length_map]
    exact Nat.le_trans (List.length_filter_le _ _) hal
  have hc : ev (run fns cls (n + 1)) cls (.comp false [24] (.nm 24) .seq (.var 10) .absent (.cmp .eq (.idx (.var 24) (.int 2)) (.idx (.var 15) (.int 0))) (.idx (.var 24) (.int 0))) (wb s ma mm tn cl x6 ms L8 x9 asks L12 x13 L14 (some (eRnd r)) x16 x17 x18 x19 x20 x21 x22 x23) N = some (.list (own.map D.str), N) := by
    rw [comp_flt (e := eAsk) (g := fun a => .str a.name) (q := fun a => decide (a.purpose = r.purpose)) (l := asks) (M1 := N) (x := .list (asks.map eAsk)) ?_ rfl (line_of hal (by decide)) ?_]
    · rw [← hown, List.map_map]
      rfl
    · simp only [e_var, e_non, e_bl, e_int, e_str, e_bin, e_neg, e_not, e_and, e_or, e_cmp, e_chain, e_isN, e_ife, e_tup, e_lst, e_dct, e_idx, e_slc, e_blt, e_isi, e_fld, e_app, e_ext, e_idxof, e_dget, e_nil, e_cons, x_setv, x_sett, x_setp, x_seti, x_seti2, x_augi, x_setf, x_exp, x_ret, x_ife, x_frz, x_retN, x_pass, x_cont, x_nil, x_cons, getD_list, getD_tup, rd_int, rd_bl, rd_non, rd_str, rd_list, rd_tup, rd_fz, rd_dict, len_list, len_tup, abs_int, min2_int, max2_int, int_int, list_list, list_tup, mk_f, mk_t, truth_bl', truth_int', truth_list', tst_some, line0, line1, line2, line3, line4, line5, line6, line7, line8, asg, optC, optD, optI, isAbs, src_list, src_tup, src_enum, setI, body1, wipeE, List.map_cons, List.map_nil, List.length_cons, List.length_nil, List.replicate, List.cons_append, List.nil_append, List.getElem?_cons_zero, List.getElem?_cons_succ, List.set_cons_zero, List.set_cons_succ, List.zip_cons_cons, List.zip_nil_right, List.foldl_cons, List.foldl_nil, Nat.reduceAdd, Nat.reduceSub, bop_add_int, bop_sub_int, cop_lt_int, cop_gt_int, cop_le_int, cop_ge_int, cop_eq_int, cop_ne_int, atI_c0, atI_c1, atI_c2, atI_c3, if_true, Bool.false_eq_true, if_false, ↓reduceIte, Bool.not_true, Bool.not_false]
    · intro a _
      simp only [turnF, eAsk]
      simp only [e_var, e_non, e_bl, e_int, e_str, e_bin, e_neg, e_not, e_and, e_or, e_cmp, e_chain, e_isN, e_ife, e_tup, e_lst, e_dct, e_idx, e_slc, e_blt, e_isi, e_fld, e_app, e_ext, e_idxof, e_dget, e_nil, e_cons, x_setv, x_sett, x_setp, x_seti, x_seti2, x_augi, x_setf, x_exp, x_ret, x_ife, x_frz, x_retN, x_pass, x_cont, x_nil, x_cons, getD_list, getD_tup, rd_int, rd_bl, rd_non, rd_str, rd_list, rd_tup, rd_fz, rd_dict, len_list, len_tup, abs_int, min2_int, max2_int, int_int, list_list, list_tup, mk_f, mk_t, truth_bl', truth_int', truth_list', tst_some, line0, line1, line2, line3, line4, line5, line6, line7, line8, asg, optC, optD, optI, isAbs, src_list, src_tup, src_enum, setI, body1, wipeE, List.map_cons, List.map_nil, List.length_cons, List.length_nil, List.replicate, List.cons_append, List.nil_append, List.getElem?_cons_zero, List.getElem?_cons_succ, List.set_cons_zero, List.set_cons_succ, List.zip_cons_cons, List.zip_nil_right, List.foldl_cons, List.foldl_nil, Nat.reduceAdd, Nat.reduceSub, bop_add_int, bop_sub_int, cop_lt_int, cop_gt_int, cop_le_int, cop_ge_int, cop_eq_int, cop_ne_int, atI_c0, atI_c1, atI_c2, atI_c3, if_true, Bool.false_eq_true, if_false, ↓reduceIte, Bool.not_true, Bool.not_false, cop_eq_str, hr1, hr0]
      cases decide (a.purpose = r.purpose) <;> rfl
  have many : ∃ (k : Nat) (N1 : Sto), k ≤ ms.length ∧ WS M0 N1 s c ((L14, bs.map eBal) :: fx) ∧ exec (run fns cls (n + 1)) cls (.setv 6 (.ife (.var 5) (.blt false .max2 (.cons (.int 0) (.cons (.bin false .sub (.bin false .sub (.blt false .len (.cons (.var 7) .nil)) (.int 1)) (.call .tr tk (.cons (.var 0) (.cons (.int 3) .nil)))) .nil))) (.call .tr tk (.cons (.var 0) (.cons (.bin false .add (.blt false .len (.cons (.var 7) .nil)) (.int 1)) .nil)))))
      (wb s ma mm tn cl x6 ms L8 x9 asks L12 x13 L14 (some (eRnd r)) x16 x17 (some (.list (own.map D.str))) x19 x20 x21 x22 x23) N = some (.next, wb s ma mm tn cl (some (.int (k : Nat))) ms L8 x9 asks L12 x13 L14 (some (eRnd r)) x16 x17 (some (.list (own.map D.str))) x19 x20 x21 x22 x23, N1) := by
    cases cl with
    | true =>
      obtain ⟨v, N1, e1, v0, v1, h1, _⟩ := h.take (TK n) 3 (by decide) (by decide)
      have ek : ∃ k : Nat, (if ((ms.length : Nat) : Int) - 1 - v > 0 then ((ms.length : Nat) : Int) - 1 - v else 0) = (k : Int) ∧ k ≤ ms.length := by
        refine ⟨(if ((ms.length : Nat) : Int) - 1 - v > 0 then ((ms.length : Nat) : Int) - 1 - v else 0).toNat, ?_, ?_⟩ <;> split <;> omega
      obtain ⟨k, ek, hk⟩ := ek
      exact ⟨k, N1, hk, h1, by simp only [e_var, e_non, e_bl, e_int, e_str, e_bin, e_neg, e_not, e_and, e_or, e_cmp, e_chain, e_isN, e_ife, e_tup, e_lst, e_dct, e_idx, e_slc, e_blt, e_isi, e_fld, e_app, e_ext, e_idxof, e_dget, e_nil, e_cons, x_setv, x_sett, x_setp, x_seti, x_seti2, x_augi, x_setf, x_exp, x_ret, x_ife, x_frz, x_retN, x_pass, x_cont, x_nil, x_cons, getD_list, getD_tup, rd_int, rd_bl, rd_non, rd_str, rd_list, rd_tup, rd_fz, rd_dict, len_list, len_tup, abs_int, min2_int, max2_int, int_int, list_list, list_tup, mk_f, mk_t, truth_bl', truth_int', truth_list', tst_some, line0, line1, line2, line3, line4, line5, line6, line7, line8, asg, optC, optD, optI, isAbs, src_list, src_tup, src_enum, setI, body1, wipeE, List.map_cons, List.map_nil, List.length_cons, List.length_nil, List.replicate, List.cons_append, List.nil_append, List.getElem?_cons_zero, List.getElem?_cons_succ, List.set_cons_zero, List.set_cons_succ, List.zip_cons_cons, List.zip_nil_right, List.foldl_cons, List.foldl_nil, Nat.reduceAdd, Nat.reduceSub, bop_add_int, bop_sub_int, cop_lt_int, cop_gt_int, cop_le_int, cop_ge_int, cop_eq_int, cop_ne_int, atI_c0, atI_c1, atI_c2, atI_c3, if_true, Bool.false_eq_true, if_false, ↓reduceIte, Bool.not_true, Bool.not_false, List.length_map, e_call, e1, ek]⟩
    | false =>
      obtain ⟨v, N1, e1, v0, v1, h1, _⟩ := h.take (TK n) ((ms.length : Nat) + 1 : Int) (by omega) (by omega)
      obtain ⟨k, rfl⟩ := Int.eq_ofNat_of_zero_le v0
      exact ⟨k, N1, by omega, h1, by simp only [e_var, e_non, e_bl, e_int, e_str, e_bin, e_neg, e_not, e_and, e_or, e_cmp, e_chain, e_isN, e_ife, e_tup, e_lst, e_dct, e_idx, e_slc, e_blt, e_isi, e_fld, e_app, e_ext, e_idxof, e_dget, e_nil, e_cons, x_setv, x_sett, x_setp, x_seti, x_seti2, x_augi, x_setf, x_exp, x_ret, x_ife, x_frz, x_retN, x_pass, x_cont, x_nil, x_cons, getD_list, getD_tup, rd_int, rd_bl, rd_non, rd_str, rd_list, rd_tup, rd_fz, rd_dict, len_list, len_tup, abs_int, min2_int, max2_int, int_int, list_list, list_tup, mk_f, mk_t, truth_bl', truth_int', truth_list', tst_some, line0, line1, line2, line3, line4, line5, line6, line7, line8, asg, optC, optD, optI, isAbs, src_list, src_tup, src_enum, setI, body1, wipeE, List.map_cons, List.map_nil, List.length_cons, List.length_nil, List.replicate, List.cons_append, List.nil_append, List.getElem?_cons_zero, List.getElem?_cons_succ, List.set_cons_zero, List.set_cons_succ, List.zip_cons_cons, List.zip_nil_right, List.foldl_cons, List.foldl_nil, Nat.reduceAdd, Nat.reduceSub, bop_add_int, bop_sub_int, cop_lt_int, cop_gt_int, cop_le_int, cop_ge_int, cop_eq_int, cop_ne_int, atI_c0, atI_c1, atI_c2, atI_c3, if_true, Bool.false_eq_true, if_false, ↓reduceIte, Bool.not_true, Bool.not_false, List.length_map, e_call, e1]⟩
  obtain ⟨k, N1, hk, h1, em⟩ := many
  obtain ⟨v, N2, e2, v0, v1, h2, _⟩ := h1.take (TK n) 2 (by decide) (by decide)
  have sub : ∃ sub : List Tx, (∀ m ∈ sub, m ∈ pool) ∧ sub.length ≤ ms.length ∧ ev (run fns cls (n + 1)) cls (.ife (.cmp .eq (.call .tr tk (.cons (.var 0) (.cons (.int 2) .nil))) (.int 0)) (.slc false (.var 7) .absent (.var 6)) (.slc false (.var 7) (.bin false .sub (.blt false .len (.cons (.var 7) .nil)) (.var 6)) .absent))
      (wb s ma mm tn cl (some (.int (k : Nat))) ms L8 x9 asks L12 x13 L14 (some (eRnd r)) x16 x17 (some (.list (own.map D.str))) x19 x20 x21 x22 x23) N1 = some (.list (sub.map D.str), N2) := by
    by_cases hv : v = 0
    · have hcut : cutD (ms.map D.str) none (some (k : Int)) = (ms.take k).map D.str := by rw [cutD_to _ (by omega), List.map_take, Int.toNat_natCast]
      exact ⟨ms.take k, fun m hm => hms m (List.mem_of_mem_take hm), by rw [List.length_take]; omega, by simp only [e_var, e_non, e_bl, e_int, e_str, e_bin, e_neg, e_not, e_and, e_or, e_cmp, e_chain, e_isN, e_ife, e_tup, e_lst, e_dct, e_idx, e_slc, e_blt, e_isi, e_fld, e_app, e_ext, e_idxof, e_dget, e_nil, e_cons, x_setv, x_sett, x_setp, x_seti, x_seti2, x_augi, x_setf, x_exp, x_ret, x_ife, x_frz, x_retN, x_pass, x_cont, x_nil, x_cons, getD_list, getD_tup, rd_int, rd_bl, rd_non, rd_str, rd_list, rd_tup, rd_fz, rd_dict, len_list, len_tup, abs_int, min2_int, max2_int, int_int, list_list, list_tup, mk_f, mk_t, truth_bl', truth_int', truth_list', tst_some, line0, line1, line2, line3, line4, line5, line6, line7, line8, asg, optC, optD, optI, isAbs, src_list, src_tup, src_enum, setI, body1, wipeE, List.map_cons, List.map_nil, List.length_cons, List.length_nil, List.replicate, List.cons_append, List.nil_append, List.getElem?_cons_zero, List.getElem?_cons_succ, List.set_cons_zero, List.set_cons_succ, List.zip_cons_cons, List.zip_nil_right, List.foldl_cons, List.foldl_nil, Nat.reduceAdd, Nat.reduceSub, bop_add_int, bop_sub_int, cop_lt_int, cop_gt_int, cop_le_int, cop_ge_int, cop_eq_int, cop_ne_int, atI_c0, atI_c1, atI_c2, atI_c3, if_true, Bool.false_eq_true, if_false, ↓reduceIte, Bool.not_true, Bool.not_false, e_call, e2, decide_eq_true hv, hcut]⟩
    · have hcut : cutD (ms.map D.str) (some (((ms.length : Nat) : Int) - (k : Int))) none = (ms.drop (ms.length - k)).map D.str := by
        rw [cutD_from _ (by omega), List.map_drop]
        congr 1
        omega
      exact ⟨ms.drop (ms.length - k), fun m hm => hms m (List.mem_of_mem_drop hm), by rw [List.length_drop]; omega, by simp only [e_var, e_non, e_bl, e_int, e_str, e_bin, e_neg, e_not, e_and, e_or, e_cmp, e_chain, e_isN, e_ife, e_tup, e_lst, e_dct, e_idx, e_slc, e_blt, e_isi, e_fld, e_app, e_ext, e_idxof, e_dget, e_nil, e_cons, x_setv, x_sett, x_setp, x_seti, x_seti2, x_augi, x_setf, x_exp, x_ret, x_ife, x_frz, x_retN, x_pass, x_cont, x_nil, x_cons, getD_list, getD_tup, rd_int, rd_bl, rd_non, rd_str, rd_list, rd_tup, rd_fz, rd_dict, len_list, len_tup, abs_int, min2_int, max2_int, int_int, list_list, list_tup, mk_f, mk_t, truth_bl', truth_int', truth_list', tst_some, line0, line1, line2, line3, line4, line5, line6, line7, line8, asg, optC, optD, optI, isAbs, src_list, src_tup, src_enum, setI, body1, wipeE, List.map_cons, List.map_nil, List.length_cons, List.length_nil, List.replicate, List.cons_append, List.nil_append, List.getElem?_cons_zero, List.getElem?_cons_succ, List.set_cons_zero, List.set_cons_succ, List.zip_cons_cons, List.zip_nil_right, List.foldl_cons, List.foldl_nil, Nat.reduceAdd, Nat.reduceSub, bop_add_int, bop_sub_int, cop_lt_int, cop_gt_int, cop_le_int, cop_ge_int, cop_eq_int, cop_ne_int, atI_c0, atI_c1, atI_c2, atI_c3, if_true, Bool.false_eq_true, if_false, ↓reduceIte, Bool.not_true, Bool.not_false, e_call, e2, decide_eq_false hv, List.length_map, hcut]⟩
  obtain ⟨sub, hs1, hs2, es⟩ := sub
  obtain ⟨N3, bs', y9, y19, y20, y23, e3, w1, w2, w3⟩ := member_loop (n := n) (ma := ma) (mm := mm) (tn := tn) (cl := cl) (ms := ms) (L8 := L8) (L12 := L12) (asks := asks) (own := own) (x6 := some (.int (k : Nat))) (x9 := x9) (x13 := x13) (x16 := x16) (x17 := x17) (x19 := x19) (x20 := x20) (x21 := x21) (x22 := x22) (x23 := x23) sub hs1 (by omega) h2 hr ho hol (by omega) hb
  refine ⟨N3, bs', some (.int (k : Nat)), y9, some (.list (own.map D.str)), y19, y20, y23, ?_, w1, w2, by omega⟩
  refine (xnext (env1 := wb s ma mm tn cl x6 ms L8 x9 asks L12 x13 L14 (some (eRnd r)) x16 x17 (some (.list (own.map D.str))) x19 x20 x21 x22 x23) (M1 := N) ?_).trans ?_
  · have := hc
    rw [x_setv]
    rw [show ((wb s ma mm tn cl x6 ms L8 x9 asks L12 x13 L14 x15 x16 x17 x18 x19 x20 x21 x22 x23).set 15 (some (eRnd r))) = wb s ma mm tn cl x6 ms L8 x9 asks L12 x13 L14 (some (eRnd r)) x16 x17 x18 x19 x20 x21 x22 x23 from rfl, this]
    rfl
  refine (xnext em).trans ?_
  have ef := x_forP (F := run fns cls (n + 1)) (cls := cls) (t := .nm 19) (body := bodyM) (k := .seq) (A := (.ife (.cmp .eq (.call .tr tk (.cons (.var 0) (.cons (.int 2) .nil))) (.int 0)) (.slc false (.var 7) .absent (.var 6)) (.slc false (.var 7) (.bin false .sub (.blt false .len (.cons (.var 7) .nil)) (.var 6)) .absent))) (B := .absent) (y := .non) (M1 := N2) es rfl rfl e3
  refine (xnext ef).trans x_nil
theorem ballot_loop {N : Sto} {fx : List (Nat × List D)} {ma mm tn : Int} {cl : Bool} {ms : List Tx} {L8 L12 L14 : Nat} {asks : List Ask} {rounds : List Rnd} {x6 x9 x13 x16 x17 x20 x21 x22 : Option D} (h : WS M0 N s c ((L14, []) :: (L12, rounds.map eRnd) :: fx)) (hr : ∀ r ∈ rounds, okR r) (hrl : rounds.length ≤ 2) (hms : ∀ m ∈ ms, m ∈ pool) (hml : ms.length ≤ 9) (hal : asks.length ≤ 8) (han : ∀ a ∈ asks, a.name ∈ names) :
    ∃ (N' : Sto) (bs : List Bal) (y6 y9 y15 y18 y19 y20 y23 : Option D), exec (run fns cls (n + 1)) cls (.for_ (.nm 15) .seq (.var 12) .absent bodyT) (wb s ma mm tn cl x6 ms L8 x9 asks L12 x13 L14 none x16 x17 none none x20 x21 x22 none) N =
      some (.next, wb s ma mm tn cl y6 ms L8 y9 asks L12 x13 L14 y15 x16 x17 y18 y19 y20 x21 x22 y23, N') ∧ WS M0 N' s c ((L14, bs.map eBal) :: (L12, rounds.map eRnd) :: fx) ∧ (∀ b ∈ bs, okB b) ∧ bs.length ≤ rounds.length * ms.length := by
  obtain ⟨env', N', e1, bs, y6, y9, y15, y18, y19, y20, y23, rfl, w1, w2, w3⟩ := x_forA (F := run fns cls (n + 1)) (cls := cls) (t := .nm 15) (A := .var 12) (body := bodyT) (e := eRnd) (l := rounds) (x := .loc L12)
    (J := fun i env N => ∃ bs y6 y9 y15 y18 y19 y20 y23, env = wb s ma mm tn cl y6 ms L8 y9 asks L12 x13 L14 y15 x16 x17 y18 y19 y20 x21 x22 y23 ∧ WS M0 N s c ((L14, bs.map eBal) :: (L12, rounds.map eRnd) :: fx) ∧ (∀ b ∈ bs, okB b) ∧ bs.length ≤ i * ms.length)
    (env := wb s ma mm tn cl x6 ms L8 x9 asks L12 x13 L14 none x16 x17 none none x20 x21 x22 none) (M := N) (by simp only [e_var, e_non, e_bl, e_int, e_str, e_bin, e_neg, e_not, e_and, e_or, e_cmp, e_chain, e_isN, e_ife, e_tup, e_lst, e_dct, e_idx, e_slc, e_blt, e_isi, e_fld, e_app, e_ext, e_idxof, e_dget, e_nil, e_cons, x_setv, x_sett, x_setp, x_seti, x_seti2, x_augi, x_setf, x_exp, x_ret, x_ife, x_frz, x_retN, x_pass, x_cont, x_nil, x_cons, getD_list, getD_tup, rd_int, rd_bl, rd_non, rd_str, rd_list, rd_tup, rd_fz, rd_dict, len_list, len_tup, abs_int, min2_int, max2_int, int_int, list_list, list_tup, mk_f, mk_t, truth_bl', truth_int', truth_list', tst_some, line0, line1, line2, line3, line4, line5, line6, line7, line8, asg, optC, optD, optI, isAbs, src_list, src_tup, src_enum, setI, body1, wipeE, List.map_cons, List.map_nil, List.length_cons, List.length_nil, List.replicate, List.cons_append, List.nil_append, List.getElem?_cons_zero, List.getElem?_cons_succ, List.set_cons_zero, List.set_cons_succ, List.zip_cons_cons, List.zip_nil_right, List.foldl_cons, List.foldl_nil, Nat.reduceAdd, Nat.reduceSub, bop_add_int, bop_sub_int, cop_lt_int, cop_gt_int, cop_le_int, cop_ge_int, cop_eq_int, cop_ne_int, atI_c0, atI_c1, atI_c2, atI_c3, if_true, Bool.false_eq_true, if_false, ↓reduceIte, Bool.not_true, Bool.not_false])
    (.inr ⟨L12, rfl, fun i env N ⟨bs, _, _, _, _, _, _, _, _, w1, _, _⟩ => (w1.at_ (L12, rounds.map eRnd) (List.mem_cons_of_mem _ List.mem_cons_self)).2⟩)
    (fun i r hi env N ⟨bs, y6, y9, y15, y18, y19, y20, y23, he, w1, w2, w3⟩ => by
      have hlt := (List.getElem?_eq_some_iff.mp hi).1
      subst he
      have hbl : bs.length ≤ 90 := by
        have : i * ms.length ≤ 2 * 9 := Nat.mul_le_mul (by omega) hml
        omega
      obtain ⟨N', bs', z6, z9, z18, z19, z20, z23, e, w4, w5, w6⟩ := ballot_turn (n := n) (ma := ma) (mm := mm) (tn := tn) (cl := cl) (ms := ms) (L8 := L8) (L12 := L12) (asks := asks) (x6 := y6) (x9 := y9) (x13 := x13) (x15 := y15) (x16 := x16) (x17 := x17) (x18 := y18) (x19 := y19) (x20 := y20) (x21 := x21) (x22 := x22) (x23 := y23) w1 (hr r (List.mem_of_getElem? hi)) hms hml hal han hbl w2
      refine ⟨.next, _, N', e, .inl rfl, bs', z6, z9, _, z18, z19, z20, z23, rfl, w4, w5, ?_⟩
      rw [Nat.succ_mul]
      omega) ⟨[], x6, x9, none, none, none, x20, none, rfl, h, (fun p hp => nomatch hp), Nat.zero_le _⟩
  exact ⟨N', bs, y6, y9, y15, y18, y19, y20, y23, e1, w1, w2, w3⟩
end
end K34

/-! K34r: the world. -/
namespace K34
open MP CM
section
variable {n : Nat} {M0 : Sto} {s c : Nat}
theorem line12 : (12 ≤ LINE) = True := by simp [LINE]
theorem round_loop {N : Sto} {fx : List (Nat × List D)} {ma mm tn : Int} {cl : Bool} {ms : List Tx} {L8 L12 : Nat} {asks : List Ask} {x6 x9 x13 x16 x17 x20 x21 : Option D} (h : WS M0 N s c ((L12, []) :: fx)) (ha : ∀ a ∈ asks, okA a) (hl : asks.length ≤ 8) :
    ∃ (N' : Sto) (rounds : List Rnd) (y13 y22 : Option D), forP (turnB (run fns cls (n + 1)) cls (.nm 13) bodyR) (([("p" : Tx), "r"] : List Tx).map D.str) (wr s ma mm tn cl x6 ms L8 x9 asks (some (.loc L12)) x13 none none x16 x17 none none x20 x21 none none) N =
      some (.next, wr s ma mm tn cl x6 ms L8 x9 asks (some (.loc L12)) y13 none none x16 x17 none none x20 x21 y22 none, N') ∧ WS M0 N' s c ((L12, rounds.map eRnd) :: fx) ∧ (∀ r ∈ rounds, okR r) ∧ rounds.length ≤ 2 := by
  obtain ⟨env', N', e1, rounds, y13, y22, rfl, w1, w2, w3⟩ := forP_J (f := turnB (run fns cls (n + 1)) cls (.nm 13) bodyR) (e := D.str) (l := [("p" : Tx), "r"])
    (J := fun i env N => ∃ rounds y13 y22, env = wr s ma mm tn cl x6 ms L8 x9 asks (some (.loc L12)) y13 none none x16 x17 none none x20 x21 y22 none ∧ WS M0 N s c ((L12, rounds.map eRnd) :: fx) ∧ (∀ r ∈ rounds, okR r) ∧ rounds.length ≤ i)
    (fun i p hi env N ⟨rounds, y13, y22, he, w1, w2, w3⟩ => by
      have hlt := (List.getElem?_eq_some_iff.mp hi).1
      have hlt2 : i < 2 := hlt
      subst he
      have hp : p = "p" ∨ p = "r" := by
        have := List.mem_of_getElem? hi
        simpa using this
      obtain ⟨N', rs, z22, e, w4, w5, w6⟩ := round_turn (n := n) (ma := ma) (mm := mm) (tn := tn) (cl := cl) (ms := ms) (L8 := L8) (x6 := x6) (x9 := x9) (x13 := y13) (x14 := none) (x15 := none) (x16 := x16) (x17 := x17) (x18 := none) (x19 := none) (x20 := x20) (x21 := x21) (x22 := y22) (x23 := none) hp w1 ha hl (by omega)
      refine ⟨.next, _, N', e, .inl rfl, rounds ++ rs, _, z22, rfl, w4, fun r hr => ?_, by rw [List.length_append]; omega⟩
      rcases List.mem_append.mp hr with z | z
      · exact w2 r z
      · exact w5 r z) (wr s ma mm tn cl x6 ms L8 x9 asks (some (.loc L12)) x13 none none x16 x17 none none x20 x21 none none) N ⟨[], x13, none, rfl, h, (fun p hp => nomatch hp), Nat.le_refl 0⟩
  exact ⟨N', rounds, y13, y22, e1, w1, w2, w3⟩
theorem kin_sorted {kin : List (Tx × Tx)} (hk : okK kin) (M : Sto) : blt1 .sorted M [.list (kin.map eKin)] = some (.list ((srt eKin kin).map eKin)) :=
  sorted_map (sortOk_map (fun a _ b _ => by
    unfold eKin
    simp only [pd, pdL, PySem.W.alike, PySem.W.alikeAll, Bool.and_self]) (.inl fun a _ => rfl) fun a ha => by rw [dp_kin (hk a ha)]; decide)
theorem world_run {ma mm : Nat} (a0 : 1 ≤ ma) (a1 : ma ≤ 8) (m0 : 1 ≤ mm) (m1 : mm ≤ 9) (h0 : SW M0 M0 s c) : ∃ (w : Wld) (M2 : Sto), callM (run fns cls (n + 2)) .tr f_law_world [.loc s, .int (ma : Nat), .int (mm : Nat)] M0 = some (eW w, M2) ∧ w.Ok ma mm ∧ SW M0 M2 s c ∧ Kp M0 M2 s c := by
  suffices key : ∃ (w : Wld) (N : Sto), run fns cls (n + 2) f_law_world [.loc s, .int (ma : Nat), .int (mm : Nat)] M0 = some (eW w, N) ∧ w.Ok ma mm ∧ SW M0 N s c by
    obtain ⟨w, N, e, ok, sw⟩ := key
    obtain ⟨M2, e2, sw2, kp⟩ := sw.cut e ((has_w w).below _)
    exact ⟨w, M2, e2, ok, sw2, kp⟩
  have w0 : WS M0 M0 s c [] := .start h0.st0 h0.cl0
  obtain ⟨tn, N1, e1, t0, t1, w1, _⟩ := w0.take (TK n) 12 (by decide) (by decide)
  obtain ⟨cv, N2, e2, c0, c1, w2, _⟩ := w1.take (TK n) 3 (by decide) (by decide)
  generalize hcl : decide (cv > 0) = cl
  -- how many members
  have many : ∃ (m : Nat) (N3 : Sto), m ≤ mm ∧ WS M0 N3 s c [] ∧ ∀ r : MP.Env, ev (run fns cls (n + 1)) cls (.ife (.var 5) (.bin false .sub (.var 2) (.call .tr tk (.cons (.var 0) (.cons (.blt false .min2 (.cons (.int 4) (.cons (.var 2) .nil))) .nil)))) (.call .tr tk (.cons (.var 0) (.cons (.bin false .add (.var 2) (.int 1)) .nil)))) (some (.loc s) :: some (.int (ma : Nat)) :: some (.int (mm : Nat)) :: some poolD :: some (.int tn) :: some (.bl cl) :: r) N2 = some (.int (m : Nat), N3) := by
    cases cl with
    | true =>
      obtain ⟨v, N3, e3, v0, v1, w3, _⟩ := w2.take (TK n) (if ((mm : Nat) : Int) < 4 then ((mm : Nat) : Int) else 4) (by split <;> omega) (by split <;> omega)
      refine ⟨(((mm : Nat) : Int) - v).toNat, N3, ?_, w3, fun r => ?_⟩
      · omega
      · have : (((((mm : Nat) : Int) - v).toNat : Nat) : Int) = (mm : Int) - v := by split at v1 <;> omega
        rw [this]
        simp only [e_var, e_non, e_bl, e_int, e_str, e_bin, e_neg, e_not, e_and, e_or, e_cmp, e_chain, e_isN, e_ife, e_tup, e_lst, e_dct, e_idx, e_slc, e_blt, e_isi, e_fld, e_app, e_ext, e_idxof, e_dget, e_nil, e_cons, x_setv, x_sett, x_setp, x_seti, x_seti2, x_augi, x_setf, x_exp, x_ret, x_ife, x_frz, x_retN, x_pass, x_cont, x_nil, x_cons, getD_list, getD_tup, rd_int, rd_bl, rd_non, rd_str, rd_list, rd_tup, rd_fz, rd_dict, len_list, len_tup, abs_int, min2_int, max2_int, int_int, list_list, list_tup, mk_f, mk_t, truth_bl', truth_int', truth_list', tst_some, line0, line1, line2, line3, line4, line5, line6, line7, line8, asg, optC, optD, optI, isAbs, src_list, src_tup, src_enum, setI, body1, wipeE, List.map_cons, List.map_nil, List.length_cons, List.length_nil, List.replicate, List.cons_append, List.nil_append, List.getElem?_cons_zero, List.getElem?_cons_succ, List.set_cons_zero, List.set_cons_succ, List.zip_cons_cons, List.zip_nil_right, List.foldl_cons, List.foldl_nil, Nat.reduceAdd, Nat.reduceSub, bop_add_int, bop_sub_int, cop_lt_int, cop_gt_int, cop_le_int, cop_ge_int, cop_eq_int, cop_ne_int, atI_c0, atI_c1, atI_c2, atI_c3, if_true, Bool.false_eq_true, if_false, ↓reduceIte, Bool.not_true, Bool.not_false, e_call, e3]
    | false =>
      obtain ⟨v, N3, e3, v0, v1, w3, _⟩ := w2.take (TK n) (((mm : Nat) : Int) + 1) (by omega) (by omega)
      obtain ⟨m, rfl⟩ := Int.eq_ofNat_of_zero_le v0
      exact ⟨m, N3, by omega, w3, fun r => by simp only [e_var, e_non, e_bl, e_int, e_str, e_bin, e_neg, e_not, e_and, e_or, e_cmp, e_chain, e_isN, e_ife, e_tup, e_lst, e_dct, e_idx, e_slc, e_blt, e_isi, e_fld, e_app, e_ext, e_idxof, e_dget, e_nil, e_cons, x_setv, x_sett, x_setp, x_seti, x_seti2, x_augi, x_setf, x_exp, x_ret, x_ife, x_frz, x_retN, x_pass, x_cont, x_nil, x_cons, getD_list, getD_tup, rd_int, rd_bl, rd_non, rd_str, rd_list, rd_tup, rd_fz, rd_dict, len_list, len_tup, abs_int, min2_int, max2_int, int_int, list_list, list_tup, mk_f, mk_t, truth_bl', truth_int', truth_list', tst_some, line0, line1, line2, line3, line4, line5, line6, line7, line8, asg, optC, optD, optI, isAbs, src_list, src_tup, src_enum, setI, body1, wipeE, List.map_cons, List.map_nil, List.length_cons, List.length_nil, List.replicate, List.cons_append, List.nil_append, List.getElem?_cons_zero, List.getElem?_cons_succ, List.set_cons_zero, List.set_cons_succ, List.zip_cons_cons, List.zip_nil_right, List.foldl_cons, List.foldl_nil, Nat.reduceAdd, Nat.reduceSub, bop_add_int, bop_sub_int, cop_lt_int, cop_gt_int, cop_le_int, cop_ge_int, cop_eq_int, cop_ne_int, atI_c0, atI_c1, atI_c2, atI_c3, if_true, Bool.false_eq_true, if_false, ↓reduceIte, Bool.not_true, Bool.not_false, e_call, e3]⟩
  obtain ⟨m, N3, hm, w3, em⟩ := many
  generalize hms : (List.range m).map (fun k : Nat => poolAt ((tn + 5 * (k : Int)) % 12)) = ms
  have hml : ms.length = m := by rw [← hms, List.length_map, List.length_range]
  have hmp : ∀ x ∈ ms, x ∈ pool := fun x hx => by
    rw [← hms] at hx
    obtain ⟨k, _, rfl⟩ := List.mem_map.mp hx
    exact (pool_get (Int.emod_nonneg _ (by decide)) (Int.emod_lt_of_pos _ (by decide))).2
  -- kin
  have w4 := w3.push (xs := []) rfl
  obtain ⟨kv, N5, e5, k0, k1, w5, _⟩ := w4.take (TK n) (if cl = true then 2 else 4) (by split <;> decide) (by split <;> decide)
  have hkn : ∃ kn : Nat, L2.atI [D.int 0, D.int 2, D.int 6, D.int 14] kv = some (.int (kn : Nat)) ∧ kn ≤ 14 := by
    have : kv < 4 := by split at k1 <;> omega
    rcases (show kv = 0 ∨ kv = 1 ∨ kv = 2 ∨ kv = 3 by omega) with z | z | z | z <;> subst z
    · exact ⟨0, rfl, by decide⟩
    · exact ⟨2, rfl, by decide⟩
    · exact ⟨6, rfl, by decide⟩
    · exact ⟨14, rfl, by decide⟩
  obtain ⟨kn, ekn, hkn⟩ := hkn
  obtain ⟨N6, kin, y9, y20, y21, e6, w6, okk, klen⟩ := kin_loop (n := n) (ma := (ma : Nat)) (mm := (mm : Nat)) (tn := tn) (cl := cl) (x6 := some (.int (m : Nat))) (ms := ms) kn hkn w5
  -- asks
  have w7 := w6.push (xs := []) rfl
  obtain ⟨av, N8, e8, av0, av1, w8, _⟩ := w7.take (TK n) (ma : Nat) (by omega) (by omega)
  obtain ⟨an, rfl⟩ := Int.eq_ofNat_of_zero_le av0
  obtain ⟨N9, asks, y9', y13, y16, y17, e9, w9, alen, aok, anm⟩ := ask_loop (n := n) (ma := (ma : Nat)) (mm := (mm : Nat)) (cl := cl) (ms := ms) (L8 := N3.length) (x9 := y9) (x20 := y20) (x21 := y21) t0 t1 (show m ≤ 9 by omega) (1 + an) (by omega) w8
  have han : ∀ a ∈ asks, a.name ∈ names := fun a ha => by
    have : a.name ∈ asks.map (·.name) := List.mem_map.mpr ⟨a, ha, rfl⟩
    rw [anm] at this
    exact List.mem_of_mem_take this
  have r9 := w9.hd
  have w10 := w9.dead
  -- rounds
  have w11 := w10.push (xs := []) rfl
  obtain ⟨N12, rounds, y13', y22, e12, w12, rok, rlen⟩ := round_loop (n := n) (ma := (ma : Nat)) (mm := (mm : Nat)) (tn := tn) (cl := cl) (ms := ms) (L8 := N3.length) (x6 := some (.int (m : Nat))) (x9 := y9') (x13 := y13) (x16 := y16) (x17 := y17) (x20 := y20) (x21 := y21) w11 aok (by omega)
  -- ballots
  have w13 := w12.push (xs := []) rfl
  obtain ⟨N14, bs, y6, y9'', y15, y18, y19, y20', y23, e14, w14, bok, blen⟩ := ballot_loop (n := n) (ma := (ma : Nat)) (mm := (mm : Nat)) (tn := tn) (cl := cl) (ms := ms) (L8 := N3.length) (asks := asks) (x6 := some (.int (m : Nat))) (x9 := y9') (x13 := y13') (x16 := y16) (x17 := y17) (x20 := y20) (x21 := y21) (x22 := y22) w13 rok rlen hmp (by omega) (by omega) han
  have p1 := w14.perm (fx' := ((N9.set N6.length .dead).length, rounds.map eRnd) :: (N12.length, bs.map eBal) :: [(N3.length, kin.map eKin)]) (List.Perm.swap _ _ _)
  have r12 := p1.hd
  have w15 := p1.dead
  have r14 := w15.hd
  have w16 := w15.dead
  have r8 := w16.hd
  have w17 := w16.dead
  have hks := kin_sorted okk
  refine ⟨⟨ms, srt eKin kin, asks, rounds, bs⟩, _, run_of (f := f_law_world) rfl rfl ?_, ⟨by show ms.length ≤ mm; omega, hmp, by show (srt eKin kin).length ≤ 14; rw [srt_len]; omega, fun p hp => okk p (mem_srt.mp hp), by show asks.length ≤ ma; omega, fun z => ?_, by show asks.map (·.name) = names.take asks.length; rw [anm, alen], aok, rlen, rok, ?_, bok⟩, w17.sw⟩
  rotate_left
  · have z2 : asks = [] := z
    rw [z2] at alen
    simp at alen
    omega
  · show bs.length ≤ 2 * mm
    have h1 : rounds.length * ms.length ≤ 2 * mm := Nat.mul_le_mul rlen (by omega)
    omega
  · refine r_set (x := poolD) (M1 := M0) (by simp only [e_var, e_non, e_bl, e_int, e_str, e_bin, e_neg, e_not, e_and, e_or, e_cmp, e_chain, e_isN, e_ife, e_tup, e_lst, e_dct, e_idx, e_slc, e_blt, e_isi, e_fld, e_app, e_ext, e_idxof, e_dget, e_nil, e_cons, x_setv, x_sett, x_setp, x_seti, x_seti2, x_augi, x_setf, x_exp, x_ret, x_ife, x_frz, x_retN, x_pass, x_cont, x_nil, x_cons, getD_list, getD_tup, rd_int, rd_bl, rd_non, rd_str, rd_list, rd_tup, rd_fz, rd_dict, len_list, len_tup, abs_int, min2_int, max2_int, int_int, list_list, list_tup, mk_f, mk_t, truth_bl', truth_int', truth_list', tst_some, line0, line1, line2, line3, line4, line5, line6, line7, line8, asg, optC, optD, optI, isAbs, src_list, src_tup, src_enum, setI, body1, wipeE, List.map_cons, List.map_nil, List.length_cons, List.length_nil, List.replicate, List.cons_append, List.nil_append, List.getElem?_cons_zero, List.getElem?_cons_succ, List.set_cons_zero, List.set_cons_succ, List.zip_cons_cons, List.zip_nil_right, List.foldl_cons, List.foldl_nil, Nat.reduceAdd, Nat.reduceSub, bop_add_int, bop_sub_int, cop_lt_int, cop_gt_int, cop_le_int, cop_ge_int, cop_eq_int, cop_ne_int, atI_c0, atI_c1, atI_c2, atI_c3, if_true, Bool.false_eq_true, if_false, ↓reduceIte, Bool.not_true, Bool.not_false, line12]; rfl) ?_
    refine r_set (x := .int tn) (M1 := N1) (by simp only [e_var, e_non, e_bl, e_int, e_str, e_bin, e_neg, e_not, e_and, e_or, e_cmp, e_chain, e_isN, e_ife, e_tup, e_lst, e_dct, e_idx, e_slc, e_blt, e_isi, e_fld, e_app, e_ext, e_idxof, e_dget, e_nil, e_cons, x_setv, x_sett, x_setp, x_seti, x_seti2, x_augi, x_setf, x_exp, x_ret, x_ife, x_frz, x_retN, x_pass, x_cont, x_nil, x_cons, getD_list, getD_tup, rd_int, rd_bl, rd_non, rd_str, rd_list, rd_tup, rd_fz, rd_dict, len_list, len_tup, abs_int, min2_int, max2_int, int_int, list_list, list_tup, mk_f, mk_t, truth_bl', truth_int', truth_list', tst_some, line0, line1, line2, line3, line4, line5, line6, line7, line8, asg, optC, optD, optI, isAbs, src_list, src_tup, src_enum, setI, body1, wipeE, List.map_cons, List.map_nil, List.length_cons, List.length_nil, List.replicate, List.cons_append, List.nil_append, List.getElem?_cons_zero, List.getElem?_cons_succ, List.set_cons_zero, List.set_cons_succ, List.zip_cons_cons, List.zip_nil_right, List.foldl_cons, List.foldl_nil, Nat.reduceAdd, Nat.reduceSub, bop_add_int, bop_sub_int, cop_lt_int, cop_gt_int, cop_le_int, cop_ge_int, cop_eq_int, cop_ne_int, atI_c0, atI_c1, atI_c2, atI_c3, if_true, Bool.false_eq_true, if_false, ↓reduceIte, Bool.not_true, Bool.not_false, e_call, e1]) ?_
    refine r_set (x := .bl cl) (M1 := N2) (by simp only [e_var, e_non, e_bl, e_int, e_str, e_bin, e_neg, e_not, e_and, e_or, e_cmp, e_chain, e_isN, e_ife, e_tup, e_lst, e_dct, e_idx, e_slc, e_blt, e_isi, e_fld, e_app, e_ext, e_idxof, e_dget, e_nil, e_cons, x_setv, x_sett, x_setp, x_seti, x_seti2, x_augi, x_setf, x_exp, x_ret, x_ife, x_frz, x_retN, x_pass, x_cont, x_nil, x_cons, getD_list, getD_tup, rd_int, rd_bl, rd_non, rd_str, rd_list, rd_tup, rd_fz, rd_dict, len_list, len_tup, abs_int, min2_int, max2_int, int_int, list_list, list_tup, mk_f, mk_t, truth_bl', truth_int', truth_list', tst_some, line0, line1, line2, line3, line4, line5, line6, line7, line8, asg, optC, optD, optI, isAbs, src_list, src_tup, src_enum, setI, body1, wipeE, List.map_cons, List.map_nil, List.length_cons, List.length_nil, List.replicate, List.cons_append, List.nil_append, List.getElem?_cons_zero, List.getElem?_cons_succ, List.set_cons_zero, List.set_cons_succ, List.zip_cons_cons, List.zip_nil_right, List.foldl_cons, List.foldl_nil, Nat.reduceAdd, Nat.reduceSub, bop_add_int, bop_sub_int, cop_lt_int, cop_gt_int, cop_le_int, cop_ge_int, cop_eq_int, cop_ne_int, atI_c0, atI_c1, atI_c2, atI_c3, if_true, Bool.false_eq_true, if_false, ↓reduceIte, Bool.not_true, Bool.not_false, e_call, e2, hcl]) ?_
    refine r_set (x := .int (m : Nat)) (M1 := N3) (em _) ?_
    refine r_set (x := .list (ms.map D.str)) (M1 := N3) ?_ ?_
    · rw [← hms]
      exact members_ev t0 t1 (by omega)
    refine r_set (x := .loc N3.length) (M1 := N3 ++ [MO.list []]) (by simp only [e_var, e_non, e_bl, e_int, e_str, e_bin, e_neg, e_not, e_and, e_or, e_cmp, e_chain, e_isN, e_ife, e_tup, e_lst, e_dct, e_idx, e_slc, e_blt, e_isi, e_fld, e_app, e_ext, e_idxof, e_dget, e_nil, e_cons, x_setv, x_sett, x_setp, x_seti, x_seti2, x_augi, x_setf, x_exp, x_ret, x_ife, x_frz, x_retN, x_pass, x_cont, x_nil, x_cons, getD_list, getD_tup, rd_int, rd_bl, rd_non, rd_str, rd_list, rd_tup, rd_fz, rd_dict, len_list, len_tup, abs_int, min2_int, max2_int, int_int, list_list, list_tup, mk_f, mk_t, truth_bl', truth_int', truth_list', tst_some, line0, line1, line2, line3, line4, line5, line6, line7, line8, asg, optC, optD, optI, isAbs, src_list, src_tup, src_enum, setI, body1, wipeE, List.map_cons, List.map_nil, List.length_cons, List.length_nil, List.replicate, List.cons_append, List.nil_append, List.getElem?_cons_zero, List.getElem?_cons_succ, List.set_cons_zero, List.set_cons_succ, List.zip_cons_cons, List.zip_nil_right, List.foldl_cons, List.foldl_nil, Nat.reduceAdd, Nat.reduceSub, bop_add_int, bop_sub_int, cop_lt_int, cop_gt_int, cop_le_int, cop_ge_int, cop_eq_int, cop_ne_int, atI_c0, atI_c1, atI_c2, atI_c3, if_true, Bool.false_eq_true, if_false, ↓reduceIte, Bool.not_true, Bool.not_false]) ?_
    refine r_next (x_forP (x := .int (kn : Nat)) (y := .non) (M0 := N5) (M1 := N5) ?_ rfl (src_rng1 (n := kn) (by omega) _ _) e6) ?_
    · cases cl with
      | true =>
        have e5' := e5
        simp only [if_true] at e5'
        simp only [e_var, e_non, e_bl, e_int, e_str, e_bin, e_neg, e_not, e_and, e_or, e_cmp, e_chain, e_isN, e_ife, e_tup, e_lst, e_dct, e_idx, e_slc, e_blt, e_isi, e_fld, e_app, e_ext, e_idxof, e_dget, e_nil, e_cons, x_setv, x_sett, x_setp, x_seti, x_seti2, x_augi, x_setf, x_exp, x_ret, x_ife, x_frz, x_retN, x_pass, x_cont, x_nil, x_cons, getD_list, getD_tup, rd_int, rd_bl, rd_non, rd_str, rd_list, rd_tup, rd_fz, rd_dict, len_list, len_tup, abs_int, min2_int, max2_int, int_int, list_list, list_tup, mk_f, mk_t, truth_bl', truth_int', truth_list', tst_some, line0, line1, line2, line3, line4, line5, line6, line7, line8, asg, optC, optD, optI, isAbs, src_list, src_tup, src_enum, setI, body1, wipeE, List.map_cons, List.map_nil, List.length_cons, List.length_nil, List.replicate, List.cons_append, List.nil_append, List.getElem?_cons_zero, List.getElem?_cons_succ, List.set_cons_zero, List.set_cons_succ, List.zip_cons_cons, List.zip_nil_right, List.foldl_cons, List.foldl_nil, Nat.reduceAdd, Nat.reduceSub, bop_add_int, bop_sub_int, cop_lt_int, cop_gt_int, cop_le_int, cop_ge_int, cop_eq_int, cop_ne_int, atI_c0, atI_c1, atI_c2, atI_c3, if_true, Bool.false_eq_true, if_false, ↓reduceIte, Bool.not_true, Bool.not_false, e_call, e5', ekn]
      | false =>
        have e5' := e5
        simp only [Bool.false_eq_true, if_false] at e5'
        simp only [e_var, e_non, e_bl, e_int, e_str, e_bin, e_neg, e_not, e_and, e_or, e_cmp, e_chain, e_isN, e_ife, e_tup, e_lst, e_dct, e_idx, e_slc, e_blt, e_isi, e_fld, e_app, e_ext, e_idxof, e_dget, e_nil, e_cons, x_setv, x_sett, x_setp, x_seti, x_seti2, x_augi, x_setf, x_exp, x_ret, x_ife, x_frz, x_retN, x_pass, x_cont, x_nil, x_cons, getD_list, getD_tup, rd_int, rd_bl, rd_non, rd_str, rd_list, rd_tup, rd_fz, rd_dict, len_list, len_tup, abs_int, min2_int, max2_int, int_int, list_list, list_tup, mk_f, mk_t, truth_bl', truth_int', truth_list', tst_some, line0, line1, line2, line3, line4, line5, line6, line7, line8, asg, optC, optD, optI, isAbs, src_list, src_tup, src_enum, setI, body1, wipeE, List.map_cons, List.map_nil, List.length_cons, List.length_nil, List.replicate, List.cons_append, List.nil_append, List.getElem?_cons_zero, List.getElem?_cons_succ, List.set_cons_zero, List.set_cons_succ, List.zip_cons_cons, List.zip_nil_right, List.foldl_cons, List.foldl_nil, Nat.reduceAdd, Nat.reduceSub, bop_add_int, bop_sub_int, cop_lt_int, cop_gt_int, cop_le_int, cop_ge_int, cop_eq_int, cop_ne_int, atI_c0, atI_c1, atI_c2, atI_c3, if_true, Bool.false_eq_true, if_false, ↓reduceIte, Bool.not_true, Bool.not_false, e_call, e5', ekn]
    refine r_set (x := .loc N6.length) (M1 := N6 ++ [MO.list []]) (by simp only [e_var, e_non, e_bl, e_int, e_str, e_bin, e_neg, e_not, e_and, e_or, e_cmp, e_chain, e_isN, e_ife, e_tup, e_lst, e_dct, e_idx, e_slc, e_blt, e_isi, e_fld, e_app, e_ext, e_idxof, e_dget, e_nil, e_cons, x_setv, x_sett, x_setp, x_seti, x_seti2, x_augi, x_setf, x_exp, x_ret, x_ife, x_frz, x_retN, x_pass, x_cont, x_nil, x_cons, getD_list, getD_tup, rd_int, rd_bl, rd_non, rd_str, rd_list, rd_tup, rd_fz, rd_dict, len_list, len_tup, abs_int, min2_int, max2_int, int_int, list_list, list_tup, mk_f, mk_t, truth_bl', truth_int', truth_list', tst_some, line0, line1, line2, line3, line4, line5, line6, line7, line8, asg, optC, optD, optI, isAbs, src_list, src_tup, src_enum, setI, body1, wipeE, List.map_cons, List.map_nil, List.length_cons, List.length_nil, List.replicate, List.cons_append, List.nil_append, List.getElem?_cons_zero, List.getElem?_cons_succ, List.set_cons_zero, List.set_cons_succ, List.zip_cons_cons, List.zip_nil_right, List.foldl_cons, List.foldl_nil, Nat.reduceAdd, Nat.reduceSub, bop_add_int, bop_sub_int, cop_lt_int, cop_gt_int, cop_le_int, cop_ge_int, cop_eq_int, cop_ne_int, atI_c0, atI_c1, atI_c2, atI_c3, if_true, Bool.false_eq_true, if_false, ↓reduceIte, Bool.not_true, Bool.not_false]) ?_
    refine r_set (x := namesD) (M1 := N6 ++ [MO.list []]) (by simp only [e_var, e_non, e_bl, e_int, e_str, e_bin, e_neg, e_not, e_and, e_or, e_cmp, e_chain, e_isN, e_ife, e_tup, e_lst, e_dct, e_idx, e_slc, e_blt, e_isi, e_fld, e_app, e_ext, e_idxof, e_dget, e_nil, e_cons, x_setv, x_sett, x_setp, x_seti, x_seti2, x_augi, x_setf, x_exp, x_ret, x_ife, x_frz, x_retN, x_pass, x_cont, x_nil, x_cons, getD_list, getD_tup, rd_int, rd_bl, rd_non, rd_str, rd_list, rd_tup, rd_fz, rd_dict, len_list, len_tup, abs_int, min2_int, max2_int, int_int, list_list, list_tup, mk_f, mk_t, truth_bl', truth_int', truth_list', tst_some, line0, line1, line2, line3, line4, line5, line6, line7, line8, asg, optC, optD, optI, isAbs, src_list, src_tup, src_enum, setI, body1, wipeE, List.map_cons, List.map_nil, List.length_cons, List.length_nil, List.replicate, List.cons_append, List.nil_append, List.getElem?_cons_zero, List.getElem?_cons_succ, List.set_cons_zero, List.set_cons_succ, List.zip_cons_cons, List.zip_nil_right, List.foldl_cons, List.foldl_nil, Nat.reduceAdd, Nat.reduceSub, bop_add_int, bop_sub_int, cop_lt_int, cop_gt_int, cop_le_int, cop_ge_int, cop_eq_int, cop_ne_int, atI_c0, atI_c1, atI_c2, atI_c3, if_true, Bool.false_eq_true, if_false, ↓reduceIte, Bool.not_true, Bool.not_false]; rfl) ?_
    refine r_next (x_forP (x := .int ((1 + an : Nat) : Int)) (y := .non) (M0 := N8) (M1 := N8) ?_ rfl (src_rng1 (n := 1 + an) (by omega) _ _) e9) ?_
    · have e1' : (1 + (an : Int)) = ((1 + an : Nat) : Int) := by omega
      simp only [e_var, e_non, e_bl, e_int, e_str, e_bin, e_neg, e_not, e_and, e_or, e_cmp, e_chain, e_isN, e_ife, e_tup, e_lst, e_dct, e_idx, e_slc, e_blt, e_isi, e_fld, e_app, e_ext, e_idxof, e_dget, e_nil, e_cons, x_setv, x_sett, x_setp, x_seti, x_seti2, x_augi, x_setf, x_exp, x_ret, x_ife, x_frz, x_retN, x_pass, x_cont, x_nil, x_cons, getD_list, getD_tup, rd_int, rd_bl, rd_non, rd_str, rd_list, rd_tup, rd_fz, rd_dict, len_list, len_tup, abs_int, min2_int, max2_int, int_int, list_list, list_tup, mk_f, mk_t, truth_bl', truth_int', truth_list', tst_some, line0, line1, line2, line3, line4, line5, line6, line7, line8, asg, optC, optD, optI, isAbs, src_list, src_tup, src_enum, setI, body1, wipeE, List.map_cons, List.map_nil, List.length_cons, List.length_nil, List.replicate, List.cons_append, List.nil_append, List.getElem?_cons_zero, List.getElem?_cons_succ, List.set_cons_zero, List.set_cons_succ, List.zip_cons_cons, List.zip_nil_right, List.foldl_cons, List.foldl_nil, Nat.reduceAdd, Nat.reduceSub, bop_add_int, bop_sub_int, cop_lt_int, cop_gt_int, cop_le_int, cop_ge_int, cop_eq_int, cop_ne_int, atI_c0, atI_c1, atI_c2, atI_c3, if_true, Bool.false_eq_true, if_false, ↓reduceIte, Bool.not_true, Bool.not_false, e_call, e8, e1']
    refine r_next (env1 := wr s (ma : Nat) (mm : Nat) tn cl (some (.int (m : Nat))) ms N3.length y9' asks none y13 none none y16 y17 none none y20 y21 none none) (M1 := N9.set N6.length .dead) (by simp only [e_var, e_non, e_bl, e_int, e_str, e_bin, e_neg, e_not, e_and, e_or, e_cmp, e_chain, e_isN, e_ife, e_tup, e_lst, e_dct, e_idx, e_slc, e_blt, e_isi, e_fld, e_app, e_ext, e_idxof, e_dget, e_nil, e_cons, x_setv, x_sett, x_setp, x_seti, x_seti2, x_augi, x_setf, x_exp, x_ret, x_ife, x_frz, x_retN, x_pass, x_cont, x_nil, x_cons, getD_list, getD_tup, rd_int, rd_bl, rd_non, rd_str, rd_list, rd_tup, rd_fz, rd_dict, len_list, len_tup, abs_int, min2_int, max2_int, int_int, list_list, list_tup, mk_f, mk_t, truth_bl', truth_int', truth_list', tst_some, line0, line1, line2, line3, line4, line5, line6, line7, line8, asg, optC, optD, optI, isAbs, src_list, src_tup, src_enum, setI, body1, wipeE, List.map_cons, List.map_nil, List.length_cons, List.length_nil, List.replicate, List.cons_append, List.nil_append, List.getElem?_cons_zero, List.getElem?_cons_succ, List.set_cons_zero, List.set_cons_succ, List.zip_cons_cons, List.zip_nil_right, List.foldl_cons, List.foldl_nil, Nat.reduceAdd, Nat.reduceSub, bop_add_int, bop_sub_int, cop_lt_int, cop_gt_int, cop_le_int, cop_ge_int, cop_eq_int, cop_ne_int, atI_c0, atI_c1, atI_c2, atI_c3, if_true, Bool.false_eq_true, if_false, ↓reduceIte, Bool.not_true, Bool.not_false, r9]) ?_
    refine r_set (x := .loc (N9.set N6.length .dead).length) (M1 := N9.set N6.length .dead ++ [MO.list []]) (by simp only [e_var, e_non, e_bl, e_int, e_str, e_bin, e_neg, e_not, e_and, e_or, e_cmp, e_chain, e_isN, e_ife, e_tup, e_lst, e_dct, e_idx, e_slc, e_blt, e_isi, e_fld, e_app, e_ext, e_idxof, e_dget, e_nil, e_cons, x_setv, x_sett, x_setp, x_seti, x_seti2, x_augi, x_setf, x_exp, x_ret, x_ife, x_frz, x_retN, x_pass, x_cont, x_nil, x_cons, getD_list, getD_tup, rd_int, rd_bl, rd_non, rd_str, rd_list, rd_tup, rd_fz, rd_dict, len_list, len_tup, abs_int, min2_int, max2_int, int_int, list_list, list_tup, mk_f, mk_t, truth_bl', truth_int', truth_list', tst_some, line0, line1, line2, line3, line4, line5, line6, line7, line8, asg, optC, optD, optI, isAbs, src_list, src_tup, src_enum, setI, body1, wipeE, List.map_cons, List.map_nil, List.length_cons, List.length_nil, List.replicate, List.cons_append, List.nil_append, List.getElem?_cons_zero, List.getElem?_cons_succ, List.set_cons_zero, List.set_cons_succ, List.zip_cons_cons, List.zip_nil_right, List.foldl_cons, List.foldl_nil, Nat.reduceAdd, Nat.reduceSub, bop_add_int, bop_sub_int, cop_lt_int, cop_gt_int, cop_le_int, cop_ge_int, cop_eq_int, cop_ne_int, atI_c0, atI_c1, atI_c2, atI_c3, if_true, Bool.false_eq_true, if_false, ↓reduceIte, Bool.not_true, Bool.not_false]) ?_
    refine r_next (x_forP (x := .list ([("p" : Tx), "r"].map D.str)) (y := .non) (M0 := N9.set N6.length .dead ++ [MO.list []]) (M1 := N9.set N6.length .dead ++ [MO.list []]) (by simp only [e_var, e_non, e_bl, e_int, e_str, e_bin, e_neg, e_not, e_and, e_or, e_cmp, e_chain, e_isN, e_ife, e_tup, e_lst, e_dct, e_idx, e_slc, e_blt, e_isi, e_fld, e_app, e_ext, e_idxof, e_dget, e_nil, e_cons, x_setv, x_sett, x_setp, x_seti, x_seti2, x_augi, x_setf, x_exp, x_ret, x_ife, x_frz, x_retN, x_pass, x_cont, x_nil, x_cons, getD_list, getD_tup, rd_int, rd_bl, rd_non, rd_str, rd_list, rd_tup, rd_fz, rd_dict, len_list, len_tup, abs_int, min2_int, max2_int, int_int, list_list, list_tup, mk_f, mk_t, truth_bl', truth_int', truth_list', tst_some, line0, line1, line2, line3, line4, line5, line6, line7, line8, asg, optC, optD, optI, isAbs, src_list, src_tup, src_enum, setI, body1, wipeE, List.map_cons, List.map_nil, List.length_cons, List.length_nil, List.replicate, List.cons_append, List.nil_append, List.getElem?_cons_zero, List.getElem?_cons_succ, List.set_cons_zero, List.set_cons_succ, List.zip_cons_cons, List.zip_nil_right, List.foldl_cons, List.foldl_nil, Nat.reduceAdd, Nat.reduceSub, bop_add_int, bop_sub_int, cop_lt_int, cop_gt_int, cop_le_int, cop_ge_int, cop_eq_int, cop_ne_int, atI_c0, atI_c1, atI_c2, atI_c3, if_true, Bool.false_eq_true, if_false, ↓reduceIte, Bool.not_true, Bool.not_false] <;> rfl) rfl rfl e12) ?_
    refine r_set (x := .loc N12.length) (M1 := N12 ++ [MO.list []]) (by simp only [e_var, e_non, e_bl, e_int, e_str, e_bin, e_neg, e_not, e_and, e_or, e_cmp, e_chain, e_isN, e_ife, e_tup, e_lst, e_dct, e_idx, e_slc, e_blt, e_isi, e_fld, e_app, e_ext, e_idxof, e_dget, e_nil, e_cons, x_setv, x_sett, x_setp, x_seti, x_seti2, x_augi, x_setf, x_exp, x_ret, x_ife, x_frz, x_retN, x_pass, x_cont, x_nil, x_cons, getD_list, getD_tup, rd_int, rd_bl, rd_non, rd_str, rd_list, rd_tup, rd_fz, rd_dict, len_list, len_tup, abs_int, min2_int, max2_int, int_int, list_list, list_tup, mk_f, mk_t, truth_bl', truth_int', truth_list', tst_some, line0, line1, line2, line3, line4, line5, line6, line7, line8, asg, optC, optD, optI, isAbs, src_list, src_tup, src_enum, setI, body1, wipeE, List.map_cons, List.map_nil, List.length_cons, List.length_nil, List.replicate, List.cons_append, List.nil_append, List.getElem?_cons_zero, List.getElem?_cons_succ, List.set_cons_zero, List.set_cons_succ, List.zip_cons_cons, List.zip_nil_right, List.foldl_cons, List.foldl_nil, Nat.reduceAdd, Nat.reduceSub, bop_add_int, bop_sub_int, cop_lt_int, cop_gt_int, cop_le_int, cop_ge_int, cop_eq_int, cop_ne_int, atI_c0, atI_c1, atI_c2, atI_c3, if_true, Bool.false_eq_true, if_false, ↓reduceIte, Bool.not_true, Bool.not_false]) ?_
    refine r_next e14 ?_
    refine r_next (env1 := wr s (ma : Nat) (mm : Nat) tn cl y6 ms N3.length y9'' asks (some (.list (rounds.map eRnd))) y13' (some (.loc N12.length)) y15 y16 y17 y18 y19 y20' y21 y22 y23) (M1 := N14.set (N9.set N6.length .dead).length .dead) (by simp only [e_var, e_non, e_bl, e_int, e_str, e_bin, e_neg, e_not, e_and, e_or, e_cmp, e_chain, e_isN, e_ife, e_tup, e_lst, e_dct, e_idx, e_slc, e_blt, e_isi, e_fld, e_app, e_ext, e_idxof, e_dget, e_nil, e_cons, x_setv, x_sett, x_setp, x_seti, x_seti2, x_augi, x_setf, x_exp, x_ret, x_ife, x_frz, x_retN, x_pass, x_cont, x_nil, x_cons, getD_list, getD_tup, rd_int, rd_bl, rd_non, rd_str, rd_list, rd_tup, rd_fz, rd_dict, len_list, len_tup, abs_int, min2_int, max2_int, int_int, list_list, list_tup, mk_f, mk_t, truth_bl', truth_int', truth_list', tst_some, line0, line1, line2, line3, line4, line5, line6, line7, line8, asg, optC, optD, optI, isAbs, src_list, src_tup, src_enum, setI, body1, wipeE, List.map_cons, List.map_nil, List.length_cons, List.length_nil, List.replicate, List.cons_append, List.nil_append, List.getElem?_cons_zero, List.getElem?_cons_succ, List.set_cons_zero, List.set_cons_succ, List.zip_cons_cons, List.zip_nil_right, List.foldl_cons, List.foldl_nil, Nat.reduceAdd, Nat.reduceSub, bop_add_int, bop_sub_int, cop_lt_int, cop_gt_int, cop_le_int, cop_ge_int, cop_eq_int, cop_ne_int, atI_c0, atI_c1, atI_c2, atI_c3, if_true, Bool.false_eq_true, if_false, ↓reduceIte, Bool.not_true, Bool.not_false, r12]) ?_
    refine r_next (env1 := wr s (ma : Nat) (mm : Nat) tn cl y6 ms N3.length y9'' asks (some (.list (rounds.map eRnd))) y13' (some (.list (bs.map eBal))) y15 y16 y17 y18 y19 y20' y21 y22 y23) (M1 := (N14.set (N9.set N6.length .dead).length .dead).set N12.length .dead) (by simp only [e_var, e_non, e_bl, e_int, e_str, e_bin, e_neg, e_not, e_and, e_or, e_cmp, e_chain, e_isN, e_ife, e_tup, e_lst, e_dct, e_idx, e_slc, e_blt, e_isi, e_fld, e_app, e_ext, e_idxof, e_dget, e_nil, e_cons, x_setv, x_sett, x_setp, x_seti, x_seti2, x_augi, x_setf, x_exp, x_ret, x_ife, x_frz, x_retN, x_pass, x_cont, x_nil, x_cons, getD_list, getD_tup, rd_int, rd_bl, rd_non, rd_str, rd_list, rd_tup, rd_fz, rd_dict, len_list, len_tup, abs_int, min2_int, max2_int, int_int, list_list, list_tup, mk_f, mk_t, truth_bl', truth_int', truth_list', tst_some, line0, line1, line2, line3, line4, line5, line6, line7, line8, asg, optC, optD, optI, isAbs, src_list, src_tup, src_enum, setI, body1, wipeE, List.map_cons, List.map_nil, List.length_cons, List.length_nil, List.replicate, List.cons_append, List.nil_append, List.getElem?_cons_zero, List.getElem?_cons_succ, List.set_cons_zero, List.set_cons_succ, List.zip_cons_cons, List.zip_nil_right, List.foldl_cons, List.foldl_nil, Nat.reduceAdd, Nat.reduceSub, bop_add_int, bop_sub_int, cop_lt_int, cop_gt_int, cop_le_int, cop_ge_int, cop_eq_int, cop_ne_int, atI_c0, atI_c1, atI_c2, atI_c3, if_true, Bool.false_eq_true, if_false, ↓reduceIte, Bool.not_true, Bool.not_false, r14]) ?_
    refine r_next (env1 := we s (ma : Nat) (mm : Nat) tn cl y6 ms (some (.list (kin.map eKin))) y9'' (some (.list (asks.map eAsk))) (some namesD) (some (.list (rounds.map eRnd))) y13' (some (.list (bs.map eBal))) y15 y16 y17 y18 y19 y20' y21 y22 y23 none none) (M1 := ((N14.set (N9.set N6.length .dead).length .dead).set N12.length .dead).set N3.length .dead) (by simp only [e_var, e_non, e_bl, e_int, e_str, e_bin, e_neg, e_not, e_and, e_or, e_cmp, e_chain, e_isN, e_ife, e_tup, e_lst, e_dct, e_idx, e_slc, e_blt, e_isi, e_fld, e_app, e_ext, e_idxof, e_dget, e_nil, e_cons, x_setv, x_sett, x_setp, x_seti, x_seti2, x_augi, x_setf, x_exp, x_ret, x_ife, x_frz, x_retN, x_pass, x_cont, x_nil, x_cons, getD_list, getD_tup, rd_int, rd_bl, rd_non, rd_str, rd_list, rd_tup, rd_fz, rd_dict, len_list, len_tup, abs_int, min2_int, max2_int, int_int, list_list, list_tup, mk_f, mk_t, truth_bl', truth_int', truth_list', tst_some, line0, line1, line2, line3, line4, line5, line6, line7, line8, asg, optC, optD, optI, isAbs, src_list, src_tup, src_enum, setI, body1, wipeE, List.map_cons, List.map_nil, List.length_cons, List.length_nil, List.replicate, List.cons_append, List.nil_append, List.getElem?_cons_zero, List.getElem?_cons_succ, List.set_cons_zero, List.set_cons_succ, List.zip_cons_cons, List.zip_nil_right, List.foldl_cons, List.foldl_nil, Nat.reduceAdd, Nat.reduceSub, bop_add_int, bop_sub_int, cop_lt_int, cop_gt_int, cop_le_int, cop_ge_int, cop_eq_int, cop_ne_int, atI_c0, atI_c1, atI_c2, atI_c3, if_true, Bool.false_eq_true, if_false, ↓reduceIte, Bool.not_true, Bool.not_false, r8]) ?_
    refine r_ret ?_
    generalize ((N14.set (N9.set N6.length .dead).length .dead).set N12.length .dead).set N3.length .dead = N17
    have hpar : ev (run fns cls (n + 1)) cls (.comp false [20] (.nm 20) .seq (.var 3) .absent .absent (.tup (.cons (.var 20) (.cons (.tup (.cons (.var 20) .nil)) .nil)))) (we s (ma : Nat) (mm : Nat) tn cl y6 ms (some (.list (kin.map eKin))) y9'' (some (.list (asks.map eAsk))) (some namesD) (some (.list (rounds.map eRnd))) y13' (some (.list (bs.map eBal))) y15 y16 y17 y18 y19 y20' y21 y22 y23 none none) N17 =
        some (.list (pool.map fun x => .tup [.str x, .tup [.str x]]), N17) := by
      rw [comp_map (e := D.str) (g := fun x => .tup [.str x, .tup [.str x]]) (l := pool) (M1 := N17) (x := poolD) ?_ rfl (line_of (k := 12) (Nat.le_refl _) (by decide)) ?_]
      · simp only [e_var, e_non, e_bl, e_int, e_str, e_bin, e_neg, e_not, e_and, e_or, e_cmp, e_chain, e_isN, e_ife, e_tup, e_lst, e_dct, e_idx, e_slc, e_blt, e_isi, e_fld, e_app, e_ext, e_idxof, e_dget, e_nil, e_cons, x_setv, x_sett, x_setp, x_seti, x_seti2, x_augi, x_setf, x_exp, x_ret, x_ife, x_frz, x_retN, x_pass, x_cont, x_nil, x_cons, getD_list, getD_tup, rd_int, rd_bl, rd_non, rd_str, rd_list, rd_tup, rd_fz, rd_dict, len_list, len_tup, abs_int, min2_int, max2_int, int_int, list_list, list_tup, mk_f, mk_t, truth_bl', truth_int', truth_list', tst_some, line0, line1, line2, line3, line4, line5, line6, line7, line8, asg, optC, optD, optI, isAbs, src_list, src_tup, src_enum, setI, body1, wipeE, List.map_cons, List.map_nil, List.length_cons, List.length_nil, List.replicate, List.cons_append, List.nil_append, List.getElem?_cons_zero, List.getElem?_cons_succ, List.set_cons_zero, List.set_cons_succ, List.zip_cons_cons, List.zip_nil_right, List.foldl_cons, List.foldl_nil, Nat.reduceAdd, Nat.reduceSub, bop_add_int, bop_sub_int, cop_lt_int, cop_gt_int, cop_le_int, cop_ge_int, cop_eq_int, cop_ne_int, atI_c0, atI_c1, atI_c2, atI_c3, if_true, Bool.false_eq_true, if_false, ↓reduceIte, Bool.not_true, Bool.not_false]
      · intro x _
        simp only [turnF]
        simp only [e_var, e_non, e_bl, e_int, e_str, e_bin, e_neg, e_not, e_and, e_or, e_cmp, e_chain, e_isN, e_ife, e_tup, e_lst, e_dct, e_idx, e_slc, e_blt, e_isi, e_fld, e_app, e_ext, e_idxof, e_dget, e_nil, e_cons, x_setv, x_sett, x_setp, x_seti, x_seti2, x_augi, x_setf, x_exp, x_ret, x_ife, x_frz, x_retN, x_pass, x_cont, x_nil, x_cons, getD_list, getD_tup, rd_int, rd_bl, rd_non, rd_str, rd_list, rd_tup, rd_fz, rd_dict, len_list, len_tup, abs_int, min2_int, max2_int, int_int, list_list, list_tup, mk_f, mk_t, truth_bl', truth_int', truth_list', tst_some, line0, line1, line2, line3, line4, line5, line6, line7, line8, asg, optC, optD, optI, isAbs, src_list, src_tup, src_enum, setI, body1, wipeE, List.map_cons, List.map_nil, List.length_cons, List.length_nil, List.replicate, List.cons_append, List.nil_append, List.getElem?_cons_zero, List.getElem?_cons_succ, List.set_cons_zero, List.set_cons_succ, List.zip_cons_cons, List.zip_nil_right, List.foldl_cons, List.foldl_nil, Nat.reduceAdd, Nat.reduceSub, bop_add_int, bop_sub_int, cop_lt_int, cop_gt_int, cop_le_int, cop_ge_int, cop_eq_int, cop_ne_int, atI_c0, atI_c1, atI_c2, atI_c3, if_true, Bool.false_eq_true, if_false, ↓reduceIte, Bool.not_true, Bool.not_false]
    rw [e_dct]
    simp only [e_var, e_non, e_bl, e_int, e_str, e_bin, e_neg, e_not, e_and, e_or, e_cmp, e_chain, e_isN, e_ife, e_tup, e_lst, e_dct, e_idx, e_slc, e_blt, e_isi, e_fld, e_app, e_ext, e_idxof, e_dget, e_nil, e_cons, x_setv, x_sett, x_setp, x_seti, x_seti2, x_augi, x_setf, x_exp, x_ret, x_ife, x_frz, x_retN, x_pass, x_cont, x_nil, x_cons, getD_list, getD_tup, rd_int, rd_bl, rd_non, rd_str, rd_list, rd_tup, rd_fz, rd_dict, len_list, len_tup, abs_int, min2_int, max2_int, int_int, list_list, list_tup, mk_f, mk_t, truth_bl', truth_int', truth_list', tst_some, line0, line1, line2, line3, line4, line5, line6, line7, line8, asg, optC, optD, optI, isAbs, src_list, src_tup, src_enum, setI, body1, wipeE, List.map_cons, List.map_nil, List.length_cons, List.length_nil, List.replicate, List.cons_append, List.nil_append, List.getElem?_cons_zero, List.getElem?_cons_succ, List.set_cons_zero, List.set_cons_succ, List.zip_cons_cons, List.zip_nil_right, List.foldl_cons, List.foldl_nil, Nat.reduceAdd, Nat.reduceSub, bop_add_int, bop_sub_int, cop_lt_int, cop_gt_int, cop_le_int, cop_ge_int, cop_eq_int, cop_ne_int, atI_c0, atI_c1, atI_c2, atI_c3, if_true, Bool.false_eq_true, if_false, ↓reduceIte, Bool.not_true, Bool.not_false, hpar, hks N17]
    rw [if_pos ⟨trivial, by decide +kernel, by decide⟩]
    rfl
end
end K34

/-! K34s: the law. -/
namespace K34
open MP CM
theorem get_new (N : Sto) (m : MO) : (N ++ [m])[N.length]? = some m := by
  rw [List.getElem?_append_right (Nat.le_refl _), Nat.sub_self]
  rfl
theorem rd_new (N : Sto) (xs : List D) : rd (N ++ [MO.list xs]) (.loc N.length) = .list xs := rd_loc (get_new N _)
theorem ty_new (N : Sto) (xs : List D) : tyName (N ++ [MO.list xs]) (.loc N.length) = some "list" := by
  rw [tyName, get_new]
theorem ne_names {xs : List Tx} (h : ∀ x ∈ xs, okS x = true) : cop .ne (.list (xs.map D.str)) (.list (xs.map D.str)) = some false := by
  have : eqD (.list (xs.map D.str)) (.list (xs.map D.str)) = some true := eqD_same (by rw [dp, dpL_strs h]; decide) (by rw [pd, PySem.W.alike]; exact alike_strs _ _)
  simp only [cop]
  rw [this]
  rfl
theorem ne_needs {w : Wld} {a : Ask} {l : List Ask} (h : ∀ b ∈ l, b.name ∈ names) : cop .ne (.list (l.map (eNeed w a))) (.list (l.map (eNeed w a))) = some false := by
  have e1 : dpL (l.map (eNeed w a)) ≤ 3 := dpL_of fun b hb => by
    unfold eNeed
    simp only [dp, dpL]
    have := dp_str (names_ok _ (h b hb))
    rw [dp] at this
    omega
  have : eqD (.list (l.map (eNeed w a))) (.list (l.map (eNeed w a))) = some true := eqD_same (by rw [dp]; omega) (by
    rw [pd, PySem.W.alike]
    exact alike_list fun x hx => by
      obtain ⟨b, _, rfl⟩ := List.mem_map.mp hx
      unfold eNeed
      simp only [pd, pdL, PySem.W.alike, PySem.W.alikeAll, Bool.and_self])
  simp only [cop]
  rw [this]
  rfl
theorem ne_eTO {x : Option (List Tx)} (h : ∀ xs, x = some xs → ∀ y ∈ xs, okS y = true) : cop .ne (eTO x) (eTO x) = some false := by
  have : eqD (eTO x) (eTO x) = some true := by
    cases x with
    | none => exact eqD_same (by show dp .non ≤ 60; rw [dp]; omega) (by show PySem.W.alike (pd .non) (pd .non) = true; rw [pd, PySem.W.alike])
    | some xs => exact eqD_same (by show dp (eTup xs) ≤ 60; rw [dp_eTup (h xs rfl)]; omega) (by show PySem.W.alike (pd (eTup xs)) (pd (eTup xs)) = true; unfold eTup; rw [pd, PySem.W.alike]; exact alike_strs _ _)
  simp only [cop]
  rw [this]
  rfl
theorem inter_pool {w : Wld} (ok : w.Ok 8 9) {m g : Tx} (hm : m ∈ pool) (hg : g ∈ pool) : ∀ xs, inter w m g = some xs → ∀ y ∈ xs, okS y = true := fun xs e y hy => by
  refine pool_ok y ?_
  unfold inter at e
  split at e
  · cases e
    simp only [List.mem_singleton] at hy
    exact hy ▸ hm
  · split at e
    · cases e
      simp only [List.mem_cons, List.not_mem_nil, or_false] at hy
      rcases hy with rfl | rfl
      · exact hm
      · exact hg
    · obtain ⟨p, hp, rfl⟩ := Option.map_eq_some_iff.mp e
      simp only [List.mem_cons, List.not_mem_nil, or_false] at hy
      rcases hy with rfl | rfl | rfl
      · exact hm
      · exact ok.near_ok (List.mem_of_find?_eq_some hp)
      · exact hg
section
variable {F : FT} {cls : Nat → Nat} {env env1 : MP.Env} {M M1 : Sto} {R : SR}
theorem n_next {s : S} {r : SB} (h : exec F cls s env M = some (.next, env1, M1)) (h2 : exb F cls r env1 M1 = R) : exb F cls (.cons s r) env M = R := (xnext h).trans h2
theorem n_set {i : Nat} {e : E} {r : SB} {x : D} (h : ev F cls e env M = some (x, M1)) (h2 : exb F cls r (env.set i (some x)) M1 = R) : exb F cls (.cons (.setv i e) r) env M = R := n_next (by rw [x_setv, h]) h2
theorem n_no {c : E} {p r : SB} (h : tst (ev F cls c env M) = some (false, M1)) (h2 : exb F cls r env M1 = R) : exb F cls (.cons (.ife c p .nil) r) env M = R := n_next (by rw [x_ife, h]; exact x_nil) h2
end
section
variable {n : Nat} {w : Wld} {s c : Nat}
abbrev bodyIM : SB := (.cons (.ife (.cmp .ne (.call .pure 3 (.cons (.var 2) (.cons (.var 7) (.cons (.var 6) .nil)))) (.call .pure 17 (.cons (.var 3) (.cons (.var 7) (.cons (.var 6) .nil))))) (.cons (.ret (.bl false)) .nil) .nil) .nil)
abbrev bodyLaw : SB := (.cons (.setv 6 (.idx (.var 5) (.int 0))) (.cons (.for_ (.nm 7) .seq (.idx (.var 3) (.str "members")) .absent bodyIM) (.cons (.setv 8 (.call .own 4 (.cons (.var 2) (.cons (.var 6) .nil)))) (.cons (.ife (.or (.not (.isi (.var 8) ["list"] false)) (.or (.cmp .ne (.var 8) (.call .pure 18 (.cons (.var 3) (.cons (.var 6) .nil)))) (.cmp .ne (.call .pure 10 (.cons (.var 2) (.cons (.var 6) .nil))) (.call .pure 25 (.cons (.var 3) (.cons (.var 6) .nil)))))) (.cons (.ret (.bl false)) .nil) .nil) (.cons (.setv 9 (.call .own 5 (.cons (.var 2) (.cons (.idx (.var 5) (.int 2)) .nil)))) (.cons (.ife (.or (.not (.isi (.var 9) ["list"] false)) (.cmp .ne (.var 9) (.call .pure 20 (.cons (.var 3) (.cons (.idx (.var 5) (.int 2)) .nil))))) (.cons (.ret (.bl false)) .nil) .nil) (.cons (.setv 10 (.slc false (.comp false [7] (.nm 7) .seq (.blt false .sorted (.cons (.var 9) .nil)) .absent (.cmp .inn (.var 7) (.var 8)) (.tup (.cons (.var 7) (.cons (.tup (.cons (.var 6) .nil)) .nil)))) .absent (.call .tr 12 (.cons (.var 1) (.cons (.int 9) .nil))))) (.cons (.setv 11 (.call .pure 6 (.cons (.var 2) (.cons (.var 6) .nil)))) (.cons (.ife (.or (.isi (.var 11) ["bool"] false) (.or (.cmp .ne (.var 11) (.call .pure 21 (.cons (.var 3) (.cons (.var 6) (.cons (.lst false .nil) .nil))))) (.cmp .ne (.call .pure 6 (.cons (.var 2) (.cons (.var 6) (.cons (.var 10) .nil)))) (.call .pure 21 (.cons (.var 3) (.cons (.var 6) (.cons (.var 10) .nil))))))) (.cons (.ret (.bl false)) .nil) .nil) (.cons (.exp (.app (.var 8) (.str "zz"))) (.cons (.exp (.app (.var 9) (.str "zz"))) (.cons (.ife (.or (.cmp .ne (.call .own 4 (.cons (.var 2) (.cons (.var 6) .nil))) (.call .pure 18 (.cons (.var 3) (.cons (.var 6) .nil)))) (.cmp .ne (.call .own 5 (.cons (.var 2) (.cons (.idx (.var 5) (.int 2)) .nil))) (.call .pure 20 (.cons (.var 3) (.cons (.idx (.var 5) (.int 2)) .nil))))) (.cons (.ret (.bl false)) .nil) .nil) .nil))))))))))))
theorem members_loop {N : Sto} {x0 x4 x5 x7 x8 x9 x10 x11 : Option D} {a : Ask} (ok : w.Ok 8 9) (ha : a ∈ w.asks) :
    ∃ y7, forP (turnB (run fns cls (n + 5)) cls (.nm 7) bodyIM) (w.members.map D.str) [x0, some (.loc s), some (eW w), some (dO w), x4, x5, some (.str a.name), x7, x8, x9, x10, x11] N = some (.next, [x0, some (.loc s), some (eW w), some (dO w), x4, x5, some (.str a.name), y7, x8, x9, x10, x11], N) := by
  have hF := hasF_dO ok
  have hW := has_w w
  obtain ⟨env', M', e1, y7, rfl, rfl⟩ := forP_J (f := turnB (run fns cls (n + 5)) cls (.nm 7) bodyIM) (e := D.str) (l := w.members)
    (J := fun i env M => ∃ y7, env = [x0, some (.loc s), some (eW w), some (dO w), x4, x5, some (.str a.name), y7, x8, x9, x10, x11] ∧ M = N)
    (fun i m hi env M ⟨y7, he, hM⟩ => by
      subst he hM
      have hm := ok.mem m (List.mem_of_getElem? hi)
      have hg := (ok.ask a ha).1
      have i1 := inter_run (n := n + 3) (M := M) hW ok (ask_find ok.nd ha) hg hm
      have i2 := linter_run (n := n + 3) (M := M) hF.has ok (ask_find ok.nd ha) hm
      have hne := ne_eTO (inter_pool ok hm hg)
      refine ⟨.next, [x0, some (.loc s), some (eW w), some (dO w), x4, x5, some (.str a.name), some (.str m), x8, x9, x10, x11], M, ?_, .inl rfl, _, rfl, rfl⟩
      rw [turn_nm]
      simp only [e_var, e_non, e_bl, e_int, e_str, e_bin, e_neg, e_not, e_and, e_or, e_cmp, e_chain, e_isN, e_ife, e_tup, e_lst, e_dct, e_idx, e_slc, e_blt, e_isi, e_fld, e_app, e_ext, e_idxof, e_dget, e_nil, e_cons, x_setv, x_sett, x_setp, x_seti, x_seti2, x_augi, x_setf, x_exp, x_ret, x_ife, x_frz, x_retN, x_pass, x_cont, x_nil, x_cons, getD_list, getD_tup, rd_int, rd_bl, rd_non, rd_str, rd_list, rd_tup, rd_fz, rd_dict, len_list, len_tup, abs_int, min2_int, max2_int, int_int, list_list, list_tup, mk_f, mk_t, truth_bl', truth_int', truth_list', tst_some, line0, line1, line2, line3, line4, line5, line6, line7, line8, asg, optC, optD, optI, isAbs, src_list, src_tup, src_enum, setI, body1, wipeE, List.map_cons, List.map_nil, List.length_cons, List.length_nil, List.replicate, List.cons_append, List.nil_append, List.getElem?_cons_zero, List.getElem?_cons_succ, List.set_cons_zero, List.set_cons_succ, List.zip_cons_cons, List.zip_nil_right, List.foldl_cons, List.foldl_nil, Nat.reduceAdd, Nat.reduceSub, bop_add_int, bop_sub_int, cop_lt_int, cop_gt_int, cop_le_int, cop_ge_int, cop_eq_int, cop_ne_int, atI_c0, atI_c1, atI_c2, atI_c3, if_true, Bool.false_eq_true, if_false, ↓reduceIte, Bool.not_true, Bool.not_false, e_call, i1, i2, rd_eTO, hne]) [x0, some (.loc s), some (eW w), some (dO w), x4, x5, some (.str a.name), x7, x8, x9, x10, x11] N ⟨x7, rfl, rfl⟩
  exact ⟨y7, e1⟩
def doneW (w : Wld) (a : Ask) (v : Nat) : List (Tx × List Tx) := (((srt D.str (missW w a.purpose)).filter fun m => decide (m ∈ freeW w a.grantee)).map fun m => (m, [a.name])).take v
theorem done_ok {a : Ask} (ok : w.Ok 8 9) (ha : a ∈ w.asks) (v : Nat) : OkC (doneW w a v) := by
  unfold doneW
  refine ⟨?_, fun r hr => ?_⟩
  · rw [List.length_take, List.length_map]
    have h1 := List.length_filter_le (fun m => decide (m ∈ freeW w a.grantee)) (srt D.str (missW w a.purpose))
    rw [srt_len] at h1
    have h2 := miss_len w a.purpose
    have h3 := ok.mlen
    omega
  · obtain ⟨m, hm, rfl⟩ := List.mem_map.mp (List.mem_of_mem_take hr)
    refine ⟨ok.mem m (miss_sub w _ m (mem_srt.mp (List.mem_filter.mp hm).1)), fun q hq => ?_⟩
    simp only [List.mem_singleton] at hq
    exact hq ▸ ok.nm ha
theorem ty_int (i : Int) (M : Sto) : tyName M (.int i) = some "int" := rfl
theorem below_zz (n : Nat) (xs : List Tx) : belowL n (xs.map D.str ++ [.str "zz"]) = true := by
  have e : xs.map D.str ++ [D.str "zz"] = (xs ++ [("zz" : Tx)]).map D.str := by rw [List.map_append]; rfl
  rw [e]
  exact below_str n _
theorem law_turn {N : Sto} {x0 x4 x5 x6 x7 x8 x9 x10 x11 : Option D} {a : Ask} (ok : w.Ok 8 9) (ha : a ∈ w.asks) (st : St N s c) (cl : Cl N) :
    ∃ env' N', turnB (run fns cls (n + 5)) cls (.nm 5) bodyLaw (eAsk a) [x0, some (.loc s), some (eW w), some (dO w), x4, x5, x6, x7, x8, x9, x10, x11] N = some (.next, env', N') ∧ St N' s c ∧ Cl N' ∧ ∃ y5 y6 y7 y8 y9 y10 y11, env' = [x0, some (.loc s), some (eW w), some (dO w), x4, y5, y6, y7, y8, y9, y10, y11] := by
  have hF := hasF_dO ok
  have hW := has_w w
  have hk1 : ["list"].any (isKind "list") = true := by decide +kernel
  have hk2 : ["bool"].any (isKind "int") = false := by decide +kernel
  have oke : OkC [] := ⟨by simp, fun r hr => nomatch hr⟩
  have hmem := ok.mem
  have mok : ∀ x ∈ missW w a.purpose, okS x = true := fun x hx => pool_ok x (hmem x (miss_sub w _ x hx))
  have fok : ∀ x ∈ freeW w a.grantee, okS x = true := fun x hx => pool_ok x (free_pool ok _ x hx)
  have eE := fun M => electors_own (n := n + 2) (M := M) hW ok ha
  have eF := fun M => free_run (n := n + 4) (M := M) hF ok ha
  have eN := fun M => needs_run (n := n) (M := M) hW ok ha
  have eLN := fun M => lneeds_run (n := n + 1) (M := M) hF ok ha
  have eM := fun M => missing_own (n := n + 3) (M := M) (p := a.purpose) hW ok
  have eLM := fun M => lmissing_run (n := n + 3) (p := a.purpose) hF.has ok M
  have eV := fun M => (votes_short (x := .str a.name) hW (n + 5) rfl M).trans (votes_run (n := n + 1) (M := M) (c := .tup []) (C := []) hW ok ha (.inr ⟨rfl, rfl⟩) oke)
  have eLV : ∀ M, callM (run fns cls (n + 5)) .pure f_law_votes [dO w, .str a.name, .list []] M = some (.int (votesW w a [] : Nat), M) := fun M => lvotes_run (n := n + 3) (M := M) (C := []) hF ok ha oke
  have nF := ne_names fok
  have nM := ne_names mok
  have nN := ne_needs (w := w) (a := a) (l := othW w a) fun b hb => ok.nm (oth_mem hb).1
  obtain ⟨y7, em⟩ := members_loop (n := n) (N := N) (s := s) (x0 := x0) (x4 := x4) (x5 := some (eAsk a)) (x7 := x7) (x8 := x8) (x9 := x9) (x10 := x10) (x11 := x11) ok ha
  have w0 : WS N N s c [] := .start st cl
  have w1 := w0.push (xs := (freeW w a.grantee).map D.str) (below_str _ _)
  have w2 := w1.push (xs := (missW w a.purpose).map D.str) (below_str _ _)
  have g8 := w2.drop.hd
  have g9 := w2.hd
  obtain ⟨v, N3, e3, v0, v1, w3, _⟩ := w2.take (TK (n + 4)) 9 (by decide) (by decide)
  have hC := done_ok ok ha v.toNat
  have eVC := fun M => votes_run (n := n + 1) (M := M) (C := doneW w a v.toNat) hW ok ha (.inl rfl) hC
  have eLVC := fun M => lvotes_run (n := n + 3) (M := M) (C := doneW w a v.toNat) hF ok ha hC
  have p3 := w3.perm (fx' := [(N.length, (freeW w a.grantee).map D.str), ((N ++ [MO.list ((freeW w a.grantee).map D.str)]).length, (missW w a.purpose).map D.str)]) (List.Perm.swap _ _ _)
  have h8 := p3.hd
  have w4 := p3.set (ys := (freeW w a.grantee).map D.str ++ [.str "zz"]) (below_zz _ _)
  have p4 := w4.perm (fx' := [((N ++ [MO.list ((freeW w a.grantee).map D.str)]).length, (missW w a.purpose).map D.str), (N.length, (freeW w a.grantee).map D.str ++ [.str "zz"])]) (List.Perm.swap _ _ _)
  have h9 := p4.hd
  have w5 := p4.set (ys := (missW w a.purpose).map D.str ++ [.str "zz"]) (below_zz _ _)
  have w6 := w5.push (xs := (freeW w a.grantee).map D.str) (below_str _ _)
  have w7 := w6.push (xs := (missW w a.purpose).map D.str) (below_str _ _)
  have lF : ((freeW w a.grantee).map D.str).length < LINE := by
    rw [List.length_map]
    have h1 : (freeW w a.grantee).length ≤ w.members.length := List.length_filter_le _ _
    have h2 := ok.mlen
    unfold LINE
    omega
  have lM : ((missW w a.purpose).map D.str).length < LINE := by
    rw [List.length_map]
    have h1 := miss_len w a.purpose
    have h2 := ok.mlen
    unfold LINE
    omega
  generalize hN2 : N ++ [MO.list ((freeW w a.grantee).map D.str)] ++ [MO.list ((missW w a.purpose).map D.str)] = N2 at g8 g9 e3
  have r8 := rd_loc g8
  have r9 := rd_loc g9
  have hcomp : ev (run fns cls (n + 5)) cls (.comp false [7] (.nm 7) .seq (.blt false .sorted (.cons (.var 9) .nil)) .absent (.cmp .inn (.var 7) (.var 8)) (.tup (.cons (.var 7) (.cons (.tup (.cons (.var 6) .nil)) .nil)))) [x0, some (.loc s), some (eW w), some (dO w), x4, some (eAsk a), some (.str a.name), y7, some (.loc N.length), some (.loc (N ++ [MO.list ((freeW w a.grantee).map D.str)]).length), x10, x11] N2 =
      some (.list (((srt D.str (missW w a.purpose)).filter fun m => decide (m ∈ freeW w a.grantee)).map fun m => eMB (m, [a.name])), N2) := by
    rw [comp_flt (e := D.str) (g := fun m => eMB (m, [a.name])) (q := fun m => decide (m ∈ freeW w a.grantee)) (l := srt D.str (missW w a.purpose)) (M1 := N2) (x := .list ((srt D.str (missW w a.purpose)).map D.str)) ?_ rfl (line_of (k := 9) (by rw [srt_len]; exact Nat.le_trans (miss_len _ _) ok.mlen) (by decide)) ?_]
    · simp only [e_var, e_non, e_bl, e_int, e_str, e_bin, e_neg, e_not, e_and, e_or, e_cmp, e_chain, e_isN, e_ife, e_tup, e_lst, e_dct, e_idx, e_slc, e_blt, e_isi, e_fld, e_app, e_ext, e_idxof, e_dget, e_nil, e_cons, x_setv, x_sett, x_setp, x_seti, x_seti2, x_augi, x_setf, x_exp, x_ret, x_ife, x_frz, x_retN, x_pass, x_cont, x_nil, x_cons, getD_list, getD_tup, rd_int, rd_bl, rd_non, rd_str, rd_list, rd_tup, rd_fz, rd_dict, len_list, len_tup, abs_int, min2_int, max2_int, int_int, list_list, list_tup, mk_f, mk_t, truth_bl', truth_int', truth_list', tst_some, line0, line1, line2, line3, line4, line5, line6, line7, line8, asg, optC, optD, optI, isAbs, src_list, src_tup, src_enum, setI, body1, wipeE, List.map_cons, List.map_nil, List.length_cons, List.length_nil, List.replicate, List.cons_append, List.nil_append, List.getElem?_cons_zero, List.getElem?_cons_succ, List.set_cons_zero, List.set_cons_succ, List.zip_cons_cons, List.zip_nil_right, List.foldl_cons, List.foldl_nil, Nat.reduceAdd, Nat.reduceSub, bop_add_int, bop_sub_int, cop_lt_int, cop_gt_int, cop_le_int, cop_ge_int, cop_eq_int, cop_ne_int, atI_c0, atI_c1, atI_c2, atI_c3, if_true, Bool.false_eq_true, if_false, ↓reduceIte, Bool.not_true, Bool.not_false, r9, sorted_strs mok]
    · intro m hm
      have hmm := mem_run (hmem m (miss_sub w _ m (mem_srt.mp hm))) (free_pool ok a.grantee)
      simp only [turnF]
      simp only [e_var, e_non, e_bl, e_int, e_str, e_bin, e_neg, e_not, e_and, e_or, e_cmp, e_chain, e_isN, e_ife, e_tup, e_lst, e_dct, e_idx, e_slc, e_blt, e_isi, e_fld, e_app, e_ext, e_idxof, e_dget, e_nil, e_cons, x_setv, x_sett, x_setp, x_seti, x_seti2, x_augi, x_setf, x_exp, x_ret, x_ife, x_frz, x_retN, x_pass, x_cont, x_nil, x_cons, getD_list, getD_tup, rd_int, rd_bl, rd_non, rd_str, rd_list, rd_tup, rd_fz, rd_dict, len_list, len_tup, abs_int, min2_int, max2_int, int_int, list_list, list_tup, mk_f, mk_t, truth_bl', truth_int', truth_list', tst_some, line0, line1, line2, line3, line4, line5, line6, line7, line8, asg, optC, optD, optI, isAbs, src_list, src_tup, src_enum, setI, body1, wipeE, List.map_cons, List.map_nil, List.length_cons, List.length_nil, List.replicate, List.cons_append, List.nil_append, List.getElem?_cons_zero, List.getElem?_cons_succ, List.set_cons_zero, List.set_cons_succ, List.zip_cons_cons, List.zip_nil_right, List.foldl_cons, List.foldl_nil, Nat.reduceAdd, Nat.reduceSub, bop_add_int, bop_sub_int, cop_lt_int, cop_gt_int, cop_le_int, cop_ge_int, cop_eq_int, cop_ne_int, atI_c0, atI_c1, atI_c2, atI_c3, if_true, Bool.false_eq_true, if_false, ↓reduceIte, Bool.not_true, Bool.not_false, r8, hmm]
      cases decide (m ∈ freeW w a.grantee) <;> rfl
  have hcut : cutD (((srt D.str (missW w a.purpose)).filter fun m => decide (m ∈ freeW w a.grantee)).map fun m => eMB (m, [a.name])) none (some v) = (doneW w a v.toNat).map eMB := by
    rw [cutD_to _ v0]
    unfold doneW
    rw [List.map_take, List.map_map]
    rfl
  refine ⟨[x0, some (.loc s), some (eW w), some (dO w), x4, some (eAsk a), some (.str a.name), y7, some (.loc N.length), some (.loc (N ++ [MO.list ((freeW w a.grantee).map D.str)]).length), some (.list ((doneW w a v.toNat).map eMB)), some (.int (votesW w a [] : Nat))], _, ?_, w7.sw.st, w7.sw.cl, _, _, _, _, _, _, _, rfl⟩
  rw [turn_nm]
  refine n_set (x := .str a.name) (M1 := N) (by simp only [e_var, e_non, e_bl, e_int, e_str, e_bin, e_neg, e_not, e_and, e_or, e_cmp, e_chain, e_isN, e_ife, e_tup, e_lst, e_dct, e_idx, e_slc, e_blt, e_isi, e_fld, e_app, e_ext, e_idxof, e_dget, e_nil, e_cons, x_setv, x_sett, x_setp, x_seti, x_seti2, x_augi, x_setf, x_exp, x_ret, x_ife, x_frz, x_retN, x_pass, x_cont, x_nil, x_cons, getD_list, getD_tup, rd_int, rd_bl, rd_non, rd_str, rd_list, rd_tup, rd_fz, rd_dict, len_list, len_tup, abs_int, min2_int, max2_int, int_int, list_list, list_tup, mk_f, mk_t, truth_bl', truth_int', truth_list', tst_some, line0, line1, line2, line3, line4, line5, line6, line7, line8, asg, optC, optD, optI, isAbs, src_list, src_tup, src_enum, setI, body1, wipeE, List.map_cons, List.map_nil, List.length_cons, List.length_nil, List.replicate, List.cons_append, List.nil_append, List.getElem?_cons_zero, List.getElem?_cons_succ, List.set_cons_zero, List.set_cons_succ, List.zip_cons_cons, List.zip_nil_right, List.foldl_cons, List.foldl_nil, Nat.reduceAdd, Nat.reduceSub, bop_add_int, bop_sub_int, cop_lt_int, cop_gt_int, cop_le_int, cop_ge_int, cop_eq_int, cop_ne_int, atI_c0, atI_c1, atI_c2, atI_c3, if_true, Bool.false_eq_true, if_false, ↓reduceIte, Bool.not_true, Bool.not_false, eAsk]) ?_
  refine n_next (x_forP (x := .list (w.members.map D.str)) (y := .non) (M0 := N) (M1 := N) (by simp only [e_var, e_non, e_bl, e_int, e_str, e_bin, e_neg, e_not, e_and, e_or, e_cmp, e_chain, e_isN, e_ife, e_tup, e_lst, e_dct, e_idx, e_slc, e_blt, e_isi, e_fld, e_app, e_ext, e_idxof, e_dget, e_nil, e_cons, x_setv, x_sett, x_setp, x_seti, x_seti2, x_augi, x_setf, x_exp, x_ret, x_ife, x_frz, x_retN, x_pass, x_cont, x_nil, x_cons, getD_list, getD_tup, rd_int, rd_bl, rd_non, rd_str, rd_list, rd_tup, rd_fz, rd_dict, len_list, len_tup, abs_int, min2_int, max2_int, int_int, list_list, list_tup, mk_f, mk_t, truth_bl', truth_int', truth_list', tst_some, line0, line1, line2, line3, line4, line5, line6, line7, line8, asg, optC, optD, optI, isAbs, src_list, src_tup, src_enum, setI, body1, wipeE, List.map_cons, List.map_nil, List.length_cons, List.length_nil, List.replicate, List.cons_append, List.nil_append, List.getElem?_cons_zero, List.getElem?_cons_succ, List.set_cons_zero, List.set_cons_succ, List.zip_cons_cons, List.zip_nil_right, List.foldl_cons, List.foldl_nil, Nat.reduceAdd, Nat.reduceSub, bop_add_int, bop_sub_int, cop_lt_int, cop_gt_int, cop_le_int, cop_ge_int, cop_eq_int, cop_ne_int, atI_c0, atI_c1, atI_c2, atI_c3, if_true, Bool.false_eq_true, if_false, ↓reduceIte, Bool.not_true, Bool.not_false, hF.has.rd, hF.has.members]) rfl rfl em) ?_
  refine n_set (x := .loc N.length) (M1 := N ++ [MO.list ((freeW w a.grantee).map D.str)]) (by simp only [e_var, e_non, e_bl, e_int, e_str, e_bin, e_neg, e_not, e_and, e_or, e_cmp, e_chain, e_isN, e_ife, e_tup, e_lst, e_dct, e_idx, e_slc, e_blt, e_isi, e_fld, e_app, e_ext, e_idxof, e_dget, e_nil, e_cons, x_setv, x_sett, x_setp, x_seti, x_seti2, x_augi, x_setf, x_exp, x_ret, x_ife, x_frz, x_retN, x_pass, x_cont, x_nil, x_cons, getD_list, getD_tup, rd_int, rd_bl, rd_non, rd_str, rd_list, rd_tup, rd_fz, rd_dict, len_list, len_tup, abs_int, min2_int, max2_int, int_int, list_list, list_tup, mk_f, mk_t, truth_bl', truth_int', truth_list', tst_some, line0, line1, line2, line3, line4, line5, line6, line7, line8, asg, optC, optD, optI, isAbs, src_list, src_tup, src_enum, setI, body1, wipeE, List.map_cons, List.map_nil, List.length_cons, List.length_nil, List.replicate, List.cons_append, List.nil_append, List.getElem?_cons_zero, List.getElem?_cons_succ, List.set_cons_zero, List.set_cons_succ, List.zip_cons_cons, List.zip_nil_right, List.foldl_cons, List.foldl_nil, Nat.reduceAdd, Nat.reduceSub, bop_add_int, bop_sub_int, cop_lt_int, cop_gt_int, cop_le_int, cop_ge_int, cop_eq_int, cop_ne_int, atI_c0, atI_c1, atI_c2, atI_c3, if_true, Bool.false_eq_true, if_false, ↓reduceIte, Bool.not_true, Bool.not_false, e_call, eE]) ?_
  refine n_no (M1 := N ++ [MO.list ((freeW w a.grantee).map D.str)]) (by simp only [e_var, e_non, e_bl, e_int, e_str, e_bin, e_neg, e_not, e_and, e_or, e_cmp, e_chain, e_isN, e_ife, e_tup, e_lst, e_dct, e_idx, e_slc, e_blt, e_isi, e_fld, e_app, e_ext, e_idxof, e_dget, e_nil, e_cons, x_setv, x_sett, x_setp, x_seti, x_seti2, x_augi, x_setf, x_exp, x_ret, x_ife, x_frz, x_retN, x_pass, x_cont, x_nil, x_cons, getD_list, getD_tup, rd_int, rd_bl, rd_non, rd_str, rd_list, rd_tup, rd_fz, rd_dict, len_list, len_tup, abs_int, min2_int, max2_int, int_int, list_list, list_tup, mk_f, mk_t, truth_bl', truth_int', truth_list', tst_some, line0, line1, line2, line3, line4, line5, line6, line7, line8, asg, optC, optD, optI, isAbs, src_list, src_tup, src_enum, setI, body1, wipeE, List.map_cons, List.map_nil, List.length_cons, List.length_nil, List.replicate, List.cons_append, List.nil_append, List.getElem?_cons_zero, List.getElem?_cons_succ, List.set_cons_zero, List.set_cons_succ, List.zip_cons_cons, List.zip_nil_right, List.foldl_cons, List.foldl_nil, Nat.reduceAdd, Nat.reduceSub, bop_add_int, bop_sub_int, cop_lt_int, cop_gt_int, cop_le_int, cop_ge_int, cop_eq_int, cop_ne_int, atI_c0, atI_c1, atI_c2, atI_c3, if_true, Bool.false_eq_true, if_false, ↓reduceIte, Bool.not_true, Bool.not_false, ty_new, hk1, rd_new, e_call, eF, eN, eLN, nF, nN]) ?_
  refine n_set (x := .loc (N ++ [MO.list ((freeW w a.grantee).map D.str)]).length) (M1 := N2) (by rw [← hN2]; simp only [e_var, e_non, e_bl, e_int, e_str, e_bin, e_neg, e_not, e_and, e_or, e_cmp, e_chain, e_isN, e_ife, e_tup, e_lst, e_dct, e_idx, e_slc, e_blt, e_isi, e_fld, e_app, e_ext, e_idxof, e_dget, e_nil, e_cons, x_setv, x_sett, x_setp, x_seti, x_seti2, x_augi, x_setf, x_exp, x_ret, x_ife, x_frz, x_retN, x_pass, x_cont, x_nil, x_cons, getD_list, getD_tup, rd_int, rd_bl, rd_non, rd_str, rd_list, rd_tup, rd_fz, rd_dict, len_list, len_tup, abs_int, min2_int, max2_int, int_int, list_list, list_tup, mk_f, mk_t, truth_bl', truth_int', truth_list', tst_some, line0, line1, line2, line3, line4, line5, line6, line7, line8, asg, optC, optD, optI, isAbs, src_list, src_tup, src_enum, setI, body1, wipeE, List.map_cons, List.map_nil, List.length_cons, List.length_nil, List.replicate, List.cons_append, List.nil_append, List.getElem?_cons_zero, List.getElem?_cons_succ, List.set_cons_zero, List.set_cons_succ, List.zip_cons_cons, List.zip_nil_right, List.foldl_cons, List.foldl_nil, Nat.reduceAdd, Nat.reduceSub, bop_add_int, bop_sub_int, cop_lt_int, cop_gt_int, cop_le_int, cop_ge_int, cop_eq_int, cop_ne_int, atI_c0, atI_c1, atI_c2, atI_c3, if_true, Bool.false_eq_true, if_false, ↓reduceIte, Bool.not_true, Bool.not_false, e_call, eAsk, eM]) ?_
  refine n_no (M1 := N2) (by rw [← hN2]; simp only [e_var, e_non, e_bl, e_int, e_str, e_bin, e_neg, e_not, e_and, e_or, e_cmp, e_chain, e_isN, e_ife, e_tup, e_lst, e_dct, e_idx, e_slc, e_blt, e_isi, e_fld, e_app, e_ext, e_idxof, e_dget, e_nil, e_cons, x_setv, x_sett, x_setp, x_seti, x_seti2, x_augi, x_setf, x_exp, x_ret, x_ife, x_frz, x_retN, x_pass, x_cont, x_nil, x_cons, getD_list, getD_tup, rd_int, rd_bl, rd_non, rd_str, rd_list, rd_tup, rd_fz, rd_dict, len_list, len_tup, abs_int, min2_int, max2_int, int_int, list_list, list_tup, mk_f, mk_t, truth_bl', truth_int', truth_list', tst_some, line0, line1, line2, line3, line4, line5, line6, line7, line8, asg, optC, optD, optI, isAbs, src_list, src_tup, src_enum, setI, body1, wipeE, List.map_cons, List.map_nil, List.length_cons, List.length_nil, List.replicate, List.cons_append, List.nil_append, List.getElem?_cons_zero, List.getElem?_cons_succ, List.set_cons_zero, List.set_cons_succ, List.zip_cons_cons, List.zip_nil_right, List.foldl_cons, List.foldl_nil, Nat.reduceAdd, Nat.reduceSub, bop_add_int, bop_sub_int, cop_lt_int, cop_gt_int, cop_le_int, cop_ge_int, cop_eq_int, cop_ne_int, atI_c0, atI_c1, atI_c2, atI_c3, if_true, Bool.false_eq_true, if_false, ↓reduceIte, Bool.not_true, Bool.not_false, ty_new, hk1, rd_new, e_call, eAsk, eLM, nM]) ?_
  refine n_set (x := .list ((doneW w a v.toNat).map eMB)) (M1 := N3) (by rw [e_slc]; simp only [e_var, e_non, e_bl, e_int, e_str, e_bin, e_neg, e_not, e_and, e_or, e_cmp, e_chain, e_isN, e_ife, e_tup, e_lst, e_dct, e_idx, e_slc, e_blt, e_isi, e_fld, e_app, e_ext, e_idxof, e_dget, e_nil, e_cons, x_setv, x_sett, x_setp, x_seti, x_seti2, x_augi, x_setf, x_exp, x_ret, x_ife, x_frz, x_retN, x_pass, x_cont, x_nil, x_cons, getD_list, getD_tup, rd_int, rd_bl, rd_non, rd_str, rd_list, rd_tup, rd_fz, rd_dict, len_list, len_tup, abs_int, min2_int, max2_int, int_int, list_list, list_tup, mk_f, mk_t, truth_bl', truth_int', truth_list', tst_some, line0, line1, line2, line3, line4, line5, line6, line7, line8, asg, optC, optD, optI, isAbs, src_list, src_tup, src_enum, setI, body1, wipeE, List.map_cons, List.map_nil, List.length_cons, List.length_nil, List.replicate, List.cons_append, List.nil_append, List.getElem?_cons_zero, List.getElem?_cons_succ, List.set_cons_zero, List.set_cons_succ, List.zip_cons_cons, List.zip_nil_right, List.foldl_cons, List.foldl_nil, Nat.reduceAdd, Nat.reduceSub, bop_add_int, bop_sub_int, cop_lt_int, cop_gt_int, cop_le_int, cop_ge_int, cop_eq_int, cop_ne_int, atI_c0, atI_c1, atI_c2, atI_c3, if_true, Bool.false_eq_true, if_false, ↓reduceIte, Bool.not_true, Bool.not_false, hcomp, e_call, e3, hcut]) ?_
  refine n_set (x := .int (votesW w a [] : Nat)) (M1 := N3) (by simp only [e_var, e_non, e_bl, e_int, e_str, e_bin, e_neg, e_not, e_and, e_or, e_cmp, e_chain, e_isN, e_ife, e_tup, e_lst, e_dct, e_idx, e_slc, e_blt, e_isi, e_fld, e_app, e_ext, e_idxof, e_dget, e_nil, e_cons, x_setv, x_sett, x_setp, x_seti, x_seti2, x_augi, x_setf, x_exp, x_ret, x_ife, x_frz, x_retN, x_pass, x_cont, x_nil, x_cons, getD_list, getD_tup, rd_int, rd_bl, rd_non, rd_str, rd_list, rd_tup, rd_fz, rd_dict, len_list, len_tup, abs_int, min2_int, max2_int, int_int, list_list, list_tup, mk_f, mk_t, truth_bl', truth_int', truth_list', tst_some, line0, line1, line2, line3, line4, line5, line6, line7, line8, asg, optC, optD, optI, isAbs, src_list, src_tup, src_enum, setI, body1, wipeE, List.map_cons, List.map_nil, List.length_cons, List.length_nil, List.replicate, List.cons_append, List.nil_append, List.getElem?_cons_zero, List.getElem?_cons_succ, List.set_cons_zero, List.set_cons_succ, List.zip_cons_cons, List.zip_nil_right, List.foldl_cons, List.foldl_nil, Nat.reduceAdd, Nat.reduceSub, bop_add_int, bop_sub_int, cop_lt_int, cop_gt_int, cop_le_int, cop_ge_int, cop_eq_int, cop_ne_int, atI_c0, atI_c1, atI_c2, atI_c3, if_true, Bool.false_eq_true, if_false, ↓reduceIte, Bool.not_true, Bool.not_false, e_call, eV]) ?_
  refine n_no (M1 := N3) (by simp only [e_var, e_non, e_bl, e_int, e_str, e_bin, e_neg, e_not, e_and, e_or, e_cmp, e_chain, e_isN, e_ife, e_tup, e_lst, e_dct, e_idx, e_slc, e_blt, e_isi, e_fld, e_app, e_ext, e_idxof, e_dget, e_nil, e_cons, x_setv, x_sett, x_setp, x_seti, x_seti2, x_augi, x_setf, x_exp, x_ret, x_ife, x_frz, x_retN, x_pass, x_cont, x_nil, x_cons, getD_list, getD_tup, rd_int, rd_bl, rd_non, rd_str, rd_list, rd_tup, rd_fz, rd_dict, len_list, len_tup, abs_int, min2_int, max2_int, int_int, list_list, list_tup, mk_f, mk_t, truth_bl', truth_int', truth_list', tst_some, line0, line1, line2, line3, line4, line5, line6, line7, line8, asg, optC, optD, optI, isAbs, src_list, src_tup, src_enum, setI, body1, wipeE, List.map_cons, List.map_nil, List.length_cons, List.length_nil, List.replicate, List.cons_append, List.nil_append, List.getElem?_cons_zero, List.getElem?_cons_succ, List.set_cons_zero, List.set_cons_succ, List.zip_cons_cons, List.zip_nil_right, List.foldl_cons, List.foldl_nil, Nat.reduceAdd, Nat.reduceSub, bop_add_int, bop_sub_int, cop_lt_int, cop_gt_int, cop_le_int, cop_ge_int, cop_eq_int, cop_ne_int, atI_c0, atI_c1, atI_c2, atI_c3, if_true, Bool.false_eq_true, if_false, ↓reduceIte, Bool.not_true, Bool.not_false, ty_int, hk2, e_call, eLV, eVC, eLVC, decide_true]) ?_
  refine n_next (env1 := [x0, some (.loc s), some (eW w), some (dO w), x4, some (eAsk a), some (.str a.name), y7, some (.loc N.length), some (.loc (N ++ [MO.list ((freeW w a.grantee).map D.str)]).length), some (.list ((doneW w a v.toNat).map eMB)), some (.int (votesW w a [] : Nat))]) (M1 := N3.set N.length (.list ((freeW w a.grantee).map D.str ++ [.str "zz"]))) (by simp only [e_var, e_non, e_bl, e_int, e_str, e_bin, e_neg, e_not, e_and, e_or, e_cmp, e_chain, e_isN, e_ife, e_tup, e_lst, e_dct, e_idx, e_slc, e_blt, e_isi, e_fld, e_app, e_ext, e_idxof, e_dget, e_nil, e_cons, x_setv, x_sett, x_setp, x_seti, x_seti2, x_augi, x_setf, x_exp, x_ret, x_ife, x_frz, x_retN, x_pass, x_cont, x_nil, x_cons, getD_list, getD_tup, rd_int, rd_bl, rd_non, rd_str, rd_list, rd_tup, rd_fz, rd_dict, len_list, len_tup, abs_int, min2_int, max2_int, int_int, list_list, list_tup, mk_f, mk_t, truth_bl', truth_int', truth_list', tst_some, line0, line1, line2, line3, line4, line5, line6, line7, line8, asg, optC, optD, optI, isAbs, src_list, src_tup, src_enum, setI, body1, wipeE, List.map_cons, List.map_nil, List.length_cons, List.length_nil, List.replicate, List.cons_append, List.nil_append, List.getElem?_cons_zero, List.getElem?_cons_succ, List.set_cons_zero, List.set_cons_succ, List.zip_cons_cons, List.zip_nil_right, List.foldl_cons, List.foldl_nil, Nat.reduceAdd, Nat.reduceSub, bop_add_int, bop_sub_int, cop_lt_int, cop_gt_int, cop_le_int, cop_ge_int, cop_eq_int, cop_ne_int, atI_c0, atI_c1, atI_c2, atI_c3, if_true, Bool.false_eq_true, if_false, ↓reduceIte, Bool.not_true, Bool.not_false, h8]; rw [if_pos lF]) ?_
  refine n_next (env1 := [x0, some (.loc s), some (eW w), some (dO w), x4, some (eAsk a), some (.str a.name), y7, some (.loc N.length), some (.loc (N ++ [MO.list ((freeW w a.grantee).map D.str)]).length), some (.list ((doneW w a v.toNat).map eMB)), some (.int (votesW w a [] : Nat))]) (M1 := (N3.set N.length (.list ((freeW w a.grantee).map D.str ++ [.str "zz"]))).set (N ++ [MO.list ((freeW w a.grantee).map D.str)]).length (.list ((missW w a.purpose).map D.str ++ [.str "zz"]))) (by simp only [e_var, e_non, e_bl, e_int, e_str, e_bin, e_neg, e_not, e_and, e_or, e_cmp, e_chain, e_isN, e_ife, e_tup, e_lst, e_dct, e_idx, e_slc, e_blt, e_isi, e_fld, e_app, e_ext, e_idxof, e_dget, e_nil, e_cons, x_setv, x_sett, x_setp, x_seti, x_seti2, x_augi, x_setf, x_exp, x_ret, x_ife, x_frz, x_retN, x_pass, x_cont, x_nil, x_cons, getD_list, getD_tup, rd_int, rd_bl, rd_non, rd_str, rd_list, rd_tup, rd_fz, rd_dict, len_list, len_tup, abs_int, min2_int, max2_int, int_int, list_list, list_tup, mk_f, mk_t, truth_bl', truth_int', truth_list', tst_some, line0, line1, line2, line3, line4, line5, line6, line7, line8, asg, optC, optD, optI, isAbs, src_list, src_tup, src_enum, setI, body1, wipeE, List.map_cons, List.map_nil, List.length_cons, List.length_nil, List.replicate, List.cons_append, List.nil_append, List.getElem?_cons_zero, List.getElem?_cons_succ, List.set_cons_zero, List.set_cons_succ, List.zip_cons_cons, List.zip_nil_right, List.foldl_cons, List.foldl_nil, Nat.reduceAdd, Nat.reduceSub, bop_add_int, bop_sub_int, cop_lt_int, cop_gt_int, cop_le_int, cop_ge_int, cop_eq_int, cop_ne_int, atI_c0, atI_c1, atI_c2, atI_c3, if_true, Bool.false_eq_true, if_false, ↓reduceIte, Bool.not_true, Bool.not_false, h9]; rw [if_pos lM]) ?_
  refine n_no (by simp only [e_var, e_non, e_bl, e_int, e_str, e_bin, e_neg, e_not, e_and, e_or, e_cmp, e_chain, e_isN, e_ife, e_tup, e_lst, e_dct, e_idx, e_slc, e_blt, e_isi, e_fld, e_app, e_ext, e_idxof, e_dget, e_nil, e_cons, x_setv, x_sett, x_setp, x_seti, x_seti2, x_augi, x_setf, x_exp, x_ret, x_ife, x_frz, x_retN, x_pass, x_cont, x_nil, x_cons, getD_list, getD_tup, rd_int, rd_bl, rd_non, rd_str, rd_list, rd_tup, rd_fz, rd_dict, len_list, len_tup, abs_int, min2_int, max2_int, int_int, list_list, list_tup, mk_f, mk_t, truth_bl', truth_int', truth_list', tst_some, line0, line1, line2, line3, line4, line5, line6, line7, line8, asg, optC, optD, optI, isAbs, src_list, src_tup, src_enum, setI, body1, wipeE, List.map_cons, List.map_nil, List.length_cons, List.length_nil, List.replicate, List.cons_append, List.nil_append, List.getElem?_cons_zero, List.getElem?_cons_succ, List.set_cons_zero, List.set_cons_succ, List.zip_cons_cons, List.zip_nil_right, List.foldl_cons, List.foldl_nil, Nat.reduceAdd, Nat.reduceSub, bop_add_int, bop_sub_int, cop_lt_int, cop_gt_int, cop_le_int, cop_ge_int, cop_eq_int, cop_ne_int, atI_c0, atI_c1, atI_c2, atI_c3, if_true, Bool.false_eq_true, if_false, ↓reduceIte, Bool.not_true, Bool.not_false, rd_new, e_call, eE, eF, nF, eAsk, eM, eLM, nM]; rfl) ?_
  rw [x_nil]
theorem run_law (ns : List Int) (_ : ns.length ≤ 63) : ∃ M, MP.run fns cls (29 + 1) f_law [.fz (ns.map MP.D.int)] [] = some (.bl true, M) := by
  obtain ⟨s, c, M1, e1, st, cl⟩ := state_run (fns := fns) (cls := cls) (f := f_law_state) rfl (n := 28) (ns := ns)
  obtain ⟨w, M2, e2, ok, sw, _⟩ := world_run (n := 27) (ma := 8) (mm := 9) (by decide) (by decide) (by decide) (by decide) (SW.here st cl)
  have e2' : callM (run fns cls 29) .tr f_law_world [.loc s, .int 8, .int 9] M1 = some (eW w, M2) := e2
  have e3 := own_run (n := 26) ok M2
  have e4 := fun M => repr_w ok (by decide) (by decide) M
  obtain ⟨env', M', e5, _, _, y5, y6, y7, y8, y9, y10, y11, rfl⟩ := forP_J (f := turnB (run fns cls 29) cls (.nm 5) bodyLaw) (e := eAsk) (l := w.asks)
    (J := fun i env M => St M s c ∧ Cl M ∧ ∃ y5 y6 y7 y8 y9 y10 y11, env = [some (.fz (ns.map D.int)), some (.loc s), some (eW w), some (dO w), some (.str (pdR (eW w)).shown), y5, y6, y7, y8, y9, y10, y11])
    (fun i a hi env M ⟨h1, h2, y5, y6, y7, y8, y9, y10, y11, he⟩ => by
      subst he
      obtain ⟨env', N', e, a, b, c⟩ := law_turn (n := 24) (x0 := some (.fz (ns.map D.int))) (x4 := some (.str (pdR (eW w)).shown)) (x5 := y5) (x6 := y6) (x7 := y7) (x8 := y8) (x9 := y9) (x10 := y10) (x11 := y11) ok (List.mem_of_getElem? hi) h1 h2
      exact ⟨.next, env', N', e, .inl rfl, a, b, c⟩)
    [some (.fz (ns.map D.int)), some (.loc s), some (eW w), some (dO w), some (.str (pdR (eW w)).shown), none, none, none, none, none, none, none] M2 ⟨sw.st, sw.cl, none, none, none, none, none, none, none, rfl⟩
  have hF := (hasF_dO ok).has
  refine ⟨M', run_of (f := f_law) rfl rfl ?_⟩
  refine r_set (x := .loc s) (M1 := M1) (by simp only [e_var, e_non, e_bl, e_int, e_str, e_bin, e_neg, e_not, e_and, e_or, e_cmp, e_chain, e_isN, e_ife, e_tup, e_lst, e_dct, e_idx, e_slc, e_blt, e_isi, e_fld, e_app, e_ext, e_idxof, e_dget, e_nil, e_cons, x_setv, x_sett, x_setp, x_seti, x_seti2, x_augi, x_setf, x_exp, x_ret, x_ife, x_frz, x_retN, x_pass, x_cont, x_nil, x_cons, getD_list, getD_tup, rd_int, rd_bl, rd_non, rd_str, rd_list, rd_tup, rd_fz, rd_dict, len_list, len_tup, abs_int, min2_int, max2_int, int_int, list_list, list_tup, mk_f, mk_t, truth_bl', truth_int', truth_list', tst_some, line0, line1, line2, line3, line4, line5, line6, line7, line8, asg, optC, optD, optI, isAbs, src_list, src_tup, src_enum, setI, body1, wipeE, List.map_cons, List.map_nil, List.length_cons, List.length_nil, List.replicate, List.cons_append, List.nil_append, List.getElem?_cons_zero, List.getElem?_cons_succ, List.set_cons_zero, List.set_cons_succ, List.zip_cons_cons, List.zip_nil_right, List.foldl_cons, List.foldl_nil, Nat.reduceAdd, Nat.reduceSub, bop_add_int, bop_sub_int, cop_lt_int, cop_gt_int, cop_le_int, cop_ge_int, cop_eq_int, cop_ne_int, atI_c0, atI_c1, atI_c2, atI_c3, if_true, Bool.false_eq_true, if_false, ↓reduceIte, Bool.not_true, Bool.not_false, e_call, e1]) ?_
  refine r_set (x := eW w) (M1 := M2) (by simp only [e_var, e_non, e_bl, e_int, e_str, e_bin, e_neg, e_not, e_and, e_or, e_cmp, e_chain, e_isN, e_ife, e_tup, e_lst, e_dct, e_idx, e_slc, e_blt, e_isi, e_fld, e_app, e_ext, e_idxof, e_dget, e_nil, e_cons, x_setv, x_sett, x_setp, x_seti, x_seti2, x_augi, x_setf, x_exp, x_ret, x_ife, x_frz, x_retN, x_pass, x_cont, x_nil, x_cons, getD_list, getD_tup, rd_int, rd_bl, rd_non, rd_str, rd_list, rd_tup, rd_fz, rd_dict, len_list, len_tup, abs_int, min2_int, max2_int, int_int, list_list, list_tup, mk_f, mk_t, truth_bl', truth_int', truth_list', tst_some, line0, line1, line2, line3, line4, line5, line6, line7, line8, asg, optC, optD, optI, isAbs, src_list, src_tup, src_enum, setI, body1, wipeE, List.map_cons, List.map_nil, List.length_cons, List.length_nil, List.replicate, List.cons_append, List.nil_append, List.getElem?_cons_zero, List.getElem?_cons_succ, List.set_cons_zero, List.set_cons_succ, List.zip_cons_cons, List.zip_nil_right, List.foldl_cons, List.foldl_nil, Nat.reduceAdd, Nat.reduceSub, bop_add_int, bop_sub_int, cop_lt_int, cop_gt_int, cop_le_int, cop_ge_int, cop_eq_int, cop_ne_int, atI_c0, atI_c1, atI_c2, atI_c3, if_true, Bool.false_eq_true, if_false, ↓reduceIte, Bool.not_true, Bool.not_false, e_call, e2']) ?_
  refine r_set (x := dO w) (M1 := M2) (by simp only [e_var, e_non, e_bl, e_int, e_str, e_bin, e_neg, e_not, e_and, e_or, e_cmp, e_chain, e_isN, e_ife, e_tup, e_lst, e_dct, e_idx, e_slc, e_blt, e_isi, e_fld, e_app, e_ext, e_idxof, e_dget, e_nil, e_cons, x_setv, x_sett, x_setp, x_seti, x_seti2, x_augi, x_setf, x_exp, x_ret, x_ife, x_frz, x_retN, x_pass, x_cont, x_nil, x_cons, getD_list, getD_tup, rd_int, rd_bl, rd_non, rd_str, rd_list, rd_tup, rd_fz, rd_dict, len_list, len_tup, abs_int, min2_int, max2_int, int_int, list_list, list_tup, mk_f, mk_t, truth_bl', truth_int', truth_list', tst_some, line0, line1, line2, line3, line4, line5, line6, line7, line8, asg, optC, optD, optI, isAbs, src_list, src_tup, src_enum, setI, body1, wipeE, List.map_cons, List.map_nil, List.length_cons, List.length_nil, List.replicate, List.cons_append, List.nil_append, List.getElem?_cons_zero, List.getElem?_cons_succ, List.set_cons_zero, List.set_cons_succ, List.zip_cons_cons, List.zip_nil_right, List.foldl_cons, List.foldl_nil, Nat.reduceAdd, Nat.reduceSub, bop_add_int, bop_sub_int, cop_lt_int, cop_gt_int, cop_le_int, cop_ge_int, cop_eq_int, cop_ne_int, atI_c0, atI_c1, atI_c2, atI_c3, if_true, Bool.false_eq_true, if_false, ↓reduceIte, Bool.not_true, Bool.not_false, e_call, e3]) ?_
  refine r_set (x := .str (pdR (eW w)).shown) (M1 := M2) (by simp only [e_var, e_non, e_bl, e_int, e_str, e_bin, e_neg, e_not, e_and, e_or, e_cmp, e_chain, e_isN, e_ife, e_tup, e_lst, e_dct, e_idx, e_slc, e_blt, e_isi, e_fld, e_app, e_ext, e_idxof, e_dget, e_nil, e_cons, x_setv, x_sett, x_setp, x_seti, x_seti2, x_augi, x_setf, x_exp, x_ret, x_ife, x_frz, x_retN, x_pass, x_cont, x_nil, x_cons, getD_list, getD_tup, rd_int, rd_bl, rd_non, rd_str, rd_list, rd_tup, rd_fz, rd_dict, len_list, len_tup, abs_int, min2_int, max2_int, int_int, list_list, list_tup, mk_f, mk_t, truth_bl', truth_int', truth_list', tst_some, line0, line1, line2, line3, line4, line5, line6, line7, line8, asg, optC, optD, optI, isAbs, src_list, src_tup, src_enum, setI, body1, wipeE, List.map_cons, List.map_nil, List.length_cons, List.length_nil, List.replicate, List.cons_append, List.nil_append, List.getElem?_cons_zero, List.getElem?_cons_succ, List.set_cons_zero, List.set_cons_succ, List.zip_cons_cons, List.zip_nil_right, List.foldl_cons, List.foldl_nil, Nat.reduceAdd, Nat.reduceSub, bop_add_int, bop_sub_int, cop_lt_int, cop_gt_int, cop_le_int, cop_ge_int, cop_eq_int, cop_ne_int, atI_c0, atI_c1, atI_c2, atI_c3, if_true, Bool.false_eq_true, if_false, ↓reduceIte, Bool.not_true, Bool.not_false, (has_w w).rd, e4]) ?_
  refine r_next (x_forP (x := .list (w.asks.map eAsk)) (y := .non) (M0 := M2) (M1 := M2) (by simp only [e_var, e_non, e_bl, e_int, e_str, e_bin, e_neg, e_not, e_and, e_or, e_cmp, e_chain, e_isN, e_ife, e_tup, e_lst, e_dct, e_idx, e_slc, e_blt, e_isi, e_fld, e_app, e_ext, e_idxof, e_dget, e_nil, e_cons, x_setv, x_sett, x_setp, x_seti, x_seti2, x_augi, x_setf, x_exp, x_ret, x_ife, x_frz, x_retN, x_pass, x_cont, x_nil, x_cons, getD_list, getD_tup, rd_int, rd_bl, rd_non, rd_str, rd_list, rd_tup, rd_fz, rd_dict, len_list, len_tup, abs_int, min2_int, max2_int, int_int, list_list, list_tup, mk_f, mk_t, truth_bl', truth_int', truth_list', tst_some, line0, line1, line2, line3, line4, line5, line6, line7, line8, asg, optC, optD, optI, isAbs, src_list, src_tup, src_enum, setI, body1, wipeE, List.map_cons, List.map_nil, List.length_cons, List.length_nil, List.replicate, List.cons_append, List.nil_append, List.getElem?_cons_zero, List.getElem?_cons_succ, List.set_cons_zero, List.set_cons_succ, List.zip_cons_cons, List.zip_nil_right, List.foldl_cons, List.foldl_nil, Nat.reduceAdd, Nat.reduceSub, bop_add_int, bop_sub_int, cop_lt_int, cop_gt_int, cop_le_int, cop_ge_int, cop_eq_int, cop_ne_int, atI_c0, atI_c1, atI_c2, atI_c3, if_true, Bool.false_eq_true, if_false, ↓reduceIte, Bool.not_true, Bool.not_false, hF.rd, hF.asks]) rfl rfl e5) ?_
  refine r_ret ?_
  simp only [e_var, e_non, e_bl, e_int, e_str, e_bin, e_neg, e_not, e_and, e_or, e_cmp, e_chain, e_isN, e_ife, e_tup, e_lst, e_dct, e_idx, e_slc, e_blt, e_isi, e_fld, e_app, e_ext, e_idxof, e_dget, e_nil, e_cons, x_setv, x_sett, x_setp, x_seti, x_seti2, x_augi, x_setf, x_exp, x_ret, x_ife, x_frz, x_retN, x_pass, x_cont, x_nil, x_cons, getD_list, getD_tup, rd_int, rd_bl, rd_non, rd_str, rd_list, rd_tup, rd_fz, rd_dict, len_list, len_tup, abs_int, min2_int, max2_int, int_int, list_list, list_tup, mk_f, mk_t, truth_bl', truth_int', truth_list', tst_some, line0, line1, line2, line3, line4, line5, line6, line7, line8, asg, optC, optD, optI, isAbs, src_list, src_tup, src_enum, setI, body1, wipeE, List.map_cons, List.map_nil, List.length_cons, List.length_nil, List.replicate, List.cons_append, List.nil_append, List.getElem?_cons_zero, List.getElem?_cons_succ, List.set_cons_zero, List.set_cons_succ, List.zip_cons_cons, List.zip_nil_right, List.foldl_cons, List.foldl_nil, Nat.reduceAdd, Nat.reduceSub, bop_add_int, bop_sub_int, cop_lt_int, cop_gt_int, cop_le_int, cop_ge_int, cop_eq_int, cop_ne_int, atI_c0, atI_c1, atI_c2, atI_c3, if_true, Bool.false_eq_true, if_false, ↓reduceIte, Bool.not_true, Bool.not_false, (has_w w).rd, e4, cop_eq_str, decide_true]
end
end K34


open PySem PySem.W PySem.Calls PyProof.Rows
theorem PySem.Challenge.cw_everycoin_k34_members_and_interests_holds : PySem.Challenge.rw_everycoin_k34_members_and_interests.Holds := by
  w_on; o_law
  refine HandSHeadRun.head_any (r := OpenLaw.row PySem.Challenge.rw_everycoin_k34_members_and_interests) (q := view (OpenLaw.row PySem.Challenge.rw_everycoin_k34_members_and_interests).prog [28]) (H := K34.hk) (ob := K34.ob) (M := 1360) (loose := K34.loose) (d := HandSHeadRun.topDef (OpenLaw.row PySem.Challenge.rw_everycoin_k34_members_and_interests).prog 28) (kwd := []) K34.ob_eq
    (by kernel_rfl) (fun s => by kernel_rfl) K34.top_run (by kernel_rfl) (by kernel_rfl) (by kernel_rfl) (by rfl) (by first | assumption | decide +kernel) (by decide +kernel) ⟨rfl, rfl, rfl, rfl, rfl, by decide +kernel⟩ ?hw ?hc
  case hw => w_witness2
  case hc =>
    exact MP.walk_law (l := PySem.Challenge.rw_everycoin_k34_members_and_interests) (n := 63) (k := 29) (flaw := 26) (P := K34.P) (sl := K34.sl) (st := K34.stLaw) (cls := K34.cls) (fnl := K34.fnLaw) rfl (by decide) (by kernel_rfl) ⟨rfl, by decide, by decide⟩ rfl K34.tab rfl rfl K34.tabLaw (x := "script") (by kernel_rfl) rfl (by kernel_rfl) (by kernel_rfl) (by kernel_rfl) (by kernel_rfl) K34.run_law
