import PyProof.Rows.All
import Wide.All
import OpenK.AllK
import Wide.FinOn
import HandS.ForMost
import HandS.HeadHook1
import HandS.Wide
import HandS.Style
import HandS.TupAny
import HandS.Deep
import HandS.IsInst
import HandS.NoneIn
import HandS.Star
import HandS.Flow
import HandS.ReplaceLit
import KE.GoesNew
import HandS.Zip
import HandS.RevTup
import HandS.WideBits
import HandS.RaiseMore
import HandS.HeadHook3
import HandS.HeadNt
import HandS.TryOnly
import HandS.Head2
import HandS.HeadEnd
import PySem.Challenge.RW_fewenough_k60_whole_best_claims
set_option Elab.async false
set_option linter.all false
set_option maxRecDepth 100000
set_option maxHeartbeats 4000000
/-! Fewenough, layer 1: data without a heap (D), how it lies in the abstract heap (Rp), and a calculus of weakest preconditions over data alone. -/
namespace Fe
open PySem L2

/-! ### data -/
inductive D where
  | non | bl (b : Bool) | int (i : Int) | str (x : Str)
  | tup (xs : List D) | lst (xs : List D)
  | sys (told kinds letters solid bounds : D)

/-- everything that stands in the one stands in the other -/
def Kp (H H' : Hp) : Prop := ∀ a o, H a = some o → H' a = some o
theorem Kp.refl (H : Hp) : Kp H H := fun _ _ z => z
theorem Kp.trans {H G F : Hp} (p : Kp H G) (q : Kp G F) : Kp H F := fun a o z => q a o (p a o z)

/-- the class System of the text -/
abbrev sysC (K : PySem.W.Frag) : Addr := He.ga K "System"

mutual
inductive Rp (K : PySem.W.Frag) (H : Hp) : V → D → Prop
  | non : Rp K H .non .non
  | bl (b : Bool) : Rp K H (.bl b) (.bl b)
  | int (i : Int) : Rp K H (.int i) (.int i)
  | str (x : Str) : Rp K H (.str x) (.str x)
  | tup {a : Addr} {vs : List V} {ds : List D} : H a = some (.tup vs) → RpA K H vs ds → Rp K H (.ref a) (.tup ds)
  | lst {a : Addr} {vs : List V} {ds : List D} : Rd H a (.lst vs) → RpA K H vs ds → Rp K H (.ref a) (.lst ds)
  | sys {a dx : Addr} {fs : List (Str × V)} {v1 v2 v3 v4 v5 : V} {d1 d2 d3 d4 d5 : D} : H a = some (.ins (sysC K) dx fs) →
      fs.lookup ("told" : Str) = some v1 → fs.lookup ("kinds" : Str) = some v2 → fs.lookup ("letters" : Str) = some v3 → fs.lookup ("solid" : Str) = some v4 → fs.lookup ("bounds" : Str) = some v5 →
      Rp K H v1 d1 → Rp K H v2 d2 → Rp K H v3 d3 → Rp K H v4 d4 → Rp K H v5 d5 → Rp K H (.ref a) (.sys d1 d2 d3 d4 d5)
inductive RpA (K : PySem.W.Frag) (H : Hp) : List V → List D → Prop
  | nil : RpA K H [] []
  | cons {v : V} {vs : List V} {d : D} {ds : List D} : Rp K H v d → RpA K H vs ds → RpA K H (v :: vs) (d :: ds)
end
theorem Rd.kp {H H' : Hp} {a : Addr} {u : HO} (e : Kp H H') (r : Rd H a u) : Rd H' a u := by
  rcases r with r | ⟨o, r⟩
  · exact .inl (e _ _ r)
  · exact .inr ⟨o, e _ _ r⟩
mutual
theorem Rp.kp {K : PySem.W.Frag} {H H' : Hp} (e : Kp H H') : ∀ {v : V} {d : D}, Rp K H v d → Rp K H' v d
  | _, _, .non => .non
  | _, _, .bl b => .bl b
  | _, _, .int i => .int i
  | _, _, .str x => .str x
  | _, _, .tup h r => .tup (e _ _ h) (RpA.kp e r)
  | _, _, .lst h r => .lst (Rd.kp e h) (RpA.kp e r)
  | _, _, .sys h l1 l2 l3 l4 l5 r1 r2 r3 r4 r5 => .sys (e _ _ h) l1 l2 l3 l4 l5 (Rp.kp e r1) (Rp.kp e r2) (Rp.kp e r3) (Rp.kp e r4) (Rp.kp e r5)
theorem RpA.kp {K : PySem.W.Frag} {H H' : Hp} (e : Kp H H') : ∀ {vs : List V} {ds : List D}, RpA K H vs ds → RpA K H' vs ds
  | _, _, .nil => .nil
  | _, _, .cons h r => .cons (Rp.kp e h) (RpA.kp e r)
end
section
variable {K : PySem.W.Frag} {H : Hp}
theorem RpA.length : ∀ {vs : List V} {ds : List D}, RpA K H vs ds → vs.length = ds.length
  | _, _, .nil => rfl
  | _, _, .cons _ r => by rw [List.length_cons, List.length_cons, RpA.length r]
theorem RpA.get : ∀ {vs : List V} {ds : List D} {i : Nat} {d : D}, RpA K H vs ds → ds[i]? = some d → ∃ v, vs[i]? = some v ∧ Rp K H v d
  | _, _, _, _, .nil, e => by simp at e
  | _, _, 0, _, .cons h _, e => by
    simp at e
    subst e
    exact ⟨_, rfl, h⟩
  | _, _, i + 1, _, .cons _ r, e => by
    obtain ⟨v, a, b⟩ := RpA.get (i := i) r (by simpa using e)
    exact ⟨v, by simpa using a, b⟩
theorem RpA.append : ∀ {vs ws : List V} {ds es : List D}, RpA K H vs ds → RpA K H ws es → RpA K H (vs ++ ws) (ds ++ es)
  | _, _, _, _, .nil, q => q
  | _, _, _, _, .cons h r, q => .cons h (RpA.append r q)
theorem RpA.drop : ∀ {vs : List V} {ds : List D} (n : Nat), RpA K H vs ds → RpA K H (vs.drop n) (ds.drop n)
  | _, _, 0, r => r
  | _, _, _ + 1, .nil => .nil
  | _, _, n + 1, .cons _ r => RpA.drop n r
theorem RpA.take : ∀ {vs : List V} {ds : List D} (n : Nat), RpA K H vs ds → RpA K H (vs.take n) (ds.take n)
  | _, _, 0, _ => .nil
  | _, _, _ + 1, .nil => .nil
  | _, _, n + 1, .cons h r => .cons h (RpA.take n r)
theorem RpA.set {v : V} {d : D} (h : Rp K H v d) : ∀ {vs : List V} {ds : List D} (i : Nat), RpA K H vs ds → RpA K H (vs.set i v) (ds.set i d)
  | _, _, _, .nil => .nil
  | _, _, 0, .cons _ r => .cons h r
  | _, _, i + 1, .cons q r => .cons q (RpA.set h i r)
theorem RpA.dropLast : ∀ {vs : List V} {ds : List D}, RpA K H vs ds → RpA K H vs.dropLast ds.dropLast
  | _, _, .nil => .nil
  | _, _, .cons _ .nil => .nil
  | _, _, .cons h (.cons q r) => .cons h (RpA.dropLast (.cons q r))
theorem RpA.reverse : ∀ {vs : List V} {ds : List D}, RpA K H vs ds → RpA K H vs.reverse ds.reverse
  | _, _, .nil => .nil
  | _, _, .cons h r => by
    rw [List.reverse_cons, List.reverse_cons]
    exact (RpA.reverse r).append (.cons h .nil)
theorem RpA.one {vs : List V} {d : D} (r : RpA K H vs [d]) : ∃ v, vs = [v] ∧ Rp K H v d := by
  cases r with
  | cons h q =>
    cases q
    exact ⟨_, rfl, h⟩
theorem RpA.two {vs : List V} {d e : D} (r : RpA K H vs [d, e]) : ∃ v w, vs = [v, w] ∧ Rp K H v d ∧ Rp K H w e := by
  cases r with
  | cons h q =>
    cases q with
    | cons h2 q2 =>
      cases q2
      exact ⟨_, _, rfl, h, h2⟩
theorem RpA.ints : ∀ {vs : List V} {ns : List Int}, RpA K H vs (ns.map D.int) → vs = ns.map V.int
  | _, [], .nil => rfl
  | _, n :: ns, .cons h r => by
    cases h
    rw [RpA.ints r]
    rfl
theorem RpA.bls : ∀ {vs : List V} {bs : List Bool}, RpA K H vs (bs.map D.bl) → vs = bs.map V.bl
  | _, [], .nil => rfl
  | _, n :: ns, .cons h r => by
    cases h
    rw [RpA.bls r]
    rfl
theorem RpA.strs : ∀ {vs : List V} {xs : List Str}, RpA K H vs (xs.map D.str) → vs = xs.map V.str
  | _, [], .nil => rfl
  | _, n :: ns, .cons h r => by
    cases h
    rw [RpA.strs r]
    rfl
theorem RpA.of_ints : ∀ (ns : List Int), RpA K H (ns.map V.int) (ns.map D.int)
  | [] => .nil
  | n :: ns => .cons (.int n) (RpA.of_ints ns)
theorem RpA.of_strs : ∀ (xs : List Str), RpA K H (xs.map V.str) (xs.map D.str)
  | [] => .nil
  | x :: xs => .cons (.str x) (RpA.of_strs xs)
theorem RpA.replicate {v : V} {d : D} (h : Rp K H v d) : ∀ n : Nat, RpA K H (List.replicate n v) (List.replicate n d)
  | 0 => .nil
  | n + 1 => .cons h (RpA.replicate h n)
end

/-! ### who owns what: tag 0 a spring, 1 another's, i + 2 the list in slot i -/
abbrev Ow := Addr → Option Nat
def er (S : Ow) (H : Hp) : Hp := fun a => match S a with
  | none => H a
  | some _ => none
theorem er_some {S : Ow} {H : Hp} {a : Addr} {o : HO} (h : er S H a = some o) : S a = none ∧ H a = some o := by
  unfold er at h
  cases e : S a with
  | none =>
    rw [e] at h
    exact ⟨rfl, h⟩
  | some t =>
    rw [e] at h
    cases h
theorem er_of {S : Ow} {H : Hp} {a : Addr} {o : HO} (e : S a = none) (h : H a = some o) : er S H a = some o := by
  unfold er
  rw [e]
  exact h
theorem er_rd {S : Ow} {H : Hp} {a : Addr} {o : HO} (r : Rd (er S H) a o) : Rd H a o := by
  rcases r with r | ⟨u, r⟩
  · exact .inl (er_some r).2
  · exact .inr ⟨u, (er_some r).2⟩
/-- a spring: three ints, the second a remainder -/
def SprAt (H : Hp) (a : Addr) : Prop := ∃ i j k : Int, H a = some (.lst [.int i, .int j, .int k]) ∧ 0 ≤ j ∧ j < 2147483647
theorem SprAt.some {H : Hp} {a : Addr} (h : SprAt H a) : ∃ o, H a = Option.some o := let ⟨_, _, _, e, _⟩ := h; ⟨_, e⟩
def Ok (S : Ow) (H : Hp) : Prop := ∀ a t, S a = some t → (∃ o, H a = some o) ∧ (t = 0 → SprAt H a)
theorem Ok.none {S : Ow} {H : Hp} {a : Addr} (k : Ok S H) (h : H a = Option.none) : S a = Option.none := by
  cases e : S a with
  | none => rfl
  | some t =>
    obtain ⟨⟨o, q⟩, _⟩ := k a t e
    rw [h] at q
    cases q
structure HE (S : Ow) (H H' : Hp) : Prop where
  keep : ∀ a o, S a ≠ some 0 → H a = some o → H' a = some o
  spr : ∀ a, S a = some 0 → SprAt H a → SprAt H' a
theorem HE.refl (S : Ow) (H : Hp) : HE S H H := ⟨fun _ _ _ z => z, fun _ _ z => z⟩
theorem HE.trans {S : Ow} {H G F : Hp} (p : HE S H G) (q : HE S G F) : HE S H F := ⟨fun a o n z => q.keep a o n (p.keep a o n z), fun a n z => q.spr a n (p.spr a n z)⟩
theorem HE.ok {S : Ow} {H H' : Hp} (p : HE S H H') (k : Ok S H) : Ok S H' := fun a t e => by
  obtain ⟨⟨o, h⟩, s⟩ := k a t e
  by_cases z : t = 0
  · subst z
    have q := p.spr a e (s rfl)
    exact ⟨q.some, fun _ => q⟩
  · exact ⟨⟨o, p.keep a o (by rw [e]; intro y; cases y; exact z rfl) h⟩, fun y => absurd y z⟩
theorem HE.kp {S : Ow} {H H' : Hp} (p : HE S H H') : Kp (er S H) (er S H') := fun a o h => by
  obtain ⟨h1, h2⟩ := er_some h
  exact er_of h1 (p.keep a o (by rw [h1]; exact fun z => nomatch z) h2)
theorem HE.new {S : Ow} {H : Hp} {p : Addr} {o : HO} (h : H p = none) : HE S H (upd H p o) :=
  ⟨fun a u _ e => by rw [upd_ne (ne_of_none e h)]; exact e, fun a _ ⟨i, j, k, e, b⟩ => ⟨i, j, k, by rw [upd_ne (ne_of_none e h)]; exact e, b⟩⟩
theorem HE.old {S : Ow} {H H' : Hp} {a : Addr} (k : Ok S H) (p : HE S H H') (h : H' a = none) : H a = none := by
  cases e : H a with
  | none => rfl
  | some o =>
    by_cases z : S a = some 0
    · obtain ⟨u, hu⟩ := (p.spr a z ((k a 0 z).2 rfl)).some
      rw [h] at hu
      cases hu
    · have q := p.keep a o z e
      rw [h] at q
      cases q

/-! ### what a name of a def holds -/
inductive Cell where
  | dat (d : D) | own (ds : List D) | spr | obj (a : Addr) (fs : List (Str × D))
abbrev En := List (Option Cell)
/-- an instance's fields, told in any order -/
def RpF (K : PySem.W.Frag) (H : Hp) (vs : List (Str × V)) (fs : List (Str × D)) : Prop := vs.length ≤ fs.length ∧ ∀ f d, fs.lookup f = some d → ∃ v, vs.lookup f = some v ∧ Rp K H v d
theorem RpF.kp {K : PySem.W.Frag} {H H' : Hp} {vs : List (Str × V)} {fs : List (Str × D)} (e : Kp H H') (r : RpF K H vs fs) : RpF K H' vs fs := ⟨r.1, fun f d q => let ⟨v, a, b⟩ := r.2 f d q; ⟨v, a, Rp.kp e b⟩⟩
def CellOk (K : PySem.W.Frag) (S : Ow) (H : Hp) (i : Nat) (v : V) : Cell → Prop
  | .dat d => Rp K (er S H) v d
  | .own ds => ∃ a vs, v = .ref a ∧ S a = some (i + 2) ∧ H a = some (.lst vs) ∧ RpA K (er S H) vs ds
  | .spr => ∃ a, v = .ref a ∧ S a = some 0
  | .obj a fs => v = .ref a ∧ S a = some (i + 2) ∧ ∃ dx vs, H a = some (.ins (sysC K) dx vs) ∧ RpF K (er S H) vs fs
theorem CellOk.he {K : PySem.W.Frag} {S : Ow} {H H' : Hp} {i : Nat} {v : V} {c : Cell} (p : HE S H H') (h : CellOk K S H i v c) : CellOk K S H' i v c := by
  cases c with
  | dat d => exact Rp.kp p.kp h
  | own ds =>
    obtain ⟨a, vs, e, t, q, r⟩ := h
    exact ⟨a, vs, e, t, p.keep a _ (by rw [t]; intro z; cases z) q, RpA.kp p.kp r⟩
  | spr => exact h
  | obj a fs =>
    obtain ⟨e, t, dx, vs, q, r⟩ := h
    exact ⟨e, t, dx, vs, p.keep a _ (by rw [t]; intro z; cases z) q, r.kp p.kp⟩
structure EnvOk (K : PySem.W.Frag) (S : Ow) (H : Hp) (σ : L2.St) (en : En) : Prop where
  len : σ.length = en.length
  at_ : ∀ i c, en[i]? = some (some c) → ∃ v, σ[i]? = some (some v) ∧ CellOk K S H i v c
section
variable {K : PySem.W.Frag} {S : Ow} {H H' : Hp} {σ : L2.St} {en : En}
theorem EnvOk.he (p : HE S H H') (h : EnvOk K S H σ en) : EnvOk K S H' σ en := ⟨h.len, fun i c e => by
  obtain ⟨v, a, b⟩ := h.at_ i c e
  exact ⟨v, a, b.he p⟩⟩
theorem EnvOk.put {i : Nat} {v : V} {c : Cell} (h : EnvOk K S H σ en) (q : CellOk K S H i v c) : EnvOk K S H (σ.set i (some v)) (en.set i (some c)) := by
  refine ⟨by rw [List.length_set, List.length_set]; exact h.len, fun j c' e => ?_⟩
  by_cases z : i = j
  · subst z
    by_cases l : i < en.length
    · rw [List.getElem?_set_self l] at e
      cases e
      exact ⟨v, List.getElem?_set_self (by rw [h.len]; exact l), q⟩
    · rw [List.getElem?_eq_none (by rw [List.length_set]; omega)] at e
      cases e
  · rw [List.getElem?_set_ne z] at e ⊢
    exact h.at_ j c' e
theorem EnvOk.data {i : Nat} {d : D} (h : EnvOk K S H σ en) (e : en[i]? = some (some (.dat d))) : ∃ v, σ[i]? = some (some v) ∧ Rp K (er S H) v d := h.at_ i _ e
/-- forgetting names -/
def wipeE (en : En) : List Nat → En
  | [] => en
  | v :: vs => (wipeE en vs).set v none
theorem wipeE_len (en : En) : ∀ vs, (wipeE en vs).length = en.length
  | [] => rfl
  | v :: vs => by
    unfold wipeE
    rw [List.length_set, wipeE_len en vs]
theorem wipeE_some {i : Nat} {c : Cell} : ∀ {vs : List Nat}, (wipeE en vs)[i]? = some (some c) → en[i]? = some (some c) ∧ i ∉ vs
  | [], h => ⟨h, fun z => nomatch z⟩
  | v :: vs, h => by
    unfold wipeE at h
    by_cases z : v = i
    · subst z
      by_cases l : v < (wipeE en vs).length
      · rw [List.getElem?_set_self l] at h
        cases h
      · rw [List.getElem?_eq_none (by rw [List.length_set]; omega)] at h
        cases h
    · rw [List.getElem?_set_ne z] at h
      obtain ⟨a, b⟩ := wipeE_some h
      refine ⟨a, fun q => ?_⟩
      rcases List.mem_cons.mp q with e | e
      · exact z e.symm
      · exact b e
theorem wipe_at {i : Nat} : ∀ {vs : List Nat}, i ∉ vs → (wipe σ vs)[i]? = σ[i]?
  | [], _ => rfl
  | v :: vs, h => by
    unfold wipe
    rw [List.getElem?_set_ne (fun e => h (by rw [e]; exact List.mem_cons_self))]
    exact wipe_at fun z => h (List.mem_cons_of_mem _ z)
theorem EnvOk.wipe (h : EnvOk K S H σ en) (vs : List Nat) : EnvOk K S H (wipe σ vs) (wipeE en vs) := by
  refine ⟨by rw [wipe_length, wipeE_len]; exact h.len, fun i c e => ?_⟩
  obtain ⟨a, b⟩ := wipeE_some e
  rw [wipe_at b]
  exact h.at_ i c a
theorem wipe_set {i : Nat} {x : Option V} : ∀ {vs : List Nat} {σ : L2.St}, i ∈ vs → wipe (σ.set i x) vs = L2.wipe σ vs
  | [], _, h => nomatch h
  | v :: vs, σ, h => by
    unfold L2.wipe
    by_cases z : i ∈ vs
    · rw [wipe_set z]
    · have e : v = i := by
        rcases List.mem_cons.mp h with e | e
        · exact e.symm
        · exact absurd e z
      subst e
      have com : ∀ {ws : List Nat}, v ∉ ws → L2.wipe (σ.set v x) ws = (L2.wipe σ ws).set v x := by
        intro ws
        induction ws with
        | nil => intro _; rfl
        | cons w ws ih =>
          intro hw
          unfold L2.wipe
          rw [ih fun q => hw (List.mem_cons_of_mem _ q), List.set_comm _ _ (fun q => hw (by rw [q]; exact List.mem_cons_self))]
      rw [com z, List.set_set]
/-- one more address is owned -/
def own1 (S : Ow) (p : Addr) (t : Nat) : Ow := fun a => if a = p then some t else S a
theorem own1_self {S : Ow} {p : Addr} {t : Nat} : own1 S p t p = some t := if_pos rfl
theorem own1_ne {S : Ow} {p a : Addr} {t : Nat} (h : a ≠ p) : own1 S p t a = S a := if_neg h
theorem kp_own {S : Ow} {p : Addr} {t : Nat} (hp : H p = none) (e : Kp (er S H) (er S H')) : Kp (er S H) (er (own1 S p t) H') := fun a o h => by
  obtain ⟨h1, h2⟩ := er_some h
  obtain ⟨_, h4⟩ := er_some (e a o h)
  exact er_of (by rw [own1_ne (ne_of_none h2 hp)]; exact h1) h4
theorem EnvOk.own {p : Addr} {t : Nat} (h : EnvOk K S H σ en) (k : Ok S H) (hp : H p = none) (he : HE S H H') : EnvOk K (own1 S p t) H' σ en := by
  refine ⟨h.len, fun i c e => ?_⟩
  obtain ⟨v, a, b⟩ := h.at_ i c e
  refine ⟨v, a, ?_⟩
  have kk : Kp (er S H) (er (own1 S p t) H') := kp_own hp he.kp
  cases c with
  | dat d => exact Rp.kp kk b
  | own ds =>
    obtain ⟨q, vs, e, t, z, r⟩ := b
    refine ⟨q, vs, e, ?_, he.keep q _ (by rw [t]; intro y; cases y) z, RpA.kp kk r⟩
    rw [own1_ne (ne_of_none z hp)]
    exact t
  | spr =>
    obtain ⟨q, e, t⟩ := b
    obtain ⟨⟨o, z⟩, _⟩ := k q 0 t
    refine ⟨q, e, ?_⟩
    rw [own1_ne (ne_of_none z hp)]
    exact t
  | obj q fs =>
    obtain ⟨e, t, dx, vs, z, r⟩ := b
    refine ⟨e, ?_, dx, vs, he.keep q _ (by rw [t]; intro y; cases y) z, r.kp kk⟩
    rw [own1_ne (ne_of_none z hp)]
    exact t
theorem Ok.own1 {p : Addr} {t : Nat} {o : HO} (k : Ok S H') (hp : H' p = some o) (ht : t ≠ 0) : Ok (own1 S p t) H' := fun a u e => by
  by_cases z : a = p
  · subst z
    rw [own1_self] at e
    cases e
    exact ⟨⟨o, hp⟩, fun y => absurd y ht⟩
  · rw [own1_ne z] at e
    exact k a u e
end

/-! ### readings over data -/
abbrev DE := En → (D → Prop) → Prop
abbrev DT := En → (Bool → Prop) → Prop
abbrev DL := En → (List D → Prop) → Prop
abbrev DA := En → (List Cell → Prop) → Prop
structure DEnds where
  nx : En → Prop
  rt : D → Prop
  bk : En → Prop := fun _ => False
  ct : En → Prop := fun _ => False
abbrev DS := DEnds → En → Prop

/-- an argument as it comes to a def -/
def ArgOk (K : PySem.W.Frag) (S : Ow) (H : Hp) (v : V) : Cell → Prop
  | .dat d => Rp K (er S H) v d
  | .spr => ∃ a, v = .ref a ∧ S a = some 0
  | .own _ => False
  | .obj _ _ => False
inductive ArgsOk (K : PySem.W.Frag) (S : Ow) (H : Hp) : List V → List Cell → Prop
  | nil : ArgsOk K S H [] []
  | cons {v : V} {vs : List V} {c : Cell} {cs : List Cell} : ArgOk K S H v c → ArgsOk K S H vs cs → ArgsOk K S H (v :: vs) (c :: cs)
theorem ArgOk.he {K : PySem.W.Frag} {S : Ow} {H H' : Hp} {v : V} {c : Cell} (p : HE S H H') (h : ArgOk K S H v c) : ArgOk K S H' v c := by
  cases c with
  | dat d => exact Rp.kp p.kp h
  | own ds => exact h
  | spr => exact h
  | obj a fs => exact h
theorem ArgsOk.he {K : PySem.W.Frag} {S : Ow} {H H' : Hp} (p : HE S H H') : ∀ {vs : List V} {cs : List Cell}, ArgsOk K S H vs cs → ArgsOk K S H' vs cs
  | _, _, .nil => .nil
  | _, _, .cons h r => .cons (h.he p) (ArgsOk.he p r)
theorem ArgsOk.length {K : PySem.W.Frag} {S : Ow} {H : Hp} : ∀ {vs : List V} {cs : List Cell}, ArgsOk K S H vs cs → vs.length = cs.length
  | _, _, .nil => rfl
  | _, _, .cons _ r => by rw [List.length_cons, List.length_cons, ArgsOk.length r]

section
variable (K : PySem.W.Frag)
def tD (de : DE) : TE := fun σ H R => ∃ S en Q, Ok S H ∧ EnvOk K S H σ en ∧ de en Q ∧ ∀ v H' d, HE S H H' → Rp K (er S H') v d → Q d → R v H'
/-- .. whose value is a list that nobody else holds -/
def tDF (dl : DL) : TE := fun σ H R => ∃ S en Q, Ok S H ∧ EnvOk K S H σ en ∧ dl en Q ∧ ∀ p H' vs ds, H p = none → HE S H H' → H' p = some (.lst vs) → (∀ t, RpA K (er (own1 S p t) H') vs ds) → Q ds → R (.ref p) H'
def tDT (dt : DT) : TT := fun σ H R => ∃ S en Q, Ok S H ∧ EnvOk K S H σ en ∧ dt en Q ∧ ∀ b H', HE S H H' → Q b → R b H'
def tDL (n : Nat) (dl : DL) : TA := fun σ H R => ∃ S en Q, Ok S H ∧ EnvOk K S H σ en ∧ dl en Q ∧ ∀ vs H' ds, HE S H H' → RpA K (er S H') vs ds → ds.length = n → Q ds → R vs H'
def tDA (n : Nat) (da : DA) : TA := fun σ H R => ∃ S en Q, Ok S H ∧ EnvOk K S H σ en ∧ da en Q ∧ ∀ vs H' cs, HE S H H' → ArgsOk K S H' vs cs → cs.length = n → Q cs → R vs H'
/-- the statement's entry at S0, H0 -/
structure In0 (S0 : Ow) (H0 : Hp) (S : Ow) (H : Hp) : Prop where
  low : ∀ a t, S0 a = some t → t < 2
  ok : Ok S H
  he : HE S0 H0 H
  ext : ∀ a, S0 a ≠ none → S a = S0 a
  frs : ∀ a, S0 a = none → S a ≠ none → H0 a = none
  ok0 : Ok S0 H0
def tDS (ds : DS) : TS := fun D σ H => ∃ S0 H0 S en Dd, In0 S0 H0 S H ∧ EnvOk K S H σ en ∧ ds Dd en ∧
  (∀ S' σ' H' en', In0 S0 H0 S' H' → Kp (er S H) (er S' H') → EnvOk K S' H' σ' en' → Dd.nx en' → D.nx σ' H') ∧
  (∀ S' v H' d, In0 S0 H0 S' H' → Kp (er S H) (er S' H') → Rp K (er S' H') v d → Dd.rt d → D.rt v H') ∧
  (∀ S' σ' H' en', In0 S0 H0 S' H' → Kp (er S H) (er S' H') → EnvOk K S' H' σ' en' → Dd.bk en' → D.bk σ' H') ∧
  (∀ S' σ' H' en', In0 S0 H0 S' H' → Kp (er S H) (er S' H') → EnvOk K S' H' σ' en' → Dd.ct en' → D.ct σ' H')
end
theorem In0.he' {S0 : Ow} {H0 : Hp} {S : Ow} {H H' : Hp} (i : In0 S0 H0 S H) (p : HE S H H') : In0 S0 H0 S H' := by
  refine ⟨i.low, p.ok i.ok, ⟨fun a o n z => ?_, fun a n z => ?_⟩, i.ext, i.frs, i.ok0⟩
  · refine p.keep a o (fun q => ?_) (i.he.keep a o n z)
    by_cases y : S0 a = none
    · have := i.frs a y (by rw [q]; exact fun w => nomatch w)
      rw [z] at this
      cases this
    · rw [i.ext a y] at q
      exact n q
  · exact p.spr a ((i.ext a (by rw [n]; exact fun w => nomatch w)).trans n) (i.he.spr a n z)
/-- to the entry's owners a value is what it is to ours -/
theorem In0.back {S0 : Ow} {H0 : Hp} {S : Ow} {H : Hp} (i : In0 S0 H0 S H) : Kp (er S H) (er S0 H) := fun a o h => by
  obtain ⟨h1, h2⟩ := er_some h
  refine er_of ?_ h2
  cases e : S0 a with
  | none => rfl
  | some t =>
    rw [i.ext a (by rw [e]; exact fun w => nomatch w), e] at h1
    cases h1

/-! ### weaker readings -/
section
variable {X : Cx}
theorem PE.imp {e : Expr} {t t' : TE} (h : PE X e t) (k : ∀ σ H R, t' σ H R → t σ H R) : PE X e t' := ⟨fun pins s σ H Q I q => h.run pins s σ H Q I (k σ H Q q)⟩
theorem PT.imp {e : Expr} {t t' : TT} (h : PT X e t) (k : ∀ σ H R, t' σ H R → t σ H R) : PT X e t' := ⟨fun pins s σ H Q I q => h.run pins s σ H Q I (k σ H Q q)⟩
theorem PW.imp {e : Expr} {t t' : TT} (h : PW X e t) (k : ∀ σ H R, t' σ H R → t σ H R) : PW X e t' := ⟨fun w pins s σ H Q I q => h.run w pins s σ H Q I (k σ H Q q)⟩
theorem PA.imp {es : List Expr} {t t' : TA} (h : PA X es t) (k : ∀ σ H R, t' σ H R → t σ H R) : PA X es t' := ⟨fun p pins s σ H Q I q => h.run p pins s σ H Q I (k σ H Q q)⟩
theorem PS.imp {st : Stmt} {t t' : TS} (h : PS X st t) (k : ∀ D σ H, t' D σ H → t D σ H) : PS X st t' := ⟨fun pins s σ H D I q => h.run pins s σ H D I (k D σ H q)⟩
theorem PSs.imp {st : List Stmt} {t t' : TS} (h : PSs X st t) (k : ∀ D σ H, t' D σ H → t D σ H) : PSs X st t' := ⟨fun pins s σ H D I q => h.run pins s σ H D I (k D σ H q)⟩
theorem PI.imp {tg e : Expr} {t t' : TI} (h : PI X tg e t) (k : ∀ σ H R, t' σ H R → t σ H R) : PI X tg e t' := ⟨fun pins s σ H Q I q => h.run pins s σ H Q I (k σ H Q q)⟩
end
end Fe
set_option Elab.async false
set_option linter.all false
set_option maxRecDepth 100000
set_option maxHeartbeats 4000000
/-! Layer 1, the rules: each construct of Python over data alone. -/
namespace Fe
open PySem L2

/-! ### names, constants -/
def dVar (i : Nat) : DE := fun en Q => match en[i]? with
  | some (some (.dat d)) => Q d
  | _ => False
def dC (d : D) : DE := fun _ Q => Q d
section
variable {X : Cx} {K : PySem.W.Frag}
theorem tD_var {i : Nat} {σ : L2.St} {H : Hp} {R : VK} (h : tD K (dVar i) σ H R) : tVar i σ H R := by
  obtain ⟨S, en, Q, ok, e, q, k⟩ := h
  unfold dVar at q
  split at q
  · rename_i d hd
    obtain ⟨v, a, r⟩ := e.data hd
    exact ⟨v, a, k v H d (HE.refl _ _) r q⟩
  · exact q.elim
theorem pd_var (i : Nat) {x : Str} {pos : Pos} (hN : X.N[i]? = some x := by rfl) (hv : Vis X.env.scope x := by first | exact Or.inl rfl | exact Or.inr (Or.inl rfl) | exact Or.inr (Or.inr rfl)) (hd : (x == ("__debug__" : Str)) = false := by decide)
    (hcd : (x == ("__classdict__" : Str)) = false := by decide) : PE X (.Name x pos) (tD X.K (dVar i)) := PE.imp (pe_var hN hv hd hcd) fun _ _ _ h => tD_var h
theorem tD_c {v : V} {d : D} (r : ∀ H, Rp K H v d) {σ : L2.St} {H : Hp} {R : VK} (h : tD K (dC d) σ H R) : tC v σ H R := by
  obtain ⟨S, en, Q, ok, e, q, k⟩ := h
  exact k v H d (HE.refl _ _) (r _) q
theorem pd_int {i : Int} {j pos} : PE X (.Constant (.int i) j pos) (tD X.K (dC (.int i))) := PE.imp pe_int fun _ _ _ h => tD_c (fun _ => .int i) h
theorem pd_bl {b : Bool} {j pos} : PE X (.Constant (.bool b) j pos) (tD X.K (dC (.bl b))) := PE.imp pe_bl fun _ _ _ h => tD_c (fun _ => .bl b) h
theorem pd_non {j pos} : PE X (.Constant .none j pos) (tD X.K (dC .non)) := PE.imp pe_non fun _ _ _ h => tD_c (fun _ => .non) h
theorem pd_str {x : Str} {j pos} : PE X (.Constant (.str x) j pos) (tD X.K (dC (.str x))) := PE.imp pe_str fun _ _ _ h => tD_c (fun _ => .str x) h
theorem pd_gint {x : Str} {i : Int} {pos : Pos} (hm : ∃ t, X.mg x = some (.int i t)) (hg : Gl X x) (hd : (x == ("__debug__" : Str)) = false := by decide) : PE X (.Name x pos) (tD X.K (dC (.int i))) := by
  obtain ⟨t, e⟩ := hm
  exact PE.imp (pe_glob (v := .int i) hg e ⟨t, rfl⟩ hd) fun _ _ _ h => tD_c (fun _ => .int i) h
theorem pd_gstr {x z : Str} {pos : Pos} (hm : ∃ t, X.mg x = some (.str z t)) (hg : Gl X x) (hd : (x == ("__debug__" : Str)) = false := by decide) : PE X (.Name x pos) (tD X.K (dC (.str z))) := by
  obtain ⟨t, e⟩ := hm
  exact PE.imp (pe_glob (v := .str z) hg e ⟨t, rfl⟩ hd) fun _ _ _ h => tD_c (fun _ => .str z) h
/-- a list that nobody else holds is a value like others -/
def dFr (dl : DL) : DE := fun en Q => dl en fun ds => Q (.lst ds)
theorem tD_fr {dl : DL} {σ : L2.St} {H : Hp} {R : VK} (h : tD K (dFr dl) σ H R) : tDF K dl σ H R := by
  obtain ⟨S, en, Q, ok, e, q, k⟩ := h
  refine ⟨S, en, _, ok, e, q, fun p H' vs ds hp he hv r qd => k (.ref p) H' (.lst ds) he (.lst (.inl (er_of (ok.none hp) hv)) ?_) qd⟩
  refine RpA.kp (fun a o z => ?_) (r 1)
  obtain ⟨z1, z2⟩ := er_some z
  by_cases y : a = p
  · subst y
    rw [own1_self] at z1
    cases z1
  · rw [own1_ne y] at z1
    exact er_of z1 z2
theorem pd_fr {e : Expr} {dl : DL} (h : PE X e (tDF X.K dl)) : PE X e (tD X.K (dFr dl)) := PE.imp h fun _ _ _ q => tD_fr q
end

/-! ### two-place operations -/
abbrev F2 := D → D → (D → Prop) → Prop
def dBin (f : F2) (da db : DE) : DE := fun en Q => da en fun x => db en fun y => f x y Q
/-- what a rule of values says of data -/
def R2D (K : PySem.W.Frag) (r : R2) (f : F2) : Prop := ∀ (S : Ow) (H : Hp) (x y : V) (a b : D) (Q : D → Prop) (R : VK), Ok S H → Rp K (er S H) x a → Rp K (er S H) y b → f a b Q →
  (∀ v H' d, HE S H H' → Rp K (er S H') v d → Q d → R v H') → r x y H R
section
variable {X : Cx} {K : PySem.W.Frag} {a b : Expr} {da db : DE} {pos : Pos}
theorem tD_bin {r : R2} {f : F2} (hr : R2D K r f) {σ : L2.St} {H : Hp} {R : VK} (h : tD K (dBin f da db) σ H R) : tOp r (tD K da) (tD K db) σ H R := by
  obtain ⟨S, en, Q, ok, e, q, k⟩ := h
  refine ⟨S, en, _, ok, e, q, fun v H1 d he rp q1 => ⟨S, en, _, he.ok ok, e.he he, q1, fun w H2 d2 he2 rp2 q2 => ?_⟩⟩
  exact hr S H2 v w d d2 Q R (he2.ok (he.ok ok)) (Rp.kp he2.kp rp) rp2 q2 fun u H3 d3 he3 rp3 q3 => k u H3 d3 ((he.trans he2).trans he3) rp3 q3
theorem pd_bin {op : Operator} {r : R2} {f : F2} (ho : OpR X (binaryOp op) r) (hr : R2D X.K r f) (ha : PE X a (tD X.K da)) (hb : PE X b (tD X.K db)) : PE X (.BinOp a op b pos) (tD X.K (dBin f da db)) :=
  PE.imp (pe_op ho ha hb) fun _ _ _ h => tD_bin hr h
theorem pd_cmp {op : CmpOp} {r : R2} {f : F2} (ho : OpR X (compareOp op) r) (hr : R2D X.K r f) (ha : PE X a (tD X.K da)) (hb : PE X b (tD X.K db)) (hm : behindInMarks op b = false) : PE X (.Compare a [op] [b] pos) (tD X.K (dBin f da db)) :=
  PE.imp (pe_cmpR ho ha hb hm) fun _ _ _ h => tD_bin hr h
/-- a value as a test -/
def dTest (de : DE) : DT := fun en Q => de en fun d => match d with
  | .bl b => Q b
  | _ => False
theorem tDT_test {t : TE} {de : DE} (ht : ∀ σ H R, tD K de σ H R → t σ H R) {σ : L2.St} {H : Hp} {R : Bool → Hp → Prop} (h : tDT K (dTest de) σ H R) : tTest t σ H R := by
  obtain ⟨S, en, Q, ok, e, q, k⟩ := h
  refine ht _ _ _ ⟨S, en, _, ok, e, q, fun v H1 d he rp q1 => ?_⟩
  cases rp with
  | bl b => exact ⟨b, rfl, k b H1 he q1⟩
  | _ => exact False.elim q1
theorem ptd_cmp {op : CmpOp} {r : R2} {f : F2} (ho : OpR X (compareOp op) r) (hr : R2D X.K r f) (ha : PE X a (tD X.K da)) (hb : PE X b (tD X.K db)) (hm : behindInMarks op b = false) : PT X (.Compare a [op] [b] pos) (tDT X.K (dTest (dBin f da db))) :=
  PT.imp (pt_cmpR ho ha hb hm) fun _ _ _ h => tDT_test (fun _ _ _ q => tD_bin hr q) h
/-- a call, a name .. whose value is a bool, as a test -/
theorem ptd_val {e : Expr} {de : DE} (h : PE X e (tD X.K de)) (he : ∀ whole, isTrue e X.env whole = (do let v ← whole; standAt e.pos; holding [v] (truthy v)) := by intro _; rfl) : PT X e (tDT X.K (dTest de)) :=
  PT.imp (pt_val h he) fun σ H R q => by
    have z : tTest (tD X.K de) σ H R := tDT_test (fun _ _ _ q => q) q
    exact z
end

/-! ### ints -/
/-- a product that the machine lays -/
abbrev MulOk (i j : Int) : Prop := i.natAbs.log2 + j.natAbs.log2 < 1000000 ∨ (-(2 ^ 64) < i ∧ i < 2 ^ 64)
def fAdd : F2 := fun a b Q => match a, b with
  | .int i, .int j => Q (.int (i + j))
  | .str x, .str y => x.length + y.length ≤ sizeLine ∧ Q (.str (x ++ y))
  | .tup xs, .tup ys => xs.length + ys.length ≤ sizeLine ∧ Q (.tup (xs ++ ys))
  | _, _ => False
def fSub : F2 := fun a b Q => match a, b with
  | .int i, .int j => Q (.int (i - j))
  | _, _ => False
def fMul : F2 := fun a b Q => match a, b with
  | .int i, .int j => MulOk i j ∧ Q (.int (i * j))
  | _, _ => False
def fMod : F2 := fun a b Q => match a, b with
  | .int i, .int j => 0 < j ∧ Q (.int (i % j))
  | _, _ => False
def fDiv : F2 := fun a b Q => match a, b with
  | .int i, .int j => (0 < j ∧ j < 1073741824) ∧ Q (.int (i / j))
  | _, _ => False
def fPow : F2 := fun a b Q => match a, b with
  | .int i, .int j => (0 ≤ j ∧ j ≤ 1000000 ∧ i.natAbs < 2 ^ 64) ∧ Q (.int (i ^ j.toNat))
  | _, _ => False
def fLt : F2 := fun a b Q => match a, b with
  | .int i, .int j => Q (.bl (decide (i < j)))
  | _, _ => False
def fLe : F2 := fun a b Q => match a, b with
  | .int i, .int j => Q (.bl (decide (i ≤ j)))
  | _, _ => False
def fGt : F2 := fun a b Q => match a, b with
  | .int i, .int j => Q (.bl (decide (j < i)))
  | _, _ => False
def fGe : F2 := fun a b Q => match a, b with
  | .int i, .int j => Q (.bl (decide (j ≤ i)))
  | _, _ => False
section
variable {K : PySem.W.Frag} {X : Cx}
theorem r2_int {g : Int → Int → Int} {f : F2} (hf : ∀ a b Q, f a b Q → ∃ i j, a = .int i ∧ b = .int j ∧ Q (.int (g i j))) : R2D K (rI0 fun i j => .int (g i j)) f := by
  intro S H x y a b Q R ok ra rb q k
  obtain ⟨i, j, rfl, rfl, q'⟩ := hf a b Q q
  cases ra
  cases rb
  exact ⟨i, j, rfl, rfl, k _ H _ (HE.refl _ _) (.int _) q'⟩
theorem r2_bool {g : Int → Int → Bool} {f : F2} (hf : ∀ a b Q, f a b Q → ∃ i j, a = .int i ∧ b = .int j ∧ Q (.bl (g i j))) : R2D K (rI0 fun i j => .bl (g i j)) f := by
  intro S H x y a b Q R ok ra rb q k
  obtain ⟨i, j, rfl, rfl, q'⟩ := hf a b Q q
  cases ra
  cases rb
  exact ⟨i, j, rfl, rfl, k _ H _ (HE.refl _ _) (.bl _) q'⟩
theorem r2_intC {C : Int → Int → Prop} {g : Int → Int → Int} {f : F2} (hf : ∀ a b Q, f a b Q → ∃ i j, a = .int i ∧ b = .int j ∧ C i j ∧ Q (.int (g i j))) : R2D K (rI C fun i j => .int (g i j)) f := by
  intro S H x y a b Q R ok ra rb q k
  obtain ⟨i, j, rfl, rfl, c, q'⟩ := hf a b Q q
  cases ra
  cases rb
  exact ⟨i, j, rfl, rfl, c, k _ H _ (HE.refl _ _) (.int _) q'⟩
theorem r2_sub : R2D K (rI0 fun i j => .int (i - j)) fSub := r2_int fun a b Q q => by
  unfold fSub at q
  split at q
  · exact ⟨_, _, rfl, rfl, q⟩
  · exact q.elim
def rMulB : R2 := fun x y H Q => rI CMulW (fun i j => .int (i * j)) x y H Q ∨ rI CMul (fun i j => .int (i * j)) x y H Q
theorem op_mulB : OpR X (binaryOp .Mult) rMulB := op_mulW.or op_mul
theorem r2_mul : R2D K rMulB fMul := by
  intro S H x y a b Q R ok ra rb q k
  unfold fMul at q
  split at q
  · cases ra
    cases rb
    rcases q with ⟨c | c, q⟩
    · exact .inl ⟨_, _, rfl, rfl, c, k _ H _ (HE.refl _ _) (.int _) q⟩
    · exact .inr ⟨_, _, rfl, rfl, .inl c, k _ H _ (HE.refl _ _) (.int _) q⟩
  · exact q.elim
theorem r2_mod : R2D K (rI (fun _ j => 0 < j) fun i j => .int (i % j)) fMod := r2_intC fun a b Q q => by
  unfold fMod at q
  split at q
  · exact ⟨_, _, rfl, rfl, q.1, q.2⟩
  · exact q.elim
theorem r2_div : R2D K (rI CDiv fun i j => .int (i / j)) fDiv := r2_intC fun a b Q q => by
  unfold fDiv at q
  split at q
  · exact ⟨_, _, rfl, rfl, q.1, q.2⟩
  · exact q.elim
theorem r2_pow : R2D K (rI CPow fun i j => .int (i ^ j.toNat)) fPow := r2_intC fun a b Q q => by
  unfold fPow at q
  split at q
  · exact ⟨_, _, rfl, rfl, q.1, q.2⟩
  · exact q.elim
theorem r2_lt : R2D K (rI0 fun i j => .bl (decide (i < j))) fLt := r2_bool fun a b Q q => by
  unfold fLt at q
  split at q
  · exact ⟨_, _, rfl, rfl, q⟩
  · exact q.elim
theorem r2_le : R2D K (rI0 fun i j => .bl (decide (i ≤ j))) fLe := r2_bool fun a b Q q => by
  unfold fLe at q
  split at q
  · exact ⟨_, _, rfl, rfl, q⟩
  · exact q.elim
theorem r2_gt : R2D K (rI0 fun i j => .bl (decide (j < i))) fGt := r2_bool fun a b Q q => by
  unfold fGt at q
  split at q
  · exact ⟨_, _, rfl, rfl, q⟩
  · exact q.elim
theorem r2_ge : R2D K (rI0 fun i j => .bl (decide (j ≤ i))) fGe := r2_bool fun a b Q q => by
  unfold fGe at q
  split at q
  · exact ⟨_, _, rfl, rfl, q⟩
  · exact q.elim
/-- + of ints, texts, tuples -/
def rAdd3 (K : PySem.W.Frag) : R2 := fun x y H Q => (rI0 (fun i j => .int (i + j)) x y H Q) ∨ (∃ i j, x = .str i ∧ y = .str j ∧ i.length + j.length ≤ sizeLine ∧ Q (.str (i ++ j)) H) ∨ rCatA K x y H Q
theorem op_add3 : OpR X (binaryOp .Add) (rAdd3 X.K) := op_add.or (op_add_str.or op_catA)
theorem r2_add : R2D K (rAdd3 K) fAdd := by
  intro S H x y a b Q R ok ra rb q k
  unfold fAdd at q
  split at q
  · cases ra
    cases rb
    exact .inl ⟨_, _, rfl, rfl, k _ H _ (HE.refl _ _) (.int _) q⟩
  · cases ra
    cases rb
    exact .inr (.inl ⟨_, _, rfl, rfl, q.1, k _ H _ (HE.refl _ _) (.str _) q.2⟩)
  · rename_i xs ys
    have ra' := ra
    have rb' := rb
    cases ra with
    | @tup p vs _ hp rv =>
      cases rb with
      | @tup p2 ws _ hp2 rw2 =>
        have l1 := rv.length
        have l2 := rw2.length
        refine .inr (.inr ⟨p, p2, vs, ws, rfl, rfl, SqT.of (er_some hp).2, SqT.of (er_some hp2).2, by omega, fun e => ?_, fun _ e => ?_, fun _ _ l hl => ?_⟩)
        · subst e
          have : xs = [] := List.eq_nil_of_length_eq_zero (by rw [← l1]; rfl)
          subst this
          exact k _ H _ (HE.refl _ _) rb' q.2
        · subst e
          have : ys = [] := List.eq_nil_of_length_eq_zero (by rw [← l2]; rfl)
          subst this
          rw [List.append_nil] at q
          exact k _ H _ (HE.refl _ _) ra' q.2
        · have he : HE S H (upd H l (.tup (vs ++ ws))) := HE.new hl
          exact k _ _ _ he (.tup (er_of (ok.none hl) upd_same) ((RpA.kp he.kp rv).append (RpA.kp he.kp rw2))) q.2
  · exact q.elim
end

/-! ### one-place operations -/
abbrev F1 := D → (D → Prop) → Prop
def dUn (f : F1) (da : DE) : DE := fun en Q => da en fun x => f x Q
def fNeg : F1 := fun a Q => match a with
  | .int i => Q (.int (-i))
  | _ => False
section
variable {X : Cx} {K : PySem.W.Frag} {a : Expr} {da : DE} {pos : Pos}
theorem pd_neg (ha : PE X a (tD X.K da)) : PE X (.UnaryOp .USub a pos) (tD X.K (dUn fNeg da)) := PE.imp (pe_un un_neg ha) fun σ H R h => by
  obtain ⟨S, en, Q, ok, e, q, k⟩ := h
  refine ⟨S, en, _, ok, e, q, fun v H1 d he rp q1 => ?_⟩
  unfold fNeg at q1
  split at q1
  · cases rp
    exact ⟨_, rfl, k _ H1 _ he (.int _) q1⟩
  · exact q1.elim
end

/-! ### equality -/
def fEq : F2 := fun a b Q => match a, b with
  | .int i, .int j => Q (.bl (i == j))
  | .str x, .str y => Q (.bl (x == y))
  | .bl x, .bl y => Q (.bl (x == y))
  | _, _ => False
def fNe : F2 := fun a b Q => match a, b with
  | .int i, .int j => Q (.bl (i != j))
  | .str x, .str y => Q (.bl (x != y))
  | .bl x, .bl y => Q (.bl (x != y))
  | _, _ => False
section
variable {K : PySem.W.Frag}
theorem dec_v {i j : Int} : decide (V.int i = V.int j) = (i == j) := by
  rw [Bool.eq_iff_iff]
  simp
theorem dec_s {i j : Str} : decide (V.str i = V.str j) = (i == j) := by
  rw [Bool.eq_iff_iff]
  simp
theorem dec_b {i j : Bool} : decide (V.bl i = V.bl j) = (i == j) := by
  rw [Bool.eq_iff_iff]
  simp
theorem r2_eq : R2D K rEq fEq := by
  intro S H x y a b Q R ok ra rb q k
  unfold fEq at q
  split at q
  · cases ra
    cases rb
    exact ⟨rfl, k _ H _ (HE.refl _ _) (by rw [dec_v]; exact .bl _) q⟩
  · cases ra
    cases rb
    exact ⟨rfl, k _ H _ (HE.refl _ _) (by rw [dec_s]; exact .bl _) q⟩
  · cases ra
    cases rb
    exact ⟨rfl, k _ H _ (HE.refl _ _) (by rw [dec_b]; exact .bl _) q⟩
  · exact q.elim
theorem r2_ne : R2D K rNe fNe := by
  intro S H x y a b Q R ok ra rb q k
  unfold fNe at q
  split at q
  · cases ra
    cases rb
    exact ⟨rfl, k _ H _ (HE.refl _ _) (by rw [dec_v]; exact .bl _) q⟩
  · cases ra
    cases rb
    exact ⟨rfl, k _ H _ (HE.refl _ _) (by rw [dec_s]; exact .bl _) q⟩
  · cases ra
    cases rb
    exact ⟨rfl, k _ H _ (HE.refl _ _) (by rw [dec_b]; exact .bl _) q⟩
  · exact q.elim
end
/-- is None, is True, is False -/
def dIsN (da : DE) : DE := fun en Q => da en fun x => Q (.bl (match x with
  | .non => true
  | _ => false))
def fIsB : F2 := fun a b Q => match a, b with
  | .bl x, .bl y => Q (.bl (x == y))
  | _, _ => False
def fIsNotB : F2 := fun a b Q => match a, b with
  | .bl x, .bl y => Q (.bl (x != y))
  | _, _ => False
section
variable {X : Cx} {K : PySem.W.Frag} {a b : Expr} {da db : DE} {pos : Pos}
theorem dec_iff {p q : Prop} [Decidable p] [Decidable q] (h : p ↔ q) : decide p = decide q := by
  by_cases z : p
  · rw [decide_eq_true z, decide_eq_true (h.mp z)]
  · rw [decide_eq_false z, decide_eq_false fun y => z (h.mpr y)]
theorem r2_isB : R2D K rIsB fIsB := by
  intro S H x y a b Q R ok ra rb q k
  unfold fIsB at q
  split at q
  · cases ra
    cases rb
    rename_i c d
    exact ⟨c, d, rfl, rfl, k _ H _ (HE.refl _ _) (by rw [show decide (c = d) = (c == d) by cases c <;> cases d <;> rfl]; exact .bl _) q⟩
  · exact q.elim
theorem r2_isNotB : R2D K rNotB fIsNotB := by
  intro S H x y a b Q R ok ra rb q k
  unfold fIsNotB at q
  split at q
  · cases ra
    cases rb
    rename_i c d
    exact ⟨c, d, rfl, rfl, k _ H _ (HE.refl _ _) (by rw [show (!decide (c = d)) = (c != d) by cases c <;> cases d <;> rfl]; exact .bl _) q⟩
  · exact q.elim
theorem tD_isN {σ : L2.St} {H : Hp} {R : VK} (h : tD K (dIsN da) σ H R) : tIsN (tD K da) σ H R := by
  obtain ⟨S, en, Q, ok, e, q, k⟩ := h
  refine ⟨S, en, _, ok, e, q, fun v H1 d he rp q1 => k _ H1 _ he ?_ q1⟩
  cases rp <;> exact .bl _
theorem pd_isN {j pos'} (ha : PE X a (tD X.K da)) : PE X (.Compare a [.Is] [.Constant .none j pos'] pos) (tD X.K (dIsN da)) := PE.imp (pe_cmp (pc_isN ha)) fun _ _ _ h => tD_isN h
theorem ptd_isN {j pos'} (ha : PE X a (tD X.K da)) : PT X (.Compare a [.Is] [.Constant .none j pos'] pos) (tDT X.K (dTest (dIsN da))) :=
  PT.imp (pt_cmp (pc_isN ha)) fun σ H R h => tDT_test (t := tIsN (tD X.K da)) (fun _ _ _ q => tD_isN q) h
end

/-! ### chains: a <= b <= c -/
def dChain (f g : F2) (da db dc : DE) : DE := fun en Q => da en fun x => db en fun y => f x y fun z => match z with
  | .bl true => dc en fun w => g y w Q
  | .bl false => Q (.bl false)
  | _ => False
section
variable {X : Cx} {K : PySem.W.Frag} {a b c : Expr} {da db dc : DE} {pos : Pos}
theorem tD_chain {r r' : R2} {f g : F2} (hr : R2D K r f) (hr' : R2D K r' g) {σ : L2.St} {H : Hp} {R : VK} (h : tD K (dChain f g da db dc) σ H R) : tChain r r' (tD K da) (tD K db) (tD K dc) σ H R := by
  obtain ⟨S, en, Q, ok, e, q, k⟩ := h
  refine ⟨S, en, _, ok, e, q, fun v H1 d he rp q1 => ⟨S, en, _, he.ok ok, e.he he, q1, fun w H2 d2 he2 rp2 q2 => ?_⟩⟩
  refine hr S H2 v w d d2 _ _ (he2.ok (he.ok ok)) (Rp.kp he2.kp rp) rp2 q2 fun u H3 d3 he3 rp3 q3 => ?_
  cases rp3 with
  | bl z =>
    cases z with
    | true =>
      refine ⟨true, rfl, ?_⟩
      rw [if_pos rfl]
      refine ⟨S, en, _, he3.ok (he2.ok (he.ok ok)), ((e.he he).he he2).he he3, q3, fun t H4 d4 he4 rp4 q4 => ?_⟩
      exact hr' S H4 w t d2 d4 Q R (he4.ok (he3.ok (he2.ok (he.ok ok)))) (Rp.kp he4.kp (Rp.kp he3.kp rp2)) rp4 q4 fun u' H5 d5 he5 rp5 q5 => k u' H5 d5 ((((he.trans he2).trans he3).trans he4).trans he5) rp5 q5
    | false =>
      refine ⟨false, rfl, ?_⟩
      rw [if_neg Bool.false_ne_true]
      exact k _ H3 _ ((he.trans he2).trans he3) (.bl false) q3
  | _ => exact False.elim q3
theorem pd_chain {op op' : CmpOp} {r r' : R2} {f g : F2} (ho : OpR X (compareOp op) r) (hr : R2D X.K r f) (ho' : OpR X (compareOp op') r') (hr' : R2D X.K r' g) (ha : PE X a (tD X.K da)) (hb : PE X b (tD X.K db)) (hc : PE X c (tD X.K dc))
    (hm : lastMarks [op, op'] [b, c] = false := by with_unfolding_all rfl) : PE X (.Compare a [op, op'] [b, c] pos) (tD X.K (dChain f g da db dc)) := PE.imp (pe_chain ho ho' ha hb hc hm) fun _ _ _ h => tD_chain hr hr' h
theorem ptd_chain {op op' : CmpOp} {r r' : R2} {f g : F2} (ho : OpR X (compareOp op) r) (hr : R2D X.K r f) (ho' : OpR X (compareOp op') r') (hr' : R2D X.K r' g) (ha : PE X a (tD X.K da)) (hb : PE X b (tD X.K db)) (hc : PE X c (tD X.K dc))
    (hm : lastMarks [op, op'] [b, c] = false := by with_unfolding_all rfl) : PT X (.Compare a [op, op'] [b, c] pos) (tDT X.K (dTest (dChain f g da db dc))) :=
  PT.imp (pt_chain ho ho' ha hb hc hm) fun _ _ _ h => tDT_test (fun _ _ _ q => tD_chain hr hr' q) h
end

/-! ### and, or, not, if -/
def dAnd (t u : DT) : DT := fun en Q => t en fun b => if b = true then u en Q else Q false
def dOr (t u : DT) : DT := fun en Q => t en fun b => if b = true then Q true else u en Q
def dNot (t : DT) : DT := fun en Q => t en fun b => Q (!b)
def dIf (t : DT) (da db : DE) : DE := fun en Q => t en fun b => if b = true then da en Q else db en Q
/-- and, or, not of bools as values -/
def dAndV (da db : DE) : DE := fun en Q => da en fun x => match x with
  | .bl true => db en Q
  | .bl false => Q (.bl false)
  | _ => False
def dNotV (da : DE) : DE := fun en Q => da en fun x => match x with
  | .bl b => Q (.bl (!b))
  | _ => False
section
variable {X : Cx} {K : PySem.W.Frag} {a b c : Expr} {rest : List Expr} {ta tb : DT} {da db : DE} {pos : Pos}
theorem pwd_and1 (ha : PT X a (tDT X.K ta)) : PW X (.BoolOp .And [a] pos) (tDT X.K ta) := pw_and1 ha
theorem pwd_or1 (ha : PT X a (tDT X.K ta)) : PW X (.BoolOp .Or [a] pos) (tDT X.K ta) := pw_or1 ha
theorem tDT_and {σ : L2.St} {H : Hp} {R : Bool → Hp → Prop} (h : tDT K (dAnd ta tb) σ H R) : tAnd (tDT K ta) (tDT K tb) σ H R := by
  obtain ⟨S, en, Q, ok, e, q, k⟩ := h
  refine ⟨S, en, _, ok, e, q, fun v H1 he q1 => ?_⟩
  cases v with
  | true => exact ⟨S, en, _, he.ok ok, e.he he, q1, fun w H2 he2 q2 => k w H2 (he.trans he2) q2⟩
  | false => exact k false H1 he q1
theorem tDT_or {σ : L2.St} {H : Hp} {R : Bool → Hp → Prop} (h : tDT K (dOr ta tb) σ H R) : tOr (tDT K ta) (tDT K tb) σ H R := by
  obtain ⟨S, en, Q, ok, e, q, k⟩ := h
  refine ⟨S, en, _, ok, e, q, fun v H1 he q1 => ?_⟩
  cases v with
  | true => exact k true H1 he q1
  | false => exact ⟨S, en, _, he.ok ok, e.he he, q1, fun w H2 he2 q2 => k w H2 (he.trans he2) q2⟩
theorem pwd_and (ha : PT X a (tDT X.K ta)) (hb : PW X (.BoolOp .And (b :: rest) pos) (tDT X.K tb)) : PW X (.BoolOp .And (a :: b :: rest) pos) (tDT X.K (dAnd ta tb)) := PW.imp (pw_and ha hb) fun _ _ _ h => tDT_and h
theorem pwd_or (ha : PT X a (tDT X.K ta)) (hb : PW X (.BoolOp .Or (b :: rest) pos) (tDT X.K tb)) : PW X (.BoolOp .Or (a :: b :: rest) pos) (tDT X.K (dOr ta tb)) := PW.imp (pw_or ha hb) fun _ _ _ h => tDT_or h
theorem ptd_not (ha : PT X a (tDT X.K ta)) : PT X (.UnaryOp .Not a pos) (tDT X.K (dNot ta)) := PT.imp (pt_not ha) fun σ H R h => by
  obtain ⟨S, en, Q, ok, e, q, k⟩ := h
  exact ⟨S, en, _, ok, e, q, fun v H1 he q1 => k _ H1 he q1⟩
theorem pd_if (hc : PT X c (tDT X.K ta)) (ha : PE X a (tD X.K da)) (hb : PE X b (tD X.K db)) : PE X (.IfExp c a b pos) (tD X.K (dIf ta da db)) := PE.imp (pe_ifExp hc ha hb) fun σ H R h => by
  obtain ⟨S, en, Q, ok, e, q, k⟩ := h
  refine ⟨S, en, _, ok, e, q, fun v H1 he q1 => ?_⟩
  cases v with
  | true => exact ⟨S, en, _, he.ok ok, e.he he, q1, fun w H2 d he2 r2 q2 => k w H2 d (he.trans he2) r2 q2⟩
  | false => exact ⟨S, en, _, he.ok ok, e.he he, q1, fun w H2 d he2 r2 q2 => k w H2 d (he.trans he2) r2 q2⟩
theorem pd_andV (ha : PE X a (tD X.K da)) (hb : PE X (.BoolOp .And (b :: rest) pos) (tD X.K db)) : PE X (.BoolOp .And (a :: b :: rest) pos) (tD X.K (dAndV da db)) := PE.imp (pe_and ha hb) fun σ H R h => by
  obtain ⟨S, en, Q, ok, e, q, k⟩ := h
  refine ⟨S, en, _, ok, e, q, fun v H1 d he rp q1 => ?_⟩
  cases rp with
  | bl z =>
    cases z with
    | true =>
      refine ⟨true, rfl, ?_⟩
      exact ⟨S, en, _, he.ok ok, e.he he, q1, fun w H2 d he2 r2 q2 => k w H2 d (he.trans he2) r2 q2⟩
    | false => exact ⟨false, rfl, k _ H1 _ he (.bl false) q1⟩
  | _ => exact False.elim q1
theorem pd_oneV {op} (ha : PE X a (tD X.K da)) : PE X (.BoolOp op [a] pos) (tD X.K da) := pe_one ha
theorem pd_notV (ha : PE X a (tD X.K da)) : PE X (.UnaryOp .Not a pos) (tD X.K (dNotV da)) := PE.imp (pe_not ha) fun σ H R h => by
  obtain ⟨S, en, Q, ok, e, q, k⟩ := h
  refine ⟨S, en, _, ok, e, q, fun v H1 d he rp q1 => ?_⟩
  cases rp with
  | bl z => exact ⟨z, rfl, k _ H1 _ he (.bl _) q1⟩
  | _ => exact False.elim q1
/-- a value's truth -/
def fTru : D → (Bool → Prop) → Prop := fun d Q => match d with
  | .lst xs => Q (!xs.isEmpty)
  | .tup xs => Q (!xs.isEmpty)
  | .bl b => Q b
  | _ => False
def dTru (da : DE) : DT := fun en Q => da en fun d => fTru d Q
theorem RpA.empty {H : Hp} {vs : List V} {ds : List D} (r : RpA K H vs ds) : vs.isEmpty = ds.isEmpty := by
  cases r <;> rfl
theorem ptd_tru (ha : PE X a (tD X.K da)) (he : ∀ whole, isTrue a X.env whole = (do let v ← whole; standAt a.pos; holding [v] (truthy v)) := by intro _; rfl) : PT X a (tDT X.K (dTru da)) := PT.imp (pt_truth ha he) fun σ H R h => by
  obtain ⟨S, en, Q, ok, e, q, k⟩ := h
  refine ⟨S, en, _, ok, e, q, fun v H1 d he rp q1 => ?_⟩
  unfold fTru at q1
  cases rp with
  | lst hr ra => exact ⟨_, .inl ⟨_, .inl (er_rd hr), rfl⟩, by rw [ra.empty]; exact k _ H1 he q1⟩
  | tup hr ra => exact ⟨_, .inr (.inl ⟨_, SqT.of (er_some hr).2, rfl⟩), by rw [ra.empty]; exact k _ H1 he q1⟩
  | bl b => exact ⟨b, rfl, k _ H1 he q1⟩
  | _ => exact False.elim q1
end
end Fe
set_option Elab.async false
set_option linter.all false
set_option maxRecDepth 100000
set_option maxHeartbeats 4000000
/-! Layer 1, the rules: arguments, displays, calls, items, slices, methods, attributes. -/
namespace Fe
open PySem L2

/-! ### arguments, displays -/
def dLnil : DL := fun _ Q => Q []
def dLcons (de : DE) (dl : DL) : DL := fun en Q => de en fun x => dl en fun xs => Q (x :: xs)
def dA (dl : DL) : DA := fun en Q => dl en fun ds => Q (ds.map .dat)
/-- a spring, then values -/
def dAS (i : Nat) (dl : DL) : DA := fun en Q => en[i]? = some (some .spr) ∧ dl en fun ds => Q (.spr :: ds.map .dat)
def dTup (dl : DL) : DE := fun en Q => dl en fun ds => Q (.tup ds)
section
variable {X : Cx} {K : PySem.W.Frag} {e : Expr} {es : List Expr} {de : DE} {dl : DL} {n : Nat} {pos : Pos}
theorem pdl_nil : PA X [] (tDL X.K 0 dLnil) := PA.imp pa_nil fun σ H R h => by
  obtain ⟨S, en, Q, ok, e, q, k⟩ := h
  exact k [] H [] (HE.refl _ _) .nil rfl q
theorem tDL_cons {σ : L2.St} {H : Hp} {R : List V → Hp → Prop} (h : tDL K (n + 1) (dLcons de dl) σ H R) : tCons (tD K de) (tDL K n dl) σ H R := by
  obtain ⟨S, en, Q, ok, e, q, k⟩ := h
  refine ⟨S, en, _, ok, e, q, fun v H1 d he rp q1 => ⟨S, en, _, he.ok ok, e.he he, q1, fun vs H2 ds he2 rs hl q2 => ?_⟩⟩
  exact k (v :: vs) H2 (d :: ds) (he.trans he2) (.cons (Rp.kp he2.kp rp) rs) (by rw [List.length_cons, hl]) q2
theorem pdl_cons (ha : PE X e (tD X.K de)) (hr : PA X es (tDL X.K n dl)) (hs : starEach (e :: es) X.env = (false, eval e X.env) :: starEach es X.env := by rfl) : PA X (e :: es) (tDL X.K (n + 1) (dLcons de dl)) :=
  PA.imp (pa_cons ha hr hs) fun _ _ _ h => tDL_cons h
theorem ArgsOk.dat {S : Ow} {H : Hp} : ∀ {vs : List V} {ds : List D}, RpA K (er S H) vs ds → ArgsOk K S H vs (ds.map .dat)
  | _, _, .nil => .nil
  | _, _, .cons h r => .cons h (ArgsOk.dat r)
theorem tDA_of {σ : L2.St} {H : Hp} {R : List V → Hp → Prop} (h : tDA K n (dA dl) σ H R) : tDL K n dl σ H R := by
  obtain ⟨S, en, Q, ok, e, q, k⟩ := h
  exact ⟨S, en, _, ok, e, q, fun vs H1 ds he rs hl q1 => k vs H1 _ he (ArgsOk.dat rs) (by rw [List.length_map, hl]) q1⟩
theorem pda (h : PA X es (tDL X.K n dl)) : PA X es (tDA X.K n (dA dl)) := PA.imp h fun _ _ _ q => tDA_of q
theorem pda_spr (i : Nat) {x : Str} {p : Pos} (hr : PA X es (tDL X.K n dl)) (hN : X.N[i]? = some x := by rfl) (hv : Vis X.env.scope x := by first | exact Or.inl rfl | exact Or.inr (Or.inl rfl) | exact Or.inr (Or.inr rfl)) (hd : (x == ("__debug__" : Str)) = false := by decide)
    (hcd : (x == ("__classdict__" : Str)) = false := by decide) (hs : starEach (.Name x p :: es) X.env = (false, eval (.Name x p) X.env) :: starEach es X.env := by rfl) : PA X (.Name x p :: es) (tDA X.K (n + 1) (dAS i dl)) :=
  PA.imp (pa_cons (pe_var hN hv hd hcd) hr hs) fun σ H R h => by
    obtain ⟨S, en, Q, ok, e, ⟨q0, q⟩, k⟩ := h
    obtain ⟨v, a, c⟩ := e.at_ i _ q0
    refine ⟨v, a, S, en, _, ok, e, q, fun vs H2 ds he rs hl q2 => ?_⟩
    have c2 : ArgOk X.K S H2 v .spr := c
    exact k (v :: vs) H2 (.spr :: ds.map .dat) he (.cons c2 (ArgsOk.dat rs)) (by rw [List.length_cons, List.length_map, hl]) q2
theorem pd_tup {x1} (h : PA X es (tDL X.K n dl)) (hn : n ≤ sizeLine := by decide) : PE X (.Tuple es x1 pos) (tD X.K (dTup dl)) := PE.imp (pe_tup h) fun σ H R h => by
  obtain ⟨S, en, Q, ok, e, q, k⟩ := h
  refine ⟨S, en, _, ok, e, q, fun vs H1 ds he rs hl q1 => ⟨by rw [rs.length, hl]; exact hn, fun p hp => ?_⟩⟩
  have he2 : HE S H1 (upd H1 p (.tup vs)) := HE.new hp
  exact k (.ref p) _ (.tup ds) (he.trans he2) (.tup (er_of ((he.ok ok).none hp) upd_same) (RpA.kp he2.kp rs)) q1
/-- new contents seen by all -/
theorem kp_new {S : Ow} {H : Hp} {p : Addr} {o : HO} {t : Nat} (hp : H p = none) : Kp (er S H) (er (own1 S p t) (upd H p o)) := fun a u h => by
  obtain ⟨h1, h2⟩ := er_some h
  have ne := ne_of_none h2 hp
  exact er_of (by rw [own1_ne ne]; exact h1) (by rw [upd_ne ne]; exact h2)
theorem pf_lst (h : PA X es (tDL X.K n dl)) (hn : n ≤ sizeLine := by decide) : PE X (.List es pos) (tDF X.K dl) := PE.imp (pe_lst h) fun σ H R h => by
  obtain ⟨S, en, Q, ok, e, q, k⟩ := h
  refine ⟨S, en, _, ok, e, q, fun vs H1 ds he rs hl q1 => ⟨by rw [rs.length, hl]; exact hn, fun p hp => ?_⟩⟩
  exact k p _ vs ds (he.old ok hp) (he.trans (HE.new hp)) upd_same (fun t => RpA.kp (kp_new hp) rs) q1
end

/-! ### calls of one's own defs -/
abbrev DSp := List Cell → (D → Prop) → Prop
def SpD (K : PySem.W.Frag) (n : Nat) (dsp : DSp) : Sp := fun vs H R _ => ∃ S cs Q, (∀ a t, S a = some t → t < 2) ∧ Ok S H ∧ ArgsOk K S H vs cs ∧ cs.length = n ∧ dsp cs Q ∧ ∀ v H' d, HE S H H' → Rp K (er S H') v d → Q d → R v H'
def lowS (S : Ow) : Ow := fun a => match S a with
  | none => none
  | some 0 => some 0
  | some (_ + 1) => some 1
section
variable {S : Ow} {H H' : Hp} {K : PySem.W.Frag}
theorem lowS_none {a : Addr} : lowS S a = none ↔ S a = none := by
  unfold lowS
  split <;> simp_all
theorem lowS_zero {a : Addr} : lowS S a = some 0 ↔ S a = some 0 := by
  unfold lowS
  split <;> simp_all
theorem lowS_lt : ∀ a t, lowS S a = some t → t < 2 := fun a t h => by
  unfold lowS at h
  split at h
  · cases h
  · cases h
    decide
  · cases h
    decide
theorem lowS_er : er (lowS S) H = er S H := by
  funext a
  unfold er lowS
  cases S a with
  | none => rfl
  | some t => cases t <;> rfl
theorem lowS_ok (k : Ok S H) : Ok (lowS S) H := fun a t e => by
  have q : S a ≠ none := fun z => by
    rw [lowS_none.mpr z] at e
    cases e
  cases z : S a with
  | none => exact absurd z q
  | some u =>
    refine ⟨(k a u z).1, fun y => ?_⟩
    subst y
    have := lowS_zero.mp e
    exact (k a 0 this).2 rfl
theorem lowS_he (p : HE (lowS S) H H') : HE S H H' := ⟨fun a o n => p.keep a o fun z => n (lowS_zero.mp z), fun a n => p.spr a (lowS_zero.mpr n)⟩
theorem lowS_arg {v : V} {c : Cell} (h : ArgOk K S H v c) : ArgOk K (lowS S) H v c := by
  cases c with
  | dat d =>
    show Rp K (er (lowS S) H) v d
    rw [lowS_er]
    exact h
  | own ds => exact h
  | obj a fs => exact h
  | spr =>
    obtain ⟨a, e, t⟩ := h
    exact ⟨a, e, lowS_zero.mpr t⟩
theorem lowS_args : ∀ {vs : List V} {cs : List Cell}, ArgsOk K S H vs cs → ArgsOk K (lowS S) H vs cs
  | _, _, .nil => .nil
  | _, _, .cons h r => .cons (lowS_arg h) (lowS_args r)
end
/-- a def of the module that keeps a promise over data -/
def HasFn (P : Program) (w : World) (K : PySem.W.Frag) (mg : Str → Option Value) (base : Heap) (k : Nat) (x : Str) (n : Nat) (dsp : DSp) : Prop :=
  ∃ f fd ps, FnOk P w K mg base CX0 k f fd ps (SpD K n dsp) ∧ mg x = some (.ref f) ∧ PySem.W.keepIn K (.ref f) = true ∧ Binds K fd ps []
theorem HasFn.mono {P : Program} {w : World} {K : PySem.W.Frag} {mg : Str → Option Value} {base : Heap} {j k : Nat} {x : Str} {n : Nat} {dsp : DSp} (h : HasFn P w K mg base j x n dsp) (l : j ≤ k) : HasFn P w K mg base k x n dsp :=
  let ⟨f, fd, ps, F, a, b, c⟩ := h
  ⟨f, fd, ps, F.mono l, a, b, c⟩
def dCall (dsp : DSp) (da : DA) : DE := fun en Q => da en fun cs => dsp cs Q
section
variable {X : Cx} {K : PySem.W.Frag} {n k : Nat} {dsp : DSp} {da : DA} {x : Str} {p pos : Pos} {e : Expr} {es : List Expr}
theorem tD_call {σ : L2.St} {H : Hp} {R : VK} (h : tD K (dCall dsp da) σ H R) : tCall (SpD K n dsp) [] E0 (tDA K n da) σ H R := by
  obtain ⟨S, en, Q, ok, e, q, k⟩ := h
  refine ⟨S, en, _, ok, e, q, fun vs H1 cs he rs hl q1 => ?_⟩
  show SpD K n dsp (vs ++ []) H1 R E0
  rw [List.append_nil]
  refine ⟨lowS S, cs, Q, lowS_lt, lowS_ok (he.ok ok), lowS_args rs, hl, q1, fun v H2 d he2 rp q2 => k v H2 d (he.trans (lowS_he he2)) ?_ q2⟩
  rw [lowS_er] at rp
  exact rp
theorem pd_call (F : HasFn X.prog X.w X.K X.mg X.base k x n dsp) (hr : Room k X.A) (ha : PA X (e :: es) (tDA X.K n da)) (hg : Gl X x) (hdb : (x == ("__debug__" : Str)) = false := by decide)
    (he : starEach (e :: es) X.env = (false, eval e X.env) :: starEach es X.env := by rfl) (hpl : (backTo pos (starEach es X.env)).any (·.1) = false := by rfl) :
    PE X (.Call (.Name x p) (e :: es) [] pos) (tD X.K (dCall dsp da)) := by
  obtain ⟨f, fd, ps, F1, hm, hk, hb⟩ := F
  exact PE.imp (pe_call F1 hr hg hm hk hb .nil pass0 ha hdb he hpl) fun _ _ _ h => tD_call h
theorem pd_call0 (F : HasFn X.prog X.w X.K X.mg X.base k x 0 dsp) (hr : Room k X.A) (hg : Gl X x) (hdb : (x == ("__debug__" : Str)) = false := by decide) : PE X (.Call (.Name x p) [] [] pos) (tD X.K (dCall dsp (dA dLnil))) := by
  obtain ⟨f, fd, ps, F1, hm, hk, hb⟩ := F
  refine PE.imp (pe_call0 F1 hr hg hm hk hb .nil pass0 hdb) fun σ H R h => ?_
  obtain ⟨S, en, Q, ok, e, q, k⟩ := h
  refine ⟨lowS S, [], Q, lowS_lt, lowS_ok ok, .nil, rfl, q, fun v H2 d he2 rp q2 => k v H2 d (lowS_he he2) ?_ q2⟩
  rw [lowS_er] at rp
  exact rp
end

/-! ### calls of built-ins -/
def C1D (K : PySem.W.Frag) (r : List V → Hp → VK → Prop) (f : F1) : Prop := ∀ (S : Ow) (H : Hp) (x : V) (a : D) (Q : D → Prop) (R : VK), Ok S H → Rp K (er S H) x a → f a Q →
  (∀ v H' d, HE S H H' → Rp K (er S H') v d → Q d → R v H') → r [x] H R
def C2D (K : PySem.W.Frag) (r : List V → Hp → VK → Prop) (f : F2) : Prop := ∀ (S : Ow) (H : Hp) (x y : V) (a b : D) (Q : D → Prop) (R : VK), Ok S H → Rp K (er S H) x a → Rp K (er S H) y b → f a b Q →
  (∀ v H' d, HE S H H' → Rp K (er S H') v d → Q d → R v H') → r [x, y] H R
section
variable {X : Cx} {K : PySem.W.Frag} {x : Str} {p pos : Pos} {a b : Expr} {da db : DE} {id T : String} {r : List V → Hp → VK → Prop} {f : F1} {g : F2}
theorem tD_cb1 (hr : C1D K r f) {σ : L2.St} {H : Hp} {R : VK} (h : tD K (dUn f da) σ H R) : tCB r (tCons (tD K da) tNil) σ H R := by
  obtain ⟨S, en, Q, ok, e, q, k⟩ := h
  refine ⟨S, en, _, ok, e, q, fun v H1 d he rp q1 => ?_⟩
  exact hr S H1 v d Q R (he.ok ok) rp q1 fun w H2 d2 he2 => k w H2 d2 (he.trans he2)
theorem tD_cb2 (hr : C2D K r g) {σ : L2.St} {H : Hp} {R : VK} (h : tD K (dBin g da db) σ H R) : tCB r (tCons (tD K da) (tCons (tD K db) tNil)) σ H R := by
  obtain ⟨S, en, Q, ok, e, q, k⟩ := h
  refine ⟨S, en, _, ok, e, q, fun v H1 d he rp q1 => ⟨S, en, _, he.ok ok, e.he he, q1, fun w H2 d2 he2 rp2 q2 => ?_⟩⟩
  exact hr S H2 v w d d2 Q R (he2.ok (he.ok ok)) (Rp.kp he2.kp rp) rp2 q2 fun u H3 d3 he3 => k u H3 d3 ((he.trans he2).trans he3)
theorem pd_b1 (hm : X.mg x = none) (hc : CallR X (.builtin id) r) (hr : C1D X.K r f) (hv : bootBuiltins x = some (.builtin id)) (ha : PE X a (tD X.K da)) (hg : Gl X x) (hn : x ≠ "__name__" := by decide) (hdb : (x == ("__debug__" : Str)) = false := by decide)
    (he : starEach [a] X.env = (false, eval a X.env) :: starEach [] X.env := by rfl) : PE X (.Call (.Name x p) [a] [] pos) (tD X.K (dUn f da)) :=
  PE.imp (pe_callB hc hg hm hv (pa_cons ha pa_nil he) hn hdb he rfl) fun _ _ _ h => tD_cb1 hr h
theorem pd_t1 (hm : X.mg x = none) (hc : CallR X (.type T) r) (hr : C1D X.K r f) (hv : bootBuiltins x = some (.type T)) (ha : PE X a (tD X.K da)) (hg : Gl X x) (hn : x ≠ "__name__" := by decide) (hdb : (x == ("__debug__" : Str)) = false := by decide)
    (he : starEach [a] X.env = (false, eval a X.env) :: starEach [] X.env := by rfl) : PE X (.Call (.Name x p) [a] [] pos) (tD X.K (dUn f da)) :=
  PE.imp (pe_callTy hc hg hm hv (pa_cons ha pa_nil he) hn hdb he rfl) fun _ _ _ h => tD_cb1 hr h
theorem pd_b2 (hm : X.mg x = none) (hc : CallR X (.builtin id) r) (hr : C2D X.K r g) (hv : bootBuiltins x = some (.builtin id)) (ha : PE X a (tD X.K da)) (hb : PE X b (tD X.K db)) (hg : Gl X x) (hn : x ≠ "__name__" := by decide) (hdb : (x == ("__debug__" : Str)) = false := by decide)
    (he : starEach [a, b] X.env = (false, eval a X.env) :: starEach [b] X.env := by rfl) (he2 : starEach [b] X.env = (false, eval b X.env) :: starEach [] X.env := by rfl) (hpl : (backTo pos (starEach [b] X.env)).any (·.1) = false := by rfl) : PE X (.Call (.Name x p) [a, b] [] pos) (tD X.K (dBin g da db)) :=
  PE.imp (pe_callB hc hg hm hv (pa_cons ha (pa_cons hb pa_nil he2) he) hn hdb he hpl) fun _ _ _ h => tD_cb2 hr h
end

/-- len -/
def fLen : F1 := fun d Q => match d with
  | .lst xs => Q (.int xs.length)
  | .tup xs => Q (.int xs.length)
  | .str x => x.length ≤ sizeLine ∧ Q (.int x.length)
  | _ => False
def isTy (T : String) : D → Option Bool
  | .non => some false
  | .bl _ => some (T == "bool" || T == "int")
  | .int _ => some (T == "int")
  | .str _ => some (T == "str")
  | .tup _ => some (T == "tuple")
  | .lst _ => some false
  | .sys .. => none
def fIsi (T : String) : F1 := fun d Q => match isTy T d with
  | some b => Q (.bl b)
  | none => False
def asBls : List D → Option (List Bool)
  | [] => some []
  | .bl b :: r => (asBls r).map (b :: ·)
  | _ :: _ => none
def asInts : List D → Option (List Int)
  | [] => some []
  | .int b :: r => (asInts r).map (b :: ·)
  | _ :: _ => none
theorem asBls_map : ∀ bs : List Bool, asBls (bs.map D.bl) = some bs
  | [] => rfl
  | b :: bs => by
    show (asBls (bs.map D.bl)).map (b :: ·) = _
    rw [asBls_map bs]
    rfl
theorem asInts_map : ∀ bs : List Int, asInts (bs.map D.int) = some bs
  | [] => rfl
  | b :: bs => by
    show (asInts (bs.map D.int)).map (b :: ·) = _
    rw [asInts_map bs]
    rfl
theorem asBls_eq : ∀ {ds : List D} {bs : List Bool}, asBls ds = some bs → ds = bs.map D.bl
  | [], bs, h => by
    cases h
    rfl
  | d :: r, bs, h => by
    cases d with
    | bl b =>
      have h' : (asBls r).map (b :: ·) = some bs := h
      cases e : asBls r with
      | none =>
        rw [e] at h'
        cases h'
      | some cs =>
        rw [e] at h'
        cases h'
        rw [asBls_eq e]
        rfl
    | _ => cases h
theorem asInts_eq : ∀ {ds : List D} {bs : List Int}, asInts ds = some bs → ds = bs.map D.int
  | [], bs, h => by
    cases h
    rfl
  | d :: r, bs, h => by
    cases d with
    | int b =>
      have h' : (asInts r).map (b :: ·) = some bs := h
      cases e : asInts r with
      | none =>
        rw [e] at h'
        cases h'
      | some cs =>
        rw [e] at h'
        cases h'
        rw [asInts_eq e]
        rfl
    | _ => cases h
def fAll : F1 := fun d Q => match d with
  | .lst xs => (match asBls xs with
    | some bs => Q (.bl (bs.all id))
    | none => False)
  | _ => False
def fAny : F1 := fun d Q => match d with
  | .lst xs => (match asBls xs with
    | some bs => Q (.bl (bs.any id))
    | none => False)
  | _ => False
def fSum : F1 := fun d Q => match d with
  | .lst xs => (match asInts xs with
    | some ns => Q (.int ns.sum)
    | none => False)
  | _ => False
def fTuple : F1 := fun d Q => match d with
  | .lst xs => Q (.tup xs)
  | .tup xs => Q (.tup xs)
  | _ => False
def fStrI : F1 := fun d Q => match d with
  | .int i => i.natAbs.log2 < 1920 ∧ Q (.str (toString i))
  | _ => False
def fIntI : F1 := fun d Q => match d with
  | .int i => Q (.int i)
  | .bl b => Q (.int (if b = true then 1 else 0))
  | .str x => ∃ n, PySem.intText? x = some n ∧ x.length ≤ 640 ∧ Q (.int n)
  | _ => False
def fAbs : F1 := fun d Q => match d with
  | .int i => Q (.int (if i < 0 then -i else i))
  | _ => False
def fMax : F2 := fun a b Q => match a, b with
  | .int i, .int j => Q (.int (if j > i then j else i))
  | _, _ => False
def fMin : F2 := fun a b Q => match a, b with
  | .int i, .int j => Q (.int (if j < i then j else i))
  | _, _ => False
section
variable {X : Cx} {K : PySem.W.Frag}
def rLenD (K : PySem.W.Frag) : List V → Hp → VK → Prop := fun xs H Q => (∃ p ys, xs = [.ref p] ∧ (SqL K H p ys ∨ SqT K H p ys) ∧ Q (.int ys.length) H) ∨ ∃ z, xs = [.str z] ∧ z.length ≤ sizeLine ∧ Q (.int z.length) H
theorem call_lenD : CallR X (.builtin "len") (rLenD X.K) := call_len_seq.or call_len_str
theorem c1_len : C1D K (rLenD K) fLen := by
  intro S H x a Q R ok ra q k
  unfold fLen at q
  cases ra with
  | lst hr rs => exact .inl ⟨_, _, rfl, .inl (.inl (er_rd hr)), k _ H _ (HE.refl _ _) (by rw [rs.length]; exact .int _) q⟩
  | tup hr rs => exact .inl ⟨_, _, rfl, .inr (SqT.of (er_some hr).2), k _ H _ (HE.refl _ _) (by rw [rs.length]; exact .int _) q⟩
  | str z => exact .inr ⟨_, rfl, q.1, k _ H _ (HE.refl _ _) (.int _) q.2⟩
  | _ => exact False.elim q
theorem c1_all : C1D K (rAll K) fAll := by
  intro S H x a Q R ok ra q k
  unfold fAll at q
  split at q
  · split at q
    · rename_i xs bs hb
      rw [asBls_eq hb] at ra
      cases ra with
      | lst hr rs =>
        rw [rs.bls] at hr
        exact ⟨_, bs, rfl, .inl (er_rd hr), k _ H _ (HE.refl _ _) (.bl _) q⟩
    · exact q.elim
  · exact q.elim
theorem c1_any : C1D K (rAny K) fAny := by
  intro S H x a Q R ok ra q k
  unfold fAny at q
  split at q
  · split at q
    · rename_i xs bs hb
      rw [asBls_eq hb] at ra
      cases ra with
      | lst hr rs =>
        rw [rs.bls] at hr
        exact ⟨_, bs, rfl, .inl (er_rd hr), k _ H _ (HE.refl _ _) (.bl _) q⟩
    · exact q.elim
  · exact q.elim
theorem c1_sum : C1D K (rSum K) fSum := by
  intro S H x a Q R ok ra q k
  unfold fSum at q
  split at q
  · split at q
    · rename_i xs bs hb
      rw [asInts_eq hb] at ra
      cases ra with
      | lst hr rs =>
        rw [rs.ints] at hr
        exact ⟨_, bs, rfl, .inl (er_rd hr), k _ H _ (HE.refl _ _) (.int _) q⟩
    · exact q.elim
  · exact q.elim
abbrev rTupD (K : PySem.W.Frag) : List V → Hp → VK → Prop := fun xs H Q => ∃ p ys, xs = [.ref p] ∧ ((SqL K H p ys ∧ ∀ l, H l = none → Q (.ref l) (upd H l (.tup ys))) ∨ (SqT K H p ys ∧ Q (.ref p) H))
theorem c1_tuple : C1D K (rTupD K) fTuple := by
  intro S H x a Q R ok ra q k
  unfold fTuple at q
  split at q
  · cases ra with
    | @lst p vs _ hr rs =>
      refine ⟨_, _, rfl, .inl ⟨.inl (er_rd hr), fun l hl => ?_⟩⟩
      have he : HE S H (upd H l (.tup vs)) := HE.new hl
      exact k _ _ _ he (.tup (er_of (ok.none hl) upd_same) (RpA.kp he.kp rs)) q
  · have ra' := ra
    cases ra with
    | tup hr rs => exact ⟨_, _, rfl, .inr ⟨SqT.of (er_some hr).2, k _ H _ (HE.refl _ _) ra' q⟩⟩
  · exact q.elim
abbrev rStrD : List V → Hp → VK → Prop := fun xs H Q => ∃ i, xs = [.int i] ∧ i.natAbs.log2 < 1920 ∧ Q (.str (toString i)) H
theorem c1_str : C1D K rStrD fStrI := by
  intro S H x a Q R ok ra q k
  unfold fStrI at q
  split at q
  · cases ra
    exact ⟨_, rfl, q.1, k _ H _ (HE.refl _ _) (.str _) q.2⟩
  · exact q.elim
abbrev rIntD : List V → Hp → VK → Prop := fun xs H Q => ((∃ i, xs = [.int i] ∧ Q (.int i) H) ∨ ∃ k, xs = [.bl k] ∧ Q (.int (if k then 1 else 0)) H) ∨ ∃ a n, xs = [.str a] ∧ PySem.intText? a = some n ∧ a.length ≤ 640 ∧ Q (.int n) H
theorem call_intD : CallR X (.type "int") rIntD := call_int1.or call_int_str
theorem c1_int : C1D K rIntD fIntI := by
  intro S H x a Q R ok ra q k
  unfold fIntI at q
  split at q
  · cases ra
    exact .inl (.inl ⟨_, rfl, k _ H _ (HE.refl _ _) (.int _) q⟩)
  · cases ra
    exact .inl (.inr ⟨_, rfl, k _ H _ (HE.refl _ _) (.int _) q⟩)
  · cases ra
    obtain ⟨n, h1, h2, q⟩ := q
    exact .inr ⟨_, n, rfl, h1, h2, k _ H _ (HE.refl _ _) (.int _) q⟩
  · exact q.elim
abbrev rAbsD : List V → Hp → VK → Prop := fun xs H Q => ∃ i, xs = [.int i] ∧ Q (.int (if i < 0 then -i else i)) H
theorem c1_abs : C1D K rAbsD fAbs := by
  intro S H x a Q R ok ra q k
  unfold fAbs at q
  split at q
  · cases ra
    exact ⟨_, rfl, k _ H _ (HE.refl _ _) (.int _) q⟩
  · exact q.elim
abbrev rMaxD : List V → Hp → VK → Prop := fun xs H Q => ∃ i j, xs = [.int i, .int j] ∧ Q (.int (if j > i then j else i)) H
abbrev rMinD : List V → Hp → VK → Prop := fun xs H Q => ∃ i j, xs = [.int i, .int j] ∧ Q (.int (if j < i then j else i)) H
theorem c2_max : C2D K rMaxD fMax := by
  intro S H x y a b Q R ok ra rb q k
  unfold fMax at q
  split at q
  · cases ra
    cases rb
    exact ⟨_, _, rfl, k _ H _ (HE.refl _ _) (.int _) q⟩
  · exact q.elim
theorem c2_min : C2D K rMinD fMin := by
  intro S H x y a b Q R ok ra rb q k
  unfold fMin at q
  split at q
  · cases ra
    cases rb
    exact ⟨_, _, rfl, k _ H _ (HE.refl _ _) (.int _) q⟩
  · exact q.elim
/-- list(..): nobody else holds it -/
def dListOf (da : DE) : DL := fun en Q => da en fun d => match d with
  | .lst xs => Q xs
  | .tup xs => Q xs
  | _ => False
theorem pf_listOf {x : Str} {p pos : Pos} {a : Expr} {da : DE} (hm : X.mg x = none) (ha : PE X a (tD X.K da)) (hg : Gl X x) (hv : bootBuiltins x = some (.type "list")) (hn : x ≠ "__name__" := by decide) (hdb : (x == ("__debug__" : Str)) = false := by decide)
    (he : starEach [a] X.env = (false, eval a X.env) :: starEach [] X.env := by rfl) : PE X (.Call (.Name x p) [a] [] pos) (tDF X.K (dListOf da)) := PE.imp (pe_callTy call_list_of hg hm hv (pa_cons ha pa_nil he) hn hdb he rfl) fun σ H R h => by
  obtain ⟨S, en, Q, ok, e, q, k⟩ := h
  refine ⟨S, en, _, ok, e, q, fun v H1 d he rp q1 => ?_⟩
  cases rp with
  | lst hr rs => exact ⟨_, _, rfl, .inl (.inl (er_rd hr)), fun l hl => k l _ _ _ (he.old ok hl) (he.trans (HE.new hl)) upd_same (fun t => RpA.kp (kp_new hl) rs) q1⟩
  | tup hr rs => exact ⟨_, _, rfl, .inr (SqT.of (er_some hr).2), fun l hl => k l _ _ _ (he.old ok hl) (he.trans (HE.new hl)) upd_same (fun t => RpA.kp (kp_new hl) rs) q1⟩
  | _ => exact False.elim q1
/-- isinstance(x, T) -/
theorem isTy_ok {S : Ow} {H : Hp} {v : V} {d : D} {T : String} {b : Bool} (hT : T = "int" ∨ T = "bool" ∨ T = "str" ∨ T = "tuple") (r : Rp K (er S H) v d) (h : isTy T d = some b) : ∃ t, TyX K H v t ∧ PySem.W.kitOne K t (.type T) = some b := by
  cases r with
  | non =>
    refine ⟨_, .base .non, kit_ty ?_⟩
    cases h
    rcases hT with e | e | e | e <;> subst e <;> decide +kernel
  | bl z =>
    refine ⟨_, .base (.bl z), kit_ty ?_⟩
    cases h
    rcases hT with e | e | e | e <;> subst e <;> decide +kernel
  | int z =>
    refine ⟨_, .base (.int z), kit_ty ?_⟩
    cases h
    rcases hT with e | e | e | e <;> subst e <;> decide +kernel
  | str z =>
    refine ⟨_, .base (.str z), kit_ty ?_⟩
    cases h
    rcases hT with e | e | e | e <;> subst e <;> decide +kernel
  | tup hr rs =>
    refine ⟨_, .base (.tup (er_some hr).2), kit_ty ?_⟩
    cases h
    rcases hT with e | e | e | e <;> subst e <;> decide +kernel
  | lst hr rs =>
    rcases er_rd hr with hr | ⟨o, hr⟩
    · refine ⟨_, .base (.lst hr), kit_ty ?_⟩
      cases h
      rcases hT with e | e | e | e <;> subst e <;> decide +kernel
    · refine ⟨_, .base (.frz hr), kit_ty ?_⟩
      cases h
      rcases hT with e | e | e | e <;> subst e <;> decide +kernel
  | sys => cases h
theorem pd_isi {T : Str} {n : String} {p p2 pos : Pos} {a : Expr} {da : DE} (hi : X.mg "isinstance" = none) (hm : X.mg T = none) (hv : bootBuiltins T = some (.type n)) (hT : n = "int" ∨ n = "bool" ∨ n = "str" ∨ n = "tuple") (ha : PE X a (tD X.K da)) (hg : Gl X "isinstance") (hg2 : Gl X T)
    (hnm : T ≠ "__name__" := by decide) (hdb : (T == ("__debug__" : Str)) = false := by decide)
    (he : starEach [a, .Name T p2] X.env = (false, eval a X.env) :: starEach [.Name T p2] X.env := by rfl) (he2 : starEach [.Name T p2] X.env = (false, eval (.Name T p2) X.env) :: starEach [] X.env := by rfl) (hpl : (backTo pos (starEach [.Name T p2] X.env)).any (·.1) = false := by rfl) :
    PE X (.Call (.Name "isinstance" p) [a, .Name T p2] [] pos) (tD X.K (dUn (fIsi n) da)) :=
  PE.imp (pe_callB call_isi hg hi (by decide +kernel) (pa_cons ha (pa_cons (pe_bltn (v := .ty n) hg2 hm hv rfl hnm hdb) pa_nil he2) he) (by decide) (by decide) he hpl) fun σ H R h => by
    obtain ⟨S, en, Q, ok, e, q, k⟩ := h
    refine ⟨S, en, _, ok, e, q, fun v H1 d he rp q1 => ?_⟩
    unfold fIsi at q1
    split at q1
    · rename_i b hb
      obtain ⟨t, ty, kk⟩ := isTy_ok hT rp hb
      exact ⟨v, .ty n, t, _, b, rfl, .ty n, ty, kk, k _ H1 _ he (.bl b) q1⟩
    · exact q1.elim
end

/-! ### items, slices -/
def fIx : F2 := fun a b Q => match a, b with
  | .lst xs, .int i => (match atI xs i with
    | some d => Q d
    | none => False)
  | .tup xs, .int i => (match atI xs i with
    | some d => Q d
    | none => False)
  | .str x, .int i => x.length ≤ sizeLine ∧ (match atI x.cps.toList i with
    | some c => Q (.str ⟨#[c]⟩)
    | none => False)
  | _, _ => False
def cutL {α : Type} (xs : List α) (lo hi : Option Int) : List α := (xs.drop (HT.sIx xs.length 0 lo)).take (HT.sIx xs.length xs.length hi - HT.sIx xs.length 0 lo)
def fSl (lo hi : Option Int) : F1 := fun a Q => match a with
  | .lst xs => Q (.lst (cutL xs lo hi))
  | .tup xs => Q (.tup (cutL xs lo hi))
  | .str x => x.length ≤ sizeLine ∧ Q (.str (cutS x lo hi))
  | _ => False
abbrev DO := En → (Option Int → Prop) → Prop
def dNo : DO := fun _ Q => Q none
def dPart (da : DE) : DO := fun en Q => da en fun d => match d with
  | .int i => Q (some i)
  | _ => False
def dSl (da : DE) (dlo dhi : DO) : DE := fun en Q => da en fun x => dlo en fun l => dhi en fun h => fSl l h x Q
section
variable {X : Cx} {K : PySem.W.Frag} {a b : Expr} {da db : DE} {pos : Pos}
theorem RpA.atI {H : Hp} {vs : List V} {ds : List D} {i : Int} {d : D} (r : RpA K H vs ds) (h : L2.atI ds i = some d) : ∃ v, L2.atI vs i = some v ∧ Rp K H v d := by
  unfold L2.atI at h ⊢
  rw [r.length]
  cases e : ixN ds.length i with
  | none =>
    rw [e] at h
    cases h
  | some j =>
    rw [e] at h
    exact r.get h
theorem RpA.cut {H : Hp} {vs : List V} {ds : List D} (r : RpA K H vs ds) (lo hi : Option Int) : RpA K H (cutV vs lo hi) (cutL ds lo hi) := by
  unfold cutV cutL
  rw [r.length]
  exact (r.drop _).take _
theorem cutL_all {α : Type} {xs : List α} {lo hi : Option Int} (h : HT.sIx xs.length 0 lo = 0 ∧ HT.sIx xs.length xs.length hi = xs.length) : cutL xs lo hi = xs := by
  unfold cutL
  rw [h.1, h.2, List.drop_zero, Nat.sub_zero, List.take_length]
theorem r2_ix : R2D K (rIx K) fIx := by
  intro S H x y a b Q R ok ra rb q k
  unfold fIx at q
  split at q
  · split at q
    · rename_i xs i d hd
      cases rb
      cases ra with
      | lst hr rs =>
        obtain ⟨v, h1, h2⟩ := rs.atI hd
        exact .inl ⟨_, _, _, v, rfl, rfl, .inl (er_rd hr), h1, k v H d (HE.refl _ _) h2 q⟩
    · exact q.elim
  · split at q
    · rename_i xs i d hd
      cases rb
      cases ra with
      | tup hr rs =>
        obtain ⟨v, h1, h2⟩ := rs.atI hd
        exact .inr (.inl ⟨_, _, _, v, rfl, rfl, SqT.of (er_some hr).2, h1, k v H d (HE.refl _ _) h2 q⟩)
    · exact q.elim
  · obtain ⟨hz, q⟩ := q
    split at q
    · rename_i z i c hc
      cases rb
      cases ra
      exact .inr (.inr ⟨_, _, c, rfl, rfl, hz, hc, k _ H _ (HE.refl _ _) (.str _) q⟩)
    · exact q.elim
  · exact q.elim
theorem pd_ix (ha : PE X a (tD X.K da)) (hb : PE X b (tD X.K db)) (hs : PlainIx b := by intro _ _; rfl) : PE X (.Subscript a b pos) (tD X.K (dBin fIx da db)) := PE.imp (pe_ix ix_seq ha hb hs) fun _ _ _ h => tD_bin r2_ix h
def tDO (K : PySem.W.Frag) (dn : DO) : TO := fun σ H R => ∃ S en Q, Ok S H ∧ EnvOk K S H σ en ∧ dn en Q ∧ ∀ o H', HE S H H' → Q o → R o H'
theorem PO.imp {e : Option Expr} {t t' : TO} (h : PO X e t) (k : ∀ σ H R, t' σ H R → t σ H R) : PO X e t' := by
  refine ⟨?_⟩
  intros
  apply h.run
  · assumption
  · apply k
    assumption
theorem pod_no : PO X none (tDO X.K dNo) := PO.imp po_none fun σ H R h => by
  obtain ⟨S, en, Q, ok, e, q, k⟩ := h
  exact k none H (HE.refl _ _) q
theorem pod_some (ha : PE X a (tD X.K da)) : PO X (some a) (tDO X.K (dPart da)) := PO.imp (po_some ha) fun σ H R h => by
  obtain ⟨S, en, Q, ok, e, q, k⟩ := h
  refine ⟨S, en, _, ok, e, q, fun v H1 d he rp q1 => ?_⟩
  cases rp with
  | int i => exact ⟨i, rfl, k (some i) H1 he q1⟩
  | _ => exact False.elim q1
def rSl3 (K : PySem.W.Frag) : V → Option Int → Option Int → Hp → VK → Prop := fun x lo hi H Q => rSlL K x lo hi H Q ∨ rSlA K x lo hi H Q ∨ rSlS x lo hi H Q
theorem sl_all3 : SlR X (rSl3 X.K) := SlR.or sl_list (SlR.or sl_tupA sl_str)
theorem pd_sl {lo hi : Option Expr} {dlo dhi : DO} {p2 : Pos} (ha : PE X a (tD X.K da)) (hl : PO X lo (tDO X.K dlo)) (hh : PO X hi (tDO X.K dhi)) : PE X (.Subscript a (.Slice lo hi none p2) pos) (tD X.K (dSl da dlo dhi)) := PE.imp (pe_slice sl_all3 ha hl hh) fun σ H R h => by
  obtain ⟨S, en, Q, ok, e, q, k⟩ := h
  refine ⟨S, en, _, ok, e, q, fun v H1 d he rp q1 => ⟨S, en, _, he.ok ok, e.he he, q1, fun l H2 he2 q2 => ⟨S, en, _, he2.ok (he.ok ok), (e.he he).he he2, q2, fun u H3 he3 q3 => ?_⟩⟩⟩
  have rp3 := Rp.kp he3.kp (Rp.kp he2.kp rp)
  have ok3 := he3.ok (he2.ok (he.ok ok))
  have hx := (he.trans he2).trans he3
  unfold fSl at q3
  split at q3
  · cases rp3 with
    | lst hr rs => exact .inl ⟨_, _, rfl, .inl (er_rd hr), fun p hp => k _ _ _ (hx.trans (HE.new hp)) (.lst (.inl (er_of (ok3.none hp) upd_same)) (RpA.kp (HE.kp (HE.new hp)) (rs.cut l u))) q3⟩
  · have rp4 := rp3
    cases rp3 with
    | tup hr rs =>
      refine .inr (.inl ⟨_, _, rfl, SqT.of (er_some hr).2, fun hw => k _ H3 _ hx ?_ q3, fun _ p hp => k _ _ _ (hx.trans (HE.new hp)) (.tup (er_of (ok3.none hp) upd_same) (RpA.kp (HE.kp (HE.new hp)) (rs.cut l u))) q3⟩)
      rw [rs.length] at hw
      rw [cutL_all hw]
      exact rp4
  · cases rp3
    exact .inr (.inr ⟨_, rfl, q3.1, k _ H3 _ hx (.str _) q3.2⟩)
  · exact q3.elim
end
end Fe
set_option Elab.async false
set_option linter.all false
set_option maxRecDepth 100000
set_option maxHeartbeats 4000000
/-! Layer 1, the rules: statements, loops, comprehensions. -/
namespace Fe
open PySem L2

/-! ### writing to what one owns -/
section
variable {K : PySem.W.Frag} {S S0 : Ow} {H H0 H1 : Hp} {a : Addr} {o : HO} {t : Nat} {σ : L2.St} {en : En}
theorem er_upd (h : S a = some t) : er S (upd H a o) = er S H := by
  funext b
  unfold er
  by_cases e : b = a
  · subst e
    rw [h]
  · rw [upd_ne e]
theorem er_own_t {p : Addr} {t u : Nat} : er (own1 S p t) H = er (own1 S p u) H := by
  funext b
  unfold er
  by_cases e : b = p
  · subst e
    rw [own1_self, own1_self]
  · rw [own1_ne e, own1_ne e]
theorem Ok.wr (k : Ok S H) (h : S a = some t) (ht : t ≠ 0) : Ok S (upd H a o) := fun b u e => by
  obtain ⟨⟨q, z⟩, s⟩ := k b u e
  by_cases y : b = a
  · subst y
    rw [h] at e
    cases e
    exact ⟨⟨o, upd_same⟩, fun w => absurd w ht⟩
  · refine ⟨⟨q, by rw [upd_ne y]; exact z⟩, fun w => ?_⟩
    obtain ⟨i, j, l, e1, e2⟩ := s w
    exact ⟨i, j, l, by rw [upd_ne y]; exact e1, e2⟩
theorem In0.wr (i : In0 S0 H0 S H) (h : S a = some t) (ht : 2 ≤ t) : In0 S0 H0 S (upd H a o) := by
  have ne0 : ∀ b, S0 b ≠ none → b ≠ a := fun b e z => by
    subst z
    cases q : S0 b with
    | none => exact e q
    | some u =>
      have := i.low b u q
      rw [i.ext b e, q] at h
      cases h
      omega
  have ne1 : ∀ b u, H0 b = some u → b ≠ a := fun b u e z => by
    by_cases q : S0 b = none
    · rw [i.frs b q (by rw [z, h]; exact fun w => nomatch w)] at e
      cases e
    · exact ne0 b q z
  refine ⟨i.low, i.ok.wr h (by omega), ⟨fun b u n z => ?_, fun b n z => ?_⟩, i.ext, i.frs, i.ok0⟩
  · rw [upd_ne (ne1 b u z)]
    exact i.he.keep b u n z
  · obtain ⟨x, y, w, e1, e2⟩ := i.he.spr b n z
    exact ⟨x, y, w, by rw [upd_ne (ne0 b (by rw [n]; exact fun w => nomatch w))]; exact e1, e2⟩
theorem EnvOk.wr {i : Nat} {vs : List V} {ds : List D} (e : EnvOk K S H σ en) (h : S a = some (i + 2)) (hv : σ[i]? = some (some (.ref a))) (r : RpA K (er S H) vs ds) : EnvOk K S (upd H a (.lst vs)) σ (en.set i (some (.own ds))) := by
  have ee : er S (upd H a (.lst vs)) = er S H := er_upd h
  refine ⟨by rw [List.length_set]; exact e.len, fun j c q => ?_⟩
  by_cases z : i = j
  · subst z
    have l : i < en.length := by
      have := (List.getElem?_eq_some_iff.mp hv).1
      rw [e.len] at this
      exact this
    rw [List.getElem?_set_self l] at q
    cases q
    exact ⟨.ref a, hv, a, vs, rfl, h, upd_same, by rw [ee]; exact r⟩
  · rw [List.getElem?_set_ne z] at q
    obtain ⟨v, q1, q2⟩ := e.at_ j c q
    refine ⟨v, q1, ?_⟩
    cases c with
    | dat d =>
      show Rp K (er S (upd H a (.lst vs))) v d
      rw [ee]
      exact q2
    | own es =>
      obtain ⟨b, ws, e1, e2, e3, e4⟩ := q2
      refine ⟨b, ws, e1, e2, ?_, by rw [ee]; exact e4⟩
      rw [upd_ne]
      · exact e3
      · intro y
        rw [y, h] at e2
        have e5 := Option.some.inj e2
        omega
    | spr => exact q2
    | obj b fs =>
      obtain ⟨e1, e2, dx, ws, e3, e4⟩ := q2
      refine ⟨e1, e2, dx, ws, ?_, by rw [ee]; exact e4⟩
      rw [upd_ne]
      · exact e3
      · intro y
        rw [y, h] at e2
        have e5 := Option.some.inj e2
        omega
end

/-! ### blocks, simple statements -/
def dNx : DS := fun D en => D.nx en
def dSeq (a b : DS) : DS := fun D en => a { D with nx := fun e => b D e } en
def dRet (de : DE) : DS := fun D en => de en D.rt
def dExpr (de : DE) : DS := fun D en => de en fun _ => D.nx en
def dIfS (dt : DT) (a b : DS) : DS := fun D en => dt en fun z => if z = true then a D en else b D en
def dAsg (i : Nat) (de : DE) : DS := fun D en => de en fun d => D.nx (en.set i (some (.dat d)))
/-- a list of one's own -/
def dAsgO (i : Nat) (dl : DL) : DS := fun D en => dl en fun ds => D.nx (en.set i (some (.own ds)))
section
variable {X : Cx} {K : PySem.W.Frag} {st : Stmt} {rest : List Stmt} {a b : DS} {e : Expr} {de : DE} {dl : DL} {dt : DT} {pos : Pos}
theorem tDS_seq {D : Ends} {σ : L2.St} {H : Hp} (h : tDS K (dSeq a b) D σ H) : tSeq (tDS K a) (tDS K b) D σ H := by
  obtain ⟨S0, H0, S, en, Dd, i0, e, q, k1, k2, k3, k4⟩ := h
  refine ⟨S0, H0, S, en, _, i0, e, q, fun S1 σ1 H1 en1 i1 p1 e1 q1 => ?_, k2, k3, k4⟩
  exact ⟨S0, H0, S1, en1, Dd, i1, e1, q1, fun S2 σ2 H2 en2 i2 p2 => k1 S2 σ2 H2 en2 i2 (p1.trans p2), fun S2 v H2 d i2 p2 => k2 S2 v H2 d i2 (p1.trans p2),
    fun S2 σ2 H2 en2 i2 p2 => k3 S2 σ2 H2 en2 i2 (p1.trans p2), fun S2 σ2 H2 en2 i2 p2 => k4 S2 σ2 H2 en2 i2 (p1.trans p2)⟩
theorem sd_nil : PSs X [] (tDS X.K dNx) := PSs.imp pss_nil fun D σ H h => by
  obtain ⟨S0, H0, S, en, Dd, i0, e, q, k1, k2, k3, k4⟩ := h
  exact k1 S σ H en i0 (Kp.refl _) e q
theorem sd_cons (h1 : PS X st (tDS X.K a)) (h2 : PSs X rest (tDS X.K b)) : PSs X (st :: rest) (tDS X.K (dSeq a b)) := PSs.imp (pss_cons h1 h2) fun _ _ _ h => tDS_seq h
theorem sd_one (h1 : PS X st (tDS X.K a)) : PSs X [st] (tDS X.K a) := pss_one h1
theorem sd_ret (he : PE X e (tD X.K de)) : PS X (.Return (some e) pos) (tDS X.K (dRet de)) := PS.imp (ps_ret he) fun D σ H h => by
  obtain ⟨S0, H0, S, en, Dd, i0, e, q, k1, k2, k3, k4⟩ := h
  exact ⟨S, en, _, i0.ok, e, q, fun v H1 d he rp q1 => k2 S v H1 d (i0.he' he) he.kp rp q1⟩
theorem sd_expr (he : PE X e (tD X.K de)) (hs : swapsWith e none pos.line X.env = pure false := by rfl) : PS X (.Expr e pos) (tDS X.K (dExpr de)) := PS.imp (ps_expr he hs) fun D σ H h => by
  obtain ⟨S0, H0, S, en, Dd, i0, e, q, k1, k2, k3, k4⟩ := h
  exact ⟨S, en, _, i0.ok, e, q, fun v H1 d he rp q1 => k1 S σ H1 en (i0.he' he) he.kp (e.he he) q1⟩
theorem sd_if {c : Expr} {xs ys : List Stmt} (hc : PT X c (tDT X.K dt)) (ha : PSs X xs (tDS X.K a)) (hb : PSs X ys (tDS X.K b)) : PS X (.If c xs ys pos) (tDS X.K (dIfS dt a b)) := PS.imp (ps_if hc ha hb) fun D σ H h => by
  obtain ⟨S0, H0, S, en, Dd, i0, e, q, k1, k2, k3, k4⟩ := h
  refine ⟨S, en, _, i0.ok, e, q, fun z H1 he q1 => ?_⟩
  have m1 : ∀ S2 σ2 H2 en2, In0 S0 H0 S2 H2 → Kp (er S H1) (er S2 H2) → EnvOk X.K S2 H2 σ2 en2 → Dd.nx en2 → D.nx σ2 H2 := fun S2 σ2 H2 en2 i2 p2 => k1 S2 σ2 H2 en2 i2 (he.kp.trans p2)
  have m2 : ∀ S2 v H2 d, In0 S0 H0 S2 H2 → Kp (er S H1) (er S2 H2) → Rp X.K (er S2 H2) v d → Dd.rt d → D.rt v H2 := fun S2 v H2 d i2 p2 => k2 S2 v H2 d i2 (he.kp.trans p2)
  have m3 : ∀ S2 σ2 H2 en2, In0 S0 H0 S2 H2 → Kp (er S H1) (er S2 H2) → EnvOk X.K S2 H2 σ2 en2 → Dd.bk en2 → D.bk σ2 H2 := fun S2 σ2 H2 en2 i2 p2 => k3 S2 σ2 H2 en2 i2 (he.kp.trans p2)
  have m4 : ∀ S2 σ2 H2 en2, In0 S0 H0 S2 H2 → Kp (er S H1) (er S2 H2) → EnvOk X.K S2 H2 σ2 en2 → Dd.ct en2 → D.ct σ2 H2 := fun S2 σ2 H2 en2 i2 p2 => k4 S2 σ2 H2 en2 i2 (he.kp.trans p2)
  cases z with
  | true => exact ⟨S0, H0, S, en, Dd, i0.he' he, e.he he, q1, m1, m2, m3, m4⟩
  | false => exact ⟨S0, H0, S, en, Dd, i0.he' he, e.he he, q1, m1, m2, m3, m4⟩
theorem tDS_asg {i : Nat} {D : Ends} {σ : L2.St} {H : Hp} (h : tDS K (dAsg i de) D σ H) : tAsg (tD K de) (gName i) D σ H := by
  obtain ⟨S0, H0, S, en, Dd, i0, e, q, k1, k2, k3, k4⟩ := h
  exact ⟨S, en, _, i0.ok, e, q, fun v H1 d he rp q1 => k1 S _ H1 _ (i0.he' he) he.kp ((e.he he).put (c := .dat d) rp) q1⟩
theorem tDS_asgO {i : Nat} {D : Ends} {σ : L2.St} {H : Hp} (h : tDS K (dAsgO i dl) D σ H) : tAsg (tDF K dl) (gName i) D σ H := by
  obtain ⟨S0, H0, S, en, Dd, i0, e, q, k1, k2, k3, k4⟩ := h
  refine ⟨S, en, _, i0.ok, e, q, fun p H1 vs ds hp he hv rs q1 => ?_⟩
  have i1 := i0.he' he
  refine k1 (own1 S p (i + 2)) _ H1 _ ⟨i0.low, i1.ok.own1 hv (by omega), i1.he, fun b z => ?_, fun b z y => ?_, i0.ok0⟩ (kp_own hp he.kp) ((e.own i0.ok hp he).put (c := .own ds) ⟨p, vs, rfl, own1_self, hv, rs _⟩) q1
  · rw [own1_ne]
    · exact i0.ext b z
    · intro y
      have z2 := i0.ext b z
      cases w : S0 b with
      | none => exact z w
      | some t =>
        rw [w] at z2
        obtain ⟨⟨o, ho⟩, _⟩ := i0.ok b t z2
        rw [y, hp] at ho
        cases ho
  · by_cases w : b = p
    · subst w
      cases u : H0 b with
      | none => rfl
      | some o =>
        have := i0.he.keep b o (by rw [z]; exact fun w => nomatch w) u
        rw [hp] at this
        cases this
    · rw [own1_ne w] at y
      exact i0.frs b z y
theorem sd_set {i : Nat} {x : Str} {pos' : Pos} (hN : X.N.Nodup) (he : PE X e (tD X.K de)) (hi : X.N[i]? = some x := by rfl) (hx : Loc X.env.scope x := by first | exact Or.inl rfl | exact Or.inr rfl) (hs : swapsWith e (some (.Name x pos')) pos.line X.env = pure false := by rfl)
    (hf : X.fn x = true ∨ X.env.scope.names.lookup x = some .local := by first | exact .inl rfl | exact .inr rfl) : PS X (.Assign [.Name x pos'] e pos) (tDS X.K (dAsg i de)) := PS.imp (ps_set hN hi hx he hs hf) fun _ _ _ h => tDS_asg h
theorem sd_setO {i : Nat} {x : Str} {pos' : Pos} (hN : X.N.Nodup) (he : PE X e (tDF X.K dl)) (hi : X.N[i]? = some x := by rfl) (hx : Loc X.env.scope x := by first | exact Or.inl rfl | exact Or.inr rfl) (hs : swapsWith e (some (.Name x pos')) pos.line X.env = pure false := by rfl)
    (hf : X.fn x = true ∨ X.env.scope.names.lookup x = some .local := by first | exact .inl rfl | exact .inr rfl) : PS X (.Assign [.Name x pos'] e pos) (tDS X.K (dAsgO i dl)) := PS.imp (ps_set hN hi hx he hs hf) fun _ _ _ h => tDS_asgO h
/-- from here on the list in slot i is a value like others -/
def dFreeze (i : Nat) (a : DS) : DS := fun D en => match en[i]? with
  | some (some (.own ds)) => a D (en.set i (some (.dat (.lst ds))))
  | _ => False
theorem sd_freeze (i : Nat) {sts : List Stmt} (h : PSs X sts (tDS X.K a)) : PSs X sts (tDS X.K (dFreeze i a)) := PSs.imp h fun D σ H q => by
  obtain ⟨S0, H0, S, en, Dd, i0, e, q, k1, k2, k3, k4⟩ := q
  unfold dFreeze at q
  split at q
  · rename_i ds hd
    obtain ⟨v, e1, p, vs, e2, e3, e4, rs⟩ := e.at_ i _ hd
    subst e2
    have up : Kp (er S H) (er (fun b => if b = p then none else S b) H) := fun b o z => by
      obtain ⟨z1, z2⟩ := er_some z
      exact er_of (by show (if b = p then none else S b) = none; split; rfl; exact z1) z2
    have l : i < en.length := by
      have := (List.getElem?_eq_some_iff.mp e1).1
      rw [e.len] at this
      exact this
    have np : ∀ b, S0 b ≠ none → b ≠ p := fun b z y => by
      subst y
      cases w : S0 b with
      | none => exact z w
      | some t =>
        have := i0.low b t w
        have z2 := i0.ext b z
        rw [w, e3] at z2
        have e5 := Option.some.inj z2
        omega
    refine ⟨S0, H0, fun b => if b = p then none else S b, _, Dd, ⟨i0.low, fun b t z => ?_, i0.he, fun b z => ?_, fun b z y => ?_, i0.ok0⟩, ⟨by rw [List.length_set]; exact e.len, fun j c z => ?_⟩, q,
      fun S2 σ2 H2 en2 i2 p2 => k1 S2 σ2 H2 en2 i2 (up.trans p2), fun S2 v H2 d i2 p2 => k2 S2 v H2 d i2 (up.trans p2), fun S2 σ2 H2 en2 i2 p2 => k3 S2 σ2 H2 en2 i2 (up.trans p2), fun S2 σ2 H2 en2 i2 p2 => k4 S2 σ2 H2 en2 i2 (up.trans p2)⟩
    · by_cases y : b = p
      · rw [if_pos y] at z
        cases z
      · rw [if_neg y] at z
        exact i0.ok b t z
    · show (if b = p then none else S b) = S0 b
      rw [if_neg (np b z)]
      exact i0.ext b z
    · refine i0.frs b z fun w => y ?_
      show (if b = p then none else S b) = none
      split
      · rfl
      · exact w
    · by_cases y : i = j
      · subst y
        rw [List.getElem?_set_self l] at z
        cases z
        exact ⟨.ref p, e1, .lst (.inl (er_of (if_pos rfl) e4)) (RpA.kp up rs)⟩
      · rw [List.getElem?_set_ne y] at z
        obtain ⟨v, q1, q2⟩ := e.at_ j c z
        refine ⟨v, q1, ?_⟩
        cases c with
        | dat d => exact Rp.kp up q2
        | own es =>
          obtain ⟨b, ws, w1, w2, w3, w4⟩ := q2
          refine ⟨b, ws, w1, ?_, w3, RpA.kp up w4⟩
          show (if b = p then none else S b) = some (j + 2)
          rw [if_neg]
          · exact w2
          · intro u
            rw [u, e3] at w2
            have e5 := Option.some.inj w2
            omega
        | obj b fs =>
          obtain ⟨w1, w2, dx, ws, w3, w4⟩ := q2
          refine ⟨w1, ?_, dx, ws, w3, w4.kp up⟩
          show (if b = p then none else S b) = some (j + 2)
          rw [if_neg]
          · exact w2
          · intro u
            rw [u, e3] at w2
            have e5 := Option.some.inj w2
            omega
        | spr =>
          obtain ⟨b, w1, w2⟩ := q2
          refine ⟨b, w1, ?_⟩
          show (if b = p then none else S b) = some 0
          rw [if_neg]
          · exact w2
          · intro u
            rw [u, e3] at w2
            cases w2
  · exact q.elim

/-! ### append, pop, x[i] = e on one's own list -/
def dAppend (i : Nat) (de : DE) : DS := fun D en => match en[i]? with
  | some (some (.own ds)) => de en fun d => ds.length < sizeLine ∧ D.nx (en.set i (some (.own (ds ++ [d]))))
  | _ => False
def dPop (i j : Nat) : DS := fun D en => match en[i]? with
  | some (some (.own ds)) => (match ds[ds.length - 1]? with
    | some d => D.nx ((en.set i (some (.own ds.dropLast))).set j (some (.dat d)))
    | none => False)
  | _ => False
def dSetI (i : Nat) (di de : DE) : DS := fun D en => match en[i]? with
  | some (some (.own ds)) => de en fun d => di en fun k => (match k with
    | .int n => (match ixN ds.length n with
      | some j => D.nx (en.set i (some (.own (ds.set j d))))
      | none => False)
    | _ => False)
  | _ => False
theorem own_at {i : Nat} {S : Ow} {H : Hp} {σ : L2.St} {en : En} {ds : List D} (e : EnvOk K S H σ en) (h : en[i]? = some (some (.own ds))) : ∃ p vs, σ[i]? = some (some (.ref p)) ∧ S p = some (i + 2) ∧ H p = some (.lst vs) ∧ RpA K (er S H) vs ds := by
  obtain ⟨v, e1, p, vs, e2, e3, e4, rs⟩ := e.at_ i _ h
  subst e2
  exact ⟨p, vs, e1, e3, e4, rs⟩
theorem sd_append {i : Nat} {x : Str} {p apos cpos : Pos} (hN : X.N[i]? = some x := by rfl) (hv : Vis X.env.scope x := by first | exact Or.inl rfl | exact Or.inr (Or.inl rfl) | exact Or.inr (Or.inr rfl)) (ha : PE X e (tD X.K de))
    (hd : (x == ("__debug__" : Str)) = false := by decide) (hcd : (x == ("__classdict__" : Str)) = false := by decide)
    (hq1 : attributeBase (.Name x p) "append" X.env (eval (.Name x p) X.env) = eval (.Name x p) X.env := by rfl)
    (hq2 : ((backTo cpos (starEach [e] X.env)).all (fun x => !x.1) && (backToKw cpos (keywordEach [] X.env)).all (fun x => x.1.isSome) && decide ([e].length + ([] : List Keyword).length + (if ([] : List Keyword).isEmpty then 0 else 1) < 30)) = true := by rfl)
    (hq3 : (apos.endLine == cpos.line) = true := by rfl) (hq4 : starEach [e] X.env = (false, eval e X.env) :: starEach [] X.env := by rfl) (hq5 : (backTo cpos (starEach [] X.env)).any (·.1) = false := by rfl)
    (hs : swapsWith (.Call (.Attribute (.Name x p) "append" apos) [e] [] cpos) none pos.line X.env = pure false := by rfl) : PS X (.Expr (.Call (.Attribute (.Name x p) "append" apos) [e] [] cpos) pos) (tDS X.K (dAppend i de)) := PS.imp (ps_expr (pe_bm PySem.F.plainAttrs_list PySem.F.slot_list_append PySem.F.type_list_append mt_append (pe_var hN hv hd hcd) (pa_cons ha pa_nil hq4) hq1 hq2 hq3 hq4 hq5) hs) fun D σ H h => by
  obtain ⟨S0, H0, S, en, Dd, i0, e, q, k1, k2, k3, k4⟩ := h
  unfold dAppend at q
  split at q
  · rename_i ds hd
    obtain ⟨p, vs, e1, e3, e4, rs⟩ := own_at e hd
    refine ⟨.ref p, e1, .inl ⟨rfl, vs, SqL.of e4⟩, S, en, _, i0.ok, e, q, fun v H1 d he rp q1 => ?_⟩
    have h1 : H1 p = some (.lst vs) := he.keep p _ (by rw [e3]; intro z; cases z) e4
    have rs1 := RpA.kp he.kp rs
    refine ⟨p, vs, v, rfl, rfl, h1, by rw [rs.length]; exact q1.1, ?_⟩
    refine k1 S σ _ _ ((i0.he' he).wr e3 (by omega)) ?_ ((e.he he).wr e3 e1 (rs1.append (.cons rp .nil))) q1.2
    rw [er_upd e3]
    exact he.kp
  · exact q.elim
theorem sd_pop {i j : Nat} {x y : Str} {p apos cpos pos' : Pos} (nd : X.N.Nodup) (hN : X.N[i]? = some x := by rfl) (hv : Vis X.env.scope x := by first | exact Or.inl rfl | exact Or.inr (Or.inl rfl) | exact Or.inr (Or.inr rfl)) (hi : X.N[j]? = some y := by rfl) (hij : i ≠ j := by decide)
    (hx : Loc X.env.scope y := by first | exact Or.inl rfl | exact Or.inr rfl) (hd : (x == ("__debug__" : Str)) = false := by decide) (hcd : (x == ("__classdict__" : Str)) = false := by decide)
    (hq1 : attributeBase (.Name x p) "pop" X.env (eval (.Name x p) X.env) = eval (.Name x p) X.env := by rfl) (hq2 : (apos.endLine == cpos.line) = true := by rfl)
    (hs : swapsWith (.Call (.Attribute (.Name x p) "pop" apos) [] [] cpos) (some (.Name y pos')) pos.line X.env = pure false := by rfl)
    (hf : X.fn y = true ∨ X.env.scope.names.lookup y = some .local := by first | exact .inl rfl | exact .inr rfl) : PS X (.Assign [.Name y pos'] (.Call (.Attribute (.Name x p) "pop" apos) [] [] cpos) pos) (tDS X.K (dPop i j)) := PS.imp (ps_set nd hi hx (pe_bm0 PySem.F.plainAttrs_list PySem.F.slot_list_pop PySem.F.type_list_pop mt_pop (pe_var hN hv hd hcd) hq1 hq2) hs hf) fun D σ H h => by
  obtain ⟨S0, H0, S, en, Dd, i0, e, q, k1, k2, k3, k4⟩ := h
  unfold dPop at q
  split at q
  · rename_i ds hd
    split at q
    · rename_i d hd2
      obtain ⟨p, vs, e1, e3, e4, rs⟩ := own_at e hd
      obtain ⟨v, h1, rv⟩ := rs.get hd2
      rw [← rs.length] at h1
      refine ⟨.ref p, e1, .inl ⟨rfl, vs, SqL.of e4⟩, p, vs, v, rfl, rfl, e4, h1, ?_⟩
      refine k1 S _ _ _ (i0.wr e3 (by omega)) (by rw [er_upd e3]; exact Kp.refl _) ((e.wr e3 e1 rs.dropLast).put (c := .dat d) ?_) q
      show Rp X.K (er S (upd H p _)) v d
      rw [er_upd e3]
      exact rv
    · exact q.elim
  · exact q.elim
theorem sd_setI {i : Nat} {x : Str} {p tpos : Pos} {ix : Expr} {di : DE} (he : PE X e (tD X.K de)) (hix : PE X ix (tD X.K di)) (hN : X.N[i]? = some x := by rfl) (hv : Vis X.env.scope x := by first | exact Or.inl rfl | exact Or.inr (Or.inl rfl) | exact Or.inr (Or.inr rfl))
    (hd : (x == ("__debug__" : Str)) = false := by decide) (hcd : (x == ("__classdict__" : Str)) = false := by decide)
    (ha : ∀ v, assign (.Subscript (.Name x p) ix tpos) X.env v = (do
      let ov ← holding [v] (eval (.Name x p) X.env)
      let iv ← holding [v, ov] (eval ix X.env)
      standAt tpos
      holding [v, ov, iv] (setItem ov iv v)
      release [v, ov, iv] []) := by intro _; rfl)
    (hs : swapsWithSole [.Subscript (.Name x p) ix tpos] e pos.line X.env = pure false := by rfl) (hw : swappedStores [.Subscript (.Name x p) ix tpos] e X.env = pure none := by rfl)
    (h1 : (assignEach [.Subscript (.Name x p) ix tpos] X.env).map (·.2) = [assign (.Subscript (.Name x p) ix tpos) X.env] := by rfl) :
    PS X (.Assign [.Subscript (.Name x p) ix tpos] e pos) (tDS X.K (dSetI i di de)) := PS.imp (ps_asg he (pg_sub (pe_var hN hv hd hcd) hix set_list ha) hs hw h1) fun D σ H h => by
  obtain ⟨S0, H0, S, en, Dd, i0, e, q, k1, k2, k3, k4⟩ := h
  unfold dSetI at q
  split at q
  · rename_i ds hd
    obtain ⟨p, vs, e1, e3, e4, rs⟩ := own_at e hd
    refine ⟨S, en, _, i0.ok, e, q, fun v H1 d he rp q1 => ⟨_, e1, S, en, _, he.ok i0.ok, e.he he, q1, fun w H2 k he2 rw2 q2 => ?_⟩⟩
    split at q2
    · split at q2
      · cases rw2
        have hx := he.trans he2
        have h2 : H2 p = some (.lst vs) := hx.keep p _ (by rw [e3]; intro z; cases z) e4
        refine ⟨p, vs, _, _, rfl, rfl, h2, by rw [rs.length]; assumption, ?_⟩
        refine k1 S σ _ _ ((i0.he' hx).wr e3 (by omega)) (by rw [er_upd e3]; exact hx.kp) ((e.he hx).wr e3 e1 ((RpA.kp hx.kp rs).set (Rp.kp he2.kp rp) _)) q2
      · exact q2.elim
    · exact q2.elim
  · exact q.elim

/-! ### targets: a name, two names -/
abbrev DG := D → En → Option En
def dgN (i : Nat) : DG := fun d en => some (en.set i (some (.dat d)))
def dgT (i j : Nat) : DG := fun d en => match d with
  | .tup [x, y] => some ((en.set i (some (.dat x))).set j (some (.dat y)))
  | _ => none
def RG (K : PySem.W.Frag) (g : TG) (dg : DG) (vs : List Nat) : Prop := ∀ (S : Ow) (H : Hp) (σ : L2.St) (en : En) (d : D) (v : V) (en' : En) (Q : L2.St → Hp → Prop), EnvOk K S H σ en → Rp K (er S H) v d → dg d en = some en' →
  (∀ σ', EnvOk K S H σ' en' → wipe σ' vs = wipe σ vs → Q σ' H) → g v σ H Q
theorem rg_n {i : Nat} {vs : List Nat} (hi : i ∈ vs) : RG K (gName i) (dgN i) vs := by
  intro S H σ en d v en' Q e rp h k
  cases h
  exact k _ (e.put (c := .dat d) rp) (wipe_set hi)
theorem rg_t {i j : Nat} {vs : List Nat} (hi : i ∈ vs) (hj : j ∈ vs) : RG K (gTup K 2 (gCons (gName i) (gCons (gName j) gNil))) (dgT i j) vs := by
  intro S H σ en d v en' Q e rp h k
  unfold dgT at h
  split at h
  · rename_i x y
    cases h
    cases rp with
    | @tup a ws _ hr rs =>
      obtain ⟨v, w, e1, r1, r2⟩ := rs.two
      subst e1
      refine ⟨a, _, rfl, SqT.of (er_some hr).2, rfl, v, [w], rfl, w, [], rfl, rfl, ?_⟩
      exact k _ ((e.put (c := .dat x) r1).put (c := .dat y) r2) (by rw [wipe_set hj, wipe_set hi])
  · cases h
theorem wipe_wipe {σ : L2.St} : ∀ vs : List Nat, wipe (wipe σ vs) vs = L2.wipe σ vs
  | [] => rfl
  | v :: vs => by
    show L2.wipe ((L2.wipe σ vs).set v none) (v :: vs) = _
    rw [wipe_set (List.mem_cons_self)]
    show (L2.wipe (L2.wipe σ vs) vs).set v none = _
    rw [wipe_wipe vs]
    rfl

/-! ### what is walked -/
def Wk (K : PySem.W.Frag) (S : Ow) (J : It) (H : Hp) (ds : List D) : Prop := ∀ S' H', Ok S' H' → Kp (er S H) (er S' H') →
  (∀ i d, ds[i]? = some d → J.go i H' ∧ ∀ x H2, J.yld i H' x H2 → HE S' H' H2 ∧ Rp K (er S' H2) x d) ∧ J.stop ds.length H'
def tDI (K : PySem.W.Frag) (dl : DL) : TI := fun σ H R => ∃ S en Q, Ok S H ∧ EnvOk K S H σ en ∧ dl en Q ∧ ∀ J H' ds, HE S H H' → Wk K S J H' ds → Q ds → R J H'
def dIl (de : DE) : DL := fun en Q => de en fun d => match d with
  | .lst xs => Q xs
  | _ => False
def dIt (de : DE) : DL := fun en Q => de en fun d => match d with
  | .tup xs => Q xs
  | _ => False
def dIs (de : DE) : DL := fun en Q => de en fun d => match d with
  | .str x => Q (x.cps.toList.map fun c => .str ⟨#[c]⟩)
  | _ => False
def dIr (de : DE) : DL := fun en Q => de en fun d => match d with
  | .int n => (-(2 ^ 62) ≤ n ∧ n < 2 ^ 62) ∧ Q ((List.range n.toNat).map fun i => .int (i : Nat))
  | _ => False
theorem rd_l {H : Hp} {p : Addr} {vs : List V} (h : Rd H p (.lst vs)) : SqL K H p vs := .inl h
theorem sqL_inj {H : Hp} {p : Addr} {vs ws : List V} (h : Rd H p (.lst vs)) (q : Rd H p (.lst ws)) : vs = ws := by
  rcases h with h | ⟨o, h⟩ <;> rcases q with q | ⟨u, q⟩ <;> rw [h] at q <;> cases q <;> rfl
theorem wk_list {S : Ow} {H : Hp} {p : Addr} {vs : List V} {ds : List D} (h : Rd (er S H) p (.lst vs)) (r : RpA K (er S H) vs ds) : Wk K S (Itl K p) H ds := by
  intro S' H' ok kp
  have hv : SqL K H' p vs := .inl (er_rd (Rd.kp kp h))
  refine ⟨fun i d e => ?_, ⟨vs, hv, Nat.le_of_eq r.length⟩⟩
  obtain ⟨v, e1, rv⟩ := r.get e
  refine ⟨⟨vs, v, hv, e1⟩, fun x H2 y => ?_⟩
  obtain ⟨y1, y2⟩ := y
  subst y1
  have := y2 vs hv
  rw [e1] at this
  cases this
  exact ⟨HE.refl _ _, Rp.kp kp rv⟩
theorem wk_tup {S : Ow} {H : Hp} {p : Addr} {vs : List V} {ds : List D} (h : er S H p = some (.tup vs)) (r : RpA K (er S H) vs ds) : Wk K S (Itt K p) H ds := by
  intro S' H' ok kp
  have hv : SqT K H' p vs := SqT.of (er_some (kp _ _ h)).2
  refine ⟨fun i d e => ?_, ⟨vs, hv, Nat.le_of_eq r.length⟩⟩
  obtain ⟨v, e1, rv⟩ := r.get e
  refine ⟨⟨vs, v, hv, e1⟩, fun x H2 y => ?_⟩
  obtain ⟨y1, y2⟩ := y
  subst y1
  have := y2 vs hv
  rw [e1] at this
  cases this
  exact ⟨HE.refl _ _, Rp.kp kp rv⟩
theorem wk_str {S : Ow} {H : Hp} {x : Str} : Wk K S (Its x) H (x.cps.toList.map fun c => D.str ⟨#[c]⟩) := by
  intro S' H' ok kp
  refine ⟨fun i d e => ?_, by show x.cps.size ≤ _; rw [List.length_map, Array.length_toList]; exact Nat.le_refl _⟩
  rw [List.getElem?_map] at e
  cases q : x.cps.toList[i]? with
  | none =>
    rw [q] at e
    cases e
  | some c =>
    rw [q] at e
    cases e
    have l := (List.getElem?_eq_some_iff.mp q).1
    rw [Array.length_toList] at l
    refine ⟨l, fun y H2 z => ?_⟩
    obtain ⟨z1, c2, z2, z3⟩ := z
    subst z1 z3
    rw [← Array.getElem?_toList, q] at z2
    cases z2
    exact ⟨HE.refl _ _, .str _⟩
theorem wk_range {S : Ow} {H : Hp} {n : Nat} : Wk K S (Itr 0 n) H ((List.range n).map fun i => D.int (i : Nat)) := by
  intro S' H' ok kp
  refine ⟨fun i d e => ?_, by show n ≤ _; rw [List.length_map, List.length_range]; exact Nat.le_refl _⟩
  rw [List.getElem?_map] at e
  have l : i < n := by
    by_cases z : i < n
    · exact z
    · rw [List.getElem?_eq_none (by rw [List.length_range]; omega)] at e
      cases e
  rw [List.getElem?_range l] at e
  cases e
  refine ⟨l, fun y H2 z => ?_⟩
  obtain ⟨z1, z2⟩ := z
  subst z1 z2
  rw [Int.zero_add]
  exact ⟨HE.refl _ _, .int _⟩
end
section
variable {X : Cx} {K : PySem.W.Frag} {tg e : Expr} {de : DE}
theorem pid_l (he : PE X e (tD X.K de)) : PI X tg e (tDI X.K (dIl de)) := PI.imp (pi_list he) fun σ H R h => by
  obtain ⟨S, en, Q, ok, e, q, k⟩ := h
  refine ⟨S, en, _, ok, e, q, fun v H1 d he rp q1 => ?_⟩
  cases rp with
  | lst hr rs => exact ⟨_, rfl, ⟨_, .inl (er_rd hr)⟩, k _ H1 _ he (wk_list hr rs) q1⟩
  | _ => exact False.elim q1
theorem pid_t (he : PE X e (tD X.K de)) : PI X tg e (tDI X.K (dIt de)) := PI.imp (pi_tup he) fun σ H R h => by
  obtain ⟨S, en, Q, ok, e, q, k⟩ := h
  refine ⟨S, en, _, ok, e, q, fun v H1 d he rp q1 => ?_⟩
  cases rp with
  | tup hr rs => exact ⟨_, rfl, ⟨_, SqT.of (er_some hr).2⟩, k _ H1 _ he (wk_tup hr rs) q1⟩
  | _ => exact False.elim q1
theorem pid_s (he : PE X e (tD X.K de)) : PI X tg e (tDI X.K (dIs de)) := PI.imp (pi_str he) fun σ H R h => by
  obtain ⟨S, en, Q, ok, e, q, k⟩ := h
  refine ⟨S, en, _, ok, e, q, fun v H1 d he rp q1 => ?_⟩
  cases rp with
  | str x => exact ⟨x, rfl, k _ H1 _ he wk_str q1⟩
  | _ => exact False.elim q1
theorem pid_r {p pos : Pos} (hm : X.mg "range" = none) (he : PE X e (tD X.K de)) (hg : Gl X "range") (hs : starEach [e] X.env = (false, eval e X.env) :: starEach [] X.env := by rfl) (hs2 : starEach [e] X.env = [(false, eval e X.env)] := by rfl) :
    PI X tg (.Call (.Name "range" p) [e] [] pos) (tDI X.K (dIr de)) := PI.imp (pi_range1 hg hm (pa_cons he pa_nil hs) hs2) fun σ H R h => by
  obtain ⟨S, en, Q, ok, e, q, k⟩ := h
  refine ⟨S, en, _, ok, e, q, fun v H1 d he rp q1 => ?_⟩
  cases rp with
  | int n => exact ⟨n, rfl, q1.1.1, q1.1.2, k _ H1 _ he wk_range q1.2⟩
  | _ => exact False.elim q1
end

/-! ### for, while -/
def dLoop (dg : DG) (db : DS) (Z : DEnds) : List D → En → Prop
  | [], en => Z.nx en
  | d :: ds, en => match dg d en with
    | some e1 => db { nx := fun e => dLoop dg db Z ds e, rt := Z.rt, bk := Z.nx, ct := fun e => dLoop dg db Z ds e } e1
    | none => False
def dFor (di : DL) (dg : DG) (db : DS) : DS := fun D en => di en fun ds => dLoop dg db D ds en
def dWh (dt : DT) (db : DS) (D : DEnds) : Nat → En → Prop
  | 0, _ => False
  | n + 1, en => dt en fun b => if b = true then db { nx := fun e => dWh dt db D n e, rt := D.rt, bk := D.nx, ct := fun e => dWh dt db D n e } en else D.nx en
def dWhile (dt : DT) (db : DS) : DS := fun D en => ∃ n, dWh dt db D n en
section
variable {X : Cx} {K : PySem.W.Frag} {di : DL} {dg : DG} {db : DS} {dt : DT} {pos : Pos}
theorem tDS_for {g : TG} {vs : List Nat} (hg : RG K g dg vs) {D : Ends} {σ : L2.St} {H : Hp} (h : tDS K (dFor di dg db) D σ H) : tFor (tDI K di) g (tDS K db) D σ H := by
  obtain ⟨S0, H0, S, en, Dd, i0, e, q, k1, k2, k3, k4⟩ := h
  refine ⟨S, en, _, i0.ok, e, q, fun J H1 ds he wk q1 => ?_⟩
  refine ⟨fun i m σ' H' => m = ds.length - i ∧ i ≤ ds.length ∧ ∃ S' en', In0 S0 H0 S' H' ∧ Kp (er S H1) (er S' H') ∧ EnvOk K S' H' σ' en' ∧ dLoop dg db Dd (ds.drop i) en', ⟨_, rfl, Nat.zero_le _, S, en, i0.he' he, Kp.refl _, e.he he, q1⟩, ?_⟩
  rintro i m σ' H' ⟨rfl, hi, S', en', i1, kp, e1, q2⟩
  obtain ⟨w1, w2⟩ := wk S' H' i1.ok kp
  by_cases hl : i < ds.length
  · have hd : ds[i]? = some ds[i] := List.getElem?_eq_getElem hl
    obtain ⟨w3, w4⟩ := w1 i _ hd
    rw [List.drop_eq_getElem_cons hl] at q2
    have q3 : (match dg ds[i] en' with
      | some e1 => db { nx := fun e => dLoop dg db Dd (ds.drop (i + 1)) e, rt := Dd.rt, bk := Dd.nx, ct := fun e => dLoop dg db Dd (ds.drop (i + 1)) e } e1
      | none => False) := q2
    refine .inr ⟨w3, _, fun σ2 H2 z => ⟨_, (show ds.length - (i + 1) < ds.length - i by omega), z⟩, fun x H2 y => ?_⟩
    obtain ⟨he2, rp⟩ := w4 x H2 y
    split at q3
    · rename_i e2 hg2
      refine hg S' H2 σ' en' _ x e2 _ (e1.he he2) rp hg2 fun σ3 e3 _ => ?_
      refine ⟨S0, H0, S', e2, _, i1.he' he2, e3, q3, fun S4 σ4 H4 en4 i4 p4 e4 q4 => ?_, fun S4 v H4 d i4 p4 => ?_, fun S4 σ4 H4 en4 i4 p4 => ?_, fun S4 σ4 H4 en4 i4 p4 e4 q4 => ?_⟩
      · exact ⟨rfl, hl, S4, en4, i4, (kp.trans he2.kp).trans p4, e4, q4⟩
      · exact k2 S4 v H4 d i4 (((he.kp.trans kp).trans he2.kp).trans p4)
      · exact k1 S4 σ4 H4 en4 i4 (((he.kp.trans kp).trans he2.kp).trans p4)
      · exact ⟨rfl, hl, S4, en4, i4, (kp.trans he2.kp).trans p4, e4, q4⟩
    · exact q3.elim
  · have e9 : i = ds.length := by omega
    subst e9
    rw [List.drop_length] at q2
    exact .inl ⟨w2, k1 S' σ' H' en' i1 (he.kp.trans kp) e1 q2⟩
theorem sd_for {tg iter : Expr} {body : List Stmt} {g : TG} {vs : List Nat} (hc : X.calm = true) (hi : PI X tg iter (tDI X.K di)) (hg : PG X tg g) (hr : RG X.K g dg vs) (hb : PSs X body (tDS X.K db)) (hp : PassesOwn (model X.prog X.w) X.A X.env X.xe := by exact PassesOwn.never)
    (hs : ∀ x, foldedSetIterable iter X.env x = pure x := by intro _; rfl) : PS X (.For tg iter body [] pos) (tDS X.K (dFor di dg db)) := PS.imp (ps_for hp hc hi hg hb hs) fun _ _ _ h => tDS_for hr h
theorem sd_while {c : Expr} {body : List Stmt} (hc : PT X c (tDT X.K dt)) (hb : PSs X body (tDS X.K db)) (hp : PassesOwn (model X.prog X.w) X.A X.env X.xe := by exact PassesOwn.never) : PS X (.While c body [] pos) (tDS X.K (dWhile dt db)) := PS.imp (ps_while hp hc hb) fun D σ H h => by
  obtain ⟨S0, H0, S, en, Dd, i0, e, ⟨n, q⟩, k1, k2, k3, k4⟩ := h
  refine ⟨fun m σ' H' => ∃ S' en', In0 S0 H0 S' H' ∧ Kp (er S H) (er S' H') ∧ EnvOk X.K S' H' σ' en' ∧ dWh dt db Dd m en', ⟨n, S, en, i0, Kp.refl _, e, q⟩, ?_⟩
  rintro m σ' H' ⟨S', en', i1, kp, e1, q1⟩
  cases m with
  | zero => exact False.elim q1
  | succ m =>
    refine ⟨S', en', _, i1.ok, e1, q1, fun b H2 he q2 => ?_⟩
    cases b with
    | true =>
      refine ⟨_, fun σ3 H3 z => ⟨m, Nat.lt_succ_self m, z⟩, ?_⟩
      refine ⟨S0, H0, S', en', _, i1.he' he, e1.he he, q2, fun S4 σ4 H4 en4 i4 p4 e4 q4 => ?_, fun S4 v H4 d i4 p4 => ?_, fun S4 σ4 H4 en4 i4 p4 => ?_, fun S4 σ4 H4 en4 i4 p4 e4 q4 => ?_⟩
      · exact ⟨S4, en4, i4, (kp.trans he.kp).trans p4, e4, q4⟩
      · exact k2 S4 v H4 d i4 ((kp.trans he.kp).trans p4)
      · exact k1 S4 σ4 H4 en4 i4 ((kp.trans he.kp).trans p4)
      · exact ⟨S4, en4, i4, (kp.trans he.kp).trans p4, e4, q4⟩
    | false => exact k1 S' σ' H2 en' (i1.he' he) (kp.trans he.kp) (e1.he he) q2
end

/-! ### comprehensions -/
def dLcGo (dg : DG) (dt : DT) (de : DE) (en : En) : List D → List D → (List D → Prop) → Prop
  | [], acc, Q => Q acc
  | d :: ds, acc, Q => match dg d en with
    | some e1 => dt e1 fun b => if b = true then de e1 fun r => acc.length < sizeLine ∧ dLcGo dg dt de en ds (acc ++ [r]) Q else dLcGo dg dt de en ds acc Q
    | none => False
def dLc (di : DL) (dg : DG) (dt : DT) (de : DE) (vs : List Nat) : DL := fun en Q => di en fun ds => dLcGo dg dt de (wipeE en vs) ds [] Q
def dYes : DT := fun _ Q => Q true
section
variable {X : Cx} {K : PySem.W.Frag} {di : DL} {dg : DG} {dt : DT} {de : DE} {pos : Pos}
theorem ptsd_nil : PTs X [] (tDT X.K dYes) := ⟨fun pins s σ H Q I h => by
  obtain ⟨S, en, Q1, ok, e, q, k⟩ := h
  exact (pts_nil (X := X)).run pins s σ H Q I (k true H (HE.refl _ _) q)⟩
theorem ptsd_one {c : Expr} (h : PT X c (tDT X.K dt)) : PTs X [c] (tDT X.K dt) := pts_one h
theorem tDF_lc {g : TG} {vs : List Nat} (hg : RG K g dg vs) {σ : L2.St} {H : Hp} {R : VK} (h : tDF K (dLc di dg dt de vs) σ H R) : tLc (tDI K di) g (tDT K dt) (tD K de) vs σ H R := by
  obtain ⟨S, en, Q, ok, e, q, k⟩ := h
  refine ⟨S, en, _, ok, e, q, fun J H1 ds he wk q1 => fun Dl hD => ?_⟩
  have base : ∀ H', HE S H1 H' → EnvOk K (own1 S Dl 1) H' (wipe σ vs) (wipeE en vs) := fun H' z => ((e.he he).own (he.ok ok) hD z).wipe vs
  refine ⟨fun i m H' => m = ds.length - i ∧ i ≤ ds.length ∧ ∃ av ad, Ok (own1 S Dl 1) H' ∧ HE S H1 H' ∧ H' Dl = some (.lst av) ∧ RpA K (er (own1 S Dl 1) H') av ad ∧ dLcGo dg dt de (wipeE en vs) (ds.drop i) ad Q,
    ⟨_, rfl, Nat.zero_le _, [], [], ((HE.new hD).ok (he.ok ok)).own1 upd_same (by decide), HE.new hD, upd_same, .nil, q1⟩, ?_⟩
  rintro i m H' ⟨rfl, hi, av, ad, ok1, he1, hDl, rs, q2⟩
  obtain ⟨w1, w2⟩ := wk (own1 S Dl 1) H' ok1 (kp_own hD he1.kp)
  by_cases hl : i < ds.length
  · have hd : ds[i]? = some ds[i] := List.getElem?_eq_getElem hl
    obtain ⟨w3, w4⟩ := w1 i _ hd
    rw [List.drop_eq_getElem_cons hl] at q2
    have q3 : (match dg ds[i] (wipeE en vs) with
      | some e1 => dt e1 fun b => if b = true then de e1 fun r => ad.length < sizeLine ∧ dLcGo dg dt de (wipeE en vs) (ds.drop (i + 1)) (ad ++ [r]) Q else dLcGo dg dt de (wipeE en vs) (ds.drop (i + 1)) ad Q
      | none => False) := q2
    refine .inr ⟨w3, _, fun H2 z => ⟨_, (show ds.length - (i + 1) < ds.length - i by omega), z⟩, fun x H2 y => ?_⟩
    obtain ⟨he2, rp⟩ := w4 x H2 y
    have up : ∀ {A B : Hp}, HE (own1 S Dl 1) A B → (∀ a, S a = some 0 → a ≠ Dl) → HE S A B := fun {A B} z n => ⟨fun a o y w => z.keep a o (by
        by_cases u : a = Dl
        · rw [u, own1_self]
          intro v
          cases v
        · rw [own1_ne u]
          exact y) w, fun a y w => z.spr a (by rw [own1_ne (n a y)]; exact y) w⟩
    have nD : ∀ a, S a = some 0 → a ≠ Dl := fun a y w => by
      obtain ⟨⟨o, z⟩, _⟩ := (he.ok ok) a 0 y
      rw [w, hD] at z
      cases z
    split at q3
    · rename_i e2 hg2
      refine hg (own1 S Dl 1) H2 (wipe σ vs) (wipeE en vs) _ x e2 _ ((base H' he1).he he2) rp hg2 fun σ3 e3 w3 => ⟨by rw [w3, wipe_wipe], ?_⟩
      refine ⟨own1 S Dl 1, e2, _, he2.ok ok1, e3, q3, fun b H3 he3 q4 => ?_⟩
      have h3 := he2.trans he3
      have hD3 : H3 Dl = some (.lst av) := h3.keep Dl _ (by rw [own1_self]; intro z; cases z) hDl
      cases b with
      | true =>
        refine ⟨own1 S Dl 1, e2, _, h3.ok ok1, e3.he he3, q4, fun y H4 d4 he4 rp4 q5 => ?_⟩
        have h4 := h3.trans he4
        have hD4 : H4 Dl = some (.lst av) := he4.keep Dl _ (by rw [own1_self]; intro z; cases z) hD3
        have hs := he1.trans (up h4 nD)
        refine ⟨av, hD4, by rw [rs.length]; exact q5.1, rfl, hl, av ++ [y], ad ++ [d4], (h4.ok ok1).wr own1_self (by decide), ⟨fun a o z w => ?_, fun a z w => ?_⟩, upd_same, ?_, q5.2⟩
        · rw [upd_ne (ne_of_none w hD)]
          exact hs.keep a o z w
        · obtain ⟨x1, x2, x3, x4, x5⟩ := hs.spr a z w
          exact ⟨x1, x2, x3, by rw [upd_ne (nD a z)]; exact x4, x5⟩
        · rw [er_upd own1_self]
          exact (RpA.kp h4.kp rs).append (.cons rp4 .nil)
      | false => exact ⟨rfl, hl, av, ad, h3.ok ok1, he1.trans (up h3 nD), hD3, RpA.kp h3.kp rs, q4⟩
    · exact q3.elim
  · have e9 : i = ds.length := by omega
    subst e9
    rw [List.drop_length] at q2
    exact .inl ⟨w2, k Dl H' av ad (he.old ok hD) (he.trans he1) hDl (fun t => by rw [er_own_t (u := 1)]; exact rs) q2⟩
theorem pf_lc {elt tg iter : Expr} {ifs : List Expr} {scope : Scope} {own : List (Str × Nat)} {g : TG} (hc : X.calm = true) (hN : X.N.Nodup) (hi : PI X tg iter (tDI X.K di)) (ok : BlkOk X.N X.env.scope scope own)
    (hr : RG X.K g dg (own.map (·.2)))
    (hg : ∀ (s : Shared) (H : Hp) (C : Addr) (cl : List (Str × Addr)) (fp : List Addr), PG (X.blk s H scope (compEnvC scope cl C X.env) fp) tg g) (ht : ∀ (s : Shared) (H : Hp) (C : Addr) (cl : List (Str × Addr)) (fp : List Addr), PTs (X.blk s H scope (compEnvC scope cl C X.env) fp) ifs (tDT X.K dt))
    (he : ∀ (s : Shared) (H : Hp) (C : Addr) (cl : List (Str × Addr)) (fp : List Addr), PE (X.blk s H scope (compEnvC scope cl C X.env) fp) elt (tD X.K de)) (hs : ∀ x, foldedSetIterable iter X.env x = pure x := by intro _; rfl) :
    PE X (.ListComp elt [⟨tg, iter, ifs, 0⟩] scope pos) (tDF X.K (dLc di dg dt de (own.map (·.2)))) := PE.imp (pe_lc hc hN hi ok hg ht he hs) fun _ _ _ h => tDF_lc hr h
/-- name = [..]: the list one's own, or a value like others -/
theorem sd_setLcO {i : Nat} {y : Str} {py spos : Pos} {elt tg iter : Expr} {ifs : List Expr} {scope : Scope} {own : List (Str × Nat)} {g : TG} (hc : X.calm = true) (hN : X.N.Nodup) (hi : PI X tg iter (tDI X.K di)) (ok : BlkOk X.N X.env.scope scope own)
    (hr : RG X.K g dg (own.map (·.2)))
    (hg : ∀ (s : Shared) (H : Hp) (C : Addr) (cl : List (Str × Addr)) (fp : List Addr), PG (X.blk s H scope (compEnvC scope cl C X.env) fp) tg g) (ht : ∀ (s : Shared) (H : Hp) (C : Addr) (cl : List (Str × Addr)) (fp : List Addr), PTs (X.blk s H scope (compEnvC scope cl C X.env) fp) ifs (tDT X.K dt))
    (he : ∀ (s : Shared) (H : Hp) (C : Addr) (cl : List (Str × Addr)) (fp : List Addr), PE (X.blk s H scope (compEnvC scope cl C X.env) fp) elt (tD X.K de)) (hs : ∀ x, foldedSetIterable iter X.env x = pure x := by intro _; rfl)
    (hy : X.N[i]? = some y := by rfl) (hyl : X.env.scope.names.lookup y = some .local := by rfl) (hsw : swapsWith (.ListComp elt [⟨tg, iter, ifs, 0⟩] scope pos) (some (.Name y py)) spos.line X.env = pure true := by exact sw_true rfl rfl rfl (by decide +kernel)) :
    PS X (.Assign [.Name y py] (.ListComp elt [⟨tg, iter, ifs, 0⟩] scope pos) spos) (tDS X.K (dAsgO i (dLc di dg dt de (own.map (·.2))))) := PS.imp (ps_setLc hc hN hy hyl hsw hi ok hg ht he hs) fun D σ H h => tDF_lc hr (tDS_asgO h)
theorem sd_setLc {i : Nat} {y : Str} {py spos : Pos} {elt tg iter : Expr} {ifs : List Expr} {scope : Scope} {own : List (Str × Nat)} {g : TG} (hc : X.calm = true) (hN : X.N.Nodup) (hi : PI X tg iter (tDI X.K di)) (ok : BlkOk X.N X.env.scope scope own)
    (hr : RG X.K g dg (own.map (·.2)))
    (hg : ∀ (s : Shared) (H : Hp) (C : Addr) (cl : List (Str × Addr)) (fp : List Addr), PG (X.blk s H scope (compEnvC scope cl C X.env) fp) tg g) (ht : ∀ (s : Shared) (H : Hp) (C : Addr) (cl : List (Str × Addr)) (fp : List Addr), PTs (X.blk s H scope (compEnvC scope cl C X.env) fp) ifs (tDT X.K dt))
    (he : ∀ (s : Shared) (H : Hp) (C : Addr) (cl : List (Str × Addr)) (fp : List Addr), PE (X.blk s H scope (compEnvC scope cl C X.env) fp) elt (tD X.K de)) (hs : ∀ x, foldedSetIterable iter X.env x = pure x := by intro _; rfl)
    (hy : X.N[i]? = some y := by rfl) (hyl : X.env.scope.names.lookup y = some .local := by rfl) (hsw : swapsWith (.ListComp elt [⟨tg, iter, ifs, 0⟩] scope pos) (some (.Name y py)) spos.line X.env = pure true := by exact sw_true rfl rfl rfl (by decide +kernel)) :
    PS X (.Assign [.Name y py] (.ListComp elt [⟨tg, iter, ifs, 0⟩] scope pos) spos) (tDS X.K (dAsg i (dFr (dLc di dg dt de (own.map (·.2)))))) := PS.imp (ps_setLc hc hN hy hyl hsw hi ok hg ht he hs) fun D σ H h => tDF_lc hr (tD_fr (tDS_asg h))
end
end Fe
set_option Elab.async false
set_option linter.all false
set_option maxRecDepth 100000
set_option maxHeartbeats 4000000
/-! Layer 1, more rules: several targets, methods of texts, fields of a system, deep ==, in, lists added and repeated. -/
namespace Fe
open PySem L2

/-! ### a, b = x, y -/
def dPar (i j : Nat) (da db : DE) : DS := fun D en => da en fun x => db en fun y => D.nx ((en.set i (some (.dat x))).set j (some (.dat y)))
/-- the second one's own list -/
def dParO (i j : Nat) (da : DE) (dl : DL) : DS := fun D en => da en fun x => dl en fun ds => D.nx ((en.set i (some (.dat x))).set j (some (.own ds)))
def setE (en : En) : List Nat → List D → Option En
  | [], [] => some en
  | i :: is, d :: ds => setE (en.set i (some (.dat d))) is ds
  | _, _ => none
/-- a, b, .. = a tuple, a list -/
def dUnT (is : List Nat) (de : DE) : DS := fun D en => de en fun d => match d with
  | .tup xs => (match setE en is xs with
    | some e1 => D.nx e1
    | none => False)
  | _ => False
def dUnL (is : List Nat) (de : DE) : DS := fun D en => de en fun d => match d with
  | .lst xs => (match setE en is xs with
    | some e1 => D.nx e1
    | none => False)
  | _ => False
def gNames : List Nat → TGs
  | [] => gNil
  | i :: is => gCons (gName i) (gNames is)
section
variable {X : Cx} {K : PySem.W.Frag} {a b : Expr} {da db de : DE} {dl : DL} {pos : Pos}
theorem In0.own {S0 S : Ow} {H0 H H1 : Hp} {p : Addr} {o : HO} {t : Nat} (i0 : In0 S0 H0 S H) (he : HE S H H1) (hp : H p = none) (hv : H1 p = some o) (ht : 2 ≤ t) : In0 S0 H0 (own1 S p t) H1 := by
  have i1 := i0.he' he
  refine ⟨i0.low, i1.ok.own1 hv (by omega), i1.he, fun b z => ?_, fun b z y => ?_, i0.ok0⟩
  · rw [own1_ne]
    · exact i0.ext b z
    · intro y
      have z2 := i0.ext b z
      cases w : S0 b with
      | none => exact z w
      | some t =>
        rw [w] at z2
        obtain ⟨⟨o, ho⟩, _⟩ := i0.ok b t z2
        rw [y, hp] at ho
        cases ho
  · by_cases w : b = p
    · subst w
      cases u : H0 b with
      | none => rfl
      | some o =>
        have := i0.he.keep b o (by rw [z]; exact fun w => nomatch w) u
        rw [hp] at this
        cases this
    · rw [own1_ne w] at y
      exact i0.frs b z y
theorem sd_par {i j : Nat} {x y : Str} {px py pt : Pos} {kt k2 pt2} (hc : X.calm = true) (hN : X.N.Nodup) (ha : PA X [a, b] (tDL X.K 2 (dLcons da (dLcons db dLnil)))) (hi : X.N[i]? = some x := by rfl) (hj : X.N[j]? = some y := by rfl) (hij : i ≠ j := by decide)
    (hx : X.env.scope.names.lookup x = some .local := by rfl) (hy : X.env.scope.names.lookup y = some .local := by rfl)
    (hw : swappedStores [.Tuple [.Name x px, .Name y py] kt pt] (.Tuple [a, b] k2 pt2) X.env = pure (some [x, y]) := by rfl)
    (hs : swapsWithSole [.Tuple [.Name x px, .Name y py] kt pt] (.Tuple [a, b] k2 pt2) pos.line X.env = pure false := by rfl) :
    PS X (.Assign [.Tuple [.Name x px, .Name y py] kt pt] (.Tuple [a, b] k2 pt2) pos) (tDS X.K (dPar i j da db)) := PS.imp (ps_par hc hN hi hj hij hx hy ha hw hs) fun D σ H h => by
  obtain ⟨S0, H0, S, en, Dd, i0, e, q, k1, k2, k3, k4⟩ := h
  refine ⟨S, en, fun ds => ∃ u v, ds = [u, v] ∧ Dd.nx ((en.set i (some (.dat u))).set j (some (.dat v))), i0.ok, e, ?_, fun vs H1 ds he rs hl q1 => ?_⟩
  · show da en fun x => db en fun y => _
    have q' : da en fun x => db en fun y => Dd.nx ((en.set i (some (.dat x))).set j (some (.dat y))) := q
    have ee : (fun x => db en fun y => (fun xs => (fun xs => ∃ u v, xs = [u, v] ∧ Dd.nx ((en.set i (some (.dat u))).set j (some (.dat v)))) (x :: xs)) [y]) = fun x => db en fun y => Dd.nx ((en.set i (some (.dat x))).set j (some (.dat y))) := by
      funext x
      refine congrArg (db en) (funext fun y => propext ⟨fun ⟨u, v, e, z⟩ => ?_, fun z => ⟨x, y, rfl, z⟩⟩)
      cases e
      exact z
    exact ee ▸ q'
  · obtain ⟨u, v, e1, q2⟩ := q1
    subst e1
    obtain ⟨x, y, e2, r1, r2⟩ := rs.two
    subst e2
    exact ⟨x, y, rfl, k1 S _ H1 _ (i0.he' he) he.kp (((e.he he).put (c := .dat u) r1).put (c := .dat v) r2) q2⟩
theorem sd_parO {i j : Nat} {x y : Str} {px py pt : Pos} {kt k2 pt2} (hc : X.calm = true) (hN : X.N.Nodup) (ha : PE X a (tD X.K da)) (hb : PE X b (tDF X.K dl)) (hi : X.N[i]? = some x := by rfl) (hj : X.N[j]? = some y := by rfl) (hij : i ≠ j := by decide)
    (hx : X.env.scope.names.lookup x = some .local := by rfl) (hy : X.env.scope.names.lookup y = some .local := by rfl)
    (he1 : starEach [a, b] X.env = (false, eval a X.env) :: starEach [b] X.env := by rfl) (he2 : starEach [b] X.env = (false, eval b X.env) :: starEach [] X.env := by rfl)
    (hw : swappedStores [.Tuple [.Name x px, .Name y py] kt pt] (.Tuple [a, b] k2 pt2) X.env = pure (some [x, y]) := by rfl)
    (hs : swapsWithSole [.Tuple [.Name x px, .Name y py] kt pt] (.Tuple [a, b] k2 pt2) pos.line X.env = pure false := by rfl) :
    PS X (.Assign [.Tuple [.Name x px, .Name y py] kt pt] (.Tuple [a, b] k2 pt2) pos) (tDS X.K (dParO i j da dl)) := PS.imp (ps_par hc hN hi hj hij hx hy (pa_cons ha (pa_cons hb pa_nil he2) he1) hw hs) fun D σ H h => by
  obtain ⟨S0, H0, S, en, Dd, i0, e, q, k1, k2, k3, k4⟩ := h
  refine ⟨S, en, _, i0.ok, e, q, fun v H1 d he rp q1 => ⟨S, en, _, he.ok i0.ok, e.he he, q1, fun p H2 vs ds hp hx he2 rs q2 => ?_⟩⟩
  refine ⟨v, .ref p, rfl, ?_⟩
  have hh := he.trans hx
  have hp0 : H p = none := he.old i0.ok hp
  refine k1 (own1 S p (j + 2)) _ H2 _ (i0.own hh hp0 he2 (by omega)) (kp_own hp0 hh.kp) (((e.own i0.ok hp0 hh).put (c := .dat d) ?_).put (c := .own ds) ⟨p, vs, rfl, own1_self, he2, rs _⟩) q2
  exact Rp.kp (kp_own hp hx.kp) rp
theorem gNames_ok {S : Ow} {H : Hp} {Q : L2.St → Hp → Prop} : ∀ {is : List Nat} {ds : List D} {vs : List V} {σ : L2.St} {en e1 : En}, EnvOk K S H σ en → RpA K (er S H) vs ds → setE en is ds = some e1 → (∀ σ', EnvOk K S H σ' e1 → Q σ' H) → gNames is vs σ H Q
  | [], ds, vs, σ, en, e1, e, r, h, k => by
    cases ds with
    | nil =>
      cases h
      cases r
      exact ⟨rfl, k σ e⟩
    | cons d ds => cases h
  | i :: is, ds, vs, σ, en, e1, e, r, h, k => by
    cases ds with
    | nil => cases h
    | cons d ds =>
      cases r with
      | cons r1 r2 => exact ⟨_, _, rfl, gNames_ok (e.put (c := .dat d) r1) r2 h k⟩
theorem setE_len : ∀ {is : List Nat} {ds : List D} {en e1 : En}, setE en is ds = some e1 → ds.length = is.length
  | [], [], _, _, _ => rfl
  | [], _ :: _, _, _, h => nomatch h
  | _ :: _, [], _, _, h => nomatch h
  | i :: is, d :: ds, _, _, h => by rw [List.length_cons, List.length_cons, setE_len (is := is) (ds := ds) h]
theorem pgd_nil : PGs X [] (gNames []) := pgs_nil
theorem pgd_cons {e : Expr} {es : List Expr} {i : Nat} {is : List Nat} (h1 : PG X e (gName i)) (h2 : PGs X es (gNames is))
    (hs : (assignEach (e :: es) X.env).map (·.2) = assign e X.env :: (assignEach es X.env).map (·.2) := by rfl) : PGs X (e :: es) (gNames (i :: is)) := pgs_cons h1 h2 hs
theorem sd_unT {es : List Expr} {k : Nat} {is : List Nat} {e : Expr} {tpos : Pos} (hc : X.calm = true) (he : PE X e (tD X.K de)) (hg : PGs X es (gNames is)) (hn : (assignEach es X.env).length = is.length := by rfl) (hst : (assignEach es X.env).findIdx? (·.1) = none := by rfl)
    (hs : swapsWithSole [.Tuple es k tpos] e pos.line X.env = pure false := by rfl) (hw : swappedStores [.Tuple es k tpos] e X.env = pure none := by rfl)
    (h1 : (assignEach [.Tuple es k tpos] X.env).map (·.2) = [assign (.Tuple es k tpos) X.env] := by rfl) : PS X (.Assign [.Tuple es k tpos] e pos) (tDS X.K (dUnT is de)) := PS.imp (ps_asg he (pg_tup hc hg hn hst) hs hw h1) fun D σ H h => by
  obtain ⟨S0, H0, S, en, Dd, i0, e, q, k1, k2, k3, k4⟩ := h
  refine ⟨S, en, _, i0.ok, e, q, fun v H1 d he rp q1 => ?_⟩
  cases rp with
  | tup hr rs =>
    have q2 : (match setE en is _ with
      | some e1 => Dd.nx e1
      | none => False) := q1
    split at q2
    · rename_i e1 hE
      exact ⟨_, _, rfl, SqT.of (er_some hr).2, by rw [rs.length]; exact setE_len hE, gNames_ok (e.he he) rs hE fun σ' e' => k1 S σ' H1 e1 (i0.he' he) he.kp e' q2⟩
    · exact q2.elim
  | _ => exact False.elim q1
theorem sd_unL {es : List Expr} {k : Nat} {is : List Nat} {e : Expr} {tpos : Pos} (hc : X.calm = true) (he : PE X e (tD X.K de)) (hg : PGs X es (gNames is)) (hn : (assignEach es X.env).length = is.length := by rfl) (hst : (assignEach es X.env).findIdx? (·.1) = none := by rfl)
    (hs : swapsWithSole [.Tuple es k tpos] e pos.line X.env = pure false := by rfl) (hw : swappedStores [.Tuple es k tpos] e X.env = pure none := by rfl)
    (h1 : (assignEach [.Tuple es k tpos] X.env).map (·.2) = [assign (.Tuple es k tpos) X.env] := by rfl) : PS X (.Assign [.Tuple es k tpos] e pos) (tDS X.K (dUnL is de)) := PS.imp (ps_asg he (pg_unl hc hg hn hst) hs hw h1) fun D σ H h => by
  obtain ⟨S0, H0, S, en, Dd, i0, e, q, k1, k2, k3, k4⟩ := h
  refine ⟨S, en, _, i0.ok, e, q, fun v H1 d he rp q1 => ?_⟩
  cases rp with
  | lst hr rs =>
    have q2 : (match setE en is _ with
      | some e1 => Dd.nx e1
      | none => False) := q1
    split at q2
    · rename_i e1 hE
      exact ⟨_, _, rfl, .inl (er_rd hr), by rw [rs.length]; exact setE_len hE, gNames_ok (e.he he) rs hE fun σ' e' => k1 S σ' H1 e1 (i0.he' he) he.kp e' q2⟩
    · exact q2.elim
  | _ => exact False.elim q1
end

/-! ### texts -/
def fSplit : F2 := fun a b Q => match a, b with
  | .str x, .str y => (y.length == 0) = false ∧ x.length + 2 ≤ sizeLine ∧ Q (.lst ((Txt.split x y).map .str))
  | _, _ => False
def asStrs : List D → Option (List Str)
  | [] => some []
  | .str b :: r => (asStrs r).map (b :: ·)
  | _ :: _ => none
theorem asStrs_eq : ∀ {ds : List D} {bs : List Str}, asStrs ds = some bs → ds = bs.map D.str
  | [], bs, h => by
    cases h
    rfl
  | d :: r, bs, h => by
    cases d with
    | str b =>
      have h' : (asStrs r).map (b :: ·) = some bs := h
      cases e : asStrs r with
      | none =>
        rw [e] at h'
        cases h'
      | some cs =>
        rw [e] at h'
        cases h'
        rw [asStrs_eq e]
        rfl
    | _ => cases h
theorem asStrs_map : ∀ bs : List Str, asStrs (bs.map D.str) = some bs
  | [] => rfl
  | b :: bs => by
    show (asStrs (bs.map D.str)).map (b :: ·) = _
    rw [asStrs_map bs]
    rfl
def fJoin : F2 := fun a b Q => match a, b with
  | .str x, .lst ds => (match asStrs ds with
    | some ys => (ys.map (·.length)).sum + ys.length * x.length ≤ 16777216 ∧ Q (.str (Txt.join x ys))
    | none => False)
  | _, _ => False
def fSIndex : F2 := fun a b Q => match a, b with
  | .str x, .str y => ∃ i rest, Builtin.Str.occurrences x y 0 x.length 1 = i :: rest ∧ Q (.int (i : Nat))
  | _, _ => False
section
variable {X : Cx} {K : PySem.W.Frag} {o e : Expr} {do' de : DE} {pos apos : Pos}
theorem tD_m1 {r : V → List V → Hp → VK → Prop} {f : F2} (hf : ∀ a b Q, f a b Q → ∃ x, a = .str x) (hr : ∀ (S : Ow) (H : Hp) (x y : V) (a b : D) (Q : D → Prop) (R : VK), Ok S H → Rp K (er S H) x a → Rp K (er S H) y b → f a b Q → (∀ v H' d, HE S H H' → Rp K (er S H') v d → Q d → R v H') → r x [y] H R)
    (hd : ∀ en Q, do' en Q → do' en fun d => (∃ x, d = .str x) ∧ Q d) {σ : L2.St} {H : Hp} {R : VK} (h : tD K (dBin f do' de) σ H R) : tM1 r (tD K do') (tD K de) σ H R := by
  obtain ⟨S, en, Q, ok, e, q, k⟩ := h
  refine ⟨S, en, _, ok, e, hd en _ q, fun v H1 d he rp q1 => ?_⟩
  obtain ⟨⟨x, ex⟩, q1⟩ := q1
  subst ex
  cases rp
  refine ⟨⟨x, rfl⟩, S, en, _, he.ok ok, e.he he, q1, fun w H2 d2 he2 rp2 q2 => ?_⟩
  exact hr S H2 _ w _ d2 Q R (he2.ok (he.ok ok)) (.str x) rp2 q2 fun u H3 d3 he3 rp3 q3 => k u H3 d3 ((he.trans he2).trans he3) rp3 q3
/-- texts alone come on -/
def dS (de : DE) : DE := fun en Q => de en fun d => match d with
  | .str x => Q (.str x)
  | _ => False
theorem dS_str {de : DE} : ∀ en Q, dS de en Q → dS de en fun d => (∃ x, d = .str x) ∧ Q d := by
  intro en Q h
  unfold dS at h ⊢
  have ee : (fun d : D => match d with
    | .str x => Q (.str x)
    | _ => False) = fun d : D => match d with
    | .str x => (∃ y, D.str x = .str y) ∧ Q (.str x)
    | _ => False := by
    funext d
    cases d with
    | str x => exact propext ⟨fun z => ⟨⟨x, rfl⟩, z⟩, fun z => z.2⟩
    | _ => rfl
  exact ee ▸ h
theorem tD_dS {σ : L2.St} {H : Hp} {R : VK} (h : tD K (dS de) σ H R) : tD K de σ H R := by
  obtain ⟨S, en, Q, ok, e, q, k⟩ := h
  refine ⟨S, en, _, ok, e, q, fun v H1 d he rp q1 => ?_⟩
  cases rp with
  | str x => exact k _ H1 _ he (.str x) q1
  | _ => exact False.elim q1
theorem pd_split (ho : PE X o (tD X.K do')) (he : PE X e (tD X.K de)) (hs : starEach [e] X.env = [(false, eval e X.env)] := by rfl) (hb : attributeBase o "split" X.env (eval o X.env) = eval o X.env := by rfl) (hl : (apos.endLine == pos.line) = true := by rfl) :
    PE X (.Call (.Attribute o "split" apos) [e] [] pos) (tD X.K (dBin fSplit (dS do') de)) := PE.imp (pe_split (PE.imp ho fun _ _ _ => tD_dS) he hs hb hl) fun _ _ _ h => tD_m1 (fun a b Q q => by
      unfold fSplit at q
      split at q
      · exact ⟨_, rfl⟩
      · exact q.elim) (fun S H x y a b Q R ok ra rb q k => by
      unfold fSplit at q
      split at q
      · cases ra
        cases rb
        refine ⟨_, _, rfl, rfl, q.1, q.2.1, fun p hp => ?_⟩
        exact k _ _ _ (HE.new hp) (.lst (.inl (er_of (ok.none hp) upd_same)) (RpA.of_strs _)) q.2.2
      · exact q.elim) dS_str h
theorem pd_join (ho : PE X o (tD X.K do')) (he : PE X e (tD X.K de)) (hs : starEach [e] X.env = [(false, eval e X.env)] := by rfl) (hb : attributeBase o "join" X.env (eval o X.env) = eval o X.env := by rfl) (hl : (apos.endLine == pos.line) = true := by rfl) :
    PE X (.Call (.Attribute o "join" apos) [e] [] pos) (tD X.K (dBin fJoin (dS do') de)) := PE.imp (pe_join (PE.imp ho fun _ _ _ => tD_dS) he hs hb hl) fun _ _ _ h => tD_m1 (fun a b Q q => by
      unfold fJoin at q
      split at q
      · exact ⟨_, rfl⟩
      · exact q.elim) (fun S H x y a b Q R ok ra rb q k => by
      unfold fJoin at q
      split at q
      · split at q
        · rename_i z ds ys hy
          rw [asStrs_eq hy] at rb
          cases ra
          cases rb with
          | lst hr rs =>
            rw [rs.strs] at hr
            exact ⟨_, _, ys, rfl, rfl, .inl (.inl (er_rd hr)), q.1, k _ H _ (HE.refl _ _) (.str _) q.2⟩
        · exact q.elim
      · exact q.elim) dS_str h
theorem pd_sindex (ho : PE X o (tD X.K do')) (he : PE X e (tD X.K de)) (hs : starEach [e] X.env = [(false, eval e X.env)] := by rfl) (hb : attributeBase o "index" X.env (eval o X.env) = eval o X.env := by rfl) (hl : (apos.endLine == pos.line) = true := by rfl) :
    PE X (.Call (.Attribute o "index" apos) [e] [] pos) (tD X.K (dBin fSIndex (dS do') de)) := PE.imp (pe_m1 PySem.F.slot_str_index PySem.F.type_str_index mt_sindex (PE.imp ho fun _ _ _ => tD_dS) he hs hb hl) fun _ _ _ h => tD_m1 (fun a b Q q => by
      unfold fSIndex at q
      split at q
      · exact ⟨_, rfl⟩
      · exact q.elim) (fun S H x y a b Q R ok ra rb q k => by
      unfold fSIndex at q
      split at q
      · cases ra
        cases rb
        obtain ⟨i, rest, h1, q⟩ := q
        exact ⟨_, _, i, rest, rfl, rfl, h1, k _ H _ (HE.refl _ _) (.int _) q⟩
      · exact q.elim) dS_str h
end

/-! ### fields of a system -/
inductive Fl where
  | kinds | solid | bounds
def Fl.name : Fl → Str
  | .kinds => "kinds"
  | .solid => "solid"
  | .bounds => "bounds"
def fFld (f : Fl) : F1 := fun d Q => match d with
  | .sys _ k _ s b => (match f with
    | .kinds => Q k
    | .solid => Q s
    | .bounds => Q b)
  | _ => False
/-- what of the text a System must have -/
structure SysF (K : PySem.W.Frag) : Prop where
  cls : Cls K (sysC K)
  nt : NoAttr K (sysC K) "told"
  nk : NoAttr K (sysC K) "kinds"
  nl : NoAttr K (sysC K) "letters"
  ns : NoAttr K (sysC K) "solid"
  nb : NoAttr K (sysC K) "bounds"
theorem pd_fld {X : Cx} {e : Expr} {de : DE} {pos : Pos} (f : Fl) (T : SysF X.K) (he : PE X e (tD X.K de)) (hb : attributeBase e f.name X.env (eval e X.env) = eval e X.env := by rfl) : PE X (.Attribute e f.name pos) (tD X.K (dUn (fFld f) de)) := PE.imp (pe_fld he hb) fun σ H R h => by
  obtain ⟨S, en, Q, ok, e, q, k⟩ := h
  refine ⟨S, en, _, ok, e, q, fun v H1 d he rp q1 => ?_⟩
  unfold fFld at q1
  split at q1
  · cases rp with
    | sys ho l1 l2 l3 l4 l5 r1 r2 r3 r4 r5 =>
      cases f with
      | kinds => exact ⟨_, _, _, _, _, rfl, (er_some ho).2, T.cls, T.nk, l2, k _ H1 _ he r2 q1⟩
      | solid => exact ⟨_, _, _, _, _, rfl, (er_some ho).2, T.cls, T.ns, l4, k _ H1 _ he r4 q1⟩
      | bounds => exact ⟨_, _, _, _, _, rfl, (er_some ho).2, T.cls, T.nb, l5, k _ H1 _ he r5 q1⟩
  · exact q1.elim
end Fe
set_option Elab.async false
set_option linter.all false
set_option maxRecDepth 100000
set_option maxHeartbeats 4000000
/-! Layer 1: zip of two things and enumerate of one, each a list, a tuple or a text. -/
namespace Fe
open PySem PySem.Spec PyProof.Rows L2

/-- what one part of a zip walks -/
inductive Src where
  | l (a : Addr) | t (a : Addr) | s (x : Str) (k : Tok)
def Src.val : Src → Value
  | .l a => .ref a
  | .t a => .ref a
  | .s x k => .str x k
def Src.has (H : Hp) : Src → List V → Prop
  | .l a, vs => Rd H a (.lst vs)
  | .t a, vs => H a = some (.tup vs)
  | .s x _, vs => vs = x.cps.toList.map fun c => V.str ⟨#[c]⟩
/-- its iterator at the i-th step -/
def Src.it (it : Addr) (i : Nat) (h : Heap) : Src → Prop
  | .l a => h.IsListIter it a i
  | .t a => h.IsTupleIter it a i
  | .s x k => h.IsStrIter it (strIterType x) x k i
theorem Src.it_at {it : Addr} {i : Nat} {h h' : Heap} {c : Src} (q : c.it it i h) (k : ∀ o, h.get? it = some o → h'.get? it = some o) : c.it it i h' := by
  cases c with
  | l a => exact Heap.IsListIter.at q k
  | t a => exact Heap.IsTupleIter.at q k
  | s x u =>
    obtain ⟨o, ho, r⟩ := q
    exact ⟨o, k o ho, r⟩
theorem Src.it_obj {it : Addr} {i : Nat} {h : Heap} {c : Src} (q : c.it it i h) : ∃ o, h.get? it = some o ∧ ∀ v, o.data ≠ .cell v := by
  cases c with
  | l a =>
    obtain ⟨o, e, _, d⟩ := q
    exact ⟨o, e, fun v z => by rw [d] at z; cases z⟩
  | t a =>
    obtain ⟨o, e, _, d⟩ := q
    exact ⟨o, e, fun v z => by rw [d] at z; cases z⟩
  | s x u =>
    obtain ⟨o, e, _, d⟩ := q
    exact ⟨o, e, fun v z => by rw [d] at z; cases z⟩
theorem Src.has_inj {H : Hp} {c : Src} {vs ws : List V} (h : c.has H vs) (q : c.has H ws) : vs = ws := by
  cases c with
  | l a => exact sqL_inj h q
  | t a =>
    have h1 : H a = some (.tup vs) := h
    have h2 : H a = some (.tup ws) := q
    rw [h1] at h2
    cases h2
    rfl
  | s x k =>
    have h1 : vs = _ := h
    have h2 : ws = _ := q
    rw [h1, h2]
section
variable {X : Cx} {pins : List (Addr × Obj)} {σ : L2.St} {H : Hp} {s : Shared}
/-- what its iterator draws -/
theorem Src.draws (I : Inv X pins σ H s) (hc : X.calm = true) {c : Src} {vs : List V} (h : c.has H vs) {it : Addr} (hn : H it = none) {i : Nat} (q : c.it it i s.heap) :
    ∃ (fp : List Addr) (P : Nat → Value → Prop) (St : Nat → Heap → Prop), Draws X.prog X.w X.A.in1 it fp vs.length P St ∧ it ∈ fp ∧ (∀ b ∈ fp, b = it ∨ ∃ o, H b = some o) ∧ St i s.heap ∧ (∀ j h', St j h' → c.it it j h') ∧
      ∀ j u, P j u → ∃ x, vs[j]? = some x ∧ RelV x u := by
  have hh : X.A.in1.handled = none := I.ok.hd hc
  cases c with
  | l a =>
    have ha : ∃ o, H a = some o := by
      rcases h with h | ⟨o, h⟩
      · exact ⟨_, h⟩
      · exact ⟨_, h⟩
    obtain ⟨its, rv, p, _⟩ := I.list (.inl h)
    have hne : a ≠ it := fun e => by
      obtain ⟨o, z⟩ := ha
      rw [e, hn] at z
      cases z
    have D := Draws.list (prog := X.prog) (w := X.w) hh it a hne its.toArray
    rw [List.size_toArray, ← rv.length] at D
    refine ⟨_, _, _, D, by simp, fun b hb => ?_, ⟨q, p.isList⟩, fun j h' z => z.1, fun j u z => ?_⟩
    · have e : b = it ∨ b = a := by simpa using hb
      rcases e with e | e
      · exact .inl e
      · rw [e]
        exact .inr ha
    · have hj : j < vs.length := by
        have := (Array.getElem?_eq_some_iff.mp z).1
        rw [List.size_toArray, ← rv.length] at this
        exact this
      obtain ⟨u2, h1, h2⟩ := rv.get (List.getElem?_eq_getElem hj)
      have z2 : its[j]? = some u := by simpa using z
      rw [h1] at z2
      cases z2
      exact ⟨_, List.getElem?_eq_getElem hj, h2⟩
  | t a =>
    have h1 : H a = some (.tup vs) := h
    obtain ⟨its, rv, p, _⟩ := I.tuple (SqT.of h1)
    have hne : a ≠ it := fun e => by
      rw [e, hn] at h1
      cases h1
    have D := Draws.tuple (prog := X.prog) (w := X.w) hh it a hne its.toArray
    rw [List.size_toArray, ← rv.length] at D
    refine ⟨_, _, _, D, by simp, fun b hb => ?_, ⟨q, p⟩, fun j h' z => z.1, fun j u z => ?_⟩
    · have e : b = it ∨ b = a := by simpa using hb
      rcases e with e | e
      · exact .inl e
      · rw [e]
        exact .inr ⟨_, h1⟩
    · have hj : j < vs.length := by
        have := (Array.getElem?_eq_some_iff.mp z).1
        rw [List.size_toArray, ← rv.length] at this
        exact this
      obtain ⟨u2, h1, h2⟩ := rv.get (List.getElem?_eq_getElem hj)
      have z2 : its[j]? = some u := by simpa using z
      rw [h1] at z2
      cases z2
      exact ⟨_, List.getElem?_eq_getElem hj, h2⟩
  | s x k =>
    have h1 : vs = _ := h
    subst h1
    have D := Draws.text (prog := X.prog) (w := X.w) hh it x k
    rw [← Array.length_toList, ← List.length_map (f := fun c => V.str ⟨#[c]⟩)] at D
    refine ⟨_, _, _, D, by simp, fun b hb => .inl (by simpa using hb), q, fun j h' z => z, fun j u z => ?_⟩
    obtain ⟨c, u2, e1, e2⟩ := z
    subst e2
    refine ⟨.str ⟨#[c]⟩, ?_, u2, rfl⟩
    rw [List.getElem?_map, Array.getElem?_toList, e1]
    rfl
theorem Src.begins (I : Inv X pins σ H s) {c : Src} {vs : List V} (h : c.has H vs) : ∃ (o : Obj) (B : Heap → Prop), Begins c.val o B ∧ B s.heap ∧ ∀ (h' : Heap) (it : Addr), h'.get? it = some o → c.it it 0 h' := by
  cases c with
  | l a =>
    obtain ⟨its, rv, p, _⟩ := I.list (.inl h)
    exact ⟨_, _, begins_list a its.toArray, p.isList, fun h' it e => ⟨_, e, rfl, rfl⟩⟩
  | t a =>
    obtain ⟨its, rv, p, _⟩ := I.tuple (SqT.of (show H a = some (.tup vs) from h))
    exact ⟨_, _, begins_tuple a its.toArray, p, fun h' it e => ⟨_, e, rfl, rfl⟩⟩
  | s x k => exact ⟨_, _, begins_text x k, trivial, fun h' it e => ⟨_, e, rfl, rfl⟩⟩
end

/-! ### zip -/
def Itzz (c d : Src) : It :=
  ⟨fun i H => ∃ xs ys x y, c.has H xs ∧ d.has H ys ∧ xs[i]? = some x ∧ ys[i]? = some y,
    fun i H v H' => ∃ T x y, v = .ref T ∧ H T = none ∧ H' = upd H T (.tup [x, y]) ∧ (∀ xs, c.has H xs → xs[i]? = some x) ∧ ∀ ys, d.has H ys → ys[i]? = some y,
    fun i H => ∃ xs ys, c.has H xs ∧ d.has H ys ∧ i = min xs.length ys.length⟩
theorem turn_zz {P : Program} {w : World} {K : PySem.W.Frag} {elts : List Expr} {kk : Nat} {tpos : Pos} {c d : Src} {z TI TO i1 i2 : Addr} (n1 : TI ≠ z) (n2 : TO ≠ z) (n3 : TI ≠ TO) (n4 : TI ≠ i1) (n5 : TI ≠ i2) (n6 : TO ≠ i1) (n7 : TO ≠ i2) (n8 : i1 ≠ i2) (n9 : z ≠ i1) (n10 : z ≠ i2) :
    Turn P w K (.Tuple elts kk tpos) (Itzz c d) [z, TI, TO, i1, i2] z (fun i h => IsZip h z TI TO .none ∧ IsTupOf2 h TI (.ref i1) (.ref i2) ∧ (∃ x y, IsTupOf2 h TO x y) ∧ c.it i1 i h ∧ d.it i2 i h) where
  mem := by simp
  obj := fun i h st b hb => by
    obtain ⟨hz, hTI, ⟨x, y, hTO⟩, h1, h2⟩ := st
    have e : b = z ∨ b = TI ∨ b = TO ∨ b = i1 ∨ b = i2 := by simpa using hb
    rcases e with q | q | q | q | q
    · rw [q]
      exact ⟨_, hz, fun v q => nomatch q⟩
    · rw [q]
      exact ⟨_, hTI, fun v q => nomatch q⟩
    · rw [q]
      exact ⟨_, hTO, fun v q => nomatch q⟩
    · rw [q]
      exact Src.it_obj h1
    · rw [q]
      exact Src.it_obj h2
  keep := fun i h h' st k => by
    obtain ⟨hz, hTI, ⟨x, y, hTO⟩, h1, h2⟩ := st
    exact ⟨k z (by simp) _ hz, k TI (by simp) _ hTI, ⟨x, y, k TO (by simp) _ hTO⟩, Src.it_at h1 fun o q => k i1 (by simp) o q, Src.it_at h2 fun o q => k i2 (by simp) o q⟩
  item := by
    intro X hP hw hK hc i pins s σ H E I hf st hg
    subst hP hw hK
    obtain ⟨hz, hTI, hTO, h1, h2⟩ := st
    obtain ⟨xs, ys, x, y, hx, hy, ex, ey⟩ := hg
    have f1 := hf i1 (by simp)
    have f2 := hf i2 (by simp)
    have nz : ∀ b ∈ [z, TI, TO, i1, i2], H b = none := fun b hb => (hf b hb).1
    obtain ⟨fp1, P1, S1, D1, m1, a1, st1, b1, p1⟩ := Src.draws I hc hx f1.1 h1
    obtain ⟨fp2, P2, S2, D2, m2, a2, st2, b2, p2⟩ := Src.draws I hc hy f2.1 h2
    have off : ∀ {fp : List Addr} {it b : Addr}, (∀ b ∈ fp, b = it ∨ ∃ o, H b = some o) → b ∈ [z, TI, TO, i1, i2] → b ≠ it → b ∉ fp := fun {fp it b} a hb ne hm => by
      rcases a b hm with q | ⟨o, q⟩
      · exact ne q
      · rw [nz b hb] at q
        cases q
    have SS : ZipSep2 z TI TO i1 i2 fp1 fp2 :=
      { TIz := n1, TOz := n2, TITO := n3, TIi1 := n4, mem1 := m1, zf1 := off a1 (by simp) n9, Tf1 := off a1 (by simp) n6,
        TIi2 := n5, mem2 := m2, zf2 := off a2 (by simp) n10, Tf2 := off a2 (by simp) n7, sep1_2 := off a2 (by simp) n8, sep2_1 := off a1 (by simp) n8.symm }
    have G := GoesN.zip2 (elts := elts) (x1 := kk) (pos := tpos) SS D1 D2
    have l1 := (List.getElem?_eq_some_iff.mp ex).1
    have l2 := (List.getElem?_eq_some_iff.mp ey).1
    refine G.goes i s _ E (by omega) ⟨hz, hTI, hTO, st1, st2⟩ fun v h' tk hY st' kk' _ => ?_
    obtain ⟨T, u1, u2, ev, hT, q1, q2, hTup⟩ := hY
    subst ev
    obtain ⟨x', e1, r1⟩ := p1 i u1 q1
    obtain ⟨y', e2, r2⟩ := p2 i u2 q2
    rw [ex] at e1
    rw [ey] at e2
    cases e1
    cases e2
    have new : ObjOk X.prog X.w (upd H T (.tup [x, y])) h' T (.tup [x, y]) := ⟨by show 2 ≤ sizeLine; decide, [u1, u2], .cons r1 (.cons r2 .nil), hTup⟩
    have I1 : Inv X pins σ (upd H T (.tup [x, y])) { s with heap := h', toks := tk } := I.turnedNew (t' := tk) (ch := [z, TO, i1, i2]) (fun b o hb q => kk' b o hb q) (fun b hb => hf b (by
      have e : b = z ∨ b = TO ∨ b = i1 ∨ b = i2 := by simpa using hb
      rcases e with q | q | q | q <;> rw [q] <;> simp)) hT new
    obtain ⟨s1, s2, s3, s4, s5⟩ := st'
    refine ⟨.ref T, _, I1, rfl, ⟨T, x, y, rfl, I.hok.fresh hT, rfl, fun ws hw => by rw [Src.has_inj hw hx]; exact ex, fun ws hw => by rw [Src.has_inj hw hy]; exact ey⟩, ⟨s1, s2, s3, b1 _ _ s4, b2 _ _ s5⟩, fun b hb => ?_⟩
    have lt : b < s.heap.objs.size := by
      obtain ⟨x0, y0, hTO'⟩ := hTO
      have e : b = z ∨ b = TI ∨ b = TO ∨ b = i1 ∨ b = i2 := by simpa using hb
      rcases e with q | q | q | q | q
      · rw [q]
        exact Heap.lt_size hz
      · rw [q]
        exact Heap.lt_size hTI
      · rw [q]
        exact Heap.lt_size hTO'
      · rw [q]
        obtain ⟨o, eo, _⟩ := Src.it_obj h1
        exact Heap.lt_size eo
      · rw [q]
        obtain ⟨o, eo, _⟩ := Src.it_obj h2
        exact Heap.lt_size eo
    rw [upd_ne (Nat.ne_of_lt (Nat.lt_of_lt_of_le lt hT))]
    exact nz b hb
  done := by
    intro X hP hw hK hc i pins s σ H E I hf st hg
    subst hP hw hK
    obtain ⟨hz, hTI, hTO, h1, h2⟩ := st
    obtain ⟨xs, ys, hx, hy, ei⟩ := hg
    have f1 := hf i1 (by simp)
    have f2 := hf i2 (by simp)
    have nz : ∀ b ∈ [z, TI, TO, i1, i2], H b = none := fun b hb => (hf b hb).1
    obtain ⟨fp1, P1, S1, D1, m1, a1, st1, b1, p1⟩ := Src.draws I hc hx f1.1 h1
    obtain ⟨fp2, P2, S2, D2, m2, a2, st2, b2, p2⟩ := Src.draws I hc hy f2.1 h2
    have off : ∀ {fp : List Addr} {it b : Addr}, (∀ b ∈ fp, b = it ∨ ∃ o, H b = some o) → b ∈ [z, TI, TO, i1, i2] → b ≠ it → b ∉ fp := fun {fp it b} a hb ne hm => by
      rcases a b hm with q | ⟨o, q⟩
      · exact ne q
      · rw [nz b hb] at q
        cases q
    have SS : ZipSep2 z TI TO i1 i2 fp1 fp2 :=
      { TIz := n1, TOz := n2, TITO := n3, TIi1 := n4, mem1 := m1, zf1 := off a1 (by simp) n9, Tf1 := off a1 (by simp) n6,
        TIi2 := n5, mem2 := m2, zf2 := off a2 (by simp) n10, Tf2 := off a2 (by simp) n7, sep1_2 := off a2 (by simp) n8, sep2_1 := off a1 (by simp) n8.symm }
    have G := GoesN.zip2 (elts := elts) (x1 := kk) (pos := tpos) SS D1 D2
    subst ei
    refine G.stops s _ E ⟨hz, hTI, hTO, st1, st2⟩ fun h' tk k' _ => ?_
    exact I.turnedL (t' := tk) (ch := [z, TO, i1, i2]) (fun b o hb q => k' b o hb q) fun b hb => hf b (by
      have e : b = z ∨ b = TO ∨ b = i1 ∨ b = i2 := by simpa using hb
      rcases e with q | q | q | q <;> rw [q] <;> simp)
  self := fun A i s Q E st h => wpAny_pyIter_zip st.1 h

/-! ### over data -/
def itemsD : D → Option (List D)
  | .lst xs => some xs
  | .tup xs => some xs
  | .str x => some (x.cps.toList.map fun c => .str ⟨#[c]⟩)
  | _ => none
def zipD (xs ys : List D) : List D := (xs.zip ys).map fun p => .tup [p.1, p.2]
def dZip (da db : DE) : DL := fun en Q => da en fun x => db en fun y => match itemsD x, itemsD y with
  | some xs, some ys => Q (zipD xs ys)
  | _, _ => False
theorem RpA.of_signs {K : PySem.W.Frag} {H : Hp} : ∀ l : List Nat, RpA K H (l.map fun c => V.str ⟨#[c]⟩) (l.map fun c => D.str ⟨#[c]⟩)
  | [] => .nil
  | _ :: l => .cons (.str _) (RpA.of_signs l)
/-- the part of a zip that a value is -/
theorem src_of {K : PySem.W.Frag} {S : Ow} {H : Hp} {v : V} {u : Value} {d : D} {ds : List D} (r : Rp K (er S H) v d) (rv : RelV v u) (h : itemsD d = some ds) : ∃ (c : Src) (vs : List V), c.val = u ∧ RpA K (er S H) vs ds ∧ ∀ S' H', Kp (er S H) (er S' H') → c.has H' vs := by
  cases r with
  | lst hr rs =>
    cases h
    cases rv
    exact ⟨.l _, _, rfl, rs, fun S' H' k => er_rd (Rd.kp k hr)⟩
  | tup hr rs =>
    cases h
    cases rv
    exact ⟨.t _, _, rfl, rs, fun S' H' k => (er_some (k _ _ hr)).2⟩
  | str x =>
    cases h
    obtain ⟨t, e⟩ := rv
    exact ⟨.s x t, _, e.symm, RpA.of_signs _, fun _ _ _ => rfl⟩
  | _ => cases h
theorem zip_get {xs ys : List D} {i : Nat} {d : D} (h : (zipD xs ys)[i]? = some d) : ∃ x y, xs[i]? = some x ∧ ys[i]? = some y ∧ d = .tup [x, y] := by
  unfold zipD at h
  rw [List.getElem?_map] at h
  cases e : (xs.zip ys)[i]? with
  | none =>
    rw [e] at h
    cases h
  | some p =>
    rw [e] at h
    cases h
    obtain ⟨h1, h2⟩ := List.getElem?_zip_eq_some.mp e
    exact ⟨p.1, p.2, h1, h2, rfl⟩
theorem wk_zip {K : PySem.W.Frag} {S : Ow} {H : Hp} {c d : Src} {vs ws : List V} {xs ys : List D} (r1 : RpA K (er S H) vs xs) (r2 : RpA K (er S H) ws ys) (h1 : ∀ S' H', Kp (er S H) (er S' H') → c.has H' vs) (h2 : ∀ S' H', Kp (er S H) (er S' H') → d.has H' ws) : Wk K S (Itzz c d) H (zipD xs ys) := by
  intro S' H' ok kp
  have a1 := h1 S' H' kp
  have a2 := h2 S' H' kp
  have ll : (zipD xs ys).length = min vs.length ws.length := by
    unfold zipD
    rw [List.length_map, List.length_zip, r1.length, r2.length]
  refine ⟨fun i e he => ?_, ⟨vs, ws, a1, a2, ll⟩⟩
  obtain ⟨x, y, e1, e2, e3⟩ := zip_get he
  subst e3
  obtain ⟨v, g1, q1⟩ := r1.get e1
  obtain ⟨u, g2, q2⟩ := r2.get e2
  refine ⟨⟨vs, ws, v, u, a1, a2, g1, g2⟩, fun x' H2 yy => ?_⟩
  obtain ⟨T, x2, y2, ev, hT, eH, z1, z2⟩ := yy
  subst ev eH
  have w1 := z1 vs a1
  have w2 := z2 ws a2
  rw [g1] at w1
  rw [g2] at w2
  cases w1
  cases w2
  have he2 : HE S' H' (upd H' T (.tup [v, u])) := HE.new hT
  exact ⟨he2, .tup (er_of (ok.none hT) upd_same) (.cons (Rp.kp (kp.trans he2.kp) q1) (.cons (Rp.kp (kp.trans he2.kp) q2) .nil))⟩
theorem pid_z {X : Cx} {a b : Expr} {da db : DE} {p pos tpos : Pos} {elts : List Expr} {kk : Nat} (hm : X.mg "zip" = none) (ha : PE X a (tD X.K da)) (hb : PE X b (tD X.K db)) (hg : Gl X "zip")
    (hs1 : starEach [a, b] X.env = (false, eval a X.env) :: starEach [b] X.env := by rfl) (hs2 : starEach [b] X.env = (false, eval b X.env) :: starEach [] X.env := by rfl) (hpl : (backTo pos (starEach [b] X.env)).any (·.1) = false := by rfl) :
    PI X (.Tuple elts kk tpos) (.Call (.Name "zip" p) [a, b] [] pos) (tDI X.K (dZip da db)) := by
  refine ⟨fun pins s σ H R I h => ?_⟩
  obtain ⟨S, en, Q, ok, e, q, k⟩ := h
  have ht : tCons (tD X.K da) (tCons (tD X.K db) tNil) σ H fun vs H2 => ∃ v w x y, vs = [v, w] ∧ HE S H H2 ∧ Rp X.K (er S H2) v x ∧ Rp X.K (er S H2) w y ∧ (match itemsD x, itemsD y with
    | some xs, some ys => Q (zipD xs ys)
    | _, _ => False) :=
    ⟨S, en, _, ok, e, q, fun v H1 d he rp q1 => ⟨S, en, _, he.ok ok, e.he he, q1, fun w H2 d2 he2 rp2 q2 => ⟨v, w, d, d2, rfl, he.trans he2, Rp.kp he2.kp rp, rp2, q2⟩⟩⟩
  refine Call_ (ld_blt I hg hm PyProof.Rows.boot_zip (PyProof.Rows.callWith_type1 (thn ((pa_cons ha (pa_cons hb pa_nil hs2) hs1).run pos pins s σ H _ I ht) fun us s1 ⟨vs, H1, I1, r1, q1⟩ => ?_) hs1 hpl))
  obtain ⟨v, w, x, y, ev, he, rx, ry, q1⟩ := q1
  subst ev
  obtain ⟨u1, u2, eu, rv, rw'⟩ := vals2 r1
  subst eu
  split at q1
  · rename_i xs ys ex ey
    obtain ⟨c, vs, ec, rs1, hc1⟩ := src_of rx rv ex
    obtain ⟨d, ws, ed, rs2, hc2⟩ := src_of ry rw' ey
    subst ec ed
    obtain ⟨o1, B1, b1, bs1, bi1⟩ := Src.begins I1 (hc1 S H1 (Kp.refl _))
    obtain ⟨o2, B2, b2, bs2, bi2⟩ := Src.begins I1 (hc2 S H1 (Kp.refl _))
    refine zip_begins2 b1 b2 bs1 bs2 fun h' hz hTI hTO g1 g2 hsz hk => wpAny_pyIter_zip hz ?_
    have I2 : Inv X pins σ H1 { s1 with heap := h' } := I1.kept (t' := s1.toks) hk
    have fr : ∀ b, b ∈ [s1.heap.objs.size + 4, s1.heap.objs.size + 2, s1.heap.objs.size + 3, s1.heap.objs.size, s1.heap.objs.size + 1] → FpOk X pins H1 b := fun b hb => by
      have hle : s1.heap.objs.size ≤ b := by
        have e : b = s1.heap.objs.size + 4 ∨ b = s1.heap.objs.size + 2 ∨ b = s1.heap.objs.size + 3 ∨ b = s1.heap.objs.size ∨ b = s1.heap.objs.size + 1 := by simpa using hb
        rcases e with z | z | z | z | z
        · rw [z]; exact Nat.le_add_right _ _
        · rw [z]; exact Nat.le_add_right _ _
        · rw [z]; exact Nat.le_add_right _ _
        · rw [z]; exact Nat.le_refl _
        · rw [z]; exact Nat.le_add_right _ _
      exact I1.fpOk hle (I1.hok.fresh hle)
    have nn : ∀ {i j : Nat}, i ≠ j → (s1.heap.objs.size + i : Nat) ≠ s1.heap.objs.size + j := fun {i j} h z => h (Nat.add_left_cancel z)
    refine ⟨s1.heap.objs.size + 4, [s1.heap.objs.size + 4, s1.heap.objs.size + 2, s1.heap.objs.size + 3, s1.heap.objs.size, s1.heap.objs.size + 1], _, _, H1, rfl, I2,
      turn_zz (c := c) (d := d) (i1 := s1.heap.objs.size) (i2 := s1.heap.objs.size + 1) (nn (by decide)) (nn (by decide)) (nn (by decide)) (nn (i := 2) (j := 0) (by decide)) (nn (by decide)) (nn (i := 3) (j := 0) (by decide)) (nn (by decide)) (nn (i := 0) (j := 1) (by decide)) (nn (i := 4) (j := 0) (by decide)) (nn (by decide)),
      ⟨hz, hTI, ⟨_, _, hTO⟩, bi1 _ _ g1, bi2 _ _ g2⟩, fr, k _ H1 _ he (wk_zip rs1 rs2 hc1 hc2) q1⟩
  · exact q1.elim
end Fe
set_option Elab.async false
set_option linter.all false
set_option maxRecDepth 100000
set_option maxHeartbeats 4000000
/-! Layer 1: enumerate of a list or a tuple. -/
namespace Fe
open PySem PySem.Spec PyProof.Rows L2

theorem meets_enum1 {v : Value} {o : Obj} {B : Heap → Prop} (b : Begins v o B) :
    Meets (Builtin.«enumerate.__new__» ⟨[.type "enumerate", v], []⟩) (fun _ R s => B s.heap ∧
      R (.ok (.ret (.ref (s.heap.push o).objs.size))) { s with heap := (s.heap.push o).push { cls := .type "enumerate", data := .fields #[.none, .bool false, .ref s.heap.objs.size, rawInt 0, .none, .none] } }) :=
  .of_wp fun prog w A R s h => by
    obtain ⟨hp, g, d, tk, os⟩ := s
    obtain ⟨hB, h⟩ := h
    have hsub := sub_enumerate
    have q1 : ∀ {A' : Around} {E : Value → Shared → Prop} {Q : Value → Shared → Prop}, Q (.ref hp.objs.size) ⟨hp.push o, g, d, tk, os⟩ → wpAny (model prog w) A' (pyIter v) Q E ⟨hp, g, d, tk, os⟩ := fun q => b.iter prog w _ _ ⟨hp, g, d, tk, os⟩ _ hB q
    wp_walk using q1
    refine wpAny_stack_any fun st => wpAny_pure ?_
    split
    · rename_i c _ _ _ _ _
      cases (c == Value.type "enumerate")
      · wp_walk using q1
        exact ⟨_, rfl, h⟩
      · wp_walk using q1
        exact ⟨_, rfl, h⟩
    · wp_walk using q1
      exact ⟨_, rfl, h⟩
theorem enum1 {prog : Program} {w : World} {A : Around} {E : Value → Shared → Prop} {s : Shared} {v : Value} {o : Obj} {B : Heap → Prop} {Q : Value → Shared → Prop} (b : Begins v o B) (h1 : B s.heap)
    (h : ∀ h', IsEnum h' (s.heap.objs.size + 1) s.heap.objs.size 0 .none → h'.get? s.heap.objs.size = some o → (∀ b o, s.heap.get? b = some o → h'.get? b = some o) → Q (.ref (s.heap.objs.size + 1)) { s with heap := h' }) :
    wpAny (model prog w) A (call (.type "enumerate") [v]) Q E s := by
  refine callType_new F.called_enumerate (by decide) (F.typeCall_enumerate_1 _) (F.newCall_enumerate_1 _) (fun obj => F.args_object_init_2 obj _) F.entry_enumerate_new (meets_enum1 b) ⟨h1, ?_⟩
  have hz : (s.heap.push o).objs.size = s.heap.objs.size + 1 := Heap.size_push ..
  show _ ∧ _
  rw [hz]
  have he : IsEnum ((s.heap.push o).push { cls := .type "enumerate", data := .fields #[.none, .bool false, .ref s.heap.objs.size, rawInt 0, .none, .none] }) (s.heap.objs.size + 1) s.heap.objs.size 0 .none := by
    have q := Heap.get?_push_size (s.heap.push o) (o := { cls := .type "enumerate", data := .fields #[.none, .bool false, .ref s.heap.objs.size, rawInt 0, .none, .none] }) rfl
    rw [hz] at q
    exact q
  exact ⟨⟨_, he, rfl⟩, h _ he (Heap.get?_push_of_some _ (Heap.get?_push_size _ b.free)) fun b o x => Heap.get?_push_of_some _ (Heap.get?_push_of_some _ x)⟩

def Iten (c : Src) : It :=
  ⟨fun i H => ∃ xs x, c.has H xs ∧ xs[i]? = some x,
    fun i H v H' => ∃ T x, v = .ref T ∧ H T = none ∧ H' = upd H T (.tup [.int (i : Nat), x]) ∧ ∀ xs, c.has H xs → xs[i]? = some x,
    fun i H => ∃ xs, c.has H xs ∧ i = xs.length⟩
theorem turn_en {P : Program} {w : World} {K : PySem.W.Frag} {elts : List Expr} {kk : Nat} {tpos : Pos} {c : Src} {e it : Addr} (n1 : e ≠ it) :
    Turn P w K (.Tuple elts kk tpos) (Iten c) [e, it] e (fun i h => (∃ old, IsEnum h e it (0 + (i : Int)) old) ∧ c.it it i h) where
  mem := by simp
  obj := fun i h st b hb => by
    obtain ⟨⟨old, h1⟩, h2⟩ := st
    have q : b = e ∨ b = it := by simpa using hb
    rcases q with q | q
    · rw [q]
      exact ⟨_, h1, fun v q => nomatch q⟩
    · rw [q]
      exact Src.it_obj h2
  keep := fun i h h' st k => by
    obtain ⟨⟨old, h1⟩, h2⟩ := st
    exact ⟨⟨old, k e (by simp) _ h1⟩, Src.it_at h2 fun o q => k it (by simp) o q⟩
  item := by
    intro X hP hw hK hc i pins s σ H E I hf st hg
    subst hP hw hK
    obtain ⟨h1, h2⟩ := st
    obtain ⟨xs, x, hx, ex⟩ := hg
    have nz : ∀ b ∈ [e, it], H b = none := fun b hb => (hf b hb).1
    obtain ⟨fp1, P1, S1, D1, m1, a1, st1, b1, p1⟩ := Src.draws I hc hx (nz it (by simp)) h2
    have off : e ∉ fp1 := fun hm => by
      rcases a1 e hm with q | ⟨o, q⟩
      · exact n1 q
      · rw [nz e (by simp)] at q
        cases q
    have G := GoesN.enumFrom (elts := elts) (x1 := kk) (pos := tpos) 0 D1 e n1 off m1
    have l1 := (List.getElem?_eq_some_iff.mp ex).1
    refine G.goes i s _ E l1 ⟨h1, st1⟩ fun v h' tk hY st' kk' _ => ?_
    obtain ⟨T, t, u1, ev, hT, q1, hTup⟩ := hY
    subst ev
    obtain ⟨x', e1, r1⟩ := p1 i u1 q1
    rw [ex] at e1
    cases e1
    have new : ObjOk X.prog X.w (upd H T (.tup [.int (i : Nat), x])) h' T (.tup [.int (i : Nat), x]) := ⟨by show 2 ≤ sizeLine; decide, [_, u1], .cons ⟨t, by rw [Int.zero_add]⟩ (.cons r1 .nil), hTup⟩
    have I1 : Inv X pins σ (upd H T (.tup [.int (i : Nat), x])) { s with heap := h', toks := tk } := I.turnedNew (t' := tk) (ch := [e, it]) (fun b o hb q => kk' b o hb q) hf hT new
    obtain ⟨s1, s2⟩ := st'
    refine ⟨.ref T, _, I1, rfl, ⟨T, x, rfl, I.hok.fresh hT, rfl, fun ws hw => by rw [Src.has_inj hw hx]; exact ex⟩, ⟨s1, b1 _ _ s2⟩, fun b hb => ?_⟩
    have lt : b < s.heap.objs.size := by
      have q : b = e ∨ b = it := by simpa using hb
      rcases q with q | q
      · rw [q]
        obtain ⟨old, z⟩ := h1
        exact Heap.lt_size z
      · rw [q]
        obtain ⟨o, eo, _⟩ := Src.it_obj h2
        exact Heap.lt_size eo
    rw [upd_ne (Nat.ne_of_lt (Nat.lt_of_lt_of_le lt hT))]
    exact nz b hb
  done := by
    intro X hP hw hK hc i pins s σ H E I hf st hg
    subst hP hw hK
    obtain ⟨h1, h2⟩ := st
    obtain ⟨xs, hx, ei⟩ := hg
    have nz : ∀ b ∈ [e, it], H b = none := fun b hb => (hf b hb).1
    obtain ⟨fp1, P1, S1, D1, m1, a1, st1, b1, p1⟩ := Src.draws I hc hx (nz it (by simp)) h2
    have off : e ∉ fp1 := fun hm => by
      rcases a1 e hm with q | ⟨o, q⟩
      · exact n1 q
      · rw [nz e (by simp)] at q
        cases q
    have G := GoesN.enumFrom (elts := elts) (x1 := kk) (pos := tpos) 0 D1 e n1 off m1
    subst ei
    refine G.stops s _ E ⟨h1, st1⟩ fun h' tk k' _ => ?_
    exact I.turnedL (t' := tk) (ch := [e, it]) (fun b o hb q => k' b o hb q) hf
  self := fun A i s Q E st h => by
    obtain ⟨⟨old, z⟩, _⟩ := st
    exact wpAny_pyIter_enum z h

def enumD (xs : List D) : List D := xs.zipIdx.map fun p => .tup [.int (p.2 : Nat), p.1]
def dEnum (de : DE) : DL := fun en Q => de en fun x => match itemsD x with
  | some xs => Q (enumD xs)
  | none => False
theorem wk_enum {K : PySem.W.Frag} {S : Ow} {H : Hp} {c : Src} {vs : List V} {xs : List D} (r1 : RpA K (er S H) vs xs) (h1 : ∀ S' H', Kp (er S H) (er S' H') → c.has H' vs) : Wk K S (Iten c) H (enumD xs) := by
  intro S' H' ok kp
  have a1 := h1 S' H' kp
  refine ⟨fun i e he => ?_, ⟨vs, a1, by unfold enumD; rw [List.length_map, List.length_zipIdx, r1.length]⟩⟩
  unfold enumD at he
  rw [List.getElem?_map, List.getElem?_zipIdx] at he
  cases q : xs[i]? with
  | none =>
    rw [q] at he
    cases he
  | some x =>
    rw [q] at he
    cases he
    obtain ⟨v, g1, q1⟩ := r1.get q
    refine ⟨⟨vs, v, a1, g1⟩, fun x' H2 yy => ?_⟩
    obtain ⟨T, x2, ev, hT, eH, z1⟩ := yy
    subst ev eH
    have w1 := z1 vs a1
    rw [g1] at w1
    cases w1
    have he2 : HE S' H' (upd H' T (.tup [.int (i : Nat), v])) := HE.new hT
    refine ⟨he2, .tup (er_of (ok.none hT) upd_same) (.cons ?_ (.cons (Rp.kp (kp.trans he2.kp) q1) .nil))⟩
    rw [Nat.zero_add]
    exact .int _
theorem pid_e {X : Cx} {a : Expr} {da : DE} {p pos tpos : Pos} {elts : List Expr} {kk : Nat} (hm : X.mg "enumerate" = none) (ha : PE X a (tD X.K da)) (hg : Gl X "enumerate")
    (hs1 : starEach [a] X.env = (false, eval a X.env) :: starEach [] X.env := by rfl) (hs2 : starEach [a] X.env = [(false, eval a X.env)] := by rfl) :
    PI X (.Tuple elts kk tpos) (.Call (.Name "enumerate" p) [a] [] pos) (tDI X.K (dEnum da)) := by
  refine ⟨fun pins s σ H R I h => ?_⟩
  obtain ⟨S, en, Q, ok, e, q, k⟩ := h
  have ht : tCons (tD X.K da) tNil σ H fun vs H2 => ∃ v x, vs = [v] ∧ HE S H H2 ∧ Rp X.K (er S H2) v x ∧ (match itemsD x with
    | some xs => Q (enumD xs)
    | none => False) :=
    ⟨S, en, _, ok, e, q, fun v H1 d he rp q1 => ⟨v, d, rfl, he, rp, q1⟩⟩
  refine Call_ (ld_blt I hg hm boot_enumerate (PyProof.Rows.callWith_type1 (thn ((pa_cons ha pa_nil hs1).run pos pins s σ H _ I ht) fun us s1 ⟨vs, H1, I1, r1, q1⟩ => ?_) hs2 rfl))
  obtain ⟨v, x, ev, he, rx, q1⟩ := q1
  subst ev
  obtain ⟨u1, eu, rv⟩ := vals1 r1
  subst eu
  split at q1
  · rename_i xs ex
    obtain ⟨c, vs, ec, rs1, hc1⟩ := src_of rx rv ex
    subst ec
    obtain ⟨o1, B1, b1, bs1, bi1⟩ := Src.begins I1 (hc1 S H1 (Kp.refl _))
    refine enum1 b1 bs1 fun h' hz g1 hk => wpAny_pyIter_enum hz ?_
    have I2 : Inv X pins σ H1 { s1 with heap := h' } := I1.kept (t' := s1.toks) hk
    have fr : ∀ b, b ∈ [s1.heap.objs.size + 1, s1.heap.objs.size] → FpOk X pins H1 b := fun b hb => by
      have hle : s1.heap.objs.size ≤ b := by
        have e : b = s1.heap.objs.size + 1 ∨ b = s1.heap.objs.size := by simpa using hb
        rcases e with z | z
        · rw [z]; exact Nat.le_add_right _ _
        · rw [z]; exact Nat.le_refl _
      exact I1.fpOk hle (I1.hok.fresh hle)
    exact ⟨s1.heap.objs.size + 1, [s1.heap.objs.size + 1, s1.heap.objs.size], _, _, H1, rfl, I2, turn_en (c := c) (Nat.succ_ne_self _), ⟨⟨_, hz⟩, bi1 _ _ g1⟩, fr, k _ H1 _ he (wk_enum rs1 hc1) q1⟩
  · exact q1.elim
end Fe
set_option Elab.async false
set_option linter.all false
set_option maxRecDepth 100000
set_option maxHeartbeats 4000000
/-! Layer 1, the rest: dead code, or, deep ==, own lists read, in, lists added and repeated, a tuple turned round. -/
namespace Fe
open PySem PySem.Spec PyProof.Rows L2

/-! ### what is never reached -/
def dNoE : DE := fun _ _ => False
def dNoT : DT := fun _ _ => False
def dNoS : DS := fun _ _ => False
section
variable {X : Cx} {K : PySem.W.Frag} {e : Expr} {st : Stmt} {sts : List Stmt}
theorem pd_no : PE X e (tD X.K dNoE) := ⟨fun pins s σ H Q I h => by
  obtain ⟨_, _, _, _, _, q, _⟩ := h
  exact q.elim⟩
theorem ptd_no : PT X e (tDT X.K dNoT) := ⟨fun pins s σ H Q I h => by
  obtain ⟨_, _, _, _, _, q, _⟩ := h
  exact q.elim⟩
theorem pwd_no : PW X e (tDT X.K dNoT) := ⟨fun w pins s σ H Q I h => by
  obtain ⟨_, _, _, _, _, q, _⟩ := h
  exact q.elim⟩
theorem sd_no : PSs X sts (tDS X.K dNoS) := ⟨fun pins s σ H D I h => by
  obtain ⟨_, _, _, _, _, _, _, q, _⟩ := h
  exact q.elim⟩
theorem sd_no1 : PS X st (tDS X.K dNoS) := ⟨fun pins s σ H D I h => by
  obtain ⟨_, _, _, _, _, _, _, q, _⟩ := h
  exact q.elim⟩
end

/-! ### or of bools as a value -/
def dOrV (da db : DE) : DE := fun en Q => da en fun x => match x with
  | .bl true => Q (.bl true)
  | .bl false => db en Q
  | _ => False
section
variable {X : Cx} {K : PySem.W.Frag} {a b : Expr} {rest : List Expr} {da db : DE} {pos : Pos}
theorem pd_orV (ha : PE X a (tD X.K da)) (hb : PE X (.BoolOp .Or (b :: rest) pos) (tD X.K db)) : PE X (.BoolOp .Or (a :: b :: rest) pos) (tD X.K (dOrV da db)) := PE.imp (pe_or ha hb) fun σ H R h => by
  obtain ⟨S, en, Q, ok, e, q, k⟩ := h
  refine ⟨S, en, _, ok, e, q, fun v H1 d he rp q1 => ?_⟩
  cases rp with
  | bl z =>
    cases z with
    | true => exact ⟨true, rfl, k _ H1 _ he (.bl true) q1⟩
    | false =>
      refine ⟨false, rfl, ?_⟩
      exact ⟨S, en, _, he.ok ok, e.he he, q1, fun w H2 d he2 r2 q2 => k w H2 d (he.trans he2) r2 q2⟩
  | _ => exact False.elim q1
end

/-! ### == and != at any depth -/
mutual
def py : D → PyData
  | .non => .none
  | .bl b => .bool b
  | .int i => .int i
  | .str x => .str x
  | .tup xs => .tuple (pyL xs)
  | .lst xs => .list (pyL xs)
  | .sys .. => .dict []
def pyL : List D → List PyData
  | [] => []
  | x :: xs => py x :: pyL xs
end
section
variable {K : PySem.W.Frag} {S : Ow} {H : Hp}
mutual
theorem Rp.dp : ∀ {v : V} {d : D}, Rp K (er S H) v d → (py d).canLay0 = true → Dp K H v (py d)
  | _, _, .non, _ => by unfold py; exact .non
  | _, _, .bl b, _ => by unfold py; exact .bl b
  | _, _, .int i, _ => by unfold py; exact .int i
  | _, _, .str x, _ => by unfold py; exact .str x
  | _, _, .tup (ds := ds) h r, c => by
    unfold py at c ⊢
    have c2 : PyData.canLayAll0 (pyL ds) = true := by simpa [PyData.canLay0] using c
    exact .tup (SqT.of (er_some h).2) (RpA.dp r c2)
  | _, _, .lst (ds := ds) h r, c => by
    unfold py at c ⊢
    have c2 : PyData.canLayAll0 (pyL ds) = true := by simpa [PyData.canLay0] using c
    exact .lst (.inl (er_rd h)) (RpA.dp r c2)
  | _, _, .sys .., c => by
    unfold py at c
    simp [PyData.canLay0] at c
theorem RpA.dp : ∀ {vs : List V} {ds : List D}, RpA K (er S H) vs ds → PyData.canLayAll0 (pyL ds) = true → DpAll K H vs (pyL ds)
  | _, _, .nil, _ => by unfold pyL; exact .nil
  | _, _, .cons h r, c => by
    unfold pyL at c ⊢
    rw [PyData.canLayAll0, Bool.and_eq_true] at c
    exact .cons (Rp.dp h c.1) (RpA.dp r c.2)
end
end
abbrev Shp (d : D) : Prop := SeqAt.shaped (py d) = true
def fEqD : F2 := fun a b Q => Shp a ∧ Shp b ∧ Q (.bl (PyData.eqv (py a) (py b)))
def fNeD : F2 := fun a b Q => Shp a ∧ Shp b ∧ Q (.bl (!PyData.eqv (py a) (py b)))
def fInD : F2 := fun a b Q => match b with
  | .lst xs => Shp a ∧ Shp (.lst xs) ∧ Q (.bl ((pyL xs).any fun z => PyData.eqv z (py a)))
  | _ => False
section
variable {K : PySem.W.Frag}
theorem r2_eqD : R2D K (rEqD K) fEqD := by
  intro S H x y a b Q R ok ra rb q k
  obtain ⟨sa, sb, q⟩ := q
  exact ⟨_, _, ra.dp (SeqAt.canLay_of_shaped sa), rb.dp (SeqAt.canLay_of_shaped sb), sa, sb, k _ H _ (HE.refl _ _) (.bl _) q⟩
theorem r2_neD : R2D K (rNeD K) fNeD := by
  intro S H x y a b Q R ok ra rb q k
  obtain ⟨sa, sb, q⟩ := q
  exact ⟨_, _, ra.dp (SeqAt.canLay_of_shaped sa), rb.dp (SeqAt.canLay_of_shaped sb), sa, sb, k _ H _ (HE.refl _ _) (.bl _) q⟩
theorem r2_inD : R2D K (rInD K) fInD := by
  intro S H x y a b Q R ok ra rb q k
  unfold fInD at q
  split at q
  · rename_i xs
    obtain ⟨sa, sb, q⟩ := q
    have e : py (.lst xs) = .list (pyL xs) := by rw [py]
    have rb2 := rb.dp (SeqAt.canLay_of_shaped sb)
    rw [e] at rb2
    refine ⟨_, _, ra.dp (SeqAt.canLay_of_shaped sa), rb2, sa, ?_, k _ H _ (HE.refl _ _) (.bl _) q⟩
    rw [← e]
    exact sb
  · exact q.elim
end

/-! ### an own list read: its truth, compared -/
def dTruO (i : Nat) : DT := fun en Q => match en[i]? with
  | some (some (.own ds)) => Q (!ds.isEmpty)
  | _ => False
def dCmpO (f : F2) (i : Nat) (db : DE) : DE := fun en Q => match en[i]? with
  | some (some (.own ds)) => db en fun y => f (.lst ds) y fun z => match z with
    | .bl b => Q (.bl b)
    | _ => False
  | _ => False
def dNotT (da : DE) : DE := fun en Q => da en fun d => fTru d fun b => Q (.bl (!b))
def lessS (S : Ow) (p : Addr) : Ow := fun b => if b = p then none else S b
section
variable {X : Cx} {K : PySem.W.Frag} {b : Expr} {db da : DE} {pos : Pos}
theorem ptd_truO (i : Nat) {x : Str} {p : Pos} (hN : X.N[i]? = some x := by rfl) (hv : Vis X.env.scope x := by first | exact Or.inl rfl | exact Or.inr (Or.inl rfl) | exact Or.inr (Or.inr rfl)) (hd : (x == ("__debug__" : Str)) = false := by decide)
    (hcd : (x == ("__classdict__" : Str)) = false := by decide) (he : ∀ whole, isTrue (.Name x p) X.env whole = (do let v ← whole; standAt (Expr.pos (.Name x p)); holding [v] (truthy v)) := by intro _; rfl) : PT X (.Name x p) (tDT X.K (dTruO i)) := PT.imp (pt_truth (pe_var hN hv hd hcd) he) fun σ H R h => by
  obtain ⟨S, en, Q, ok, e, q, k⟩ := h
  unfold dTruO at q
  split at q
  · rename_i ds hd
    obtain ⟨p, vs, e1, e3, e4, rs⟩ := own_at e hd
    exact ⟨_, e1, _, .inl ⟨_, .inl (.inl e4), rfl⟩, by rw [rs.empty]; exact k _ H (HE.refl _ _) q⟩
  · exact q.elim
theorem lessS_kp {S : Ow} {H : Hp} {p : Addr} : Kp (er S H) (er (lessS S p) H) := fun b o z => by
  obtain ⟨z1, z2⟩ := er_some z
  exact er_of (by unfold lessS; split; rfl; exact z1) z2
theorem lessS_ok {S : Ow} {H : Hp} {p : Addr} (k : Ok S H) : Ok (lessS S p) H := fun b t z => by
  unfold lessS at z
  by_cases y : b = p
  · rw [if_pos y] at z
    cases z
  · rw [if_neg y] at z
    exact k b t z
theorem lessS_he {S : Ow} {H H' : Hp} {p : Addr} {i : Nat} (hp : S p = some (i + 2)) (h : HE (lessS S p) H H') : HE S H H' := by
  refine ⟨fun a o n z => h.keep a o (fun y => n ?_) z, fun a n z => h.spr a ?_ z⟩
  · unfold lessS at y
    by_cases u : a = p
    · rw [if_pos u] at y
      cases y
    · rw [if_neg u] at y
      exact y
  · unfold lessS
    rw [if_neg]
    · exact n
    · intro u
      rw [u, hp] at n
      cases n
theorem pd_cmpO (i : Nat) {op : CmpOp} {r : R2} {f : F2} {x : Str} {p : Pos} (ho : OpR X (compareOp op) r) (hr : R2D X.K r f) (hb : PE X b (tD X.K db)) (hm : behindInMarks op b = false) (hN : X.N[i]? = some x := by rfl)
    (hv : Vis X.env.scope x := by first | exact Or.inl rfl | exact Or.inr (Or.inl rfl) | exact Or.inr (Or.inr rfl)) (hd : (x == ("__debug__" : Str)) = false := by decide)
    (hcd : (x == ("__classdict__" : Str)) = false := by decide) : PE X (.Compare (.Name x p) [op] [b] pos) (tD X.K (dCmpO f i db)) := PE.imp (pe_cmpR ho (pe_var hN hv hd hcd) hb hm) fun σ H R h => by
  obtain ⟨S, en, Q, ok, e, q, k⟩ := h
  unfold dCmpO at q
  split at q
  · rename_i ds hd
    obtain ⟨p, vs, e1, e3, e4, rs⟩ := own_at e hd
    refine ⟨_, e1, S, en, _, ok, e, q, fun w H2 d2 he2 rp2 q2 => ?_⟩
    have h2 : H2 p = some (.lst vs) := he2.keep p _ (by rw [e3]; intro z; cases z) e4
    have up : Kp (er S H) (er (lessS S p) H2) := he2.kp.trans lessS_kp
    refine hr (lessS S p) H2 (.ref p) w (.lst ds) d2 _ R (lessS_ok (he2.ok ok)) (.lst (.inl (er_of (if_pos rfl) h2)) (RpA.kp up rs)) (Rp.kp lessS_kp rp2) q2 fun u H3 d3 he3 rp3 q3 => ?_
    cases rp3 with
    | bl z => exact k _ H3 _ (he2.trans (lessS_he e3 he3)) (.bl z) q3
    | _ => exact False.elim q3
  · exact q.elim
theorem ptd_cmpO (i : Nat) {op : CmpOp} {r : R2} {f : F2} {x : Str} {p : Pos} (ho : OpR X (compareOp op) r) (hr : R2D X.K r f) (hb : PE X b (tD X.K db)) (hm : behindInMarks op b = false) (hN : X.N[i]? = some x := by rfl)
    (hv : Vis X.env.scope x := by first | exact Or.inl rfl | exact Or.inr (Or.inl rfl) | exact Or.inr (Or.inr rfl)) (hd : (x == ("__debug__" : Str)) = false := by decide)
    (hcd : (x == ("__classdict__" : Str)) = false := by decide) : PT X (.Compare (.Name x p) [op] [b] pos) (tDT X.K (dTest (dCmpO f i db))) :=
  PT.imp (pt_cmpR ho (pe_var hN hv hd hcd) hb hm) fun σ H R h => tDT_test (fun σ H R h => by
  obtain ⟨S, en, Q, ok, e, q, k⟩ := h
  unfold dCmpO at q
  split at q
  · rename_i ds hd
    obtain ⟨p, vs, e1, e3, e4, rs⟩ := own_at e hd
    refine ⟨_, e1, S, en, _, ok, e, q, fun w H2 d2 he2 rp2 q2 => ?_⟩
    have h2 : H2 p = some (.lst vs) := he2.keep p _ (by rw [e3]; intro z; cases z) e4
    have up : Kp (er S H) (er (lessS S p) H2) := he2.kp.trans lessS_kp
    refine hr (lessS S p) H2 (.ref p) w (.lst ds) d2 _ R (lessS_ok (he2.ok ok)) (.lst (.inl (er_of (if_pos rfl) h2)) (RpA.kp up rs)) (Rp.kp lessS_kp rp2) q2 fun u H3 d3 he3 rp3 q3 => ?_
    cases rp3 with
    | bl z => exact k _ H3 _ (he2.trans (lessS_he e3 he3)) (.bl z) q3
    | _ => exact False.elim q3
  · exact q.elim) h
theorem pd_notT (ha : PE X b (tD X.K da)) : PE X (.UnaryOp .Not b pos) (tD X.K (dNotT da)) := PE.imp (pe_notT ha) fun σ H R h => by
  obtain ⟨S, en, Q, ok, e, q, k⟩ := h
  refine ⟨S, en, _, ok, e, q, fun v H1 d he rp q1 => ?_⟩
  unfold fTru at q1
  cases rp with
  | lst hr ra => exact ⟨_, .inl ⟨_, .inl (er_rd hr), rfl⟩, by rw [ra.empty]; exact k _ H1 _ he (.bl _) q1⟩
  | tup hr ra => exact ⟨_, .inr (.inl ⟨_, SqT.of (er_some hr).2, rfl⟩), by rw [ra.empty]; exact k _ H1 _ he (.bl _) q1⟩
  | bl b => exact ⟨b, rfl, k _ H1 _ he (.bl _) q1⟩
  | _ => exact False.elim q1
end

/-! ### in, not in -/
def fInSign : F2 := fun a b Q => match a, b with
  | .str x, .str z => ∃ c, x = ⟨#[c]⟩ ∧ Q (.bl (decide (c ∈ z.cps.toList)))
  | _, _ => False
def fNotIn : F2 := fun a b Q => match a, b with
  | .str x, .tup ys => (match asStrs ys with
    | some zs => Q (.bl (!zs.any (· == x)))
    | none => False)
  | .int x, .tup ys => (match asInts ys with
    | some zs => Q (.bl (!zs.any (· == x)))
    | none => False)
  | _, _ => False
section
variable {X : Cx} {K : PySem.W.Frag}
theorem r2_inSign : R2D K (fun x y H Q => ∃ (c : Nat) (z : Str), x = .str ⟨#[c]⟩ ∧ y = .str z ∧ Q (.bl (decide (c ∈ z.cps.toList))) H) fInSign := by
  intro S H x y a b Q R ok ra rb q k
  unfold fInSign at q
  split at q
  · obtain ⟨c, e, q⟩ := q
    subst e
    cases ra
    cases rb
    exact ⟨c, _, rfl, rfl, k _ H _ (HE.refl _ _) (.bl _) q⟩
  · exact q.elim
theorem inV_strs {x : Str} : ∀ zs : List Str, inV (.str x) (zs.map V.str) = zs.any (· == x)
  | [] => rfl
  | z :: zs => by
    have ih := inV_strs (x := x) zs
    unfold inV at ih ⊢
    rw [List.map_cons, List.any_cons, List.any_cons, ih]
    rfl
theorem inV_ints {x : Int} : ∀ zs : List Int, inV (.int x) (zs.map V.int) = zs.any (· == x)
  | [] => rfl
  | z :: zs => by
    have ih := inV_ints (x := x) zs
    unfold inV at ih ⊢
    rw [List.map_cons, List.any_cons, List.any_cons, ih]
    rfl
theorem flat_strs : ∀ zs : List Str, (zs.map V.str).all flatV = true
  | [] => rfl
  | z :: zs => by rw [List.map_cons, List.all_cons, flat_strs zs]; rfl
theorem flat_ints : ∀ zs : List Int, (zs.map V.int).all flatV = true
  | [] => rfl
  | z :: zs => by rw [List.map_cons, List.all_cons, flat_ints zs]; rfl
theorem r2_notIn : R2D K (rIn K true) fNotIn := by
  intro S H x y a b Q R ok ra rb q k
  unfold fNotIn at q
  split at q
  · split at q
    · rename_i zs hz
      rw [asStrs_eq hz] at rb
      cases ra
      cases rb with
      | tup hr rs =>
        rw [rs.strs] at hr
        exact ⟨_, _, rfl, .inr (SqT.of (er_some hr).2), rfl, flat_strs _, k _ H _ (HE.refl _ _) (by rw [if_pos rfl, inV_strs]; exact .bl _) q⟩
    · exact q.elim
  · split at q
    · rename_i zs hz
      rw [asInts_eq hz] at rb
      cases ra
      cases rb with
      | tup hr rs =>
        rw [rs.ints] at hr
        exact ⟨_, _, rfl, .inr (SqT.of (er_some hr).2), rfl, flat_ints _, k _ H _ (HE.refl _ _) (by rw [if_pos rfl, inV_ints]; exact .bl _) q⟩
    · exact q.elim
  · exact q.elim
end

/-! ### lists added, repeated, spread -/
def dCat (da db : DE) : DL := fun en Q => da en fun x => db en fun y => match x, y with
  | .lst xs, .lst ys => xs.length + ys.length ≤ sizeLine ∧ Q (xs ++ ys)
  | _, _ => False
def dRep (da : DL) (db : DE) : DL := fun en Q => da en fun xs => db en fun y => match xs, y with
  | [x], .int n => (-(2 ^ 63) ≤ n ∧ n < 2 ^ 63 ∧ n.toNat ≤ sizeLine) ∧ Q (List.replicate n.toNat x)
  | _, _ => False
def dStarL (da db : DE) : DL := fun en Q => da en fun x => match x with
  | .tup xs => db en fun y => xs.length + 1 ≤ sizeLine ∧ Q (xs ++ [y])
  | .lst xs => db en fun y => xs.length + 1 ≤ sizeLine ∧ Q (xs ++ [y])
  | _ => False
def rCatR : R2 := fun x y H Q => ∃ l b xs zs, x = .ref l ∧ y = .ref b ∧ Rd H l (.lst xs) ∧ Rd H b (.lst zs) ∧ xs.length + zs.length ≤ sizeLine ∧ ∀ p, H p = none → Q (.ref p) (upd H p (.lst (xs ++ zs)))
section
variable {X : Cx} {K : PySem.W.Frag} {a b : Expr} {da db : DE} {dl : DL} {pos : Pos}
theorem op_catR : OpR X (binaryOp .Add) rCatR := by
  intro pins s σ H x y v u Q I rx ry h
  obtain ⟨l, b, xs, zs, e1, e2, hl, hb, hz, q⟩ := h
  subst e1 e2
  cases rx
  cases ry
  obtain ⟨its, r, pl, zl⟩ := I.list (.inl hl)
  obtain ⟨its2, r2, pl2, zl2⟩ := I.list (.inl hb)
  obtain ⟨⟨cls, dd, data, sl⟩, ho, hc, n, hd⟩ := id pl.isList
  obtain ⟨⟨cls2, dd2, data2, sl2⟩, ho2, hc2, n2, hd2⟩ := id pl2.isList
  simp only at hc hd hc2 hd2
  subst hc hd hc2 hd2
  have e : its.toArray ++ its2.toArray = (its ++ its2).toArray := by simp
  have l1 := r.length
  have l2 := r2.length
  have hw : its.toArray.size + its2.toArray.size ≤ sizeLine := by rw [List.size_toArray, List.size_toArray]; omega
  refine concat_meets ⟨_, ho, rfl⟩ ⟨_, ho2, rfl⟩ noFill_list_add seq_list_add PySem.F.slot_list_add PySem.F.entry_list_add (PySem.F.args_list_add_2 _ _) (list_addW l b its.toArray its2.toArray n n2 dd dd2 sl sl2 hw) ⟨ho, ho2, ?_⟩
  rw [e]
  exact ⟨.ref _, _, I.lnew (t' := s.toks) (r.append r2) (by rw [List.length_append]; omega), rfl, q _ I.fresh⟩
theorem pf_cat (ha : PE X a (tD X.K da)) (hb : PE X b (tD X.K db)) : PE X (.BinOp a .Add b pos) (tDF X.K (dCat da db)) := PE.imp (pe_op op_catR ha hb) fun σ H R h => by
  obtain ⟨S, en, Q, ok, e, q, k⟩ := h
  refine ⟨S, en, _, ok, e, q, fun v H1 d he rp q1 => ⟨S, en, _, he.ok ok, e.he he, q1, fun w H2 d2 he2 rp2 q2 => ?_⟩⟩
  split at q2
  · have rp := Rp.kp he2.kp rp
    have hx := he.trans he2
    cases rp with
    | lst hr rs =>
      cases rp2 with
      | lst hr2 rs2 =>
        refine ⟨_, _, _, _, rfl, rfl, er_rd hr, er_rd hr2, by rw [rs.length, rs2.length]; exact q2.1, fun p hp => ?_⟩
        exact k p _ _ _ (hx.old ok hp) (hx.trans (HE.new hp)) upd_same (fun t => RpA.kp (kp_new hp) (rs.append rs2)) q2.2
  · exact q2.elim
theorem rep_flat {v : V} : ∀ n : Nat, (List.replicate n [v]).flatten = List.replicate n v
  | 0 => rfl
  | n + 1 => by
    rw [List.replicate_succ, List.flatten_cons, rep_flat n]
    rfl
theorem pf_rep (ha : PE X a (tDF X.K dl)) (hb : PE X b (tD X.K db)) : PE X (.BinOp a .Mult b pos) (tDF X.K (dRep dl db)) := PE.imp (pe_op op_rep ha hb) fun σ H R h => by
  obtain ⟨S, en, Q, ok, e, q, k⟩ := h
  refine ⟨S, en, _, ok, e, q, fun p H1 vs ds hp he hv rs q1 => ⟨own1 S p 1, en, _, (he.ok ok).own1 hv (by decide), e.own ok hp he, q1, fun w H2 d2 he2 rp2 q2 => ?_⟩⟩
  split at q2
  · rename_i x n
    obtain ⟨v, ev, rv⟩ := (rs 1).one
    subst ev
    cases rp2
    have h2 : H2 p = some (.lst [v]) := he2.keep p _ (by rw [own1_self]; intro z; cases z) hv
    refine ⟨p, n, [v], rfl, rfl, h2, q2.1.1, q2.1.2.1, by rw [List.length_singleton, Nat.one_mul]; exact q2.1.2.2, fun p2 hp2 => ?_⟩
    rw [rep_flat]
    have nD : ∀ c, S c = some 0 → c ≠ p := fun c y z => by
      obtain ⟨⟨o, u⟩, _⟩ := ok c 0 y
      rw [z, hp] at u
      cases u
    have heS : HE S H1 H2 := ⟨fun c o y z => he2.keep c o (by
        by_cases u : c = p
        · rw [u, own1_self]
          intro t
          cases t
        · rw [own1_ne u]
          exact y) z, fun c y z => he2.spr c (by rw [own1_ne (nD c y)]; exact y) z⟩
    have hx := he.trans heS
    refine k p2 _ _ _ (hx.old ok hp2) (hx.trans (HE.new hp2)) upd_same (fun t => ?_) q2.2
    refine RpA.kp ?_ (RpA.replicate rv _)
    intro c o z
    obtain ⟨z1, z2⟩ := er_some z
    have ne : c ≠ p := fun u => by
      rw [u, own1_self] at z1
      cases z1
    rw [own1_ne ne] at z1
    have z3 : H2 c = some o := he2.keep c o (by rw [own1_ne ne, z1]; intro t; cases t) z2
    have ne2 : c ≠ p2 := ne_of_none z3 hp2
    exact er_of (by rw [own1_ne ne2]; exact z1) (by rw [upd_ne ne2]; exact z3)
  · exact q2.elim
theorem pf_star {sp : Pos} (ha : PE X a (tD X.K da)) (hb : PE X b (tD X.K db)) (hs : starEach (.Starred a sp :: [b]) X.env = (true, eval a X.env) :: starEach [b] X.env := by rfl) (hs2 : starEach [b] X.env = (false, eval b X.env) :: starEach [] X.env := by rfl) :
    PE X (.List [.Starred a sp, b] pos) (tDF X.K (dStarL da db)) := PE.imp (pe_lst (StX.pa_star ha (pa_cons hb pa_nil hs2) hs)) fun σ H R h => by
  obtain ⟨S, en, Q, ok, e, q, k⟩ := h
  refine ⟨S, en, _, ok, e, q, fun v H1 d he rp q1 => ?_⟩
  cases rp with
  | tup hr rs =>
    refine ⟨_, _, rfl, .inl (SqT.of (er_some hr).2), S, en, _, he.ok ok, e.he he, q1, fun w H2 d2 he2 rp2 q2 => ?_⟩
    have hx := he.trans he2
    refine ⟨by rw [List.length_append, rs.length]; exact q2.1, fun p hp => ?_⟩
    exact k p _ _ _ (hx.old ok hp) (hx.trans (HE.new hp)) upd_same (fun t => RpA.kp (kp_new hp) ((RpA.kp he2.kp rs).append (.cons rp2 .nil))) q2.2
  | lst hr rs =>
    refine ⟨_, _, rfl, .inr (.inl (er_rd hr)), S, en, _, he.ok ok, e.he he, q1, fun w H2 d2 he2 rp2 q2 => ?_⟩
    have hx := he.trans he2
    refine ⟨by rw [List.length_append, rs.length]; exact q2.1, fun p hp => ?_⟩
    exact k p _ _ _ (hx.old ok hp) (hx.trans (HE.new hp)) upd_same (fun t => RpA.kp (kp_new hp) ((RpA.kp he2.kp rs).append (.cons rp2 .nil))) q2.2
  | _ => exact False.elim q1
end
end Fe
set_option Elab.async false
set_option linter.all false
set_option maxRecDepth 100000
set_option maxHeartbeats 4000000
/-! Layer 1, the rest: a tuple turned round, the module's constants, replace, repr, springs, a call by keywords, fresh results. -/
namespace Fe
open PySem PySem.Spec PyProof.Rows L2

/-! ### t[::-1] -/
section
variable {prog : Program} {w : World} {A : Around} {E : Value → Shared → Prop} {s : Shared}
theorem back_adjust (n : Nat) : Builtin.Slice.sliceAdjust none none (-1) (n : Int) = ((n : Int) - 1, -1) := by
  unfold Builtin.Slice.sliceAdjust
  rfl
theorem back_places (n : Nat) : Builtin.Slice.slicePlaces ((n : Int) - 1) (-1) (-1) = n := by
  unfold Builtin.Slice.slicePlaces
  have h : ¬ ((-1 : Int) > 0) := by decide
  rw [if_neg h]
  by_cases z : (n : Int) - 1 > -1
  · rw [if_pos z, show (- -1 : Int) = 1 by decide, Int.ediv_one]
    omega
  · rw [if_neg z]
    omega
theorem back_pick (xs : Array Value) : ((List.range xs.size).filterMap fun (m : Nat) => xs[(((xs.size : Int) - 1) + (m : Int) * (-1)).toNat]?).toArray = xs.toList.reverse.toArray := by
  have e : (List.range xs.size).filterMap (fun (m : Nat) => xs[(((xs.size : Int) - 1) + (m : Int) * (-1)).toNat]?) = ((List.range xs.size).map fun k => xs.size - 1 - k).filterMap (xs[·]?) := by
    rw [List.filterMap_map]
    refine congrArg (fun f => List.filterMap f (List.range xs.size)) (funext fun m => ?_)
    show xs[(((xs.size : Int) - 1) + (m : Int) * (-1)).toNat]? = xs[xs.size - 1 - m]?
    rw [show (((xs.size : Int) - 1) + (m : Int) * (-1)).toNat = xs.size - 1 - m by omega]
  rw [e, PySem.W.krv_range, List.filterMap_reverse, PySem.W.krv_all]
theorem item_back {t sl : Addr} {items : Array Value} {u : Tok} {Q : Value → Shared → Prop} (ht : IsTup s.heap t items) (hs : s.heap.IsSliceOf sl .none .none (.int (-1) u))
    (h : Q (.ref s.heap.objs.size) { s with heap := s.heap.push { cls := .type "tuple", data := .seq items.toList.reverse.toArray } }) (hsz : items.size ≤ sizeLine) : wpAny (model prog w) A (getItem (.ref t) (.ref sl)) Q E s := by
  obtain ⟨os, hos, hcs, hds⟩ := id hs
  have hT : s.TypeIs (.ref sl) "slice" := ⟨os, hos, hcs⟩
  have hz : sizeOk (.seq items.toList.reverse.toArray) := by
    show items.toList.reverse.toArray.size ≤ sizeLine
    rw [List.size_toArray, List.length_reverse, Array.length_toList]
    exact hsz
  unfold getItem
  try with_reducible refine wpAny_holding ?_
  first | refine wpAny_bind (wpAny_pure ?_) | skip
  refine wpAny_bind (wpAny_sequenceKey ht.typeIs (by decide) (wpAny_bind (wpAny_callSpecial?_slot (name := Str.ofString "__getitem__") ht.typeIs PyProof.Rows.slot_tuple_getitem
    (wpAny_call_entry PyProof.Rows.slot_tuple_getitem ht.typeIs entry_tuple_getitem ?_ (args_tuple_getitem _ _)))))
  refine wpAny_bind (m := Builtin.Tuple.tupleItemsOf (.ref t)) (tupleItemsOf_ ht (wpAny_bind (wpAny_typeOf hT ?_)))
  rw [if_pos (by decide)]
  have cut : ∀ {R : Int × Int × Nat → Shared → Prop} {E' : Value → Shared → Prop} {B : Around}, R ((items.size : Int) - 1, -1, items.size) s → wpAny (model prog w) B (Builtin.Slice.sliceApplied (.ref sl) (pure (items.size : Int))) R E' s := by
    intro R E' B q
    unfold Builtin.Slice.sliceApplied Builtin.Slice.sliceFields
    refine wpAny_bind (wpAny_bind (wpAny_field hos hds (x := .none) rfl (wpAny_bind (wpAny_field hos hds (x := .none) rfl (wpAny_bind (wpAny_field hos hds (x := .int (-1) u) rfl (wpAny_pure ?_)))))))
    refine wpAny_bind (slicePart_int ?_)
    show wpAny _ _ (if ((-1 : Int) == 0) = true then _ else _) _ _ s
    rw [if_neg (by decide)]
    refine wpAny_bind (slicePart_none (wpAny_bind (slicePart_none (wpAny_bind (wpAny_pure ?_)))))
    show wpAny _ _ (match Builtin.Slice.sliceAdjust none none (-1) (items.size : Int) with | (lo, hi) => pure (lo, (-1 : Int), Builtin.Slice.slicePlaces lo hi (-1))) _ _ s
    rw [back_adjust]
    show wpAny _ _ (pure ((items.size : Int) - 1, (-1 : Int), Builtin.Slice.slicePlaces ((items.size : Int) - 1) (-1) (-1))) _ _ s
    rw [back_places]
    exact wpAny_pure q
  refine wpAny_bind (cut ?_)
  have no : ¬ ((((items.size : Int) - 1) == 0 && (-1 : Int) == 1 && items.size == items.size) = true) := by
    rw [show ((-1 : Int) == 1) = false by decide, Bool.and_false, Bool.false_and]
    exact Bool.false_ne_true
  show wpAny _ _ (if (((items.size : Int) - 1) == 0 && (-1 : Int) == 1 && items.size == items.size) = true then _ else _) _ _ s
  rw [if_neg no, back_pick]
  first
    | exact wpAny_bind (m := Builtin.Tuple.tupleExact _) (wpAny_newObj_type (wpAny_pure ⟨_, rfl, wpAny_pure h⟩) hz)
    | exact wpAny_bind (m := Builtin.Tuple.tupleExact _) (wpAny_newObj_type (wpAny_bind (wpAny_pure (wpAny_pure ⟨_, rfl, wpAny_pure h⟩))) hz)
    | exact wpAny_bind (wpAny_bind (m := Builtin.Tuple.tupleExact _) (wpAny_newObj_type (wpAny_pure (wpAny_pure ⟨_, rfl, wpAny_pure h⟩)) hz))
    | exact wpAny_bind (wpAny_bind (m := Builtin.Tuple.tupleExact _) (wpAny_newObj_type (wpAny_pure ⟨_, rfl, wpAny_pure h⟩) hz))
end
def fRev : F1 := fun d Q => match d with
  | .tup xs => Q (.tup xs.reverse)
  | _ => False
section
variable {X : Cx}
theorem pd_rev {e : Expr} {de : DE} {k : Nat} {p1 p2 p3 pos : Pos} (he : PE X e (tD X.K de)) : PE X (.Subscript e (.Slice none none (some (.UnaryOp .USub (.Constant (.int 1) k p1) p2)) p3) pos) (tD X.K (dUn fRev de)) := by
  refine ⟨fun pins s σ H Q I h => ?_⟩
  obtain ⟨S, en, Q0, ok, e0, q, kk⟩ := h
  have ht : tD X.K de σ H fun v H1 => ∃ a vs ds, v = .ref a ∧ HE S H H1 ∧ er S H1 a = some (.tup vs) ∧ RpA X.K (er S H1) vs ds ∧ Q0 (.tup ds.reverse) := ⟨S, en, _, ok, e0, q, fun v H1 d he rp q1 => by
    cases rp with
    | tup hr rs => exact ⟨_, _, _, rfl, he, hr, rs, q1⟩
    | _ => exact False.elim q1⟩
  refine Subscript_ (thn (he.run pins s σ H _ I ht) fun v s1 ⟨x, H1, I1, r1, q1⟩ => ?_)
  obtain ⟨a, vs, ds, ex, hx, hr, rs, q1⟩ := q1
  subst ex
  cases r1
  have hst : PO X (some (.UnaryOp .USub (.Constant (.int 1) k p1) p2)) (tPart (tUn (rU fun i => .int (-i)) (tC (.int 1)))) := po_some (pe_un un_neg pe_int)
  refine wpAny_Slice (thn (po_none.run pins s1 σ H1 (fun o H2 => o = none ∧ H2 = H1) I1 ⟨rfl, rfl⟩) fun vl s2 ⟨l, H2, I2, pl, el, e2⟩ => ?_)
  subst el e2
  refine thn (po_none.run pins s2 σ H2 (fun o H3 => o = none ∧ H3 = H2) I2 ⟨rfl, rfl⟩) fun vu s3 ⟨u, H3, I3, pu, eu, e3⟩ => ?_
  subst eu e3
  refine thn (hst.run pins s3 σ H3 (fun o H4 => o = some (-1) ∧ H4 = H3) I3 ⟨1, rfl, -1, rfl, rfl, rfl⟩) fun vw s4 ⟨o, H4, I4, ps, eo, e4⟩ => ?_
  subst eo e4
  have I5 : Inv X pins σ H4 { s4 with heap := s4.heap.push { cls := .type "slice", data := .fields #[vl, vu, vw] } } := I4.kept (t' := s4.toks) fun b ob q => Heap.get?_push_of_some _ q
  obtain ⟨its, r, ht, hz⟩ := I5.tuple (SqT.of (er_some hr).2)
  have hlen := r.length
  cases pl
  cases pu
  cases ps with
  | int i t =>
    refine tail_any (ops := [.ref a, .ref s4.heap.objs.size]) ht.typeIs PyProof.Rows.slot_tuple_getitem.lookup ?_ (by with_unfolding_all rfl)
    refine item_back ht (Heap.IsSliceOf.new _ _ _ _) ?_ (by rw [List.size_toArray]; omega)
    have hp : H4 (s4.heap.push { cls := .type "slice", data := .fields #[.none, .none, .int (-1) t] }).objs.size = none := I5.hok.fresh (Nat.le_refl _)
    refine ⟨.ref _, _, I5.laid (t' := s4.toks) (o := .tup vs.reverse) (fun b ob q => Heap.get?_push_of_some _ q) (Nat.le_refl _) ⟨by rw [List.length_reverse]; exact hz, _, r.reverse, IsTup.new _ _⟩, rfl, ?_⟩
    exact kk _ _ (.tup ds.reverse) (hx.trans (HE.new hp)) (.tup (er_of ((hx.ok ok).none hp) upd_same) (RpA.kp (HE.kp (HE.new hp)) rs.reverse)) q1
end
end Fe
set_option Elab.async false
set_option linter.all false
set_option maxRecDepth 100000
set_option maxHeartbeats 4000000
/-! Layer 1, the rest: the module's constants, replace, repr, springs, a call by keywords, fresh results. -/
namespace Fe
open PySem PySem.Spec PyProof.Rows L2

/-! ### KINDS, LENGTHS -/
def fNotInK (zs : List Str) : F1 := fun d Q => match d with
  | .str x => Q (.bl (!zs.any (· == x)))
  | _ => False
def fNotInB : F1 := fun d Q => match d with
  | .str x => x = "best" ∧ Q (.bl false)
  | _ => False
def fLenB : F1 := fun d Q => match d with
  | .str x => x = "best" ∧ Q (.int 4)
  | _ => False
/-- a dict of the module that has 4 at "best" -/
def Dct4 (K : PySem.W.Frag) (w : World) (a : Addr) : Prop := ∃ es n u, KDict K w a es n ∧ PySem.W.nsIn K a "best" = some (some u) ∧ RelV (.int 4) u
section
variable {X : Cx} {K : PySem.W.Frag} {e : Expr} {de : DE} {x : Str} {a : Addr} {zs : List Str} {p pos : Pos}
theorem ptd_notInK (hm : X.mg x = some (.ref a)) (hq : ∀ H, SqT X.K H a (zs.map V.str)) (he : PE X e (tD X.K de)) (hg : Gl X x) (hd : (x == ("__debug__" : Str)) = false := by decide) : PT X (.Compare e [.NotIn] [.Name x p] pos) (tDT X.K (dTest (dUn (fNotInK zs) de))) :=
  PT.imp (pt_cmpR op_notIn_seq he (pe_glob (v := .ref a) hg hm rfl hd) rfl) fun σ H R h => tDT_test (fun σ H R h => by
    obtain ⟨S, en, Q, ok, e, q, k⟩ := h
    refine ⟨S, en, _, ok, e, q, fun v H1 d he rp q1 => ?_⟩
    unfold fNotInK at q1
    split at q1
    · cases rp
      exact ⟨a, _, rfl, .inr (hq H1), rfl, flat_strs _, k _ H1 _ he (by rw [if_pos rfl, inV_strs]; exact .bl _) q1⟩
    · exact q1.elim) h
theorem ptd_notInB (hm : X.mg x = some (.ref a)) (hq : Dct4 X.K X.w a) (he : PE X e (tD X.K de)) (hg : Gl X x) (hd : (x == ("__debug__" : Str)) = false := by decide) : PT X (.Compare e [.NotIn] [.Name x p] pos) (tDT X.K (dTest (dUn fNotInB de))) := by
  obtain ⟨es, n, u, D, hn, hr⟩ := hq
  exact PT.imp (pt_cmpR (op_notIn_kd D) he (pe_glob (v := .ref a) hg hm rfl hd) rfl) fun σ H R h => tDT_test (fun σ H R h => by
    obtain ⟨S, en, Q, ok, e, q, k⟩ := h
    refine ⟨S, en, _, ok, e, q, fun v H1 d he rp q1 => ?_⟩
    unfold fNotInB at q1
    split at q1
    · cases rp
      obtain ⟨ez, q1⟩ := q1
      subst ez
      exact ⟨_, _, rfl, rfl, hn, k _ H1 _ he (.bl _) q1⟩
    · exact q1.elim) h
theorem pd_ixB (hm : X.mg x = some (.ref a)) (hq : Dct4 X.K X.w a) (he : PE X e (tD X.K de)) (hg : Gl X x) (hs : PlainIx e := by intro _ _; rfl) (hd : (x == ("__debug__" : Str)) = false := by decide) : PE X (.Subscript (.Name x p) e pos) (tD X.K (dUn fLenB de)) := by
  obtain ⟨es, n, u, D, hn, hr⟩ := hq
  exact PE.imp (pe_ix ix_kdict (pe_glob (v := .ref a) hg hm rfl hd) he hs) fun σ H R h => by
    obtain ⟨S, en, Q, ok, e, q, k⟩ := h
    refine ⟨S, en, _, ok, e, q, fun v H1 d he rp q1 => ?_⟩
    unfold fLenB at q1
    split at q1
    · cases rp
      obtain ⟨ez, q1⟩ := q1
      subst ez
      exact ⟨_, _, _, rfl, rfl, ⟨es, n, u, D.at_, D.lit, hn, hr⟩, k _ H1 _ he (.int 4) q1⟩
    · exact q1.elim
end

/-! ### replace of written texts, where a token is out; repr of a bool -/
def fRepl (y z : Str) : F1 := fun d Q => match d with
  | .str x => x.length + (x.length + 1) * z.length ≤ 16777216 ∧ Q (.str (Txt.replace x y z))
  | _ => False
def fRepr : F1 := fun d Q => match d with
  | .bl b => Q (.str (if b = true then "True" else "False"))
  | _ => False
section
variable {X : Cx} {K : PySem.W.Frag} {o e : Expr} {es : List Expr} {de : DE} {dl : DL} {y z : Str} {n j k : Nat} {c0 c1 apos pos : Pos}
theorem PET.imp {t t' : TE} (h : PET X e t) (k : ∀ σ H R, t' σ H R → t σ H R) : PET X e t' := fun pins s σ H Q h0 I q => h pins s σ H Q h0 I (k σ H Q q)
theorem PAT.imp {t t' : TA} (h : PAT X es t) (k : ∀ σ H R, t' σ H R → t σ H R) : PAT X es t' := fun pos pins s σ H Q h0 I q => h pos pins s σ H Q h0 I (k σ H Q q)
theorem petd_repl (ho : PE X o (tD X.K de)) (hyz : (y == z) = false := by decide)
    (hst : starEach [.Constant (.str y) j c0, .Constant (.str z) k c1] X.env = [(false, eval (.Constant (.str y) j c0) X.env), (false, eval (.Constant (.str z) k c1) X.env)] := by rfl)
    (hbase : attributeBase o "replace" X.env (eval o X.env) = eval o X.env := by rfl) (hline : (apos.endLine == pos.line) = true := by rfl) :
    PET X (.Call (.Attribute o "replace" apos) [.Constant (.str y) j c0, .Constant (.str z) k c1] [] pos) (tD X.K (dUn (fRepl y z) de)) := PET.imp (CwR.pet_replC ho hyz hst hbase hline) fun σ H R h => by
  obtain ⟨S, en, Q, ok, e, q, k⟩ := h
  refine ⟨S, en, _, ok, e, q, fun v H1 d he rp q1 => ?_⟩
  unfold fRepl at q1
  split at q1
  · cases rp
    exact ⟨_, rfl, q1.1, k _ H1 _ he (.str _) q1.2⟩
  · exact q1.elim
theorem petd_of {t : TE} (h : PE X e t) : PET X e t := fun pins s σ H Q _ I q => h.run pins s σ H Q I q
theorem patd_of {t : TA} (h : PA X es t) : PAT X es t := fun pos pins s σ H Q _ I q => h.run pos pins s σ H Q I q
theorem patd_cons (ha : PET X e (tD X.K de)) (hr : PAT X es (tDL X.K n dl)) (hs : starEach (e :: es) X.env = (false, eval e X.env) :: starEach es X.env := by rfl) : PAT X (e :: es) (tDL X.K (n + 1) (dLcons de dl)) :=
  PAT.imp (pat_cons ha hr hs) fun _ _ _ h => tDL_cons h
theorem pdl_cs (hr : PAT X es (tDL X.K n dl)) (hs : starEach (.Constant (.str z) j c0 :: es) X.env = (false, eval (.Constant (.str z) j c0) X.env) :: starEach es X.env := by rfl) : PA X (.Constant (.str z) j c0 :: es) (tDL X.K (n + 1) (dLcons (dC (.str z)) dl)) := by
  refine PA.imp (t := tCons (tC (.str z)) (tDL X.K n dl)) ⟨fun pos pins s σ H Q I h => ?_⟩ fun σ H R h => ?_
  · rw [hs]
    refine Calls.spliced_cons (Calls.Constant_str (pos := c0) (k := j) ?_)
    exact thn (hr pos pins { s with toks := s.toks + 1 } σ H _ (Nat.le_add_left _ _) (I.tok _) h) fun us s2 ⟨xs, H2, I2, r2, q2⟩ => ⟨V.str z :: xs, H2, I2, .cons ⟨_, rfl⟩ r2, q2⟩
  · obtain ⟨S, en, Q, ok, e, q, k⟩ := h
    exact ⟨S, en, _, ok, e, q, fun vs H2 ds he2 rs hl q2 => k (V.str z :: vs) H2 (.str z :: ds) he2 (.cons (.str z) rs) (by rw [List.length_cons, hl]) q2⟩
theorem pdl_ci {i : Int} (hr : PAT X es (tDL X.K n dl)) (hs : starEach (.Constant (.int i) j c0 :: es) X.env = (false, eval (.Constant (.int i) j c0) X.env) :: starEach es X.env := by rfl) : PA X (.Constant (.int i) j c0 :: es) (tDL X.K (n + 1) (dLcons (dC (.int i)) dl)) := by
  refine PA.imp (t := tCons (tC (.int i)) (tDL X.K n dl)) ⟨fun pos pins s σ H Q I h => ?_⟩ fun σ H R h => ?_
  · rw [hs]
    refine Calls.spliced_cons (wpAny_Constant_int (pos := c0) (k := j) ?_)
    exact thn (hr pos pins { s with toks := s.toks + 1 } σ H _ (Nat.le_add_left _ _) (I.tok _) h) fun us s2 ⟨xs, H2, I2, r2, q2⟩ => ⟨V.int i :: xs, H2, I2, .cons ⟨_, rfl⟩ r2, q2⟩
  · obtain ⟨S, en, Q, ok, e, q, k⟩ := h
    exact ⟨S, en, _, ok, e, q, fun vs H2 ds he2 rs hl q2 => k (V.int i :: vs) H2 (.int i :: ds) he2 (.cons (.int i) rs) (by rw [List.length_cons, hl]) q2⟩
abbrev rReprB : List V → Hp → VK → Prop := fun xs H Q => ∃ b : Bool, xs = [.bl b] ∧ Q (.str (if b = true then "True" else "False")) H
theorem call_reprB : CallR X (.builtin "repr") rReprB := by
  intro pins s σ H xs us Q I r h
  obtain ⟨b, e1, q⟩ := h
  subst e1
  obtain ⟨u, e2, r2⟩ := vals1 r
  subst e2
  cases (show u = Value.bool b from r2)
  refine PySem.P.repr_of_bool ⟨.str _, H, I.tok _, ⟨s.toks, ?_⟩, q⟩
  cases b <;> rfl
theorem c1_repr : C1D K rReprB fRepr := by
  intro S H x a Q R ok ra q k
  unfold fRepr at q
  split at q
  · cases ra
    exact ⟨_, rfl, k _ H _ (HE.refl _ _) (.str _) q⟩
  · exact q.elim
end

/-! ### a spring -/
def dSprIx (i : Nat) (j : Int) : DE := fun en Q => en[i]? = some (some .spr) ∧ ((j = 0 ∨ j = 2) ∧ (∀ n : Int, Q (.int n)) ∨ j = 1 ∧ ∀ n : Int, 0 ≤ n → n < 2147483647 → Q (.int n))
def dSetSpr (i : Nat) (j : Int) (de : DE) : DS := fun D en => en[i]? = some (some .spr) ∧ (0 ≤ j ∧ j ≤ 2) ∧ de en fun d => match d with
  | .int n => (j = 1 → 0 ≤ n ∧ n < 2147483647) ∧ D.nx en
  | _ => False
def dDivm (i k : Nat) (de : DE) : DS := fun D en => en[i]? = some (some .spr) ∧ de en fun d => match d with
  | .tup [.int _, .int y] => D.nx (en.set k (some (.dat (.int y))))
  | _ => False
def fDivmod : F2 := fun a b Q => match a, b with
  | .int i, .int j => (0 < j ∧ j < 1073741824) ∧ Q (.tup [.int (i / j), .int (i % j)])
  | _, _ => False
section
variable {X : Cx} {K : PySem.W.Frag} {S : Ow} {H : Hp} {σ : L2.St} {en : En} {de : DE} {e : Expr} {pos : Pos}
theorem spr_at {i : Nat} (ok : Ok S H) (e : EnvOk K S H σ en) (h : en[i]? = some (some .spr)) : ∃ a, σ[i]? = some (some (.ref a)) ∧ S a = some 0 ∧ SprAt H a := by
  obtain ⟨v, h1, a, h2, h3⟩ := e.at_ i _ h
  subst h2
  exact ⟨a, h1, h3, (ok a 0 h3).2 rfl⟩
theorem spr_wr {a : Addr} {x y z : Int} (h : S a = some 0) (hy : 0 ≤ y ∧ y < 2147483647) : HE S H (upd H a (.lst [.int x, .int y, .int z])) := by
  refine ⟨fun b o n q => ?_, fun b n q => ?_⟩
  · rw [upd_ne (fun u => n (by rw [u]; exact h))]
    exact q
  · by_cases u : b = a
    · subst u
      exact ⟨x, y, z, upd_same, hy⟩
    · obtain ⟨i, j, l, e1, e2⟩ := q
      exact ⟨i, j, l, by rw [upd_ne u]; exact e1, e2⟩
theorem pd_sprIx (i : Nat) {x : Str} {p p2 : Pos} {j : Int} {kk : Nat} (hN : X.N[i]? = some x := by rfl) (hv : Vis X.env.scope x := by first | exact Or.inl rfl | exact Or.inr (Or.inl rfl) | exact Or.inr (Or.inr rfl)) (hd : (x == ("__debug__" : Str)) = false := by decide)
    (hcd : (x == ("__classdict__" : Str)) = false := by decide) : PE X (.Subscript (.Name x p) (.Constant (.int j) kk p2) pos) (tD X.K (dSprIx i j)) := PE.imp (pe_ix ix_seq (pe_var hN hv hd hcd) pe_int (by intro _ _; rfl)) fun σ H R h => by
  obtain ⟨S, en, Q, ok, e, ⟨q0, q⟩, k⟩ := h
  obtain ⟨a, h1, h2, u, v, z, h3, h4⟩ := spr_at ok e q0
  refine ⟨_, h1, ?_⟩
  rcases q with ⟨e1 | e1, q⟩ | ⟨e1, q⟩
  · subst e1
    exact .inl ⟨a, _, _, _, rfl, rfl, .inl (.inl h3), rfl, k _ H _ (HE.refl _ _) (.int u) (q u)⟩
  · subst e1
    exact .inl ⟨a, _, _, _, rfl, rfl, .inl (.inl h3), rfl, k _ H _ (HE.refl _ _) (.int z) (q z)⟩
  · subst e1
    exact .inl ⟨a, _, _, _, rfl, rfl, .inl (.inl h3), rfl, k _ H _ (HE.refl _ _) (.int v) (q v h4.1 h4.2)⟩
theorem sd_setSpr (i : Nat) {x : Str} {p p2 tpos : Pos} {j : Int} {kk : Nat} (he : PE X e (tD X.K de)) (hN : X.N[i]? = some x := by rfl) (hv : Vis X.env.scope x := by first | exact Or.inl rfl | exact Or.inr (Or.inl rfl) | exact Or.inr (Or.inr rfl))
    (hd : (x == ("__debug__" : Str)) = false := by decide) (hcd : (x == ("__classdict__" : Str)) = false := by decide)
    (ha : ∀ v, assign (.Subscript (.Name x p) (.Constant (.int j) kk p2) tpos) X.env v = (do
      let ov ← holding [v] (eval (.Name x p) X.env)
      let iv ← holding [v, ov] (eval (.Constant (.int j) kk p2) X.env)
      standAt tpos
      holding [v, ov, iv] (setItem ov iv v)
      release [v, ov, iv] []) := by intro _; rfl)
    (hs : swapsWithSole [.Subscript (.Name x p) (.Constant (.int j) kk p2) tpos] e pos.line X.env = pure false := by rfl) (hw : swappedStores [.Subscript (.Name x p) (.Constant (.int j) kk p2) tpos] e X.env = pure none := by rfl)
    (h1 : (assignEach [.Subscript (.Name x p) (.Constant (.int j) kk p2) tpos] X.env).map (·.2) = [assign (.Subscript (.Name x p) (.Constant (.int j) kk p2) tpos) X.env] := by rfl) :
    PS X (.Assign [.Subscript (.Name x p) (.Constant (.int j) kk p2) tpos] e pos) (tDS X.K (dSetSpr i j de)) := PS.imp (ps_asg he (pg_sub (pe_var hN hv hd hcd) pe_int set_list ha) hs hw h1) fun D σ H h => by
  obtain ⟨S0, H0, S, en, Dd, i0, e, ⟨q0, ⟨j0, j2⟩, q⟩, k1, k2, k3, k4⟩ := h
  refine ⟨S, en, _, i0.ok, e, q, fun v H1 d he rp q1 => ?_⟩
  obtain ⟨a, h1, h2, u, y, z, h3, h4⟩ := spr_at (he.ok i0.ok) (e.he he) q0
  refine ⟨_, h1, ?_⟩
  split at q1
  · rename_i n
    cases rp
    have fin : ∀ {x' y' z' : Int}, 0 ≤ y' ∧ y' < 2147483647 → D.nx σ (upd H1 a (.lst [.int x', .int y', .int z'])) := fun {x' y' z'} hy => by
      have he2 : HE S H1 (upd H1 a (.lst [.int x', .int y', .int z'])) := spr_wr h2 hy
      have hx := he.trans he2
      exact k1 S σ _ en (i0.he' hx) hx.kp (e.he hx) q1.2
    have hj : j = 0 ∨ j = 1 ∨ j = 2 := by omega
    rcases hj with hj | hj | hj
    · subst hj
      exact ⟨a, _, _, 0, rfl, rfl, h3, rfl, fin h4⟩
    · subst hj
      exact ⟨a, _, _, 1, rfl, rfl, h3, rfl, fin (q1.1 rfl)⟩
    · subst hj
      exact ⟨a, _, _, 2, rfl, rfl, h3, rfl, fin h4⟩
  · exact q1.elim
theorem c2_divmod : C2D K (fun xs H Q => ∃ i j, xs = [.int i, .int j] ∧ CDiv i j ∧ ∀ p, H p = none → Q (.ref p) (upd H p (.tup [.int (i / j), .int (i % j)]))) fDivmod := by
  intro S H x y a b Q R ok ra rb q k
  unfold fDivmod at q
  split at q
  · cases ra
    cases rb
    refine ⟨_, _, rfl, q.1, fun p hp => ?_⟩
    exact k _ _ _ (HE.new hp) (.tup (er_of (ok.none hp) upd_same) (.cons (.int _) (.cons (.int _) .nil))) q.2
  · exact q.elim
theorem sd_divm (i k : Nat) {x y : Str} {p p2 p3 spos tpos : Pos} {kk kt : Nat} (hc : X.calm = true) (hNd : X.N.Nodup) (he : PE X e (tD X.K de)) (hN : X.N[i]? = some x := by rfl) (hv : Vis X.env.scope x := by first | exact Or.inl rfl | exact Or.inr (Or.inl rfl) | exact Or.inr (Or.inr rfl))
    (hg : PG X (.Name y p3) (gName k))
    (hd : (x == ("__debug__" : Str)) = false := by decide) (hcd : (x == ("__classdict__" : Str)) = false := by decide)
    (ha : ∀ v, assign (.Subscript (.Name x p) (.Constant (.int 0) kk p2) spos) X.env v = (do
      let ov ← holding [v] (eval (.Name x p) X.env)
      let iv ← holding [v, ov] (eval (.Constant (.int 0) kk p2) X.env)
      standAt spos
      holding [v, ov, iv] (setItem ov iv v)
      release [v, ov, iv] []) := by intro _; rfl)
    (hl1 : (assignEach [.Subscript (.Name x p) (.Constant (.int 0) kk p2) spos, .Name y p3] X.env).map (·.2) = assign (.Subscript (.Name x p) (.Constant (.int 0) kk p2) spos) X.env :: (assignEach [.Name y p3] X.env).map (·.2) := by rfl)
    (hl2 : (assignEach [.Name y p3] X.env).map (·.2) = assign (.Name y p3) X.env :: (assignEach [] X.env).map (·.2) := by rfl)
    (hn : (assignEach [.Subscript (.Name x p) (.Constant (.int 0) kk p2) spos, .Name y p3] X.env).length = 2 := by rfl) (hst : (assignEach [.Subscript (.Name x p) (.Constant (.int 0) kk p2) spos, .Name y p3] X.env).findIdx? (·.1) = none := by rfl)
    (hs : swapsWithSole [.Tuple [.Subscript (.Name x p) (.Constant (.int 0) kk p2) spos, .Name y p3] kt tpos] e pos.line X.env = pure false := by rfl)
    (hw : swappedStores [.Tuple [.Subscript (.Name x p) (.Constant (.int 0) kk p2) spos, .Name y p3] kt tpos] e X.env = pure none := by rfl)
    (h1 : (assignEach [.Tuple [.Subscript (.Name x p) (.Constant (.int 0) kk p2) spos, .Name y p3] kt tpos] X.env).map (·.2) = [assign (.Tuple [.Subscript (.Name x p) (.Constant (.int 0) kk p2) spos, .Name y p3] kt tpos) X.env] := by rfl) :
    PS X (.Assign [.Tuple [.Subscript (.Name x p) (.Constant (.int 0) kk p2) spos, .Name y p3] kt tpos] e pos) (tDS X.K (dDivm i k de)) :=
  PS.imp (ps_asg he (pg_tup hc (pgs_cons (pg_sub (pe_var hN hv hd hcd) pe_int set_list ha) (pgs_cons hg pgs_nil hl2) hl1) hn hst) hs hw h1) fun D σ H h => by
  obtain ⟨S0, H0, S, en, Dd, i0, e, ⟨q0, q⟩, k1, k2, k3, k4⟩ := h
  refine ⟨S, en, _, i0.ok, e, q, fun v H1 d he rp q1 => ?_⟩
  obtain ⟨a, h1, h2, u, y, z, h3, h4⟩ := spr_at (he.ok i0.ok) (e.he he) q0
  split at q1
  · rename_i m n
    cases rp with
    | @tup b ws _ hr rs =>
      obtain ⟨w1, w2, e1, r1, r2⟩ := rs.two
      subst e1
      cases r1
      cases r2
      refine ⟨b, _, rfl, SqT.of (er_some hr).2, rfl, .int m, [.int n], rfl, ?_⟩
      refine ⟨_, h1, a, _, _, 0, rfl, rfl, h3, rfl, .int n, [], rfl, rfl, ?_⟩
      have he2 : HE S H1 (upd H1 a (.lst [.int m, .int y, .int z])) := spr_wr h2 h4
      have hx := he.trans he2
      exact k1 S _ _ _ (i0.he' hx) hx.kp ((e.he hx).put (c := .dat (.int n)) (.int n)) q1
  · exact q1.elim
end

/-! ### a call by keywords -/
def gSwap {α : Type} (us ws : List α) : List α := match us, ws with
  | [], [a, b] => [b, a]
  | _, _ => []
def HasFnK (P : Program) (w : World) (K : PySem.W.Frag) (mg : Str → Option Value) (base : Heap) (k : Nat) (x : Str) (ks : List Str) (dsp : DSp) : Prop :=
  ∃ f fd ps, FnOk P w K mg base CX0 k f fd ps (SpD K 2 dsp) ∧ mg x = some (.ref f) ∧ PySem.W.keepIn K (.ref f) = true ∧ KBinds K fd ps ks gSwap gSwap
def dCallK (dsp : DSp) (da db : DE) : DE := fun en Q => da en fun x => db en fun y => dsp [.dat y, .dat x] Q
section
variable {X : Cx} {K : PySem.W.Frag} {x k1 k2 : Str} {a b : Expr} {da db : DE} {dsp : DSp} {k : Nat} {p pos q1 q2 : Pos}
theorem pd_callK (F : HasFnK X.prog X.w X.K X.mg X.base k x [k1, k2] dsp) (hr : Room k X.A) (ha : PE X a (tD X.K da)) (hb : PE X b (tD X.K db)) (hg : Gl X x) (hall : (backToKw pos (keywordEach [⟨some k1, a, q1⟩, ⟨some k2, b, q2⟩] X.env)).all (·.1.isSome) = true := by rfl)
    (hks : (backToKw pos (keywordEach [⟨some k1, a, q1⟩, ⟨some k2, b, q2⟩] X.env)).filterMap (·.1) = [k1, k2] := by rfl) (hdb : (x == ("__debug__" : Str)) = false := by decide)
    (hpl : ((backTo pos (starEach [] X.env)).any (·.1) || (backToKw pos (keywordEach [⟨some k1, a, q1⟩, ⟨some k2, b, q2⟩] X.env)).any (·.1.isNone)) = false := by rfl) :
    PE X (.Call (.Name x p) [] [⟨some k1, a, q1⟩, ⟨some k2, b, q2⟩] pos) (tD X.K (dCallK dsp da db)) := by
  refine ⟨fun pins s σ H Q I h => ?_⟩
  obtain ⟨f, fd, ps, F1, hm, hk, hbb⟩ := F
  obtain ⟨S, en, Q0, ok, e, q, kk⟩ := h
  have ht : tCons (tD X.K da) (tCons (tD X.K db) tNil) σ H fun zs H2 => ∃ v w c d, zs = [v, w] ∧ HE S H H2 ∧ Rp X.K (er S H2) v c ∧ Rp X.K (er S H2) w d ∧ dsp [.dat d, .dat c] Q0 :=
    ⟨S, en, _, ok, e, q, fun v H1 d he rp q1 => ⟨S, en, _, he.ok ok, e.he he, q1, fun w H2 d2 he2 rp2 q2 => ⟨v, w, d, d2, rfl, he.trans he2, Rp.kp he2.kp rp, rp2, q2⟩⟩⟩
  have pk : PK X [⟨some k1, a, q1⟩, ⟨some k2, b, q2⟩] (tCons (tD X.K da) (tCons (tD X.K db) tNil)) := pk_cons ha (pk_cons hb pk_nil)
  refine wpAny_Call_Name_kw (ld_glob I hg hm ?_ hdb)
  refine PySem.W.callWith_KW0 (h₀ := X.base) I.ok.mod.kin hk hall (thn (pk.run pos pins s σ H _ I ht) fun ws s2 ⟨zs, H2, I2, rz, q2⟩ => ⟨I2.kIn, ?_⟩) hpl
  rw [hks]
  obtain ⟨v, u, c, d, ez, he, rv, ru, q3⟩ := q2
  subst ez
  refine run_fnk F1 hr hbb pass0 I2 .nil rz (E := E0) ?_
  refine ⟨lowS S, [.dat d, .dat c], Q0, lowS_lt, lowS_ok (he.ok ok), lowS_args (.cons ru (.cons rv .nil)), rfl, q3, fun v H3 d he2 rp q4 => kk v H3 d (he.trans (lowS_he he2)) ?_ q4⟩
  rw [lowS_er] at rp
  exact rp
end

/-! ### results that nobody else holds; a spring is made of one -/
abbrev DSpL := List Cell → (List D → Prop) → Prop
def SpF (K : PySem.W.Frag) (n : Nat) (dsp : DSpL) : Sp := fun vs H R _ => ∃ S cs Q, (∀ a t, S a = some t → t < 2) ∧ Ok S H ∧ ArgsOk K S H vs cs ∧ cs.length = n ∧ dsp cs Q ∧ ∀ p H' vs ds, H p = none → HE S H H' → H' p = some (.lst vs) → (∀ t, RpA K (er (own1 S p t) H') vs ds) → Q ds → R (.ref p) H'
def HasFnF (P : Program) (w : World) (K : PySem.W.Frag) (mg : Str → Option Value) (base : Heap) (k : Nat) (x : Str) (n : Nat) (dsp : DSpL) : Prop :=
  ∃ f fd ps, FnOk P w K mg base CX0 k f fd ps (SpF K n dsp) ∧ mg x = some (.ref f) ∧ PySem.W.keepIn K (.ref f) = true ∧ Binds K fd ps []
theorem HasFnF.mono {P : Program} {w : World} {K : PySem.W.Frag} {mg : Str → Option Value} {base : Heap} {j k : Nat} {x : Str} {n : Nat} {dsp : DSpL} (h : HasFnF P w K mg base j x n dsp) (l : j ≤ k) : HasFnF P w K mg base k x n dsp :=
  let ⟨f, fd, ps, F, a, b, c⟩ := h
  ⟨f, fd, ps, F.mono l, a, b, c⟩
def dCallF (dsp : DSpL) (da : DA) : DL := fun en Q => da en fun cs => dsp cs Q
def dCallNew (dsp : DSp) (dl : DL) : DE := fun en Q => dl en fun ds => match ds with
  | [.int _, .int j, .int _] => (0 ≤ j ∧ j < 2147483647) ∧ dsp [.spr] Q
  | _ => False
section
variable {X : Cx} {K : PySem.W.Frag} {n k : Nat} {dsp : DSp} {dspl : DSpL} {da : DA} {dl : DL} {x : Str} {p pos : Pos} {e : Expr} {es : List Expr}
theorem lowS_own {S : Ow} {p : Addr} {H : Hp} : er (own1 (lowS S) p 0) H = er (own1 S p 0) H := by
  funext b
  unfold er own1
  by_cases u : b = p
  · rw [if_pos u, if_pos u]
  · rw [if_neg u, if_neg u]
    have := congrFun (lowS_er (S := S) (H := H)) b
    unfold er at this
    exact this
theorem pf_call (F : HasFnF X.prog X.w X.K X.mg X.base k x n dspl) (hr : Room k X.A) (ha : PA X (e :: es) (tDA X.K n da)) (hg : Gl X x) (hdb : (x == ("__debug__" : Str)) = false := by decide)
    (he : starEach (e :: es) X.env = (false, eval e X.env) :: starEach es X.env := by rfl) (hpl : (backTo pos (starEach es X.env)).any (·.1) = false := by rfl) :
    PE X (.Call (.Name x p) (e :: es) [] pos) (tDF X.K (dCallF dspl da)) := by
  obtain ⟨f, fd, ps, F1, hm, hk, hb⟩ := F
  refine PE.imp (pe_call F1 hr hg hm hk hb .nil pass0 (E := E0) ha hdb he hpl) fun σ H R h => ?_
  obtain ⟨S, en, Q, ok, e, q, k⟩ := h
  refine ⟨S, en, _, ok, e, q, fun vs H1 cs he rs hl q1 => ?_⟩
  show SpF X.K n dspl (vs ++ []) H1 R E0
  rw [List.append_nil]
  refine ⟨lowS S, cs, Q, lowS_lt, lowS_ok (he.ok ok), lowS_args rs, hl, q1, fun p H2 vs ds hp he2 hv rp q2 => k p H2 vs ds (he.old ok hp) (he.trans (lowS_he he2)) hv (fun t => ?_) q2⟩
  rw [er_own_t (u := 0), ← lowS_own]
  exact rp 0
theorem pd_callNew (F : HasFn X.prog X.w X.K X.mg X.base k x 1 dsp) (hr : Room k X.A) (ha : PE X e (tDF X.K dl)) (hg : Gl X x) (hdb : (x == ("__debug__" : Str)) = false := by decide)
    (he : starEach [e] X.env = (false, eval e X.env) :: starEach [] X.env := by rfl) (hpl : (backTo pos (starEach [] X.env)).any (·.1) = false := by rfl) :
    PE X (.Call (.Name x p) [e] [] pos) (tD X.K (dCallNew dsp dl)) := by
  obtain ⟨f, fd, ps, F1, hm, hk, hb⟩ := F
  refine PE.imp (pe_call F1 hr hg hm hk hb .nil pass0 (E := E0) (pa_cons ha pa_nil he) hdb he hpl) fun σ H R h => ?_
  obtain ⟨S, en, Q, ok, e, q, k⟩ := h
  refine ⟨S, en, _, ok, e, q, fun p H1 vs ds hp hx hv rs q1 => ?_⟩
  split at q1
  · rename_i i j l
    have e1 : vs = [.int i, .int j, .int l] := RpA.ints (ns := [i, j, l]) (rs 0)
    subst e1
    have hn : ∀ b t, S b = some t → b ≠ p := fun b t z y => by
      obtain ⟨⟨o, u⟩, _⟩ := ok b t z
      rw [y, hp] at u
      cases u
    show SpD X.K 1 dsp ([V.ref p] ++ []) H1 R E0
    rw [List.append_nil]
    refine ⟨own1 (lowS S) p 0, [.spr], Q, fun b t z => ?_, fun b t z => ?_, .cons ⟨p, rfl, own1_self⟩ .nil, rfl, q1.2, fun v H2 d he2 rp q2 => ?_⟩
    · by_cases u : b = p
      · rw [u, own1_self] at z
        cases z
        decide
      · rw [own1_ne u] at z
        exact lowS_lt b t z
    · by_cases u : b = p
      · rw [u]
        exact ⟨⟨_, hv⟩, fun _ => ⟨i, j, l, hv, q1.1⟩⟩
      · rw [own1_ne u] at z
        exact lowS_ok (hx.ok ok) b t z
    · have heS : HE S H H2 := by
        refine ⟨fun b o y z => ?_, fun b y z => ?_⟩
        · have nb : b ≠ p := ne_of_none z hp
          refine he2.keep b o (fun w => y ?_) (hx.keep b o y z)
          rw [own1_ne nb] at w
          exact lowS_zero.mp w
        · have nb : b ≠ p := hn b 0 y
          exact he2.spr b (by rw [own1_ne nb]; exact lowS_zero.mpr y) (hx.spr b y z)
      refine k v H2 d heS (Rp.kp (fun b o z => ?_) rp) q2
      obtain ⟨z1, z2⟩ := er_some z
      have nb : b ≠ p := fun u => by
        rw [u, own1_self] at z1
        cases z1
      rw [own1_ne nb] at z1
      exact er_of (lowS_none.mp z1) z2
  · exact q1.elim
end
def tDSF (K : PySem.W.Frag) (a : DS) (dl : DL) : TS := fun D σ H => ∃ S0 H0 S en Q, In0 S0 H0 S H ∧ EnvOk K S H σ en ∧ a { nx := fun e => dl e Q, rt := fun _ => False } en ∧
  ∀ p H' vs ds, H0 p = none → HE S0 H0 H' → H' p = some (.lst vs) → (∀ t, RpA K (er (own1 S0 p t) H') vs ds) → Q ds → D.rt (.ref p) H'
section
variable {X : Cx} {K : PySem.W.Frag} {st : Stmt} {rest : List Stmt} {a b : DS} {dl : DL} {e : Expr} {pos : Pos}
theorem sdf_ret (he : PE X e (tDF X.K dl)) : PSs X [.Return (some e) pos] (tDSF X.K dNx dl) := PSs.imp (pss_one (ps_ret he)) fun D σ H h => by
  obtain ⟨S0, H0, S, en, Q, i0, e, q, k⟩ := h
  refine ⟨S, en, Q, i0.ok, e, q, fun p H' vs ds hp he hv rs q1 => ?_⟩
  have i1 := i0.he' he
  have hp0 : H0 p = none := i0.he.old i0.ok0 hp
  refine k p H' vs ds hp0 i1.he hv (fun t => RpA.kp (fun c o z => ?_) (rs t)) q1
  obtain ⟨z1, z2⟩ := er_some z
  by_cases u : c = p
  · rw [u, own1_self] at z1
    cases z1
  · rw [own1_ne u] at z1
    refine er_of ?_ z2
    rw [own1_ne u]
    exact (er_some (i1.back c o (er_of z1 z2))).1
theorem sdf_cons (h1 : PS X st (tDS X.K a)) (h2 : PSs X rest (tDSF X.K b dl)) : PSs X (st :: rest) (tDSF X.K (dSeq a b) dl) := PSs.imp (pss_cons h1 h2) fun D σ H h => by
  obtain ⟨S0, H0, S, en, Q, i0, e, q, k⟩ := h
  refine ⟨S0, H0, S, en, _, i0, e, q, fun S1 σ1 H1 en1 i1 p1 e1 q1 => ?_, fun _ _ _ _ _ _ _ z => z.elim, fun _ _ _ _ _ _ _ z => z.elim, fun _ _ _ _ _ _ _ z => z.elim⟩
  exact ⟨S0, H0, S1, en1, Q, i1, e1, q1, k⟩
end
end Fe
set_option Elab.async false
set_option linter.all false
set_option maxRecDepth 100000
set_option maxHeartbeats 4000000
/-! The defs of the program's top; from a def's body over data to its promise. -/
namespace Fe
open PySem PySem.W PySem.Calls PyProof.Rows L2
abbrev RowL := PySem.Challenge.rw_fewenough_k60_whole_best_claims
def top (i : Nat) : Stmt := PySem.Challenge.pw_fewenough_k60_whole_best_claims.main.body.getD i (.Pass ⟨0, 0, 0, 0⟩)

abbrev s_is_integer : Stmt := top 7
abbrev s_is_between : Stmt := top 8
abbrev s_divisor : Stmt := top 9
abbrev s_ratio : Stmt := top 10
abbrev s_is_fraction : Stmt := top 11
abbrev s_plus : Stmt := top 12
abbrev s_times : Stmt := top 13
abbrev s_sum_at : Stmt := top 17
abbrev s_at_most : Stmt := top 18
abbrev s_at_least : Stmt := top 19
abbrev s_number_in : Stmt := top 28
abbrev s_signed_in : Stmt := top 29
abbrev s_unknowns_in : Stmt := top 30
abbrev s_term_in : Stmt := top 31
abbrev s_sum_in : Stmt := top 32
abbrev s_inequality_in : Stmt := top 33
abbrev s_wrong_rows : Stmt := top 34
abbrev s_is_aim : Stmt := top 38
abbrev s_is_solid : Stmt := top 39
abbrev s_is_point : Stmt := top 41
abbrev s_as_fractions : Stmt := top 42
abbrev s_gaps_at : Stmt := top 43
abbrev s_broken_at : Stmt := top 44
abbrev s_system_of : Stmt := top 47
abbrev s_are_integers : Stmt := top 48
abbrev s_is_parting : Stmt := top 49
abbrev s_is_end : Stmt := top 50
abbrev s_is_tree : Stmt := top 51
abbrev s_is_pair : Stmt := top 52
abbrev s_accepts_best : Stmt := top 54
abbrev s_accepts : Stmt := top 56
abbrev s_law_spring : Stmt := top 58
abbrev s_law_draw : Stmt := top 59
abbrev s_law_of : Stmt := top 60
abbrev s_law_term : Stmt := top 61
abbrev s_law_sum_text : Stmt := top 62
abbrev s_law_divisor : Stmt := top 63
abbrev s_law_point_keeps : Stmt := top 64
abbrev s_law_integer : Stmt := top 65
abbrev s_law_integers : Stmt := top 66
abbrev s_law_total : Stmt := top 67
abbrev s_law_pair : Stmt := top 68
abbrev s_law_end_right : Stmt := top 69
abbrev s_law_parting_right : Stmt := top 70
abbrev s_law_tree_right : Stmt := top 71
abbrev s_law_is_fraction : Stmt := top 72
abbrev s_law_fits : Stmt := top 73
abbrev s_law_aim_right : Stmt := top 74
abbrev s_law_best_right : Stmt := top 75
abbrev s_law_judged : Stmt := top 76
abbrev s_law_entry : Stmt := top 77
abbrev s_law_lifted : Stmt := top 78
abbrev s_law_wrapped : Stmt := top 79
abbrev s_law_put : Stmt := top 80
abbrev s_law_bent_node : Stmt := top 81
abbrev s_law_bent_spot : Stmt := top 82
abbrev s_law_bent_pair : Stmt := top 83
abbrev s_law_bent_numbers : Stmt := top 84
abbrev s_law_kept : Stmt := top 85
abbrev s_law_best_case : Stmt := top 86
abbrev s_law_otherwise : Stmt := top 87
abbrev s_law_right : Stmt := top 88
abbrev s_law_by_hand : Stmt := top 89
abbrev s_law : Stmt := top 90
abbrev s_init : Stmt := inClass (top 36) 0
abbrev s_read : Stmt := inClass (top 36) 1

/-! ### a def by its body -/
def startE (N : List Str) (cs : List Cell) : En := cs.map some ++ List.replicate (N.length - cs.length) none
structure Def1 (K : PySem.W.Frag) (mg : Str → Option Value) (x : Str) (st : Stmt) : Prop where
  ex : ∃ f fd, FunD K x x (defArgs st) (defBody st) (defScope st) [] [] f fd ∧ mg x = some (.ref f)
theorem ArgsOk.get {K : PySem.W.Frag} {S : Ow} {H : Hp} : ∀ {vs : List V} {cs : List Cell} {i : Nat} {c : Cell}, ArgsOk K S H vs cs → cs[i]? = some c → ∃ v, vs[i]? = some v ∧ ArgOk K S H v c
  | _, _, _, _, .nil, e => by simp at e
  | _, _, 0, _, .cons h _, e => by
    simp at e
    subst e
    exact ⟨_, rfl, h⟩
  | _, _, i + 1, _, .cons _ r, e => by
    obtain ⟨v, a, b⟩ := ArgsOk.get (i := i) r (by simpa using e)
    exact ⟨v, by simpa using a, b⟩
theorem start_ok {K : PySem.W.Frag} {S : Ow} {H : Hp} {N : List Str} {vs : List V} {cs : List Cell} (h : ArgsOk K S H vs cs) : EnvOk K S H (start N vs) (startE N cs) := by
  have hl := h.length
  refine ⟨by unfold L2.start startE; rw [List.length_append, List.length_append, List.length_map, List.length_map, List.length_replicate, List.length_replicate, hl], fun i c e => ?_⟩
  unfold startE at e
  unfold L2.start
  by_cases z : i < cs.length
  · rw [List.getElem?_append_left (by rw [List.length_map]; exact z), List.getElem?_map] at e
    rw [List.getElem?_append_left (by rw [List.length_map]; omega), List.getElem?_map]
    cases q : cs[i]? with
    | none =>
      rw [q] at e
      cases e
    | some c' =>
      rw [q] at e
      cases e
      obtain ⟨v, h1, h2⟩ := h.get q
      refine ⟨v, by rw [h1]; rfl, ?_⟩
      cases c with
      | dat d => exact h2
      | own ds => exact h2.elim
      | obj a fs => exact h2.elim
      | spr => exact h2
  · rw [List.getElem?_append_right (by rw [List.length_map]; omega), List.getElem?_replicate] at e
    split at e <;> cases e
theorem tDS_start {K : PySem.W.Frag} {N : List Str} {n : Nat} {dsp : DSp} {d : DS} {vs : List V} {H : Hp} {Q : VK} {E : XK} (sem : ∀ cs Q, cs.length = n → dsp cs Q → d { nx := fun _ => Q .non, rt := Q } (startE N cs)) (h : SpD K n dsp vs H Q E) :
    tDS K d { nx := fun _ H' => Q .non H', rt := Q } (start N vs) H := by
  obtain ⟨S, cs, Q0, low, ok, ar, hl, q, k⟩ := h
  refine ⟨S, H, S, startE N cs, { nx := fun _ => Q0 .non, rt := Q0 }, ⟨low, ok, HE.refl _ _, fun _ _ => rfl, fun a h1 h2 => absurd h1 h2, ok⟩, start_ok ar, sem cs Q0 hl q, fun S' σ' H' en' i _ _ q' => ?_, fun S' v H' d' i _ rp q' => ?_, fun _ _ _ _ _ _ _ z => z.elim, fun _ _ _ _ _ _ _ z => z.elim⟩
  · exact k .non H' .non i.he .non q'
  · exact k v H' d' i.he (Rp.kp i.back rp) q'
theorem spD_len {K : PySem.W.Frag} {n : Nat} {dsp : DSp} {ps : List Str} (hn : ps.length = n) (vs : List V) (H : Hp) (Q : VK) (E : XK) (h : SpD K n dsp vs H Q E) : vs.length = ps.length := by
  obtain ⟨S, cs, Q0, low, ok, ar, hl, q, k⟩ := h
  rw [ar.length, hl, hn]
section
variable {P : Program} {w : World} {K : PySem.W.Frag} {mg : Str → Option Value} {base : Heap}
theorem has_fn {x : Str} {st : Stmt} {N ps : List Str} {n k : Nat} {dsp : DSp} {d : DS} (F : Def1 K mg x st) (S : FnScope N ps (defScope st)) (hn : ps.length = n)
    (hb : ∀ (kV doc pm : Value) (an : Option Addr) (cdv ct : Value) (us : List Value), us.length = ps.length → bindArgs (PySem.W.fnOf x x (defArgs st) (defBody st) (defScope st) .none kV doc pm an cdv ct) ⟨us, []⟩ = pure (ps.zip us))
    (hbody : ∀ (f : Addr) (cdv : Value) (A : Around) (outer : List Env) (s : Shared) (H : Hp) (E : XK), Room k (A.deeper (envOfC x (defScope st) s.heap.objs.size f cdv)) → PSs (cxOf CX0 P w K mg base N x (defScope st) f cdv A outer s H E).nox (defBody st) (tDS K d))
    (sem : ∀ cs Q, cs.length = n → dsp cs Q → d { nx := fun _ => Q .non, rt := Q } (startE N cs)) : HasFn P w K mg base (k + 1) x n dsp := by
  obtain ⟨f, fd, F1, hm⟩ := F.ex
  exact ⟨f, fd, ps, F1.ok S (spD_len hn) fun cdv A outer s H vs Q E hr h => ⟨tDS K d, PSs.nox (hbody f cdv A outer s H E hr), tDS_start sem h⟩, hm, F1.kp, F1.bindsN hb⟩
end
end Fe
set_option Elab.async false
set_option linter.all false
set_option maxRecDepth 100000
set_option maxHeartbeats 4000000
/-! What the defs' bodies take from the module; a def that gives a fresh list. -/
namespace Fe
open PySem PySem.W PySem.Calls PyProof.Rows L2
/-- a if c else b as a test -/
def dIfT (t a b : DT) : DT := fun en Q => t en fun z => if z = true then a en Q else b en Q
theorem ptd_ifT {X : Cx} {c a b : Expr} {t u v : DT} {pos : Pos} (hc : PT X c (tDT X.K t)) (ha : PT X a (tDT X.K u)) (hb : PT X b (tDT X.K v)) : PT X (.IfExp c a b pos) (tDT X.K (dIfT t u v)) := by
  refine ⟨fun pins s σ H Q I h => ?_⟩
  obtain ⟨S, en, Q0, ok, e, q, k⟩ := h
  have ht : tDT X.K t σ H fun z H1 => HE S H H1 ∧ (if z = true then u en Q0 else v en Q0) := ⟨S, en, _, ok, e, q, fun z H1 he q1 => ⟨he, q1⟩⟩
  refine isTrue_IfExp (thn (hc.run pins s σ H _ I ht) fun z s1 ⟨H1, I1, he, q1⟩ => ?_)
  cases z with
  | true => exact ha.run pins s1 σ H1 Q I1 ⟨S, en, Q0, he.ok ok, e.he he, q1, fun z H2 he2 q2 => k z H2 (he.trans he2) q2⟩
  | false => exact hb.run pins s1 σ H1 Q I1 ⟨S, en, Q0, he.ok ok, e.he he, q1, fun z H2 he2 q2 => k z H2 (he.trans he2) q2⟩
structure Mods (w : World) (K : PySem.W.Frag) (mg : Str → Option Value) : Prop where
  n_isinstance : mg "isinstance" = none
  n_int : mg "int" = none
  n_bool : mg "bool" = none
  n_tuple : mg "tuple" = none
  n_str : mg "str" = none
  n_list : mg "list" = none
  n_len : mg "len" = none
  n_all : mg "all" = none
  n_any : mg "any" = none
  n_sum : mg "sum" = none
  n_abs : mg "abs" = none
  n_zip : mg "zip" = none
  n_range : mg "range" = none
  n_enumerate : mg "enumerate" = none
  n_max : mg "max" = none
  n_min : mg "min" = none
  n_divmod : mg "divmod" = none
  n_repr : mg "repr" = none
  c_MOST_INEQUALITIES : ∃ t, mg "MOST_INEQUALITIES" = some (.int 10 t)
  c_MOST_WEIGHT : ∃ t, mg "MOST_WEIGHT" = some (.int 99 t)
  c_MOST_CONSTANT : ∃ t, mg "MOST_CONSTANT" = some (.int 1000000 t)
  c_FIGURES : ∃ t, mg "FIGURES" = some (.str "0123456789" t)
  c_UNKNOWNS : ∃ t, mg "UNKNOWNS" = some (.str "xy" t)
  c_JOIN : ∃ t, mg "JOIN" = some (.str ", " t)
  c_PART : ∃ t, mg "PART" = some (.str "part" t)
  c_END : ∃ t, mg "END" = some (.str "end" t)
  c_KINDS : (∀ H, SqT K H (He.ga K "KINDS") ((["whole", "any"] : List Str).map V.str)) ∧ mg "KINDS" = some (.ref (He.ga K "KINDS"))
  c_LENGTHS : Dct4 K w (He.ga K "LENGTHS") ∧ mg "LENGTHS" = some (.ref (He.ga K "LENGTHS"))
  sys : SysF K
  c_System : mg "System" = some (.ref (sysC K))
  c_InvalidText : ∃ c, mg "InvalidText" = some c
theorem room65 {k : Nat} {A : Around} (hr : Room k A) : A.units + 65 < cLine := by have := hr.un; omega
theorem HasFnK.mono {P : Program} {w : World} {K : PySem.W.Frag} {mg : Str → Option Value} {base : Heap} {j k : Nat} {x : Str} {ks : List Str} {dsp : DSp} (h : HasFnK P w K mg base j x ks dsp) (l : j ≤ k) : HasFnK P w K mg base k x ks dsp :=
  let ⟨f, fd, ps, F, a, b, c⟩ := h
  ⟨f, fd, ps, F.mono l, a, b, c⟩
theorem tDSF_start {K : PySem.W.Frag} {N : List Str} {n : Nat} {dsp : DSpL} {d : DS} {dl : DL} {vs : List V} {H : Hp} {Q : VK} {E : XK} {nx : L2.St → Hp → Prop} (sem : ∀ cs Q, cs.length = n → dsp cs Q → d { nx := fun e => dl e Q, rt := fun _ => False } (startE N cs)) (h : SpF K n dsp vs H Q E) :
    tDSF K d dl { nx := nx, rt := Q } (L2.start N vs) H := by
  obtain ⟨S, cs, Q0, low, ok, ar, hl, q, k⟩ := h
  exact ⟨S, H, S, startE N cs, Q0, ⟨low, ok, HE.refl _ _, fun _ _ => rfl, fun a h1 h2 => absurd h1 h2, ok⟩, start_ok ar, sem cs Q0 hl q, k⟩
theorem spF_len {K : PySem.W.Frag} {n : Nat} {dsp : DSpL} {ps : List Str} (hn : ps.length = n) (vs : List V) (H : Hp) (Q : VK) (E : XK) (h : SpF K n dsp vs H Q E) : vs.length = ps.length := by
  obtain ⟨S, cs, Q0, low, ok, ar, hl, q, k⟩ := h
  rw [ar.length, hl, hn]
section
variable {P : Program} {w : World} {K : PySem.W.Frag} {mg : Str → Option Value} {base : Heap}
theorem has_fnF {x : Str} {st : Stmt} {N ps : List Str} {n k : Nat} {dsp : DSpL} {d : DS} {dl : DL} (F : Def1 K mg x st) (S : FnScope N ps (defScope st)) (hn : ps.length = n)
    (hb : ∀ (kV doc pm : Value) (an : Option Addr) (cdv ct : Value) (us : List Value), us.length = ps.length → bindArgs (PySem.W.fnOf x x (defArgs st) (defBody st) (defScope st) .none kV doc pm an cdv ct) ⟨us, []⟩ = pure (ps.zip us))
    (hbody : ∀ (f : Addr) (cdv : Value) (A : Around) (outer : List Env) (s : Shared) (H : Hp) (E : XK), Room k (A.deeper (envOfC x (defScope st) s.heap.objs.size f cdv)) → PSs (cxOf CX0 P w K mg base N x (defScope st) f cdv A outer s H E).nox (defBody st) (tDSF K d dl))
    (sem : ∀ cs Q, cs.length = n → dsp cs Q → d { nx := fun e => dl e Q, rt := fun _ => False } (startE N cs)) : HasFnF P w K mg base (k + 1) x n dsp := by
  obtain ⟨f, fd, F1, hm⟩ := F.ex
  exact ⟨f, fd, ps, F1.ok S (spF_len hn) fun cdv A outer s H vs Q E hr h => ⟨tDSF K d dl, PSs.nox (hbody f cdv A outer s H E hr), tDSF_start sem h⟩, hm, F1.kp, F1.bindsN hb⟩
theorem gSwap_rel : ∀ {vs : List V} {us : List Value} {zs : List V} {ws : List Value}, Vals vs us → Vals zs ws → Vals (gSwap vs zs) (gSwap us ws)
  | _, _, _, _, .nil, .nil => .nil
  | _, _, _, _, .nil, .cons _ .nil => .nil
  | _, _, _, _, .nil, .cons a (.cons b .nil) => .cons b (.cons a .nil)
  | _, _, _, _, .nil, .cons _ (.cons _ (.cons _ _)) => .nil
  | _, _, _, _, .cons _ _, _ => .nil
theorem has_fnK {x k1 k2 : Str} {st : Stmt} {N ps : List Str} {k : Nat} {dsp : DSp} {d : DS} (F : Def1 K mg x st) (S : FnScope N ps (defScope st)) (hn : ps.length = 2)
    (hb : ∀ (kV doc pm : Value) (an : Option Addr) (cdv ct : Value) (us ws : List Value), (gSwap us ws).length = 2 → bindArgs (PySem.W.fnOf x x (defArgs st) (defBody st) (defScope st) .none kV doc pm an cdv ct) ⟨us, [k1, k2].zip ws⟩ = pure (ps.zip (gSwap us ws)))
    (hbody : ∀ (f : Addr) (cdv : Value) (A : Around) (outer : List Env) (s : Shared) (H : Hp) (E : XK), Room k (A.deeper (envOfC x (defScope st) s.heap.objs.size f cdv)) → PSs (cxOf CX0 P w K mg base N x (defScope st) f cdv A outer s H E).nox (defBody st) (tDS K d))
    (sem : ∀ cs Q, cs.length = 2 → dsp cs Q → d { nx := fun _ => Q .non, rt := Q } (startE N cs)) : HasFnK P w K mg base (k + 1) x [k1, k2] dsp := by
  obtain ⟨f, fd, F1, hm⟩ := F.ex
  refine ⟨f, fd, ps, F1.ok S (spD_len hn) fun cdv A outer s H vs Q E hr h => ⟨tDS K d, PSs.nox (hbody f cdv A outer s H E hr), tDS_start sem h⟩, hm, F1.kp, ⟨fun s us ws _ hl => ?_, gSwap_rel⟩⟩
  obtain ⟨oc, od, dV, kV, doc, pm, an, cdv, ct, osl, e, lk, hcd, hD, hK⟩ := F1.ex
  subst e
  rcases hD with ⟨_, e⟩ | ⟨e, _⟩
  · subst e
    exact .of_eq (hb kV doc pm an cdv ct us ws (by rw [hl, hn]))
  · exact absurd rfl e
end
end Fe
set_option Elab.async false
set_option linter.all false
set_option maxRecDepth 100000
set_option maxHeartbeats 4000000
/-! The class System: self's fields, System(*rows), System.read(text), system_of. -/
namespace Fe
open PySem PySem.W PySem.Calls PyProof.Rows L2

/-! ### self's fields -/
def dSelf (i : Nat) (f : Str) : DE := fun en Q => match en[i]? with
  | some (some (.obj _ fs)) => (match fs.lookup f with
    | some d => Q d
    | none => False)
  | _ => False
def dSetF (i : Nat) (f : Str) (de : DE) : DS := fun D en => de en fun d => match en[i]? with
  | some (some (.obj a fs)) => fs.length < 1000 ∧ D.nx (en.set i (some (.obj a ((f, d) :: fs))))
  | _ => False
section
variable {X : Cx} {K : PySem.W.Frag} {S : Ow} {H : Hp} {σ : L2.St} {en : En} {de : DE} {e : Expr} {pos pos' p : Pos} {x f : Str}
theorem EnvOk.wrG {i : Nat} {a : Addr} {o : HO} {c : Cell} (e : EnvOk K S H σ en) (h : S a = some (i + 2)) (hv : σ[i]? = some (some (.ref a))) (hc : CellOk K S (upd H a o) i (.ref a) c) : EnvOk K S (upd H a o) σ (en.set i (some c)) := by
  have ee : er S (upd H a o) = er S H := er_upd h
  refine ⟨by rw [List.length_set]; exact e.len, fun j c' q => ?_⟩
  by_cases z : i = j
  · subst z
    have l : i < en.length := by
      have := (List.getElem?_eq_some_iff.mp hv).1
      rw [e.len] at this
      exact this
    rw [List.getElem?_set_self l] at q
    cases q
    exact ⟨.ref a, hv, hc⟩
  · rw [List.getElem?_set_ne z] at q
    obtain ⟨v, q1, q2⟩ := e.at_ j c' q
    refine ⟨v, q1, ?_⟩
    have far : ∀ b, S b = some (j + 2) → b ≠ a := fun b e2 y => by
      rw [y, h] at e2
      have e5 := Option.some.inj e2
      omega
    cases c' with
    | dat d =>
      show Rp K (er S (upd H a o)) v d
      rw [ee]
      exact q2
    | own es =>
      obtain ⟨b, ws, e1, e2, e3, e4⟩ := q2
      exact ⟨b, ws, e1, e2, by rw [upd_ne (far b e2)]; exact e3, by rw [ee]; exact e4⟩
    | spr => exact q2
    | obj b fs =>
      obtain ⟨e1, e2, dx, ws, e3, e4⟩ := q2
      exact ⟨e1, e2, dx, ws, by rw [upd_ne (far b e2)]; exact e3, by rw [ee]; exact e4⟩
theorem pd_self (i : Nat) (T : SysF X.K) (hf : NoAttr X.K (sysC X.K) f) (hN : X.N[i]? = some x := by rfl) (hv : Vis X.env.scope x := by first | exact Or.inl rfl | exact Or.inr (Or.inl rfl) | exact Or.inr (Or.inr rfl)) (hd : (x == ("__debug__" : Str)) = false := by decide)
    (hcd : (x == ("__classdict__" : Str)) = false := by decide) (hb : attributeBase (.Name x p) f X.env (eval (.Name x p) X.env) = eval (.Name x p) X.env := by rfl) : PE X (.Attribute (.Name x p) f pos) (tD X.K (dSelf i f)) := PE.imp (pe_fld (pe_var hN hv hd hcd) hb) fun σ H R h => by
  obtain ⟨S, en, Q, ok, e, q, k⟩ := h
  unfold dSelf at q
  split at q
  · split at q
    · rename_i a fs hc _ d hd
      obtain ⟨v, h1, e1, e2, dx, vs, e3, r⟩ := e.at_ i _ hc
      subst e1
      obtain ⟨u, l, rp⟩ := r.2 f d hd
      exact ⟨_, h1, a, sysC X.K, dx, vs, u, rfl, e3, T.cls, hf, l, k u H d (HE.refl _ _) rp q⟩
    · exact q.elim
  · exact q.elim
theorem sd_setF (i : Nat) (T : SysF X.K) (hf : NoAttr X.K (sysC X.K) f) (he : PE X e (tD X.K de)) (hN : X.N[i]? = some x := by rfl) (hv : Vis X.env.scope x := by first | exact Or.inl rfl | exact Or.inr (Or.inl rfl) | exact Or.inr (Or.inr rfl)) (hd : (x == ("__debug__" : Str)) = false := by decide)
    (hcd : (x == ("__classdict__" : Str)) = false := by decide) (hs : swapsWith e (some (.Attribute (.Name x p) f pos')) pos.line X.env = pure false := by rfl) : PS X (.Assign [.Attribute (.Name x p) f pos'] e pos) (tDS X.K (dSetF i f de)) := PS.imp (ps_fld (pe_var hN hv hd hcd) he hs) fun D σ H h => by
  obtain ⟨S0, H0, S, en, Dd, i0, e, q, k1, k2, k3, k4⟩ := h
  refine ⟨S, en, _, i0.ok, e, q, fun v H1 d he rp q1 => ?_⟩
  split at q1
  · rename_i a fs hc
    obtain ⟨v', h1, e1, e2, dx, vs, e3, r⟩ := (e.he he).at_ i _ hc
    subst e1
    refine ⟨_, h1, a, sysC X.K, dx, vs, rfl, e3, T.cls, hf, Nat.lt_of_le_of_lt r.1 q1.1, ?_⟩
    have ee : er S (upd H1 a (.ins (sysC X.K) dx (putF f v vs))) = er S H1 := er_upd e2
    refine k1 S σ _ _ ((i0.he' he).wr e2 (by omega)) (by rw [ee]; exact he.kp) ((e.he he).wrG (c := .obj a ((f, d) :: fs)) e2 h1 ⟨rfl, e2, dx, _, upd_same, ?_⟩) q1.2
    rw [ee]
    refine ⟨?_, fun g d' hg => ?_⟩
    · have lp : ∀ l : List (Str × V), (putF f v l).length ≤ l.length + 1 := fun l => by
        induction l with
        | nil => exact Nat.le_refl _
        | cons y l ih =>
          unfold putF
          split
          · exact Nat.le_succ _
          · rw [List.length_cons, List.length_cons]
            omega
      have := lp vs
      have := r.1
      rw [List.length_cons]
      omega
    · rw [lookup_putF]
      rw [List.lookup_cons] at hg
      by_cases z : g = f
      · subst z
        rw [if_pos rfl]
        rw [show (g == g) = true by simp] at hg
        cases hg
        exact ⟨v, rfl, rp⟩
      · rw [if_neg z]
        rw [show (g == f) = false by simp [z]] at hg
        exact r.2 g d' hg
  · exact q1.elim
end

/-! ### System(*rows) -/
abbrev DSpI := List D → (D → Prop) → Prop
def SpI (K : PySem.W.Frag) (dsp : DSpI) : Sp := fun vs H R _ => ∃ S H0 x p dx rest ds Q, vs = [.ref x, .ref p] ∧ (∀ a t, S a = some t → t < 2) ∧ Ok S H0 ∧ H0 x = none ∧ H0 p = none ∧ p ≠ x ∧ HE S H0 H ∧ H x = some (.ins (sysC K) dx []) ∧ H p = some (.tup rest) ∧ RpA K (er S H0) rest ds ∧
  dsp ds Q ∧ ∀ H' d, HE S H0 H' → Rp K (er S H') (.ref x) d → Q d → R .non H'
structure DefI (K : PySem.W.Frag) : Prop where
  ex : ∃ f fd, FunD K "__init__" "System.__init__" (defArgs s_init) (defBody s_init) (defScope s_init) [] [] f fd ∧ Mk K (sysC K) f
def InitD (d : DS) (N : List Str) (dsp : DSpI) : Prop := ∀ ds Q x, dsp ds Q → d { nx := fun en => ∃ fs d1 d2 d3 d4 d5, en[0]? = some (some (.obj x fs)) ∧ fs.lookup ("told" : Str) = some d1 ∧ fs.lookup ("kinds" : Str) = some d2 ∧ fs.lookup ("letters" : Str) = some d3 ∧ fs.lookup ("solid" : Str) = some d4 ∧ fs.lookup ("bounds" : Str) = some d5 ∧ Q (.sys d1 d2 d3 d4 d5), rt := fun _ => False } (startE N [.obj x [], .dat (.tup ds)])
def HasI (P : Program) (w : World) (K : PySem.W.Frag) (mg : Str → Option Value) (base : Heap) (k : Nat) (dsp : DSpI) : Prop :=
  ∃ f, Mk K (sysC K) f ∧ FnR P w K mg base CX0 k f fun vs H Q E => ∃ ws rest, vs = ws ++ rest ∧ ws.length = 1 ∧ rest.length ≤ sizeLine ∧ ∀ p, H p = none → SpI K dsp (ws ++ [V.ref p]) (upd H p (.tup rest)) Q E
theorem startE2 {N : List Str} {c d : Cell} {i : Nat} {e : Cell} (h : (startE N [c, d])[i]? = some (some e)) : i = 0 ∧ e = c ∨ i = 1 ∧ e = d := by
  unfold startE at h
  match i, h with
  | 0, h =>
    have h' : some (some c) = some (some e) := h
    cases h'
    exact .inl ⟨rfl, rfl⟩
  | 1, h =>
    have h' : some (some d) = some (some e) := h
    cases h'
    exact .inr ⟨rfl, rfl⟩
  | i + 2, h =>
    rw [List.getElem?_append_right (by simp), List.getElem?_replicate] at h
    split at h <;> cases h
section
variable {P : Program} {w : World} {K : PySem.W.Frag} {mg : Str → Option Value} {base : Heap}
theorem tDS_init {N : List Str} {d : DS} {dsp : DSpI} {vs : List V} {H : Hp} {R : VK} {E : XK} {nR : V → Hp → Prop} (sem : InitD d N dsp) (h : SpI K dsp vs H R E) : tDS K d { nx := fun _ H' => R .non H', rt := nR } (L2.start N vs) H := by
  obtain ⟨S, H0, x, p, dx, rest, ds, Q, ev, low, ok, hx, hp, px, he, hi, ht, rs, q, k⟩ := h
  subst ev
  have sx : S x = none := ok.none hx
  have sp : S p = none := ok.none hp
  have nx : ∀ a, S a ≠ none → a ≠ x := fun a z y => z (by rw [y]; exact sx)
  refine ⟨S, H0, own1 S x 2, startE N [.obj x [], .dat (.tup ds)], _, ⟨low, (he.ok ok).own1 hi (by decide), he, fun a z => own1_ne (nx a z), fun a z y => ?_, ok⟩, ⟨?_, fun i c e => ?_⟩, sem ds Q x q, fun S' σ' H' en' i _ e' q' => ?_, fun _ _ _ _ _ _ _ z => z.elim, fun _ _ _ _ _ _ _ z => z.elim, fun _ _ _ _ _ _ _ z => z.elim⟩
  · by_cases u : a = x
    · rw [u]
      exact hx
    · rw [own1_ne u] at y
      exact absurd z y
  · unfold L2.start startE
    simp
  · rcases startE2 e with ⟨e1, e2⟩ | ⟨e1, e2⟩
    · subst e1 e2
      exact ⟨.ref x, rfl, rfl, own1_self, dx, [], hi, Nat.le_refl _, fun f d z => by cases z⟩
    · subst e1 e2
      exact ⟨.ref p, rfl, .tup (er_of (by rw [own1_ne px]; exact sp) ht) (RpA.kp (kp_own hx he.kp) rs)⟩
  · obtain ⟨fs, d1, d2, d3, d4, d5, h0, h1, h2, h3, h4, h5, q5⟩ := q'
    obtain ⟨v, g1, g2, g3, dx', vs', g4, r⟩ := e'.at_ 0 _ h0
    have bk := i.back
    obtain ⟨v1, l1, r1⟩ := r.2 _ _ h1
    obtain ⟨v2, l2, r2⟩ := r.2 _ _ h2
    obtain ⟨v3, l3, r3⟩ := r.2 _ _ h3
    obtain ⟨v4, l4, r4⟩ := r.2 _ _ h4
    obtain ⟨v5, l5, r5⟩ := r.2 _ _ h5
    exact k H' _ i.he (.sys (er_of sx g4) l1 l2 l3 l4 l5 (Rp.kp bk r1) (Rp.kp bk r2) (Rp.kp bk r3) (Rp.kp bk r4) (Rp.kp bk r5)) q5
theorem has_init {N : List Str} {k : Nat} {dsp : DSpI} {d : DS} (F : DefI K) (S : FnScope N ["self", "rows"] (defScope s_init))
    (hbody : ∀ (f : Addr) (cdv : Value) (A : Around) (outer : List Env) (s : Shared) (H : Hp) (E : XK), Room k (A.deeper (envOfC "System.__init__" (defScope s_init) s.heap.objs.size f cdv)) → PSs (cxOf CX0 P w K mg base N "System.__init__" (defScope s_init) f cdv A outer s H E).nox (defBody s_init) (tDS K d))
    (sem : InitD d N dsp) : HasI P w K mg base (k + 1) dsp := by
  obtain ⟨f, fd, F1, hm⟩ := F.ex
  obtain ⟨oc, od, dV, kV, doc, pm, an, cdv, ct, osl, e, lk, hcd, hD, hK⟩ := F1.ex
  subst e
  rcases hD with ⟨_, e⟩ | ⟨e, _⟩
  · subst e
    refine ⟨f, hm, StX.fn_star (ps := ["self"]) (pv := "rows") lk hcd S StX.cxUp_none (fun us rest hl => match us, rest, hl with | [_], [], _ => rfl | [_], _ :: _, _ => rfl) fun A outer s H vs Q E hr h => ⟨tDS K d, PSs.nox (hbody f cdv A outer s H E hr), tDS_init sem h⟩⟩
  · exact absurd rfl e
end
def itemsLT : D → Option (List D)
  | .tup xs => some xs
  | .lst xs => some xs
  | _ => none
def dMake (dsp : DSpI) (de : DE) : DE := fun en Q => de en fun d => match itemsLT d with
  | some xs => dsp xs Q
  | none => False
section
variable {X : Cx} {k : Nat} {dsp : DSpI} {e : Expr} {de : DE} {x : Str} {p sp_ pos : Pos}
theorem pd_make (F : HasI X.prog X.w X.K X.mg X.base k dsp) (hr : Room (k + 1) X.A) (hm : X.mg x = some (.ref (sysC X.K))) (he : PE X e (tD X.K de)) (hg : Gl X x) (hd : (x == ("__debug__" : Str)) = false := by decide)
    (hst : starEach [.Starred e sp_] X.env = [(true, eval e X.env)] := by rfl) : PE X (.Call (.Name x p) [.Starred e sp_] [] pos) (tD X.K (dMake dsp de)) := by
  refine ⟨fun pins s σ H Q I h => ?_⟩
  obtain ⟨f, M, F1⟩ := F
  obtain ⟨S, en, Q0, ok, e0, q, kk⟩ := h
  have ht : tD X.K de σ H fun v H1 => ∃ a vs xs, v = .ref a ∧ HE S H H1 ∧ (SqT X.K H1 a vs ∨ SqL X.K H1 a vs) ∧ RpA X.K (er S H1) vs xs ∧ dsp xs Q0 := ⟨S, en, _, ok, e0, q, fun v H1 d he rp q1 => by
    cases rp with
    | tup hr rs => exact ⟨_, _, _, rfl, he, .inl (SqT.of (er_some hr).2), rs, q1⟩
    | lst hr rs => exact ⟨_, _, _, rfl, he, .inr (.inl (er_rd hr)), rs, q1⟩
    | _ => exact False.elim q1⟩
  refine wpAny_Call_Name_kw (ld_glob I hg hm ?_ hd)
  refine PySem.W.callWith_S (h₀ := X.base) I.ok.mod.kin M.kp (thn (he.run pins s σ H _ I ht) fun v s1 ⟨y, H1, I1, ry, a, vs, xs, ey, hx, hq, rs, q1⟩ => ?_) hst
  subst ey
  obtain rfl : v = Value.ref a := ry
  have hz : vs.length ≤ sizeLine := by
    rcases hq with hq | hq
    · obtain ⟨_, _, _, z⟩ := I1.tuple hq
      exact z
    · obtain ⟨_, _, _, z⟩ := I1.list hq
      exact z
  refine StX.star_any I1 hq fun us s2 I2 rv => ⟨I2.kIn, ?_⟩
  refine StX.run_makeR M F1 hr pass0 I2 rv (E := E0) fun x1 dx hx1 hdx hne => ⟨[.ref x1], vs, rfl, rfl, hz, fun p1 hp1 => ?_⟩
  have ok1 := hx.ok ok
  have ne1 : p1 ≠ x1 := fun z => by
    rw [z, upd_same] at hp1
    cases hp1
  have hp2 : H1 p1 = none := by
    rw [upd_ne ne1] at hp1
    by_cases z : p1 = dx
    · rw [z, upd_same] at hp1
      cases hp1
    · rw [upd_ne z] at hp1
      exact hp1
  have a1 : HE S H1 (upd H1 dx (.own x1)) := HE.new hdx
  have a2 : HE S (upd H1 dx (.own x1)) (upd (upd H1 dx (.own x1)) x1 (.ins (sysC X.K) dx [])) := HE.new (by rw [upd_ne (Ne.symm hne)]; exact hx1)
  have a3 := HE.new (S := S) (o := .tup vs) hp1
  refine ⟨lowS S, H1, x1, p1, dx, vs, xs, Q0, rfl, lowS_lt, lowS_ok ok1, hx1, hp2, ne1, ?_, by rw [upd_ne (Ne.symm ne1)]; exact upd_same, upd_same, by rw [lowS_er]; exact rs, q1, fun H' d he2 rp q2 => ⟨rfl, ?_⟩⟩
  · have a := (a1.trans a2).trans a3
    exact ⟨fun b o n => a.keep b o fun z => n (lowS_zero.mpr z), fun b n => a.spr b (lowS_zero.mp n)⟩
  · rw [lowS_er] at rp
    exact kk _ H' d (hx.trans (lowS_he he2)) rp q2
end

/-! ### System.read(text) -/
structure DefR (K : PySem.W.Frag) : Prop where
  ex : ∃ p g fd, FunD K "read" "System.read" (defArgs s_read) (defBody s_read) (defScope s_read) [] [] g fd ∧ ClX.CRead K (sysC K) (.type "type") ∧ ClX.CMet K (sysC K) (.type "type") "read" p g
def SpR (K : PySem.W.Frag) (dsp : DSp) : Sp := fun vs H R _ => ∃ S v d Q, vs = [.ref (sysC K), v] ∧ (∀ a t, S a = some t → t < 2) ∧ Ok S H ∧ Rp K (er S H) v d ∧ dsp [.dat d] Q ∧ ∀ v H' d, HE S H H' → Rp K (er S H') v d → Q d → R v H'
def HasR (P : Program) (w : World) (K : PySem.W.Frag) (mg : Str → Option Value) (base : Heap) (k : Nat) (dsp : DSp) : Prop :=
  ∃ p g, ClX.CRead K (sysC K) (.type "type") ∧ ClX.CMet K (sysC K) (.type "type") "read" p g ∧ FnR P w K mg base CX0 k g (SpR K dsp)
def startR (N : List Str) (d : D) : En := none :: some (.dat d) :: List.replicate (N.length - 2) none
theorem startR_at {N : List Str} {d : D} {i : Nat} {e : Cell} (h : (startR N d)[i]? = some (some e)) : i = 1 ∧ e = .dat d := by
  unfold startR at h
  match i, h with
  | 0, h =>
    have h' : some (none : Option Cell) = some (some e) := h
    cases h'
  | 1, h =>
    have h' : some (some (Cell.dat d)) = some (some e) := h
    cases h'
    exact ⟨rfl, rfl⟩
  | i + 2, h =>
    have h' : (List.replicate (N.length - 2) (none : Option Cell))[i]? = some (some e) := h
    rw [List.getElem?_replicate] at h'
    split at h' <;> cases h'
section
variable {P : Program} {w : World} {K : PySem.W.Frag} {mg : Str → Option Value} {base : Heap}
theorem has_read {N : List Str} {k : Nat} {dsp : DSp} {d : DS} (F : DefR K) (S : FnScope N ["cls", "text"] (defScope s_read))
    (hbody : ∀ (f : Addr) (cdv : Value) (A : Around) (outer : List Env) (s : Shared) (H : Hp) (E : XK), Room k (A.deeper (envOfC "System.read" (defScope s_read) s.heap.objs.size f cdv)) → PSs (cxOf CX0 P w K mg base N "System.read" (defScope s_read) f cdv A outer s H E).nox (defBody s_read) (tDS K d))
    (sem : ∀ t Q, dsp [.dat t] Q → d { nx := fun _ => Q .non, rt := Q } (startR N t)) : HasR P w K mg base (k + 1) dsp := by
  obtain ⟨p, g, fd, F1, cr, cm⟩ := F.ex
  have F2 : FnOk P w K mg base CX0 (k + 1) g fd ["cls", "text"] (SpR K dsp) := F1.ok S (fun vs H Q E ⟨_, _, _, _, e, _⟩ => by rw [e]; rfl) fun cdv A outer s H vs Q E hr h => ⟨tDS K d, PSs.nox (hbody g cdv A outer s H E hr), by
    obtain ⟨S, v, t, Q0, ev, low, ok, rp, q, k⟩ := h
    subst ev
    refine ⟨S, H, S, startR N t, { nx := fun _ => Q0 .non, rt := Q0 }, ⟨low, ok, HE.refl _ _, fun _ _ => rfl, fun a h1 h2 => absurd h1 h2, ok⟩, ⟨?_, fun i c e => ?_⟩, sem t Q0 q, fun S' σ' H' en' i _ _ q' => ?_, fun S' v H' d' i _ rp q' => ?_, fun _ _ _ _ _ _ _ z => z.elim, fun _ _ _ _ _ _ _ z => z.elim⟩
    · unfold L2.start startR
      simp
    · obtain ⟨e1, e2⟩ := startR_at e
      subst e1 e2
      exact ⟨v, rfl, rp⟩
    · exact k .non H' .non i.he .non q'
    · exact k v H' d' i.he (Rp.kp i.back rp) q'⟩
  refine ⟨p, g, cr, cm, FnR.imp (F2.raw (F1.bindsN fun _ _ _ _ _ _ us hl => match us, hl with | [_, _], _ => rfl) .nil) fun vs H Q E h => ?_⟩
  show SpR K dsp (vs ++ []) H Q E
  rw [List.append_nil]
  exact h
end
section
variable {X : Cx} {k : Nat} {dsp : DSp} {e : Expr} {de : DE} {x : Str} {p apos pos : Pos}
theorem pd_read (F : HasR X.prog X.w X.K X.mg X.base k dsp) (hr : Room k X.A) (hm : X.mg x = some (.ref (sysC X.K))) (he : PE X e (tD X.K de)) (hg : Gl X x) (hd : (x == ("__debug__" : Str)) = false := by decide)
    (hst : starEach [e] X.env = (false, eval e X.env) :: starEach [] X.env := by rfl) (hpl : (backTo pos (starEach [] X.env)).any (·.1) = false := by rfl) {pl : Sem Bool}
    (ht : eval (.Call (.Attribute (.Name x p) "read" apos) [e] [] pos) X.env = (do
      let ov ← eval (.Name x p) X.env
      standAt apos.atName
      let (f, first) ← holding [ov] (getMethod ov "read" pl)
      callWith pos f first (backTo pos (starEach [e] X.env)) (backToKw pos (keywordEach [] X.env))) := by rfl) :
    PE X (.Call (.Attribute (.Name x p) "read" apos) [e] [] pos) (tD X.K (dCall dsp (dA (dLcons de dLnil)))) := by
  obtain ⟨q, g, cr, cm, F1⟩ := F
  refine PE.imp (ClX.pe_cmeth (pe_glob (v := .ref (sysC X.K)) hg hm rfl hd) cr cm F1 hr pass0 (pa_cons he pa_nil hst) hst hpl ht) fun σ H R h => ?_
  obtain ⟨S, en, Q, ok, e0, q, kk⟩ := h
  refine ⟨rfl, S, en, _, ok, e0, q, fun v H1 d he rp q1 => ?_⟩
  refine ⟨lowS S, v, d, Q, rfl, lowS_lt, lowS_ok (he.ok ok), by rw [lowS_er]; exact rp, q1, fun u H2 d2 he2 rp2 q2 => kk u H2 d2 (he.trans (lowS_he he2)) ?_ q2⟩
  rw [lowS_er] at rp2
  exact rp2
/-- try: .. except X: .. where nothing is raised -/
theorem sd_try {c : Value} {body suite : List Stmt} {b0 : Stmt} {np pos' : Pos} {d : DS} (hs : X.stack = X.env :: X.outer) (hf : X.env.frame = some X.env.locals) (hc : Names X x c) (tk : Takes X fun _ _ _ _ => False)
    (hb : ∀ (pn : List (Addr × Obj)) (xe : Value → Shared → Prop), PSs (X.tr pn xe) body (tDS X.K d)) : PS X (.Try body [.ExceptHandler (some (.Name x np)) none (b0 :: suite) pos'] [] [] pos) (tDS X.K d) := by
  refine PS.imp (ps_try_only (ts := fun _ _ _ _ _ _ => False) (tb := fun _ => tDS X.K d) hs hf hc tk (fun W pn xe _ _ => hb pn xe) fun a oe cls dd pn _ _ => ⟨fun pins s σ H D I h => h.elim⟩) fun D σ H h => h
end
end Fe
set_option Elab.async false
set_option linter.all false
set_option maxRecDepth 100000
set_option maxHeartbeats 4000000
/-! Layer 2 (printed by gen_defs.py): the defs' bodies over data. -/
namespace Fe
open PySem PySem.W PySem.Calls PyProof.Rows L2
section
variable {P : Program} {w : World} {K : PySem.W.Frag} {mg : Str → Option Value} {base : Heap}
def d_is_integer : DS := (dRet (dAndV (dUn (fIsi "int") (dVar 0)) (dNotT (dUn (fIsi "bool") (dVar 0)))))
abbrev N_is_integer : List Str := ["value"]
theorem sc_is_integer : FnScope N_is_integer ["value"] (defScope s_is_integer) := ⟨rfl, rfl, rfl, by decide +kernel, rfl, by decide +kernel, by decide +kernel⟩
theorem w_is_integer  {dsp : DSp} (M : Mods w K mg) (F : Def1 K mg "is_integer" s_is_integer)  (sem : ∀ cs Q, cs.length = 1 → dsp cs Q → d_is_integer { nx := fun _ => Q .non, rt := Q } (startE N_is_integer cs)) : HasFn P w K mg base 1 "is_integer" 1 dsp :=
  has_fn (d := d_is_integer) F sc_is_integer rfl (fun _ _ _ _ _ _ us hl => match us, hl with | [_], _ => rfl) (fun f cdv A outer s H E hr => by exact (sd_one (sd_ret (pd_andV (pd_isi M.n_isinstance M.n_int boot_int (.inl rfl) (pd_var 0) (by rfl) (by rfl)) (pd_oneV (pd_notT (pd_isi M.n_isinstance M.n_bool boot_bool (.inr (.inl rfl)) (pd_var 0) (by rfl) (by rfl)))))))) sem
def d_is_between (q_is_integer : DSp) : DS := (dRet (dAndV (dCall q_is_integer (dA (dLcons (dVar 0) dLnil))) (dChain fLe fLe (dVar 1) (dVar 0) (dVar 2))))
abbrev N_is_between : List Str := ["value", "least", "most"]
theorem sc_is_between : FnScope N_is_between ["value", "least", "most"] (defScope s_is_between) := ⟨rfl, rfl, rfl, by decide +kernel, rfl, by decide +kernel, by decide +kernel⟩
theorem w_is_between {q_is_integer : DSp} {dsp : DSp} (M : Mods w K mg) (F : Def1 K mg "is_between" s_is_between) (h_is_integer : HasFn P w K mg base 1 "is_integer" 1 q_is_integer) (sem : ∀ cs Q, cs.length = 3 → dsp cs Q → d_is_between q_is_integer { nx := fun _ => Q .non, rt := Q } (startE N_is_between cs)) : HasFn P w K mg base 2 "is_between" 3 dsp :=
  has_fn (d := d_is_between q_is_integer) F sc_is_between rfl (fun _ _ _ _ _ _ us hl => match us, hl with | [_, _, _], _ => rfl) (fun f cdv A outer s H E hr => by exact (sd_one (sd_ret (pd_andV (pd_call (h_is_integer.mono (by decide)) hr (pda (pdl_cons (pd_var 0) pdl_nil)) (by rfl)) (pd_oneV (pd_chain op_le r2_le op_le r2_le (pd_var 1) (pd_var 0) (pd_var 2))))))) sem
def d_divisor : DS := (dSeq (dPar 0 1 (dUn fAbs (dVar 0)) (dUn fAbs (dVar 1))) (dSeq (dWhile (dTest (dBin fGt (dVar 1) (dC (.int 0)))) (dPar 0 1 (dVar 1) (dBin fMod (dVar 0) (dVar 1)))) (dRet (dVar 0))))
abbrev N_divisor : List Str := ["one", "other"]
theorem sc_divisor : FnScope N_divisor ["one", "other"] (defScope s_divisor) := ⟨rfl, rfl, rfl, by decide +kernel, rfl, by decide +kernel, by decide +kernel⟩
theorem w_divisor  {dsp : DSp} (M : Mods w K mg) (F : Def1 K mg "divisor" s_divisor)  (sem : ∀ cs Q, cs.length = 2 → dsp cs Q → d_divisor { nx := fun _ => Q .non, rt := Q } (startE N_divisor cs)) : HasFn P w K mg base 1 "divisor" 2 dsp :=
  has_fn (d := d_divisor) F sc_divisor rfl (fun _ _ _ _ _ _ us hl => match us, hl with | [_, _], _ => rfl) (fun f cdv A outer s H E hr => by exact (sd_cons (sd_par (i := 0) (j := 1) rfl sc_divisor.nd (pdl_cons (pd_b1 M.n_abs call_abs c1_abs boot_abs (pd_var 0) (by rfl)) (pdl_cons (pd_b1 M.n_abs call_abs c1_abs boot_abs (pd_var 1) (by rfl)) pdl_nil))) (sd_cons (sd_while (ptd_cmp op_gt r2_gt (pd_var 1) pd_int (by rfl)) (sd_one (sd_par (i := 0) (j := 1) rfl sc_divisor.nd (pdl_cons (pd_var 1) (pdl_cons (pd_bin op_mod r2_mod (pd_var 0) (pd_var 1)) pdl_nil))))) (sd_one (sd_ret (pd_var 0)))))) sem
def d_ratio (q_divisor : DSp) : DS := (dSeq (dAsg 2 (dCall q_divisor (dA (dLcons (dVar 0) (dLcons (dVar 1) dLnil))))) (dSeq (dIfS (dTest (dBin fLt (dVar 1) (dC (.int 0)))) (dAsg 2 (dUn fNeg (dVar 2))) dNx) (dRet (dTup (dLcons (dBin fDiv (dVar 0) (dVar 2)) (dLcons (dBin fDiv (dVar 1) (dVar 2)) dLnil))))))
abbrev N_ratio : List Str := ["top", "bottom", "great"]
theorem sc_ratio : FnScope N_ratio ["top", "bottom"] (defScope s_ratio) := ⟨rfl, rfl, rfl, by decide +kernel, rfl, by decide +kernel, by decide +kernel⟩
theorem w_ratio {q_divisor : DSp} {dsp : DSp} (M : Mods w K mg) (F : Def1 K mg "ratio" s_ratio) (h_divisor : HasFn P w K mg base 1 "divisor" 2 q_divisor) (sem : ∀ cs Q, cs.length = 2 → dsp cs Q → d_ratio q_divisor { nx := fun _ => Q .non, rt := Q } (startE N_ratio cs)) : HasFn P w K mg base 2 "ratio" 2 dsp :=
  has_fn (d := d_ratio q_divisor) F sc_ratio rfl (fun _ _ _ _ _ _ us hl => match us, hl with | [_, _], _ => rfl) (fun f cdv A outer s H E hr => by exact (sd_cons (sd_set (i := 2) sc_ratio.nd (pd_call (h_divisor.mono (by decide)) hr (pda (pdl_cons (pd_var 0) (pdl_cons (pd_var 1) pdl_nil))) (by rfl))) (sd_cons (sd_if (ptd_cmp op_lt r2_lt (pd_var 1) pd_int (by rfl)) (sd_one (sd_set (i := 2) sc_ratio.nd (pd_neg (pd_var 2)))) sd_nil) (sd_one (sd_ret (pd_tup (pdl_cons (pd_bin op_fdiv r2_div (pd_var 0) (pd_var 2)) (pdl_cons (pd_bin op_fdiv r2_div (pd_var 1) (pd_var 2)) pdl_nil)))))))) sem
def d_plus (q_ratio : DSp) : DS := (dRet (dCall q_ratio (dA (dLcons (dBin fAdd (dBin fMul (dBin fIx (dVar 0) (dC (.int 0))) (dBin fIx (dVar 1) (dC (.int 1)))) (dBin fMul (dBin fIx (dVar 1) (dC (.int 0))) (dBin fIx (dVar 0) (dC (.int 1))))) (dLcons (dBin fMul (dBin fIx (dVar 0) (dC (.int 1))) (dBin fIx (dVar 1) (dC (.int 1)))) dLnil)))))
abbrev N_plus : List Str := ["one", "other"]
theorem sc_plus : FnScope N_plus ["one", "other"] (defScope s_plus) := ⟨rfl, rfl, rfl, by decide +kernel, rfl, by decide +kernel, by decide +kernel⟩
theorem w_plus {q_ratio : DSp} {dsp : DSp} (M : Mods w K mg) (F : Def1 K mg "plus" s_plus) (h_ratio : HasFn P w K mg base 2 "ratio" 2 q_ratio) (sem : ∀ cs Q, cs.length = 2 → dsp cs Q → d_plus q_ratio { nx := fun _ => Q .non, rt := Q } (startE N_plus cs)) : HasFn P w K mg base 3 "plus" 2 dsp :=
  has_fn (d := d_plus q_ratio) F sc_plus rfl (fun _ _ _ _ _ _ us hl => match us, hl with | [_, _], _ => rfl) (fun f cdv A outer s H E hr => by exact (sd_one (sd_ret (pd_call (h_ratio.mono (by decide)) hr (pda (pdl_cons (pd_bin op_add3 r2_add (pd_bin op_mulB r2_mul (pd_ix (pd_var 0) pd_int) (pd_ix (pd_var 1) pd_int)) (pd_bin op_mulB r2_mul (pd_ix (pd_var 1) pd_int) (pd_ix (pd_var 0) pd_int))) (pdl_cons (pd_bin op_mulB r2_mul (pd_ix (pd_var 0) pd_int) (pd_ix (pd_var 1) pd_int)) pdl_nil))) (by rfl))))) sem
def d_times (q_ratio : DSp) : DS := (dRet (dCall q_ratio (dA (dLcons (dBin fMul (dBin fIx (dVar 0) (dC (.int 0))) (dVar 1)) (dLcons (dBin fIx (dVar 0) (dC (.int 1))) dLnil)))))
abbrev N_times : List Str := ["one", "factor"]
theorem sc_times : FnScope N_times ["one", "factor"] (defScope s_times) := ⟨rfl, rfl, rfl, by decide +kernel, rfl, by decide +kernel, by decide +kernel⟩
theorem w_times {q_ratio : DSp} {dsp : DSp} (M : Mods w K mg) (F : Def1 K mg "times" s_times) (h_ratio : HasFn P w K mg base 2 "ratio" 2 q_ratio) (sem : ∀ cs Q, cs.length = 2 → dsp cs Q → d_times q_ratio { nx := fun _ => Q .non, rt := Q } (startE N_times cs)) : HasFn P w K mg base 3 "times" 2 dsp :=
  has_fn (d := d_times q_ratio) F sc_times rfl (fun _ _ _ _ _ _ us hl => match us, hl with | [_, _], _ => rfl) (fun f cdv A outer s H E hr => by exact (sd_one (sd_ret (pd_call (h_ratio.mono (by decide)) hr (pda (pdl_cons (pd_bin op_mulB r2_mul (pd_ix (pd_var 0) pd_int) (pd_var 1)) (pdl_cons (pd_ix (pd_var 0) pd_int) pdl_nil))) (by rfl))))) sem
def d_sum_at (q_plus : DSp) (q_times : DSp) : DS := (dSeq (dAsg 2 (dTup (dLcons (dC (.int 0)) (dLcons (dC (.int 1)) dLnil)))) (dSeq (dFor (dZip (dVar 0) (dVar 1)) (dgT 3 4) (dAsg 2 (dCall q_plus (dA (dLcons (dVar 2) (dLcons (dCall q_times (dA (dLcons (dVar 4) (dLcons (dVar 3) dLnil)))) dLnil)))))) (dRet (dVar 2))))
abbrev N_sum_at : List Str := ["weights", "point", "found", "weight", "value"]
theorem sc_sum_at : FnScope N_sum_at ["weights", "point"] (defScope s_sum_at) := ⟨rfl, rfl, rfl, by decide +kernel, rfl, by decide +kernel, by decide +kernel⟩
theorem w_sum_at {q_plus : DSp} {q_times : DSp} {dsp : DSp} (M : Mods w K mg) (F : Def1 K mg "sum_at" s_sum_at) (h_plus : HasFn P w K mg base 3 "plus" 2 q_plus) (h_times : HasFn P w K mg base 3 "times" 2 q_times) (sem : ∀ cs Q, cs.length = 2 → dsp cs Q → d_sum_at q_plus q_times { nx := fun _ => Q .non, rt := Q } (startE N_sum_at cs)) : HasFn P w K mg base 4 "sum_at" 2 dsp :=
  has_fn (d := d_sum_at q_plus q_times) F sc_sum_at rfl (fun _ _ _ _ _ _ us hl => match us, hl with | [_, _], _ => rfl) (fun f cdv A outer s H E hr => by exact (sd_cons (sd_set (i := 2) sc_sum_at.nd (pd_tup (pdl_cons pd_int (pdl_cons pd_int pdl_nil)))) (sd_cons (sd_for rfl (pid_z M.n_zip (pd_var 0) (pd_var 1) (by rfl)) (pg_tup rfl (pgs_cons (pg_name sc_sum_at.nd rfl (by first | exact Or.inl rfl | exact Or.inr rfl)) (pgs_cons (pg_name sc_sum_at.nd rfl (by first | exact Or.inl rfl | exact Or.inr rfl)) pgs_nil))) (rg_t (vs := [3, 4]) (by decide) (by decide)) (sd_one (sd_set (i := 2) sc_sum_at.nd (pd_call (h_plus.mono (by decide)) hr (pda (pdl_cons (pd_var 2) (pdl_cons (pd_call (h_times.mono (by decide)) hr (pda (pdl_cons (pd_var 4) (pdl_cons (pd_var 3) pdl_nil))) (by rfl)) pdl_nil))) (by rfl))))) (sd_one (sd_ret (pd_var 2)))))) sem
def d_at_most : DS := (dRet (dTup (dLcons (dUn fTuple (dVar 0)) (dLcons (dVar 1) dLnil))))
abbrev N_at_most : List Str := ["weights", "constant"]
theorem sc_at_most : FnScope N_at_most ["weights", "constant"] (defScope s_at_most) := ⟨rfl, rfl, rfl, by decide +kernel, rfl, by decide +kernel, by decide +kernel⟩
theorem w_at_most  {dsp : DSp} (M : Mods w K mg) (F : Def1 K mg "at_most" s_at_most)  (sem : ∀ cs Q, cs.length = 2 → dsp cs Q → d_at_most { nx := fun _ => Q .non, rt := Q } (startE N_at_most cs)) : HasFn P w K mg base 1 "at_most" 2 dsp :=
  has_fn (d := d_at_most) F sc_at_most rfl (fun _ _ _ _ _ _ us hl => match us, hl with | [_, _], _ => rfl) (fun f cdv A outer s H E hr => by exact (sd_one (sd_ret (pd_tup (pdl_cons (pd_t1 M.n_tuple call_tuple_of c1_tuple boot_tuple (pd_var 0) (by rfl)) (pdl_cons (pd_var 1) pdl_nil)))))) sem
def d_at_least : DS := (dRet (dTup (dLcons (dUn fTuple (dFr (dLc (dIt (dVar 0)) (dgN 2) dYes (dUn fNeg (dVar 2)) [2]))) (dLcons (dUn fNeg (dVar 1)) dLnil))))
abbrev N_at_least : List Str := ["weights", "constant", "weight"]
theorem sc_at_least : FnScope N_at_least ["weights", "constant"] (defScope s_at_least) := ⟨rfl, rfl, rfl, by decide +kernel, rfl, by decide +kernel, by decide +kernel⟩
theorem w_at_least  {dsp : DSp} (M : Mods w K mg) (F : Def1 K mg "at_least" s_at_least)  (sem : ∀ cs Q, cs.length = 2 → dsp cs Q → d_at_least { nx := fun _ => Q .non, rt := Q } (startE N_at_least cs)) : HasFn P w K mg base 1 "at_least" 2 dsp :=
  has_fn (d := d_at_least) F sc_at_least rfl (fun _ _ _ _ _ _ us hl => match us, hl with | [_, _], _ => rfl) (fun f cdv A outer s H E hr => by exact (sd_one (sd_ret (pd_tup (pdl_cons (pd_t1 M.n_tuple call_tuple_of c1_tuple boot_tuple (pd_fr (pf_lc rfl sc_at_least.nd (pid_t (pd_var 0)) (blkOk_by (own := [("weight", 2)]) (by kernel_rfl)) (rg_n (by decide)) (fun _ _ _ _ _ => pg_name sc_at_least.nd rfl (by first | exact Or.inl rfl | exact Or.inr rfl)) (fun _ _ _ _ _ => ptsd_nil) (fun _ _ _ _ _ => (pd_neg (pd_var 2))))) (by rfl)) (pdl_cons (pd_neg (pd_var 1)) pdl_nil)))))) sem
def d_number_in : DS := (dSeq (dIfS (dOr (dTest (dBin fEq (dVar 0) (dC (.str "")))) (dNot (dTru (dUn fAll (dFr (dLc (dIs (dVar 0)) (dgN 1) dYes (dBin fInSign (dVar 1) (dC (.str "0123456789"))) [1])))))) (dRet (dC .non)) dNx) (dRet (dIf (dOr (dTest (dBin fNe (dBin fIx (dVar 0) (dC (.int 0))) (dC (.str "0")))) (dTest (dBin fEq (dVar 0) (dC (.str "0"))))) (dUn fIntI (dVar 0)) (dC .non))))
abbrev N_number_in : List Str := ["word", "sign"]
theorem sc_number_in : FnScope N_number_in ["word"] (defScope s_number_in) := ⟨rfl, rfl, rfl, by decide +kernel, rfl, by decide +kernel, by decide +kernel⟩
theorem w_number_in  {dsp : DSp} (M : Mods w K mg) (F : Def1 K mg "number_in" s_number_in)  (sem : ∀ cs Q, cs.length = 1 → dsp cs Q → d_number_in { nx := fun _ => Q .non, rt := Q } (startE N_number_in cs)) : HasFn P w K mg base 1 "number_in" 1 dsp :=
  has_fn (d := d_number_in) F sc_number_in rfl (fun _ _ _ _ _ _ us hl => match us, hl with | [_], _ => rfl) (fun f cdv A outer s H E hr => by exact (sd_cons (sd_if (PW.pt (pwd_or (ptd_cmp op_eq r2_eq (pd_var 0) pd_str (by rfl)) (pwd_or1 (ptd_not (ptd_tru (pd_b1 M.n_all (cr_all rfl) c1_all boot_all (pd_fr (pf_lc rfl sc_number_in.nd (pid_s (pd_var 0)) (blkOk_by (own := [("sign", 1)]) (by kernel_rfl)) (rg_n (by decide)) (fun _ _ _ _ _ => pg_name sc_number_in.nd rfl (by first | exact Or.inl rfl | exact Or.inr rfl)) (fun _ _ _ _ _ => ptsd_nil) (fun _ _ _ _ _ => (pd_cmp op_in_sign r2_inSign (pd_var 1) (pd_gstr M.c_FIGURES (by rfl)) (by rfl))))) (by rfl))))))) (sd_one (sd_ret pd_non)) sd_nil) (sd_one (sd_ret (pd_if (PW.pt (pwd_or (ptd_cmp op_ne r2_ne (pd_ix (pd_var 0) pd_int) pd_str (by rfl)) (pwd_or1 (ptd_cmp op_eq r2_eq (pd_var 0) pd_str (by rfl))))) (pd_t1 M.n_int call_intD c1_int boot_int (pd_var 0) (by rfl)) pd_non))))) sem
def d_signed_in (q_number_in : DSp) : DS := (dSeq (dIfS (dTest (dBin fNe (dSl (dVar 0) dNo (dPart (dC (.int 1)))) (dC (.str "-")))) (dRet (dCall q_number_in (dA (dLcons (dVar 0) dLnil)))) dNx) (dSeq (dAsg 1 (dCall q_number_in (dA (dLcons (dSl (dVar 0) (dPart (dC (.int 1))) dNo) dLnil)))) (dRet (dIf (dOr (dTest (dIsN (dVar 1))) (dTest (dBin fEq (dVar 1) (dC (.int 0))))) (dC .non) (dUn fNeg (dVar 1))))))
abbrev N_signed_in : List Str := ["word", "size"]
theorem sc_signed_in : FnScope N_signed_in ["word"] (defScope s_signed_in) := ⟨rfl, rfl, rfl, by decide +kernel, rfl, by decide +kernel, by decide +kernel⟩
theorem w_signed_in {q_number_in : DSp} {dsp : DSp} (M : Mods w K mg) (F : Def1 K mg "signed_in" s_signed_in) (h_number_in : HasFn P w K mg base 1 "number_in" 1 q_number_in) (sem : ∀ cs Q, cs.length = 1 → dsp cs Q → d_signed_in q_number_in { nx := fun _ => Q .non, rt := Q } (startE N_signed_in cs)) : HasFn P w K mg base 2 "signed_in" 1 dsp :=
  has_fn (d := d_signed_in q_number_in) F sc_signed_in rfl (fun _ _ _ _ _ _ us hl => match us, hl with | [_], _ => rfl) (fun f cdv A outer s H E hr => by exact (sd_cons (sd_if (ptd_cmp op_ne r2_ne (pd_sl (pd_var 0) pod_no (pod_some pd_int)) pd_str (by rfl)) (sd_one (sd_ret (pd_call (h_number_in.mono (by decide)) hr (pda (pdl_cons (pd_var 0) pdl_nil)) (by rfl)))) sd_nil) (sd_cons (sd_set (i := 1) sc_signed_in.nd (pd_call (h_number_in.mono (by decide)) hr (pda (pdl_cons (pd_sl (pd_var 0) (pod_some pd_int) pod_no) pdl_nil)) (by rfl))) (sd_one (sd_ret (pd_if (PW.pt (pwd_or (ptd_isN (pd_var 1)) (pwd_or1 (ptd_cmp op_eq r2_eq (pd_var 1) pd_int (by rfl))))) pd_non (pd_neg (pd_var 1)))))))) sem
def d_unknowns_in : DS := (dSeq (dAsg 1 (dIf (dTru (dUn (fIsi "str") (dVar 0))) (dBin fSplit (dS (dVar 0)) (dC (.str ", "))) (dFr dLnil))) (dSeq (dIfS (dNot (dTest (dChain fLe fLe (dC (.int 1)) (dUn fLen (dVar 1)) (dUn fLen (dC (.str "xy")))))) (dRet (dC .non)) dNx) (dSeq (dAsgO 2 dLnil) (dSeq (dFor (dZip (dC (.str "xy")) (dVar 1)) (dgT 3 4) (dSeq (dAsg 5 (dBin fSplit (dS (dVar 4)) (dC (.str " ")))) (dSeq (dIfS (dOr (dTest (dBin fNe (dUn fLen (dVar 5)) (dC (.int 2)))) (dOr (dTest (dBin fNe (dBin fIx (dVar 5) (dC (.int 0))) (dVar 3))) (dTest (dUn (fNotInK ["whole", "any"]) (dBin fIx (dVar 5) (dC (.int 1))))))) (dRet (dC .non)) dNx) (dAppend 2 (dBin fIx (dVar 5) (dC (.int 1))))))) (dFreeze 2 (dRet (dUn fTuple (dVar 2))))))))
abbrev N_unknowns_in : List Str := ["row", "words", "found", "letter", "word", "parts"]
theorem sc_unknowns_in : FnScope N_unknowns_in ["row"] (defScope s_unknowns_in) := ⟨rfl, rfl, rfl, by decide +kernel, rfl, by decide +kernel, by decide +kernel⟩
theorem w_unknowns_in  {dsp : DSp} (M : Mods w K mg) (F : Def1 K mg "unknowns_in" s_unknowns_in)  (sem : ∀ cs Q, cs.length = 1 → dsp cs Q → d_unknowns_in { nx := fun _ => Q .non, rt := Q } (startE N_unknowns_in cs)) : HasFn P w K mg base 1 "unknowns_in" 1 dsp :=
  has_fn (d := d_unknowns_in) F sc_unknowns_in rfl (fun _ _ _ _ _ _ us hl => match us, hl with | [_], _ => rfl) (fun f cdv A outer s H E hr => by exact (sd_cons (sd_set (i := 1) sc_unknowns_in.nd (pd_if (ptd_tru (pd_isi M.n_isinstance M.n_str boot_str (.inr (.inr (.inl rfl))) (pd_var 0) (by rfl) (by rfl))) (pd_split (pd_var 0) (pd_gstr M.c_JOIN (by rfl))) (pd_fr (pf_lst pdl_nil)))) (sd_cons (sd_if (ptd_not (ptd_chain op_le r2_le op_le r2_le pd_int (pd_b1 M.n_len call_lenD c1_len boot_len (pd_var 1) (by rfl)) (pd_b1 M.n_len call_lenD c1_len boot_len (pd_gstr M.c_UNKNOWNS (by rfl)) (by rfl)))) (sd_one (sd_ret pd_non)) sd_nil) (sd_cons (sd_setO (i := 2) sc_unknowns_in.nd (pf_lst pdl_nil)) (sd_cons (sd_for rfl (pid_z M.n_zip (pd_gstr M.c_UNKNOWNS (by rfl)) (pd_var 1) (by rfl)) (pg_tup rfl (pgs_cons (pg_name sc_unknowns_in.nd rfl (by first | exact Or.inl rfl | exact Or.inr rfl)) (pgs_cons (pg_name sc_unknowns_in.nd rfl (by first | exact Or.inl rfl | exact Or.inr rfl)) pgs_nil))) (rg_t (vs := [3, 4]) (by decide) (by decide)) (sd_cons (sd_set (i := 5) sc_unknowns_in.nd (pd_split (pd_var 4) pd_str)) (sd_cons (sd_if (PW.pt (pwd_or (ptd_cmp op_ne r2_ne (pd_b1 M.n_len call_lenD c1_len boot_len (pd_var 5) (by rfl)) pd_int (by rfl)) (pwd_or (ptd_cmp op_ne r2_ne (pd_ix (pd_var 5) pd_int) (pd_var 3) (by rfl)) (pwd_or1 (ptd_notInK M.c_KINDS.2 M.c_KINDS.1 (pd_ix (pd_var 5) pd_int) (by rfl)))))) (sd_one (sd_ret pd_non)) sd_nil) (sd_one (sd_append (i := 2) (ha := (pd_ix (pd_var 5) pd_int))))))) (sd_freeze 2 (sd_one (sd_ret (pd_t1 M.n_tuple call_tuple_of c1_tuple boot_tuple (pd_var 2) (by rfl)))))))))) sem
def d_term_in (q_number_in : DSp) : DS := (dSeq (dAsg 1 (dBin fSplit (dS (dVar 0)) (dC (.str "*")))) (dSeq (dIfS (dOr (dTest (dBin fNotIn (dBin fIx (dVar 1) (dUn fNeg (dC (.int 1)))) (dTup (dLcons (dC (.str "x")) (dLcons (dC (.str "y")) dLnil))))) (dTest (dBin fGt (dUn fLen (dVar 1)) (dC (.int 2))))) (dRet (dC .non)) dNx) (dSeq (dAsg 2 (dIf (dTest (dBin fEq (dUn fLen (dVar 1)) (dC (.int 1)))) (dC (.int 1)) (dCall q_number_in (dA (dLcons (dBin fIx (dVar 1) (dC (.int 0))) dLnil))))) (dSeq (dIfS (dOr (dTest (dIsN (dVar 2))) (dAnd (dTest (dBin fEq (dUn fLen (dVar 1)) (dC (.int 2)))) (dNot (dTest (dChain fLe fLe (dC (.int 2)) (dVar 2) (dC (.int 99))))))) (dRet (dC .non)) dNx) (dRet (dTup (dLcons (dVar 2) (dLcons (dBin fSIndex (dS (dC (.str "xy"))) (dBin fIx (dVar 1) (dUn fNeg (dC (.int 1))))) dLnil))))))))
abbrev N_term_in : List Str := ["word", "parts", "size"]
theorem sc_term_in : FnScope N_term_in ["word"] (defScope s_term_in) := ⟨rfl, rfl, rfl, by decide +kernel, rfl, by decide +kernel, by decide +kernel⟩
theorem w_term_in {q_number_in : DSp} {dsp : DSp} (M : Mods w K mg) (F : Def1 K mg "term_in" s_term_in) (h_number_in : HasFn P w K mg base 1 "number_in" 1 q_number_in) (sem : ∀ cs Q, cs.length = 1 → dsp cs Q → d_term_in q_number_in { nx := fun _ => Q .non, rt := Q } (startE N_term_in cs)) : HasFn P w K mg base 2 "term_in" 1 dsp :=
  has_fn (d := d_term_in q_number_in) F sc_term_in rfl (fun _ _ _ _ _ _ us hl => match us, hl with | [_], _ => rfl) (fun f cdv A outer s H E hr => by exact (sd_cons (sd_set (i := 1) sc_term_in.nd (pd_split (pd_var 0) pd_str)) (sd_cons (sd_if (PW.pt (pwd_or (ptd_cmp op_notIn_seq r2_notIn (pd_ix (pd_var 1) (pd_neg pd_int)) (pd_tup (pdl_cons pd_str (pdl_cons pd_str pdl_nil))) (by rfl)) (pwd_or1 (ptd_cmp op_gt r2_gt (pd_b1 M.n_len call_lenD c1_len boot_len (pd_var 1) (by rfl)) pd_int (by rfl))))) (sd_one (sd_ret pd_non)) sd_nil) (sd_cons (sd_set (i := 2) sc_term_in.nd (pd_if (ptd_cmp op_eq r2_eq (pd_b1 M.n_len call_lenD c1_len boot_len (pd_var 1) (by rfl)) pd_int (by rfl)) pd_int (pd_call (h_number_in.mono (by decide)) hr (pda (pdl_cons (pd_ix (pd_var 1) pd_int) pdl_nil)) (by rfl)))) (sd_cons (sd_if (PW.pt (pwd_or (ptd_isN (pd_var 2)) (pwd_or1 (PW.pt (pwd_and (ptd_cmp op_eq r2_eq (pd_b1 M.n_len call_lenD c1_len boot_len (pd_var 1) (by rfl)) pd_int (by rfl)) (pwd_and1 (ptd_not (ptd_chain op_le r2_le op_le r2_le pd_int (pd_var 2) (pd_gint M.c_MOST_WEIGHT (by rfl)))))))))) (sd_one (sd_ret pd_non)) sd_nil) (sd_one (sd_ret (pd_tup (pdl_cons (pd_var 2) (pdl_cons (pd_sindex (pd_gstr M.c_UNKNOWNS (by rfl)) (pd_ix (pd_var 1) (pd_neg pd_int))) pdl_nil)))))))))) sem
def d_sum_in (q_term_in : DSp) : DS := (dSeq (dIfS (dTest (dBin fNotIn (dUn fLen (dVar 0)) (dTup (dLcons (dC (.int 1)) (dLcons (dC (.int 3)) dLnil))))) (dRet (dC .non)) dNx) (dSeq (dAsg 2 (dBin fEq (dSl (dBin fIx (dVar 0) (dC (.int 0))) dNo (dPart (dC (.int 1)))) (dC (.str "-")))) (dSeq (dAsgO 3 (dLcons (dCall q_term_in (dA (dLcons (dIf (dTru (dVar 2)) (dSl (dBin fIx (dVar 0) (dC (.int 0))) (dPart (dC (.int 1))) dNo) (dBin fIx (dVar 0) (dC (.int 0)))) dLnil))) dLnil)) (dSeq (dAsgO 4 (dLcons (dIf (dTru (dVar 2)) (dUn fNeg (dC (.int 1))) (dC (.int 1))) dLnil)) (dSeq (dIfS (dTest (dBin fEq (dUn fLen (dVar 0)) (dC (.int 3)))) (dSeq (dIfS (dTest (dBin fNotIn (dBin fIx (dVar 0) (dC (.int 1))) (dTup (dLcons (dC (.str "+")) (dLcons (dC (.str "-")) dLnil))))) (dRet (dC .non)) dNx) (dSeq (dAppend 3 (dCall q_term_in (dA (dLcons (dBin fIx (dVar 0) (dC (.int 2))) dLnil)))) (dAppend 4 (dIf (dTest (dBin fEq (dBin fIx (dVar 0) (dC (.int 1))) (dC (.str "+")))) (dC (.int 1)) (dUn fNeg (dC (.int 1))))))) dNx) (dFreeze 3 (dSeq (dIfS (dOr (dTest (dBin fInD (dC .non) (dVar 3))) (dNot (dTru (dUn fAll (dFr (dLc (dIl (dVar 3)) (dgT 8 9) dYes (dBin fLt (dVar 9) (dVar 1)) [8, 9])))))) (dRet (dC .non)) dNx) (dSeq (dIfS (dAnd (dTest (dBin fEq (dUn fLen (dVar 3)) (dC (.int 2)))) (dTest (dBin fNeD (dTup (dLcons (dBin fIx (dBin fIx (dVar 3) (dC (.int 0))) (dC (.int 1))) (dLcons (dBin fIx (dBin fIx (dVar 3) (dC (.int 1))) (dC (.int 1))) dLnil))) (dTup (dLcons (dC (.int 0)) (dLcons (dC (.int 1)) dLnil)))))) (dRet (dC .non)) dNx) (dSeq (dAsgO 5 (dRep (dLcons (dC (.int 0)) dLnil) (dVar 1))) (dFreeze 4 (dSeq (dFor (dZip (dVar 4) (dVar 3)) (dgT 6 7) (dSetI 5 (dBin fIx (dVar 7) (dC (.int 1))) (dBin fMul (dVar 6) (dBin fIx (dVar 7) (dC (.int 0)))))) (dFreeze 5 (dRet (dUn fTuple (dVar 5)))))))))))))))
abbrev N_sum_in : List Str := ["words", "many", "is_less", "terms", "signs", "found", "sign", "term", "size", "place"]
theorem sc_sum_in : FnScope N_sum_in ["words", "many"] (defScope s_sum_in) := ⟨rfl, rfl, rfl, by decide +kernel, rfl, by decide +kernel, by decide +kernel⟩
theorem w_sum_in {q_term_in : DSp} {dsp : DSp} (M : Mods w K mg) (F : Def1 K mg "sum_in" s_sum_in) (h_term_in : HasFn P w K mg base 2 "term_in" 1 q_term_in) (sem : ∀ cs Q, cs.length = 2 → dsp cs Q → d_sum_in q_term_in { nx := fun _ => Q .non, rt := Q } (startE N_sum_in cs)) : HasFn P w K mg base 3 "sum_in" 2 dsp :=
  has_fn (d := d_sum_in q_term_in) F sc_sum_in rfl (fun _ _ _ _ _ _ us hl => match us, hl with | [_, _], _ => rfl) (fun f cdv A outer s H E hr => by exact (sd_cons (sd_if (ptd_cmp op_notIn_seq r2_notIn (pd_b1 M.n_len call_lenD c1_len boot_len (pd_var 0) (by rfl)) (pd_tup (pdl_cons pd_int (pdl_cons pd_int pdl_nil))) (by rfl)) (sd_one (sd_ret pd_non)) sd_nil) (sd_cons (sd_set (i := 2) sc_sum_in.nd (pd_cmp op_eq r2_eq (pd_sl (pd_ix (pd_var 0) pd_int) pod_no (pod_some pd_int)) pd_str (by rfl))) (sd_cons (sd_setO (i := 3) sc_sum_in.nd (pf_lst (pdl_cons (pd_call (h_term_in.mono (by decide)) hr (pda (pdl_cons (pd_if (ptd_tru (pd_var 2)) (pd_sl (pd_ix (pd_var 0) pd_int) (pod_some pd_int) pod_no) (pd_ix (pd_var 0) pd_int)) pdl_nil)) (by rfl)) pdl_nil))) (sd_cons (sd_setO (i := 4) sc_sum_in.nd (pf_lst (pdl_cons (pd_if (ptd_tru (pd_var 2)) (pd_neg pd_int) pd_int) pdl_nil))) (sd_cons (sd_if (ptd_cmp op_eq r2_eq (pd_b1 M.n_len call_lenD c1_len boot_len (pd_var 0) (by rfl)) pd_int (by rfl)) (sd_cons (sd_if (ptd_cmp op_notIn_seq r2_notIn (pd_ix (pd_var 0) pd_int) (pd_tup (pdl_cons pd_str (pdl_cons pd_str pdl_nil))) (by rfl)) (sd_one (sd_ret pd_non)) sd_nil) (sd_cons (sd_append (i := 3) (ha := (pd_call (h_term_in.mono (by decide)) hr (pda (pdl_cons (pd_ix (pd_var 0) pd_int) pdl_nil)) (by rfl)))) (sd_one (sd_append (i := 4) (ha := (pd_if (ptd_cmp op_eq r2_eq (pd_ix (pd_var 0) pd_int) pd_str (by rfl)) pd_int (pd_neg pd_int))))))) sd_nil) (sd_freeze 3 (sd_cons (sd_if (PW.pt (pwd_or (ptd_cmp (op_inD (room65 hr)) r2_inD pd_non (pd_var 3) (by rfl)) (pwd_or1 (ptd_not (ptd_tru (pd_b1 M.n_all (cr_all rfl) c1_all boot_all (pd_fr (pf_lc rfl sc_sum_in.nd (pid_l (pd_var 3)) (blkOk_by (own := [("size", 8), ("place", 9)]) (by kernel_rfl)) (rg_t (by decide) (by decide)) (fun _ _ _ _ _ => pg_tup rfl (pgs_cons (pg_name sc_sum_in.nd rfl (by first | exact Or.inl rfl | exact Or.inr rfl)) (pgs_cons (pg_name sc_sum_in.nd rfl (by first | exact Or.inl rfl | exact Or.inr rfl)) pgs_nil))) (fun _ _ _ _ _ => ptsd_nil) (fun _ _ _ _ _ => (pd_cmp op_lt r2_lt (pd_var 9) (pd_var 1) (by rfl))))) (by rfl))))))) (sd_one (sd_ret pd_non)) sd_nil) (sd_cons (sd_if (PW.pt (pwd_and (ptd_cmp op_eq r2_eq (pd_b1 M.n_len call_lenD c1_len boot_len (pd_var 3) (by rfl)) pd_int (by rfl)) (pwd_and1 (ptd_cmp (op_neD hr.units) r2_neD (pd_tup (pdl_cons (pd_ix (pd_ix (pd_var 3) pd_int) pd_int) (pdl_cons (pd_ix (pd_ix (pd_var 3) pd_int) pd_int) pdl_nil))) (pd_tup (pdl_cons pd_int (pdl_cons pd_int pdl_nil))) (by rfl))))) (sd_one (sd_ret pd_non)) sd_nil) (sd_cons (sd_setO (i := 5) sc_sum_in.nd (pf_rep (pf_lst (pdl_cons pd_int pdl_nil)) (pd_var 1))) (sd_freeze 4 (sd_cons (sd_for rfl (pid_z M.n_zip (pd_var 4) (pd_var 3) (by rfl)) (pg_tup rfl (pgs_cons (pg_name sc_sum_in.nd rfl (by first | exact Or.inl rfl | exact Or.inr rfl)) (pgs_cons (pg_name sc_sum_in.nd rfl (by first | exact Or.inl rfl | exact Or.inr rfl)) pgs_nil))) (rg_t (vs := [6, 7]) (by decide) (by decide)) (sd_one (sd_setI (i := 5) (pd_bin op_mulB r2_mul (pd_var 6) (pd_ix (pd_var 7) pd_int)) (pd_ix (pd_var 7) pd_int)))) (sd_freeze 5 (sd_one (sd_ret (pd_t1 M.n_tuple call_tuple_of c1_tuple boot_tuple (pd_var 5) (by rfl))))))))))))))))) sem
def d_inequality_in (q_sum_in : DSp) (q_signed_in : DSp) : DS := (dSeq (dAsg 2 (dIf (dTru (dUn (fIsi "str") (dVar 0))) (dBin fSplit (dS (dVar 0)) (dC (.str " "))) (dFr dLnil))) (dSeq (dIfS (dOr (dTest (dBin fLt (dUn fLen (dVar 2)) (dC (.int 3)))) (dTest (dBin fNotIn (dBin fIx (dVar 2) (dUn fNeg (dC (.int 2)))) (dTup (dLcons (dC (.str "<=")) (dLcons (dC (.str ">=")) dLnil)))))) (dRet (dC .non)) dNx) (dSeq (dPar 3 4 (dCall q_sum_in (dA (dLcons (dSl (dVar 2) dNo (dPart (dUn fNeg (dC (.int 2))))) (dLcons (dVar 1) dLnil)))) (dCall q_signed_in (dA (dLcons (dBin fIx (dVar 2) (dUn fNeg (dC (.int 1)))) dLnil)))) (dSeq (dIfS (dOr (dTest (dIsN (dVar 3))) (dOr (dTest (dIsN (dVar 4))) (dNot (dTest (dChain fLe fLe (dUn fNeg (dC (.int 1000000))) (dVar 4) (dC (.int 1000000))))))) (dRet (dC .non)) dNx) (dSeq (dIfS (dTest (dBin fEq (dBin fIx (dVar 2) (dUn fNeg (dC (.int 2)))) (dC (.str "<=")))) (dRet (dTup (dLcons (dVar 3) (dLcons (dVar 4) dLnil)))) dNx) (dRet (dTup (dLcons (dUn fTuple (dFr (dLc (dIt (dVar 3)) (dgN 5) dYes (dUn fNeg (dVar 5)) [5]))) (dLcons (dUn fNeg (dVar 4)) dLnil)))))))))
abbrev N_inequality_in : List Str := ["row", "many", "words", "weights", "constant", "weight"]
theorem sc_inequality_in : FnScope N_inequality_in ["row", "many"] (defScope s_inequality_in) := ⟨rfl, rfl, rfl, by decide +kernel, rfl, by decide +kernel, by decide +kernel⟩
theorem w_inequality_in {q_sum_in : DSp} {q_signed_in : DSp} {dsp : DSp} (M : Mods w K mg) (F : Def1 K mg "inequality_in" s_inequality_in) (h_sum_in : HasFn P w K mg base 3 "sum_in" 2 q_sum_in) (h_signed_in : HasFn P w K mg base 2 "signed_in" 1 q_signed_in) (sem : ∀ cs Q, cs.length = 2 → dsp cs Q → d_inequality_in q_sum_in q_signed_in { nx := fun _ => Q .non, rt := Q } (startE N_inequality_in cs)) : HasFn P w K mg base 4 "inequality_in" 2 dsp :=
  has_fn (d := d_inequality_in q_sum_in q_signed_in) F sc_inequality_in rfl (fun _ _ _ _ _ _ us hl => match us, hl with | [_, _], _ => rfl) (fun f cdv A outer s H E hr => by exact (sd_cons (sd_set (i := 2) sc_inequality_in.nd (pd_if (ptd_tru (pd_isi M.n_isinstance M.n_str boot_str (.inr (.inr (.inl rfl))) (pd_var 0) (by rfl) (by rfl))) (pd_split (pd_var 0) pd_str) (pd_fr (pf_lst pdl_nil)))) (sd_cons (sd_if (PW.pt (pwd_or (ptd_cmp op_lt r2_lt (pd_b1 M.n_len call_lenD c1_len boot_len (pd_var 2) (by rfl)) pd_int (by rfl)) (pwd_or1 (ptd_cmp op_notIn_seq r2_notIn (pd_ix (pd_var 2) (pd_neg pd_int)) (pd_tup (pdl_cons pd_str (pdl_cons pd_str pdl_nil))) (by rfl))))) (sd_one (sd_ret pd_non)) sd_nil) (sd_cons (sd_par (i := 3) (j := 4) rfl sc_inequality_in.nd (pdl_cons (pd_call (h_sum_in.mono (by decide)) hr (pda (pdl_cons (pd_sl (pd_var 2) pod_no (pod_some (pd_neg pd_int))) (pdl_cons (pd_var 1) pdl_nil))) (by rfl)) (pdl_cons (pd_call (h_signed_in.mono (by decide)) hr (pda (pdl_cons (pd_ix (pd_var 2) (pd_neg pd_int)) pdl_nil)) (by rfl)) pdl_nil))) (sd_cons (sd_if (PW.pt (pwd_or (ptd_isN (pd_var 3)) (pwd_or (ptd_isN (pd_var 4)) (pwd_or1 (ptd_not (ptd_chain op_le r2_le op_le r2_le (pd_neg (pd_gint M.c_MOST_CONSTANT (by rfl))) (pd_var 4) (pd_gint M.c_MOST_CONSTANT (by rfl)))))))) (sd_one (sd_ret pd_non)) sd_nil) (sd_cons (sd_if (ptd_cmp op_eq r2_eq (pd_ix (pd_var 2) (pd_neg pd_int)) pd_str (by rfl)) (sd_one (sd_ret (pd_tup (pdl_cons (pd_var 3) (pdl_cons (pd_var 4) pdl_nil))))) sd_nil) (sd_one (sd_ret (pd_tup (pdl_cons (pd_t1 M.n_tuple call_tuple_of c1_tuple boot_tuple (pd_fr (pf_lc rfl sc_inequality_in.nd (pid_t (pd_var 3)) (blkOk_by (own := [("weight", 5)]) (by kernel_rfl)) (rg_n (by decide)) (fun _ _ _ _ _ => pg_name sc_inequality_in.nd rfl (by first | exact Or.inl rfl | exact Or.inr rfl)) (fun _ _ _ _ _ => ptsd_nil) (fun _ _ _ _ _ => (pd_neg (pd_var 5))))) (by rfl)) (pdl_cons (pd_neg (pd_var 4)) pdl_nil))))))))))) sem
def d_wrong_rows (q_unknowns_in : DSp) (q_inequality_in : DSp) : DS := (dSeq (dIfS (dNot (dTest (dChain fLe fLe (dC (.int 1)) (dUn fLen (dVar 0)) (dBin fAdd (dC (.int 10)) (dC (.int 1)))))) (dRet (dTup (dLcons (dC .non) dLnil))) dNx) (dSeq (dAsg 1 (dCall q_unknowns_in (dA (dLcons (dBin fIx (dVar 0) (dC (.int 0))) dLnil)))) (dSeq (dIfS (dTest (dIsN (dVar 1))) (dRet (dTup (dLcons (dC (.int 0)) dLnil))) dNx) (dSeq (dFor (dEnum (dVar 0)) (dgT 2 3) (dIfS (dAnd (dTest (dBin fGt (dVar 2) (dC (.int 0)))) (dTest (dIsN (dCall q_inequality_in (dA (dLcons (dVar 3) (dLcons (dUn fLen (dVar 1)) dLnil))))))) (dRet (dTup (dLcons (dVar 2) dLnil))) dNx)) (dRet (dTup dLnil))))))
abbrev N_wrong_rows : List Str := ["rows", "kinds", "index", "row"]
theorem sc_wrong_rows : FnScope N_wrong_rows ["rows"] (defScope s_wrong_rows) := ⟨rfl, rfl, rfl, by decide +kernel, rfl, by decide +kernel, by decide +kernel⟩
theorem w_wrong_rows {q_unknowns_in : DSp} {q_inequality_in : DSp} {dsp : DSp} (M : Mods w K mg) (F : Def1 K mg "wrong_rows" s_wrong_rows) (h_unknowns_in : HasFn P w K mg base 1 "unknowns_in" 1 q_unknowns_in) (h_inequality_in : HasFn P w K mg base 4 "inequality_in" 2 q_inequality_in) (sem : ∀ cs Q, cs.length = 1 → dsp cs Q → d_wrong_rows q_unknowns_in q_inequality_in { nx := fun _ => Q .non, rt := Q } (startE N_wrong_rows cs)) : HasFn P w K mg base 5 "wrong_rows" 1 dsp :=
  has_fn (d := d_wrong_rows q_unknowns_in q_inequality_in) F sc_wrong_rows rfl (fun _ _ _ _ _ _ us hl => match us, hl with | [_], _ => rfl) (fun f cdv A outer s H E hr => by exact (sd_cons (sd_if (ptd_not (ptd_chain op_le r2_le op_le r2_le pd_int (pd_b1 M.n_len call_lenD c1_len boot_len (pd_var 0) (by rfl)) (pd_bin op_add3 r2_add (pd_gint M.c_MOST_INEQUALITIES (by rfl)) pd_int))) (sd_one (sd_ret (pd_tup (pdl_cons pd_non pdl_nil)))) sd_nil) (sd_cons (sd_set (i := 1) sc_wrong_rows.nd (pd_call (h_unknowns_in.mono (by decide)) hr (pda (pdl_cons (pd_ix (pd_var 0) pd_int) pdl_nil)) (by rfl))) (sd_cons (sd_if (ptd_isN (pd_var 1)) (sd_one (sd_ret (pd_tup (pdl_cons pd_int pdl_nil)))) sd_nil) (sd_cons (sd_for rfl (pid_e M.n_enumerate (pd_var 0) (by rfl)) (pg_tup rfl (pgs_cons (pg_name sc_wrong_rows.nd rfl (by first | exact Or.inl rfl | exact Or.inr rfl)) (pgs_cons (pg_name sc_wrong_rows.nd rfl (by first | exact Or.inl rfl | exact Or.inr rfl)) pgs_nil))) (rg_t (vs := [2, 3]) (by decide) (by decide)) (sd_one (sd_if (PW.pt (pwd_and (ptd_cmp op_gt r2_gt (pd_var 2) pd_int (by rfl)) (pwd_and1 (ptd_isN (pd_call (h_inequality_in.mono (by decide)) hr (pda (pdl_cons (pd_var 3) (pdl_cons (pd_b1 M.n_len call_lenD c1_len boot_len (pd_var 1) (by rfl)) pdl_nil))) (by rfl)))))) (sd_one (sd_ret (pd_tup (pdl_cons (pd_var 2) pdl_nil)))) sd_nil))) (sd_one (sd_ret (pd_tup pdl_nil)))))))) sem
def d_is_aim (q_is_between : DSp) : DS := (dSeq (dIfS (dOr (dNot (dTru (dUn (fIsi "tuple") (dVar 1)))) (dTest (dBin fNe (dUn fLen (dVar 1)) (dUn fLen (dUn (fFld .kinds) (dVar 0)))))) (dRet (dC (.bl false))) dNx) (dRet (dUn fAll (dFr (dLc (dIt (dVar 1)) (dgN 2) dYes (dCall q_is_between (dA (dLcons (dVar 2) (dLcons (dUn fNeg (dC (.int 99))) (dLcons (dC (.int 99)) dLnil))))) [2])))))
abbrev N_is_aim : List Str := ["system", "value", "each"]
theorem sc_is_aim : FnScope N_is_aim ["system", "value"] (defScope s_is_aim) := ⟨rfl, rfl, rfl, by decide +kernel, rfl, by decide +kernel, by decide +kernel⟩
theorem w_is_aim {q_is_between : DSp} {dsp : DSp} (M : Mods w K mg) (F : Def1 K mg "is_aim" s_is_aim) (h_is_between : HasFn P w K mg base 2 "is_between" 3 q_is_between) (sem : ∀ cs Q, cs.length = 2 → dsp cs Q → d_is_aim q_is_between { nx := fun _ => Q .non, rt := Q } (startE N_is_aim cs)) : HasFn P w K mg base 3 "is_aim" 2 dsp :=
  has_fn (d := d_is_aim q_is_between) F sc_is_aim rfl (fun _ _ _ _ _ _ us hl => match us, hl with | [_, _], _ => rfl) (fun f cdv A outer s H E hr => by exact (sd_cons (sd_if (PW.pt (pwd_or (ptd_not (ptd_tru (pd_isi M.n_isinstance M.n_tuple boot_tuple (.inr (.inr (.inr rfl))) (pd_var 1) (by rfl) (by rfl)))) (pwd_or1 (ptd_cmp op_ne r2_ne (pd_b1 M.n_len call_lenD c1_len boot_len (pd_var 1) (by rfl)) (pd_b1 M.n_len call_lenD c1_len boot_len (pd_fld .kinds M.sys (pd_var 0)) (by rfl)) (by rfl))))) (sd_one (sd_ret pd_bl)) sd_nil) (sd_one (sd_ret (pd_b1 M.n_all (cr_all rfl) c1_all boot_all (pd_fr (pf_lc rfl sc_is_aim.nd (pid_t (pd_var 1)) (blkOk_by (own := [("each", 2)]) (by kernel_rfl)) (rg_n (by decide)) (fun _ _ _ _ _ => pg_name sc_is_aim.nd rfl (by first | exact Or.inl rfl | exact Or.inr rfl)) (fun _ _ _ _ _ => ptsd_nil) (fun _ _ _ _ _ => (pd_call (h_is_between.mono (by decide)) hr (pda (pdl_cons (pd_var 2) (pdl_cons (pd_neg (pd_gint M.c_MOST_WEIGHT (by rfl))) (pdl_cons (pd_gint M.c_MOST_WEIGHT (by rfl)) pdl_nil)))) (by rfl))))) (by rfl)))))) sem
def d_is_solid : DS := (dRet (dBin fEq (dUn fLen (dUn (fFld .solid) (dVar 0))) (dUn fLen (dUn (fFld .kinds) (dVar 0)))))
abbrev N_is_solid : List Str := ["system"]
theorem sc_is_solid : FnScope N_is_solid ["system"] (defScope s_is_solid) := ⟨rfl, rfl, rfl, by decide +kernel, rfl, by decide +kernel, by decide +kernel⟩
theorem w_is_solid  {dsp : DSp} (M : Mods w K mg) (F : Def1 K mg "is_solid" s_is_solid)  (sem : ∀ cs Q, cs.length = 1 → dsp cs Q → d_is_solid { nx := fun _ => Q .non, rt := Q } (startE N_is_solid cs)) : HasFn P w K mg base 1 "is_solid" 1 dsp :=
  has_fn (d := d_is_solid) F sc_is_solid rfl (fun _ _ _ _ _ _ us hl => match us, hl with | [_], _ => rfl) (fun f cdv A outer s H E hr => by exact (sd_one (sd_ret (pd_cmp op_eq r2_eq (pd_b1 M.n_len call_lenD c1_len boot_len (pd_fld .solid M.sys (pd_var 0)) (by rfl)) (pd_b1 M.n_len call_lenD c1_len boot_len (pd_fld .kinds M.sys (pd_var 0)) (by rfl)) (by rfl))))) sem
def d_is_point (q_is_integer : DSp) : DS := (dSeq (dIfS (dOr (dNot (dTru (dUn (fIsi "tuple") (dVar 1)))) (dTest (dBin fNe (dUn fLen (dVar 1)) (dUn fLen (dUn (fFld .kinds) (dVar 0)))))) (dRet (dC (.bl false))) dNx) (dSeq (dFor (dZip (dUn (fFld .kinds) (dVar 0)) (dVar 1)) (dgT 2 3) (dIfS (dNot (dIfT (dTest (dBin fEq (dVar 2) (dC (.str "whole")))) (dTru (dCall q_is_integer (dA (dLcons (dVar 3) dLnil)))) dNoT)) (dRet (dC (.bl false))) dNx)) (dRet (dC (.bl true)))))
abbrev N_is_point : List Str := ["system", "value", "kind", "part"]
theorem sc_is_point : FnScope N_is_point ["system", "value"] (defScope s_is_point) := ⟨rfl, rfl, rfl, by decide +kernel, rfl, by decide +kernel, by decide +kernel⟩
theorem w_is_point {q_is_integer : DSp} {dsp : DSp} (M : Mods w K mg) (F : Def1 K mg "is_point" s_is_point) (h_is_integer : HasFn P w K mg base 1 "is_integer" 1 q_is_integer) (sem : ∀ cs Q, cs.length = 2 → dsp cs Q → d_is_point q_is_integer { nx := fun _ => Q .non, rt := Q } (startE N_is_point cs)) : HasFn P w K mg base 2 "is_point" 2 dsp :=
  has_fn (d := d_is_point q_is_integer) F sc_is_point rfl (fun _ _ _ _ _ _ us hl => match us, hl with | [_, _], _ => rfl) (fun f cdv A outer s H E hr => by exact (sd_cons (sd_if (PW.pt (pwd_or (ptd_not (ptd_tru (pd_isi M.n_isinstance M.n_tuple boot_tuple (.inr (.inr (.inr rfl))) (pd_var 1) (by rfl) (by rfl)))) (pwd_or1 (ptd_cmp op_ne r2_ne (pd_b1 M.n_len call_lenD c1_len boot_len (pd_var 1) (by rfl)) (pd_b1 M.n_len call_lenD c1_len boot_len (pd_fld .kinds M.sys (pd_var 0)) (by rfl)) (by rfl))))) (sd_one (sd_ret pd_bl)) sd_nil) (sd_cons (sd_for rfl (pid_z M.n_zip (pd_fld .kinds M.sys (pd_var 0)) (pd_var 1) (by rfl)) (pg_tup rfl (pgs_cons (pg_name sc_is_point.nd rfl (by first | exact Or.inl rfl | exact Or.inr rfl)) (pgs_cons (pg_name sc_is_point.nd rfl (by first | exact Or.inl rfl | exact Or.inr rfl)) pgs_nil))) (rg_t (vs := [2, 3]) (by decide) (by decide)) (sd_one (sd_if (ptd_not (ptd_ifT (ptd_cmp op_eq r2_eq (pd_var 2) pd_str (by rfl)) (ptd_tru (pd_call (h_is_integer.mono (by decide)) hr (pda (pdl_cons (pd_var 3) pdl_nil)) (by rfl))) ptd_no)) (sd_one (sd_ret pd_bl)) sd_nil))) (sd_one (sd_ret pd_bl))))) sem
def d_as_fractions (q_is_integer : DSp) : DS := (dRet (dUn fTuple (dFr (dLc (dIt (dVar 0)) (dgN 1) dYes (dIf (dTru (dCall q_is_integer (dA (dLcons (dVar 1) dLnil)))) (dTup (dLcons (dVar 1) (dLcons (dC (.int 1)) dLnil))) (dVar 1)) [1]))))
abbrev N_as_fractions : List Str := ["point", "part"]
theorem sc_as_fractions : FnScope N_as_fractions ["point"] (defScope s_as_fractions) := ⟨rfl, rfl, rfl, by decide +kernel, rfl, by decide +kernel, by decide +kernel⟩
theorem w_as_fractions {q_is_integer : DSp} {dsp : DSp} (M : Mods w K mg) (F : Def1 K mg "as_fractions" s_as_fractions) (h_is_integer : HasFn P w K mg base 1 "is_integer" 1 q_is_integer) (sem : ∀ cs Q, cs.length = 1 → dsp cs Q → d_as_fractions q_is_integer { nx := fun _ => Q .non, rt := Q } (startE N_as_fractions cs)) : HasFn P w K mg base 2 "as_fractions" 1 dsp :=
  has_fn (d := d_as_fractions q_is_integer) F sc_as_fractions rfl (fun _ _ _ _ _ _ us hl => match us, hl with | [_], _ => rfl) (fun f cdv A outer s H E hr => by exact (sd_one (sd_ret (pd_t1 M.n_tuple call_tuple_of c1_tuple boot_tuple (pd_fr (pf_lc rfl sc_as_fractions.nd (pid_t (pd_var 0)) (blkOk_by (own := [("part", 1)]) (by kernel_rfl)) (rg_n (by decide)) (fun _ _ _ _ _ => pg_name sc_as_fractions.nd rfl (by first | exact Or.inl rfl | exact Or.inr rfl)) (fun _ _ _ _ _ => ptsd_nil) (fun _ _ _ _ _ => (pd_if (ptd_tru (pd_call (h_is_integer.mono (by decide)) hr (pda (pdl_cons (pd_var 1) pdl_nil)) (by rfl))) (pd_tup (pdl_cons (pd_var 1) (pdl_cons pd_int pdl_nil))) (pd_var 1))))) (by rfl))))) sem
def d_gaps_at (q_as_fractions : DSp) (q_plus : DSp) (q_times : DSp) (q_sum_at : DSp) : DS := (dSeq (dAsg 2 (dCall q_as_fractions (dA (dLcons (dVar 1) dLnil)))) (dRet (dUn fTuple (dFr (dLc (dIt (dUn (fFld .bounds) (dVar 0))) (dgT 3 4) dYes (dCall q_plus (dA (dLcons (dTup (dLcons (dVar 4) (dLcons (dC (.int 1)) dLnil))) (dLcons (dCall q_times (dA (dLcons (dCall q_sum_at (dA (dLcons (dVar 3) (dLcons (dVar 2) dLnil)))) (dLcons (dUn fNeg (dC (.int 1))) dLnil)))) dLnil)))) [3, 4])))))
abbrev N_gaps_at : List Str := ["system", "point", "place", "weights", "constant"]
theorem sc_gaps_at : FnScope N_gaps_at ["system", "point"] (defScope s_gaps_at) := ⟨rfl, rfl, rfl, by decide +kernel, rfl, by decide +kernel, by decide +kernel⟩
theorem w_gaps_at {q_as_fractions : DSp} {q_plus : DSp} {q_times : DSp} {q_sum_at : DSp} {dsp : DSp} (M : Mods w K mg) (F : Def1 K mg "gaps_at" s_gaps_at) (h_as_fractions : HasFn P w K mg base 2 "as_fractions" 1 q_as_fractions) (h_plus : HasFn P w K mg base 3 "plus" 2 q_plus) (h_times : HasFn P w K mg base 3 "times" 2 q_times) (h_sum_at : HasFn P w K mg base 4 "sum_at" 2 q_sum_at) (sem : ∀ cs Q, cs.length = 2 → dsp cs Q → d_gaps_at q_as_fractions q_plus q_times q_sum_at { nx := fun _ => Q .non, rt := Q } (startE N_gaps_at cs)) : HasFn P w K mg base 5 "gaps_at" 2 dsp :=
  has_fn (d := d_gaps_at q_as_fractions q_plus q_times q_sum_at) F sc_gaps_at rfl (fun _ _ _ _ _ _ us hl => match us, hl with | [_, _], _ => rfl) (fun f cdv A outer s H E hr => by exact (sd_cons (sd_set (i := 2) sc_gaps_at.nd (pd_call (h_as_fractions.mono (by decide)) hr (pda (pdl_cons (pd_var 1) pdl_nil)) (by rfl))) (sd_one (sd_ret (pd_t1 M.n_tuple call_tuple_of c1_tuple boot_tuple (pd_fr (pf_lc rfl sc_gaps_at.nd (pid_t (pd_fld .bounds M.sys (pd_var 0))) (blkOk_by (own := [("weights", 3), ("constant", 4)]) (by kernel_rfl)) (rg_t (by decide) (by decide)) (fun _ _ _ _ _ => pg_tup rfl (pgs_cons (pg_name sc_gaps_at.nd rfl (by first | exact Or.inl rfl | exact Or.inr rfl)) (pgs_cons (pg_name sc_gaps_at.nd rfl (by first | exact Or.inl rfl | exact Or.inr rfl)) pgs_nil))) (fun _ _ _ _ _ => ptsd_nil) (fun _ _ _ _ _ => (pd_call (h_plus.mono (by decide)) hr (pda (pdl_cons (pd_tup (pdl_cons (pd_var 4) (pdl_cons pd_int pdl_nil))) (pdl_cons (pd_call (h_times.mono (by decide)) hr (pda (pdl_cons (pd_call (h_sum_at.mono (by decide)) hr (pda (pdl_cons (pd_var 3) (pdl_cons (pd_var 2) pdl_nil))) (by rfl)) (pdl_cons (pd_neg pd_int) pdl_nil))) (by rfl)) pdl_nil))) (by rfl))))) (by rfl)))))) sem
def d_broken_at (q_gaps_at : DSp) : DS := (dRet (dUn fTuple (dFr (dLc (dEnum (dCall q_gaps_at (dA (dLcons (dVar 0) (dLcons (dVar 1) dLnil))))) (dgT 2 3) (dTest (dBin fLt (dBin fIx (dVar 3) (dC (.int 0))) (dC (.int 0)))) (dVar 2) [2, 3]))))
abbrev N_broken_at : List Str := ["system", "point", "index", "gap"]
theorem sc_broken_at : FnScope N_broken_at ["system", "point"] (defScope s_broken_at) := ⟨rfl, rfl, rfl, by decide +kernel, rfl, by decide +kernel, by decide +kernel⟩
theorem w_broken_at {q_gaps_at : DSp} {dsp : DSp} (M : Mods w K mg) (F : Def1 K mg "broken_at" s_broken_at) (h_gaps_at : HasFn P w K mg base 5 "gaps_at" 2 q_gaps_at) (sem : ∀ cs Q, cs.length = 2 → dsp cs Q → d_broken_at q_gaps_at { nx := fun _ => Q .non, rt := Q } (startE N_broken_at cs)) : HasFn P w K mg base 6 "broken_at" 2 dsp :=
  has_fn (d := d_broken_at q_gaps_at) F sc_broken_at rfl (fun _ _ _ _ _ _ us hl => match us, hl with | [_, _], _ => rfl) (fun f cdv A outer s H E hr => by exact (sd_one (sd_ret (pd_t1 M.n_tuple call_tuple_of c1_tuple boot_tuple (pd_fr (pf_lc rfl sc_broken_at.nd (pid_e M.n_enumerate (pd_call (h_gaps_at.mono (by decide)) hr (pda (pdl_cons (pd_var 0) (pdl_cons (pd_var 1) pdl_nil))) (by rfl)) (by rfl)) (blkOk_by (own := [("index", 2), ("gap", 3)]) (by kernel_rfl)) (rg_t (by decide) (by decide)) (fun _ _ _ _ _ => pg_tup rfl (pgs_cons (pg_name sc_broken_at.nd rfl (by first | exact Or.inl rfl | exact Or.inr rfl)) (pgs_cons (pg_name sc_broken_at.nd rfl (by first | exact Or.inl rfl | exact Or.inr rfl)) pgs_nil))) (fun _ _ _ _ _ => (ptsd_one (ptd_cmp op_lt r2_lt (pd_ix (pd_var 3) pd_int) pd_int (by rfl)))) (fun _ _ _ _ _ => (pd_var 2)))) (by rfl))))) sem
def d_are_integers (q_is_integer : DSp) : DS := (dRet (dAndV (dUn (fIsi "tuple") (dVar 0)) (dAndV (dBin fEq (dUn fLen (dVar 0)) (dVar 1)) (dUn fAll (dFr (dLc (dIt (dVar 0)) (dgN 2) dYes (dCall q_is_integer (dA (dLcons (dVar 2) dLnil))) [2]))))))
abbrev N_are_integers : List Str := ["value", "many", "each"]
theorem sc_are_integers : FnScope N_are_integers ["value", "many"] (defScope s_are_integers) := ⟨rfl, rfl, rfl, by decide +kernel, rfl, by decide +kernel, by decide +kernel⟩
theorem w_are_integers {q_is_integer : DSp} {dsp : DSp} (M : Mods w K mg) (F : Def1 K mg "are_integers" s_are_integers) (h_is_integer : HasFn P w K mg base 1 "is_integer" 1 q_is_integer) (sem : ∀ cs Q, cs.length = 2 → dsp cs Q → d_are_integers q_is_integer { nx := fun _ => Q .non, rt := Q } (startE N_are_integers cs)) : HasFn P w K mg base 2 "are_integers" 2 dsp :=
  has_fn (d := d_are_integers q_is_integer) F sc_are_integers rfl (fun _ _ _ _ _ _ us hl => match us, hl with | [_, _], _ => rfl) (fun f cdv A outer s H E hr => by exact (sd_one (sd_ret (pd_andV (pd_isi M.n_isinstance M.n_tuple boot_tuple (.inr (.inr (.inr rfl))) (pd_var 0) (by rfl) (by rfl)) (pd_andV (pd_cmp op_eq r2_eq (pd_b1 M.n_len call_lenD c1_len boot_len (pd_var 0) (by rfl)) (pd_var 1) (by rfl)) (pd_oneV (pd_b1 M.n_all (cr_all rfl) c1_all boot_all (pd_fr (pf_lc rfl sc_are_integers.nd (pid_t (pd_var 0)) (blkOk_by (own := [("each", 2)]) (by kernel_rfl)) (rg_n (by decide)) (fun _ _ _ _ _ => pg_name sc_are_integers.nd rfl (by first | exact Or.inl rfl | exact Or.inr rfl)) (fun _ _ _ _ _ => ptsd_nil) (fun _ _ _ _ _ => (pd_call (h_is_integer.mono (by decide)) hr (pda (pdl_cons (pd_var 2) pdl_nil)) (by rfl))))) (by rfl)))))))) sem
def d_is_parting (q_are_integers : DSp) (q_is_integer : DSp) : DS := (dSeq (dIfS (dOr (dTest (dBin fNe (dUn fLen (dVar 1)) (dC (.int 3)))) (dOr (dNot (dTru (dCall q_are_integers (dA (dLcons (dBin fIx (dVar 1) (dC (.int 1))) (dLcons (dUn fLen (dVar 0)) dLnil)))))) (dNot (dTru (dCall q_is_integer (dA (dLcons (dBin fIx (dVar 1) (dC (.int 2))) dLnil))))))) (dRet (dC (.bl false))) dNx) (dSeq (dIfS (dNot (dTru (dUn fAll (dFr (dLc (dZip (dVar 0) (dBin fIx (dVar 1) (dC (.int 1)))) (dgT 3 2) dYes (dOrV (dBin fEq (dVar 2) (dC (.int 0))) (dBin fEq (dVar 3) (dC (.str "whole")))) [3, 2]))))) (dRet (dC (.bl false))) dNx) (dRet (dUn fAny (dFr (dLc (dIt (dBin fIx (dVar 1) (dC (.int 1)))) (dgN 2) dYes (dBin fNe (dVar 2) (dC (.int 0))) [2]))))))
abbrev N_is_parting : List Str := ["kinds", "node", "weight", "kind"]
theorem sc_is_parting : FnScope N_is_parting ["kinds", "node"] (defScope s_is_parting) := ⟨rfl, rfl, rfl, by decide +kernel, rfl, by decide +kernel, by decide +kernel⟩
theorem w_is_parting {q_are_integers : DSp} {q_is_integer : DSp} {dsp : DSp} (M : Mods w K mg) (F : Def1 K mg "is_parting" s_is_parting) (h_are_integers : HasFn P w K mg base 2 "are_integers" 2 q_are_integers) (h_is_integer : HasFn P w K mg base 1 "is_integer" 1 q_is_integer) (sem : ∀ cs Q, cs.length = 2 → dsp cs Q → d_is_parting q_are_integers q_is_integer { nx := fun _ => Q .non, rt := Q } (startE N_is_parting cs)) : HasFn P w K mg base 3 "is_parting" 2 dsp :=
  has_fn (d := d_is_parting q_are_integers q_is_integer) F sc_is_parting rfl (fun _ _ _ _ _ _ us hl => match us, hl with | [_, _], _ => rfl) (fun f cdv A outer s H E hr => by exact (sd_cons (sd_if (PW.pt (pwd_or (ptd_cmp op_ne r2_ne (pd_b1 M.n_len call_lenD c1_len boot_len (pd_var 1) (by rfl)) pd_int (by rfl)) (pwd_or (ptd_not (ptd_tru (pd_call (h_are_integers.mono (by decide)) hr (pda (pdl_cons (pd_ix (pd_var 1) pd_int) (pdl_cons (pd_b1 M.n_len call_lenD c1_len boot_len (pd_var 0) (by rfl)) pdl_nil))) (by rfl)))) (pwd_or1 (ptd_not (ptd_tru (pd_call (h_is_integer.mono (by decide)) hr (pda (pdl_cons (pd_ix (pd_var 1) pd_int) pdl_nil)) (by rfl)))))))) (sd_one (sd_ret pd_bl)) sd_nil) (sd_cons (sd_if (ptd_not (ptd_tru (pd_b1 M.n_all (cr_all rfl) c1_all boot_all (pd_fr (pf_lc rfl sc_is_parting.nd (pid_z M.n_zip (pd_var 0) (pd_ix (pd_var 1) pd_int) (by rfl)) (blkOk_by (own := [("kind", 3), ("weight", 2)]) (by kernel_rfl)) (rg_t (by decide) (by decide)) (fun _ _ _ _ _ => pg_tup rfl (pgs_cons (pg_name sc_is_parting.nd rfl (by first | exact Or.inl rfl | exact Or.inr rfl)) (pgs_cons (pg_name sc_is_parting.nd rfl (by first | exact Or.inl rfl | exact Or.inr rfl)) pgs_nil))) (fun _ _ _ _ _ => ptsd_nil) (fun _ _ _ _ _ => (pd_orV (pd_cmp op_eq r2_eq (pd_var 2) pd_int (by rfl)) (pd_oneV (pd_cmp op_eq r2_eq (pd_var 3) pd_str (by rfl))))))) (by rfl)))) (sd_one (sd_ret pd_bl)) sd_nil) (sd_one (sd_ret (pd_b1 M.n_any (cr_any rfl) c1_any boot_any (pd_fr (pf_lc rfl sc_is_parting.nd (pid_t (pd_ix (pd_var 1) pd_int)) (blkOk_by (own := [("weight", 2)]) (by kernel_rfl)) (rg_n (by decide)) (fun _ _ _ _ _ => pg_name sc_is_parting.nd rfl (by first | exact Or.inl rfl | exact Or.inr rfl)) (fun _ _ _ _ _ => ptsd_nil) (fun _ _ _ _ _ => (pd_cmp op_ne r2_ne (pd_var 2) pd_int (by rfl))))) (by rfl))))))) sem
def d_is_end (q_are_integers : DSp) : DS := (dSeq (dIfS (dOr (dTest (dBin fNe (dUn fLen (dVar 2)) (dC (.int 2)))) (dOr (dNot (dTru (dCall q_are_integers (dA (dLcons (dBin fIx (dVar 2) (dC (.int 1))) (dLcons (dUn fLen (dVar 1)) dLnil)))))) (dNot (dTru (dUn fAll (dFr (dLc (dIt (dBin fIx (dVar 2) (dC (.int 1)))) (dgN 4) dYes (dBin fGe (dVar 4) (dC (.int 0))) [4]))))))) (dRet (dC (.bl false))) dNx) (dSeq (dFor (dIr (dUn fLen (dVar 0))) (dgN 3) (dIfS (dTest (dBin fNe (dUn fSum (dFr (dLc (dZip (dBin fIx (dVar 2) (dC (.int 1))) (dVar 1)) (dgT 4 5) dYes (dBin fMul (dVar 4) (dBin fIx (dBin fIx (dVar 5) (dC (.int 0))) (dVar 3))) [4, 5]))) (dC (.int 0)))) (dRet (dC (.bl false))) dNx)) (dRet (dBin fLt (dUn fSum (dFr (dLc (dZip (dBin fIx (dVar 2) (dC (.int 1))) (dVar 1)) (dgT 4 5) dYes (dBin fMul (dVar 4) (dBin fIx (dVar 5) (dC (.int 1)))) [4, 5]))) (dC (.int 0))))))
abbrev N_is_end : List Str := ["kinds", "bounds", "node", "place", "size", "bound"]
theorem sc_is_end : FnScope N_is_end ["kinds", "bounds", "node"] (defScope s_is_end) := ⟨rfl, rfl, rfl, by decide +kernel, rfl, by decide +kernel, by decide +kernel⟩
theorem w_is_end {q_are_integers : DSp} {dsp : DSp} (M : Mods w K mg) (F : Def1 K mg "is_end" s_is_end) (h_are_integers : HasFn P w K mg base 2 "are_integers" 2 q_are_integers) (sem : ∀ cs Q, cs.length = 3 → dsp cs Q → d_is_end q_are_integers { nx := fun _ => Q .non, rt := Q } (startE N_is_end cs)) : HasFn P w K mg base 3 "is_end" 3 dsp :=
  has_fn (d := d_is_end q_are_integers) F sc_is_end rfl (fun _ _ _ _ _ _ us hl => match us, hl with | [_, _, _], _ => rfl) (fun f cdv A outer s H E hr => by exact (sd_cons (sd_if (PW.pt (pwd_or (ptd_cmp op_ne r2_ne (pd_b1 M.n_len call_lenD c1_len boot_len (pd_var 2) (by rfl)) pd_int (by rfl)) (pwd_or (ptd_not (ptd_tru (pd_call (h_are_integers.mono (by decide)) hr (pda (pdl_cons (pd_ix (pd_var 2) pd_int) (pdl_cons (pd_b1 M.n_len call_lenD c1_len boot_len (pd_var 1) (by rfl)) pdl_nil))) (by rfl)))) (pwd_or1 (ptd_not (ptd_tru (pd_b1 M.n_all (cr_all rfl) c1_all boot_all (pd_fr (pf_lc rfl sc_is_end.nd (pid_t (pd_ix (pd_var 2) pd_int)) (blkOk_by (own := [("size", 4)]) (by kernel_rfl)) (rg_n (by decide)) (fun _ _ _ _ _ => pg_name sc_is_end.nd rfl (by first | exact Or.inl rfl | exact Or.inr rfl)) (fun _ _ _ _ _ => ptsd_nil) (fun _ _ _ _ _ => (pd_cmp op_ge r2_ge (pd_var 4) pd_int (by rfl))))) (by rfl)))))))) (sd_one (sd_ret pd_bl)) sd_nil) (sd_cons (sd_for rfl (pid_r M.n_range (pd_b1 M.n_len call_lenD c1_len boot_len (pd_var 0) (by rfl)) (by rfl)) (pg_name sc_is_end.nd rfl (by first | exact Or.inl rfl | exact Or.inr rfl)) (rg_n (vs := [3]) (by decide)) (sd_one (sd_if (ptd_cmp op_ne r2_ne (pd_b1 M.n_sum (cr_sum rfl) c1_sum boot_sum (pd_fr (pf_lc rfl sc_is_end.nd (pid_z M.n_zip (pd_ix (pd_var 2) pd_int) (pd_var 1) (by rfl)) (blkOk_by (own := [("size", 4), ("bound", 5)]) (by kernel_rfl)) (rg_t (by decide) (by decide)) (fun _ _ _ _ _ => pg_tup rfl (pgs_cons (pg_name sc_is_end.nd rfl (by first | exact Or.inl rfl | exact Or.inr rfl)) (pgs_cons (pg_name sc_is_end.nd rfl (by first | exact Or.inl rfl | exact Or.inr rfl)) pgs_nil))) (fun _ _ _ _ _ => ptsd_nil) (fun _ _ _ _ _ => (pd_bin op_mulB r2_mul (pd_var 4) (pd_ix (pd_ix (pd_var 5) pd_int) (pd_var 3)))))) (by rfl)) pd_int (by rfl)) (sd_one (sd_ret pd_bl)) sd_nil))) (sd_one (sd_ret (pd_cmp op_lt r2_lt (pd_b1 M.n_sum (cr_sum rfl) c1_sum boot_sum (pd_fr (pf_lc rfl sc_is_end.nd (pid_z M.n_zip (pd_ix (pd_var 2) pd_int) (pd_var 1) (by rfl)) (blkOk_by (own := [("size", 4), ("bound", 5)]) (by kernel_rfl)) (rg_t (by decide) (by decide)) (fun _ _ _ _ _ => pg_tup rfl (pgs_cons (pg_name sc_is_end.nd rfl (by first | exact Or.inl rfl | exact Or.inr rfl)) (pgs_cons (pg_name sc_is_end.nd rfl (by first | exact Or.inl rfl | exact Or.inr rfl)) pgs_nil))) (fun _ _ _ _ _ => ptsd_nil) (fun _ _ _ _ _ => (pd_bin op_mulB r2_mul (pd_var 4) (pd_ix (pd_var 5) pd_int))))) (by rfl)) pd_int (by rfl))))))) sem
def d_is_tree (q_is_parting : DSp) (q_at_least : DSp) (q_at_most : DSp) (q_is_end : DSp) : DS := (dSeq (dIfS (dNot (dTru (dUn (fIsi "tuple") (dVar 2)))) (dRet (dC (.bl false))) dNx) (dSeq (dAsgO 3 (dLcons (dFr (dListOf (dVar 1))) dLnil)) (dSeq (dFor (dIt (dVar 2)) (dgN 4) (dSeq (dIfS (dOr (dNot (dTruO 3)) (dOr (dNot (dTru (dUn (fIsi "tuple") (dVar 4)))) (dOr (dTest (dBin fEqD (dVar 4) (dTup dLnil))) (dNot (dTru (dUn (fIsi "str") (dBin fIx (dVar 4) (dC (.int 0))))))))) (dRet (dC (.bl false))) dNx) (dSeq (dPop 3 5) (dIfS (dTest (dBin fEq (dBin fIx (dVar 4) (dC (.int 0))) (dC (.str "part")))) (dSeq (dIfS (dNot (dTru (dCall q_is_parting (dA (dLcons (dVar 0) (dLcons (dVar 4) dLnil)))))) (dRet (dC (.bl false))) dNx) (dSeq (dAppend 3 (dFr (dCat (dVar 5) (dFr (dLcons (dCall q_at_least (dA (dLcons (dBin fIx (dVar 4) (dC (.int 1))) (dLcons (dBin fAdd (dBin fIx (dVar 4) (dC (.int 2))) (dC (.int 1))) dLnil)))) dLnil))))) (dAppend 3 (dFr (dCat (dVar 5) (dFr (dLcons (dCall q_at_most (dA (dLcons (dBin fIx (dVar 4) (dC (.int 1))) (dLcons (dBin fIx (dVar 4) (dC (.int 2))) dLnil)))) dLnil))))))) (dIfS (dOr (dTest (dBin fNe (dBin fIx (dVar 4) (dC (.int 0))) (dC (.str "end")))) (dNot (dTru (dCall q_is_end (dA (dLcons (dVar 0) (dLcons (dVar 5) (dLcons (dVar 4) dLnil)))))))) (dRet (dC (.bl false))) dNx))))) (dFreeze 3 (dRet (dNotT (dVar 3)))))))
abbrev N_is_tree : List Str := ["kinds", "bounds", "nodes", "waiting", "node", "here"]
theorem sc_is_tree : FnScope N_is_tree ["kinds", "bounds", "nodes"] (defScope s_is_tree) := ⟨rfl, rfl, rfl, by decide +kernel, rfl, by decide +kernel, by decide +kernel⟩
theorem w_is_tree {q_is_parting : DSp} {q_at_least : DSp} {q_at_most : DSp} {q_is_end : DSp} {dsp : DSp} (M : Mods w K mg) (F : Def1 K mg "is_tree" s_is_tree) (h_is_parting : HasFn P w K mg base 3 "is_parting" 2 q_is_parting) (h_at_least : HasFn P w K mg base 1 "at_least" 2 q_at_least) (h_at_most : HasFn P w K mg base 1 "at_most" 2 q_at_most) (h_is_end : HasFn P w K mg base 3 "is_end" 3 q_is_end) (sem : ∀ cs Q, cs.length = 3 → dsp cs Q → d_is_tree q_is_parting q_at_least q_at_most q_is_end { nx := fun _ => Q .non, rt := Q } (startE N_is_tree cs)) : HasFn P w K mg base 4 "is_tree" 3 dsp :=
  has_fn (d := d_is_tree q_is_parting q_at_least q_at_most q_is_end) F sc_is_tree rfl (fun _ _ _ _ _ _ us hl => match us, hl with | [_, _, _], _ => rfl) (fun f cdv A outer s H E hr => by exact (sd_cons (sd_if (ptd_not (ptd_tru (pd_isi M.n_isinstance M.n_tuple boot_tuple (.inr (.inr (.inr rfl))) (pd_var 2) (by rfl) (by rfl)))) (sd_one (sd_ret pd_bl)) sd_nil) (sd_cons (sd_setO (i := 3) sc_is_tree.nd (pf_lst (pdl_cons (pd_fr (pf_listOf M.n_list (pd_var 1) (by rfl) boot_list)) pdl_nil))) (sd_cons (sd_for rfl (pid_t (pd_var 2)) (pg_name sc_is_tree.nd rfl (by first | exact Or.inl rfl | exact Or.inr rfl)) (rg_n (vs := [4]) (by decide)) (sd_cons (sd_if (PW.pt (pwd_or (ptd_not (ptd_truO 3)) (pwd_or (ptd_not (ptd_tru (pd_isi M.n_isinstance M.n_tuple boot_tuple (.inr (.inr (.inr rfl))) (pd_var 4) (by rfl) (by rfl)))) (pwd_or (ptd_cmp (op_eqD hr.units) r2_eqD (pd_var 4) (pd_tup pdl_nil) (by rfl)) (pwd_or1 (ptd_not (ptd_tru (pd_isi M.n_isinstance M.n_str boot_str (.inr (.inr (.inl rfl))) (pd_ix (pd_var 4) pd_int) (by rfl) (by rfl))))))))) (sd_one (sd_ret pd_bl)) sd_nil) (sd_cons (sd_pop (i := 3) (j := 5) sc_is_tree.nd) (sd_one (sd_if (ptd_cmp op_eq r2_eq (pd_ix (pd_var 4) pd_int) (pd_gstr M.c_PART (by rfl)) (by rfl)) (sd_cons (sd_if (ptd_not (ptd_tru (pd_call (h_is_parting.mono (by decide)) hr (pda (pdl_cons (pd_var 0) (pdl_cons (pd_var 4) pdl_nil))) (by rfl)))) (sd_one (sd_ret pd_bl)) sd_nil) (sd_cons (sd_append (i := 3) (ha := (pd_fr (pf_cat (pd_var 5) (pd_fr (pf_lst (pdl_cons (pd_call (h_at_least.mono (by decide)) hr (pda (pdl_cons (pd_ix (pd_var 4) pd_int) (pdl_cons (pd_bin op_add3 r2_add (pd_ix (pd_var 4) pd_int) pd_int) pdl_nil))) (by rfl)) pdl_nil))))))) (sd_one (sd_append (i := 3) (ha := (pd_fr (pf_cat (pd_var 5) (pd_fr (pf_lst (pdl_cons (pd_call (h_at_most.mono (by decide)) hr (pda (pdl_cons (pd_ix (pd_var 4) pd_int) (pdl_cons (pd_ix (pd_var 4) pd_int) pdl_nil))) (by rfl)) pdl_nil)))))))))) (sd_one (sd_if (PW.pt (pwd_or (ptd_cmp op_ne r2_ne (pd_ix (pd_var 4) pd_int) (pd_gstr M.c_END (by rfl)) (by rfl)) (pwd_or1 (ptd_not (ptd_tru (pd_call (h_is_end.mono (by decide)) hr (pda (pdl_cons (pd_var 0) (pdl_cons (pd_var 5) (pdl_cons (pd_var 4) pdl_nil)))) (by rfl))))))) (sd_one (sd_ret pd_bl)) sd_nil))))))) (sd_freeze 3 (sd_one (sd_ret (pd_notT (pd_var 3))))))))) sem
def d_is_pair : DS := (dRet (dAndV (dUn (fIsi "tuple") (dVar 0)) (dBin fEq (dUn fLen (dVar 0)) (dC (.int 2)))))
abbrev N_is_pair : List Str := ["value"]
theorem sc_is_pair : FnScope N_is_pair ["value"] (defScope s_is_pair) := ⟨rfl, rfl, rfl, by decide +kernel, rfl, by decide +kernel, by decide +kernel⟩
theorem w_is_pair  {dsp : DSp} (M : Mods w K mg) (F : Def1 K mg "is_pair" s_is_pair)  (sem : ∀ cs Q, cs.length = 1 → dsp cs Q → d_is_pair { nx := fun _ => Q .non, rt := Q } (startE N_is_pair cs)) : HasFn P w K mg base 1 "is_pair" 1 dsp :=
  has_fn (d := d_is_pair) F sc_is_pair rfl (fun _ _ _ _ _ _ us hl => match us, hl with | [_], _ => rfl) (fun f cdv A outer s H E hr => by exact (sd_one (sd_ret (pd_andV (pd_isi M.n_isinstance M.n_tuple boot_tuple (.inr (.inr (.inr rfl))) (pd_var 0) (by rfl) (by rfl)) (pd_oneV (pd_cmp op_eq r2_eq (pd_b1 M.n_len call_lenD c1_len boot_len (pd_var 0) (by rfl)) pd_int (by rfl))))))) sem
def d_accepts_best (q_is_integer : DSp) (q_is_pair : DSp) (q_is_point : DSp) (q_broken_at : DSp) (q_sum_at : DSp) (q_as_fractions : DSp) (q_is_tree : DSp) (q_at_least : DSp) : DS := (dSeq (dIfS (dOr (dNot (dTru (dCall q_is_integer (dA (dLcons (dBin fIx (dVar 1) (dC (.int 3))) dLnil))))) (dNot (dTru (dCall q_is_pair (dA (dLcons (dVar 2) dLnil)))))) (dRet (dC (.bl false))) dNx) (dSeq (dIfS (dOr (dNot (dTru (dCall q_is_point (dA (dLcons (dVar 0) (dLcons (dBin fIx (dVar 2) (dC (.int 0))) dLnil)))))) (dTru (dCall q_broken_at (dA (dLcons (dVar 0) (dLcons (dBin fIx (dVar 2) (dC (.int 0))) dLnil)))))) (dRet (dC (.bl false))) dNx) (dSeq (dIfS (dTest (dBin fNeD (dCall q_sum_at (dA (dLcons (dBin fIx (dVar 1) (dC (.int 2))) (dLcons (dCall q_as_fractions (dA (dLcons (dBin fIx (dVar 2) (dC (.int 0))) dLnil))) dLnil)))) (dTup (dLcons (dBin fIx (dVar 1) (dC (.int 3))) (dLcons (dC (.int 1)) dLnil))))) (dRet (dC (.bl false))) dNx) (dRet (dCall q_is_tree (dA (dLcons (dUn (fFld .kinds) (dVar 0)) (dLcons (dFr (dStarL (dUn (fFld .bounds) (dVar 0)) (dCall q_at_least (dA (dLcons (dBin fIx (dVar 1) (dC (.int 2))) (dLcons (dBin fAdd (dBin fIx (dVar 1) (dC (.int 3))) (dC (.int 1))) dLnil)))))) (dLcons (dBin fIx (dVar 2) (dC (.int 1))) dLnil)))))))))
abbrev N_accepts_best : List Str := ["system", "claim", "certificate"]
theorem sc_accepts_best : FnScope N_accepts_best ["system", "claim", "certificate"] (defScope s_accepts_best) := ⟨rfl, rfl, rfl, by decide +kernel, rfl, by decide +kernel, by decide +kernel⟩
theorem w_accepts_best {q_is_integer : DSp} {q_is_pair : DSp} {q_is_point : DSp} {q_broken_at : DSp} {q_sum_at : DSp} {q_as_fractions : DSp} {q_is_tree : DSp} {q_at_least : DSp} {dsp : DSp} (M : Mods w K mg) (F : Def1 K mg "accepts_best" s_accepts_best) (h_is_integer : HasFn P w K mg base 1 "is_integer" 1 q_is_integer) (h_is_pair : HasFn P w K mg base 1 "is_pair" 1 q_is_pair) (h_is_point : HasFn P w K mg base 2 "is_point" 2 q_is_point) (h_broken_at : HasFn P w K mg base 6 "broken_at" 2 q_broken_at) (h_sum_at : HasFn P w K mg base 4 "sum_at" 2 q_sum_at) (h_as_fractions : HasFn P w K mg base 2 "as_fractions" 1 q_as_fractions) (h_is_tree : HasFn P w K mg base 4 "is_tree" 3 q_is_tree) (h_at_least : HasFn P w K mg base 1 "at_least" 2 q_at_least) (sem : ∀ cs Q, cs.length = 3 → dsp cs Q → d_accepts_best q_is_integer q_is_pair q_is_point q_broken_at q_sum_at q_as_fractions q_is_tree q_at_least { nx := fun _ => Q .non, rt := Q } (startE N_accepts_best cs)) : HasFn P w K mg base 7 "accepts_best" 3 dsp :=
  has_fn (d := d_accepts_best q_is_integer q_is_pair q_is_point q_broken_at q_sum_at q_as_fractions q_is_tree q_at_least) F sc_accepts_best rfl (fun _ _ _ _ _ _ us hl => match us, hl with | [_, _, _], _ => rfl) (fun f cdv A outer s H E hr => by exact (sd_cons (sd_if (PW.pt (pwd_or (ptd_not (ptd_tru (pd_call (h_is_integer.mono (by decide)) hr (pda (pdl_cons (pd_ix (pd_var 1) pd_int) pdl_nil)) (by rfl)))) (pwd_or1 (ptd_not (ptd_tru (pd_call (h_is_pair.mono (by decide)) hr (pda (pdl_cons (pd_var 2) pdl_nil)) (by rfl))))))) (sd_one (sd_ret pd_bl)) sd_nil) (sd_cons (sd_if (PW.pt (pwd_or (ptd_not (ptd_tru (pd_call (h_is_point.mono (by decide)) hr (pda (pdl_cons (pd_var 0) (pdl_cons (pd_ix (pd_var 2) pd_int) pdl_nil))) (by rfl)))) (pwd_or1 (ptd_tru (pd_call (h_broken_at.mono (by decide)) hr (pda (pdl_cons (pd_var 0) (pdl_cons (pd_ix (pd_var 2) pd_int) pdl_nil))) (by rfl)))))) (sd_one (sd_ret pd_bl)) sd_nil) (sd_cons (sd_if (ptd_cmp (op_neD hr.units) r2_neD (pd_call (h_sum_at.mono (by decide)) hr (pda (pdl_cons (pd_ix (pd_var 1) pd_int) (pdl_cons (pd_call (h_as_fractions.mono (by decide)) hr (pda (pdl_cons (pd_ix (pd_var 2) pd_int) pdl_nil)) (by rfl)) pdl_nil))) (by rfl)) (pd_tup (pdl_cons (pd_ix (pd_var 1) pd_int) (pdl_cons pd_int pdl_nil))) (by rfl)) (sd_one (sd_ret pd_bl)) sd_nil) (sd_one (sd_ret (pd_call (h_is_tree.mono (by decide)) hr (pda (pdl_cons (pd_fld .kinds M.sys (pd_var 0)) (pdl_cons (pd_fr (pf_star (pd_fld .bounds M.sys (pd_var 0)) (pd_call (h_at_least.mono (by decide)) hr (pda (pdl_cons (pd_ix (pd_var 1) pd_int) (pdl_cons (pd_bin op_add3 r2_add (pd_ix (pd_var 1) pd_int) pd_int) pdl_nil))) (by rfl)))) (pdl_cons (pd_ix (pd_var 2) pd_int) pdl_nil)))) (by rfl)))))))) sem
def d_accepts (q_system_of : DSp) (q_is_solid : DSp) (q_is_aim : DSp) (q_accepts_best : DSp) : DS := (dSeq (dIfS (dOr (dNot (dTru (dUn (fIsi "tuple") (dVar 0)))) (dOr (dTest (dBin fEqD (dVar 0) (dTup dLnil))) (dNot (dTru (dUn (fIsi "str") (dBin fIx (dVar 0) (dC (.int 0)))))))) (dRet (dC (.bl false))) dNx) (dSeq (dIfS (dOr (dTest (dUn fNotInB (dBin fIx (dVar 0) (dC (.int 0))))) (dTest (dBin fNe (dUn fLen (dVar 0)) (dUn fLenB (dBin fIx (dVar 0) (dC (.int 0))))))) (dRet (dC (.bl false))) dNx) (dSeq (dAsg 2 (dCall q_system_of (dA (dLcons (dBin fIx (dVar 0) (dC (.int 1))) dLnil)))) (dSeq (dIfS (dTest (dIsN (dVar 2))) (dRet (dC (.bl false))) dNx) (dSeq (dIfS (dTest (dBin fEq (dBin fIx (dVar 0) (dC (.int 0))) (dC (.str "none")))) dNoS dNx) (dSeq (dIfS (dTest (dBin fEq (dBin fIx (dVar 0) (dC (.int 0))) (dC (.str "point")))) dNoS dNx) (dSeq (dIfS (dTest (dBin fEq (dBin fIx (dVar 0) (dC (.int 0))) (dC (.str "least")))) dNoS dNx) (dSeq (dIfS (dOr (dNot (dTru (dCall q_is_solid (dA (dLcons (dVar 2) dLnil))))) (dNot (dTru (dCall q_is_aim (dA (dLcons (dVar 2) (dLcons (dBin fIx (dVar 0) (dC (.int 2))) dLnil))))))) (dRet (dC (.bl false))) dNx) (dSeq (dIfS (dTest (dBin fEq (dBin fIx (dVar 0) (dC (.int 0))) (dC (.str "best")))) (dRet (dCall q_accepts_best (dA (dLcons (dVar 2) (dLcons (dVar 0) (dLcons (dVar 1) dLnil)))))) dNx) dNoS)))))))))
abbrev N_accepts : List Str := ["claim", "certificate", "system"]
theorem sc_accepts : FnScope N_accepts ["claim", "certificate"] (defScope s_accepts) := ⟨rfl, rfl, rfl, by decide +kernel, rfl, by decide +kernel, by decide +kernel⟩
theorem w_accepts {q_system_of : DSp} {q_is_solid : DSp} {q_is_aim : DSp} {q_accepts_best : DSp} {dsp : DSp} (M : Mods w K mg) (F : Def1 K mg "accepts" s_accepts) (h_system_of : HasFn P w K mg base 10 "system_of" 1 q_system_of) (h_is_solid : HasFn P w K mg base 1 "is_solid" 1 q_is_solid) (h_is_aim : HasFn P w K mg base 3 "is_aim" 2 q_is_aim) (h_accepts_best : HasFn P w K mg base 7 "accepts_best" 3 q_accepts_best) (sem : ∀ cs Q, cs.length = 2 → dsp cs Q → d_accepts q_system_of q_is_solid q_is_aim q_accepts_best { nx := fun _ => Q .non, rt := Q } (startE N_accepts cs)) : HasFn P w K mg base 11 "accepts" 2 dsp :=
  has_fn (d := d_accepts q_system_of q_is_solid q_is_aim q_accepts_best) F sc_accepts rfl (fun _ _ _ _ _ _ us hl => match us, hl with | [_, _], _ => rfl) (fun f cdv A outer s H E hr => by exact (sd_cons (sd_if (PW.pt (pwd_or (ptd_not (ptd_tru (pd_isi M.n_isinstance M.n_tuple boot_tuple (.inr (.inr (.inr rfl))) (pd_var 0) (by rfl) (by rfl)))) (pwd_or (ptd_cmp (op_eqD hr.units) r2_eqD (pd_var 0) (pd_tup pdl_nil) (by rfl)) (pwd_or1 (ptd_not (ptd_tru (pd_isi M.n_isinstance M.n_str boot_str (.inr (.inr (.inl rfl))) (pd_ix (pd_var 0) pd_int) (by rfl) (by rfl)))))))) (sd_one (sd_ret pd_bl)) sd_nil) (sd_cons (sd_if (PW.pt (pwd_or (ptd_notInB M.c_LENGTHS.2 M.c_LENGTHS.1 (pd_ix (pd_var 0) pd_int) (by rfl)) (pwd_or1 (ptd_cmp op_ne r2_ne (pd_b1 M.n_len call_lenD c1_len boot_len (pd_var 0) (by rfl)) (pd_ixB M.c_LENGTHS.2 M.c_LENGTHS.1 (pd_ix (pd_var 0) pd_int) (by rfl)) (by rfl))))) (sd_one (sd_ret pd_bl)) sd_nil) (sd_cons (sd_set (i := 2) sc_accepts.nd (pd_call (h_system_of.mono (by decide)) hr (pda (pdl_cons (pd_ix (pd_var 0) pd_int) pdl_nil)) (by rfl))) (sd_cons (sd_if (ptd_isN (pd_var 2)) (sd_one (sd_ret pd_bl)) sd_nil) (sd_cons (sd_if (ptd_cmp op_eq r2_eq (pd_ix (pd_var 0) pd_int) pd_str (by rfl)) sd_no sd_nil) (sd_cons (sd_if (ptd_cmp op_eq r2_eq (pd_ix (pd_var 0) pd_int) pd_str (by rfl)) sd_no sd_nil) (sd_cons (sd_if (ptd_cmp op_eq r2_eq (pd_ix (pd_var 0) pd_int) pd_str (by rfl)) sd_no sd_nil) (sd_cons (sd_if (PW.pt (pwd_or (ptd_not (ptd_tru (pd_call (h_is_solid.mono (by decide)) hr (pda (pdl_cons (pd_var 2) pdl_nil)) (by rfl)))) (pwd_or1 (ptd_not (ptd_tru (pd_call (h_is_aim.mono (by decide)) hr (pda (pdl_cons (pd_var 2) (pdl_cons (pd_ix (pd_var 0) pd_int) pdl_nil))) (by rfl))))))) (sd_one (sd_ret pd_bl)) sd_nil) (sd_cons (sd_if (ptd_cmp op_eq r2_eq (pd_ix (pd_var 0) pd_int) pd_str (by rfl)) (sd_one (sd_ret (pd_call (h_accepts_best.mono (by decide)) hr (pda (pdl_cons (pd_var 2) (pdl_cons (pd_var 0) (pdl_cons (pd_var 1) pdl_nil)))) (by rfl)))) sd_nil) sd_no)))))))))) sem
theorem wk_accepts {q_system_of : DSp} {q_is_solid : DSp} {q_is_aim : DSp} {q_accepts_best : DSp} {dsp : DSp} (M : Mods w K mg) (F : Def1 K mg "accepts" s_accepts) (h_system_of : HasFn P w K mg base 10 "system_of" 1 q_system_of) (h_is_solid : HasFn P w K mg base 1 "is_solid" 1 q_is_solid) (h_is_aim : HasFn P w K mg base 3 "is_aim" 2 q_is_aim) (h_accepts_best : HasFn P w K mg base 7 "accepts_best" 3 q_accepts_best) (sem : ∀ cs Q, cs.length = 2 → dsp cs Q → d_accepts q_system_of q_is_solid q_is_aim q_accepts_best { nx := fun _ => Q .non, rt := Q } (startE N_accepts cs)) : HasFnK P w K mg base 11 "accepts" ["certificate", "claim"] dsp :=
  has_fnK (d := d_accepts q_system_of q_is_solid q_is_aim q_accepts_best) F sc_accepts rfl (fun _ _ _ _ _ _ us ws hl => match us, ws, hl with | [], [_, _], _ => rfl) (fun f cdv A outer s H E hr => by exact (sd_cons (sd_if (PW.pt (pwd_or (ptd_not (ptd_tru (pd_isi M.n_isinstance M.n_tuple boot_tuple (.inr (.inr (.inr rfl))) (pd_var 0) (by rfl) (by rfl)))) (pwd_or (ptd_cmp (op_eqD hr.units) r2_eqD (pd_var 0) (pd_tup pdl_nil) (by rfl)) (pwd_or1 (ptd_not (ptd_tru (pd_isi M.n_isinstance M.n_str boot_str (.inr (.inr (.inl rfl))) (pd_ix (pd_var 0) pd_int) (by rfl) (by rfl)))))))) (sd_one (sd_ret pd_bl)) sd_nil) (sd_cons (sd_if (PW.pt (pwd_or (ptd_notInB M.c_LENGTHS.2 M.c_LENGTHS.1 (pd_ix (pd_var 0) pd_int) (by rfl)) (pwd_or1 (ptd_cmp op_ne r2_ne (pd_b1 M.n_len call_lenD c1_len boot_len (pd_var 0) (by rfl)) (pd_ixB M.c_LENGTHS.2 M.c_LENGTHS.1 (pd_ix (pd_var 0) pd_int) (by rfl)) (by rfl))))) (sd_one (sd_ret pd_bl)) sd_nil) (sd_cons (sd_set (i := 2) sc_accepts.nd (pd_call (h_system_of.mono (by decide)) hr (pda (pdl_cons (pd_ix (pd_var 0) pd_int) pdl_nil)) (by rfl))) (sd_cons (sd_if (ptd_isN (pd_var 2)) (sd_one (sd_ret pd_bl)) sd_nil) (sd_cons (sd_if (ptd_cmp op_eq r2_eq (pd_ix (pd_var 0) pd_int) pd_str (by rfl)) sd_no sd_nil) (sd_cons (sd_if (ptd_cmp op_eq r2_eq (pd_ix (pd_var 0) pd_int) pd_str (by rfl)) sd_no sd_nil) (sd_cons (sd_if (ptd_cmp op_eq r2_eq (pd_ix (pd_var 0) pd_int) pd_str (by rfl)) sd_no sd_nil) (sd_cons (sd_if (PW.pt (pwd_or (ptd_not (ptd_tru (pd_call (h_is_solid.mono (by decide)) hr (pda (pdl_cons (pd_var 2) pdl_nil)) (by rfl)))) (pwd_or1 (ptd_not (ptd_tru (pd_call (h_is_aim.mono (by decide)) hr (pda (pdl_cons (pd_var 2) (pdl_cons (pd_ix (pd_var 0) pd_int) pdl_nil))) (by rfl))))))) (sd_one (sd_ret pd_bl)) sd_nil) (sd_cons (sd_if (ptd_cmp op_eq r2_eq (pd_ix (pd_var 0) pd_int) pd_str (by rfl)) (sd_one (sd_ret (pd_call (h_accepts_best.mono (by decide)) hr (pda (pdl_cons (pd_var 2) (pdl_cons (pd_var 0) (pdl_cons (pd_var 1) pdl_nil)))) (by rfl)))) sd_nil) sd_no)))))))))) sem
end
end Fe
set_option Elab.async false
set_option linter.all false
set_option maxRecDepth 100000
set_option maxHeartbeats 4000000
/-! Layer 2 (printed by gen_defs.py): the defs' bodies over data. -/
namespace Fe
open PySem PySem.W PySem.Calls PyProof.Rows L2
section
variable {P : Program} {w : World} {K : PySem.W.Frag} {mg : Str → Option Value} {base : Heap}
def d_law_spring : DS := (dSeq (dAsg 2 (dIf (dTest (dBin fLt (dVar 1) (dUn fLen (dVar 0)))) (dBin fIx (dVar 0) (dVar 1)) (dBin fAdd (dBin fMul (dC (.int 7)) (dVar 1)) (dC (.int 2))))) (dSeq (dAsg 3 (dBin fAdd (dC (.int 90001)) (dBin fMul (dC (.int 7919)) (dVar 1)))) (dSeq (dFor (dIl (dFr (dCat (dSl (dVar 0) dNo (dPart (dC (.int 8)))) (dFr (dLcons (dVar 2) dLnil))))) (dgN 4) (dAsg 3 (dBin fMod (dUn fIntI (dBin fAdd (dBin fAdd (dBin fMul (dVar 3) (dC (.int 48271))) (dUn fIntI (dVar 4))) (dBin fMul (dC (.int 11)) (dVar 1)))) (dC (.int 2147483647))))) dNx)))
def dl_law_spring : DL := (dLcons (dIf (dOr (dTest (dBin fLt (dVar 2) (dC (.int 0)))) (dTest (dBin fGe (dVar 2) (dBin fPow (dC (.int 10)) (dC (.int 18)))))) (dUn fAbs (dVar 2)) (dC (.int 0))) (dLcons (dVar 3) (dLcons (dC (.int 0)) dLnil)))
abbrev N_law_spring : List Str := ["_law_cells", "_law_k", "_law_cell", "_law_mixed", "_law_number"]
theorem sc_law_spring : FnScope N_law_spring ["_law_cells", "_law_k"] (defScope s_law_spring) := ⟨rfl, rfl, rfl, by decide +kernel, rfl, by decide +kernel, by decide +kernel⟩
theorem w_law_spring  {dsp : DSpL} (M : Mods w K mg) (F : Def1 K mg "_law_spring" s_law_spring)  (sem : ∀ cs Q, cs.length = 2 → dsp cs Q → d_law_spring { nx := fun e => dl_law_spring e Q, rt := fun _ => False } (startE N_law_spring cs)) : HasFnF P w K mg base 1 "_law_spring" 2 dsp :=
  has_fnF (d := d_law_spring) (dl := dl_law_spring) F sc_law_spring rfl (fun _ _ _ _ _ _ us hl => match us, hl with | [_, _], _ => rfl) (fun f cdv A outer s H E hr => by exact (sdf_cons (sd_set (i := 2) sc_law_spring.nd (pd_if (ptd_cmp op_lt r2_lt (pd_var 1) (pd_b1 M.n_len call_lenD c1_len boot_len (pd_var 0) (by rfl)) (by rfl)) (pd_ix (pd_var 0) (pd_var 1)) (pd_bin op_add3 r2_add (pd_bin op_mulB r2_mul pd_int (pd_var 1)) pd_int))) (sdf_cons (sd_set (i := 3) sc_law_spring.nd (pd_bin op_add3 r2_add pd_int (pd_bin op_mulB r2_mul pd_int (pd_var 1)))) (sdf_cons (sd_for rfl (pid_l (pd_fr (pf_cat (pd_sl (pd_var 0) pod_no (pod_some pd_int)) (pd_fr (pf_lst (pdl_cons (pd_var 2) pdl_nil)))))) (pg_name sc_law_spring.nd rfl (by first | exact Or.inl rfl | exact Or.inr rfl)) (rg_n (vs := [4]) (by decide)) (sd_one (sd_set (i := 3) sc_law_spring.nd (pd_bin op_mod r2_mod (pd_t1 M.n_int call_intD c1_int boot_int (pd_bin op_add3 r2_add (pd_bin op_add3 r2_add (pd_bin op_mulB r2_mul (pd_var 3) pd_int) (pd_t1 M.n_int call_intD c1_int boot_int (pd_var 4) (by rfl))) (pd_bin op_mulB r2_mul pd_int (pd_var 1))) (by rfl)) pd_int)))) (sdf_ret (pf_lst (pdl_cons (pd_if (PW.pt (pwd_or (ptd_cmp op_lt r2_lt (pd_var 2) pd_int (by rfl)) (pwd_or1 (ptd_cmp op_ge r2_ge (pd_var 2) (pd_bin op_pow r2_pow pd_int pd_int) (by rfl))))) (pd_b1 M.n_abs call_abs c1_abs boot_abs (pd_var 2) (by rfl)) pd_int) (pdl_cons (pd_var 3) (pdl_cons pd_int pdl_nil))))))))) sem
def d_law_draw : DS := (dSeq (dSetSpr 0 2 (dBin fAdd (dSprIx 0 2) (dC (.int 1)))) (dSeq (dSetSpr 0 1 (dBin fMod (dUn fIntI (dBin fAdd (dBin fAdd (dBin fMul (dSprIx 0 1) (dC (.int 69621))) (dBin fMul (dC (.int 40503)) (dSprIx 0 2))) (dC (.int 1)))) (dC (.int 2147483647)))) (dSeq (dIfS (dTest (dBin fGt (dSprIx 0 0) (dC (.int 0)))) (dSeq (dDivm 0 4 (dBin fDivmod (dSprIx 0 0) (dVar 1))) (dRet (dVar 4))) dNx) (dSeq (dAsg 2 (dBin fAdd (dSprIx 0 1) (dC (.int 12345)))) (dSeq (dAsg 3 (dBin fMod (dUn fIntI (dBin fAdd (dBin fMul (dVar 2) (dSprIx 0 1)) (dSprIx 0 2))) (dC (.int 2147483629)))) (dRet (dBin fMod (dUn fIntI (dBin fDiv (dVar 3) (dC (.int 256)))) (dVar 1))))))))
abbrev N_law_draw : List Str := ["_law_spring_here", "_law_size", "_law_far", "_law_mixed", "_law_digit"]
theorem sc_law_draw : FnScope N_law_draw ["_law_spring_here", "_law_size"] (defScope s_law_draw) := ⟨rfl, rfl, rfl, by decide +kernel, rfl, by decide +kernel, by decide +kernel⟩
theorem w_law_draw  {dsp : DSp} (M : Mods w K mg) (F : Def1 K mg "_law_draw" s_law_draw)  (sem : ∀ cs Q, cs.length = 2 → dsp cs Q → d_law_draw { nx := fun _ => Q .non, rt := Q } (startE N_law_draw cs)) : HasFn P w K mg base 1 "_law_draw" 2 dsp :=
  has_fn (d := d_law_draw) F sc_law_draw rfl (fun _ _ _ _ _ _ us hl => match us, hl with | [_, _], _ => rfl) (fun f cdv A outer s H E hr => by exact (sd_cons (sd_setSpr 0 (pd_bin op_add3 r2_add (pd_sprIx 0) pd_int)) (sd_cons (sd_setSpr 0 (pd_bin op_mod r2_mod (pd_t1 M.n_int call_intD c1_int boot_int (pd_bin op_add3 r2_add (pd_bin op_add3 r2_add (pd_bin op_mulB r2_mul (pd_sprIx 0) pd_int) (pd_bin op_mulB r2_mul pd_int (pd_sprIx 0))) pd_int) (by rfl)) pd_int)) (sd_cons (sd_if (ptd_cmp op_gt r2_gt (pd_sprIx 0) pd_int (by rfl)) (sd_cons (sd_divm 0 4 rfl sc_law_draw.nd (pd_b2 M.n_divmod call_divmod c2_divmod boot_divmod (pd_sprIx 0) (pd_var 1) (by rfl)) (hg := pg_name sc_law_draw.nd rfl (by first | exact Or.inl rfl | exact Or.inr rfl))) (sd_one (sd_ret (pd_var 4)))) sd_nil) (sd_cons (sd_set (i := 2) sc_law_draw.nd (pd_bin op_add3 r2_add (pd_sprIx 0) pd_int)) (sd_cons (sd_set (i := 3) sc_law_draw.nd (pd_bin op_mod r2_mod (pd_t1 M.n_int call_intD c1_int boot_int (pd_bin op_add3 r2_add (pd_bin op_mulB r2_mul (pd_var 2) (pd_sprIx 0)) (pd_sprIx 0)) (by rfl)) pd_int)) (sd_one (sd_ret (pd_bin op_mod r2_mod (pd_t1 M.n_int call_intD c1_int boot_int (pd_bin op_fdiv r2_div (pd_var 3) pd_int) (by rfl)) (pd_var 1)))))))))) sem
def d_law_of (q_law_draw : DSp) : DS := (dRet (dBin fIx (dVar 1) (dCall q_law_draw (dAS 0 (dLcons (dUn fLen (dVar 1)) dLnil)))))
abbrev N_law_of : List Str := ["_law_spring_here", "_law_menu"]
theorem sc_law_of : FnScope N_law_of ["_law_spring_here", "_law_menu"] (defScope s_law_of) := ⟨rfl, rfl, rfl, by decide +kernel, rfl, by decide +kernel, by decide +kernel⟩
theorem w_law_of {q_law_draw : DSp} {dsp : DSp} (M : Mods w K mg) (F : Def1 K mg "_law_of" s_law_of) (h_law_draw : HasFn P w K mg base 1 "_law_draw" 2 q_law_draw) (sem : ∀ cs Q, cs.length = 2 → dsp cs Q → d_law_of q_law_draw { nx := fun _ => Q .non, rt := Q } (startE N_law_of cs)) : HasFn P w K mg base 2 "_law_of" 2 dsp :=
  has_fn (d := d_law_of q_law_draw) F sc_law_of rfl (fun _ _ _ _ _ _ us hl => match us, hl with | [_, _], _ => rfl) (fun f cdv A outer s H E hr => by exact (sd_one (sd_ret (pd_ix (pd_var 1) (pd_call (h_law_draw.mono (by decide)) hr (pda_spr 0 (pdl_cons (pd_b1 M.n_len call_lenD c1_len boot_len (pd_var 1) (by rfl)) pdl_nil)) (by rfl)))))) sem
def d_law_term : DS := (dRet (dIf (dTest (dBin fEq (dUn fAbs (dVar 0)) (dC (.int 1)))) (dVar 1) (dBin fAdd (dBin fAdd (dUn fStrI (dUn fAbs (dVar 0))) (dC (.str "*"))) (dVar 1))))
abbrev N_law_term : List Str := ["_law_size", "_law_sign"]
theorem sc_law_term : FnScope N_law_term ["_law_size", "_law_sign"] (defScope s_law_term) := ⟨rfl, rfl, rfl, by decide +kernel, rfl, by decide +kernel, by decide +kernel⟩
theorem w_law_term  {dsp : DSp} (M : Mods w K mg) (F : Def1 K mg "_law_term" s_law_term)  (sem : ∀ cs Q, cs.length = 2 → dsp cs Q → d_law_term { nx := fun _ => Q .non, rt := Q } (startE N_law_term cs)) : HasFn P w K mg base 1 "_law_term" 2 dsp :=
  has_fn (d := d_law_term) F sc_law_term rfl (fun _ _ _ _ _ _ us hl => match us, hl with | [_, _], _ => rfl) (fun f cdv A outer s H E hr => by exact (sd_one (sd_ret (pd_if (ptd_cmp op_eq r2_eq (pd_b1 M.n_abs call_abs c1_abs boot_abs (pd_var 0) (by rfl)) pd_int (by rfl)) (pd_var 1) (pd_bin op_add3 r2_add (pd_bin op_add3 r2_add (pd_t1 M.n_str call_str_int c1_str boot_str (pd_b1 M.n_abs call_abs c1_abs boot_abs (pd_var 0) (by rfl)) (by rfl)) pd_str) (pd_var 1)))))) sem
def d_law_sum_text (q_law_term : DSp) : DS := (dSeq (dAsg 1 (dC (.str ""))) (dSeq (dFor (dZip (dVar 0) (dC (.str "xy"))) (dgT 2 3) (dIfS (dTest (dBin fNe (dVar 2) (dC (.int 0)))) (dSeq (dAsg 4 (dIf (dTest (dBin fEq (dVar 1) (dC (.str "")))) (dIf (dTest (dBin fLt (dVar 2) (dC (.int 0)))) (dC (.str "-")) (dC (.str ""))) (dIf (dTest (dBin fLt (dVar 2) (dC (.int 0)))) (dC (.str " - ")) (dC (.str " + "))))) (dAsg 1 (dBin fAdd (dBin fAdd (dVar 1) (dVar 4)) (dCall q_law_term (dA (dLcons (dVar 2) (dLcons (dVar 3) dLnil))))))) dNx)) (dRet (dVar 1))))
abbrev N_law_sum_text : List Str := ["_law_weights_now", "_law_found", "_law_size", "_law_sign", "_law_joint"]
theorem sc_law_sum_text : FnScope N_law_sum_text ["_law_weights_now"] (defScope s_law_sum_text) := ⟨rfl, rfl, rfl, by decide +kernel, rfl, by decide +kernel, by decide +kernel⟩
theorem w_law_sum_text {q_law_term : DSp} {dsp : DSp} (M : Mods w K mg) (F : Def1 K mg "_law_sum_text" s_law_sum_text) (h_law_term : HasFn P w K mg base 1 "_law_term" 2 q_law_term) (sem : ∀ cs Q, cs.length = 1 → dsp cs Q → d_law_sum_text q_law_term { nx := fun _ => Q .non, rt := Q } (startE N_law_sum_text cs)) : HasFn P w K mg base 2 "_law_sum_text" 1 dsp :=
  has_fn (d := d_law_sum_text q_law_term) F sc_law_sum_text rfl (fun _ _ _ _ _ _ us hl => match us, hl with | [_], _ => rfl) (fun f cdv A outer s H E hr => by exact (sd_cons (sd_set (i := 1) sc_law_sum_text.nd pd_str) (sd_cons (sd_for rfl (pid_z M.n_zip (pd_var 0) pd_str (by rfl)) (pg_tup rfl (pgs_cons (pg_name sc_law_sum_text.nd rfl (by first | exact Or.inl rfl | exact Or.inr rfl)) (pgs_cons (pg_name sc_law_sum_text.nd rfl (by first | exact Or.inl rfl | exact Or.inr rfl)) pgs_nil))) (rg_t (vs := [2, 3]) (by decide) (by decide)) (sd_one (sd_if (ptd_cmp op_ne r2_ne (pd_var 2) pd_int (by rfl)) (sd_cons (sd_set (i := 4) sc_law_sum_text.nd (pd_if (ptd_cmp op_eq r2_eq (pd_var 1) pd_str (by rfl)) (pd_if (ptd_cmp op_lt r2_lt (pd_var 2) pd_int (by rfl)) pd_str pd_str) (pd_if (ptd_cmp op_lt r2_lt (pd_var 2) pd_int (by rfl)) pd_str pd_str))) (sd_one (sd_set (i := 1) sc_law_sum_text.nd (pd_bin op_add3 r2_add (pd_bin op_add3 r2_add (pd_var 1) (pd_var 4)) (pd_call (h_law_term.mono (by decide)) hr (pda (pdl_cons (pd_var 2) (pdl_cons (pd_var 3) pdl_nil))) (by rfl)))))) sd_nil))) (sd_one (sd_ret (pd_var 1)))))) sem
def d_law_point_keeps : DS := (dSeq (dAsg 2 (dFr (dLc (dIt (dVar 1)) (dgN 5) dYes (dIf (dTru (dUn (fIsi "tuple") (dVar 5))) (dVar 5) (dTup (dLcons (dVar 5) (dLcons (dC (.int 1)) dLnil)))) [5]))) (dSeq (dFor (dIl (dVar 0)) (dgT 3 4) (dSeq (dUnT [6, 7] (dTup (dLcons (dC (.int 0)) (dLcons (dC (.int 1)) dLnil)))) (dSeq (dFor (dZip (dVar 3) (dVar 2)) (dgT 8 9) (dSeq (dAsg 6 (dBin fAdd (dBin fMul (dVar 6) (dBin fIx (dVar 9) (dC (.int 1)))) (dBin fMul (dBin fMul (dVar 8) (dBin fIx (dVar 9) (dC (.int 0)))) (dVar 7)))) (dAsg 7 (dBin fMul (dVar 7) (dBin fIx (dVar 9) (dC (.int 1))))))) (dIfS (dTest (dBin fGt (dVar 6) (dBin fMul (dVar 4) (dVar 7)))) (dRet (dC (.bl false))) dNx)))) (dRet (dC (.bl true)))))
abbrev N_law_point_keeps : List Str := ["_law_bounds_now", "_law_point_now", "_law_place", "_law_weights_now", "_law_c", "_law_each", "_law_top", "_law_bottom", "_law_size", "_law_pair_here"]
theorem sc_law_point_keeps : FnScope N_law_point_keeps ["_law_bounds_now", "_law_point_now"] (defScope s_law_point_keeps) := ⟨rfl, rfl, rfl, by decide +kernel, rfl, by decide +kernel, by decide +kernel⟩
theorem w_law_point_keeps  {dsp : DSp} (M : Mods w K mg) (F : Def1 K mg "_law_point_keeps" s_law_point_keeps)  (sem : ∀ cs Q, cs.length = 2 → dsp cs Q → d_law_point_keeps { nx := fun _ => Q .non, rt := Q } (startE N_law_point_keeps cs)) : HasFn P w K mg base 1 "_law_point_keeps" 2 dsp :=
  has_fn (d := d_law_point_keeps) F sc_law_point_keeps rfl (fun _ _ _ _ _ _ us hl => match us, hl with | [_, _], _ => rfl) (fun f cdv A outer s H E hr => by exact (sd_cons (sd_setLc (i := 2) rfl sc_law_point_keeps.nd (pid_t (pd_var 1)) (blkOk_by (own := [("_law_each", 5)]) (by kernel_rfl)) (rg_n (by decide)) (fun _ _ _ _ _ => pg_name sc_law_point_keeps.nd rfl (by first | exact Or.inl rfl | exact Or.inr rfl)) (fun _ _ _ _ _ => ptsd_nil) (fun _ _ _ _ _ => (pd_if (ptd_tru (pd_isi M.n_isinstance M.n_tuple boot_tuple (.inr (.inr (.inr rfl))) (pd_var 5) (by rfl) (by rfl))) (pd_var 5) (pd_tup (pdl_cons (pd_var 5) (pdl_cons pd_int pdl_nil)))))) (sd_cons (sd_for rfl (pid_l (pd_var 0)) (pg_tup rfl (pgs_cons (pg_name sc_law_point_keeps.nd rfl (by first | exact Or.inl rfl | exact Or.inr rfl)) (pgs_cons (pg_name sc_law_point_keeps.nd rfl (by first | exact Or.inl rfl | exact Or.inr rfl)) pgs_nil))) (rg_t (vs := [3, 4]) (by decide) (by decide)) (sd_cons (sd_unT rfl (pd_tup (pdl_cons pd_int (pdl_cons pd_int pdl_nil))) (pgd_cons (pg_name sc_law_point_keeps.nd rfl (by first | exact Or.inl rfl | exact Or.inr rfl)) (pgd_cons (pg_name sc_law_point_keeps.nd rfl (by first | exact Or.inl rfl | exact Or.inr rfl)) pgd_nil))) (sd_cons (sd_for rfl (pid_z M.n_zip (pd_var 3) (pd_var 2) (by rfl)) (pg_tup rfl (pgs_cons (pg_name sc_law_point_keeps.nd rfl (by first | exact Or.inl rfl | exact Or.inr rfl)) (pgs_cons (pg_name sc_law_point_keeps.nd rfl (by first | exact Or.inl rfl | exact Or.inr rfl)) pgs_nil))) (rg_t (vs := [8, 9]) (by decide) (by decide)) (sd_cons (sd_set (i := 6) sc_law_point_keeps.nd (pd_bin op_add3 r2_add (pd_bin op_mulB r2_mul (pd_var 6) (pd_ix (pd_var 9) pd_int)) (pd_bin op_mulB r2_mul (pd_bin op_mulB r2_mul (pd_var 8) (pd_ix (pd_var 9) pd_int)) (pd_var 7)))) (sd_one (sd_set (i := 7) sc_law_point_keeps.nd (pd_bin op_mulB r2_mul (pd_var 7) (pd_ix (pd_var 9) pd_int)))))) (sd_one (sd_if (ptd_cmp op_gt r2_gt (pd_var 6) (pd_bin op_mulB r2_mul (pd_var 4) (pd_var 7)) (by rfl)) (sd_one (sd_ret pd_bl)) sd_nil))))) (sd_one (sd_ret pd_bl))))) sem
def d_law_integer : DS := (dRet (dAndV (dUn (fIsi "int") (dVar 0)) (dNotT (dUn (fIsi "bool") (dVar 0)))))
abbrev N_law_integer : List Str := ["_law_thing"]
theorem sc_law_integer : FnScope N_law_integer ["_law_thing"] (defScope s_law_integer) := ⟨rfl, rfl, rfl, by decide +kernel, rfl, by decide +kernel, by decide +kernel⟩
theorem w_law_integer  {dsp : DSp} (M : Mods w K mg) (F : Def1 K mg "_law_integer" s_law_integer)  (sem : ∀ cs Q, cs.length = 1 → dsp cs Q → d_law_integer { nx := fun _ => Q .non, rt := Q } (startE N_law_integer cs)) : HasFn P w K mg base 1 "_law_integer" 1 dsp :=
  has_fn (d := d_law_integer) F sc_law_integer rfl (fun _ _ _ _ _ _ us hl => match us, hl with | [_], _ => rfl) (fun f cdv A outer s H E hr => by exact (sd_one (sd_ret (pd_andV (pd_isi M.n_isinstance M.n_int boot_int (.inl rfl) (pd_var 0) (by rfl) (by rfl)) (pd_oneV (pd_notT (pd_isi M.n_isinstance M.n_bool boot_bool (.inr (.inl rfl)) (pd_var 0) (by rfl) (by rfl)))))))) sem
def d_law_integers (q_law_integer : DSp) : DS := (dSeq (dIfS (dOr (dNot (dTru (dUn (fIsi "tuple") (dVar 0)))) (dTest (dBin fNe (dUn fLen (dVar 0)) (dVar 1)))) (dRet (dC (.bl false))) dNx) (dRet (dUn fAll (dFr (dLc (dIt (dVar 0)) (dgN 2) dYes (dCall q_law_integer (dA (dLcons (dVar 2) dLnil))) [2])))))
abbrev N_law_integers : List Str := ["_law_thing", "_law_many", "_law_each"]
theorem sc_law_integers : FnScope N_law_integers ["_law_thing", "_law_many"] (defScope s_law_integers) := ⟨rfl, rfl, rfl, by decide +kernel, rfl, by decide +kernel, by decide +kernel⟩
theorem w_law_integers {q_law_integer : DSp} {dsp : DSp} (M : Mods w K mg) (F : Def1 K mg "_law_integers" s_law_integers) (h_law_integer : HasFn P w K mg base 1 "_law_integer" 1 q_law_integer) (sem : ∀ cs Q, cs.length = 2 → dsp cs Q → d_law_integers q_law_integer { nx := fun _ => Q .non, rt := Q } (startE N_law_integers cs)) : HasFn P w K mg base 2 "_law_integers" 2 dsp :=
  has_fn (d := d_law_integers q_law_integer) F sc_law_integers rfl (fun _ _ _ _ _ _ us hl => match us, hl with | [_, _], _ => rfl) (fun f cdv A outer s H E hr => by exact (sd_cons (sd_if (PW.pt (pwd_or (ptd_not (ptd_tru (pd_isi M.n_isinstance M.n_tuple boot_tuple (.inr (.inr (.inr rfl))) (pd_var 0) (by rfl) (by rfl)))) (pwd_or1 (ptd_cmp op_ne r2_ne (pd_b1 M.n_len call_lenD c1_len boot_len (pd_var 0) (by rfl)) (pd_var 1) (by rfl))))) (sd_one (sd_ret pd_bl)) sd_nil) (sd_one (sd_ret (pd_b1 M.n_all (cr_all rfl) c1_all boot_all (pd_fr (pf_lc rfl sc_law_integers.nd (pid_t (pd_var 0)) (blkOk_by (own := [("_law_each", 2)]) (by kernel_rfl)) (rg_n (by decide)) (fun _ _ _ _ _ => pg_name sc_law_integers.nd rfl (by first | exact Or.inl rfl | exact Or.inr rfl)) (fun _ _ _ _ _ => ptsd_nil) (fun _ _ _ _ _ => (pd_call (h_law_integer.mono (by decide)) hr (pda (pdl_cons (pd_var 2) pdl_nil)) (by rfl))))) (by rfl)))))) sem
def d_law_total : DS := (dRet (dUn fSum (dFr (dLc (dZip (dVar 0) (dVar 1)) (dgT 2 3) dYes (dBin fMul (dVar 2) (dVar 3)) [2, 3]))))
abbrev N_law_total : List Str := ["_law_sizes", "_law_parts_now", "_law_size", "_law_each"]
theorem sc_law_total : FnScope N_law_total ["_law_sizes", "_law_parts_now"] (defScope s_law_total) := ⟨rfl, rfl, rfl, by decide +kernel, rfl, by decide +kernel, by decide +kernel⟩
theorem w_law_total  {dsp : DSp} (M : Mods w K mg) (F : Def1 K mg "_law_total" s_law_total)  (sem : ∀ cs Q, cs.length = 2 → dsp cs Q → d_law_total { nx := fun _ => Q .non, rt := Q } (startE N_law_total cs)) : HasFn P w K mg base 1 "_law_total" 2 dsp :=
  has_fn (d := d_law_total) F sc_law_total rfl (fun _ _ _ _ _ _ us hl => match us, hl with | [_, _], _ => rfl) (fun f cdv A outer s H E hr => by exact (sd_one (sd_ret (pd_b1 M.n_sum (cr_sum rfl) c1_sum boot_sum (pd_fr (pf_lc rfl sc_law_total.nd (pid_z M.n_zip (pd_var 0) (pd_var 1) (by rfl)) (blkOk_by (own := [("_law_size", 2), ("_law_each", 3)]) (by kernel_rfl)) (rg_t (by decide) (by decide)) (fun _ _ _ _ _ => pg_tup rfl (pgs_cons (pg_name sc_law_total.nd rfl (by first | exact Or.inl rfl | exact Or.inr rfl)) (pgs_cons (pg_name sc_law_total.nd rfl (by first | exact Or.inl rfl | exact Or.inr rfl)) pgs_nil))) (fun _ _ _ _ _ => ptsd_nil) (fun _ _ _ _ _ => (pd_bin op_mulB r2_mul (pd_var 2) (pd_var 3))))) (by rfl))))) sem
def d_law_pair : DS := (dRet (dAndV (dUn (fIsi "tuple") (dVar 0)) (dBin fEq (dUn fLen (dVar 0)) (dC (.int 2)))))
abbrev N_law_pair : List Str := ["_law_thing"]
theorem sc_law_pair : FnScope N_law_pair ["_law_thing"] (defScope s_law_pair) := ⟨rfl, rfl, rfl, by decide +kernel, rfl, by decide +kernel, by decide +kernel⟩
theorem w_law_pair  {dsp : DSp} (M : Mods w K mg) (F : Def1 K mg "_law_pair" s_law_pair)  (sem : ∀ cs Q, cs.length = 1 → dsp cs Q → d_law_pair { nx := fun _ => Q .non, rt := Q } (startE N_law_pair cs)) : HasFn P w K mg base 1 "_law_pair" 1 dsp :=
  has_fn (d := d_law_pair) F sc_law_pair rfl (fun _ _ _ _ _ _ us hl => match us, hl with | [_], _ => rfl) (fun f cdv A outer s H E hr => by exact (sd_one (sd_ret (pd_andV (pd_isi M.n_isinstance M.n_tuple boot_tuple (.inr (.inr (.inr rfl))) (pd_var 0) (by rfl) (by rfl)) (pd_oneV (pd_cmp op_eq r2_eq (pd_b1 M.n_len call_lenD c1_len boot_len (pd_var 0) (by rfl)) pd_int (by rfl))))))) sem
def d_law_end_right (q_law_integers : DSp) (q_law_total : DSp) : DS := (dSeq (dIfS (dOr (dNot (dTru (dCall q_law_integers (dA (dLcons (dVar 1) (dLcons (dUn fLen (dVar 0)) dLnil)))))) (dTru (dUn fAny (dFr (dLc (dIt (dVar 1)) (dgN 5) dYes (dBin fLt (dVar 5) (dC (.int 0))) [5]))))) (dRet (dC (.bl false))) dNx) (dSeq (dAsg 3 (dFr (dLc (dIr (dVar 2)) (dgN 4) dYes (dCall q_law_total (dA (dLcons (dVar 1) (dLcons (dFr (dLc (dIl (dVar 0)) (dgT 6 7) dYes (dBin fIx (dVar 6) (dVar 4)) [6, 7])) dLnil)))) [4]))) (dRet (dAndV (dBin fEqD (dVar 3) (dFr (dRep (dLcons (dC (.int 0)) dLnil) (dVar 2)))) (dBin fLt (dCall q_law_total (dA (dLcons (dVar 1) (dLcons (dFr (dLc (dIl (dVar 0)) (dgT 6 7) dYes (dVar 7) [6, 7])) dLnil)))) (dC (.int 0)))))))
abbrev N_law_end_right : List Str := ["_law_bounds_now", "_law_sizes", "_law_many", "_law_sums", "_law_k", "_law_size", "_law_weights_now", "_law_c"]
theorem sc_law_end_right : FnScope N_law_end_right ["_law_bounds_now", "_law_sizes", "_law_many"] (defScope s_law_end_right) := ⟨rfl, rfl, rfl, by decide +kernel, rfl, by decide +kernel, by decide +kernel⟩
theorem w_law_end_right {q_law_integers : DSp} {q_law_total : DSp} {dsp : DSp} (M : Mods w K mg) (F : Def1 K mg "_law_end_right" s_law_end_right) (h_law_integers : HasFn P w K mg base 2 "_law_integers" 2 q_law_integers) (h_law_total : HasFn P w K mg base 1 "_law_total" 2 q_law_total) (sem : ∀ cs Q, cs.length = 3 → dsp cs Q → d_law_end_right q_law_integers q_law_total { nx := fun _ => Q .non, rt := Q } (startE N_law_end_right cs)) : HasFn P w K mg base 3 "_law_end_right" 3 dsp :=
  has_fn (d := d_law_end_right q_law_integers q_law_total) F sc_law_end_right rfl (fun _ _ _ _ _ _ us hl => match us, hl with | [_, _, _], _ => rfl) (fun f cdv A outer s H E hr => by exact (sd_cons (sd_if (PW.pt (pwd_or (ptd_not (ptd_tru (pd_call (h_law_integers.mono (by decide)) hr (pda (pdl_cons (pd_var 1) (pdl_cons (pd_b1 M.n_len call_lenD c1_len boot_len (pd_var 0) (by rfl)) pdl_nil))) (by rfl)))) (pwd_or1 (ptd_tru (pd_b1 M.n_any (cr_any rfl) c1_any boot_any (pd_fr (pf_lc rfl sc_law_end_right.nd (pid_t (pd_var 1)) (blkOk_by (own := [("_law_size", 5)]) (by kernel_rfl)) (rg_n (by decide)) (fun _ _ _ _ _ => pg_name sc_law_end_right.nd rfl (by first | exact Or.inl rfl | exact Or.inr rfl)) (fun _ _ _ _ _ => ptsd_nil) (fun _ _ _ _ _ => (pd_cmp op_lt r2_lt (pd_var 5) pd_int (by rfl))))) (by rfl)))))) (sd_one (sd_ret pd_bl)) sd_nil) (sd_cons (sd_setLc (i := 3) rfl sc_law_end_right.nd (pid_r M.n_range (pd_var 2) (by rfl)) (blkOk_by (own := [("_law_k", 4)]) (by kernel_rfl)) (rg_n (by decide)) (fun _ _ _ _ _ => pg_name sc_law_end_right.nd rfl (by first | exact Or.inl rfl | exact Or.inr rfl)) (fun _ _ _ _ _ => ptsd_nil) (fun _ _ _ _ _ => (pd_call (h_law_total.mono (by decide)) hr (pda (pdl_cons (pd_var 1) (pdl_cons (pd_fr (pf_lc rfl sc_law_end_right.nd (pid_l (pd_var 0)) (blkOk_by (own := [("_law_weights_now", 6), ("_law_c", 7)]) (by kernel_rfl)) (rg_t (by decide) (by decide)) (fun _ _ _ _ _ => pg_tup rfl (pgs_cons (pg_name sc_law_end_right.nd rfl (by first | exact Or.inl rfl | exact Or.inr rfl)) (pgs_cons (pg_name sc_law_end_right.nd rfl (by first | exact Or.inl rfl | exact Or.inr rfl)) pgs_nil))) (fun _ _ _ _ _ => ptsd_nil) (fun _ _ _ _ _ => (pd_ix (pd_var 6) (pd_var 4))))) pdl_nil))) (by rfl)))) (sd_one (sd_ret (pd_andV (pd_cmp (op_eqD hr.units) r2_eqD (pd_var 3) (pd_fr (pf_rep (pf_lst (pdl_cons pd_int pdl_nil)) (pd_var 2))) (by rfl)) (pd_oneV (pd_cmp op_lt r2_lt (pd_call (h_law_total.mono (by decide)) hr (pda (pdl_cons (pd_var 1) (pdl_cons (pd_fr (pf_lc rfl sc_law_end_right.nd (pid_l (pd_var 0)) (blkOk_by (own := [("_law_weights_now", 6), ("_law_c", 7)]) (by kernel_rfl)) (rg_t (by decide) (by decide)) (fun _ _ _ _ _ => pg_tup rfl (pgs_cons (pg_name sc_law_end_right.nd rfl (by first | exact Or.inl rfl | exact Or.inr rfl)) (pgs_cons (pg_name sc_law_end_right.nd rfl (by first | exact Or.inl rfl | exact Or.inr rfl)) pgs_nil))) (fun _ _ _ _ _ => ptsd_nil) (fun _ _ _ _ _ => (pd_var 7)))) pdl_nil))) (by rfl)) pd_int (by rfl))))))))) sem
def d_law_parting_right (q_law_integers : DSp) (q_law_integer : DSp) : DS := (dSeq (dIfS (dOr (dTest (dBin fNe (dUn fLen (dVar 1)) (dC (.int 3)))) (dOr (dNot (dTru (dCall q_law_integers (dA (dLcons (dBin fIx (dVar 1) (dC (.int 1))) (dLcons (dUn fLen (dVar 0)) dLnil)))))) (dNot (dTru (dCall q_law_integer (dA (dLcons (dBin fIx (dVar 1) (dC (.int 2))) dLnil))))))) (dRet (dC (.bl false))) dNx) (dSeq (dIfS (dTru (dUn fAny (dFr (dLc (dZip (dBin fIx (dVar 1) (dC (.int 1))) (dVar 0)) (dgT 2 3) dYes (dAndV (dBin fNe (dVar 2) (dC (.int 0))) (dBin fNe (dVar 3) (dC (.str "whole")))) [2, 3])))) (dRet (dC (.bl false))) dNx) (dRet (dUn fAny (dFr (dLc (dIt (dBin fIx (dVar 1) (dC (.int 1)))) (dgN 2) dYes (dBin fNe (dVar 2) (dC (.int 0))) [2]))))))
abbrev N_law_parting_right : List Str := ["_law_kinds_now", "_law_node", "_law_size", "_law_kind"]
theorem sc_law_parting_right : FnScope N_law_parting_right ["_law_kinds_now", "_law_node"] (defScope s_law_parting_right) := ⟨rfl, rfl, rfl, by decide +kernel, rfl, by decide +kernel, by decide +kernel⟩
theorem w_law_parting_right {q_law_integers : DSp} {q_law_integer : DSp} {dsp : DSp} (M : Mods w K mg) (F : Def1 K mg "_law_parting_right" s_law_parting_right) (h_law_integers : HasFn P w K mg base 2 "_law_integers" 2 q_law_integers) (h_law_integer : HasFn P w K mg base 1 "_law_integer" 1 q_law_integer) (sem : ∀ cs Q, cs.length = 2 → dsp cs Q → d_law_parting_right q_law_integers q_law_integer { nx := fun _ => Q .non, rt := Q } (startE N_law_parting_right cs)) : HasFn P w K mg base 3 "_law_parting_right" 2 dsp :=
  has_fn (d := d_law_parting_right q_law_integers q_law_integer) F sc_law_parting_right rfl (fun _ _ _ _ _ _ us hl => match us, hl with | [_, _], _ => rfl) (fun f cdv A outer s H E hr => by exact (sd_cons (sd_if (PW.pt (pwd_or (ptd_cmp op_ne r2_ne (pd_b1 M.n_len call_lenD c1_len boot_len (pd_var 1) (by rfl)) pd_int (by rfl)) (pwd_or (ptd_not (ptd_tru (pd_call (h_law_integers.mono (by decide)) hr (pda (pdl_cons (pd_ix (pd_var 1) pd_int) (pdl_cons (pd_b1 M.n_len call_lenD c1_len boot_len (pd_var 0) (by rfl)) pdl_nil))) (by rfl)))) (pwd_or1 (ptd_not (ptd_tru (pd_call (h_law_integer.mono (by decide)) hr (pda (pdl_cons (pd_ix (pd_var 1) pd_int) pdl_nil)) (by rfl)))))))) (sd_one (sd_ret pd_bl)) sd_nil) (sd_cons (sd_if (ptd_tru (pd_b1 M.n_any (cr_any rfl) c1_any boot_any (pd_fr (pf_lc rfl sc_law_parting_right.nd (pid_z M.n_zip (pd_ix (pd_var 1) pd_int) (pd_var 0) (by rfl)) (blkOk_by (own := [("_law_size", 2), ("_law_kind", 3)]) (by kernel_rfl)) (rg_t (by decide) (by decide)) (fun _ _ _ _ _ => pg_tup rfl (pgs_cons (pg_name sc_law_parting_right.nd rfl (by first | exact Or.inl rfl | exact Or.inr rfl)) (pgs_cons (pg_name sc_law_parting_right.nd rfl (by first | exact Or.inl rfl | exact Or.inr rfl)) pgs_nil))) (fun _ _ _ _ _ => ptsd_nil) (fun _ _ _ _ _ => (pd_andV (pd_cmp op_ne r2_ne (pd_var 2) pd_int (by rfl)) (pd_oneV (pd_cmp op_ne r2_ne (pd_var 3) pd_str (by rfl))))))) (by rfl))) (sd_one (sd_ret pd_bl)) sd_nil) (sd_one (sd_ret (pd_b1 M.n_any (cr_any rfl) c1_any boot_any (pd_fr (pf_lc rfl sc_law_parting_right.nd (pid_t (pd_ix (pd_var 1) pd_int)) (blkOk_by (own := [("_law_size", 2)]) (by kernel_rfl)) (rg_n (by decide)) (fun _ _ _ _ _ => pg_name sc_law_parting_right.nd rfl (by first | exact Or.inl rfl | exact Or.inr rfl)) (fun _ _ _ _ _ => ptsd_nil) (fun _ _ _ _ _ => (pd_cmp op_ne r2_ne (pd_var 2) pd_int (by rfl))))) (by rfl))))))) sem
def d_law_tree_right (q_law_parting_right : DSp) (q_law_end_right : DSp) : DS := (dSeq (dIfS (dNot (dTru (dUn (fIsi "tuple") (dVar 2)))) (dRet (dC (.bl false))) dNx) (dSeq (dAsgO 3 (dLcons (dFr (dListOf (dVar 1))) dLnil)) (dSeq (dFor (dIt (dVar 2)) (dgN 4) (dSeq (dIfS (dOr (dTest (dCmpO fEqD 3 (dFr dLnil))) (dOr (dNot (dTru (dUn (fIsi "tuple") (dVar 4)))) (dOr (dTest (dBin fLt (dUn fLen (dVar 4)) (dC (.int 2)))) (dNot (dTru (dUn (fIsi "str") (dBin fIx (dVar 4) (dC (.int 0))))))))) (dRet (dC (.bl false))) dNx) (dSeq (dPop 3 5) (dIfS (dAnd (dTest (dBin fEq (dBin fIx (dVar 4) (dC (.int 0))) (dC (.str "part")))) (dTru (dCall q_law_parting_right (dA (dLcons (dVar 0) (dLcons (dVar 4) dLnil)))))) (dSeq (dAsg 6 (dUn fTuple (dFr (dLc (dIt (dBin fIx (dVar 4) (dC (.int 1)))) (dgN 7) dYes (dUn fNeg (dVar 7)) [7])))) (dSeq (dAppend 3 (dFr (dCat (dVar 5) (dFr (dLcons (dTup (dLcons (dVar 6) (dLcons (dBin fSub (dUn fNeg (dBin fIx (dVar 4) (dC (.int 2)))) (dC (.int 1))) dLnil))) dLnil))))) (dAppend 3 (dFr (dCat (dVar 5) (dFr (dLcons (dTup (dLcons (dBin fIx (dVar 4) (dC (.int 1))) (dLcons (dBin fIx (dVar 4) (dC (.int 2))) dLnil))) dLnil))))))) (dIfS (dOr (dTest (dBin fNe (dBin fIx (dVar 4) (dC (.int 0))) (dC (.str "end")))) (dOr (dTest (dBin fNe (dUn fLen (dVar 4)) (dC (.int 2)))) (dNot (dTru (dCall q_law_end_right (dA (dLcons (dVar 5) (dLcons (dBin fIx (dVar 4) (dC (.int 1))) (dLcons (dUn fLen (dVar 0)) dLnil))))))))) (dRet (dC (.bl false))) dNx))))) (dFreeze 3 (dRet (dBin fEqD (dVar 3) (dFr dLnil)))))))
abbrev N_law_tree_right : List Str := ["_law_kinds_now", "_law_bounds_now", "_law_nodes", "_law_waiting", "_law_node", "_law_here", "_law_turned_now", "_law_size"]
theorem sc_law_tree_right : FnScope N_law_tree_right ["_law_kinds_now", "_law_bounds_now", "_law_nodes"] (defScope s_law_tree_right) := ⟨rfl, rfl, rfl, by decide +kernel, rfl, by decide +kernel, by decide +kernel⟩
theorem w_law_tree_right {q_law_parting_right : DSp} {q_law_end_right : DSp} {dsp : DSp} (M : Mods w K mg) (F : Def1 K mg "_law_tree_right" s_law_tree_right) (h_law_parting_right : HasFn P w K mg base 3 "_law_parting_right" 2 q_law_parting_right) (h_law_end_right : HasFn P w K mg base 3 "_law_end_right" 3 q_law_end_right) (sem : ∀ cs Q, cs.length = 3 → dsp cs Q → d_law_tree_right q_law_parting_right q_law_end_right { nx := fun _ => Q .non, rt := Q } (startE N_law_tree_right cs)) : HasFn P w K mg base 4 "_law_tree_right" 3 dsp :=
  has_fn (d := d_law_tree_right q_law_parting_right q_law_end_right) F sc_law_tree_right rfl (fun _ _ _ _ _ _ us hl => match us, hl with | [_, _, _], _ => rfl) (fun f cdv A outer s H E hr => by exact (sd_cons (sd_if (ptd_not (ptd_tru (pd_isi M.n_isinstance M.n_tuple boot_tuple (.inr (.inr (.inr rfl))) (pd_var 2) (by rfl) (by rfl)))) (sd_one (sd_ret pd_bl)) sd_nil) (sd_cons (sd_setO (i := 3) sc_law_tree_right.nd (pf_lst (pdl_cons (pd_fr (pf_listOf M.n_list (pd_var 1) (by rfl) boot_list)) pdl_nil))) (sd_cons (sd_for rfl (pid_t (pd_var 2)) (pg_name sc_law_tree_right.nd rfl (by first | exact Or.inl rfl | exact Or.inr rfl)) (rg_n (vs := [4]) (by decide)) (sd_cons (sd_if (PW.pt (pwd_or (ptd_cmpO 3 (op_eqD hr.units) r2_eqD (pd_fr (pf_lst pdl_nil)) (by rfl)) (pwd_or (ptd_not (ptd_tru (pd_isi M.n_isinstance M.n_tuple boot_tuple (.inr (.inr (.inr rfl))) (pd_var 4) (by rfl) (by rfl)))) (pwd_or (ptd_cmp op_lt r2_lt (pd_b1 M.n_len call_lenD c1_len boot_len (pd_var 4) (by rfl)) pd_int (by rfl)) (pwd_or1 (ptd_not (ptd_tru (pd_isi M.n_isinstance M.n_str boot_str (.inr (.inr (.inl rfl))) (pd_ix (pd_var 4) pd_int) (by rfl) (by rfl))))))))) (sd_one (sd_ret pd_bl)) sd_nil) (sd_cons (sd_pop (i := 3) (j := 5) sc_law_tree_right.nd) (sd_one (sd_if (PW.pt (pwd_and (ptd_cmp op_eq r2_eq (pd_ix (pd_var 4) pd_int) pd_str (by rfl)) (pwd_and1 (ptd_tru (pd_call (h_law_parting_right.mono (by decide)) hr (pda (pdl_cons (pd_var 0) (pdl_cons (pd_var 4) pdl_nil))) (by rfl)))))) (sd_cons (sd_set (i := 6) sc_law_tree_right.nd (pd_t1 M.n_tuple call_tuple_of c1_tuple boot_tuple (pd_fr (pf_lc rfl sc_law_tree_right.nd (pid_t (pd_ix (pd_var 4) pd_int)) (blkOk_by (own := [("_law_size", 7)]) (by kernel_rfl)) (rg_n (by decide)) (fun _ _ _ _ _ => pg_name sc_law_tree_right.nd rfl (by first | exact Or.inl rfl | exact Or.inr rfl)) (fun _ _ _ _ _ => ptsd_nil) (fun _ _ _ _ _ => (pd_neg (pd_var 7))))) (by rfl))) (sd_cons (sd_append (i := 3) (ha := (pd_fr (pf_cat (pd_var 5) (pd_fr (pf_lst (pdl_cons (pd_tup (pdl_cons (pd_var 6) (pdl_cons (pd_bin op_sub r2_sub (pd_neg (pd_ix (pd_var 4) pd_int)) pd_int) pdl_nil))) pdl_nil))))))) (sd_one (sd_append (i := 3) (ha := (pd_fr (pf_cat (pd_var 5) (pd_fr (pf_lst (pdl_cons (pd_tup (pdl_cons (pd_ix (pd_var 4) pd_int) (pdl_cons (pd_ix (pd_var 4) pd_int) pdl_nil))) pdl_nil)))))))))) (sd_one (sd_if (PW.pt (pwd_or (ptd_cmp op_ne r2_ne (pd_ix (pd_var 4) pd_int) pd_str (by rfl)) (pwd_or (ptd_cmp op_ne r2_ne (pd_b1 M.n_len call_lenD c1_len boot_len (pd_var 4) (by rfl)) pd_int (by rfl)) (pwd_or1 (ptd_not (ptd_tru (pd_call (h_law_end_right.mono (by decide)) hr (pda (pdl_cons (pd_var 5) (pdl_cons (pd_ix (pd_var 4) pd_int) (pdl_cons (pd_b1 M.n_len call_lenD c1_len boot_len (pd_var 0) (by rfl)) pdl_nil)))) (by rfl)))))))) (sd_one (sd_ret pd_bl)) sd_nil))))))) (sd_freeze 3 (sd_one (sd_ret (pd_cmp (op_eqD hr.units) r2_eqD (pd_var 3) (pd_fr (pf_lst pdl_nil)) (by rfl))))))))) sem
def d_law_fits (q_law_integer : DSp) : DS := (dSeq (dIfS (dOr (dNot (dTru (dUn (fIsi "tuple") (dVar 1)))) (dTest (dBin fNe (dUn fLen (dVar 1)) (dUn fLen (dVar 0))))) (dRet (dC (.bl false))) dNx) (dSeq (dFor (dZip (dVar 0) (dVar 1)) (dgT 2 3) (dSeq (dIfS (dAnd (dTest (dBin fEq (dVar 2) (dC (.str "whole")))) (dNot (dTru (dCall q_law_integer (dA (dLcons (dVar 3) dLnil)))))) (dRet (dC (.bl false))) dNx) (dIfS (dAnd (dTest (dBin fEq (dVar 2) (dC (.str "any")))) dNoT) (dRet (dC (.bl false))) dNx))) (dRet (dC (.bl true)))))
abbrev N_law_fits : List Str := ["_law_kinds_now", "_law_thing", "_law_kind", "_law_part"]
theorem sc_law_fits : FnScope N_law_fits ["_law_kinds_now", "_law_thing"] (defScope s_law_fits) := ⟨rfl, rfl, rfl, by decide +kernel, rfl, by decide +kernel, by decide +kernel⟩
theorem w_law_fits {q_law_integer : DSp} {dsp : DSp} (M : Mods w K mg) (F : Def1 K mg "_law_fits" s_law_fits) (h_law_integer : HasFn P w K mg base 1 "_law_integer" 1 q_law_integer) (sem : ∀ cs Q, cs.length = 2 → dsp cs Q → d_law_fits q_law_integer { nx := fun _ => Q .non, rt := Q } (startE N_law_fits cs)) : HasFn P w K mg base 2 "_law_fits" 2 dsp :=
  has_fn (d := d_law_fits q_law_integer) F sc_law_fits rfl (fun _ _ _ _ _ _ us hl => match us, hl with | [_, _], _ => rfl) (fun f cdv A outer s H E hr => by exact (sd_cons (sd_if (PW.pt (pwd_or (ptd_not (ptd_tru (pd_isi M.n_isinstance M.n_tuple boot_tuple (.inr (.inr (.inr rfl))) (pd_var 1) (by rfl) (by rfl)))) (pwd_or1 (ptd_cmp op_ne r2_ne (pd_b1 M.n_len call_lenD c1_len boot_len (pd_var 1) (by rfl)) (pd_b1 M.n_len call_lenD c1_len boot_len (pd_var 0) (by rfl)) (by rfl))))) (sd_one (sd_ret pd_bl)) sd_nil) (sd_cons (sd_for rfl (pid_z M.n_zip (pd_var 0) (pd_var 1) (by rfl)) (pg_tup rfl (pgs_cons (pg_name sc_law_fits.nd rfl (by first | exact Or.inl rfl | exact Or.inr rfl)) (pgs_cons (pg_name sc_law_fits.nd rfl (by first | exact Or.inl rfl | exact Or.inr rfl)) pgs_nil))) (rg_t (vs := [2, 3]) (by decide) (by decide)) (sd_cons (sd_if (PW.pt (pwd_and (ptd_cmp op_eq r2_eq (pd_var 2) pd_str (by rfl)) (pwd_and1 (ptd_not (ptd_tru (pd_call (h_law_integer.mono (by decide)) hr (pda (pdl_cons (pd_var 3) pdl_nil)) (by rfl))))))) (sd_one (sd_ret pd_bl)) sd_nil) (sd_one (sd_if (PW.pt (pwd_and (ptd_cmp op_eq r2_eq (pd_var 2) pd_str (by rfl)) pwd_no)) (sd_one (sd_ret pd_bl)) sd_nil)))) (sd_one (sd_ret pd_bl))))) sem
def d_law_aim_right (q_law_integers : DSp) : DS := (dRet (dAndV (dCall q_law_integers (dA (dLcons (dVar 1) (dLcons (dUn fLen (dVar 0)) dLnil)))) (dUn fAll (dFr (dLc (dIt (dVar 1)) (dgN 2) dYes (dChain fLe fLe (dUn fNeg (dC (.int 99))) (dVar 2) (dC (.int 99))) [2])))))
abbrev N_law_aim_right : List Str := ["_law_kinds_now", "_law_thing", "_law_size"]
theorem sc_law_aim_right : FnScope N_law_aim_right ["_law_kinds_now", "_law_thing"] (defScope s_law_aim_right) := ⟨rfl, rfl, rfl, by decide +kernel, rfl, by decide +kernel, by decide +kernel⟩
theorem w_law_aim_right {q_law_integers : DSp} {dsp : DSp} (M : Mods w K mg) (F : Def1 K mg "_law_aim_right" s_law_aim_right) (h_law_integers : HasFn P w K mg base 2 "_law_integers" 2 q_law_integers) (sem : ∀ cs Q, cs.length = 2 → dsp cs Q → d_law_aim_right q_law_integers { nx := fun _ => Q .non, rt := Q } (startE N_law_aim_right cs)) : HasFn P w K mg base 3 "_law_aim_right" 2 dsp :=
  has_fn (d := d_law_aim_right q_law_integers) F sc_law_aim_right rfl (fun _ _ _ _ _ _ us hl => match us, hl with | [_, _], _ => rfl) (fun f cdv A outer s H E hr => by exact (sd_one (sd_ret (pd_andV (pd_call (h_law_integers.mono (by decide)) hr (pda (pdl_cons (pd_var 1) (pdl_cons (pd_b1 M.n_len call_lenD c1_len boot_len (pd_var 0) (by rfl)) pdl_nil))) (by rfl)) (pd_oneV (pd_b1 M.n_all (cr_all rfl) c1_all boot_all (pd_fr (pf_lc rfl sc_law_aim_right.nd (pid_t (pd_var 1)) (blkOk_by (own := [("_law_size", 2)]) (by kernel_rfl)) (rg_n (by decide)) (fun _ _ _ _ _ => pg_name sc_law_aim_right.nd rfl (by first | exact Or.inl rfl | exact Or.inr rfl)) (fun _ _ _ _ _ => ptsd_nil) (fun _ _ _ _ _ => (pd_chain op_le r2_le op_le r2_le (pd_neg pd_int) (pd_var 2) pd_int)))) (by rfl))))))) sem
def d_law_best_right (q_law_integer : DSp) (q_law_pair : DSp) (q_law_fits : DSp) (q_law_point_keeps : DSp) (q_law_total : DSp) (q_law_tree_right : DSp) : DS := (dSeq (dIfS (dOr (dNot (dTru (dCall q_law_integer (dA (dLcons (dBin fIx (dVar 1) (dC (.int 3))) dLnil))))) (dOr (dNot (dTru (dCall q_law_pair (dA (dLcons (dVar 2) dLnil))))) (dNot (dTru (dCall q_law_fits (dA (dLcons (dBin fIx (dVar 0) (dC (.int 1))) (dLcons (dBin fIx (dVar 2) (dC (.int 0))) dLnil)))))))) (dRet (dC (.bl false))) dNx) (dSeq (dIfS (dOr (dNot (dTru (dCall q_law_point_keeps (dA (dLcons (dBin fIx (dVar 0) (dC (.int 2))) (dLcons (dBin fIx (dVar 2) (dC (.int 0))) dLnil)))))) (dTest (dBin fNe (dCall q_law_total (dA (dLcons (dBin fIx (dVar 1) (dC (.int 2))) (dLcons (dBin fIx (dVar 2) (dC (.int 0))) dLnil)))) (dBin fIx (dVar 1) (dC (.int 3)))))) (dRet (dC (.bl false))) dNx) (dSeq (dAsg 3 (dTup (dLcons (dUn fTuple (dFr (dLc (dIt (dBin fIx (dVar 1) (dC (.int 2)))) (dgN 4) dYes (dUn fNeg (dVar 4)) [4]))) (dLcons (dBin fSub (dUn fNeg (dBin fIx (dVar 1) (dC (.int 3)))) (dC (.int 1))) dLnil)))) (dRet (dCall q_law_tree_right (dA (dLcons (dBin fIx (dVar 0) (dC (.int 1))) (dLcons (dFr (dCat (dBin fIx (dVar 0) (dC (.int 2))) (dFr (dLcons (dVar 3) dLnil)))) (dLcons (dBin fIx (dVar 2) (dC (.int 1))) dLnil)))))))))
abbrev N_law_best_right : List Str := ["_law_told", "_law_claim_now", "_law_paper", "_law_beyond", "_law_size"]
theorem sc_law_best_right : FnScope N_law_best_right ["_law_told", "_law_claim_now", "_law_paper"] (defScope s_law_best_right) := ⟨rfl, rfl, rfl, by decide +kernel, rfl, by decide +kernel, by decide +kernel⟩
theorem w_law_best_right {q_law_integer : DSp} {q_law_pair : DSp} {q_law_fits : DSp} {q_law_point_keeps : DSp} {q_law_total : DSp} {q_law_tree_right : DSp} {dsp : DSp} (M : Mods w K mg) (F : Def1 K mg "_law_best_right" s_law_best_right) (h_law_integer : HasFn P w K mg base 1 "_law_integer" 1 q_law_integer) (h_law_pair : HasFn P w K mg base 1 "_law_pair" 1 q_law_pair) (h_law_fits : HasFn P w K mg base 2 "_law_fits" 2 q_law_fits) (h_law_point_keeps : HasFn P w K mg base 1 "_law_point_keeps" 2 q_law_point_keeps) (h_law_total : HasFn P w K mg base 1 "_law_total" 2 q_law_total) (h_law_tree_right : HasFn P w K mg base 4 "_law_tree_right" 3 q_law_tree_right) (sem : ∀ cs Q, cs.length = 3 → dsp cs Q → d_law_best_right q_law_integer q_law_pair q_law_fits q_law_point_keeps q_law_total q_law_tree_right { nx := fun _ => Q .non, rt := Q } (startE N_law_best_right cs)) : HasFn P w K mg base 5 "_law_best_right" 3 dsp :=
  has_fn (d := d_law_best_right q_law_integer q_law_pair q_law_fits q_law_point_keeps q_law_total q_law_tree_right) F sc_law_best_right rfl (fun _ _ _ _ _ _ us hl => match us, hl with | [_, _, _], _ => rfl) (fun f cdv A outer s H E hr => by exact (sd_cons (sd_if (PW.pt (pwd_or (ptd_not (ptd_tru (pd_call (h_law_integer.mono (by decide)) hr (pda (pdl_cons (pd_ix (pd_var 1) pd_int) pdl_nil)) (by rfl)))) (pwd_or (ptd_not (ptd_tru (pd_call (h_law_pair.mono (by decide)) hr (pda (pdl_cons (pd_var 2) pdl_nil)) (by rfl)))) (pwd_or1 (ptd_not (ptd_tru (pd_call (h_law_fits.mono (by decide)) hr (pda (pdl_cons (pd_ix (pd_var 0) pd_int) (pdl_cons (pd_ix (pd_var 2) pd_int) pdl_nil))) (by rfl)))))))) (sd_one (sd_ret pd_bl)) sd_nil) (sd_cons (sd_if (PW.pt (pwd_or (ptd_not (ptd_tru (pd_call (h_law_point_keeps.mono (by decide)) hr (pda (pdl_cons (pd_ix (pd_var 0) pd_int) (pdl_cons (pd_ix (pd_var 2) pd_int) pdl_nil))) (by rfl)))) (pwd_or1 (ptd_cmp op_ne r2_ne (pd_call (h_law_total.mono (by decide)) hr (pda (pdl_cons (pd_ix (pd_var 1) pd_int) (pdl_cons (pd_ix (pd_var 2) pd_int) pdl_nil))) (by rfl)) (pd_ix (pd_var 1) pd_int) (by rfl))))) (sd_one (sd_ret pd_bl)) sd_nil) (sd_cons (sd_set (i := 3) sc_law_best_right.nd (pd_tup (pdl_cons (pd_t1 M.n_tuple call_tuple_of c1_tuple boot_tuple (pd_fr (pf_lc rfl sc_law_best_right.nd (pid_t (pd_ix (pd_var 1) pd_int)) (blkOk_by (own := [("_law_size", 4)]) (by kernel_rfl)) (rg_n (by decide)) (fun _ _ _ _ _ => pg_name sc_law_best_right.nd rfl (by first | exact Or.inl rfl | exact Or.inr rfl)) (fun _ _ _ _ _ => ptsd_nil) (fun _ _ _ _ _ => (pd_neg (pd_var 4))))) (by rfl)) (pdl_cons (pd_bin op_sub r2_sub (pd_neg (pd_ix (pd_var 1) pd_int)) pd_int) pdl_nil)))) (sd_one (sd_ret (pd_call (h_law_tree_right.mono (by decide)) hr (pda (pdl_cons (pd_ix (pd_var 0) pd_int) (pdl_cons (pd_fr (pf_cat (pd_ix (pd_var 0) pd_int) (pd_fr (pf_lst (pdl_cons (pd_var 3) pdl_nil))))) (pdl_cons (pd_ix (pd_var 2) pd_int) pdl_nil)))) (by rfl)))))))) sem
def d_law_judged (q_accepts : DSp) : DS := (dSeq (dAsg 3 (dCall q_accepts (dA (dLcons (dVar 0) (dLcons (dVar 1) dLnil))))) (dRet (dIf (dTru (dVar 2)) (dBin fIsB (dVar 3) (dC (.bl true))) (dBin fIsB (dVar 3) (dC (.bl false))))))
abbrev N_law_judged : List Str := ["_law_claim_now", "_law_paper", "_law_is_right", "_law_told"]
theorem sc_law_judged : FnScope N_law_judged ["_law_claim_now", "_law_paper", "_law_is_right"] (defScope s_law_judged) := ⟨rfl, rfl, rfl, by decide +kernel, rfl, by decide +kernel, by decide +kernel⟩
theorem w_law_judged {q_accepts : DSp} {dsp : DSp} (M : Mods w K mg) (F : Def1 K mg "_law_judged" s_law_judged) (h_accepts : HasFn P w K mg base 11 "accepts" 2 q_accepts) (sem : ∀ cs Q, cs.length = 3 → dsp cs Q → d_law_judged q_accepts { nx := fun _ => Q .non, rt := Q } (startE N_law_judged cs)) : HasFn P w K mg base 12 "_law_judged" 3 dsp :=
  has_fn (d := d_law_judged q_accepts) F sc_law_judged rfl (fun _ _ _ _ _ _ us hl => match us, hl with | [_, _, _], _ => rfl) (fun f cdv A outer s H E hr => by exact (sd_cons (sd_set (i := 3) sc_law_judged.nd (pd_call (h_accepts.mono (by decide)) hr (pda (pdl_cons (pd_var 0) (pdl_cons (pd_var 1) pdl_nil))) (by rfl))) (sd_one (sd_ret (pd_if (ptd_tru (pd_var 2)) (pd_cmp op_isBl r2_isB (pd_var 3) pd_bl (by rfl)) (pd_cmp op_isBl r2_isB (pd_var 3) pd_bl (by rfl))))))) sem
def d_law_entry (q_law_draw : DSp) (q_law_sum_text : DSp) : DS := (dSeq (dAsgO 3 (dLcons (dBin fJoin (dS (dC (.str ", "))) (dFr (dLc (dZip (dC (.str "xy")) (dVar 1)) (dgT 6 7) dYes (dBin fAdd (dBin fAdd (dVar 6) (dC (.str " "))) (dVar 7)) [6, 7]))) dLnil)) (dSeq (dFor (dIl (dVar 2)) (dgT 4 5) (dIfS (dTest (dBin fEq (dCall q_law_draw (dAS 0 (dLcons (dC (.int 2)) dLnil))) (dC (.int 0)))) (dAppend 3 (dBin fAdd (dBin fAdd (dCall q_law_sum_text (dA (dLcons (dVar 4) dLnil))) (dC (.str " <= "))) (dUn fStrI (dVar 5)))) (dAppend 3 (dBin fAdd (dBin fAdd (dCall q_law_sum_text (dA (dLcons (dFr (dLc (dIt (dVar 4)) (dgN 8) dYes (dUn fNeg (dVar 8)) [8])) dLnil))) (dC (.str " >= "))) (dUn fStrI (dUn fNeg (dVar 5))))))) (dFreeze 3 (dRet (dFr (dLcons (dBin fJoin (dS (dC (.str "\n"))) (dVar 3)) (dLcons (dVar 1) (dLcons (dFr (dListOf (dVar 2))) dLnil))))))))
abbrev N_law_entry : List Str := ["_law_spring_here", "_law_kinds_now", "_law_bounds_now", "_law_found", "_law_weights_now", "_law_c", "_law_sign", "_law_kind", "_law_size"]
theorem sc_law_entry : FnScope N_law_entry ["_law_spring_here", "_law_kinds_now", "_law_bounds_now"] (defScope s_law_entry) := ⟨rfl, rfl, rfl, by decide +kernel, rfl, by decide +kernel, by decide +kernel⟩
theorem w_law_entry {q_law_draw : DSp} {q_law_sum_text : DSp} {dsp : DSp} (M : Mods w K mg) (F : Def1 K mg "_law_entry" s_law_entry) (h_law_draw : HasFn P w K mg base 1 "_law_draw" 2 q_law_draw) (h_law_sum_text : HasFn P w K mg base 2 "_law_sum_text" 1 q_law_sum_text) (sem : ∀ cs Q, cs.length = 3 → dsp cs Q → d_law_entry q_law_draw q_law_sum_text { nx := fun _ => Q .non, rt := Q } (startE N_law_entry cs)) : HasFn P w K mg base 3 "_law_entry" 3 dsp :=
  has_fn (d := d_law_entry q_law_draw q_law_sum_text) F sc_law_entry rfl (fun _ _ _ _ _ _ us hl => match us, hl with | [_, _, _], _ => rfl) (fun f cdv A outer s H E hr => by exact (sd_cons (sd_setO (i := 3) sc_law_entry.nd (pf_lst (pdl_cons (pd_join pd_str (pd_fr (pf_lc rfl sc_law_entry.nd (pid_z M.n_zip pd_str (pd_var 1) (by rfl)) (blkOk_by (own := [("_law_sign", 6), ("_law_kind", 7)]) (by kernel_rfl)) (rg_t (by decide) (by decide)) (fun _ _ _ _ _ => pg_tup rfl (pgs_cons (pg_name sc_law_entry.nd rfl (by first | exact Or.inl rfl | exact Or.inr rfl)) (pgs_cons (pg_name sc_law_entry.nd rfl (by first | exact Or.inl rfl | exact Or.inr rfl)) pgs_nil))) (fun _ _ _ _ _ => ptsd_nil) (fun _ _ _ _ _ => (pd_bin op_add3 r2_add (pd_bin op_add3 r2_add (pd_var 6) pd_str) (pd_var 7)))))) pdl_nil))) (sd_cons (sd_for rfl (pid_l (pd_var 2)) (pg_tup rfl (pgs_cons (pg_name sc_law_entry.nd rfl (by first | exact Or.inl rfl | exact Or.inr rfl)) (pgs_cons (pg_name sc_law_entry.nd rfl (by first | exact Or.inl rfl | exact Or.inr rfl)) pgs_nil))) (rg_t (vs := [4, 5]) (by decide) (by decide)) (sd_one (sd_if (ptd_cmp op_eq r2_eq (pd_call (h_law_draw.mono (by decide)) hr (pda_spr 0 (pdl_cons pd_int pdl_nil)) (by rfl)) pd_int (by rfl)) (sd_one (sd_append (i := 3) (ha := (pd_bin op_add3 r2_add (pd_bin op_add3 r2_add (pd_call (h_law_sum_text.mono (by decide)) hr (pda (pdl_cons (pd_var 4) pdl_nil)) (by rfl)) pd_str) (pd_t1 M.n_str call_str_int c1_str boot_str (pd_var 5) (by rfl)))))) (sd_one (sd_append (i := 3) (ha := (pd_bin op_add3 r2_add (pd_bin op_add3 r2_add (pd_call (h_law_sum_text.mono (by decide)) hr (pda (pdl_cons (pd_fr (pf_lc rfl sc_law_entry.nd (pid_t (pd_var 4)) (blkOk_by (own := [("_law_size", 8)]) (by kernel_rfl)) (rg_n (by decide)) (fun _ _ _ _ _ => pg_name sc_law_entry.nd rfl (by first | exact Or.inl rfl | exact Or.inr rfl)) (fun _ _ _ _ _ => ptsd_nil) (fun _ _ _ _ _ => (pd_neg (pd_var 8))))) pdl_nil)) (by rfl)) pd_str) (pd_t1 M.n_str call_str_int c1_str boot_str (pd_neg (pd_var 5)) (by rfl))))))))) (sd_freeze 3 (sd_one (sd_ret (pd_fr (pf_lst (pdl_cons (pd_join pd_str (pd_var 3)) (pdl_cons (pd_var 1) (pdl_cons (pd_fr (pf_listOf M.n_list (pd_var 2) (by rfl) boot_list)) pdl_nil))))))))))) sem
def d_law_lifted : DS := (dSeq (dAsgO 2 dLnil) (dSeq (dFor (dIt (dVar 0)) (dgN 3) (dSeq (dAsg 4 (dTup (dLcons (dC (.str "end")) (dLcons (dBin fAdd (dBin fAdd (dSl (dBin fIx (dVar 3) (dC (.int 1))) dNo (dPart (dVar 1))) (dTup (dLcons (dC (.int 0)) dLnil))) (dSl (dBin fIx (dVar 3) (dC (.int 1))) (dPart (dVar 1)) dNo)) dLnil)))) (dAppend 2 (dIf (dTest (dBin fEq (dBin fIx (dVar 3) (dC (.int 0))) (dC (.str "end")))) (dVar 4) (dVar 3))))) (dFreeze 2 (dRet (dUn fTuple (dVar 2))))))
abbrev N_law_lifted : List Str := ["_law_nodes", "_law_many", "_law_found", "_law_node", "_law_later"]
theorem sc_law_lifted : FnScope N_law_lifted ["_law_nodes", "_law_many"] (defScope s_law_lifted) := ⟨rfl, rfl, rfl, by decide +kernel, rfl, by decide +kernel, by decide +kernel⟩
theorem w_law_lifted  {dsp : DSp} (M : Mods w K mg) (F : Def1 K mg "_law_lifted" s_law_lifted)  (sem : ∀ cs Q, cs.length = 2 → dsp cs Q → d_law_lifted { nx := fun _ => Q .non, rt := Q } (startE N_law_lifted cs)) : HasFn P w K mg base 1 "_law_lifted" 2 dsp :=
  has_fn (d := d_law_lifted) F sc_law_lifted rfl (fun _ _ _ _ _ _ us hl => match us, hl with | [_, _], _ => rfl) (fun f cdv A outer s H E hr => by exact (sd_cons (sd_setO (i := 2) sc_law_lifted.nd (pf_lst pdl_nil)) (sd_cons (sd_for rfl (pid_t (pd_var 0)) (pg_name sc_law_lifted.nd rfl (by first | exact Or.inl rfl | exact Or.inr rfl)) (rg_n (vs := [3]) (by decide)) (sd_cons (sd_set (i := 4) sc_law_lifted.nd (pd_tup (pdl_cons pd_str (pdl_cons (pd_bin op_add3 r2_add (pd_bin op_add3 r2_add (pd_sl (pd_ix (pd_var 3) pd_int) pod_no (pod_some (pd_var 1))) (pd_tup (pdl_cons pd_int pdl_nil))) (pd_sl (pd_ix (pd_var 3) pd_int) (pod_some (pd_var 1)) pod_no)) pdl_nil)))) (sd_one (sd_append (i := 2) (ha := (pd_if (ptd_cmp op_eq r2_eq (pd_ix (pd_var 3) pd_int) pd_str (by rfl)) (pd_var 4) (pd_var 3))))))) (sd_freeze 2 (sd_one (sd_ret (pd_t1 M.n_tuple call_tuple_of c1_tuple boot_tuple (pd_var 2) (by rfl)))))))) sem
def d_law_wrapped (q_law_of : DSp) (q_law_draw : DSp) (q_law_lifted : DSp) : DS := (dSeq (dAsgO 4 dLnil) (dSeq (dFor (dIt (dVar 2)) (dgN 5) (dSeq (dAsg 8 (dCall q_law_of (dAS 0 (dLcons (dFr (dLcons (dC (.int 1)) (dLcons (dC (.int 1)) (dLcons (dC (.int 2)) (dLcons (dC (.int 7)) (dLcons (dBin fPow (dC (.int 10)) (dC (.int 30))) dLnil)))))) dLnil)))) (dSeq (dAsg 9 (dTup (dLcons (dC (.str "end")) (dLcons (dUn fTuple (dFr (dLc (dIt (dBin fIx (dVar 5) (dC (.int 1)))) (dgN 13) dYes (dBin fMul (dVar 8) (dVar 13)) [13]))) dLnil)))) (dAppend 4 (dIf (dTest (dBin fEq (dBin fIx (dVar 5) (dC (.int 0))) (dC (.str "end")))) (dVar 9) (dVar 5)))))) (dFreeze 4 (dSeq (dAsg 6 (dUn fTuple (dVar 4))) (dSeq (dFor (dIr (dCall q_law_draw (dAS 0 (dLcons (dC (.int 3)) dLnil)))) (dgN 7) (dSeq (dAsg 10 (dFr (dLcons (dC (.int 0)) (dLcons (dC (.int 1)) (dLcons (dUn fNeg (dC (.int 1))) (dLcons (dC (.int 3)) (dLcons (dUn fNeg (dC (.int 7))) (dLcons (dBin fPow (dC (.int 10)) (dC (.int 38))) dLnil)))))))) (dSeq (dAsg 11 (dFr (dLc (dIl (dVar 1)) (dgN 14) dYes (dBin fMul (dCall q_law_of (dAS 0 (dLcons (dVar 10) dLnil))) (dUn fIntI (dBin fEq (dVar 14) (dC (.str "whole"))))) [14]))) (dIfS (dTest (dBin fNeD (dVar 11) (dFr (dRep (dLcons (dC (.int 0)) dLnil) (dUn fLen (dVar 1)))))) (dSeq (dAsg 12 (dCall q_law_lifted (dA (dLcons (dCall q_law_of (dAS 0 (dLcons (dFr (dLcons (dVar 2) (dLcons (dVar 6) dLnil))) dLnil))) (dLcons (dVar 3) dLnil))))) (dSeq (dAsg 13 (dCall q_law_of (dAS 0 (dLcons (dFr (dLcons (dC (.int 0)) (dLcons (dUn fNeg (dC (.int 1))) (dLcons (dC (.int 5)) (dLcons (dUn fNeg (dBin fPow (dC (.int 10)) (dC (.int 39)))) (dLcons (dBin fPow (dC (.int 10)) (dC (.int 39))) (dLcons (dBin fSub (dCall q_law_draw (dAS 0 (dLcons (dC (.int 2001)) dLnil))) (dC (.int 1000))) dLnil))))))) dLnil)))) (dAsg 6 (dBin fAdd (dBin fAdd (dTup (dLcons (dTup (dLcons (dC (.str "part")) (dLcons (dUn fTuple (dVar 11)) (dLcons (dVar 13) dLnil)))) dLnil)) (dVar 12)) (dCall q_law_lifted (dA (dLcons (dVar 6) (dLcons (dVar 3) dLnil)))))))) dNx)))) (dRet (dVar 6)))))))
abbrev N_law_wrapped : List Str := ["_law_spring_here", "_law_kinds_now", "_law_nodes", "_law_many", "_law_some", "_law_node", "_law_found", "_law_turn", "_law_factor", "_law_later", "_law_menu", "_law_weights_now", "_law_left", "_law_size", "_law_kind"]
theorem sc_law_wrapped : FnScope N_law_wrapped ["_law_spring_here", "_law_kinds_now", "_law_nodes", "_law_many"] (defScope s_law_wrapped) := ⟨rfl, rfl, rfl, by decide +kernel, rfl, by decide +kernel, by decide +kernel⟩
theorem w_law_wrapped {q_law_of : DSp} {q_law_draw : DSp} {q_law_lifted : DSp} {dsp : DSp} (M : Mods w K mg) (F : Def1 K mg "_law_wrapped" s_law_wrapped) (h_law_of : HasFn P w K mg base 2 "_law_of" 2 q_law_of) (h_law_draw : HasFn P w K mg base 1 "_law_draw" 2 q_law_draw) (h_law_lifted : HasFn P w K mg base 1 "_law_lifted" 2 q_law_lifted) (sem : ∀ cs Q, cs.length = 4 → dsp cs Q → d_law_wrapped q_law_of q_law_draw q_law_lifted { nx := fun _ => Q .non, rt := Q } (startE N_law_wrapped cs)) : HasFn P w K mg base 3 "_law_wrapped" 4 dsp :=
  has_fn (d := d_law_wrapped q_law_of q_law_draw q_law_lifted) F sc_law_wrapped rfl (fun _ _ _ _ _ _ us hl => match us, hl with | [_, _, _, _], _ => rfl) (fun f cdv A outer s H E hr => by exact (sd_cons (sd_setO (i := 4) sc_law_wrapped.nd (pf_lst pdl_nil)) (sd_cons (sd_for rfl (pid_t (pd_var 2)) (pg_name sc_law_wrapped.nd rfl (by first | exact Or.inl rfl | exact Or.inr rfl)) (rg_n (vs := [5]) (by decide)) (sd_cons (sd_set (i := 8) sc_law_wrapped.nd (pd_call (h_law_of.mono (by decide)) hr (pda_spr 0 (pdl_cons (pd_fr (pf_lst (pdl_cons pd_int (pdl_cons pd_int (pdl_cons pd_int (pdl_cons pd_int (pdl_cons (pd_bin op_pow r2_pow pd_int pd_int) pdl_nil))))))) pdl_nil)) (by rfl))) (sd_cons (sd_set (i := 9) sc_law_wrapped.nd (pd_tup (pdl_cons pd_str (pdl_cons (pd_t1 M.n_tuple call_tuple_of c1_tuple boot_tuple (pd_fr (pf_lc rfl sc_law_wrapped.nd (pid_t (pd_ix (pd_var 5) pd_int)) (blkOk_by (own := [("_law_size", 13)]) (by kernel_rfl)) (rg_n (by decide)) (fun _ _ _ _ _ => pg_name sc_law_wrapped.nd rfl (by first | exact Or.inl rfl | exact Or.inr rfl)) (fun _ _ _ _ _ => ptsd_nil) (fun _ _ _ _ _ => (pd_bin op_mulB r2_mul (pd_var 8) (pd_var 13))))) (by rfl)) pdl_nil)))) (sd_one (sd_append (i := 4) (ha := (pd_if (ptd_cmp op_eq r2_eq (pd_ix (pd_var 5) pd_int) pd_str (by rfl)) (pd_var 9) (pd_var 5)))))))) (sd_freeze 4 (sd_cons (sd_set (i := 6) sc_law_wrapped.nd (pd_t1 M.n_tuple call_tuple_of c1_tuple boot_tuple (pd_var 4) (by rfl))) (sd_cons (sd_for rfl (pid_r M.n_range (pd_call (h_law_draw.mono (by decide)) hr (pda_spr 0 (pdl_cons pd_int pdl_nil)) (by rfl)) (by rfl)) (pg_name sc_law_wrapped.nd rfl (by first | exact Or.inl rfl | exact Or.inr rfl)) (rg_n (vs := [7]) (by decide)) (sd_cons (sd_set (i := 10) sc_law_wrapped.nd (pd_fr (pf_lst (pdl_cons pd_int (pdl_cons pd_int (pdl_cons (pd_neg pd_int) (pdl_cons pd_int (pdl_cons (pd_neg pd_int) (pdl_cons (pd_bin op_pow r2_pow pd_int pd_int) pdl_nil))))))))) (sd_cons (sd_setLc (i := 11) rfl sc_law_wrapped.nd (pid_l (pd_var 1)) (blkOk_by (own := [("_law_kind", 14)]) (by kernel_rfl)) (rg_n (by decide)) (fun _ _ _ _ _ => pg_name sc_law_wrapped.nd rfl (by first | exact Or.inl rfl | exact Or.inr rfl)) (fun _ _ _ _ _ => ptsd_nil) (fun _ _ _ _ _ => (pd_bin op_mulB r2_mul (pd_call (h_law_of.mono (by decide)) hr (pda_spr 0 (pdl_cons (pd_var 10) pdl_nil)) (by rfl)) (pd_t1 M.n_int call_intD c1_int boot_int (pd_cmp op_eq r2_eq (pd_var 14) pd_str (by rfl)) (by rfl))))) (sd_one (sd_if (ptd_cmp (op_neD hr.units) r2_neD (pd_var 11) (pd_fr (pf_rep (pf_lst (pdl_cons pd_int pdl_nil)) (pd_b1 M.n_len call_lenD c1_len boot_len (pd_var 1) (by rfl)))) (by rfl)) (sd_cons (sd_set (i := 12) sc_law_wrapped.nd (pd_call (h_law_lifted.mono (by decide)) hr (pda (pdl_cons (pd_call (h_law_of.mono (by decide)) hr (pda_spr 0 (pdl_cons (pd_fr (pf_lst (pdl_cons (pd_var 2) (pdl_cons (pd_var 6) pdl_nil)))) pdl_nil)) (by rfl)) (pdl_cons (pd_var 3) pdl_nil))) (by rfl))) (sd_cons (sd_set (i := 13) sc_law_wrapped.nd (pd_call (h_law_of.mono (by decide)) hr (pda_spr 0 (pdl_cons (pd_fr (pf_lst (pdl_cons pd_int (pdl_cons (pd_neg pd_int) (pdl_cons pd_int (pdl_cons (pd_neg (pd_bin op_pow r2_pow pd_int pd_int)) (pdl_cons (pd_bin op_pow r2_pow pd_int pd_int) (pdl_cons (pd_bin op_sub r2_sub (pd_call (h_law_draw.mono (by decide)) hr (pda_spr 0 (pdl_cons pd_int pdl_nil)) (by rfl)) pd_int) pdl_nil)))))))) pdl_nil)) (by rfl))) (sd_one (sd_set (i := 6) sc_law_wrapped.nd (pd_bin op_add3 r2_add (pd_bin op_add3 r2_add (pd_tup (pdl_cons (pd_tup (pdl_cons pd_str (pdl_cons (pd_t1 M.n_tuple call_tuple_of c1_tuple boot_tuple (pd_var 11) (by rfl)) (pdl_cons (pd_var 13) pdl_nil)))) pdl_nil)) (pd_var 12)) (pd_call (h_law_lifted.mono (by decide)) hr (pda (pdl_cons (pd_var 6) (pdl_cons (pd_var 3) pdl_nil))) (by rfl))))))) sd_nil))))) (sd_one (sd_ret (pd_var 6))))))))) sem
def d_law_put : DS := (dRet (dBin fAdd (dBin fAdd (dSl (dVar 0) dNo (dPart (dVar 1))) (dTup (dLcons (dVar 2) dLnil))) (dSl (dVar 0) (dPart (dBin fAdd (dVar 1) (dC (.int 1)))) dNo)))
abbrev N_law_put : List Str := ["_law_parts_now", "_law_at", "_law_thing"]
theorem sc_law_put : FnScope N_law_put ["_law_parts_now", "_law_at", "_law_thing"] (defScope s_law_put) := ⟨rfl, rfl, rfl, by decide +kernel, rfl, by decide +kernel, by decide +kernel⟩
theorem w_law_put  {dsp : DSp} (M : Mods w K mg) (F : Def1 K mg "_law_put" s_law_put)  (sem : ∀ cs Q, cs.length = 3 → dsp cs Q → d_law_put { nx := fun _ => Q .non, rt := Q } (startE N_law_put cs)) : HasFn P w K mg base 1 "_law_put" 3 dsp :=
  has_fn (d := d_law_put) F sc_law_put rfl (fun _ _ _ _ _ _ us hl => match us, hl with | [_, _, _], _ => rfl) (fun f cdv A outer s H E hr => by exact (sd_one (sd_ret (pd_bin op_add3 r2_add (pd_bin op_add3 r2_add (pd_sl (pd_var 0) pod_no (pod_some (pd_var 1))) (pd_tup (pdl_cons (pd_var 2) pdl_nil))) (pd_sl (pd_var 0) (pod_some (pd_bin op_add3 r2_add (pd_var 1) pd_int)) pod_no))))) sem
def d_law_bent_node (q_law_draw : DSp) (q_law_of : DSp) (q_law_put : DSp) : DS := (dSeq (dPar 4 5 (dCall q_law_draw (dAS 0 (dLcons (dC (.int 8)) dLnil))) (dBin fIx (dVar 1) (dC (.int 1)))) (dSeq (dAsg 2 (dCall q_law_draw (dAS 0 (dLcons (dUn fLen (dVar 5)) dLnil)))) (dSeq (dPar 6 7 (dBin fIx (dVar 5) (dVar 2)) (dBin fIx (dVar 1) (dUn fNeg (dC (.int 1))))) (dSeq (dIfS (dTest (dBin fEq (dVar 4) (dC (.int 0)))) (dRet (dBin fAdd (dTup (dLcons (dCall q_law_of (dAS 0 (dLcons (dFr (dLcons (dC (.str "part")) (dLcons (dC (.str "end")) (dLcons (dC (.str "Part")) (dLcons (dC (.str "")) (dLcons (dC .non) (dLcons (dC (.int 0)) (dLcons (dTup (dLcons (dC (.str "end")) dLnil)) dLnil)))))))) dLnil))) dLnil)) (dSl (dVar 1) (dPart (dC (.int 1))) dNo))) dNx) (dSeq (dIfS (dTest (dBin fEq (dVar 4) (dC (.int 1)))) (dRet (dCall q_law_of (dAS 0 (dLcons (dFr (dLcons (dFr (dListOf (dVar 1))) (dLcons (dBin fAdd (dVar 1) (dTup (dLcons (dC (.int 0)) dLnil))) (dLcons (dBin fAdd (dVar 1) (dTup (dLcons (dTup dLnil) dLnil))) (dLcons (dSl (dVar 1) dNo (dPart (dUn fNeg (dC (.int 1))))) dLnil))))) dLnil)))) dNx) (dSeq (dIfS (dAnd (dTest (dBin fEq (dVar 4) (dC (.int 2)))) (dTest (dBin fEq (dUn fLen (dVar 1)) (dC (.int 3))))) (dRet (dBin fAdd (dSl (dVar 1) dNo (dPart (dC (.int 2)))) (dTup (dLcons (dCall q_law_of (dAS 0 (dLcons (dFr (dLcons (dBin fAdd (dVar 7) (dC (.int 1))) (dLcons (dBin fSub (dVar 7) (dC (.int 1))) (dLcons (dUn fNeg (dVar 7)) (dLcons (dC .non) (dLcons (dC (.bl true)) (dLcons (dUn fStrI (dVar 7)) (dLcons (dTup (dLcons (dVar 7) dLnil)) dLnil)))))))) dLnil))) dLnil)))) dNx) (dSeq (dIfS (dTest (dBin fEq (dVar 4) (dC (.int 3)))) (dSeq (dAsg 3 (dFr (dLcons (dFr (dListOf (dVar 5))) (dLcons (dBin fAdd (dVar 5) (dTup (dLcons (dC (.int 0)) dLnil))) (dLcons (dSl (dVar 5) dNo (dPart (dUn fNeg (dC (.int 1))))) (dLcons (dUn fRev (dVar 5)) (dLcons (dUn fTuple (dFr (dLc (dIt (dVar 5)) (dgN 8) dYes (dC (.int 0)) [8]))) dLnil))))))) (dRet (dBin fAdd (dTup (dLcons (dBin fIx (dVar 1) (dC (.int 0))) (dLcons (dCall q_law_of (dAS 0 (dLcons (dVar 3) dLnil))) dLnil))) (dSl (dVar 1) (dPart (dC (.int 2))) dNo)))) dNx) (dSeq (dAsg 3 (dFr (dLcons (dBin fAdd (dVar 6) (dC (.int 1))) (dLcons (dBin fSub (dVar 6) (dC (.int 1))) (dLcons (dUn fNeg (dVar 6)) (dLcons (dC (.int 0)) (dLcons (dC (.int 1)) (dLcons (dBin fMul (dC (.int 2)) (dVar 6)) (dLcons (dC .non) (dLcons (dC (.bl true)) (dLcons (dC (.bl false)) (dLcons (dTup (dLcons (dVar 6) dLnil)) (dLcons (dBin fPow (dC (.int 10)) (dC (.int 39))) dLnil))))))))))))) (dRet (dBin fAdd (dTup (dLcons (dBin fIx (dVar 1) (dC (.int 0))) (dLcons (dCall q_law_put (dA (dLcons (dVar 5) (dLcons (dVar 2) (dLcons (dCall q_law_of (dAS 0 (dLcons (dVar 3) dLnil))) dLnil))))) dLnil))) (dSl (dVar 1) (dPart (dC (.int 2))) dNo)))))))))))
abbrev N_law_bent_node : List Str := ["_law_spring_here", "_law_node", "_law_place", "_law_some", "_law_way_now", "_law_numbers", "_law_size", "_law_k", "_law_each"]
theorem sc_law_bent_node : FnScope N_law_bent_node ["_law_spring_here", "_law_node"] (defScope s_law_bent_node) := ⟨rfl, rfl, rfl, by decide +kernel, rfl, by decide +kernel, by decide +kernel⟩
theorem w_law_bent_node {q_law_draw : DSp} {q_law_of : DSp} {q_law_put : DSp} {dsp : DSp} (M : Mods w K mg) (F : Def1 K mg "_law_bent_node" s_law_bent_node) (h_law_draw : HasFn P w K mg base 1 "_law_draw" 2 q_law_draw) (h_law_of : HasFn P w K mg base 2 "_law_of" 2 q_law_of) (h_law_put : HasFn P w K mg base 1 "_law_put" 3 q_law_put) (sem : ∀ cs Q, cs.length = 2 → dsp cs Q → d_law_bent_node q_law_draw q_law_of q_law_put { nx := fun _ => Q .non, rt := Q } (startE N_law_bent_node cs)) : HasFn P w K mg base 3 "_law_bent_node" 2 dsp :=
  has_fn (d := d_law_bent_node q_law_draw q_law_of q_law_put) F sc_law_bent_node rfl (fun _ _ _ _ _ _ us hl => match us, hl with | [_, _], _ => rfl) (fun f cdv A outer s H E hr => by exact (sd_cons (sd_par (i := 4) (j := 5) rfl sc_law_bent_node.nd (pdl_cons (pd_call (h_law_draw.mono (by decide)) hr (pda_spr 0 (pdl_cons pd_int pdl_nil)) (by rfl)) (pdl_cons (pd_ix (pd_var 1) pd_int) pdl_nil))) (sd_cons (sd_set (i := 2) sc_law_bent_node.nd (pd_call (h_law_draw.mono (by decide)) hr (pda_spr 0 (pdl_cons (pd_b1 M.n_len call_lenD c1_len boot_len (pd_var 5) (by rfl)) pdl_nil)) (by rfl))) (sd_cons (sd_par (i := 6) (j := 7) rfl sc_law_bent_node.nd (pdl_cons (pd_ix (pd_var 5) (pd_var 2)) (pdl_cons (pd_ix (pd_var 1) (pd_neg pd_int)) pdl_nil))) (sd_cons (sd_if (ptd_cmp op_eq r2_eq (pd_var 4) pd_int (by rfl)) (sd_one (sd_ret (pd_bin op_add3 r2_add (pd_tup (pdl_cons (pd_call (h_law_of.mono (by decide)) hr (pda_spr 0 (pdl_cons (pd_fr (pf_lst (pdl_cons pd_str (pdl_cons pd_str (pdl_cons pd_str (pdl_cons pd_str (pdl_cons pd_non (pdl_cons pd_int (pdl_cons (pd_tup (pdl_cons pd_str pdl_nil)) pdl_nil))))))))) pdl_nil)) (by rfl)) pdl_nil)) (pd_sl (pd_var 1) (pod_some pd_int) pod_no)))) sd_nil) (sd_cons (sd_if (ptd_cmp op_eq r2_eq (pd_var 4) pd_int (by rfl)) (sd_one (sd_ret (pd_call (h_law_of.mono (by decide)) hr (pda_spr 0 (pdl_cons (pd_fr (pf_lst (pdl_cons (pd_fr (pf_listOf M.n_list (pd_var 1) (by rfl) boot_list)) (pdl_cons (pd_bin op_add3 r2_add (pd_var 1) (pd_tup (pdl_cons pd_int pdl_nil))) (pdl_cons (pd_bin op_add3 r2_add (pd_var 1) (pd_tup (pdl_cons (pd_tup pdl_nil) pdl_nil))) (pdl_cons (pd_sl (pd_var 1) pod_no (pod_some (pd_neg pd_int))) pdl_nil)))))) pdl_nil)) (by rfl)))) sd_nil) (sd_cons (sd_if (PW.pt (pwd_and (ptd_cmp op_eq r2_eq (pd_var 4) pd_int (by rfl)) (pwd_and1 (ptd_cmp op_eq r2_eq (pd_b1 M.n_len call_lenD c1_len boot_len (pd_var 1) (by rfl)) pd_int (by rfl))))) (sd_one (sd_ret (pd_bin op_add3 r2_add (pd_sl (pd_var 1) pod_no (pod_some pd_int)) (pd_tup (pdl_cons (pd_call (h_law_of.mono (by decide)) hr (pda_spr 0 (pdl_cons (pd_fr (pf_lst (pdl_cons (pd_bin op_add3 r2_add (pd_var 7) pd_int) (pdl_cons (pd_bin op_sub r2_sub (pd_var 7) pd_int) (pdl_cons (pd_neg (pd_var 7)) (pdl_cons pd_non (pdl_cons pd_bl (pdl_cons (pd_t1 M.n_str call_str_int c1_str boot_str (pd_var 7) (by rfl)) (pdl_cons (pd_tup (pdl_cons (pd_var 7) pdl_nil)) pdl_nil))))))))) pdl_nil)) (by rfl)) pdl_nil))))) sd_nil) (sd_cons (sd_if (ptd_cmp op_eq r2_eq (pd_var 4) pd_int (by rfl)) (sd_cons (sd_set (i := 3) sc_law_bent_node.nd (pd_fr (pf_lst (pdl_cons (pd_fr (pf_listOf M.n_list (pd_var 5) (by rfl) boot_list)) (pdl_cons (pd_bin op_add3 r2_add (pd_var 5) (pd_tup (pdl_cons pd_int pdl_nil))) (pdl_cons (pd_sl (pd_var 5) pod_no (pod_some (pd_neg pd_int))) (pdl_cons (pd_rev (pd_var 5)) (pdl_cons (pd_t1 M.n_tuple call_tuple_of c1_tuple boot_tuple (pd_fr (pf_lc rfl sc_law_bent_node.nd (pid_t (pd_var 5)) (blkOk_by (own := [("_law_each", 8)]) (by kernel_rfl)) (rg_n (by decide)) (fun _ _ _ _ _ => pg_name sc_law_bent_node.nd rfl (by first | exact Or.inl rfl | exact Or.inr rfl)) (fun _ _ _ _ _ => ptsd_nil) (fun _ _ _ _ _ => pd_int))) (by rfl)) pdl_nil)))))))) (sd_one (sd_ret (pd_bin op_add3 r2_add (pd_tup (pdl_cons (pd_ix (pd_var 1) pd_int) (pdl_cons (pd_call (h_law_of.mono (by decide)) hr (pda_spr 0 (pdl_cons (pd_var 3) pdl_nil)) (by rfl)) pdl_nil))) (pd_sl (pd_var 1) (pod_some pd_int) pod_no))))) sd_nil) (sd_cons (sd_set (i := 3) sc_law_bent_node.nd (pd_fr (pf_lst (pdl_cons (pd_bin op_add3 r2_add (pd_var 6) pd_int) (pdl_cons (pd_bin op_sub r2_sub (pd_var 6) pd_int) (pdl_cons (pd_neg (pd_var 6)) (pdl_cons pd_int (pdl_cons pd_int (pdl_cons (pd_bin op_mulB r2_mul pd_int (pd_var 6)) (pdl_cons pd_non (pdl_cons pd_bl (pdl_cons pd_bl (pdl_cons (pd_tup (pdl_cons (pd_var 6) pdl_nil)) (pdl_cons (pd_bin op_pow r2_pow pd_int pd_int) pdl_nil)))))))))))))) (sd_one (sd_ret (pd_bin op_add3 r2_add (pd_tup (pdl_cons (pd_ix (pd_var 1) pd_int) (pdl_cons (pd_call (h_law_put.mono (by decide)) hr (pda (pdl_cons (pd_var 5) (pdl_cons (pd_var 2) (pdl_cons (pd_call (h_law_of.mono (by decide)) hr (pda_spr 0 (pdl_cons (pd_var 3) pdl_nil)) (by rfl)) pdl_nil)))) (by rfl)) pdl_nil))) (pd_sl (pd_var 1) (pod_some pd_int) pod_no))))))))))))) sem
def d_law_bent_spot (q_law_draw : DSp) (q_law_of : DSp) (q_law_put : DSp) : DS := (dSeq (dAsg 2 (dCall q_law_draw (dAS 0 (dLcons (dUn fLen (dVar 1)) dLnil)))) (dSeq (dAsg 3 (dBin fIx (dVar 1) (dVar 2))) (dSeq (dIfS (dTest (dBin fEq (dCall q_law_draw (dAS 0 (dLcons (dC (.int 6)) dLnil))) (dC (.int 0)))) (dRet (dCall q_law_of (dAS 0 (dLcons (dFr (dLcons (dBin fAdd (dVar 1) (dTup (dLcons (dC (.int 0)) dLnil))) (dLcons (dSl (dVar 1) dNo (dPart (dUn fNeg (dC (.int 1))))) (dLcons (dFr (dListOf (dVar 1))) (dLcons (dC .non) (dLcons (dTup dLnil) (dLcons (dUn fRev (dVar 1)) dLnil))))))) dLnil)))) dNx) (dSeq (dIfS (dTru (dUn (fIsi "tuple") (dVar 3))) dNoS dNx) (dSeq (dAsg 4 (dFr (dLcons (dBin fAdd (dVar 3) (dC (.int 1))) (dLcons (dBin fSub (dVar 3) (dC (.int 1))) (dLcons (dUn fNeg (dVar 3)) (dLcons (dC (.int 0)) (dLcons (dC (.int 1)) (dLcons (dTup (dLcons (dVar 3) (dLcons (dC (.int 1)) dLnil))) (dLcons (dC .non) (dLcons (dC (.bl true)) (dLcons (dC (.bl false)) (dLcons (dUn fStrI (dVar 3)) (dLcons (dBin fAdd (dVar 3) (dBin fPow (dC (.int 10)) (dC (.int 9)))) dLnil))))))))))))) (dRet (dCall q_law_put (dA (dLcons (dVar 1) (dLcons (dVar 2) (dLcons (dCall q_law_of (dAS 0 (dLcons (dFr (dCat (dVar 4) (dFr (dLcons (dBin fSub (dVar 3) (dBin fPow (dC (.int 10)) (dC (.int 9)))) dLnil)))) dLnil))) dLnil)))))))))))
abbrev N_law_bent_spot : List Str := ["_law_spring_here", "_law_spot", "_law_at", "_law_part", "_law_menu", "_law_n", "_law_d"]
theorem sc_law_bent_spot : FnScope N_law_bent_spot ["_law_spring_here", "_law_spot"] (defScope s_law_bent_spot) := ⟨rfl, rfl, rfl, by decide +kernel, rfl, by decide +kernel, by decide +kernel⟩
theorem w_law_bent_spot {q_law_draw : DSp} {q_law_of : DSp} {q_law_put : DSp} {dsp : DSp} (M : Mods w K mg) (F : Def1 K mg "_law_bent_spot" s_law_bent_spot) (h_law_draw : HasFn P w K mg base 1 "_law_draw" 2 q_law_draw) (h_law_of : HasFn P w K mg base 2 "_law_of" 2 q_law_of) (h_law_put : HasFn P w K mg base 1 "_law_put" 3 q_law_put) (sem : ∀ cs Q, cs.length = 2 → dsp cs Q → d_law_bent_spot q_law_draw q_law_of q_law_put { nx := fun _ => Q .non, rt := Q } (startE N_law_bent_spot cs)) : HasFn P w K mg base 3 "_law_bent_spot" 2 dsp :=
  has_fn (d := d_law_bent_spot q_law_draw q_law_of q_law_put) F sc_law_bent_spot rfl (fun _ _ _ _ _ _ us hl => match us, hl with | [_, _], _ => rfl) (fun f cdv A outer s H E hr => by exact (sd_cons (sd_set (i := 2) sc_law_bent_spot.nd (pd_call (h_law_draw.mono (by decide)) hr (pda_spr 0 (pdl_cons (pd_b1 M.n_len call_lenD c1_len boot_len (pd_var 1) (by rfl)) pdl_nil)) (by rfl))) (sd_cons (sd_set (i := 3) sc_law_bent_spot.nd (pd_ix (pd_var 1) (pd_var 2))) (sd_cons (sd_if (ptd_cmp op_eq r2_eq (pd_call (h_law_draw.mono (by decide)) hr (pda_spr 0 (pdl_cons pd_int pdl_nil)) (by rfl)) pd_int (by rfl)) (sd_one (sd_ret (pd_call (h_law_of.mono (by decide)) hr (pda_spr 0 (pdl_cons (pd_fr (pf_lst (pdl_cons (pd_bin op_add3 r2_add (pd_var 1) (pd_tup (pdl_cons pd_int pdl_nil))) (pdl_cons (pd_sl (pd_var 1) pod_no (pod_some (pd_neg pd_int))) (pdl_cons (pd_fr (pf_listOf M.n_list (pd_var 1) (by rfl) boot_list)) (pdl_cons pd_non (pdl_cons (pd_tup pdl_nil) (pdl_cons (pd_rev (pd_var 1)) pdl_nil)))))))) pdl_nil)) (by rfl)))) sd_nil) (sd_cons (sd_if (ptd_tru (pd_isi M.n_isinstance M.n_tuple boot_tuple (.inr (.inr (.inr rfl))) (pd_var 3) (by rfl) (by rfl))) sd_no sd_nil) (sd_cons (sd_set (i := 4) sc_law_bent_spot.nd (pd_fr (pf_lst (pdl_cons (pd_bin op_add3 r2_add (pd_var 3) pd_int) (pdl_cons (pd_bin op_sub r2_sub (pd_var 3) pd_int) (pdl_cons (pd_neg (pd_var 3)) (pdl_cons pd_int (pdl_cons pd_int (pdl_cons (pd_tup (pdl_cons (pd_var 3) (pdl_cons pd_int pdl_nil))) (pdl_cons pd_non (pdl_cons pd_bl (pdl_cons pd_bl (pdl_cons (pd_t1 M.n_str call_str_int c1_str boot_str (pd_var 3) (by rfl)) (pdl_cons (pd_bin op_add3 r2_add (pd_var 3) (pd_bin op_pow r2_pow pd_int pd_int)) pdl_nil)))))))))))))) (sd_one (sd_ret (pd_call (h_law_put.mono (by decide)) hr (pda (pdl_cons (pd_var 1) (pdl_cons (pd_var 2) (pdl_cons (pd_call (h_law_of.mono (by decide)) hr (pda_spr 0 (pdl_cons (pd_fr (pf_cat (pd_var 4) (pd_fr (pf_lst (pdl_cons (pd_bin op_sub r2_sub (pd_var 3) (pd_bin op_pow r2_pow pd_int pd_int)) pdl_nil))))) pdl_nil)) (by rfl)) pdl_nil)))) (by rfl)))))))))) sem
def d_law_bent_pair (q_law_of : DSp) : DS := (dSeq (dAsg 2 (dFr (dLcons (dUn fRev (dVar 1)) (dLcons (dFr (dListOf (dVar 1))) (dLcons (dBin fAdd (dVar 1) (dTup (dLcons (dTup dLnil) dLnil))) (dLcons (dSl (dVar 1) dNo (dPart (dC (.int 1)))) (dLcons (dBin fIx (dVar 1) (dC (.int 0))) (dLcons (dBin fIx (dVar 1) (dC (.int 1))) (dLcons (dTup dLnil) (dLcons (dC .non) (dLcons (dTup (dLcons (dVar 1) dLnil)) dLnil))))))))))) (dRet (dCall q_law_of (dAS 0 (dLcons (dVar 2) dLnil)))))
abbrev N_law_bent_pair : List Str := ["_law_spring_here", "_law_paper", "_law_some"]
theorem sc_law_bent_pair : FnScope N_law_bent_pair ["_law_spring_here", "_law_paper"] (defScope s_law_bent_pair) := ⟨rfl, rfl, rfl, by decide +kernel, rfl, by decide +kernel, by decide +kernel⟩
theorem w_law_bent_pair {q_law_of : DSp} {dsp : DSp} (M : Mods w K mg) (F : Def1 K mg "_law_bent_pair" s_law_bent_pair) (h_law_of : HasFn P w K mg base 2 "_law_of" 2 q_law_of) (sem : ∀ cs Q, cs.length = 2 → dsp cs Q → d_law_bent_pair q_law_of { nx := fun _ => Q .non, rt := Q } (startE N_law_bent_pair cs)) : HasFn P w K mg base 3 "_law_bent_pair" 2 dsp :=
  has_fn (d := d_law_bent_pair q_law_of) F sc_law_bent_pair rfl (fun _ _ _ _ _ _ us hl => match us, hl with | [_, _], _ => rfl) (fun f cdv A outer s H E hr => by exact (sd_cons (sd_set (i := 2) sc_law_bent_pair.nd (pd_fr (pf_lst (pdl_cons (pd_rev (pd_var 1)) (pdl_cons (pd_fr (pf_listOf M.n_list (pd_var 1) (by rfl) boot_list)) (pdl_cons (pd_bin op_add3 r2_add (pd_var 1) (pd_tup (pdl_cons (pd_tup pdl_nil) pdl_nil))) (pdl_cons (pd_sl (pd_var 1) pod_no (pod_some pd_int)) (pdl_cons (pd_ix (pd_var 1) pd_int) (pdl_cons (pd_ix (pd_var 1) pd_int) (pdl_cons (pd_tup pdl_nil) (pdl_cons pd_non (pdl_cons (pd_tup (pdl_cons (pd_var 1) pdl_nil)) pdl_nil)))))))))))) (sd_one (sd_ret (pd_call (h_law_of.mono (by decide)) hr (pda_spr 0 (pdl_cons (pd_var 2) pdl_nil)) (by rfl)))))) sem
def d_law_bent_numbers (q_law_draw : DSp) (q_law_of : DSp) (q_law_put : DSp) : DS := (dSeq (dAsg 2 (dCall q_law_draw (dAS 0 (dLcons (dUn fLen (dVar 1)) dLnil)))) (dSeq (dAsg 3 (dBin fIx (dVar 1) (dVar 2))) (dSeq (dIfS (dTest (dBin fEq (dCall q_law_draw (dAS 0 (dLcons (dC (.int 4)) dLnil))) (dC (.int 0)))) (dSeq (dAsg 5 (dFr (dLcons (dFr (dListOf (dVar 1))) (dLcons (dBin fAdd (dVar 1) (dTup (dLcons (dC (.int 0)) dLnil))) (dLcons (dSl (dVar 1) dNo (dPart (dUn fNeg (dC (.int 1))))) (dLcons (dC .non) (dLcons (dTup dLnil) (dLcons (dUn fRev (dVar 1)) (dLcons (dUn fTuple (dFr (dLc (dIt (dVar 1)) (dgN 6) dYes (dUn fNeg (dVar 6)) [6]))) dLnil))))))))) (dRet (dCall q_law_of (dAS 0 (dLcons (dFr (dCat (dVar 5) (dFr (dLcons (dUn fTuple (dFr (dLc (dIt (dVar 1)) (dgN 6) dYes (dC (.int 0)) [6]))) (dLcons (dUn fTuple (dFr (dLc (dIt (dVar 1)) (dgN 6) dYes (dBin fMul (dC (.int 2)) (dVar 6)) [6]))) dLnil))))) dLnil))))) dNx) (dSeq (dAsg 4 (dFr (dLcons (dBin fAdd (dVar 3) (dC (.int 1))) (dLcons (dBin fSub (dVar 3) (dC (.int 1))) (dLcons (dUn fNeg (dVar 3)) (dLcons (dC (.int 0)) (dLcons (dC (.int 1)) (dLcons (dC (.int 99)) (dLcons (dC (.int 100)) (dLcons (dUn fNeg (dC (.int 100))) (dLcons (dC .non) (dLcons (dC (.bl true)) (dLcons (dC (.bl false)) (dLcons (dTup (dLcons (dVar 3) dLnil)) (dLcons (dBin fPow (dC (.int 10)) (dC (.int 39))) dLnil))))))))))))))) (dRet (dCall q_law_put (dA (dLcons (dVar 1) (dLcons (dVar 2) (dLcons (dCall q_law_of (dAS 0 (dLcons (dVar 4) dLnil))) dLnil))))))))))
abbrev N_law_bent_numbers : List Str := ["_law_spring_here", "_law_numbers", "_law_at", "_law_size", "_law_some", "_law_menu", "_law_k"]
theorem sc_law_bent_numbers : FnScope N_law_bent_numbers ["_law_spring_here", "_law_numbers"] (defScope s_law_bent_numbers) := ⟨rfl, rfl, rfl, by decide +kernel, rfl, by decide +kernel, by decide +kernel⟩
theorem w_law_bent_numbers {q_law_draw : DSp} {q_law_of : DSp} {q_law_put : DSp} {dsp : DSp} (M : Mods w K mg) (F : Def1 K mg "_law_bent_numbers" s_law_bent_numbers) (h_law_draw : HasFn P w K mg base 1 "_law_draw" 2 q_law_draw) (h_law_of : HasFn P w K mg base 2 "_law_of" 2 q_law_of) (h_law_put : HasFn P w K mg base 1 "_law_put" 3 q_law_put) (sem : ∀ cs Q, cs.length = 2 → dsp cs Q → d_law_bent_numbers q_law_draw q_law_of q_law_put { nx := fun _ => Q .non, rt := Q } (startE N_law_bent_numbers cs)) : HasFn P w K mg base 3 "_law_bent_numbers" 2 dsp :=
  has_fn (d := d_law_bent_numbers q_law_draw q_law_of q_law_put) F sc_law_bent_numbers rfl (fun _ _ _ _ _ _ us hl => match us, hl with | [_, _], _ => rfl) (fun f cdv A outer s H E hr => by exact (sd_cons (sd_set (i := 2) sc_law_bent_numbers.nd (pd_call (h_law_draw.mono (by decide)) hr (pda_spr 0 (pdl_cons (pd_b1 M.n_len call_lenD c1_len boot_len (pd_var 1) (by rfl)) pdl_nil)) (by rfl))) (sd_cons (sd_set (i := 3) sc_law_bent_numbers.nd (pd_ix (pd_var 1) (pd_var 2))) (sd_cons (sd_if (ptd_cmp op_eq r2_eq (pd_call (h_law_draw.mono (by decide)) hr (pda_spr 0 (pdl_cons pd_int pdl_nil)) (by rfl)) pd_int (by rfl)) (sd_cons (sd_set (i := 5) sc_law_bent_numbers.nd (pd_fr (pf_lst (pdl_cons (pd_fr (pf_listOf M.n_list (pd_var 1) (by rfl) boot_list)) (pdl_cons (pd_bin op_add3 r2_add (pd_var 1) (pd_tup (pdl_cons pd_int pdl_nil))) (pdl_cons (pd_sl (pd_var 1) pod_no (pod_some (pd_neg pd_int))) (pdl_cons pd_non (pdl_cons (pd_tup pdl_nil) (pdl_cons (pd_rev (pd_var 1)) (pdl_cons (pd_t1 M.n_tuple call_tuple_of c1_tuple boot_tuple (pd_fr (pf_lc rfl sc_law_bent_numbers.nd (pid_t (pd_var 1)) (blkOk_by (own := [("_law_k", 6)]) (by kernel_rfl)) (rg_n (by decide)) (fun _ _ _ _ _ => pg_name sc_law_bent_numbers.nd rfl (by first | exact Or.inl rfl | exact Or.inr rfl)) (fun _ _ _ _ _ => ptsd_nil) (fun _ _ _ _ _ => (pd_neg (pd_var 6))))) (by rfl)) pdl_nil)))))))))) (sd_one (sd_ret (pd_call (h_law_of.mono (by decide)) hr (pda_spr 0 (pdl_cons (pd_fr (pf_cat (pd_var 5) (pd_fr (pf_lst (pdl_cons (pd_t1 M.n_tuple call_tuple_of c1_tuple boot_tuple (pd_fr (pf_lc rfl sc_law_bent_numbers.nd (pid_t (pd_var 1)) (blkOk_by (own := [("_law_k", 6)]) (by kernel_rfl)) (rg_n (by decide)) (fun _ _ _ _ _ => pg_name sc_law_bent_numbers.nd rfl (by first | exact Or.inl rfl | exact Or.inr rfl)) (fun _ _ _ _ _ => ptsd_nil) (fun _ _ _ _ _ => pd_int))) (by rfl)) (pdl_cons (pd_t1 M.n_tuple call_tuple_of c1_tuple boot_tuple (pd_fr (pf_lc rfl sc_law_bent_numbers.nd (pid_t (pd_var 1)) (blkOk_by (own := [("_law_k", 6)]) (by kernel_rfl)) (rg_n (by decide)) (fun _ _ _ _ _ => pg_name sc_law_bent_numbers.nd rfl (by first | exact Or.inl rfl | exact Or.inr rfl)) (fun _ _ _ _ _ => ptsd_nil) (fun _ _ _ _ _ => (pd_bin op_mulB r2_mul pd_int (pd_var 6))))) (by rfl)) pdl_nil)))))) pdl_nil)) (by rfl))))) sd_nil) (sd_cons (sd_set (i := 4) sc_law_bent_numbers.nd (pd_fr (pf_lst (pdl_cons (pd_bin op_add3 r2_add (pd_var 3) pd_int) (pdl_cons (pd_bin op_sub r2_sub (pd_var 3) pd_int) (pdl_cons (pd_neg (pd_var 3)) (pdl_cons pd_int (pdl_cons pd_int (pdl_cons pd_int (pdl_cons pd_int (pdl_cons (pd_neg pd_int) (pdl_cons pd_non (pdl_cons pd_bl (pdl_cons pd_bl (pdl_cons (pd_tup (pdl_cons (pd_var 3) pdl_nil)) (pdl_cons (pd_bin op_pow r2_pow pd_int pd_int) pdl_nil)))))))))))))))) (sd_one (sd_ret (pd_call (h_law_put.mono (by decide)) hr (pda (pdl_cons (pd_var 1) (pdl_cons (pd_var 2) (pdl_cons (pd_call (h_law_of.mono (by decide)) hr (pda_spr 0 (pdl_cons (pd_var 4) pdl_nil)) (by rfl)) pdl_nil)))) (by rfl))))))))) sem
def d_law_kept (q_law_draw : DSp) (q_law_total : DSp) : DS := (dSeq (dAsgO 2 (dLc (dIt (dVar 1)) (dgN 3) dYes (dBin fSub (dCall q_law_draw (dAS 0 (dLcons (dC (.int 19)) dLnil))) (dC (.int 9))) [3])) (dSeq (dIfS (dTest (dCmpO fEqD 2 (dFr (dRep (dLcons (dC (.int 0)) dLnil) (dUn fLen (dVar 1)))))) (dSetI 2 (dC (.int 0)) (dUn fNeg (dC (.int 2)))) dNx) (dFreeze 2 (dRet (dTup (dLcons (dUn fTuple (dVar 2)) (dLcons (dBin fAdd (dCall q_law_total (dA (dLcons (dVar 2) (dLcons (dVar 1) dLnil)))) (dCall q_law_draw (dAS 0 (dLcons (dC (.int 10)) dLnil)))) dLnil)))))))
abbrev N_law_kept : List Str := ["_law_spring_here", "_law_spot", "_law_weights_now", "_law_each"]
theorem sc_law_kept : FnScope N_law_kept ["_law_spring_here", "_law_spot"] (defScope s_law_kept) := ⟨rfl, rfl, rfl, by decide +kernel, rfl, by decide +kernel, by decide +kernel⟩
theorem w_law_kept {q_law_draw : DSp} {q_law_total : DSp} {dsp : DSp} (M : Mods w K mg) (F : Def1 K mg "_law_kept" s_law_kept) (h_law_draw : HasFn P w K mg base 1 "_law_draw" 2 q_law_draw) (h_law_total : HasFn P w K mg base 1 "_law_total" 2 q_law_total) (sem : ∀ cs Q, cs.length = 2 → dsp cs Q → d_law_kept q_law_draw q_law_total { nx := fun _ => Q .non, rt := Q } (startE N_law_kept cs)) : HasFn P w K mg base 2 "_law_kept" 2 dsp :=
  has_fn (d := d_law_kept q_law_draw q_law_total) F sc_law_kept rfl (fun _ _ _ _ _ _ us hl => match us, hl with | [_, _], _ => rfl) (fun f cdv A outer s H E hr => by exact (sd_cons (sd_setLcO (i := 2) rfl sc_law_kept.nd (pid_t (pd_var 1)) (blkOk_by (own := [("_law_each", 3)]) (by kernel_rfl)) (rg_n (by decide)) (fun _ _ _ _ _ => pg_name sc_law_kept.nd rfl (by first | exact Or.inl rfl | exact Or.inr rfl)) (fun _ _ _ _ _ => ptsd_nil) (fun _ _ _ _ _ => (pd_bin op_sub r2_sub (pd_call (h_law_draw.mono (by decide)) hr (pda_spr 0 (pdl_cons pd_int pdl_nil)) (by rfl)) pd_int))) (sd_cons (sd_if (ptd_cmpO 2 (op_eqD hr.units) r2_eqD (pd_fr (pf_rep (pf_lst (pdl_cons pd_int pdl_nil)) (pd_b1 M.n_len call_lenD c1_len boot_len (pd_var 1) (by rfl)))) (by rfl)) (sd_one (sd_setI (i := 2) (pd_neg pd_int) pd_int)) sd_nil) (sd_freeze 2 (sd_one (sd_ret (pd_tup (pdl_cons (pd_t1 M.n_tuple call_tuple_of c1_tuple boot_tuple (pd_var 2) (by rfl)) (pdl_cons (pd_bin op_add3 r2_add (pd_call (h_law_total.mono (by decide)) hr (pda (pdl_cons (pd_var 2) (pdl_cons (pd_var 1) pdl_nil))) (by rfl)) (pd_call (h_law_draw.mono (by decide)) hr (pda_spr 0 (pdl_cons pd_int pdl_nil)) (by rfl))) pdl_nil))))))))) sem
def d_law_best_case (q_law_draw : DSp) (q_law_of : DSp) (q_law_kept : DSp) (q_law_entry : DSp) : DS := (dSeq (dUnT [4, 5, 6] (dTup (dLcons (dBin fAdd (dC (.int 1)) (dCall q_law_draw (dAS 0 (dLcons (dC (.int 2)) dLnil)))) (dLcons (dBin fAdd (dC (.int 1)) (dCall q_law_draw (dAS 0 (dLcons (dC (.int 9)) dLnil)))) (dLcons (dCall q_law_draw (dAS 0 (dLcons (dC (.int 10)) dLnil))) dLnil))))) (dSeq (dPar 7 8 (dCall q_law_of (dAS 0 (dLcons (dFr (dLcons (dC (.int 1)) (dLcons (dUn fNeg (dC (.int 1))) dLnil))) dLnil))) (dBin fSub (dCall q_law_draw (dAS 0 (dLcons (dC (.int 23)) dLnil))) (dC (.int 11)))) (dSeq (dPar 9 10 (dBin fSub (dCall q_law_draw (dAS 0 (dLcons (dC (.int 20001)) dLnil))) (dC (.int 10000))) (dBin fSub (dCall q_law_draw (dAS 0 (dLcons (dC (.int 201)) dLnil))) (dC (.int 100)))) (dSeq (dUnT [11, 12] (dTup (dLcons (dTup (dLcons (dVar 7) dLnil)) (dLcons (dTup (dLcons (dBin fMul (dVar 7) (dVar 9)) dLnil)) dLnil)))) (dSeq (dIfS (dTest (dBin fEq (dVar 4) (dC (.int 2)))) (dSeq (dUnT [11, 12] (dTup (dLcons (dTup (dLcons (dVar 7) (dLcons (dVar 8) dLnil))) (dLcons (dTup (dLcons (dBin fMul (dVar 7) (dBin fSub (dVar 9) (dBin fMul (dVar 8) (dVar 10)))) (dLcons (dVar 10) dLnil))) dLnil)))) (dIfS (dTest (dBin fEq (dCall q_law_draw (dAS 0 (dLcons (dC (.int 2)) dLnil))) (dC (.int 0)))) (dUnT [11, 12] (dTup (dLcons (dUn fRev (dVar 11)) (dLcons (dUn fRev (dVar 12)) dLnil)))) dNx)) dNx) (dSeq (dPar 13 14 (dCall q_law_draw (dAS 0 (dLcons (dC (.int 4)) dLnil))) (dCall q_law_draw (dAS 0 (dLcons (dC (.int 4)) dLnil)))) (dSeq (dAsgO 1 (dLc (dIr (dBin fAdd (dBin fAdd (dVar 13) (dC (.int 1))) (dVar 14))) (dgN 17) dYes (dCall q_law_kept (dAS 0 (dLcons (dVar 12) dLnil))) [17])) (dSeq (dSetI 1 (dVar 13) (dTup (dLcons (dUn fTuple (dFr (dLc (dIt (dVar 11)) (dgN 18) dYes (dBin fMul (dVar 5) (dVar 18)) [18]))) (dLcons (dBin fAdd (dBin fMul (dVar 5) (dVar 9)) (dCall q_law_draw (dAS 0 (dLcons (dVar 5) dLnil)))) dLnil)))) (dFreeze 1 (dSeq (dParO 15 16 (dFr (dCat (dFr (dRep (dLcons (dC (.int 0)) dLnil) (dUn fLen (dVar 1)))) (dFr (dLcons (dC (.int 1)) (dLcons (dVar 6) dLnil))))) (dCat (dFr (dRep (dLcons (dC (.int 0)) dLnil) (dUn fLen (dVar 1)))) (dFr (dLcons (dC (.int 0)) (dLcons (dVar 5) dLnil))))) (dSeq (dSetI 16 (dVar 13) (dC (.int 1))) (dFreeze 16 (dSeq (dAsg 2 (dTup (dLcons (dTup (dLcons (dC (.str "part")) (dLcons (dVar 11) (dLcons (dVar 9) dLnil)))) (dLcons (dTup (dLcons (dC (.str "end")) (dLcons (dUn fTuple (dVar 15)) dLnil))) (dLcons (dTup (dLcons (dC (.str "end")) (dLcons (dUn fTuple (dVar 16)) dLnil))) dLnil))))) (dSeq (dAsg 3 (dUn fTuple (dFr (dLc (dIt (dVar 11)) (dgN 18) dYes (dBin fMul (dVar 6) (dVar 18)) [18])))) (dRet (dFr (dLcons (dCall q_law_entry (dAS 0 (dLcons (dFr (dRep (dLcons (dC (.str "whole")) dLnil) (dVar 4))) (dLcons (dVar 1) dLnil)))) (dLcons (dVar 3) (dLcons (dBin fMul (dVar 6) (dVar 9)) (dLcons (dVar 12) (dLcons (dVar 2) dLnil)))))))))))))))))))))
abbrev N_law_best_case : List Str := ["_law_spring_here", "_law_some", "_law_nodes", "_law_aim_now", "_law_many", "_law_up", "_law_size", "_law_sign", "_law_tilt", "_law_level", "_law_free", "_law_weights_now", "_law_spot", "_law_before", "_law_behind", "_law_left", "_law_right_here", "_law_k", "_law_each"]
theorem sc_law_best_case : FnScope N_law_best_case ["_law_spring_here"] (defScope s_law_best_case) := ⟨rfl, rfl, rfl, by decide +kernel, rfl, by decide +kernel, by decide +kernel⟩
theorem w_law_best_case {q_law_draw : DSp} {q_law_of : DSp} {q_law_kept : DSp} {q_law_entry : DSp} {dsp : DSp} (M : Mods w K mg) (F : Def1 K mg "_law_best_case" s_law_best_case) (h_law_draw : HasFn P w K mg base 1 "_law_draw" 2 q_law_draw) (h_law_of : HasFn P w K mg base 2 "_law_of" 2 q_law_of) (h_law_kept : HasFn P w K mg base 2 "_law_kept" 2 q_law_kept) (h_law_entry : HasFn P w K mg base 3 "_law_entry" 3 q_law_entry) (sem : ∀ cs Q, cs.length = 1 → dsp cs Q → d_law_best_case q_law_draw q_law_of q_law_kept q_law_entry { nx := fun _ => Q .non, rt := Q } (startE N_law_best_case cs)) : HasFn P w K mg base 4 "_law_best_case" 1 dsp :=
  has_fn (d := d_law_best_case q_law_draw q_law_of q_law_kept q_law_entry) F sc_law_best_case rfl (fun _ _ _ _ _ _ us hl => match us, hl with | [_], _ => rfl) (fun f cdv A outer s H E hr => by exact (sd_cons (sd_unT rfl (pd_tup (pdl_cons (pd_bin op_add3 r2_add pd_int (pd_call (h_law_draw.mono (by decide)) hr (pda_spr 0 (pdl_cons pd_int pdl_nil)) (by rfl))) (pdl_cons (pd_bin op_add3 r2_add pd_int (pd_call (h_law_draw.mono (by decide)) hr (pda_spr 0 (pdl_cons pd_int pdl_nil)) (by rfl))) (pdl_cons (pd_call (h_law_draw.mono (by decide)) hr (pda_spr 0 (pdl_cons pd_int pdl_nil)) (by rfl)) pdl_nil)))) (pgd_cons (pg_name sc_law_best_case.nd rfl (by first | exact Or.inl rfl | exact Or.inr rfl)) (pgd_cons (pg_name sc_law_best_case.nd rfl (by first | exact Or.inl rfl | exact Or.inr rfl)) (pgd_cons (pg_name sc_law_best_case.nd rfl (by first | exact Or.inl rfl | exact Or.inr rfl)) pgd_nil)))) (sd_cons (sd_par (i := 7) (j := 8) rfl sc_law_best_case.nd (pdl_cons (pd_call (h_law_of.mono (by decide)) hr (pda_spr 0 (pdl_cons (pd_fr (pf_lst (pdl_cons pd_int (pdl_cons (pd_neg pd_int) pdl_nil)))) pdl_nil)) (by rfl)) (pdl_cons (pd_bin op_sub r2_sub (pd_call (h_law_draw.mono (by decide)) hr (pda_spr 0 (pdl_cons pd_int pdl_nil)) (by rfl)) pd_int) pdl_nil))) (sd_cons (sd_par (i := 9) (j := 10) rfl sc_law_best_case.nd (pdl_cons (pd_bin op_sub r2_sub (pd_call (h_law_draw.mono (by decide)) hr (pda_spr 0 (pdl_cons pd_int pdl_nil)) (by rfl)) pd_int) (pdl_cons (pd_bin op_sub r2_sub (pd_call (h_law_draw.mono (by decide)) hr (pda_spr 0 (pdl_cons pd_int pdl_nil)) (by rfl)) pd_int) pdl_nil))) (sd_cons (sd_unT rfl (pd_tup (pdl_cons (pd_tup (pdl_cons (pd_var 7) pdl_nil)) (pdl_cons (pd_tup (pdl_cons (pd_bin op_mulB r2_mul (pd_var 7) (pd_var 9)) pdl_nil)) pdl_nil))) (pgd_cons (pg_name sc_law_best_case.nd rfl (by first | exact Or.inl rfl | exact Or.inr rfl)) (pgd_cons (pg_name sc_law_best_case.nd rfl (by first | exact Or.inl rfl | exact Or.inr rfl)) pgd_nil))) (sd_cons (sd_if (ptd_cmp op_eq r2_eq (pd_var 4) pd_int (by rfl)) (sd_cons (sd_unT rfl (pd_tup (pdl_cons (pd_tup (pdl_cons (pd_var 7) (pdl_cons (pd_var 8) pdl_nil))) (pdl_cons (pd_tup (pdl_cons (pd_bin op_mulB r2_mul (pd_var 7) (pd_bin op_sub r2_sub (pd_var 9) (pd_bin op_mulB r2_mul (pd_var 8) (pd_var 10)))) (pdl_cons (pd_var 10) pdl_nil))) pdl_nil))) (pgd_cons (pg_name sc_law_best_case.nd rfl (by first | exact Or.inl rfl | exact Or.inr rfl)) (pgd_cons (pg_name sc_law_best_case.nd rfl (by first | exact Or.inl rfl | exact Or.inr rfl)) pgd_nil))) (sd_one (sd_if (ptd_cmp op_eq r2_eq (pd_call (h_law_draw.mono (by decide)) hr (pda_spr 0 (pdl_cons pd_int pdl_nil)) (by rfl)) pd_int (by rfl)) (sd_one (sd_unT rfl (pd_tup (pdl_cons (pd_rev (pd_var 11)) (pdl_cons (pd_rev (pd_var 12)) pdl_nil))) (pgd_cons (pg_name sc_law_best_case.nd rfl (by first | exact Or.inl rfl | exact Or.inr rfl)) (pgd_cons (pg_name sc_law_best_case.nd rfl (by first | exact Or.inl rfl | exact Or.inr rfl)) pgd_nil)))) sd_nil))) sd_nil) (sd_cons (sd_par (i := 13) (j := 14) rfl sc_law_best_case.nd (pdl_cons (pd_call (h_law_draw.mono (by decide)) hr (pda_spr 0 (pdl_cons pd_int pdl_nil)) (by rfl)) (pdl_cons (pd_call (h_law_draw.mono (by decide)) hr (pda_spr 0 (pdl_cons pd_int pdl_nil)) (by rfl)) pdl_nil))) (sd_cons (sd_setLcO (i := 1) rfl sc_law_best_case.nd (pid_r M.n_range (pd_bin op_add3 r2_add (pd_bin op_add3 r2_add (pd_var 13) pd_int) (pd_var 14)) (by rfl)) (blkOk_by (own := [("_law_k", 17)]) (by kernel_rfl)) (rg_n (by decide)) (fun _ _ _ _ _ => pg_name sc_law_best_case.nd rfl (by first | exact Or.inl rfl | exact Or.inr rfl)) (fun _ _ _ _ _ => ptsd_nil) (fun _ _ _ _ _ => (pd_call (h_law_kept.mono (by decide)) hr (pda_spr 0 (pdl_cons (pd_var 12) pdl_nil)) (by rfl)))) (sd_cons (sd_setI (i := 1) (pd_tup (pdl_cons (pd_t1 M.n_tuple call_tuple_of c1_tuple boot_tuple (pd_fr (pf_lc rfl sc_law_best_case.nd (pid_t (pd_var 11)) (blkOk_by (own := [("_law_each", 18)]) (by kernel_rfl)) (rg_n (by decide)) (fun _ _ _ _ _ => pg_name sc_law_best_case.nd rfl (by first | exact Or.inl rfl | exact Or.inr rfl)) (fun _ _ _ _ _ => ptsd_nil) (fun _ _ _ _ _ => (pd_bin op_mulB r2_mul (pd_var 5) (pd_var 18))))) (by rfl)) (pdl_cons (pd_bin op_add3 r2_add (pd_bin op_mulB r2_mul (pd_var 5) (pd_var 9)) (pd_call (h_law_draw.mono (by decide)) hr (pda_spr 0 (pdl_cons (pd_var 5) pdl_nil)) (by rfl))) pdl_nil))) (pd_var 13)) (sd_freeze 1 (sd_cons (sd_parO (i := 15) (j := 16) rfl sc_law_best_case.nd (pd_fr (pf_cat (pd_fr (pf_rep (pf_lst (pdl_cons pd_int pdl_nil)) (pd_b1 M.n_len call_lenD c1_len boot_len (pd_var 1) (by rfl)))) (pd_fr (pf_lst (pdl_cons pd_int (pdl_cons (pd_var 6) pdl_nil)))))) (pf_cat (pd_fr (pf_rep (pf_lst (pdl_cons pd_int pdl_nil)) (pd_b1 M.n_len call_lenD c1_len boot_len (pd_var 1) (by rfl)))) (pd_fr (pf_lst (pdl_cons pd_int (pdl_cons (pd_var 5) pdl_nil)))))) (sd_cons (sd_setI (i := 16) pd_int (pd_var 13)) (sd_freeze 16 (sd_cons (sd_set (i := 2) sc_law_best_case.nd (pd_tup (pdl_cons (pd_tup (pdl_cons pd_str (pdl_cons (pd_var 11) (pdl_cons (pd_var 9) pdl_nil)))) (pdl_cons (pd_tup (pdl_cons pd_str (pdl_cons (pd_t1 M.n_tuple call_tuple_of c1_tuple boot_tuple (pd_var 15) (by rfl)) pdl_nil))) (pdl_cons (pd_tup (pdl_cons pd_str (pdl_cons (pd_t1 M.n_tuple call_tuple_of c1_tuple boot_tuple (pd_var 16) (by rfl)) pdl_nil))) pdl_nil))))) (sd_cons (sd_set (i := 3) sc_law_best_case.nd (pd_t1 M.n_tuple call_tuple_of c1_tuple boot_tuple (pd_fr (pf_lc rfl sc_law_best_case.nd (pid_t (pd_var 11)) (blkOk_by (own := [("_law_each", 18)]) (by kernel_rfl)) (rg_n (by decide)) (fun _ _ _ _ _ => pg_name sc_law_best_case.nd rfl (by first | exact Or.inl rfl | exact Or.inr rfl)) (fun _ _ _ _ _ => ptsd_nil) (fun _ _ _ _ _ => (pd_bin op_mulB r2_mul (pd_var 6) (pd_var 18))))) (by rfl))) (sd_one (sd_ret (pd_fr (pf_lst (pdl_cons (pd_call (h_law_entry.mono (by decide)) hr (pda_spr 0 (pdl_cons (pd_fr (pf_rep (pf_lst (pdl_cons pd_str pdl_nil)) (pd_var 4))) (pdl_cons (pd_var 1) pdl_nil))) (by rfl)) (pdl_cons (pd_var 3) (pdl_cons (pd_bin op_mulB r2_mul (pd_var 6) (pd_var 9)) (pdl_cons (pd_var 12) (pdl_cons (pd_var 2) pdl_nil)))))))))))))))))))))))) sem
def d_law_otherwise (q_law_draw : DSp) (q_law_of : DSp) (q_law_bent_numbers : DSp) (q_law_bent_spot : DSp) (q_law_put : DSp) (q_law_bent_node : DSp) (q_law_bent_pair : DSp) : DS := (dSeq (dUnL [2, 3, 4, 5, 6] (dVar 1)) (dSeq (dPar 7 8 (dCall q_law_draw (dAS 0 (dLcons (dC (.int 10)) dLnil))) (dCall q_law_draw (dAS 0 (dLcons (dUn fLen (dVar 6)) dLnil)))) (dSeq (dIfS (dTest (dBin fLt (dVar 7) (dC (.int 2)))) (dSeq (dAsg 9 (dCall q_law_of (dAS 0 (dLcons (dFr (dLcons (dBin fAdd (dVar 4) (dC (.int 1))) (dLcons (dBin fSub (dVar 4) (dC (.int 1))) (dLcons (dUn fNeg (dVar 4)) (dLcons (dC .non) (dLcons (dTup (dLcons (dVar 4) (dLcons (dC (.int 1)) dLnil))) (dLcons (dUn fStrI (dVar 4)) (dLcons (dC (.bl true)) (dLcons (dC (.bl false)) (dLcons (dC (.int 0)) dLnil)))))))))) dLnil)))) (dRet (dFr (dLcons (dVar 3) (dLcons (dVar 9) (dLcons (dTup (dLcons (dVar 5) (dLcons (dVar 6) dLnil))) dLnil)))))) dNx) (dSeq (dIfS (dTest (dBin fLt (dVar 7) (dC (.int 5)))) (dRet (dFr (dLcons (dCall q_law_bent_numbers (dAS 0 (dLcons (dVar 3) dLnil))) (dLcons (dVar 4) (dLcons (dTup (dLcons (dVar 5) (dLcons (dVar 6) dLnil))) dLnil))))) dNx) (dSeq (dIfS (dTest (dBin fLt (dVar 7) (dC (.int 7)))) (dRet (dFr (dLcons (dVar 3) (dLcons (dVar 4) (dLcons (dTup (dLcons (dCall q_law_bent_spot (dAS 0 (dLcons (dVar 5) dLnil))) (dLcons (dVar 6) dLnil))) dLnil))))) dNx) (dSeq (dIfS (dTest (dBin fLt (dVar 7) (dC (.int 9)))) (dRet (dFr (dLcons (dVar 3) (dLcons (dVar 4) (dLcons (dTup (dLcons (dVar 5) (dLcons (dCall q_law_put (dA (dLcons (dVar 6) (dLcons (dVar 8) (dLcons (dCall q_law_bent_node (dAS 0 (dLcons (dBin fIx (dVar 6) (dVar 8)) dLnil))) dLnil))))) dLnil))) dLnil))))) dNx) (dRet (dFr (dLcons (dVar 3) (dLcons (dVar 4) (dLcons (dCall q_law_bent_pair (dAS 0 (dLcons (dTup (dLcons (dVar 5) (dLcons (dVar 6) dLnil))) dLnil))) dLnil)))))))))))
abbrev N_law_otherwise : List Str := ["_law_spring_here", "_law_case", "_law_entry_now", "_law_aim_now", "_law_top", "_law_spot", "_law_nodes", "_law_way_now", "_law_at", "_law_near_top"]
theorem sc_law_otherwise : FnScope N_law_otherwise ["_law_spring_here", "_law_case"] (defScope s_law_otherwise) := ⟨rfl, rfl, rfl, by decide +kernel, rfl, by decide +kernel, by decide +kernel⟩
theorem w_law_otherwise {q_law_draw : DSp} {q_law_of : DSp} {q_law_bent_numbers : DSp} {q_law_bent_spot : DSp} {q_law_put : DSp} {q_law_bent_node : DSp} {q_law_bent_pair : DSp} {dsp : DSp} (M : Mods w K mg) (F : Def1 K mg "_law_otherwise" s_law_otherwise) (h_law_draw : HasFn P w K mg base 1 "_law_draw" 2 q_law_draw) (h_law_of : HasFn P w K mg base 2 "_law_of" 2 q_law_of) (h_law_bent_numbers : HasFn P w K mg base 3 "_law_bent_numbers" 2 q_law_bent_numbers) (h_law_bent_spot : HasFn P w K mg base 3 "_law_bent_spot" 2 q_law_bent_spot) (h_law_put : HasFn P w K mg base 1 "_law_put" 3 q_law_put) (h_law_bent_node : HasFn P w K mg base 3 "_law_bent_node" 2 q_law_bent_node) (h_law_bent_pair : HasFn P w K mg base 3 "_law_bent_pair" 2 q_law_bent_pair) (sem : ∀ cs Q, cs.length = 2 → dsp cs Q → d_law_otherwise q_law_draw q_law_of q_law_bent_numbers q_law_bent_spot q_law_put q_law_bent_node q_law_bent_pair { nx := fun _ => Q .non, rt := Q } (startE N_law_otherwise cs)) : HasFn P w K mg base 4 "_law_otherwise" 2 dsp :=
  has_fn (d := d_law_otherwise q_law_draw q_law_of q_law_bent_numbers q_law_bent_spot q_law_put q_law_bent_node q_law_bent_pair) F sc_law_otherwise rfl (fun _ _ _ _ _ _ us hl => match us, hl with | [_, _], _ => rfl) (fun f cdv A outer s H E hr => by exact (sd_cons (sd_unL rfl (pd_var 1) (pgd_cons (pg_name sc_law_otherwise.nd rfl (by first | exact Or.inl rfl | exact Or.inr rfl)) (pgd_cons (pg_name sc_law_otherwise.nd rfl (by first | exact Or.inl rfl | exact Or.inr rfl)) (pgd_cons (pg_name sc_law_otherwise.nd rfl (by first | exact Or.inl rfl | exact Or.inr rfl)) (pgd_cons (pg_name sc_law_otherwise.nd rfl (by first | exact Or.inl rfl | exact Or.inr rfl)) (pgd_cons (pg_name sc_law_otherwise.nd rfl (by first | exact Or.inl rfl | exact Or.inr rfl)) pgd_nil)))))) (sd_cons (sd_par (i := 7) (j := 8) rfl sc_law_otherwise.nd (pdl_cons (pd_call (h_law_draw.mono (by decide)) hr (pda_spr 0 (pdl_cons pd_int pdl_nil)) (by rfl)) (pdl_cons (pd_call (h_law_draw.mono (by decide)) hr (pda_spr 0 (pdl_cons (pd_b1 M.n_len call_lenD c1_len boot_len (pd_var 6) (by rfl)) pdl_nil)) (by rfl)) pdl_nil))) (sd_cons (sd_if (ptd_cmp op_lt r2_lt (pd_var 7) pd_int (by rfl)) (sd_cons (sd_set (i := 9) sc_law_otherwise.nd (pd_call (h_law_of.mono (by decide)) hr (pda_spr 0 (pdl_cons (pd_fr (pf_lst (pdl_cons (pd_bin op_add3 r2_add (pd_var 4) pd_int) (pdl_cons (pd_bin op_sub r2_sub (pd_var 4) pd_int) (pdl_cons (pd_neg (pd_var 4)) (pdl_cons pd_non (pdl_cons (pd_tup (pdl_cons (pd_var 4) (pdl_cons pd_int pdl_nil))) (pdl_cons (pd_t1 M.n_str call_str_int c1_str boot_str (pd_var 4) (by rfl)) (pdl_cons pd_bl (pdl_cons pd_bl (pdl_cons pd_int pdl_nil))))))))))) pdl_nil)) (by rfl))) (sd_one (sd_ret (pd_fr (pf_lst (pdl_cons (pd_var 3) (pdl_cons (pd_var 9) (pdl_cons (pd_tup (pdl_cons (pd_var 5) (pdl_cons (pd_var 6) pdl_nil))) pdl_nil)))))))) sd_nil) (sd_cons (sd_if (ptd_cmp op_lt r2_lt (pd_var 7) pd_int (by rfl)) (sd_one (sd_ret (pd_fr (pf_lst (pdl_cons (pd_call (h_law_bent_numbers.mono (by decide)) hr (pda_spr 0 (pdl_cons (pd_var 3) pdl_nil)) (by rfl)) (pdl_cons (pd_var 4) (pdl_cons (pd_tup (pdl_cons (pd_var 5) (pdl_cons (pd_var 6) pdl_nil))) pdl_nil))))))) sd_nil) (sd_cons (sd_if (ptd_cmp op_lt r2_lt (pd_var 7) pd_int (by rfl)) (sd_one (sd_ret (pd_fr (pf_lst (pdl_cons (pd_var 3) (pdl_cons (pd_var 4) (pdl_cons (pd_tup (pdl_cons (pd_call (h_law_bent_spot.mono (by decide)) hr (pda_spr 0 (pdl_cons (pd_var 5) pdl_nil)) (by rfl)) (pdl_cons (pd_var 6) pdl_nil))) pdl_nil))))))) sd_nil) (sd_cons (sd_if (ptd_cmp op_lt r2_lt (pd_var 7) pd_int (by rfl)) (sd_one (sd_ret (pd_fr (pf_lst (pdl_cons (pd_var 3) (pdl_cons (pd_var 4) (pdl_cons (pd_tup (pdl_cons (pd_var 5) (pdl_cons (pd_call (h_law_put.mono (by decide)) hr (pda (pdl_cons (pd_var 6) (pdl_cons (pd_var 8) (pdl_cons (pd_call (h_law_bent_node.mono (by decide)) hr (pda_spr 0 (pdl_cons (pd_ix (pd_var 6) (pd_var 8)) pdl_nil)) (by rfl)) pdl_nil)))) (by rfl)) pdl_nil))) pdl_nil))))))) sd_nil) (sd_one (sd_ret (pd_fr (pf_lst (pdl_cons (pd_var 3) (pdl_cons (pd_var 4) (pdl_cons (pd_call (h_law_bent_pair.mono (by decide)) hr (pda_spr 0 (pdl_cons (pd_tup (pdl_cons (pd_var 5) (pdl_cons (pd_var 6) pdl_nil))) pdl_nil)) (by rfl)) pdl_nil)))))))))))))) sem
def d_law_right (q_law_best_case : DSp) (q_law_wrapped : DSp) (q_accepts : DSp) (q_law_put : DSp) (q_law_otherwise : DSp) (q_law_aim_right : DSp) (q_law_best_right : DSp) (q_law_judged : DSp) : DS := (dSeq (dAsg 1 (dCall q_law_best_case (dAS 0 dLnil))) (dSeq (dUnL [4, 5, 6, 7, 8] (dVar 1)) (dSeq (dPar 9 10 (dTup (dLcons (dC (.str "best")) (dLcons (dBin fIx (dVar 4) (dC (.int 0))) (dLcons (dVar 5) (dLcons (dVar 6) dLnil))))) (dTup (dLcons (dVar 7) (dLcons (dVar 8) dLnil)))) (dSeq (dAsg 2 (dCall q_law_wrapped (dAS 0 (dLcons (dBin fIx (dVar 4) (dC (.int 1))) (dLcons (dVar 8) (dLcons (dBin fAdd (dUn fLen (dBin fIx (dVar 4) (dC (.int 2)))) (dC (.int 1))) dLnil)))))) (dSeq (dIfS (dOr (dTest (dBin fIsNotB (dCall q_accepts (dA (dLcons (dVar 9) (dLcons (dVar 10) dLnil)))) (dC (.bl true)))) (dTest (dBin fIsNotB (dCallK q_accepts (dTup (dLcons (dVar 7) (dLcons (dVar 2) dLnil))) (dVar 9)) (dC (.bl true))))) (dRet (dC (.bl false))) dNx) (dSeq (dIfS (dTest (dBin fIsNotB (dCall q_accepts (dA (dLcons (dCall q_law_put (dA (dLcons (dVar 9) (dLcons (dC (.int 1)) (dLcons (dUn (fRepl "whole" "any") (dBin fIx (dVar 4) (dC (.int 0)))) dLnil))))) (dLcons (dVar 10) dLnil)))) (dC (.bl false)))) (dRet (dC (.bl false))) dNx) (dSeq (dFor (dIr (dC (.int 10))) (dgN 3) (dSeq (dUnL [13, 14, 15] (dCall q_law_otherwise (dAS 0 (dLcons (dVar 1) dLnil)))) (dSeq (dAsg 11 (dTup (dLcons (dC (.str "best")) (dLcons (dBin fIx (dVar 4) (dC (.int 0))) (dLcons (dVar 13) (dLcons (dVar 14) dLnil)))))) (dSeq (dAsg 12 (dAndV (dCall q_law_aim_right (dA (dLcons (dBin fIx (dVar 4) (dC (.int 1))) (dLcons (dVar 13) dLnil)))) (dCall q_law_best_right (dA (dLcons (dVar 4) (dLcons (dVar 11) (dLcons (dVar 15) dLnil))))))) (dIfS (dOr (dNot (dTru (dCall q_law_judged (dA (dLcons (dVar 11) (dLcons (dVar 15) (dLcons (dVar 12) dLnil))))))) (dTest (dBin fIsNotB (dCall q_accepts (dA (dLcons (dVar 9) (dLcons (dVar 10) dLnil)))) (dC (.bl true))))) (dRet (dC (.bl false))) dNx))))) (dRet (dC (.bl true))))))))))
abbrev N_law_right : List Str := ["_law_spring_here", "_law_case", "_law_wide", "_law_again", "_law_entry_now", "_law_aim_now", "_law_top", "_law_spot", "_law_nodes", "_law_claim_now", "_law_paper", "_law_near", "_law_due", "_law_near_aim", "_law_near_top", "_law_far"]
theorem sc_law_right : FnScope N_law_right ["_law_spring_here"] (defScope s_law_right) := ⟨rfl, rfl, rfl, by decide +kernel, rfl, by decide +kernel, by decide +kernel⟩
theorem w_law_right {q_law_best_case : DSp} {q_law_wrapped : DSp} {q_accepts : DSp} {q_law_put : DSp} {q_law_otherwise : DSp} {q_law_aim_right : DSp} {q_law_best_right : DSp} {q_law_judged : DSp} {dsp : DSp} (M : Mods w K mg) (F : Def1 K mg "_law_right" s_law_right) (h_law_best_case : HasFn P w K mg base 4 "_law_best_case" 1 q_law_best_case) (h_law_wrapped : HasFn P w K mg base 3 "_law_wrapped" 4 q_law_wrapped) (h_accepts : HasFn P w K mg base 11 "accepts" 2 q_accepts) (hk_accepts : HasFnK P w K mg base 11 "accepts" ["certificate", "claim"] q_accepts) (h_law_put : HasFn P w K mg base 1 "_law_put" 3 q_law_put) (h_law_otherwise : HasFn P w K mg base 4 "_law_otherwise" 2 q_law_otherwise) (h_law_aim_right : HasFn P w K mg base 3 "_law_aim_right" 2 q_law_aim_right) (h_law_best_right : HasFn P w K mg base 5 "_law_best_right" 3 q_law_best_right) (h_law_judged : HasFn P w K mg base 12 "_law_judged" 3 q_law_judged) (sem : ∀ cs Q, cs.length = 1 → dsp cs Q → d_law_right q_law_best_case q_law_wrapped q_accepts q_law_put q_law_otherwise q_law_aim_right q_law_best_right q_law_judged { nx := fun _ => Q .non, rt := Q } (startE N_law_right cs)) : HasFn P w K mg base 13 "_law_right" 1 dsp :=
  has_fn (d := d_law_right q_law_best_case q_law_wrapped q_accepts q_law_put q_law_otherwise q_law_aim_right q_law_best_right q_law_judged) F sc_law_right rfl (fun _ _ _ _ _ _ us hl => match us, hl with | [_], _ => rfl) (fun f cdv A outer s H E hr => by exact (sd_cons (sd_set (i := 1) sc_law_right.nd (pd_call (h_law_best_case.mono (by decide)) hr (pda_spr 0 pdl_nil) (by rfl))) (sd_cons (sd_unL rfl (pd_var 1) (pgd_cons (pg_name sc_law_right.nd rfl (by first | exact Or.inl rfl | exact Or.inr rfl)) (pgd_cons (pg_name sc_law_right.nd rfl (by first | exact Or.inl rfl | exact Or.inr rfl)) (pgd_cons (pg_name sc_law_right.nd rfl (by first | exact Or.inl rfl | exact Or.inr rfl)) (pgd_cons (pg_name sc_law_right.nd rfl (by first | exact Or.inl rfl | exact Or.inr rfl)) (pgd_cons (pg_name sc_law_right.nd rfl (by first | exact Or.inl rfl | exact Or.inr rfl)) pgd_nil)))))) (sd_cons (sd_par (i := 9) (j := 10) rfl sc_law_right.nd (pdl_cons (pd_tup (pdl_cons pd_str (pdl_cons (pd_ix (pd_var 4) pd_int) (pdl_cons (pd_var 5) (pdl_cons (pd_var 6) pdl_nil))))) (pdl_cons (pd_tup (pdl_cons (pd_var 7) (pdl_cons (pd_var 8) pdl_nil))) pdl_nil))) (sd_cons (sd_set (i := 2) sc_law_right.nd (pd_call (h_law_wrapped.mono (by decide)) hr (pda_spr 0 (pdl_cons (pd_ix (pd_var 4) pd_int) (pdl_cons (pd_var 8) (pdl_cons (pd_bin op_add3 r2_add (pd_b1 M.n_len call_lenD c1_len boot_len (pd_ix (pd_var 4) pd_int) (by rfl)) pd_int) pdl_nil)))) (by rfl))) (sd_cons (sd_if (PW.pt (pwd_or (ptd_cmp op_notBl r2_isNotB (pd_call (h_accepts.mono (by decide)) hr (pda (pdl_cons (pd_var 9) (pdl_cons (pd_var 10) pdl_nil))) (by rfl)) pd_bl (by rfl)) (pwd_or1 (ptd_cmp op_notBl r2_isNotB (pd_callK (hk_accepts.mono (by decide)) hr (pd_tup (pdl_cons (pd_var 7) (pdl_cons (pd_var 2) pdl_nil))) (pd_var 9) (by rfl)) pd_bl (by rfl))))) (sd_one (sd_ret pd_bl)) sd_nil) (sd_cons (sd_if (ptd_cmp op_notBl r2_isNotB (pd_call (h_accepts.mono (by decide)) hr (pda (pdl_cons (pd_call (h_law_put.mono (by decide)) hr (pda (pdl_cons (pd_var 9) (pdl_ci (patd_cons (petd_repl (pd_ix (pd_var 4) pd_int)) (patd_of pdl_nil))))) (by rfl)) (pdl_cons (pd_var 10) pdl_nil))) (by rfl)) pd_bl (by rfl)) (sd_one (sd_ret pd_bl)) sd_nil) (sd_cons (sd_for rfl (pid_r M.n_range pd_int (by rfl)) (pg_name sc_law_right.nd rfl (by first | exact Or.inl rfl | exact Or.inr rfl)) (rg_n (vs := [3]) (by decide)) (sd_cons (sd_unL rfl (pd_call (h_law_otherwise.mono (by decide)) hr (pda_spr 0 (pdl_cons (pd_var 1) pdl_nil)) (by rfl)) (pgd_cons (pg_name sc_law_right.nd rfl (by first | exact Or.inl rfl | exact Or.inr rfl)) (pgd_cons (pg_name sc_law_right.nd rfl (by first | exact Or.inl rfl | exact Or.inr rfl)) (pgd_cons (pg_name sc_law_right.nd rfl (by first | exact Or.inl rfl | exact Or.inr rfl)) pgd_nil)))) (sd_cons (sd_set (i := 11) sc_law_right.nd (pd_tup (pdl_cons pd_str (pdl_cons (pd_ix (pd_var 4) pd_int) (pdl_cons (pd_var 13) (pdl_cons (pd_var 14) pdl_nil)))))) (sd_cons (sd_set (i := 12) sc_law_right.nd (pd_andV (pd_call (h_law_aim_right.mono (by decide)) hr (pda (pdl_cons (pd_ix (pd_var 4) pd_int) (pdl_cons (pd_var 13) pdl_nil))) (by rfl)) (pd_oneV (pd_call (h_law_best_right.mono (by decide)) hr (pda (pdl_cons (pd_var 4) (pdl_cons (pd_var 11) (pdl_cons (pd_var 15) pdl_nil)))) (by rfl))))) (sd_one (sd_if (PW.pt (pwd_or (ptd_not (ptd_tru (pd_call (h_law_judged.mono (by decide)) hr (pda (pdl_cons (pd_var 11) (pdl_cons (pd_var 15) (pdl_cons (pd_var 12) pdl_nil)))) (by rfl)))) (pwd_or1 (ptd_cmp op_notBl r2_isNotB (pd_call (h_accepts.mono (by decide)) hr (pda (pdl_cons (pd_var 9) (pdl_cons (pd_var 10) pdl_nil))) (by rfl)) pd_bl (by rfl))))) (sd_one (sd_ret pd_bl)) sd_nil)))))) (sd_one (sd_ret pd_bl)))))))))) sem
def d_law_by_hand (q_accepts : DSp) : DS := (dSeq (dAsg 0 (dC (.str "x whole, y whole\n2*x + 2*y <= 7\nx >= 0\ny >= 0"))) (dSeq (dAsg 1 (dTup (dLcons (dTup (dLcons (dC (.str "part")) (dLcons (dTup (dLcons (dC (.int 1)) (dLcons (dC (.int 1)) dLnil))) (dLcons (dC (.int 3)) dLnil)))) (dLcons (dTup (dLcons (dC (.str "end")) (dLcons (dTup (dLcons (dC (.int 0)) (dLcons (dC (.int 0)) (dLcons (dC (.int 1)) (dLcons (dC (.int 1)) (dLcons (dC (.int 2)) dLnil)))))) dLnil))) (dLcons (dTup (dLcons (dC (.str "end")) (dLcons (dTup (dLcons (dC (.int 1)) (dLcons (dC (.int 0)) (dLcons (dC (.int 0)) (dLcons (dC (.int 0)) (dLcons (dC (.int 2)) dLnil)))))) dLnil))) dLnil))))) (dSeq (dAsg 2 (dFr (dLcons (dFr (dLcons (dTup (dLcons (dC (.int 2)) (dLcons (dC (.int 1)) dLnil))) (dLcons (dC (.int 6)) (dLcons (dTup (dLcons (dTup (dLcons (dC (.int 3)) (dLcons (dC (.int 0)) dLnil))) (dLcons (dVar 1) dLnil))) (dLcons (dC (.bl true)) dLnil))))) (dLcons (dFr (dLcons (dTup (dLcons (dC (.int 2)) (dLcons (dC (.int 1)) dLnil))) (dLcons (dC (.int 7)) (dLcons (dTup (dLcons (dTup (dLcons (dC (.int 3)) (dLcons (dC (.int 0)) dLnil))) (dLcons (dVar 1) dLnil))) (dLcons (dC (.bl false)) dLnil))))) (dLcons (dFr (dLcons (dTup (dLcons (dC (.int 2)) (dLcons (dC (.int 1)) dLnil))) (dLcons (dC (.int 5)) (dLcons (dTup (dLcons (dTup (dLcons (dC (.int 2)) (dLcons (dC (.int 1)) dLnil))) (dLcons (dVar 1) dLnil))) (dLcons (dC (.bl false)) dLnil))))) dLnil))))) (dSeq (dAsg 2 (dFr (dCat (dVar 2) (dFr (dLcons (dFr (dLcons (dTup (dLcons (dC (.int 2)) (dLcons (dC (.int 1)) dLnil))) (dLcons (dC (.int 6)) (dLcons (dTup (dLcons (dTup (dLcons (dC (.int 4)) (dLcons (dUn fNeg (dC (.int 2))) dLnil))) (dLcons (dVar 1) dLnil))) (dLcons (dC (.bl false)) dLnil))))) (dLcons (dFr (dLcons (dTup (dLcons (dC (.int 2)) (dLcons (dC (.int 1)) dLnil))) (dLcons (dC (.int 6)) (dLcons (dTup (dLcons (dTup (dLcons (dTup (dLcons (dC (.int 3)) (dLcons (dC (.int 1)) dLnil))) (dLcons (dTup (dLcons (dC (.int 0)) (dLcons (dC (.int 1)) dLnil))) dLnil))) (dLcons (dVar 1) dLnil))) (dLcons (dC (.bl false)) dLnil))))) dLnil)))))) (dSeq (dAsg 2 (dFr (dCat (dVar 2) (dFr (dLcons (dFr (dLcons (dTup (dLcons (dC (.int 0)) (dLcons (dC (.int 0)) dLnil))) (dLcons (dC (.int 0)) (dLcons (dTup (dLcons (dTup (dLcons (dC (.int 1)) (dLcons (dC (.int 1)) dLnil))) (dLcons (dTup (dLcons (dTup (dLcons (dC (.str "end")) (dLcons (dTup (dLcons (dC (.int 0)) (dLcons (dC (.int 0)) (dLcons (dC (.int 0)) (dLcons (dC (.int 1)) dLnil))))) dLnil))) dLnil)) dLnil))) (dLcons (dC (.bl true)) dLnil))))) dLnil))))) (dSeq (dAsg 2 (dFr (dCat (dVar 2) (dFr (dLcons (dFr (dLcons (dTup (dLcons (dC (.int 0)) (dLcons (dC (.int 0)) dLnil))) (dLcons (dC (.bl false)) (dLcons (dTup (dLcons (dTup (dLcons (dC (.int 1)) (dLcons (dC (.int 1)) dLnil))) (dLcons (dTup (dLcons (dTup (dLcons (dC (.str "end")) (dLcons (dTup (dLcons (dC (.int 0)) (dLcons (dC (.int 0)) (dLcons (dC (.int 0)) (dLcons (dC (.int 1)) dLnil))))) dLnil))) dLnil)) dLnil))) (dLcons (dC (.bl false)) dLnil))))) dLnil))))) (dSeq (dAsg 2 (dFr (dCat (dVar 2) (dFr (dLcons (dFr (dLcons (dTup (dLcons (dUn fNeg (dC (.int 99))) (dLcons (dC (.int 0)) dLnil))) (dLcons (dC (.int 0)) (dLcons (dTup (dLcons (dTup (dLcons (dC (.int 0)) (dLcons (dC (.int 2)) dLnil))) (dLcons (dTup (dLcons (dTup (dLcons (dC (.str "end")) (dLcons (dTup (dLcons (dC (.int 0)) (dLcons (dC (.int 99)) (dLcons (dC (.int 0)) (dLcons (dC (.int 1)) dLnil))))) dLnil))) dLnil)) dLnil))) (dLcons (dC (.bl true)) dLnil))))) dLnil))))) (dSeq (dAsg 2 (dFr (dCat (dVar 2) (dFr (dLcons (dFr (dLcons (dTup (dLcons (dUn fNeg (dC (.int 100))) (dLcons (dC (.int 0)) dLnil))) (dLcons (dC (.int 0)) (dLcons (dTup (dLcons (dTup (dLcons (dC (.int 0)) (dLcons (dC (.int 2)) dLnil))) (dLcons (dTup (dLcons (dTup (dLcons (dC (.str "end")) (dLcons (dTup (dLcons (dC (.int 0)) (dLcons (dC (.int 100)) (dLcons (dC (.int 0)) (dLcons (dC (.int 1)) dLnil))))) dLnil))) dLnil)) dLnil))) (dLcons (dC (.bl false)) dLnil))))) dLnil))))) (dSeq (dAsg 2 (dFr (dCat (dVar 2) (dFr (dLcons (dFr (dLcons (dTup (dLcons (dC (.int 0)) (dLcons (dUn fNeg (dC (.int 1))) dLnil))) (dLcons (dC (.int 0)) (dLcons (dTup (dLcons (dTup (dLcons (dC (.int 1)) (dLcons (dC (.int 0)) dLnil))) (dLcons (dTup (dLcons (dTup (dLcons (dC (.str "end")) (dLcons (dTup (dLcons (dC (.int 0)) (dLcons (dC (.int 0)) (dLcons (dC (.int 1)) (dLcons (dC (.int 1)) dLnil))))) dLnil))) dLnil)) dLnil))) (dLcons (dC (.bl true)) dLnil))))) dLnil))))) (dSeq (dFor (dIl (dVar 2)) (dgN 3) (dSeq (dIfS (dTest (dBin fNe (dUn fRepr (dCall q_accepts (dA (dLcons (dTup (dLcons (dC (.str "best")) (dLcons (dVar 0) (dLcons (dBin fIx (dVar 3) (dC (.int 0))) (dLcons (dBin fIx (dVar 3) (dC (.int 1))) dLnil))))) (dLcons (dBin fIx (dVar 3) (dC (.int 2))) dLnil))))) (dUn fRepr (dBin fIx (dVar 3) (dC (.int 3)))))) (dRet (dC (.bl false))) dNx) (dSeq (dAsg 4 (dTup (dLcons (dC (.str "best")) (dLcons (dUn (fRepl "whole" "any") (dVar 0)) (dLcons (dBin fIx (dVar 3) (dC (.int 0))) (dLcons (dBin fIx (dVar 3) (dC (.int 1))) dLnil)))))) (dIfS (dOr (dTest (dBin fIsNotB (dCall q_accepts (dA (dLcons (dVar 4) (dLcons (dBin fIx (dVar 3) (dC (.int 2))) dLnil)))) (dC (.bl false)))) (dTest (dBin fIsNotB (dCall q_accepts (dA (dLcons (dTup (dLcons (dC (.str "best")) (dLcons (dVar 0) (dLcons (dBin fIx (dVar 3) (dC (.int 0))) dLnil)))) (dLcons (dBin fIx (dVar 3) (dC (.int 2))) dLnil)))) (dC (.bl false))))) (dRet (dC (.bl false))) dNx)))) (dRet (dC (.bl true)))))))))))))
abbrev N_law_by_hand : List Str := ["_law_text_now", "_law_tree", "_law_some", "_law_each", "_law_free"]
theorem sc_law_by_hand : FnScope N_law_by_hand [] (defScope s_law_by_hand) := ⟨rfl, rfl, rfl, by decide +kernel, rfl, by decide +kernel, by decide +kernel⟩
theorem w_law_by_hand {q_accepts : DSp} {dsp : DSp} (M : Mods w K mg) (F : Def1 K mg "_law_by_hand" s_law_by_hand) (h_accepts : HasFn P w K mg base 11 "accepts" 2 q_accepts) (sem : ∀ cs Q, cs.length = 0 → dsp cs Q → d_law_by_hand q_accepts { nx := fun _ => Q .non, rt := Q } (startE N_law_by_hand cs)) : HasFn P w K mg base 12 "_law_by_hand" 0 dsp :=
  has_fn (d := d_law_by_hand q_accepts) F sc_law_by_hand rfl (fun _ _ _ _ _ _ us hl => match us, hl with | [], _ => rfl) (fun f cdv A outer s H E hr => by exact (sd_cons (sd_set (i := 0) sc_law_by_hand.nd pd_str) (sd_cons (sd_set (i := 1) sc_law_by_hand.nd (pd_tup (pdl_cons (pd_tup (pdl_cons pd_str (pdl_cons (pd_tup (pdl_cons pd_int (pdl_cons pd_int pdl_nil))) (pdl_cons pd_int pdl_nil)))) (pdl_cons (pd_tup (pdl_cons pd_str (pdl_cons (pd_tup (pdl_cons pd_int (pdl_cons pd_int (pdl_cons pd_int (pdl_cons pd_int (pdl_cons pd_int pdl_nil)))))) pdl_nil))) (pdl_cons (pd_tup (pdl_cons pd_str (pdl_cons (pd_tup (pdl_cons pd_int (pdl_cons pd_int (pdl_cons pd_int (pdl_cons pd_int (pdl_cons pd_int pdl_nil)))))) pdl_nil))) pdl_nil))))) (sd_cons (sd_set (i := 2) sc_law_by_hand.nd (pd_fr (pf_lst (pdl_cons (pd_fr (pf_lst (pdl_cons (pd_tup (pdl_cons pd_int (pdl_cons pd_int pdl_nil))) (pdl_cons pd_int (pdl_cons (pd_tup (pdl_cons (pd_tup (pdl_cons pd_int (pdl_cons pd_int pdl_nil))) (pdl_cons (pd_var 1) pdl_nil))) (pdl_cons pd_bl pdl_nil)))))) (pdl_cons (pd_fr (pf_lst (pdl_cons (pd_tup (pdl_cons pd_int (pdl_cons pd_int pdl_nil))) (pdl_cons pd_int (pdl_cons (pd_tup (pdl_cons (pd_tup (pdl_cons pd_int (pdl_cons pd_int pdl_nil))) (pdl_cons (pd_var 1) pdl_nil))) (pdl_cons pd_bl pdl_nil)))))) (pdl_cons (pd_fr (pf_lst (pdl_cons (pd_tup (pdl_cons pd_int (pdl_cons pd_int pdl_nil))) (pdl_cons pd_int (pdl_cons (pd_tup (pdl_cons (pd_tup (pdl_cons pd_int (pdl_cons pd_int pdl_nil))) (pdl_cons (pd_var 1) pdl_nil))) (pdl_cons pd_bl pdl_nil)))))) pdl_nil)))))) (sd_cons (sd_set (i := 2) sc_law_by_hand.nd (pd_fr (pf_cat (pd_var 2) (pd_fr (pf_lst (pdl_cons (pd_fr (pf_lst (pdl_cons (pd_tup (pdl_cons pd_int (pdl_cons pd_int pdl_nil))) (pdl_cons pd_int (pdl_cons (pd_tup (pdl_cons (pd_tup (pdl_cons pd_int (pdl_cons (pd_neg pd_int) pdl_nil))) (pdl_cons (pd_var 1) pdl_nil))) (pdl_cons pd_bl pdl_nil)))))) (pdl_cons (pd_fr (pf_lst (pdl_cons (pd_tup (pdl_cons pd_int (pdl_cons pd_int pdl_nil))) (pdl_cons pd_int (pdl_cons (pd_tup (pdl_cons (pd_tup (pdl_cons (pd_tup (pdl_cons pd_int (pdl_cons pd_int pdl_nil))) (pdl_cons (pd_tup (pdl_cons pd_int (pdl_cons pd_int pdl_nil))) pdl_nil))) (pdl_cons (pd_var 1) pdl_nil))) (pdl_cons pd_bl pdl_nil)))))) pdl_nil))))))) (sd_cons (sd_set (i := 2) sc_law_by_hand.nd (pd_fr (pf_cat (pd_var 2) (pd_fr (pf_lst (pdl_cons (pd_fr (pf_lst (pdl_cons (pd_tup (pdl_cons pd_int (pdl_cons pd_int pdl_nil))) (pdl_cons pd_int (pdl_cons (pd_tup (pdl_cons (pd_tup (pdl_cons pd_int (pdl_cons pd_int pdl_nil))) (pdl_cons (pd_tup (pdl_cons (pd_tup (pdl_cons pd_str (pdl_cons (pd_tup (pdl_cons pd_int (pdl_cons pd_int (pdl_cons pd_int (pdl_cons pd_int pdl_nil))))) pdl_nil))) pdl_nil)) pdl_nil))) (pdl_cons pd_bl pdl_nil)))))) pdl_nil)))))) (sd_cons (sd_set (i := 2) sc_law_by_hand.nd (pd_fr (pf_cat (pd_var 2) (pd_fr (pf_lst (pdl_cons (pd_fr (pf_lst (pdl_cons (pd_tup (pdl_cons pd_int (pdl_cons pd_int pdl_nil))) (pdl_cons pd_bl (pdl_cons (pd_tup (pdl_cons (pd_tup (pdl_cons pd_int (pdl_cons pd_int pdl_nil))) (pdl_cons (pd_tup (pdl_cons (pd_tup (pdl_cons pd_str (pdl_cons (pd_tup (pdl_cons pd_int (pdl_cons pd_int (pdl_cons pd_int (pdl_cons pd_int pdl_nil))))) pdl_nil))) pdl_nil)) pdl_nil))) (pdl_cons pd_bl pdl_nil)))))) pdl_nil)))))) (sd_cons (sd_set (i := 2) sc_law_by_hand.nd (pd_fr (pf_cat (pd_var 2) (pd_fr (pf_lst (pdl_cons (pd_fr (pf_lst (pdl_cons (pd_tup (pdl_cons (pd_neg pd_int) (pdl_cons pd_int pdl_nil))) (pdl_cons pd_int (pdl_cons (pd_tup (pdl_cons (pd_tup (pdl_cons pd_int (pdl_cons pd_int pdl_nil))) (pdl_cons (pd_tup (pdl_cons (pd_tup (pdl_cons pd_str (pdl_cons (pd_tup (pdl_cons pd_int (pdl_cons pd_int (pdl_cons pd_int (pdl_cons pd_int pdl_nil))))) pdl_nil))) pdl_nil)) pdl_nil))) (pdl_cons pd_bl pdl_nil)))))) pdl_nil)))))) (sd_cons (sd_set (i := 2) sc_law_by_hand.nd (pd_fr (pf_cat (pd_var 2) (pd_fr (pf_lst (pdl_cons (pd_fr (pf_lst (pdl_cons (pd_tup (pdl_cons (pd_neg pd_int) (pdl_cons pd_int pdl_nil))) (pdl_cons pd_int (pdl_cons (pd_tup (pdl_cons (pd_tup (pdl_cons pd_int (pdl_cons pd_int pdl_nil))) (pdl_cons (pd_tup (pdl_cons (pd_tup (pdl_cons pd_str (pdl_cons (pd_tup (pdl_cons pd_int (pdl_cons pd_int (pdl_cons pd_int (pdl_cons pd_int pdl_nil))))) pdl_nil))) pdl_nil)) pdl_nil))) (pdl_cons pd_bl pdl_nil)))))) pdl_nil)))))) (sd_cons (sd_set (i := 2) sc_law_by_hand.nd (pd_fr (pf_cat (pd_var 2) (pd_fr (pf_lst (pdl_cons (pd_fr (pf_lst (pdl_cons (pd_tup (pdl_cons pd_int (pdl_cons (pd_neg pd_int) pdl_nil))) (pdl_cons pd_int (pdl_cons (pd_tup (pdl_cons (pd_tup (pdl_cons pd_int (pdl_cons pd_int pdl_nil))) (pdl_cons (pd_tup (pdl_cons (pd_tup (pdl_cons pd_str (pdl_cons (pd_tup (pdl_cons pd_int (pdl_cons pd_int (pdl_cons pd_int (pdl_cons pd_int pdl_nil))))) pdl_nil))) pdl_nil)) pdl_nil))) (pdl_cons pd_bl pdl_nil)))))) pdl_nil)))))) (sd_cons (sd_for rfl (pid_l (pd_var 2)) (pg_name sc_law_by_hand.nd rfl (by first | exact Or.inl rfl | exact Or.inr rfl)) (rg_n (vs := [3]) (by decide)) (sd_cons (sd_if (ptd_cmp op_ne r2_ne (pd_b1 M.n_repr call_reprB c1_repr boot_repr (pd_call (h_accepts.mono (by decide)) hr (pda (pdl_cons (pd_tup (pdl_cons pd_str (pdl_cons (pd_var 0) (pdl_cons (pd_ix (pd_var 3) pd_int) (pdl_cons (pd_ix (pd_var 3) pd_int) pdl_nil))))) (pdl_cons (pd_ix (pd_var 3) pd_int) pdl_nil))) (by rfl)) (by rfl)) (pd_b1 M.n_repr call_reprB c1_repr boot_repr (pd_ix (pd_var 3) pd_int) (by rfl)) (by rfl)) (sd_one (sd_ret pd_bl)) sd_nil) (sd_cons (sd_set (i := 4) sc_law_by_hand.nd (pd_tup (pdl_cs (patd_cons (petd_repl (pd_var 0)) (patd_of (pdl_cons (pd_ix (pd_var 3) pd_int) (pdl_cons (pd_ix (pd_var 3) pd_int) pdl_nil))))))) (sd_one (sd_if (PW.pt (pwd_or (ptd_cmp op_notBl r2_isNotB (pd_call (h_accepts.mono (by decide)) hr (pda (pdl_cons (pd_var 4) (pdl_cons (pd_ix (pd_var 3) pd_int) pdl_nil))) (by rfl)) pd_bl (by rfl)) (pwd_or1 (ptd_cmp op_notBl r2_isNotB (pd_call (h_accepts.mono (by decide)) hr (pda (pdl_cons (pd_tup (pdl_cons pd_str (pdl_cons (pd_var 0) (pdl_cons (pd_ix (pd_var 3) pd_int) pdl_nil)))) (pdl_cons (pd_ix (pd_var 3) pd_int) pdl_nil))) (by rfl)) pd_bl (by rfl))))) (sd_one (sd_ret pd_bl)) sd_nil))))) (sd_one (sd_ret pd_bl))))))))))))) sem
def d_law (q_law_by_hand : DSp) (q_law_right : DSp) (q_law_spring : DSpL) : DS := (dSeq (dIfS (dNot (dTru (dCall q_law_by_hand (dA dLnil)))) (dRet (dC (.bl false))) dNx) (dRet (dUn fAll (dFr (dLc (dIr (dBin fMax (dC (.int 2)) (dBin fMin (dUn fLen (dVar 0)) (dC (.int 6))))) (dgN 1) dYes (dCallNew q_law_right (dCallF q_law_spring (dA (dLcons (dVar 0) (dLcons (dVar 1) dLnil))))) [1])))))
abbrev N_law : List Str := ["_law_cells", "_law_k"]
theorem sc_law : FnScope N_law ["_law_cells"] (defScope s_law) := ⟨rfl, rfl, rfl, by decide +kernel, rfl, by decide +kernel, by decide +kernel⟩
theorem w_law {q_law_by_hand : DSp} {q_law_right : DSp} {q_law_spring : DSpL} {dsp : DSp} (M : Mods w K mg) (F : Def1 K mg "law" s_law) (h_law_by_hand : HasFn P w K mg base 12 "_law_by_hand" 0 q_law_by_hand) (h_law_right : HasFn P w K mg base 13 "_law_right" 1 q_law_right) (h_law_spring : HasFnF P w K mg base 1 "_law_spring" 2 q_law_spring) (sem : ∀ cs Q, cs.length = 1 → dsp cs Q → d_law q_law_by_hand q_law_right q_law_spring { nx := fun _ => Q .non, rt := Q } (startE N_law cs)) : HasFn P w K mg base 14 "law" 1 dsp :=
  has_fn (d := d_law q_law_by_hand q_law_right q_law_spring) F sc_law rfl (fun _ _ _ _ _ _ us hl => match us, hl with | [_], _ => rfl) (fun f cdv A outer s H E hr => by exact (sd_cons (sd_if (ptd_not (ptd_tru (pd_call0 (h_law_by_hand.mono (by decide)) hr (by rfl)))) (sd_one (sd_ret pd_bl)) sd_nil) (sd_one (sd_ret (pd_b1 M.n_all (cr_all rfl) c1_all boot_all (pd_fr (pf_lc rfl sc_law.nd (pid_r M.n_range (pd_b2 M.n_max (call_max2 rfl) c2_max boot_max pd_int (pd_b2 M.n_min (call_min2 rfl) c2_min boot_min (pd_b1 M.n_len call_lenD c1_len boot_len (pd_var 0) (by rfl)) pd_int (by rfl)) (by rfl)) (by rfl)) (blkOk_by (own := [("_law_k", 1)]) (by kernel_rfl)) (rg_n (by decide)) (fun _ _ _ _ _ => pg_name sc_law.nd rfl (by first | exact Or.inl rfl | exact Or.inr rfl)) (fun _ _ _ _ _ => ptsd_nil) (fun _ _ _ _ _ => (pd_callNew (h_law_right.mono (by decide)) hr (pf_call (h_law_spring.mono (by decide)) hr (pda (pdl_cons (pd_var 0) (pdl_cons (pd_var 1) pdl_nil))) (by rfl)) (by rfl))))) (by rfl)))))) sem
end
end Fe
set_option Elab.async false
set_option linter.all false
set_option maxRecDepth 100000
set_option maxHeartbeats 4000000
/-! Layer 2 (printed by gen_defs.py): System.__init__, System.read, system_of. -/
namespace Fe
open PySem PySem.W PySem.Calls PyProof.Rows L2
section
variable {P : Program} {w : World} {K : PySem.W.Frag} {mg : Str → Option Value} {base : Heap}
def d_init (q_wrong_rows : DSp) (q_unknowns_in : DSp) (q_inequality_in : DSp) : DS := (dSeq (dAsg 2 (dCall q_wrong_rows (dA (dLcons (dVar 1) dLnil)))) (dSeq (dIfS (dTru (dVar 2)) dNoS dNx) (dSeq (dSetF 0 "told" (dVar 1)) (dSeq (dSetF 0 "kinds" (dCall q_unknowns_in (dA (dLcons (dBin fIx (dVar 1) (dC (.int 0))) dLnil)))) (dSeq (dSetF 0 "letters" (dSl (dC (.str "xy")) dNo (dPart (dUn fLen (dSelf 0 "kinds"))))) (dSeq (dSetF 0 "solid" (dBin fJoin (dS (dC (.str ""))) (dFr (dLc (dZip (dC (.str "xy")) (dSelf 0 "kinds")) (dgT 4 5) (dTest (dBin fEq (dVar 5) (dC (.str "whole")))) (dVar 4) [4, 5])))) (dSetF 0 "bounds" (dUn fTuple (dFr (dLc (dIt (dSl (dVar 1) (dPart (dC (.int 1))) dNo)) (dgN 3) dYes (dCall q_inequality_in (dA (dLcons (dVar 3) (dLcons (dUn fLen (dSelf 0 "kinds")) dLnil)))) [3]))))))))))
abbrev N_init : List Str := ["self", "rows", "wrong", "row", "letter", "kind"]
theorem sc_init : FnScope N_init ["self", "rows"] (defScope s_init) := ⟨rfl, rfl, rfl, by decide +kernel, rfl, by decide +kernel, by decide +kernel⟩
theorem w_init {q_wrong_rows : DSp} {q_unknowns_in : DSp} {q_inequality_in : DSp} {dsp : DSpI} (M : Mods w K mg) (F : DefI K) (h_wrong_rows : HasFn P w K mg base 5 "wrong_rows" 1 q_wrong_rows) (h_unknowns_in : HasFn P w K mg base 1 "unknowns_in" 1 q_unknowns_in) (h_inequality_in : HasFn P w K mg base 4 "inequality_in" 2 q_inequality_in) (sem : InitD (d_init q_wrong_rows q_unknowns_in q_inequality_in) N_init dsp) : HasI P w K mg base 6 dsp :=
  has_init (d := d_init q_wrong_rows q_unknowns_in q_inequality_in) F sc_init (fun f cdv A outer s H E hr => by exact (sd_cons (sd_set (i := 2) sc_init.nd (pd_call (h_wrong_rows.mono (by decide)) hr (pda (pdl_cons (pd_var 1) pdl_nil)) (by rfl))) (sd_cons (sd_if (ptd_tru (pd_var 2)) sd_no sd_nil) (sd_cons (sd_setF 0 M.sys M.sys.nt (pd_var 1)) (sd_cons (sd_setF 0 M.sys M.sys.nk (pd_call (h_unknowns_in.mono (by decide)) hr (pda (pdl_cons (pd_ix (pd_var 1) pd_int) pdl_nil)) (by rfl))) (sd_cons (sd_setF 0 M.sys M.sys.nl (pd_sl (pd_gstr M.c_UNKNOWNS (by rfl)) pod_no (pod_some (pd_b1 M.n_len call_lenD c1_len boot_len (pd_self 0 M.sys M.sys.nk) (by rfl))))) (sd_cons (sd_setF 0 M.sys M.sys.ns (pd_join pd_str (pd_fr (pf_lc rfl sc_init.nd (pid_z M.n_zip (pd_gstr M.c_UNKNOWNS (by rfl)) (pd_self 0 M.sys M.sys.nk) (by rfl)) (blkOk_by (own := [("letter", 4), ("kind", 5)]) (by kernel_rfl)) (rg_t (by decide) (by decide)) (fun _ _ _ _ _ => pg_tup rfl (pgs_cons (pg_name sc_init.nd rfl (by first | exact Or.inl rfl | exact Or.inr rfl)) (pgs_cons (pg_name sc_init.nd rfl (by first | exact Or.inl rfl | exact Or.inr rfl)) pgs_nil))) (fun _ _ _ _ _ => (ptsd_one (ptd_cmp op_eq r2_eq (pd_var 5) pd_str (by rfl)))) (fun _ _ _ _ _ => (pd_var 4)))))) (sd_one (sd_setF 0 M.sys M.sys.nb (pd_t1 M.n_tuple call_tuple_of c1_tuple boot_tuple (pd_fr (pf_lc rfl sc_init.nd (pid_t (pd_sl (pd_var 1) (pod_some pd_int) pod_no)) (blkOk_by (own := [("row", 3)]) (by kernel_rfl)) (rg_n (by decide)) (fun _ _ _ _ _ => pg_name sc_init.nd rfl (by first | exact Or.inl rfl | exact Or.inr rfl)) (fun _ _ _ _ _ => ptsd_nil) (fun _ _ _ _ _ => (pd_call (h_inequality_in.mono (by decide)) hr (pda (pdl_cons (pd_var 3) (pdl_cons (pd_b1 M.n_len call_lenD c1_len boot_len (pd_self 0 M.sys M.sys.nk) (by rfl)) pdl_nil))) (by rfl))))) (by rfl))))))))))) sem
def d_read (q_init : DSpI) (q_wrong_rows : DSp) : DS := (dSeq (dAsg 2 (dIf (dTru (dUn (fIsi "str") (dVar 1))) (dBin fSplit (dS (dVar 1)) (dC (.str "\n"))) (dFr dLnil))) (dSeq (dIfS (dTru (dCall q_wrong_rows (dA (dLcons (dVar 2) dLnil)))) dNoS dNx) (dRet (dMake q_init (dVar 2)))))
abbrev N_read : List Str := ["cls", "text", "rows"]
theorem sc_read : FnScope N_read ["cls", "text"] (defScope s_read) := ⟨rfl, rfl, rfl, by decide +kernel, rfl, by decide +kernel, by decide +kernel⟩
theorem w_read {q_init : DSpI} {q_wrong_rows : DSp} {dsp : DSp} (M : Mods w K mg) (F : DefR K) (h_init : HasI P w K mg base 6 q_init) (h_wrong_rows : HasFn P w K mg base 5 "wrong_rows" 1 q_wrong_rows) (sem : ∀ t Q, dsp [.dat t] Q → d_read q_init q_wrong_rows { nx := fun _ => Q .non, rt := Q } (startR N_read t)) : HasR P w K mg base 8 dsp :=
  has_read (k := 7) (d := d_read q_init q_wrong_rows) F sc_read (fun f cdv A outer s H E hr => by exact (sd_cons (sd_set (i := 2) sc_read.nd (pd_if (ptd_tru (pd_isi M.n_isinstance M.n_str boot_str (.inr (.inr (.inl rfl))) (pd_var 1) (by rfl) (by rfl))) (pd_split (pd_var 1) pd_str) (pd_fr (pf_lst pdl_nil)))) (sd_cons (sd_if (ptd_tru (pd_call (h_wrong_rows.mono (by decide)) hr (pda (pdl_cons (pd_var 2) pdl_nil)) (by rfl))) sd_no sd_nil) (sd_one (sd_ret (pd_make h_init hr M.c_System (pd_var 2) (by rfl))))))) sem
def d_system_of (q_read : DSp) : DS := (dSeq (dAsg 1 (dCall q_read (dA (dLcons (dVar 0) dLnil)))) (dRet (dVar 1)))
abbrev N_system_of : List Str := ["text", "found"]
theorem sc_system_of : FnScope N_system_of ["text"] (defScope s_system_of) := ⟨rfl, rfl, rfl, by decide +kernel, rfl, by decide +kernel, by decide +kernel⟩
theorem w_system_of {q_read : DSp} {dsp : DSp} (M : Mods w K mg) (F : Def1 K mg "system_of" s_system_of) (h_read : HasR P w K mg base 8 q_read) (sem : ∀ cs Q, cs.length = 1 → dsp cs Q → d_system_of q_read { nx := fun _ => Q .non, rt := Q } (startE N_system_of cs)) : HasFn P w K mg base 9 "system_of" 1 dsp := by
  obtain ⟨c, hc⟩ := M.c_InvalidText
  exact has_fn (k := 8) (d := d_system_of q_read) F sc_system_of rfl (fun _ _ _ _ _ _ us hl => match us, hl with | [_], _ => rfl) (fun f cdv A outer s H E hr => by exact (sd_cons (sd_try (c := c) rfl rfl ⟨rfl, by decide, .inl hc⟩ (fun _ _ ⟨_, _, _, _, _, _, _, _, _, _, _, _, _, _, _, _, z⟩ => z.elim) (fun pn xe => (sd_one (sd_set (i := 1) sc_system_of.nd (pd_read h_read hr M.c_System (pd_var 0) (by rfl)))))) (sd_one (sd_ret (pd_var 1))))) sem
end
end Fe
set_option Elab.async false
set_option linter.all false
set_option maxRecDepth 100000
set_option maxHeartbeats 0
/-! What the program's top leaves: each def where it stands, the names that are free, the class System. -/
namespace Fe
open PySem PySem.W PySem.Calls PyProof.Rows L2

/-! ### facts -/
def rdAt (K : PySem.W.Frag) : Addr := He5.wf K (sysC K) "classmethod" "read"
def dd (x : Str) (st : Stmt) : He5.DefA := ⟨fun K => He.ga K x, x, x, defArgs st, defBody st, defScope st, [], []⟩
def fn0 : List He5.DefA := [dd "is_integer" s_is_integer, dd "is_between" s_is_between, dd "divisor" s_divisor, dd "ratio" s_ratio, dd "is_fraction" s_is_fraction, dd "plus" s_plus, dd "times" s_times, dd "sum_at" s_sum_at, dd "at_most" s_at_most, dd "at_least" s_at_least, dd "number_in" s_number_in, dd "signed_in" s_signed_in]
def fn1 : List He5.DefA := [dd "unknowns_in" s_unknowns_in, dd "term_in" s_term_in, dd "sum_in" s_sum_in, dd "inequality_in" s_inequality_in, dd "wrong_rows" s_wrong_rows, dd "is_aim" s_is_aim, dd "is_solid" s_is_solid, dd "is_point" s_is_point, dd "as_fractions" s_as_fractions, dd "gaps_at" s_gaps_at, dd "broken_at" s_broken_at, dd "system_of" s_system_of]
def fn2 : List He5.DefA := [dd "are_integers" s_are_integers, dd "is_parting" s_is_parting, dd "is_end" s_is_end, dd "is_tree" s_is_tree, dd "is_pair" s_is_pair, dd "accepts_best" s_accepts_best, dd "accepts" s_accepts, dd "_law_spring" s_law_spring, dd "_law_draw" s_law_draw, dd "_law_of" s_law_of, dd "_law_term" s_law_term, dd "_law_sum_text" s_law_sum_text]
def fn3 : List He5.DefA := [dd "_law_divisor" s_law_divisor, dd "_law_point_keeps" s_law_point_keeps, dd "_law_integer" s_law_integer, dd "_law_integers" s_law_integers, dd "_law_total" s_law_total, dd "_law_pair" s_law_pair, dd "_law_end_right" s_law_end_right, dd "_law_parting_right" s_law_parting_right, dd "_law_tree_right" s_law_tree_right, dd "_law_is_fraction" s_law_is_fraction, dd "_law_fits" s_law_fits, dd "_law_aim_right" s_law_aim_right]
def fn4 : List He5.DefA := [dd "_law_best_right" s_law_best_right, dd "_law_judged" s_law_judged, dd "_law_entry" s_law_entry, dd "_law_lifted" s_law_lifted, dd "_law_wrapped" s_law_wrapped, dd "_law_put" s_law_put, dd "_law_bent_node" s_law_bent_node, dd "_law_bent_spot" s_law_bent_spot, dd "_law_bent_pair" s_law_bent_pair, dd "_law_bent_numbers" s_law_bent_numbers, dd "_law_kept" s_law_kept, dd "_law_best_case" s_law_best_case]
def fn5 : List He5.DefA := [dd "_law_otherwise" s_law_otherwise, dd "_law_right" s_law_right, dd "_law_by_hand" s_law_by_hand, dd "law" s_law, ⟨fun K => He.ma K (sysC K) "__init__", "__init__", "System.__init__", defArgs s_init, defBody s_init, defScope s_init, [], []⟩, ⟨rdAt, "read", "System.read", defArgs s_read, defBody s_read, defScope s_read, [], []⟩]
def fnL : List He5.DefA := fn0 ++ fn1 ++ fn2 ++ fn3 ++ fn4 ++ fn5
def fa0 : List He.Fa := [.glo "is_integer", .glo "is_between", .glo "divisor", .glo "ratio", .glo "is_fraction", .glo "plus", .glo "times", .glo "sum_at", .glo "at_most", .glo "at_least", .glo "number_in", .glo "signed_in", .glo "unknowns_in", .glo "term_in", .glo "sum_in", .glo "inequality_in", .glo "wrong_rows", .glo "is_aim", .glo "is_solid", .glo "is_point", .glo "as_fractions", .glo "gaps_at", .glo "broken_at", .glo "system_of", .glo "are_integers", .glo "is_parting", .glo "is_end", .glo "is_tree", .glo "is_pair", .glo "accepts_best"]
def fa1 : List He.Fa := [.glo "accepts", .glo "_law_spring", .glo "_law_draw", .glo "_law_of", .glo "_law_term", .glo "_law_sum_text", .glo "_law_divisor", .glo "_law_point_keeps", .glo "_law_integer", .glo "_law_integers", .glo "_law_total", .glo "_law_pair", .glo "_law_end_right", .glo "_law_parting_right", .glo "_law_tree_right", .glo "_law_is_fraction", .glo "_law_fits", .glo "_law_aim_right", .glo "_law_best_right", .glo "_law_judged", .glo "_law_entry", .glo "_law_lifted", .glo "_law_wrapped", .glo "_law_put", .glo "_law_bent_node", .glo "_law_bent_spot", .glo "_law_bent_pair", .glo "_law_bent_numbers", .glo "_law_kept", .glo "_law_best_case"]
def fa2 : List He.Fa := [.glo "_law_otherwise", .glo "_law_right", .glo "_law_by_hand", .glo "law", .glo "System", .free "isinstance", .free "int", .free "bool", .free "tuple", .free "str", .free "list", .free "len", .free "all", .free "any", .free "sum", .free "abs", .free "zip", .free "range", .free "enumerate", .free "max", .free "min", .free "divmod", .free "repr", .int "MOST_INEQUALITIES" 10, .int "MOST_WEIGHT" 99, .int "MOST_CONSTANT" 1000000, .str "FIGURES" "0123456789", .str "UNKNOWNS" "xy", .str "JOIN" ", ", .str "PART" "part"]
def fa3 : List He.Fa := [.str "END" "end", .cls "System", .mkr "System", .noat "System" "told", .noat "System" "kinds", .noat "System" "letters", .noat "System" "solid", .noat "System" "bounds", .glo "InvalidText", .glo "KINDS", .glo "LENGTHS"]
def faL : List He.Fa := fa0 ++ fa1 ++ fa2 ++ fa3
def lenKeys : List Str := ["none", "point", "least", "best", "endless"]
def exB (K : PySem.W.Frag) : Bool := He.tupB K "KINDS" [.str "whole", .str "any"] && (He.valsB K (He.ga K "LENGTHS") [("best", .int 4)] && (He5.wrapB K (sysC K) "classmethod" "classmethod.__get__" "read" && (PySem.W.fnIn K (rdAt K) && (PySem.W.readsIn K (sysC K) (.type "type") &&
  He.eqO (PySem.W.specialIn K (.ref (sysC K)) "__getattribute__") (some (some (.builtin "type.__getattribute__")))))))
abbrev Al : Type := He.AlD × Option (List (Option (Str × Int))) × Bool
def obs1 (K : PySem.W.Frag) : Al := (He5.obsA faL fnL K, He.dicW K (He.ga K "LENGTHS"), exB K)
def val1 (w : World) : Al := (He5.valA fnL, some (He.keysIn w.params lenKeys), true)
def Says (w : World) (K : PySem.W.Frag) : Prop := obs1 K = val1 w
/-- what the names reach in five steps, and the interpreter's own statics -/
def nxt (g : Addr → Option Obj) (l : List Addr) : List Addr := l.flatMap fun a => match g a with
  | some o => He.refsD o
  | none => []
def reach (g : Addr → Option Obj) : Nat → List Addr → List Addr
  | 0, l => l
  | n + 1, l => l ++ reach g n (nxt g l)
def asF (g : Addr → Option Obj) : List Addr := PySem.cStatics :: reach g 5 [PySem.mainGlobals]
/-- lists are left out: the script may stand at any address -/
def isL (o : Obj) : Bool := match o.cls with
  | .type c => decide (c = "list")
  | _ => false
def noL (K : PySem.W.Frag) : PySem.W.Frag := List.filter (fun p => !isL p.2) K
def NoL (K : PySem.W.Frag) : Prop := ∀ a o, K.lookup a = some o → isL o = false
theorem lookup_mem {a : Addr} {o : Obj} : ∀ {K : List (Addr × Obj)}, List.lookup a K = some o → (a, o) ∈ K
  | [], h => nomatch h
  | (b, p) :: K, h => by
    rw [List.lookup_cons] at h
    cases q : (a == b) with
    | true =>
      rw [q] at h
      have e : p = o := Option.some.inj h
      rw [beq_iff_eq.mp q, e]
      exact List.mem_cons_self
    | false =>
      rw [q] at h
      exact List.mem_cons_of_mem _ (lookup_mem h)
theorem noL_ok (K : PySem.W.Frag) : NoL (noL K) := fun a o h => by
  have m := (List.mem_filter.mp (lookup_mem h)).2
  cases q : isL o with
  | false => rfl
  | true =>
    have m' : (!isL o) = true := m
    rw [q] at m'
    cases m'
theorem noL_in {as : List Addr} {h : Heap} : (noL (He.frG h.get? as)).In h := fun a o e => by
  have m := (List.mem_filter.mp (lookup_mem e)).1
  obtain ⟨b, _, hb⟩ := List.mem_filterMap.mp m
  cases q : h.get? b with
  | none =>
    rw [q] at hb
    cases hb
  | some p =>
    rw [q] at hb
    cases hb
    exact q
def obsG1 (g : Addr → Option Obj) : Al := obs1 (noL (He.frG g (asF g)))
def hk : PySem.W.Hook where
  α := Al
  obs := fun s => obsG1 s.heap.get?
  val := fun w => val1 w
  says := fun w h => ∃ K : PySem.W.Frag, K.In h ∧ Says w K ∧ NoL K
  of := fun _ _ e => ⟨_, noL_in, e, noL_ok _⟩
  keeps := fun _ _ _ ⟨K, hK, c, n⟩ k => ⟨K, PySem.W.Frag.In.keeps hK k, c, n⟩
abbrev RowO : PySem.W.OpenRow := PySem.W.OpenLaw.row RowL
def ob (s : PySem.W.SharedT) : Al := obsG1 (HandSHeadRun.getT s)
theorem ob_eq (s : PySem.W.SharedT) : ob s = hk.obs s.abs := by
  have e : HandSHeadRun.getT s = s.abs.heap.get? := funext (HandSHeadRun.getT_eq s)
  show obsG1 (HandSHeadRun.getT s) = obsG1 s.abs.heap.get?
  rw [e]
def lo0 : List Str := ["_wall", "WrongValue", "InvalidText", "InvalidLot", "InvalidRows", "is_integer", "is_between", "divisor", "ratio", "is_fraction", "plus", "times", "PART", "END", "sum_at", "at_most", "at_least", "MOST_INEQUALITIES", "MOST_WEIGHT", "MOST_CONSTANT", "FIGURES", "UNKNOWNS", "KINDS", "JOIN", "number_in", "signed_in", "unknowns_in", "term_in", "sum_in", "inequality_in"]
def lo1 : List Str := ["wrong_rows", "is_lot", "System", "check_lot", "is_aim", "is_solid", "is_point", "as_fractions", "gaps_at", "broken_at", "LENGTHS", "system_of", "are_integers", "is_parting", "is_end", "is_tree", "is_pair", "accepts_least", "accepts_best", "accepts_endless", "accepts", "_law_spring", "_law_draw", "_law_of", "_law_term", "_law_sum_text", "_law_divisor", "_law_point_keeps", "_law_integer", "_law_integers"]
def lo2 : List Str := ["_law_total", "_law_pair", "_law_end_right", "_law_parting_right", "_law_tree_right", "_law_is_fraction", "_law_fits", "_law_aim_right", "_law_best_right", "_law_judged", "_law_entry", "_law_lifted", "_law_wrapped", "_law_put", "_law_bent_node", "_law_bent_spot", "_law_bent_pair", "_law_bent_numbers", "_law_kept", "_law_best_case", "_law_otherwise", "_law_right", "_law_by_hand"]
def looseL : List Str := lo0 ++ lo1 ++ lo2
def lawIx : Nat := 90
theorem run_f (w : World) : HandSHeadRun.RunEq RowO (PySem.W.view RowO.prog [lawIx]) hk ob 6000 looseL (w.withFollow "special-get-raises" false) := by
  intro os
  kernel_rfl
theorem run_t (w : World) : HandSHeadRun.RunEq RowO (PySem.W.view RowO.prog [lawIx]) hk ob 6000 looseL (w.withFollow "special-get-raises" true) := by
  intro os
  kernel_rfl
theorem run (w : World) : HandSHeadRun.RunEq RowO (PySem.W.view RowO.prog [lawIx]) hk ob 6000 looseL w := PySem.W.byRow2 "special-get-raises" (P := fun w => HandSHeadRun.RunEq RowO (PySem.W.view RowO.prog [lawIx]) hk ob 6000 looseL w) run_f run_t w
end Fe
set_option Elab.async false
set_option linter.all false
set_option maxRecDepth 100000
set_option maxHeartbeats 4000000
/-! Layer 3: what the defs compute. Numbers. -/
namespace Fe
open PySem PySem.W PySem.Calls PyProof.Rows L2

def isInt : D → Bool
  | .int _ => true
  | _ => false
def isSys : D → Bool
  | .sys .. => true
  | _ => false
def sp_is_integer : DSp := fun cs Q => match cs with
  | [.dat d] => isSys d = false ∧ Q (.bl (isInt d))
  | _ => False
theorem sem_is_integer (cs : List Cell) (Q : D → Prop) (hl : cs.length = 1) (h : sp_is_integer cs Q) : d_is_integer { nx := fun _ => Q .non, rt := Q } (startE N_is_integer cs) := by
  unfold sp_is_integer at h
  split at h
  · rename_i d
    cases d with
    | sys => exact nomatch h.1
    | _ => exact h.2
  · exact h.elim
def btw (v : D) (lo hi : Int) : Bool := match v with
  | .int i => decide (lo ≤ i) && decide (i ≤ hi)
  | _ => false
def sp_is_between : DSp := fun cs Q => match cs with
  | [.dat v, .dat (.int lo), .dat (.int hi)] => isSys v = false ∧ Q (.bl (btw v lo hi))
  | _ => False
theorem sem_is_between (cs : List Cell) (Q : D → Prop) (hl : cs.length = 3) (h : sp_is_between cs Q) : d_is_between sp_is_integer { nx := fun _ => Q .non, rt := Q } (startE N_is_between cs) := by
  unfold sp_is_between at h
  split at h
  · rename_i v lo hi
    obtain ⟨h1, h⟩ := h
    refine ⟨h1, ?_⟩
    cases v with
    | int i =>
      simp only [isInt, startE, List.map_cons, List.map_nil, List.length_cons, List.length_nil, List.replicate, List.cons_append, List.nil_append, List.getElem?_cons_zero, List.getElem?_cons_succ, List.set_cons_zero, List.set_cons_succ, wipeE, dSeq, dRet, dAsg, dAsgO, dPar, dParO, dIfS, dNx, dExpr, dFreeze, dAppend, dPop, dSetI, dFor, dUnT, dUnL, setE, dVar, dC, dBin, dUn, dCall, dA, dAS, dLnil, dLcons, dTup, dTest, dTru, dNot, dAnd, dOr, dAndV, dOrV, dNotT, dIf, dIfT, dChain, dFr, dLc, dYes, dIl, dIt, dIs, dIr, dgN, dgT, dZip, dEnum, itemsD, dSl, dNo, dPart, dIsN, dCat, dRep, dListOf, dStarL, dTruO, dCmpO, dS, fAdd, fSub, fMul, fMod, fDiv, fPow, fLt, fLe, fGt, fGe, fNeg, fEq, fNe, fIsB, fIsNotB, fTru, fLen, fIsi, isTy, fTuple, fAbs, fMax, fMin, fIx, fSl, fNotIn, fNotInK, fFld, fRev, Bool.not_true, Bool.not_false, Bool.false_eq_true, if_true, if_false, ite_true, ite_false, reduceIte, reduceCtorEq, decide_true, decide_false, true_and, and_true, beq_self_eq_true, bne_self_eq_false]
      have h' : Q (.bl (decide (lo ≤ i) && decide (i ≤ hi))) := h
      cases e : decide (lo ≤ i) with
      | true =>
        rw [e] at h'
        exact h'
      | false =>
        rw [e] at h'
        exact h'
    | _ => exact h
  · exact h.elim
def sp_divisor : DSp := fun cs Q => match cs with
  | [.dat (.int _), .dat (.int 1)] => Q (.int 1)
  | _ => False
theorem sem_divisor (cs : List Cell) (Q : D → Prop) (hl : cs.length = 2) (h : sp_divisor cs Q) : d_divisor { nx := fun _ => Q .non, rt := Q } (startE N_divisor cs) := by
  unfold sp_divisor at h
  split at h
  · rename_i i
    simp only [dWhile, startE, List.map_cons, List.map_nil, List.length_cons, List.length_nil, List.replicate, List.cons_append, List.nil_append, List.getElem?_cons_zero, List.getElem?_cons_succ, List.set_cons_zero, List.set_cons_succ, wipeE, dSeq, dRet, dAsg, dAsgO, dPar, dParO, dIfS, dNx, dExpr, dFreeze, dAppend, dPop, dSetI, dFor, dUnT, dUnL, setE, dVar, dC, dBin, dUn, dCall, dA, dAS, dLnil, dLcons, dTup, dTest, dTru, dNot, dAnd, dOr, dAndV, dOrV, dNotT, dIf, dIfT, dChain, dFr, dLc, dYes, dIl, dIt, dIs, dIr, dgN, dgT, dZip, dEnum, itemsD, dSl, dNo, dPart, dIsN, dCat, dRep, dListOf, dStarL, dTruO, dCmpO, dS, fAdd, fSub, fMul, fMod, fDiv, fPow, fLt, fLe, fGt, fGe, fNeg, fEq, fNe, fIsB, fIsNotB, fTru, fLen, fIsi, isTy, fTuple, fAbs, fMax, fMin, fIx, fSl, fNotIn, fNotInK, fFld, fRev, Bool.not_true, Bool.not_false, Bool.false_eq_true, if_true, if_false, ite_true, ite_false, reduceIte, reduceCtorEq, decide_true, decide_false, true_and, and_true, beq_self_eq_true, bne_self_eq_false]
    refine ⟨2, ?_⟩
    have e : (if i < 0 then -i else i) % 1 = 0 := Int.emod_one _
    have e2 : (if (1 : Int) < 0 then (-1 : Int) else 1) = 1 := by decide
    simp only [dWh, e, e2, startE, List.map_cons, List.map_nil, List.length_cons, List.length_nil, List.replicate, List.cons_append, List.nil_append, List.getElem?_cons_zero, List.getElem?_cons_succ, List.set_cons_zero, List.set_cons_succ, wipeE, dSeq, dRet, dAsg, dAsgO, dPar, dParO, dIfS, dNx, dExpr, dFreeze, dAppend, dPop, dSetI, dFor, dUnT, dUnL, setE, dVar, dC, dBin, dUn, dCall, dA, dAS, dLnil, dLcons, dTup, dTest, dTru, dNot, dAnd, dOr, dAndV, dOrV, dNotT, dIf, dIfT, dChain, dFr, dLc, dYes, dIl, dIt, dIs, dIr, dgN, dgT, dZip, dEnum, itemsD, dSl, dNo, dPart, dIsN, dCat, dRep, dListOf, dStarL, dTruO, dCmpO, dS, fAdd, fSub, fMul, fMod, fDiv, fPow, fLt, fLe, fGt, fGe, fNeg, fEq, fNe, fIsB, fIsNotB, fTru, fLen, fIsi, isTy, fTuple, fAbs, fMax, fMin, fIx, fSl, fNotIn, fNotInK, fFld, fRev, Bool.not_true, Bool.not_false, Bool.false_eq_true, if_true, if_false, ite_true, ite_false, reduceIte, reduceCtorEq, decide_true, decide_false, true_and, and_true, beq_self_eq_true, bne_self_eq_false]
    exact ⟨by decide, h⟩
  · exact h.elim
def sp_ratio : DSp := fun cs Q => match cs with
  | [.dat (.int i), .dat (.int 1)] => Q (.tup [.int i, .int 1])
  | _ => False
theorem sem_ratio (cs : List Cell) (Q : D → Prop) (hl : cs.length = 2) (h : sp_ratio cs Q) : d_ratio sp_divisor { nx := fun _ => Q .non, rt := Q } (startE N_ratio cs) := by
  unfold sp_ratio at h
  split at h
  · rename_i i
    have e : i / 1 = i := Int.ediv_one _
    refine ⟨⟨by decide, by decide⟩, ⟨by decide, by decide⟩, ?_⟩
    rw [e]
    exact h
  · exact h.elim
/-- small enough to be multiplied -/
abbrev Sm (i : Int) : Prop := i.natAbs.log2 < 500000
theorem mulOk {i j : Int} (a : Sm i) (b : Sm j) : MulOk i j := by
  refine .inl ?_
  omega
theorem sm1 : Sm 1 := by decide
def sp_plus : DSp := fun cs Q => match cs with
  | [.dat (.tup [.int i, .int 1]), .dat (.tup [.int j, .int 1])] => Sm i ∧ Sm j ∧ Q (.tup [.int (i + j), .int 1])
  | _ => False
theorem sem_plus (cs : List Cell) (Q : D → Prop) (hl : cs.length = 2) (h : sp_plus cs Q) : d_plus sp_ratio { nx := fun _ => Q .non, rt := Q } (startE N_plus cs) := by
  unfold sp_plus at h
  split at h
  · rename_i i j
    obtain ⟨h1, h2, h⟩ := h
    refine ⟨mulOk h1 sm1, mulOk h2 sm1, mulOk sm1 sm1, ?_⟩
    rw [Int.mul_one, Int.mul_one]
    exact h
  · exact h.elim
def sp_times : DSp := fun cs Q => match cs with
  | [.dat (.tup [.int i, .int 1]), .dat (.int j)] => Sm i ∧ Sm j ∧ Q (.tup [.int (i * j), .int 1])
  | _ => False
theorem sem_times (cs : List Cell) (Q : D → Prop) (hl : cs.length = 2) (h : sp_times cs Q) : d_times sp_ratio { nx := fun _ => Q .non, rt := Q } (startE N_times cs) := by
  unfold sp_times at h
  split at h
  · rename_i i j
    obtain ⟨h1, h2, h⟩ := h
    exact ⟨mulOk h1 h2, h⟩
  · exact h.elim
/-! ### comprehensions, loops -/
abbrev tI (ns : List Int) : D := .tup (ns.map .int)
theorem lc_map {α : Type} {f g : α → D} {dg : DG} {de : DE} {en : En} : ∀ (xs : List α) (acc : List D) (Q : List D → Prop), (∀ a ∈ xs, ∃ e1, dg (f a) en = some e1 ∧ ∀ R : D → Prop, R (g a) → de e1 R) → acc.length + xs.length ≤ sizeLine →
    Q (acc ++ xs.map g) → dLcGo dg dYes de en (xs.map f) acc Q
  | [], acc, Q, _, _, h => by
    rw [List.map_nil, List.append_nil] at h
    exact h
  | a :: xs, acc, Q, hd, hl, h => by
    obtain ⟨e1, h1, h2⟩ := hd a List.mem_cons_self
    rw [List.length_cons] at hl
    rw [List.map_cons]
    unfold dLcGo
    rw [h1]
    refine h2 _ ⟨by omega, lc_map xs (acc ++ [g a]) Q (fun b hb => hd b (List.mem_cons_of_mem _ hb)) (by rw [List.length_append, List.length_singleton]; omega) ?_⟩
    rw [List.append_assoc]
    exact h
theorem lc_filter {α : Type} {f g : α → D} {p : α → Bool} {dg : DG} {dt : DT} {de : DE} {en : En} : ∀ (xs : List α) (acc : List D) (Q : List D → Prop), (∀ a ∈ xs, ∃ e1, dg (f a) en = some e1 ∧ (∀ R : Bool → Prop, R (p a) → dt e1 R) ∧ (p a = true → ∀ R : D → Prop, R (g a) → de e1 R)) → acc.length + xs.length ≤ sizeLine →
    Q (acc ++ (xs.filter p).map g) → dLcGo dg dt de en (xs.map f) acc Q
  | [], acc, Q, _, _, h => by
    rw [List.filter_nil, List.map_nil, List.append_nil] at h
    exact h
  | a :: xs, acc, Q, hd, hl, h => by
    obtain ⟨e1, h1, h2, h3⟩ := hd a List.mem_cons_self
    rw [List.length_cons] at hl
    rw [List.map_cons]
    unfold dLcGo
    rw [h1]
    refine h2 _ ?_
    cases e : p a with
    | true =>
      rw [if_pos rfl]
      rw [List.filter_cons_of_pos e] at h
      refine h3 e _ ⟨by omega, lc_filter xs (acc ++ [g a]) Q (fun b hb => hd b (List.mem_cons_of_mem _ hb)) (by rw [List.length_append, List.length_singleton]; omega) ?_⟩
      rw [List.append_assoc]
      exact h
    | false =>
      rw [if_neg Bool.false_ne_true]
      rw [List.filter_cons_of_neg (by rw [e]; exact Bool.false_ne_true)] at h
      exact lc_filter xs acc Q (fun b hb => hd b (List.mem_cons_of_mem _ hb)) (by omega) h
theorem lc_map' {α : Type} {f g : α → D} {dg : DG} {de : DE} {en : En} (xs : List α) (Q : List D → Prop) (h : ∀ a ∈ xs, ∃ e1, dg (f a) en = some e1 ∧ ∀ R : D → Prop, R (g a) → de e1 R) (hl : xs.length ≤ sizeLine) (q : Q (xs.map g)) : dLcGo dg dYes de en (xs.map f) [] Q :=
  lc_map xs [] Q h (by rw [List.length_nil]; omega) q
theorem asBls_of {α : Type} (p : α → Bool) : ∀ xs : List α, asBls (xs.map fun a => D.bl (p a)) = some (xs.map p)
  | [] => rfl
  | a :: xs => by
    show (asBls (xs.map fun a => D.bl (p a))).map (p a :: ·) = _
    rw [asBls_of p xs]
    rfl
theorem asInts_of {α : Type} (p : α → Int) : ∀ xs : List α, asInts (xs.map fun a => D.int (p a)) = some (xs.map p)
  | [] => rfl
  | a :: xs => by
    show (asInts (xs.map fun a => D.int (p a))).map (p a :: ·) = _
    rw [asInts_of p xs]
    rfl
theorem fAll_of {α : Type} {p : α → Bool} {xs : List α} {Q : D → Prop} (h : Q (.bl (xs.all p))) : fAll (.lst (xs.map fun a => D.bl (p a))) Q := by
  show (match asBls (xs.map fun a => D.bl (p a)) with
    | some bs => Q (.bl (bs.all id))
    | none => False)
  rw [asBls_of]
  show Q (.bl ((xs.map p).all id))
  rw [List.all_map]
  exact h
theorem fAny_of {α : Type} {p : α → Bool} {xs : List α} {Q : D → Prop} (h : Q (.bl (xs.any p))) : fAny (.lst (xs.map fun a => D.bl (p a))) Q := by
  show (match asBls (xs.map fun a => D.bl (p a)) with
    | some bs => Q (.bl (bs.any id))
    | none => False)
  rw [asBls_of]
  show Q (.bl ((xs.map p).any id))
  rw [List.any_map]
  exact h
theorem fSum_of {α : Type} {p : α → Int} {xs : List α} {Q : D → Prop} (h : Q (.int (xs.map p).sum)) : fSum (.lst (xs.map fun a => D.int (p a))) Q := by
  show (match asInts (xs.map fun a => D.int (p a)) with
    | some bs => Q (.int bs.sum)
    | none => False)
  rw [asInts_of]
  exact h
theorem zip_of {α β : Type} (f : α → D) (g : β → D) (xs : List α) (ys : List β) : zipD (xs.map f) (ys.map g) = (xs.zip ys).map fun p => D.tup [f p.1, g p.2] := by
  unfold zipD
  rw [List.zip_map, List.map_map]
  rfl

/-! ### sums -/
def sp_at_most : DSp := fun cs Q => match cs with
  | [.dat (.tup ws), .dat c] => Q (.tup [.tup ws, c])
  | _ => False
theorem sem_at_most (cs : List Cell) (Q : D → Prop) (hl : cs.length = 2) (h : sp_at_most cs Q) : d_at_most { nx := fun _ => Q .non, rt := Q } (startE N_at_most cs) := by
  unfold sp_at_most at h
  split at h
  · exact h
  · exact h.elim
def neg (ws : List Int) : List Int := ws.map fun w => -w
def sp_at_least : DSp := fun cs Q => ∃ ws c, cs = [.dat (tI ws), .dat (.int c)] ∧ ws.length ≤ sizeLine ∧ Q (.tup [tI (neg ws), .int (-c)])
theorem sem_at_least (cs : List Cell) (Q : D → Prop) (hl : cs.length = 2) (h : sp_at_least cs Q) : d_at_least { nx := fun _ => Q .non, rt := Q } (startE N_at_least cs) := by
  obtain ⟨ws, c, e, hz, h⟩ := h
  subst e
  simp only [startE, List.map_cons, List.map_nil, List.length_cons, List.length_nil, List.replicate, List.cons_append, List.nil_append, List.getElem?_cons_zero, List.getElem?_cons_succ, List.set_cons_zero, List.set_cons_succ, wipeE, dSeq, dRet, dAsg, dAsgO, dPar, dParO, dIfS, dNx, dExpr, dFreeze, dAppend, dPop, dSetI, dFor, dUnT, dUnL, setE, dVar, dC, dBin, dUn, dCall, dA, dAS, dLnil, dLcons, dTup, dTest, dTru, dNot, dAnd, dOr, dAndV, dOrV, dNotT, dIf, dIfT, dChain, dFr, dLc, dYes, dIl, dIt, dIs, dIr, dgN, dgT, dZip, dEnum, itemsD, dSl, dNo, dPart, dIsN, dCat, dRep, dListOf, dStarL, dTruO, dCmpO, dS, fAdd, fSub, fMul, fMod, fDiv, fPow, fLt, fLe, fGt, fGe, fNeg, fEq, fNe, fIsB, fIsNotB, fTru, fLen, fIsi, isTy, fTuple, fAbs, fMax, fMin, fIx, fSl, fNotIn, fNotInK, fFld, fRev, Bool.not_true, Bool.not_false, Bool.false_eq_true, if_true, if_false, ite_true, ite_false, reduceIte, reduceCtorEq, decide_true, decide_false, true_and, and_true, beq_self_eq_true, bne_self_eq_false]
  refine lc_map' (g := fun w => D.int (-w)) ws _ (fun w hw => ⟨_, rfl, fun R hR => hR⟩) hz ?_
  have e : ws.map (fun w => D.int (-w)) = (neg ws).map D.int := by
    unfold neg
    rw [List.map_map]
    rfl
  rw [e]
  exact h
/-! ### sizes -/
abbrev Lt (k : Nat) (i : Int) : Prop := i.natAbs < 2 ^ k
theorem sm_of {k : Nat} {i : Int} (h : Lt k i) (hk : k ≤ 500000) (k0 : 0 < k) : Sm i := by
  show i.natAbs.log2 < 500000
  by_cases z : i.natAbs = 0
  · rw [z]
    decide
  · have := (Nat.log2_lt z).mpr h
    omega
theorem lt_mul {j k : Nat} {a b : Int} (h : Lt j a) (q : Lt k b) : Lt (j + k) (a * b) := by
  show (a * b).natAbs < 2 ^ (j + k)
  rw [Int.natAbs_mul, Nat.pow_add]
  exact Nat.mul_lt_mul'' h q
theorem lt_mono {j k : Nat} {a : Int} (h : Lt j a) (l : j ≤ k) : Lt k a := Nat.lt_of_lt_of_le h (Nat.pow_le_pow_right (by decide) l)
theorem lt_add {k : Nat} {a b : Int} (h : Lt k a) (q : Lt k b) : Lt (k + 1) (a + b) := by
  have h' : a.natAbs < 2 ^ k := h
  have q' : b.natAbs < 2 ^ k := q
  show (a + b).natAbs < 2 ^ (k + 1)
  have := Int.natAbs_add_le a b
  rw [Nat.pow_succ]
  omega
theorem lt_neg {k : Nat} {a : Int} (h : Lt k a) : Lt k (-a) := by
  show (-a).natAbs < 2 ^ k
  rw [Int.natAbs_neg]
  exact h
theorem lt_one {k : Nat} (h : 0 < k) : Lt k 1 := by
  show 1 < 2 ^ k
  exact Nat.one_lt_two_pow (by omega)
abbrev LtA (k : Nat) (l : List Int) : Prop := ∀ i ∈ l, Lt k i
def dot (ws xs : List Int) : Int := ((ws.zip xs).map fun p => p.1 * p.2).sum
theorem sum_le {k : Nat} : ∀ {l : List Int}, LtA k l → l.sum.natAbs ≤ l.length * 2 ^ k
  | [], _ => by simp
  | a :: l, h => by
    have h1 : a.natAbs < 2 ^ k := h a List.mem_cons_self
    have h2 := sum_le (fun i hi => h i (List.mem_cons_of_mem _ hi) : LtA k l)
    rw [List.sum_cons, List.length_cons, Nat.add_mul, Nat.one_mul]
    have := Int.natAbs_add_le a l.sum
    omega
theorem dot_lt {j k m : Nat} {ws xs : List Int} (h : LtA j ws) (q : LtA k xs) (l : ws.length ≤ 2 ^ m) : Lt (j + k + m + 1) (dot ws xs) := by
  have a : LtA (j + k) ((ws.zip xs).map fun p => p.1 * p.2) := fun i hi => by
    obtain ⟨p, hp, e⟩ := List.mem_map.mp hi
    subst e
    have := List.of_mem_zip hp
    exact lt_mul (h _ this.1) (q _ this.2)
  have b := sum_le a
  have c : ((ws.zip xs).map fun p => p.1 * p.2).length ≤ 2 ^ m := by
    rw [List.length_map, List.length_zip]
    exact Nat.le_trans (Nat.min_le_left _ _) l
  show (dot ws xs).natAbs < _
  refine Nat.lt_of_le_of_lt (Nat.le_trans b (Nat.mul_le_mul_right _ c)) ?_
  rw [← Nat.pow_add]
  exact Nat.pow_lt_pow_right (by decide) (by omega)

/-! ### points -/
abbrev pt (x : Int) : D := .tup [.int x, .int 1]
abbrev pts (xs : List Int) : D := .tup (xs.map pt)
def sp_sum_at : DSp := fun cs Q => ∃ ws xs, cs = [.dat (tI ws), .dat (pts xs)] ∧ LtA 300 ws ∧ LtA 300 xs ∧ ws.length ≤ 2 ^ 20 ∧ Q (pt (dot ws xs))
theorem sum_at_go {Q : D → Prop} : ∀ (ps : List (Int × Int)) (acc : Int) (en : En), en.length = 5 → en[2]? = some (some (.dat (pt acc))) → (∀ p ∈ ps, Lt 300 p.1 ∧ Lt 300 p.2) → acc.natAbs + ps.length * 2 ^ 600 < 2 ^ 1000 → Q (pt (acc + (ps.map fun p => p.1 * p.2).sum)) →
    dLoop (dgT 3 4) (dAsg 2 (dCall sp_plus (dA (dLcons (dVar 2) (dLcons (dCall sp_times (dA (dLcons (dVar 4) (dLcons (dVar 3) dLnil)))) dLnil))))) { nx := fun e => dRet (dVar 2) { nx := fun _ => Q .non, rt := Q } e, rt := Q } (ps.map fun p => D.tup [.int p.1, pt p.2]) en
  | [], acc, en, _, h2, _, _, q => by
    simp only [List.map_nil, dLoop, dRet, dVar]
    rw [h2]
    simpa using q
  | p :: ps, acc, [e0, e1, e2, e3, e4], _, h2, hb, hs, q => by
    have e2' : e2 = some (.dat (pt acc)) := by simpa using h2
    subst e2'
    obtain ⟨b1, b2⟩ := hb p List.mem_cons_self
    have m : Lt 600 (p.2 * p.1) := lt_mul b2 b1
    have m' : (p.2 * p.1).natAbs < 2 ^ 600 := m
    rw [List.length_cons, Nat.add_mul, Nat.one_mul] at hs
    have la : Lt 1000 acc := by
      show acc.natAbs < 2 ^ 1000
      omega
    simp only [List.map_cons, dLoop, startE, List.map_cons, List.map_nil, List.length_cons, List.length_nil, List.replicate, List.cons_append, List.nil_append, List.getElem?_cons_zero, List.getElem?_cons_succ, List.set_cons_zero, List.set_cons_succ, wipeE, dSeq, dRet, dAsg, dAsgO, dPar, dParO, dIfS, dNx, dExpr, dFreeze, dAppend, dPop, dSetI, dFor, dUnT, dUnL, setE, dVar, dC, dBin, dUn, dCall, dA, dAS, dLnil, dLcons, dTup, dTest, dTru, dNot, dAnd, dOr, dAndV, dOrV, dNotT, dIf, dIfT, dChain, dFr, dLc, dYes, dIl, dIt, dIs, dIr, dgN, dgT, dZip, dEnum, itemsD, dSl, dNo, dPart, dIsN, dCat, dRep, dListOf, dStarL, dTruO, dCmpO, dS, fAdd, fSub, fMul, fMod, fDiv, fPow, fLt, fLe, fGt, fGe, fNeg, fEq, fNe, fIsB, fIsNotB, fTru, fLen, fIsi, isTy, fTuple, fAbs, fMax, fMin, fIx, fSl, fNotIn, fNotInK, fFld, fRev, Bool.not_true, Bool.not_false, Bool.false_eq_true, if_true, if_false, ite_true, ite_false, reduceIte, reduceCtorEq, decide_true, decide_false, true_and, and_true, beq_self_eq_true, bne_self_eq_false]
    refine ⟨sm_of b2 (by decide) (by decide), sm_of b1 (by decide) (by decide), sm_of la (by decide) (by decide), sm_of m (by decide) (by decide), ?_⟩
    refine sum_at_go ps (acc + p.2 * p.1) _ rfl rfl (fun r hr => hb r (List.mem_cons_of_mem _ hr)) ?_ ?_
    · have := Int.natAbs_add_le acc (p.2 * p.1)
      omega
    · rw [List.map_cons, List.sum_cons] at q
      rw [show acc + p.2 * p.1 + (ps.map fun p => p.1 * p.2).sum = acc + (p.1 * p.2 + (ps.map fun p => p.1 * p.2).sum) by rw [Int.mul_comm p.1 p.2]; omega]
      exact q
theorem sem_sum_at (cs : List Cell) (Q : D → Prop) (hl : cs.length = 2) (h : sp_sum_at cs Q) : d_sum_at sp_plus sp_times { nx := fun _ => Q .non, rt := Q } (startE N_sum_at cs) := by
  obtain ⟨ws, xs, e, h1, h2, h3, h⟩ := h
  subst e
  unfold d_sum_at
  simp only [dSeq, dAsg, dTup, dLcons, dC, dLnil, dFor, dZip, dVar, startE, List.map_cons, List.map_nil, List.length_cons, List.length_nil, List.replicate, List.cons_append, List.nil_append, List.set_cons_zero, List.set_cons_succ, List.getElem?_cons_zero, List.getElem?_cons_succ, itemsD]
  rw [zip_of]
  refine sum_at_go (ws.zip xs) 0 _ rfl rfl (fun p hp => ?_) ?_ ?_
  · have := List.of_mem_zip hp
    exact ⟨h1 _ this.1, h2 _ this.2⟩
  · have : (ws.zip xs).length ≤ 2 ^ 20 := by
      rw [List.length_zip]
      exact Nat.le_trans (Nat.min_le_left _ _) h3
    have := Nat.mul_le_mul_right (2 ^ 600) this
    have e : (2 : Nat) ^ 20 * 2 ^ 600 < 2 ^ 1000 := by decide
    have z : (0 : Int).natAbs = 0 := rfl
    omega
  · rw [Int.zero_add]
    exact h
def sp_as_fractions : DSp := fun cs Q => ∃ xs, cs = [.dat (tI xs)] ∧ xs.length ≤ sizeLine ∧ Q (pts xs)
theorem sem_as_fractions (cs : List Cell) (Q : D → Prop) (hl : cs.length = 1) (h : sp_as_fractions cs Q) : d_as_fractions sp_is_integer { nx := fun _ => Q .non, rt := Q } (startE N_as_fractions cs) := by
  obtain ⟨xs, e, hz, h⟩ := h
  subst e
  simp only [startE, List.map_cons, List.map_nil, List.length_cons, List.length_nil, List.replicate, List.cons_append, List.nil_append, List.getElem?_cons_zero, List.getElem?_cons_succ, List.set_cons_zero, List.set_cons_succ, wipeE, dSeq, dRet, dAsg, dAsgO, dPar, dParO, dIfS, dNx, dExpr, dFreeze, dAppend, dPop, dSetI, dFor, dUnT, dUnL, setE, dVar, dC, dBin, dUn, dCall, dA, dAS, dLnil, dLcons, dTup, dTest, dTru, dNot, dAnd, dOr, dAndV, dOrV, dNotT, dIf, dIfT, dChain, dFr, dLc, dYes, dIl, dIt, dIs, dIr, dgN, dgT, dZip, dEnum, itemsD, dSl, dNo, dPart, dIsN, dCat, dRep, dListOf, dStarL, dTruO, dCmpO, dS, fAdd, fSub, fMul, fMod, fDiv, fPow, fLt, fLe, fGt, fGe, fNeg, fEq, fNe, fIsB, fIsNotB, fTru, fLen, fIsi, isTy, fTuple, fAbs, fMax, fMin, fIx, fSl, fNotIn, fNotInK, fFld, fRev, Bool.not_true, Bool.not_false, Bool.false_eq_true, if_true, if_false, ite_true, ite_false, reduceIte, reduceCtorEq, decide_true, decide_false, true_and, and_true, beq_self_eq_true, bne_self_eq_false]
  refine lc_map' (g := pt) xs _ (fun w hw => ⟨_, rfl, fun R hR => ?_⟩) hz h
  exact ⟨rfl, hR⟩
end Fe
set_option Elab.async false
set_option linter.all false
set_option maxRecDepth 100000
set_option maxHeartbeats 4000000
/-! Layer 3: data of the law's making; points, aims, ends, partings. -/
namespace Fe
open PySem PySem.W PySem.Calls PyProof.Rows L2

/-! ### shapes -/
def shp (k : Nat) (d : D) : Prop := (py d).canLay0 = true ∧ (py d).depth ≤ k
theorem shp_all {k : Nat} : ∀ {xs : List D}, (∀ x ∈ xs, shp k x) → PyData.canLayAll0 (pyL xs) = true ∧ PyData.depthAll (pyL xs) ≤ k
  | [], _ => by
    unfold pyL
    exact ⟨rfl, Nat.zero_le _⟩
  | x :: xs, h => by
    obtain ⟨h1, h2⟩ := h x List.mem_cons_self
    obtain ⟨h3, h4⟩ := shp_all (fun y hy => h y (List.mem_cons_of_mem _ hy) : ∀ y ∈ xs, shp k y)
    unfold pyL
    rw [PyData.canLayAll0, PyData.depthAll]
    exact ⟨by rw [h1, h3]; rfl, by omega⟩
theorem shp_tup {k : Nat} {xs : List D} (h : ∀ x ∈ xs, shp k x) : shp (k + 1) (.tup xs) := by
  obtain ⟨h1, h2⟩ := shp_all h
  unfold shp py
  rw [PyData.canLay0, PyData.depth]
  exact ⟨h1, by omega⟩
theorem shp_lst {k : Nat} {xs : List D} (h : ∀ x ∈ xs, shp k x) : shp (k + 1) (.lst xs) := by
  obtain ⟨h1, h2⟩ := shp_all h
  unfold shp py
  rw [PyData.canLay0, PyData.depth]
  exact ⟨h1, by omega⟩
theorem shp_int {k : Nat} {i : Int} : shp k (.int i) := by
  unfold shp py
  rw [PyData.canLay0, PyData.depth]
  exact ⟨rfl, Nat.zero_le _⟩
theorem shp_bl {k : Nat} {b : Bool} : shp k (.bl b) := by
  unfold shp py
  rw [PyData.canLay0, PyData.depth]
  exact ⟨rfl, Nat.zero_le _⟩
theorem shp_non {k : Nat} : shp k .non := by
  unfold shp py
  rw [PyData.canLay0, PyData.depth]
  exact ⟨rfl, Nat.zero_le _⟩
theorem shp_str {k : Nat} {x : Str} (h : PyData.strOk x = true) : shp k (.str x) := by
  unfold shp py
  rw [PyData.canLay0, PyData.depth]
  exact ⟨h, Nat.zero_le _⟩
theorem shp_of {k : Nat} {d : D} (h : shp k d) (l : k ≤ 64) : Shp d := by
  show SeqAt.shaped (py d) = true
  unfold SeqAt.shaped
  rw [h.1, decide_eq_true (Nat.le_trans h.2 l)]
  rfl
theorem shp_ints {k : Nat} {ws : List Int} : shp (k + 1) (tI ws) := shp_tup fun x hx => by
  obtain ⟨i, _, e⟩ := List.mem_map.mp hx
  subst e
  exact shp_int

/-! ### data that the law may make -/
def nice : Nat → D → Prop
  | _, .non => True
  | _, .bl _ => True
  | _, .int i => Lt 200 i
  | _, .str x => PyData.strOk x = true
  | k + 1, .tup xs => xs.length ≤ 200 ∧ ∀ x ∈ xs, nice k x
  | k + 1, .lst xs => xs.length ≤ 200 ∧ ∀ x ∈ xs, nice k x
  | _, _ => False
theorem nice_shp : ∀ {k : Nat} {d : D}, nice k d → shp k d
  | _, .non, _ => shp_non
  | _, .bl _, _ => shp_bl
  | _, .int _, _ => shp_int
  | _, .str _, h => shp_str (by unfold nice at h; exact h)
  | k + 1, .tup xs, h => by
    unfold nice at h
    exact shp_tup fun x hx => nice_shp (h.2 x hx)
  | k + 1, .lst xs, h => by
    unfold nice at h
    exact shp_lst fun x hx => nice_shp (h.2 x hx)
  | 0, .tup _, h => by unfold nice at h; exact h.elim
  | 0, .lst _, h => by unfold nice at h; exact h.elim
  | 0, .sys .., h => by unfold nice at h; exact h.elim
  | _ + 1, .sys .., h => by unfold nice at h; exact h.elim
theorem nice_sys {k : Nat} {d : D} (h : nice k d) : isSys d = false := by
  cases d with
  | sys => cases k <;> (unfold nice at h; exact h.elim)
  | _ => rfl
theorem nice_mono : ∀ {k : Nat} {d : D}, nice k d → nice (k + 1) d
  | 0, .non, _ => by unfold nice; trivial
  | _ + 1, .non, _ => by unfold nice; trivial
  | 0, .bl _, _ => by unfold nice; trivial
  | _ + 1, .bl _, _ => by unfold nice; trivial
  | 0, .int _, h => by unfold nice at h ⊢; exact h
  | _ + 1, .int _, h => by unfold nice at h ⊢; exact h
  | 0, .str _, h => by unfold nice at h ⊢; exact h
  | _ + 1, .str _, h => by unfold nice at h ⊢; exact h
  | k + 1, .tup xs, h => by
    unfold nice at h ⊢
    exact ⟨h.1, fun x hx => nice_mono (h.2 x hx)⟩
  | k + 1, .lst xs, h => by
    unfold nice at h ⊢
    exact ⟨h.1, fun x hx => nice_mono (h.2 x hx)⟩
  | 0, .tup _, h => by unfold nice at h; exact h.elim
  | 0, .lst _, h => by unfold nice at h; exact h.elim
  | 0, .sys .., h => by unfold nice at h; exact h.elim
  | _ + 1, .sys .., h => by unfold nice at h; exact h.elim
theorem nice_tup {k : Nat} {xs : List D} (h : nice k (.tup xs)) : ∃ j, k = j + 1 ∧ xs.length ≤ 200 ∧ ∀ x ∈ xs, nice j x := by
  cases k with
  | zero => unfold nice at h; exact h.elim
  | succ j => unfold nice at h; exact ⟨j, rfl, h⟩
theorem nice_int {k : Nat} {i : Int} (h : nice k (.int i)) : Lt 200 i := by
  cases k <;> (unfold nice at h; exact h)

theorem at0 {α : Type} {x : α} {xs : List α} : L2.atI (x :: xs) (0 : Int) = some x := atI_nat (j := 0) rfl
theorem at1 {α : Type} {x y : α} {xs : List α} : L2.atI (x :: y :: xs) (1 : Int) = some y := atI_nat (j := 1) rfl
theorem at2 {α : Type} {x y z : α} {xs : List α} : L2.atI (x :: y :: z :: xs) (2 : Int) = some z := atI_nat (j := 2) rfl
theorem at3 {α : Type} {x y z u : α} {xs : List α} : L2.atI (x :: y :: z :: u :: xs) (3 : Int) = some u := atI_nat (j := 3) rfl
theorem at4 {α : Type} {x y z u v : α} {xs : List α} : L2.atI (x :: y :: z :: u :: v :: xs) (4 : Int) = some v := atI_nat (j := 4) rfl

/-! ### systems -/
abbrev Bd := List Int × Int
abbrev bnd (b : Bd) : D := .tup [tI b.1, .int b.2]
abbrev bndsT (bs : List Bd) : D := .tup (bs.map bnd)
abbrev bndsL (bs : List Bd) : D := .lst (bs.map bnd)
/-- n unknowns each, sizes small -/
structure BsOk (n : Nat) (bs : List Bd) : Prop where
  n2 : n ≤ 2
  len : bs.length ≤ 1000
  w : ∀ b ∈ bs, b.1.length = n ∧ LtA 210 b.1 ∧ Lt 210 b.2
abbrev kindsT (n : Nat) : D := .tup (List.replicate n (.str "whole"))
abbrev kindsL (n : Nat) : D := .lst (List.replicate n (.str "whole"))
abbrev sysW (n : Nat) (bs : List Bd) (t l : D) (so : Str) : D := .sys t (kindsT n) l (.str so) (bndsT bs)
def keeps (bs : List Bd) (xs : List Int) : Bool := bs.all fun b => decide (dot b.1 xs ≤ b.2)
theorem sz (n : Nat) (h : n ≤ 1000) : n ≤ sizeLine := by rw [sizeLine_eq]; omega
def sp_gaps_at : DSp := fun cs Q => ∃ n bs t l so xs, cs = [.dat (sysW n bs t l so), .dat (tI xs)] ∧ BsOk n bs ∧ LtA 200 xs ∧ xs.length = n ∧ Q (.tup (bs.map fun b => pt (b.2 - dot b.1 xs)))
theorem sem_gaps_at (cs : List Cell) (Q : D → Prop) (hl : cs.length = 2) (h : sp_gaps_at cs Q) : d_gaps_at sp_as_fractions sp_plus sp_times sp_sum_at { nx := fun _ => Q .non, rt := Q } (startE N_gaps_at cs) := by
  obtain ⟨n, bs, t, l, so, xs, e, ok, hx, hn, h⟩ := h
  subst e
  have n2 := ok.n2
  simp only [startE, List.map_cons, List.map_nil, List.length_cons, List.length_nil, List.replicate, List.cons_append, List.nil_append, List.getElem?_cons_zero, List.getElem?_cons_succ, List.set_cons_zero, List.set_cons_succ, wipeE, dSeq, dRet, dAsg, dAsgO, dPar, dParO, dIfS, dNx, dExpr, dFreeze, dAppend, dPop, dSetI, dFor, dUnT, dUnL, setE, dVar, dC, dBin, dUn, dCall, dA, dAS, dLnil, dLcons, dTup, dTest, dTru, dNot, dAnd, dOr, dAndV, dOrV, dNotT, dIf, dIfT, dChain, dFr, dLc, dYes, dIl, dIt, dIs, dIr, dgN, dgT, dZip, dEnum, itemsD, dSl, dNo, dPart, dIsN, dCat, dRep, dListOf, dStarL, dTruO, dCmpO, dS, fAdd, fSub, fMul, fMod, fDiv, fPow, fLt, fLe, fGt, fGe, fNeg, fEq, fNe, fIsB, fIsNotB, fTru, fLen, fIsi, isTy, fTuple, fAbs, fMax, fMin, fIx, fSl, fNotIn, fNotInK, fFld, fRev, Bool.not_true, Bool.not_false, Bool.false_eq_true, if_true, if_false, ite_true, ite_false, reduceIte, reduceCtorEq, decide_true, decide_false, true_and, and_true, beq_self_eq_true, bne_self_eq_false]
  refine ⟨xs, rfl, sz _ (by omega), ?_⟩
  simp only [startE, List.map_cons, List.map_nil, List.length_cons, List.length_nil, List.replicate, List.cons_append, List.nil_append, List.getElem?_cons_zero, List.getElem?_cons_succ, List.set_cons_zero, List.set_cons_succ, wipeE, dSeq, dRet, dAsg, dAsgO, dPar, dParO, dIfS, dNx, dExpr, dFreeze, dAppend, dPop, dSetI, dFor, dUnT, dUnL, setE, dVar, dC, dBin, dUn, dCall, dA, dAS, dLnil, dLcons, dTup, dTest, dTru, dNot, dAnd, dOr, dAndV, dOrV, dNotT, dIf, dIfT, dChain, dFr, dLc, dYes, dIl, dIt, dIs, dIr, dgN, dgT, dZip, dEnum, itemsD, dSl, dNo, dPart, dIsN, dCat, dRep, dListOf, dStarL, dTruO, dCmpO, dS, fAdd, fSub, fMul, fMod, fDiv, fPow, fLt, fLe, fGt, fGe, fNeg, fEq, fNe, fIsB, fIsNotB, fTru, fLen, fIsi, isTy, fTuple, fAbs, fMax, fMin, fIx, fSl, fNotIn, fNotInK, fFld, fRev, Bool.not_true, Bool.not_false, Bool.false_eq_true, if_true, if_false, ite_true, ite_false, reduceIte, reduceCtorEq, decide_true, decide_false, true_and, and_true, beq_self_eq_true, bne_self_eq_false]
  refine lc_map' (g := fun b : Bd => pt (b.2 - dot b.1 xs)) bs _ (fun b hb => ?_) (sz _ ok.len) h
  obtain ⟨w1, w2, w3⟩ := ok.w b hb
  refine ⟨_, rfl, fun R hR => ?_⟩
  have hd : Lt (300 + 300 + 2 + 1) (dot b.1 xs) := dot_lt (j := 300) (k := 300) (m := 2) (fun i hi => lt_mono (w2 i hi) (by decide)) (fun i hi => lt_mono (hx i hi) (by decide)) (by rw [w1]; exact Nat.le_trans n2 (by decide))
  refine ⟨b.1, xs, rfl, fun i hi => lt_mono (w2 i hi) (by decide), fun i hi => lt_mono (hx i hi) (by decide), by rw [w1]; exact Nat.le_trans n2 (by decide), ?_⟩
  refine ⟨sm_of hd (by decide) (by decide), by decide, ?_⟩
  refine ⟨sm_of w3 (by decide) (by decide), sm_of (lt_mul (k := 1) hd (by decide)) (by decide) (by decide), ?_⟩
  rw [show b.2 + dot b.1 xs * -1 = b.2 - dot b.1 xs by omega]
  exact hR
theorem enum_of {α : Type} (f : α → D) (xs : List α) : enumD (xs.map f) = xs.zipIdx.map fun p => D.tup [.int (p.2 : Nat), f p.1] := by
  unfold enumD
  rw [List.zipIdx_map, List.map_map]
  rfl
def sp_broken_at : DSp := fun cs Q => ∃ n bs t l so xs, cs = [.dat (sysW n bs t l so), .dat (tI xs)] ∧ BsOk n bs ∧ LtA 200 xs ∧ xs.length = n ∧ ∀ L : List D, L.isEmpty = keeps bs xs → Q (.tup L)
theorem sem_broken_at (cs : List Cell) (Q : D → Prop) (hl : cs.length = 2) (h : sp_broken_at cs Q) : d_broken_at sp_gaps_at { nx := fun _ => Q .non, rt := Q } (startE N_broken_at cs) := by
  obtain ⟨n, bs, t, l, so, xs, e, ok, hx, hn, h⟩ := h
  subst e
  simp only [startE, List.map_cons, List.map_nil, List.length_cons, List.length_nil, List.replicate, List.cons_append, List.nil_append, List.getElem?_cons_zero, List.getElem?_cons_succ, List.set_cons_zero, List.set_cons_succ, wipeE, dSeq, dRet, dAsg, dAsgO, dPar, dParO, dIfS, dNx, dExpr, dFreeze, dAppend, dPop, dSetI, dFor, dUnT, dUnL, setE, dVar, dC, dBin, dUn, dCall, dA, dAS, dLnil, dLcons, dTup, dTest, dTru, dNot, dAnd, dOr, dAndV, dOrV, dNotT, dIf, dIfT, dChain, dFr, dLc, dYes, dIl, dIt, dIs, dIr, dgN, dgT, dZip, dEnum, itemsD, dSl, dNo, dPart, dIsN, dCat, dRep, dListOf, dStarL, dTruO, dCmpO, dS, fAdd, fSub, fMul, fMod, fDiv, fPow, fLt, fLe, fGt, fGe, fNeg, fEq, fNe, fIsB, fIsNotB, fTru, fLen, fIsi, isTy, fTuple, fAbs, fMax, fMin, fIx, fSl, fNotIn, fNotInK, fFld, fRev, Bool.not_true, Bool.not_false, Bool.false_eq_true, if_true, if_false, ite_true, ite_false, reduceIte, reduceCtorEq, decide_true, decide_false, true_and, and_true, beq_self_eq_true, bne_self_eq_false]
  refine ⟨n, bs, t, l, so, xs, rfl, ok, hx, hn, ?_⟩
  show dLcGo _ _ _ _ (enumD (bs.map fun b => pt (b.2 - dot b.1 xs))) [] _
  rw [enum_of]
  refine lc_filter (p := fun p : Bd × Nat => decide (p.1.2 - dot p.1.1 xs < 0)) (g := fun p : Bd × Nat => D.int (p.2 : Nat)) bs.zipIdx [] _ (fun p hp => ⟨_, rfl, fun R hR => hR, fun _ R hR => hR⟩) ?_ ?_
  · rw [List.length_nil, List.length_zipIdx, Nat.zero_add]
    exact sz _ ok.len
  · refine h _ ?_
    rw [List.nil_append, List.isEmpty_map]
    have e : keeps bs xs = bs.zipIdx.all fun p => decide (dot p.1.1 xs ≤ p.1.2) := by
      unfold keeps
      conv => lhs; rw [← List.zipIdx_map_fst 0 bs]
      rw [List.all_map]
      rfl
    rw [e, Bool.eq_iff_iff, List.isEmpty_iff, List.filter_eq_nil_iff, List.all_eq_true]
    refine ⟨fun q p hp => ?_, fun q p hp => ?_⟩
    · have := q p hp
      rw [decide_eq_true_eq] at this ⊢
      omega
    · have := q p hp
      rw [decide_eq_true_eq] at this ⊢
      omega

/-! ### tuples of n ints -/
def asT (n : Nat) (v : D) : Option (List Int) := match v with
  | .tup xs => if xs.length = n then asInts xs else none
  | _ => none
theorem asInts_len : ∀ {xs : List D} {ws : List Int}, asInts xs = some ws → ws.length = xs.length := fun h => by
  rw [asInts_eq h, List.length_map]
theorem asT_some {n : Nat} {v : D} {ws : List Int} (h : asT n v = some ws) : v = tI ws ∧ ws.length = n := by
  unfold asT at h
  split at h
  · split at h
    · rename_i xs e
      exact ⟨by rw [asInts_eq h], by rw [asInts_len h]; exact e⟩
    · cases h
  · cases h
theorem asT_of {n : Nat} {ws : List Int} (h : ws.length = n) : asT n (tI ws) = some ws := by
  show (if (ws.map D.int).length = n then asInts (ws.map D.int) else none) = some ws
  rw [List.length_map, if_pos h, asInts_map]
theorem all_isInt : ∀ xs : List D, xs.all isInt = (asInts xs).isSome
  | [] => rfl
  | x :: xs => by
    rw [List.all_cons, all_isInt xs]
    cases x with
    | int i =>
      show (true && (asInts xs).isSome) = ((asInts xs).map (i :: ·)).isSome
      rw [Option.isSome_map, Bool.true_and]
    | _ => rfl
def sp_are_integers : DSp := fun cs Q => ∃ k v n, cs = [.dat v, .dat (.int ((n : Nat) : Int))] ∧ nice k v ∧ Q (.bl (asT n v).isSome)
theorem sem_are_integers (cs : List Cell) (Q : D → Prop) (hl : cs.length = 2) (h : sp_are_integers cs Q) : d_are_integers sp_is_integer { nx := fun _ => Q .non, rt := Q } (startE N_are_integers cs) := by
  obtain ⟨k, v, n, e, nv, h⟩ := h
  subst e
  cases v with
  | tup xs =>
    obtain ⟨j, _, hz, hx⟩ := nice_tup nv
    unfold d_are_integers
    simp only [startE, List.map_cons, List.map_nil, List.length_cons, List.length_nil, List.replicate, List.cons_append, List.nil_append, List.getElem?_cons_zero, List.getElem?_cons_succ, List.set_cons_zero, List.set_cons_succ, wipeE, dSeq, dRet, dAsg, dAsgO, dPar, dParO, dIfS, dNx, dExpr, dFreeze, dAppend, dPop, dSetI, dFor, dUnT, dUnL, setE, dVar, dC, dBin, dUn, dCall, dA, dAS, dLnil, dLcons, dTup, dTest, dTru, dNot, dAnd, dOr, dAndV, dOrV, dNotT, dIf, dIfT, dChain, dFr, dLc, dYes, dIl, dIt, dIs, dIr, dgN, dgT, dZip, dEnum, itemsD, dSl, dNo, dPart, dIsN, dCat, dRep, dListOf, dStarL, dTruO, dCmpO, dS, fAdd, fSub, fMul, fMod, fDiv, fPow, fLt, fLe, fGt, fGe, fNeg, fEq, fNe, fIsB, fIsNotB, fTru, fLen, fIsi, isTy, fTuple, fAbs, fMax, fMin, fIx, fSl, fNotIn, fNotInK, fFld, fRev, Bool.not_true, Bool.not_false, Bool.false_eq_true, if_true, if_false, ite_true, ite_false, reduceIte, reduceCtorEq, decide_true, decide_false, true_and, and_true, beq_self_eq_true, bne_self_eq_false]
    cases e : ((xs.length : Int) == (n : Int)) with
    | true =>
      show dLcGo _ _ _ _ xs [] _
      rw [← List.map_id xs]
      refine lc_map' (g := fun x => D.bl (isInt x)) xs _ (fun x hx' => ⟨_, rfl, fun R hR => ⟨nice_sys (hx x hx'), hR⟩⟩) (sz _ (by omega)) ?_
      refine fAll_of ?_
      have e2 : xs.length = n := by
        have := eq_of_beq e
        omega
      have e3 : (asT n (.tup xs)).isSome = xs.all isInt := by
        show (if xs.length = n then asInts xs else none).isSome = _
        rw [if_pos e2, all_isInt]
      rw [e3] at h
      exact h
    | false =>
      have e2 : xs.length ≠ n := fun z => by
        rw [z] at e
        simp at e
      have e3 : (asT n (.tup xs)).isSome = false := by
        show (if xs.length = n then asInts xs else none).isSome = _
        rw [if_neg e2]
        rfl
      rw [e3] at h
      exact h
  | sys => exact absurd (nice_sys nv) (by intro z; cases z)
  | _ => exact h
def sp_is_pair : DSp := fun cs Q => ∃ k v, cs = [.dat v] ∧ nice k v ∧ Q (.bl (match v with
  | .tup [_, _] => true
  | _ => false))
theorem len2 {xs : List D} (h : xs.length = 2) : ∃ a b, xs = [a, b] := by
  match xs, h with
  | [a, b], _ => exact ⟨a, b, rfl⟩
theorem len3 {xs : List D} (h : xs.length = 3) : ∃ a b c, xs = [a, b, c] := by
  match xs, h with
  | [a, b, c], _ => exact ⟨a, b, c, rfl⟩
theorem int_beq {a b : Nat} (h : a = b) : ((a : Int) == (b : Int)) = true := by
  rw [h]
  exact beq_self_eq_true _
theorem int_bne {a b : Nat} (h : a ≠ b) : ((a : Int) == (b : Int)) = false := by
  rw [beq_eq_false_iff_ne]
  omega
theorem sem_is_pair (cs : List Cell) (Q : D → Prop) (hl : cs.length = 1) (h : sp_is_pair cs Q) : d_is_pair { nx := fun _ => Q .non, rt := Q } (startE N_is_pair cs) := by
  obtain ⟨k, v, e, nv, h⟩ := h
  subst e
  cases v with
  | tup xs =>
    unfold d_is_pair
    simp only [startE, List.map_cons, List.map_nil, List.length_cons, List.length_nil, List.replicate, List.cons_append, List.nil_append, List.getElem?_cons_zero, List.getElem?_cons_succ, List.set_cons_zero, List.set_cons_succ, wipeE, dSeq, dRet, dAsg, dAsgO, dPar, dParO, dIfS, dNx, dExpr, dFreeze, dAppend, dPop, dSetI, dFor, dUnT, dUnL, setE, dVar, dC, dBin, dUn, dCall, dA, dAS, dLnil, dLcons, dTup, dTest, dTru, dNot, dAnd, dOr, dAndV, dOrV, dNotT, dIf, dIfT, dChain, dFr, dLc, dYes, dIl, dIt, dIs, dIr, dgN, dgT, dZip, dEnum, itemsD, dSl, dNo, dPart, dIsN, dCat, dRep, dListOf, dStarL, dTruO, dCmpO, dS, fAdd, fSub, fMul, fMod, fDiv, fPow, fLt, fLe, fGt, fGe, fNeg, fEq, fNe, fIsB, fIsNotB, fTru, fLen, fIsi, isTy, fTuple, fAbs, fMax, fMin, fIx, fSl, fNotIn, fNotInK, fFld, fRev, Bool.not_true, Bool.not_false, Bool.false_eq_true, if_true, if_false, ite_true, ite_false, reduceIte, reduceCtorEq, decide_true, decide_false, true_and, and_true, beq_self_eq_true, bne_self_eq_false]
    by_cases e : xs.length = 2
    · obtain ⟨a, b, e2⟩ := len2 e
      subst e2
      exact h
    · have e2 : ((xs.length : Int) == 2) = false := int_bne (b := 2) e
      rw [e2]
      split at h
      · rename_i a b z
        cases z
        exact absurd rfl e
      · exact h
  | sys => exact absurd (nice_sys nv) (by intro z; cases z)
  | _ => exact h
def sp_is_solid : DSp := fun cs Q => ∃ t ks l so b, cs = [.dat (.sys t (.tup ks) l (.str so) b)] ∧ so.length ≤ 2 ∧ Q (.bl ((so.length : Int) == (ks.length : Int)))
theorem sem_is_solid (cs : List Cell) (Q : D → Prop) (hl : cs.length = 1) (h : sp_is_solid cs Q) : d_is_solid { nx := fun _ => Q .non, rt := Q } (startE N_is_solid cs) := by
  obtain ⟨t, ks, l, so, b, e, s2, h⟩ := h
  subst e
  unfold d_is_solid
  simp only [startE, List.map_cons, List.map_nil, List.length_cons, List.length_nil, List.replicate, List.cons_append, List.nil_append, List.getElem?_cons_zero, List.getElem?_cons_succ, List.set_cons_zero, List.set_cons_succ, wipeE, dSeq, dRet, dAsg, dAsgO, dPar, dParO, dIfS, dNx, dExpr, dFreeze, dAppend, dPop, dSetI, dFor, dUnT, dUnL, setE, dVar, dC, dBin, dUn, dCall, dA, dAS, dLnil, dLcons, dTup, dTest, dTru, dNot, dAnd, dOr, dAndV, dOrV, dNotT, dIf, dIfT, dChain, dFr, dLc, dYes, dIl, dIt, dIs, dIr, dgN, dgT, dZip, dEnum, itemsD, dSl, dNo, dPart, dIsN, dCat, dRep, dListOf, dStarL, dTruO, dCmpO, dS, fAdd, fSub, fMul, fMod, fDiv, fPow, fLt, fLe, fGt, fGe, fNeg, fEq, fNe, fIsB, fIsNotB, fTru, fLen, fIsi, isTy, fTuple, fAbs, fMax, fMin, fIx, fSl, fNotIn, fNotInK, fFld, fRev, Bool.not_true, Bool.not_false, Bool.false_eq_true, if_true, if_false, ite_true, ite_false, reduceIte, reduceCtorEq, decide_true, decide_false, true_and, and_true, beq_self_eq_true, bne_self_eq_false]
  exact ⟨sz _ (by omega), h⟩

/-! ### points, aims -/
theorem zip_whole : ∀ (n : Nat) (xs : List D), xs.length = n → zipD (List.replicate n (D.str "whole")) xs = xs.map fun x => D.tup [.str "whole", x]
  | 0, [], _ => rfl
  | n + 1, x :: xs, h => by
    rw [List.replicate_succ, List.map_cons, ← zip_whole n xs (by simpa using h)]
    rfl
def sp_is_point : DSp := fun cs Q => ∃ n bs t l so k v, cs = [.dat (sysW n bs t l so), .dat v] ∧ nice k v ∧ Q (.bl (asT n v).isSome)
theorem is_point_go {Q : D → Prop} : ∀ (xs : List D) (en : En), en.length = 4 → (∀ x ∈ xs, isSys x = false) → Q (.bl (xs.all isInt)) →
    dLoop (dgT 2 3) (dIfS (dNot (dIfT (dTest (dBin fEq (dVar 2) (dC (.str "whole")))) (dTru (dCall sp_is_integer (dA (dLcons (dVar 3) dLnil)))) dNoT)) (dRet (dC (.bl false))) dNx) { nx := fun e => dRet (dC (.bl true)) { nx := fun _ => Q .non, rt := Q } e, rt := Q } (xs.map fun x => D.tup [.str "whole", x]) en
  | [], en, _, _, q => q
  | x :: xs, [e0, e1, e2, e3], _, hs, q => by
    simp only [List.map_cons, dLoop, startE, List.map_cons, List.map_nil, List.length_cons, List.length_nil, List.replicate, List.cons_append, List.nil_append, List.getElem?_cons_zero, List.getElem?_cons_succ, List.set_cons_zero, List.set_cons_succ, wipeE, dSeq, dRet, dAsg, dAsgO, dPar, dParO, dIfS, dNx, dExpr, dFreeze, dAppend, dPop, dSetI, dFor, dUnT, dUnL, setE, dVar, dC, dBin, dUn, dCall, dA, dAS, dLnil, dLcons, dTup, dTest, dTru, dNot, dAnd, dOr, dAndV, dOrV, dNotT, dIf, dIfT, dChain, dFr, dLc, dYes, dIl, dIt, dIs, dIr, dgN, dgT, dZip, dEnum, itemsD, dSl, dNo, dPart, dIsN, dCat, dRep, dListOf, dStarL, dTruO, dCmpO, dS, fAdd, fSub, fMul, fMod, fDiv, fPow, fLt, fLe, fGt, fGe, fNeg, fEq, fNe, fIsB, fIsNotB, fTru, fLen, fIsi, isTy, fTuple, fAbs, fMax, fMin, fIx, fSl, fNotIn, fNotInK, fFld, fRev, Bool.not_true, Bool.not_false, Bool.false_eq_true, if_true, if_false, ite_true, ite_false, reduceIte, reduceCtorEq, decide_true, decide_false, true_and, and_true, beq_self_eq_true, bne_self_eq_false]
    refine ⟨hs x List.mem_cons_self, ?_⟩
    rw [List.all_cons] at q
    cases e : isInt x with
    | true =>
      rw [e, Bool.true_and] at q
      exact is_point_go xs _ rfl (fun y hy => hs y (List.mem_cons_of_mem _ hy)) q
    | false =>
      rw [e] at q
      exact q
theorem sem_is_point (cs : List Cell) (Q : D → Prop) (hl : cs.length = 2) (h : sp_is_point cs Q) : d_is_point sp_is_integer { nx := fun _ => Q .non, rt := Q } (startE N_is_point cs) := by
  obtain ⟨n, bs, t, l, so, k, v, e, nv, h⟩ := h
  subst e
  cases v with
  | tup xs =>
    obtain ⟨j, _, hz, hx⟩ := nice_tup nv
    unfold d_is_point
    simp only [startE, List.map_cons, List.map_nil, List.length_cons, List.length_nil, List.replicate, List.cons_append, List.nil_append, List.getElem?_cons_zero, List.getElem?_cons_succ, List.set_cons_zero, List.set_cons_succ, wipeE, dSeq, dRet, dAsg, dAsgO, dPar, dParO, dIfS, dNx, dExpr, dFreeze, dAppend, dPop, dSetI, dFor, dUnT, dUnL, setE, dVar, dC, dBin, dUn, dCall, dA, dAS, dLnil, dLcons, dTup, dTest, dTru, dNot, dAnd, dOr, dAndV, dOrV, dNotT, dIf, dIfT, dChain, dFr, dLc, dYes, dIl, dIt, dIs, dIr, dgN, dgT, dZip, dEnum, itemsD, dSl, dNo, dPart, dIsN, dCat, dRep, dListOf, dStarL, dTruO, dCmpO, dS, fAdd, fSub, fMul, fMod, fDiv, fPow, fLt, fLe, fGt, fGe, fNeg, fEq, fNe, fIsB, fIsNotB, fTru, fLen, fIsi, isTy, fTuple, fAbs, fMax, fMin, fIx, fSl, fNotIn, fNotInK, fFld, fRev, Bool.not_true, Bool.not_false, Bool.false_eq_true, if_true, if_false, ite_true, ite_false, reduceIte, reduceCtorEq, decide_true, decide_false, true_and, and_true, beq_self_eq_true, bne_self_eq_false]
    rw [List.length_replicate]
    by_cases e : xs.length = n
    · rw [show ((xs.length : Int) != (n : Int)) = false by rw [bne, int_beq e]; rfl]
      show dLoop _ _ _ (zipD (List.replicate n (D.str "whole")) xs) _
      rw [zip_whole n xs e]
      refine is_point_go xs _ rfl (fun x hx' => nice_sys (hx x hx')) ?_
      have e3 : (asT n (.tup xs)).isSome = xs.all isInt := by
        show (if xs.length = n then asInts xs else none).isSome = _
        rw [if_pos e, all_isInt]
      rw [e3] at h
      exact h
    · rw [show ((xs.length : Int) != (n : Int)) = true by rw [bne, int_bne e]; rfl]
      have e3 : (asT n (.tup xs)).isSome = false := by
        show (if xs.length = n then asInts xs else none).isSome = _
        rw [if_neg e]
        rfl
      rw [e3] at h
      exact h
  | sys => exact absurd (nice_sys nv) (by intro z; cases z)
  | _ => exact h
def aimOk (n : Nat) (v : D) : Bool := match asT n v with
  | some ws => ws.all fun w => decide (-99 ≤ w) && decide (w ≤ 99)
  | none => false
theorem all_btw {lo hi : Int} : ∀ xs : List D, xs.all (fun x => btw x lo hi) = match asInts xs with
    | some ws => ws.all fun w => decide (lo ≤ w) && decide (w ≤ hi)
    | none => false
  | [] => rfl
  | x :: xs => by
    rw [List.all_cons, all_btw xs]
    cases x with
    | int i =>
      show (decide (lo ≤ i) && decide (i ≤ hi) && _) = match (asInts xs).map (i :: ·) with
        | some ws => _
        | none => false
      cases asInts xs with
      | none => exact Bool.and_false _
      | some ws => rfl
    | _ => exact Bool.false_and _
def sp_is_aim : DSp := fun cs Q => ∃ n bs t l so k v, cs = [.dat (sysW n bs t l so), .dat v] ∧ nice k v ∧ Q (.bl (aimOk n v))
theorem sem_is_aim (cs : List Cell) (Q : D → Prop) (hl : cs.length = 2) (h : sp_is_aim cs Q) : d_is_aim sp_is_between { nx := fun _ => Q .non, rt := Q } (startE N_is_aim cs) := by
  obtain ⟨n, bs, t, l, so, k, v, e, nv, h⟩ := h
  subst e
  cases v with
  | tup xs =>
    obtain ⟨j, _, hz, hx⟩ := nice_tup nv
    unfold d_is_aim
    simp only [startE, List.map_cons, List.map_nil, List.length_cons, List.length_nil, List.replicate, List.cons_append, List.nil_append, List.getElem?_cons_zero, List.getElem?_cons_succ, List.set_cons_zero, List.set_cons_succ, wipeE, dSeq, dRet, dAsg, dAsgO, dPar, dParO, dIfS, dNx, dExpr, dFreeze, dAppend, dPop, dSetI, dFor, dUnT, dUnL, setE, dVar, dC, dBin, dUn, dCall, dA, dAS, dLnil, dLcons, dTup, dTest, dTru, dNot, dAnd, dOr, dAndV, dOrV, dNotT, dIf, dIfT, dChain, dFr, dLc, dYes, dIl, dIt, dIs, dIr, dgN, dgT, dZip, dEnum, itemsD, dSl, dNo, dPart, dIsN, dCat, dRep, dListOf, dStarL, dTruO, dCmpO, dS, fAdd, fSub, fMul, fMod, fDiv, fPow, fLt, fLe, fGt, fGe, fNeg, fEq, fNe, fIsB, fIsNotB, fTru, fLen, fIsi, isTy, fTuple, fAbs, fMax, fMin, fIx, fSl, fNotIn, fNotInK, fFld, fRev, Bool.not_true, Bool.not_false, Bool.false_eq_true, if_true, if_false, ite_true, ite_false, reduceIte, reduceCtorEq, decide_true, decide_false, true_and, and_true, beq_self_eq_true, bne_self_eq_false]
    rw [List.length_replicate]
    by_cases e : xs.length = n
    · rw [show ((xs.length : Int) != (n : Int)) = false by rw [bne, int_beq e]; rfl]
      show dLcGo _ _ _ _ xs [] _
      rw [← List.map_id xs]
      refine lc_map' (g := fun x => D.bl (btw x (-99) 99)) xs _ (fun x hx' => ⟨_, rfl, fun R hR => ⟨nice_sys (hx x hx'), hR⟩⟩) (sz _ (by omega)) ?_
      refine fAll_of ?_
      have e3 : aimOk n (.tup xs) = xs.all (fun x => btw x (-99) 99) := by
        show (match (if xs.length = n then asInts xs else none) with
          | some ws => _
          | none => false) = _
        rw [if_pos e, all_btw]
      rw [e3] at h
      exact h
    · rw [show ((xs.length : Int) != (n : Int)) = true by rw [bne, int_bne e]; rfl]
      have e3 : aimOk n (.tup xs) = false := by
        show (match (if xs.length = n then asInts xs else none) with
          | some ws => _
          | none => false) = _
        rw [if_neg e]
      rw [e3] at h
      exact h
  | sys => exact absurd (nice_sys nv) (by intro z; cases z)
  | _ => exact h
end Fe
set_option Elab.async false
set_option linter.all false
set_option maxRecDepth 100000
set_option maxHeartbeats 4000000
/-! Layer 3: trees. -/
namespace Fe
open PySem PySem.W PySem.Calls PyProof.Rows L2

/-- a parting node: weights and constant -/
def partOf (n : Nat) (xs : List D) : Option (List Int × Int) := match xs with
  | [_, w, .int c] => (match asT n w with
    | some ws => if ws.any (fun w => w != 0) = true then some (ws, c) else none
    | none => none)
  | _ => none
def sp_is_parting : DSp := fun cs Q => ∃ n k xs, cs = [.dat (kindsT n), .dat (.tup xs)] ∧ (∀ x ∈ xs, nice k x) ∧ Q (.bl (partOf n xs).isSome)
theorem part_len {n : Nat} {xs : List D} (h : xs.length ≠ 3) : partOf n xs = none := by
  unfold partOf
  split
  · exact absurd rfl h
  · rfl
theorem zip_whole' : ∀ (n : Nat) (ws : List Int), ws.length = n → zipD (List.replicate n (D.str "whole")) (ws.map D.int) = ws.map fun w => D.tup [.str "whole", .int w]
  | 0, [], _ => rfl
  | n + 1, x :: xs, h => by
    rw [List.replicate_succ, List.map_cons, List.map_cons, ← zip_whole' n xs (by simpa using h)]
    rfl
theorem sem_is_parting (cs : List Cell) (Q : D → Prop) (hl : cs.length = 2) (h : sp_is_parting cs Q) : d_is_parting sp_are_integers sp_is_integer { nx := fun _ => Q .non, rt := Q } (startE N_is_parting cs) := by
  obtain ⟨n, k, xs, e, nv, h⟩ := h
  subst e
  unfold d_is_parting
  by_cases e : xs.length = 3
  · obtain ⟨a, w, c, e2⟩ := len3 e
    subst e2
    simp only [startE, List.map_cons, List.map_nil, List.length_cons, List.length_nil, List.replicate, List.cons_append, List.nil_append, List.getElem?_cons_zero, List.getElem?_cons_succ, List.set_cons_zero, List.set_cons_succ, wipeE, dSeq, dRet, dAsg, dAsgO, dPar, dParO, dIfS, dNx, dExpr, dFreeze, dAppend, dPop, dSetI, dFor, dUnT, dUnL, setE, dVar, dC, dBin, dUn, dCall, dA, dAS, dLnil, dLcons, dTup, dTest, dTru, dNot, dAnd, dOr, dAndV, dOrV, dNotT, dIf, dIfT, dChain, dFr, dLc, dYes, dIl, dIt, dIs, dIr, dgN, dgT, dZip, dEnum, itemsD, dSl, dNo, dPart, dIsN, dCat, dRep, dListOf, dStarL, dTruO, dCmpO, dS, fAdd, fSub, fMul, fMod, fDiv, fPow, fLt, fLe, fGt, fGe, fNeg, fEq, fNe, fIsB, fIsNotB, fTru, fLen, fIsi, isTy, fTuple, fAbs, fMax, fMin, fIx, fSl, fNotIn, fNotInK, fFld, fRev, Bool.not_true, Bool.not_false, Bool.false_eq_true, if_true, if_false, ite_true, ite_false, reduceIte, reduceCtorEq, decide_true, decide_false, true_and, and_true, beq_self_eq_true, bne_self_eq_false]
    have nw : nice k w := nv w (by simp)
    have nc : nice k c := nv c (by simp)
    refine ⟨k, w, n, by rw [List.length_replicate], nw, ?_⟩
    cases ew : asT n w with
    | none =>
      have e3 : (partOf n [a, w, c]).isSome = false := by
        unfold partOf
        split
        · rename_i z
          cases z
          rw [ew]
          rfl
        · rfl
      rw [e3] at h
      exact h
    | some ws =>
      obtain ⟨e4, e5⟩ := asT_some ew
      subst e4
      refine ⟨nice_sys nc, ?_⟩
      cases c with
      | int c =>
        have e6 : (partOf n [a, tI ws, .int c]).isSome = ws.any fun w => w != 0 := by
          show (match asT n (tI ws) with
            | some ws => if ws.any (fun w => w != 0) = true then some (ws, c) else none
            | none => none).isSome = _
          rw [ew]
          show (if ws.any (fun w => w != 0) = true then some (ws, c) else none).isSome = _
          cases ws.any (fun w => w != 0) <;> rfl
        rw [e6] at h
        have hz : ws.length ≤ sizeLine := by
          obtain ⟨j, _, z, _⟩ := nice_tup nw
          rw [List.length_map] at z
          exact sz _ (by omega)
        show dLcGo _ _ _ _ (zipD (List.replicate n (D.str "whole")) (ws.map D.int)) [] _
        rw [zip_whole' n ws e5]
        refine lc_map' (g := fun _ => D.bl true) ws _ (fun x hx' => ⟨_, rfl, fun R hR => ?_⟩) hz ?_
        · simp only [startE, List.map_cons, List.map_nil, List.length_cons, List.length_nil, List.replicate, List.cons_append, List.nil_append, List.getElem?_cons_zero, List.getElem?_cons_succ, List.set_cons_zero, List.set_cons_succ, wipeE, dSeq, dRet, dAsg, dAsgO, dPar, dParO, dIfS, dNx, dExpr, dFreeze, dAppend, dPop, dSetI, dFor, dUnT, dUnL, setE, dVar, dC, dBin, dUn, dCall, dA, dAS, dLnil, dLcons, dTup, dTest, dTru, dNot, dAnd, dOr, dAndV, dOrV, dNotT, dIf, dIfT, dChain, dFr, dLc, dYes, dIl, dIt, dIs, dIr, dgN, dgT, dZip, dEnum, itemsD, dSl, dNo, dPart, dIsN, dCat, dRep, dListOf, dStarL, dTruO, dCmpO, dS, fAdd, fSub, fMul, fMod, fDiv, fPow, fLt, fLe, fGt, fGe, fNeg, fEq, fNe, fIsB, fIsNotB, fTru, fLen, fIsi, isTy, fTuple, fAbs, fMax, fMin, fIx, fSl, fNotIn, fNotInK, fFld, fRev, Bool.not_true, Bool.not_false, Bool.false_eq_true, if_true, if_false, ite_true, ite_false, reduceIte, reduceCtorEq, decide_true, decide_false, true_and, and_true, beq_self_eq_true, bne_self_eq_false]
          cases (x == 0) with
          | true => exact hR
          | false => exact hR
        · refine fAll_of (p := fun _ => true) ?_
          rw [show (ws.all fun _ => true) = true by simp]
          show dLcGo _ _ _ _ (ws.map D.int) [] _
          refine lc_map' (g := fun w => D.bl (w != 0)) ws _ (fun x hx' => ⟨_, rfl, fun R hR => hR⟩) hz ?_
          exact fAny_of h
      | _ => exact h
  · have e2 : ((xs.length : Int) != 3) = true := by
      show (!((xs.length : Int) == ((3 : Nat) : Int))) = true
      rw [int_bne e]
      rfl
    simp only [startE, List.map_cons, List.map_nil, List.length_cons, List.length_nil, List.replicate, List.cons_append, List.nil_append, List.getElem?_cons_zero, List.getElem?_cons_succ, List.set_cons_zero, List.set_cons_succ, wipeE, dSeq, dRet, dAsg, dAsgO, dPar, dParO, dIfS, dNx, dExpr, dFreeze, dAppend, dPop, dSetI, dFor, dUnT, dUnL, setE, dVar, dC, dBin, dUn, dCall, dA, dAS, dLnil, dLcons, dTup, dTest, dTru, dNot, dAnd, dOr, dAndV, dOrV, dNotT, dIf, dIfT, dChain, dFr, dLc, dYes, dIl, dIt, dIs, dIr, dgN, dgT, dZip, dEnum, itemsD, dSl, dNo, dPart, dIsN, dCat, dRep, dListOf, dStarL, dTruO, dCmpO, dS, fAdd, fSub, fMul, fMod, fDiv, fPow, fLt, fLe, fGt, fGe, fNeg, fEq, fNe, fIsB, fIsNotB, fTru, fLen, fIsi, isTy, fTuple, fAbs, fMax, fMin, fIx, fSl, fNotIn, fNotInK, fFld, fRev, Bool.not_true, Bool.not_false, Bool.false_eq_true, if_true, if_false, ite_true, ite_false, reduceIte, reduceCtorEq, decide_true, decide_false, true_and, and_true, beq_self_eq_true, bne_self_eq_false]
    rw [e2]
    rw [part_len e] at h
    exact h

/-! ### ends -/
def endOf (n : Nat) (here : List Bd) (xs : List D) : Bool := match xs with
  | [_, s] => (match asT here.length s with
    | some ss => ss.all (fun s => decide (0 ≤ s)) && (((List.range n).all fun k => dot ss (here.map fun b => b.1.getD k 0) == 0) && decide (dot ss (here.map fun b => b.2) < 0))
    | none => false)
  | _ => false
theorem end_len {n : Nat} {here : List Bd} {xs : List D} (h : xs.length ≠ 2) : endOf n here xs = false := by
  unfold endOf
  split
  · exact absurd rfl h
  · rfl
theorem zip_dot (f : Bd → Int) (ss : List Int) (here : List Bd) : ((ss.zip here).map fun p => p.1 * f p.2).sum = dot ss (here.map f) := by
  unfold dot
  rw [show (ss.zip (here.map f)) = (ss.zip here).map fun p => (p.1, f p.2) by
    conv => lhs; rw [← List.map_id ss]
    rw [List.zip_map]
    rfl]
  rw [List.map_map]
  rfl
def sp_is_end : DSp := fun cs Q => ∃ n k here xs, cs = [.dat (kindsT n), .dat (bndsL here), .dat (.tup xs)] ∧ (∀ x ∈ xs, nice k x) ∧ BsOk n here ∧ Q (.bl (endOf n here xs))
theorem is_end_go {Q : D → Prop} {n : Nat} {here : List Bd} {a : D} {ss : List Int} (ok : BsOk n here) (hs : LtA 200 ss) (hl : ss.length ≤ sizeLine) (q : ∀ b : Bool, (b = true → ((List.range n).all fun k => dot ss (here.map fun b => b.1.getD k 0) == 0) = true) → (b = false → ((List.range n).all fun k => dot ss (here.map fun b => b.1.getD k 0) == 0) = false) → b = false → Q (.bl false)) :
    ∀ (m k : Nat) (en : En) (Z : DEnds), k + m = n → en.length = 6 → en[0]? = some (some (.dat (kindsT n))) → en[1]? = some (some (.dat (bndsL here))) → en[2]? = some (some (.dat (.tup [a, tI ss]))) → Z.rt = Q →
    (((List.range' k m).all fun k => dot ss (here.map fun b => b.1.getD k 0) == 0) = false → Q (.bl false)) →
    (((List.range' k m).all fun k => dot ss (here.map fun b => b.1.getD k 0) == 0) = true → ∀ en', en'.length = 6 → en'[0]? = some (some (.dat (kindsT n))) → en'[1]? = some (some (.dat (bndsL here))) → en'[2]? = some (some (.dat (.tup [a, tI ss]))) → Z.nx en') →
    dLoop (dgN 3) (dIfS (dTest (dBin fNe (dUn fSum (dFr (dLc (dZip (dBin fIx (dVar 2) (dC (.int 1))) (dVar 1)) (dgT 4 5) dYes (dBin fMul (dVar 4) (dBin fIx (dBin fIx (dVar 5) (dC (.int 0))) (dVar 3))) [4, 5]))) (dC (.int 0)))) (dRet (dC (.bl false))) dNx) Z ((List.range' k m).map fun i => D.int ((i : Nat) : Int)) en
  | 0, k, en, Z, hk, l, h0, h1, h2, hZ, qf, qt => qt rfl en l h0 h1 h2
  | m + 1, k, [e0, e1, e2, e3, e4, e5], Z, hk, l, h0, h1, h2, hZ, qf, qt => by
    have e0' : e0 = some (.dat (kindsT n)) := by simpa using h0
    have e1' : e1 = some (.dat (bndsL here)) := by simpa using h1
    have e2' : e2 = some (.dat (.tup [a, tI ss])) := by simpa using h2
    subst e0' e1' e2'
    rw [List.range'_succ, List.all_cons] at qf qt
    rw [List.range'_succ, List.map_cons]
    simp only [dLoop, startE, List.map_cons, List.map_nil, List.length_cons, List.length_nil, List.replicate, List.cons_append, List.nil_append, List.getElem?_cons_zero, List.getElem?_cons_succ, List.set_cons_zero, List.set_cons_succ, wipeE, dSeq, dRet, dAsg, dAsgO, dPar, dParO, dIfS, dNx, dExpr, dFreeze, dAppend, dPop, dSetI, dFor, dUnT, dUnL, setE, dVar, dC, dBin, dUn, dCall, dA, dAS, dLnil, dLcons, dTup, dTest, dTru, dNot, dAnd, dOr, dAndV, dOrV, dNotT, dIf, dIfT, dChain, dFr, dLc, dYes, dIl, dIt, dIs, dIr, dgN, dgT, dZip, dEnum, itemsD, dSl, dNo, dPart, dIsN, dCat, dRep, dListOf, dStarL, dTruO, dCmpO, dS, fAdd, fSub, fMul, fMod, fDiv, fPow, fLt, fLe, fGt, fGe, fNeg, fEq, fNe, fIsB, fIsNotB, fTru, fLen, fIsi, isTy, fTuple, fAbs, fMax, fMin, fIx, fSl, fNotIn, fNotInK, fFld, fRev, Bool.not_true, Bool.not_false, Bool.false_eq_true, if_true, if_false, ite_true, ite_false, reduceIte, reduceCtorEq, decide_true, decide_false, true_and, and_true, beq_self_eq_true, bne_self_eq_false]
    show dLcGo _ _ _ _ (zipD (ss.map D.int) (here.map bnd)) [] _
    rw [zip_of]
    refine lc_map' (g := fun p : Int × Bd => D.int (p.1 * p.2.1.getD k 0)) (ss.zip here) _ (fun p hp => ?_) ?_ ?_
    · obtain ⟨p1, p2⟩ := List.of_mem_zip hp
      obtain ⟨w1, w2, w3⟩ := ok.w _ p2
      have hkl : k < p.2.1.length := by omega
      refine ⟨_, rfl, fun R hR => ?_⟩
      have e6 : L2.atI (p.2.1.map D.int) ((k : Nat) : Int) = some (.int (p.2.1.getD k 0)) := atI_nat (by
        rw [List.getElem?_map, List.getElem?_eq_getElem hkl, List.getD_eq_getElem?_getD, List.getElem?_eq_getElem hkl]
        rfl)
      have e7 : L2.atI [tI p.2.1, D.int p.2.2] 0 = some (tI p.2.1) := rfl
      simp only [startE, List.map_cons, List.map_nil, List.length_cons, List.length_nil, List.replicate, List.cons_append, List.nil_append, List.getElem?_cons_zero, List.getElem?_cons_succ, List.set_cons_zero, List.set_cons_succ, wipeE, dSeq, dRet, dAsg, dAsgO, dPar, dParO, dIfS, dNx, dExpr, dFreeze, dAppend, dPop, dSetI, dFor, dUnT, dUnL, setE, dVar, dC, dBin, dUn, dCall, dA, dAS, dLnil, dLcons, dTup, dTest, dTru, dNot, dAnd, dOr, dAndV, dOrV, dNotT, dIf, dIfT, dChain, dFr, dLc, dYes, dIl, dIt, dIs, dIr, dgN, dgT, dZip, dEnum, itemsD, dSl, dNo, dPart, dIsN, dCat, dRep, dListOf, dStarL, dTruO, dCmpO, dS, fAdd, fSub, fMul, fMod, fDiv, fPow, fLt, fLe, fGt, fGe, fNeg, fEq, fNe, fIsB, fIsNotB, fTru, fLen, fIsi, isTy, fTuple, fAbs, fMax, fMin, fIx, fSl, fNotIn, fNotInK, fFld, fRev, Bool.not_true, Bool.not_false, Bool.false_eq_true, if_true, if_false, ite_true, ite_false, reduceIte, reduceCtorEq, decide_true, decide_false, true_and, and_true, beq_self_eq_true, bne_self_eq_false, e7, e6]
      refine ⟨mulOk (sm_of (hs _ p1) (by decide) (by decide)) (sm_of (k := 210) ?_ (by decide) (by decide)), hR⟩
      rw [List.getD_eq_getElem?_getD, List.getElem?_eq_getElem hkl]
      exact w2 _ (List.getElem_mem hkl)
    · rw [List.length_zip]
      exact Nat.le_trans (Nat.min_le_left _ _) hl
    · refine fSum_of ?_
      rw [zip_dot fun b => b.1.getD k 0]
      simp only [startE, List.map_cons, List.map_nil, List.length_cons, List.length_nil, List.replicate, List.cons_append, List.nil_append, List.getElem?_cons_zero, List.getElem?_cons_succ, List.set_cons_zero, List.set_cons_succ, wipeE, dSeq, dRet, dAsg, dAsgO, dPar, dParO, dIfS, dNx, dExpr, dFreeze, dAppend, dPop, dSetI, dFor, dUnT, dUnL, setE, dVar, dC, dBin, dUn, dCall, dA, dAS, dLnil, dLcons, dTup, dTest, dTru, dNot, dAnd, dOr, dAndV, dOrV, dNotT, dIf, dIfT, dChain, dFr, dLc, dYes, dIl, dIt, dIs, dIr, dgN, dgT, dZip, dEnum, itemsD, dSl, dNo, dPart, dIsN, dCat, dRep, dListOf, dStarL, dTruO, dCmpO, dS, fAdd, fSub, fMul, fMod, fDiv, fPow, fLt, fLe, fGt, fGe, fNeg, fEq, fNe, fIsB, fIsNotB, fTru, fLen, fIsi, isTy, fTuple, fAbs, fMax, fMin, fIx, fSl, fNotIn, fNotInK, fFld, fRev, Bool.not_true, Bool.not_false, Bool.false_eq_true, if_true, if_false, ite_true, ite_false, reduceIte, reduceCtorEq, decide_true, decide_false, true_and, and_true, beq_self_eq_true, bne_self_eq_false]
      cases e : (dot ss (here.map fun b => b.1.getD k 0) == 0) with
      | true =>
        rw [e, Bool.true_and] at qf qt
        rw [bne, e]
        exact is_end_go ok hs hl q m (k + 1) _ Z (by omega) rfl rfl rfl rfl hZ qf qt
      | false =>
        rw [e, Bool.false_and] at qf
        rw [bne, e]
        show Z.rt (.bl false)
        rw [hZ]
        exact qf rfl
theorem sem_is_end (cs : List Cell) (Q : D → Prop) (hl : cs.length = 3) (h : sp_is_end cs Q) : d_is_end sp_are_integers { nx := fun _ => Q .non, rt := Q } (startE N_is_end cs) := by
  obtain ⟨n, k, here, xs, e, nv, ok, h⟩ := h
  subst e
  unfold d_is_end
  by_cases e : xs.length = 2
  · obtain ⟨a, s, e2⟩ := len2 e
    subst e2
    have ns : nice k s := nv s (by simp)
    simp only [startE, List.map_cons, List.map_nil, List.length_cons, List.length_nil, List.replicate, List.cons_append, List.nil_append, List.getElem?_cons_zero, List.getElem?_cons_succ, List.set_cons_zero, List.set_cons_succ, wipeE, dSeq, dRet, dAsg, dAsgO, dPar, dParO, dIfS, dNx, dExpr, dFreeze, dAppend, dPop, dSetI, dFor, dUnT, dUnL, setE, dVar, dC, dBin, dUn, dCall, dA, dAS, dLnil, dLcons, dTup, dTest, dTru, dNot, dAnd, dOr, dAndV, dOrV, dNotT, dIf, dIfT, dChain, dFr, dLc, dYes, dIl, dIt, dIs, dIr, dgN, dgT, dZip, dEnum, itemsD, dSl, dNo, dPart, dIsN, dCat, dRep, dListOf, dStarL, dTruO, dCmpO, dS, fAdd, fSub, fMul, fMod, fDiv, fPow, fLt, fLe, fGt, fGe, fNeg, fEq, fNe, fIsB, fIsNotB, fTru, fLen, fIsi, isTy, fTuple, fAbs, fMax, fMin, fIx, fSl, fNotIn, fNotInK, fFld, fRev, Bool.not_true, Bool.not_false, Bool.false_eq_true, if_true, if_false, ite_true, ite_false, reduceIte, reduceCtorEq, decide_true, decide_false, true_and, and_true, beq_self_eq_true, bne_self_eq_false]
    refine ⟨k, s, here.length, by rw [List.length_map], ns, ?_⟩
    cases es : asT here.length s with
    | none =>
      have e3 : endOf n here [a, s] = false := by
        show (match asT here.length s with
          | some ss => _
          | none => false) = false
        rw [es]
      rw [e3] at h
      exact h
    | some ss =>
      obtain ⟨e4, e5⟩ := asT_some es
      subst e4
      have hz : ss.length ≤ sizeLine := sz _ (by rw [e5]; exact ok.len)
      have hs : LtA 200 ss := fun i hi => by
        obtain ⟨j, _, _, z⟩ := nice_tup ns
        exact nice_int (z (.int i) (List.mem_map_of_mem hi))
      have e3 : endOf n here [a, tI ss] = (ss.all (fun s => decide (0 ≤ s)) && (((List.range n).all fun k => dot ss (here.map fun b => b.1.getD k 0) == 0) && decide (dot ss (here.map fun b => b.2) < 0))) := by
        show (match asT here.length (tI ss) with
          | some ss => _
          | none => false) = _
        rw [es]
      rw [e3] at h
      show dLcGo _ _ _ _ (ss.map D.int) [] _
      refine lc_map' (g := fun s => D.bl (decide (0 ≤ s))) ss _ (fun x hx' => ⟨_, rfl, fun R hR => hR⟩) hz ?_
      refine fAll_of ?_
      cases e6 : ss.all (fun s => decide (0 ≤ s)) with
      | false =>
        rw [e6] at h
        exact h
      | true =>
        rw [e6, Bool.true_and] at h
        simp only [startE, List.map_cons, List.map_nil, List.length_cons, List.length_nil, List.replicate, List.cons_append, List.nil_append, List.getElem?_cons_zero, List.getElem?_cons_succ, List.set_cons_zero, List.set_cons_succ, wipeE, dSeq, dRet, dAsg, dAsgO, dPar, dParO, dIfS, dNx, dExpr, dFreeze, dAppend, dPop, dSetI, dFor, dUnT, dUnL, setE, dVar, dC, dBin, dUn, dCall, dA, dAS, dLnil, dLcons, dTup, dTest, dTru, dNot, dAnd, dOr, dAndV, dOrV, dNotT, dIf, dIfT, dChain, dFr, dLc, dYes, dIl, dIt, dIs, dIr, dgN, dgT, dZip, dEnum, itemsD, dSl, dNo, dPart, dIsN, dCat, dRep, dListOf, dStarL, dTruO, dCmpO, dS, fAdd, fSub, fMul, fMod, fDiv, fPow, fLt, fLe, fGt, fGe, fNeg, fEq, fNe, fIsB, fIsNotB, fTru, fLen, fIsi, isTy, fTuple, fAbs, fMax, fMin, fIx, fSl, fNotIn, fNotInK, fFld, fRev, Bool.not_true, Bool.not_false, Bool.false_eq_true, if_true, if_false, ite_true, ite_false, reduceIte, reduceCtorEq, decide_true, decide_false, true_and, and_true, beq_self_eq_true, bne_self_eq_false]
        rw [List.length_replicate]
        refine ⟨by have := ok.n2; omega, ?_⟩
        rw [Int.toNat_natCast, List.range_eq_range']
        rw [List.range_eq_range'] at h
        refine is_end_go (a := a) (Q := Q) ok hs hz (fun b h1 h2 h3 => ?_) n 0 _ _ (Nat.zero_add n) rfl rfl rfl rfl rfl (fun q => ?_) fun q en' l h0 h1 h2 => ?_
        · have q := h2 h3
          rw [List.range_eq_range'] at q
          rw [q] at h
          exact h
        · rw [q] at h
          exact h
        · rw [q, Bool.true_and] at h
          match en', l, h1, h2 with
          | [e0, e1, e2, e3, e4, e5], _, h1, h2 =>
            have e1' : e1 = some (.dat (bndsL here)) := by simpa using h1
            have e2' : e2 = some (.dat (.tup [a, tI ss])) := by simpa using h2
            subst e1' e2'
            simp only [startE, List.map_cons, List.map_nil, List.length_cons, List.length_nil, List.replicate, List.cons_append, List.nil_append, List.getElem?_cons_zero, List.getElem?_cons_succ, List.set_cons_zero, List.set_cons_succ, wipeE, dSeq, dRet, dAsg, dAsgO, dPar, dParO, dIfS, dNx, dExpr, dFreeze, dAppend, dPop, dSetI, dFor, dUnT, dUnL, setE, dVar, dC, dBin, dUn, dCall, dA, dAS, dLnil, dLcons, dTup, dTest, dTru, dNot, dAnd, dOr, dAndV, dOrV, dNotT, dIf, dIfT, dChain, dFr, dLc, dYes, dIl, dIt, dIs, dIr, dgN, dgT, dZip, dEnum, itemsD, dSl, dNo, dPart, dIsN, dCat, dRep, dListOf, dStarL, dTruO, dCmpO, dS, fAdd, fSub, fMul, fMod, fDiv, fPow, fLt, fLe, fGt, fGe, fNeg, fEq, fNe, fIsB, fIsNotB, fTru, fLen, fIsi, isTy, fTuple, fAbs, fMax, fMin, fIx, fSl, fNotIn, fNotInK, fFld, fRev, Bool.not_true, Bool.not_false, Bool.false_eq_true, if_true, if_false, ite_true, ite_false, reduceIte, reduceCtorEq, decide_true, decide_false, true_and, and_true, beq_self_eq_true, bne_self_eq_false]
            show dLcGo _ _ _ _ (zipD (ss.map D.int) (here.map bnd)) [] _
            rw [zip_of]
            refine lc_map' (g := fun p : Int × Bd => D.int (p.1 * p.2.2)) (ss.zip here) _ (fun p hp => ?_) ?_ ?_
            · obtain ⟨p1, p2⟩ := List.of_mem_zip hp
              obtain ⟨w1, w2, w3⟩ := ok.w _ p2
              refine ⟨_, rfl, fun R hR => ?_⟩
              exact ⟨mulOk (sm_of (hs _ p1) (by decide) (by decide)) (sm_of w3 (by decide) (by decide)), hR⟩
            · rw [List.length_zip]
              exact Nat.le_trans (Nat.min_le_left _ _) hz
            · refine fSum_of ?_
              rw [zip_dot fun b => b.2]
              exact h
  · have e2 : ((xs.length : Int) != 2) = true := by
      show (!((xs.length : Int) == ((2 : Nat) : Int))) = true
      rw [int_bne e]
      rfl
    simp only [startE, List.map_cons, List.map_nil, List.length_cons, List.length_nil, List.replicate, List.cons_append, List.nil_append, List.getElem?_cons_zero, List.getElem?_cons_succ, List.set_cons_zero, List.set_cons_succ, wipeE, dSeq, dRet, dAsg, dAsgO, dPar, dParO, dIfS, dNx, dExpr, dFreeze, dAppend, dPop, dSetI, dFor, dUnT, dUnL, setE, dVar, dC, dBin, dUn, dCall, dA, dAS, dLnil, dLcons, dTup, dTest, dTru, dNot, dAnd, dOr, dAndV, dOrV, dNotT, dIf, dIfT, dChain, dFr, dLc, dYes, dIl, dIt, dIs, dIr, dgN, dgT, dZip, dEnum, itemsD, dSl, dNo, dPart, dIsN, dCat, dRep, dListOf, dStarL, dTruO, dCmpO, dS, fAdd, fSub, fMul, fMod, fDiv, fPow, fLt, fLe, fGt, fGe, fNeg, fEq, fNe, fIsB, fIsNotB, fTru, fLen, fIsi, isTy, fTuple, fAbs, fMax, fMin, fIx, fSl, fNotIn, fNotInK, fFld, fRev, Bool.not_true, Bool.not_false, Bool.false_eq_true, if_true, if_false, ite_true, ite_false, reduceIte, reduceCtorEq, decide_true, decide_false, true_and, and_true, beq_self_eq_true, bne_self_eq_false]
    rw [e2]
    rw [end_len e] at h
    exact h
end Fe
set_option Elab.async false
set_option linter.all false
set_option maxRecDepth 100000
set_option maxHeartbeats 4000000
/-! Layer 3: the checker's walk over a tree's nodes. -/
namespace Fe
open PySem PySem.W PySem.Calls PyProof.Rows L2

def stepOf (n : Nat) (node : D) (st : List (List Bd)) : Option (List (List Bd)) := match st with
  | [] => none
  | h :: rest => (match node with
    | .tup (.str s :: more) => (if (s == "part") = true then (match partOf n (.str s :: more) with
        | some (ws, c) => some ((h ++ [(ws, c)]) :: (h ++ [(neg ws, -(c + 1))]) :: rest)
        | none => none)
      else if (s == "end" && endOf n h (.str s :: more)) = true then some rest else none)
    | _ => none)
def runTo (n : Nat) : List D → List (List Bd) → Option (List (List Bd))
  | [], st => some st
  | x :: xs, st => match stepOf n x st with
    | some st' => runTo n xs st'
    | none => none
def treeOf (n : Nat) (bs : List Bd) (nodes : D) : Bool := match nodes with
  | .tup ns => (match runTo n ns [bs] with
    | some st => st.isEmpty
    | none => false)
  | _ => false
abbrev stk (st : List (List Bd)) : List D := st.reverse.map bndsL
theorem stk_cons (h : List Bd) (st : List (List Bd)) : stk (h :: st) = stk st ++ [bndsL h] := by
  unfold stk
  rw [List.reverse_cons, List.map_append]
  rfl
theorem stk_len (st : List (List Bd)) : (stk st).length = st.length := by rw [List.length_map, List.length_reverse]
theorem stk_empty (st : List (List Bd)) : (stk st).isEmpty = st.isEmpty := by
  cases st with
  | nil => rfl
  | cons h st =>
    rw [stk_cons]
    cases stk st <;> rfl
theorem part_at {n : Nat} {xs : List D} {ws : List Int} {c : Int} (h : partOf n xs = some (ws, c)) : ∃ a, xs = [a, tI ws, .int c] ∧ ws.length = n := by
  unfold partOf at h
  split at h
  · rename_i a w c'
    split at h
    · rename_i ws' e
      split at h
      · cases h
        obtain ⟨e1, e2⟩ := asT_some e
        exact ⟨a, by rw [e1], e2⟩
      · cases h
    · cases h
  · cases h
theorem dPop_at {i j : Nat} {Z : DEnds} {en : En} {l : List D} {d : D} (h : en[i]? = some (some (.own (l ++ [d])))) (k : Z.nx ((en.set i (some (.own l))).set j (some (.dat d)))) : dPop i j Z en := by
  unfold dPop
  rw [h]
  have e : (l ++ [d])[(l ++ [d]).length - 1]? = some d := by simp
  simp only [e, List.dropLast_concat]
  exact k
theorem eq_nil (x : D) (xs : List D) : PyData.eqv (py (.tup (x :: xs))) (py (.tup [])) = false := by
  unfold py pyL
  rw [PyData.eqv]
  rfl
theorem eq_nil0 : PyData.eqv (py (.tup [])) (py (.tup [])) = true := by
  unfold py pyL
  rw [PyData.eqv]
  rfl
structure TreeEn (n : Nat) (st : List (List Bd)) (en : En) : Prop where
  len : en.length = 6
  k : en[0]? = some (some (.dat (kindsT n)))
  w : en[3]? = some (some (.own (stk st)))
def StOk (n : Nat) (m : Nat) (st : List (List Bd)) : Prop := (∀ h ∈ st, BsOk n h ∧ h.length + m ≤ 900) ∧ st.length + m ≤ 5000
theorem bs_add {n : Nat} {h : List Bd} {b : Bd} (ok : BsOk n h) (l : h.length < 1000) (w : b.1.length = n ∧ LtA 210 b.1 ∧ Lt 210 b.2) : BsOk n (h ++ [b]) :=
  ⟨ok.n2, by rw [List.length_append, List.length_singleton]; omega, fun c hc => by
    rcases List.mem_append.mp hc with z | z
    · exact ok.w c z
    · rw [List.mem_singleton.mp z]
      exact w⟩
theorem ltA_neg {k : Nat} {ws : List Int} (h : LtA k ws) : LtA k (neg ws) := fun i hi => by
  obtain ⟨j, hj, e⟩ := List.mem_map.mp hi
  subst e
  exact lt_neg (h j hj)
theorem neg_len (ws : List Int) : (neg ws).length = ws.length := by
  unfold neg
  rw [List.length_map]
theorem step_ok {n m k : Nat} {node : D} {st st' : List (List Bd)} (h : stepOf n node st = some st') (nn : nice k node) (ok : StOk n (m + 1) st) : StOk n m st' := by
  unfold stepOf at h
  split at h
  · cases h
  · rename_i hd rest
    obtain ⟨o1, o2⟩ := ok
    have ohd := o1 hd List.mem_cons_self
    rw [List.length_cons] at o2
    split at h
    · rename_i s more
      split at h
      · split at h
        · rename_i ws c e
          cases h
          obtain ⟨a, e1, e2⟩ := part_at e
          obtain ⟨j, _, _, z⟩ := nice_tup nn
          have nw : nice j (tI ws) := z _ (by rw [e1]; simp)
          have nc : nice j (.int c) := z _ (by rw [e1]; simp)
          obtain ⟨j2, _, _, z2⟩ := nice_tup nw
          have lw : LtA 210 ws := fun i hi => lt_mono (nice_int (z2 _ (List.mem_map_of_mem hi))) (by decide)
          have lc : Lt 200 c := nice_int nc
          refine ⟨fun g hg => ?_, by rw [List.length_cons, List.length_cons]; omega⟩
          rcases List.mem_cons.mp hg with y | hg
          · subst y
            exact ⟨bs_add ohd.1 (by omega) ⟨e2, lw, lt_mono lc (by decide)⟩, by rw [List.length_append, List.length_singleton]; omega⟩
          · rcases List.mem_cons.mp hg with y | hg
            · subst y
              exact ⟨bs_add ohd.1 (by omega) ⟨by rw [neg_len]; exact e2, ltA_neg lw, lt_mono (lt_neg (lt_add lc (lt_one (by decide)))) (by decide)⟩, by rw [List.length_append, List.length_singleton]; omega⟩
            · have := o1 g (List.mem_cons_of_mem _ hg)
              exact ⟨this.1, by omega⟩
        · cases h
      · split at h
        · cases h
          refine ⟨fun g hg => ?_, by omega⟩
          have := o1 g (List.mem_cons_of_mem _ hg)
          exact ⟨this.1, by omega⟩
        · cases h
    · cases h
def p_tree : DS := (dSeq (dIfS (dNot (dTru (dCall sp_is_parting (dA (dLcons (dVar 0) (dLcons (dVar 4) dLnil)))))) (dRet (dC (.bl false))) dNx) (dSeq (dAppend 3 (dFr (dCat (dVar 5) (dFr (dLcons (dCall sp_at_least (dA (dLcons (dBin fIx (dVar 4) (dC (.int 1))) (dLcons (dBin fAdd (dBin fIx (dVar 4) (dC (.int 2))) (dC (.int 1))) dLnil)))) dLnil))))) (dAppend 3 (dFr (dCat (dVar 5) (dFr (dLcons (dCall sp_at_most (dA (dLcons (dBin fIx (dVar 4) (dC (.int 1))) (dLcons (dBin fIx (dVar 4) (dC (.int 2))) dLnil)))) dLnil)))))))
def e_tree : DS := (dIfS (dOr (dTest (dBin fNe (dBin fIx (dVar 4) (dC (.int 0))) (dC (.str "end")))) (dNot (dTru (dCall sp_is_end (dA (dLcons (dVar 0) (dLcons (dVar 5) (dLcons (dVar 4) dLnil)))))))) (dRet (dC (.bl false))) dNx)
def r_tree : DS := (dSeq (dPop 3 5) (dIfS (dTest (dBin fEq (dBin fIx (dVar 4) (dC (.int 0))) (dC (.str "part")))) p_tree e_tree))
def b_tree : DS := (dSeq (dIfS (dOr (dNot (dTruO 3)) (dOr (dNot (dTru (dUn (fIsi "tuple") (dVar 4)))) (dOr (dTest (dBin fEqD (dVar 4) (dTup dLnil))) (dNot (dTru (dUn (fIsi "str") (dBin fIx (dVar 4) (dC (.int 0))))))))) (dRet (dC (.bl false))) dNx) r_tree)
theorem p_step {n j : Nat} {h : List Bd} {rest : List (List Bd)} {s : Str} {more : List D} {e1 e2 : Option Cell} {Z : DEnds} (hx : ∀ x ∈ D.str s :: more, nice j x) (hn : BsOk n h) (hl : h.length ≤ 900) (hr : rest.length ≤ 5000)
    (qf : partOf n (.str s :: more) = none → Z.rt (.bl false)) (qt : ∀ ws c, partOf n (.str s :: more) = some (ws, c) → ∀ en', TreeEn n ((h ++ [(ws, c)]) :: (h ++ [(neg ws, -(c + 1))]) :: rest) en' → Z.nx en') :
    p_tree Z [some (.dat (kindsT n)), e1, e2, some (.own (stk rest)), some (.dat (.tup (.str s :: more))), some (.dat (bndsL h))] := by
  unfold p_tree
  refine ⟨n, j, .str s :: more, rfl, hx, ?_⟩
  cases ep : partOf n (.str s :: more) with
  | none => exact qf ep
  | some wc =>
    obtain ⟨ws, c⟩ := wc
    obtain ⟨a, ea, e2'⟩ := part_at ep
    cases ea
    have hw2 : ws.length ≤ sizeLine := sz _ (by have := hn.n2; omega)
    have hl2 : h.length + 1 ≤ sizeLine := sz _ (by omega)
    have hl3 : (stk rest).length < sizeLine := by rw [stk_len, sizeLine_eq]; omega
    have hl4 : (stk rest).length + 1 < sizeLine := by rw [stk_len, sizeLine_eq]; omega
    refine ⟨ws, c + 1, rfl, hw2, ?_⟩
    refine ⟨by rw [List.length_map]; exact hl2, hl3, ?_⟩
    refine ⟨by rw [List.length_map]; exact hl2, by rw [List.length_append]; exact hl4, ?_⟩
    refine qt ws c ep _ ⟨rfl, rfl, ?_⟩
    rw [stk_cons, stk_cons]
    show some (some (Cell.own _)) = some (some (Cell.own _))
    rw [show bndsL (h ++ [(ws, c)]) = .lst (h.map bnd ++ [bnd (ws, c)]) by unfold bndsL; rw [List.map_append]; rfl, show bndsL (h ++ [(neg ws, -(c + 1))]) = .lst (h.map bnd ++ [bnd (neg ws, -(c + 1))]) by unfold bndsL; rw [List.map_append]; rfl]
theorem e_step {n j : Nat} {h : List Bd} {rest : List (List Bd)} {s : Str} {more : List D} {e1 e2 : Option Cell} {Z : DEnds} (hx : ∀ x ∈ D.str s :: more, nice j x) (hn : BsOk n h)
    (qf : (s == ("end" : Str) && endOf n h (.str s :: more)) = false → Z.rt (.bl false)) (qt : (s == ("end" : Str) && endOf n h (.str s :: more)) = true → ∀ en', TreeEn n rest en' → Z.nx en') :
    e_tree Z [some (.dat (kindsT n)), e1, e2, some (.own (stk rest)), some (.dat (.tup (.str s :: more))), some (.dat (bndsL h))] := by
  unfold e_tree
  cases ee : (s == ("end" : Str)) with
  | false =>
    rw [ee] at qf
    simp only [at0, startE, List.map_cons, List.map_nil, List.length_cons, List.length_nil, List.replicate, List.cons_append, List.nil_append, List.getElem?_cons_zero, List.getElem?_cons_succ, List.set_cons_zero, List.set_cons_succ, wipeE, dSeq, dRet, dAsg, dAsgO, dPar, dParO, dIfS, dNx, dExpr, dFreeze, dAppend, dPop, dSetI, dFor, dUnT, dUnL, setE, dVar, dC, dBin, dUn, dCall, dA, dAS, dLnil, dLcons, dTup, dTest, dTru, dNot, dAnd, dOr, dAndV, dOrV, dNotT, dIf, dIfT, dChain, dFr, dLc, dYes, dIl, dIt, dIs, dIr, dgN, dgT, dZip, dEnum, itemsD, dSl, dNo, dPart, dIsN, dCat, dRep, dListOf, dStarL, dTruO, dCmpO, dS, fAdd, fSub, fMul, fMod, fDiv, fPow, fLt, fLe, fGt, fGe, fNeg, fEq, fNe, fIsB, fIsNotB, fTru, fLen, fIsi, isTy, fTuple, fAbs, fMax, fMin, fIx, fSl, fNotIn, fNotInK, fFld, fRev, Bool.not_true, Bool.not_false, Bool.false_eq_true, if_true, if_false, ite_true, ite_false, reduceIte, reduceCtorEq, decide_true, decide_false, true_and, and_true, beq_self_eq_true, bne_self_eq_false]
    rw [bne, ee]
    exact qf rfl
  | true =>
    rw [ee, Bool.true_and] at qf qt
    simp only [at0, startE, List.map_cons, List.map_nil, List.length_cons, List.length_nil, List.replicate, List.cons_append, List.nil_append, List.getElem?_cons_zero, List.getElem?_cons_succ, List.set_cons_zero, List.set_cons_succ, wipeE, dSeq, dRet, dAsg, dAsgO, dPar, dParO, dIfS, dNx, dExpr, dFreeze, dAppend, dPop, dSetI, dFor, dUnT, dUnL, setE, dVar, dC, dBin, dUn, dCall, dA, dAS, dLnil, dLcons, dTup, dTest, dTru, dNot, dAnd, dOr, dAndV, dOrV, dNotT, dIf, dIfT, dChain, dFr, dLc, dYes, dIl, dIt, dIs, dIr, dgN, dgT, dZip, dEnum, itemsD, dSl, dNo, dPart, dIsN, dCat, dRep, dListOf, dStarL, dTruO, dCmpO, dS, fAdd, fSub, fMul, fMod, fDiv, fPow, fLt, fLe, fGt, fGe, fNeg, fEq, fNe, fIsB, fIsNotB, fTru, fLen, fIsi, isTy, fTuple, fAbs, fMax, fMin, fIx, fSl, fNotIn, fNotInK, fFld, fRev, Bool.not_true, Bool.not_false, Bool.false_eq_true, if_true, if_false, ite_true, ite_false, reduceIte, reduceCtorEq, decide_true, decide_false, true_and, and_true, beq_self_eq_true, bne_self_eq_false]
    rw [bne, ee]
    refine ⟨n, j, h, .str s :: more, rfl, hx, hn, ?_⟩
    cases eo : endOf n h (.str s :: more) with
    | false => exact qf eo
    | true => exact qt eo _ ⟨rfl, rfl, rfl⟩
theorem tree_step {n m k : Nat} {st : List (List Bd)} {node : D} {en : En} {Z : DEnds} (T : TreeEn n st en) (e4 : en[4]? = some (some (.dat node))) (nn : nice k node) (k64 : k ≤ 60) (ok : StOk n (m + 1) st) (qf : stepOf n node st = none → Z.rt (.bl false)) (qt : ∀ st', stepOf n node st = some st' → ∀ en', TreeEn n st' en' → Z.nx en') :
    b_tree Z en := by
  obtain ⟨l, hk, hw⟩ := T
  match en, l, hk, hw, e4 with
  | [e0, e1, e2, e3, e4, e5], _, hk, hw, h4 =>
  have e0' : e0 = some (.dat (kindsT n)) := by simpa using hk
  have e3' : e3 = some (.own (stk st)) := by simpa using hw
  have e4' : e4 = some (.dat node) := by simpa using h4
  subst e0' e3' e4'
  unfold b_tree
  cases st with
  | nil => exact qf rfl
  | cons h rest =>
    have ohd := ok.1 h List.mem_cons_self
    have t1 : (!(stk (h :: rest)).isEmpty) = true := by rw [stk_empty]; rfl
    cases node with
    | tup xs =>
      cases xs with
      | nil =>
        simp only [t1, startE, List.map_cons, List.map_nil, List.length_cons, List.length_nil, List.replicate, List.cons_append, List.nil_append, List.getElem?_cons_zero, List.getElem?_cons_succ, List.set_cons_zero, List.set_cons_succ, wipeE, dSeq, dRet, dAsg, dAsgO, dPar, dParO, dIfS, dNx, dExpr, dFreeze, dAppend, dPop, dSetI, dFor, dUnT, dUnL, setE, dVar, dC, dBin, dUn, dCall, dA, dAS, dLnil, dLcons, dTup, dTest, dTru, dNot, dAnd, dOr, dAndV, dOrV, dNotT, dIf, dIfT, dChain, dFr, dLc, dYes, dIl, dIt, dIs, dIr, dgN, dgT, dZip, dEnum, itemsD, dSl, dNo, dPart, dIsN, dCat, dRep, dListOf, dStarL, dTruO, dCmpO, dS, fAdd, fSub, fMul, fMod, fDiv, fPow, fLt, fLe, fGt, fGe, fNeg, fEq, fNe, fIsB, fIsNotB, fTru, fLen, fIsi, isTy, fTuple, fAbs, fMax, fMin, fIx, fSl, fNotIn, fNotInK, fFld, fRev, Bool.not_true, Bool.not_false, Bool.false_eq_true, if_true, if_false, ite_true, ite_false, reduceIte, reduceCtorEq, decide_true, decide_false, true_and, and_true, beq_self_eq_true, bne_self_eq_false]
        show Shp (.tup []) ∧ Shp (.tup []) ∧ _
        refine ⟨shp_of (nice_shp nn) (by omega), shp_of (nice_shp nn) (by omega), ?_⟩
        rw [eq_nil0]
        exact qf rfl
      | cons x more =>
        obtain ⟨j, ej, hz, hx⟩ := nice_tup nn
        have nx : nice j x := hx x List.mem_cons_self
        simp only [t1, startE, List.map_cons, List.map_nil, List.length_cons, List.length_nil, List.replicate, List.cons_append, List.nil_append, List.getElem?_cons_zero, List.getElem?_cons_succ, List.set_cons_zero, List.set_cons_succ, wipeE, dSeq, dRet, dAsg, dAsgO, dPar, dParO, dIfS, dNx, dExpr, dFreeze, dAppend, dPop, dSetI, dFor, dUnT, dUnL, setE, dVar, dC, dBin, dUn, dCall, dA, dAS, dLnil, dLcons, dTup, dTest, dTru, dNot, dAnd, dOr, dAndV, dOrV, dNotT, dIf, dIfT, dChain, dFr, dLc, dYes, dIl, dIt, dIs, dIr, dgN, dgT, dZip, dEnum, itemsD, dSl, dNo, dPart, dIsN, dCat, dRep, dListOf, dStarL, dTruO, dCmpO, dS, fAdd, fSub, fMul, fMod, fDiv, fPow, fLt, fLe, fGt, fGe, fNeg, fEq, fNe, fIsB, fIsNotB, fTru, fLen, fIsi, isTy, fTuple, fAbs, fMax, fMin, fIx, fSl, fNotIn, fNotInK, fFld, fRev, Bool.not_true, Bool.not_false, Bool.false_eq_true, if_true, if_false, ite_true, ite_false, reduceIte, reduceCtorEq, decide_true, decide_false, true_and, and_true, beq_self_eq_true, bne_self_eq_false]
        show Shp (.tup (x :: more)) ∧ Shp (.tup []) ∧ _
        refine ⟨shp_of (nice_shp nn) (by omega), by decide, ?_⟩
        rw [eq_nil]
        simp only [at0, startE, List.map_cons, List.map_nil, List.length_cons, List.length_nil, List.replicate, List.cons_append, List.nil_append, List.getElem?_cons_zero, List.getElem?_cons_succ, List.set_cons_zero, List.set_cons_succ, wipeE, dSeq, dRet, dAsg, dAsgO, dPar, dParO, dIfS, dNx, dExpr, dFreeze, dAppend, dPop, dSetI, dFor, dUnT, dUnL, setE, dVar, dC, dBin, dUn, dCall, dA, dAS, dLnil, dLcons, dTup, dTest, dTru, dNot, dAnd, dOr, dAndV, dOrV, dNotT, dIf, dIfT, dChain, dFr, dLc, dYes, dIl, dIt, dIs, dIr, dgN, dgT, dZip, dEnum, itemsD, dSl, dNo, dPart, dIsN, dCat, dRep, dListOf, dStarL, dTruO, dCmpO, dS, fAdd, fSub, fMul, fMod, fDiv, fPow, fLt, fLe, fGt, fGe, fNeg, fEq, fNe, fIsB, fIsNotB, fTru, fLen, fIsi, isTy, fTuple, fAbs, fMax, fMin, fIx, fSl, fNotIn, fNotInK, fFld, fRev, Bool.not_true, Bool.not_false, Bool.false_eq_true, if_true, if_false, ite_true, ite_false, reduceIte, reduceCtorEq, decide_true, decide_false, true_and, and_true, beq_self_eq_true, bne_self_eq_false]
        cases x with
        | str s =>
          show r_tree Z _
          unfold r_tree
          have hl : h.length ≤ 900 := by have := ohd.2; omega
          have hr : rest.length ≤ 5000 := by
            have := ok.2
            rw [List.length_cons] at this
            omega
          rw [stk_cons]
          refine dPop_at (l := stk rest) (d := bndsL h) rfl ?_
          simp only [at0, startE, List.map_cons, List.map_nil, List.length_cons, List.length_nil, List.replicate, List.cons_append, List.nil_append, List.getElem?_cons_zero, List.getElem?_cons_succ, List.set_cons_zero, List.set_cons_succ, wipeE, dSeq, dRet, dAsg, dAsgO, dPar, dParO, dIfS, dNx, dExpr, dFreeze, dAppend, dPop, dSetI, dFor, dUnT, dUnL, setE, dVar, dC, dBin, dUn, dCall, dA, dAS, dLnil, dLcons, dTup, dTest, dTru, dNot, dAnd, dOr, dAndV, dOrV, dNotT, dIf, dIfT, dChain, dFr, dLc, dYes, dIl, dIt, dIs, dIr, dgN, dgT, dZip, dEnum, itemsD, dSl, dNo, dPart, dIsN, dCat, dRep, dListOf, dStarL, dTruO, dCmpO, dS, fAdd, fSub, fMul, fMod, fDiv, fPow, fLt, fLe, fGt, fGe, fNeg, fEq, fNe, fIsB, fIsNotB, fTru, fLen, fIsi, isTy, fTuple, fAbs, fMax, fMin, fIx, fSl, fNotIn, fNotInK, fFld, fRev, Bool.not_true, Bool.not_false, Bool.false_eq_true, if_true, if_false, ite_true, ite_false, reduceIte, reduceCtorEq, decide_true, decide_false, true_and, and_true, beq_self_eq_true, bne_self_eq_false]
          cases es : (s == ("part" : Str)) with
          | true =>
            rw [if_pos rfl]
            refine p_step hx ohd.1 hl hr (fun ep => qf ?_) fun ws c ep => qt _ ?_
            · unfold stepOf
              simp only [es, if_true, ep]
            · unfold stepOf
              simp only [es, if_true, ep]
          | false =>
            rw [if_neg Bool.false_ne_true]
            have est : stepOf n (.tup (.str s :: more)) (h :: rest) = if (s == ("end" : Str) && endOf n h (.str s :: more)) = true then some rest else none := by
              unfold stepOf
              simp only [es, Bool.false_eq_true, if_false]
            rw [est] at qf qt
            refine e_step hx ohd.1 (fun z => qf ?_) fun z => qt _ ?_
            · rw [z]
              rfl
            · rw [z]
              rfl
        | sys => exact absurd (nice_sys nx) (by intro z; cases z)
        | _ => exact qf rfl
    | sys => exact absurd (nice_sys nn) (by intro z; cases z)
    | _ =>
      simp only [t1, startE, List.map_cons, List.map_nil, List.length_cons, List.length_nil, List.replicate, List.cons_append, List.nil_append, List.getElem?_cons_zero, List.getElem?_cons_succ, List.set_cons_zero, List.set_cons_succ, wipeE, dSeq, dRet, dAsg, dAsgO, dPar, dParO, dIfS, dNx, dExpr, dFreeze, dAppend, dPop, dSetI, dFor, dUnT, dUnL, setE, dVar, dC, dBin, dUn, dCall, dA, dAS, dLnil, dLcons, dTup, dTest, dTru, dNot, dAnd, dOr, dAndV, dOrV, dNotT, dIf, dIfT, dChain, dFr, dLc, dYes, dIl, dIt, dIs, dIr, dgN, dgT, dZip, dEnum, itemsD, dSl, dNo, dPart, dIsN, dCat, dRep, dListOf, dStarL, dTruO, dCmpO, dS, fAdd, fSub, fMul, fMod, fDiv, fPow, fLt, fLe, fGt, fGe, fNeg, fEq, fNe, fIsB, fIsNotB, fTru, fLen, fIsi, isTy, fTuple, fAbs, fMax, fMin, fIx, fSl, fNotIn, fNotInK, fFld, fRev, Bool.not_true, Bool.not_false, Bool.false_eq_true, if_true, if_false, ite_true, ite_false, reduceIte, reduceCtorEq, decide_true, decide_false, true_and, and_true, beq_self_eq_true, bne_self_eq_false]
      exact qf rfl
theorem set4 {en : En} {n : Nat} {st : List (List Bd)} {c : Option Cell} (T : TreeEn n st en) : TreeEn n st (en.set 4 c) := by
  refine ⟨by rw [List.length_set]; exact T.len, ?_, ?_⟩
  · rw [List.getElem?_set_ne (by decide)]
    exact T.k
  · rw [List.getElem?_set_ne (by decide)]
    exact T.w
theorem tree_go {n k : Nat} (k64 : k ≤ 60) : ∀ (ns : List D) (st : List (List Bd)) (en : En) (Z : DEnds), TreeEn n st en → (∀ x ∈ ns, nice k x) → StOk n ns.length st → (runTo n ns st = none → Z.rt (.bl false)) → (∀ st', runTo n ns st = some st' → ∀ en', TreeEn n st' en' → Z.nx en') →
    dLoop (dgN 4) b_tree Z ns en
  | [], st, en, Z, T, _, _, _, qt => qt st rfl en T
  | x :: ns, st, en, Z, T, hx, ok, qf, qt => by
    have nx : nice k x := hx x List.mem_cons_self
    have h4 : (en.set 4 (some (.dat x)))[4]? = some (some (.dat x)) := List.getElem?_set_self (by rw [T.len]; decide)
    show b_tree { nx := fun e => dLoop (dgN 4) b_tree Z ns e, rt := Z.rt, bk := Z.nx, ct := fun e => dLoop (dgN 4) b_tree Z ns e } (en.set 4 (some (.dat x)))
    unfold runTo at qf qt
    refine tree_step (m := ns.length) (set4 T) h4 nx k64 ok (fun z => ?_) fun st' z en' T' => ?_
    · rw [z] at qf
      exact qf rfl
    · rw [z] at qf qt
      exact tree_go k64 ns st' en' Z T' (fun y hy => hx y (List.mem_cons_of_mem _ hy)) (step_ok z nx ok) qf qt
def sp_is_tree : DSp := fun cs Q => ∃ n k bs v, cs = [.dat (kindsT n), .dat (bndsL bs), .dat v] ∧ nice (k + 1) v ∧ k ≤ 60 ∧ BsOk n bs ∧ bs.length ≤ 600 ∧ Q (.bl (treeOf n bs v))
theorem sem_is_tree (cs : List Cell) (Q : D → Prop) (hl : cs.length = 3) (h : sp_is_tree cs Q) : d_is_tree sp_is_parting sp_at_least sp_at_most sp_is_end { nx := fun _ => Q .non, rt := Q } (startE N_is_tree cs) := by
  obtain ⟨n, k, bs, v, e, nv, k60, ok, bl, h⟩ := h
  subst e
  cases v with
  | tup ns =>
    obtain ⟨j, ej, hz, hx⟩ := nice_tup nv
    cases ej
    show dLoop (dgN 4) b_tree { nx := fun e => dFreeze 3 (dRet (dNotT (dVar 3))) { nx := fun _ => Q .non, rt := Q } e, rt := Q } ns [some (.dat (kindsT n)), some (.dat (bndsL bs)), some (.dat (.tup ns)), some (.own [bndsL bs]), none, none]
    refine tree_go k60 ns [bs] _ _ ⟨rfl, rfl, rfl⟩ hx ⟨fun h hh => ?_, by rw [List.length_singleton]; omega⟩ (fun z => ?_) fun st' z en' T => ?_
    · rw [List.mem_singleton.mp hh]
      exact ⟨ok, by omega⟩
    · have e : treeOf n bs (.tup ns) = false := by
        show (match runTo n ns [bs] with
          | some st => st.isEmpty
          | none => false) = false
        rw [z]
      rw [e] at h
      exact h
    · have e : treeOf n bs (.tup ns) = st'.isEmpty := by
        show (match runTo n ns [bs] with
          | some st => st.isEmpty
          | none => false) = _
        rw [z]
      rw [e] at h
      obtain ⟨l, h0, h3⟩ := T
      match en', l, h0, h3 with
      | [e0, e1, e2, e3, e4, e5], _, h0, h3 =>
      have e3' : e3 = some (.own (stk st')) := by simpa using h3
      subst e3'
      simp only [startE, List.map_cons, List.map_nil, List.length_cons, List.length_nil, List.replicate, List.cons_append, List.nil_append, List.getElem?_cons_zero, List.getElem?_cons_succ, List.set_cons_zero, List.set_cons_succ, wipeE, dSeq, dRet, dAsg, dAsgO, dPar, dParO, dIfS, dNx, dExpr, dFreeze, dAppend, dPop, dSetI, dFor, dUnT, dUnL, setE, dVar, dC, dBin, dUn, dCall, dA, dAS, dLnil, dLcons, dTup, dTest, dTru, dNot, dAnd, dOr, dAndV, dOrV, dNotT, dIf, dIfT, dChain, dFr, dLc, dYes, dIl, dIt, dIs, dIr, dgN, dgT, dZip, dEnum, itemsD, dSl, dNo, dPart, dIsN, dCat, dRep, dListOf, dStarL, dTruO, dCmpO, dS, fAdd, fSub, fMul, fMod, fDiv, fPow, fLt, fLe, fGt, fGe, fNeg, fEq, fNe, fIsB, fIsNotB, fTru, fLen, fIsi, isTy, fTuple, fAbs, fMax, fMin, fIx, fSl, fNotIn, fNotInK, fFld, fRev, Bool.not_true, Bool.not_false, Bool.false_eq_true, if_true, if_false, ite_true, ite_false, reduceIte, reduceCtorEq, decide_true, decide_false, true_and, and_true, beq_self_eq_true, bne_self_eq_false]
      rw [stk_empty, Bool.not_not]
      exact h
  | sys => exact absurd (nice_sys nv) (by intro z; cases z)
  | _ => exact h
end Fe
set_option Elab.async false
set_option linter.all false
set_option maxRecDepth 100000
set_option maxHeartbeats 4000000
/-! Layer 3: the checker of greatest values. -/
namespace Fe
open PySem PySem.W PySem.Calls PyProof.Rows L2

def bestOf (n : Nat) (bs : List Bd) (ws : List Int) (top paper : D) : Bool := match top, paper with
  | .int t, .tup [p, tr] => (match asT n p with
    | some xs => keeps bs xs && ((dot ws xs == t) && treeOf n (bs ++ [(neg ws, -(t + 1))]) tr)
    | none => false)
  | _, _ => false
def sp_accepts_best : DSp := fun cs Q => ∃ n bs t l so a b ws top paper k, cs = [.dat (sysW n bs t l so), .dat (.tup [a, b, tI ws, top]), .dat paper] ∧ BsOk n bs ∧ bs.length ≤ 500 ∧ ws.length = n ∧ LtA 200 ws ∧ nice (k + 1) top ∧ nice (k + 2) paper ∧ k ≤ 50 ∧ Q (.bl (bestOf n bs ws top paper))
theorem eqv_pt (d t : Int) : PyData.eqv (py (pt d)) (py (.tup [.int t, .int 1])) = (d == t) := by
  unfold py pyL py pyL py pyL
  rw [PyData.eqv, PyData.eqvAll, PyData.eqvAll, PyData.eqvAll, PyData.eqv, PyData.eqv]
  simp
theorem sem_accepts_best (cs : List Cell) (Q : D → Prop) (hl : cs.length = 3) (h : sp_accepts_best cs Q) : d_accepts_best sp_is_integer sp_is_pair sp_is_point sp_broken_at sp_sum_at sp_as_fractions sp_is_tree sp_at_least { nx := fun _ => Q .non, rt := Q } (startE N_accepts_best cs) := by
  obtain ⟨n, bs, t, l, so, a, b, ws, top, paper, k, e, ok, bl, wl, wn, nt, np, k50, h⟩ := h
  subst e
  have n2 := ok.n2
  unfold d_accepts_best
  refine ⟨nice_sys nt, ?_⟩
  cases top with
  | int tp =>
    refine ⟨k + 2, paper, rfl, np, ?_⟩
    have fin : ∀ p tr, paper = .tup [p, tr] → (dSeq (dIfS (dOr (dNot (dTru (dCall sp_is_point (dA (dLcons (dVar 0) (dLcons (dBin fIx (dVar 2) (dC (.int 0))) dLnil)))))) (dTru (dCall sp_broken_at (dA (dLcons (dVar 0) (dLcons (dBin fIx (dVar 2) (dC (.int 0))) dLnil)))))) (dRet (dC (.bl false))) dNx) (dSeq (dIfS (dTest (dBin fNeD (dCall sp_sum_at (dA (dLcons (dBin fIx (dVar 1) (dC (.int 2))) (dLcons (dCall sp_as_fractions (dA (dLcons (dBin fIx (dVar 2) (dC (.int 0))) dLnil))) dLnil)))) (dTup (dLcons (dBin fIx (dVar 1) (dC (.int 3))) (dLcons (dC (.int 1)) dLnil))))) (dRet (dC (.bl false))) dNx) (dRet (dCall sp_is_tree (dA (dLcons (dUn (fFld .kinds) (dVar 0)) (dLcons (dFr (dStarL (dUn (fFld .bounds) (dVar 0)) (dCall sp_at_least (dA (dLcons (dBin fIx (dVar 1) (dC (.int 2))) (dLcons (dBin fAdd (dBin fIx (dVar 1) (dC (.int 3))) (dC (.int 1))) dLnil)))))) (dLcons (dBin fIx (dVar 2) (dC (.int 1))) dLnil))))))))
        { nx := fun _ => Q .non, rt := Q } [some (.dat (sysW n bs t l so)), some (.dat (.tup [a, b, tI ws, .int tp])), some (.dat paper)] := by
      intro p tr ep
      subst ep
      obtain ⟨j, ej, _, hx⟩ := nice_tup np
      cases ej
      have nip : nice (k + 1) p := hx p (by simp)
      have nit : nice (k + 1) tr := hx tr (by simp)
      refine ⟨n, bs, t, l, so, k + 1, p, rfl, nip, ?_⟩
      cases ex : asT n p with
      | none =>
        have e2 : bestOf n bs ws (.int tp) (.tup [p, tr]) = false := by
          show (match asT n p with
            | some xs => _
            | none => false) = false
          rw [ex]
        rw [e2] at h
        exact h
      | some xs =>
        obtain ⟨e1, e2⟩ := asT_some ex
        subst e1
        have lx : LtA 200 xs := fun i hi => by
          obtain ⟨_, _, _, z⟩ := nice_tup nip
          exact nice_int (z _ (List.mem_map_of_mem hi))
        have eb : bestOf n bs ws (.int tp) (.tup [tI xs, tr]) = (keeps bs xs && ((dot ws xs == tp) && treeOf n (bs ++ [(neg ws, -(tp + 1))]) tr)) := by
          show (match asT n (tI xs) with
            | some xs => _
            | none => false) = _
          rw [ex]
        rw [eb] at h
        refine ⟨n, bs, t, l, so, xs, rfl, ok, lx, e2, fun L hL => ?_⟩
        show (if (!L.isEmpty) = true then _ else _)
        rw [hL]
        cases ek : keeps bs xs with
        | false =>
          rw [ek] at h
          exact h
        | true =>
          rw [ek, Bool.true_and] at h
          refine ⟨xs, rfl, sz _ (by omega), ?_⟩
          refine ⟨ws, xs, rfl, fun i hi => lt_mono (wn i hi) (by decide), fun i hi => lt_mono (lx i hi) (by decide), by rw [wl]; exact Nat.le_trans n2 (by decide), ?_⟩
          refine ⟨shp_of (k := 1) (shp_tup fun x hx => ?_) (by decide), shp_of (k := 1) (shp_tup fun x hx => ?_) (by decide), ?_⟩
          · rcases List.mem_cons.mp hx with z | z
            · rw [z]
              exact shp_int
            · rw [List.mem_singleton.mp z]
              exact shp_int
          · rcases List.mem_cons.mp hx with z | z
            · rw [z]
              exact shp_int
            · rw [List.mem_singleton.mp z]
              exact shp_int
          · rw [eqv_pt]
            cases ed : (dot ws xs == tp) with
            | false =>
              rw [ed] at h
              exact h
            | true =>
              rw [ed, Bool.true_and] at h
              refine ⟨ws, tp + 1, rfl, sz _ (by omega), ?_⟩
              refine ⟨by rw [List.length_map]; exact sz _ (by omega), ?_⟩
              refine ⟨n, k, bs ++ [(neg ws, -(tp + 1))], tr, ?_, nit, by omega, bs_add ok (by omega) ⟨by rw [neg_len]; exact wl, ltA_neg fun i hi => lt_mono (wn i hi) (by decide), lt_mono (lt_neg (lt_add (nice_int nt) (lt_one (by decide)))) (by decide)⟩, by rw [List.length_append, List.length_singleton]; omega, h⟩
              unfold bndsL
              rw [List.map_append]
              rfl
    cases paper with
    | tup xs =>
      match xs with
      | [p, tr] => exact fin p tr rfl
      | [] => exact h
      | [_] => exact h
      | _ :: _ :: _ :: _ => exact h
    | sys => exact absurd (nice_sys np) (by intro z; cases z)
    | _ => exact h
  | sys => exact absurd (nice_sys nt) (by intro z; cases z)
  | _ => exact h
/-! ### accepts -/
def soOf (kd : Str) (n : Nat) : Str := if (kd == ("whole" : Str)) = true then (if n = 1 then "x" else "xy") else ""
abbrev TxR : Type := Str → Str → Nat → List Bd → Prop
structure TxOk (Tx : TxR) : Prop where
  n1 : ∀ {t k n bs}, Tx t k n bs → n = 1 ∨ n = 2
  ok : ∀ {t k n bs}, Tx t k n bs → BsOk n bs
  len : ∀ {t k n bs}, Tx t k n bs → bs.length ≤ 10
  str : ∀ {t k n bs}, Tx t k n bs → PyData.strOk t = true
def sp_system_of (Tx : TxR) : DSp := fun cs Q => ∃ text kd n bs, cs = [.dat (.str text)] ∧ Tx text kd n bs ∧ ∀ t l, Q (.sys t (.tup (List.replicate n (.str kd))) l (.str (soOf kd n)) (bndsT bs))
def lookOf (n : Nat) (bs : List Bd) (aim top paper : D) : Bool := aimOk n aim && match asT n aim with
  | some ws => bestOf n bs ws top paper
  | none => false
@[irreducible] def sp_accepts (Tx : TxR) : DSp := fun cs Q => ∃ text n bs aim paper k, nice k aim ∧ nice (k + 2) paper ∧ k ≤ 50 ∧
  ((∃ top, cs = [.dat (.tup [.str "best", .str text, aim, top]), .dat paper] ∧ nice (k + 1) top ∧ ((Tx text "whole" n bs ∧ Q (.bl (lookOf n bs aim top paper))) ∨ (Tx text "any" n bs ∧ Q (.bl false)))) ∨
   (cs = [.dat (.tup [.str "best", .str text, aim]), .dat paper] ∧ PyData.strOk text = true ∧ Q (.bl false)))
theorem so_len (kd : Str) (n : Nat) : (soOf kd n).length ≤ 2 := by
  unfold soOf
  split
  · split <;> decide
  · decide
theorem nice_up {k : Nat} {d : D} (h : nice k d) : ∀ {m : Nat}, k ≤ m → nice m d
  | m, l => by
    obtain ⟨j, e⟩ := Nat.exists_eq_add_of_le l
    subst e
    induction j with
    | zero => exact h
    | succ j ih => exact nice_mono (ih (by omega))
theorem acc_best {Tx : TxR} {text : Str} {n : Nat} {bs : List Bd} {aim top paper : D} {k : Nat} {R : D → Prop} (na : nice k aim) (nt : nice (k + 1) top) (np : nice (k + 2) paper) (k50 : k ≤ 50) (tx : Tx text "whole" n bs) (q : R (.bl (lookOf n bs aim top paper))) :
    sp_accepts Tx [.dat (.tup [.str "best", .str text, aim, top]), .dat paper] R := by
  unfold sp_accepts
  exact ⟨text, n, bs, aim, paper, k, na, np, k50, .inl ⟨top, rfl, nt, .inl ⟨tx, q⟩⟩⟩
theorem acc_any {Tx : TxR} {text : Str} {n : Nat} {bs : List Bd} {aim top paper : D} {k : Nat} {R : D → Prop} (na : nice k aim) (nt : nice (k + 1) top) (np : nice (k + 2) paper) (k50 : k ≤ 50) (tx : Tx text "any" n bs) (q : R (.bl false)) :
    sp_accepts Tx [.dat (.tup [.str "best", .str text, aim, top]), .dat paper] R := by
  unfold sp_accepts
  exact ⟨text, n, bs, aim, paper, k, na, np, k50, .inl ⟨top, rfl, nt, .inr ⟨tx, q⟩⟩⟩
theorem acc_three {Tx : TxR} {text : Str} {aim paper : D} {k : Nat} {R : D → Prop} (na : nice k aim) (np : nice (k + 2) paper) (k50 : k ≤ 50) (tx : PyData.strOk text = true) (q : R (.bl false)) :
    sp_accepts Tx [.dat (.tup [.str "best", .str text, aim]), .dat paper] R := by
  unfold sp_accepts
  exact ⟨text, 0, [], aim, paper, k, na, np, k50, .inr ⟨rfl, tx, q⟩⟩
theorem sem_accepts {Tx : TxR} (T : TxOk Tx) (cs : List Cell) (Q : D → Prop) (hl : cs.length = 2) (h : sp_accepts Tx cs Q) : d_accepts (sp_system_of Tx) sp_is_solid sp_is_aim sp_accepts_best { nx := fun _ => Q .non, rt := Q } (startE N_accepts cs) := by
  unfold sp_accepts at h
  obtain ⟨text, n, bs, aim, paper, k, na, np, k50, h⟩ := h
  rcases h with ⟨top, e, nt, h⟩ | ⟨e, ht, h⟩
  · subst e
    have tx : PyData.strOk text = true := by
      rcases h with h | h
      · exact T.str h.1
      · exact T.str h.1
    have hs : shp (k + 3) (.tup [.str "best", .str text, aim, top]) := shp_tup fun x hx => by
      rcases List.mem_cons.mp hx with z | hx
      · rw [z]
        exact shp_str (by decide +kernel)
      · rcases List.mem_cons.mp hx with z | hx
        · rw [z]
          exact shp_str tx
        · rcases List.mem_cons.mp hx with z | hx
          · rw [z]
            exact nice_shp (nice_up na (by omega))
          · rw [List.mem_singleton.mp hx]
            exact nice_shp (nice_up nt (by omega))
    unfold d_accepts
    refine ⟨shp_of hs (by omega), by decide, ?_⟩
    rw [eq_nil]
    refine ⟨rfl, ?_⟩
    refine ⟨rfl, ?_⟩
    have cont : ∀ (kd : Str) (b : Bool), Tx text kd n bs → (∀ s : D, isSys s = true → True) → (∀ t l, dSeq (dIfS (dOr (dNot (dTru (dCall sp_is_solid (dA (dLcons (dVar 2) dLnil))))) (dNot (dTru (dCall sp_is_aim (dA (dLcons (dVar 2) (dLcons (dBin fIx (dVar 0) (dC (.int 2))) dLnil))))))) (dRet (dC (.bl false))) dNx) (dSeq (dIfS (dTest (dBin fEq (dBin fIx (dVar 0) (dC (.int 0))) (dC (.str "best")))) (dRet (dCall sp_accepts_best (dA (dLcons (dVar 2) (dLcons (dVar 0) (dLcons (dVar 1) dLnil)))))) dNx) dNoS)
        { nx := fun _ => Q .non, rt := Q } [some (.dat (.tup [.str "best", .str text, aim, top])), some (.dat paper), some (.dat (.sys t (.tup (List.replicate n (.str kd))) l (.str (soOf kd n)) (bndsT bs)))]) → _ := fun kd b tx _ c => (⟨text, kd, n, bs, rfl, tx, fun t l => c t l⟩ : sp_system_of Tx [.dat (.str text)] fun s => dSeq (dIfS (dTest (dIsN (dVar 2))) (dRet (dC (.bl false))) dNx) (dSeq (dIfS (dTest (dBin fEq (dBin fIx (dVar 0) (dC (.int 0))) (dC (.str "none")))) dNoS dNx) (dSeq (dIfS (dTest (dBin fEq (dBin fIx (dVar 0) (dC (.int 0))) (dC (.str "point")))) dNoS dNx) (dSeq (dIfS (dTest (dBin fEq (dBin fIx (dVar 0) (dC (.int 0))) (dC (.str "least")))) dNoS dNx) (dSeq (dIfS (dOr (dNot (dTru (dCall sp_is_solid (dA (dLcons (dVar 2) dLnil))))) (dNot (dTru (dCall sp_is_aim (dA (dLcons (dVar 2) (dLcons (dBin fIx (dVar 0) (dC (.int 2))) dLnil))))))) (dRet (dC (.bl false))) dNx) (dSeq (dIfS (dTest (dBin fEq (dBin fIx (dVar 0) (dC (.int 0))) (dC (.str "best")))) (dRet (dCall sp_accepts_best (dA (dLcons (dVar 2) (dLcons (dVar 0) (dLcons (dVar 1) dLnil)))))) dNx) dNoS)))))
        { nx := fun _ => Q .non, rt := Q } [some (.dat (.tup [.str "best", .str text, aim, top])), some (.dat paper), some (.dat s)])
    rcases h with ⟨tw, h⟩ | ⟨ta, h⟩
    · refine cont "whole" true tw (fun _ _ => trivial) fun t l => ?_
      refine ⟨t, _, l, soOf "whole" n, _, rfl, so_len _ _, ?_⟩
      have hso : (((soOf "whole" n).length : Int) == ((List.replicate n (D.str "whole")).length : Int)) = true := by
        rw [List.length_replicate]
        rcases T.n1 tw with z | z <;> subst z <;> decide
      rw [hso]
      refine ⟨n, bs, t, l, soOf "whole" n, k, aim, rfl, na, ?_⟩
      unfold lookOf at h
      cases ea : aimOk n aim with
      | false =>
        rw [ea] at h
        exact h
      | true =>
        rw [ea, Bool.true_and] at h
        cases ex : asT n aim with
        | none =>
          unfold aimOk at ea
          rw [ex] at ea
          cases ea
        | some ws =>
          rw [ex] at h
          obtain ⟨e1, e2⟩ := asT_some ex
          subst e1
          obtain ⟨j, _, _, z⟩ := nice_tup na
          exact ⟨n, bs, t, l, soOf "whole" n, .str "best", .str text, ws, top, paper, k, rfl, T.ok tw, by have := T.len tw; omega, e2, fun i hi => nice_int (z _ (List.mem_map_of_mem hi)), nt, np, k50, h⟩
    · refine cont "any" true ta (fun _ _ => trivial) fun t l => ?_
      refine ⟨t, _, l, soOf "any" n, _, rfl, so_len _ _, ?_⟩
      have hso : (((soOf "any" n).length : Int) == ((List.replicate n (D.str "any")).length : Int)) = false := by
        rw [List.length_replicate]
        rcases T.n1 ta with z | z <;> subst z <;> decide
      rw [hso]
      exact h
  · subst e
    have hs : shp (k + 3) (.tup [.str "best", .str text, aim]) := shp_tup fun x hx => by
      rcases List.mem_cons.mp hx with z | hx
      · rw [z]
        exact shp_str (by decide +kernel)
      · rcases List.mem_cons.mp hx with z | hx
        · rw [z]
          exact shp_str ht
        · rw [List.mem_singleton.mp hx]
          exact nice_shp (nice_up na (by omega))
    unfold d_accepts
    refine ⟨shp_of hs (by omega), by decide, ?_⟩
    rw [eq_nil]
    refine ⟨rfl, ?_⟩
    refine ⟨rfl, ?_⟩
    exact h
end Fe
set_option Elab.async false
set_option linter.all false
set_option maxRecDepth 100000
set_option maxHeartbeats 4000000
/-! Layer 3: the law's own look. -/
namespace Fe
open PySem PySem.W PySem.Calls PyProof.Rows L2

theorem sem_law_integer (cs : List Cell) (Q : D → Prop) (hl : cs.length = 1) (h : sp_is_integer cs Q) : d_law_integer { nx := fun _ => Q .non, rt := Q } (startE N_law_integer cs) := by
  unfold sp_is_integer at h
  split at h
  · rename_i d
    cases d with
    | sys => exact nomatch h.1
    | _ => exact h.2
  · exact h.elim
theorem isSome_all {n : Nat} {xs : List D} (e : xs.length = n) : (asT n (.tup xs)).isSome = xs.all isInt := by
  show (if xs.length = n then asInts xs else none).isSome = _
  rw [if_pos e, all_isInt]
theorem isSome_no {n : Nat} {xs : List D} (e : xs.length ≠ n) : (asT n (.tup xs)).isSome = false := by
  show (if xs.length = n then asInts xs else none).isSome = _
  rw [if_neg e]
  rfl
theorem sem_law_integers (cs : List Cell) (Q : D → Prop) (hl : cs.length = 2) (h : sp_are_integers cs Q) : d_law_integers sp_is_integer { nx := fun _ => Q .non, rt := Q } (startE N_law_integers cs) := by
  obtain ⟨k, v, n, e, nv, h⟩ := h
  subst e
  cases v with
  | tup xs =>
    obtain ⟨j, _, hz, hx⟩ := nice_tup nv
    unfold d_law_integers
    simp only [startE, List.map_cons, List.map_nil, List.length_cons, List.length_nil, List.replicate, List.cons_append, List.nil_append, List.getElem?_cons_zero, List.getElem?_cons_succ, List.set_cons_zero, List.set_cons_succ, wipeE, dSeq, dRet, dAsg, dAsgO, dPar, dParO, dIfS, dNx, dExpr, dFreeze, dAppend, dPop, dSetI, dFor, dUnT, dUnL, setE, dVar, dC, dBin, dUn, dCall, dA, dAS, dLnil, dLcons, dTup, dTest, dTru, dNot, dAnd, dOr, dAndV, dOrV, dNotT, dIf, dIfT, dChain, dFr, dLc, dYes, dIl, dIt, dIs, dIr, dgN, dgT, dZip, dEnum, itemsD, dSl, dNo, dPart, dIsN, dCat, dRep, dListOf, dStarL, dTruO, dCmpO, dS, fAdd, fSub, fMul, fMod, fDiv, fPow, fLt, fLe, fGt, fGe, fNeg, fEq, fNe, fIsB, fIsNotB, fTru, fLen, fIsi, isTy, fTuple, fAbs, fMax, fMin, fIx, fSl, fNotIn, fNotInK, fFld, fRev, Bool.not_true, Bool.not_false, Bool.false_eq_true, if_true, if_false, ite_true, ite_false, reduceIte, reduceCtorEq, decide_true, decide_false, true_and, and_true, beq_self_eq_true, bne_self_eq_false]
    by_cases e : xs.length = n
    · rw [show ((xs.length : Int) != (n : Int)) = false by rw [bne, int_beq e]; rfl]
      show dLcGo _ _ _ _ xs [] _
      rw [← List.map_id xs]
      refine lc_map' (g := fun x => D.bl (isInt x)) xs _ (fun x hx' => ⟨_, rfl, fun R hR => ⟨nice_sys (hx x hx'), hR⟩⟩) (sz _ (by omega)) ?_
      refine fAll_of ?_
      rw [isSome_all e] at h
      exact h
    · rw [show ((xs.length : Int) != (n : Int)) = true by rw [bne, int_bne e]; rfl]
      rw [isSome_no e] at h
      exact h
  | sys => exact absurd (nice_sys nv) (by intro z; cases z)
  | _ => exact h
theorem sem_law_pair (cs : List Cell) (Q : D → Prop) (hl : cs.length = 1) (h : sp_is_pair cs Q) : d_law_pair { nx := fun _ => Q .non, rt := Q } (startE N_law_pair cs) := sem_is_pair cs Q hl h
def seqI (a : D) (xs : List Int) : Prop := a = .tup (xs.map .int) ∨ a = .lst (xs.map .int)
def sp_law_total : DSp := fun cs Q => ∃ a b ss xs, cs = [.dat a, .dat b] ∧ seqI a ss ∧ seqI b xs ∧ LtA 300 ss ∧ LtA 300 xs ∧ ss.length ≤ 5000 ∧ Q (.int (dot ss xs))
theorem sem_law_total (cs : List Cell) (Q : D → Prop) (hl : cs.length = 2) (h : sp_law_total cs Q) : d_law_total { nx := fun _ => Q .non, rt := Q } (startE N_law_total cs) := by
  obtain ⟨a, b, ss, xs, e, ha, hb, h1, h2, h3, h⟩ := h
  subst e
  have ea : itemsD a = some (ss.map D.int) := by rcases ha with z | z <;> subst z <;> rfl
  have eb : itemsD b = some (xs.map D.int) := by rcases hb with z | z <;> subst z <;> rfl
  unfold d_law_total
  show (match itemsD a, itemsD b with
    | some xs, some ys => dLcGo (dgT 2 3) dYes (dBin fMul (dVar 2) (dVar 3)) [some (.dat a), some (.dat b), none, none] (zipD xs ys) [] fun ds => fSum (.lst ds) Q
    | _, _ => False)
  rw [ea, eb]
  show dLcGo _ _ _ _ (zipD (ss.map D.int) (xs.map D.int)) [] _
  rw [zip_of]
  refine lc_map' (g := fun p : Int × Int => D.int (p.1 * p.2)) (ss.zip xs) _ (fun p hp => ?_) ?_ ?_
  · obtain ⟨p1, p2⟩ := List.of_mem_zip hp
    exact ⟨_, rfl, fun R hR => ⟨mulOk (sm_of (h1 _ p1) (by decide) (by decide)) (sm_of (h2 _ p2) (by decide) (by decide)), hR⟩⟩
  · rw [List.length_zip, sizeLine_eq]
    have := Nat.min_le_left ss.length xs.length
    omega
  · exact fSum_of h
def sp_law_fits : DSp := fun cs Q => ∃ n k v, cs = [.dat (kindsL n), .dat v] ∧ nice k v ∧ Q (.bl (asT n v).isSome)
theorem fits_go {Q : D → Prop} : ∀ (xs : List D) (en : En), en.length = 4 → (∀ x ∈ xs, isSys x = false) → Q (.bl (xs.all isInt)) →
    dLoop (dgT 2 3) (dSeq (dIfS (dAnd (dTest (dBin fEq (dVar 2) (dC (.str "whole")))) (dNot (dTru (dCall sp_is_integer (dA (dLcons (dVar 3) dLnil)))))) (dRet (dC (.bl false))) dNx) (dIfS (dAnd (dTest (dBin fEq (dVar 2) (dC (.str "any")))) dNoT) (dRet (dC (.bl false))) dNx)) { nx := fun e => dRet (dC (.bl true)) { nx := fun _ => Q .non, rt := Q } e, rt := Q } (xs.map fun x => D.tup [.str "whole", x]) en
  | [], en, _, _, q => q
  | x :: xs, [e0, e1, e2, e3], _, hs, q => by
    simp only [List.map_cons, dLoop, startE, List.map_cons, List.map_nil, List.length_cons, List.length_nil, List.replicate, List.cons_append, List.nil_append, List.getElem?_cons_zero, List.getElem?_cons_succ, List.set_cons_zero, List.set_cons_succ, wipeE, dSeq, dRet, dAsg, dAsgO, dPar, dParO, dIfS, dNx, dExpr, dFreeze, dAppend, dPop, dSetI, dFor, dUnT, dUnL, setE, dVar, dC, dBin, dUn, dCall, dA, dAS, dLnil, dLcons, dTup, dTest, dTru, dNot, dAnd, dOr, dAndV, dOrV, dNotT, dIf, dIfT, dChain, dFr, dLc, dYes, dIl, dIt, dIs, dIr, dgN, dgT, dZip, dEnum, itemsD, dSl, dNo, dPart, dIsN, dCat, dRep, dListOf, dStarL, dTruO, dCmpO, dS, fAdd, fSub, fMul, fMod, fDiv, fPow, fLt, fLe, fGt, fGe, fNeg, fEq, fNe, fIsB, fIsNotB, fTru, fLen, fIsi, isTy, fTuple, fAbs, fMax, fMin, fIx, fSl, fNotIn, fNotInK, fFld, fRev, Bool.not_true, Bool.not_false, Bool.false_eq_true, if_true, if_false, ite_true, ite_false, reduceIte, reduceCtorEq, decide_true, decide_false, true_and, and_true, beq_self_eq_true, bne_self_eq_false]
    refine ⟨hs x List.mem_cons_self, ?_⟩
    rw [List.all_cons] at q
    cases e : isInt x with
    | true =>
      rw [e, Bool.true_and] at q
      exact fits_go xs _ rfl (fun y hy => hs y (List.mem_cons_of_mem _ hy)) q
    | false =>
      rw [e] at q
      exact q
theorem sem_law_fits (cs : List Cell) (Q : D → Prop) (hl : cs.length = 2) (h : sp_law_fits cs Q) : d_law_fits sp_is_integer { nx := fun _ => Q .non, rt := Q } (startE N_law_fits cs) := by
  obtain ⟨n, k, v, e, nv, h⟩ := h
  subst e
  cases v with
  | tup xs =>
    obtain ⟨j, _, hz, hx⟩ := nice_tup nv
    unfold d_law_fits
    simp only [startE, List.map_cons, List.map_nil, List.length_cons, List.length_nil, List.replicate, List.cons_append, List.nil_append, List.getElem?_cons_zero, List.getElem?_cons_succ, List.set_cons_zero, List.set_cons_succ, wipeE, dSeq, dRet, dAsg, dAsgO, dPar, dParO, dIfS, dNx, dExpr, dFreeze, dAppend, dPop, dSetI, dFor, dUnT, dUnL, setE, dVar, dC, dBin, dUn, dCall, dA, dAS, dLnil, dLcons, dTup, dTest, dTru, dNot, dAnd, dOr, dAndV, dOrV, dNotT, dIf, dIfT, dChain, dFr, dLc, dYes, dIl, dIt, dIs, dIr, dgN, dgT, dZip, dEnum, itemsD, dSl, dNo, dPart, dIsN, dCat, dRep, dListOf, dStarL, dTruO, dCmpO, dS, fAdd, fSub, fMul, fMod, fDiv, fPow, fLt, fLe, fGt, fGe, fNeg, fEq, fNe, fIsB, fIsNotB, fTru, fLen, fIsi, isTy, fTuple, fAbs, fMax, fMin, fIx, fSl, fNotIn, fNotInK, fFld, fRev, Bool.not_true, Bool.not_false, Bool.false_eq_true, if_true, if_false, ite_true, ite_false, reduceIte, reduceCtorEq, decide_true, decide_false, true_and, and_true, beq_self_eq_true, bne_self_eq_false]
    rw [List.length_replicate]
    by_cases e : xs.length = n
    · rw [show ((xs.length : Int) != (n : Int)) = false by rw [bne, int_beq e]; rfl]
      show dLoop _ _ _ (zipD (List.replicate n (D.str "whole")) xs) _
      rw [zip_whole n xs e]
      refine fits_go xs _ rfl (fun x hx' => nice_sys (hx x hx')) ?_
      rw [isSome_all e] at h
      exact h
    · rw [show ((xs.length : Int) != (n : Int)) = true by rw [bne, int_bne e]; rfl]
      rw [isSome_no e] at h
      exact h
  | sys => exact absurd (nice_sys nv) (by intro z; cases z)
  | _ => exact h
def sp_law_aim_right : DSp := fun cs Q => ∃ n k v, cs = [.dat (kindsL n), .dat v] ∧ nice k v ∧ Q (.bl (aimOk n v))
theorem sem_law_aim_right (cs : List Cell) (Q : D → Prop) (hl : cs.length = 2) (h : sp_law_aim_right cs Q) : d_law_aim_right sp_are_integers { nx := fun _ => Q .non, rt := Q } (startE N_law_aim_right cs) := by
  obtain ⟨n, k, v, e, nv, h⟩ := h
  subst e
  unfold d_law_aim_right
  refine ⟨k, v, n, ?_, nv, ?_⟩
  · show [Cell.dat v, Cell.dat (.int ((List.replicate n (D.str "whole")).length : Nat))] = _
    rw [List.length_replicate]
  · unfold aimOk at h
    cases ea : asT n v with
    | none =>
      rw [ea] at h
      exact h
    | some ws =>
      rw [ea] at h
      obtain ⟨e1, e2⟩ := asT_some ea
      subst e1
      obtain ⟨j, _, hz, _⟩ := nice_tup nv
      rw [List.length_map] at hz
      show dLcGo _ _ _ _ (ws.map D.int) [] _
      refine lc_map' (g := fun w => D.bl (decide (-99 ≤ w) && decide (w ≤ 99))) ws _ (fun w hw => ⟨_, rfl, fun R hR => ?_⟩) (sz _ (by omega)) ?_
      · simp only [startE, List.map_cons, List.map_nil, List.length_cons, List.length_nil, List.replicate, List.cons_append, List.nil_append, List.getElem?_cons_zero, List.getElem?_cons_succ, List.set_cons_zero, List.set_cons_succ, wipeE, dSeq, dRet, dAsg, dAsgO, dPar, dParO, dIfS, dNx, dExpr, dFreeze, dAppend, dPop, dSetI, dFor, dUnT, dUnL, setE, dVar, dC, dBin, dUn, dCall, dA, dAS, dLnil, dLcons, dTup, dTest, dTru, dNot, dAnd, dOr, dAndV, dOrV, dNotT, dIf, dIfT, dChain, dFr, dLc, dYes, dIl, dIt, dIs, dIr, dgN, dgT, dZip, dEnum, itemsD, dSl, dNo, dPart, dIsN, dCat, dRep, dListOf, dStarL, dTruO, dCmpO, dS, fAdd, fSub, fMul, fMod, fDiv, fPow, fLt, fLe, fGt, fGe, fNeg, fEq, fNe, fIsB, fIsNotB, fTru, fLen, fIsi, isTy, fTuple, fAbs, fMax, fMin, fIx, fSl, fNotIn, fNotInK, fFld, fRev, Bool.not_true, Bool.not_false, Bool.false_eq_true, if_true, if_false, ite_true, ite_false, reduceIte, reduceCtorEq, decide_true, decide_false, true_and, and_true, beq_self_eq_true, bne_self_eq_false]
        cases e : decide (-99 ≤ w) with
        | true =>
          rw [e] at hR
          exact hR
        | false =>
          rw [e] at hR
          exact hR
      · exact fAll_of h
def sp_law_point_keeps : DSp := fun cs Q => ∃ n bs xs, cs = [.dat (bndsL bs), .dat (tI xs)] ∧ BsOk n bs ∧ LtA 200 xs ∧ xs.length = n ∧ Q (.bl (keeps bs xs))
def i_keeps : DS := (dFor (dZip (dVar 3) (dVar 2)) (dgT 8 9) (dSeq (dAsg 6 (dBin fAdd (dBin fMul (dVar 6) (dBin fIx (dVar 9) (dC (.int 1)))) (dBin fMul (dBin fMul (dVar 8) (dBin fIx (dVar 9) (dC (.int 0)))) (dVar 7)))) (dAsg 7 (dBin fMul (dVar 7) (dBin fIx (dVar 9) (dC (.int 1)))))))
def t_keeps : DS := (dIfS (dTest (dBin fGt (dVar 6) (dBin fMul (dVar 4) (dVar 7)))) (dRet (dC (.bl false))) dNx)
structure KpEn (xs : List Int) (en : En) : Prop where
  len : en.length = 10
  p : en[2]? = some (some (.dat (.lst (xs.map pt))))
theorem keeps_in {xs : List Int} {c : Int} {Z : DEnds} : ∀ (ps : List (Int × Int)) (acc : Int) (en : En), KpEn xs en → en[4]? = some (some (.dat (.int c))) → en[6]? = some (some (.dat (.int acc))) → en[7]? = some (some (.dat (.int 1))) → (∀ p ∈ ps, Lt 300 p.1 ∧ Lt 300 p.2) → acc.natAbs + ps.length * 2 ^ 600 < 2 ^ 1000 →
    (∀ en', KpEn xs en' → en'[4]? = some (some (.dat (.int c))) → en'[6]? = some (some (.dat (.int (acc + (ps.map fun p => p.1 * p.2).sum)))) → en'[7]? = some (some (.dat (.int 1))) → Z.nx en') →
    dLoop (dgT 8 9) (dSeq (dAsg 6 (dBin fAdd (dBin fMul (dVar 6) (dBin fIx (dVar 9) (dC (.int 1)))) (dBin fMul (dBin fMul (dVar 8) (dBin fIx (dVar 9) (dC (.int 0)))) (dVar 7)))) (dAsg 7 (dBin fMul (dVar 7) (dBin fIx (dVar 9) (dC (.int 1)))))) Z (ps.map fun p => D.tup [.int p.1, pt p.2]) en
  | [], acc, en, K, h4, h6, h7, _, _, q => q en K h4 (by simpa using h6) h7
  | p :: ps, acc, en, K, h4, h6, h7, hb, hs, q => by
    obtain ⟨l, h2⟩ := K
    match en, l, h2, h4, h6, h7 with
    | [e0, e1, e2, e3, e4, e5, e6, e7, e8, e9], _, h2, h4, h6, h7 =>
    have e2' : e2 = some (.dat (.lst (xs.map pt))) := by simpa using h2
    have e4' : e4 = some (.dat (.int c)) := by simpa using h4
    have e6' : e6 = some (.dat (.int acc)) := by simpa using h6
    have e7' : e7 = some (.dat (.int 1)) := by simpa using h7
    subst e2' e4' e6' e7'
    obtain ⟨b1, b2⟩ := hb p List.mem_cons_self
    have m : Lt 600 (p.1 * p.2) := lt_mul b1 b2
    have m' : (p.1 * p.2).natAbs < 2 ^ 600 := m
    rw [List.length_cons, Nat.add_mul, Nat.one_mul] at hs
    have la : Lt 1000 acc := by
      show acc.natAbs < 2 ^ 1000
      omega
    simp only [List.map_cons, dLoop, startE, List.map_cons, List.map_nil, List.length_cons, List.length_nil, List.replicate, List.cons_append, List.nil_append, List.getElem?_cons_zero, List.getElem?_cons_succ, List.set_cons_zero, List.set_cons_succ, wipeE, dSeq, dRet, dAsg, dAsgO, dPar, dParO, dIfS, dNx, dExpr, dFreeze, dAppend, dPop, dSetI, dFor, dUnT, dUnL, setE, dVar, dC, dBin, dUn, dCall, dA, dAS, dLnil, dLcons, dTup, dTest, dTru, dNot, dAnd, dOr, dAndV, dOrV, dNotT, dIf, dIfT, dChain, dFr, dLc, dYes, dIl, dIt, dIs, dIr, dgN, dgT, dZip, dEnum, itemsD, dSl, dNo, dPart, dIsN, dCat, dRep, dListOf, dStarL, dTruO, dCmpO, dS, fAdd, fSub, fMul, fMod, fDiv, fPow, fLt, fLe, fGt, fGe, fNeg, fEq, fNe, fIsB, fIsNotB, fTru, fLen, fIsi, isTy, fTuple, fAbs, fMax, fMin, fIx, fSl, fNotIn, fNotInK, fFld, fRev, Bool.not_true, Bool.not_false, Bool.false_eq_true, if_true, if_false, ite_true, ite_false, reduceIte, reduceCtorEq, decide_true, decide_false, true_and, and_true, beq_self_eq_true, bne_self_eq_false]
    refine ⟨mulOk (sm_of la (by decide) (by decide)) sm1, mulOk (sm_of b1 (by decide) (by decide)) (sm_of b2 (by decide) (by decide)), mulOk (sm_of m (by decide) (by decide)) sm1, mulOk sm1 sm1, ?_⟩
    have e : acc * 1 + p.1 * p.2 * 1 = acc + p.1 * p.2 := by rw [Int.mul_one, Int.mul_one]
    rw [e]
    refine keeps_in ps (acc + p.1 * p.2) _ ⟨rfl, rfl⟩ rfl rfl rfl (fun r hr => hb r (List.mem_cons_of_mem _ hr)) ?_ ?_
    · have := Int.natAbs_add_le acc (p.1 * p.2)
      omega
    · intro en' K' h4' h6' h7'
      refine q en' K' h4' ?_ h7'
      rw [List.map_cons, List.sum_cons, ← Int.add_assoc]
      exact h6'
theorem keeps_go {Q : D → Prop} {n : Nat} {xs : List Int} (hx : LtA 200 xs) (hn : xs.length = n) : ∀ (bs : List Bd) (en : En), KpEn xs en → BsOk n bs → Q (.bl (keeps bs xs)) →
    dLoop (dgT 3 4) (dSeq (dUnT [6, 7] (dTup (dLcons (dC (.int 0)) (dLcons (dC (.int 1)) dLnil)))) (dSeq i_keeps t_keeps)) { nx := fun e => dRet (dC (.bl true)) { nx := fun _ => Q .non, rt := Q } e, rt := Q } (bs.map bnd) en
  | [], en, _, _, q => q
  | b :: bs, en, K, ok, q => by
    obtain ⟨l, h2⟩ := K
    match en, l, h2 with
    | [e0, e1, e2, e3, e4, e5, e6, e7, e8, e9], _, h2 =>
    have e2' : e2 = some (.dat (.lst (xs.map pt))) := by simpa using h2
    subst e2'
    obtain ⟨w1, w2, w3⟩ := ok.w b List.mem_cons_self
    have n2 := ok.n2
    show i_keeps { nx := fun e => t_keeps { nx := fun e => dLoop _ _ _ (bs.map bnd) e, rt := Q, bk := _, ct := _ } e, rt := Q, bk := _, ct := _ } [e0, e1, some (.dat (.lst (xs.map pt))), some (.dat (tI b.1)), some (.dat (.int b.2)), e5, some (.dat (.int 0)), some (.dat (.int 1)), e8, e9]
    unfold i_keeps
    show dLoop _ _ _ (zipD (b.1.map D.int) (xs.map pt)) _
    rw [zip_of]
    refine keeps_in (xs := xs) (c := b.2) (b.1.zip xs) 0 _ ⟨rfl, rfl⟩ rfl rfl rfl (fun p hp => ?_) ?_ ?_
    · obtain ⟨p1, p2⟩ := List.of_mem_zip hp
      exact ⟨lt_mono (w2 _ p1) (by decide), lt_mono (hx _ p2) (by decide)⟩
    · have a : (b.1.zip xs).length ≤ 2 := by
        rw [List.length_zip]
        have := Nat.min_le_left b.1.length xs.length
        omega
      have a2 := Nat.mul_le_mul_right (2 ^ 600) a
      have a3 : (2 : Nat) * 2 ^ 600 < 2 ^ 1000 := by decide
      have z : (0 : Int).natAbs = 0 := rfl
      omega
    · intro en' K' h4 h6 h7
      obtain ⟨l', h2'⟩ := K'
      match en', l', h2', h4, h6, h7 with
      | [f0, f1, f2, f3, f4, f5, f6, f7, f8, f9], _, h2', h4, h6, h7 =>
      have f2' : f2 = some (.dat (.lst (xs.map pt))) := by simpa using h2'
      have f4' : f4 = some (.dat (.int b.2)) := by simpa using h4
      have f6' : f6 = some (.dat (.int (dot b.1 xs))) := by
        rw [Int.zero_add] at h6
        unfold dot
        simpa using h6
      have f7' : f7 = some (.dat (.int 1)) := by simpa using h7
      subst f2' f4' f6' f7'
      unfold t_keeps
      refine ⟨mulOk (sm_of w3 (by decide) (by decide)) sm1, ?_⟩
      show (if decide (b.2 * 1 < dot b.1 xs) = true then _ else _)
      rw [Int.mul_one]
      have ek : keeps (b :: bs) xs = (decide (dot b.1 xs ≤ b.2) && keeps bs xs) := rfl
      rw [ek] at q
      by_cases z : b.2 < dot b.1 xs
      · rw [decide_eq_true z, if_pos rfl]
        rw [decide_eq_false (by omega : ¬ dot b.1 xs ≤ b.2)] at q
        exact q
      · rw [decide_eq_false z, if_neg Bool.false_ne_true]
        rw [decide_eq_true (by omega : dot b.1 xs ≤ b.2), Bool.true_and] at q
        exact keeps_go hx hn bs _ ⟨rfl, rfl⟩ ⟨ok.n2, by have := ok.len; rw [List.length_cons] at this; omega, fun c hc => ok.w c (List.mem_cons_of_mem _ hc)⟩ q
theorem sem_law_point_keeps (cs : List Cell) (Q : D → Prop) (hl : cs.length = 2) (h : sp_law_point_keeps cs Q) : d_law_point_keeps { nx := fun _ => Q .non, rt := Q } (startE N_law_point_keeps cs) := by
  obtain ⟨n, bs, xs, e, ok, hx, hn, h⟩ := h
  subst e
  unfold d_law_point_keeps
  show dLcGo _ _ _ _ (xs.map D.int) [] _
  refine lc_map' (g := pt) xs _ (fun w hw => ⟨_, rfl, fun R hR => hR⟩) (sz _ (by have := ok.n2; omega)) ?_
  exact keeps_go hx hn bs [some (.dat (bndsL bs)), some (.dat (tI xs)), some (.dat (.lst (xs.map pt))), none, none, none, none, none, none, none] ⟨rfl, rfl⟩ ok h
end Fe
set_option Elab.async false
set_option linter.all false
set_option maxRecDepth 100000
set_option maxHeartbeats 4000000
/-! Layer 3: the law's own look at trees. -/
namespace Fe
open PySem PySem.W PySem.Calls PyProof.Rows L2

/-! ### ends -/
theorem eqv_zero : ∀ xs : List Int, PyData.eqvAll (pyL (xs.map D.int)) (pyL (List.replicate xs.length (D.int 0))) = xs.all (· == 0)
  | [] => rfl
  | x :: xs => by
    rw [List.map_cons, List.length_cons, List.replicate_succ, List.all_cons, ← eqv_zero xs]
    show PyData.eqvAll (py (.int x) :: pyL (xs.map D.int)) (py (.int 0) :: pyL (List.replicate xs.length (D.int 0))) = _
    rw [PyData.eqvAll]
    rfl
theorem eqv_zeroL {xs : List Int} {n : Nat} (h : xs.length = n) : PyData.eqv (py (.lst (xs.map D.int))) (py (.lst (List.replicate n (D.int 0)))) = xs.all (· == 0) := by
  subst h
  unfold py
  rw [PyData.eqv, eqv_zero]
theorem shp_intsL {k : Nat} {ws : List Int} : shp (k + 1) (.lst (ws.map D.int)) := shp_lst fun x hx => by
  obtain ⟨i, _, e⟩ := List.mem_map.mp hx
  subst e
  exact shp_int
theorem shp_zeros {k n : Nat} : shp (k + 1) (.lst (List.replicate n (D.int 0))) := shp_lst fun x hx => by
  rw [List.eq_of_mem_replicate hx]
  exact shp_int
theorem any_neg (ss : List Int) : ss.any (fun s => decide (s < 0)) = !ss.all (fun s => decide (0 ≤ s)) := by
  induction ss with
  | nil => rfl
  | cons s ss ih =>
    rw [List.any_cons, List.all_cons, ih, Bool.not_and]
    congr 1
    by_cases z : s < 0
    · rw [decide_eq_true z, decide_eq_false (by omega)]
      rfl
    · rw [decide_eq_false z, decide_eq_true (by omega)]
      rfl
def sp_law_end_right : DSp := fun cs Q => ∃ n k here v, cs = [.dat (bndsL here), .dat v, .dat (.int ((n : Nat) : Int))] ∧ nice k v ∧ BsOk n here ∧ Q (.bl (endOf n here [.non, v]))
theorem sem_law_end_right (cs : List Cell) (Q : D → Prop) (hl : cs.length = 3) (h : sp_law_end_right cs Q) : d_law_end_right sp_are_integers sp_law_total { nx := fun _ => Q .non, rt := Q } (startE N_law_end_right cs) := by
  obtain ⟨n, k, here, v, e, nv, ok, h⟩ := h
  subst e
  unfold d_law_end_right
  refine ⟨k, v, here.length, ?_, nv, ?_⟩
  · show [Cell.dat v, Cell.dat (.int ((here.map bnd).length : Nat))] = _
    rw [List.length_map]
  cases es : asT here.length v with
  | none =>
    have e3 : endOf n here [.non, v] = false := by
      show (match asT here.length v with
        | some ss => _
        | none => false) = false
      rw [es]
    rw [e3] at h
    exact h
  | some ss =>
    obtain ⟨e4, e5⟩ := asT_some es
    subst e4
    have hz : ss.length ≤ sizeLine := sz _ (by rw [e5]; exact ok.len)
    have hs : LtA 200 ss := fun i hi => by
      obtain ⟨j, _, _, z⟩ := nice_tup nv
      exact nice_int (z (.int i) (List.mem_map_of_mem hi))
    have hs3 : LtA 300 ss := fun i hi => lt_mono (hs i hi) (by decide)
    have hs5 : ss.length ≤ 5000 := by have := ok.len; omega
    have e3 : endOf n here [.non, tI ss] = (ss.all (fun s => decide (0 ≤ s)) && (((List.range n).all fun k => dot ss (here.map fun b => b.1.getD k 0) == 0) && decide (dot ss (here.map fun b => b.2) < 0))) := by
      show (match asT here.length (tI ss) with
        | some ss => _
        | none => false) = _
      rw [es]
    rw [e3] at h
    show dLcGo _ _ _ _ (ss.map D.int) [] _
    refine lc_map' (g := fun s => D.bl (decide (s < 0))) ss _ (fun x hx' => ⟨_, rfl, fun R hR => hR⟩) hz ?_
    refine fAny_of ?_
    rw [any_neg]
    cases e6 : ss.all (fun s => decide (0 ≤ s)) with
    | false =>
      rw [e6] at h
      exact h
    | true =>
      rw [e6, Bool.true_and] at h
      simp only [startE, List.map_cons, List.map_nil, List.length_cons, List.length_nil, List.replicate, List.cons_append, List.nil_append, List.getElem?_cons_zero, List.getElem?_cons_succ, List.set_cons_zero, List.set_cons_succ, wipeE, dSeq, dRet, dAsg, dAsgO, dPar, dParO, dIfS, dNx, dExpr, dFreeze, dAppend, dPop, dSetI, dFor, dUnT, dUnL, setE, dVar, dC, dBin, dUn, dCall, dA, dAS, dLnil, dLcons, dTup, dTest, dTru, dNot, dAnd, dOr, dAndV, dOrV, dNotT, dIf, dIfT, dChain, dFr, dLc, dYes, dIl, dIt, dIs, dIr, dgN, dgT, dZip, dEnum, itemsD, dSl, dNo, dPart, dIsN, dCat, dRep, dListOf, dStarL, dTruO, dCmpO, dS, fAdd, fSub, fMul, fMod, fDiv, fPow, fLt, fLe, fGt, fGe, fNeg, fEq, fNe, fIsB, fIsNotB, fTru, fLen, fIsi, isTy, fTuple, fAbs, fMax, fMin, fIx, fSl, fNotIn, fNotInK, fFld, fRev, Bool.not_true, Bool.not_false, Bool.false_eq_true, if_true, if_false, ite_true, ite_false, reduceIte, reduceCtorEq, decide_true, decide_false, true_and, and_true, beq_self_eq_true, bne_self_eq_false]
      refine ⟨by have := ok.n2; omega, ?_⟩
      rw [Int.toNat_natCast]
      refine lc_map' (f := fun i : Nat => D.int (i : Int)) (g := fun i : Nat => D.int (dot ss (here.map fun b => b.1.getD i 0))) (List.range n) _ (fun i hi => ⟨_, rfl, fun R hR => ?_⟩) (by rw [List.length_range]; exact sz _ (by have := ok.n2; omega)) ?_
      · have hi' : i < n := List.mem_range.mp hi
        show dLcGo _ _ _ _ (here.map bnd) [] _
        refine lc_map' (g := fun b : Bd => D.int (b.1.getD i 0)) here _ (fun b hb => ⟨_, rfl, fun R2 hR2 => ?_⟩) (sz _ ok.len) ?_
        · obtain ⟨w1, _, _⟩ := ok.w b hb
          have hkl : i < b.1.length := by omega
          have e7 : L2.atI (b.1.map D.int) ((i : Nat) : Int) = some (.int (b.1.getD i 0)) := atI_nat (by
            rw [List.getElem?_map, List.getElem?_eq_getElem hkl, List.getD_eq_getElem?_getD, List.getElem?_eq_getElem hkl]
            rfl)
          simp only [startE, List.map_cons, List.map_nil, List.length_cons, List.length_nil, List.replicate, List.cons_append, List.nil_append, List.getElem?_cons_zero, List.getElem?_cons_succ, List.set_cons_zero, List.set_cons_succ, wipeE, dSeq, dRet, dAsg, dAsgO, dPar, dParO, dIfS, dNx, dExpr, dFreeze, dAppend, dPop, dSetI, dFor, dUnT, dUnL, setE, dVar, dC, dBin, dUn, dCall, dA, dAS, dLnil, dLcons, dTup, dTest, dTru, dNot, dAnd, dOr, dAndV, dOrV, dNotT, dIf, dIfT, dChain, dFr, dLc, dYes, dIl, dIt, dIs, dIr, dgN, dgT, dZip, dEnum, itemsD, dSl, dNo, dPart, dIsN, dCat, dRep, dListOf, dStarL, dTruO, dCmpO, dS, fAdd, fSub, fMul, fMod, fDiv, fPow, fLt, fLe, fGt, fGe, fNeg, fEq, fNe, fIsB, fIsNotB, fTru, fLen, fIsi, isTy, fTuple, fAbs, fMax, fMin, fIx, fSl, fNotIn, fNotInK, fFld, fRev, Bool.not_true, Bool.not_false, Bool.false_eq_true, if_true, if_false, ite_true, ite_false, reduceIte, reduceCtorEq, decide_true, decide_false, true_and, and_true, beq_self_eq_true, bne_self_eq_false, e7]
          exact hR2
        · refine ⟨tI ss, .lst (here.map fun b => D.int (b.1.getD i 0)), ss, here.map fun b => b.1.getD i 0, rfl, .inl rfl, .inr ?_, hs3, fun x hx => ?_, hs5, hR⟩
          · rw [List.map_map]
            rfl
          · obtain ⟨b, hb, e8⟩ := List.mem_map.mp hx
            subst e8
            obtain ⟨w1, w2, _⟩ := ok.w b hb
            have hkl : i < b.1.length := by omega
            rw [List.getD_eq_getElem?_getD, List.getElem?_eq_getElem hkl]
            exact lt_mono (w2 _ (List.getElem_mem hkl)) (by decide)
      · refine ⟨⟨by omega, by have := ok.n2; omega, sz _ (by have := ok.n2; omega)⟩, ?_⟩
        have e8 : (List.range n).map (fun i : Nat => D.int (dot ss (here.map fun b => b.1.getD i 0))) = ((List.range n).map fun i => dot ss (here.map fun b => b.1.getD i 0)).map D.int := by
          rw [List.map_map]
          rfl
        rw [e8]
        refine ⟨shp_of (k := 1) shp_intsL (by decide), shp_of (k := 1) shp_zeros (by decide), ?_⟩
        rw [eqv_zeroL (by rw [List.length_map, List.length_range]), List.all_map]
        show (match D.bl ((List.range n).all fun k => dot ss (here.map fun b => b.1.getD k 0) == 0) with
          | .bl true => _
          | .bl false => _
          | _ => False)
        cases e9 : ((List.range n).all fun k => dot ss (here.map fun b => b.1.getD k 0) == 0) with
        | false =>
          rw [e9] at h
          exact h
        | true =>
          rw [e9, Bool.true_and] at h
          show dLcGo _ _ _ _ (here.map bnd) [] _
          refine lc_map' (g := fun b : Bd => D.int b.2) here _ (fun b hb => ⟨_, rfl, fun R2 hR2 => hR2⟩) (sz _ ok.len) ?_
          refine ⟨tI ss, .lst (here.map fun b => D.int b.2), ss, here.map fun b => b.2, rfl, .inl rfl, .inr ?_, hs3, fun x hx => ?_, hs5, h⟩
          · rw [List.map_map]
            rfl
          · obtain ⟨b, hb, e8⟩ := List.mem_map.mp hx
            subst e8
            exact lt_mono (ok.w b hb).2.2 (by decide)

/-! ### partings -/
def sp_law_parting_right : DSp := fun cs Q => ∃ n k xs, cs = [.dat (kindsL n), .dat (.tup xs)] ∧ (∀ x ∈ xs, nice k x) ∧ Q (.bl (partOf n xs).isSome)
theorem zip_whole2 : ∀ (n : Nat) (ws : List Int), ws.length = n → zipD (ws.map D.int) (List.replicate n (D.str "whole")) = ws.map fun w => D.tup [.int w, .str "whole"]
  | 0, [], _ => rfl
  | n + 1, x :: xs, h => by
    rw [List.replicate_succ, List.map_cons, List.map_cons, ← zip_whole2 n xs (by simpa using h)]
    rfl
theorem sem_law_parting_right (cs : List Cell) (Q : D → Prop) (hl : cs.length = 2) (h : sp_law_parting_right cs Q) : d_law_parting_right sp_are_integers sp_is_integer { nx := fun _ => Q .non, rt := Q } (startE N_law_parting_right cs) := by
  obtain ⟨n, k, xs, e, nv, h⟩ := h
  subst e
  unfold d_law_parting_right
  by_cases e : xs.length = 3
  · obtain ⟨a, w, c, e2⟩ := len3 e
    subst e2
    simp only [startE, List.map_cons, List.map_nil, List.length_cons, List.length_nil, List.replicate, List.cons_append, List.nil_append, List.getElem?_cons_zero, List.getElem?_cons_succ, List.set_cons_zero, List.set_cons_succ, wipeE, dSeq, dRet, dAsg, dAsgO, dPar, dParO, dIfS, dNx, dExpr, dFreeze, dAppend, dPop, dSetI, dFor, dUnT, dUnL, setE, dVar, dC, dBin, dUn, dCall, dA, dAS, dLnil, dLcons, dTup, dTest, dTru, dNot, dAnd, dOr, dAndV, dOrV, dNotT, dIf, dIfT, dChain, dFr, dLc, dYes, dIl, dIt, dIs, dIr, dgN, dgT, dZip, dEnum, itemsD, dSl, dNo, dPart, dIsN, dCat, dRep, dListOf, dStarL, dTruO, dCmpO, dS, fAdd, fSub, fMul, fMod, fDiv, fPow, fLt, fLe, fGt, fGe, fNeg, fEq, fNe, fIsB, fIsNotB, fTru, fLen, fIsi, isTy, fTuple, fAbs, fMax, fMin, fIx, fSl, fNotIn, fNotInK, fFld, fRev, Bool.not_true, Bool.not_false, Bool.false_eq_true, if_true, if_false, ite_true, ite_false, reduceIte, reduceCtorEq, decide_true, decide_false, true_and, and_true, beq_self_eq_true, bne_self_eq_false]
    have nw : nice k w := nv w (by simp)
    have nc : nice k c := nv c (by simp)
    refine ⟨k, w, n, by rw [List.length_replicate], nw, ?_⟩
    cases ew : asT n w with
    | none =>
      have e3 : (partOf n [a, w, c]).isSome = false := by
        unfold partOf
        split
        · rename_i z
          cases z
          rw [ew]
          rfl
        · rfl
      rw [e3] at h
      exact h
    | some ws =>
      obtain ⟨e4, e5⟩ := asT_some ew
      subst e4
      refine ⟨nice_sys nc, ?_⟩
      cases c with
      | int c =>
        have e6 : (partOf n [a, tI ws, .int c]).isSome = ws.any fun w => w != 0 := by
          show (match asT n (tI ws) with
            | some ws => if ws.any (fun w => w != 0) = true then some (ws, c) else none
            | none => none).isSome = _
          rw [ew]
          show (if ws.any (fun w => w != 0) = true then some (ws, c) else none).isSome = _
          cases ws.any (fun w => w != 0) <;> rfl
        rw [e6] at h
        have hz : ws.length ≤ sizeLine := by
          obtain ⟨j, _, z, _⟩ := nice_tup nw
          rw [List.length_map] at z
          exact sz _ (by omega)
        show dLcGo _ _ _ _ (zipD (ws.map D.int) (List.replicate n (D.str "whole"))) [] _
        rw [zip_whole2 n ws e5]
        refine lc_map' (g := fun _ => D.bl false) ws _ (fun x hx' => ⟨_, rfl, fun R hR => ?_⟩) hz ?_
        · simp only [startE, List.map_cons, List.map_nil, List.length_cons, List.length_nil, List.replicate, List.cons_append, List.nil_append, List.getElem?_cons_zero, List.getElem?_cons_succ, List.set_cons_zero, List.set_cons_succ, wipeE, dSeq, dRet, dAsg, dAsgO, dPar, dParO, dIfS, dNx, dExpr, dFreeze, dAppend, dPop, dSetI, dFor, dUnT, dUnL, setE, dVar, dC, dBin, dUn, dCall, dA, dAS, dLnil, dLcons, dTup, dTest, dTru, dNot, dAnd, dOr, dAndV, dOrV, dNotT, dIf, dIfT, dChain, dFr, dLc, dYes, dIl, dIt, dIs, dIr, dgN, dgT, dZip, dEnum, itemsD, dSl, dNo, dPart, dIsN, dCat, dRep, dListOf, dStarL, dTruO, dCmpO, dS, fAdd, fSub, fMul, fMod, fDiv, fPow, fLt, fLe, fGt, fGe, fNeg, fEq, fNe, fIsB, fIsNotB, fTru, fLen, fIsi, isTy, fTuple, fAbs, fMax, fMin, fIx, fSl, fNotIn, fNotInK, fFld, fRev, Bool.not_true, Bool.not_false, Bool.false_eq_true, if_true, if_false, ite_true, ite_false, reduceIte, reduceCtorEq, decide_true, decide_false, true_and, and_true, beq_self_eq_true, bne_self_eq_false]
          cases (x != 0) with
          | true => exact hR
          | false => exact hR
        · refine fAny_of (p := fun _ => false) ?_
          rw [show (ws.any fun _ => false) = false by simp]
          show dLcGo _ _ _ _ (ws.map D.int) [] _
          refine lc_map' (g := fun w => D.bl (w != 0)) ws _ (fun x hx' => ⟨_, rfl, fun R hR => hR⟩) hz ?_
          exact fAny_of h
      | _ => exact h
  · have e2 : ((xs.length : Int) != 3) = true := by
      show (!((xs.length : Int) == ((3 : Nat) : Int))) = true
      rw [int_bne e]
      rfl
    simp only [startE, List.map_cons, List.map_nil, List.length_cons, List.length_nil, List.replicate, List.cons_append, List.nil_append, List.getElem?_cons_zero, List.getElem?_cons_succ, List.set_cons_zero, List.set_cons_succ, wipeE, dSeq, dRet, dAsg, dAsgO, dPar, dParO, dIfS, dNx, dExpr, dFreeze, dAppend, dPop, dSetI, dFor, dUnT, dUnL, setE, dVar, dC, dBin, dUn, dCall, dA, dAS, dLnil, dLcons, dTup, dTest, dTru, dNot, dAnd, dOr, dAndV, dOrV, dNotT, dIf, dIfT, dChain, dFr, dLc, dYes, dIl, dIt, dIs, dIr, dgN, dgT, dZip, dEnum, itemsD, dSl, dNo, dPart, dIsN, dCat, dRep, dListOf, dStarL, dTruO, dCmpO, dS, fAdd, fSub, fMul, fMod, fDiv, fPow, fLt, fLe, fGt, fGe, fNeg, fEq, fNe, fIsB, fIsNotB, fTru, fLen, fIsi, isTy, fTuple, fAbs, fMax, fMin, fIx, fSl, fNotIn, fNotInK, fFld, fRev, Bool.not_true, Bool.not_false, Bool.false_eq_true, if_true, if_false, ite_true, ite_false, reduceIte, reduceCtorEq, decide_true, decide_false, true_and, and_true, beq_self_eq_true, bne_self_eq_false]
    rw [e2]
    rw [part_len e] at h
    exact h
end Fe
set_option Elab.async false
set_option linter.all false
set_option maxRecDepth 100000
set_option maxHeartbeats 4000000
/-! Layer 3: the law's own walk over a tree; its own look at greatest values. -/
namespace Fe
open PySem PySem.W PySem.Calls PyProof.Rows L2

theorem shp_bnd {k : Nat} (b : Bd) : shp (k + 2) (bnd b) := shp_tup fun x hx => by
  rcases List.mem_cons.mp hx with z | z
  · rw [z]
    exact shp_ints
  · rw [List.mem_singleton.mp z]
    exact shp_int
theorem shp_bnds {k : Nat} (bs : List Bd) : shp (k + 3) (bndsL bs) := shp_lst fun x hx => by
  obtain ⟨b, _, e⟩ := List.mem_map.mp hx
  subst e
  exact shp_bnd b
theorem shp_stk {k : Nat} (st : List (List Bd)) : shp (k + 4) (.lst (stk st)) := shp_lst fun x hx => by
  obtain ⟨b, _, e⟩ := List.mem_map.mp hx
  subst e
  exact shp_bnds b
theorem eqv_nilL (xs : List D) : PyData.eqv (py (.lst xs)) (py (.lst [])) = xs.isEmpty := by
  cases xs with
  | nil =>
    unfold py pyL
    rw [PyData.eqv]
    rfl
  | cons x xs =>
    unfold py pyL
    rw [PyData.eqv]
    rfl
structure TreeEl (n : Nat) (st : List (List Bd)) (en : En) : Prop where
  len : en.length = 8
  k : en[0]? = some (some (.dat (kindsL n)))
  w : en[3]? = some (some (.own (stk st)))
def pl_tree : DS := (dSeq (dAsg 6 (dUn fTuple (dFr (dLc (dIt (dBin fIx (dVar 4) (dC (.int 1)))) (dgN 7) dYes (dUn fNeg (dVar 7)) [7])))) (dSeq (dAppend 3 (dFr (dCat (dVar 5) (dFr (dLcons (dTup (dLcons (dVar 6) (dLcons (dBin fSub (dUn fNeg (dBin fIx (dVar 4) (dC (.int 2)))) (dC (.int 1))) dLnil))) dLnil))))) (dAppend 3 (dFr (dCat (dVar 5) (dFr (dLcons (dTup (dLcons (dBin fIx (dVar 4) (dC (.int 1))) (dLcons (dBin fIx (dVar 4) (dC (.int 2))) dLnil))) dLnil)))))))
def el_tree : DS := (dIfS (dOr (dTest (dBin fNe (dBin fIx (dVar 4) (dC (.int 0))) (dC (.str "end")))) (dOr (dTest (dBin fNe (dUn fLen (dVar 4)) (dC (.int 2)))) (dNot (dTru (dCall sp_law_end_right (dA (dLcons (dVar 5) (dLcons (dBin fIx (dVar 4) (dC (.int 1))) (dLcons (dUn fLen (dVar 0)) dLnil))))))))) (dRet (dC (.bl false))) dNx)
def rl_tree : DS := (dSeq (dPop 3 5) (dIfS (dAnd (dTest (dBin fEq (dBin fIx (dVar 4) (dC (.int 0))) (dC (.str "part")))) (dTru (dCall sp_law_parting_right (dA (dLcons (dVar 0) (dLcons (dVar 4) dLnil)))))) pl_tree el_tree))
def bl_tree : DS := (dSeq (dIfS (dOr (dTest (dCmpO fEqD 3 (dFr dLnil))) (dOr (dNot (dTru (dUn (fIsi "tuple") (dVar 4)))) (dOr (dTest (dBin fLt (dUn fLen (dVar 4)) (dC (.int 2)))) (dNot (dTru (dUn (fIsi "str") (dBin fIx (dVar 4) (dC (.int 0))))))))) (dRet (dC (.bl false))) dNx) rl_tree)
theorem pl_step {n j : Nat} {h : List Bd} {rest : List (List Bd)} {a : D} {ws : List Int} {c : Int} {e1 e2 e6 e7 : Option Cell} {Z : DEnds} (hw : ws.length = n) (hn : BsOk n h) (hl : h.length ≤ 900) (hr : rest.length ≤ 5000)
    (qt : ∀ en', TreeEl n ((h ++ [(ws, c)]) :: (h ++ [(neg ws, -(c + 1))]) :: rest) en' → Z.nx en') :
    pl_tree Z [some (.dat (kindsL n)), e1, e2, some (.own (stk rest)), some (.dat (.tup [a, tI ws, .int c])), some (.dat (bndsL h)), e6, e7] := by
  unfold pl_tree
  have hw2 : ws.length ≤ sizeLine := sz _ (by have := hn.n2; omega)
  have hl2 : h.length + 1 ≤ sizeLine := sz _ (by omega)
  have hl3 : (stk rest).length < sizeLine := by rw [stk_len, sizeLine_eq]; omega
  have hl4 : (stk rest).length + 1 < sizeLine := by rw [stk_len, sizeLine_eq]; omega
  show dLcGo _ _ _ _ (ws.map D.int) [] _
  refine lc_map' (g := fun w => D.int (-w)) ws _ (fun w hw => ⟨_, rfl, fun R hR => hR⟩) hw2 ?_
  have e : ws.map (fun w => D.int (-w)) = (neg ws).map D.int := by
    unfold neg
    rw [List.map_map]
    rfl
  rw [e]
  refine ⟨by rw [List.length_map]; exact hl2, hl3, ?_⟩
  refine ⟨by rw [List.length_map]; exact hl2, by rw [List.length_append]; exact hl4, ?_⟩
  refine qt _ ⟨rfl, rfl, ?_⟩
  rw [stk_cons, stk_cons]
  show some (some (Cell.own _)) = some (some (Cell.own _))
  rw [show bndsL (h ++ [(ws, c)]) = .lst (h.map bnd ++ [bnd (ws, c)]) by unfold bndsL; rw [List.map_append]; rfl, show bndsL (h ++ [(neg ws, -(c + 1))]) = .lst (h.map bnd ++ [bnd (neg ws, -(c + 1))]) by unfold bndsL; rw [List.map_append]; rfl]
  rw [show -(c + 1) = -c - 1 by omega]
theorem el_step {n j : Nat} {h : List Bd} {rest : List (List Bd)} {s : Str} {more : List D} {e1 e2 e6 e7 : Option Cell} {Z : DEnds} (hx : ∀ x ∈ D.str s :: more, nice j x) (hm : more.length ≤ 200) (hn : BsOk n h)
    (qf : (s == ("end" : Str) && endOf n h (.str s :: more)) = false → Z.rt (.bl false)) (qt : (s == ("end" : Str) && endOf n h (.str s :: more)) = true → ∀ en', TreeEl n rest en' → Z.nx en') :
    el_tree Z [some (.dat (kindsL n)), e1, e2, some (.own (stk rest)), some (.dat (.tup (.str s :: more))), some (.dat (bndsL h)), e6, e7] := by
  unfold el_tree
  cases ee : (s == ("end" : Str)) with
  | false =>
    rw [ee] at qf
    simp only [at0, startE, List.map_cons, List.map_nil, List.length_cons, List.length_nil, List.replicate, List.cons_append, List.nil_append, List.getElem?_cons_zero, List.getElem?_cons_succ, List.set_cons_zero, List.set_cons_succ, wipeE, dSeq, dRet, dAsg, dAsgO, dPar, dParO, dIfS, dNx, dExpr, dFreeze, dAppend, dPop, dSetI, dFor, dUnT, dUnL, setE, dVar, dC, dBin, dUn, dCall, dA, dAS, dLnil, dLcons, dTup, dTest, dTru, dNot, dAnd, dOr, dAndV, dOrV, dNotT, dIf, dIfT, dChain, dFr, dLc, dYes, dIl, dIt, dIs, dIr, dgN, dgT, dZip, dEnum, itemsD, dSl, dNo, dPart, dIsN, dCat, dRep, dListOf, dStarL, dTruO, dCmpO, dS, fAdd, fSub, fMul, fMod, fDiv, fPow, fLt, fLe, fGt, fGe, fNeg, fEq, fNe, fIsB, fIsNotB, fTru, fLen, fIsi, isTy, fTuple, fAbs, fMax, fMin, fIx, fSl, fNotIn, fNotInK, fFld, fRev, Bool.not_true, Bool.not_false, Bool.false_eq_true, if_true, if_false, ite_true, ite_false, reduceIte, reduceCtorEq, decide_true, decide_false, true_and, and_true, beq_self_eq_true, bne_self_eq_false]
    rw [bne, ee]
    exact qf rfl
  | true =>
    rw [ee, Bool.true_and] at qf qt
    simp only [at0, startE, List.map_cons, List.map_nil, List.length_cons, List.length_nil, List.replicate, List.cons_append, List.nil_append, List.getElem?_cons_zero, List.getElem?_cons_succ, List.set_cons_zero, List.set_cons_succ, wipeE, dSeq, dRet, dAsg, dAsgO, dPar, dParO, dIfS, dNx, dExpr, dFreeze, dAppend, dPop, dSetI, dFor, dUnT, dUnL, setE, dVar, dC, dBin, dUn, dCall, dA, dAS, dLnil, dLcons, dTup, dTest, dTru, dNot, dAnd, dOr, dAndV, dOrV, dNotT, dIf, dIfT, dChain, dFr, dLc, dYes, dIl, dIt, dIs, dIr, dgN, dgT, dZip, dEnum, itemsD, dSl, dNo, dPart, dIsN, dCat, dRep, dListOf, dStarL, dTruO, dCmpO, dS, fAdd, fSub, fMul, fMod, fDiv, fPow, fLt, fLe, fGt, fGe, fNeg, fEq, fNe, fIsB, fIsNotB, fTru, fLen, fIsi, isTy, fTuple, fAbs, fMax, fMin, fIx, fSl, fNotIn, fNotInK, fFld, fRev, Bool.not_true, Bool.not_false, Bool.false_eq_true, if_true, if_false, ite_true, ite_false, reduceIte, reduceCtorEq, decide_true, decide_false, true_and, and_true, beq_self_eq_true, bne_self_eq_false]
    rw [bne, ee]
    match more, hx, hm, qf, qt with
    | [v], hx, hm, qf, qt =>
      refine ⟨n, j, h, v, ?_, hx v (by simp), hn, ?_⟩
      · rw [List.length_replicate]
      · have e9 : endOf n h [.str s, v] = endOf n h [.non, v] := rfl
        rw [e9] at qf qt
        cases eo : endOf n h [.non, v] with
        | false => exact qf eo
        | true => exact qt eo _ ⟨rfl, rfl, rfl⟩
    | [], hx, hm, qf, qt => exact qf rfl
    | a :: b :: m, hx, hm, qf, qt =>
      have ne : ((((a :: b :: m : List D).length + 1 : Nat) : Int) != 2) = true := by
        rw [bne_iff_ne, List.length_cons, List.length_cons]
        omega
      rw [ne]
      exact qf rfl
theorem treel_step {n m k : Nat} {st : List (List Bd)} {node : D} {en : En} {Z : DEnds} (T : TreeEl n st en) (e4 : en[4]? = some (some (.dat node))) (nn : nice k node) (k64 : k ≤ 60) (ok : StOk n (m + 1) st) (qf : stepOf n node st = none → Z.rt (.bl false)) (qt : ∀ st', stepOf n node st = some st' → ∀ en', TreeEl n st' en' → Z.nx en') :
    bl_tree Z en := by
  obtain ⟨l, hk, hw⟩ := T
  match en, l, hk, hw, e4 with
  | [e0, e1, e2, e3, e4, e5, e6, e7], _, hk, hw, h4 =>
  have e0' : e0 = some (.dat (kindsL n)) := by simpa using hk
  have e3' : e3 = some (.own (stk st)) := by simpa using hw
  have e4' : e4 = some (.dat node) := by simpa using h4
  subst e0' e3' e4'
  unfold bl_tree
  refine ⟨shp_of (shp_stk (k := 0) st) (by decide), by decide, ?_⟩
  rw [eqv_nilL, stk_empty]
  cases st with
  | nil => exact qf rfl
  | cons h rest =>
    have ohd := ok.1 h List.mem_cons_self
    cases node with
    | tup xs =>
      obtain ⟨j, ej, hz, hx⟩ := nice_tup nn
      match xs, nn, hz, hx, qf, qt with
      | [], nn, hz, hx, qf, qt => exact qf rfl
      | [x], nn, hz, hx, qf, qt =>
        refine qf ?_
        unfold stepOf
        cases x with
        | str s =>
          show (if (s == ("part" : Str)) = true then none else if (s == ("end" : Str) && false) = true then some rest else none) = none
          rw [Bool.and_false]
          cases (s == ("part" : Str)) <;> rfl
        | _ => rfl
      | x :: y :: more, nn, hz, hx, qf, qt =>
        have nx : nice j x := hx x (by simp)
        have lt : decide ((((more.length + 1 + 1 : Nat)) : Int) < 2) = false := by
          rw [decide_eq_false_iff_not]
          omega
        have hm : (y :: more).length ≤ 200 := by
          rw [List.length_cons] at hz
          omega
        simp only [at0, lt, show (h :: rest).isEmpty = false from rfl, startE, List.map_cons, List.map_nil, List.length_cons, List.length_nil, List.replicate, List.cons_append, List.nil_append, List.getElem?_cons_zero, List.getElem?_cons_succ, List.set_cons_zero, List.set_cons_succ, wipeE, dSeq, dRet, dAsg, dAsgO, dPar, dParO, dIfS, dNx, dExpr, dFreeze, dAppend, dPop, dSetI, dFor, dUnT, dUnL, setE, dVar, dC, dBin, dUn, dCall, dA, dAS, dLnil, dLcons, dTup, dTest, dTru, dNot, dAnd, dOr, dAndV, dOrV, dNotT, dIf, dIfT, dChain, dFr, dLc, dYes, dIl, dIt, dIs, dIr, dgN, dgT, dZip, dEnum, itemsD, dSl, dNo, dPart, dIsN, dCat, dRep, dListOf, dStarL, dTruO, dCmpO, dS, fAdd, fSub, fMul, fMod, fDiv, fPow, fLt, fLe, fGt, fGe, fNeg, fEq, fNe, fIsB, fIsNotB, fTru, fLen, fIsi, isTy, fTuple, fAbs, fMax, fMin, fIx, fSl, fNotIn, fNotInK, fFld, fRev, Bool.not_true, Bool.not_false, Bool.false_eq_true, if_true, if_false, ite_true, ite_false, reduceIte, reduceCtorEq, decide_true, decide_false, true_and, and_true, beq_self_eq_true, bne_self_eq_false]
        cases x with
        | str s =>
          show rl_tree Z _
          unfold rl_tree
          have hl : h.length ≤ 900 := by have := ohd.2; omega
          have hr : rest.length ≤ 5000 := by
            have := ok.2
            rw [List.length_cons] at this
            omega
          rw [stk_cons]
          refine dPop_at (l := stk rest) (d := bndsL h) rfl ?_
          simp only [at0, startE, List.map_cons, List.map_nil, List.length_cons, List.length_nil, List.replicate, List.cons_append, List.nil_append, List.getElem?_cons_zero, List.getElem?_cons_succ, List.set_cons_zero, List.set_cons_succ, wipeE, dSeq, dRet, dAsg, dAsgO, dPar, dParO, dIfS, dNx, dExpr, dFreeze, dAppend, dPop, dSetI, dFor, dUnT, dUnL, setE, dVar, dC, dBin, dUn, dCall, dA, dAS, dLnil, dLcons, dTup, dTest, dTru, dNot, dAnd, dOr, dAndV, dOrV, dNotT, dIf, dIfT, dChain, dFr, dLc, dYes, dIl, dIt, dIs, dIr, dgN, dgT, dZip, dEnum, itemsD, dSl, dNo, dPart, dIsN, dCat, dRep, dListOf, dStarL, dTruO, dCmpO, dS, fAdd, fSub, fMul, fMod, fDiv, fPow, fLt, fLe, fGt, fGe, fNeg, fEq, fNe, fIsB, fIsNotB, fTru, fLen, fIsi, isTy, fTuple, fAbs, fMax, fMin, fIx, fSl, fNotIn, fNotInK, fFld, fRev, Bool.not_true, Bool.not_false, Bool.false_eq_true, if_true, if_false, ite_true, ite_false, reduceIte, reduceCtorEq, decide_true, decide_false, true_and, and_true, beq_self_eq_true, bne_self_eq_false]
          cases es : (s == ("part" : Str)) with
          | true =>
            rw [if_pos rfl]
            refine ⟨n, j, .str s :: y :: more, rfl, hx, ?_⟩
            cases ep : partOf n (.str s :: y :: more) with
            | none =>
              have sn : stepOf n (.tup (.str s :: y :: more)) (h :: rest) = none := by
                unfold stepOf
                simp only [es, if_true, ep]
              show el_tree Z _
              refine el_step hx hm ohd.1 (fun _ => qf sn) fun z => ?_
              have e1 := eq_of_beq es
              rw [Bool.and_eq_true] at z
              have e2 := eq_of_beq z.1
              rw [e1] at e2
              exact absurd e2 (by decide +kernel)
            | some wc =>
              obtain ⟨ws, c⟩ := wc
              obtain ⟨a, ea, e2'⟩ := part_at ep
              have sn : stepOf n (.tup (.str s :: y :: more)) (h :: rest) = some ((h ++ [(ws, c)]) :: (h ++ [(neg ws, -(c + 1))]) :: rest) := by
                unfold stepOf
                simp only [es, if_true, ep]
              cases ea
              show pl_tree Z _
              exact pl_step (j := j) e2' ohd.1 hl hr (qt _ sn)
          | false =>
            rw [if_neg Bool.false_ne_true]
            have est : stepOf n (.tup (.str s :: y :: more)) (h :: rest) = if (s == ("end" : Str) && endOf n h (.str s :: y :: more)) = true then some rest else none := by
              unfold stepOf
              simp only [es, Bool.false_eq_true, if_false]
            rw [est] at qf qt
            refine el_step hx hm ohd.1 (fun z => qf ?_) fun z => qt _ ?_
            · rw [z]
              rfl
            · rw [z]
              rfl
        | sys => exact absurd (nice_sys nx) (by intro z; cases z)
        | _ => exact qf rfl
    | sys => exact absurd (nice_sys nn) (by intro z; cases z)
    | _ => exact qf rfl
theorem setl4 {en : En} {n : Nat} {st : List (List Bd)} {c : Option Cell} (T : TreeEl n st en) : TreeEl n st (en.set 4 c) := by
  refine ⟨by rw [List.length_set]; exact T.len, ?_, ?_⟩
  · rw [List.getElem?_set_ne (by decide)]
    exact T.k
  · rw [List.getElem?_set_ne (by decide)]
    exact T.w
theorem treel_go {n k : Nat} (k64 : k ≤ 60) : ∀ (ns : List D) (st : List (List Bd)) (en : En) (Z : DEnds), TreeEl n st en → (∀ x ∈ ns, nice k x) → StOk n ns.length st → (runTo n ns st = none → Z.rt (.bl false)) → (∀ st', runTo n ns st = some st' → ∀ en', TreeEl n st' en' → Z.nx en') →
    dLoop (dgN 4) bl_tree Z ns en
  | [], st, en, Z, T, _, _, _, qt => qt st rfl en T
  | x :: ns, st, en, Z, T, hx, ok, qf, qt => by
    have nx : nice k x := hx x List.mem_cons_self
    have h4 : (en.set 4 (some (.dat x)))[4]? = some (some (.dat x)) := List.getElem?_set_self (by rw [T.len]; decide)
    show bl_tree { nx := fun e => dLoop (dgN 4) bl_tree Z ns e, rt := Z.rt, bk := Z.nx, ct := fun e => dLoop (dgN 4) bl_tree Z ns e } (en.set 4 (some (.dat x)))
    unfold runTo at qf qt
    refine treel_step (m := ns.length) (setl4 T) h4 nx k64 ok (fun z => ?_) fun st' z en' T' => ?_
    · rw [z] at qf
      exact qf rfl
    · rw [z] at qf qt
      exact treel_go k64 ns st' en' Z T' (fun y hy => hx y (List.mem_cons_of_mem _ hy)) (step_ok z nx ok) qf qt
def sp_law_tree_right : DSp := fun cs Q => ∃ n k bs v, cs = [.dat (kindsL n), .dat (bndsL bs), .dat v] ∧ nice (k + 1) v ∧ k ≤ 60 ∧ BsOk n bs ∧ bs.length ≤ 600 ∧ Q (.bl (treeOf n bs v))
theorem sem_law_tree_right (cs : List Cell) (Q : D → Prop) (hl : cs.length = 3) (h : sp_law_tree_right cs Q) : d_law_tree_right sp_law_parting_right sp_law_end_right { nx := fun _ => Q .non, rt := Q } (startE N_law_tree_right cs) := by
  obtain ⟨n, k, bs, v, e, nv, k60, ok, bl, h⟩ := h
  subst e
  cases v with
  | tup ns =>
    obtain ⟨j, ej, hz, hx⟩ := nice_tup nv
    cases ej
    show dLoop (dgN 4) bl_tree { nx := fun e => dFreeze 3 (dRet (dBin fEqD (dVar 3) (dFr dLnil))) { nx := fun _ => Q .non, rt := Q } e, rt := Q } ns [some (.dat (kindsL n)), some (.dat (bndsL bs)), some (.dat (.tup ns)), some (.own [bndsL bs]), none, none, none, none]
    refine treel_go k60 ns [bs] _ _ ⟨rfl, rfl, rfl⟩ hx ⟨fun h hh => ?_, by rw [List.length_singleton]; omega⟩ (fun z => ?_) fun st' z en' T => ?_
    · rw [List.mem_singleton.mp hh]
      exact ⟨ok, by omega⟩
    · have e : treeOf n bs (.tup ns) = false := by
        show (match runTo n ns [bs] with
          | some st => st.isEmpty
          | none => false) = false
        rw [z]
      rw [e] at h
      exact h
    · have e : treeOf n bs (.tup ns) = st'.isEmpty := by
        show (match runTo n ns [bs] with
          | some st => st.isEmpty
          | none => false) = _
        rw [z]
      rw [e] at h
      obtain ⟨l, h0, h3⟩ := T
      match en', l, h0, h3 with
      | [e0, e1, e2, e3, e4, e5, e6, e7], _, h0, h3 =>
      have e3' : e3 = some (.own (stk st')) := by simpa using h3
      subst e3'
      refine ⟨shp_of (shp_stk (k := 0) st') (by decide), by decide, ?_⟩
      rw [eqv_nilL, stk_empty]
      exact h
  | sys => exact absurd (nice_sys nv) (by intro z; cases z)
  | _ => exact h
end Fe
set_option Elab.async false
set_option linter.all false
set_option maxRecDepth 100000
set_option maxHeartbeats 4000000
/-! Layer 3: the law's own look at greatest values; the judge. -/
namespace Fe
open PySem PySem.W PySem.Calls PyProof.Rows L2

def sp_law_best_right : DSp := fun cs Q => ∃ n bs x a b ws top paper k, cs = [.dat (.lst [x, kindsL n, bndsL bs]), .dat (.tup [a, b, tI ws, top]), .dat paper] ∧ BsOk n bs ∧ bs.length ≤ 500 ∧ ws.length = n ∧ LtA 200 ws ∧ nice (k + 1) top ∧ nice (k + 2) paper ∧ k ≤ 50 ∧ Q (.bl (bestOf n bs ws top paper))
def f_right : DS := (dSeq (dIfS (dOr (dNot (dTru (dCall sp_law_point_keeps (dA (dLcons (dBin fIx (dVar 0) (dC (.int 2))) (dLcons (dBin fIx (dVar 2) (dC (.int 0))) dLnil)))))) (dTest (dBin fNe (dCall sp_law_total (dA (dLcons (dBin fIx (dVar 1) (dC (.int 2))) (dLcons (dBin fIx (dVar 2) (dC (.int 0))) dLnil)))) (dBin fIx (dVar 1) (dC (.int 3)))))) (dRet (dC (.bl false))) dNx) (dSeq (dAsg 3 (dTup (dLcons (dUn fTuple (dFr (dLc (dIt (dBin fIx (dVar 1) (dC (.int 2)))) (dgN 4) dYes (dUn fNeg (dVar 4)) [4]))) (dLcons (dBin fSub (dUn fNeg (dBin fIx (dVar 1) (dC (.int 3)))) (dC (.int 1))) dLnil)))) (dRet (dCall sp_law_tree_right (dA (dLcons (dBin fIx (dVar 0) (dC (.int 1))) (dLcons (dFr (dCat (dBin fIx (dVar 0) (dC (.int 2))) (dFr (dLcons (dVar 3) dLnil)))) (dLcons (dBin fIx (dVar 2) (dC (.int 1))) dLnil))))))))
theorem f_right_ok {Q : D → Prop} {n : Nat} {bs : List Bd} {x a b : D} {ws xs : List Int} {tp : Int} {tr : D} {k : Nat} (ok : BsOk n bs) (bl : bs.length ≤ 500) (wl : ws.length = n) (wn : LtA 200 ws) (lt : Lt 200 tp) (lx : LtA 200 xs) (xl : xs.length = n) (nit : nice (k + 1) tr) (k50 : k ≤ 50)
    (h : Q (.bl (keeps bs xs && ((dot ws xs == tp) && treeOf n (bs ++ [(neg ws, -(tp + 1))]) tr)))) :
    f_right { nx := fun _ => Q .non, rt := Q } [some (.dat (.lst [x, kindsL n, bndsL bs])), some (.dat (.tup [a, b, tI ws, .int tp])), some (.dat (.tup [tI xs, tr])), none, none] := by
  have n2 := ok.n2
  unfold f_right
  refine ⟨n, bs, xs, rfl, ok, lx, xl, ?_⟩
  cases ek : keeps bs xs with
  | false =>
    rw [ek] at h
    exact h
  | true =>
    rw [ek, Bool.true_and] at h
    refine ⟨tI ws, tI xs, ws, xs, rfl, .inl rfl, .inl rfl, fun i hi => lt_mono (wn i hi) (by decide), fun i hi => lt_mono (lx i hi) (by decide), by omega, ?_⟩
    show (if (dot ws xs != tp) = true then Q (.bl false) else _)
    cases ed : (dot ws xs == tp) with
    | false =>
      rw [bne, ed]
      rw [ed] at h
      exact h
    | true =>
      rw [bne, ed]
      rw [ed, Bool.true_and] at h
      show dLcGo _ _ _ _ (ws.map D.int) [] _
      refine lc_map' (g := fun w => D.int (-w)) ws _ (fun w hw => ⟨_, rfl, fun R hR => hR⟩) (sz _ (by omega)) ?_
      have e : ws.map (fun w => D.int (-w)) = (neg ws).map D.int := by
        unfold neg
        rw [List.map_map]
        rfl
      rw [e]
      refine ⟨by rw [List.length_map]; show bs.length + 1 ≤ _; exact sz _ (by omega), ?_⟩
      refine ⟨n, k, bs ++ [(neg ws, -(tp + 1))], tr, ?_, nit, by omega, bs_add ok (by omega) ⟨by rw [neg_len]; exact wl, ltA_neg fun i hi => lt_mono (wn i hi) (by decide), lt_mono (lt_neg (lt_add lt (lt_one (by decide)))) (by decide)⟩, by rw [List.length_append, List.length_singleton]; omega, h⟩
      unfold bndsL
      rw [List.map_append, show -(tp + 1) = -tp - 1 by omega]
      rfl
theorem sem_law_best_right (cs : List Cell) (Q : D → Prop) (hl : cs.length = 3) (h : sp_law_best_right cs Q) : d_law_best_right sp_is_integer sp_is_pair sp_law_fits sp_law_point_keeps sp_law_total sp_law_tree_right { nx := fun _ => Q .non, rt := Q } (startE N_law_best_right cs) := by
  obtain ⟨n, bs, x, a, b, ws, top, paper, k, e, ok, bl, wl, wn, nt, np, k50, h⟩ := h
  subst e
  unfold d_law_best_right
  refine ⟨nice_sys nt, ?_⟩
  cases top with
  | int tp =>
    refine ⟨k + 2, paper, rfl, np, ?_⟩
    cases paper with
    | tup ys =>
      match ys, np, h with
      | [p, tr], np, h =>
        obtain ⟨j, ej, _, hx⟩ := nice_tup np
        cases ej
        have nip : nice (k + 1) p := hx p (by simp)
        have nit : nice (k + 1) tr := hx tr (by simp)
        refine ⟨n, k + 1, p, rfl, nip, ?_⟩
        cases ex : asT n p with
        | none =>
          have e2 : bestOf n bs ws (.int tp) (.tup [p, tr]) = false := by
            show (match asT n p with
              | some xs => _
              | none => false) = false
            rw [ex]
          rw [e2] at h
          exact h
        | some xs =>
          obtain ⟨e1, e2⟩ := asT_some ex
          subst e1
          have lx : LtA 200 xs := fun i hi => by
            obtain ⟨_, _, _, z⟩ := nice_tup nip
            exact nice_int (z _ (List.mem_map_of_mem hi))
          have eb : bestOf n bs ws (.int tp) (.tup [tI xs, tr]) = (keeps bs xs && ((dot ws xs == tp) && treeOf n (bs ++ [(neg ws, -(tp + 1))]) tr)) := by
            show (match asT n (tI xs) with
              | some xs => _
              | none => false) = _
            rw [ex]
          rw [eb] at h
          exact f_right_ok ok bl wl wn (nice_int nt) lx e2 nit k50 h
      | [], np, h => exact h
      | [_], np, h => exact h
      | _ :: _ :: _ :: _, np, h => exact h
    | sys => exact absurd (nice_sys np) (by intro z; cases z)
    | _ => exact h
  | sys => exact absurd (nice_sys nt) (by intro z; cases z)
  | _ => exact h
def sp_law_judged (Tx : TxR) : DSp := fun cs Q => ∃ text n bs aim top paper k b, cs = [.dat (.tup [.str "best", .str text, aim, top]), .dat paper, .dat (.bl b)] ∧ nice k aim ∧ nice (k + 1) top ∧ nice (k + 2) paper ∧ k ≤ 50 ∧ Tx text "whole" n bs ∧ Q (.bl (lookOf n bs aim top paper == b))
theorem sem_law_judged {Tx : TxR} (cs : List Cell) (Q : D → Prop) (hl : cs.length = 3) (h : sp_law_judged Tx cs Q) : d_law_judged (sp_accepts Tx) { nx := fun _ => Q .non, rt := Q } (startE N_law_judged cs) := by
  obtain ⟨text, n, bs, aim, top, paper, k, b, e, na, nt, np, k50, tx, h⟩ := h
  subst e
  unfold d_law_judged
  refine acc_best na nt np k50 tx ?_
  cases b with
  | true => exact h
  | false => exact h
end Fe
set_option Elab.async false
set_option linter.all false
set_option maxRecDepth 100000
set_option maxHeartbeats 4000000
/-! Layer 3: what the law draws, puts, lifts. -/
namespace Fe
open PySem PySem.W PySem.Calls PyProof.Rows L2

@[irreducible] def sp_law_draw : DSp := fun cs Q => ∃ n : Int, cs = [.spr, .dat (.int n)] ∧ 0 < n ∧ n < 1000000 ∧ ∀ i : Int, 0 ≤ i → i < n → Q (.int i)
theorem sem_law_draw (cs : List Cell) (Q : D → Prop) (hl : cs.length = 2) (h : sp_law_draw cs Q) : d_law_draw { nx := fun _ => Q .non, rt := Q } (startE N_law_draw cs) := by
  unfold sp_law_draw at h
  obtain ⟨n, e, n0, n1, q⟩ := h
  subst e
  have hm : ∀ i : Int, 0 ≤ i % n ∧ i % n < n := fun i => ⟨Int.emod_nonneg _ (by omega), Int.emod_lt_of_pos _ n0⟩
  have hk : ∀ i : Int, 0 ≤ i % 2147483647 ∧ i % 2147483647 < 2147483647 := fun i => ⟨Int.emod_nonneg _ (by decide), Int.emod_lt_of_pos _ (by decide)⟩
  unfold d_law_draw
  refine ⟨rfl, ⟨by decide, by decide⟩, rfl, .inl ⟨.inr rfl, fun a => ⟨fun z => absurd z (by decide), ?_⟩⟩⟩
  refine ⟨rfl, ⟨by decide, by decide⟩, rfl, .inr ⟨rfl, fun b b0 b1 => ⟨.inr ⟨by omega, by omega⟩, rfl, .inl ⟨.inr rfl, fun c => ⟨.inr (by decide), by decide, fun _ => hk _, ?_⟩⟩⟩⟩⟩
  refine ⟨rfl, .inl ⟨.inl rfl, fun s0 => ?_⟩⟩
  show (if decide (0 < s0) = true then _ else _)
  by_cases z : 0 < s0
  · rw [decide_eq_true z, if_pos rfl]
    refine ⟨rfl, rfl, .inl ⟨.inl rfl, fun s1 => ⟨⟨n0, by omega⟩, ?_⟩⟩⟩
    exact q _ (hm s1).1 (hm s1).2
  · rw [decide_eq_false z, if_neg Bool.false_ne_true]
    refine ⟨rfl, .inr ⟨rfl, fun f f0 f1 => ?_⟩⟩
    refine ⟨rfl, .inr ⟨rfl, fun g g0 g1 => ⟨.inr ⟨by omega, by omega⟩, rfl, .inl ⟨.inr rfl, fun c => ⟨by decide, ⟨by decide, by decide⟩, n0, ?_⟩⟩⟩⟩⟩
    exact q _ (hm _).1 (hm _).2
theorem draw_ok' {n : Int} {R : D → Prop} (h0 : 0 < n) (h1 : n < 1000000) (q : ∀ i : Int, 0 ≤ i → i < n → R (.int i)) : sp_law_draw [.spr, .dat (.int n)] R := by
  unfold sp_law_draw
  exact ⟨n, rfl, h0, h1, q⟩
theorem draw_ok {n : Nat} {R : D → Prop} (h0 : 0 < n) (h1 : n < 1000000) (q : ∀ i : Nat, i < n → R (.int (i : Nat))) : sp_law_draw [.spr, .dat (.int (n : Nat))] R := draw_ok' (by omega) (by omega) fun i i0 i1 => by
  obtain ⟨j, e⟩ := Int.eq_ofNat_of_zero_le i0
  subst e
  exact q j (by omega)
@[irreducible] def sp_law_of : DSp := fun cs Q => ∃ ds, cs = [.spr, .dat (.lst ds)] ∧ 0 < ds.length ∧ ds.length < 1000000 ∧ ∀ d ∈ ds, Q d
theorem sem_law_of (cs : List Cell) (Q : D → Prop) (hl : cs.length = 2) (h : sp_law_of cs Q) : d_law_of sp_law_draw { nx := fun _ => Q .non, rt := Q } (startE N_law_of cs) := by
  unfold sp_law_of at h
  obtain ⟨ds, e, d0, d1, q⟩ := h
  subst e
  unfold d_law_of
  refine ⟨rfl, draw_ok' (n := (ds.length : Int)) (by omega) (by omega) fun i i0 i1 => ?_⟩
  have hi : i.toNat < ds.length := by omega
  have e : L2.atI ds i = some ds[i.toNat] := by
    have := atI_nat (List.getElem?_eq_getElem hi)
    rw [Int.toNat_of_nonneg i0] at this
    exact this
  show (match L2.atI ds i with
    | some d => Q d
    | none => False)
  rw [e]
  exact q _ (List.getElem_mem hi)

theorem of_ok {menu : List D} {R : D → Prop} (h0 : 0 < menu.length) (h1 : menu.length < 1000000) (q : ∀ d ∈ menu, R d) : sp_law_of [.spr, .dat (.lst menu)] R := by
  unfold sp_law_of
  exact ⟨menu, rfl, h0, h1, q⟩
/-! ### slices -/
theorem cut_take {α : Type} (xs : List α) (i : Nat) : cutL xs none (some (i : Int)) = xs.take i := by
  unfold cutL
  rw [HT.sIx_none, HT.sIx_nat, List.drop_zero, Nat.sub_zero, ← List.take_eq_take_min]
theorem cut_drop {α : Type} (xs : List α) (i : Nat) : cutL xs (some (i : Int)) none = xs.drop i := by
  unfold cutL
  rw [HT.sIx_none, HT.sIx_nat]
  by_cases z : i ≤ xs.length
  · rw [Nat.min_eq_left z, List.take_of_length_le (by rw [List.length_drop]; omega)]
  · rw [Nat.min_eq_right (by omega), List.drop_length, List.drop_of_length_le (by omega), List.take_nil]
theorem cut_init {α : Type} (xs : List α) : cutL xs none (some (-1)) = xs.dropLast := by
  unfold cutL
  rw [HT.sIx_none, List.drop_zero, Nat.sub_zero, List.dropLast_eq_take]
  have e : HT.sIx xs.length xs.length (some (-1)) = xs.length - 1 := by
    show (if (-1 : Int) < 0 then ((-1 : Int) + (xs.length : Int)).toNat else min (-1 : Int).toNat xs.length) = _
    rw [if_pos (by decide)]
    omega
  rw [e]
def putL (xs : List D) (i : Nat) (v : D) : List D := xs.take i ++ [v] ++ xs.drop (i + 1)
def sp_law_put : DSp := fun cs Q => ∃ xs i v, cs = [.dat (.tup xs), .dat (.int ((i : Nat) : Int)), .dat v] ∧ xs.length ≤ 1000 ∧ Q (.tup (putL xs i v))
theorem sem_law_put (cs : List Cell) (Q : D → Prop) (hl : cs.length = 3) (h : sp_law_put cs Q) : d_law_put { nx := fun _ => Q .non, rt := Q } (startE N_law_put cs) := by
  obtain ⟨xs, i, v, e, hz, h⟩ := h
  subst e
  unfold d_law_put
  show (cutL xs none (some (i : Int))).length + 1 ≤ sizeLine ∧ (cutL xs none (some (i : Int)) ++ [v]).length + (cutL xs (some ((i : Int) + 1)) none).length ≤ sizeLine ∧ Q (.tup (cutL xs none (some (i : Int)) ++ [v] ++ cutL xs (some ((i : Int) + 1)) none))
  rw [show ((i : Int) + 1) = ((i + 1 : Nat) : Int) by omega, cut_take, cut_drop]
  refine ⟨?_, ?_, h⟩
  · rw [List.length_take, sizeLine_eq]
    omega
  · rw [List.length_append, List.length_take, List.length_drop, List.length_singleton, sizeLine_eq]
    omega
theorem put_mem {xs : List D} {i : Nat} {v x : D} (h : x ∈ putL xs i v) : x ∈ xs ∨ x = v := by
  unfold putL at h
  rcases List.mem_append.mp h with h | h
  · rcases List.mem_append.mp h with h | h
    · exact .inl (List.mem_of_mem_take h)
    · exact .inr (List.mem_singleton.mp h)
  · exact .inl (List.mem_of_mem_drop h)
theorem put_len (xs : List D) (i : Nat) (v : D) : (putL xs i v).length ≤ xs.length + 1 := by
  unfold putL
  rw [List.length_append, List.length_append, List.length_take, List.length_drop, List.length_singleton]
  omega

/-! ### trees lifted -/
/-- a node: a parting, or an end with its sizes -/
inductive Nd where
  | part (ws : List Int) (c : Int) | fin (ss : List Int)
abbrev Nd.d : Nd → D
  | .part ws c => .tup [.str "part", tI ws, .int c]
  | .fin ss => .tup [.str "end", tI ss]
abbrev ndsT (ns : List Nd) : D := .tup (ns.map Nd.d)
def Nd.len : Nd → Nat
  | .part ws _ => ws.length
  | .fin ss => ss.length
def insL (ss : List Int) (m : Nat) : List Int := ss.take m ++ [0] ++ ss.drop m
def Nd.lift (m : Nat) : Nd → Nd
  | .part ws c => .part ws c
  | .fin ss => .fin (insL ss m)
def sp_law_lifted : DSp := fun cs Q => ∃ ns m, cs = [.dat (ndsT ns), .dat (.int ((m : Nat) : Int))] ∧ ns.length ≤ 1000 ∧ (∀ x ∈ ns, x.len ≤ 1000) ∧ Q (ndsT (ns.map (Nd.lift m)))
def b_lift : DS := (dSeq (dAsg 4 (dTup (dLcons (dC (.str "end")) (dLcons (dBin fAdd (dBin fAdd (dSl (dBin fIx (dVar 3) (dC (.int 1))) dNo (dPart (dVar 1))) (dTup (dLcons (dC (.int 0)) dLnil))) (dSl (dBin fIx (dVar 3) (dC (.int 1))) (dPart (dVar 1)) dNo)) dLnil)))) (dAppend 2 (dIf (dTest (dBin fEq (dBin fIx (dVar 3) (dC (.int 0))) (dC (.str "end")))) (dVar 4) (dVar 3))))
theorem ins_map (ss : List Int) (m : Nat) : cutL (ss.map D.int) none (some (m : Int)) ++ [D.int 0] ++ cutL (ss.map D.int) (some (m : Int)) none = (insL ss m).map D.int := by
  rw [cut_take, cut_drop]
  unfold insL
  rw [List.map_append, List.map_append, List.map_take, List.map_drop]
  rfl
theorem ins_len (ss : List Int) (m : Nat) : (insL ss m).length = ss.length + 1 := by
  unfold insL
  rw [List.length_append, List.length_append, List.length_take, List.length_drop, List.length_singleton]
  omega
theorem lift_step {x : Nd} {m : Nat} {acc : List D} {e0 e4 : Option Cell} {Z : DEnds} (hx : x.len ≤ 1000) (ha : acc.length ≤ 5000) (q : ∀ v, Z.nx [e0, some (.dat (.int ((m : Nat) : Int))), some (.own (acc ++ [(x.lift m).d])), some (.dat x.d), some (.dat v)]) :
    b_lift Z [e0, some (.dat (.int ((m : Nat) : Int))), some (.own acc), some (.dat x.d), e4] := by
  unfold b_lift
  have fin : ∀ ss : List Int, ss.length ≤ 1000 → ∀ R : D → Prop, R (tI (insL ss m)) → (cutL (ss.map D.int) none (some (m : Int))).length + 1 ≤ sizeLine ∧ (cutL (ss.map D.int) none (some (m : Int)) ++ [D.int 0]).length + (cutL (ss.map D.int) (some (m : Int)) none).length ≤ sizeLine ∧ R (.tup (cutL (ss.map D.int) none (some (m : Int)) ++ [D.int 0] ++ cutL (ss.map D.int) (some (m : Int)) none)) := fun ss hs R hR => by
    rw [ins_map]
    refine ⟨?_, ?_, hR⟩
    · rw [cut_take, List.length_take, List.length_map, sizeLine_eq]
      omega
    · rw [cut_take, cut_drop, List.length_append, List.length_take, List.length_drop, List.length_map, List.length_singleton, sizeLine_eq]
      omega
  have hz : acc.length < sizeLine := by rw [sizeLine_eq]; omega
  cases x with
  | part ws c =>
    refine fin ws hx (fun d => dAppend 2 (dIf (dTest (dBin fEq (dBin fIx (dVar 3) (dC (.int 0))) (dC (.str "end")))) (dVar 4) (dVar 3)) Z [e0, some (.dat (.int ((m : Nat) : Int))), some (.own acc), some (.dat (Nd.part ws c).d), some (.dat (.tup [.str "end", d]))]) ?_
    exact ⟨hz, q _⟩
  | fin ss =>
    refine fin ss hx (fun d => dAppend 2 (dIf (dTest (dBin fEq (dBin fIx (dVar 3) (dC (.int 0))) (dC (.str "end")))) (dVar 4) (dVar 3)) Z [e0, some (.dat (.int ((m : Nat) : Int))), some (.own acc), some (.dat (Nd.fin ss).d), some (.dat (.tup [.str "end", d]))]) ?_
    exact ⟨hz, q _⟩
theorem lift_go {m : Nat} {e0 : Option Cell} {Z : DEnds} : ∀ (ns : List Nd) (acc : List D) (e3 e4 : Option Cell), (∀ x ∈ ns, x.len ≤ 1000) → acc.length + ns.length ≤ 5000 →
    (∀ e3 e4, Z.nx [e0, some (.dat (.int ((m : Nat) : Int))), some (.own (acc ++ (ns.map (Nd.lift m)).map Nd.d)), e3, e4]) →
    dLoop (dgN 3) b_lift Z (ns.map Nd.d) [e0, some (.dat (.int ((m : Nat) : Int))), some (.own acc), e3, e4]
  | [], acc, e3, e4, _, _, q => by
    have := q e3 e4
    rw [List.map_nil, List.map_nil, List.append_nil] at this
    exact this
  | x :: ns, acc, e3, e4, hx, hl, q => by
    rw [List.length_cons] at hl
    show b_lift { nx := fun e => dLoop (dgN 3) b_lift Z (ns.map Nd.d) e, rt := Z.rt, bk := Z.nx, ct := fun e => dLoop (dgN 3) b_lift Z (ns.map Nd.d) e } [e0, some (.dat (.int ((m : Nat) : Int))), some (.own acc), some (.dat x.d), e4]
    refine lift_step (hx x List.mem_cons_self) (by omega) fun v => ?_
    refine lift_go ns (acc ++ [(x.lift m).d]) _ _ (fun y hy => hx y (List.mem_cons_of_mem _ hy)) (by rw [List.length_append, List.length_singleton]; omega) fun e3 e4 => ?_
    have := q e3 e4
    rw [List.map_cons, List.map_cons] at this
    rw [List.append_assoc]
    exact this
theorem sem_law_lifted (cs : List Cell) (Q : D → Prop) (hl : cs.length = 2) (h : sp_law_lifted cs Q) : d_law_lifted { nx := fun _ => Q .non, rt := Q } (startE N_law_lifted cs) := by
  obtain ⟨ns, m, e, hz, hx, h⟩ := h
  subst e
  show dLoop (dgN 3) b_lift { nx := fun e => dFreeze 2 (dRet (dUn fTuple (dVar 2))) { nx := fun _ => Q .non, rt := Q } e, rt := Q } (ns.map Nd.d) [some (.dat (ndsT ns)), some (.dat (.int ((m : Nat) : Int))), some (.own []), none, none]
  refine lift_go ns [] _ _ hx (by rw [List.length_nil]; omega) fun e3 e4 => ?_
  exact h
end Fe
set_option Elab.async false
set_option linter.all false
set_option maxRecDepth 100000
set_option maxHeartbeats 4000000
/-! Layer 3: texts: numbers, terms. -/
namespace Fe
open PySem PySem.W PySem.Calls PyProof.Rows L2 TL

/-! ### numbers written -/
abbrev numS (n : Nat) : Str := Str.ofString (toString ((n : Nat) : Int))
theorem numL_first (n : Nat) (h : 0 < n) : ∃ c r, numL n = c :: r ∧ c ≠ 48 := by
  induction n using Nat.strongRecOn with
  | ind n ih =>
    by_cases z : n < 10
    · exact ⟨48 + n, [], numL_lt z, by omega⟩
    · obtain ⟨c, r, e, hc⟩ := ih (n / 10) (by omega) (by omega)
      exact ⟨c, r ++ [48 + n % 10], by rw [numL_step (by omega), e]; rfl, hc⟩
theorem figs : tl ("0123456789" : Str) = [48, 49, 50, 51, 52, 53, 54, 55, 56, 57] := by decide +kernel
theorem dig_in {c : Nat} (h : 48 ≤ c ∧ c ≤ 57) : c ∈ tl ("0123456789" : Str) := by
  rw [figs]
  have : c = 48 ∨ c = 49 ∨ c = 50 ∨ c = 51 ∨ c = 52 ∨ c = 53 ∨ c = 54 ∨ c = 55 ∨ c = 56 ∨ c = 57 := by omega
  rcases this with z | z | z | z | z | z | z | z | z | z <;> subst z <;> decide
theorem ne_tl {x y : Str} (h : tl x ≠ tl y) : (x == y) = false := by
  rw [beq_eq_false_iff_ne]
  intro e
  exact h (by rw [e])
theorem len_numS {n k : Nat} (hk : 0 < k) (h : n < 10 ^ k) : (numS n).length ≤ k := by
  rw [len_tl, tl_num]
  exact numL_len hk h
theorem tl_empty : tl ("" : Str) = [] := by decide +kernel
theorem tl_zero : tl ("0" : Str) = [48] := by decide +kernel
def sp_number_in : DSp := fun cs Q => ∃ n, cs = [.dat (.str (numS n))] ∧ n < 10 ^ 9 ∧ Q (.int (n : Int))
theorem sem_number_in (cs : List Cell) (Q : D → Prop) (hl : cs.length = 1) (h : sp_number_in cs Q) : d_number_in { nx := fun _ => Q .non, rt := Q } (startE N_number_in cs) := by
  obtain ⟨n, e, hn, h⟩ := h
  subst e
  have hlen : (numS n).length ≤ 9 := len_numS (by decide) hn
  have hlen2 : (numS n).length ≤ sizeLine := sz _ (by omega)
  have e1 : (numS n == ("" : Str)) = false := ne_tl (by
    rw [tl_num, tl_empty]
    exact numL_ne n)
  unfold d_number_in
  simp only [startE, List.map_cons, List.map_nil, List.length_cons, List.length_nil, List.replicate, List.cons_append, List.nil_append, List.getElem?_cons_zero, List.getElem?_cons_succ, List.set_cons_zero, List.set_cons_succ, wipeE, dSeq, dRet, dAsg, dAsgO, dPar, dParO, dIfS, dNx, dExpr, dFreeze, dAppend, dPop, dSetI, dFor, dUnT, dUnL, setE, dVar, dC, dBin, dUn, dCall, dA, dAS, dLnil, dLcons, dTup, dTest, dTru, dNot, dAnd, dOr, dAndV, dOrV, dNotT, dIf, dIfT, dChain, dFr, dLc, dYes, dIl, dIt, dIs, dIr, dgN, dgT, dZip, dEnum, itemsD, dSl, dNo, dPart, dIsN, dCat, dRep, dListOf, dStarL, dTruO, dCmpO, dS, fAdd, fSub, fMul, fMod, fDiv, fPow, fLt, fLe, fGt, fGe, fNeg, fEq, fNe, fIsB, fIsNotB, fTru, fLen, fIsi, isTy, fTuple, fAbs, fMax, fMin, fIx, fSl, fNotIn, fNotInK, fFld, fRev, Bool.not_true, Bool.not_false, Bool.false_eq_true, if_true, if_false, ite_true, ite_false, reduceIte, reduceCtorEq, decide_true, decide_false, true_and, and_true, beq_self_eq_true, bne_self_eq_false]
  rw [e1]
  refine lc_map' (f := fun c : Nat => D.str ⟨#[c]⟩) (g := fun _ => D.bl true) (tl (numS n)) _ (fun c hc => ⟨_, rfl, fun R hR => ⟨c, rfl, ?_⟩⟩) (by rw [← len_tl]; exact hlen2) ?_
  · have hd : c ∈ tl ("0123456789" : Str) := dig_in (by
      rw [tl_num] at hc
      exact numL_digits n c hc)
    rw [decide_eq_true hd]
    exact hR
  · refine fAll_of (p := fun _ => true) ?_
    rw [show ((tl (numS n)).all fun _ => true) = true by simp]
    have last : fIntI (.str (numS n)) Q := ⟨(n : Int), int_num (Nat.le_trans (numL_len (k := 9) (by decide) hn) (by decide)), by omega, h⟩
    refine ⟨hlen2, ?_⟩
    by_cases z : n = 0
    · subst z
      exact last
    · obtain ⟨c, r, ec, hc⟩ := numL_first n (by omega)
      have e2 : (numS n).cps.toList = c :: r := by
        have := tl_num n
        rw [ec] at this
        exact this
      rw [e2, at0]
      show (if ((⟨#[c]⟩ : Str) != ("0" : Str)) = true then fIntI (.str (numS n)) Q else _)
      have e3 : ((⟨#[c]⟩ : Str) != ("0" : Str)) = true := by
        rw [bne, ne_tl (by
          rw [tl_zero]
          show [c] ≠ [48]
          intro y
          cases y
          exact hc rfl)]
        rfl
      rw [e3, if_pos rfl]
      exact last
abbrev intS (c : Int) : Str := Str.ofString (toString c)
theorem tl_neg (m : Nat) : tl (intS (Int.negSucc m)) = 45 :: numL (m + 1) := by
  show tl (Str.ofString (toString (Int.negSucc m))) = _
  have e : toString (Int.negSucc m) = "-" ++ toString (m + 1) := rfl
  rw [e, tl_ofString, String.toList_append, List.map_append, ← tl_num, tl_ofString]
  rfl
theorem tl_cut (x : Str) (lo hi : Option Int) : tl (cutS x lo hi) = cutL (tl x) lo hi := by
  unfold cutS cutL
  rw [len_tl]
theorem tl_dash : tl ("-" : Str) = [45] := by decide +kernel
def sp_signed_in : DSp := fun cs Q => ∃ c : Int, cs = [.dat (.str (intS c))] ∧ c.natAbs < 10 ^ 8 ∧ Q (.int c)
theorem sem_signed_in (cs : List Cell) (Q : D → Prop) (hl : cs.length = 1) (h : sp_signed_in cs Q) : d_signed_in sp_number_in { nx := fun _ => Q .non, rt := Q } (startE N_signed_in cs) := by
  obtain ⟨c, e, hc, h⟩ := h
  subst e
  unfold d_signed_in
  cases c with
  | ofNat n =>
    have hn : n < 10 ^ 9 := by
      have : (Int.ofNat n).natAbs = n := rfl
      omega
    have hlen2 : (numS n).length ≤ sizeLine := sz _ (Nat.le_trans (len_numS (k := 9) (by decide) hn) (by decide))
    refine ⟨hlen2, ?_⟩
    have e1 : (cutS (numS n) none (some 1) == ("-" : Str)) = false := ne_tl (by
      rw [tl_cut, tl_num, tl_dash]
      show cutL (numL n) none (some ((1 : Nat) : Int)) ≠ _
      rw [cut_take]
      intro y
      have hm : 45 ∈ (numL n).take 1 := by rw [y]; exact List.mem_singleton.mpr rfl
      have := numL_digits n 45 (List.mem_of_mem_take hm)
      omega)
    show (if (cutS (numS n) none (some 1) != ("-" : Str)) = true then _ else _)
    rw [bne, e1]
    exact ⟨n, rfl, hn, h⟩
  | negSucc m =>
    have hm : m + 1 < 10 ^ 9 := by
      have : (Int.negSucc m).natAbs = m + 1 := rfl
      omega
    have hlen2 : (intS (Int.negSucc m)).length ≤ sizeLine := by
      rw [len_tl, tl_neg, List.length_cons]
      have := numL_len (k := 9) (by decide) hm
      exact sz _ (by omega)
    refine ⟨hlen2, ?_⟩
    have e1 : (cutS (intS (Int.negSucc m)) none (some 1) == ("-" : Str)) = true := by
      rw [beq_iff_eq]
      refine ext_tl ?_
      rw [tl_cut, tl_neg, tl_dash]
      show cutL (45 :: numL (m + 1)) none (some ((1 : Nat) : Int)) = _
      rw [cut_take]
      rfl
    have e2 : cutS (intS (Int.negSucc m)) (some 1) none = numS (m + 1) := by
      refine ext_tl ?_
      rw [tl_cut, tl_neg, tl_num]
      show cutL (45 :: numL (m + 1)) (some ((1 : Nat) : Int)) none = _
      rw [cut_drop]
      rfl
    simp only [startE, List.map_cons, List.map_nil, List.length_cons, List.length_nil, List.replicate, List.cons_append, List.nil_append, List.getElem?_cons_zero, List.getElem?_cons_succ, List.set_cons_zero, List.set_cons_succ, wipeE, dSeq, dRet, dAsg, dAsgO, dPar, dParO, dIfS, dNx, dExpr, dFreeze, dAppend, dPop, dSetI, dFor, dUnT, dUnL, setE, dVar, dC, dBin, dUn, dCall, dA, dAS, dLnil, dLcons, dTup, dTest, dTru, dNot, dAnd, dOr, dAndV, dOrV, dNotT, dIf, dIfT, dChain, dFr, dLc, dYes, dIl, dIt, dIs, dIr, dgN, dgT, dZip, dEnum, itemsD, dSl, dNo, dPart, dIsN, dCat, dRep, dListOf, dStarL, dTruO, dCmpO, dS, fAdd, fSub, fMul, fMod, fDiv, fPow, fLt, fLe, fGt, fGe, fNeg, fEq, fNe, fIsB, fIsNotB, fTru, fLen, fIsi, isTy, fTuple, fAbs, fMax, fMin, fIx, fSl, fNotIn, fNotInK, fFld, fRev, Bool.not_true, Bool.not_false, Bool.false_eq_true, if_true, if_false, ite_true, ite_false, reduceIte, reduceCtorEq, decide_true, decide_false, true_and, and_true, beq_self_eq_true, bne_self_eq_false]
    rw [bne, e1]
    refine ⟨hlen2, m + 1, ?_, hm, ?_⟩
    · rw [e2]
    · have e3 : (((m + 1 : Nat) : Int) == 0) = false := by
        rw [beq_eq_false_iff_ne]
        omega
      show (if (((m + 1 : Nat) : Int) == 0) = true then _ else _)
      rw [e3]
      exact h

/-! ### the first row -/
def headS (kd : Str) (n : Nat) : Str := if n = 1 then "x " ++ kd else "x " ++ kd ++ ", y " ++ kd
theorem sp1w : Txt.split "x whole" ", " = (["x whole"] : List Str) := by decide +kernel
theorem sp2w : Txt.split "x whole, y whole" ", " = (["x whole", "y whole"] : List Str) := by decide +kernel
theorem sp1a : Txt.split "x any" ", " = (["x any"] : List Str) := by decide +kernel
theorem sp2a : Txt.split "x any, y any" ", " = (["x any", "y any"] : List Str) := by decide +kernel
theorem spxw : Txt.split "x whole" " " = (["x", "whole"] : List Str) := by decide +kernel
theorem spyw : Txt.split "y whole" " " = (["y", "whole"] : List Str) := by decide +kernel
theorem spxa : Txt.split "x any" " " = (["x", "any"] : List Str) := by decide +kernel
theorem spya : Txt.split "y any" " " = (["y", "any"] : List Str) := by decide +kernel
theorem tl_xy : tl ("xy" : Str) = [120, 121] := by decide +kernel
theorem xS : (⟨#[120]⟩ : Str) = "x" := by decide +kernel
theorem yS : (⟨#[121]⟩ : Str) = "y" := by decide +kernel
end Fe
set_option Elab.async false
set_option linter.all false
set_option maxRecDepth 100000
set_option maxHeartbeats 4000000
/-! Layer 3: texts: rows. -/
namespace Fe
open PySem PySem.W PySem.Calls PyProof.Rows L2 TL

theorem hd1w : headS "whole" 1 = "x whole" := by decide +kernel
theorem hd2w : headS "whole" 2 = "x whole, y whole" := by decide +kernel
theorem hd1a : headS "any" 1 = "x any" := by decide +kernel
theorem hd2a : headS "any" 2 = "x any, y any" := by decide +kernel
def sp_unknowns_in : DSp := fun cs Q => ∃ (kd : Str) (n : Nat), (kd = "whole" ∨ kd = "any") ∧ (n = 1 ∨ n = 2) ∧ cs = [.dat (.str (headS kd n))] ∧ Q (.tup (List.replicate n (.str kd)))
def b_unk : DS := (dSeq (dAsg 5 (dBin fSplit (dS (dVar 4)) (dC (.str " ")))) (dSeq (dIfS (dOr (dTest (dBin fNe (dUn fLen (dVar 5)) (dC (.int 2)))) (dOr (dTest (dBin fNe (dBin fIx (dVar 5) (dC (.int 0))) (dVar 3))) (dTest (dUn (fNotInK ["whole", "any"]) (dBin fIx (dVar 5) (dC (.int 1))))))) (dRet (dC .non)) dNx) (dAppend 2 (dBin fIx (dVar 5) (dC (.int 1))))))
theorem kd_any {kd : Str} (hk : kd = "whole" ∨ kd = "any") : (["whole", "any"] : List Str).any (· == kd) = true := by
  rcases hk with z | z <;> subst z <;> decide +kernel
theorem unk_step {c : Nat} {w kd : Str} (hs : Txt.split w " " = [⟨#[c]⟩, kd]) (hk : kd = "whole" ∨ kd = "any") (hw : w.length ≤ 100) {acc : List D} (ha : acc.length < 100) {e0 e1 e5 : Option Cell} {Z : DEnds} (q : ∀ e5, Z.nx [e0, e1, some (.own (acc ++ [.str kd])), some (.dat (.str ⟨#[c]⟩)), some (.dat (.str w)), e5]) :
    b_unk Z [e0, e1, some (.own acc), some (.dat (.str ⟨#[c]⟩)), some (.dat (.str w)), e5] := by
  unfold b_unk
  simp only [startE, List.map_cons, List.map_nil, List.length_cons, List.length_nil, List.replicate, List.cons_append, List.nil_append, List.getElem?_cons_zero, List.getElem?_cons_succ, List.set_cons_zero, List.set_cons_succ, wipeE, dSeq, dRet, dAsg, dAsgO, dPar, dParO, dIfS, dNx, dExpr, dFreeze, dAppend, dPop, dSetI, dFor, dUnT, dUnL, setE, dVar, dC, dBin, dUn, dCall, dA, dAS, dLnil, dLcons, dTup, dTest, dTru, dNot, dAnd, dOr, dAndV, dOrV, dNotT, dIf, dIfT, dChain, dFr, dLc, dYes, dIl, dIt, dIs, dIr, dgN, dgT, dZip, dEnum, itemsD, dSl, dNo, dPart, dIsN, dCat, dRep, dListOf, dStarL, dTruO, dCmpO, dS, fAdd, fSub, fMul, fMod, fDiv, fPow, fLt, fLe, fGt, fGe, fNeg, fEq, fNe, fIsB, fIsNotB, fTru, fLen, fIsi, isTy, fTuple, fAbs, fMax, fMin, fIx, fSl, fNotIn, fNotInK, fFld, fRev, Bool.not_true, Bool.not_false, Bool.false_eq_true, if_true, if_false, ite_true, ite_false, reduceIte, reduceCtorEq, decide_true, decide_false, true_and, and_true, beq_self_eq_true, bne_self_eq_false, fSplit, hs, at0, at1]
  refine ⟨by decide +kernel, by rw [sizeLine_eq]; omega, ?_⟩
  have e1 : (((0 + 1 + 1 : Nat) : Int) != 2) = false := by decide
  rw [kd_any hk]
  simp only [startE, List.map_cons, List.map_nil, List.length_cons, List.length_nil, List.replicate, List.cons_append, List.nil_append, List.getElem?_cons_zero, List.getElem?_cons_succ, List.set_cons_zero, List.set_cons_succ, wipeE, dSeq, dRet, dAsg, dAsgO, dPar, dParO, dIfS, dNx, dExpr, dFreeze, dAppend, dPop, dSetI, dFor, dUnT, dUnL, setE, dVar, dC, dBin, dUn, dCall, dA, dAS, dLnil, dLcons, dTup, dTest, dTru, dNot, dAnd, dOr, dAndV, dOrV, dNotT, dIf, dIfT, dChain, dFr, dLc, dYes, dIl, dIt, dIs, dIr, dgN, dgT, dZip, dEnum, itemsD, dSl, dNo, dPart, dIsN, dCat, dRep, dListOf, dStarL, dTruO, dCmpO, dS, fAdd, fSub, fMul, fMod, fDiv, fPow, fLt, fLe, fGt, fGe, fNeg, fEq, fNe, fIsB, fIsNotB, fTru, fLen, fIsi, isTy, fTuple, fAbs, fMax, fMin, fIx, fSl, fNotIn, fNotInK, fFld, fRev, Bool.not_true, Bool.not_false, Bool.false_eq_true, if_true, if_false, ite_true, ite_false, reduceIte, reduceCtorEq, decide_true, decide_false, true_and, and_true, beq_self_eq_true, bne_self_eq_false, e1, dAppend, at1]
  exact ⟨sz _ (by omega), q _⟩
theorem unk1 {kd : Str} {Q : D → Prop} (hk : kd = "whole" ∨ kd = "any") (h1 : Txt.split (headS kd 1) ", " = ["x " ++ kd]) (hx : Txt.split ("x " ++ kd) " " = [⟨#[120]⟩, kd]) (l1 : (headS kd 1).length ≤ 100) (l2 : ("x " ++ kd : Str).length ≤ 100) (h : Q (.tup (List.replicate 1 (.str kd)))) :
    d_unknowns_in { nx := fun _ => Q .non, rt := Q } (startE N_unknowns_in [.dat (.str (headS kd 1))]) := by
  unfold d_unknowns_in
  simp only [startE, List.map_cons, List.map_nil, List.length_cons, List.length_nil, List.replicate, List.cons_append, List.nil_append, List.getElem?_cons_zero, List.getElem?_cons_succ, List.set_cons_zero, List.set_cons_succ, wipeE, dSeq, dRet, dAsg, dAsgO, dPar, dParO, dIfS, dNx, dExpr, dFreeze, dAppend, dPop, dSetI, dFor, dUnT, dUnL, setE, dVar, dC, dBin, dUn, dCall, dA, dAS, dLnil, dLcons, dTup, dTest, dTru, dNot, dAnd, dOr, dAndV, dOrV, dNotT, dIf, dIfT, dChain, dFr, dLc, dYes, dIl, dIt, dIs, dIr, dgN, dgT, dZip, dEnum, itemsD, dSl, dNo, dPart, dIsN, dCat, dRep, dListOf, dStarL, dTruO, dCmpO, dS, fAdd, fSub, fMul, fMod, fDiv, fPow, fLt, fLe, fGt, fGe, fNeg, fEq, fNe, fIsB, fIsNotB, fTru, fLen, fIsi, isTy, fTuple, fAbs, fMax, fMin, fIx, fSl, fNotIn, fNotInK, fFld, fRev, Bool.not_true, Bool.not_false, Bool.false_eq_true, if_true, if_false, ite_true, ite_false, reduceIte, reduceCtorEq, decide_true, decide_false, true_and, and_true, beq_self_eq_true, bne_self_eq_false, fSplit, h1]
  refine ⟨by decide +kernel, by rw [sizeLine_eq]; omega, ?_⟩
  rw [show decide ((1 : Int) ≤ ((0 + 1 : Nat) : Int)) = true by decide]
  refine ⟨by decide +kernel, ?_⟩
  rw [show decide (((0 + 1 : Nat) : Int) ≤ (("xy" : Str).length : Int)) = true by decide +kernel]
  rw [show ("xy" : Str).cps.toList = [120, 121] from tl_xy]
  show b_unk { nx := fun e => dLoop (dgT 3 4) b_unk _ [] e, rt := Q, bk := _, ct := _ } [some (.dat (.str (headS kd 1))), some (.dat (.lst [.str ("x " ++ kd)])), some (.own []), some (.dat (.str ⟨#[120]⟩)), some (.dat (.str ("x " ++ kd))), none]
  refine unk_step hx hk l2 (by decide) fun e5 => ?_
  exact h
theorem unk2 {kd : Str} {Q : D → Prop} (hk : kd = "whole" ∨ kd = "any") (h1 : Txt.split (headS kd 2) ", " = ["x " ++ kd, "y " ++ kd]) (hx : Txt.split ("x " ++ kd) " " = [⟨#[120]⟩, kd]) (hy : Txt.split ("y " ++ kd) " " = [⟨#[121]⟩, kd]) (l1 : (headS kd 2).length ≤ 100) (l2 : ("x " ++ kd : Str).length ≤ 100) (l3 : ("y " ++ kd : Str).length ≤ 100)
    (h : Q (.tup (List.replicate 2 (.str kd)))) : d_unknowns_in { nx := fun _ => Q .non, rt := Q } (startE N_unknowns_in [.dat (.str (headS kd 2))]) := by
  unfold d_unknowns_in
  simp only [startE, List.map_cons, List.map_nil, List.length_cons, List.length_nil, List.replicate, List.cons_append, List.nil_append, List.getElem?_cons_zero, List.getElem?_cons_succ, List.set_cons_zero, List.set_cons_succ, wipeE, dSeq, dRet, dAsg, dAsgO, dPar, dParO, dIfS, dNx, dExpr, dFreeze, dAppend, dPop, dSetI, dFor, dUnT, dUnL, setE, dVar, dC, dBin, dUn, dCall, dA, dAS, dLnil, dLcons, dTup, dTest, dTru, dNot, dAnd, dOr, dAndV, dOrV, dNotT, dIf, dIfT, dChain, dFr, dLc, dYes, dIl, dIt, dIs, dIr, dgN, dgT, dZip, dEnum, itemsD, dSl, dNo, dPart, dIsN, dCat, dRep, dListOf, dStarL, dTruO, dCmpO, dS, fAdd, fSub, fMul, fMod, fDiv, fPow, fLt, fLe, fGt, fGe, fNeg, fEq, fNe, fIsB, fIsNotB, fTru, fLen, fIsi, isTy, fTuple, fAbs, fMax, fMin, fIx, fSl, fNotIn, fNotInK, fFld, fRev, Bool.not_true, Bool.not_false, Bool.false_eq_true, if_true, if_false, ite_true, ite_false, reduceIte, reduceCtorEq, decide_true, decide_false, true_and, and_true, beq_self_eq_true, bne_self_eq_false, fSplit, h1]
  refine ⟨by decide +kernel, by rw [sizeLine_eq]; omega, ?_⟩
  rw [show decide ((1 : Int) ≤ ((0 + 1 + 1 : Nat) : Int)) = true by decide]
  refine ⟨by decide +kernel, ?_⟩
  rw [show decide (((0 + 1 + 1 : Nat) : Int) ≤ (("xy" : Str).length : Int)) = true by decide +kernel]
  rw [show ("xy" : Str).cps.toList = [120, 121] from tl_xy]
  show b_unk { nx := fun e => dLoop (dgT 3 4) b_unk _ [.tup [.str ⟨#[121]⟩, .str ("y " ++ kd)]] e, rt := Q, bk := _, ct := _ } [some (.dat (.str (headS kd 2))), some (.dat (.lst [.str ("x " ++ kd), .str ("y " ++ kd)])), some (.own []), some (.dat (.str ⟨#[120]⟩)), some (.dat (.str ("x " ++ kd))), none]
  refine unk_step hx hk l2 (by decide) fun e5 => ?_
  show b_unk { nx := fun e => dLoop (dgT 3 4) b_unk _ [] e, rt := Q, bk := _, ct := _ } [some (.dat (.str (headS kd 2))), some (.dat (.lst [.str ("x " ++ kd), .str ("y " ++ kd)])), some (.own [.str kd]), some (.dat (.str ⟨#[121]⟩)), some (.dat (.str ("y " ++ kd))), e5]
  refine unk_step hy hk l3 (by show 1 < 100; decide) fun e5 => ?_
  exact h
theorem sem_unknowns_in (cs : List Cell) (Q : D → Prop) (hl : cs.length = 1) (h : sp_unknowns_in cs Q) : d_unknowns_in { nx := fun _ => Q .non, rt := Q } (startE N_unknowns_in cs) := by
  obtain ⟨kd, n, hk, hn, e, h⟩ := h
  subst e
  rcases hn with y | y <;> subst y
  · refine unk1 hk ?_ ?_ ?_ ?_ h <;> rcases hk with z | z <;> subst z <;> decide +kernel
  · refine unk2 hk ?_ ?_ ?_ ?_ ?_ ?_ h <;> rcases hk with z | z <;> subst z <;> decide +kernel
/-! ### terms -/
def lx (i : Nat) : Str := if i = 0 then "x" else "y"
def termS (s : Nat) (l : Str) : Str := if s = 1 then l else Str.join "*" [numS s, l]
theorem tl_star : tl ("*" : Str) = [42] := by decide +kernel
theorem tl_lx (i : Nat) : tl (lx i) = [if i = 0 then 120 else 121] := by
  unfold lx
  split <;> decide +kernel
theorem lx_free {i c : Nat} (h : c ≠ 120) (h' : c ≠ 121) : c ∉ tl (lx i) := by
  rw [tl_lx]
  intro hm
  have := List.mem_singleton.mp hm
  split at this
  · exact h this
  · exact h' this
theorem num_free {n c : Nat} (h : c < 48 ∨ 57 < c) : c ∉ tl (numS n) := by
  rw [tl_num]
  exact numL_free h
theorem term_split {s i : Nat} : Txt.split (termS s (lx i)) "*" = if s = 1 then [lx i] else [numS s, lx i] := by
  unfold termS
  by_cases z : s = 1
  · rw [if_pos z, if_pos z]
    have := split_join (y := "*") (s := 42) (S := []) tl_star (by decide +kernel) (parts := [lx i]) (by simp) (fun p hp => by
      rw [List.mem_singleton.mp hp]
      exact lx_free (by decide) (by decide))
    rw [join_eq] at this
    exact this
  · rw [if_neg z, if_neg z]
    have := split_join (y := "*") (s := 42) (S := []) tl_star (by decide +kernel) (parts := [numS s, lx i]) (by simp) (fun p hp => by
      rcases List.mem_cons.mp hp with y | y
      · rw [y]
        exact num_free (by decide)
      · rw [List.mem_singleton.mp y]
        exact lx_free (by decide) (by decide))
    rw [join_eq] at this
    exact this
theorem term_len {s i : Nat} (h : s ≤ 99) : (termS s (lx i)).length ≤ 4 := by
  unfold termS
  have l1 : (tl (lx i)).length = 1 := by rw [tl_lx]; rfl
  split
  · rw [len_tl, l1]
    decide
  · rw [len_tl, tl_join]
    show (tl (numS s) ++ (tl ("*" : Str) ++ tl (lx i))).length ≤ 4
    rw [List.length_append, List.length_append, tl_star, l1, tl_num]
    have := numL_len (n := s) (k := 2) (by decide) (by omega)
    show _ + (1 + 1) ≤ 4
    omega
theorem lx_in (i : Nat) : (["x", "y"] : List Str).any (· == lx i) = true := by
  unfold lx
  split <;> decide +kernel
theorem lx_at {i : Nat} (h : i = 0 ∨ i = 1) : ∃ r, Builtin.Str.occurrences "xy" (lx i) 0 ("xy" : Str).length 1 = i :: r := by
  rcases h with z | z <;> subst z
  · exact ⟨[], by decide +kernel⟩
  · exact ⟨[], by decide +kernel⟩
def sp_term_in : DSp := fun cs Q => ∃ s i : Nat, 1 ≤ s ∧ s ≤ 99 ∧ (i = 0 ∨ i = 1) ∧ cs = [.dat (.str (termS s (lx i)))] ∧ Q (.tup [.int (s : Int), .int (i : Int)])
theorem at_1 {α : Type} {x : α} : L2.atI [x] (-1 : Int) = some x := rfl
theorem at_2 {α : Type} {x y : α} : L2.atI [x, y] (-1 : Int) = some y := rfl
theorem sem_term_in (cs : List Cell) (Q : D → Prop) (hl : cs.length = 1) (h : sp_term_in cs Q) : d_term_in sp_number_in { nx := fun _ => Q .non, rt := Q } (startE N_term_in cs) := by
  obtain ⟨s, i, s1, s2, hi, e, h⟩ := h
  subst e
  have ln : (termS s (lx i)).length + 2 ≤ sizeLine := by
    have := term_len (i := i) s2
    rw [sizeLine_eq]
    omega
  obtain ⟨r, hr⟩ := lx_at hi
  unfold d_term_in
  by_cases z : s = 1
  · subst z
    have hs : Txt.split (termS 1 (lx i)) "*" = [lx i] := by rw [term_split, if_pos rfl]
    refine ⟨by decide +kernel, ln, ?_⟩
    rw [hs]
    show (if (!(["x", "y"] : List Str).any (· == lx i)) = true then _ else _)
    rw [lx_in]
    refine ⟨i, r, hr, ?_⟩
    exact h
  · have hs : Txt.split (termS s (lx i)) "*" = [numS s, lx i] := by rw [term_split, if_neg z]
    refine ⟨by decide +kernel, ln, ?_⟩
    rw [hs]
    show (if (!(["x", "y"] : List Str).any (· == lx i)) = true then _ else _)
    rw [lx_in]
    refine ⟨s, rfl, by omega, ?_⟩
    simp only [at_2, startE, List.map_cons, List.map_nil, List.length_cons, List.length_nil, List.replicate, List.cons_append, List.nil_append, List.getElem?_cons_zero, List.getElem?_cons_succ, List.set_cons_zero, List.set_cons_succ, wipeE, dSeq, dRet, dAsg, dAsgO, dPar, dParO, dIfS, dNx, dExpr, dFreeze, dAppend, dPop, dSetI, dFor, dUnT, dUnL, setE, dVar, dC, dBin, dUn, dCall, dA, dAS, dLnil, dLcons, dTup, dTest, dTru, dNot, dAnd, dOr, dAndV, dOrV, dNotT, dIf, dIfT, dChain, dFr, dLc, dYes, dIl, dIt, dIs, dIr, dgN, dgT, dZip, dEnum, itemsD, dSl, dNo, dPart, dIsN, dCat, dRep, dListOf, dStarL, dTruO, dCmpO, dS, fAdd, fSub, fMul, fMod, fDiv, fPow, fLt, fLe, fGt, fGe, fNeg, fEq, fNe, fIsB, fIsNotB, fTru, fLen, fIsi, isTy, fTuple, fAbs, fMax, fMin, fIx, fSl, fNotIn, fNotInK, fFld, fRev, Bool.not_true, Bool.not_false, Bool.false_eq_true, if_true, if_false, ite_true, ite_false, reduceIte, reduceCtorEq, decide_true, decide_false, true_and, and_true, beq_self_eq_true, bne_self_eq_false]
    rw [decide_eq_true (show (2 : Int) ≤ (s : Int) by omega)]
    simp only [at_2, startE, List.map_cons, List.map_nil, List.length_cons, List.length_nil, List.replicate, List.cons_append, List.nil_append, List.getElem?_cons_zero, List.getElem?_cons_succ, List.set_cons_zero, List.set_cons_succ, wipeE, dSeq, dRet, dAsg, dAsgO, dPar, dParO, dIfS, dNx, dExpr, dFreeze, dAppend, dPop, dSetI, dFor, dUnT, dUnL, setE, dVar, dC, dBin, dUn, dCall, dA, dAS, dLnil, dLcons, dTup, dTest, dTru, dNot, dAnd, dOr, dAndV, dOrV, dNotT, dIf, dIfT, dChain, dFr, dLc, dYes, dIl, dIt, dIs, dIr, dgN, dgT, dZip, dEnum, itemsD, dSl, dNo, dPart, dIsN, dCat, dRep, dListOf, dStarL, dTruO, dCmpO, dS, fAdd, fSub, fMul, fMod, fDiv, fPow, fLt, fLe, fGt, fGe, fNeg, fEq, fNe, fIsB, fIsNotB, fTru, fLen, fIsi, isTy, fTuple, fAbs, fMax, fMin, fIx, fSl, fNotIn, fNotInK, fFld, fRev, Bool.not_true, Bool.not_false, Bool.false_eq_true, if_true, if_false, ite_true, ite_false, reduceIte, reduceCtorEq, decide_true, decide_false, true_and, and_true, beq_self_eq_true, bne_self_eq_false]
    rw [decide_eq_true (show (s : Int) ≤ 99 by omega)]
    refine ⟨i, r, hr, ?_⟩
    exact h
end Fe
set_option Elab.async false
set_option linter.all false
set_option maxRecDepth 100000
set_option maxHeartbeats 4000000
/-! Layer 3: texts: sums, inequalities. -/
namespace Fe
open PySem PySem.W PySem.Calls PyProof.Rows L2 TL

def fw (s : Int) (i : Nat) : Str := if s < 0 then "-" ++ termS s.natAbs (lx i) else termS s.natAbs (lx i)
theorem term_tl {s i : Nat} : ∃ c r, tl (termS s (lx i)) = c :: r ∧ c ≠ 45 := by
  unfold termS
  split
  · rw [tl_lx]
    refine ⟨_, [], rfl, ?_⟩
    split <;> decide
  · rw [tl_join]
    obtain ⟨c, r, e⟩ := List.exists_cons_of_ne_nil (numL_ne s)
    refine ⟨c, r ++ (tl ("*" : Str) ++ tl (lx i)), ?_, ?_⟩
    · show tl (numS s) ++ (tl ("*" : Str) ++ tl (lx i)) = _
      rw [tl_num, e]
      rfl
    · have := numL_digits s c (by rw [e]; exact List.mem_cons_self)
      omega
theorem fw_less (s : Int) (i : Nat) : (cutS (fw s i) none (some 1) == ("-" : Str)) = decide (s < 0) := by
  unfold fw
  by_cases z : s < 0
  · rw [if_pos z, decide_eq_true z, beq_iff_eq]
    refine ext_tl ?_
    rw [tl_cut, tl_append, tl_dash]
    show cutL ([45] ++ _) none (some ((1 : Nat) : Int)) = _
    rw [cut_take]
    rfl
  · rw [if_neg z, decide_eq_false z]
    refine ne_tl ?_
    obtain ⟨c, r, e, hc⟩ := term_tl (s := s.natAbs) (i := i)
    rw [tl_cut, e, tl_dash]
    show cutL (c :: r) none (some ((1 : Nat) : Int)) ≠ _
    rw [cut_take]
    intro y
    cases y
    exact hc rfl
theorem fw_cut {s : Int} {i : Nat} (z : s < 0) : cutS (fw s i) (some 1) none = termS s.natAbs (lx i) := by
  unfold fw
  rw [if_pos z]
  refine ext_tl ?_
  rw [tl_cut, tl_append, tl_dash]
  show cutL ([45] ++ _) (some ((1 : Nat) : Int)) none = _
  rw [cut_drop]
  rfl
theorem fw_len {s : Int} {i : Nat} (h : s.natAbs ≤ 99) : (fw s i).length ≤ 5 := by
  unfold fw
  have := term_len (i := i) h
  split
  · rw [len_tl, tl_append, tl_dash, List.length_append, ← len_tl]
    show 1 + _ ≤ 5
    omega
  · omega
def l_sum : DS := (dSeq (dFor (dZip (dVar 4) (dVar 3)) (dgT 6 7) (dSetI 5 (dBin fIx (dVar 7) (dC (.int 1))) (dBin fMul (dVar 6) (dBin fIx (dVar 7) (dC (.int 0)))))) (dFreeze 5 (dRet (dUn fTuple (dVar 5)))))
def m_sum : DS := (dSeq (dIfS (dAnd (dTest (dBin fEq (dUn fLen (dVar 3)) (dC (.int 2)))) (dTest (dBin fNeD (dTup (dLcons (dBin fIx (dBin fIx (dVar 3) (dC (.int 0))) (dC (.int 1))) (dLcons (dBin fIx (dBin fIx (dVar 3) (dC (.int 1))) (dC (.int 1))) dLnil))) (dTup (dLcons (dC (.int 0)) (dLcons (dC (.int 1)) dLnil)))))) (dRet (dC .non)) dNx) (dSeq (dAsgO 5 (dRep (dLcons (dC (.int 0)) dLnil) (dVar 1))) (dFreeze 4 l_sum)))
def z_sum : DS := (dFreeze 3 (dSeq (dIfS (dOr (dTest (dBin fInD (dC .non) (dVar 3))) (dNot (dTru (dUn fAll (dFr (dLc (dIl (dVar 3)) (dgT 8 9) dYes (dBin fLt (dVar 9) (dVar 1)) [8, 9])))))) (dRet (dC .non)) dNx) m_sum))
def y_sum : DS := (dIfS (dTest (dBin fEq (dUn fLen (dVar 0)) (dC (.int 3)))) (dSeq (dIfS (dTest (dBin fNotIn (dBin fIx (dVar 0) (dC (.int 1))) (dTup (dLcons (dC (.str "+")) (dLcons (dC (.str "-")) dLnil))))) (dRet (dC .non)) dNx) (dSeq (dAppend 3 (dCall sp_term_in (dA (dLcons (dBin fIx (dVar 0) (dC (.int 2))) dLnil)))) (dAppend 4 (dIf (dTest (dBin fEq (dBin fIx (dVar 0) (dC (.int 1))) (dC (.str "+")))) (dC (.int 1)) (dUn fNeg (dC (.int 1))))))) dNx)
def t_sum : DS := (dSeq (dAsgO 3 (dLcons (dCall sp_term_in (dA (dLcons (dIf (dTru (dVar 2)) (dSl (dBin fIx (dVar 0) (dC (.int 0))) (dPart (dC (.int 1))) dNo) (dBin fIx (dVar 0) (dC (.int 0)))) dLnil))) dLnil)) (dSeq (dAsgO 4 (dLcons (dIf (dTru (dVar 2)) (dUn fNeg (dC (.int 1))) (dC (.int 1))) dLnil)) (dSeq y_sum z_sum)))
abbrev tm (s i : Nat) : D := .tup [.int (s : Int), .int (i : Int)]
theorem tm_shp {k s i : Nat} : shp (k + 1) (tm s i) := shp_tup fun y hy => by
  rcases List.mem_cons.mp hy with z | z
  · rw [z]
    exact shp_int
  · rw [List.mem_singleton.mp z]
    exact shp_int
theorem tm_non (s i : Nat) : PyData.eqv (py (tm s i)) (py .non) = false := by
  unfold py
  rw [PyData.eqv]
theorem ixn {n i : Nat} (h : i < n) : ixN n ((i : Nat) : Int) = some i := by
  unfold ixN
  rw [if_pos (by omega), if_pos (by omega), Int.toNat_natCast]
theorem setI_at {i : Nat} {di de : DE} {Z : DEnds} {en : En} {ds : List D} {d : D} {j : Nat} (h : en[i]? = some (some (.own ds))) (hd : ∀ R : D → Prop, R d → de en R) (hi : ∀ R : D → Prop, R (.int ((j : Nat) : Int)) → di en R) (hj : j < ds.length) (q : Z.nx (en.set i (some (.own (ds.set j d))))) : dSetI i di de Z en := by
  unfold dSetI
  rw [h]
  refine hd _ (hi _ ?_)
  simp only [ixn hj]
  exact q
theorem z1 {n i m : Nat} {sg : Int} {Q : D → Prop} {e0 e2 e5 e6 e7 e8 e9 : Option Cell} (hn : n ≤ 2) (hi : i < n) (hm : MulOk sg (m : Int)) (h : Q (.tup ((List.replicate n (D.int 0)).set i (.int (sg * (m : Int)))))) :
    z_sum { nx := fun _ => Q .non, rt := Q } [e0, some (.dat (.int ((n : Nat) : Int))), e2, some (.own [tm m i]), some (.own [.int sg]), e5, e6, e7, e8, e9] := by
  unfold z_sum
  refine ⟨shp_of (k := 0) shp_non (by decide), shp_of (k := 2) (shp_lst fun x hx => ?_) (by decide), ?_⟩
  · rw [List.mem_singleton.mp hx]
    exact tm_shp
  · show (if ([py (tm m i)].any fun z => PyData.eqv z (py .non)) = true then _ else _)
    rw [List.any_cons, tm_non]
    refine ⟨by decide, ?_⟩
    show (if (!([decide ((i : Int) < (n : Int))].all id)) = true then Q .non else m_sum { nx := fun _ => Q .non, rt := Q } [e0, some (.dat (.int ((n : Nat) : Int))), e2, some (.dat (.lst [tm m i])), some (.own [.int sg]), e5, e6, e7, e8, e9])
    rw [decide_eq_true (show (i : Int) < (n : Int) by omega)]
    show m_sum _ _
    unfold m_sum
    refine ⟨⟨by omega, by omega, sz _ (by omega)⟩, ?_⟩
    show l_sum { nx := fun _ => Q .non, rt := Q } [e0, some (.dat (.int ((n : Nat) : Int))), e2, some (.dat (.lst [tm m i])), some (.dat (.lst [.int sg])), some (.own (List.replicate n (D.int 0))), e6, e7, e8, e9]
    unfold l_sum
    show dSetI 5 (dBin fIx (dVar 7) (dC (.int 1))) (dBin fMul (dVar 6) (dBin fIx (dVar 7) (dC (.int 0)))) _ [e0, some (.dat (.int ((n : Nat) : Int))), e2, some (.dat (.lst [tm m i])), some (.dat (.lst [.int sg])), some (.own (List.replicate n (D.int 0))), some (.dat (.int sg)), some (.dat (tm m i)), e8, e9]
    refine setI_at (ds := List.replicate n (D.int 0)) (d := .int (sg * (m : Int))) (j := i) rfl (fun R hR => ⟨hm, hR⟩) (fun R hR => hR) (by rw [List.length_replicate]; exact hi) ?_
    exact h
theorem z2 {m1 m2 : Nat} {s1 s2 : Int} {Q : D → Prop} {e0 e2 e5 e6 e7 e8 e9 : Option Cell} (h1 : MulOk s1 (m1 : Int)) (h2 : MulOk s2 (m2 : Int)) (h : Q (.tup [.int (s1 * (m1 : Int)), .int (s2 * (m2 : Int))])) :
    z_sum { nx := fun _ => Q .non, rt := Q } [e0, some (.dat (.int 2)), e2, some (.own [tm m1 0, tm m2 1]), some (.own [.int s1, .int s2]), e5, e6, e7, e8, e9] := by
  unfold z_sum
  refine ⟨shp_of (k := 0) shp_non (by decide), shp_of (k := 2) (shp_lst fun x hx => ?_) (by decide), ?_⟩
  · rcases List.mem_cons.mp hx with z | z
    · rw [z]
      exact tm_shp
    · rw [List.mem_singleton.mp z]
      exact tm_shp
  · show (if ([py (tm m1 0), py (tm m2 1)].any fun z => PyData.eqv z (py .non)) = true then _ else _)
    rw [List.any_cons, List.any_cons, tm_non, tm_non]
    refine ⟨by decide, by decide, ?_⟩
    show m_sum { nx := fun _ => Q .non, rt := Q } [e0, some (.dat (.int 2)), e2, some (.dat (.lst [tm m1 0, tm m2 1])), some (.own [.int s1, .int s2]), e5, e6, e7, e8, e9]
    unfold m_sum
    refine ⟨shp_of (k := 1) (tm_shp (s := 0) (i := 1)) (by decide), shp_of (k := 1) (tm_shp (s := 0) (i := 1)) (by decide), ?_⟩
    have e1 : PyData.eqv (py (.tup [.int ((0 : Nat) : Int), .int ((1 : Nat) : Int)])) (py (.tup [.int 0, .int 1])) = true := by decide +kernel
    show (if (!PyData.eqv (py (.tup [.int ((0 : Nat) : Int), .int ((1 : Nat) : Int)])) (py (.tup [.int 0, .int 1]))) = true then _ else _)
    rw [e1]
    refine ⟨⟨by decide, by decide, sz _ (by decide)⟩, ?_⟩
    show l_sum { nx := fun _ => Q .non, rt := Q } [e0, some (.dat (.int 2)), e2, some (.dat (.lst [tm m1 0, tm m2 1])), some (.dat (.lst [.int s1, .int s2])), some (.own [.int 0, .int 0]), e6, e7, e8, e9]
    unfold l_sum
    refine ⟨h1, ?_⟩
    refine ⟨h2, ?_⟩
    exact h
/-- one word -/
theorem sum1 {n i : Nat} {s : Int} {Q : D → Prop} (hn : n ≤ 2) (hi : i < n) (s0 : s ≠ 0) (s1 : s.natAbs ≤ 99) (h : Q (.tup ((List.replicate n (D.int 0)).set i (.int s)))) :
    d_sum_in sp_term_in { nx := fun _ => Q .non, rt := Q } (startE N_sum_in [.dat (.lst [.str (fw s i)]), .dat (.int ((n : Nat) : Int))]) := by
  have hi2 : i = 0 ∨ i = 1 := by omega
  have lw : (fw s i).length ≤ sizeLine := sz _ (Nat.le_trans (fw_len s1) (by decide))
  have ha : 1 ≤ s.natAbs := by omega
  unfold d_sum_in
  refine ⟨lw, ?_⟩
  show t_sum { nx := fun _ => Q .non, rt := Q } [some (.dat (.lst [.str (fw s i)])), some (.dat (.int ((n : Nat) : Int))), some (.dat (.bl (cutS (fw s i) none (some 1) == ("-" : Str)))), none, none, none, none, none, none, none]
  rw [fw_less]
  unfold t_sum
  by_cases z : s < 0
  · rw [decide_eq_true z]
    refine ⟨lw, ?_⟩
    refine ⟨s.natAbs, i, ha, s1, hi2, by rw [fw_cut z]; rfl, ?_⟩
    exact z1 (sg := -1) (m := s.natAbs) hn hi (.inr (by decide)) (by rw [show -1 * (s.natAbs : Int) = s by omega]; exact h)
  · rw [decide_eq_false z]
    refine ⟨s.natAbs, i, ha, s1, hi2, by unfold fw; rw [if_neg z]; rfl, ?_⟩
    exact z1 (sg := 1) (m := s.natAbs) hn hi (.inr (by decide)) (by rw [show 1 * (s.natAbs : Int) = s by omega]; exact h)
/-- three words -/
def opS (b : Int) : Str := if b < 0 then "-" else "+"
theorem sum3 {a b : Int} {Q : D → Prop} (a0 : a ≠ 0) (a1 : a.natAbs ≤ 99) (b0 : b ≠ 0) (b1 : b.natAbs ≤ 99) (h : Q (tI [a, b])) :
    d_sum_in sp_term_in { nx := fun _ => Q .non, rt := Q } (startE N_sum_in [.dat (.lst [.str (fw a 0), .str (opS b), .str (termS b.natAbs (lx 1))]), .dat (.int 2)]) := by
  have lw : (fw a 0).length ≤ sizeLine := sz _ (Nat.le_trans (fw_len a1) (by decide))
  have ha : 1 ≤ a.natAbs := by omega
  have hb : 1 ≤ b.natAbs := by omega
  unfold d_sum_in
  refine ⟨lw, ?_⟩
  show t_sum { nx := fun _ => Q .non, rt := Q } [some (.dat (.lst [.str (fw a 0), .str (opS b), .str (termS b.natAbs (lx 1))])), some (.dat (.int 2)), some (.dat (.bl (cutS (fw a 0) none (some 1) == ("-" : Str)))), none, none, none, none, none, none, none]
  rw [fw_less]
  unfold t_sum
  have fin : ∀ (c : Bool) (sa : Int), sa * (a.natAbs : Int) = a → (sa = 1 ∨ sa = -1) → y_sum { nx := fun e => z_sum { nx := fun _ => Q .non, rt := Q } e, rt := Q } [some (.dat (.lst [.str (fw a 0), .str (opS b), .str (termS b.natAbs (lx 1))])), some (.dat (.int 2)), some (.dat (.bl c)), some (.own [tm a.natAbs 0]), some (.own [.int sa]), none, none, none, none, none] := by
    intro c sa e1 e2
    have hs : MulOk sa (a.natAbs : Int) := .inr (by rcases e2 with z | z <;> subst z <;> decide)
    unfold y_sum
    by_cases z : b < 0
    · have eo : opS b = "-" := by unfold opS; rw [if_pos z]
      rw [eo]
      show (if (!(["+", "-"] : List Str).any (· == ("-" : Str))) = true then Q .non else _)
      rw [show (["+", "-"] : List Str).any (· == ("-" : Str)) = true by decide +kernel]
      refine ⟨b.natAbs, 1, hb, b1, .inr rfl, rfl, sz 2 (by decide), ?_⟩
      simp only [dAppend, at1, startE, List.map_cons, List.map_nil, List.length_cons, List.length_nil, List.replicate, List.cons_append, List.nil_append, List.getElem?_cons_zero, List.getElem?_cons_succ, List.set_cons_zero, List.set_cons_succ, wipeE, dSeq, dRet, dAsg, dAsgO, dPar, dParO, dIfS, dNx, dExpr, dFreeze, dAppend, dPop, dSetI, dFor, dUnT, dUnL, setE, dVar, dC, dBin, dUn, dCall, dA, dAS, dLnil, dLcons, dTup, dTest, dTru, dNot, dAnd, dOr, dAndV, dOrV, dNotT, dIf, dIfT, dChain, dFr, dLc, dYes, dIl, dIt, dIs, dIr, dgN, dgT, dZip, dEnum, itemsD, dSl, dNo, dPart, dIsN, dCat, dRep, dListOf, dStarL, dTruO, dCmpO, dS, fAdd, fSub, fMul, fMod, fDiv, fPow, fLt, fLe, fGt, fGe, fNeg, fEq, fNe, fIsB, fIsNotB, fTru, fLen, fIsi, isTy, fTuple, fAbs, fMax, fMin, fIx, fSl, fNotIn, fNotInK, fFld, fRev, Bool.not_true, Bool.not_false, Bool.false_eq_true, if_true, if_false, ite_true, ite_false, reduceIte, reduceCtorEq, decide_true, decide_false, true_and, and_true, beq_self_eq_true, bne_self_eq_false]
      rw [show (("-" : Str) == ("+" : Str)) = false by decide +kernel]
      refine ⟨sz 2 (by decide), ?_⟩
      refine z2 (m1 := a.natAbs) (m2 := b.natAbs) (s1 := sa) (s2 := -1) hs (.inr (by decide)) ?_
      rw [e1, show -1 * (b.natAbs : Int) = b by omega]
      exact h
    · have eo : opS b = "+" := by unfold opS; rw [if_neg z]
      rw [eo]
      show (if (!(["+", "-"] : List Str).any (· == ("+" : Str))) = true then Q .non else _)
      rw [show (["+", "-"] : List Str).any (· == ("+" : Str)) = true by decide +kernel]
      refine ⟨b.natAbs, 1, hb, b1, .inr rfl, rfl, sz 2 (by decide), ?_⟩
      simp only [dAppend, at1, startE, List.map_cons, List.map_nil, List.length_cons, List.length_nil, List.replicate, List.cons_append, List.nil_append, List.getElem?_cons_zero, List.getElem?_cons_succ, List.set_cons_zero, List.set_cons_succ, wipeE, dSeq, dRet, dAsg, dAsgO, dPar, dParO, dIfS, dNx, dExpr, dFreeze, dAppend, dPop, dSetI, dFor, dUnT, dUnL, setE, dVar, dC, dBin, dUn, dCall, dA, dAS, dLnil, dLcons, dTup, dTest, dTru, dNot, dAnd, dOr, dAndV, dOrV, dNotT, dIf, dIfT, dChain, dFr, dLc, dYes, dIl, dIt, dIs, dIr, dgN, dgT, dZip, dEnum, itemsD, dSl, dNo, dPart, dIsN, dCat, dRep, dListOf, dStarL, dTruO, dCmpO, dS, fAdd, fSub, fMul, fMod, fDiv, fPow, fLt, fLe, fGt, fGe, fNeg, fEq, fNe, fIsB, fIsNotB, fTru, fLen, fIsi, isTy, fTuple, fAbs, fMax, fMin, fIx, fSl, fNotIn, fNotInK, fFld, fRev, Bool.not_true, Bool.not_false, Bool.false_eq_true, if_true, if_false, ite_true, ite_false, reduceIte, reduceCtorEq, decide_true, decide_false, true_and, and_true, beq_self_eq_true, bne_self_eq_false]
      refine ⟨sz 2 (by decide), ?_⟩
      refine z2 (m1 := a.natAbs) (m2 := b.natAbs) (s1 := sa) (s2 := 1) hs (.inr (by decide)) ?_
      rw [e1, show 1 * (b.natAbs : Int) = b by omega]
      exact h
  by_cases z : a < 0
  · rw [decide_eq_true z]
    refine ⟨lw, ?_⟩
    refine ⟨a.natAbs, 0, ha, a1, .inl rfl, by rw [fw_cut z]; rfl, ?_⟩
    exact fin true (-1) (by omega) (.inr rfl)
  · rw [decide_eq_false z]
    refine ⟨a.natAbs, 0, ha, a1, .inl rfl, by unfold fw; rw [if_neg z]; rfl, ?_⟩
    exact fin false 1 (by omega) (.inl rfl)
/-- the words of a sum -/
def sumW : List Int → List Str
  | [a] => [fw a 0]
  | [a, b] => if a = 0 then [fw b 1] else if b = 0 then [fw a 0] else [fw a 0, opS b, termS b.natAbs (lx 1)]
  | _ => []
structure WOk (n : Nat) (ws : List Int) : Prop where
  n12 : n = 1 ∨ n = 2
  len : ws.length = n
  big : ∀ w ∈ ws, w.natAbs ≤ 99
  some : ∃ w ∈ ws, w ≠ 0
def sp_sum_in : DSp := fun cs Q => ∃ n ws, WOk n ws ∧ cs = [.dat (.lst ((sumW ws).map .str)), .dat (.int ((n : Nat) : Int))] ∧ Q (tI ws)
theorem sem_sum_in (cs : List Cell) (Q : D → Prop) (hl : cs.length = 2) (h : sp_sum_in cs Q) : d_sum_in sp_term_in { nx := fun _ => Q .non, rt := Q } (startE N_sum_in cs) := by
  obtain ⟨n, ws, ok, e, h⟩ := h
  subst e
  obtain ⟨n12, wl, wb, w, hw, w0⟩ := ok
  match ws, wl, wb, hw with
  | [], wl, wb, hw => exact absurd hw (by simp)
  | [a], wl, wb, hw =>
    have ew := List.mem_singleton.mp hw
    subst ew
    have en : n = 1 := wl.symm
    subst en
    exact sum1 (i := 0) (by decide) (by decide) w0 (wb w List.mem_cons_self) h
  | [a, b], wl, wb, hw =>
    have en : n = 2 := wl.symm
    subst en
    have ba : a.natAbs ≤ 99 := wb a (by simp)
    have bb : b.natAbs ≤ 99 := wb b (by simp)
    by_cases za : a = 0
    · subst za
      have hb : b ≠ 0 := by
        rcases List.mem_cons.mp hw with z | z
        · exact absurd z w0
        · rw [List.mem_singleton.mp z] at w0
          exact w0
      exact sum1 (i := 1) (by decide) (by decide) hb bb h
    · by_cases zb : b = 0
      · subst zb
        have es : sumW [a, 0] = [fw a 0] := by
          simp only [sumW, za, if_false, if_true]
        rw [es]
        exact sum1 (i := 0) (by decide) (by decide) za ba h
      · have es : sumW [a, b] = [fw a 0, opS b, termS b.natAbs (lx 1)] := by
          simp only [sumW, za, zb, if_false]
        rw [es]
        exact sum3 za ba zb bb h
  | _ :: _ :: _ :: _, wl, wb, hw =>
    have : n = 1 ∨ n = 2 := n12
    rw [List.length_cons, List.length_cons, List.length_cons] at wl
    omega
end Fe
set_option Elab.async false
set_option linter.all false
set_option maxRecDepth 100000
set_option maxHeartbeats 4000000
/-! Layer 3: texts: inequalities. -/
namespace Fe
open PySem PySem.W PySem.Calls PyProof.Rows L2 TL

theorem tl_sp : tl (" " : Str) = [32] := by decide +kernel
theorem dash_free {i s : Nat} : 32 ∉ tl (termS s (lx i)) := by
  unfold termS
  split
  · exact lx_free (by decide) (by decide)
  · rw [tl_join]
    show 32 ∉ tl (numS s) ++ (tl ("*" : Str) ++ tl (lx i))
    rw [tl_star]
    intro h
    rcases List.mem_append.mp h with z | z
    · exact num_free (by decide) z
    · rcases List.mem_append.mp z with y | y
      · exact absurd y (by decide)
      · exact lx_free (by decide) (by decide) y
theorem fw_free {i : Nat} {s : Int} : 32 ∉ tl (fw s i) := by
  unfold fw
  split
  · rw [tl_append, tl_dash]
    intro h
    rcases List.mem_append.mp h with z | z
    · exact absurd z (by decide)
    · exact dash_free z
  · exact dash_free
theorem op_free {b : Int} : 32 ∉ tl (opS b) := by
  unfold opS
  split
  · rw [tl_dash]
    decide
  · rw [show tl ("+" : Str) = [43] by decide +kernel]
    decide
theorem int_free {c : Int} : 32 ∉ tl (intS c) := by
  cases c with
  | ofNat n => exact num_free (by decide)
  | negSucc m =>
    rw [tl_neg]
    intro h
    rcases List.mem_cons.mp h with z | z
    · exact absurd z (by decide)
    · exact numL_free (by decide) z
theorem sum_free (ws : List Int) : ∀ p ∈ sumW ws, 32 ∉ tl p := by
  intro p hp
  match ws, hp with
  | [a], hp =>
    rw [List.mem_singleton.mp hp]
    exact fw_free
  | [a, b], hp =>
    by_cases za : a = 0
    · simp only [sumW, za, if_true] at hp
      rw [List.mem_singleton.mp hp]
      exact fw_free
    · by_cases zb : b = 0
      · simp only [sumW, za, zb, if_false, if_true] at hp
        rw [List.mem_singleton.mp hp]
        exact fw_free
      · simp only [sumW, za, zb, if_false] at hp
        rcases List.mem_cons.mp hp with z | hp
        · rw [z]
          exact fw_free
        · rcases List.mem_cons.mp hp with z | hp
          · rw [z]
            exact op_free
          · rw [List.mem_singleton.mp hp]
            exact dash_free
  | [], hp => exact absurd hp (by simp [sumW])
  | _ :: _ :: _ :: _, hp => exact absurd hp (by simp [sumW])
theorem sum_cnt {n : Nat} {ws : List Int} (ok : WOk n ws) : 1 ≤ (sumW ws).length ∧ (sumW ws).length ≤ 3 := by
  obtain ⟨n12, wl, wb, w, hw, w0⟩ := ok
  match ws, wl with
  | [], wl => exact absurd hw (by simp)
  | [a], wl => exact ⟨Nat.le_refl _, by show 1 ≤ 3; decide⟩
  | [a, b], wl =>
    by_cases za : a = 0
    · simp only [sumW, za, if_true]
      exact ⟨Nat.le_refl _, by show 1 ≤ 3; decide⟩
    · by_cases zb : b = 0
      · simp only [sumW, za, zb, if_false, if_true]
        exact ⟨Nat.le_refl _, by show 1 ≤ 3; decide⟩
      · simp only [sumW, za, zb, if_false]
        exact ⟨by show 1 ≤ 3; decide, Nat.le_refl _⟩
  | _ :: _ :: _ :: _, wl =>
    rw [List.length_cons, List.length_cons, List.length_cons] at wl
    omega
/-- a row: its words -/
def rowW (op : Str) (ws : List Int) (c : Int) : List Str := sumW ws ++ [op, intS c]
def rowS (op : Str) (ws : List Int) (c : Int) : Str := Txt.join " " (rowW op ws c)
theorem row_split {op : Str} {ws : List Int} {c : Int} (ho : 32 ∉ tl op) : Txt.split (rowS op ws c) " " = rowW op ws c := by
  unfold rowS
  refine split_join (y := " ") (s := 32) (S := []) tl_sp (by decide +kernel) (by unfold rowW; simp) fun p hp => ?_
  unfold rowW at hp
  rcases List.mem_append.mp hp with z | z
  · exact sum_free ws p z
  · rcases List.mem_cons.mp z with y | y
    · rw [y]
      exact ho
    · rw [List.mem_singleton.mp y]
      exact int_free
theorem at_last2 {α : Type} (l : List α) (x y : α) : L2.atI (l ++ [x, y]) (-2) = some x := by
  unfold L2.atI ixN
  rw [if_neg (by decide), if_pos (by rw [List.length_append]; show -(((l.length + 2 : Nat)) : Int) ≤ -2; omega)]
  have e : ((-2 : Int) + ((l ++ [x, y]).length : Int)).toNat = l.length := by
    rw [List.length_append]
    show ((-2 : Int) + ((l.length + 2 : Nat) : Int)).toNat = _
    omega
  rw [e]
  show (l ++ [x, y])[l.length]? = some x
  rw [List.getElem?_append_right (Nat.le_refl _), Nat.sub_self]
  rfl
theorem at_last1 {α : Type} (l : List α) (x y : α) : L2.atI (l ++ [x, y]) (-1) = some y := by
  rw [show l ++ [x, y] = (l ++ [x]) ++ [y] by simp]
  exact atI_last _ _
theorem cut_two {α : Type} (l : List α) (x y : α) : cutL (l ++ [x, y]) none (some (-2)) = l := by
  unfold cutL
  have e : HT.sIx (l ++ [x, y]).length (l ++ [x, y]).length (some (-2)) = l.length := by
    show (if (-2 : Int) < 0 then ((-2 : Int) + ((l ++ [x, y]).length : Int)).toNat else min (-2 : Int).toNat (l ++ [x, y]).length) = _
    rw [if_pos (by decide), List.length_append]
    show ((-2 : Int) + ((l.length + 2 : Nat) : Int)).toNat = _
    omega
  rw [e, HT.sIx_none, List.drop_zero, Nat.sub_zero, List.take_left]
def RowOk (n : Nat) (b : Bd) (r : Str) : Prop := WOk n b.1 ∧ b.2.natAbs ≤ 1000000 ∧ r.length ≤ 1000 ∧ (r = rowS "<=" b.1 b.2 ∨ r = rowS ">=" (neg b.1) (-b.2))
def sp_inequality_in : DSp := fun cs Q => ∃ n b r, cs = [.dat (.str r), .dat (.int ((n : Nat) : Int))] ∧ RowOk n b r ∧ Q (bnd b)
theorem neg_wok {n : Nat} {ws : List Int} (h : WOk n ws) : WOk n (neg ws) := by
  obtain ⟨n12, wl, wb, w, hw, w0⟩ := h
  refine ⟨n12, by rw [neg_len]; exact wl, fun v hv => ?_, -w, List.mem_map_of_mem hw, by omega⟩
  obtain ⟨u, hu, e⟩ := List.mem_map.mp hv
  subst e
  rw [Int.natAbs_neg]
  exact wb u hu
theorem neg_neg (ws : List Int) : neg (neg ws) = ws := by
  unfold neg
  rw [List.map_map]
  conv => rhs; rw [← List.map_id ws]
  refine List.map_congr_left fun w _ => ?_
  show - -w = w
  omega
theorem ineq_core {n : Nat} {ws : List Int} {c : Int} {op r : Str} {Q : D → Prop} (hr : r = rowS op ws c) (rl : r.length ≤ 1000) (ho : 32 ∉ tl op) (ha : (["<=", ">="] : List Str).any (· == op) = true) (wo : WOk n ws) (hc : c.natAbs ≤ 1000000)
    (q : if (op == ("<=" : Str)) = true then Q (.tup [tI ws, .int c]) else Q (.tup [tI (neg ws), .int (-c)])) :
    d_inequality_in sp_sum_in sp_signed_in { nx := fun _ => Q .non, rt := Q } (startE N_inequality_in [.dat (.str r), .dat (.int ((n : Nat) : Int))]) := by
  obtain ⟨c1, c2⟩ := sum_cnt wo
  have es : (Txt.split r " ").map D.str = (sumW ws).map D.str ++ [.str op, .str (intS c)] := by
    rw [hr, row_split ho]
    unfold rowW
    rw [List.map_append]
    rfl
  unfold d_inequality_in
  refine ⟨by decide +kernel, by rw [sizeLine_eq]; omega, ?_⟩
  rw [es]
  have hlt : decide (((((sumW ws).map D.str ++ [D.str op, .str (intS c)]).length : Nat) : Int) < 3) = false := by
    rw [decide_eq_false_iff_not, List.length_append, List.length_map]
    show ¬ ((((sumW ws).length + 2 : Nat) : Int) < 3)
    omega
  show (if decide (((((sumW ws).map D.str ++ [D.str op, .str (intS c)]).length : Nat) : Int) < 3) = true then Q .non else _)
  rw [hlt]
  simp only [at_last2, at_last1, cut_two, asStrs, Option.map_some, startE, List.map_cons, List.map_nil, List.length_cons, List.length_nil, List.replicate, List.cons_append, List.nil_append, List.getElem?_cons_zero, List.getElem?_cons_succ, List.set_cons_zero, List.set_cons_succ, wipeE, dSeq, dRet, dAsg, dAsgO, dPar, dParO, dIfS, dNx, dExpr, dFreeze, dAppend, dPop, dSetI, dFor, dUnT, dUnL, setE, dVar, dC, dBin, dUn, dCall, dA, dAS, dLnil, dLcons, dTup, dTest, dTru, dNot, dAnd, dOr, dAndV, dOrV, dNotT, dIf, dIfT, dChain, dFr, dLc, dYes, dIl, dIt, dIs, dIr, dgN, dgT, dZip, dEnum, itemsD, dSl, dNo, dPart, dIsN, dCat, dRep, dListOf, dStarL, dTruO, dCmpO, dS, fAdd, fSub, fMul, fMod, fDiv, fPow, fLt, fLe, fGt, fGe, fNeg, fEq, fNe, fIsB, fIsNotB, fTru, fLen, fIsi, isTy, fTuple, fAbs, fMax, fMin, fIx, fSl, fNotIn, fNotInK, fFld, fRev, Bool.not_true, Bool.not_false, Bool.false_eq_true, if_true, if_false, ite_true, ite_false, reduceIte, reduceCtorEq, decide_true, decide_false, true_and, and_true, beq_self_eq_true, bne_self_eq_false]
  rw [ha]
  refine ⟨n, ws, wo, rfl, c, rfl, by omega, ?_⟩
  show (match D.bl (decide ((-1000000 : Int) ≤ c)) with
    | .bl true => (if (!decide (c ≤ (1000000 : Int))) = true then Q .non else if (op == ("<=" : Str)) = true then Q (.tup [tI ws, .int c]) else dLcGo (dgN 5) dYes (dUn fNeg (dVar 5)) [some (.dat (.str r)), some (.dat (.int ((n : Nat) : Int))), some (.dat (.lst ((sumW ws).map D.str ++ [.str op, .str (intS c)]))), some (.dat (tI ws)), some (.dat (.int c)), none] (ws.map D.int) [] fun ds => Q (.tup [.tup ds, .int (-c)]))
    | .bl false => Q .non
    | _ => False)
  rw [decide_eq_true (show (-1000000 : Int) ≤ c by omega), decide_eq_true (show c ≤ (1000000 : Int) by omega)]
  cases eo : (op == ("<=" : Str)) with
  | true =>
    rw [eo] at q
    exact q
  | false =>
    rw [eo] at q
    show dLcGo _ _ _ _ (ws.map D.int) [] _
    refine lc_map' (g := fun w => D.int (-w)) ws _ (fun w hw => ⟨_, rfl, fun R hR => hR⟩) (sz _ (by have := wo.len; have := wo.n12; omega)) ?_
    have e : ws.map (fun w => D.int (-w)) = (neg ws).map D.int := by
      unfold neg
      rw [List.map_map]
      rfl
    rw [e]
    exact q
theorem le_free : 32 ∉ tl ("<=" : Str) := by rw [show tl ("<=" : Str) = [60, 61] by decide +kernel]; decide
theorem ge_free : 32 ∉ tl (">=" : Str) := by rw [show tl (">=" : Str) = [62, 61] by decide +kernel]; decide
theorem sem_inequality_in (cs : List Cell) (Q : D → Prop) (hl : cs.length = 2) (h : sp_inequality_in cs Q) : d_inequality_in sp_sum_in sp_signed_in { nx := fun _ => Q .non, rt := Q } (startE N_inequality_in cs) := by
  obtain ⟨n, b, r, e, ⟨wo, hc, rl, hr⟩, h⟩ := h
  subst e
  rcases hr with hr | hr
  · refine ineq_core hr rl le_free (by decide +kernel) wo hc ?_
    rw [if_pos (by decide +kernel)]
    exact h
  · refine ineq_core hr rl ge_free (by decide +kernel) (neg_wok wo) (by rw [Int.natAbs_neg]; exact hc) ?_
    rw [if_neg (by decide +kernel), neg_neg, Int.neg_neg]
    exact h
end Fe
set_option Elab.async false
set_option linter.all false
set_option maxRecDepth 100000
set_option maxHeartbeats 4000000
/-! Layer 3: texts: rows, systems. -/
namespace Fe
open PySem PySem.W PySem.Calls PyProof.Rows L2 TL

abbrev Pr : Type := Bd × Str
structure PsOk (kd : Str) (n : Nat) (ps : List Pr) : Prop where
  kd : kd = "whole" ∨ kd = "any"
  n12 : n = 1 ∨ n = 2
  len : ps.length ≤ 10
  row : ∀ p ∈ ps, RowOk n p.1 p.2
def rowsD (kd : Str) (n : Nat) (ps : List Pr) : List D := .str (headS kd n) :: ps.map fun p => .str p.2
def sp_wrong_rows : DSp := fun cs Q => ∃ kd n ps R, cs = [.dat R] ∧ (R = .tup (rowsD kd n ps) ∨ R = .lst (rowsD kd n ps)) ∧ PsOk kd n ps ∧ Q (.tup [])
def b_wr : DS := (dIfS (dAnd (dTest (dBin fGt (dVar 2) (dC (.int 0)))) (dTest (dIsN (dCall sp_inequality_in (dA (dLcons (dVar 3) (dLcons (dUn fLen (dVar 1)) dLnil))))))) (dRet (dTup (dLcons (dVar 2) dLnil))) dNx)
theorem wr_go {kd : Str} {n : Nat} {Z : DEnds} {e0 : Option Cell} : ∀ (ps : List Pr) (k : Nat) (e2 e3 : Option Cell), 1 ≤ k → (∀ p ∈ ps, RowOk n p.1 p.2) → (∀ e2 e3, Z.nx [e0, some (.dat (.tup (List.replicate n (.str kd)))), e2, e3]) →
    dLoop (dgT 2 3) b_wr Z (((ps.map fun p => D.str p.2).zipIdx k).map fun p => D.tup [.int (p.2 : Nat), p.1]) [e0, some (.dat (.tup (List.replicate n (.str kd)))), e2, e3]
  | [], k, e2, e3, _, _, q => q e2 e3
  | p :: ps, k, e2, e3, hk, hp, q => by
    rw [List.map_cons, List.zipIdx_cons, List.map_cons]
    show b_wr { nx := fun e => dLoop (dgT 2 3) b_wr Z (((ps.map fun p => D.str p.2).zipIdx (k + 1)).map fun p => D.tup [.int (p.2 : Nat), p.1]) e, rt := Z.rt, bk := Z.nx, ct := _ } [e0, some (.dat (.tup (List.replicate n (.str kd)))), some (.dat (.int ((k : Nat) : Int))), some (.dat (.str p.2))]
    unfold b_wr
    show (if decide ((0 : Int) < (k : Int)) = true then _ else _)
    rw [decide_eq_true (show (0 : Int) < (k : Int) by omega), if_pos rfl]
    refine ⟨n, p.1, p.2, ?_, hp p List.mem_cons_self, ?_⟩
    · show [Cell.dat (.str p.2), Cell.dat (.int ((List.replicate n (D.str kd)).length : Nat))] = _
      rw [List.length_replicate]
    · exact wr_go ps (k + 1) _ _ (by omega) (fun r hr => hp r (List.mem_cons_of_mem _ hr)) q
theorem sem_wrong_rows (cs : List Cell) (Q : D → Prop) (hl : cs.length = 1) (h : sp_wrong_rows cs Q) : d_wrong_rows sp_unknowns_in sp_inequality_in { nx := fun _ => Q .non, rt := Q } (startE N_wrong_rows cs) := by
  obtain ⟨kd, n, ps, R, e, hR, ok, h⟩ := h
  subst e
  have hlen : (rowsD kd n ps).length = ps.length + 1 := by
    unfold rowsD
    rw [List.length_cons, List.length_map]
  have fin : (R = .tup (rowsD kd n ps) ∨ R = .lst (rowsD kd n ps)) → dLoop (dgT 2 3) b_wr { nx := fun e => dRet (dTup dLnil) { nx := fun _ => Q .non, rt := Q } e, rt := Q } (enumD (rowsD kd n ps)) [some (.dat R), some (.dat (.tup (List.replicate n (.str kd)))), none, none] := fun _ => by
    unfold enumD rowsD
    rw [List.zipIdx_cons, List.map_cons]
    show b_wr { nx := fun e => dLoop (dgT 2 3) b_wr _ (((ps.map fun p => D.str p.2).zipIdx 1).map fun p => D.tup [.int (p.2 : Nat), p.1]) e, rt := Q, bk := _, ct := _ } [some (.dat R), some (.dat (.tup (List.replicate n (.str kd)))), some (.dat (.int 0)), some (.dat (.str (headS kd n)))]
    unfold b_wr
    refine wr_go ps 1 _ _ (Nat.le_refl _) ok.row fun e2 e3 => ?_
    exact h
  unfold d_wrong_rows
  have l1 : decide ((1 : Int) ≤ ((rowsD kd n ps).length : Int)) = true := decide_eq_true (by rw [hlen]; omega)
  have l2 : decide (((rowsD kd n ps).length : Int) ≤ (10 + 1 : Int)) = true := decide_eq_true (by rw [hlen]; have := ok.len; omega)
  have next : (dSeq (dAsg 1 (dCall sp_unknowns_in (dA (dLcons (dBin fIx (dVar 0) (dC (.int 0))) dLnil)))) (dSeq (dIfS (dTest (dIsN (dVar 1))) (dRet (dTup (dLcons (dC (.int 0)) dLnil))) dNx) (dSeq (dFor (dEnum (dVar 0)) (dgT 2 3) b_wr) (dRet (dTup dLnil))))) { nx := fun _ => Q .non, rt := Q } [some (.dat R), none, none, none] := by
    rcases hR with z | z
    · subst z
      simp only [rowsD, at0, startE, List.map_cons, List.map_nil, List.length_cons, List.length_nil, List.replicate, List.cons_append, List.nil_append, List.getElem?_cons_zero, List.getElem?_cons_succ, List.set_cons_zero, List.set_cons_succ, wipeE, dSeq, dRet, dAsg, dAsgO, dPar, dParO, dIfS, dNx, dExpr, dFreeze, dAppend, dPop, dSetI, dFor, dUnT, dUnL, setE, dVar, dC, dBin, dUn, dCall, dA, dAS, dLnil, dLcons, dTup, dTest, dTru, dNot, dAnd, dOr, dAndV, dOrV, dNotT, dIf, dIfT, dChain, dFr, dLc, dYes, dIl, dIt, dIs, dIr, dgN, dgT, dZip, dEnum, itemsD, dSl, dNo, dPart, dIsN, dCat, dRep, dListOf, dStarL, dTruO, dCmpO, dS, fAdd, fSub, fMul, fMod, fDiv, fPow, fLt, fLe, fGt, fGe, fNeg, fEq, fNe, fIsB, fIsNotB, fTru, fLen, fIsi, isTy, fTuple, fAbs, fMax, fMin, fIx, fSl, fNotIn, fNotInK, fFld, fRev, Bool.not_true, Bool.not_false, Bool.false_eq_true, if_true, if_false, ite_true, ite_false, reduceIte, reduceCtorEq, decide_true, decide_false, true_and, and_true, beq_self_eq_true, bne_self_eq_false]
      exact ⟨kd, n, ok.kd, ok.n12, rfl, fin (.inl rfl)⟩
    · subst z
      simp only [rowsD, at0, startE, List.map_cons, List.map_nil, List.length_cons, List.length_nil, List.replicate, List.cons_append, List.nil_append, List.getElem?_cons_zero, List.getElem?_cons_succ, List.set_cons_zero, List.set_cons_succ, wipeE, dSeq, dRet, dAsg, dAsgO, dPar, dParO, dIfS, dNx, dExpr, dFreeze, dAppend, dPop, dSetI, dFor, dUnT, dUnL, setE, dVar, dC, dBin, dUn, dCall, dA, dAS, dLnil, dLcons, dTup, dTest, dTru, dNot, dAnd, dOr, dAndV, dOrV, dNotT, dIf, dIfT, dChain, dFr, dLc, dYes, dIl, dIt, dIs, dIr, dgN, dgT, dZip, dEnum, itemsD, dSl, dNo, dPart, dIsN, dCat, dRep, dListOf, dStarL, dTruO, dCmpO, dS, fAdd, fSub, fMul, fMod, fDiv, fPow, fLt, fLe, fGt, fGe, fNeg, fEq, fNe, fIsB, fIsNotB, fTru, fLen, fIsi, isTy, fTuple, fAbs, fMax, fMin, fIx, fSl, fNotIn, fNotInK, fFld, fRev, Bool.not_true, Bool.not_false, Bool.false_eq_true, if_true, if_false, ite_true, ite_false, reduceIte, reduceCtorEq, decide_true, decide_false, true_and, and_true, beq_self_eq_true, bne_self_eq_false]
      exact ⟨kd, n, ok.kd, ok.n12, rfl, fin (.inr rfl)⟩
  rcases hR with z | z
  · subst z
    show (match D.bl (decide ((1 : Int) ≤ ((rowsD kd n ps).length : Int))) with
      | .bl true => (if (!decide (((rowsD kd n ps).length : Int) ≤ (10 + 1 : Int))) = true then Q (.tup [.non]) else (dSeq (dAsg 1 (dCall sp_unknowns_in (dA (dLcons (dBin fIx (dVar 0) (dC (.int 0))) dLnil)))) (dSeq (dIfS (dTest (dIsN (dVar 1))) (dRet (dTup (dLcons (dC (.int 0)) dLnil))) dNx) (dSeq (dFor (dEnum (dVar 0)) (dgT 2 3) b_wr) (dRet (dTup dLnil))))) { nx := fun _ => Q .non, rt := Q } [some (.dat (.tup (rowsD kd n ps))), none, none, none])
      | .bl false => Q (.tup [.non])
      | _ => False)
    rw [l1, l2]
    exact next
  · subst z
    show (match D.bl (decide ((1 : Int) ≤ ((rowsD kd n ps).length : Int))) with
      | .bl true => (if (!decide (((rowsD kd n ps).length : Int) ≤ (10 + 1 : Int))) = true then Q (.tup [.non]) else (dSeq (dAsg 1 (dCall sp_unknowns_in (dA (dLcons (dBin fIx (dVar 0) (dC (.int 0))) dLnil)))) (dSeq (dIfS (dTest (dIsN (dVar 1))) (dRet (dTup (dLcons (dC (.int 0)) dLnil))) dNx) (dSeq (dFor (dEnum (dVar 0)) (dgT 2 3) b_wr) (dRet (dTup dLnil))))) { nx := fun _ => Q .non, rt := Q } [some (.dat (.lst (rowsD kd n ps))), none, none, none])
      | .bl false => Q (.tup [.non])
      | _ => False)
    rw [l1, l2]
    exact next
/-! ### System(*rows) -/
theorem lk_hit {f : Str} {d : D} {fs : List (Str × D)} : ((f, d) :: fs).lookup f = some d := by
  rw [List.lookup_cons]
  simp
theorem lk_miss {f g : Str} {d : D} {fs : List (Str × D)} (h : (g == f) = false) : ((f, d) :: fs).lookup g = fs.lookup g := by
  rw [List.lookup_cons, h]
theorem dSelf_at {i : Nat} {f : Str} {en : En} {a : Addr} {fs : List (Str × D)} {d : D} {R : D → Prop} (h : en[i]? = some (some (.obj a fs))) (hf : fs.lookup f = some d) (q : R d) : dSelf i f en R := by
  unfold dSelf
  rw [h]
  simp only [hf]
  exact q
theorem dSetF_at {i : Nat} {f : Str} {de : DE} {Z : DEnds} {en : En} {a : Addr} {fs : List (Str × D)} {d : D} (h : en[i]? = some (some (.obj a fs))) (hd : ∀ R : D → Prop, R d → de en R) (hl : fs.length < 1000) (q : Z.nx (en.set i (some (.obj a ((f, d) :: fs))))) : dSetF i f de Z en := by
  unfold dSetF
  refine hd _ ?_
  rw [h]
  exact ⟨hl, q⟩
def sp_init : DSpI := fun ds Q => ∃ kd n ps, ds = rowsD kd n ps ∧ PsOk kd n ps ∧ ∀ t l, Q (.sys t (.tup (List.replicate n (.str kd))) l (.str (soOf kd n)) (bndsT (ps.map fun p : Pr => p.1)))
def e_sol : DE := (dBin fJoin (dS (dC (.str ""))) (dFr (dLc (dZip (dC (.str "xy")) (dSelf 0 "kinds")) (dgT 4 5) (dTest (dBin fEq (dVar 5) (dC (.str "whole")))) (dVar 4) [4, 5])))
def e_bds : DE := (dUn fTuple (dFr (dLc (dIt (dSl (dVar 1) (dPart (dC (.int 1))) dNo)) (dgN 3) dYes (dCall sp_inequality_in (dA (dLcons (dVar 3) (dLcons (dUn fLen (dSelf 0 "kinds")) dLnil)))) [3])))
def e_let : DE := (dSl (dC (.str "xy")) dNo (dPart (dUn fLen (dSelf 0 "kinds"))))
def e_knd : DE := (dCall sp_unknowns_in (dA (dLcons (dBin fIx (dVar 1) (dC (.int 0))) dLnil)))
def i5 : DS := dSetF 0 "bounds" e_bds
def i4 : DS := dSeq (dSetF 0 "solid" e_sol) i5
def i3 : DS := dSeq (dSetF 0 "letters" e_let) i4
def i2 : DS := dSeq (dSetF 0 "kinds" e_knd) i3
def i1 : DS := dSeq (dSetF 0 "told" (dVar 1)) i2
theorem seqF {i : Nat} {f : Str} {de : DE} {rest : DS} {Z : DEnds} {en : En} {a : Addr} {fs : List (Str × D)} {d : D} (h : en[i]? = some (some (.obj a fs))) (hd : ∀ R : D → Prop, R d → de en R) (hl : fs.length < 1000) (q : rest Z (en.set i (some (.obj a ((f, d) :: fs))))) : dSeq (dSetF i f de) rest Z en :=
  dSetF_at (Z := { Z with nx := fun e => rest Z e }) h hd hl q
theorem sol_ok {kd : Str} {n : Nat} {a : Addr} {fs : List (Str × D)} {e1 e2 e3 e4 e5 : Option Cell} (hk : kd = "whole" ∨ kd = "any") (hn : n = 1 ∨ n = 2) (hf : fs.lookup ("kinds" : Str) = some (.tup (List.replicate n (.str kd)))) (R : D → Prop) (hR : R (.str (soOf kd n))) :
    e_sol [some (.obj a fs), e1, e2, e3, e4, e5] R := by
  unfold e_sol
  show dSelf 0 "kinds" [some (.obj a fs), e1, e2, e3, e4, e5] _
  refine dSelf_at (d := .tup (List.replicate n (.str kd))) rfl hf ?_
  rw [show itemsD (.str "xy") = some [.str ⟨#[120]⟩, .str ⟨#[121]⟩] by
    show some ((tl ("xy" : Str)).map fun c => D.str ⟨#[c]⟩) = _
    rw [tl_xy]
    rfl]
  have hw : (("whole" : Str) == ("whole" : Str)) = true := by decide +kernel
  have ha : (("any" : Str) == ("whole" : Str)) = false := by decide +kernel
  rcases hk with z | z <;> rcases hn with y | y <;> subst z <;> subst y
  · show dLcGo (dgT 4 5) (dTest (dBin fEq (dVar 5) (dC (.str "whole")))) (dVar 4) _ (([120] : List Nat).map fun c => D.tup [.str ⟨#[c]⟩, .str "whole"]) [] _
    refine lc_filter (p := fun _ => true) (g := fun c => D.str ⟨#[c]⟩) [120] [] _ (fun c hc => ⟨_, rfl, fun R2 hR2 => ?_, fun _ R2 hR2 => hR2⟩) (sz _ (by decide)) ?_
    · show R2 (("whole" : Str) == ("whole" : Str))
      rw [hw]
      exact hR2
    · refine ⟨by decide +kernel, ?_⟩
      show R (.str (Txt.join "" [(⟨#[120]⟩ : Str)]))
      rw [show Txt.join "" [(⟨#[120]⟩ : Str)] = soOf "whole" 1 by decide +kernel]
      exact hR
  · show dLcGo (dgT 4 5) (dTest (dBin fEq (dVar 5) (dC (.str "whole")))) (dVar 4) _ (([120, 121] : List Nat).map fun c => D.tup [.str ⟨#[c]⟩, .str "whole"]) [] _
    refine lc_filter (p := fun _ => true) (g := fun c => D.str ⟨#[c]⟩) [120, 121] [] _ (fun c hc => ⟨_, rfl, fun R2 hR2 => ?_, fun _ R2 hR2 => hR2⟩) (sz _ (by decide)) ?_
    · show R2 (("whole" : Str) == ("whole" : Str))
      rw [hw]
      exact hR2
    · refine ⟨by decide +kernel, ?_⟩
      show R (.str (Txt.join "" [(⟨#[120]⟩ : Str), ⟨#[121]⟩]))
      rw [show Txt.join "" [(⟨#[120]⟩ : Str), ⟨#[121]⟩] = soOf "whole" 2 by decide +kernel]
      exact hR
  · show dLcGo (dgT 4 5) (dTest (dBin fEq (dVar 5) (dC (.str "whole")))) (dVar 4) _ (([120] : List Nat).map fun c => D.tup [.str ⟨#[c]⟩, .str "any"]) [] _
    refine lc_filter (p := fun _ => false) (g := fun c => D.str ⟨#[c]⟩) [120] [] _ (fun c hc => ⟨_, rfl, fun R2 hR2 => ?_, fun _ R2 hR2 => hR2⟩) (sz _ (by decide)) ?_
    · show R2 (("any" : Str) == ("whole" : Str))
      rw [ha]
      exact hR2
    · refine ⟨by decide +kernel, ?_⟩
      show R (.str (Txt.join "" ([] : List Str)))
      rw [show Txt.join "" ([] : List Str) = soOf "any" 1 by decide +kernel]
      exact hR
  · show dLcGo (dgT 4 5) (dTest (dBin fEq (dVar 5) (dC (.str "whole")))) (dVar 4) _ (([120, 121] : List Nat).map fun c => D.tup [.str ⟨#[c]⟩, .str "any"]) [] _
    refine lc_filter (p := fun _ => false) (g := fun c => D.str ⟨#[c]⟩) [120, 121] [] _ (fun c hc => ⟨_, rfl, fun R2 hR2 => ?_, fun _ R2 hR2 => hR2⟩) (sz _ (by decide)) ?_
    · show R2 (("any" : Str) == ("whole" : Str))
      rw [ha]
      exact hR2
    · refine ⟨by decide +kernel, ?_⟩
      show R (.str (Txt.join "" ([] : List Str)))
      rw [show Txt.join "" ([] : List Str) = soOf "any" 2 by decide +kernel]
      exact hR
theorem bds_ok {kd : Str} {n : Nat} {ps : List Pr} {a : Addr} {fs : List (Str × D)} {e2 e3 e4 e5 : Option Cell} (ok : PsOk kd n ps) (hf : fs.lookup ("kinds" : Str) = some (.tup (List.replicate n (.str kd)))) (R : D → Prop) (hR : R (bndsT (ps.map fun p : Pr => p.1))) :
    e_bds [some (.obj a fs), some (.dat (.tup (rowsD kd n ps))), e2, e3, e4, e5] R := by
  unfold e_bds
  show dLcGo _ _ _ _ (cutL (rowsD kd n ps) (some ((1 : Nat) : Int)) none) [] _
  rw [cut_drop]
  show dLcGo _ _ _ _ (ps.map fun p => D.str p.2) [] _
  refine lc_map' (g := fun p : Pr => bnd p.1) ps _ (fun p hp => ⟨_, rfl, fun R2 hR2 => ?_⟩) (sz _ (by have := ok.len; omega)) ?_
  · show dSelf 0 "kinds" [some (.obj a fs), some (.dat (.tup (rowsD kd n ps))), e2, some (.dat (.str p.2)), e4, e5] _
    refine dSelf_at (d := .tup (List.replicate n (.str kd))) rfl hf ?_
    refine ⟨n, p.1, p.2, ?_, ok.row p hp, hR2⟩
    show [Cell.dat (.str p.2), Cell.dat (.int ((List.replicate n (D.str kd)).length : Nat))] = _
    rw [List.length_replicate]
  · have e : ps.map (fun p : Pr => bnd p.1) = (ps.map fun p : Pr => p.1).map bnd := by
      rw [List.map_map]
      rfl
    rw [e]
    exact hR
theorem init_go {kd : Str} {n : Nat} {ps : List Pr} {x : Addr} {Z : DEnds} (ok : PsOk kd n ps) (q : Z.nx [some (.obj x [("bounds", bndsT (ps.map fun p : Pr => p.1)), ("solid", .str (soOf kd n)), ("letters", .str (cutS "xy" none (some ((n : Nat) : Int)))), ("kinds", .tup (List.replicate n (.str kd))), ("told", .tup (rowsD kd n ps))]), some (.dat (.tup (rowsD kd n ps))), some (.dat (.tup [])), none, none, none]) :
    i1 Z [some (.obj x []), some (.dat (.tup (rowsD kd n ps))), some (.dat (.tup [])), none, none, none] := by
  have n1 : (("kinds" : Str) == "letters") = false := by decide +kernel
  have n2 : (("kinds" : Str) == "solid") = false := by decide +kernel
  unfold i1
  refine seqF (d := .tup (rowsD kd n ps)) rfl (fun R hR => hR) (by decide) ?_
  show i2 Z [some (.obj x [("told", .tup (rowsD kd n ps))]), some (.dat (.tup (rowsD kd n ps))), some (.dat (.tup [])), none, none, none]
  unfold i2
  refine seqF (d := .tup (List.replicate n (.str kd))) rfl (fun R hR => ?_) (by show 1 < 1000; decide) ?_
  · unfold e_knd
    show (match L2.atI (rowsD kd n ps) 0 with
      | some d => sp_unknowns_in [.dat d] R
      | none => False)
    unfold rowsD
    rw [at0]
    exact ⟨kd, n, ok.kd, ok.n12, rfl, hR⟩
  show i3 Z [some (.obj x [("kinds", .tup (List.replicate n (.str kd))), ("told", .tup (rowsD kd n ps))]), some (.dat (.tup (rowsD kd n ps))), some (.dat (.tup [])), none, none, none]
  unfold i3
  refine seqF (d := .str (cutS "xy" none (some ((n : Nat) : Int)))) rfl (fun R hR => ?_) (by show 2 < 1000; decide) ?_
  · unfold e_let
    simp only [dSl, dNo, dPart, dUn, dC]
    refine dSelf_at rfl lk_hit ?_
    show ("xy" : Str).length ≤ sizeLine ∧ R (.str (cutS "xy" none (some (((List.replicate n (D.str kd)).length : Nat) : Int))))
    rw [List.length_replicate]
    exact ⟨by decide +kernel, hR⟩
  show i4 Z [some (.obj x [("letters", .str (cutS "xy" none (some ((n : Nat) : Int)))), ("kinds", .tup (List.replicate n (.str kd))), ("told", .tup (rowsD kd n ps))]), some (.dat (.tup (rowsD kd n ps))), some (.dat (.tup [])), none, none, none]
  unfold i4
  refine seqF (d := .str (soOf kd n)) rfl (fun R hR => sol_ok ok.kd ok.n12 (by rw [lk_miss n1]; exact lk_hit) R hR) (by show 3 < 1000; decide) ?_
  show i5 Z [some (.obj x [("solid", .str (soOf kd n)), ("letters", .str (cutS "xy" none (some ((n : Nat) : Int)))), ("kinds", .tup (List.replicate n (.str kd))), ("told", .tup (rowsD kd n ps))]), some (.dat (.tup (rowsD kd n ps))), some (.dat (.tup [])), none, none, none]
  unfold i5
  exact dSetF_at (d := bndsT (ps.map fun p : Pr => p.1)) rfl (fun R hR => bds_ok ok (by rw [lk_miss n2, lk_miss n1]; exact lk_hit) R hR) (by show 4 < 1000; decide) q
theorem sem_init : InitD (d_init sp_wrong_rows sp_unknowns_in sp_inequality_in) N_init sp_init := by
  intro ds Q x h
  obtain ⟨kd, n, ps, e, ok, h⟩ := h
  subst e
  have m1 : (("told" : Str) == "bounds") = false := by decide +kernel
  have m2 : (("told" : Str) == "solid") = false := by decide +kernel
  have m3 : (("told" : Str) == "letters") = false := by decide +kernel
  have m4 : (("told" : Str) == "kinds") = false := by decide +kernel
  have k1 : (("kinds" : Str) == "bounds") = false := by decide +kernel
  have k2 : (("kinds" : Str) == "solid") = false := by decide +kernel
  have k3 : (("kinds" : Str) == "letters") = false := by decide +kernel
  have l1 : (("letters" : Str) == "bounds") = false := by decide +kernel
  have l2 : (("letters" : Str) == "solid") = false := by decide +kernel
  have s1 : (("solid" : Str) == "bounds") = false := by decide +kernel
  unfold d_init
  refine ⟨kd, n, ps, .tup (rowsD kd n ps), rfl, .inl rfl, ok, ?_⟩
  refine init_go ok ?_
  refine ⟨_, _, _, _, _, _, rfl, ?_, ?_, ?_, ?_, lk_hit, h (.tup (rowsD kd n ps)) (.str (cutS "xy" none (some ((n : Nat) : Int))))⟩
  · rw [lk_miss m1, lk_miss m2, lk_miss m3, lk_miss m4]
    exact lk_hit
  · rw [lk_miss k1, lk_miss k2, lk_miss k3]
    exact lk_hit
  · rw [lk_miss l1, lk_miss l2]
    exact lk_hit
  · rw [lk_miss s1]
    exact lk_hit
end Fe
set_option Elab.async false
set_option linter.all false
set_option maxRecDepth 100000
set_option maxHeartbeats 4000000
/-! Layer 3: texts read: System.read, system_of. -/
namespace Fe
open PySem PySem.W PySem.Calls PyProof.Rows L2 TL

/-! ### signs of a row -/
structure Sg (P : Nat → Prop) : Prop where
  dig : ∀ c, 48 ≤ c ∧ c ≤ 57 → P c
  oth : ∀ c ∈ ([42, 120, 121, 45, 43, 60, 61, 62, 32] : List Nat), P c
section
variable {P : Nat → Prop}
theorem join_all {y : Str} (hy : ∀ c ∈ tl y, P c) : ∀ (parts : List Str), (∀ p ∈ parts, ∀ c ∈ tl p, P c) → ∀ c ∈ tl (Str.join y parts), P c
  | [], _, c, h => by
    rw [tl_join] at h
    exact absurd h (by simp [joinL])
  | [p], hp, c, h => by
    rw [tl_join] at h
    exact hp p List.mem_cons_self c h
  | p :: q :: r, hp, c, h => by
    have ih := join_all hy (q :: r) (fun z hz => hp z (List.mem_cons_of_mem _ hz)) c
    rw [tl_join] at h ih
    rcases List.mem_append.mp (show c ∈ tl p ++ (tl y ++ joinL (tl y) ((q :: r).map tl)) from h) with z | z
    · exact hp p List.mem_cons_self c z
    · rcases List.mem_append.mp z with z | z
      · exact hy c z
      · exact ih z
theorem num_all (S : Sg P) (n : Nat) : ∀ c ∈ tl (numS n), P c := fun c h => by
  rw [tl_num] at h
  exact S.dig c (numL_digits n c h)
theorem lx_all (S : Sg P) (i : Nat) : ∀ c ∈ tl (lx i), P c := fun c h => by
  rw [tl_lx] at h
  rw [List.mem_singleton.mp h]
  split
  · exact S.oth 120 (by simp)
  · exact S.oth 121 (by simp)
theorem term_all (S : Sg P) (s i : Nat) : ∀ c ∈ tl (termS s (lx i)), P c := by
  unfold termS
  split
  · exact lx_all S i
  · refine join_all (fun c h => ?_) _ fun p hp => ?_
    · rw [tl_star] at h
      rw [List.mem_singleton.mp h]
      exact S.oth 42 (by simp)
    · rcases List.mem_cons.mp hp with z | z
      · rw [z]
        exact num_all S s
      · rw [List.mem_singleton.mp z]
        exact lx_all S i
theorem dash_all (S : Sg P) : ∀ c ∈ tl ("-" : Str), P c := fun c h => by
  rw [tl_dash] at h
  rw [List.mem_singleton.mp h]
  exact S.oth 45 (by simp)
theorem fw_all (S : Sg P) (s : Int) (i : Nat) : ∀ c ∈ tl (fw s i), P c := by
  unfold fw
  split
  · intro c h
    rw [tl_append] at h
    rcases List.mem_append.mp h with z | z
    · exact dash_all S c z
    · exact term_all S _ _ c z
  · exact term_all S _ _
theorem op_all (S : Sg P) (b : Int) : ∀ c ∈ tl (opS b), P c := by
  unfold opS
  split
  · exact dash_all S
  · intro c h
    rw [show tl ("+" : Str) = [43] by decide +kernel] at h
    rw [List.mem_singleton.mp h]
    exact S.oth 43 (by simp)
theorem int_all (S : Sg P) (k : Int) : ∀ c ∈ tl (intS k), P c := by
  cases k with
  | ofNat n => exact num_all S n
  | negSucc m =>
    intro c h
    rw [tl_neg] at h
    rcases List.mem_cons.mp h with z | z
    · rw [z]
      exact S.oth 45 (by simp)
    · exact S.dig c (numL_digits _ c z)
theorem sumW_all (S : Sg P) (ws : List Int) : ∀ p ∈ sumW ws, ∀ c ∈ tl p, P c := by
  intro p hp
  match ws, hp with
  | [a], hp =>
    rw [List.mem_singleton.mp hp]
    exact fw_all S _ _
  | [a, b], hp =>
    by_cases za : a = 0
    · simp only [sumW, za, if_true] at hp
      rw [List.mem_singleton.mp hp]
      exact fw_all S _ _
    · by_cases zb : b = 0
      · simp only [sumW, za, zb, if_false, if_true] at hp
        rw [List.mem_singleton.mp hp]
        exact fw_all S _ _
      · simp only [sumW, za, zb, if_false] at hp
        rcases List.mem_cons.mp hp with z | hp
        · rw [z]
          exact fw_all S _ _
        · rcases List.mem_cons.mp hp with z | hp
          · rw [z]
            exact op_all S _
          · rw [List.mem_singleton.mp hp]
            exact term_all S _ _
  | [], hp => exact absurd hp (by simp [sumW])
  | _ :: _ :: _ :: _, hp => exact absurd hp (by simp [sumW])
theorem row_all (S : Sg P) {op : Str} (ho : ∀ c ∈ tl op, P c) (ws : List Int) (k : Int) : ∀ c ∈ tl (rowS op ws k), P c := by
  unfold rowS
  rw [join_eq]
  refine join_all (fun c h => ?_) _ fun p hp => ?_
  · rw [tl_sp] at h
    rw [List.mem_singleton.mp h]
    exact S.oth 32 (by simp)
  · unfold rowW at hp
    rcases List.mem_append.mp hp with z | z
    · exact sumW_all S ws p z
    · rcases List.mem_cons.mp z with y | y
      · rw [y]
        exact ho
      · rw [List.mem_singleton.mp y]
        exact int_all S k
theorem rowOk_all (S : Sg P) {n : Nat} {b : Bd} {r : Str} (h : RowOk n b r) : ∀ c ∈ tl r, P c := by
  have le : ∀ c ∈ tl ("<=" : Str), P c := fun c h => by
    rw [show tl ("<=" : Str) = [60, 61] by decide +kernel] at h
    exact S.oth c (by rcases List.mem_cons.mp h with z | z; · rw [z]; simp
                      · rw [List.mem_singleton.mp z]; simp)
  have ge : ∀ c ∈ tl (">=" : Str), P c := fun c h => by
    rw [show tl (">=" : Str) = [62, 61] by decide +kernel] at h
    exact S.oth c (by rcases List.mem_cons.mp h with z | z; · rw [z]; simp
                      · rw [List.mem_singleton.mp z]; simp)
  rcases h.2.2.2 with z | z
  · rw [z]
    exact row_all S le _ _
  · rw [z]
    exact row_all S ge _ _
end
theorem head_tl {kd : Str} {n : Nat} (hk : kd = "whole" ∨ kd = "any") (hn : n = 1 ∨ n = 2) : (tl (headS kd n)).all (fun c => decide (c < 128) && (c != 10)) = true ∧ (headS kd n).length ≤ 100 := by
  rcases hk with z | z <;> rcases hn with y | y <;> subst z <;> subst y <;> decide +kernel
def txS (kd : Str) (n : Nat) (ps : List Pr) : Str := Txt.join "\n" (headS kd n :: ps.map fun p => p.2)
theorem tl_nl : tl ("\n" : Str) = [10] := by decide +kernel
theorem tx_split {kd : Str} {n : Nat} {ps : List Pr} (ok : PsOk kd n ps) : (Txt.split (txS kd n ps) "\n").map D.str = rowsD kd n ps := by
  have e : Txt.split (txS kd n ps) "\n" = headS kd n :: ps.map fun p => p.2 := by
    refine split_join (y := "\n") (s := 10) (S := []) tl_nl (by decide +kernel) (by simp) fun p hp => ?_
    rcases List.mem_cons.mp hp with z | z
    · rw [z]
      intro h
      have := List.all_eq_true.mp (head_tl ok.kd ok.n12).1 10 h
      exact absurd this (by decide)
    · obtain ⟨r, hr, e⟩ := List.mem_map.mp z
      subst e
      intro h
      exact rowOk_all (P := fun c => c ≠ 10) ⟨fun c h => by omega, fun c h => by intro z; subst z; revert h; decide⟩ (ok.row r hr) 10 h rfl
  rw [e]
  unfold rowsD
  rw [List.map_cons, List.map_map]
  rfl
theorem tx_ok {kd : Str} {n : Nat} {ps : List Pr} (ok : PsOk kd n ps) : PyData.strOk (txS kd n ps) = true := by
  have h : ∀ c ∈ tl (txS kd n ps), c < 128 := by
    unfold txS
    rw [join_eq]
    refine join_all (fun c h => ?_) _ fun p hp => ?_
    · rw [tl_nl] at h
      rw [List.mem_singleton.mp h]
      decide
    · rcases List.mem_cons.mp hp with z | z
      · rw [z]
        intro c hc
        have := List.all_eq_true.mp (head_tl ok.kd ok.n12).1 c hc
        rw [Bool.and_eq_true, decide_eq_true_eq] at this
        exact this.1
      · obtain ⟨r, hr, e⟩ := List.mem_map.mp z
        subst e
        exact rowOk_all (P := fun c => c < 128) ⟨fun c h => by omega, fun c h => by revert c; decide⟩ (ok.row r hr)
  unfold PyData.strOk
  rw [← Array.all_toList, List.all_eq_true]
  intro c hc
  have := h c hc
  rw [decide_eq_true_eq]
  omega
def TxD : TxR := fun text kd n bs => ∃ ps, PsOk kd n ps ∧ bs = ps.map (fun p => p.1) ∧ text = txS kd n ps ∧ text.length ≤ 100000
theorem txD_ok : TxOk TxD := by
  refine ⟨fun ⟨ps, ok, _⟩ => ok.n12, fun ⟨ps, ok, e, _⟩ => ?_, fun ⟨ps, ok, e, _⟩ => ?_, fun ⟨ps, ok, _, e, _⟩ => ?_⟩
  · subst e
    refine ⟨by have := ok.n12; omega, by rw [List.length_map]; have := ok.len; omega, fun b hb => ?_⟩
    obtain ⟨p, hp, e⟩ := List.mem_map.mp hb
    subst e
    obtain ⟨wo, hc, _, _⟩ := ok.row p hp
    have g : ∀ i : Int, i.natAbs ≤ 1000000 → Lt 210 i := fun i hi => Nat.lt_of_le_of_lt hi (by decide)
    exact ⟨wo.len, fun i hi => g i (Nat.le_trans (wo.big i hi) (by decide)), g _ hc⟩
  · subst e
    rw [List.length_map]
    exact ok.len
  · rw [e]
    exact tx_ok ok
def sp_read : DSp := fun cs Q => ∃ text kd n bs, cs = [.dat (.str text)] ∧ TxD text kd n bs ∧ ∀ t l, Q (.sys t (.tup (List.replicate n (.str kd))) l (.str (soOf kd n)) (bndsT bs))
theorem sem_read (t : D) (Q : D → Prop) (h : sp_read [.dat t] Q) : d_read sp_init sp_wrong_rows { nx := fun _ => Q .non, rt := Q } (startR N_read t) := by
  obtain ⟨text, kd, n, bs, e, ⟨ps, ok, eb, et, tl⟩, h⟩ := h
  cases e
  subst eb
  have es : (Txt.split text "\n").map D.str = rowsD kd n ps := by rw [et]; exact tx_split ok
  unfold d_read
  refine ⟨by decide +kernel, by rw [sizeLine_eq]; omega, ?_⟩
  rw [es]
  refine ⟨kd, n, ps, .lst (rowsD kd n ps), rfl, .inr rfl, ok, ?_⟩
  exact ⟨kd, n, ps, rfl, ok, h⟩
theorem sem_system_of (cs : List Cell) (Q : D → Prop) (hl : cs.length = 1) (h : sp_system_of TxD cs Q) : d_system_of sp_read { nx := fun _ => Q .non, rt := Q } (startE N_system_of cs) := by
  obtain ⟨text, kd, n, bs, e, tx, h⟩ := h
  subst e
  exact ⟨text, kd, n, bs, rfl, tx, h⟩
end Fe
set_option Elab.async false
set_option linter.all false
set_option maxRecDepth 100000
set_option maxHeartbeats 4000000
/-! Layer 3: texts written by the law. -/
namespace Fe
open PySem PySem.W PySem.Calls PyProof.Rows L2 TL

def sp_law_term : DSp := fun cs Q => ∃ (s : Int) (i : Nat), cs = [.dat (.int s), .dat (.str (lx i))] ∧ s ≠ 0 ∧ s.natAbs ≤ 99 ∧ Q (.str (termS s.natAbs (lx i)))
theorem abs_if (s : Int) : (if s < 0 then -s else s) = (s.natAbs : Int) := by
  split <;> omega
theorem log_small {n k : Nat} (h : n < 2 ^ k) (hk : 0 < k) : n.log2 < k := by
  by_cases z : n = 0
  · rw [z]
    exact hk
  · exact (Nat.log2_lt z).mpr h
theorem sem_law_term (cs : List Cell) (Q : D → Prop) (hl : cs.length = 2) (h : sp_law_term cs Q) : d_law_term { nx := fun _ => Q .non, rt := Q } (startE N_law_term cs) := by
  obtain ⟨s, i, e, s0, s1, h⟩ := h
  subst e
  unfold d_law_term
  simp only [startE, List.map_cons, List.map_nil, List.length_cons, List.length_nil, List.replicate, List.cons_append, List.nil_append, List.getElem?_cons_zero, List.getElem?_cons_succ, List.set_cons_zero, List.set_cons_succ, wipeE, dSeq, dRet, dAsg, dAsgO, dPar, dParO, dIfS, dNx, dExpr, dFreeze, dAppend, dPop, dSetI, dFor, dUnT, dUnL, setE, dVar, dC, dBin, dUn, dCall, dA, dAS, dLnil, dLcons, dTup, dTest, dTru, dNot, dAnd, dOr, dAndV, dOrV, dNotT, dIf, dIfT, dChain, dFr, dLc, dYes, dIl, dIt, dIs, dIr, dgN, dgT, dZip, dEnum, itemsD, dSl, dNo, dPart, dIsN, dCat, dRep, dListOf, dStarL, dTruO, dCmpO, dS, fAdd, fSub, fMul, fMod, fDiv, fPow, fLt, fLe, fGt, fGe, fNeg, fEq, fNe, fIsB, fIsNotB, fTru, fLen, fIsi, isTy, fTuple, fAbs, fMax, fMin, fIx, fSl, fNotIn, fNotInK, fFld, fRev, Bool.not_true, Bool.not_false, Bool.false_eq_true, if_true, if_false, ite_true, ite_false, reduceIte, reduceCtorEq, decide_true, decide_false, true_and, and_true, beq_self_eq_true, bne_self_eq_false]
  rw [abs_if]
  unfold termS at h
  have l1 : (lx i).length = 1 := by rw [len_tl, tl_lx]; rfl
  have l2 : ("*" : Str).length = 1 := by decide +kernel
  by_cases z : s.natAbs = 1
  · rw [z]
    rw [if_pos z] at h
    exact h
  · have e : (((s.natAbs : Nat) : Int) == 1) = false := by
      rw [beq_eq_false_iff_ne]
      omega
    rw [e]
    rw [if_neg z] at h
    have l3 : (numS s.natAbs).length ≤ 2 := len_numS (by decide) (by omega)
    show (((s.natAbs : Nat) : Int).natAbs.log2 < 1920) ∧ (numS s.natAbs).length + ("*" : Str).length ≤ sizeLine ∧ (numS s.natAbs ++ "*" : Str).length + (lx i).length ≤ sizeLine ∧ Q (.str (numS s.natAbs ++ "*" ++ lx i))
    refine ⟨log_small (k := 1920) (Nat.lt_of_le_of_lt (show (((s.natAbs : Nat) : Int).natAbs) ≤ 99 by omega) (by decide +kernel)) (by decide), by rw [l2]; exact sz _ (by omega), ?_, h⟩
    rw [len_tl, tl_append, List.length_append, ← len_tl, ← len_tl, l1, l2]
    exact sz _ (by omega)
/-- a sum's text, one more term -/
def jT (f : Str) (s : Int) : Str := if (f == ("" : Str)) = true then (if s < 0 then ("-" : Str) else ("" : Str)) else (if s < 0 then (" - " : Str) else (" + " : Str))
def stepT (f : Str) (s : Int) (i : Nat) : Str := if s = 0 then f else f ++ jT f s ++ termS s.natAbs (lx i)
def b_st : DS := (dIfS (dTest (dBin fNe (dVar 2) (dC (.int 0)))) (dSeq (dAsg 4 (dIf (dTest (dBin fEq (dVar 1) (dC (.str "")))) (dIf (dTest (dBin fLt (dVar 2) (dC (.int 0)))) (dC (.str "-")) (dC (.str ""))) (dIf (dTest (dBin fLt (dVar 2) (dC (.int 0)))) (dC (.str " - ")) (dC (.str " + "))))) (dAsg 1 (dBin fAdd (dBin fAdd (dVar 1) (dVar 4)) (dCall sp_law_term (dA (dLcons (dVar 2) (dLcons (dVar 3) dLnil))))))) dNx)
theorem app_len (a b : Str) : (a ++ b : Str).length = a.length + b.length := by
  rw [len_tl, tl_append, List.length_append, ← len_tl, ← len_tl]
theorem st_step {f : Str} {s : Int} {i : Nat} {e0 e4 : Option Cell} {Z : DEnds} (s1 : s.natAbs ≤ 99) (fl : f.length ≤ 100) (q : ∀ e4, Z.nx [e0, some (.dat (.str (stepT f s i))), some (.dat (.int s)), some (.dat (.str (lx i))), e4]) :
    b_st Z [e0, some (.dat (.str f)), some (.dat (.int s)), some (.dat (.str (lx i))), e4] := by
  unfold b_st
  unfold stepT at q
  by_cases z : s = 0
  · subst z
    rw [if_pos rfl] at q
    exact q _
  · rw [if_neg z] at q
    have e : (s != 0) = true := by rw [bne_iff_ne]; exact z
    simp only [startE, List.map_cons, List.map_nil, List.length_cons, List.length_nil, List.replicate, List.cons_append, List.nil_append, List.getElem?_cons_zero, List.getElem?_cons_succ, List.set_cons_zero, List.set_cons_succ, wipeE, dSeq, dRet, dAsg, dAsgO, dPar, dParO, dIfS, dNx, dExpr, dFreeze, dAppend, dPop, dSetI, dFor, dUnT, dUnL, setE, dVar, dC, dBin, dUn, dCall, dA, dAS, dLnil, dLcons, dTup, dTest, dTru, dNot, dAnd, dOr, dAndV, dOrV, dNotT, dIf, dIfT, dChain, dFr, dLc, dYes, dIl, dIt, dIs, dIr, dgN, dgT, dZip, dEnum, itemsD, dSl, dNo, dPart, dIsN, dCat, dRep, dListOf, dStarL, dTruO, dCmpO, dS, fAdd, fSub, fMul, fMod, fDiv, fPow, fLt, fLe, fGt, fGe, fNeg, fEq, fNe, fIsB, fIsNotB, fTru, fLen, fIsi, isTy, fTuple, fAbs, fMax, fMin, fIx, fSl, fNotIn, fNotInK, fFld, fRev, Bool.not_true, Bool.not_false, Bool.false_eq_true, if_true, if_false, ite_true, ite_false, reduceIte, reduceCtorEq, decide_true, decide_false, true_and, and_true, beq_self_eq_true, bne_self_eq_false]
    rw [e]
    have tlen := term_len (s := s.natAbs) (i := i) s1
    have l0 : ("" : Str).length ≤ 3 := by decide +kernel
    have la : ("-" : Str).length ≤ 3 := by decide +kernel
    have lb : (" - " : Str).length ≤ 3 := by decide +kernel
    have lc : (" + " : Str).length ≤ 3 := by decide +kernel
    have fin : ∀ j : Str, j.length ≤ 3 → jT f s = j → f.length + j.length ≤ sizeLine ∧ (f ++ j : Str).length + (termS s.natAbs (lx i)).length ≤ sizeLine ∧ ∀ e4, Z.nx [e0, some (.dat (.str (f ++ j ++ termS s.natAbs (lx i)))), some (.dat (.int s)), some (.dat (.str (lx i))), e4] := fun j hj ej => by
      rw [ej] at q
      exact ⟨by rw [sizeLine_eq]; omega, by rw [app_len, sizeLine_eq]; omega, q⟩
    rw [if_pos rfl]
    cases hf : (f == ("" : Str)) with
    | true =>
      rw [if_pos rfl]
      by_cases hs : s < 0
      · rw [decide_eq_true hs, if_pos rfl]
        obtain ⟨f1, f2, f3⟩ := fin "-" la (by unfold jT; rw [hf, if_pos rfl, if_pos hs])
        exact ⟨f1, s, i, rfl, z, s1, f2, f3 _⟩
      · rw [decide_eq_false hs, if_neg Bool.false_ne_true]
        obtain ⟨f1, f2, f3⟩ := fin "" l0 (by unfold jT; rw [hf, if_pos rfl, if_neg hs])
        exact ⟨f1, s, i, rfl, z, s1, f2, f3 _⟩
    | false =>
      rw [if_neg Bool.false_ne_true]
      by_cases hs : s < 0
      · rw [decide_eq_true hs, if_pos rfl]
        obtain ⟨f1, f2, f3⟩ := fin " - " lb (by unfold jT; rw [hf, if_neg Bool.false_ne_true, if_pos hs])
        exact ⟨f1, s, i, rfl, z, s1, f2, f3 _⟩
      · rw [decide_eq_false hs, if_neg Bool.false_ne_true]
        obtain ⟨f1, f2, f3⟩ := fin " + " lc (by unfold jT; rw [hf, if_neg Bool.false_ne_true, if_neg hs])
        exact ⟨f1, s, i, rfl, z, s1, f2, f3 _⟩
theorem app_empty (a : Str) : ("" ++ a : Str) = a := ext_tl (by rw [tl_append, tl_empty]; rfl)
theorem step_first {s : Int} {i : Nat} (s0 : s ≠ 0) : stepT "" s i = fw s i := by
  unfold stepT jT fw
  rw [if_neg s0, if_pos (by decide +kernel)]
  split
  · rw [app_empty]
  · rw [app_empty, app_empty]
theorem step_zero {f : Str} {i : Nat} : stepT f 0 i = f := by
  unfold stepT
  rw [if_pos rfl]
theorem fw_ne (s : Int) (i : Nat) : (fw s i == ("" : Str)) = false := ne_tl (by
  rw [tl_empty]
  unfold fw
  obtain ⟨c, r, e, _⟩ := term_tl (s := s.natAbs) (i := i)
  split
  · rw [tl_append, tl_dash]
    intro h
    cases h
  · rw [e]
    intro h
    cases h)
theorem step_second {a b : Int} (b0 : b ≠ 0) : stepT (fw a 0) b 1 = Txt.join " " [fw a 0, opS b, termS b.natAbs (lx 1)] := by
  unfold stepT jT
  rw [if_neg b0, fw_ne, if_neg Bool.false_ne_true, join_eq]
  refine ext_tl ?_
  rw [tl_join, tl_sp, tl_append, tl_append]
  show _ = tl (fw a 0) ++ ([32] ++ (tl (opS b) ++ ([32] ++ tl (termS b.natAbs (lx 1)))))
  unfold opS
  split
  · rw [show tl (" - " : Str) = [32, 45, 32] by decide +kernel, tl_dash]
    simp
  · rw [show tl (" + " : Str) = [32, 43, 32] by decide +kernel, show tl ("+" : Str) = [43] by decide +kernel]
    simp
theorem join_one (y a : Str) : Txt.join y [a] = a := by
  rw [join_eq]
  rfl
def sp_law_sum_text : DSp := fun cs Q => ∃ n ws R, cs = [.dat R] ∧ seqI R ws ∧ WOk n ws ∧ Q (.str (Txt.join " " (sumW ws)))
theorem sem_law_sum_text (cs : List Cell) (Q : D → Prop) (hl : cs.length = 1) (h : sp_law_sum_text cs Q) : d_law_sum_text sp_law_term { nx := fun _ => Q .non, rt := Q } (startE N_law_sum_text cs) := by
  obtain ⟨n, ws, R, e, hR, ok, h⟩ := h
  subst e
  have eR : itemsD R = some (ws.map D.int) := by rcases hR with z | z <;> subst z <;> rfl
  have exy : itemsD (.str "xy") = some [.str (lx 0), .str (lx 1)] := by
    show some ((tl ("xy" : Str)).map fun c => D.str ⟨#[c]⟩) = _
    rw [tl_xy]
    show some [D.str ⟨#[120]⟩, .str ⟨#[121]⟩] = _
    rw [xS, yS]
    rfl
  unfold d_law_sum_text
  show (match itemsD R, itemsD (.str "xy") with
    | some xs, some ys => dLoop (dgT 2 3) b_st { nx := fun e => dRet (dVar 1) { nx := fun _ => Q .non, rt := Q } e, rt := Q } (zipD xs ys) [some (.dat R), some (.dat (.str "")), none, none, none]
    | _, _ => False)
  rw [eR, exy]
  obtain ⟨n12, wl, wb, w, hw, w0⟩ := ok
  match ws, wl, wb, hw with
  | [], wl, wb, hw => exact absurd hw (by simp)
  | [a], wl, wb, hw =>
    have ew := List.mem_singleton.mp hw
    subst ew
    show b_st { nx := fun e => dLoop (dgT 2 3) b_st _ [] e, rt := Q, bk := _, ct := _ } [some (.dat R), some (.dat (.str "")), some (.dat (.int w)), some (.dat (.str (lx 0))), none]
    refine st_step (wb w List.mem_cons_self) (by decide +kernel) fun e4 => ?_
    rw [step_first w0]
    have e : Txt.join " " (sumW [w]) = fw w 0 := join_one _ _
    rw [e] at h
    exact h
  | [a, b], wl, wb, hw =>
    have ba : a.natAbs ≤ 99 := wb a (by simp)
    have bb : b.natAbs ≤ 99 := wb b (by simp)
    show b_st { nx := fun e => dLoop (dgT 2 3) b_st _ [.tup [.int b, .str (lx 1)]] e, rt := Q, bk := _, ct := _ } [some (.dat R), some (.dat (.str "")), some (.dat (.int a)), some (.dat (.str (lx 0))), none]
    refine st_step ba (by decide +kernel) fun e4 => ?_
    have fl : (stepT "" a 0).length ≤ 100 := by
      by_cases z : a = 0
      · rw [z, step_zero]
        decide +kernel
      · rw [step_first z]
        exact Nat.le_trans (fw_len ba) (by decide)
    show b_st { nx := fun e => dLoop (dgT 2 3) b_st _ [] e, rt := Q, bk := _, ct := _ } [some (.dat R), some (.dat (.str (stepT "" a 0))), some (.dat (.int b)), some (.dat (.str (lx 1))), e4]
    refine st_step bb fl fun e4 => ?_
    by_cases za : a = 0
    · subst za
      have hb : b ≠ 0 := by
        rcases List.mem_cons.mp hw with z | z
        · exact absurd z w0
        · rw [List.mem_singleton.mp z] at w0
          exact w0
      rw [step_zero, step_first hb]
      have e : Txt.join " " (sumW [0, b]) = fw b 1 := join_one _ _
      rw [e] at h
      exact h
    · rw [step_first za]
      by_cases zb : b = 0
      · subst zb
        rw [step_zero]
        have e : Txt.join " " (sumW [a, 0]) = fw a 0 := by
          simp only [sumW, za, if_false, if_true]
          exact join_one _ _
        rw [e] at h
        exact h
      · rw [step_second zb]
        have e : sumW [a, b] = [fw a 0, opS b, termS b.natAbs (lx 1)] := by simp only [sumW, za, zb, if_false]
        rw [e] at h
        exact h
  | _ :: _ :: _ :: _, wl, wb, hw =>
    rw [List.length_cons, List.length_cons, List.length_cons] at wl
    omega
end Fe
set_option Elab.async false
set_option linter.all false
set_option maxRecDepth 100000
set_option maxHeartbeats 4000000
/-! Layer 3: a system's text, written. -/
namespace Fe
open PySem PySem.W PySem.Calls PyProof.Rows L2 TL

theorem joinL_two {S : List Nat} {a b : List Nat} : ∀ {l : List (List Nat)}, l ≠ [] → joinL S (l ++ [a, b]) = joinL S l ++ (S ++ (a ++ (S ++ b)))
  | [], h => absurd rfl h
  | [p], _ => rfl
  | p :: q :: r, _ => by
    have ih := joinL_two (S := S) (a := a) (b := b) (l := q :: r) (by simp)
    show p ++ (S ++ joinL S ((q :: r) ++ [a, b])) = (p ++ (S ++ joinL S (q :: r))) ++ _
    rw [ih]
    simp
theorem sumW_ne {n : Nat} {ws : List Int} (ok : WOk n ws) : sumW ws ≠ [] := by
  have := (sum_cnt ok).1
  intro h
  rw [h] at this
  exact absurd this (by decide)
theorem row_eq {n : Nat} {ws : List Int} {op sp1 : Str} {c : Int} (ok : WOk n ws) (h : tl sp1 = 32 :: (tl op ++ [32])) : (Txt.join " " (sumW ws) ++ sp1 ++ intS c : Str) = rowS op ws c := by
  unfold rowS rowW
  refine ext_tl ?_
  rw [tl_append, tl_append, join_eq, join_eq, tl_join, tl_join, List.map_append, tl_sp]
  show _ = joinL [32] ((sumW ws).map tl ++ [tl op, tl (intS c)])
  rw [joinL_two (by
    intro z
    exact sumW_ne ok (List.map_eq_nil_iff.mp z)), h]
  simp
theorem join1_len {y : Str} (hy : y.length = 1) : ∀ {l : List Str} {k : Nat}, (∀ p ∈ l, p.length ≤ k) → (Str.join y l).length ≤ l.length * (k + 1)
  | [], k, _ => by
    show (Str.join y []).length ≤ _
    rw [len_tl, tl_join]
    exact Nat.zero_le _
  | [p], k, h => by
    have := h p List.mem_cons_self
    show p.length ≤ _
    rw [List.length_singleton]
    omega
  | p :: q :: r, k, h => by
    have h1 := h p List.mem_cons_self
    have h2 := join1_len hy (l := q :: r) (fun z hz => h z (List.mem_cons_of_mem _ hz))
    show (p ++ y ++ Str.join y (q :: r) : Str).length ≤ _
    rw [app_len, app_len, hy, List.length_cons (a := p), Nat.add_mul, Nat.one_mul]
    omega
theorem sumW_len {n : Nat} {ws : List Int} (ok : WOk n ws) : ∀ p ∈ sumW ws, p.length ≤ 5 := by
  intro p hp
  match ws, hp, ok.big with
  | [a], hp, hb =>
    rw [List.mem_singleton.mp hp]
    exact fw_len (hb a (by simp))
  | [a, b], hp, hb =>
    have ba := hb a (by simp)
    have bb := hb b (by simp)
    by_cases za : a = 0
    · simp only [sumW, za, if_true] at hp
      rw [List.mem_singleton.mp hp]
      exact fw_len bb
    · by_cases zb : b = 0
      · simp only [sumW, za, zb, if_false, if_true] at hp
        rw [List.mem_singleton.mp hp]
        exact fw_len ba
      · simp only [sumW, za, zb, if_false] at hp
        rcases List.mem_cons.mp hp with z | hp
        · rw [z]
          exact fw_len ba
        · rcases List.mem_cons.mp hp with z | hp
          · rw [z]
            unfold opS
            split <;> decide +kernel
          · rw [List.mem_singleton.mp hp]
            exact Nat.le_trans (term_len bb) (by decide)
  | [], hp, _ => exact absurd hp (by simp [sumW])
  | _ :: _ :: _ :: _, hp, _ => exact absurd hp (by simp [sumW])
theorem sumT_len {n : Nat} {ws : List Int} (ok : WOk n ws) : (Txt.join " " (sumW ws)).length ≤ 18 := by
  rw [join_eq]
  have := join1_len (y := " ") (by decide +kernel) (sumW_len ok)
  have := (sum_cnt ok).2
  omega
theorem intS_len {c : Int} (h : c.natAbs ≤ 1000000) : (intS c).length ≤ 8 := by
  cases c with
  | ofNat n =>
    have : (numS n).length ≤ 7 := len_numS (by decide) (by
      have e : (Int.ofNat n).natAbs = n := rfl
      omega)
    exact Nat.le_trans this (by decide)
  | negSucc m =>
    rw [len_tl, tl_neg, List.length_cons]
    have := numL_len (n := m + 1) (k := 7) (by decide) (by
      have e : (Int.negSucc m).natAbs = m + 1 := rfl
      omega)
    omega
theorem str_ok {c : Int} (h : c.natAbs ≤ 1000000) : c.natAbs.log2 < 1920 := log_small (k := 1920) (Nat.lt_of_le_of_lt h (by decide +kernel)) (by decide)
structure BdOk (n : Nat) (b : Bd) : Prop where
  w : WOk n b.1
  c : b.2.natAbs ≤ 1000000
theorem row_ok1 {n : Nat} {b : Bd} (h : BdOk n b) : RowOk n b (rowS "<=" b.1 b.2) ∧ (Txt.join " " (sumW b.1) ++ " <= " ++ intS b.2 : Str) = rowS "<=" b.1 b.2 := by
  have e := row_eq (op := "<=") (sp1 := " <= ") (c := b.2) h.w (by decide +kernel)
  refine ⟨⟨h.w, h.c, ?_, .inl rfl⟩, e⟩
  rw [← e, app_len, app_len, show (" <= " : Str).length = 4 by decide +kernel]
  have := sumT_len h.w
  have := intS_len h.c
  omega
theorem row_ok2 {n : Nat} {b : Bd} (h : BdOk n b) : RowOk n b (rowS ">=" (neg b.1) (-b.2)) ∧ (Txt.join " " (sumW (neg b.1)) ++ " >= " ++ intS (-b.2) : Str) = rowS ">=" (neg b.1) (-b.2) := by
  have e := row_eq (op := ">=") (sp1 := " >= ") (c := -b.2) (neg_wok h.w) (by decide +kernel)
  refine ⟨⟨h.w, h.c, ?_, .inr rfl⟩, e⟩
  rw [← e, app_len, app_len, show (" >= " : Str).length = 4 by decide +kernel]
  have := sumT_len (neg_wok h.w)
  have := intS_len (c := -b.2) (by rw [Int.natAbs_neg]; exact h.c)
  omega
def b_ent : DS := (dIfS (dTest (dBin fEq (dCall sp_law_draw (dAS 0 (dLcons (dC (.int 2)) dLnil))) (dC (.int 0)))) (dAppend 3 (dBin fAdd (dBin fAdd (dCall sp_law_sum_text (dA (dLcons (dVar 4) dLnil))) (dC (.str " <= "))) (dUn fStrI (dVar 5)))) (dAppend 3 (dBin fAdd (dBin fAdd (dCall sp_law_sum_text (dA (dLcons (dFr (dLc (dIt (dVar 4)) (dgN 8) dYes (dUn fNeg (dVar 8)) [8])) dLnil))) (dC (.str " >= "))) (dUn fStrI (dUn fNeg (dVar 5))))))
theorem ent_step {n : Nat} {b : Bd} {acc : List D} {e1 e2 e6 e7 e8 : Option Cell} {Z : DEnds} (h : BdOk n b) (ha : acc.length ≤ 100) (q : ∀ r, RowOk n b r → Z.nx [some .spr, e1, e2, some (.own (acc ++ [.str r])), some (.dat (tI b.1)), some (.dat (.int b.2)), e6, e7, e8]) :
    b_ent Z [some .spr, e1, e2, some (.own acc), some (.dat (tI b.1)), some (.dat (.int b.2)), e6, e7, e8] := by
  have hz : acc.length < sizeLine := by rw [sizeLine_eq]; omega
  have hc2 : (-b.2).natAbs ≤ 1000000 := by rw [Int.natAbs_neg]; exact h.c
  unfold b_ent
  refine ⟨rfl, draw_ok' (n := 2) (by decide) (by decide) fun i i0 i1 => ?_⟩
  show (if (i == 0) = true then _ else _)
  cases (i == 0) with
  | true =>
    obtain ⟨r1, r2⟩ := row_ok1 h
    have l := r1.2.2.1
    rw [← r2, app_len] at l
    rw [if_pos rfl]
    refine ⟨n, b.1, tI b.1, rfl, .inl rfl, h.w, ?_⟩
    refine ⟨by rw [sizeLine_eq, ← app_len]; omega, str_ok h.c, by rw [sizeLine_eq]; show _ + (intS b.2).length ≤ _; omega, hz, ?_⟩
    rw [show (Txt.join " " (sumW b.1) ++ " <= " ++ Str.ofString (toString b.2) : Str) = rowS "<=" b.1 b.2 from r2]
    exact q _ r1
  | false =>
    obtain ⟨r1, r2⟩ := row_ok2 h
    have l := r1.2.2.1
    rw [← r2, app_len] at l
    rw [if_neg Bool.false_ne_true]
    have hw := h.w.len
    have hn := h.w.n12
    show dLcGo _ _ _ _ (b.1.map D.int) [] _
    refine lc_map' (g := fun w => D.int (-w)) b.1 _ (fun w hw => ⟨_, rfl, fun R hR => hR⟩) (sz _ (by omega)) ?_
    have e : b.1.map (fun w => D.int (-w)) = (neg b.1).map D.int := by
      unfold neg
      rw [List.map_map]
      rfl
    rw [e]
    refine ⟨n, neg b.1, .lst ((neg b.1).map D.int), rfl, .inr rfl, neg_wok h.w, ?_⟩
    refine ⟨by rw [sizeLine_eq, ← app_len]; omega, str_ok hc2, by rw [sizeLine_eq]; show _ + (intS (-b.2)).length ≤ _; omega, hz, ?_⟩
    rw [show (Txt.join " " (sumW (neg b.1)) ++ " >= " ++ Str.ofString (toString (-b.2)) : Str) = rowS ">=" (neg b.1) (-b.2) from r2]
    exact q _ r1
theorem ent_go {n : Nat} {e1 e2 : Option Cell} {Z : DEnds} : ∀ (bs : List Bd) (ps : List Pr) (e4 e5 e6 e7 e8 : Option Cell), (∀ b ∈ bs, BdOk n b) → (∀ p ∈ ps, RowOk n p.1 p.2) → ps.length + bs.length ≤ 10 →
    (∀ (ps' : List Pr) (e4 e5 e6 e7 e8 : Option Cell), ps'.map (fun p => p.1) = ps.map (fun p => p.1) ++ bs → (∀ p ∈ ps', RowOk n p.1 p.2) → Z.nx [some .spr, e1, e2, some (.own (rowsD "whole" n ps')), e4, e5, e6, e7, e8]) →
    dLoop (dgT 4 5) b_ent Z (bs.map bnd) [some .spr, e1, e2, some (.own (rowsD "whole" n ps)), e4, e5, e6, e7, e8]
  | [], ps, e4, e5, e6, e7, e8, _, hp, _, q => q ps e4 e5 e6 e7 e8 (by rw [List.append_nil]) hp
  | b :: bs, ps, e4, e5, e6, e7, e8, hb, hp, hl, q => by
    rw [List.length_cons] at hl
    show b_ent { nx := fun e => dLoop (dgT 4 5) b_ent Z (bs.map bnd) e, rt := Z.rt, bk := Z.nx, ct := _ } [some .spr, e1, e2, some (.own (rowsD "whole" n ps)), some (.dat (tI b.1)), some (.dat (.int b.2)), e6, e7, e8]
    refine ent_step (hb b List.mem_cons_self) (by unfold rowsD; rw [List.length_cons, List.length_map]; omega) fun r hr => ?_
    have e : rowsD "whole" n ps ++ [.str r] = rowsD "whole" n (ps ++ [(b, r)]) := by
      unfold rowsD
      rw [List.map_append]
      rfl
    rw [e]
    refine ent_go bs (ps ++ [(b, r)]) _ _ _ _ _ (fun c hc => hb c (List.mem_cons_of_mem _ hc)) (fun p hp' => ?_) (by rw [List.length_append, List.length_singleton]; omega) fun ps' f4 f5 f6 f7 f8 e' h' => ?_
    · rcases List.mem_append.mp hp' with z | z
      · exact hp p z
      · rw [List.mem_singleton.mp z]
        exact hr
    · refine q ps' f4 f5 f6 f7 f8 ?_ h'
      rw [e', List.map_append, List.append_assoc]
      rfl
theorem sumlen_le : ∀ {l : List Str} {k : Nat}, (∀ p ∈ l, p.length ≤ k) → (l.map (·.length)).sum ≤ l.length * k
  | [], _, _ => Nat.zero_le _
  | p :: l, k, h => by
    have h1 := h p List.mem_cons_self
    have h2 := sumlen_le (fun z hz => h z (List.mem_cons_of_mem _ hz) : ∀ z ∈ l, z.length ≤ k)
    rw [List.map_cons, List.sum_cons, List.length_cons, Nat.add_mul, Nat.one_mul]
    omega
theorem rows_strs (kd : Str) (n : Nat) (ps : List Pr) : rowsD kd n ps = (headS kd n :: ps.map fun p => p.2).map D.str := by
  unfold rowsD
  rw [List.map_cons, List.map_map]
  rfl
def sp_law_entry : DSp := fun cs Q => ∃ n bs, cs = [.spr, .dat (kindsL n), .dat (bndsL bs)] ∧ (n = 1 ∨ n = 2) ∧ (∀ b ∈ bs, BdOk n b) ∧ bs.length ≤ 10 ∧ ∀ text, TxD text "whole" n bs → Q (.lst [.str text, kindsL n, bndsL bs])
def f_ent : DS := (dFreeze 3 (dRet (dFr (dLcons (dBin fJoin (dS (dC (.str "\n"))) (dVar 3)) (dLcons (dVar 1) (dLcons (dFr (dListOf (dVar 2))) dLnil))))))
def h_ent : DE := (dBin fJoin (dS (dC (.str ", "))) (dFr (dLc (dZip (dC (.str "xy")) (dVar 1)) (dgT 6 7) dYes (dBin fAdd (dBin fAdd (dVar 6) (dC (.str " "))) (dVar 7)) [6, 7])))
theorem fJoin_of {x : Str} {ys : List Str} {R : D → Prop} (hc : (ys.map (·.length)).sum + ys.length * x.length ≤ 16777216) (h : R (.str (Txt.join x ys))) : fJoin (.str x) (.lst (ys.map D.str)) R := by
  show (match asStrs (ys.map D.str) with
    | some ys => (ys.map (·.length)).sum + ys.length * x.length ≤ 16777216 ∧ R (.str (Txt.join x ys))
    | none => False)
  rw [asStrs_map]
  exact ⟨hc, h⟩
theorem hj1 : Txt.join ", " [(⟨#[120]⟩ ++ " " ++ "whole" : Str)] = headS "whole" 1 := by decide +kernel
theorem hj2 : Txt.join ", " [(⟨#[120]⟩ ++ " " ++ "whole" : Str), (⟨#[121]⟩ ++ " " ++ "whole" : Str)] = headS "whole" 2 := by decide +kernel
theorem hq1 : (([(⟨#[120]⟩ ++ " " ++ "whole" : Str)] : List Str).map (·.length)).sum + ([(⟨#[120]⟩ ++ " " ++ "whole" : Str)] : List Str).length * (", " : Str).length ≤ 16777216 := by decide +kernel
theorem hq2 : (([(⟨#[120]⟩ ++ " " ++ "whole" : Str), (⟨#[121]⟩ ++ " " ++ "whole" : Str)] : List Str).map (·.length)).sum + ([(⟨#[120]⟩ ++ " " ++ "whole" : Str), (⟨#[121]⟩ ++ " " ++ "whole" : Str)] : List Str).length * (", " : Str).length ≤ 16777216 := by decide +kernel
theorem h_ent_ok {n : Nat} (hn : n = 1 ∨ n = 2) {e0 e2 e3 e4 e5 e6 e7 e8 : Option Cell} (R : D → Prop) (hR : R (.str (headS "whole" n))) : h_ent [e0, some (.dat (kindsL n)), e2, e3, e4, e5, e6, e7, e8] R := by
  unfold h_ent
  show (match itemsD (.str "xy"), itemsD (kindsL n) with
    | some xs, some ys => dLcGo (dgT 6 7) dYes (dBin fAdd (dBin fAdd (dVar 6) (dC (.str " "))) (dVar 7)) (wipeE [e0, some (.dat (kindsL n)), e2, e3, e4, e5, e6, e7, e8] [6, 7]) (zipD xs ys) [] fun ds => fJoin (.str ", ") (.lst ds) R
    | _, _ => False)
  rw [show itemsD (.str "xy") = some [.str ⟨#[120]⟩, .str ⟨#[121]⟩] by
    show some ((tl ("xy" : Str)).map fun c => D.str ⟨#[c]⟩) = _
    rw [tl_xy]
    rfl]
  have step : ∀ c : Nat, ∃ e1, dgT 6 7 (D.tup [.str ⟨#[c]⟩, .str "whole"]) (wipeE [e0, some (.dat (kindsL n)), e2, e3, e4, e5, e6, e7, e8] [6, 7]) = some e1 ∧ ∀ R2 : D → Prop, R2 (.str (⟨#[c]⟩ ++ " " ++ "whole" : Str)) → dBin fAdd (dBin fAdd (dVar 6) (dC (.str " "))) (dVar 7) e1 R2 := fun c =>
    ⟨_, rfl, fun R2 hR2 => ⟨by show 1 + (" " : Str).length ≤ sizeLine; rw [show (" " : Str).length = 1 by decide +kernel]; exact sz 2 (by decide), by rw [app_len, show (" " : Str).length = 1 by decide +kernel, show ("whole" : Str).length = 5 by decide +kernel]; exact sz 7 (by decide), hR2⟩⟩
  rw [show itemsD (kindsL n) = some (List.replicate n (.str "whole")) from rfl]
  obtain ⟨f1, a1, a2⟩ := step 120
  obtain ⟨g1, b1, b2⟩ := step 121
  have l0 : (0 : Nat) < sizeLine := sz 1 (by decide)
  have l1 : (1 : Nat) < sizeLine := sz 2 (by decide)
  rcases hn with y | y <;> subst y
  · show dLcGo (dgT 6 7) dYes (dBin fAdd (dBin fAdd (dVar 6) (dC (.str " "))) (dVar 7)) (wipeE [e0, some (.dat (kindsL 1)), e2, e3, e4, e5, e6, e7, e8] [6, 7]) [D.tup [.str ⟨#[120]⟩, .str "whole"]] [] fun ds => fJoin (.str ", ") (.lst ds) R
    unfold dLcGo
    rw [a1]
    refine a2 _ ⟨l0, ?_⟩
    unfold dLcGo
    exact fJoin_of (x := ", ") hq1 (by rw [hj1]; exact hR)
  · show dLcGo (dgT 6 7) dYes (dBin fAdd (dBin fAdd (dVar 6) (dC (.str " "))) (dVar 7)) (wipeE [e0, some (.dat (kindsL 2)), e2, e3, e4, e5, e6, e7, e8] [6, 7]) [D.tup [.str ⟨#[120]⟩, .str "whole"], D.tup [.str ⟨#[121]⟩, .str "whole"]] [] fun ds => fJoin (.str ", ") (.lst ds) R
    unfold dLcGo
    rw [a1]
    refine a2 _ ⟨l0, ?_⟩
    unfold dLcGo
    rw [b1]
    refine b2 _ ⟨l1, ?_⟩
    unfold dLcGo
    exact fJoin_of (x := ", ") hq2 (by rw [hj2]; exact hR)
theorem sem_law_entry (cs : List Cell) (Q : D → Prop) (hl : cs.length = 3) (h : sp_law_entry cs Q) : d_law_entry sp_law_draw sp_law_sum_text { nx := fun _ => Q .non, rt := Q } (startE N_law_entry cs) := by
  obtain ⟨n, bs, e, hn, hb, bl, h⟩ := h
  subst e
  unfold d_law_entry
  show h_ent [some .spr, some (.dat (kindsL n)), some (.dat (bndsL bs)), none, none, none, none, none, none] fun d => dLoop (dgT 4 5) b_ent { nx := fun e => f_ent { nx := fun _ => Q .non, rt := Q } e, rt := Q } (bs.map bnd) [some .spr, some (.dat (kindsL n)), some (.dat (bndsL bs)), some (.own [d]), none, none, none, none, none]
  refine h_ent_ok hn _ ?_
  refine ent_go (n := n) bs [] none none none none none hb (fun p hp => absurd hp (by simp)) (by rw [List.length_nil]; omega) fun ps e4 e5 e6 e7 e8 ep hp => ?_
  rw [List.map_nil, List.nil_append] at ep
  have pl : ps.length ≤ 10 := by
    have := congrArg List.length ep
    rw [List.length_map] at this
    omega
  have ok : PsOk "whole" n ps := ⟨.inl rfl, hn, pl, hp⟩
  have all : ∀ p ∈ (headS "whole" n :: ps.map fun p => p.2), p.length ≤ 1000 := fun p hp' => by
    rcases List.mem_cons.mp hp' with z | z
    · rw [z]
      exact Nat.le_trans (head_tl (.inl rfl) hn).2 (by decide)
    · obtain ⟨r, hr, er⟩ := List.mem_map.mp z
      subst er
      exact (hp r hr).2.2.1
  have cnt : (headS "whole" n :: ps.map fun p => p.2).length ≤ 11 := by
    rw [List.length_cons, List.length_map]
    omega
  have tl1 : (txS "whole" n ps).length ≤ 100000 := by
    unfold txS
    rw [join_eq]
    have := join1_len (y := "\n") (by decide +kernel) all
    have := Nat.mul_le_mul_right 1001 cnt
    omega
  unfold f_ent
  show fJoin (.str "\n") (.lst (rowsD "whole" n ps)) (fun d => Q (.lst [d, kindsL n, bndsL bs]))
  rw [rows_strs]
  refine fJoin_of (x := "\n") ?_ (h _ ⟨ps, ok, ep.symm, rfl, tl1⟩)
  rw [show ("\n" : Str).length = 1 by decide +kernel]
  have := sumlen_le all
  have := Nat.mul_le_mul_right 1000 cnt
  omega
end Fe
set_option Elab.async false
set_option linter.all false
set_option maxRecDepth 100000
set_option maxHeartbeats 4000000
/-! Layer 3: what the law bends: numbers, points, nodes, pairs. -/
namespace Fe
open PySem PySem.W PySem.Calls PyProof.Rows L2 TL

/-! ### nice things -/
abbrev NL (k : Nat) (xs : List D) : Prop := ∀ x ∈ xs, nice k x
theorem nl_nil {k : Nat} : NL k [] := fun _ h => nomatch h
theorem nl_cons {k : Nat} {x : D} {xs : List D} (h : nice k x) (q : NL k xs) : NL k (x :: xs) := fun y hy => by
  rcases List.mem_cons.mp hy with z | z
  · rw [z]
    exact h
  · exact q y z
theorem nl_app {k : Nat} {xs ys : List D} (h : NL k xs) (q : NL k ys) : NL k (xs ++ ys) := fun y hy => by
  rcases List.mem_append.mp hy with z | z
  · exact h y z
  · exact q y z
theorem n_int {k : Nat} {i : Int} (h : Lt 200 i) : nice k (.int i) := by
  cases k <;> (unfold nice; exact h)
theorem n_non {k : Nat} : nice k .non := by
  cases k <;> (unfold nice; trivial)
theorem n_bl {k : Nat} {b : Bool} : nice k (.bl b) := by
  cases k <;> (unfold nice; trivial)
theorem n_str {k : Nat} {x : Str} (h : PyData.strOk x = true) : nice k (.str x) := by
  cases k <;> (unfold nice; exact h)
theorem n_tup {k : Nat} {xs : List D} (l : xs.length ≤ 200) (h : NL k xs) : nice (k + 1) (.tup xs) := by
  unfold nice
  exact ⟨l, h⟩
theorem n_lst {k : Nat} {xs : List D} (l : xs.length ≤ 200) (h : NL k xs) : nice (k + 1) (.lst xs) := by
  unfold nice
  exact ⟨l, h⟩
theorem nl_ints {k : Nat} {ws : List Int} (h : LtA 200 ws) : NL k (ws.map D.int) := fun x hx => by
  obtain ⟨i, hi, e⟩ := List.mem_map.mp hx
  subst e
  exact n_int (h i hi)
theorem n_ints {k : Nat} {ws : List Int} (l : ws.length ≤ 200) (h : LtA 200 ws) : nice (k + 1) (tI ws) := n_tup (by rw [List.length_map]; exact l) (nl_ints h)
theorem nl_map {α : Type} {k : Nat} {f : α → D} {xs : List α} (h : ∀ a ∈ xs, nice k (f a)) : NL k (xs.map f) := fun x hx => by
  obtain ⟨i, hi, e⟩ := List.mem_map.mp hx
  subst e
  exact h i hi
theorem nl_rev {k : Nat} {xs : List D} (h : NL k xs) : NL k xs.reverse := fun x hx => h x (List.mem_reverse.mp hx)
theorem nl_init {k : Nat} {xs : List D} (h : NL k xs) : NL k xs.dropLast := fun x hx => h x (List.dropLast_subset xs hx)
theorem nl_take {k n : Nat} {xs : List D} (h : NL k xs) : NL k (xs.take n) := fun x hx => h x (List.mem_of_mem_take hx)
theorem nl_drop {k n : Nat} {xs : List D} (h : NL k xs) : NL k (xs.drop n) := fun x hx => h x (List.mem_of_mem_drop hx)
theorem nl_put {k i : Nat} {v : D} {xs : List D} (h : NL k xs) (q : nice k v) : NL k (putL xs i v) := fun x hx => by
  rcases put_mem hx with z | z
  · exact h x z
  · rw [z]
    exact q
theorem n_put {k i : Nat} {v : D} {xs : List D} (l : xs.length ≤ 150) (h : NL k xs) (q : nice k v) : nice (k + 1) (.tup (putL xs i v)) := n_tup (by have := put_len xs i v; omega) (nl_put h q)
theorem str_int_ok (i : Int) : PyData.strOk (Str.ofString (toString i)) = true := by
  unfold PyData.strOk
  rw [← Array.all_toList, List.all_eq_true]
  intro c hc
  have := int_all (P := fun c => c < 128) ⟨fun c h => by omega, fun c h => by revert c; decide⟩ i c hc
  rw [decide_eq_true_eq]
  omega
theorem fIx_t {xs : List D} {i : Nat} {d : D} {R : D → Prop} (h : xs[i]? = some d) (q : R d) : fIx (.tup xs) (.int ((i : Nat) : Int)) R := by
  show (match L2.atI xs (i : Int) with
    | some d => R d
    | none => False)
  rw [atI_nat h]
  exact q
theorem fIx_m {xs : List D} {d : D} {R : D → Prop} (h : L2.atI xs (-1) = some d) (q : R d) : fIx (.tup xs) (.int (-1)) R := by
  show (match L2.atI xs (-1) with
    | some d => R d
    | none => False)
  rw [h]
  exact q
theorem fIx_l {xs : List D} {i : Nat} {d : D} {R : D → Prop} (h : xs[i]? = some d) (q : R d) : fIx (.lst xs) (.int ((i : Nat) : Int)) R := by
  show (match L2.atI xs (i : Int) with
    | some d => R d
    | none => False)
  rw [atI_nat h]
  exact q
/-- a part taken -/
theorem ixE {da db : DE} {en : En} {xs : List D} {i : Int} {d : D} {R : D → Prop} (ha : ∀ R : D → Prop, R (.tup xs) → da en R) (hb : ∀ R : D → Prop, R (.int i) → db en R) (h : L2.atI xs i = some d) (q : R d) : dBin fIx da db en R := ha _ (hb _ (by
  show (match L2.atI xs i with
    | some d => R d
    | none => False)
  rw [h]
  exact q))
theorem sz2 {n : Nat} (h : n ≤ 5000) : n ≤ sizeLine := by rw [sizeLine_eq]; omega
theorem lt_le {j k : Nat} {a : Int} (h : Lt j a) (l : j ≤ k) : Lt k a := lt_mono h l
theorem lt_s {k : Nat} {a : Int} (h : a.natAbs ≤ 1000000000) (l : 40 ≤ k) : Lt k a := Nat.lt_of_le_of_lt h (Nat.lt_of_lt_of_le (show 1000000000 < 2 ^ 40 by decide) (Nat.pow_le_pow_right (by decide) l))
theorem lt_39 : Lt 200 (10 ^ (39 : Int).toNat) := by
  show ((10 : Int) ^ (39 : Int).toNat).natAbs < 2 ^ 200
  decide +kernel
theorem lt_sub {k : Nat} {a b : Int} (h : Lt k a) (q : Lt k b) : Lt (k + 1) (a - b) := by
  rw [Int.sub_eq_add_neg]
  exact lt_add h (lt_neg q)
theorem pow39 : (0 : Int) ≤ 39 ∧ (39 : Int) ≤ 1000000 ∧ (10 : Int).natAbs < 2 ^ 64 := by decide

/-! ### numbers -/
def sp_law_bent_numbers : DSp := fun cs Q => ∃ ws, cs = [.spr, .dat (tI ws)] ∧ 0 < ws.length ∧ ws.length ≤ 100 ∧ LtA 150 ws ∧ ∀ d, nice 2 d → Q d
theorem sem_law_bent_numbers (cs : List Cell) (Q : D → Prop) (hl : cs.length = 2) (h : sp_law_bent_numbers cs Q) : d_law_bent_numbers sp_law_draw sp_law_of sp_law_put { nx := fun _ => Q .non, rt := Q } (startE N_law_bent_numbers cs) := by
  obtain ⟨ws, e, l0, l1, hw, q⟩ := h
  subst e
  unfold d_law_bent_numbers
  have ll : (ws.map D.int).length = ws.length := List.length_map _
  have h200 : LtA 200 ws := fun i hi => lt_mono (hw i hi) (by decide)
  refine ⟨rfl, draw_ok (n := (ws.map D.int).length) (by omega) (by omega) fun j hj => ?_⟩
  have ej : (ws.map D.int)[j]? = some (.int (ws[j]'(by omega))) := by
    rw [List.getElem?_map, List.getElem?_eq_getElem (by omega)]
    rfl
  have hs : Lt 150 (ws[j]'(by omega)) := hw _ (List.getElem_mem _)
  generalize ws[j]'(by omega) = s at ej hs
  refine fIx_t ej ?_
  refine ⟨rfl, draw_ok (n := 4) (by decide) (by decide) fun r _ => ?_⟩
  have l2 : (ws.map D.int).length + 1 ≤ sizeLine := sz2 (by omega)
  have l3 : ws.length ≤ sizeLine := sz2 (by omega)
  show (if ((r : Int) == 0) = true then _ else _)
  cases ((r : Int) == 0) with
  | true =>
    rw [if_pos rfl]
    refine ⟨l2, ?_⟩
    show dLcGo _ _ _ _ (ws.map D.int) [] _
    refine lc_map' (g := fun w => D.int (-w)) ws _ (fun w hw => ⟨_, rfl, fun R hR => hR⟩) l3 ?_
    refine ⟨rfl, ?_⟩
    show dLcGo _ _ _ _ (ws.map D.int) [] _
    refine lc_map' (g := fun _ => D.int 0) ws _ (fun w hw => ⟨_, rfl, fun R hR => hR⟩) l3 ?_
    show dLcGo _ _ _ _ (ws.map D.int) [] _
    refine lc_map' (g := fun w => D.int (2 * w)) ws _ (fun w hw => ⟨_, rfl, fun R hR => ?_⟩) l3 ?_
    · exact ⟨mulOk (by decide) (sm_of (h200 _ hw) (by decide) (by decide)), hR⟩
    refine ⟨sz2 (by show 7 + 2 ≤ 5000; decide), ?_⟩
    refine of_ok (by show 0 < 9; decide) (by show 9 < 1000000; decide) fun d hd => q d ?_
    have base : NL 1 (ws.map D.int) := nl_ints h200
    have lb : (ws.map D.int).length ≤ 100 := by omega
    revert d
    rw [cut_init]
    refine nl_cons (n_lst (by omega) base) ?_
    refine nl_cons (n_tup (by rw [List.length_append]; show _ + 1 ≤ _; omega) (nl_app base (nl_cons (n_int (by decide)) nl_nil))) ?_
    refine nl_cons (n_tup (by rw [List.length_dropLast]; omega) (nl_init base)) ?_
    refine nl_cons n_non ?_
    refine nl_cons (n_tup (by decide) nl_nil) ?_
    refine nl_cons (n_tup (by rw [List.length_reverse]; omega) (nl_rev base)) ?_
    refine nl_cons (n_tup (by rw [List.length_map]; omega) (nl_map fun a ha => n_int (lt_neg (h200 a ha)))) ?_
    refine nl_cons (n_tup (by rw [List.length_map]; omega) (nl_map fun a ha => n_int (by decide))) ?_
    refine nl_cons (n_tup (by rw [List.length_map]; omega) (nl_map fun a ha => n_int (lt_mono (lt_mul (j := 2) (by decide) (hw a ha)) (by decide)))) ?_
    exact nl_nil
  | false =>
    rw [if_neg Bool.false_ne_true]
    refine ⟨pow39, ?_⟩
    refine ⟨rfl, of_ok (by show 0 < 13; decide) (by show 13 < 1000000; decide) fun d hd => ?_⟩
    refine ⟨ws.map D.int, j, d, rfl, by omega, q _ ?_⟩
    refine n_put (by omega) (nl_ints h200) ?_
    revert d
    refine nl_cons (n_int (lt_mono (lt_add hs (lt_one (by decide))) (by decide))) ?_
    refine nl_cons (n_int (lt_mono (lt_sub hs (lt_one (by decide))) (by decide))) ?_
    refine nl_cons (n_int (lt_mono (lt_neg hs) (by decide))) ?_
    refine nl_cons (n_int (by decide)) ?_
    refine nl_cons (n_int (by decide)) ?_
    refine nl_cons (n_int (by decide)) ?_
    refine nl_cons (n_int (by decide)) ?_
    refine nl_cons (n_int (by decide)) ?_
    refine nl_cons n_non ?_
    refine nl_cons n_bl ?_
    refine nl_cons n_bl ?_
    refine nl_cons (n_tup (by show 1 ≤ 200; decide) (nl_cons (n_int (lt_mono hs (by decide))) nl_nil)) ?_
    refine nl_cons (n_int lt_39) ?_
    exact nl_nil

/-! ### points -/
def sp_law_bent_spot : DSp := fun cs Q => ∃ ws, cs = [.spr, .dat (tI ws)] ∧ 0 < ws.length ∧ ws.length ≤ 100 ∧ LtA 150 ws ∧ ∀ d, nice 2 d → Q d
theorem sem_law_bent_spot (cs : List Cell) (Q : D → Prop) (hl : cs.length = 2) (h : sp_law_bent_spot cs Q) : d_law_bent_spot sp_law_draw sp_law_of sp_law_put { nx := fun _ => Q .non, rt := Q } (startE N_law_bent_spot cs) := by
  obtain ⟨ws, e, l0, l1, hw, q⟩ := h
  subst e
  unfold d_law_bent_spot
  have ll : (ws.map D.int).length = ws.length := List.length_map _
  have h200 : LtA 200 ws := fun i hi => lt_mono (hw i hi) (by decide)
  refine ⟨rfl, draw_ok (n := (ws.map D.int).length) (by omega) (by omega) fun j hj => ?_⟩
  have ej : (ws.map D.int)[j]? = some (.int (ws[j]'(by omega))) := by
    rw [List.getElem?_map, List.getElem?_eq_getElem (by omega)]
    rfl
  have hs : Lt 150 (ws[j]'(by omega)) := hw _ (List.getElem_mem _)
  generalize ws[j]'(by omega) = s at ej hs
  refine fIx_t ej ?_
  refine ⟨rfl, draw_ok (n := 6) (by decide) (by decide) fun r _ => ?_⟩
  have l2 : (ws.map D.int).length + 1 ≤ sizeLine := sz2 (by omega)
  show (if ((r : Int) == 0) = true then _ else _)
  cases ((r : Int) == 0) with
  | true =>
    rw [if_pos rfl]
    refine ⟨rfl, l2, ?_⟩
    refine of_ok (by show 0 < 6; decide) (by show 6 < 1000000; decide) fun d hd => q d ?_
    have base : NL 1 (ws.map D.int) := nl_ints h200
    have lb : (ws.map D.int).length ≤ 100 := by omega
    revert d
    rw [cut_init]
    refine nl_cons (n_tup (by rw [List.length_append]; show _ + 1 ≤ _; omega) (nl_app base (nl_cons (n_int (by decide)) nl_nil))) ?_
    refine nl_cons (n_tup (by rw [List.length_dropLast]; omega) (nl_init base)) ?_
    refine nl_cons (n_lst (by omega) base) ?_
    refine nl_cons n_non ?_
    refine nl_cons (n_tup (by decide) nl_nil) ?_
    refine nl_cons (n_tup (by rw [List.length_reverse]; omega) (nl_rev base)) ?_
    exact nl_nil
  | false =>
    rw [if_neg Bool.false_ne_true]
    have hp : Lt 200 ((10 : Int) ^ (9 : Int).toNat) := by decide +kernel
    have hp2 : Lt 150 ((10 : Int) ^ (9 : Int).toNat) := by decide +kernel
    have sl : s.natAbs.log2 < 1920 := log_small (k := 1920) (lt_mono hs (by decide)) (by decide)
    refine ⟨sl, by decide, ?_⟩
    refine ⟨rfl, by decide, sz2 (by show 11 + 1 ≤ 5000; decide), ?_⟩
    refine of_ok (by show 0 < 12; decide) (by show 12 < 1000000; decide) fun d hd => ?_
    refine ⟨ws.map D.int, j, d, rfl, by omega, q _ ?_⟩
    refine n_put (by omega) (nl_ints h200) ?_
    revert d
    refine nl_cons (n_int (lt_mono (lt_add hs (lt_one (by decide))) (by decide))) ?_
    refine nl_cons (n_int (lt_mono (lt_sub hs (lt_one (by decide))) (by decide))) ?_
    refine nl_cons (n_int (lt_mono (lt_neg hs) (by decide))) ?_
    refine nl_cons (n_int (by decide)) ?_
    refine nl_cons (n_int (by decide)) ?_
    refine nl_cons (n_tup (by show 2 ≤ 200; decide) (nl_cons (n_int (lt_mono hs (by decide))) (nl_cons (n_int (by decide)) nl_nil))) ?_
    refine nl_cons n_non ?_
    refine nl_cons n_bl ?_
    refine nl_cons n_bl ?_
    refine nl_cons (n_str (str_int_ok s)) ?_
    refine nl_cons (n_int (lt_mono (lt_add hs hp2) (by decide))) ?_
    refine nl_cons (n_int (lt_mono (lt_sub hs hp2) (by decide))) ?_
    exact nl_nil

/-! ### pairs -/
def sp_law_bent_pair : DSp := fun cs Q => ∃ k a b, cs = [.spr, .dat (.tup [a, b])] ∧ nice k a ∧ nice k b ∧ ∀ d, nice (k + 2) d → Q d
theorem sem_law_bent_pair (cs : List Cell) (Q : D → Prop) (hl : cs.length = 2) (h : sp_law_bent_pair cs Q) : d_law_bent_pair sp_law_of { nx := fun _ => Q .non, rt := Q } (startE N_law_bent_pair cs) := by
  obtain ⟨k, a, b, e, na, nb, q⟩ := h
  subst e
  unfold d_law_bent_pair
  refine ⟨sz2 (by show 2 + 1 ≤ 5000; decide), ?_⟩
  refine ⟨rfl, of_ok (by show 0 < 9; decide) (by show 9 < 1000000; decide) fun d hd => q d ?_⟩
  have na1 : nice (k + 1) a := nice_mono na
  have nb1 : nice (k + 1) b := nice_mono nb
  revert d
  refine nl_cons (n_tup (by show 2 ≤ 200; decide) (nl_cons nb1 (nl_cons na1 nl_nil))) ?_
  refine nl_cons (n_lst (by show 2 ≤ 200; decide) (nl_cons na1 (nl_cons nb1 nl_nil))) ?_
  refine nl_cons (n_tup (by show 3 ≤ 200; decide) (nl_cons na1 (nl_cons nb1 (nl_cons (n_tup (by decide) nl_nil) nl_nil)))) ?_
  refine nl_cons (n_tup (by show 1 ≤ 200; decide) (nl_cons na1 nl_nil)) ?_
  refine nl_cons (nice_mono na1) ?_
  refine nl_cons (nice_mono nb1) ?_
  refine nl_cons (n_tup (by decide) nl_nil) ?_
  refine nl_cons n_non ?_
  refine nl_cons (n_tup (by show 1 ≤ 200; decide) (nl_cons (n_tup (by show 2 ≤ 200; decide) (nl_cons na (nl_cons nb nl_nil))) nl_nil)) ?_
  exact nl_nil
end Fe
set_option Elab.async false
set_option linter.all false
set_option maxRecDepth 100000
set_option maxHeartbeats 4000000
/-! Layer 3: what the law bends: nodes. -/
namespace Fe
open PySem PySem.W PySem.Calls PyProof.Rows L2 TL

theorem nl_cut {k : Nat} {xs : List D} {lo hi : Option Int} (h : NL k xs) : NL k (cutL xs lo hi) := by
  unfold cutL
  exact nl_take (nl_drop h)
theorem cut_le {α : Type} {xs : List α} {lo hi : Option Int} : (cutL xs lo hi).length ≤ xs.length := by
  unfold cutL
  rw [List.length_take, List.length_drop]
  omega
def Nd.small (k : Nat) : Nd → Prop
  | .part ws c => LtA k ws ∧ Lt k c
  | .fin ss => LtA k ss
def t_bn : DS := (dSeq (dIfS (dTest (dBin fEq (dVar 4) (dC (.int 0)))) (dRet (dBin fAdd (dTup (dLcons (dCall sp_law_of (dAS 0 (dLcons (dFr (dLcons (dC (.str "part")) (dLcons (dC (.str "end")) (dLcons (dC (.str "Part")) (dLcons (dC (.str "")) (dLcons (dC .non) (dLcons (dC (.int 0)) (dLcons (dTup (dLcons (dC (.str "end")) dLnil)) dLnil)))))))) dLnil))) dLnil)) (dSl (dVar 1) (dPart (dC (.int 1))) dNo))) dNx) (dSeq (dIfS (dTest (dBin fEq (dVar 4) (dC (.int 1)))) (dRet (dCall sp_law_of (dAS 0 (dLcons (dFr (dLcons (dFr (dListOf (dVar 1))) (dLcons (dBin fAdd (dVar 1) (dTup (dLcons (dC (.int 0)) dLnil))) (dLcons (dBin fAdd (dVar 1) (dTup (dLcons (dTup dLnil) dLnil))) (dLcons (dSl (dVar 1) dNo (dPart (dUn fNeg (dC (.int 1))))) dLnil))))) dLnil)))) dNx) (dSeq (dIfS (dAnd (dTest (dBin fEq (dVar 4) (dC (.int 2)))) (dTest (dBin fEq (dUn fLen (dVar 1)) (dC (.int 3))))) (dRet (dBin fAdd (dSl (dVar 1) dNo (dPart (dC (.int 2)))) (dTup (dLcons (dCall sp_law_of (dAS 0 (dLcons (dFr (dLcons (dBin fAdd (dVar 7) (dC (.int 1))) (dLcons (dBin fSub (dVar 7) (dC (.int 1))) (dLcons (dUn fNeg (dVar 7)) (dLcons (dC .non) (dLcons (dC (.bl true)) (dLcons (dUn fStrI (dVar 7)) (dLcons (dTup (dLcons (dVar 7) dLnil)) dLnil)))))))) dLnil))) dLnil)))) dNx) (dSeq (dIfS (dTest (dBin fEq (dVar 4) (dC (.int 3)))) (dSeq (dAsg 3 (dFr (dLcons (dFr (dListOf (dVar 5))) (dLcons (dBin fAdd (dVar 5) (dTup (dLcons (dC (.int 0)) dLnil))) (dLcons (dSl (dVar 5) dNo (dPart (dUn fNeg (dC (.int 1))))) (dLcons (dUn fRev (dVar 5)) (dLcons (dUn fTuple (dFr (dLc (dIt (dVar 5)) (dgN 8) dYes (dC (.int 0)) [8]))) dLnil))))))) (dRet (dBin fAdd (dTup (dLcons (dBin fIx (dVar 1) (dC (.int 0))) (dLcons (dCall sp_law_of (dAS 0 (dLcons (dVar 3) dLnil))) dLnil))) (dSl (dVar 1) (dPart (dC (.int 2))) dNo)))) dNx) (dSeq (dAsg 3 (dFr (dLcons (dBin fAdd (dVar 6) (dC (.int 1))) (dLcons (dBin fSub (dVar 6) (dC (.int 1))) (dLcons (dUn fNeg (dVar 6)) (dLcons (dC (.int 0)) (dLcons (dC (.int 1)) (dLcons (dBin fMul (dC (.int 2)) (dVar 6)) (dLcons (dC .non) (dLcons (dC (.bl true)) (dLcons (dC (.bl false)) (dLcons (dTup (dLcons (dVar 6) dLnil)) (dLcons (dBin fPow (dC (.int 10)) (dC (.int 39))) dLnil))))))))))))) (dRet (dBin fAdd (dTup (dLcons (dBin fIx (dVar 1) (dC (.int 0))) (dLcons (dCall sp_law_put (dA (dLcons (dVar 5) (dLcons (dVar 2) (dLcons (dCall sp_law_of (dAS 0 (dLcons (dVar 3) dLnil))) dLnil))))) dLnil))) (dSl (dVar 1) (dPart (dC (.int 2))) dNo))))))))
theorem bn_tail {a kk : D} {ws : List Int} {more : List D} {j : Nat} {way s : Int} {Q : D → Prop} (q : ∀ d, nice 4 d → Q d) (na : nice 3 a) (lw : ws.length ≤ 100) (hw : LtA 200 ws) (hs : Lt 150 s)
    (hm : more = [] ∨ ∃ c, more = [.int c] ∧ kk = .int c ∧ Lt 150 c) :
    t_bn { nx := fun _ => Q .non, rt := Q } [some .spr, some (.dat (.tup (a :: tI ws :: more))), some (.dat (.int ((j : Nat) : Int))), none, some (.dat (.int way)), some (.dat (tI ws)), some (.dat (.int s)), some (.dat kk), none] := by
  have ll : (ws.map D.int).length = ws.length := List.length_map _
  have nw : nice 3 (tI ws) := n_ints (by omega) hw
  have nm : NL 3 more := by
    rcases hm with e | ⟨c, e, _, hc⟩
    · rw [e]
      exact nl_nil
    · rw [e]
      exact nl_cons (n_int (lt_mono hc (by decide))) nl_nil
  have lm : more.length ≤ 1 := by
    rcases hm with e | ⟨c, e, _, hc⟩
    · rw [e]
      exact Nat.zero_le _
    · rw [e]
      exact Nat.le_refl 1
  have nn : NL 3 (a :: tI ws :: more) := nl_cons na (nl_cons nw nm)
  have ln : (a :: tI ws :: more).length ≤ 3 := by rw [List.length_cons, List.length_cons]; omega
  have nstr : ∀ {k}, nice k (.str "end") := n_str (by decide +kernel)
  have npart : ∀ {k}, nice k (.str "part") := n_str (by decide +kernel)
  have nPart : ∀ {k}, nice k (.str "Part") := n_str (by decide +kernel)
  have nemp : ∀ {k}, nice k (.str "") := n_str (by decide +kernel)
  have cl : ∀ {lo hi}, (cutL (a :: tI ws :: more) lo hi).length ≤ 3 := fun {lo hi} => Nat.le_trans cut_le ln
  have wl : ∀ {lo hi}, (cutL (ws.map D.int) lo hi).length ≤ 100 := fun {lo hi} => Nat.le_trans cut_le (by omega)
  have base : ∀ {k}, NL k (ws.map D.int) := nl_ints hw
  have n0 : (a :: tI ws :: more)[0]? = some a := rfl
  unfold t_bn
  show (if (way == 0) = true then _ else _)
  cases (way == 0) with
  | true =>
    rw [if_pos rfl]
    refine ⟨rfl, of_ok (by show 0 < 7; decide) (by show 7 < 1000000; decide) fun d hd => ⟨sz2 ?_, q _ ?_⟩⟩
    · have := cl (lo := some 1) (hi := none)
      show 1 + _ ≤ 5000
      omega
    · refine n_tup ?_ (nl_app (nl_cons ?_ nl_nil) (nl_cut nn))
      · rw [List.length_append]
        have := cl (lo := some 1) (hi := none)
        show 1 + _ ≤ 200
        omega
      · revert d
        exact nl_cons npart (nl_cons nstr (nl_cons nPart (nl_cons nemp (nl_cons n_non (nl_cons (n_int (by decide)) (nl_cons (n_tup (by show 1 ≤ 200; decide) (nl_cons nstr nl_nil)) nl_nil))))))
  | false =>
  rw [if_neg Bool.false_ne_true]
  show (if (way == 1) = true then _ else _)
  cases (way == 1) with
  | true =>
    rw [if_pos rfl]
    refine ⟨rfl, sz2 (by show _ + 1 ≤ _; omega), sz2 (by show _ + 1 ≤ _; omega), of_ok (by show 0 < 4; decide) (by show 4 < 1000000; decide) fun d hd => q d ?_⟩
    revert d
    refine nl_cons (n_lst (by omega) nn) ?_
    refine nl_cons (n_tup (by rw [List.length_append]; show _ + 1 ≤ _; omega) (nl_app nn (nl_cons (n_int (by decide)) nl_nil))) ?_
    refine nl_cons (n_tup (by rw [List.length_append]; show _ + 1 ≤ _; omega) (nl_app nn (nl_cons (n_tup (by decide) nl_nil) nl_nil))) ?_
    refine nl_cons (n_tup (Nat.le_trans cl (by decide)) (nl_cut nn)) ?_
    exact nl_nil
  | false =>
  rw [if_neg Bool.false_ne_true]
  have rest : (dSeq (dIfS (dTest (dBin fEq (dVar 4) (dC (.int 3)))) (dSeq (dAsg 3 (dFr (dLcons (dFr (dListOf (dVar 5))) (dLcons (dBin fAdd (dVar 5) (dTup (dLcons (dC (.int 0)) dLnil))) (dLcons (dSl (dVar 5) dNo (dPart (dUn fNeg (dC (.int 1))))) (dLcons (dUn fRev (dVar 5)) (dLcons (dUn fTuple (dFr (dLc (dIt (dVar 5)) (dgN 8) dYes (dC (.int 0)) [8]))) dLnil))))))) (dRet (dBin fAdd (dTup (dLcons (dBin fIx (dVar 1) (dC (.int 0))) (dLcons (dCall sp_law_of (dAS 0 (dLcons (dVar 3) dLnil))) dLnil))) (dSl (dVar 1) (dPart (dC (.int 2))) dNo)))) dNx) (dSeq (dAsg 3 (dFr (dLcons (dBin fAdd (dVar 6) (dC (.int 1))) (dLcons (dBin fSub (dVar 6) (dC (.int 1))) (dLcons (dUn fNeg (dVar 6)) (dLcons (dC (.int 0)) (dLcons (dC (.int 1)) (dLcons (dBin fMul (dC (.int 2)) (dVar 6)) (dLcons (dC .non) (dLcons (dC (.bl true)) (dLcons (dC (.bl false)) (dLcons (dTup (dLcons (dVar 6) dLnil)) (dLcons (dBin fPow (dC (.int 10)) (dC (.int 39))) dLnil))))))))))))) (dRet (dBin fAdd (dTup (dLcons (dBin fIx (dVar 1) (dC (.int 0))) (dLcons (dCall sp_law_put (dA (dLcons (dVar 5) (dLcons (dVar 2) (dLcons (dCall sp_law_of (dAS 0 (dLcons (dVar 3) dLnil))) dLnil))))) dLnil))) (dSl (dVar 1) (dPart (dC (.int 2))) dNo))))) { nx := fun _ => Q .non, rt := Q } [some .spr, some (.dat (.tup (a :: tI ws :: more))), some (.dat (.int ((j : Nat) : Int))), none, some (.dat (.int way)), some (.dat (tI ws)), some (.dat (.int s)), some (.dat kk), none] := by
    show (if (way == 3) = true then _ else _)
    cases (way == 3) with
    | true =>
      rw [if_pos rfl]
      refine ⟨sz2 (by show _ + 1 ≤ _; omega), ?_⟩
      show dLcGo _ _ _ _ (ws.map D.int) [] _
      refine lc_map' (g := fun _ => D.int 0) ws _ (fun w hw => ⟨_, rfl, fun R hR => hR⟩) (sz2 (by omega)) ?_
      refine fIx_t (i := 0) n0 ?_
      refine ⟨rfl, of_ok (by show 0 < 5; decide) (by show 5 < 1000000; decide) fun d hd => ⟨sz2 ?_, q _ ?_⟩⟩
      · have := cl (lo := some 2) (hi := none)
        show 2 + _ ≤ 5000
        omega
      · refine n_tup ?_ (nl_app (nl_cons na (nl_cons ?_ nl_nil)) (nl_cut nn))
        · rw [List.length_append]
          have := cl (lo := some 2) (hi := none)
          show 2 + _ ≤ 200
          omega
        · revert d
          refine nl_cons (n_lst (by omega) base) ?_
          refine nl_cons (n_tup (by rw [List.length_append]; show _ + 1 ≤ _; omega) (nl_app base (nl_cons (n_int (by decide)) nl_nil))) ?_
          refine nl_cons (n_tup (Nat.le_trans wl (by decide)) (nl_cut base)) ?_
          refine nl_cons (n_tup (by rw [List.length_reverse]; omega) (nl_rev base)) ?_
          refine nl_cons (n_tup (by rw [List.length_map]; omega) (nl_map fun a ha => n_int (by decide))) ?_
          exact nl_nil
    | false =>
    rw [if_neg Bool.false_ne_true]
    refine ⟨mulOk (by decide) (sm_of hs (by decide) (by decide)), pow39, ?_⟩
    refine fIx_t (i := 0) n0 ?_
    refine ⟨rfl, of_ok (by show 0 < 11; decide) (by show 11 < 1000000; decide) fun d hd => ?_⟩
    refine ⟨ws.map D.int, j, d, rfl, by omega, sz2 ?_, q _ ?_⟩
    · have := cl (lo := some 2) (hi := none)
      show 2 + _ ≤ 5000
      omega
    · refine n_tup ?_ (nl_app (nl_cons na (nl_cons (n_put (by omega) base ?_) nl_nil)) (nl_cut nn))
      · rw [List.length_append]
        have := cl (lo := some 2) (hi := none)
        show 2 + _ ≤ 200
        omega
      · revert d
        refine nl_cons (n_int (lt_mono (lt_add hs (lt_one (by decide))) (by decide))) ?_
        refine nl_cons (n_int (lt_mono (lt_sub hs (lt_one (by decide))) (by decide))) ?_
        refine nl_cons (n_int (lt_mono (lt_neg hs) (by decide))) ?_
        refine nl_cons (n_int (by decide)) ?_
        refine nl_cons (n_int (by decide)) ?_
        refine nl_cons (n_int (lt_mono (lt_mul (j := 2) (by decide) hs) (by decide))) ?_
        refine nl_cons n_non ?_
        refine nl_cons n_bl ?_
        refine nl_cons n_bl ?_
        refine nl_cons (n_tup (by show 1 ≤ 200; decide) (nl_cons (n_int (lt_mono hs (by decide))) nl_nil)) ?_
        refine nl_cons (n_int lt_39) ?_
        exact nl_nil
  show (if (way == 2) = true then _ else _)
  cases (way == 2) with
  | false =>
    rw [if_neg Bool.false_ne_true]
    exact rest
  | true =>
    rw [if_pos rfl]
    rcases hm with e | ⟨c, e, ek, hc⟩
    · subst e
      exact rest
    · subst e
      subst ek
      have sl : c.natAbs.log2 < 1920 := log_small (k := 1920) (lt_mono hc (by decide)) (by decide)
      refine ⟨rfl, sl, of_ok (by show 0 < 7; decide) (by show 7 < 1000000; decide) fun d hd => ⟨sz2 ?_, q _ ?_⟩⟩
      · have := cl (lo := none) (hi := some 2)
        show _ + 1 ≤ 5000
        omega
      · refine n_tup ?_ (nl_app (nl_cut nn) (nl_cons ?_ nl_nil))
        · rw [List.length_append]
          have := cl (lo := none) (hi := some 2)
          show _ + 1 ≤ 200
          omega
        · revert d
          refine nl_cons (n_int (lt_mono (lt_add hc (lt_one (by decide))) (by decide))) ?_
          refine nl_cons (n_int (lt_mono (lt_sub hc (lt_one (by decide))) (by decide))) ?_
          refine nl_cons (n_int (lt_mono (lt_neg hc) (by decide))) ?_
          refine nl_cons n_non ?_
          refine nl_cons n_bl ?_
          refine nl_cons (n_str (str_int_ok c)) ?_
          refine nl_cons (n_tup (by show 1 ≤ 200; decide) (nl_cons (n_int (lt_mono hc (by decide))) nl_nil)) ?_
          exact nl_nil
def sp_law_bent_node : DSp := fun cs Q => ∃ x : Nd, cs = [.spr, .dat x.d] ∧ 0 < x.len ∧ x.len ≤ 100 ∧ x.small 150 ∧ ∀ d, nice 4 d → Q d
theorem sem_law_bent_node (cs : List Cell) (Q : D → Prop) (hl : cs.length = 2) (h : sp_law_bent_node cs Q) : d_law_bent_node sp_law_draw sp_law_of sp_law_put { nx := fun _ => Q .non, rt := Q } (startE N_law_bent_node cs) := by
  obtain ⟨x, e, l0, l1, hw, q⟩ := h
  subst e
  unfold d_law_bent_node
  cases x with
  | part ws c =>
    obtain ⟨hw, hc⟩ := hw
    have ll : (ws.map D.int).length = ws.length := List.length_map _
    have l0' : 0 < ws.length := l0
    have l1' : ws.length ≤ 100 := l1
    refine ⟨rfl, draw_ok (n := 8) (by decide) (by decide) fun way _ => ?_⟩
    refine ixE (xs := [.str "part", tI ws, .int c]) (i := 1) (d := tI ws) (fun R hR => hR) (fun R hR => hR) rfl ?_
    refine ⟨rfl, draw_ok (n := (ws.map D.int).length) (by omega) (by omega) fun j hj => ?_⟩
    have ej : (ws.map D.int)[j]? = some (.int (ws[j]'(by omega))) := by
      rw [List.getElem?_map, List.getElem?_eq_getElem (by omega)]
      rfl
    have hs : Lt 150 (ws[j]'(by omega)) := hw _ (List.getElem_mem _)
    generalize ws[j]'(by omega) = s at ej hs
    refine fIx_t ej ?_
    refine ixE (xs := [.str "part", tI ws, .int c]) (i := -1) (d := .int c) (fun R hR => hR) (fun R hR => hR) rfl ?_
    exact bn_tail (more := [.int c]) q (n_str (by decide +kernel)) l1' (fun i hi => lt_mono (hw i hi) (by decide)) hs (.inr ⟨c, rfl, rfl, hc⟩)
  | fin ws =>
    have hw : LtA 150 ws := hw
    have ll : (ws.map D.int).length = ws.length := List.length_map _
    have l0' : 0 < ws.length := l0
    have l1' : ws.length ≤ 100 := l1
    refine ⟨rfl, draw_ok (n := 8) (by decide) (by decide) fun way _ => ?_⟩
    refine ixE (xs := [.str "end", tI ws]) (i := 1) (d := tI ws) (fun R hR => hR) (fun R hR => hR) rfl ?_
    refine ⟨rfl, draw_ok (n := (ws.map D.int).length) (by omega) (by omega) fun j hj => ?_⟩
    have ej : (ws.map D.int)[j]? = some (.int (ws[j]'(by omega))) := by
      rw [List.getElem?_map, List.getElem?_eq_getElem (by omega)]
      rfl
    have hs : Lt 150 (ws[j]'(by omega)) := hw _ (List.getElem_mem _)
    generalize ws[j]'(by omega) = s at ej hs
    refine fIx_t ej ?_
    refine ixE (xs := [.str "end", tI ws]) (i := -1) (d := tI ws) (fun R hR => hR) (fun R hR => hR) rfl ?_
    exact bn_tail (more := []) q (n_str (by decide +kernel)) l1' (fun i hi => lt_mono (hw i hi) (by decide)) hs (.inl rfl)
end Fe
set_option Elab.async false
set_option linter.all false
set_option maxRecDepth 100000
set_option maxHeartbeats 4000000
/-! Layer 3, plain: trees of nodes; scaled, lifted, put behind a parting. -/
namespace Fe
open PySem PySem.W PySem.Calls PyProof.Rows L2

theorem dot_cons (a b : Int) (as bs : List Int) : dot (a :: as) (b :: bs) = a * b + dot as bs := by
  unfold dot
  rw [List.zip_cons_cons, List.map_cons, List.sum_cons]
theorem dot_nil (bs : List Int) : dot [] bs = 0 := by
  unfold dot
  rfl
theorem dot_nil2 (as : List Int) : dot as [] = 0 := by
  unfold dot
  rw [List.zip_nil_right]
  rfl
theorem dot_scale (f : Int) : ∀ (ss xs : List Int), dot (ss.map fun s => f * s) xs = f * dot ss xs
  | [], xs => by
    rw [List.map_nil, dot_nil, Int.mul_zero]
  | s :: ss, [] => by rw [dot_nil2, dot_nil2, Int.mul_zero]
  | s :: ss, x :: xs => by
    rw [List.map_cons, dot_cons, dot_cons, dot_scale f ss xs, Int.mul_add, Int.mul_assoc]
theorem dot_ins (x : Int) : ∀ (m : Nat) (ss xs : List Int), ss.length = xs.length → m ≤ ss.length → dot (insL ss m) (xs.take m ++ [x] ++ xs.drop m) = dot ss xs
  | 0, ss, xs, _, _ => by
    show dot (0 :: ss) (x :: xs) = _
    rw [dot_cons, Int.zero_mul, Int.zero_add]
  | m + 1, [], xs, _, h => absurd h (by simp)
  | m + 1, s :: ss, [], h, _ => absurd h (by simp)
  | m + 1, s :: ss, y :: ys, h, h2 => by
    show dot (s :: insL ss m) (y :: (ys.take m ++ [x] ++ ys.drop m)) = _
    rw [dot_cons, dot_cons, dot_ins x m ss ys (by simpa using h) (by simpa using h2)]
theorem dot_zeros : ∀ (xs zs ys : List Int), dot (List.replicate xs.length 0 ++ zs) (xs ++ ys) = dot zs ys
  | [], zs, ys => rfl
  | x :: xs, zs, ys => by
    rw [List.length_cons, List.replicate_succ, List.cons_append, List.cons_append, dot_cons, dot_zeros xs zs ys, Int.zero_mul, Int.zero_add]
theorem dot_one : ∀ (xs zs ys : List Int) (i : Nat) (x : Int), xs[i]? = some x → dot ((List.replicate xs.length 0).set i 1 ++ zs) (xs ++ ys) = x + dot zs ys
  | [], zs, ys, i, x, h => by simp at h
  | y :: xs, zs, ys, 0, x, h => by
    have e : y = x := by simpa using h
    subst e
    rw [List.length_cons, List.replicate_succ, List.set_cons_zero, List.cons_append, List.cons_append, dot_cons, dot_zeros xs zs ys, Int.one_mul]
  | y :: xs, zs, ys, i + 1, x, h => by
    rw [List.length_cons, List.replicate_succ, List.set_cons_succ, List.cons_append, List.cons_append, dot_cons, dot_one xs zs ys i x (by simpa using h), Int.zero_mul, Int.zero_add]
/-- sizes that make an end -/
def eOk (n : Nat) (h : List Bd) (ss : List Int) : Bool := decide (ss.length = h.length) && (ss.all (fun s => decide (0 ≤ s)) && (((List.range n).all fun k => dot ss (h.map fun b => b.1.getD k 0) == 0) && decide (dot ss (h.map fun b => b.2) < 0)))
theorem end_eq (n : Nat) (h : List Bd) (ss : List Int) (a : D) : endOf n h [a, tI ss] = eOk n h ss := by
  show (match asT h.length (tI ss) with
    | some ss => ss.all (fun s => decide (0 ≤ s)) && (((List.range n).all fun k => dot ss (h.map fun b : Bd => b.1.getD k 0) == 0) && decide (dot ss (h.map fun b : Bd => b.2) < 0))
    | none => false) = _
  unfold eOk
  by_cases z : ss.length = h.length
  · rw [asT_of z, decide_eq_true z, Bool.true_and]
  · have e : asT h.length (tI ss) = none := by
      show (if (ss.map D.int).length = h.length then asInts (ss.map D.int) else none) = none
      rw [List.length_map, if_neg z]
    rw [e, decide_eq_false z, Bool.false_and]
theorem eok_iff {n : Nat} {h : List Bd} {ss : List Int} : eOk n h ss = true ↔ ss.length = h.length ∧ (∀ s ∈ ss, 0 ≤ s) ∧ (∀ k, k < n → dot ss (h.map fun b => b.1.getD k 0) = 0) ∧ dot ss (h.map fun b => b.2) < 0 := by
  unfold eOk
  rw [Bool.and_eq_true, Bool.and_eq_true, Bool.and_eq_true, decide_eq_true_eq, decide_eq_true_eq, List.all_eq_true, List.all_eq_true]
  constructor
  · rintro ⟨a, b, c, d⟩
    exact ⟨a, fun s hs => of_decide_eq_true (b s hs), fun k hk => eq_of_beq (c k (List.mem_range.mpr hk)), d⟩
  · rintro ⟨a, b, c, d⟩
    exact ⟨a, fun s hs => decide_eq_true (b s hs), fun k hk => by rw [c k (List.mem_range.mp hk)]; rfl, d⟩
def stN (n : Nat) : Nd → List (List Bd) → Option (List (List Bd))
  | _, [] => none
  | .part ws c, h :: rest => if ws.length = n ∧ ws.any (fun w => w != 0) = true then some ((h ++ [(ws, c)]) :: (h ++ [(neg ws, -(c + 1))]) :: rest) else none
  | .fin ss, h :: rest => if eOk n h ss = true then some rest else none
theorem stN_part (n : Nat) (ws : List Int) (c : Int) (h : List Bd) (rest : List (List Bd)) : stN n (.part ws c) (h :: rest) = if ws.length = n ∧ ws.any (fun w => w != 0) = true then some ((h ++ [(ws, c)]) :: (h ++ [(neg ws, -(c + 1))]) :: rest) else none := rfl
theorem stN_fin (n : Nat) (ss : List Int) (h : List Bd) (rest : List (List Bd)) : stN n (.fin ss) (h :: rest) = if eOk n h ss = true then some rest else none := rfl
def runN (n : Nat) : List Nd → List (List Bd) → Option (List (List Bd))
  | [], st => some st
  | x :: xs, st => match stN n x st with
    | some st' => runN n xs st'
    | none => none
theorem part_eq (n : Nat) (ws : List Int) (c : Int) (a : D) : partOf n [a, tI ws, .int c] = if ws.length = n ∧ ws.any (fun w => w != 0) = true then some (ws, c) else none := by
  show (match asT n (tI ws) with
    | some ws => if ws.any (fun w => w != 0) = true then some (ws, c) else none
    | none => none) = _
  by_cases z : ws.length = n
  · rw [asT_of z]
    by_cases y : ws.any (fun w => w != 0) = true
    · rw [if_pos ⟨z, y⟩]
      exact if_pos y
    · rw [if_neg fun q => y q.2]
      exact if_neg y
  · have e : asT n (tI ws) = none := by
      show (if (ws.map D.int).length = n then asInts (ws.map D.int) else none) = none
      rw [List.length_map, if_neg z]
    rw [e, if_neg fun q => z q.1]
theorem step_nd (n : Nat) (x : Nd) (st : List (List Bd)) : stepOf n x.d st = stN n x st := by
  cases st with
  | nil => cases x <;> rfl
  | cons h rest =>
    cases x with
    | part ws c =>
      show (if (("part" : Str) == "part") = true then (match partOf n [.str "part", tI ws, .int c] with
        | some (ws, c) => some ((h ++ [(ws, c)]) :: (h ++ [(neg ws, -(c + 1))]) :: rest)
        | none => none) else (if (("part" : Str) == "end" && endOf n h [.str "part", tI ws, .int c]) = true then some rest else none)) = _
      rw [if_pos (by decide +kernel), part_eq, stN_part]
      by_cases z : ws.length = n ∧ ws.any (fun w => w != 0) = true
      · rw [if_pos z, if_pos z]
      · rw [if_neg z, if_neg z]
    | fin ss =>
      show (if (("end" : Str) == "part") = true then (match partOf n [.str "end", tI ss] with
        | some (ws, c) => some ((h ++ [(ws, c)]) :: (h ++ [(neg ws, -(c + 1))]) :: rest)
        | none => none) else if (("end" : Str) == "end" && endOf n h [.str "end", tI ss]) = true then some rest else none) = _
      rw [if_neg (by decide +kernel), end_eq, show (("end" : Str) == "end") = true by decide +kernel, Bool.true_and, stN_fin]
theorem run_nd (n : Nat) : ∀ (ns : List Nd) (st : List (List Bd)), runTo n (ns.map Nd.d) st = runN n ns st
  | [], st => rfl
  | x :: ns, st => by
    rw [List.map_cons]
    unfold runTo runN
    rw [step_nd]
    cases stN n x st with
    | none => rfl
    | some st' => exact run_nd n ns st'
theorem tree_nd {n : Nat} {B : List Bd} {ns : List Nd} (h : runN n ns [B] = some []) : treeOf n B (ndsT ns) = true := by
  show (match runTo n (ns.map Nd.d) [B] with
    | some st => st.isEmpty
    | none => false) = true
  rw [run_nd, h]
  rfl
theorem stN_frame {n : Nat} {x : Nd} {st st' r : List (List Bd)} (h : stN n x st = some st') : stN n x (st ++ r) = some (st' ++ r) := by
  cases st with
  | nil => cases x <;> exact nomatch h
  | cons hd rest =>
    cases x with
    | part ws c =>
      rw [stN_part] at h
      show (if ws.length = n ∧ ws.any (fun w => w != 0) = true then some ((hd ++ [(ws, c)]) :: (hd ++ [(neg ws, -(c + 1))]) :: (rest ++ r)) else none) = _
      split at h
      · rename_i z
        rw [if_pos z]
        cases h
        rfl
      · cases h
    | fin ss =>
      rw [stN_fin] at h
      show (if eOk n hd ss = true then some (rest ++ r) else none) = _
      split at h
      · rename_i z
        rw [if_pos z]
        cases h
        rfl
      · cases h
theorem runN_frame {n : Nat} {r : List (List Bd)} : ∀ {ns : List Nd} {st st' : List (List Bd)}, runN n ns st = some st' → runN n ns (st ++ r) = some (st' ++ r)
  | [], st, st', h => by
    cases h
    rfl
  | x :: ns, st, st', h => by
    unfold runN at h ⊢
    cases e : stN n x st with
    | none =>
      rw [e] at h
      cases h
    | some s1 =>
      rw [e] at h
      rw [stN_frame e]
      exact runN_frame h
theorem runN_append {n : Nat} : ∀ {xs ys : List Nd} {st s1 s2 : List (List Bd)}, runN n xs st = some s1 → runN n ys s1 = some s2 → runN n (xs ++ ys) st = some s2
  | [], ys, st, s1, s2, h, q => by
    cases h
    exact q
  | x :: xs, ys, st, s1, s2, h, q => by
    rw [List.cons_append]
    unfold runN at h ⊢
    cases e : stN n x st with
    | none =>
      rw [e] at h
      cases h
    | some t =>
      rw [e] at h
      exact runN_append h q
/-- greater times -/
inductive Sc : List Nd → List Nd → Prop
  | nil : Sc [] []
  | part {ws : List Int} {c : Int} {xs ys : List Nd} : Sc xs ys → Sc (.part ws c :: xs) (.part ws c :: ys)
  | fin {ss : List Int} {f : Int} {xs ys : List Nd} : 0 < f → Lt 100 f → Sc xs ys → Sc (.fin ss :: xs) (.fin (ss.map fun s => f * s) :: ys)
theorem eok_scale {n : Nat} {h : List Bd} {ss : List Int} {f : Int} (f0 : 0 < f) (e : eOk n h ss = true) : eOk n h (ss.map fun s => f * s) = true := by
  rw [eok_iff] at e ⊢
  obtain ⟨a, b, c, d⟩ := e
  refine ⟨by rw [List.length_map]; exact a, fun s hs => ?_, fun k hk => ?_, ?_⟩
  · obtain ⟨t, ht, e⟩ := List.mem_map.mp hs
    subst e
    exact Int.mul_nonneg (by omega) (b t ht)
  · rw [dot_scale, c k hk, Int.mul_zero]
  · rw [dot_scale]
    exact Int.mul_neg_of_pos_of_neg f0 d
theorem run_scale {n : Nat} {xs ys : List Nd} (s : Sc xs ys) : ∀ {st st' : List (List Bd)}, runN n xs st = some st' → runN n ys st = some st' := by
  induction s with
  | nil => exact fun h => h
  | part _ ih =>
    rename_i ws c xs ys _
    intro st st' h
    unfold runN at h ⊢
    cases e : stN n (.part ws c) st with
    | none =>
      rw [e] at h
      cases h
    | some t =>
      rw [e] at h
      exact ih h
  | fin f0 f1 _ ih =>
    rename_i ss f xs ys _
    intro st st' h
    unfold runN at h ⊢
    cases st with
    | nil => exact nomatch h
    | cons hd rest =>
      rw [stN_fin] at h ⊢
      cases e : eOk n hd ss with
      | false =>
        rw [e] at h
        exact nomatch h
      | true =>
        rw [e] at h
        rw [eok_scale f0 e]
        exact ih h
theorem sc_len {xs ys : List Nd} (s : Sc xs ys) : ys.length = xs.length := by
  induction s with
  | nil => rfl
  | part _ ih => rw [List.length_cons, List.length_cons, ih]
  | fin _ _ _ ih => rw [List.length_cons, List.length_cons, ih]
theorem sc_small {c : Nat} {xs ys : List Nd} (s : Sc xs ys) (h : ∀ x ∈ xs, x.len ≤ c ∧ x.small 40) : ∀ y ∈ ys, y.len ≤ c ∧ y.small 150 := by
  induction s with
  | nil => exact fun y hy => nomatch hy
  | part _ ih =>
    intro y hy
    rcases List.mem_cons.mp hy with z | z
    · subst z
      obtain ⟨a, b, d⟩ := h _ List.mem_cons_self
      exact ⟨a, fun i hi => lt_mono (b i hi) (by decide), lt_mono d (by decide)⟩
    · exact ih (fun x hx => h x (List.mem_cons_of_mem _ hx)) y z
  | fin f0 f1 _ ih =>
    rename_i ss f xs ys _
    intro y hy
    rcases List.mem_cons.mp hy with z | z
    · subst z
      obtain ⟨a, b⟩ := h _ List.mem_cons_self
      refine ⟨by show (ss.map _).length ≤ c; rw [List.length_map]; exact a, fun i hi => ?_⟩
      obtain ⟨t, ht, e⟩ := List.mem_map.mp hi
      subst e
      exact lt_mono (lt_mul f1 (b t ht)) (by decide)
    · exact ih (fun x hx => h x (List.mem_cons_of_mem _ hx)) y z
/-- one more inequality at a place -/
def insB (b : Bd) (m : Nat) (h : List Bd) : List Bd := h.take m ++ [b] ++ h.drop m
theorem insB_map (g : Bd → Int) (b : Bd) (m : Nat) (h : List Bd) : (insB b m h).map g = (h.map g).take m ++ [g b] ++ (h.map g).drop m := by
  unfold insB
  rw [List.map_append, List.map_append, List.map_take, List.map_drop]
  rfl
theorem insB_snoc {b p : Bd} {m : Nat} {h : List Bd} (l : m ≤ h.length) : insB b m (h ++ [p]) = insB b m h ++ [p] := by
  unfold insB
  rw [List.take_append_of_le_length l, List.drop_append_of_le_length l, List.append_assoc, List.append_assoc, List.append_assoc]
theorem insB_end {b : Bd} {h : List Bd} : insB b h.length h = h ++ [b] := by
  unfold insB
  rw [List.take_length, List.drop_length, List.append_nil]
theorem insB_len (b : Bd) (m : Nat) (h : List Bd) : (insB b m h).length = h.length + 1 := by
  unfold insB
  rw [List.length_append, List.length_append, List.length_take, List.length_drop, List.length_singleton]
  omega
theorem eok_lift {n m : Nat} {b : Bd} {h : List Bd} {ss : List Int} (l : m ≤ h.length) (e : eOk n h ss = true) : eOk n (insB b m h) (insL ss m) = true := by
  rw [eok_iff] at e ⊢
  obtain ⟨a, p, c, d⟩ := e
  refine ⟨by rw [ins_len, insB_len, a], fun s hs => ?_, fun k hk => ?_, ?_⟩
  · unfold insL at hs
    rcases List.mem_append.mp hs with z | z
    · rcases List.mem_append.mp z with z | z
      · exact p s (List.mem_of_mem_take z)
      · rw [List.mem_singleton.mp z]
        decide
    · exact p s (List.mem_of_mem_drop z)
  · rw [insB_map, dot_ins _ _ _ _ (by rw [List.length_map]; exact a) (by omega)]
    exact c k hk
  · rw [insB_map, dot_ins _ _ _ _ (by rw [List.length_map]; exact a) (by omega)]
    exact d
theorem stN_lift {n m : Nat} {b : Bd} {x : Nd} {st st' : List (List Bd)} (l : ∀ h ∈ st, m ≤ h.length) (e : stN n x st = some st') : stN n (x.lift m) (st.map (insB b m)) = some (st'.map (insB b m)) ∧ ∀ h ∈ st', m ≤ h.length := by
  cases st with
  | nil => cases x <;> exact nomatch e
  | cons hd rest =>
    have lh := l hd List.mem_cons_self
    have lr : ∀ h ∈ rest, m ≤ h.length := fun h hh => l h (List.mem_cons_of_mem _ hh)
    cases x with
    | part ws c =>
      rw [stN_part] at e
      split at e
      · rename_i z
        cases e
        refine ⟨?_, fun h hh => ?_⟩
        · show (if ws.length = n ∧ ws.any (fun w => w != 0) = true then some ((insB b m hd ++ [(ws, c)]) :: (insB b m hd ++ [(neg ws, -(c + 1))]) :: rest.map (insB b m)) else none) = some (insB b m (hd ++ [(ws, c)]) :: insB b m (hd ++ [(neg ws, -(c + 1))]) :: rest.map (insB b m))
          rw [if_pos z, insB_snoc lh, insB_snoc lh]
        · rcases List.mem_cons.mp hh with y | hh
          · rw [y, List.length_append]
            omega
          · rcases List.mem_cons.mp hh with y | hh
            · rw [y, List.length_append]
              omega
            · exact lr h hh
      · cases e
    | fin ss =>
      rw [stN_fin] at e
      split at e
      · rename_i z
        cases e
        refine ⟨?_, lr⟩
        show (if eOk n (insB b m hd) (insL ss m) = true then some (List.map (insB b m) st') else none) = _
        rw [if_pos (eok_lift lh z)]
      · cases e
theorem run_lift {n m : Nat} {b : Bd} : ∀ {ns : List Nd} {st st' : List (List Bd)}, (∀ h ∈ st, m ≤ h.length) → runN n ns st = some st' → runN n (ns.map (Nd.lift m)) (st.map (insB b m)) = some (st'.map (insB b m))
  | [], st, st', _, e => by
    cases e
    rfl
  | x :: ns, st, st', l, e => by
    rw [List.map_cons]
    unfold runN at e ⊢
    cases ex : stN n x st with
    | none =>
      rw [ex] at e
      cases e
    | some t =>
      rw [ex] at e
      obtain ⟨h1, h2⟩ := stN_lift (b := b) l ex
      rw [h1]
      exact run_lift h2 e
theorem run_wrap {n : Nat} {B : List Bd} {xs ys : List Nd} {ws : List Int} {c : Int} (wl : ws.length = n) (w0 : ws.any (fun w => w != 0) = true) (hx : runN n xs [B] = some []) (hy : runN n ys [B] = some []) :
    runN n (.part ws c :: (xs.map (Nd.lift B.length) ++ ys.map (Nd.lift B.length))) [B] = some [] := by
  unfold runN
  have e : stN n (.part ws c) [B] = some [B ++ [(ws, c)], B ++ [(neg ws, -(c + 1))]] := by
    rw [stN_part, if_pos ⟨wl, w0⟩]
  rw [e]
  have lb : ∀ h ∈ [B], B.length ≤ h.length := fun h hh => by
    rw [List.mem_singleton.mp hh]
    exact Nat.le_refl _
  have h1 := run_lift (b := (ws, c)) lb hx
  have h2 := run_lift (b := (neg ws, -(c + 1))) lb hy
  have h1' : runN n (xs.map (Nd.lift B.length)) [B ++ [(ws, c)]] = some [] := by
    have := h1
    rw [List.map_cons, List.map_nil, insB_end] at this
    exact this
  have h2' : runN n (ys.map (Nd.lift B.length)) [B ++ [(neg ws, -(c + 1))]] = some [] := by
    have := h2
    rw [List.map_cons, List.map_nil, insB_end] at this
    exact this
  exact runN_append (runN_frame (r := [B ++ [(neg ws, -(c + 1))]]) h1') h2'
end Fe
set_option Elab.async false
set_option linter.all false
set_option maxRecDepth 100000
set_option maxHeartbeats 4000000
/-! Layer 3: what the law wraps. -/
namespace Fe
open PySem PySem.W PySem.Calls PyProof.Rows L2 TL

theorem al_cons {P : D → Prop} {x : D} {xs : List D} (h : P x) (q : ∀ y ∈ xs, P y) : ∀ y ∈ x :: xs, P y := fun y hy => by
  rcases List.mem_cons.mp hy with z | z
  · rw [z]
    exact h
  · exact q y z
theorem al_nil {P : D → Prop} : ∀ y ∈ ([] : List D), P y := fun _ h => nomatch h
theorem lc_any {P : D → Prop} {dg : DG} {de : DE} {en : En} : ∀ (xs acc : List D) (Q : List D → Prop), (∀ x ∈ xs, ∃ e1, dg x en = some e1 ∧ ∀ R : D → Prop, (∀ v, P v → R v) → de e1 R) → acc.length + xs.length ≤ sizeLine →
    (∀ ys, ys.length = xs.length → (∀ y ∈ ys, P y) → Q (acc ++ ys)) → dLcGo dg dYes de en xs acc Q
  | [], acc, Q, _, _, q => by
    have := q [] rfl (fun _ h => nomatch h)
    rw [List.append_nil] at this
    exact this
  | x :: xs, acc, Q, h, l, q => by
    obtain ⟨e1, h1, h2⟩ := h x List.mem_cons_self
    rw [List.length_cons] at l
    unfold dLcGo
    rw [h1]
    refine h2 _ fun v pv => ⟨by omega, lc_any xs (acc ++ [v]) Q (fun y hy => h y (List.mem_cons_of_mem _ hy)) (by rw [List.length_append, List.length_singleton]; omega) fun ys e p => ?_⟩
    have := q (v :: ys) (by rw [List.length_cons, List.length_cons, e]) (al_cons pv p)
    rw [List.append_assoc]
    exact this
def isI (k : Nat) (d : D) : Prop := ∃ i, d = .int i ∧ Lt k i
theorem ys_ints {k : Nat} : ∀ {ys : List D}, (∀ y ∈ ys, isI k y) → ∃ ws, ys = ws.map D.int ∧ LtA k ws
  | [], _ => ⟨[], rfl, fun _ h => nomatch h⟩
  | y :: ys, h => by
    obtain ⟨i, e, hi⟩ := h y List.mem_cons_self
    obtain ⟨ws, ew, hw⟩ := ys_ints (fun z hz => h z (List.mem_cons_of_mem _ hz) : ∀ z ∈ ys, isI k z)
    refine ⟨i :: ws, by rw [e, ew]; rfl, fun j hj => ?_⟩
    rcases List.mem_cons.mp hj with z | z
    · rw [z]
      exact hi
    · exact hw j z
def fac (d : D) : Prop := ∃ f : Int, d = .int f ∧ 0 < f ∧ Lt 100 f
def b_w1 : DS := (dSeq (dAsg 8 (dCall sp_law_of (dAS 0 (dLcons (dFr (dLcons (dC (.int 1)) (dLcons (dC (.int 1)) (dLcons (dC (.int 2)) (dLcons (dC (.int 7)) (dLcons (dBin fPow (dC (.int 10)) (dC (.int 30))) dLnil)))))) dLnil)))) (dSeq (dAsg 9 (dTup (dLcons (dC (.str "end")) (dLcons (dUn fTuple (dFr (dLc (dIt (dBin fIx (dVar 5) (dC (.int 1)))) (dgN 13) dYes (dBin fMul (dVar 8) (dVar 13)) [13]))) dLnil)))) (dAppend 4 (dIf (dTest (dBin fEq (dBin fIx (dVar 5) (dC (.int 0))) (dC (.str "end")))) (dVar 9) (dVar 5)))))
theorem w1_step {x : Nd} {acc : List D} {e1 e2 e3 e6 e7 e8 e9 e10 e11 e12 e13 e14 : Option Cell} {Z : DEnds} (lx : x.len ≤ 100) (sx : x.small 40) (la : acc.length ≤ 500)
    (q : ∀ y : Nd, (∀ xs ys, Sc xs ys → Sc (x :: xs) (y :: ys)) → ∀ e8 e9, Z.nx [some .spr, e1, e2, e3, some (.own (acc ++ [y.d])), some (.dat x.d), e6, e7, e8, e9, e10, e11, e12, e13, e14]) :
    b_w1 Z [some .spr, e1, e2, e3, some (.own acc), some (.dat x.d), e6, e7, e8, e9, e10, e11, e12, e13, e14] := by
  unfold b_w1
  have hz : acc.length < sizeLine := by rw [sizeLine_eq]; omega
  have p30 : (0 : Int) ≤ 30 ∧ (30 : Int) ≤ 1000000 ∧ (10 : Int).natAbs < 2 ^ 64 := by decide
  refine ⟨rfl, p30, of_ok (by show 0 < 5; decide) (by show 5 < 1000000; decide) ?_⟩
  have l30 : Lt 100 ((10 : Int) ^ (30 : Int).toNat) := by
    show ((10 : Int) ^ (30 : Int).toNat).natAbs < 2 ^ 100
    decide +kernel
  have p0 : (0 : Int) < (10 : Int) ^ (30 : Int).toNat := by decide +kernel
  have all : ∀ d ∈ [D.int 1, .int 1, .int 2, .int 7, .int ((10 : Int) ^ (30 : Int).toNat)], fac d :=
    al_cons ⟨1, rfl, by decide, by decide⟩ (al_cons ⟨1, rfl, by decide, by decide⟩ (al_cons ⟨2, rfl, by decide, by decide⟩ (al_cons ⟨7, rfl, by decide, by decide⟩ (al_cons ⟨_, rfl, p0, l30⟩ al_nil))))
  intro d hd
  obtain ⟨f, ef, f0, f1⟩ := all d hd
  subst ef
  cases x with
  | part ws c =>
    obtain ⟨s1, s2⟩ := sx
    show dLcGo (dgN 13) dYes (dBin fMul (dVar 8) (dVar 13)) (wipeE [some .spr, e1, e2, e3, some (.own acc), some (.dat (Nd.part ws c).d), e6, e7, some (.dat (.int f)), e9, e10, e11, e12, e13, e14] [13]) (ws.map D.int) [] _
    refine lc_map' (g := fun w => D.int (f * w)) ws _ (fun w hw => ⟨_, rfl, fun R hR => ⟨mulOk (sm_of f1 (by decide) (by decide)) (sm_of (s1 w hw) (by decide) (by decide)), hR⟩⟩) (sz2 (Nat.le_trans lx (by decide))) ?_
    exact ⟨hz, q (.part ws c) (fun _ _ h => .part h) _ _⟩
  | fin ss =>
    have s1 : LtA 40 ss := sx
    show dLcGo (dgN 13) dYes (dBin fMul (dVar 8) (dVar 13)) (wipeE [some .spr, e1, e2, e3, some (.own acc), some (.dat (Nd.fin ss).d), e6, e7, some (.dat (.int f)), e9, e10, e11, e12, e13, e14] [13]) (ss.map D.int) [] _
    refine lc_map' (g := fun w => D.int (f * w)) ss _ (fun w hw => ⟨_, rfl, fun R hR => ⟨mulOk (sm_of f1 (by decide) (by decide)) (sm_of (s1 w hw) (by decide) (by decide)), hR⟩⟩) (sz2 (Nat.le_trans lx (by decide))) ?_
    have e : ss.map (fun w => D.int (f * w)) = (ss.map fun s => f * s).map D.int := by
      rw [List.map_map]
      rfl
    rw [e]
    exact ⟨hz, q (.fin (ss.map fun s => f * s)) (fun _ _ h => .fin f0 f1 h) _ _⟩
theorem w1_go {e1 e2 e3 e6 e7 e10 e11 e12 e13 e14 : Option Cell} {Z : DEnds} : ∀ (ns : List Nd) (acc : List D) (e5 e8 e9 : Option Cell), (∀ x ∈ ns, x.len ≤ 100 ∧ x.small 40) → acc.length + ns.length ≤ 500 →
    (∀ ys, Sc ns ys → ∀ e5 e8 e9, Z.nx [some .spr, e1, e2, e3, some (.own (acc ++ ys.map Nd.d)), e5, e6, e7, e8, e9, e10, e11, e12, e13, e14]) →
    dLoop (dgN 5) b_w1 Z (ns.map Nd.d) [some .spr, e1, e2, e3, some (.own acc), e5, e6, e7, e8, e9, e10, e11, e12, e13, e14]
  | [], acc, e5, e8, e9, _, _, q => by
    have := q [] .nil e5 e8 e9
    rw [List.map_nil, List.append_nil] at this
    exact this
  | x :: ns, acc, e5, e8, e9, hx, hl, q => by
    rw [List.length_cons] at hl
    obtain ⟨h1, h2⟩ := hx x List.mem_cons_self
    show b_w1 { nx := fun e => dLoop (dgN 5) b_w1 Z (ns.map Nd.d) e, rt := Z.rt, bk := Z.nx, ct := fun e => dLoop (dgN 5) b_w1 Z (ns.map Nd.d) e } [some .spr, e1, e2, e3, some (.own acc), some (.dat x.d), e6, e7, e8, e9, e10, e11, e12, e13, e14]
    refine w1_step h1 h2 (by omega) fun y hy f8 f9 => ?_
    refine w1_go ns (acc ++ [y.d]) _ _ _ (fun z hz => hx z (List.mem_cons_of_mem _ hz)) (by rw [List.length_append, List.length_singleton]; omega) fun ys hs g5 g8 g9 => ?_
    have := q (y :: ys) (hy _ _ hs) g5 g8 g9
    rw [List.append_assoc]
    exact this
/-- a tree that is right for these, of so many nodes -/
structure WI (n : Nat) (B : List Bd) (l c : Nat) (ns : List Nd) : Prop where
  run : runN n ns [B] = some []
  len : ns.length ≤ l
  sz : ∀ x ∈ ns, x.len ≤ c ∧ x.small 150
def b_w2 : DS := (dSeq (dAsg 10 (dFr (dLcons (dC (.int 0)) (dLcons (dC (.int 1)) (dLcons (dUn fNeg (dC (.int 1))) (dLcons (dC (.int 3)) (dLcons (dUn fNeg (dC (.int 7))) (dLcons (dBin fPow (dC (.int 10)) (dC (.int 38))) dLnil)))))))) (dSeq (dAsg 11 (dFr (dLc (dIl (dVar 1)) (dgN 14) dYes (dBin fMul (dCall sp_law_of (dAS 0 (dLcons (dVar 10) dLnil))) (dUn fIntI (dBin fEq (dVar 14) (dC (.str "whole"))))) [14]))) (dIfS (dTest (dBin fNeD (dVar 11) (dFr (dRep (dLcons (dC (.int 0)) dLnil) (dUn fLen (dVar 1)))))) (dSeq (dAsg 12 (dCall sp_law_lifted (dA (dLcons (dCall sp_law_of (dAS 0 (dLcons (dFr (dLcons (dVar 2) (dLcons (dVar 6) dLnil))) dLnil))) (dLcons (dVar 3) dLnil))))) (dSeq (dAsg 13 (dCall sp_law_of (dAS 0 (dLcons (dFr (dLcons (dC (.int 0)) (dLcons (dUn fNeg (dC (.int 1))) (dLcons (dC (.int 5)) (dLcons (dUn fNeg (dBin fPow (dC (.int 10)) (dC (.int 39)))) (dLcons (dBin fPow (dC (.int 10)) (dC (.int 39))) (dLcons (dBin fSub (dCall sp_law_draw (dAS 0 (dLcons (dC (.int 2001)) dLnil))) (dC (.int 1000))) dLnil))))))) dLnil)))) (dAsg 6 (dBin fAdd (dBin fAdd (dTup (dLcons (dTup (dLcons (dC (.str "part")) (dLcons (dUn fTuple (dVar 11)) (dLcons (dVar 13) dLnil)))) dLnil)) (dVar 12)) (dCall sp_law_lifted (dA (dLcons (dVar 6) (dLcons (dVar 3) dLnil)))))))) dNx)))
theorem hwh : (("whole" : Str) == ("whole" : Str)) = true := by decide +kernel
theorem lift_small {k m : Nat} {x : Nd} (h : x.small k) (k0 : 0 < k) : (x.lift m).small k := by
  cases x with
  | part ws c => exact h
  | fin ss =>
    intro i hi
    have hi : i ∈ ss.take m ++ [0] ++ ss.drop m := hi
    rcases List.mem_append.mp hi with z | z
    · rcases List.mem_append.mp z with z | z
      · exact h i (List.mem_of_mem_take z)
      · rw [List.mem_singleton.mp z]
        show 0 < 2 ^ k
        exact Nat.pow_pos (by decide)
    · exact h i (List.mem_of_mem_drop z)
theorem lift_len {c m : Nat} {x : Nd} (h : x.len ≤ c) : (x.lift m).len ≤ c + 1 := by
  cases x with
  | part ws cc => exact Nat.le_trans h (Nat.le_succ _)
  | fin ss =>
    show (insL ss m).length ≤ _
    rw [ins_len]
    exact Nat.succ_le_succ h
theorem lt_39b : Lt 130 ((10 : Int) ^ (39 : Int).toNat) := by
  show ((10 : Int) ^ (39 : Int).toNat).natAbs < 2 ^ 130
  decide +kernel
theorem lt_38 : Lt 130 ((10 : Int) ^ (38 : Int).toNat) := by
  show ((10 : Int) ^ (38 : Int).toNat).natAbs < 2 ^ 130
  decide +kernel
theorem w2_step {n l c : Nat} {B : List Bd} {ns fs : List Nd} {e4 e5 e7 e8 e9 e10 e11 e12 e13 e14 : Option Cell} {Z : DEnds} (n12 : n = 1 ∨ n = 2) (l100 : l ≤ 100) (c100 : c ≤ 100) (wn : WI n B l c ns) (wf : WI n B l c fs)
    (q : ∀ fs', WI n B (2 * l + 1) (c + 3) fs' → ∀ e10 e11 e12 e13, Z.nx [some .spr, some (.dat (kindsL n)), some (.dat (ndsT ns)), some (.dat (.int ((B.length : Nat) : Int))), e4, e5, some (.dat (ndsT fs')), e7, e8, e9, e10, e11, e12, e13, e14]) :
    b_w2 Z [some .spr, some (.dat (kindsL n)), some (.dat (ndsT ns)), some (.dat (.int ((B.length : Nat) : Int))), e4, e5, some (.dat (ndsT fs)), e7, e8, e9, e10, e11, e12, e13, e14] := by
  unfold b_w2
  have p38 : (0 : Int) ≤ 38 ∧ (38 : Int) ≤ 1000000 ∧ (10 : Int).natAbs < 2 ^ 64 := by decide
  refine ⟨p38, ?_⟩
  show dLcGo (dgN 14) dYes (dBin fMul (dCall sp_law_of (dAS 0 (dLcons (dVar 10) dLnil))) (dUn fIntI (dBin fEq (dVar 14) (dC (.str "whole"))))) (wipeE [some .spr, some (.dat (kindsL n)), some (.dat (ndsT ns)), some (.dat (.int ((B.length : Nat) : Int))), e4, e5, some (.dat (ndsT fs)), e7, e8, e9, some (.dat (.lst [.int 0, .int 1, .int (-1), .int 3, .int (-7), .int ((10 : Int) ^ (38 : Int).toNat)])), e11, e12, e13, e14] [14]) (List.replicate n (.str "whole")) [] _
  refine lc_any (P := isI 150) _ [] _ (fun x hx => ⟨_, rfl, fun R hR => ?_⟩) (by rw [List.length_replicate]; exact sz2 (by rcases n12 with z | z <;> rw [z] <;> decide)) fun ys yl yp => ?_
  · rw [List.eq_of_mem_replicate hx]
    refine ⟨rfl, of_ok (by show 0 < 6; decide) (by show 6 < 1000000; decide) ?_⟩
    have all : ∀ d ∈ [D.int 0, .int 1, .int (-1), .int 3, .int (-7), .int ((10 : Int) ^ (38 : Int).toNat)], isI 130 d :=
      al_cons ⟨_, rfl, by decide⟩ (al_cons ⟨_, rfl, by decide⟩ (al_cons ⟨_, rfl, by decide⟩ (al_cons ⟨_, rfl, by decide⟩ (al_cons ⟨_, rfl, by decide⟩ (al_cons ⟨_, rfl, lt_38⟩ al_nil)))))
    intro d hd
    obtain ⟨i, ei, hi⟩ := all d hd
    subst ei
    show MulOk i (if (("whole" : Str) == ("whole" : Str)) = true then 1 else 0) ∧ R (.int (i * (if (("whole" : Str) == ("whole" : Str)) = true then 1 else 0)))
    rw [hwh, if_pos rfl, Int.mul_one]
    exact ⟨mulOk (sm_of hi (by decide) (by decide)) sm1, hR _ ⟨i, rfl, lt_mono hi (by decide)⟩⟩
  · obtain ⟨ws, ew, hw⟩ := ys_ints yp
    subst ew
    rw [List.length_map, List.length_replicate] at yl
    rw [List.nil_append]
    have n2 : n ≤ 2 := by omega
    have hrep : (List.replicate n (D.str "whole")).length = n := List.length_replicate
    show (-(2 ^ 63) ≤ (((List.replicate n (D.str "whole")).length : Nat) : Int) ∧ (((List.replicate n (D.str "whole")).length : Nat) : Int) < 2 ^ 63 ∧ (((List.replicate n (D.str "whole")).length : Nat) : Int).toNat ≤ sizeLine) ∧ Shp (.lst (ws.map D.int)) ∧ Shp (.lst (List.replicate (((List.replicate n (D.str "whole")).length : Nat) : Int).toNat (.int 0))) ∧ (if (!PyData.eqv (py (.lst (ws.map D.int))) (py (.lst (List.replicate (((List.replicate n (D.str "whole")).length : Nat) : Int).toNat (.int 0))))) = true then _ else _)
    rw [hrep, Int.toNat_natCast]
    refine ⟨⟨by omega, by omega, sz2 (by omega)⟩, shp_of (shp_intsL (k := 0)) (by decide), shp_of (shp_zeros (k := 0)) (by decide), ?_⟩
    rw [eqv_zeroL yl]
    cases hz : ws.all (· == 0) with
    | true =>
      rw [Bool.not_true, if_neg Bool.false_ne_true]
      exact q fs ⟨wf.run, by have := wf.len; omega, fun x hx => ⟨by have := (wf.sz x hx).1; omega, (wf.sz x hx).2⟩⟩ _ _ _ _
    | false =>
      rw [Bool.not_false, if_pos rfl]
      have w0 : ws.any (fun w => w != 0) = true := by
        have : (!ws.all (· == 0)) = true := by rw [hz]; rfl
        rw [List.not_all_eq_any_not] at this
        exact this
      have lsz : ∀ gs, WI n B l c gs → gs.length ≤ 1000 ∧ ∀ x ∈ gs, x.len ≤ 1000 := fun gs hg => ⟨by have := hg.len; omega, fun x hx => by have := (hg.sz x hx).1; omega⟩
      refine ⟨rfl, of_ok (by show 0 < 2; decide) (by show 2 < 1000000; decide) ?_⟩
      have hm : ∀ d ∈ [ndsT ns, ndsT fs], ∃ gs, d = ndsT gs ∧ WI n B l c gs := al_cons ⟨ns, rfl, wn⟩ (al_cons ⟨fs, rfl, wf⟩ al_nil)
      intro d hd
      obtain ⟨gs, eg, wg⟩ := hm d hd
      subst eg
      refine ⟨gs, B.length, rfl, (lsz gs wg).1, (lsz gs wg).2, ?_⟩
      refine ⟨rfl, pow39, pow39, rfl, draw_ok (n := 2001) (by decide) (by decide) fun r hr => ?_⟩
      refine of_ok (by show 0 < 6; decide) (by show 6 < 1000000; decide) ?_
      have hk : ∀ d ∈ [D.int 0, .int (-1), .int 5, .int (-((10 : Int) ^ (39 : Int).toNat)), .int ((10 : Int) ^ (39 : Int).toNat), .int ((r : Int) - 1000)], isI 150 d :=
        al_cons ⟨_, rfl, by decide⟩ (al_cons ⟨_, rfl, by decide⟩ (al_cons ⟨_, rfl, by decide⟩ (al_cons ⟨_, rfl, lt_mono (lt_neg lt_39b) (by decide)⟩ (al_cons ⟨_, rfl, lt_mono lt_39b (by decide)⟩ (al_cons ⟨_, rfl, lt_s (by omega) (by decide)⟩ al_nil)))))
      intro d hd
      obtain ⟨cc, ec, hc⟩ := hk d hd
      subst ec
      have lg := wg.len
      have lf := wf.len
      refine ⟨sz2 (by show 1 + ((gs.map (Nd.lift B.length)).map Nd.d).length ≤ 5000; rw [List.length_map, List.length_map]; omega), ?_⟩
      refine ⟨fs, B.length, rfl, (lsz fs wf).1, (lsz fs wf).2, ?_⟩
      refine ⟨sz2 (by show ([_] ++ (gs.map (Nd.lift B.length)).map Nd.d).length + ((fs.map (Nd.lift B.length)).map Nd.d).length ≤ 5000; rw [List.length_append, List.length_map, List.length_map, List.length_map, List.length_map, List.length_singleton]; omega), ?_⟩
      have wi : WI n B (2 * l + 1) (c + 3) (.part ws cc :: (gs.map (Nd.lift B.length) ++ fs.map (Nd.lift B.length))) := by
        refine ⟨run_wrap yl w0 wg.run wf.run, by rw [List.length_cons, List.length_append, List.length_map, List.length_map]; omega, fun x hx => ?_⟩
        rcases List.mem_cons.mp hx with z | hx
        · rw [z]
          exact ⟨by show ws.length ≤ _; omega, hw, hc⟩
        · have key : ∀ g ∈ gs ++ fs, g.len ≤ c ∧ g.small 150 := fun g hg => by
            rcases List.mem_append.mp hg with z | z
            · exact wg.sz g z
            · exact wf.sz g z
          rw [← List.map_append] at hx
          obtain ⟨g, hg, e⟩ := List.mem_map.mp hx
          subst e
          obtain ⟨k1, k2⟩ := key g hg
          exact ⟨Nat.le_trans (lift_len k1) (by omega), lift_small k2 (by decide)⟩
      have q' := q _ wi (some (.dat (.lst [.int 0, .int 1, .int (-1), .int 3, .int (-7), .int ((10 : Int) ^ (38 : Int).toNat)]))) (some (.dat (.lst (ws.map D.int)))) (some (.dat (ndsT (gs.map (Nd.lift B.length))))) (some (.dat (.int cc)))
      rw [show ndsT (.part ws cc :: (gs.map (Nd.lift B.length) ++ fs.map (Nd.lift B.length))) = .tup ([(Nd.part ws cc).d] ++ (gs.map (Nd.lift B.length)).map Nd.d ++ (fs.map (Nd.lift B.length)).map Nd.d) by
        show D.tup _ = _
        rw [List.map_cons, List.map_append]
        rfl] at q'
      exact q'
def sp_law_wrapped : DSp := fun cs Q => ∃ n B ns, cs = [.spr, .dat (kindsL n), .dat (ndsT ns), .dat (.int ((B.length : Nat) : Int))] ∧ (n = 1 ∨ n = 2) ∧ runN n ns [B] = some [] ∧ ns.length ≤ 10 ∧ (∀ x ∈ ns, x.len ≤ 20 ∧ x.small 40) ∧ ∀ ns', WI n B 50 30 ns' → Q (ndsT ns')
theorem sem_law_wrapped (cs : List Cell) (Q : D → Prop) (hl : cs.length = 4) (h : sp_law_wrapped cs Q) : d_law_wrapped sp_law_of sp_law_draw sp_law_lifted { nx := fun _ => Q .non, rt := Q } (startE N_law_wrapped cs) := by
  obtain ⟨n, B, ns, e, n12, run, nl, nsz, q⟩ := h
  subst e
  unfold d_law_wrapped
  show dLoop (dgN 5) b_w1 { nx := fun e => (dFreeze 4 (dSeq (dAsg 6 (dUn fTuple (dVar 4))) (dSeq (dFor (dIr (dCall sp_law_draw (dAS 0 (dLcons (dC (.int 3)) dLnil)))) (dgN 7) b_w2) (dRet (dVar 6))))) { nx := fun _ => Q .non, rt := Q } e, rt := Q } (ns.map Nd.d) [some .spr, some (.dat (kindsL n)), some (.dat (ndsT ns)), some (.dat (.int ((B.length : Nat) : Int))), some (.own []), none, none, none, none, none, none, none, none, none, none]
  refine w1_go ns [] none none none (fun x hx => ⟨Nat.le_trans (nsz x hx).1 (by decide), (nsz x hx).2⟩) (by rw [List.length_nil]; omega) fun ys hs e5 e8 e9 => ?_
  rw [List.nil_append]
  have wn : WI n B 10 20 ns := ⟨run, nl, fun x hx => ⟨(nsz x hx).1, by
    have := (nsz x hx).2
    cases x with
    | part ws c => exact ⟨fun i hi => lt_mono (this.1 i hi) (by decide), lt_mono this.2 (by decide)⟩
    | fin ss => exact fun i hi => lt_mono (this i hi) (by decide)⟩⟩
  have wy : WI n B 10 20 ys := ⟨run_scale hs run, by rw [sc_len hs]; exact nl, sc_small hs nsz⟩
  have up : ∀ {l c l' c' : Nat} {gs : List Nd}, WI n B l c gs → l ≤ l' → c ≤ c' → WI n B l' c' gs := fun h h1 h2 => ⟨h.run, Nat.le_trans h.len h1, fun x hx => ⟨Nat.le_trans (h.sz x hx).1 h2, (h.sz x hx).2⟩⟩
  refine ⟨rfl, draw_ok (n := 3) (by decide) (by decide) fun r hr => ?_⟩
  refine ⟨⟨by omega, by omega⟩, ?_⟩
  rw [Int.toNat_natCast]
  match r, hr with
  | 0, _ => exact q ys (up wy (by decide) (by decide))
  | 1, _ =>
    refine w2_step (l := 10) (c := 20) n12 (by decide) (by decide) wn wy fun fs wf e10 e11 e12 e13 => ?_
    exact q fs (up wf (by decide) (by decide))
  | 2, _ =>
    refine w2_step (l := 10) (c := 20) n12 (by decide) (by decide) wn wy fun fs wf e10 e11 e12 e13 => ?_
    refine w2_step (l := 21) (c := 23) n12 (by decide) (by decide) (up wn (by decide) (by decide)) wf fun gs wg f10 f11 f12 f13 => ?_
    exact q gs (up wg (by decide) (by decide))
end Fe
set_option Elab.async false
set_option linter.all false
set_option maxRecDepth 100000
set_option maxHeartbeats 4000000
/-! Layer 3: whole made any; a kept inequality. -/
namespace Fe
open PySem PySem.W PySem.Calls PyProof.Rows L2 TL

/-! ### replace -/
theorem replace_join {x y z : Str} {parts : List Str} (hy : (y.length == 0) = false) (h : Txt.split x y = parts) (l : 2 ≤ parts.length) : Txt.replace x y z = Str.join z parts := by
  unfold Txt.split at h
  split at h
  · rw [← h] at l
    exact absurd (show 2 ≤ 1 from l) (by decide)
  · split at h
    · rw [← h] at l
      exact absurd (show 2 ≤ 1 from l) (by decide)
    · rename_i he
      unfold Txt.replace
      rw [hy, Bool.false_and, Bool.or_false, if_neg he, h, PySem.StrLaws.glued_eq_join]
def tailL (rows : List (List Nat)) : List Nat := match rows with
  | [] => []
  | r :: rs => 10 :: joinL [10] (r :: rs)
theorem joinL_tail (a : List Nat) : ∀ rows : List (List Nat), joinL [10] (a :: rows) = a ++ tailL rows
  | [] => (List.append_nil a).symm
  | r :: rs => rfl
def tailS (ps : List Pr) : Str := ⟨(tailL (ps.map fun p => tl p.2)).toArray⟩
theorem tl_tailS (ps : List Pr) : tl (tailS ps) = tailL (ps.map fun p => tl p.2) := rfl
theorem txS_tl (kd : Str) (n : Nat) (ps : List Pr) : tl (txS kd n ps) = tl (headS kd n) ++ tl (tailS ps) := by
  unfold txS
  rw [join_eq, tl_join, List.map_cons, List.map_map, tl_nl, joinL_tail, tl_tailS]
  rfl
def partsW (n : Nat) (ps : List Pr) : List Str := if n = 1 then ["x ", tailS ps] else ["x ", ", y ", tailS ps]
theorem tl_whole : tl ("whole" : Str) = [119, 104, 111, 108, 101] := by decide +kernel
theorem hd_tl1 (kd : Str) (h : kd = "whole" ∨ kd = "any") : tl (headS kd 1) = tl ("x " : Str) ++ tl kd := by
  rcases h with z | z <;> subst z <;> decide +kernel
theorem hd_tl2 (kd : Str) (h : kd = "whole" ∨ kd = "any") : tl (headS kd 2) = tl ("x " : Str) ++ tl kd ++ tl (", y " : Str) ++ tl kd := by
  rcases h with z | z <;> subst z <;> decide +kernel
theorem txS_join {kd : Str} {n : Nat} {ps : List Pr} (hk : kd = "whole" ∨ kd = "any") (hn : n = 1 ∨ n = 2) : txS kd n ps = Str.join kd (partsW n ps) := by
  refine ext_tl ?_
  rw [txS_tl, tl_join]
  rcases hn with z | z <;> subst z
  · rw [hd_tl1 kd hk, List.append_assoc]
    rfl
  · rw [hd_tl2 kd hk, List.append_assoc, List.append_assoc, List.append_assoc]
    rfl
theorem tail_free {n : Nat} {ps : List Pr} (h : ∀ p ∈ ps, RowOk n p.1 p.2) : 119 ∉ tl (tailS ps) := by
  have hr : ∀ p ∈ ps, ∀ c ∈ tl p.2, c ≠ 119 := fun p hp => rowOk_all (P := fun c => c ≠ 119) ⟨fun c h => by omega, fun c h => by intro z; subst z; revert h; decide⟩ (h p hp)
  intro hc
  have key : ∀ c ∈ tl (Str.join ("\n" : Str) (ps.map fun p => p.2)), c ≠ 119 := by
    refine join_all (P := fun c => c ≠ 119) (fun c h => ?_) _ fun p hp => ?_
    · rw [tl_nl] at h
      rw [List.mem_singleton.mp h]
      decide
    · obtain ⟨r, hr', e⟩ := List.mem_map.mp hp
      subst e
      exact hr r hr'
  rw [tl_join, List.map_map, tl_nl] at key
  rw [tl_tailS] at hc
  cases ps with
  | nil => exact nomatch hc
  | cons p ps =>
    rcases List.mem_cons.mp hc with z | z
    · exact absurd z (by decide)
    · exact key 119 z rfl
theorem repl_tx {n : Nat} {ps : List Pr} (ok : PsOk "whole" n ps) : Txt.replace (txS "whole" n ps) "whole" "any" = txS "any" n ps := by
  have sp : Txt.split (txS "whole" n ps) "whole" = partsW n ps := by
    rw [txS_join (.inl rfl) ok.n12, ← join_eq]
    refine split_join (y := "whole") (s := 119) (S := [104, 111, 108, 101]) tl_whole (by decide +kernel) ?_ fun p hp => ?_
    · rcases ok.n12 with z | z <;> subst z <;> simp [partsW]
    · have f1 : 119 ∉ tl ("x " : Str) := by decide +kernel
      have f2 : 119 ∉ tl (", y " : Str) := by decide +kernel
      have f3 := tail_free ok.row
      rcases ok.n12 with z | z <;> subst z
      · rcases List.mem_cons.mp (show p ∈ (["x ", tailS ps] : List Str) from hp) with y | y
        · rw [y]
          exact f1
        · rw [List.mem_singleton.mp y]
          exact f3
      · rcases List.mem_cons.mp (show p ∈ (["x ", ", y ", tailS ps] : List Str) from hp) with y | y
        · rw [y]
          exact f1
        · rcases List.mem_cons.mp y with y | y
          · rw [y]
            exact f2
          · rw [List.mem_singleton.mp y]
            exact f3
  rw [replace_join (by decide +kernel) sp (by rcases ok.n12 with z | z <;> subst z <;> simp [partsW]), ← txS_join (.inr rfl) ok.n12]
theorem head_any_len {n : Nat} (hn : n = 1 ∨ n = 2) : (tl (headS "any" n)).length ≤ (tl (headS "whole" n)).length := by
  rcases hn with y | y <;> subst y <;> decide +kernel
/-- the text of the same inequalities, any unknowns -/
theorem tx_any {text : Str} {n : Nat} {bs : List Bd} (h : TxD text "whole" n bs) : TxD (Txt.replace text "whole" "any") "any" n bs ∧ text.length ≤ 100000 := by
  obtain ⟨ps, ok, eb, et, tl'⟩ := h
  refine ⟨⟨ps, ⟨.inr rfl, ok.n12, ok.len, ok.row⟩, eb, by rw [et]; exact repl_tx ok, ?_⟩, tl'⟩
  rw [et, repl_tx ok, len_tl, txS_tl, List.length_append]
  rw [et, len_tl, txS_tl, List.length_append] at tl'
  have := head_any_len ok.n12
  omega
/-! ### kept -/
def isR (lo hi : Int) (d : D) : Prop := ∃ i, d = .int i ∧ lo ≤ i ∧ i ≤ hi
theorem ys_R {lo hi : Int} : ∀ {ys : List D}, (∀ y ∈ ys, isR lo hi y) → ∃ ws : List Int, ys = ws.map D.int ∧ ∀ w ∈ ws, lo ≤ w ∧ w ≤ hi
  | [], _ => ⟨[], rfl, fun _ h => nomatch h⟩
  | y :: ys, h => by
    obtain ⟨i, e, hb⟩ := h y List.mem_cons_self
    obtain ⟨ws, ew, hw⟩ := ys_R (fun z hz => h z (List.mem_cons_of_mem _ hz) : ∀ z ∈ ys, isR lo hi z)
    refine ⟨i :: ws, by rw [e, ew]; rfl, fun j hj => ?_⟩
    rcases List.mem_cons.mp hj with z | z
    · rw [z]
      exact hb
    · exact hw j z
theorem dot_abs {a b : Nat} : ∀ {ws xs : List Int}, (∀ w ∈ ws, w.natAbs ≤ a) → (∀ x ∈ xs, x.natAbs ≤ b) → (dot ws xs).natAbs ≤ ws.length * (a * b)
  | [], xs, _, _ => by
    rw [dot_nil]
    exact Nat.zero_le _
  | w :: ws, [], _, _ => by
    rw [dot_nil2]
    exact Nat.zero_le _
  | w :: ws, x :: xs, hw, hx => by
    have ih := dot_abs (fun v hv => hw v (List.mem_cons_of_mem _ hv) : ∀ v ∈ ws, v.natAbs ≤ a) (fun v hv => hx v (List.mem_cons_of_mem _ hv) : ∀ v ∈ xs, v.natAbs ≤ b)
    have h1 := Nat.mul_le_mul (hw w List.mem_cons_self) (hx x List.mem_cons_self)
    have h2 : (w * x).natAbs ≤ a * b := by
      rw [Int.natAbs_mul]
      exact h1
    rw [dot_cons, List.length_cons, Nat.add_mul, Nat.one_mul]
    have := Int.natAbs_add_le (w * x) (dot ws xs)
    omega
theorem dSetI_at {i j : Nat} {di de : DE} {Z : DEnds} {en : En} {ds : List D} {P : D → Prop} {k : Int} (h : en[i]? = some (some (.own ds))) (hv : ∀ R : D → Prop, (∀ d, P d → R d) → de en R) (hk : ∀ R : D → Prop, R (.int k) → di en R) (hj : L2.ixN ds.length k = some j) (q : ∀ d, P d → Z.nx (en.set i (some (.own (ds.set j d))))) : dSetI i di de Z en := by
  unfold dSetI
  rw [h]
  refine hv _ fun d pd => hk _ ?_
  show (match L2.ixN ds.length k with
    | some j => Z.nx (en.set i (some (.own (ds.set j d))))
    | none => False)
  rw [hj]
  exact q d pd
theorem setI_seq {i j : Nat} {di de : DE} {rest : DS} {Z : DEnds} {en : En} {ds : List D} {P : D → Prop} {k : Int} (h : en[i]? = some (some (.own ds))) (hv : ∀ R : D → Prop, (∀ d, P d → R d) → de en R) (hk : ∀ R : D → Prop, R (.int k) → di en R) (hj : L2.ixN ds.length k = some j) (q : ∀ d, P d → rest Z (en.set i (some (.own (ds.set j d))))) : dSeq (dSetI i di de) rest Z en := dSetI_at (P := P) h hv hk hj q
def sp_law_kept : DSp := fun cs Q => ∃ n xs, cs = [.spr, .dat (tI xs)] ∧ (n = 1 ∨ n = 2) ∧ xs.length = n ∧ (∀ x ∈ xs, x.natAbs ≤ 20000) ∧ ∀ b : Bd, BdOk n b → dot b.1 xs ≤ b.2 → Q (bnd b)
def t_kept : DS := (dFreeze 2 (dRet (dTup (dLcons (dUn fTuple (dVar 2)) (dLcons (dBin fAdd (dCall sp_law_total (dA (dLcons (dVar 2) (dLcons (dVar 1) dLnil)))) (dCall sp_law_draw (dAS 0 (dLcons (dC (.int 10)) dLnil)))) dLnil)))))
theorem kept_tail {n : Nat} {ws xs : List Int} {e3 : Option Cell} {Q : D → Prop} (n12 : n = 1 ∨ n = 2) (xl : xs.length = n) (wl : ws.length = n) (hx : ∀ x ∈ xs, x.natAbs ≤ 20000) (hw : ∀ w ∈ ws, w.natAbs ≤ 9) (w0 : ∃ w ∈ ws, w ≠ 0) (q : ∀ b : Bd, BdOk n b → dot b.1 xs ≤ b.2 → Q (bnd b)) :
    t_kept { nx := fun _ => Q .non, rt := Q } [some .spr, some (.dat (tI xs)), some (.own (ws.map D.int)), e3] := by
  unfold t_kept
  have n2 : n ≤ 2 := by omega
  have big : ∀ {k : Nat} {i : Int}, i.natAbs ≤ k → k ≤ 1000000000 → Lt 300 i := fun {k i} h h2 => lt_s (by omega) (by decide)
  refine ⟨.lst (ws.map D.int), tI xs, ws, xs, rfl, .inr rfl, .inl rfl, fun i hi => big (hw i hi) (by decide), fun i hi => big (hx i hi) (by decide), by omega, ?_⟩
  refine ⟨rfl, draw_ok (n := 10) (by decide) (by decide) fun r hr => ?_⟩
  have hd := dot_abs hw hx
  rw [wl] at hd
  have hd2 : (dot ws xs).natAbs ≤ 360000 := Nat.le_trans hd (by
    have := Nat.mul_le_mul_right (9 * 20000) n2
    omega)
  exact q (ws, dot ws xs + (r : Int)) ⟨⟨n12, wl, fun w h => Nat.le_trans (hw w h) (by decide), w0⟩, by show (dot ws xs + (r : Int)).natAbs ≤ _; omega⟩ (by show dot ws xs ≤ dot ws xs + (r : Int); omega)
theorem sem_law_kept (cs : List Cell) (Q : D → Prop) (hl : cs.length = 2) (h : sp_law_kept cs Q) : d_law_kept sp_law_draw sp_law_total { nx := fun _ => Q .non, rt := Q } (startE N_law_kept cs) := by
  obtain ⟨n, xs, e, n12, xl, hx, q⟩ := h
  subst e
  have n2 : n ≤ 2 := by omega
  unfold d_law_kept
  show dLcGo (dgN 3) dYes (dBin fSub (dCall sp_law_draw (dAS 0 (dLcons (dC (.int 19)) dLnil))) (dC (.int 9))) (wipeE [some .spr, some (.dat (tI xs)), none, none] [3]) (xs.map D.int) [] _
  refine lc_any (P := isR (-9) 9) _ [] _ (fun x hx => ⟨_, rfl, fun R hR => ?_⟩) (by rw [List.length_map]; exact sz2 (by show 0 + _ ≤ _; omega)) fun ys yl yp => ?_
  · refine ⟨rfl, draw_ok (n := 19) (by decide) (by decide) fun r hr => hR _ ⟨_, rfl, by omega, by omega⟩⟩
  · obtain ⟨ws, ew, hw⟩ := ys_R yp
    subst ew
    rw [List.length_map, List.length_map] at yl
    rw [List.nil_append]
    have wl : ws.length = n := by omega
    have hrep : (xs.map D.int).length = n := by rw [List.length_map]; exact xl
    show (-(2 ^ 63) ≤ (((xs.map D.int).length : Nat) : Int) ∧ (((xs.map D.int).length : Nat) : Int) < 2 ^ 63 ∧ (((xs.map D.int).length : Nat) : Int).toNat ≤ sizeLine) ∧ Shp (.lst (ws.map D.int)) ∧ Shp (.lst (List.replicate (((xs.map D.int).length : Nat) : Int).toNat (.int 0))) ∧ (if PyData.eqv (py (.lst (ws.map D.int))) (py (.lst (List.replicate (((xs.map D.int).length : Nat) : Int).toNat (.int 0)))) = true then _ else _)
    rw [hrep, Int.toNat_natCast]
    refine ⟨⟨by omega, by omega, sz2 (by omega)⟩, shp_of (shp_intsL (k := 0)) (by decide), shp_of (shp_zeros (k := 0)) (by decide), ?_⟩
    rw [eqv_zeroL wl]
    cases hz : ws.all (· == 0) with
    | true =>
      rw [if_pos rfl]
      have hj : ∃ j, L2.ixN (ws.map D.int).length 0 = some j ∧ j = 0 := by
        rw [List.length_map, wl]
        rcases n12 with z | z <;> subst z <;> exact ⟨0, by decide, rfl⟩
      obtain ⟨j, ej, j0⟩ := hj
      subst j0
      refine dSetI_at (P := fun d => d = .int (-2)) (ds := ws.map D.int) rfl (fun R hR => hR _ rfl) (fun R hR => hR) ej fun d hd => ?_
      subst hd
      have es : (ws.map D.int).set 0 (.int (-2)) = (ws.set 0 (-2)).map D.int := by rw [List.map_set]
      rw [es]
      refine kept_tail n12 xl (by rw [List.length_set]; exact wl) hx (fun w h => ?_) ⟨-2, List.mem_iff_getElem.mpr ⟨0, by rw [List.length_set]; omega, List.getElem_set_self _⟩, by decide⟩ q
      rcases List.mem_or_eq_of_mem_set h with z | z
      · have := hw w z
        omega
      · rw [z]
        decide
    | false =>
      rw [if_neg Bool.false_ne_true]
      refine kept_tail n12 xl wl hx (fun w h => by have := hw w h; omega) ?_ q
      apply Classical.byContradiction
      intro hno
      have : ws.all (· == 0) = true := List.all_eq_true.mpr fun w h => by
        rw [beq_iff_eq]
        apply Classical.byContradiction
        intro h0
        exact hno ⟨w, h, h0⟩
      rw [this] at hz
      cases hz
end Fe
set_option Elab.async false
set_option linter.all false
set_option maxRecDepth 100000
set_option maxHeartbeats 4000000
/-! Layer 3: a case of a greatest value. -/
namespace Fe
open PySem PySem.W PySem.Calls PyProof.Rows L2 TL

theorem ixN_n {n j : Nat} (hj : j < n) : L2.ixN n (j : Int) = some j := by
  unfold L2.ixN
  rw [if_pos (by omega), if_pos (by omega)]
  simp

/-! ### the tree -/
theorem getD_map0 (f : Int → Int) (f0 : f 0 = 0) (w : List Int) (k : Nat) : (w.map f).getD k 0 = f (w.getD k 0) := by
  rw [List.getD_eq_getElem?_getD, List.getD_eq_getElem?_getD, List.getElem?_map]
  cases w[k]? with
  | none => exact f0.symm
  | some x => rfl
theorem dot_fin1 (g : Bd → Int) (bs : List Bd) (p q : Bd) (a b : Int) : dot (List.replicate bs.length 0 ++ [a, b]) ((bs ++ [p] ++ [q]).map g) = a * g p + b * g q := by
  have h := dot_zeros (bs.map g) [a, b] [g p, g q]
  rw [List.length_map] at h
  rw [List.append_assoc, List.map_append]
  refine Eq.trans h ?_
  rw [dot_cons, dot_cons, dot_nil, Int.add_zero]
theorem dot_fin2 (g : Bd → Int) (bs : List Bd) (p q x : Bd) (i : Nat) (a b : Int) (hi : bs[i]? = some x) : dot ((List.replicate bs.length 0).set i 1 ++ [a, b]) ((bs ++ [p] ++ [q]).map g) = g x + (a * g p + b * g q) := by
  have h := dot_one (bs.map g) [a, b] [g p, g q] i (g x) (by rw [List.getElem?_map, hi]; rfl)
  rw [List.length_map] at h
  rw [List.append_assoc, List.map_append]
  refine Eq.trans h ?_
  rw [dot_cons, dot_cons, dot_nil, Int.add_zero]
def baseN (bs : List Bd) (w : List Int) (size up level : Int) (i : Nat) : List Nd := [.part w level, .fin (List.replicate bs.length 0 ++ [1, size]), .fin ((List.replicate bs.length 0).set i 1 ++ [0, up])]
theorem base_run {n : Nat} {bs : List Bd} {w : List Int} {size up level r : Int} {i : Nat} (wl : w.length = n) (w0 : w.any (fun w => w != 0) = true) (s0 : 0 ≤ size) (u0 : 0 < up) (r1 : r < up) (hi : bs[i]? = some (w.map (fun x => up * x), up * level + r)) :
    runN n (baseN bs w size up level i) [bs ++ [(neg (w.map fun x => size * x), -(size * level + 1))]] = some [] := by
  have e1 : eOk n (bs ++ [(neg (w.map fun x => size * x), -(size * level + 1))] ++ [(w, level)]) (List.replicate bs.length 0 ++ [1, size]) = true := by
    rw [eok_iff]
    refine ⟨by simp, fun s hs => ?_, fun k hk => ?_, ?_⟩
    · rcases List.mem_append.mp hs with z | z
      · rw [List.eq_of_mem_replicate z]
        decide
      · rcases List.mem_cons.mp z with z | z
        · rw [z]
          decide
        · rw [List.mem_singleton.mp z]
          exact s0
    · rw [dot_fin1]
      show 1 * (neg (w.map fun x => size * x)).getD k 0 + size * w.getD k 0 = 0
      unfold neg
      rw [getD_map0 (fun w => -w) rfl, getD_map0 (fun x => size * x) (Int.mul_zero _)]
      omega
    · rw [dot_fin1]
      show 1 * -(size * level + 1) + size * level < 0
      omega
  have e2 : eOk n (bs ++ [(neg (w.map fun x => size * x), -(size * level + 1))] ++ [(neg w, -(level + 1))]) ((List.replicate bs.length 0).set i 1 ++ [0, up]) = true := by
    rw [eok_iff]
    refine ⟨by simp, fun s hs => ?_, fun k hk => ?_, ?_⟩
    · rcases List.mem_append.mp hs with z | z
      · rcases List.mem_or_eq_of_mem_set z with z | z
        · rw [List.eq_of_mem_replicate z]
          decide
        · rw [z]
          decide
      · rcases List.mem_cons.mp z with z | z
        · rw [z]
          decide
        · rw [List.mem_singleton.mp z]
          omega
    · rw [dot_fin2 _ _ _ _ _ _ _ _ hi]
      show (w.map fun x => up * x).getD k 0 + (0 * _ + up * (neg w).getD k 0) = 0
      unfold neg
      rw [getD_map0 (fun w => -w) rfl w k, getD_map0 (fun x => up * x) (Int.mul_zero _), Int.zero_mul, Int.mul_neg]
      omega
    · rw [dot_fin2 _ _ _ _ _ _ _ _ hi]
      show up * level + r + (0 * _ + up * -(level + 1)) < 0
      rw [Int.zero_mul, Int.mul_neg, Int.mul_add, Int.mul_one]
      omega
  unfold baseN runN
  rw [stN_part, if_pos ⟨wl, w0⟩]
  show runN n (.fin _ :: _) _ = _
  unfold runN
  rw [stN_fin, if_pos e1]
  show runN n (.fin _ :: _) _ = _
  unfold runN
  rw [stN_fin, if_pos e2]
  rfl

/-- a right case -/
structure CaseOk (n : Nat) (text : Str) (bs : List Bd) (aim : List Int) (top : Int) (spot : List Int) (ns : List Nd) : Prop where
  tx : TxD text "whole" n bs
  n12 : n = 1 ∨ n = 2
  al : aim.length = n
  am : ∀ a ∈ aim, a.natAbs ≤ 99
  tp : top.natAbs ≤ 1000000
  sl : spot.length = n
  sp : ∀ x ∈ spot, x.natAbs ≤ 20000
  kp : keeps bs spot = true
  val : dot aim spot = top
  run : runN n ns [bs ++ [(neg aim, -(top + 1))]] = some []
  nl : ns.length = 3
  nd : ∀ x ∈ ns, 0 < x.len ∧ x.len ≤ 20 ∧ x.small 40
def sp_law_best_case : DSp := fun cs Q => cs = [.spr] ∧ ∀ n text bs aim top spot ns, CaseOk n text bs aim top spot ns → Q (.lst [.lst [.str text, kindsL n, bndsL bs], tI aim, .int top, tI spot, ndsT ns])
def isB (n : Nat) (xs : List Int) (d : D) : Prop := ∃ b : Bd, d = bnd b ∧ BdOk n b ∧ dot b.1 xs ≤ b.2
theorem ys_B {n : Nat} {xs : List Int} : ∀ {ys : List D}, (∀ y ∈ ys, isB n xs y) → ∃ bs : List Bd, ys = bs.map bnd ∧ ∀ b ∈ bs, BdOk n b ∧ dot b.1 xs ≤ b.2
  | [], _ => ⟨[], rfl, fun _ h => nomatch h⟩
  | y :: ys, h => by
    obtain ⟨i, e, hb⟩ := h y List.mem_cons_self
    obtain ⟨ws, ew, hw⟩ := ys_B (fun z hz => h z (List.mem_cons_of_mem _ hz) : ∀ z ∈ ys, isB n xs z)
    refine ⟨i :: ws, by rw [e, ew]; rfl, fun j hj => ?_⟩
    rcases List.mem_cons.mp hj with z | z
    · rw [z]
      exact hb
    · exact hw j z
def t_bc : DS := (dSeq (dPar 13 14 (dCall sp_law_draw (dAS 0 (dLcons (dC (.int 4)) dLnil))) (dCall sp_law_draw (dAS 0 (dLcons (dC (.int 4)) dLnil)))) (dSeq (dAsgO 1 (dLc (dIr (dBin fAdd (dBin fAdd (dVar 13) (dC (.int 1))) (dVar 14))) (dgN 17) dYes (dCall sp_law_kept (dAS 0 (dLcons (dVar 12) dLnil))) [17])) (dSeq (dSetI 1 (dVar 13) (dTup (dLcons (dUn fTuple (dFr (dLc (dIt (dVar 11)) (dgN 18) dYes (dBin fMul (dVar 5) (dVar 18)) [18]))) (dLcons (dBin fAdd (dBin fMul (dVar 5) (dVar 9)) (dCall sp_law_draw (dAS 0 (dLcons (dVar 5) dLnil)))) dLnil)))) (dFreeze 1 (dSeq (dParO 15 16 (dFr (dCat (dFr (dRep (dLcons (dC (.int 0)) dLnil) (dUn fLen (dVar 1)))) (dFr (dLcons (dC (.int 1)) (dLcons (dVar 6) dLnil))))) (dCat (dFr (dRep (dLcons (dC (.int 0)) dLnil) (dUn fLen (dVar 1)))) (dFr (dLcons (dC (.int 0)) (dLcons (dVar 5) dLnil))))) (dSeq (dSetI 16 (dVar 13) (dC (.int 1))) (dFreeze 16 (dSeq (dAsg 2 (dTup (dLcons (dTup (dLcons (dC (.str "part")) (dLcons (dVar 11) (dLcons (dVar 9) dLnil)))) (dLcons (dTup (dLcons (dC (.str "end")) (dLcons (dUn fTuple (dVar 15)) dLnil))) (dLcons (dTup (dLcons (dC (.str "end")) (dLcons (dUn fTuple (dVar 16)) dLnil))) dLnil))))) (dSeq (dAsg 3 (dUn fTuple (dFr (dLc (dIt (dVar 11)) (dgN 18) dYes (dBin fMul (dVar 6) (dVar 18)) [18])))) (dRet (dFr (dLcons (dCall sp_law_entry (dAS 0 (dLcons (dFr (dRep (dLcons (dC (.str "whole")) dLnil) (dVar 4))) (dLcons (dVar 1) dLnil)))) (dLcons (dVar 3) (dLcons (dBin fMul (dVar 6) (dVar 9)) (dLcons (dVar 12) (dLcons (dVar 2) dLnil))))))))))))))))
theorem mul_abs {a b : Int} {m k : Nat} (h : a.natAbs ≤ m) (q : b.natAbs ≤ k) : (a * b).natAbs ≤ m * k := by
  rw [Int.natAbs_mul]
  exact Nat.mul_le_mul h q
theorem sm_s {a : Int} (h : a.natAbs ≤ 1000000000) : Sm a := sm_of (k := 40) (lt_s h (by decide)) (by decide) (by decide)
theorem bc_fin {n : Nat} {bs : List Bd} {w xs : List Int} {up size level r : Int} {i : Nat} {text : Str} (n12 : n = 1 ∨ n = 2) (wl : w.length = n) (xl : xs.length = n) (w11 : ∀ x ∈ w, x.natAbs ≤ 11) (w0 : ∃ x ∈ w, x ≠ 0) (hx : ∀ x ∈ xs, x.natAbs ≤ 20000) (hd : dot w xs = level)
    (u0 : 1 ≤ up) (u9 : up ≤ 9) (s0 : 0 ≤ size) (s9 : size ≤ 9) (l4 : level.natAbs ≤ 10000) (r0 : 0 ≤ r) (r1 : r < up) (hi : bs[i]? = some (w.map (fun x => up * x), up * level + r)) (hb : ∀ b ∈ bs, BdOk n b ∧ dot b.1 xs ≤ b.2) (bl : bs.length ≤ 7) (tx : TxD text "whole" n bs) :
    CaseOk n text bs (w.map fun x => size * x) (size * level) xs (baseN bs w size up level i) := by
  have w0' : w.any (fun w => w != 0) = true := by
    obtain ⟨x, h1, h2⟩ := w0
    exact List.any_eq_true.mpr ⟨x, h1, bne_iff_ne.mpr h2⟩
  have lts : ∀ {k : Nat} {j : Int}, j.natAbs ≤ k → k ≤ 1000000000 → Lt 40 j := fun h q => lt_s (Nat.le_trans h q) (by decide)
  have rep : ∀ j ∈ List.replicate bs.length (0 : Int), Lt 40 j := fun j hj => by
    rw [List.eq_of_mem_replicate hj]
    decide
  refine ⟨tx, n12, by rw [List.length_map]; exact wl, fun a ha => ?_, ?_, xl, hx, ?_, ?_, base_run wl w0' s0 (by omega) r1 hi, rfl, fun x hx => ?_⟩
  · obtain ⟨x, h1, e⟩ := List.mem_map.mp ha
    subst e
    exact mul_abs (m := 9) (k := 11) (by omega) (w11 x h1)
  · exact Nat.le_trans (mul_abs (m := 9) (k := 10000) (by omega) l4) (by decide)
  · unfold keeps
    exact List.all_eq_true.mpr fun b h => decide_eq_true (hb b h).2
  · rw [dot_scale, hd]
  · have hx' : x ∈ [Nd.part w level, .fin (List.replicate bs.length 0 ++ [1, size]), .fin ((List.replicate bs.length 0).set i 1 ++ [0, up])] := hx
    rcases List.mem_cons.mp hx' with z | hx'
    · subst z
      exact ⟨by show 0 < w.length; omega, by show w.length ≤ 20; omega, fun j hj => lts (w11 j hj) (by decide), lts l4 (by decide)⟩
    · rcases List.mem_cons.mp hx' with z | hx'
      · subst z
        have e : (List.replicate bs.length (0 : Int) ++ [1, size]).length = bs.length + 2 := by rw [List.length_append, List.length_replicate]; rfl
        refine ⟨by show 0 < (List.replicate bs.length (0 : Int) ++ [1, size]).length; omega, by show (List.replicate bs.length (0 : Int) ++ [1, size]).length ≤ 20; omega, fun j hj => ?_⟩
        rcases List.mem_append.mp hj with z | z
        · exact rep j z
        · rcases List.mem_cons.mp z with z | z
          · rw [z]
            decide
          · rw [List.mem_singleton.mp z]
            exact lts (k := 9) (by omega) (by decide)
      · rw [List.mem_singleton.mp hx']
        have e : ((List.replicate bs.length (0 : Int)).set i 1 ++ [0, up]).length = bs.length + 2 := by rw [List.length_append, List.length_set, List.length_replicate]; rfl
        refine ⟨by show 0 < ((List.replicate bs.length (0 : Int)).set i 1 ++ [0, up]).length; omega, by show ((List.replicate bs.length (0 : Int)).set i 1 ++ [0, up]).length ≤ 20; omega, fun j hj => ?_⟩
        rcases List.mem_append.mp hj with z | z
        · rcases List.mem_or_eq_of_mem_set z with z | z
          · exact rep j z
          · rw [z]
            decide
        · rcases List.mem_cons.mp z with z | z
          · rw [z]
            decide
          · rw [List.mem_singleton.mp z]
            exact lts (k := 9) (by omega) (by decide)
theorem bc_tail {n : Nat} {w xs : List Int} {up size level : Int} {e1 e2 e3 e7 e8 e10 e13 e14 e15 e16 e17 e18 : Option Cell} {Q : D → Prop} (n12 : n = 1 ∨ n = 2) (wl : w.length = n) (xl : xs.length = n) (w11 : ∀ x ∈ w, x.natAbs ≤ 11) (w0 : ∃ x ∈ w, x ≠ 0) (hx : ∀ x ∈ xs, x.natAbs ≤ 20000) (hd : dot w xs = level)
    (u0 : 1 ≤ up) (u9 : up ≤ 9) (s0 : 0 ≤ size) (s9 : size ≤ 9) (l4 : level.natAbs ≤ 10000)
    (q : ∀ n text bs aim top spot ns, CaseOk n text bs aim top spot ns → Q (.lst [.lst [.str text, kindsL n, bndsL bs], tI aim, .int top, tI spot, ndsT ns])) :
    t_bc { nx := fun _ => Q .non, rt := Q } [some .spr, e1, e2, e3, some (.dat (.int ((n : Nat) : Int))), some (.dat (.int up)), some (.dat (.int size)), e7, e8, some (.dat (.int level)), e10, some (.dat (tI w)), some (.dat (tI xs)), e13, e14, e15, e16, e17, e18] := by
  have n2 : n ≤ 2 := by omega
  have smu : Sm up := sm_s (by omega)
  have sms : Sm size := sm_s (by omega)
  have sml : Sm level := sm_s (by omega)
  have smw : ∀ x ∈ w, Sm x := fun x h => sm_s (Nat.le_trans (w11 x h) (by decide))
  unfold t_bc
  refine ⟨rfl, draw_ok (n := 4) (by decide) (by decide) fun b hb => ⟨rfl, draw_ok (n := 4) (by decide) (by decide) fun a ha => ?_⟩⟩
  have hcnt : ((b : Int) + 1 + (a : Int)).toNat = b + 1 + a := by omega
  refine ⟨⟨by omega, by omega⟩, ?_⟩
  show dLcGo _ _ _ _ ((List.range ((b : Int) + 1 + (a : Int)).toNat).map fun i => D.int (i : Nat)) [] _
  rw [hcnt]
  refine lc_any (P := isB n xs) _ [] _ (fun x hx' => ⟨_, rfl, fun R hR => ⟨rfl, n, xs, rfl, n12, xl, hx, fun b hb hd => hR _ ⟨b, rfl, hb, hd⟩⟩⟩) (by rw [List.length_map, List.length_range]; exact sz2 (by show 0 + _ ≤ _; omega)) fun ys yl yp => ?_
  obtain ⟨bs, eb, hbs⟩ := ys_B yp
  subst eb
  rw [List.length_map, List.length_map, List.length_range] at yl
  rw [List.nil_append]
  have hj : L2.ixN (bs.map bnd).length (b : Int) = some b := ixN_n (by rw [List.length_map]; omega)
  dsimp only
  refine setI_seq (P := fun d => ∃ r : Int, 0 ≤ r ∧ r < up ∧ d = bnd (w.map (fun x => up * x), up * level + r)) (ds := bs.map bnd) (k := (b : Int)) rfl (fun R hR => ?_) (fun R hR => hR) hj fun d hd' => ?_
  · show dLcGo _ _ _ _ (w.map D.int) [] _
    refine lc_map' (g := fun x => D.int (up * x)) w _ (fun x hx' => ⟨_, rfl, fun R hR => ⟨mulOk smu (smw x hx'), hR⟩⟩) (sz2 (by omega)) ?_
    refine ⟨mulOk smu sml, rfl, draw_ok' (by omega) (by omega) fun r r0 r1 => hR _ ⟨r, r0, r1, ?_⟩⟩
    show D.tup [.tup (w.map fun x => D.int (up * x)), _] = D.tup [.tup ((w.map fun x => up * x).map D.int), _]
    rw [List.map_map]
    rfl
  · obtain ⟨r, r0, r1, ed⟩ := hd'
    subst ed
    have es : (bs.map bnd).set b (bnd (w.map (fun x => up * x), up * level + r)) = (bs.set b (w.map (fun x => up * x), up * level + r)).map bnd := by rw [List.map_set]
    rw [es]
    have hset : (bs.set b (w.map (fun x => up * x), up * level + r))[b]? = some (w.map (fun x => up * x), up * level + r) := List.getElem?_set_self (by omega)
    have hall : ∀ c ∈ bs.set b (w.map (fun x => up * x), up * level + r), BdOk n c ∧ dot c.1 xs ≤ c.2 := fun c hc => by
      rcases List.mem_or_eq_of_mem_set hc with z | z
      · exact hbs c z
      · subst z
        refine ⟨⟨⟨n12, by rw [List.length_map]; exact wl, fun y hy => ?_, ?_⟩, ?_⟩, ?_⟩
        · obtain ⟨x, h1, e⟩ := List.mem_map.mp hy
          subst e
          exact mul_abs (m := 9) (k := 11) (by omega) (w11 x h1)
        · obtain ⟨x, h1, h2⟩ := w0
          exact ⟨up * x, List.mem_map_of_mem h1, Int.mul_ne_zero (by omega) h2⟩
        · have := mul_abs (a := up) (b := level) (m := 9) (k := 10000) (by omega) l4
          show (up * level + r).natAbs ≤ 1000000
          omega
        · show dot (w.map fun x => up * x) xs ≤ up * level + r
          rw [dot_scale, hd]
          omega
    have hlen : (bs.set b (w.map (fun x => up * x), up * level + r)).length = b + 1 + a := by rw [List.length_set]; exact yl
    generalize bs.set b (w.map (fun x => up * x), up * level + r) = cs at hset hall hlen
    have hml : (cs.map bnd).length = cs.length := List.length_map _
    have rc : -(2 ^ 63) ≤ (((cs.map bnd).length : Nat) : Int) ∧ (((cs.map bnd).length : Nat) : Int) < 2 ^ 63 ∧ (((cs.map bnd).length : Nat) : Int).toNat ≤ sizeLine := ⟨by omega, by omega, by rw [Int.toNat_natCast]; exact sz2 (by omega)⟩
    have ct : (List.replicate (((cs.map bnd).length : Nat) : Int).toNat (D.int 0)).length + 2 ≤ sizeLine := by
      rw [List.length_replicate, Int.toNat_natCast]
      exact sz2 (by omega)
    refine ⟨rc, ct, rc, ct, ?_⟩
    rw [Int.toNat_natCast]
    have hj2 : L2.ixN (List.replicate (cs.map bnd).length (D.int 0) ++ [D.int 0, D.int up]).length (b : Int) = some b := ixN_n (by rw [List.length_append, List.length_replicate]; omega)
    dsimp only
    refine setI_seq (P := fun d => d = .int 1) (ds := List.replicate (cs.map bnd).length (D.int 0) ++ [.int 0, .int up]) (k := (b : Int)) rfl (fun R hR => hR _ rfl) (fun R hR => hR) hj2 fun d hd' => ?_
    subst hd'
    rw [List.set_append_left _ _ (by rw [List.length_replicate]; omega)]
    show dLcGo _ _ _ _ (w.map D.int) [] _
    refine lc_map' (g := fun x => D.int (size * x)) w _ (fun x hx' => ⟨_, rfl, fun R hR => ⟨mulOk sms (smw x hx'), hR⟩⟩) (sz2 (by omega)) ?_
    refine ⟨rfl, ⟨by omega, by omega, sz2 (by show n ≤ _; omega)⟩, n, cs, rfl, n12, fun c hc => (hall c hc).1, by omega, fun text tx => ?_⟩
    refine ⟨mulOk sms sml, ?_⟩
    have q' := q _ _ _ _ _ _ _ (bc_fin n12 wl xl w11 w0 hx hd u0 u9 s0 s9 l4 r0 r1 hset hall (by omega) tx)
    have e1 : ndsT (baseN cs w size up level b) = .tup [.tup [.str "part", tI w, .int level], .tup [.str "end", .tup (List.replicate (cs.map bnd).length (D.int 0) ++ [.int 1, .int size])], .tup [.str "end", .tup ((List.replicate (cs.map bnd).length (D.int 0)).set b (.int 1) ++ [.int 0, .int up])]] := by
      show D.tup [.tup [.str "part", tI w, .int level], .tup [.str "end", .tup ((List.replicate cs.length (0 : Int) ++ [1, size]).map D.int)], .tup [.str "end", .tup (((List.replicate cs.length (0 : Int)).set b 1 ++ [0, up]).map D.int)]] = _
      rw [List.map_append, List.map_append, List.map_set, List.map_replicate, hml]
      rfl
    have e2 : tI (w.map fun x => size * x) = .tup (w.map fun x => D.int (size * x)) := by
      show D.tup _ = _
      rw [List.map_map]
      rfl
    rw [e1, e2] at q'
    exact q'
theorem sem_law_best_case (cs : List Cell) (Q : D → Prop) (hl : cs.length = 1) (h : sp_law_best_case cs Q) : d_law_best_case sp_law_draw sp_law_of sp_law_kept sp_law_entry { nx := fun _ => Q .non, rt := Q } (startE N_law_best_case cs) := by
  obtain ⟨e, q⟩ := h
  subst e
  unfold d_law_best_case
  refine ⟨rfl, draw_ok (n := 2) (by decide) (by decide) fun m hm => ⟨rfl, draw_ok (n := 9) (by decide) (by decide) fun u hu => ⟨rfl, draw_ok (n := 10) (by decide) (by decide) fun s hs => ?_⟩⟩⟩
  refine ⟨rfl, of_ok (by show 0 < 2; decide) (by show 2 < 1000000; decide) ?_⟩
  have hsg : ∀ d ∈ [D.int 1, .int (-1)], ∃ g : Int, d = .int g ∧ (g = 1 ∨ g = -1) := al_cons ⟨1, rfl, .inl rfl⟩ (al_cons ⟨-1, rfl, .inr rfl⟩ al_nil)
  intro d hd
  obtain ⟨g, eg, hg⟩ := hsg d hd
  subst eg
  refine ⟨rfl, draw_ok (n := 23) (by decide) (by decide) fun t ht => ⟨rfl, draw_ok (n := 20001) (by decide) (by decide) fun l hl => ⟨rfl, draw_ok (n := 201) (by decide) (by decide) fun f hf => ?_⟩⟩⟩
  have smg : Sm g := sm_s (by omega)
  refine ⟨mulOk smg (sm_s (by omega)), ?_⟩
  have hl4 : ((l : Int) - 10000).natAbs ≤ 10000 := by omega
  have ht11 : ((t : Int) - 11).natAbs ≤ 11 := by omega
  have hf100 : ((f : Int) - 100).natAbs ≤ 100 := by omega
  have htf : (((t : Int) - 11) * ((f : Int) - 100)).natAbs ≤ 1100 := mul_abs (m := 11) (k := 100) ht11 hf100
  show (if (((1 : Int) + ((m : Nat) : Int)) == 2) = true then _ else _)
  match m, hm with
  | 0, _ =>
    rw [if_neg (by decide)]
    refine bc_tail (n := 1) (w := [g]) (xs := [g * ((l : Int) - 10000)]) (up := 1 + (u : Int)) (size := (s : Int)) (level := (l : Int) - 10000) (.inl rfl) rfl rfl (fun x h => ?_) ⟨g, List.mem_singleton.mpr rfl, by omega⟩ (fun x h => ?_) ?_ (by omega) (by omega) (by omega) (by omega) hl4 q
    · rw [List.mem_singleton.mp h]
      omega
    · rw [List.mem_singleton.mp h]
      rcases hg with z | z <;> subst z <;> omega
    · rw [dot_cons, dot_nil]
      rcases hg with z | z <;> subst z <;> omega
  | 1, _ =>
    rw [if_pos (by decide)]
    have hv : (g * ((l : Int) - 10000 - ((t : Int) - 11) * ((f : Int) - 100))).natAbs ≤ 20000 := by
      rcases hg with z | z <;> subst z <;> omega
    have hdd : dot [g, (t : Int) - 11] [g * ((l : Int) - 10000 - ((t : Int) - 11) * ((f : Int) - 100)), (f : Int) - 100] = (l : Int) - 10000 := by
      rw [dot_cons, dot_cons, dot_nil]
      rcases hg with z | z <;> subst z <;> omega
    have hdd2 : dot [(t : Int) - 11, g] [(f : Int) - 100, g * ((l : Int) - 10000 - ((t : Int) - 11) * ((f : Int) - 100))] = (l : Int) - 10000 := by
      rw [dot_cons, dot_cons, dot_nil]
      rcases hg with z | z <;> subst z <;> omega
    refine ⟨mulOk (sm_s (by omega)) (sm_s (by omega)), mulOk smg (sm_s (by omega)), ?_⟩
    refine ⟨rfl, draw_ok (n := 2) (by decide) (by decide) fun r hr => ?_⟩
    show (if ((r : Int) == 0) = true then _ else _)
    cases ((r : Int) == 0) with
    | true =>
      rw [if_pos rfl]
      refine bc_tail (n := 2) (w := [(t : Int) - 11, g]) (xs := [(f : Int) - 100, g * ((l : Int) - 10000 - ((t : Int) - 11) * ((f : Int) - 100))]) (up := 1 + (u : Int)) (size := (s : Int)) (level := (l : Int) - 10000) (.inr rfl) rfl rfl (fun x h => ?_) ⟨g, by simp, by omega⟩ (fun x h => ?_) hdd2 (by omega) (by omega) (by omega) (by omega) hl4 q
      · rcases List.mem_cons.mp h with z | z
        · rw [z]
          exact ht11
        · rw [List.mem_singleton.mp z]
          omega
      · rcases List.mem_cons.mp h with z | z
        · rw [z]
          omega
        · rw [List.mem_singleton.mp z]
          exact hv
    | false =>
      rw [if_neg Bool.false_ne_true]
      refine bc_tail (n := 2) (w := [g, (t : Int) - 11]) (xs := [g * ((l : Int) - 10000 - ((t : Int) - 11) * ((f : Int) - 100)), (f : Int) - 100]) (up := 1 + (u : Int)) (size := (s : Int)) (level := (l : Int) - 10000) (.inr rfl) rfl rfl (fun x h => ?_) ⟨g, by simp, by omega⟩ (fun x h => ?_) hdd (by omega) (by omega) (by omega) (by omega) hl4 q
      · rcases List.mem_cons.mp h with z | z
        · rw [z]
          omega
        · rw [List.mem_singleton.mp z]
          exact ht11
      · rcases List.mem_cons.mp h with z | z
        · rw [z]
          exact hv
        · rw [List.mem_singleton.mp z]
          omega
end Fe
set_option Elab.async false
set_option linter.all false
set_option maxRecDepth 100000
set_option maxHeartbeats 4000000
/-! Layer 3: something otherwise; right. -/
namespace Fe
open PySem PySem.W PySem.Calls PyProof.Rows L2 TL


/-! ### something otherwise -/
theorem nd_nice {x : Nd} {k : Nat} (h : x.len ≤ 150) (s : x.small 150) : nice (k + 2) x.d := by
  cases x with
  | part ws c => exact n_tup (by show 3 ≤ 200; decide) (nl_cons (n_str (by decide +kernel)) (nl_cons (n_ints (Nat.le_trans h (by decide)) fun i hi => lt_mono (s.1 i hi) (by decide)) (nl_cons (n_int (lt_mono s.2 (by decide))) nl_nil)))
  | fin ss => exact n_tup (by show 2 ≤ 200; decide) (nl_cons (n_str (by decide +kernel)) (nl_cons (n_ints (Nat.le_trans h (by decide)) fun i hi => lt_mono (s i hi) (by decide)) nl_nil))
theorem small_up {x : Nd} {j k : Nat} (h : x.small j) (l : j ≤ k) : x.small k := by
  cases x with
  | part ws c => exact ⟨fun i hi => lt_mono (h.1 i hi) l, lt_mono h.2 l⟩
  | fin ss => exact fun i hi => lt_mono (h i hi) l
theorem nds_nice {ns : List Nd} {k : Nat} (l : ns.length ≤ 200) (h : ∀ x ∈ ns, x.len ≤ 150 ∧ x.small 150) : nice (k + 3) (ndsT ns) := n_tup (by rw [List.length_map]; exact l) (nl_map fun x hx => nd_nice (h x hx).1 (h x hx).2)
def sp_law_otherwise : DSp := fun cs Q => ∃ e n text bs aim top spot ns, cs = [.spr, .dat (.lst [e, tI aim, .int top, tI spot, ndsT ns])] ∧ CaseOk n text bs aim top spot ns ∧ ∀ a t p, nice 6 a → nice 7 t → nice 8 p → Q (.lst [a, t, p])
theorem sem_law_otherwise (cs : List Cell) (Q : D → Prop) (hl : cs.length = 2) (h : sp_law_otherwise cs Q) : d_law_otherwise sp_law_draw sp_law_of sp_law_bent_numbers sp_law_bent_spot sp_law_put sp_law_bent_node sp_law_bent_pair { nx := fun _ => Q .non, rt := Q } (startE N_law_otherwise cs) := by
  obtain ⟨e, n, text, bs, aim, top, spot, ns, ec, ok, q⟩ := h
  subst ec
  have n2 : n ≤ 2 := by have := ok.n12; omega
  have n1 : 0 < n := by have := ok.n12; omega
  have hal := ok.al
  have hsl := ok.sl
  have hnl := ok.nl
  have la : LtA 150 aim := fun i hi => lt_s (Nat.le_trans (ok.am i hi) (by decide)) (by decide)
  have ls : LtA 150 spot := fun i hi => lt_s (Nat.le_trans (ok.sp i hi) (by decide)) (by decide)
  have lt : Lt 150 top := lt_s (Nat.le_trans ok.tp (by decide)) (by decide)
  have na : ∀ {k}, nice (k + 1) (tI aim) := n_ints (by omega) fun i hi => lt_mono (la i hi) (by decide)
  have nsp : ∀ {k}, nice (k + 1) (tI spot) := n_ints (by omega) fun i hi => lt_mono (ls i hi) (by decide)
  have nt : ∀ {k}, nice k (.int top) := n_int (lt_mono lt (by decide))
  have hnd : ∀ x ∈ ns, x.len ≤ 150 ∧ x.small 150 := fun x hx => ⟨Nat.le_trans (ok.nd x hx).2.1 (by decide), small_up (ok.nd x hx).2.2 (by decide)⟩
  have nn : ∀ {k}, nice (k + 3) (ndsT ns) := nds_nice (by omega) hnd
  have np : ∀ {k}, nice (k + 4) (.tup [tI spot, ndsT ns]) := n_tup (by show 2 ≤ 200; decide) (nl_cons nsp (nl_cons nn nl_nil))
  unfold d_law_otherwise
  refine ⟨rfl, draw_ok (n := 10) (by decide) (by decide) fun r hr => ⟨rfl, draw_ok (n := (ns.map Nd.d).length) (by rw [List.length_map]; omega) (by rw [List.length_map]; omega) fun j hj => ?_⟩⟩
  rw [List.length_map] at hj
  have stl : top.natAbs.log2 < 1920 := log_small (k := 1920) (lt_mono lt (by decide)) (by decide)
  show (if decide ((r : Int) < 2) = true then _ else _)
  cases decide ((r : Int) < 2) with
  | true =>
    rw [if_pos rfl]
    refine ⟨rfl, stl, of_ok (by show 0 < 9; decide) (by show 9 < 1000000; decide) fun d hd => q _ _ _ na ?_ np⟩
    revert d
    refine nl_cons (n_int (lt_mono (lt_add lt (lt_one (by decide))) (by decide))) ?_
    refine nl_cons (n_int (lt_mono (lt_sub lt (lt_one (by decide))) (by decide))) ?_
    refine nl_cons (n_int (lt_mono (lt_neg lt) (by decide))) ?_
    refine nl_cons n_non ?_
    refine nl_cons (n_tup (by show 2 ≤ 200; decide) (nl_cons nt (nl_cons (n_int (by decide)) nl_nil))) ?_
    refine nl_cons (n_str (str_int_ok top)) ?_
    refine nl_cons n_bl ?_
    refine nl_cons n_bl ?_
    refine nl_cons (n_int (by decide)) ?_
    exact nl_nil
  | false =>
  rw [if_neg Bool.false_ne_true]
  show (if decide ((r : Int) < 5) = true then _ else _)
  cases decide ((r : Int) < 5) with
  | true =>
    rw [if_pos rfl]
    exact ⟨rfl, aim, rfl, by omega, by omega, la, fun d hd => q _ _ _ (nice_up hd (by decide)) nt np⟩
  | false =>
  rw [if_neg Bool.false_ne_true]
  show (if decide ((r : Int) < 7) = true then _ else _)
  cases decide ((r : Int) < 7) with
  | true =>
    rw [if_pos rfl]
    exact ⟨rfl, spot, rfl, by omega, by omega, ls, fun d hd => q _ _ _ na nt (n_tup (by show 2 ≤ 200; decide) (nl_cons (nice_up hd (by decide)) (nl_cons nn nl_nil)))⟩
  | false =>
  rw [if_neg Bool.false_ne_true]
  show (if decide ((r : Int) < 9) = true then _ else _)
  cases decide ((r : Int) < 9) with
  | true =>
    rw [if_pos rfl]
    refine ⟨rfl, ?_⟩
    have ej : (ns.map Nd.d)[j]? = some (ns[j]'hj).d := by
      rw [List.getElem?_map, List.getElem?_eq_getElem hj]
      rfl
    obtain ⟨x0, x1, x2⟩ := ok.nd _ (List.getElem_mem hj)
    generalize ns[j]'hj = x at ej x0 x1 x2
    have fx : ∀ R : D → Prop, R x.d → fIx (ndsT ns) (.int ((j : Nat) : Int)) R := fun R hR => fIx_t ej hR
    refine fx _ ?_
    refine ⟨x, rfl, x0, by omega, small_up x2 (by decide), fun d hd => ?_⟩
    refine ⟨ns.map Nd.d, j, d, rfl, by rw [List.length_map]; omega, q _ _ _ na nt (n_tup (by show 2 ≤ 200; decide) (nl_cons nsp (nl_cons (n_put (by rw [List.length_map]; omega) (nl_map fun y hy => nd_nice (hnd y hy).1 (hnd y hy).2) (nice_up hd (by decide))) nl_nil)))⟩
  | false =>
    rw [if_neg Bool.false_ne_true]
    exact ⟨rfl, 4, tI spot, ndsT ns, rfl, nsp, nn, fun d hd => q _ _ _ na nt (nice_up hd (by decide))⟩

/-! ### right -/
theorem look_right {n : Nat} {text : Str} {bs : List Bd} {aim spot : List Int} {top : Int} {ns ns' : List Nd} (ok : CaseOk n text bs aim top spot ns) (run : runN n ns' [bs ++ [(neg aim, -(top + 1))]] = some []) : lookOf n bs (tI aim) (.int top) (.tup [tI spot, ndsT ns']) = true := by
  have ha : aimOk n (tI aim) = true := by
    show (match asT n (tI aim) with
      | some ws => ws.all fun w => decide (-99 ≤ w) && decide (w ≤ 99)
      | none => false) = true
    rw [asT_of ok.al]
    refine List.all_eq_true.mpr fun w hw => ?_
    have := ok.am w hw
    rw [Bool.and_eq_true, decide_eq_true_eq, decide_eq_true_eq]
    omega
  have hb : bestOf n bs aim (.int top) (.tup [tI spot, ndsT ns']) = true := by
    show (match asT n (tI spot) with
      | some xs => keeps bs xs && ((dot aim xs == top) && treeOf n (bs ++ [(neg aim, -(top + 1))]) (ndsT ns'))
      | none => false) = true
    rw [asT_of ok.sl]
    show (keeps bs spot && ((dot aim spot == top) && treeOf n (bs ++ [(neg aim, -(top + 1))]) (ndsT ns'))) = true
    rw [ok.kp, ok.val, tree_nd run, beq_self_eq_true]
    rfl
  unfold lookOf
  rw [ha, asT_of ok.al, Bool.true_and]
  exact hb
theorem tx_bs {text kd : Str} {n : Nat} {bs : List Bd} (h : TxD text kd n bs) : BsOk n bs ∧ bs.length ≤ 10 := ⟨txD_ok.ok h, txD_ok.len h⟩
def sp_law_right : DSp := fun cs Q => cs = [.spr] ∧ Q (.bl true)
def b_right : DS := (dSeq (dUnL [13, 14, 15] (dCall sp_law_otherwise (dAS 0 (dLcons (dVar 1) dLnil)))) (dSeq (dAsg 11 (dTup (dLcons (dC (.str "best")) (dLcons (dBin fIx (dVar 4) (dC (.int 0))) (dLcons (dVar 13) (dLcons (dVar 14) dLnil)))))) (dSeq (dAsg 12 (dAndV (dCall sp_law_aim_right (dA (dLcons (dBin fIx (dVar 4) (dC (.int 1))) (dLcons (dVar 13) dLnil)))) (dCall sp_law_best_right (dA (dLcons (dVar 4) (dLcons (dVar 11) (dLcons (dVar 15) dLnil))))))) (dIfS (dOr (dNot (dTru (dCall (sp_law_judged TxD) (dA (dLcons (dVar 11) (dLcons (dVar 15) (dLcons (dVar 12) dLnil))))))) (dTest (dBin fIsNotB (dCall (sp_accepts TxD) (dA (dLcons (dVar 9) (dLcons (dVar 10) dLnil)))) (dC (.bl true))))) (dRet (dC (.bl false))) dNx))))
theorem right_step {n : Nat} {text : Str} {bs : List Bd} {aim spot : List Int} {top : Int} {ns : List Nd} {e2 e3 e5 e6 e7 e8 e11 e12 e13 e14 e15 : Option Cell} {Z : DEnds} (ok : CaseOk n text bs aim top spot ns) (na : nice 6 (tI aim)) (nt : nice 7 (.int top)) (np : nice 8 (.tup [tI spot, ndsT ns]))
    (q : ∀ e11 e12 e13 e14 e15, Z.nx [some .spr, some (.dat (.lst [.lst [.str text, kindsL n, bndsL bs], tI aim, .int top, tI spot, ndsT ns])), e2, e3, some (.dat (.lst [.str text, kindsL n, bndsL bs])), e5, e6, e7, e8, some (.dat (.tup [.str "best", .str text, tI aim, .int top])), some (.dat (.tup [tI spot, ndsT ns])), e11, e12, e13, e14, e15]) :
    b_right Z [some .spr, some (.dat (.lst [.lst [.str text, kindsL n, bndsL bs], tI aim, .int top, tI spot, ndsT ns])), e2, e3, some (.dat (.lst [.str text, kindsL n, bndsL bs])), e5, e6, e7, e8, some (.dat (.tup [.str "best", .str text, tI aim, .int top])), some (.dat (.tup [tI spot, ndsT ns])), e11, e12, e13, e14, e15] := by
  obtain ⟨bok, bl⟩ := tx_bs ok.tx
  unfold b_right
  refine ⟨rfl, _, n, text, bs, aim, top, spot, ns, rfl, ok, fun a t p ha ht hp => ?_⟩
  refine ⟨n, 6, a, rfl, ha, ?_⟩
  have fin : ∀ b : Bool, b = lookOf n bs a t p → (dIfS (dOr (dNot (dTru (dCall (sp_law_judged TxD) (dA (dLcons (dVar 11) (dLcons (dVar 15) (dLcons (dVar 12) dLnil))))))) (dTest (dBin fIsNotB (dCall (sp_accepts TxD) (dA (dLcons (dVar 9) (dLcons (dVar 10) dLnil)))) (dC (.bl true))))) (dRet (dC (.bl false))) dNx) Z [some .spr, some (.dat (.lst [.lst [.str text, kindsL n, bndsL bs], tI aim, .int top, tI spot, ndsT ns])), e2, e3, some (.dat (.lst [.str text, kindsL n, bndsL bs])), e5, e6, e7, e8, some (.dat (.tup [.str "best", .str text, tI aim, .int top])), some (.dat (.tup [tI spot, ndsT ns])), some (.dat (.tup [.str "best", .str text, a, t])), some (.dat (.bl b)), some (.dat a), some (.dat t), some (.dat p)] := by
    intro b eb
    refine ⟨text, n, bs, a, t, p, 6, b, rfl, ha, ht, hp, by decide, ok.tx, ?_⟩
    rw [eb, beq_self_eq_true]
    refine acc_best (k := 6) na nt np (by decide) ok.tx ?_
    rw [look_right ok ok.run]
    exact q _ _ _ _ _
  cases ea : aimOk n a with
  | false =>
    refine fin false ?_
    unfold lookOf
    rw [ea]
    rfl
  | true =>
    cases ex : asT n a with
    | none =>
      unfold aimOk at ea
      rw [ex] at ea
      cases ea
    | some ws =>
      obtain ⟨e1, e2'⟩ := asT_some ex
      subst e1
      obtain ⟨j, _, _, z⟩ := nice_tup ha
      refine ⟨n, bs, .str text, .str "best", .str text, ws, t, p, 6, rfl, bok, by omega, e2', fun i hi => nice_int (z _ (List.mem_map_of_mem hi)), ht, hp, by decide, ?_⟩
      refine fin _ ?_
      unfold lookOf
      rw [ea, ex]
      rfl
theorem right_go {n : Nat} {text : Str} {bs : List Bd} {aim spot : List Int} {top : Int} {ns : List Nd} {e2 e5 e6 e7 e8 : Option Cell} {Z : DEnds} (ok : CaseOk n text bs aim top spot ns) (na : nice 6 (tI aim)) (nt : nice 7 (.int top)) (np : nice 8 (.tup [tI spot, ndsT ns])) :
    ∀ (ds : List D) (e3 e11 e12 e13 e14 e15 : Option Cell), (∀ e3 e11 e12 e13 e14 e15, Z.nx [some .spr, some (.dat (.lst [.lst [.str text, kindsL n, bndsL bs], tI aim, .int top, tI spot, ndsT ns])), e2, e3, some (.dat (.lst [.str text, kindsL n, bndsL bs])), e5, e6, e7, e8, some (.dat (.tup [.str "best", .str text, tI aim, .int top])), some (.dat (.tup [tI spot, ndsT ns])), e11, e12, e13, e14, e15]) →
    dLoop (dgN 3) b_right Z ds [some .spr, some (.dat (.lst [.lst [.str text, kindsL n, bndsL bs], tI aim, .int top, tI spot, ndsT ns])), e2, e3, some (.dat (.lst [.str text, kindsL n, bndsL bs])), e5, e6, e7, e8, some (.dat (.tup [.str "best", .str text, tI aim, .int top])), some (.dat (.tup [tI spot, ndsT ns])), e11, e12, e13, e14, e15]
  | [], e3, e11, e12, e13, e14, e15, q => q e3 e11 e12 e13 e14 e15
  | d :: ds, e3, e11, e12, e13, e14, e15, q => by
    show b_right { nx := fun e => dLoop (dgN 3) b_right Z ds e, rt := Z.rt, bk := Z.nx, ct := fun e => dLoop (dgN 3) b_right Z ds e } [some .spr, some (.dat (.lst [.lst [.str text, kindsL n, bndsL bs], tI aim, .int top, tI spot, ndsT ns])), e2, some (.dat d), some (.dat (.lst [.str text, kindsL n, bndsL bs])), e5, e6, e7, e8, some (.dat (.tup [.str "best", .str text, tI aim, .int top])), some (.dat (.tup [tI spot, ndsT ns])), e11, e12, e13, e14, e15]
    exact right_step ok na nt np fun f11 f12 f13 f14 f15 => right_go ok na nt np ds _ _ _ _ _ _ q
theorem sem_law_right (cs : List Cell) (Q : D → Prop) (hl : cs.length = 1) (h : sp_law_right cs Q) : d_law_right sp_law_best_case sp_law_wrapped (sp_accepts TxD) sp_law_put sp_law_otherwise sp_law_aim_right sp_law_best_right (sp_law_judged TxD) { nx := fun _ => Q .non, rt := Q } (startE N_law_right cs) := by
  obtain ⟨e, q⟩ := h
  subst e
  unfold d_law_right
  refine ⟨rfl, rfl, fun n text bs aim top spot ns ok => ?_⟩
  have n2 : n ≤ 2 := by have := ok.n12; omega
  have hal := ok.al
  have hsl := ok.sl
  have hnl := ok.nl
  obtain ⟨bok, bl⟩ := tx_bs ok.tx
  have na : nice 6 (tI aim) := n_ints (by omega) fun i hi => lt_s (Nat.le_trans (ok.am i hi) (by decide)) (by decide)
  have nsp : ∀ {k}, nice (k + 1) (tI spot) := n_ints (by omega) fun i hi => lt_s (Nat.le_trans (ok.sp i hi) (by decide)) (by decide)
  have nt : nice 7 (.int top) := n_int (lt_s (Nat.le_trans ok.tp (by decide)) (by decide))
  have hnd : ∀ x ∈ ns, x.len ≤ 150 ∧ x.small 150 := fun x hx => ⟨Nat.le_trans (ok.nd x hx).2.1 (by decide), small_up (ok.nd x hx).2.2 (by decide)⟩
  have np : nice 8 (.tup [tI spot, ndsT ns]) := n_tup (by show 2 ≤ 200; decide) (nl_cons nsp (nl_cons (nds_nice (by omega) hnd) nl_nil))
  refine ⟨rfl, n, bs ++ [(neg aim, -(top + 1))], ns, ?_, ok.n12, ok.run, by omega, fun x hx => (ok.nd x hx).2, fun ns' wi => ?_⟩
  · show [Cell.spr, .dat (kindsL n), .dat (ndsT ns), .dat (.int (((bs.map bnd).length : Nat) + 1))] = _
    rw [List.length_append, List.length_map]
    rfl
  · have np' : nice 8 (.tup [tI spot, ndsT ns']) := n_tup (by show 2 ≤ 200; decide) (nl_cons nsp (nl_cons (nds_nice (Nat.le_trans wi.len (by decide)) fun x hx => ⟨Nat.le_trans (wi.sz x hx).1 (by decide), (wi.sz x hx).2⟩) nl_nil))
    refine acc_best (k := 6) na nt np (by decide) ok.tx ?_
    rw [look_right ok ok.run]
    refine acc_best (k := 6) na nt np' (by decide) ok.tx ?_
    rw [look_right ok wi.run]
    obtain ⟨ta, tl1⟩ := tx_any ok.tx
    refine ⟨by rw [show ("any" : Str).length = 3 by decide +kernel]; omega, ?_⟩
    refine ⟨[.str "best", .str text, tI aim, .int top], 1, .str (Txt.replace text "whole" "any"), rfl, by show 4 ≤ 1000; decide, ?_⟩
    refine acc_any (k := 6) na nt np (by decide) ta ?_
    refine ⟨⟨by decide, by decide⟩, ?_⟩
    exact right_go ok na nt np _ _ _ _ _ _ _ fun _ _ _ _ _ _ => q
end Fe
set_option Elab.async false
set_option linter.all false
set_option maxRecDepth 100000
set_option maxHeartbeats 4000000
/-! Layer 3: claims by hand; where draws come from; the law. -/
namespace Fe
open PySem PySem.W PySem.Calls PyProof.Rows L2 TL


/-! ### by hand -/
def txH : Str := "x whole, y whole\n2*x + 2*y <= 7\nx >= 0\ny >= 0"
def bsH : List Bd := [([2, 2], 7), ([-1, 0], 0), ([0, -1], 0)]
def psH : List Pr := [(([2, 2], 7), "2*x + 2*y <= 7"), (([-1, 0], 0), "x >= 0"), (([0, -1], 0), "y >= 0")]
theorem rH1 : ("2*x + 2*y <= 7" : Str) = rowS "<=" [2, 2] 7 := by decide +kernel
theorem rH2 : ("x >= 0" : Str) = rowS ">=" (neg [-1, 0]) (-0) := by decide +kernel
theorem rH3 : ("y >= 0" : Str) = rowS ">=" (neg [0, -1]) (-0) := by decide +kernel
theorem tH : txH = txS "whole" 2 psH := by decide +kernel
theorem okH : PsOk "whole" 2 psH := by
  refine ⟨.inl rfl, .inr rfl, by decide, fun p hp => ?_⟩
  rcases List.mem_cons.mp hp with z | hp
  · rw [z]
    exact ⟨⟨.inr rfl, rfl, by decide, 2, by decide, by decide⟩, by decide, by decide +kernel, .inl rH1⟩
  · rcases List.mem_cons.mp hp with z | hp
    · rw [z]
      exact ⟨⟨.inr rfl, rfl, by decide, -1, by decide, by decide⟩, by decide, by decide +kernel, .inr rH2⟩
    · rw [List.mem_singleton.mp hp]
      exact ⟨⟨.inr rfl, rfl, by decide, -1, by decide, by decide⟩, by decide, by decide +kernel, .inr rH3⟩
theorem txH_ok : TxD txH "whole" 2 bsH := ⟨psH, okH, rfl, tH, by decide +kernel⟩
theorem txH_str : PyData.strOk txH = true := by decide +kernel
theorem txH_len : txH.length + (txH.length + 1) * ("any" : Str).length ≤ 16777216 := by decide +kernel
structure Item where
  aim : D
  top : D
  paper : D
  b : Bool
abbrev Item.d (i : Item) : D := .lst [i.aim, i.top, i.paper, .bl i.b]
structure ItemOk (i : Item) : Prop where
  a : nice 6 i.aim
  t : nice 7 i.top
  p : nice 8 i.paper
  look : lookOf 2 bsH i.aim i.top i.paper = i.b
def b_hand : DS := (dSeq (dIfS (dTest (dBin fNe (dUn fRepr (dCall (sp_accepts TxD) (dA (dLcons (dTup (dLcons (dC (.str "best")) (dLcons (dVar 0) (dLcons (dBin fIx (dVar 3) (dC (.int 0))) (dLcons (dBin fIx (dVar 3) (dC (.int 1))) dLnil))))) (dLcons (dBin fIx (dVar 3) (dC (.int 2))) dLnil))))) (dUn fRepr (dBin fIx (dVar 3) (dC (.int 3)))))) (dRet (dC (.bl false))) dNx) (dSeq (dAsg 4 (dTup (dLcons (dC (.str "best")) (dLcons (dUn (fRepl "whole" "any") (dVar 0)) (dLcons (dBin fIx (dVar 3) (dC (.int 0))) (dLcons (dBin fIx (dVar 3) (dC (.int 1))) dLnil)))))) (dIfS (dOr (dTest (dBin fIsNotB (dCall (sp_accepts TxD) (dA (dLcons (dVar 4) (dLcons (dBin fIx (dVar 3) (dC (.int 2))) dLnil)))) (dC (.bl false)))) (dTest (dBin fIsNotB (dCall (sp_accepts TxD) (dA (dLcons (dTup (dLcons (dC (.str "best")) (dLcons (dVar 0) (dLcons (dBin fIx (dVar 3) (dC (.int 0))) dLnil)))) (dLcons (dBin fIx (dVar 3) (dC (.int 2))) dLnil)))) (dC (.bl false))))) (dRet (dC (.bl false))) dNx)))
theorem rep_ne (b : Bool) : (((if b = true then "True" else "False") : Str) != ((if b = true then "True" else "False") : Str)) = false := by
  cases b <;> decide +kernel
theorem hand_step {i : Item} {e1 e2 e4 : Option Cell} {Z : DEnds} (ok : ItemOk i) (q : ∀ e4, Z.nx [some (.dat (.str txH)), e1, e2, some (.dat i.d), e4]) : b_hand Z [some (.dat (.str txH)), e1, e2, some (.dat i.d), e4] := by
  obtain ⟨aim, top, paper, b⟩ := i
  obtain ⟨ha, ht, hp, hk⟩ := ok
  obtain ⟨ta, tl1⟩ := tx_any txH_ok
  unfold b_hand
  refine acc_best (k := 6) ha ht hp (by decide) txH_ok ?_
  rw [hk]
  show (if (((if b = true then "True" else "False") : Str) != ((if b = true then "True" else "False") : Str)) = true then _ else _)
  rw [rep_ne, if_neg Bool.false_ne_true]
  refine ⟨txH_len, ?_⟩
  refine acc_any (k := 6) ha ht hp (by decide) ta ?_
  refine acc_three (k := 6) ha hp (by decide) txH_str ?_
  exact q _
theorem hand_go {e1 e2 : Option Cell} {Z : DEnds} : ∀ (is : List Item) (e3 e4 : Option Cell), (∀ i ∈ is, ItemOk i) → (∀ e3 e4, Z.nx [some (.dat (.str txH)), e1, e2, e3, e4]) → dLoop (dgN 3) b_hand Z (is.map Item.d) [some (.dat (.str txH)), e1, e2, e3, e4]
  | [], e3, e4, _, q => q e3 e4
  | i :: is, e3, e4, h, q => by
    show b_hand { nx := fun e => dLoop (dgN 3) b_hand Z (is.map Item.d) e, rt := Z.rt, bk := Z.nx, ct := fun e => dLoop (dgN 3) b_hand Z (is.map Item.d) e } [some (.dat (.str txH)), e1, e2, some (.dat i.d), e4]
    exact hand_step (h i List.mem_cons_self) fun f4 => hand_go is _ _ (fun j hj => h j (List.mem_cons_of_mem _ hj)) q
def trH : D := .tup [.tup [.str "part", .tup [.int 1, .int 1], .int 3], .tup [.str "end", .tup [.int 0, .int 0, .int 1, .int 1, .int 2]], .tup [.str "end", .tup [.int 1, .int 0, .int 0, .int 0, .int 2]]]
def enH (ds : List D) : D := .tup [.tup [.str "end", .tup ds]]
def itemsH : List Item := [⟨.tup [.int 2, .int 1], .int 6, .tup [.tup [.int 3, .int 0], trH], true⟩, ⟨.tup [.int 2, .int 1], .int 7, .tup [.tup [.int 3, .int 0], trH], false⟩, ⟨.tup [.int 2, .int 1], .int 5, .tup [.tup [.int 2, .int 1], trH], false⟩,
  ⟨.tup [.int 2, .int 1], .int 6, .tup [.tup [.int 4, .int (-2)], trH], false⟩, ⟨.tup [.int 2, .int 1], .int 6, .tup [.tup [.tup [.int 3, .int 1], .tup [.int 0, .int 1]], trH], false⟩,
  ⟨.tup [.int 0, .int 0], .int 0, .tup [.tup [.int 1, .int 1], enH [.int 0, .int 0, .int 0, .int 1]], true⟩, ⟨.tup [.int 0, .int 0], .bl false, .tup [.tup [.int 1, .int 1], enH [.int 0, .int 0, .int 0, .int 1]], false⟩,
  ⟨.tup [.int (-99), .int 0], .int 0, .tup [.tup [.int 0, .int 2], enH [.int 0, .int 99, .int 0, .int 1]], true⟩, ⟨.tup [.int (-100), .int 0], .int 0, .tup [.tup [.int 0, .int 2], enH [.int 0, .int 100, .int 0, .int 1]], false⟩,
  ⟨.tup [.int 0, .int (-1)], .int 0, .tup [.tup [.int 1, .int 0], enH [.int 0, .int 0, .int 1, .int 1]], true⟩]
def niceB : Nat → D → Bool
  | _, .non => true
  | _, .bl _ => true
  | _, .int i => decide (i.natAbs < 2 ^ 200)
  | _, .str x => PyData.strOk x
  | 0, _ => false
  | k + 1, .tup xs => decide (xs.length ≤ 200) && xs.attach.all fun x => niceB k x.1
  | k + 1, _ => false
theorem nice_of : ∀ {k : Nat} {d : D}, niceB k d = true → nice k d
  | k, .non, _ => n_non
  | k, .bl _, _ => n_bl
  | 0, .int i, h => n_int (of_decide_eq_true h)
  | k + 1, .int i, h => n_int (of_decide_eq_true h)
  | 0, .str x, h => n_str h
  | k + 1, .str x, h => n_str h
  | 0, .tup xs, h => nomatch h
  | 0, .lst xs, h => nomatch h
  | 0, .sys .., h => nomatch h
  | k + 1, .lst xs, h => nomatch h
  | k + 1, .sys .., h => nomatch h
  | k + 1, .tup xs, h => by
    unfold niceB at h
    rw [Bool.and_eq_true, decide_eq_true_eq, List.all_eq_true] at h
    exact n_tup h.1 fun x hx => nice_of (h.2 ⟨x, hx⟩ (List.mem_attach _ _))
theorem itemsN : itemsH.all (fun i => niceB 6 i.aim && (niceB 7 i.top && niceB 8 i.paper)) = true := by decide +kernel
theorem itemsL : itemsH.all (fun i => lookOf 2 bsH i.aim i.top i.paper == i.b) = true := by decide +kernel
theorem items_ok : ∀ i ∈ itemsH, ItemOk i := fun i hi => by
  have h1 := List.all_eq_true.mp itemsN i hi
  have h2 := List.all_eq_true.mp itemsL i hi
  rw [Bool.and_eq_true, Bool.and_eq_true] at h1
  exact ⟨nice_of h1.1, nice_of h1.2.1, nice_of h1.2.2, eq_of_beq h2⟩
def sp_law_by_hand : DSp := fun cs Q => cs = [] ∧ Q (.bl true)
theorem sem_law_by_hand (cs : List Cell) (Q : D → Prop) (hl : cs.length = 0) (h : sp_law_by_hand cs Q) : d_law_by_hand (sp_accepts TxD) { nx := fun _ => Q .non, rt := Q } (startE N_law_by_hand cs) := by
  obtain ⟨e, q⟩ := h
  subst e
  unfold d_law_by_hand
  have c2 : 3 + 2 ≤ sizeLine := sz2 (by decide)
  have c3 : 5 + 1 ≤ sizeLine := sz2 (by decide)
  have c4 : 6 + 1 ≤ sizeLine := sz2 (by decide)
  have c5 : 7 + 1 ≤ sizeLine := sz2 (by decide)
  have c6 : 8 + 1 ≤ sizeLine := sz2 (by decide)
  have c7 : 9 + 1 ≤ sizeLine := sz2 (by decide)
  refine ⟨c2, c3, c4, c5, c6, c7, ?_⟩
  exact hand_go itemsH none none items_ok fun _ _ => q

/-! ### where draws come from -/
def sp_law_spring : DSpL := fun cs Q => ∃ (ns : List Int) (k : Nat), cs = [.dat (.lst (ns.map .int)), .dat (.int ((k : Nat) : Int))] ∧ k < 100 ∧ ∀ i j l : Int, 0 ≤ j → j < 2147483647 → Q [.int i, .int j, .int l]
def b_spr : DS := (dAsg 3 (dBin fMod (dUn fIntI (dBin fAdd (dBin fAdd (dBin fMul (dVar 3) (dC (.int 48271))) (dUn fIntI (dVar 4))) (dBin fMul (dC (.int 11)) (dVar 1)))) (dC (.int 2147483647))))
theorem spr_go {e0 e2 : Option Cell} {k : Nat} {Z : DEnds} (hk : k < 100) : ∀ (xs : List Int) (m : Int) (e4 : Option Cell), 0 ≤ m → m < 2147483647 → (∀ (m : Int) e4, 0 ≤ m → m < 2147483647 → Z.nx [e0, some (.dat (.int ((k : Nat) : Int))), e2, some (.dat (.int m)), e4]) →
    dLoop (dgN 4) b_spr Z (xs.map D.int) [e0, some (.dat (.int ((k : Nat) : Int))), e2, some (.dat (.int m)), e4]
  | [], m, e4, m0, m1, q => q m e4 m0 m1
  | x :: xs, m, e4, m0, m1, q => by
    show b_spr { nx := fun e => dLoop (dgN 4) b_spr Z (xs.map D.int) e, rt := Z.rt, bk := Z.nx, ct := fun e => dLoop (dgN 4) b_spr Z (xs.map D.int) e } [e0, some (.dat (.int ((k : Nat) : Int))), e2, some (.dat (.int m)), some (.dat (.int x))]
    unfold b_spr
    refine ⟨mulOk (sm_of (k := 40) (Nat.lt_of_lt_of_le (show m.natAbs < 2147483647 by omega) (by decide)) (by decide) (by decide)) (sm_s (by decide)), mulOk (sm_s (by decide)) (sm_s (by omega)), by decide, ?_⟩
    exact spr_go hk xs _ _ (Int.emod_nonneg _ (by decide)) (Int.emod_lt_of_pos _ (by decide)) q
theorem spr_end {k : Nat} {c m : Int} {e0 e4 : Option Cell} {Q : List D → Prop} (q : ∀ i j l : Int, 0 ≤ j → j < 2147483647 → Q [.int i, .int j, .int l]) (m0 : 0 ≤ m) (m1 : m < 2147483647) : dl_law_spring [e0, some (.dat (.int ((k : Nat) : Int))), some (.dat (.int c)), some (.dat (.int m)), e4] Q := by
  unfold dl_law_spring
  have p18 : (0 : Int) ≤ 18 ∧ (18 : Int) ≤ 1000000 ∧ (10 : Int).natAbs < 2 ^ 64 := by decide
  show (if decide (c < 0) = true then _ else _)
  cases decide (c < 0) with
  | true =>
    rw [if_pos rfl]
    exact q _ _ _ m0 m1
  | false =>
    rw [if_neg Bool.false_ne_true]
    refine ⟨p18, ?_⟩
    show (if decide ((10 : Int) ^ (18 : Int).toNat ≤ c) = true then _ else _)
    cases decide ((10 : Int) ^ (18 : Int).toNat ≤ c) with
    | true =>
      rw [if_pos rfl]
      exact q _ _ _ m0 m1
    | false =>
      rw [if_neg Bool.false_ne_true]
      exact q _ _ _ m0 m1
def t_spr : DS := (dSeq (dAsg 3 (dBin fAdd (dC (.int 90001)) (dBin fMul (dC (.int 7919)) (dVar 1)))) (dSeq (dFor (dIl (dFr (dCat (dSl (dVar 0) dNo (dPart (dC (.int 8)))) (dFr (dLcons (dVar 2) dLnil))))) (dgN 4) b_spr) dNx))
theorem spr_tail {ns : List Int} {k : Nat} {c : Int} {Q : List D → Prop} (hk : k < 100) (q : ∀ i j l : Int, 0 ≤ j → j < 2147483647 → Q [.int i, .int j, .int l]) : t_spr { nx := fun e => dl_law_spring e Q, rt := fun _ => False } [some (.dat (.lst (ns.map .int))), some (.dat (.int ((k : Nat) : Int))), some (.dat (.int c)), none, none] := by
  unfold t_spr
  refine ⟨mulOk (sm_s (by decide)) (sm_s (by omega)), ?_⟩
  have e8 : cutL (ns.map D.int) none (some 8) = (ns.take 8).map D.int := by
    rw [show cutL (ns.map D.int) none (some 8) = (ns.map D.int).take 8 from cut_take _ 8, List.map_take]
  show (cutL (ns.map D.int) none (some 8)).length + 1 ≤ sizeLine ∧ dLoop (dgN 4) b_spr _ (cutL (ns.map D.int) none (some 8) ++ [.int c]) _
  rw [e8, show (ns.take 8).map D.int ++ [.int c] = (ns.take 8 ++ [c]).map D.int by rw [List.map_append]; rfl]
  refine ⟨by rw [List.length_map, List.length_take]; exact sz2 (by omega), ?_⟩
  exact spr_go hk _ _ _ (by omega) (by omega) fun m e4 m0 m1 => spr_end q m0 m1
theorem sem_law_spring (cs : List Cell) (Q : List D → Prop) (hl : cs.length = 2) (h : sp_law_spring cs Q) : d_law_spring { nx := fun e => dl_law_spring e Q, rt := fun _ => False } (startE N_law_spring cs) := by
  obtain ⟨ns, k, e, hk, q⟩ := h
  subst e
  unfold d_law_spring
  show (if decide (((k : Nat) : Int) < (((ns.map D.int).length : Nat) : Int)) = true then _ else _)
  cases hd : decide (((k : Nat) : Int) < (((ns.map D.int).length : Nat) : Int)) with
  | true =>
    rw [if_pos rfl]
    have hlt := of_decide_eq_true hd
    rw [List.length_map] at hlt
    have ej : (ns.map D.int)[k]? = some (.int (ns[k]'(by omega))) := by
      rw [List.getElem?_map, List.getElem?_eq_getElem (by omega)]
      rfl
    have fx : ∀ R : D → Prop, R (.int (ns[k]'(by omega))) → fIx (.lst (ns.map D.int)) (.int ((k : Nat) : Int)) R := fun R hR => fIx_l ej hR
    exact fx _ (spr_tail hk q)
  | false =>
    rw [if_neg Bool.false_ne_true]
    refine ⟨mulOk (sm_s (by decide)) (sm_s (by omega)), ?_⟩
    exact spr_tail hk q

/-! ### the law -/
def sp_law : DSp := fun cs Q => ∃ ns : List Int, cs = [.dat (.lst (ns.map .int))] ∧ Q (.bl true)
theorem sem_law (cs : List Cell) (Q : D → Prop) (hl : cs.length = 1) (h : sp_law cs Q) : d_law sp_law_by_hand sp_law_right sp_law_spring { nx := fun _ => Q .non, rt := Q } (startE N_law cs) := by
  obtain ⟨ns, e, q⟩ := h
  subst e
  unfold d_law
  refine ⟨rfl, ?_⟩
  have hmin : ∀ n : Int, ∃ r : Int, (if (if (6 : Int) < n then 6 else n) > 2 then (if (6 : Int) < n then 6 else n) else 2) = r ∧ 2 ≤ r ∧ r ≤ 6 := fun n => ⟨_, rfl, by split <;> omega, by split <;> split <;> omega⟩
  obtain ⟨r, er, r2, r6⟩ := hmin (((ns.map D.int).length : Nat) : Int)
  show (-(2 ^ 62) ≤ (if (if (6 : Int) < (((ns.map D.int).length : Nat) : Int) then 6 else (((ns.map D.int).length : Nat) : Int)) > 2 then (if (6 : Int) < (((ns.map D.int).length : Nat) : Int) then 6 else (((ns.map D.int).length : Nat) : Int)) else 2) ∧ (if (if (6 : Int) < (((ns.map D.int).length : Nat) : Int) then 6 else (((ns.map D.int).length : Nat) : Int)) > 2 then (if (6 : Int) < (((ns.map D.int).length : Nat) : Int) then 6 else (((ns.map D.int).length : Nat) : Int)) else 2) < 2 ^ 62) ∧ dLcGo _ _ _ _ ((List.range (if (if (6 : Int) < (((ns.map D.int).length : Nat) : Int) then 6 else (((ns.map D.int).length : Nat) : Int)) > 2 then (if (6 : Int) < (((ns.map D.int).length : Nat) : Int) then 6 else (((ns.map D.int).length : Nat) : Int)) else 2).toNat).map fun i => D.int (i : Nat)) [] _
  rw [er]
  refine ⟨⟨by omega, by omega⟩, ?_⟩
  refine lc_map' (g := fun _ => D.bl true) (List.range r.toNat) _ (fun k hk => ⟨_, rfl, fun R hR => ?_⟩) (by rw [List.length_range]; exact sz2 (by omega)) ?_
  · have := List.mem_range.mp hk
    exact ⟨ns, k, rfl, by omega, fun i j l j0 j1 => ⟨⟨j0, j1⟩, rfl, hR⟩⟩
  · refine fAll_of (p := fun _ => true) ?_
    rw [show ((List.range r.toNat).all fun _ => true) = true by simp]
    exact q
end Fe
set_option Elab.async false
set_option linter.all false
set_option maxRecDepth 100000
set_option maxHeartbeats 4000000
/-! The end: the promises chained, the facts behind the top taken, the law. -/
namespace Fe
open PySem PySem.W PySem.Calls PyProof.Rows L2

section
variable {P : Program} {w : World} {K : PySem.W.Frag} {mg : Str → Option Value} {h : Heap}
theorem says_a (c : Says w K) : He5.SaysA faL fnL K := congrArg (fun z : Al => z.1) c
theorem says_d (c : Says w K) : He.dicW K (He.ga K "LENGTHS") = some (He.keysIn w.params lenKeys) := congrArg (fun z : Al => z.2.1) c
theorem says_b (c : Says w K) : exB K = true := congrArg (fun z : Al => z.2.2) c
theorem def1_of {x : Str} {st : Stmt} (c : Says w K) (X : K.In h) (G : h.Ns mainGlobals mg) (i j : Nat) (hd : fnL[i]? = some (dd x st)) (hf : faL[j]? = some (.glo x)) : Def1 K mg x st := by
  obtain ⟨fd, F⟩ := (says_a c).def_ i hd
  exact ⟨_, fd, F, He.glo_ok X G ((says_a c).fact j hf)⟩

theorem mods_of (c : Says w K) (X : K.In h) (G : h.Ns mainGlobals mg) : Mods w K mg := by
  obtain ⟨b1, b⟩ := He.ba (says_b c)
  obtain ⟨b2, b⟩ := He.ba b
  have kinds : ∀ H, SqT K H (He.ga K "KINDS") ((["whole", "any"] : List Str).map V.str) := fun H => He.tupB_ok b1 H
  have dct : Dct4 K w (He.ga K "LENGTHS") := by
    obtain ⟨es, n, kd⟩ := He.dicW_ok (says_d c)
    obtain ⟨u, h1, h2⟩ := He.valsB_ok b2 (q := ("best", .int 4)) (List.mem_singleton.mpr rfl)
    exact ⟨es, n, u, kd, h1, h2⟩
  exact { n_isinstance := He.free_ok X G ((says_a c).fact 65 rfl)
          n_int := He.free_ok X G ((says_a c).fact 66 rfl)
          n_bool := He.free_ok X G ((says_a c).fact 67 rfl)
          n_tuple := He.free_ok X G ((says_a c).fact 68 rfl)
          n_str := He.free_ok X G ((says_a c).fact 69 rfl)
          n_list := He.free_ok X G ((says_a c).fact 70 rfl)
          n_len := He.free_ok X G ((says_a c).fact 71 rfl)
          n_all := He.free_ok X G ((says_a c).fact 72 rfl)
          n_any := He.free_ok X G ((says_a c).fact 73 rfl)
          n_sum := He.free_ok X G ((says_a c).fact 74 rfl)
          n_abs := He.free_ok X G ((says_a c).fact 75 rfl)
          n_zip := He.free_ok X G ((says_a c).fact 76 rfl)
          n_range := He.free_ok X G ((says_a c).fact 77 rfl)
          n_enumerate := He.free_ok X G ((says_a c).fact 78 rfl)
          n_max := He.free_ok X G ((says_a c).fact 79 rfl)
          n_min := He.free_ok X G ((says_a c).fact 80 rfl)
          n_divmod := He.free_ok X G ((says_a c).fact 81 rfl)
          n_repr := He.free_ok X G ((says_a c).fact 82 rfl)
          c_MOST_INEQUALITIES := He.int_ok X G ((says_a c).fact 83 rfl)
          c_MOST_WEIGHT := He.int_ok X G ((says_a c).fact 84 rfl)
          c_MOST_CONSTANT := He.int_ok X G ((says_a c).fact 85 rfl)
          c_FIGURES := He.str_ok X G ((says_a c).fact 86 rfl)
          c_UNKNOWNS := He.str_ok X G ((says_a c).fact 87 rfl)
          c_JOIN := He.str_ok X G ((says_a c).fact 88 rfl)
          c_PART := He.str_ok X G ((says_a c).fact 89 rfl)
          c_END := He.str_ok X G ((says_a c).fact 90 rfl)
          c_KINDS := ⟨kinds, He.glo_ok X G ((says_a c).fact 99 rfl)⟩
          c_LENGTHS := ⟨dct, He.glo_ok X G ((says_a c).fact 100 rfl)⟩
          sys := ⟨He.cls_ok ((says_a c).fact 91 rfl), He.noat_ok ((says_a c).fact 93 rfl), He.noat_ok ((says_a c).fact 94 rfl), He.noat_ok ((says_a c).fact 95 rfl), He.noat_ok ((says_a c).fact 96 rfl), He.noat_ok ((says_a c).fact 97 rfl)⟩
          c_System := He.glo_ok X G ((says_a c).fact 64 rfl)
          c_InvalidText := ⟨_, He.glo_ok X G ((says_a c).fact 98 rfl)⟩ }
theorem defI_of (c : Says w K) : DefI K := by
  obtain ⟨fd, F⟩ := (says_a c).def_ 64 rfl
  exact ⟨_, fd, F, He.mkr_ok ((says_a c).fact 92 rfl)⟩
theorem defR_of (c : Says w K) : DefR K := by
  obtain ⟨fd, F⟩ := (says_a c).def_ 65 rfl
  obtain ⟨b1, b⟩ := He.ba (says_b c)
  obtain ⟨b2, b⟩ := He.ba b
  obtain ⟨b3, b⟩ := He.ba b
  obtain ⟨b4, b⟩ := He.ba b
  obtain ⟨b5, b6⟩ := He.ba b
  exact ⟨_, _, fd, F, ⟨b5, He.eqO_ok b6⟩, He5.cmet_of b3 b4⟩
variable {base : Heap}
theorem chain (c : Says w K) (X : K.In h) (G : h.Ns mainGlobals mg) : HasFn P w K mg base 12 "_law_by_hand" 0 sp_law_by_hand ∧ HasFn P w K mg base 13 "_law_right" 1 sp_law_right ∧ HasFnF P w K mg base 1 "_law_spring" 2 sp_law_spring := by
  have M := mods_of c X G
  have h_is_integer := w_is_integer (P := P) (w := w) (K := K) (mg := mg) (base := base) M (def1_of c X G 0 0 rfl rfl) sem_is_integer
  have h_is_between := w_is_between (P := P) (w := w) (K := K) (mg := mg) (base := base) M (def1_of c X G 1 1 rfl rfl) (h_is_integer.mono (by decide)) sem_is_between
  have h_divisor := w_divisor (P := P) (w := w) (K := K) (mg := mg) (base := base) M (def1_of c X G 2 2 rfl rfl) sem_divisor
  have h_ratio := w_ratio (P := P) (w := w) (K := K) (mg := mg) (base := base) M (def1_of c X G 3 3 rfl rfl) (h_divisor.mono (by decide)) sem_ratio
  have h_plus := w_plus (P := P) (w := w) (K := K) (mg := mg) (base := base) M (def1_of c X G 5 5 rfl rfl) (h_ratio.mono (by decide)) sem_plus
  have h_times := w_times (P := P) (w := w) (K := K) (mg := mg) (base := base) M (def1_of c X G 6 6 rfl rfl) (h_ratio.mono (by decide)) sem_times
  have h_sum_at := w_sum_at (P := P) (w := w) (K := K) (mg := mg) (base := base) M (def1_of c X G 7 7 rfl rfl) (h_plus.mono (by decide)) (h_times.mono (by decide)) sem_sum_at
  have h_at_most := w_at_most (P := P) (w := w) (K := K) (mg := mg) (base := base) M (def1_of c X G 8 8 rfl rfl) sem_at_most
  have h_at_least := w_at_least (P := P) (w := w) (K := K) (mg := mg) (base := base) M (def1_of c X G 9 9 rfl rfl) sem_at_least
  have h_number_in := w_number_in (P := P) (w := w) (K := K) (mg := mg) (base := base) M (def1_of c X G 10 10 rfl rfl) sem_number_in
  have h_signed_in := w_signed_in (P := P) (w := w) (K := K) (mg := mg) (base := base) M (def1_of c X G 11 11 rfl rfl) (h_number_in.mono (by decide)) sem_signed_in
  have h_unknowns_in := w_unknowns_in (P := P) (w := w) (K := K) (mg := mg) (base := base) M (def1_of c X G 12 12 rfl rfl) sem_unknowns_in
  have h_term_in := w_term_in (P := P) (w := w) (K := K) (mg := mg) (base := base) M (def1_of c X G 13 13 rfl rfl) (h_number_in.mono (by decide)) sem_term_in
  have h_sum_in := w_sum_in (P := P) (w := w) (K := K) (mg := mg) (base := base) M (def1_of c X G 14 14 rfl rfl) (h_term_in.mono (by decide)) sem_sum_in
  have h_inequality_in := w_inequality_in (P := P) (w := w) (K := K) (mg := mg) (base := base) M (def1_of c X G 15 15 rfl rfl) (h_sum_in.mono (by decide)) (h_signed_in.mono (by decide)) sem_inequality_in
  have h_wrong_rows := w_wrong_rows (P := P) (w := w) (K := K) (mg := mg) (base := base) M (def1_of c X G 16 16 rfl rfl) (h_unknowns_in.mono (by decide)) (h_inequality_in.mono (by decide)) sem_wrong_rows
  have h_is_aim := w_is_aim (P := P) (w := w) (K := K) (mg := mg) (base := base) M (def1_of c X G 17 17 rfl rfl) (h_is_between.mono (by decide)) sem_is_aim
  have h_is_solid := w_is_solid (P := P) (w := w) (K := K) (mg := mg) (base := base) M (def1_of c X G 18 18 rfl rfl) sem_is_solid
  have h_is_point := w_is_point (P := P) (w := w) (K := K) (mg := mg) (base := base) M (def1_of c X G 19 19 rfl rfl) (h_is_integer.mono (by decide)) sem_is_point
  have h_as_fractions := w_as_fractions (P := P) (w := w) (K := K) (mg := mg) (base := base) M (def1_of c X G 20 20 rfl rfl) (h_is_integer.mono (by decide)) sem_as_fractions
  have h_gaps_at := w_gaps_at (P := P) (w := w) (K := K) (mg := mg) (base := base) M (def1_of c X G 21 21 rfl rfl) (h_as_fractions.mono (by decide)) (h_plus.mono (by decide)) (h_times.mono (by decide)) (h_sum_at.mono (by decide)) sem_gaps_at
  have h_broken_at := w_broken_at (P := P) (w := w) (K := K) (mg := mg) (base := base) M (def1_of c X G 22 22 rfl rfl) (h_gaps_at.mono (by decide)) sem_broken_at
  have h_are_integers := w_are_integers (P := P) (w := w) (K := K) (mg := mg) (base := base) M (def1_of c X G 24 24 rfl rfl) (h_is_integer.mono (by decide)) sem_are_integers
  have h_is_parting := w_is_parting (P := P) (w := w) (K := K) (mg := mg) (base := base) M (def1_of c X G 25 25 rfl rfl) (h_are_integers.mono (by decide)) (h_is_integer.mono (by decide)) sem_is_parting
  have h_is_end := w_is_end (P := P) (w := w) (K := K) (mg := mg) (base := base) M (def1_of c X G 26 26 rfl rfl) (h_are_integers.mono (by decide)) sem_is_end
  have h_is_tree := w_is_tree (P := P) (w := w) (K := K) (mg := mg) (base := base) M (def1_of c X G 27 27 rfl rfl) (h_is_parting.mono (by decide)) (h_at_least.mono (by decide)) (h_at_most.mono (by decide)) (h_is_end.mono (by decide)) sem_is_tree
  have h_is_pair := w_is_pair (P := P) (w := w) (K := K) (mg := mg) (base := base) M (def1_of c X G 28 28 rfl rfl) sem_is_pair
  have h_accepts_best := w_accepts_best (P := P) (w := w) (K := K) (mg := mg) (base := base) M (def1_of c X G 29 29 rfl rfl) (h_is_integer.mono (by decide)) (h_is_pair.mono (by decide)) (h_is_point.mono (by decide)) (h_broken_at.mono (by decide)) (h_sum_at.mono (by decide)) (h_as_fractions.mono (by decide)) (h_is_tree.mono (by decide)) (h_at_least.mono (by decide)) sem_accepts_best
  have h_law_spring := w_law_spring (P := P) (w := w) (K := K) (mg := mg) (base := base) M (def1_of c X G 31 31 rfl rfl) sem_law_spring
  have h_law_draw := w_law_draw (P := P) (w := w) (K := K) (mg := mg) (base := base) M (def1_of c X G 32 32 rfl rfl) sem_law_draw
  have h_law_of := w_law_of (P := P) (w := w) (K := K) (mg := mg) (base := base) M (def1_of c X G 33 33 rfl rfl) (h_law_draw.mono (by decide)) sem_law_of
  have h_law_term := w_law_term (P := P) (w := w) (K := K) (mg := mg) (base := base) M (def1_of c X G 34 34 rfl rfl) sem_law_term
  have h_law_sum_text := w_law_sum_text (P := P) (w := w) (K := K) (mg := mg) (base := base) M (def1_of c X G 35 35 rfl rfl) (h_law_term.mono (by decide)) sem_law_sum_text
  have h_law_point_keeps := w_law_point_keeps (P := P) (w := w) (K := K) (mg := mg) (base := base) M (def1_of c X G 37 37 rfl rfl) sem_law_point_keeps
  have h_law_integer := w_law_integer (P := P) (w := w) (K := K) (mg := mg) (base := base) M (def1_of c X G 38 38 rfl rfl) sem_law_integer
  have h_law_integers := w_law_integers (P := P) (w := w) (K := K) (mg := mg) (base := base) M (def1_of c X G 39 39 rfl rfl) (h_law_integer.mono (by decide)) sem_law_integers
  have h_law_total := w_law_total (P := P) (w := w) (K := K) (mg := mg) (base := base) M (def1_of c X G 40 40 rfl rfl) sem_law_total
  have h_law_pair := w_law_pair (P := P) (w := w) (K := K) (mg := mg) (base := base) M (def1_of c X G 41 41 rfl rfl) sem_law_pair
  have h_law_end_right := w_law_end_right (P := P) (w := w) (K := K) (mg := mg) (base := base) M (def1_of c X G 42 42 rfl rfl) (h_law_integers.mono (by decide)) (h_law_total.mono (by decide)) sem_law_end_right
  have h_law_parting_right := w_law_parting_right (P := P) (w := w) (K := K) (mg := mg) (base := base) M (def1_of c X G 43 43 rfl rfl) (h_law_integers.mono (by decide)) (h_law_integer.mono (by decide)) sem_law_parting_right
  have h_law_tree_right := w_law_tree_right (P := P) (w := w) (K := K) (mg := mg) (base := base) M (def1_of c X G 44 44 rfl rfl) (h_law_parting_right.mono (by decide)) (h_law_end_right.mono (by decide)) sem_law_tree_right
  have h_law_fits := w_law_fits (P := P) (w := w) (K := K) (mg := mg) (base := base) M (def1_of c X G 46 46 rfl rfl) (h_law_integer.mono (by decide)) sem_law_fits
  have h_law_aim_right := w_law_aim_right (P := P) (w := w) (K := K) (mg := mg) (base := base) M (def1_of c X G 47 47 rfl rfl) (h_law_integers.mono (by decide)) sem_law_aim_right
  have h_law_best_right := w_law_best_right (P := P) (w := w) (K := K) (mg := mg) (base := base) M (def1_of c X G 48 48 rfl rfl) (h_law_integer.mono (by decide)) (h_law_pair.mono (by decide)) (h_law_fits.mono (by decide)) (h_law_point_keeps.mono (by decide)) (h_law_total.mono (by decide)) (h_law_tree_right.mono (by decide)) sem_law_best_right
  have h_law_entry := w_law_entry (P := P) (w := w) (K := K) (mg := mg) (base := base) M (def1_of c X G 50 50 rfl rfl) (h_law_draw.mono (by decide)) (h_law_sum_text.mono (by decide)) sem_law_entry
  have h_law_lifted := w_law_lifted (P := P) (w := w) (K := K) (mg := mg) (base := base) M (def1_of c X G 51 51 rfl rfl) sem_law_lifted
  have h_law_wrapped := w_law_wrapped (P := P) (w := w) (K := K) (mg := mg) (base := base) M (def1_of c X G 52 52 rfl rfl) (h_law_of.mono (by decide)) (h_law_draw.mono (by decide)) (h_law_lifted.mono (by decide)) sem_law_wrapped
  have h_law_put := w_law_put (P := P) (w := w) (K := K) (mg := mg) (base := base) M (def1_of c X G 53 53 rfl rfl) sem_law_put
  have h_law_bent_node := w_law_bent_node (P := P) (w := w) (K := K) (mg := mg) (base := base) M (def1_of c X G 54 54 rfl rfl) (h_law_draw.mono (by decide)) (h_law_of.mono (by decide)) (h_law_put.mono (by decide)) sem_law_bent_node
  have h_law_bent_spot := w_law_bent_spot (P := P) (w := w) (K := K) (mg := mg) (base := base) M (def1_of c X G 55 55 rfl rfl) (h_law_draw.mono (by decide)) (h_law_of.mono (by decide)) (h_law_put.mono (by decide)) sem_law_bent_spot
  have h_law_bent_pair := w_law_bent_pair (P := P) (w := w) (K := K) (mg := mg) (base := base) M (def1_of c X G 56 56 rfl rfl) (h_law_of.mono (by decide)) sem_law_bent_pair
  have h_law_bent_numbers := w_law_bent_numbers (P := P) (w := w) (K := K) (mg := mg) (base := base) M (def1_of c X G 57 57 rfl rfl) (h_law_draw.mono (by decide)) (h_law_of.mono (by decide)) (h_law_put.mono (by decide)) sem_law_bent_numbers
  have h_law_kept := w_law_kept (P := P) (w := w) (K := K) (mg := mg) (base := base) M (def1_of c X G 58 58 rfl rfl) (h_law_draw.mono (by decide)) (h_law_total.mono (by decide)) sem_law_kept
  have h_law_best_case := w_law_best_case (P := P) (w := w) (K := K) (mg := mg) (base := base) M (def1_of c X G 59 59 rfl rfl) (h_law_draw.mono (by decide)) (h_law_of.mono (by decide)) (h_law_kept.mono (by decide)) (h_law_entry.mono (by decide)) sem_law_best_case
  have h_law_otherwise := w_law_otherwise (P := P) (w := w) (K := K) (mg := mg) (base := base) M (def1_of c X G 60 60 rfl rfl) (h_law_draw.mono (by decide)) (h_law_of.mono (by decide)) (h_law_bent_numbers.mono (by decide)) (h_law_bent_spot.mono (by decide)) (h_law_put.mono (by decide)) (h_law_bent_node.mono (by decide)) (h_law_bent_pair.mono (by decide)) sem_law_otherwise
  have h_init := w_init (P := P) (w := w) (K := K) (mg := mg) (base := base) M (defI_of c) (h_wrong_rows.mono (by decide)) (h_unknowns_in.mono (by decide)) (h_inequality_in.mono (by decide)) sem_init
  have h_read := w_read (P := P) (w := w) (K := K) (mg := mg) (base := base) M (defR_of c) h_init (h_wrong_rows.mono (by decide)) sem_read
  have h_system_of := w_system_of (P := P) (w := w) (K := K) (mg := mg) (base := base) M (def1_of c X G 23 23 rfl rfl) h_read sem_system_of
  have h_accepts := w_accepts (P := P) (w := w) (K := K) (mg := mg) (base := base) M (def1_of c X G 30 30 rfl rfl) (h_system_of.mono (by decide)) (h_is_solid.mono (by decide)) (h_is_aim.mono (by decide)) (h_accepts_best.mono (by decide)) (sem_accepts txD_ok)
  have hk_accepts := wk_accepts (P := P) (w := w) (K := K) (mg := mg) (base := base) M (def1_of c X G 30 30 rfl rfl) (h_system_of.mono (by decide)) (h_is_solid.mono (by decide)) (h_is_aim.mono (by decide)) (h_accepts_best.mono (by decide)) (sem_accepts txD_ok)
  have h_law_judged := w_law_judged (P := P) (w := w) (K := K) (mg := mg) (base := base) M (def1_of c X G 49 49 rfl rfl) (h_accepts.mono (by decide)) (sem_law_judged (Tx := TxD))
  have h_law_right := w_law_right (P := P) (w := w) (K := K) (mg := mg) (base := base) M (def1_of c X G 61 61 rfl rfl) (h_law_best_case.mono (by decide)) (h_law_wrapped.mono (by decide)) (h_accepts.mono (by decide)) (hk_accepts.mono (by decide)) (h_law_put.mono (by decide)) (h_law_otherwise.mono (by decide)) (h_law_aim_right.mono (by decide)) (h_law_best_right.mono (by decide)) (h_law_judged.mono (by decide)) sem_law_right
  have h_law_by_hand := w_law_by_hand (P := P) (w := w) (K := K) (mg := mg) (base := base) M (def1_of c X G 62 62 rfl rfl) (h_accepts.mono (by decide)) sem_law_by_hand
  exact ⟨h_law_by_hand, h_law_right, h_law_spring⟩
theorem ok_law {f : Addr} {fd : FuncData} (M : Mods w K mg) (F1 : FunD K "law" "law" (defArgs s_law) (defBody s_law) (defScope s_law) [] [] f fd) (h_law_by_hand : HasFn P w K mg base 12 "_law_by_hand" 0 sp_law_by_hand) (h_law_right : HasFn P w K mg base 13 "_law_right" 1 sp_law_right) (h_law_spring : HasFnF P w K mg base 1 "_law_spring" 2 sp_law_spring) :
    FnOk P w K mg base CX0 14 f fd ["_law_cells"] (SpD K 1 sp_law) := by
  have hbody : ∀ (f : Addr) (cdv : Value) (A : Around) (outer : List Env) (s : Shared) (H : Hp) (E : XK), Room 13 (A.deeper (envOfC "law" (defScope s_law) s.heap.objs.size f cdv)) → PSs (cxOf CX0 P w K mg base N_law "law" (defScope s_law) f cdv A outer s H E).nox (defBody s_law) (tDS K (d_law sp_law_by_hand sp_law_right sp_law_spring)) := fun f cdv A outer s H E hr => by exact (sd_cons (sd_if (ptd_not (ptd_tru (pd_call0 (h_law_by_hand.mono (by decide)) hr (by rfl)))) (sd_one (sd_ret pd_bl)) sd_nil) (sd_one (sd_ret (pd_b1 M.n_all (cr_all rfl) c1_all boot_all (pd_fr (pf_lc rfl sc_law.nd (pid_r M.n_range (pd_b2 M.n_max (call_max2 rfl) c2_max boot_max pd_int (pd_b2 M.n_min (call_min2 rfl) c2_min boot_min (pd_b1 M.n_len call_lenD c1_len boot_len (pd_var 0) (by rfl)) pd_int (by rfl)) (by rfl)) (by rfl)) (blkOk_by (own := [("_law_k", 1)]) (by kernel_rfl)) (rg_n (by decide)) (fun _ _ _ _ _ => pg_name sc_law.nd rfl (by first | exact Or.inl rfl | exact Or.inr rfl)) (fun _ _ _ _ _ => ptsd_nil) (fun _ _ _ _ _ => (pd_callNew (h_law_right.mono (by decide)) hr (pf_call (h_law_spring.mono (by decide)) hr (pda (pdl_cons (pd_var 0) (pdl_cons (pd_var 1) pdl_nil))) (by rfl)) (by rfl))))) (by rfl)))))
  exact F1.ok sc_law (spD_len rfl) fun cdv A outer s H vs Q E hr h => ⟨_, PSs.nox (hbody f cdv A outer s H E hr), tDS_start sem_law h⟩
end
theorem script {K : PySem.W.Frag} (N : NoL K) {H : Hp} {a : Addr} {ns : List Int} (S : SqL K H a (ns.map V.int)) : SpD K 1 sp_law [.ref a] H (fun v _ => v = .bl true) fun _ _ _ => False := by
  have rd : Rd H a (.lst (ns.map V.int)) := by
    rcases S with S | ⟨o, its, n, lk, cl, _⟩
    · exact S
    · have := N a o lk
      unfold isL at this
      rw [cl] at this
      exact absurd this (by decide)
  have rd' : Rd (er (fun _ => none) H) a (.lst (ns.map V.int)) := by
    rcases rd with r | ⟨o, r⟩
    · exact .inl (er_of rfl r)
    · exact .inr ⟨o, er_of rfl r⟩
  refine ⟨fun _ => none, [.dat (.lst (ns.map D.int))], fun d => d = .bl true, (fun _ _ z => nomatch z), (fun _ _ z => nomatch z), .cons (.lst rd' (RpA.of_ints ns)) .nil, rfl, ⟨ns, rfl, rfl⟩, fun v H' d he rp e => ?_⟩
  subst e
  cases rp
  rfl
theorem facts {P : Program} {w : World} {K : PySem.W.Frag} {h : Heap} {mg : Str → Option Value} {f : Addr} (X : K.In h) (G : h.Ns mainGlobals mg) (hfa : mg ("law" : Str) = some (.ref f)) (c : Says w K) :
    ∃ fd : FuncData, (∀ (s : Shared) (v : Value), BindsTo s fd ⟨[v], []⟩ [("_law_cells", v)]) ∧ ∀ base : Heap, K.In base → base.Ns mainGlobals mg → FnOk P w K mg base CX0 14 f fd ["_law_cells"] (SpD K 1 sp_law) := by
  obtain ⟨fd, F⟩ := (says_a c).def_ 63 (d := dd "law" s_law) rfl
  have e := hfa.symm.trans (He.glo_ok X G ((says_a c).fact 63 (f := .glo "law") rfl))
  cases e
  have b := FunD.bindsA (ps := ["_law_cells"]) F fun _ _ _ _ _ _ us hl => match us, hl with | [_], _ => rfl
  refine ⟨fd, fun s v => b s [v] rfl, fun base _ _ => ?_⟩
  obtain ⟨h1, h2, h3⟩ := chain (P := P) (base := base) c X G
  exact ok_law (mods_of c X G) F h1 h2 h3
end Fe
open PySem PySem.W PySem.Calls PyProof.Rows
theorem PySem.Challenge.cw_fewenough_k60_whole_best_claims_holds : PySem.Challenge.rw_fewenough_k60_whole_best_claims.Holds := by
  w_on; o_law
  refine HandSHeadRun.head_any (r := OpenLaw.row PySem.Challenge.rw_fewenough_k60_whole_best_claims) (q := view (OpenLaw.row PySem.Challenge.rw_fewenough_k60_whole_best_claims).prog [Fe.lawIx]) (H := Fe.hk) (ob := Fe.ob) (M := 6000) (loose := Fe.looseL) (d := HandSHeadRun.topDef (OpenLaw.row PySem.Challenge.rw_fewenough_k60_whole_best_claims).prog 90) (kwd := []) Fe.ob_eq
    (by kernel_rfl) (fun s => by kernel_rfl) Fe.run (by kernel_rfl) (by kernel_rfl) (by kernel_rfl) (by rfl) (by first | assumption | decide +kernel) (by decide +kernel) ⟨rfl, rfl, rfl, rfl, rfl, by decide +kernel⟩ ?hw ?hc
  case hw => w_witness2
  case hc =>
    refine L2.walk_ofE (l := PySem.Challenge.rw_fewenough_k60_whole_best_claims) (n := 63) (k := 14) (x := "_law_cells") (CX := L2.CX0) rfl (by decide) (by kernel_rfl) ⟨rfl, by decide, by decide⟩ ?F (fun _ _ _ _ z => z)
    intro w mg fa h Y G hmg0
    obtain ⟨K, KX, c, N⟩ := Y
    have hmg : mg ("law" : PySem.Str) = some (.ref fa) := by
      have e : (HandSHeadRun.topDef (OpenLaw.row PySem.Challenge.rw_fewenough_k60_whole_best_claims).prog 90).name = ("law" : PySem.Str) := by kernel_rfl
      rw [← e]
      exact hmg0
    obtain ⟨fd, hb, hF⟩ := Fe.facts (P := (PySem.Challenge.rw_fewenough_k60_whole_best_claims).prog) (w := w) KX G hmg c
    exact ⟨K, fd, Fe.SpD K 1 Fe.sp_law, KX, hb, fun H a ns _ _ hS => Fe.script N hS, hF⟩
