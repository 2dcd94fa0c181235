import PyProof.Rows.All
import Wide.All
import OpenK.AllK
import Wide.FinOn
import PySem.Challenge.RW_growshares_k07_whole_weights_told_back
import HandS.ForMost
import HandS.Exc
import HandS.TryOnly
import HandS.ExcOwn
import HandS.WordsExc
import HandS.Wide
import HandS.TupAny
import HandS.TupMul
import HandS.IsInst
import HandS.Zip
import HandS.Deep
import HandS.Lambda
import KE.KTupSum
import HandS.NoneIn
import KE.GoesNew
import KE.GoesMore
import HandS.ExcCtx
import HandS.HotCalls
import HandS.HeadHook1
import HandS.ExcIs
import HandS.HeadHook4
import HandS.HeadNt
import HandS.HeadWalk
import HandS.Head2
import Lean
-- text DL1
set_option Elab.async false
set_option linter.all false
set_option maxRecDepth 100000
set_option maxHeartbeats 2000000
/-! DL1: values as data; what is frozen (F) only grows; what may change stands in mu. -/
namespace DL
open PySem PySem.Spec PyProof.Rows L2
abbrev Fg := PySem.W.Frag

inductive D where
  | non | bl (b : Bool) | int (i : Int) | str (x : Str) | tup (xs : List D) | lst (xs : List D) | raw (v : V)

mutual
def Rep (K : Fg) (F : Hp) : D → V → Prop
  | .non, v => v = .non
  | .bl b, v => v = .bl b
  | .int i, v => v = .int i
  | .str x, v => v = .str x
  | .raw u, v => v = u
  | .tup ds, v => ∃ a vs, v = .ref a ∧ SqT K F a vs ∧ Reps K F ds vs
  | .lst ds, v => ∃ a vs, v = .ref a ∧ SqL K F a vs ∧ Reps K F ds vs
def Reps (K : Fg) (F : Hp) : List D → List V → Prop
  | [], vs => vs = []
  | d :: ds, vs => ∃ v r, vs = v :: r ∧ Rep K F d v ∧ Reps K F ds r
end

theorem Same.seqT {K : Fg} {H H' : Hp} {a : Addr} {xs : List V} (e : Same H H') (h : SqT K H a xs) : SqT K H' a xs := by
  rcases h with (h | ⟨o, h⟩) | h
  · exact .inl (.inl (e _ _ h))
  · exact .inl (.inr ⟨o, e _ _ h⟩)
  · exact .inr h
mutual
theorem Rep.mono {K : Fg} {F F' : Hp} (e : Same F F') : ∀ (d : D) (v : V), Rep K F d v → Rep K F' d v
  | .non, _, h => h
  | .bl _, _, h => h
  | .int _, _, h => h
  | .str _, _, h => h
  | .raw _, _, h => h
  | .tup ds, _, h => by
    obtain ⟨a, vs, h1, h2, h3⟩ := h
    exact ⟨a, vs, h1, Same.seqT e h2, Reps.mono e ds vs h3⟩
  | .lst ds, _, h => by
    obtain ⟨a, vs, h1, h2, h3⟩ := h
    exact ⟨a, vs, h1, e.seq h2, Reps.mono e ds vs h3⟩
theorem Reps.mono {K : Fg} {F F' : Hp} (e : Same F F') : ∀ (ds : List D) (vs : List V), Reps K F ds vs → Reps K F' ds vs
  | [], _, h => h
  | d :: ds, _, h => by
    obtain ⟨v, r, h1, h2, h3⟩ := h
    exact ⟨v, r, h1, Rep.mono e d v h2, Reps.mono e ds r h3⟩
end
section
variable {K : Fg} {F : Hp}
theorem Reps.length : ∀ {ds : List D} {vs : List V}, Reps K F ds vs → vs.length = ds.length
  | [], _, h => by
    have h : _ = [] := h
    rw [h]; rfl
  | d :: ds, _, h => by
    obtain ⟨v, r, rfl, _, h3⟩ := h
    show r.length + 1 = ds.length + 1
    rw [Reps.length h3]
theorem Reps.get : ∀ {ds : List D} {vs : List V} {i : Nat} {d : D}, Reps K F ds vs → ds[i]? = some d → ∃ v, vs[i]? = some v ∧ Rep K F d v
  | [], _, _, _, _, e => by simp at e
  | d :: ds, _, 0, x, h, e => by
    obtain ⟨v, r, rfl, h2, _⟩ := h
    cases (Option.some.inj e : d = x)
    exact ⟨v, rfl, h2⟩
  | d :: ds, _, i + 1, x, h, e => by
    obtain ⟨v, r, rfl, _, h3⟩ := h
    obtain ⟨u, h4, h5⟩ := Reps.get (i := i) h3 (by simpa using e)
    exact ⟨u, by simpa using h4, h5⟩
theorem Reps.append : ∀ {ds es : List D} {vs us : List V}, Reps K F ds vs → Reps K F es us → Reps K F (ds ++ es) (vs ++ us)
  | [], _, _, _, h, g => by
    have h : _ = [] := h
    rw [h]; exact g
  | d :: ds, es, _, us, h, g => by
    obtain ⟨v, r, rfl, h2, h3⟩ := h
    exact ⟨v, r ++ us, rfl, h2, Reps.append h3 g⟩
theorem Reps.one {d : D} {v : V} (h : Rep K F d v) : Reps K F [d] [v] := ⟨v, [], rfl, h, rfl⟩
theorem Reps.take : ∀ {ds : List D} {vs : List V} (n : Nat), Reps K F ds vs → Reps K F (ds.take n) (vs.take n)
  | _, _, 0, _ => rfl
  | [], _, n + 1, h => by
    have h : _ = [] := h
    rw [h]; rfl
  | d :: ds, _, n + 1, h => by
    obtain ⟨v, r, rfl, h2, h3⟩ := h
    exact ⟨v, r.take n, rfl, h2, Reps.take n h3⟩
theorem Reps.drop : ∀ {ds : List D} {vs : List V} (n : Nat), Reps K F ds vs → Reps K F (ds.drop n) (vs.drop n)
  | _, _, 0, h => h
  | [], _, n + 1, h => by
    have h : _ = [] := h
    rw [h]; rfl
  | d :: ds, _, n + 1, h => by
    obtain ⟨v, r, rfl, h2, h3⟩ := h
    exact Reps.drop n h3
theorem Reps.rep {ds : List D} {vs : List V} (h : Reps K F ds vs) : ∀ k : Nat, Reps K F (List.replicate k ds).flatten (List.replicate k vs).flatten
  | 0 => rfl
  | k + 1 => by
    rw [List.replicate_succ, List.replicate_succ, List.flatten_cons, List.flatten_cons]
    exact h.append (h.rep k)
theorem Reps.set {d : D} {v : V} (hd : Rep K F d v) : ∀ {ds : List D} {vs : List V} (n : Nat), Reps K F ds vs → Reps K F (ds.set n d) (vs.set n v)
  | [], _, _, h => by
    have h : _ = [] := h
    rw [h]; rfl
  | e :: ds, _, 0, h => by
    obtain ⟨u, r, rfl, _, h3⟩ := h
    exact ⟨v, r, rfl, hd, h3⟩
  | e :: ds, _, n + 1, h => by
    obtain ⟨u, r, rfl, h2, h3⟩ := h
    exact ⟨u, r.set n v, rfl, h2, Reps.set hd n h3⟩
theorem Reps.ints : ∀ {ns : List Int} {vs : List V}, Reps K F (ns.map D.int) vs → vs = ns.map V.int
  | [], _, h => h
  | n :: ns, _, h => by
    obtain ⟨v, r, rfl, h2, h3⟩ := h
    have h2 : v = .int n := h2
    rw [h2, Reps.ints h3] <;> rfl
theorem Reps.of_ints : ∀ {ns : List Int}, Reps K F (ns.map D.int) (ns.map V.int)
  | [] => rfl
  | n :: ns => ⟨.int n, ns.map V.int, rfl, rfl, Reps.of_ints⟩
theorem Reps.bls : ∀ {ns : List Bool} {vs : List V}, Reps K F (ns.map D.bl) vs → vs = ns.map V.bl
  | [], _, h => h
  | n :: ns, _, h => by
    obtain ⟨v, r, rfl, h2, h3⟩ := h
    have h2 : v = .bl n := h2
    rw [h2, Reps.bls h3] <;> rfl
theorem Reps.strs : ∀ {ns : List Str} {vs : List V}, Reps K F (ns.map D.str) vs → vs = ns.map V.str
  | [], _, h => h
  | n :: ns, _, h => by
    obtain ⟨v, r, rfl, h2, h3⟩ := h
    have h2 : v = .str n := h2
    rw [h2, Reps.strs h3] <;> rfl
theorem Reps.of_strs : ∀ {ns : List Str}, Reps K F (ns.map D.str) (ns.map V.str)
  | [] => rfl
  | n :: ns => ⟨.str n, ns.map V.str, rfl, rfl, Reps.of_strs⟩
end

/-! ### the state -/
inductive MO where
  | lst (ds : List D)
  | ins (C dx : Addr) (fs : List (Str × D))
  | tab (q : Str)
abbrev Mu := Addr → Option MO
def muSet (μ : Mu) (a : Addr) (m : MO) : Mu := fun b => if b = a then some m else μ b
def muDel (μ : Mu) (a : Addr) : Mu := fun b => if b = a then none else μ b
theorem muSet_same {μ : Mu} {a : Addr} {m : MO} : muSet μ a m a = some m := if_pos rfl
theorem muSet_ne {μ : Mu} {a b : Addr} {m : MO} (h : b ≠ a) : muSet μ a m b = μ b := if_neg h
theorem muSet_set {μ : Mu} {a : Addr} {m n : MO} : muSet (muSet μ a m) a n = muSet μ a n := by
  funext b; unfold muSet; split <;> rfl
theorem muDel_set {μ : Mu} {a : Addr} {m : MO} (h : μ a = none) : muDel (muSet μ a m) a = μ := by
  funext b; unfold muDel muSet
  by_cases e : b = a
  · subst e; rw [if_pos rfl, h]
  · rw [if_neg e, if_neg e]
def MOk (K : Fg) (F H : Hp) (a : Addr) : MO → Prop
  | .lst ds => ∃ vs, H a = some (.lst vs) ∧ Reps K F ds vs
  | .ins C dx fs => ∃ gs : List (Str × V), H a = some (.ins C dx gs) ∧ gs.map (·.1) = fs.map (·.1) ∧ Reps K F (fs.map (·.2)) (gs.map (·.2))
  | .tab q => ∃ ps : Array Value, H a = some (.tbl ps) ∧ TriplesOk ps.toList ∧ ∀ (pos : Pos) (cv : Value), codeAmong pos ps.toList = some cv → ∃ c, cv = .ref c ∧ F c = some (LamX.CodeO c q)
/-- what is tracked and stands outside F and mu is not touched, and stays outside -/
def Keep (F H : Hp) (μ : Mu) (F' H' : Hp) (μ' : Mu) : Prop := ∀ b o, H b = some o → F b = none → μ b = none → H' b = some o ∧ F' b = none ∧ μ' b = none
theorem Keep.refl (F H : Hp) (μ : Mu) : Keep F H μ F H μ := fun _ _ h f m => ⟨h, f, m⟩
theorem Keep.trans {F H F1 H1 F2 H2 : Hp} {μ μ1 μ2 : Mu} (a : Keep F H μ F1 H1 μ1) (b : Keep F1 H1 μ1 F2 H2 μ2) : Keep F H μ F2 H2 μ2 := fun c o h f m => let ⟨h1, f1, m1⟩ := a c o h f m; b c o h1 f1 m1
/-- where one comes from (a def's entry) -/
structure Og where
  f : Hp
  h : Hp
  m : Mu
structure Sim (K : Fg) (F0 : Og) (F H : Hp) (μ : Mu) : Prop where
  old : Same F0.f F
  kept : Keep F0.f F0.h F0.m F H μ
  sub : Same F H
  mu : ∀ a m, μ a = some m → F a = none ∧ MOk K F H a m
abbrev En := List (Option D)
/-- what the slots hold; a slot that is none tells nothing -/
def REnv (K : Fg) (F : Hp) (ρ : En) (σ : L2.St) : Prop := σ.length = ρ.length ∧ ∀ (i : Nat) (d : D), ρ[i]? = some (some d) → ∃ v, σ[i]? = some (some v) ∧ Rep K F d v
section
variable {K : Fg} {F0 : Og} {F F' H : Hp} {μ : Mu} {ρ : En} {σ : L2.St}
theorem MOk.mono {a : Addr} {m : MO} (e : Same F F') (h : MOk K F H a m) : MOk K F' H a m := by
  cases m with
  | lst ds =>
    obtain ⟨vs, h1, h2⟩ := h
    exact ⟨vs, h1, Reps.mono e _ _ h2⟩
  | ins C dx fs =>
    obtain ⟨vs, h1, h2, h3⟩ := h
    exact ⟨vs, h1, h2, Reps.mono e _ _ h3⟩
  | tab q =>
    obtain ⟨ps, h1, h2, h3⟩ := h
    exact ⟨ps, h1, h2, fun pos cv hc => by
      obtain ⟨c, e1, e2⟩ := h3 pos cv hc
      exact ⟨c, e1, e _ _ e2⟩⟩
theorem MOk.heap {H' : Hp} {a : Addr} {m : MO} (e : H' a = H a) (h : MOk K F H a m) : MOk K F H' a m := by
  cases m with
  | lst ds =>
    obtain ⟨vs, h1, h2⟩ := h
    exact ⟨vs, e.trans h1, h2⟩
  | ins C dx fs =>
    obtain ⟨vs, h1, h2, h3⟩ := h
    exact ⟨vs, e.trans h1, h2, h3⟩
  | tab q =>
    obtain ⟨ps, h1, h2, h3⟩ := h
    exact ⟨ps, e.trans h1, h2, h3⟩
theorem MOk.some {a : Addr} {m : MO} (h : MOk K F H a m) : ∃ o, H a = some o := by
  cases m with
  | lst ds =>
    obtain ⟨vs, h1, h2⟩ := h
    exact ⟨_, h1⟩
  | ins C dx fs =>
    obtain ⟨vs, h1, h2, h3⟩ := h
    exact ⟨_, h1⟩
  | tab q =>
    obtain ⟨ps, h1, h2, h3⟩ := h
    exact ⟨_, h1⟩
theorem Sim.free (S : Sim K F0 F H μ) {p : Addr} (h : H p = none) : F p = none ∧ μ p = none := by
  refine ⟨S.sub.free h, ?_⟩
  cases e : μ p with
  | none => rfl
  | some m =>
    obtain ⟨o, ho⟩ := (S.mu p m e).2.some
    rw [h] at ho; cases ho
theorem same_upd {H : Hp} {p : Addr} {o : HO} (h : H p = none) : Same H (upd H p o) := fun b x e => by
  rw [upd_ne (ne_of_none e h)]
  exact e
theorem Keep.new {p : Addr} {o : HO} (h : H p = none) : Keep F H μ (upd F p o) (upd H p o) μ := fun b u hb f m => ⟨same_upd h b u hb, by rw [upd_ne (ne_of_none hb h)]; exact f, m⟩
theorem Keep.newM {p : Addr} {o : HO} {m : MO} (h : H p = none) : Keep F H μ F (upd H p o) (muSet μ p m) := fun b u hb f mb => ⟨same_upd h b u hb, f, by rw [muSet_ne (ne_of_none hb h)]; exact mb⟩
theorem Keep.write {a : Addr} {o : HO} {m0 m : MO} (h : μ a = some m0) : Keep F H μ F (upd H a o) (muSet μ a m) := fun b u hb f mb => by
  have ne : b ≠ a := fun z => by rw [z, h] at mb; cases mb
  exact ⟨by rw [upd_ne ne]; exact hb, f, by rw [muSet_ne ne]; exact mb⟩
theorem Keep.freeze {a : Addr} {o : HO} {m0 : MO} (h : μ a = some m0) : Keep F H μ (upd F a o) H (muDel μ a) := fun b u hb f mb => by
  have ne : b ≠ a := fun z => by rw [z, h] at mb; cases mb
  refine ⟨hb, by rw [upd_ne ne]; exact f, ?_⟩
  unfold muDel
  rw [if_neg ne]
  exact mb
/-- a new object, frozen at once -/
theorem Sim.new (S : Sim K F0 F H μ) {p : Addr} (o : HO) (h : H p = none) : Same F (upd F p o) ∧ Sim K F0 (upd F p o) (upd H p o) μ := by
  obtain ⟨hF, hM⟩ := S.free h
  have e1 : Same F (upd F p o) := same_upd hF
  refine ⟨e1, fun b x e => e1 _ _ (S.old _ _ e), S.kept.trans (.new h), fun b x e => ?_, fun a m e => ?_⟩
  · by_cases hb : b = p
    · subst hb
      rw [upd_same] at e ⊢
      exact e
    · rw [upd_ne hb] at e ⊢
      exact S.sub _ _ e
  · have ne : a ≠ p := fun z => by rw [z, hM] at e; cases e
    obtain ⟨h1, h2⟩ := S.mu a m e
    exact ⟨by rw [upd_ne ne]; exact h1, (h2.mono e1).heap (upd_ne ne)⟩
/-- a new object that may change -/
theorem Sim.newM (S : Sim K F0 F H μ) {p : Addr} {o : HO} {m : MO} (h : H p = none) (hm : MOk K F (upd H p o) p m) : Sim K F0 F (upd H p o) (muSet μ p m) := by
  obtain ⟨hF, hM⟩ := S.free h
  refine ⟨S.old, S.kept.trans (.newM h), fun b x e => ?_, fun a n e => ?_⟩
  · rw [upd_ne (ne_of_none e hF)]
    exact S.sub _ _ e
  · by_cases ha : a = p
    · subst ha
      rw [muSet_same] at e
      cases e
      exact ⟨hF, hm⟩
    · rw [muSet_ne ha] at e
      obtain ⟨h1, h2⟩ := S.mu a n e
      exact ⟨h1, h2.heap (upd_ne ha)⟩
/-- one that may change is changed -/
theorem Sim.write (S : Sim K F0 F H μ) {a : Addr} {o : HO} {m0 m : MO} (h : μ a = some m0) (hm : MOk K F (upd H a o) a m) : Sim K F0 F (upd H a o) (muSet μ a m) := by
  obtain ⟨hF, _⟩ := S.mu a m0 h
  refine ⟨S.old, S.kept.trans (.write h), fun b x e => ?_, fun c n e => ?_⟩
  · rw [upd_ne (fun z => by rw [z, hF] at e; cases e)]
    exact S.sub _ _ e
  · by_cases ha : c = a
    · subst ha
      rw [muSet_same] at e
      cases e
      exact ⟨hF, hm⟩
    · rw [muSet_ne ha] at e
      obtain ⟨h1, h2⟩ := S.mu c n e
      exact ⟨h1, h2.heap (upd_ne ha)⟩
theorem Sim.lst (S : Sim K F0 F H μ) {a : Addr} {ds : List D} (h : μ a = some (.lst ds)) : ∃ vs, H a = some (.lst vs) ∧ Reps K F ds vs := (S.mu a _ h).2
theorem REnv.mono (e : Same F F') (h : REnv K F ρ σ) : REnv K F' ρ σ := ⟨h.1, fun i d hi => by
  obtain ⟨v, h1, h2⟩ := h.2 i d hi
  exact ⟨v, h1, Rep.mono e _ _ h2⟩⟩
theorem REnv.set {i : Nat} {d : D} {v : V} (h : REnv K F ρ σ) (hd : Rep K F d v) : REnv K F (ρ.set i (some d)) (σ.set i (some v)) := ⟨by rw [List.length_set, List.length_set]; exact h.1, fun j e hj => by
  by_cases hij : i = j
  · subst hij
    by_cases hl : i < ρ.length
    · rw [List.getElem?_set_self hl] at hj
      cases hj
      exact ⟨v, by rw [List.getElem?_set_self (by rw [h.1]; exact hl)], hd⟩
    · rw [List.getElem?_eq_none (by rw [List.length_set]; omega)] at hj
      cases hj
  · rw [List.getElem?_set_ne hij] at hj
    obtain ⟨u, h1, h2⟩ := h.2 j e hj
    exact ⟨u, by rw [List.getElem?_set_ne hij]; exact h1, h2⟩⟩
/-- slots forgotten -/
def dwipe (ρ : En) : List Nat → En
  | [] => ρ
  | i :: r => (dwipe ρ r).set i none
theorem dwipe_length (ρ : En) : ∀ vs, (dwipe ρ vs).length = ρ.length
  | [] => rfl
  | i :: r => by
    show ((dwipe ρ r).set i none).length = _
    rw [List.length_set, dwipe_length ρ r]
theorem dwipe_some {ρ : En} {j : Nat} {d : D} : ∀ {vs : List Nat}, (dwipe ρ vs)[j]? = some (some d) → ρ[j]? = some (some d) ∧ j ∉ vs
  | [], h => ⟨h, by simp⟩
  | i :: r, h => by
    have h : ((dwipe ρ r).set i none)[j]? = some (some d) := h
    by_cases hij : i = j
    · subst hij
      by_cases hl : i < (dwipe ρ r).length
      · rw [List.getElem?_set_self hl] at h
        cases h
      · rw [List.getElem?_eq_none (by rw [List.length_set]; omega)] at h
        cases h
    · rw [List.getElem?_set_ne hij] at h
      obtain ⟨h1, h2⟩ := dwipe_some (vs := r) h
      exact ⟨h1, fun z => by
        rcases List.mem_cons.mp z with z | z
        · exact hij z.symm
        · exact h2 z⟩
theorem wipe_out' {σ : L2.St} {i : Nat} : ∀ {vs : List Nat}, i ∉ vs → (wipe σ vs)[i]? = σ[i]? := fun {vs} h => wipe_out h
theorem REnv.wipe (h : REnv K F ρ σ) (vs : List Nat) : REnv K F (dwipe ρ vs) (L2.wipe σ vs) := ⟨by rw [L2.wipe_length, dwipe_length]; exact h.1, fun i d hi => by
  obtain ⟨h1, h2⟩ := dwipe_some hi
  obtain ⟨v, h3, h4⟩ := h.2 i d h1
  exact ⟨v, by rw [wipe_out' h2]; exact h3, h4⟩⟩
theorem REnv.start : ∀ {N : List Str} {ds : List D} {vs : List V}, Reps K F ds vs → REnv K F (ds.map some ++ List.replicate (N.length - ds.length) none) (L2.start N vs) := fun {N ds vs} h => by
  have hl := h.length
  refine ⟨by unfold L2.start; simp only [List.length_append, List.length_map, List.length_replicate]; omega, fun i d hi => ?_⟩
  by_cases hlt : i < ds.length
  · rw [List.getElem?_append_left (by simpa using hlt), List.getElem?_map] at hi
    cases e : ds[i]? with
    | none => rw [e] at hi; cases hi
    | some x =>
      rw [e] at hi
      cases hi
      obtain ⟨v, h1, h2⟩ := h.get e
      refine ⟨v, ?_, h2⟩
      unfold L2.start
      rw [List.getElem?_append_left (by simp; omega), List.getElem?_map, h1]
      rfl
  · rw [List.getElem?_append_right (by simp; omega), List.getElem?_replicate] at hi
    split at hi <;> cases hi
end

/-! ### readings over data -/
abbrev DQ := D → Mu → Prop
abbrev DE := En → Mu → DQ → Prop
abbrev DT := En → Mu → (Bool → Mu → Prop) → Prop
abbrev DA := En → Mu → (List D → Mu → Prop) → Prop
structure DEnds where
  nx : En → Mu → Prop
  rt : DQ
  bk : En → Mu → Prop := fun _ _ => False
  ct : En → Mu → Prop := fun _ _ => False
abbrev DS := DEnds → En → Mu → Prop
/-- from one state to a later one -/
structure Go (K : Fg) (F0 : Og) (F H : Hp) (μ : Mu) (F' H' : Hp) (μ' : Mu) : Prop where
  ext : Same F F'
  sim : Sim K F0 F' H' μ'
  keep : Keep F H μ F' H' μ'
section
variable {K : Fg} {F0 : Og} {F H F1 H1 F2 H2 : Hp} {μ μ1 μ2 : Mu}
theorem Go.refl (S : Sim K F0 F H μ) : Go K F0 F H μ F H μ := ⟨.refl _, S, .refl _ _ _⟩
theorem Go.trans (a : Go K F0 F H μ F1 H1 μ1) (b : Go K F0 F1 H1 μ1 F2 H2 μ2) : Go K F0 F H μ F2 H2 μ2 := ⟨a.ext.trans b.ext, b.sim, a.keep.trans b.keep⟩
/-- a new object, frozen at once -/
theorem Go.new (S : Sim K F0 F H μ) {p : Addr} (o : HO) (h : H p = none) : Go K F0 F H μ (upd F p o) (upd H p o) μ :=
  let ⟨e, S'⟩ := S.new o h
  ⟨e, S', .new h⟩
theorem Go.newM (S : Sim K F0 F H μ) {p : Addr} {o : HO} {m : MO} (h : H p = none) (hm : MOk K F (upd H p o) p m) : Go K F0 F H μ F (upd H p o) (muSet μ p m) :=
  ⟨.refl _, S.newM h hm, .newM h⟩
theorem Go.write (S : Sim K F0 F H μ) {a : Addr} {o : HO} {m0 m : MO} (h : μ a = some m0) (hm : MOk K F (upd H a o) a m) : Go K F0 F H μ F (upd H a o) (muSet μ a m) :=
  ⟨.refl _, S.write h hm, .write h⟩
theorem Go.freeze (S : Sim K F0 F H μ) {a : Addr} {ds : List D} (h : μ a = some (.lst ds)) : ∃ F', Go K F0 F H μ F' H (muDel μ a) ∧ Rep K F' (.lst ds) (.ref a) := by
  obtain ⟨hF, vs, hH, hr⟩ := S.mu a _ h
  have e1 : Same F (upd F a (.lst vs)) := same_upd hF
  refine ⟨upd F a (.lst vs), ⟨e1, ⟨fun b x e => e1 _ _ (S.old _ _ e), S.kept.trans (.freeze h), fun b x e => ?_, fun c m e => ?_⟩, .freeze h⟩, a, vs, rfl, .of upd_same, Reps.mono e1 _ _ hr⟩
  · by_cases hb : b = a
    · subst hb
      rw [upd_same] at e
      cases e
      exact hH
    · rw [upd_ne hb] at e
      exact S.sub _ _ e
  · by_cases hc : c = a
    · subst hc
      unfold muDel at e
      rw [if_pos rfl] at e
      cases e
    · unfold muDel at e
      rw [if_neg hc] at e
      obtain ⟨h1, h2⟩ := S.mu c m e
      exact ⟨by rw [upd_ne hc]; exact h1, h2.mono e1⟩
/-- a list that stood outside is taken in -/
theorem Sim.adopt (S : Sim K F0 F H μ) {a : Addr} {vs : List V} (h : H a = some (.lst vs)) (hF : F a = none) (hm : μ a = none) (hn : ∀ b u, F0.h b = some u → F0.f b = none → F0.m b = none → b ≠ a) : Same F (upd F a (.lst vs)) ∧ Sim K F0 (upd F a (.lst vs)) H μ := by
  have e1 : Same F (upd F a (.lst vs)) := same_upd hF
  refine ⟨e1, fun b x e => e1 _ _ (S.old _ _ e), fun b u hb f m => ?_, fun b x e => ?_, fun c m e => ?_⟩
  · obtain ⟨z1, z2, z3⟩ := S.kept b u hb f m
    exact ⟨z1, by rw [upd_ne (hn b u hb f m)]; exact z2, z3⟩
  · by_cases hb : b = a
    · subst hb
      rw [upd_same] at e
      cases e
      exact h
    · rw [upd_ne hb] at e
      exact S.sub _ _ e
  · have hc : c ≠ a := fun z => by rw [z, hm] at e; cases e
    obtain ⟨h1, h2⟩ := S.mu c m e
    exact ⟨by rw [upd_ne hc]; exact h1, h2.mono e1⟩
end
section
variable (K : Fg) (F0 : Og) (F H : Hp) (μ : Mu)
def uQ (Q : DQ) : VK := fun v H' => ∃ F' d μ', Go K F0 F H μ F' H' μ' ∧ Rep K F' d v ∧ Q d μ'
def uT (Q : Bool → Mu → Prop) : Bool → Hp → Prop := fun b H' => ∃ F' μ', Go K F0 F H μ F' H' μ' ∧ Q b μ'
def uA (Q : List D → Mu → Prop) : List V → Hp → Prop := fun vs H' => ∃ F' ds μ', Go K F0 F H μ F' H' μ' ∧ Reps K F' ds vs ∧ Q ds μ'
def uS (Q : En → Mu → Prop) : L2.St → Hp → Prop := fun σ' H' => ∃ F' ρ' μ', Go K F0 F H μ F' H' μ' ∧ REnv K F' ρ' σ' ∧ Q ρ' μ'
def uD (D : DEnds) : Ends := { nx := uS K F0 F H μ D.nx, rt := uQ K F0 F H μ D.rt, bk := uS K F0 F H μ D.bk, ct := uS K F0 F H μ D.ct }
end
section
variable (K : Fg) (F0 : Og)
def lE (t : DE) : TE := fun σ H Q => ∃ F ρ μ Qd, Sim K F0 F H μ ∧ REnv K F ρ σ ∧ t ρ μ Qd ∧ ∀ v H', uQ K F0 F H μ Qd v H' → Q v H'
def lT (t : DT) : TT := fun σ H Q => ∃ F ρ μ Qd, Sim K F0 F H μ ∧ REnv K F ρ σ ∧ t ρ μ Qd ∧ ∀ v H', uT K F0 F H μ Qd v H' → Q v H'
def lA (t : DA) : TA := fun σ H Q => ∃ F ρ μ Qd, Sim K F0 F H μ ∧ REnv K F ρ σ ∧ t ρ μ Qd ∧ ∀ v H', uA K F0 F H μ Qd v H' → Q v H'
structure DLe (F H : Hp) (μ : Mu) (Dd : DEnds) (D : Ends) : Prop where
  nx : ∀ σ H', uS K F0 F H μ Dd.nx σ H' → D.nx σ H'
  rt : ∀ v H', uQ K F0 F H μ Dd.rt v H' → D.rt v H'
  bk : ∀ σ H', uS K F0 F H μ Dd.bk σ H' → D.bk σ H'
  ct : ∀ σ H', uS K F0 F H μ Dd.ct σ H' → D.ct σ H'
def lS (t : DS) : TS := fun D σ H => ∃ F ρ μ Dd, Sim K F0 F H μ ∧ REnv K F ρ σ ∧ t Dd ρ μ ∧ DLe K F0 F H μ Dd D
end
section
variable {X : Cx} {F0 : Og} {e : Expr} {t : DE} {t0 : TE}
theorem upE (h : PE X e t0) (hh : ∀ σ H F ρ μ Qd, Sim X.K F0 F H μ → REnv X.K F ρ σ → t ρ μ Qd → t0 σ H (uQ X.K F0 F H μ Qd)) : PE X e (lE X.K F0 t) := ⟨fun pins s σ H Q I h' => by
  obtain ⟨F, ρ, μ, Qd, hS, hR, ht, hq⟩ := h'
  exact thn (h.run pins s σ H _ I (hh σ H F ρ μ Qd hS hR ht)) fun v s' ⟨x, H1, I1, r1, q1⟩ => ⟨x, H1, I1, r1, hq _ _ q1⟩⟩
theorem upT {t : DT} {t0 : TT} (h : PT X e t0) (hh : ∀ σ H F ρ μ Qd, Sim X.K F0 F H μ → REnv X.K F ρ σ → t ρ μ Qd → t0 σ H (uT X.K F0 F H μ Qd)) : PT X e (lT X.K F0 t) := ⟨fun pins s σ H Q I h' => by
  obtain ⟨F, ρ, μ, Qd, hS, hR, ht, hq⟩ := h'
  exact thn (h.run pins s σ H _ I (hh σ H F ρ μ Qd hS hR ht)) fun v s' ⟨H1, I1, q1⟩ => ⟨H1, I1, hq _ _ q1⟩⟩
theorem upW {t : DT} {t0 : TT} (h : PW X e t0) (hh : ∀ σ H F ρ μ Qd, Sim X.K F0 F H μ → REnv X.K F ρ σ → t ρ μ Qd → t0 σ H (uT X.K F0 F H μ Qd)) : PW X e (lT X.K F0 t) := ⟨fun wh pins s σ H Q I h' => by
  obtain ⟨F, ρ, μ, Qd, hS, hR, ht, hq⟩ := h'
  exact thn (h.run wh pins s σ H _ I (hh σ H F ρ μ Qd hS hR ht)) fun v s' ⟨H1, I1, q1⟩ => ⟨H1, I1, hq _ _ q1⟩⟩
theorem upA {es : List Expr} {t : DA} {t0 : TA} (h : PA X es t0) (hh : ∀ σ H F ρ μ Qd, Sim X.K F0 F H μ → REnv X.K F ρ σ → t ρ μ Qd → t0 σ H (uA X.K F0 F H μ Qd)) : PA X es (lA X.K F0 t) := ⟨fun pos pins s σ H Q I h' => by
  obtain ⟨F, ρ, μ, Qd, hS, hR, ht, hq⟩ := h'
  exact thn (h.run pos pins s σ H _ I (hh σ H F ρ μ Qd hS hR ht)) fun v s' ⟨x, H1, I1, r1, q1⟩ => ⟨x, H1, I1, r1, hq _ _ q1⟩⟩
theorem SP.imp {pins : List (Addr × Obj)} {D D' : Ends} {f : Flow} {s' : Shared} (h : SP X pins D f s') (h1 : ∀ σ H, D.nx σ H → D'.nx σ H) (h2 : ∀ v H, D.rt v H → D'.rt v H) (h3 : ∀ σ H, D.bk σ H → D'.bk σ H) (h4 : ∀ σ H, D.ct σ H → D'.ct σ H) : SP X pins D' f s' := by
  cases f with
  | next => obtain ⟨σ', H', I, q⟩ := h; exact ⟨σ', H', I, h1 _ _ q⟩
  | brk => obtain ⟨σ', H', I, q⟩ := h; exact ⟨σ', H', I, h3 _ _ q⟩
  | cont => obtain ⟨σ', H', I, q⟩ := h; exact ⟨σ', H', I, h4 _ _ q⟩
  | ret u => obtain ⟨v, σ', H', I, r, q⟩ := h; exact ⟨v, σ', H', I, r, h2 _ _ q⟩
theorem upS {st : Stmt} {t : DS} {t0 : TS} (h : PS X st t0) (hh : ∀ σ H F ρ μ Dd, Sim X.K F0 F H μ → REnv X.K F ρ σ → t Dd ρ μ → t0 (uD X.K F0 F H μ Dd) σ H) : PS X st (lS X.K F0 t) := ⟨fun pins s σ H D I h' => by
  obtain ⟨F, ρ, μ, Dd, hS, hR, ht, hq⟩ := h'
  exact thn (h.run pins s σ H _ I (hh σ H F ρ μ Dd hS hR ht)) fun f s' q => SP.imp q hq.nx hq.rt hq.bk hq.ct⟩
theorem upSs {st : List Stmt} {t : DS} {t0 : TS} (h : PSs X st t0) (hh : ∀ σ H F ρ μ Dd, Sim X.K F0 F H μ → REnv X.K F ρ σ → t Dd ρ μ → t0 (uD X.K F0 F H μ Dd) σ H) : PSs X st (lS X.K F0 t) := ⟨fun pins s σ H D I h' => by
  obtain ⟨F, ρ, μ, Dd, hS, hR, ht, hq⟩ := h'
  exact thn (h.run pins s σ H _ I (hh σ H F ρ μ Dd hS hR ht)) fun f s' q => SP.imp q hq.nx hq.rt hq.bk hq.ct⟩
end
section
variable {K : Fg} {F0 : Og} {F H F1 H1 : Hp} {μ μ1 : Mu}
theorem uQ.of {Q : DQ} {v : V} {H' : Hp} (g : Go K F0 F H μ F1 H1 μ1) (h : uQ K F0 F1 H1 μ1 Q v H') : uQ K F0 F H μ Q v H' := by
  obtain ⟨F2, d, μ, h1, h2⟩ := h
  exact ⟨F2, d, μ, g.trans h1, h2⟩
theorem uT.of {Q : Bool → Mu → Prop} {v : Bool} {H' : Hp} (g : Go K F0 F H μ F1 H1 μ1) (h : uT K F0 F1 H1 μ1 Q v H') : uT K F0 F H μ Q v H' := by
  obtain ⟨F2, μ, h1, h2⟩ := h
  exact ⟨F2, μ, g.trans h1, h2⟩
theorem uA.of {Q : List D → Mu → Prop} {v : List V} {H' : Hp} (g : Go K F0 F H μ F1 H1 μ1) (h : uA K F0 F1 H1 μ1 Q v H') : uA K F0 F H μ Q v H' := by
  obtain ⟨F2, d, μ, h1, h2⟩ := h
  exact ⟨F2, d, μ, g.trans h1, h2⟩
theorem uS.of {Q : En → Mu → Prop} {v : L2.St} {H' : Hp} (g : Go K F0 F H μ F1 H1 μ1) (h : uS K F0 F1 H1 μ1 Q v H') : uS K F0 F H μ Q v H' := by
  obtain ⟨F2, d, μ, h1, h2⟩ := h
  exact ⟨F2, d, μ, g.trans h1, h2⟩
theorem DLe.of {Dd : DEnds} {D : Ends} (g : Go K F0 F H μ F1 H1 μ1) (h : DLe K F0 F H μ Dd D) : DLe K F0 F1 H1 μ1 Dd D :=
  ⟨fun σ H q => h.nx σ H (q.of g), fun σ H q => h.rt σ H (q.of g), fun σ H q => h.bk σ H (q.of g), fun σ H q => h.ct σ H (q.of g)⟩
theorem DLe.refl {Dd : DEnds} : DLe K F0 F H μ Dd (uD K F0 F H μ Dd) := ⟨fun _ _ q => q, fun _ _ q => q, fun _ _ q => q, fun _ _ q => q⟩
end
end DL

-- text DL2
set_option Elab.async false
set_option linter.all false
set_option maxRecDepth 100000
set_option maxHeartbeats 2000000
/-! DL2: expressions over data. -/
namespace DL
open PySem PySem.Spec PyProof.Rows L2

/-! ### rules that HandS lacks -/
/-- * of two factors of together less than 10^8 bits -/
def CMulB (i j : Int) : Prop := i.natAbs.log2 + j.natAbs.log2 < 100000000
theorem CMulB.ok {i j : Int} (h : CMulB i j) : IntMulOk i j := by
  have b : ∀ x : Int, Builtin.Int.intBits x ≤ x.natAbs.log2 + 1 := fun x => by
    unfold Builtin.Int.intBits
    split <;> omega
  have h1 := b i
  have h2 := b j
  have h3 : i.natAbs.log2 + j.natAbs.log2 < 100000000 := h
  have e : bitsLine = 134217728 := by decide
  unfold IntMulOk
  intro z
  rw [Bool.and_eq_true] at z
  have z2 := z.2
  unfold Builtin.Int.intTooBig at z2
  have z3 := of_decide_eq_true z2
  rw [e] at z3
  omega
section
variable {X : Cx}
theorem op_mulB : OpR X (binaryOp .Mult) (rI CMulB fun i j => .int (i * j)) := opI fun _ _ _ _ _ _ _ hc q => mul_int q hc.ok
def rCatS (K : Fg) : R2 := fun x y H Q => ∃ l b xs zs, x = .ref l ∧ y = .ref b ∧ SqL K H l xs ∧ SqL K H b zs ∧ xs.length + zs.length ≤ sizeLine ∧ ∀ p, H p = none → Q (.ref p) (upd H p (.lst (xs ++ zs)))
theorem op_catS : OpR X (binaryOp .Add) (rCatS X.K) := by
  intro pins s σ H x y v u Q I rx ry h
  obtain ⟨l, b, xs, zs, rfl, rfl, hH, hB, hz, q⟩ := h
  cases rx
  cases ry
  obtain ⟨its, r, hl, _⟩ := I.list hH
  obtain ⟨its2, r2, hl2, _⟩ := I.list hB
  obtain ⟨⟨cls, dd, data, sl⟩, n, ho, hc, _, hd⟩ := id hl
  obtain ⟨⟨cls2, dd2, data2, sl2⟩, n2, ho2, hc2, _, hd2⟩ := id hl2
  simp only at hc hd hc2 hd2
  subst hc hd hc2 hd2
  have l1 := r.length
  have l2 := r2.length
  refine concat_meets ⟨_, ho, rfl⟩ ⟨_, ho2, rfl⟩ noFill_list_add seq_list_add PySem.F.slot_list_add PySem.F.entry_list_add (PySem.F.args_list_add_2 _ _) (list_addW l b its.toArray its2.toArray n n2 dd dd2 sl sl2 (by simp only [List.size_toArray]; omega)) ⟨ho, ho2, ?_⟩
  have ea : its.toArray ++ its2.toArray = (its ++ its2).toArray := by simp
  rw [ea]
  exact ⟨.ref _, _, I.lnew (t' := s.toks) (r.append r2) (by rw [List.length_append]; omega), rfl, q _ I.fresh⟩
def rSumT (K : Fg) : List V → Hp → VK → Prop := fun vs H Q => ∃ (a : Addr) (ns : List Int), vs = [V.ref a] ∧ SqT K H a (ns.map V.int) ∧ Q (.int ns.sum) H
theorem cr_sumT (hc : X.calm = true) : CallR X (.builtin "sum") (rSumT X.K) := by
  intro pins s σ H vs us Q I r h
  obtain ⟨a, ns, rfl, hs, q⟩ := h
  obtain ⟨its, rv, ht, _⟩ := I.tuple hs
  rw [Vals.ref1 r]
  have hi := rv.ints
  obtain ⟨xs, e⟩ := hi.allInts.items
  have hn : numsOf (intItems xs).toList = ns := by rw [← e]; exact hi.numsOf
  rw [nums_intItems] at hn
  rw [e] at ht
  refine PySem.W.ktm_sumG (I.ok.hd hc) (show s.heap.IsTuple a _ from ht) fun h' tk t' hk => ?_
  rw [preSum_eq, List.take_of_length_le (by simp), hn]
  exact ⟨.int _, H, I.kept hk, ⟨_, rfl⟩, q⟩
def rInT (K : Fg) : R2 := fun x y H Q => ∃ d ds, Dp K H x d ∧ Dp K H y (.tuple ds) ∧ SeqAt.shaped d = true ∧ SeqAt.shaped (.tuple ds) = true ∧ Q (.bl (ds.any fun z => PyData.eqv z d)) H
theorem op_inT (hu : X.A.units + 65 < cLine) : OpR X (compareOp .In) (rInT X.K) := by
  intro pins s σ H x y v u Q I rx ry h
  obtain ⟨d, ds, hd, he, sd, se, q⟩ := h
  obtain ⟨as, r1⟩ := Dp.reads I d x v hd rx
  obtain ⟨bs, r2⟩ := Dp.reads I (.tuple ds) y u he ry
  exact SeqAt.in_tuple_reads r2 r1 (SeqAt.canLay_of_shaped se) (SeqAt.canLay_of_shaped sd) (room_in_shaped sd hu) ⟨.bl _, H, I, rfl, q⟩
end

/-! ### data, as the library says it -/
mutual
def toPy : D → PyData
  | .non => .none
  | .bl b => .bool b
  | .int i => .int i
  | .str x => .str x
  | .raw _ => .dict []
  | .tup ds => .tuple (toPys ds)
  | .lst ds => .list (toPys ds)
def toPys : List D → List PyData
  | [] => []
  | d :: ds => toPy d :: toPys ds
end
theorem toPys_eq : ∀ ds : List D, toPys ds = ds.map toPy
  | [] => rfl
  | d :: ds => by
    show toPy d :: toPys ds = _
    rw [toPys_eq ds] <;> rfl
/-- no object within, no surrogates, at most 64 deep -/
def shp (d : D) : Bool := SeqAt.shaped (toPy d)
def eqD (a b : D) : Bool := PyData.eqv (toPy a) (toPy b)
mutual
theorem Rep.dp {K : Fg} {F H : Hp} (e : Same F H) : ∀ (d : D) (v : V), Rep K F d v → (toPy d).canLay0 = true → Dp K H v (toPy d)
  | .non, _, h, _ => by
    have h : _ = _ := h
    rw [h]; exact .non
  | .bl b, _, h, _ => by
    have h : _ = _ := h
    rw [h]; exact .bl b
  | .int i, _, h, _ => by
    have h : _ = _ := h
    rw [h]; exact .int i
  | .str x, _, h, _ => by
    have h : _ = _ := h
    rw [h]; exact .str x
  | .raw _, _, h, c => by cases c
  | .tup ds, _, h, c => by
    obtain ⟨a, vs, rfl, h2, h3⟩ := h
    exact .tup (Same.seqT e h2) (Reps.dp e ds vs h3 c)
  | .lst ds, _, h, c => by
    obtain ⟨a, vs, rfl, h2, h3⟩ := h
    exact .lst (e.seq h2) (Reps.dp e ds vs h3 c)
theorem Reps.dp {K : Fg} {F H : Hp} (e : Same F H) : ∀ (ds : List D) (vs : List V), Reps K F ds vs → PyData.canLayAll0 (toPys ds) = true → DpAll K H vs (toPys ds)
  | [], _, h, _ => by
    have h : _ = [] := h
    rw [h]; exact .nil
  | d :: ds, _, h, c => by
    obtain ⟨v, r, rfl, h2, h3⟩ := h
    obtain ⟨c1, c2⟩ := Bool.and_eq_true_iff.mp (show ((toPy d).canLay0 && PyData.canLayAll0 (toPys ds)) = true from c)
    exact .cons (Rep.dp e d v h2 c1) (Reps.dp e ds r h3 c2)
end

/-! ### immediate ends -/
section
variable {K : Fg} {F0 : Og} {Fb Hb F H : Hp} {μb μ : Mu} {ρ : En}
theorem uQ.im {Q : DQ} {v : V} {d : D} (g : Go K F0 Fb Hb μb F H μ) (r : Rep K F d v) (q : Q d μ) : uQ K F0 Fb Hb μb Q v H := ⟨F, d, μ, g, r, q⟩
theorem uQ.new {Q : DQ} {d : D} {o : HO} {p : Addr} (g : Go K F0 Fb Hb μb F H μ) (hp : H p = none) (r : ∀ F', Same F F' → F' p = some o → Rep K F' d (.ref p)) (q : Q d μ) : uQ K F0 Fb Hb μb Q (.ref p) (upd H p o) :=
  let g1 := Go.new g.sim o hp
  ⟨_, d, μ, g.trans g1, r _ g1.ext upd_same, q⟩
theorem uT.im {Q : Bool → Mu → Prop} {b : Bool} (g : Go K F0 Fb Hb μb F H μ) (q : Q b μ) : uT K F0 Fb Hb μb Q b H := ⟨F, μ, g, q⟩
end

/-! ### names, constants -/
def dVar (i : Nat) : DE := fun ρ μ Q => match ρ[i]? with
  | some (some d) => Q d μ
  | _ => False
def dC (d : D) : DE := fun _ μ Q => Q d μ
/-- a list that may change is read for good -/
def dFrz (i : Nat) : DE := fun ρ μ Q => match ρ[i]? with
  | some (some (.raw (.ref a))) => (match μ a with
    | some (.lst ds) => Q (.lst ds) (muDel μ a)
    | _ => False)
  | _ => False
section
variable {X : Cx} {F0 : Og}
theorem d_var {i : Nat} {e : Expr} (h : PE X e (tVar i)) : PE X e (lE X.K F0 (dVar i)) := upE h fun σ H F ρ μ Q S R h => by
  unfold dVar at h
  split at h
  · rename_i d e
    obtain ⟨v, h1, h2⟩ := R.2 i d e
    exact ⟨v, h1, .im (.refl S) h2 h⟩
  · exact h.elim
theorem d_frz {i : Nat} {e : Expr} (h : PE X e (tVar i)) : PE X e (lE X.K F0 (dFrz i)) := upE h fun σ H F ρ μ Q S R h => by
  unfold dFrz at h
  split at h
  · rename_i a e
    split at h
    · rename_i ds em
      obtain ⟨v, h1, h2⟩ := R.2 i _ e
      have h2 : v = .ref a := h2
      subst h2
      obtain ⟨F', g, r⟩ := Go.freeze S em
      exact ⟨_, h1, F', _, _, g, r, h⟩
    · exact h.elim
  · exact h.elim
theorem d_c {d : D} {v : V} {e : Expr} (h : PE X e (tC v)) (r : ∀ F, Rep X.K F d v) : PE X e (lE X.K F0 (dC d)) := upE h fun σ H F ρ μ Q S R h => .im (.refl S) (r F) h
theorem dv (i : Nat) {x : Str} {pos : Pos} (hN : X.N[i]? = some x := by rfl) (hv : Vis X.env.scope x := by first | exact Or.inl rfl | exact Or.inr (Or.inl rfl) | exact Or.inr (Or.inr rfl)) (hd : (x == ("__debug__" : Str)) = false := by decide)
    (hcd : (x == ("__classdict__" : Str)) = false := by decide) : PE X (.Name x pos) (lE X.K F0 (dVar i)) := d_var (pe_var hN hv hd hcd)
theorem dvz (i : Nat) {x : Str} {pos : Pos} (hN : X.N[i]? = some x := by rfl) (hv : Vis X.env.scope x := by first | exact Or.inl rfl | exact Or.inr (Or.inl rfl) | exact Or.inr (Or.inr rfl)) (hd : (x == ("__debug__" : Str)) = false := by decide)
    (hcd : (x == ("__classdict__" : Str)) = false := by decide) : PE X (.Name x pos) (lE X.K F0 (dFrz i)) := d_frz (pe_var hN hv hd hcd)
theorem d_int {i : Int} {j pos} : PE X (.Constant (.int i) j pos) (lE X.K F0 (dC (.int i))) := d_c pe_int fun _ => rfl
theorem d_bl {i : Bool} {j pos} : PE X (.Constant (.bool i) j pos) (lE X.K F0 (dC (.bl i))) := d_c pe_bl fun _ => rfl
theorem d_str {i : Str} {j pos} : PE X (.Constant (.str i) j pos) (lE X.K F0 (dC (.str i))) := d_c pe_str fun _ => rfl
theorem d_non {j pos} : PE X (.Constant .none j pos) (lE X.K F0 (dC .non)) := d_c pe_non fun _ => rfl
/-- a module's int -/
theorem d_globI {x : Str} {i : Int} {pos : Pos} (hg : Gl X x) (hm : ∃ t, X.mg x = some (.int i t)) (hd : (x == ("__debug__" : Str)) = false := by decide) : PE X (.Name x pos) (lE X.K F0 (dC (.int i))) := by
  obtain ⟨t, ht⟩ := hm
  exact d_c (v := .int i) (pe_glob hg ht ⟨t, rfl⟩ hd) fun _ => rfl
/-- a builtin class as a value -/
theorem d_ty {x : Str} {T : String} {pos : Pos} (hg : Gl X x) (hm : X.mg x = none) (hv : bootBuiltins x = some (.type T)) (hn : x ≠ "__name__" := by decide) (hd : (x == ("__debug__" : Str)) = false := by decide) : PE X (.Name x pos) (lE X.K F0 (dC (.raw (.ty T)))) :=
  d_c (v := .ty T) (pe_bltn hg hm hv rfl hn hd) fun _ => rfl
end

/-! ### operators -/
abbrev R2D := D → D → Mu → DQ → Prop
def LR2 (K : Fg) (F0 : Og) (r0 : R2) (r : R2D) : Prop := ∀ (Fb Hb : Hp) (μb : Mu) (F H : Hp) (μ : Mu) (x y : V) (dx dy : D) (Q : DQ) (Q' : VK), Go K F0 Fb Hb μb F H μ → Rep K F dx x → Rep K F dy y → r dx dy μ Q →
  (∀ v H', uQ K F0 Fb Hb μb Q v H' → Q' v H') → r0 x y H Q'
def dOp (r : R2D) (ta tb : DE) : DE := fun ρ μ Q => ta ρ μ fun x μ1 => tb ρ μ1 fun y μ2 => r x y μ2 Q
/-- a value that is True or False, as a test -/
def dTest (t : DE) : DT := fun ρ μ Q => t ρ μ fun d μ1 => match d with
  | .bl b => Q b μ1
  | _ => False
/-- a < b < c -/
def dChain (r r' : R2D) (ta tb tc : DE) : DE := fun ρ μ Q => ta ρ μ fun x μ1 => tb ρ μ1 fun y μ2 => r x y μ2 fun z μ3 => match z with
  | .bl true => tc ρ μ3 fun w μ4 => r' y w μ4 Q
  | .bl false => Q (.bl false) μ3
  | _ => False
section
variable {X : Cx} {F0 : Og} {a b c : Expr} {ta tb tc : DE} {pos : Pos} {r0 r0' : R2} {r r' : R2D}
theorem LR2.or {K : Fg} {r1 : R2} (h : LR2 K F0 r0 r) (h' : LR2 K F0 r1 r') : LR2 K F0 (fun x y H Q => r0 x y H Q ∨ r1 x y H Q) (fun x y μ Q => r x y μ Q ∨ r' x y μ Q) :=
  fun Fb Hb μb F H μ x y dx dy Q Q' g rx ry h0 hq => h0.elim (fun z => .inl (h Fb Hb μb F H μ x y dx dy Q Q' g rx ry z hq)) fun z => .inr (h' Fb Hb μb F H μ x y dx dy Q Q' g rx ry z hq)
theorem lOp (hr : LR2 X.K F0 r0 r) {σ : L2.St} {H F : Hp} {ρ : En} {μ : Mu} {Q : DQ} {Q' : VK} (S : Sim X.K F0 F H μ) (R : REnv X.K F ρ σ) (h : dOp r ta tb ρ μ Q) (hq : ∀ v H', uQ X.K F0 F H μ Q v H' → Q' v H') : tOp r0 (lE X.K F0 ta) (lE X.K F0 tb) σ H Q' :=
  ⟨F, ρ, μ, _, S, R, h, fun x H1 ⟨F1, dx, μ1, g1, rx, h1⟩ =>
    ⟨F1, ρ, μ1, _, g1.sim, R.mono g1.ext, h1, fun y H2 ⟨F2, dy, μ2, g2, ry, h2⟩ => hr F H μ F2 H2 μ2 x y dx dy Q Q' (g1.trans g2) (Rep.mono g2.ext _ _ rx) ry h2 hq⟩⟩
theorem d_op {op : Operator} (ho : OpR X (binaryOp op) r0) (hr : LR2 X.K F0 r0 r) (ha : PE X a (lE X.K F0 ta)) (hb : PE X b (lE X.K F0 tb)) : PE X (.BinOp a op b pos) (lE X.K F0 (dOp r ta tb)) :=
  upE (pe_op ho ha hb) fun σ H F ρ μ Q S R h => lOp hr S R h fun _ _ z => z
theorem d_cmp {op : CmpOp} (ho : OpR X (compareOp op) r0) (hr : LR2 X.K F0 r0 r) (ha : PE X a (lE X.K F0 ta)) (hb : PE X b (lE X.K F0 tb)) (hm : behindInMarks op b = false) : PE X (.Compare a [op] [b] pos) (lE X.K F0 (dOp r ta tb)) :=
  upE (pe_cmpR ho ha hb hm) fun σ H F ρ μ Q S R h => lOp hr S R h fun _ _ z => z
theorem testQ {K : Fg} {F H : Hp} {μ : Mu} {Q : Bool → Mu → Prop} {v : V} {H' : Hp} (h : uQ K F0 F H μ (fun d μ1 => match d with
  | .bl b => Q b μ1
  | _ => False) v H') : ∃ k, v = .bl k ∧ uT K F0 F H μ Q k H' := by
  obtain ⟨F1, dx, μ1, g1, rx, h1⟩ := h
  cases dx with
  | bl b =>
    have rx : v = .bl b := rx
    exact ⟨b, rx, F1, μ1, g1, h1⟩
  | _ => exact h1.elim
theorem d_test {e : Expr} {t : DE} (h : PE X e (lE X.K F0 t)) (he : ∀ whole, isTrue e X.env whole = (do let v ← whole; standAt e.pos; holding [v] (truthy v)) := by intro _; rfl) : PT X e (lT X.K F0 (dTest t)) :=
  upT (pt_val h he) fun σ H F ρ μ Q S R h => ⟨F, ρ, μ, _, S, R, h, fun x H1 q => testQ q⟩
theorem d_cmpT {op : CmpOp} (ho : OpR X (compareOp op) r0) (hr : LR2 X.K F0 r0 r) (ha : PE X a (lE X.K F0 ta)) (hb : PE X b (lE X.K F0 tb)) (hm : behindInMarks op b = false) : PT X (.Compare a [op] [b] pos) (lT X.K F0 (dTest (dOp r ta tb))) :=
  upT (pt_cmpR ho ha hb hm) fun σ H F ρ μ Q S R h => lOp hr S R h fun v H' q => testQ q
theorem lChain (hr : LR2 X.K F0 r0 r) (hr' : LR2 X.K F0 r0' r') {σ : L2.St} {H F : Hp} {ρ : En} {μ : Mu} {Q : DQ} {Q' : VK} (S : Sim X.K F0 F H μ) (R : REnv X.K F ρ σ) (h : dChain r r' ta tb tc ρ μ Q) (hq : ∀ v H', uQ X.K F0 F H μ Q v H' → Q' v H') :
    tChain r0 r0' (lE X.K F0 ta) (lE X.K F0 tb) (lE X.K F0 tc) σ H Q' :=
  ⟨F, ρ, μ, _, S, R, h, fun x H1 ⟨F1, dx, μ1, g1, rx, h1⟩ =>
    ⟨F1, ρ, μ1, _, g1.sim, R.mono g1.ext, h1, fun y H2 ⟨F2, dy, μ2, g2, ry, h2⟩ => hr F2 H2 μ2 F2 H2 μ2 x y dx dy _ _ (.refl g2.sim) (Rep.mono g2.ext _ _ rx) ry h2 fun z H3 ⟨F3, dz, μ3, g3, rz, h3⟩ => by
      have g13 := (g1.trans g2).trans g3
      cases dz with
      | bl k =>
        have rz : z = .bl k := rz
        refine ⟨k, rz, ?_⟩
        cases k with
        | false =>
          rw [if_neg Bool.false_ne_true]
          exact hq _ _ (.im (d := .bl false) g13 rfl h3)
        | true =>
          rw [if_pos rfl]
          exact ⟨F3, ρ, μ3, _, g3.sim, R.mono g13.ext, h3, fun w H4 ⟨F4, dw, μ4, g4, rw', h4⟩ =>
            hr' F H μ F4 H4 μ4 y w dy dw Q Q' (g13.trans g4) (Rep.mono (g3.ext.trans g4.ext) _ _ ry) rw' h4 hq⟩
      | _ => exact h3.elim⟩⟩
theorem d_chain {op op' : CmpOp} (ho : OpR X (compareOp op) r0) (hr : LR2 X.K F0 r0 r) (ho' : OpR X (compareOp op') r0') (hr' : LR2 X.K F0 r0' r') (ha : PE X a (lE X.K F0 ta)) (hb : PE X b (lE X.K F0 tb)) (hc : PE X c (lE X.K F0 tc))
    (hm : lastMarks [op, op'] [b, c] = false := by with_unfolding_all rfl) : PE X (.Compare a [op, op'] [b, c] pos) (lE X.K F0 (dChain r r' ta tb tc)) :=
  upE (pe_chain ho ho' ha hb hc hm) fun σ H F ρ μ Q S R h => lChain hr hr' S R h fun _ _ z => z
theorem d_chainT {op op' : CmpOp} (ho : OpR X (compareOp op) r0) (hr : LR2 X.K F0 r0 r) (ho' : OpR X (compareOp op') r0') (hr' : LR2 X.K F0 r0' r') (ha : PE X a (lE X.K F0 ta)) (hb : PE X b (lE X.K F0 tb)) (hc : PE X c (lE X.K F0 tc))
    (hm : lastMarks [op, op'] [b, c] = false := by with_unfolding_all rfl) : PT X (.Compare a [op, op'] [b, c] pos) (lT X.K F0 (dTest (dChain r r' ta tb tc))) :=
  upT (pt_chain ho ho' ha hb hc hm) fun σ H F ρ μ Q S R h => lChain hr hr' S R h fun _ _ z => testQ z
end

/-! ### + - * // % ** -/
def dAdd : R2D := fun x y μ Q => match x, y with
  | .int i, .int j => Q (.int (i + j)) μ
  | .tup xs, .tup ys => xs.length + ys.length ≤ sizeLine ∧ Q (.tup (xs ++ ys)) μ
  | .lst xs, .lst ys => xs.length + ys.length ≤ sizeLine ∧ Q (.lst (xs ++ ys)) μ
  | .str a, .str b => a.length + b.length ≤ sizeLine ∧ Q (.str (a ++ b)) μ
  | _, _ => False
def dInt2 (C : Int → Int → Prop) (g : Int → Int → D) : R2D := fun x y μ Q => match x, y with
  | .int i, .int j => C i j ∧ Q (g i j) μ
  | _, _ => False
def dInt0 (g : Int → Int → D) : R2D := fun x y μ Q => match x, y with
  | .int i, .int j => Q (g i j) μ
  | _, _ => False
/-- equal, not equal -/
def dEq : R2D := fun x y μ Q => shp x = true ∧ shp y = true ∧ Q (.bl (eqD x y)) μ
def dNe : R2D := fun x y μ Q => shp x = true ∧ shp y = true ∧ Q (.bl (!eqD x y)) μ
def dIsN : R2D := fun x y μ Q => match x, y with
  | .raw _, _ => False
  | .non, .non => Q (.bl true) μ
  | _, .non => Q (.bl false) μ
  | _, _ => False
def dNotN : R2D := fun x y μ Q => match x, y with
  | .raw _, _ => False
  | .non, .non => Q (.bl false) μ
  | _, .non => Q (.bl true) μ
  | _, _ => False
/-- in, not in -/
def dIn : R2D := fun x y μ Q => match y with
  | .lst ys => shp x = true ∧ shp (.lst ys) = true ∧ Q (.bl (ys.any fun z => eqD z x)) μ
  | .tup ys => shp x = true ∧ shp (.tup ys) = true ∧ Q (.bl (ys.any fun z => eqD z x)) μ
  | _ => False
def dNotIn : R2D := fun x y μ Q => match y with
  | .lst ys => shp x = true ∧ shp (.lst ys) = true ∧ Q (.bl (!ys.any fun z => eqD z x)) μ
  | _ => False
section
variable {X : Cx} {F0 : Og} {K : Fg}
theorem lr_int0 {g0 : Int → Int → V} {g : Int → Int → D} (h : ∀ i j F, Rep K F (g i j) (g0 i j)) : LR2 K F0 (rI0 g0) (dInt0 g) := by
  intro Fb Hb μb F H μ x y dx dy Q Q' g rx ry h0 hq
  have S := g.sim
  cases dx with
  | int i =>
    cases dy with
    | int j =>
      have rx : x = .int i := rx
      have ry : y = .int j := ry
      exact ⟨i, j, rx, ry, hq _ _ (.im g (h i j F) h0)⟩
    | _ => exact h0.elim
  | _ => exact h0.elim
theorem lr_int2 {C : Int → Int → Prop} {g0 : Int → Int → V} {g : Int → Int → D} (h : ∀ i j F, Rep K F (g i j) (g0 i j)) : LR2 K F0 (rI C g0) (dInt2 C g) := by
  intro Fb Hb μb F H μ x y dx dy Q Q' g rx ry h0 hq
  have S := g.sim
  cases dx with
  | int i =>
    cases dy with
    | int j =>
      have rx : x = .int i := rx
      have ry : y = .int j := ry
      exact ⟨i, j, rx, ry, h0.1, hq _ _ (.im g (h i j F) h0.2)⟩
    | _ => exact h0.elim
  | _ => exact h0.elim
theorem Reps.nil_iff {F : Hp} {ds : List D} {vs : List V} (r : Reps K F ds vs) : vs = [] ↔ ds = [] := by
  have h := r.length
  constructor
  · intro e
    rw [e] at h
    exact List.eq_nil_of_length_eq_zero h.symm
  · intro e
    rw [e] at h
    exact List.eq_nil_of_length_eq_zero h
abbrev rAddAll (K : Fg) : R2 := fun x y H Q => rI0 (fun i j => .int (i + j)) x y H Q ∨ (rCatA K x y H Q ∨ (rCatS K x y H Q ∨ (∃ i j, x = .str i ∧ y = .str j ∧ i.length + j.length ≤ sizeLine ∧ Q (.str (i ++ j)) H)))
theorem op_addAll : OpR X (binaryOp .Add) (rAddAll X.K) := op_add.or (op_catA.or (op_catS.or op_add_str))
theorem lr_add : LR2 K F0 (rAddAll K) dAdd := by
  intro Fb Hb μb F H μ x y dx dy Q Q' g rx ry h0 hq
  have S := g.sim
  cases dx with
  | int i =>
    cases dy with
    | int j => exact .inl ⟨i, j, rx, ry, hq _ _ (.im (d := .int (i + j)) g rfl h0)⟩
    | _ => exact h0.elim
  | tup xs =>
    cases dy with
    | tup ys =>
      obtain ⟨a, vs, h1, h2, h3⟩ := id rx
      obtain ⟨b, us, g1, g2, g3⟩ := id ry
      refine .inr (.inl ⟨a, b, vs, us, h1, g1, Same.seqT S.sub h2, Same.seqT S.sub g2, by rw [h3.length, g3.length]; exact h0.1, fun z => ?_, fun z1 z2 => ?_, fun z1 z2 p hp => ?_⟩)
      · have ex := h3.nil_iff.mp z
        subst ex
        rw [← g1]
        exact hq _ _ (.im g ry h0.2)
      · have ey := g3.nil_iff.mp z2
        subst ey
        rw [← h1]
        have q := h0.2
        rw [List.append_nil] at q
        exact hq _ _ (.im g rx q)
      · exact hq _ _ (.new (d := .tup (xs ++ ys)) g hp (fun F' eF hF => ⟨p, vs ++ us, rfl, .of hF, (Reps.mono eF _ _ h3).append (Reps.mono eF _ _ g3)⟩) h0.2)
    | _ => exact h0.elim
  | lst xs =>
    cases dy with
    | lst ys =>
      obtain ⟨a, vs, h1, h2, h3⟩ := rx
      obtain ⟨b, us, g1, g2, g3⟩ := ry
      refine .inr (.inr (.inl ⟨a, b, vs, us, h1, g1, S.sub.seq h2, S.sub.seq g2, by rw [h3.length, g3.length]; exact h0.1, fun p hp => ?_⟩))
      exact hq _ _ (.new (d := .lst (xs ++ ys)) g hp (fun F' eF hF => ⟨p, vs ++ us, rfl, .of hF, (Reps.mono eF _ _ h3).append (Reps.mono eF _ _ g3)⟩) h0.2)
    | _ => exact h0.elim
  | str a =>
    cases dy with
    | str b => exact .inr (.inr (.inr ⟨a, b, rx, ry, h0.1, hq _ _ (.im (d := .str (a ++ b)) g rfl h0.2)⟩))
    | _ => exact h0.elim
  | _ => exact h0.elim
/-- a list that is data and not the script's: it is tracked -/
theorem lr_mul : LR2 K F0 (fun x y H Q => rI CMulB (fun i j => .int (i * j)) x y H Q ∨ rRepT K x y H Q) (fun x y μ Q => match x, y with
  | .int i, .int j => CMulB i j ∧ Q (.int (i * j)) μ
  | .tup xs, .int k => xs ≠ [] ∧ 2 ≤ k ∧ k ≤ 1000 ∧ xs.length ≤ 1000 ∧ Q (.tup (List.replicate k.toNat xs).flatten) μ
  | _, _ => False) := by
  intro Fb Hb μb F H μ x y dx dy Q Q' g rx ry h0 hq
  have S := g.sim
  cases dx with
  | int i =>
    cases dy with
    | int j => exact .inl ⟨i, j, rx, ry, h0.1, hq _ _ (.im (d := .int (i * j)) g rfl h0.2)⟩
    | _ => exact h0.elim
  | tup xs =>
    cases dy with
    | int k =>
      obtain ⟨a, vs, h1, h2, h3⟩ := id rx
      obtain ⟨q1, q2, q3, q4, q5⟩ := h0
      refine .inr ⟨a, k, vs, h1, ry, Same.seqT S.sub h2, fun z => q1 (h3.nil_iff.mp z), q2, q3, by rw [h3.length]; exact q4, fun p hp => ?_⟩
      exact hq _ _ (.new (d := .tup (List.replicate k.toNat xs).flatten) g hp (fun F' eF hF => ⟨p, _, rfl, .of hF, (Reps.mono eF _ _ h3).rep _⟩) q5)
    | _ => exact h0.elim
  | _ => exact h0.elim
abbrev dMulT : R2D := fun x y μ Q => match x, y with
  | .int i, .int j => CMulB i j ∧ Q (.int (i * j)) μ
  | .tup xs, .int k => xs ≠ [] ∧ 2 ≤ k ∧ k ≤ 1000 ∧ xs.length ≤ 1000 ∧ Q (.tup (List.replicate k.toNat xs).flatten) μ
  | _, _ => False
theorem lr_eq : LR2 K F0 (rEqD K) dEq := by
  intro Fb Hb μb F H μ x y dx dy Q Q' g rx ry h0 hq
  have S := g.sim
  obtain ⟨s1, s2, q⟩ := h0
  exact ⟨toPy dx, toPy dy, Rep.dp S.sub _ _ rx (SeqAt.canLay_of_shaped s1), Rep.dp S.sub _ _ ry (SeqAt.canLay_of_shaped s2), s1, s2, hq _ _ (.im (d := .bl _) g rfl q)⟩
theorem lr_ne : LR2 K F0 (rNeD K) dNe := by
  intro Fb Hb μb F H μ x y dx dy Q Q' g rx ry h0 hq
  have S := g.sim
  obtain ⟨s1, s2, q⟩ := h0
  exact ⟨toPy dx, toPy dy, Rep.dp S.sub _ _ rx (SeqAt.canLay_of_shaped s1), Rep.dp S.sub _ _ ry (SeqAt.canLay_of_shaped s2), s1, s2, hq _ _ (.im (d := .bl _) g rfl q)⟩
theorem Rep.non_iff {F : Hp} {d : D} {x : V} (r : Rep K F d x) (h : ∀ v, d ≠ .raw v) : x = .non ↔ d = .non := by
  cases d with
  | non => exact ⟨fun _ => rfl, fun _ => r⟩
  | bl b => exact ⟨fun z => by (rw [show x = .bl b from r] at z; cases z), fun z => by (cases z)⟩
  | int b => exact ⟨fun z => by (rw [show x = .int b from r] at z; cases z), fun z => by (cases z)⟩
  | str b => exact ⟨fun z => by (rw [show x = .str b from r] at z; cases z), fun z => by (cases z)⟩
  | raw b => exact absurd rfl (h b)
  | tup b =>
    obtain ⟨a, vs, h1, _⟩ := r
    exact ⟨fun z => by (rw [h1] at z; cases z), fun z => by (cases z)⟩
  | lst b =>
    obtain ⟨a, vs, h1, _⟩ := r
    exact ⟨fun z => by (rw [h1] at z; cases z), fun z => by (cases z)⟩
theorem lr_isN : LR2 K F0 (fun x y H Q => y = .non ∧ Q (.bl (decide (x = .non))) H) dIsN := by
  intro Fb Hb μb F H μ x y dx dy Q Q' g rx ry h0 hq
  have S := g.sim
  by_cases hr : ∃ v, dx = .raw v
  · obtain ⟨v, rfl⟩ := hr
    exact h0.elim
  · have hn := rx.non_iff fun v z => hr ⟨v, z⟩
    cases dy with
    | non =>
      refine ⟨ry, hq _ _ (.im (d := .bl (decide (x = .non))) g rfl ?_)⟩
      by_cases hx : dx = .non
      · subst hx
        rw [decide_eq_true (hn.mpr rfl)]
        exact h0
      · rw [decide_eq_false (fun z => hx (hn.mp z))]
        cases dx with
        | non => exact absurd rfl hx
        | raw v => exact absurd ⟨v, rfl⟩ hr
        | _ => exact h0
    | _ => cases dx <;> exact h0.elim
theorem lr_notN : LR2 K F0 (fun x y H Q => y = .non ∧ Q (.bl (!decide (x = .non))) H) dNotN := by
  intro Fb Hb μb F H μ x y dx dy Q Q' g rx ry h0 hq
  have S := g.sim
  by_cases hr : ∃ v, dx = .raw v
  · obtain ⟨v, rfl⟩ := hr
    exact h0.elim
  · have hn := rx.non_iff fun v z => hr ⟨v, z⟩
    cases dy with
    | non =>
      refine ⟨ry, hq _ _ (.im (d := .bl (!decide (x = .non))) g rfl ?_)⟩
      by_cases hx : dx = .non
      · subst hx
        rw [decide_eq_true (hn.mpr rfl)]
        exact h0
      · rw [decide_eq_false (fun z => hx (hn.mp z))]
        cases dx with
        | non => exact absurd rfl hx
        | raw v => exact absurd ⟨v, rfl⟩ hr
        | _ => exact h0
    | _ => cases dx <;> exact h0.elim
theorem any_py (x : D) (ys : List D) : ((toPys ys).any fun z => PyData.eqv z (toPy x)) = ys.any fun z => eqD z x := by
  rw [toPys_eq, List.any_map]
  rfl
abbrev rInAll (K : Fg) : R2 := fun x y H Q => rInD K x y H Q ∨ rInT K x y H Q
theorem op_inAll (hu : X.A.units + 65 < cLine) : OpR X (compareOp .In) (rInAll X.K) := (op_inD hu).or (op_inT hu)
theorem lr_in : LR2 K F0 (rInAll K) dIn := by
  intro Fb Hb μb F H μ x y dx dy Q Q' g rx ry h0 hq
  have S := g.sim
  cases dy with
  | lst ys =>
    obtain ⟨s1, s2, q⟩ := h0
    refine .inl ⟨toPy dx, toPys ys, Rep.dp S.sub _ _ rx (SeqAt.canLay_of_shaped s1), Rep.dp S.sub _ _ ry (SeqAt.canLay_of_shaped s2), s1, s2, ?_⟩
    rw [any_py]
    exact hq _ _ (.im (d := .bl _) g rfl q)
  | tup ys =>
    obtain ⟨s1, s2, q⟩ := h0
    refine .inr ⟨toPy dx, toPys ys, Rep.dp S.sub _ _ rx (SeqAt.canLay_of_shaped s1), Rep.dp S.sub _ _ ry (SeqAt.canLay_of_shaped s2), s1, s2, ?_⟩
    rw [any_py]
    exact hq _ _ (.im (d := .bl _) g rfl q)
  | _ => exact h0.elim
theorem lr_notIn : LR2 K F0 (rNotInD K) dNotIn := by
  intro Fb Hb μb F H μ x y dx dy Q Q' g rx ry h0 hq
  have S := g.sim
  cases dy with
  | lst ys =>
    obtain ⟨s1, s2, q⟩ := h0
    refine ⟨toPy dx, toPys ys, Rep.dp S.sub _ _ rx (SeqAt.canLay_of_shaped s1), Rep.dp S.sub _ _ ry (SeqAt.canLay_of_shaped s2), s1, s2, ?_⟩
    rw [any_py]
    exact hq _ _ (.im (d := .bl _) g rfl q)
  | _ => exact h0.elim
end

/-! ### the operators by name -/
def dSub : R2D := dInt0 fun i j => .int (i - j)
def dDiv : R2D := dInt2 CDivW fun i j => .int (i / j)
def dMod : R2D := dInt2 (fun _ j => 0 < j) fun i j => .int (i % j)
def dPow : R2D := dInt2 CPow fun i j => .int (i ^ j.toNat)
def dLt : R2D := dInt0 fun i j => .bl (decide (i < j))
def dLe : R2D := dInt0 fun i j => .bl (decide (i ≤ j))
def dGt : R2D := dInt0 fun i j => .bl (decide (j < i))
def dGe : R2D := dInt0 fun i j => .bl (decide (j ≤ i))
section
variable {X : Cx} {F0 : Og} {a b c : Expr} {ta tb tc : DE} {pos : Pos}
theorem d_add (ha : PE X a (lE X.K F0 ta)) (hb : PE X b (lE X.K F0 tb)) : PE X (.BinOp a .Add b pos) (lE X.K F0 (dOp dAdd ta tb)) := d_op op_addAll lr_add ha hb
theorem d_sub (ha : PE X a (lE X.K F0 ta)) (hb : PE X b (lE X.K F0 tb)) : PE X (.BinOp a .Sub b pos) (lE X.K F0 (dOp dSub ta tb)) := d_op op_sub (lr_int0 fun _ _ _ => rfl) ha hb
theorem d_mul (ha : PE X a (lE X.K F0 ta)) (hb : PE X b (lE X.K F0 tb)) : PE X (.BinOp a .Mult b pos) (lE X.K F0 (dOp dMulT ta tb)) := d_op (op_mulB.or op_repT) lr_mul ha hb
theorem d_div (ha : PE X a (lE X.K F0 ta)) (hb : PE X b (lE X.K F0 tb)) : PE X (.BinOp a .FloorDiv b pos) (lE X.K F0 (dOp dDiv ta tb)) := d_op op_fdivW (lr_int2 fun _ _ _ => rfl) ha hb
theorem d_mod (ha : PE X a (lE X.K F0 ta)) (hb : PE X b (lE X.K F0 tb)) : PE X (.BinOp a .Mod b pos) (lE X.K F0 (dOp dMod ta tb)) := d_op op_mod (lr_int2 fun _ _ _ => rfl) ha hb
theorem d_pow (ha : PE X a (lE X.K F0 ta)) (hb : PE X b (lE X.K F0 tb)) : PE X (.BinOp a .Pow b pos) (lE X.K F0 (dOp dPow ta tb)) := d_op op_pow (lr_int2 fun _ _ _ => rfl) ha hb
theorem d_lt (ha : PE X a (lE X.K F0 ta)) (hb : PE X b (lE X.K F0 tb)) : PE X (.Compare a [.Lt] [b] pos) (lE X.K F0 (dOp dLt ta tb)) := d_cmp op_lt (lr_int0 fun _ _ _ => rfl) ha hb (nomark _)
theorem d_le (ha : PE X a (lE X.K F0 ta)) (hb : PE X b (lE X.K F0 tb)) : PE X (.Compare a [.LtE] [b] pos) (lE X.K F0 (dOp dLe ta tb)) := d_cmp op_le (lr_int0 fun _ _ _ => rfl) ha hb (nomark _)
theorem d_gt (ha : PE X a (lE X.K F0 ta)) (hb : PE X b (lE X.K F0 tb)) : PE X (.Compare a [.Gt] [b] pos) (lE X.K F0 (dOp dGt ta tb)) := d_cmp op_gt (lr_int0 fun _ _ _ => rfl) ha hb (nomark _)
theorem d_ge (ha : PE X a (lE X.K F0 ta)) (hb : PE X b (lE X.K F0 tb)) : PE X (.Compare a [.GtE] [b] pos) (lE X.K F0 (dOp dGe ta tb)) := d_cmp op_ge (lr_int0 fun _ _ _ => rfl) ha hb (nomark _)
theorem d_ltT (ha : PE X a (lE X.K F0 ta)) (hb : PE X b (lE X.K F0 tb)) : PT X (.Compare a [.Lt] [b] pos) (lT X.K F0 (dTest (dOp dLt ta tb))) := d_cmpT op_lt (lr_int0 fun _ _ _ => rfl) ha hb (nomark _)
theorem d_leT (ha : PE X a (lE X.K F0 ta)) (hb : PE X b (lE X.K F0 tb)) : PT X (.Compare a [.LtE] [b] pos) (lT X.K F0 (dTest (dOp dLe ta tb))) := d_cmpT op_le (lr_int0 fun _ _ _ => rfl) ha hb (nomark _)
theorem d_gtT (ha : PE X a (lE X.K F0 ta)) (hb : PE X b (lE X.K F0 tb)) : PT X (.Compare a [.Gt] [b] pos) (lT X.K F0 (dTest (dOp dGt ta tb))) := d_cmpT op_gt (lr_int0 fun _ _ _ => rfl) ha hb (nomark _)
theorem d_geT (ha : PE X a (lE X.K F0 ta)) (hb : PE X b (lE X.K F0 tb)) : PT X (.Compare a [.GtE] [b] pos) (lT X.K F0 (dTest (dOp dGe ta tb))) := d_cmpT op_ge (lr_int0 fun _ _ _ => rfl) ha hb (nomark _)
theorem d_eq (hu : X.A.units + 64 < cLine) (ha : PE X a (lE X.K F0 ta)) (hb : PE X b (lE X.K F0 tb)) : PE X (.Compare a [.Eq] [b] pos) (lE X.K F0 (dOp dEq ta tb)) := d_cmp (op_eqD hu) lr_eq ha hb (nomark _)
theorem d_ne (hu : X.A.units + 64 < cLine) (ha : PE X a (lE X.K F0 ta)) (hb : PE X b (lE X.K F0 tb)) : PE X (.Compare a [.NotEq] [b] pos) (lE X.K F0 (dOp dNe ta tb)) := d_cmp (op_neD hu) lr_ne ha hb (nomark _)
theorem d_eqT (hu : X.A.units + 64 < cLine) (ha : PE X a (lE X.K F0 ta)) (hb : PE X b (lE X.K F0 tb)) : PT X (.Compare a [.Eq] [b] pos) (lT X.K F0 (dTest (dOp dEq ta tb))) := d_cmpT (op_eqD hu) lr_eq ha hb (nomark _)
theorem d_neT (hu : X.A.units + 64 < cLine) (ha : PE X a (lE X.K F0 ta)) (hb : PE X b (lE X.K F0 tb)) : PT X (.Compare a [.NotEq] [b] pos) (lT X.K F0 (dTest (dOp dNe ta tb))) := d_cmpT (op_neD hu) lr_ne ha hb (nomark _)
theorem d_isN (ha : PE X a (lE X.K F0 ta)) (hb : PE X b (lE X.K F0 tb)) : PE X (.Compare a [.Is] [b] pos) (lE X.K F0 (dOp dIsN ta tb)) := d_cmp op_isN lr_isN ha hb (nomark _)
theorem d_isNT (ha : PE X a (lE X.K F0 ta)) (hb : PE X b (lE X.K F0 tb)) : PT X (.Compare a [.Is] [b] pos) (lT X.K F0 (dTest (dOp dIsN ta tb))) := d_cmpT op_isN lr_isN ha hb (nomark _)
theorem d_notN (ha : PE X a (lE X.K F0 ta)) (hb : PE X b (lE X.K F0 tb)) : PE X (.Compare a [.IsNot] [b] pos) (lE X.K F0 (dOp dNotN ta tb)) := d_cmp op_notN lr_notN ha hb (nomark _)
theorem d_notNT (ha : PE X a (lE X.K F0 ta)) (hb : PE X b (lE X.K F0 tb)) : PT X (.Compare a [.IsNot] [b] pos) (lT X.K F0 (dTest (dOp dNotN ta tb))) := d_cmpT op_notN lr_notN ha hb (nomark _)
theorem d_in (hu : X.A.units + 65 < cLine) (ha : PE X a (lE X.K F0 ta)) (hb : PE X b (lE X.K F0 tb)) (hm : behindInMarks .In b = false := by rfl) : PE X (.Compare a [.In] [b] pos) (lE X.K F0 (dOp dIn ta tb)) := d_cmp (op_inAll hu) lr_in ha hb hm
theorem d_inT (hu : X.A.units + 65 < cLine) (ha : PE X a (lE X.K F0 ta)) (hb : PE X b (lE X.K F0 tb)) (hm : behindInMarks .In b = false := by rfl) : PT X (.Compare a [.In] [b] pos) (lT X.K F0 (dTest (dOp dIn ta tb))) := d_cmpT (op_inAll hu) lr_in ha hb hm
theorem d_notIn (hu : X.A.units + 65 < cLine) (ha : PE X a (lE X.K F0 ta)) (hb : PE X b (lE X.K F0 tb)) (hm : behindInMarks .NotIn b = false := by rfl) : PE X (.Compare a [.NotIn] [b] pos) (lE X.K F0 (dOp dNotIn ta tb)) := d_cmp (op_notInD hu) lr_notIn ha hb hm
theorem d_notInT (hu : X.A.units + 65 < cLine) (ha : PE X a (lE X.K F0 ta)) (hb : PE X b (lE X.K F0 tb)) (hm : behindInMarks .NotIn b = false := by rfl) : PT X (.Compare a [.NotIn] [b] pos) (lT X.K F0 (dTest (dOp dNotIn ta tb))) := d_cmpT (op_notInD hu) lr_notIn ha hb hm
/-- a <= b <= c -/
theorem d_lele (ha : PE X a (lE X.K F0 ta)) (hb : PE X b (lE X.K F0 tb)) (hc : PE X c (lE X.K F0 tc)) (hm : lastMarks [.LtE, .LtE] [b, c] = false := by with_unfolding_all rfl) : PE X (.Compare a [.LtE, .LtE] [b, c] pos) (lE X.K F0 (dChain dLe dLe ta tb tc)) :=
  d_chain op_le (lr_int0 fun _ _ _ => rfl) op_le (lr_int0 fun _ _ _ => rfl) ha hb hc hm
theorem d_leleT (ha : PE X a (lE X.K F0 ta)) (hb : PE X b (lE X.K F0 tb)) (hc : PE X c (lE X.K F0 tc)) (hm : lastMarks [.LtE, .LtE] [b, c] = false := by with_unfolding_all rfl) : PT X (.Compare a [.LtE, .LtE] [b, c] pos) (lT X.K F0 (dTest (dChain dLe dLe ta tb tc))) :=
  d_chainT op_le (lr_int0 fun _ _ _ => rfl) op_le (lr_int0 fun _ _ _ => rfl) ha hb hc hm
/-! ### and, or, not, if -/
def dAnd (t u : DT) : DT := fun ρ μ Q => t ρ μ fun c μ1 => if c = true then u ρ μ1 Q else Q false μ1
def dOr (t u : DT) : DT := fun ρ μ Q => t ρ μ fun c μ1 => if c = true then Q true μ1 else u ρ μ1 Q
def dNot (t : DT) : DT := fun ρ μ Q => t ρ μ fun c μ1 => Q (!c) μ1
/-- a test's answer as a value -/
def dVal (t : DT) : DE := fun ρ μ Q => t ρ μ fun c μ1 => Q (.bl c) μ1
variable {t u : DT} {rest : List Expr}
theorem d_and1 (ha : PT X a (lT X.K F0 t)) : PW X (.BoolOp .And [a] pos) (lT X.K F0 t) := pw_and1 ha
theorem d_or1 (ha : PT X a (lT X.K F0 t)) : PW X (.BoolOp .Or [a] pos) (lT X.K F0 t) := pw_or1 ha
theorem d_and (ha : PT X a (lT X.K F0 t)) (hb : PW X (.BoolOp .And (b :: rest) pos) (lT X.K F0 u)) : PW X (.BoolOp .And (a :: b :: rest) pos) (lT X.K F0 (dAnd t u)) :=
  upW (pw_and ha hb) fun σ H F ρ μ Q S R h => ⟨F, ρ, μ, _, S, R, h, fun c H1 ⟨F1, μ1, g1, h1⟩ => by
    cases c with
    | true =>
      rw [if_pos rfl] at h1 ⊢
      exact ⟨F1, ρ, μ1, _, g1.sim, R.mono g1.ext, h1, fun c2 H2 q => q.of g1⟩
    | false =>
      rw [if_neg Bool.false_ne_true] at h1 ⊢
      exact .im g1 h1⟩
theorem d_or (ha : PT X a (lT X.K F0 t)) (hb : PW X (.BoolOp .Or (b :: rest) pos) (lT X.K F0 u)) : PW X (.BoolOp .Or (a :: b :: rest) pos) (lT X.K F0 (dOr t u)) :=
  upW (pw_or ha hb) fun σ H F ρ μ Q S R h => ⟨F, ρ, μ, _, S, R, h, fun c H1 ⟨F1, μ1, g1, h1⟩ => by
    cases c with
    | false =>
      rw [if_neg Bool.false_ne_true] at h1 ⊢
      exact ⟨F1, ρ, μ1, _, g1.sim, R.mono g1.ext, h1, fun c2 H2 q => q.of g1⟩
    | true =>
      rw [if_pos rfl] at h1 ⊢
      exact .im g1 h1⟩
theorem d_not (ha : PT X a (lT X.K F0 t)) : PT X (.UnaryOp .Not a pos) (lT X.K F0 (dNot t)) :=
  upT (pt_not ha) fun σ H F ρ μ Q S R h => ⟨F, ρ, μ, _, S, R, h, fun c H1 ⟨F1, μ1, g1, h1⟩ => .im g1 h1⟩
/-- .. as values (all True or False) -/
def dAndV (ta tb : DE) : DE := fun ρ μ Q => ta ρ μ fun x μ1 => match x with
  | .bl true => tb ρ μ1 Q
  | .bl false => Q (.bl false) μ1
  | _ => False
def dOrV (ta tb : DE) : DE := fun ρ μ Q => ta ρ μ fun x μ1 => match x with
  | .bl false => tb ρ μ1 Q
  | .bl true => Q (.bl true) μ1
  | _ => False
def dNotV (ta : DE) : DE := fun ρ μ Q => ta ρ μ fun x μ1 => match x with
  | .bl b => Q (.bl (!b)) μ1
  | _ => False
theorem d_one {op} (h : PE X a (lE X.K F0 ta)) : PE X (.BoolOp op [a] pos) (lE X.K F0 ta) := pe_one h
theorem d_andV (ha : PE X a (lE X.K F0 ta)) (hb : PE X (.BoolOp .And (b :: rest) pos) (lE X.K F0 tb)) : PE X (.BoolOp .And (a :: b :: rest) pos) (lE X.K F0 (dAndV ta tb)) :=
  upE (pe_and ha hb) fun σ H F ρ μ Q S R h => ⟨F, ρ, μ, _, S, R, h, fun x H1 ⟨F1, dx, μ1, g1, rx, h1⟩ => by
    cases dx with
    | bl k =>
      have rx : x = .bl k := rx
      refine ⟨k, rx, ?_⟩
      cases k with
      | true =>
        rw [if_pos rfl]
        exact ⟨F1, ρ, μ1, _, g1.sim, R.mono g1.ext, h1, fun c2 H2 q => q.of g1⟩
      | false =>
        rw [if_neg Bool.false_ne_true]
        exact .im (d := .bl _) g1 rfl h1
    | _ => exact h1.elim⟩
theorem d_orV (ha : PE X a (lE X.K F0 ta)) (hb : PE X (.BoolOp .Or (b :: rest) pos) (lE X.K F0 tb)) : PE X (.BoolOp .Or (a :: b :: rest) pos) (lE X.K F0 (dOrV ta tb)) :=
  upE (pe_or ha hb) fun σ H F ρ μ Q S R h => ⟨F, ρ, μ, _, S, R, h, fun x H1 ⟨F1, dx, μ1, g1, rx, h1⟩ => by
    cases dx with
    | bl k =>
      have rx : x = .bl k := rx
      refine ⟨k, rx, ?_⟩
      cases k with
      | false =>
        rw [if_neg Bool.false_ne_true]
        exact ⟨F1, ρ, μ1, _, g1.sim, R.mono g1.ext, h1, fun c2 H2 q => q.of g1⟩
      | true =>
        rw [if_pos rfl]
        exact .im (d := .bl _) g1 rfl h1
    | _ => exact h1.elim⟩
theorem d_notV (ha : PE X a (lE X.K F0 ta)) : PE X (.UnaryOp .Not a pos) (lE X.K F0 (dNotV ta)) :=
  upE (pe_not ha) fun σ H F ρ μ Q S R h => ⟨F, ρ, μ, _, S, R, h, fun x H1 ⟨F1, dx, μ1, g1, rx, h1⟩ => by
    cases dx with
    | bl k =>
      have rx : x = .bl k := rx
      exact ⟨k, rx, .im (d := .bl _) g1 rfl h1⟩
    | _ => exact h1.elim⟩
def dIf (t : DT) (ta tb : DE) : DE := fun ρ μ Q => t ρ μ fun c μ1 => if c = true then ta ρ μ1 Q else tb ρ μ1 Q
theorem d_if (hc : PT X c (lT X.K F0 t)) (ha : PE X a (lE X.K F0 ta)) (hb : PE X b (lE X.K F0 tb)) : PE X (.IfExp c a b pos) (lE X.K F0 (dIf t ta tb)) :=
  upE (pe_ifExp hc ha hb) fun σ H F ρ μ Q S R h => ⟨F, ρ, μ, _, S, R, h, fun c H1 ⟨F1, μ1, g1, h1⟩ => by
    cases c with
    | true =>
      rw [if_pos rfl] at h1 ⊢
      exact ⟨F1, ρ, μ1, _, g1.sim, R.mono g1.ext, h1, fun c2 H2 q => q.of g1⟩
    | false =>
      rw [if_neg Bool.false_ne_true] at h1 ⊢
      exact ⟨F1, ρ, μ1, _, g1.sim, R.mono g1.ext, h1, fun c2 H2 q => q.of g1⟩⟩
end
end DL

-- text DL3
set_option Elab.async false
set_option linter.all false
set_option maxRecDepth 100000
set_option maxHeartbeats 2000000
/-! DL3: displays, items, calls, statements, targets, loops, comprehensions over data. -/
namespace DL
open PySem PySem.Spec PyProof.Rows L2

/-! ### arguments, displays -/
def dNil : DA := fun _ μ Q => Q [] μ
def dCons (t : DE) (u : DA) : DA := fun ρ μ Q => t ρ μ fun x μ1 => u ρ μ1 fun xs μ2 => Q (x :: xs) μ2
def dTup (t : DA) : DE := fun ρ μ Q => t ρ μ fun xs μ1 => xs.length ≤ sizeLine ∧ Q (.tup xs) μ1
def dLst (t : DA) : DE := fun ρ μ Q => t ρ μ fun xs μ1 => xs.length ≤ sizeLine ∧ Q (.lst xs) μ1
/-- a list that will be changed -/
def dLstM (t : DA) : DE := fun ρ μ Q => t ρ μ fun xs μ1 => xs.length ≤ sizeLine ∧ ∀ p, μ1 p = none → Q (.raw (.ref p)) (muSet μ1 p (.lst xs))
section
variable {X : Cx} {F0 : Og} {e : Expr} {es : List Expr} {te : DE} {t u : DA} {pos : Pos}
theorem da_nil : PA X [] (lA X.K F0 dNil) := upA pa_nil fun σ H F ρ μ Q S R h => ⟨F, [], μ, .refl S, rfl, h⟩
theorem da_cons (ha : PE X e (lE X.K F0 te)) (hr : PA X es (lA X.K F0 t)) (hs : starEach (e :: es) X.env = (false, eval e X.env) :: starEach es X.env := by rfl) : PA X (e :: es) (lA X.K F0 (dCons te t)) :=
  upA (pa_cons ha hr hs) fun σ H F ρ μ Q S R h => ⟨F, ρ, μ, _, S, R, h, fun x H1 ⟨F1, dx, μ1, g1, rx, h1⟩ => ⟨F1, ρ, μ1, _, g1.sim, R.mono g1.ext, h1, fun xs H2 ⟨F2, ds, μ2, g2, rs, h2⟩ =>
    ⟨F2, dx :: ds, μ2, g1.trans g2, ⟨x, xs, rfl, Rep.mono g2.ext _ _ rx, rs⟩, h2⟩⟩⟩
theorem d_tup {x1} (h : PA X es (lA X.K F0 t)) : PE X (.Tuple es x1 pos) (lE X.K F0 (dTup t)) :=
  upE (pe_tup h) fun σ H F ρ μ Q S R h => ⟨F, ρ, μ, _, S, R, h, fun xs H1 ⟨F1, ds, μ1, g1, rs, h1, h2⟩ => ⟨by rw [rs.length]; exact h1, fun p hp =>
    .new (d := .tup ds) g1 hp (fun F' eF hF => ⟨p, xs, rfl, .of hF, Reps.mono eF _ _ rs⟩) h2⟩⟩
theorem d_lst (h : PA X es (lA X.K F0 t)) : PE X (.List es pos) (lE X.K F0 (dLst t)) :=
  upE (pe_lst h) fun σ H F ρ μ Q S R h => ⟨F, ρ, μ, _, S, R, h, fun xs H1 ⟨F1, ds, μ1, g1, rs, h1, h2⟩ => ⟨by rw [rs.length]; exact h1, fun p hp =>
    .new (d := .lst ds) g1 hp (fun F' eF hF => ⟨p, xs, rfl, .of hF, Reps.mono eF _ _ rs⟩) h2⟩⟩
theorem d_lstM (h : PA X es (lA X.K F0 t)) : PE X (.List es pos) (lE X.K F0 (dLstM t)) :=
  upE (pe_lst h) fun σ H F ρ μ Q S R h => ⟨F, ρ, μ, _, S, R, h, fun xs H1 ⟨F1, ds, μ1, g1, rs, h1, h2⟩ => ⟨by rw [rs.length]; exact h1, fun p hp =>
    ⟨F1, .raw (.ref p), _, g1.trans (.newM (m := .lst ds) g1.sim hp ⟨xs, upd_same, rs⟩), rfl, h2 p (g1.sim.free hp).2⟩⟩⟩
end

/-! ### items, slices -/
def dIx : R2D := fun x y μ Q => match x, y with
  | .tup xs, .int i => ∃ d, atI xs i = some d ∧ Q d μ
  | .lst xs, .int i => ∃ d, atI xs i = some d ∧ Q d μ
  | .raw (.ref a), .int i => ∃ ds d, μ a = some (.lst ds) ∧ atI ds i = some d ∧ Q d μ
  | _, _ => False
/-- a part of a list, a tuple -/
def cutD {α : Type} (xs : List α) (lo hi : Option Int) : List α := (xs.drop (HT.sIx xs.length 0 lo)).take (HT.sIx xs.length xs.length hi - HT.sIx xs.length 0 lo)
abbrev DO := En → Mu → (Option Int → Mu → Prop) → Prop
def dNo : DO := fun _ μ Q => Q none μ
def dPart (t : DE) : DO := fun ρ μ Q => t ρ μ fun x μ1 => match x with
  | .int i => Q (some i) μ1
  | _ => False
def dSlice (te : DE) (lo hi : DO) : DE := fun ρ μ Q => te ρ μ fun x μ1 => lo ρ μ1 fun l μ2 => hi ρ μ2 fun u μ3 => match x with
  | .tup xs => Q (.tup (cutD xs l u)) μ3
  | .lst xs => Q (.lst (cutD xs l u)) μ3
  | _ => False
section
variable {X : Cx} {F0 : Og} {K : Fg} {a b : Expr} {ta tb : DE} {pos p2 : Pos}
theorem Reps.atI {F : Hp} {ds : List D} {vs : List V} {i : Int} {d : D} (r : Reps K F ds vs) (h : L2.atI ds i = some d) : ∃ v, L2.atI vs i = some v ∧ Rep K F d v := by
  unfold L2.atI at h ⊢
  rw [r.length]
  cases e : ixN ds.length i with
  | none => rw [e] at h; cases h
  | some j =>
    rw [e] at h
    exact r.get h
theorem lr_ix : LR2 K F0 (rIx K) dIx := by
  intro Fb Hb μb F H μ x y dx dy Q Q' g rx ry h0 hq
  have S := g.sim
  cases dy with
  | int i =>
    cases dx with
    | tup xs =>
      obtain ⟨p, vs, h1, h2, h3⟩ := rx
      obtain ⟨d, hd, q⟩ := h0
      obtain ⟨v, hv, rv⟩ := h3.atI hd
      exact .inr (.inl ⟨p, vs, i, v, h1, ry, Same.seqT S.sub h2, hv, hq _ _ (.im g rv q)⟩)
    | lst xs =>
      obtain ⟨p, vs, h1, h2, h3⟩ := rx
      obtain ⟨d, hd, q⟩ := h0
      obtain ⟨v, hv, rv⟩ := h3.atI hd
      exact .inl ⟨p, vs, i, v, h1, ry, S.sub.seq h2, hv, hq _ _ (.im g rv q)⟩
    | raw u =>
      cases u with
      | ref p =>
        obtain ⟨ds, d, hm, hd, q⟩ := h0
        obtain ⟨vs, h2, h3⟩ := S.lst hm
        obtain ⟨v, hv, rv⟩ := h3.atI hd
        exact .inl ⟨p, vs, i, v, rx, ry, .of h2, hv, hq _ _ (.im g rv q)⟩
      | _ => exact h0.elim
    | _ => exact h0.elim
  | _ =>
    cases dx with
    | raw u => cases u <;> exact h0.elim
    | _ => exact h0.elim
theorem d_ix (ha : PE X a (lE X.K F0 ta)) (hb : PE X b (lE X.K F0 tb)) (hs : PlainIx b := by exact fun _ _ => rfl) : PE X (.Subscript a b pos) (lE X.K F0 (dOp dIx ta tb)) :=
  upE (pe_ix ix_seq ha hb hs) fun σ H F ρ μ Q S R h => lOp lr_ix S R h fun _ _ z => z
def uO (K : Fg) (F0 : Og) (F H : Hp) (μ : Mu) (Q : Option Int → Mu → Prop) : Option Int → Hp → Prop := fun b H' => ∃ F' μ', Go K F0 F H μ F' H' μ' ∧ Q b μ'
def lO (K : Fg) (F0 : Og) (t : DO) : TO := fun σ H Q => ∃ F ρ μ Qd, Sim K F0 F H μ ∧ REnv K F ρ σ ∧ t ρ μ Qd ∧ ∀ v H', uO K F0 F H μ Qd v H' → Q v H'
theorem upO {e : Option Expr} {t : DO} {t0 : TO} (h : PO X e t0) (hh : ∀ σ H F ρ μ Qd, Sim X.K F0 F H μ → REnv X.K F ρ σ → t ρ μ Qd → ∀ Q, (∀ v H', uO X.K F0 F H μ Qd v H' → Q v H') → t0 σ H Q) : PO X e (lO X.K F0 t) := ⟨fun pins s σ H Q I h' => by
  obtain ⟨F, ρ, μ, Qd, hS, hR, ht, hq⟩ := h'
  exact h.run pins s σ H _ I (hh σ H F ρ μ Qd hS hR ht Q hq)⟩
theorem do_no : PO X none (lO X.K F0 dNo) := upO po_none fun σ H F ρ μ Qd S R h Q hq => hq _ _ ⟨F, μ, .refl S, h⟩
theorem do_some {e : Expr} (h : PE X e (lE X.K F0 ta)) : PO X (some e) (lO X.K F0 (dPart ta)) := upO (po_some h) fun σ H F ρ μ Qd S R h Q hq => ⟨F, ρ, μ, _, S, R, h, fun x H1 ⟨F1, dx, μ1, g1, rx, h1⟩ => by
  cases dx with
  | int i =>
    have rx : x = .int i := rx
    exact ⟨i, rx, hq _ _ ⟨F1, μ1, g1, h1⟩⟩
  | _ => exact h1.elim⟩
theorem Reps.cut {F : Hp} {ds : List D} {vs : List V} (r : Reps K F ds vs) (lo hi : Option Int) : Reps K F (cutD ds lo hi) (cutV vs lo hi) := by
  unfold cutD cutV
  rw [r.length]
  exact (r.drop _).take _
theorem cut_whole {α : Type} {xs : List α} {lo hi : Option Int} (h : HT.sIx xs.length 0 lo = 0 ∧ HT.sIx xs.length xs.length hi = xs.length) : cutD xs lo hi = xs := by
  unfold cutD
  rw [h.1, h.2]
  simp
theorem d_slice {lo hi : Option Expr} {tl th : DO} (he : PE X a (lE X.K F0 ta)) (hl : PO X lo (lO X.K F0 tl)) (hu : PO X hi (lO X.K F0 th)) : PE X (.Subscript a (.Slice lo hi none p2) pos) (lE X.K F0 (dSlice ta tl th)) :=
  upE (pe_slice (sl_tupA.or sl_list) he hl hu) fun σ H F ρ μ Q S R h => ⟨F, ρ, μ, _, S, R, h, fun x H1 ⟨F1, dx, μ1, g1, rx, h1⟩ => ⟨F1, ρ, μ1, _, g1.sim, R.mono g1.ext, h1, fun l H2 ⟨F2, μ2, g2, h2⟩ => ⟨F2, ρ, μ2, _, g2.sim, R.mono (g1.trans g2).ext, h2, fun u H3 ⟨F3, μ3, g3, h3⟩ => by
    have rx3 := Rep.mono (g2.trans g3).ext _ _ rx
    have g13 := (g1.trans g2).trans g3
    have S3 := g3.sim
    cases dx with
    | tup xs =>
      obtain ⟨p, vs, g1, g2, g3⟩ := id rx3
      refine .inl ⟨p, vs, g1, Same.seqT S3.sub g2, fun hw => ?_, fun hw q hq => ?_⟩
      · rw [g3.length] at hw
        have h3 : Q (.tup (cutD xs l u)) μ3 := h3
        rw [cut_whole hw] at h3
        rw [← g1]
        exact .im g13 rx3 h3
      · exact .new (d := .tup (cutD xs l u)) g13 hq (fun F' eF hF => ⟨q, _, rfl, .of hF, (Reps.mono eF _ _ g3).cut l u⟩) h3
    | lst xs =>
      obtain ⟨p, vs, g1, g2, g3⟩ := id rx3
      exact .inr ⟨p, vs, g1, S3.sub.seq g2, fun q hq => .new (d := .lst (cutD xs l u)) g13 hq (fun F' eF hF => ⟨q, _, rfl, .of hF, (Reps.mono eF _ _ g3).cut l u⟩) h3⟩
    | _ => exact h3.elim⟩⟩⟩
end

/-! ### built-in calls -/
abbrev RD := List D → Mu → DQ → Prop
def LC (K : Fg) (F0 : Og) (r0 : List V → Hp → VK → Prop) (r : RD) : Prop := ∀ (Fb Hb : Hp) (μb : Mu) (F H : Hp) (μ : Mu) (vs : List V) (ds : List D) (Q : DQ) (Q' : VK), Go K F0 Fb Hb μb F H μ → Reps K F ds vs → r ds μ Q →
  (∀ v H', uQ K F0 Fb Hb μb Q v H' → Q' v H') → r0 vs H Q'
def dCall (r : RD) (t : DA) : DE := fun ρ μ Q => t ρ μ fun ds μ1 => r ds μ1 Q
section
variable {X : Cx} {F0 : Og} {K : Fg} {r0 : List V → Hp → VK → Prop} {r : RD} {t : DA} {e : Expr} {es : List Expr} {x : Str} {p pos : Pos} {id T : String}
theorem lCall {t0 : TA} (hr : LC X.K F0 r0 r) {σ : L2.St} {H F : Hp} {ρ : En} {μ : Mu} {Q : DQ} (S : Sim X.K F0 F H μ) (R : REnv X.K F ρ σ) (h : dCall r t ρ μ Q) : tCB r0 (lA X.K F0 t) σ H (uQ X.K F0 F H μ Q) :=
  ⟨F, ρ, μ, _, S, R, h, fun xs H1 ⟨F1, ds, μ1, g1, rs, h1⟩ => hr F H μ F1 H1 μ1 xs ds Q _ g1 rs h1 fun _ _ z => z⟩
theorem d_callB (hc : CallR X (.builtin id) r0) (hr : LC X.K F0 r0 r) (hg : Gl X x) (hm : X.mg x = none) (hv : bootBuiltins x = some (.builtin id)) (ha : PA X (e :: es) (lA X.K F0 t)) (hn : x ≠ "__name__" := by decide) (hdb : (x == ("__debug__" : Str)) = false := by decide)
    (he : starEach (e :: es) X.env = (false, eval e X.env) :: starEach es X.env := by rfl) (hpl : (backTo pos (starEach es X.env)).any (·.1) = false := by rfl) : PE X (.Call (.Name x p) (e :: es) [] pos) (lE X.K F0 (dCall r t)) :=
  upE (pe_callB hc hg hm hv ha hn hdb he hpl) fun σ H F ρ μ Q S R h => lCall (t0 := lA X.K F0 t) hr S R h
theorem d_callTy (hc : CallR X (.type T) r0) (hr : LC X.K F0 r0 r) (hg : Gl X x) (hm : X.mg x = none) (hv : bootBuiltins x = some (.type T)) (ha : PA X (e :: es) (lA X.K F0 t)) (hn : x ≠ "__name__" := by decide) (hdb : (x == ("__debug__" : Str)) = false := by decide)
    (he : starEach (e :: es) X.env = (false, eval e X.env) :: starEach es X.env := by rfl) (hpl : (backTo pos (starEach es X.env)).any (·.1) = false := by rfl) : PE X (.Call (.Name x p) (e :: es) [] pos) (lE X.K F0 (dCall r t)) :=
  upE (pe_callTy hc hg hm hv ha hn hdb he hpl) fun σ H F ρ μ Q S R h => lCall (t0 := lA X.K F0 t) hr S R h
end
def bAbs : RD := fun ds μ Q => match ds with
  | [.int i] => Q (.int (if i < 0 then -i else i)) μ
  | _ => False
def bLen : RD := fun ds μ Q => match ds with
  | [.tup xs] => Q (.int xs.length) μ
  | [.lst xs] => Q (.int xs.length) μ
  | [.str z] => z.length ≤ sizeLine ∧ Q (.int z.length) μ
  | [.raw (.ref a)] => ∃ xs, μ a = some (.lst xs) ∧ Q (.int xs.length) μ
  | _ => False
def bSum : RD := fun ds μ Q => match ds with
  | [.tup xs] => ∃ ns : List Int, xs = ns.map D.int ∧ Q (.int ns.sum) μ
  | [.lst xs] => ∃ ns : List Int, xs = ns.map D.int ∧ Q (.int ns.sum) μ
  | _ => False
def bAll : RD := fun ds μ Q => match ds with
  | [.lst xs] => ∃ bs : List Bool, xs = bs.map D.bl ∧ Q (.bl (bs.all id)) μ
  | _ => False
def bAny : RD := fun ds μ Q => match ds with
  | [.lst xs] => ∃ bs : List Bool, xs = bs.map D.bl ∧ Q (.bl (bs.any id)) μ
  | _ => False
def bInt : RD := fun ds μ Q => match ds with
  | [.int i] => Q (.int i) μ
  | [.bl b] => Q (.int (if b then 1 else 0)) μ
  | [.str a] => ∃ n, PySem.intText? a = some n ∧ a.length ≤ 640 ∧ Q (.int n) μ
  | _ => False
def bStr : RD := fun ds μ Q => match ds with
  | [.int i] => i.natAbs.log2 < 1920 ∧ Q (.str (toString i)) μ
  | _ => False
def bTup : RD := fun ds μ Q => match ds with
  | [.tup xs] => Q (.tup xs) μ
  | [.lst xs] => Q (.tup xs) μ
  | [.raw (.ref a)] => ∃ xs, μ a = some (.lst xs) ∧ Q (.tup xs) μ
  | _ => False
def bLst : RD := fun ds μ Q => match ds with
  | [.tup xs] => Q (.lst xs) μ
  | [.lst xs] => Q (.lst xs) μ
  | [.raw (.ref a)] => ∃ xs, μ a = some (.lst xs) ∧ Q (.lst xs) μ
  | _ => False
/-- the built-in class of data -/
def tyD : D → String
  | .non => "NoneType"
  | .bl _ => "bool"
  | .int _ => "int"
  | .str _ => "str"
  | .tup _ => "tuple"
  | .lst _ => "list"
  | .raw _ => ""
def isTy (a b : String) : Bool := a == b || (a == "bool" && b == "int")
def bIsi : RD := fun ds μ Q => match ds with
  | [.raw _, _] => False
  | [x, .raw (.ty T)] => (T = "int" ∨ T = "bool" ∨ T = "tuple" ∨ T = "str") ∧ Q (.bl (isTy (tyD x) T)) μ
  | _ => False
section
variable {K : Fg} {F0 : Og} {X : Cx}
theorem Reps.un1 {F : Hp} {d : D} {vs : List V} (h : Reps K F [d] vs) : ∃ v, vs = [v] ∧ Rep K F d v := by
  obtain ⟨v, r, rfl, h2, h3⟩ := h
  have h3 : r = [] := h3
  exact ⟨v, by rw [h3], h2⟩
theorem Reps.un2 {F : Hp} {d d' : D} {vs : List V} (h : Reps K F [d, d'] vs) : ∃ v v', vs = [v, v'] ∧ Rep K F d v ∧ Rep K F d' v' := by
  obtain ⟨v, r, rfl, h2, h3⟩ := h
  obtain ⟨u, rfl, h4⟩ := h3.un1
  exact ⟨v, u, rfl, h2, h4⟩
theorem lc_abs : LC K F0 (fun xs H Q => ∃ i, xs = [.int i] ∧ Q (.int (if i < 0 then -i else i)) H) bAbs := by
  intro Fb Hb μb F H μ vs ds Q Q' g rs h hq
  have S := g.sim
  unfold bAbs at h
  split at h
  · obtain ⟨v, rfl, rv⟩ := rs.un1
    exact ⟨_, by rw [show v = .int _ from rv], hq _ _ (.im (d := .int _) g rfl h)⟩
  · exact h.elim
theorem lc_len : LC K F0 (fun xs H Q => (∃ p ys, xs = [.ref p] ∧ (SqL K H p ys ∨ SqT K H p ys) ∧ Q (.int ys.length) H) ∨ ∃ z, xs = [.str z] ∧ z.length ≤ sizeLine ∧ Q (.int z.length) H) bLen := by
  intro Fb Hb μb F H μ vs ds Q Q' g rs h hq
  have S := g.sim
  unfold bLen at h
  split at h
  · obtain ⟨v, rfl, p, us, rfl, h2, h3⟩ := rs.un1
    exact .inl ⟨p, us, rfl, .inr (Same.seqT S.sub h2), by rw [h3.length]; exact hq _ _ (.im (d := .int _) g rfl h)⟩
  · obtain ⟨v, rfl, p, us, rfl, h2, h3⟩ := rs.un1
    exact .inl ⟨p, us, rfl, .inl (S.sub.seq h2), by rw [h3.length]; exact hq _ _ (.im (d := .int _) g rfl h)⟩
  · obtain ⟨v, rfl, rv⟩ := rs.un1
    exact .inr ⟨_, by rw [show v = .str _ from rv], h.1, hq _ _ (.im (d := .int _) g rfl h.2)⟩
  · obtain ⟨v, rfl, rv⟩ := rs.un1
    obtain ⟨xs, hm, q⟩ := h
    obtain ⟨us, h2, h3⟩ := S.lst hm
    exact .inl ⟨_, us, by rw [show v = .ref _ from rv], .inl (.of h2), by rw [h3.length]; exact hq _ _ (.im (d := .int _) g rfl q)⟩
  · exact h.elim
theorem lc_sum : LC K F0 (fun xs H Q => rSum K xs H Q ∨ rSumT K xs H Q) bSum := by
  intro Fb Hb μb F H μ vs ds Q Q' g rs h hq
  have S := g.sim
  unfold bSum at h
  split at h
  · obtain ⟨v, rfl, p, us, rfl, h2, h3⟩ := rs.un1
    obtain ⟨ns, rfl, q⟩ := h
    exact .inr ⟨p, ns, rfl, by rw [← h3.ints]; exact Same.seqT S.sub h2, hq _ _ (.im (d := .int _) g rfl q)⟩
  · obtain ⟨v, rfl, p, us, rfl, h2, h3⟩ := rs.un1
    obtain ⟨ns, rfl, q⟩ := h
    exact .inl ⟨p, ns, rfl, by rw [← h3.ints]; exact S.sub.seq h2, hq _ _ (.im (d := .int _) g rfl q)⟩
  · exact h.elim
theorem lc_all : LC K F0 (rAll K) bAll := by
  intro Fb Hb μb F H μ vs ds Q Q' g rs h hq
  have S := g.sim
  unfold bAll at h
  split at h
  · obtain ⟨v, rfl, p, us, rfl, h2, h3⟩ := rs.un1
    obtain ⟨ns, rfl, q⟩ := h
    exact ⟨p, ns, rfl, by rw [← h3.bls]; exact S.sub.seq h2, hq _ _ (.im (d := .bl _) g rfl q)⟩
  · exact h.elim
theorem lc_any : LC K F0 (rAny K) bAny := by
  intro Fb Hb μb F H μ vs ds Q Q' g rs h hq
  have S := g.sim
  unfold bAny at h
  split at h
  · obtain ⟨v, rfl, p, us, rfl, h2, h3⟩ := rs.un1
    obtain ⟨ns, rfl, q⟩ := h
    exact ⟨p, ns, rfl, by rw [← h3.bls]; exact S.sub.seq h2, hq _ _ (.im (d := .bl _) g rfl q)⟩
  · exact h.elim
theorem lc_int : LC K F0 (fun xs H Q => ((∃ i, xs = [.int i] ∧ Q (.int i) H) ∨ ∃ k, xs = [.bl k] ∧ Q (.int (if k then 1 else 0)) H) ∨ ∃ a n, xs = [.str a] ∧ PySem.intText? a = some n ∧ a.length ≤ 640 ∧ Q (.int n) H) bInt := by
  intro Fb Hb μb F H μ vs ds Q Q' g rs h hq
  have S := g.sim
  unfold bInt at h
  split at h
  · obtain ⟨v, rfl, rv⟩ := rs.un1
    exact .inl (.inl ⟨_, by rw [show v = .int _ from rv], hq _ _ (.im (d := .int _) g rfl h)⟩)
  · obtain ⟨v, rfl, rv⟩ := rs.un1
    exact .inl (.inr ⟨_, by rw [show v = .bl _ from rv], hq _ _ (.im (d := .int _) g rfl h)⟩)
  · obtain ⟨v, rfl, rv⟩ := rs.un1
    obtain ⟨n, h1, h2, q⟩ := h
    exact .inr ⟨_, n, by rw [show v = .str _ from rv], h1, h2, hq _ _ (.im (d := .int _) g rfl q)⟩
  · exact h.elim
theorem lc_str : LC K F0 (fun xs H Q => ∃ i, xs = [.int i] ∧ i.natAbs.log2 < 1920 ∧ Q (.str (toString i)) H) bStr := by
  intro Fb Hb μb F H μ vs ds Q Q' g rs h hq
  have S := g.sim
  unfold bStr at h
  split at h
  · obtain ⟨v, rfl, rv⟩ := rs.un1
    exact ⟨_, by rw [show v = .int _ from rv], h.1, hq _ _ (.im (d := .str _) g rfl h.2)⟩
  · exact h.elim
theorem lc_tup : LC K F0 (fun xs H Q => ∃ p ys, xs = [.ref p] ∧ ((SqL K H p ys ∧ ∀ l, H l = none → Q (.ref l) (upd H l (.tup ys))) ∨ (SqT K H p ys ∧ Q (.ref p) H))) bTup := by
  intro Fb Hb μb F H μ vs ds Q Q' g rs h hq
  have S := g.sim
  unfold bTup at h
  split at h
  · obtain ⟨v, rfl, rv⟩ := rs.un1
    obtain ⟨p, us, rfl, h2, h3⟩ := id rv
    exact ⟨p, us, rfl, .inr ⟨Same.seqT S.sub h2, hq _ _ (.im g rv h)⟩⟩
  · obtain ⟨v, rfl, rv⟩ := rs.un1
    obtain ⟨p, us, rfl, h2, h3⟩ := id rv
    exact ⟨p, us, rfl, .inl ⟨S.sub.seq h2, fun l hl => hq _ _ (.new (d := .tup _) g hl (fun F' eF hF => ⟨l, _, rfl, .of hF, Reps.mono eF _ _ h3⟩) h)⟩⟩
  · obtain ⟨v, rfl, rv⟩ := rs.un1
    obtain ⟨xs, hm, q⟩ := h
    obtain ⟨us, h2, h3⟩ := S.lst hm
    exact ⟨_, us, by rw [show v = .ref _ from rv], .inl ⟨.of h2, fun l hl => hq _ _ (.new (d := .tup _) g hl (fun F' eF hF => ⟨l, _, rfl, .of hF, Reps.mono eF _ _ h3⟩) q)⟩⟩
  · exact h.elim
theorem lc_lst : LC K F0 (fun xs H Q => ∃ p ys, xs = [.ref p] ∧ (SqL K H p ys ∨ SqT K H p ys) ∧ ∀ l, H l = none → Q (.ref l) (upd H l (.lst ys))) bLst := by
  intro Fb Hb μb F H μ vs ds Q Q' g rs h hq
  have S := g.sim
  unfold bLst at h
  split at h
  · obtain ⟨v, rfl, rv⟩ := rs.un1
    obtain ⟨p, us, rfl, h2, h3⟩ := id rv
    exact ⟨p, us, rfl, .inr (Same.seqT S.sub h2), fun l hl => hq _ _ (.new (d := .lst _) g hl (fun F' eF hF => ⟨l, _, rfl, .of hF, Reps.mono eF _ _ h3⟩) h)⟩
  · obtain ⟨v, rfl, rv⟩ := rs.un1
    obtain ⟨p, us, rfl, h2, h3⟩ := id rv
    exact ⟨p, us, rfl, .inl (S.sub.seq h2), fun l hl => hq _ _ (.new (d := .lst _) g hl (fun F' eF hF => ⟨l, _, rfl, .of hF, Reps.mono eF _ _ h3⟩) h)⟩
  · obtain ⟨v, rfl, rv⟩ := rs.un1
    obtain ⟨xs, hm, q⟩ := h
    obtain ⟨us, h2, h3⟩ := S.lst hm
    exact ⟨_, us, by rw [show v = .ref _ from rv], .inl (.of h2), fun l hl => hq _ _ (.new (d := .lst _) g hl (fun F' eF hF => ⟨l, _, rfl, .of hF, Reps.mono eF _ _ h3⟩) q)⟩
  · exact h.elim
theorem tyL {F H : Hp} {a : Addr} {xs : List V} (e : Same F H) (h : SqL K F a xs) : TyX K H (.ref a) (.type "list") := by
  rcases h with (h | ⟨o, h⟩) | ⟨o, its, n, h1, h2, _⟩
  · exact .base (.lst (e _ _ h))
  · exact .base (.frz (e _ _ h))
  · exact .kList h1 h2
theorem tyT {F H : Hp} {a : Addr} {xs : List V} (e : Same F H) (h : SqT K F a xs) : TyX K H (.ref a) (.type "tuple") := by
  rcases h with (h | ⟨o, h⟩) | ⟨o, its, n, h1, h2, _⟩
  · exact .base (.tup (e _ _ h))
  · exact .fTuple (e _ _ h)
  · exact .kTuple h1 h2
theorem Rep.ty {F H : Hp} (e : Same F H) : ∀ {d : D} {v : V}, Rep K F d v → (∀ u, d ≠ .raw u) → TyX K H v (.type (tyD d))
  | .non, v, r, _ => by rw [show v = .non from r]; exact .base .non
  | .bl b, v, r, _ => by rw [show v = .bl b from r]; exact .base (.bl b)
  | .int i, v, r, _ => by rw [show v = .int i from r]; exact .base (.int i)
  | .str x, v, r, _ => by rw [show v = .str x from r]; exact .base (.str x)
  | .raw u, _, _, h => absurd rfl (h u)
  | .tup ds, _, r, _ => by
    obtain ⟨p, us, rfl, h2, h3⟩ := r
    exact tyT e h2
  | .lst ds, _, r, _ => by
    obtain ⟨p, us, rfl, h2, h3⟩ := r
    exact tyL e h2
theorem kit_all (a T : String) (ha : a = "NoneType" ∨ a = "bool" ∨ a = "int" ∨ a = "str" ∨ a = "tuple" ∨ a = "list") (hT : T = "int" ∨ T = "bool" ∨ T = "tuple" ∨ T = "str") : PySem.W.kitOne K (.type a) (.type T) = some (isTy a T) := by
  refine kit_ty ?_
  rcases ha with rfl | rfl | rfl | rfl | rfl | rfl <;> rcases hT with rfl | rfl | rfl | rfl <;> decide +kernel
theorem tyD_in (d : D) (h : ∀ u, d ≠ .raw u) : tyD d = "NoneType" ∨ tyD d = "bool" ∨ tyD d = "int" ∨ tyD d = "str" ∨ tyD d = "tuple" ∨ tyD d = "list" := by
  cases d with
  | raw u => exact absurd rfl (h u)
  | _ => simp [tyD]
theorem lc_isi : LC K F0 (rIsi K) bIsi := by
  intro Fb Hb μb F H μ vs ds Q Q' g rs h hq
  have S := g.sim
  unfold bIsi at h
  split at h
  · exact h.elim
  · rename_i x T hx
    obtain ⟨hT, q⟩ := h
    obtain ⟨v, u, rfl, rv, ru⟩ := rs.un2
    have hn : ∀ w, x ≠ .raw w := fun w z => hx w z
    exact ⟨v, u, _, _, _, rfl, by rw [show u = .ty T from ru]; exact .ty T, rv.ty S.sub hn, kit_all _ T (tyD_in x hn) hT, hq _ _ (.im (d := .bl _) g rfl q)⟩
  · exact h.elim
end
end DL

-- text DL4
set_option Elab.async false
set_option linter.all false
set_option maxRecDepth 100000
set_option maxHeartbeats 2000000
/-! DL4: statements, targets, loops, comprehensions, calls of defs over data. -/
namespace DL
open PySem PySem.Spec PyProof.Rows L2

/-! ### blocks -/
def dNext : DS := fun D ρ μ => D.nx ρ μ
def dSeq (t u : DS) : DS := fun D ρ μ => t { D with nx := u D } ρ μ
def dRet (t : DE) : DS := fun D ρ μ => t ρ μ D.rt
def dRetN : DS := fun D ρ μ => D.rt .non μ
def dDrop (t : DE) : DS := fun D ρ μ => t ρ μ fun _ μ1 => D.nx ρ μ1
def dIfS (c : DT) (t u : DS) : DS := fun D ρ μ => c ρ μ fun b μ1 => if b = true then t D ρ μ1 else u D ρ μ1
def dNever : DS := fun _ _ _ => False
section
variable {X : Cx} {F0 : Og} {st : Stmt} {rest : List Stmt} {e : Expr} {te : DE} {t u : DS} {pos : Pos}
theorem ds_nil : PSs X [] (lS X.K F0 dNext) := upSs pss_nil fun σ H F ρ μ Dd S R h => ⟨F, ρ, μ, .refl S, R, h⟩
theorem lSeq {F : Hp} {σ : L2.St} {H : Hp} {ρ : En} {μ : Mu} {Dd : DEnds} {K : Fg} (S : Sim K F0 F H μ) (R : REnv K F ρ σ) (h : dSeq t u Dd ρ μ) : tSeq (lS K F0 t) (lS K F0 u) (uD K F0 F H μ Dd) σ H :=
  ⟨F, ρ, μ, _, S, R, h, ⟨fun σ' H' ⟨F1, ρ1, μ1, g1, R1, h1⟩ => ⟨F1, ρ1, μ1, Dd, g1.sim, R1, h1, DLe.refl.of g1⟩, fun _ _ q => q, fun _ _ q => q, fun _ _ q => q⟩⟩
theorem ds_cons (h1 : PS X st (lS X.K F0 t)) (h2 : PSs X rest (lS X.K F0 u)) : PSs X (st :: rest) (lS X.K F0 (dSeq t u)) := upSs (pss_cons h1 h2) fun σ H F ρ μ Dd S R h => lSeq S R h
theorem ds_one (h1 : PS X st (lS X.K F0 t)) : PSs X [st] (lS X.K F0 t) := pss_one h1
theorem ds_ret (he : PE X e (lE X.K F0 te)) : PS X (.Return (some e) pos) (lS X.K F0 (dRet te)) := upS (ps_ret he) fun σ H F ρ μ Dd S R h => ⟨F, ρ, μ, _, S, R, h, fun _ _ q => q⟩
theorem ds_retN : PS X (.Return none pos) (lS X.K F0 dRetN) := upS ps_retN fun σ H F ρ μ Dd S R h => uQ.im (d := .non) (.refl S) rfl h
theorem ds_expr (he : PE X e (lE X.K F0 te)) (hs : swapsWith e none pos.line X.env = pure false := by rfl) : PS X (.Expr e pos) (lS X.K F0 (dDrop te)) := upS (ps_expr he hs) fun σ H F ρ μ Dd S R h =>
  ⟨F, ρ, μ, _, S, R, h, fun v H' ⟨F1, d, μ1, g1, _, h1⟩ => ⟨F1, ρ, μ1, g1, R.mono g1.ext, h1⟩⟩
theorem ds_if {c : Expr} {a b : List Stmt} {tc : DT} (hc : PT X c (lT X.K F0 tc)) (ha : PSs X a (lS X.K F0 t)) (hb : PSs X b (lS X.K F0 u)) : PS X (.If c a b pos) (lS X.K F0 (dIfS tc t u)) := upS (ps_if hc ha hb) fun σ H F ρ μ Dd S R h =>
  ⟨F, ρ, μ, _, S, R, h, fun k H' ⟨F1, μ1, g1, h1⟩ => by
    cases k with
    | true =>
      rw [if_pos rfl] at h1 ⊢
      exact ⟨F1, ρ, μ1, Dd, g1.sim, R.mono g1.ext, h1, DLe.refl.of g1⟩
    | false =>
      rw [if_neg Bool.false_ne_true] at h1 ⊢
      exact ⟨F1, ρ, μ1, Dd, g1.sim, R.mono g1.ext, h1, DLe.refl.of g1⟩⟩
theorem ds_never : PS X st (lS X.K F0 dNever) := upS ps_never fun σ H F ρ μ Dd S R h => h
theorem dss_never {sts : List Stmt} : PSs X sts (lS X.K F0 dNever) := upSs pss_never fun σ H F ρ μ Dd S R h => h
end

/-! ### targets -/
abbrev DG := D → En → Mu → (En → Mu → Prop) → Prop
abbrev DGs := List D → En → Mu → (En → Mu → Prop) → Prop
/-- vs: the slots that the target may store to -/
def lG (K : Fg) (F0 : Og) (vs : List Nat) (g : DG) : TG := fun v σ H Q => ∃ F ρ μ d Qd, Sim K F0 F H μ ∧ REnv K F ρ σ ∧ Rep K F d v ∧ g d ρ μ Qd ∧ ∀ σ' H', uS K F0 F H μ Qd σ' H' → wipe σ' vs = wipe σ vs → Q σ' H'
def lGs (K : Fg) (F0 : Og) (vs : List Nat) (g : DGs) : TGs := fun us σ H Q => ∃ F ρ μ ds Qd, Sim K F0 F H μ ∧ REnv K F ρ σ ∧ Reps K F ds us ∧ g ds ρ μ Qd ∧ ∀ σ' H', uS K F0 F H μ Qd σ' H' → wipe σ' vs = wipe σ vs → Q σ' H'
def dgName (i : Nat) : DG := fun d ρ μ Q => Q (ρ.set i (some d)) μ
def dgTup (gs : DGs) : DG := fun d ρ μ Q => match d with
  | .tup xs => gs xs ρ μ Q
  | _ => False
def dgLst (gs : DGs) : DG := fun d ρ μ Q => match d with
  | .lst xs => gs xs ρ μ Q
  | _ => False
def dgNil : DGs := fun ds ρ μ Q => match ds with
  | [] => Q ρ μ
  | _ => False
def dgCons (g : DG) (gs : DGs) : DGs := fun ds ρ μ Q => match ds with
  | d :: r => g d ρ μ fun ρ1 μ1 => gs r ρ1 μ1 Q
  | [] => False
theorem wipe_set {σ : L2.St} {i : Nat} {v : Option V} : ∀ {vs : List Nat}, i ∈ vs → wipe (σ.set i v) vs = wipe σ vs := fun {vs} h => by
  apply List.ext_getElem?
  intro j
  have len : ∀ τ : L2.St, (wipe τ vs).length = τ.length := fun τ => wipe_length τ vs
  have sel : ∀ (τ : L2.St) (vs : List Nat), j ∈ vs → j < τ.length → (wipe τ vs)[j]? = some none := by
    intro τ vs
    induction vs with
    | nil => intro h _; simp at h
    | cons k r ih =>
      intro h hl
      show ((wipe τ r).set k none)[j]? = _
      by_cases hk : k = j
      · subst hk
        rw [List.getElem?_set_self (by rw [wipe_length]; exact hl)]
      · rw [List.getElem?_set_ne hk]
        exact ih (by rcases List.mem_cons.mp h with z | z; exact absurd z.symm hk; exact z) hl
  by_cases hj : j ∈ vs
  · by_cases hl : j < σ.length
    · rw [sel _ _ hj (by rw [List.length_set]; exact hl), sel _ _ hj hl]
    · rw [List.getElem?_eq_none (by rw [len, List.length_set]; omega), List.getElem?_eq_none (by rw [len]; omega)]
  · rw [wipe_out' hj, wipe_out' hj, List.getElem?_set_ne (fun z => hj (by rw [← z]; exact h))]
section
variable {X : Cx} {F0 : Og} {pos : Pos} {vs : List Nat}
theorem dg_name {i : Nat} {x : Str} (hN : X.N.Nodup) (hi : X.N[i]? = some x) (hx : Loc X.env.scope x) (hv : i ∈ vs) (hf : X.fn x = true ∨ X.env.scope.names.lookup x = some .local := by first | exact .inl rfl | exact .inr rfl | assumption) : PG X (.Name x pos) (lG X.K F0 vs (dgName i)) :=
  ⟨fun pins s σ H v u Q I r h => by
    obtain ⟨F, ρ, μ, d, Qd, S, R, rd, hg, hq⟩ := h
    exact (pg_name hN hi hx hf).run pins s σ H v u Q I r (hq _ _ ⟨F, _, μ, .refl S, R.set rd, hg⟩ (wipe_set hv))⟩
theorem dgs_nil : PGs X [] (lGs X.K F0 vs dgNil) := ⟨fun pins s σ H us ws Q I r h => by
  obtain ⟨F, ρ, μ, ds, Qd, S, R, rd, hg, hq⟩ := h
  cases ds with
  | nil => exact pgs_nil.run pins s σ H us ws Q I r ⟨rd, hq _ _ ⟨F, ρ, μ, .refl S, R, hg⟩ rfl⟩
  | cons d ds => exact hg.elim⟩
theorem dgs_cons {e : Expr} {es : List Expr} {g : DG} {gs : DGs} (h1 : PG X e (lG X.K F0 vs g)) (h2 : PGs X es (lGs X.K F0 vs gs)) (hs : (assignEach (e :: es) X.env).map (·.2) = assign e X.env :: (assignEach es X.env).map (·.2) := by rfl) : PGs X (e :: es) (lGs X.K F0 vs (dgCons g gs)) :=
  ⟨fun pins s σ H us ws Q I r h => by
    obtain ⟨F, ρ, μ, ds, Qd, S, R, rd, hg, hq⟩ := h
    cases ds with
    | nil => exact hg.elim
    | cons d ds =>
      obtain ⟨v, vr, rfl, rv, rr⟩ := rd
      refine (pgs_cons h1 h2 hs).run pins s σ H _ ws Q I r ⟨v, vr, rfl, F, ρ, μ, d, _, S, R, rv, hg, fun σ1 H1 ⟨F1, ρ1, μ1, g1, R1, hg1⟩ w1 => ?_⟩
      exact ⟨F1, ρ1, μ1, ds, Qd, g1.sim, R1, Reps.mono g1.ext _ _ rr, hg1, fun σ2 H2 q w2 => hq σ2 H2 (q.of g1) (w2.trans w1)⟩⟩
theorem dg_tup {es : List Expr} {k : Nat} {gs : DGs} (n : Nat) (hc : X.calm = true) (h : PGs X es (lGs X.K F0 vs gs)) (hg : ∀ ds ρ μ Q, gs ds ρ μ Q → ds.length = n)
    (hn : (assignEach es X.env).length = n := by rfl) (hst : (assignEach es X.env).findIdx? (·.1) = none := by rfl) : PG X (.Tuple es k pos) (lG X.K F0 vs (dgTup gs)) :=
  ⟨fun pins s σ H v u Q I r hh => by
    obtain ⟨F, ρ, μ, d, Qd, S, R, rd, hg', hq⟩ := hh
    cases d with
    | tup xs =>
      obtain ⟨p, us, h1, h2, h3⟩ := rd
      exact (pg_tup hc h hn hst).run pins s σ H v u Q I r ⟨p, us, h1, Same.seqT S.sub h2, by rw [h3.length]; exact hg _ _ _ _ hg', F, ρ, μ, xs, Qd, S, R, h3, hg', hq⟩
    | _ => exact hg'.elim⟩
theorem dg_lst {es : List Expr} {k : Nat} {gs : DGs} (n : Nat) (hc : X.calm = true) (h : PGs X es (lGs X.K F0 vs gs)) (hg : ∀ ds ρ μ Q, gs ds ρ μ Q → ds.length = n)
    (hn : (assignEach es X.env).length = n := by rfl) (hst : (assignEach es X.env).findIdx? (·.1) = none := by rfl) : PG X (.Tuple es k pos) (lG X.K F0 vs (dgLst gs)) :=
  ⟨fun pins s σ H v u Q I r hh => by
    obtain ⟨F, ρ, μ, d, Qd, S, R, rd, hg', hq⟩ := hh
    cases d with
    | lst xs =>
      obtain ⟨p, us, h1, h2, h3⟩ := rd
      exact (pg_unl hc h hn hst).run pins s σ H v u Q I r ⟨p, us, h1, S.sub.seq h2, by rw [h3.length]; exact hg _ _ _ _ hg', F, ρ, μ, xs, Qd, S, R, h3, hg', hq⟩
    | _ => exact hg'.elim⟩
theorem gl_nil {ds : List D} {ρ : En} {μ : Mu} {Q} (h : dgNil ds ρ μ Q) : ds.length = 0 := by
  cases ds with
  | nil => rfl
  | cons d r => exact h.elim
theorem gl_cons {n : Nat} {g : DG} {gs : DGs} (hg : ∀ ds ρ μ Q, gs ds ρ μ Q → ds.length = n) (hg1 : ∀ d ρ μ Q, g d ρ μ Q → ∃ ρ' μ', Q ρ' μ') (ds : List D) (ρ : En) (μ : Mu) (Q) (h : dgCons g gs ds ρ μ Q) : ds.length = n + 1 := by
  cases ds with
  | nil => exact h.elim
  | cons d r =>
    obtain ⟨ρ', μ', h'⟩ := hg1 _ _ _ _ h
    show r.length + 1 = n + 1
    rw [hg _ _ _ _ h']
theorem gx_name {i : Nat} (d : D) (ρ : En) (μ : Mu) (Q) (h : dgName i d ρ μ Q) : ∃ ρ' μ', Q ρ' μ' := ⟨_, _, h⟩
theorem gxs_nil (d : List D) (ρ : En) (μ : Mu) (Q) (h : dgNil d ρ μ Q) : ∃ ρ' μ', Q ρ' μ' := by
  cases d with
  | nil => exact ⟨_, _, h⟩
  | cons d r => exact h.elim
theorem gxs_cons {g : DG} {gs : DGs} (h1 : ∀ d ρ μ Q, g d ρ μ Q → ∃ ρ' μ', Q ρ' μ') (h2 : ∀ d ρ μ Q, gs d ρ μ Q → ∃ ρ' μ', Q ρ' μ') (d : List D) (ρ : En) (μ : Mu) (Q) (h : dgCons g gs d ρ μ Q) : ∃ ρ' μ', Q ρ' μ' := by
  cases d with
  | nil => exact h.elim
  | cons d r =>
    obtain ⟨ρ1, μ1, h3⟩ := h1 _ _ _ _ h
    exact h2 _ _ _ _ h3
theorem gx_tup {gs : DGs} (h2 : ∀ d ρ μ Q, gs d ρ μ Q → ∃ ρ' μ', Q ρ' μ') (d : D) (ρ : En) (μ : Mu) (Q) (h : dgTup gs d ρ μ Q) : ∃ ρ' μ', Q ρ' μ' := by
  cases d with
  | tup xs => exact h2 _ _ _ _ h
  | _ => exact h.elim
end

/-! ### assignments -/
def dAsg (te : DE) (g : DG) : DS := fun D ρ μ => te ρ μ fun x μ1 => g x ρ μ1 D.nx
def dPar (i j : Nat) (ta : DA) : DS := fun D ρ μ => ta ρ μ fun ds μ1 => match ds with
  | [v, w] => D.nx ((ρ.set i (some v)).set j (some w)) μ1
  | _ => False
section
variable {X : Cx} {F0 : Og} {pos : Pos} {vs : List Nat} {te : DE} {g : DG}
theorem lAsg {F : Hp} {σ : L2.St} {H : Hp} {ρ : En} {μ : Mu} {Dd : DEnds} {K : Fg} (S : Sim K F0 F H μ) (R : REnv K F ρ σ) (h : dAsg te g Dd ρ μ) : tAsg (lE K F0 te) (lG K F0 vs g) (uD K F0 F H μ Dd) σ H :=
  ⟨F, ρ, μ, _, S, R, h, fun x H1 ⟨F1, dx, μ1, g1, rx, h1⟩ => ⟨F1, ρ, μ1, dx, _, g1.sim, R.mono g1.ext, rx, h1, fun σ' H' q _ => q.of g1⟩⟩
theorem ds_asg {tg e : Expr} (he : PE X e (lE X.K F0 te)) (hg : PG X tg (lG X.K F0 vs g)) (hs : swapsWithSole [tg] e pos.line X.env = pure false := by rfl) (hw : swappedStores [tg] e X.env = pure none := by rfl)
    (h1 : (assignEach [tg] X.env).map (·.2) = [assign tg X.env] := by rfl) : PS X (.Assign [tg] e pos) (lS X.K F0 (dAsg te g)) := upS (ps_asg he hg hs hw h1) fun σ H F ρ μ Dd S R h => lAsg S R h
theorem lAsgN {i : Nat} {F : Hp} {σ : L2.St} {H : Hp} {ρ : En} {μ : Mu} {Dd : DEnds} {K : Fg} (S : Sim K F0 F H μ) (R : REnv K F ρ σ) (h : dAsg te (dgName i) Dd ρ μ) : tAsg (lE K F0 te) (gName i) (uD K F0 F H μ Dd) σ H :=
  ⟨F, ρ, μ, _, S, R, h, fun x H1 ⟨F1, dx, μ1, g1, rx, h1⟩ => ⟨F1, _, μ1, g1, (R.mono g1.ext).set rx, h1⟩⟩
theorem ds_set {i : Nat} {x : Str} {e : Expr} {pos' : Pos} (hN : X.N.Nodup) (hi : X.N[i]? = some x) (hx : Loc X.env.scope x) (he : PE X e (lE X.K F0 te)) (hs : swapsWith e (some (.Name x pos')) pos.line X.env = pure false := by rfl)
    (hf : X.fn x = true ∨ X.env.scope.names.lookup x = some .local := by first | exact .inl rfl | exact .inr rfl | assumption) : PS X (.Assign [.Name x pos'] e pos) (lS X.K F0 (dAsg te (dgName i))) := upS (ps_set hN hi hx he hs hf) fun σ H F ρ μ Dd S R h => lAsgN S R h
theorem ds_par {i j : Nat} {x y : Str} {a b : Expr} {ta : DA} {px py pt : Pos} {kt k2 pt2} (hc : X.calm = true) (hN : X.N.Nodup) (hi : X.N[i]? = some x) (hj : X.N[j]? = some y) (hij : i ≠ j)
    (hx : X.env.scope.names.lookup x = some .local) (hy : X.env.scope.names.lookup y = some .local) (ha : PA X [a, b] (lA X.K F0 ta))
    (hw : swappedStores [.Tuple [.Name x px, .Name y py] kt pt] (.Tuple [a, b] k2 pt2) X.env = pure (some [x, y]))
    (hs : swapsWithSole [.Tuple [.Name x px, .Name y py] kt pt] (.Tuple [a, b] k2 pt2) pos.line X.env = pure false := by rfl) :
    PS X (.Assign [.Tuple [.Name x px, .Name y py] kt pt] (.Tuple [a, b] k2 pt2) pos) (lS X.K F0 (dPar i j ta)) := upS (ps_par hc hN hi hj hij hx hy ha hw hs) fun σ H F ρ μ Dd S R h =>
  ⟨F, ρ, μ, _, S, R, h, fun us H1 ⟨F1, ds, μ1, g1, rs, h1⟩ => by
    dsimp only at h1
    split at h1
    · obtain ⟨v, w, rfl, rv, rw'⟩ := rs.un2
      exact ⟨v, w, rfl, F1, _, μ1, g1, ((R.mono g1.ext).set rv).set rw', h1⟩
    · exact h1.elim⟩
end

/-! ### what is walked -/
abbrev DI := En → Mu → (List D → Mu → Prop) → Prop
structure Ylds (K : Fg) (F0 : Og) (F : Hp) (J : It) (xs : List D) : Prop where
  go : ∀ (i : Nat) (H F' : Hp) (μ : Mu), i < xs.length → Same F F' → Sim K F0 F' H μ → J.go i H
  yl : ∀ (i : Nat) (H F' : Hp) (μ : Mu) (x : V) (H' : Hp), i < xs.length → Same F F' → Sim K F0 F' H μ → J.yld i H x H' → ∃ F'' d, Go K F0 F' H μ F'' H' μ ∧ xs[i]? = some d ∧ Rep K F'' d x
  st : ∀ (H F' : Hp) (μ : Mu), Same F F' → Sim K F0 F' H μ → J.stop xs.length H
def lI (K : Fg) (F0 : Og) (t : DI) : TI := fun σ H R => ∃ F ρ μ Rd, Sim K F0 F H μ ∧ REnv K F ρ σ ∧ t ρ μ Rd ∧ ∀ J H' F' xs μ', Go K F0 F H μ F' H' μ' → Ylds K F0 F' J xs → Rd xs μ' → R J H'
theorem upI {X : Cx} {F0 : Og} {tg iter : Expr} {t : DI} {wi : TI} (h : PI X tg iter wi) (hh : ∀ σ H F ρ μ Rd, Sim X.K F0 F H μ → REnv X.K F ρ σ → t ρ μ Rd → ∀ R : It → Hp → Prop, (∀ J H' F' xs μ', Go X.K F0 F H μ F' H' μ' → Ylds X.K F0 F' J xs → Rd xs μ' → R J H') → wi σ H R) : PI X tg iter (lI X.K F0 t) :=
  ⟨fun pins s σ H R I h' => by
    obtain ⟨F, ρ, μ, Rd, S, Re, ht, hq⟩ := h'
    exact h.run pins s σ H R I (hh σ H F ρ μ Rd S Re ht R hq)⟩
/-- a list's, a tuple's items -/
def diLst (t : DE) : DI := fun ρ μ R => t ρ μ fun x μ1 => match x with
  | .lst xs => R xs μ1
  | _ => False
def diTup (t : DE) : DI := fun ρ μ R => t ρ μ fun x μ1 => match x with
  | .tup xs => R xs μ1
  | _ => False
def rngD (lo : Int) (n : Nat) : List D := (List.range n).map fun i => .int (lo + (i : Nat))
def diRng1 (t : DA) : DI := fun ρ μ R => t ρ μ fun ds μ1 => match ds with
  | [.int j] => -(2 ^ 62) ≤ j ∧ j < 2 ^ 62 ∧ R (rngD 0 j.toNat) μ1
  | _ => False
def diRng2 (t : DA) : DI := fun ρ μ R => t ρ μ fun ds μ1 => match ds with
  | [.int i, .int j] => (-(2 ^ 62) ≤ i ∧ i < 2 ^ 62 ∧ -(2 ^ 62) ≤ j ∧ j < 2 ^ 62) ∧ R (rngD i (j - i).toNat) μ1
  | _ => False
section
variable {X : Cx} {F0 : Og} {tg : Expr} {K : Fg}
theorem yl_list {F : Hp} {a : Addr} {ds : List D} {vs : List V} (h : SqL K F a vs) (r : Reps K F ds vs) : Ylds K F0 F (Itl K a) ds where
  go := fun i H F' μ hi e S => ⟨vs, vs[i]'(by rw [r.length]; exact hi), S.sub.seq (e.seq h), List.getElem?_eq_getElem _⟩
  yl := fun i H F' μ x H' hi e S y => by
    obtain ⟨y1, y2⟩ := y
    subst y1
    have hx := y2 vs (S.sub.seq (e.seq h))
    obtain ⟨v, h1, h2⟩ := r.get (d := ds[i]) (List.getElem?_eq_getElem hi)
    rw [hx] at h1
    cases h1
    exact ⟨F', ds[i], .refl S, by simp [hi], Rep.mono e _ _ h2⟩
  st := fun H F' μ e S => ⟨vs, S.sub.seq (e.seq h), by rw [r.length]; exact Nat.le_refl _⟩
theorem yl_tup {F : Hp} {a : Addr} {ds : List D} {vs : List V} (h : SqT K F a vs) (r : Reps K F ds vs) : Ylds K F0 F (Itt K a) ds where
  go := fun i H F' μ hi e S => ⟨vs, vs[i]'(by rw [r.length]; exact hi), Same.seqT S.sub (Same.seqT e h), List.getElem?_eq_getElem _⟩
  yl := fun i H F' μ x H' hi e S y => by
    obtain ⟨y1, y2⟩ := y
    subst y1
    have hx := y2 vs (Same.seqT S.sub (Same.seqT e h))
    obtain ⟨v, h1, h2⟩ := r.get (d := ds[i]) (List.getElem?_eq_getElem hi)
    rw [hx] at h1
    cases h1
    exact ⟨F', ds[i], .refl S, by simp [hi], Rep.mono e _ _ h2⟩
  st := fun H F' μ e S => ⟨vs, Same.seqT S.sub (Same.seqT e h), by rw [r.length]; exact Nat.le_refl _⟩
theorem rngD_length (lo : Int) (n : Nat) : (rngD lo n).length = n := by simp [rngD]
theorem rngD_get {lo : Int} {n i : Nat} (h : i < n) : (rngD lo n)[i]? = some (.int (lo + (i : Nat))) := by simp [rngD, h]
theorem yl_rng {F : Hp} {lo : Int} {n : Nat} : Ylds K F0 F (Itr lo n) (rngD lo n) where
  go := fun i H F' μ hi e S => by
    rw [rngD_length] at hi
    exact hi
  yl := fun i H F' μ x H' hi e S y => by
    rw [rngD_length] at hi
    obtain ⟨y1, y2⟩ := y
    subst y1 y2
    exact ⟨F', .int (lo + (i : Nat)), .refl S, rngD_get hi, rfl⟩
  st := fun H F' μ e S => by
    rw [rngD_length]
    exact Nat.le_refl _
theorem di_lst {l : Expr} {tl : DE} (hl : PE X l (lE X.K F0 tl)) : PI X tg l (lI X.K F0 (diLst tl)) := upI (pi_list hl) fun σ H F ρ μ Rd S Re h R hq =>
  ⟨F, ρ, μ, _, S, Re, h, fun x H1 ⟨F1, dx, μ1, g1, rx, h1⟩ => by
    cases dx with
    | lst xs =>
      obtain ⟨p, us, h2, h3, h4⟩ := rx
      exact ⟨p, h2, ⟨us, g1.sim.sub.seq h3⟩, hq _ _ F1 xs μ1 g1 (yl_list h3 h4) h1⟩
    | _ => exact h1.elim⟩
theorem di_tup {l : Expr} {tl : DE} (hl : PE X l (lE X.K F0 tl)) : PI X tg l (lI X.K F0 (diTup tl)) := upI (pi_tup hl) fun σ H F ρ μ Rd S Re h R hq =>
  ⟨F, ρ, μ, _, S, Re, h, fun x H1 ⟨F1, dx, μ1, g1, rx, h1⟩ => by
    cases dx with
    | tup xs =>
      obtain ⟨p, us, h2, h3, h4⟩ := rx
      exact ⟨p, h2, ⟨us, Same.seqT g1.sim.sub h3⟩, hq _ _ F1 xs μ1 g1 (yl_tup h3 h4) h1⟩
    | _ => exact h1.elim⟩
theorem di_rng1 {a : Expr} {ta : DA} {p pos : Pos} (hg : Gl X "range") (hm : X.mg "range" = none) (ha : PA X [a] (lA X.K F0 ta)) (hs : starEach [a] X.env = [(false, eval a X.env)] := by rfl) : PI X tg (.Call (.Name "range" p) [a] [] pos) (lI X.K F0 (diRng1 ta)) :=
  upI (pi_range1 hg hm ha hs) fun σ H F ρ μ Rd S Re h R hq => ⟨F, ρ, μ, _, S, Re, h, fun us H1 ⟨F1, ds, μ1, g1, rs, h1⟩ => by
    dsimp only at h1
    split at h1
    · obtain ⟨v, rfl, rv⟩ := rs.un1
      exact ⟨_, by rw [show v = .int _ from rv], h1.1, h1.2.1, hq _ _ F1 _ μ1 g1 yl_rng h1.2.2⟩
    · exact h1.elim⟩
theorem di_rng2 {a b : Expr} {ta : DA} {p pos : Pos} (hg : Gl X "range") (hm : X.mg "range" = none) (ha : PA X [a, b] (lA X.K F0 ta)) (hs : starEach [a, b] X.env = [(false, eval a X.env), (false, eval b X.env)] := by rfl) (hs2 : starEach [b] X.env = [(false, eval b X.env)] := by rfl) :
    PI X tg (.Call (.Name "range" p) [a, b] [] pos) (lI X.K F0 (diRng2 ta)) :=
  upI (pi_range2 hg hm ha hs hs2) fun σ H F ρ μ Rd S Re h R hq => ⟨F, ρ, μ, _, S, Re, h, fun us H1 ⟨F1, ds, μ1, g1, rs, h1⟩ => by
    dsimp only at h1
    split at h1
    · obtain ⟨v, w, rfl, rv, rw'⟩ := rs.un2
      exact ⟨_, _, by rw [show v = .int _ from rv, show w = .int _ from rw'], h1.1, hq _ _ F1 _ μ1 g1 yl_rng h1.2⟩
    · exact h1.elim⟩
end

/-! ### loops -/
def dFor (src : DI) (g : DG) (tb : DS) : DS := fun D ρ μ => src ρ μ fun xs μ1 => ∃ Pv : Nat → En → Mu → Prop, Pv 0 ρ μ1 ∧
  (∀ (i : Nat) x ρ μ, xs[i]? = some x → Pv i ρ μ → g x ρ μ fun ρ2 μ2 => tb { D with nx := Pv (i + 1), ct := Pv (i + 1), bk := D.nx } ρ2 μ2) ∧ ∀ ρ μ, Pv xs.length ρ μ → D.nx ρ μ
def dWhile (c : DT) (tb : DS) : DS := fun D ρ μ => ∃ (Pv : Nat → En → Mu → Prop), (∃ m, Pv m ρ μ) ∧ ∀ m ρ μ, Pv m ρ μ → c ρ μ fun b μ1 => if b = true then tb { D with nx := fun ρ2 μ2 => ∃ m', m' < m ∧ Pv m' ρ2 μ2, ct := fun ρ2 μ2 => ∃ m', m' < m ∧ Pv m' ρ2 μ2, bk := D.nx } ρ μ1 else D.nx ρ μ1
section
variable {X : Cx} {F0 : Og} {pos : Pos} {vs : List Nat}
theorem ds_for {tg iter : Expr} {body : List Stmt} {src : DI} {g : DG} {tb : DS} (hp : PassesOwn (model X.prog X.w) X.A X.env X.xe) (hc : X.calm = true) (hi : PI X tg iter (lI X.K F0 src)) (hg : PG X tg (lG X.K F0 vs g)) (hb : PSs X body (lS X.K F0 tb))
    (hs : ∀ x, foldedSetIterable iter X.env x = pure x := by intro _; rfl) : PS X (.For tg iter body [] pos) (lS X.K F0 (dFor src g tb)) := upS (ps_for hp hc hi hg hb hs) fun σ H F ρ μ Dd S Re h => by
  refine ⟨F, ρ, μ, _, S, Re, h, fun J H1 F1 xs μ1 g1 Y ⟨Pv, h0, hstep, hd⟩ => ?_⟩
  refine ⟨fun i m σ' H' => m = xs.length - i ∧ i ≤ xs.length ∧ ∃ F2 ρ2 μ2, Go X.K F0 F1 H1 μ1 F2 H' μ2 ∧ REnv X.K F2 ρ2 σ' ∧ Pv i ρ2 μ2, ⟨xs.length, by simp, Nat.zero_le _, F1, ρ, μ1, .refl g1.sim, Re.mono g1.ext, h0⟩, ?_⟩
  rintro i m σ' H' ⟨rfl, hi, F2, ρ2, μ2, g2, R2, p2⟩
  by_cases hlt : i < xs.length
  · refine .inr ⟨Y.go i H' F2 μ2 hlt g2.ext g2.sim, fun σ3 H3 => ∃ F3 ρ3 μ3, Go X.K F0 F1 H1 μ1 F3 H3 μ3 ∧ REnv X.K F3 ρ3 σ3 ∧ Pv (i + 1) ρ3 μ3, fun σ3 H3 z => ⟨xs.length - (i + 1), by omega, rfl, hlt, z⟩, fun x H3 y => ?_⟩
    obtain ⟨F3, d, g3, hx, rx⟩ := Y.yl i H' F2 μ2 x H3 hlt g2.ext g2.sim y
    refine ⟨F3, ρ2, μ2, d, _, g3.sim, R2.mono g3.ext, rx, hstep i d ρ2 μ2 hx p2, fun σ4 H4 ⟨F4, ρ4, μ4, g4, R4, h4⟩ _ => ?_⟩
    refine ⟨F4, ρ4, μ4, _, g4.sim, R4, h4, ?_⟩
    have g14 := (g2.trans g3).trans g4
    have gf := g1.trans g14
    exact ⟨fun σ5 H5 ⟨F5, ρ5, μ5, g5, R5, q5⟩ => ⟨F5, ρ5, μ5, g14.trans g5, R5, q5⟩, fun v H5 q => q.of gf, fun σ5 H5 q => q.of gf, fun σ5 H5 ⟨F5, ρ5, μ5, g5, R5, q5⟩ => ⟨F5, ρ5, μ5, g14.trans g5, R5, q5⟩⟩
  · have ei : i = xs.length := by omega
    subst ei
    exact .inl ⟨Y.st H' F2 μ2 g2.ext g2.sim, F2, ρ2, μ2, g1.trans g2, R2, hd ρ2 μ2 p2⟩
theorem ds_while {c : Expr} {body : List Stmt} {tc : DT} {tb : DS} (hp : PassesOwn (model X.prog X.w) X.A X.env X.xe) (hc : PT X c (lT X.K F0 tc)) (hb : PSs X body (lS X.K F0 tb)) : PS X (.While c body [] pos) (lS X.K F0 (dWhile tc tb)) := upS (ps_while hp hc hb) fun σ H F ρ μ Dd S Re ⟨Pv, ⟨m0, h0⟩, hstep⟩ => by
  refine ⟨fun m σ' H' => ∃ F2 ρ2 μ2, Go X.K F0 F H μ F2 H' μ2 ∧ REnv X.K F2 ρ2 σ' ∧ Pv m ρ2 μ2, ⟨m0, F, ρ, μ, .refl S, Re, h0⟩, ?_⟩
  rintro m σ' H' ⟨F2, ρ2, μ2, g2, R2, p2⟩
  refine ⟨F2, ρ2, μ2, _, g2.sim, R2, hstep m ρ2 μ2 p2, fun b H3 ⟨F3, μ3, g3, h3⟩ => ?_⟩
  cases b with
  | true =>
    rw [if_pos rfl] at h3 ⊢
    have gf := g2.trans g3
    refine ⟨fun σ5 H5 => ∃ m', m' < m ∧ ∃ F2 ρ2 μ2, Go X.K F0 F H μ F2 H5 μ2 ∧ REnv X.K F2 ρ2 σ5 ∧ Pv m' ρ2 μ2, fun _ _ z => z, F3, ρ2, μ3, _, g3.sim, R2.mono g3.ext, h3, ?_⟩
    exact ⟨fun σ5 H5 ⟨F5, ρ5, μ5, g5, R5, m', hm, q5⟩ => ⟨m', hm, F5, ρ5, μ5, gf.trans g5, R5, q5⟩, fun v H5 q => q.of gf, fun σ5 H5 q => q.of gf, fun σ5 H5 ⟨F5, ρ5, μ5, g5, R5, m', hm, q5⟩ => ⟨m', hm, F5, ρ5, μ5, gf.trans g5, R5, q5⟩⟩
  | false =>
    rw [if_neg Bool.false_ne_true] at h3 ⊢
    exact ⟨F3, ρ2, μ3, g2.trans g3, R2.mono g3.ext, h3⟩
end

/-! ### comprehensions -/
def dYes : DT := fun _ μ Q => Q true μ
/-- vs: the comprehension's own slots; Pv: by the turn, the list so far, mu -/
def dLc (src : DI) (g : DG) (tt : DT) (te : DE) (vs : List Nat) : DE := fun ρ μ Q => src ρ μ fun xs μ1 => xs.length ≤ sizeLine ∧ ∃ Pv : Nat → List D → Mu → Prop, Pv 0 [] μ1 ∧
  (∀ (i : Nat) x acc μ, xs[i]? = some x → Pv i acc μ → g x (dwipe ρ vs) μ fun ρ2 μ2 => tt ρ2 μ2 fun b μ3 => if b = true then te ρ2 μ3 fun y μ4 => Pv (i + 1) (acc ++ [y]) μ4 else Pv (i + 1) acc μ3) ∧ ∀ acc μ, Pv xs.length acc μ → Q (.lst acc) μ
section
variable {X : Cx} {F0 : Og}
theorem dp_nil : PTs X [] (lT X.K F0 dYes) := ⟨fun pins s σ H Q I hw => by
  obtain ⟨F, ρ, μ, Qd, S, R, h, hq⟩ := hw
  exact pts_nil.run pins s σ H Q I (hq _ _ (.im (.refl S) h))⟩
theorem dp_one {c : Expr} {t : DT} (h : PT X c (lT X.K F0 t)) : PTs X [c] (lT X.K F0 t) := pts_one h
theorem lLc {src : DI} {g : DG} {tt : DT} {te : DE} {vs : List Nat} {F : Hp} {σ : L2.St} {H : Hp} {ρ : En} {μ : Mu} {Q : DQ} {K : Fg} (S : Sim K F0 F H μ) (Re : REnv K F ρ σ) (h : dLc src g tt te vs ρ μ Q) {Q' : VK} (hq : ∀ v H', uQ K F0 F H μ Q v H' → Q' v H') :
    tLc (lI K F0 src) (lG K F0 vs g) (lT K F0 tt) (lE K F0 te) vs σ H Q' := by
  refine ⟨F, ρ, μ, _, S, Re, h, fun J H1 F1 xs μ1 g1 Y ⟨hsz, Pv, h0, hstep, hd⟩ D hD => ?_⟩
  have S1 := g1.sim
  have hD0 := S1.free hD
  have hOD : ∀ b u, F0.h b = some u → F0.f b = none → F0.m b = none → b ≠ D := fun b u hb f m => ne_of_none (S1.kept b u hb f m).1 hD
  -- the list so far stands at D, outside F and mu
  have base : Sim K F0 F1 (upd H1 D (.lst [])) μ1 := ⟨S1.old, S1.kept.trans fun b u hb f m => ⟨same_upd hD b u hb, f, m⟩, fun b x e => by rw [upd_ne (ne_of_none e hD0.1)]; exact S1.sub _ _ e, fun a m e => by
    have ne : a ≠ D := fun z => by rw [z, hD0.2] at e; cases e
    obtain ⟨q1, q2⟩ := S1.mu a m e
    exact ⟨q1, q2.heap (upd_ne ne)⟩⟩
  refine ⟨fun i m H' => m = xs.length - i ∧ i ≤ xs.length ∧ ∃ F2 μ2 acc accV, Same F1 F2 ∧ Sim K F0 F2 H' μ2 ∧ Keep F1 H1 μ1 F2 H' μ2 ∧ H' D = some (.lst accV) ∧ F2 D = none ∧ μ2 D = none ∧ Reps K F2 acc accV ∧ acc.length ≤ i ∧ Pv i acc μ2,
    ⟨xs.length, by simp, Nat.zero_le _, F1, μ1, [], [], .refl _, base, fun b u hb f m => ⟨same_upd hD b u hb, f, m⟩, upd_same, hD0.1, hD0.2, rfl, Nat.le_refl _, h0⟩, ?_⟩
  rintro i m H' ⟨rfl, hi, F2, μ2, acc, accV, e2, S2, k2, hD2, fD2, mD2, r2, l2, p2⟩
  by_cases hlt : i < xs.length
  · refine .inr ⟨Y.go i H' F2 _ hlt e2 S2, fun H3 => ∃ F2 μ2 acc accV, Same F1 F2 ∧ Sim K F0 F2 H3 μ2 ∧ Keep F1 H1 μ1 F2 H3 μ2 ∧ H3 D = some (.lst accV) ∧ F2 D = none ∧ μ2 D = none ∧ Reps K F2 acc accV ∧ acc.length ≤ i + 1 ∧ Pv (i + 1) acc μ2,
      fun H3 z => ⟨xs.length - (i + 1), by omega, rfl, hlt, z⟩, fun x H3 y => ?_⟩
    obtain ⟨F3, d, g3, hx, rx⟩ := Y.yl i H' F2 _ x H3 hlt e2 S2 y
    refine ⟨F3, _, μ2, d, _, g3.sim, (Re.mono ((g1.ext.trans e2).trans g3.ext)).wipe vs, rx, hstep i d acc μ2 hx p2, fun σ4 H4 ⟨F4, ρ4, μ4, g4, R4, h4⟩ w4 => ⟨?_, F4, ρ4, μ4, _, g4.sim, R4, h4, fun b H5 ⟨F5, μ5, g5, h5⟩ => ?_⟩⟩
    · have ww : ∀ (τ : L2.St) (us : List Nat), (∀ i ∈ us, i ∈ vs) → wipe (wipe τ vs) us = wipe τ vs := by
        intro τ us
        induction us with
        | nil => intro _; rfl
        | cons k r ih =>
          intro hk
          show (wipe (wipe τ vs) r).set k none = _
          rw [ih fun i hi => hk i (List.mem_cons_of_mem _ hi)]
          apply List.ext_getElem?
          intro j
          by_cases hj : k = j
          · subst hj
            have hin := hk k List.mem_cons_self
            by_cases hl : k < (wipe τ vs).length
            · rw [List.getElem?_set_self hl]
              have : ∀ (us : List Nat), k ∈ us → (wipe τ us)[k]? = some none := by
                intro us
                induction us with
                | nil => intro h; simp at h
                | cons a r ih2 =>
                  intro h
                  show ((wipe τ r).set a none)[k]? = _
                  by_cases ha : a = k
                  · subst ha
                    rw [List.getElem?_set_self (by rw [wipe_length] at hl ⊢; exact hl)]
                  · rw [List.getElem?_set_ne ha]
                    exact ih2 (by rcases List.mem_cons.mp h with z | z; exact absurd z.symm ha; exact z)
              exact (this vs hin).symm
            · rw [List.getElem?_eq_none (by rw [List.length_set]; omega), List.getElem?_eq_none (by omega)]
          · rw [List.getElem?_set_ne hj]
      exact w4.trans (ww σ vs fun _ h => h)
    · have g35 := (g3.trans g4).trans g5
      dsimp only at h5 ⊢
      cases b with
      | true =>
        rw [if_pos rfl] at h5 ⊢
        refine ⟨F5, ρ4, μ5, _, g5.sim, R4.mono g5.ext, h5, fun y H6 ⟨F6, dy, μ6, g6, ry, h6⟩ => ?_⟩
        have g26 := g35.trans g6
        obtain ⟨q1, q2, q3⟩ := g26.keep D _ hD2 fD2 mD2
        have rl := (Reps.mono g26.ext _ _ r2).length
        refine ⟨accV, q1, by rw [rl]; omega, F6, μ6, acc ++ [dy], accV ++ [y], e2.trans g26.ext, ?_, fun b u hb f m => ?_, upd_same, q2, q3, (Reps.mono g26.ext _ _ r2).append (.one ry), by rw [List.length_append, List.length_singleton]; omega, h6⟩
        · exact ⟨g26.sim.old, fun b u hb f m => by
            obtain ⟨z1, z2, z3⟩ := g26.sim.kept b u hb f m
            exact ⟨by rw [upd_ne (hOD b u hb f m)]; exact z1, z2, z3⟩, fun b x e => by rw [upd_ne (ne_of_none e q2)]; exact g26.sim.sub _ _ e, fun a m e => by
            have ne : a ≠ D := fun z => by rw [z, q3] at e; cases e
            obtain ⟨z1, z2⟩ := g26.sim.mu a m e
            exact ⟨z1, z2.heap (upd_ne ne)⟩⟩
        · obtain ⟨z1, z2, z3⟩ := k2 b u hb f m
          obtain ⟨y1, y2, y3⟩ := g26.keep b u z1 z2 z3
          exact ⟨by rw [upd_ne (ne_of_none hb hD)]; exact y1, y2, y3⟩
      | false =>
        rw [if_neg Bool.false_ne_true] at h5 ⊢
        obtain ⟨q1, q2, q3⟩ := g35.keep D _ hD2 fD2 mD2
        exact ⟨F5, μ5, acc, accV, e2.trans g35.ext, g35.sim, k2.trans g35.keep, q1, q2, q3, Reps.mono g35.ext _ _ r2, by omega, h5⟩
  · have ei : i = xs.length := by omega
    subst ei
    refine .inl ⟨Y.st H' F2 _ e2 S2, hq _ _ ?_⟩
    obtain ⟨e3, S3⟩ := S2.adopt hD2 fD2 mD2 hOD
    refine ⟨_, .lst acc, μ2, ⟨(g1.ext.trans e2).trans e3, S3, fun b u hb f m => ?_⟩, ⟨D, accV, rfl, .of upd_same, Reps.mono e3 _ _ r2⟩, hd acc μ2 p2⟩
    obtain ⟨z1, z2, z3⟩ := g1.keep b u hb f m
    obtain ⟨y1, y2, y3⟩ := k2 b u z1 z2 z3
    exact ⟨y1, by rw [upd_ne (ne_of_none z1 hD)]; exact y2, y3⟩
theorem d_lc {elt tg iter : Expr} {ifs : List Expr} {scope : Scope} {own : List (Str × Nat)} {pos : Pos} {src : DI} {g : DG} {tt : DT} {te : DE} (hc : X.calm = true) (hN : X.N.Nodup) (hi : PI X tg iter (lI X.K F0 src)) (ok : BlkOk X.N X.env.scope scope own)
    (hg : ∀ (s : Shared) (H : Hp) (C : Addr) (cl : List (Str × Addr)) (fp : List Addr), PG (X.blk s H scope (compEnvC scope cl C X.env) fp) tg (lG X.K F0 (own.map (·.2)) g)) (ht : ∀ (s : Shared) (H : Hp) (C : Addr) (cl : List (Str × Addr)) (fp : List Addr), PTs (X.blk s H scope (compEnvC scope cl C X.env) fp) ifs (lT X.K F0 tt))
    (he : ∀ (s : Shared) (H : Hp) (C : Addr) (cl : List (Str × Addr)) (fp : List Addr), PE (X.blk s H scope (compEnvC scope cl C X.env) fp) elt (lE X.K F0 te)) (hs : ∀ x, foldedSetIterable iter X.env x = pure x := by intro _; rfl) :
    PE X (.ListComp elt [⟨tg, iter, ifs, 0⟩] scope pos) (lE X.K F0 (dLc src g tt te (own.map (·.2)))) :=
  upE (pe_lc hc hN hi ok hg ht he hs) fun σ H F ρ μ Q S Re h => lLc S Re h fun _ _ z => z
theorem ds_setLc {i : Nat} {y : Str} {py : Pos} {elt tg iter : Expr} {ifs : List Expr} {scope : Scope} {own : List (Str × Nat)} {pos spos : Pos} {src : DI} {g : DG} {tt : DT} {te : DE} (hc : X.calm = true) (hN : X.N.Nodup) (hy : X.N[i]? = some y) (hyl : X.env.scope.names.lookup y = some .local)
    (hsw : swapsWith (.ListComp elt [⟨tg, iter, ifs, 0⟩] scope pos) (some (.Name y py)) spos.line X.env = pure true) (hi : PI X tg iter (lI X.K F0 src)) (ok : BlkOk X.N X.env.scope scope own)
    (hg : ∀ (s : Shared) (H : Hp) (C : Addr) (cl : List (Str × Addr)) (fp : List Addr), PG (X.blk s H scope (compEnvC scope cl C X.env) fp) tg (lG X.K F0 (own.map (·.2)) g)) (ht : ∀ (s : Shared) (H : Hp) (C : Addr) (cl : List (Str × Addr)) (fp : List Addr), PTs (X.blk s H scope (compEnvC scope cl C X.env) fp) ifs (lT X.K F0 tt))
    (he : ∀ (s : Shared) (H : Hp) (C : Addr) (cl : List (Str × Addr)) (fp : List Addr), PE (X.blk s H scope (compEnvC scope cl C X.env) fp) elt (lE X.K F0 te)) (hs : ∀ x, foldedSetIterable iter X.env x = pure x := by intro _; rfl) :
    PS X (.Assign [.Name y py] (.ListComp elt [⟨tg, iter, ifs, 0⟩] scope pos) spos) (lS X.K F0 (dAsg (dLc src g tt te (own.map (·.2))) (dgName i))) :=
  upS (ps_setLc hc hN hy hyl hsw hi ok hg ht he hs) fun σ H F ρ μ Dd S Re h => lLc (Q := fun x μ1 => Dd.nx (ρ.set i (some x)) μ1) S Re h fun v H' ⟨F1, d, μ1, g1, rv, h1⟩ => ⟨F1, _, μ1, g1, (Re.mono g1.ext).set rv, h1⟩
end

/-! ### calls of defs -/
/-- a def's promise over data: arguments, mu, what is wanted of the answer, of an error (by its class) -/
abbrev DSp := List D → Mu → DQ → (Value → Mu → Prop) → Prop
def lSp (K : Fg) (sp : DSp) : Sp := fun vs H Q E => ∃ F ds μ Qd Ed, Sim K ⟨F, H, μ⟩ F H μ ∧ Reps K F ds vs ∧ sp ds μ Qd Ed ∧ (∀ v H', uQ K ⟨F, H, μ⟩ F H μ Qd v H' → Q v H') ∧ ∀ cls F' H' μ', Sim K ⟨F, H, μ⟩ F' H' μ' → Ed cls μ' → E cls none H'
def dCallF (sp : DSp) (t : DA) : DE := fun ρ μ Q => t ρ μ fun ds μ1 => sp ds μ1 Q fun _ _ => False
theorem Sim.self {K : Fg} {F0 : Og} {F H : Hp} {μ : Mu} (S : Sim K F0 F H μ) : Sim K ⟨F, H, μ⟩ F H μ := ⟨.refl _, .refl _ _ _, S.sub, S.mu⟩
theorem Go.base {K : Fg} {F0 : Og} {F H F' H' : Hp} {μ μ' : Mu} (S : Sim K F0 F H μ) (g : Go K ⟨F, H, μ⟩ F H μ F' H' μ') : Go K F0 F H μ F' H' μ' := ⟨g.ext, ⟨S.old.trans g.ext, S.kept.trans g.keep, g.sim.sub, g.sim.mu⟩, g.keep⟩
section
variable {X : Cx} {F0 : Og} {CX : CXT} {k : Nat} {f : Addr} {fd : FuncData} {ps : List Str} {sp : DSp} {x : Str} {p pos : Pos} {e : Expr} {es : List Expr} {t : DA}
theorem lCallF {σ : L2.St} {H F : Hp} {ρ : En} {μ : Mu} {Q : DQ} (S : Sim X.K F0 F H μ) (R : REnv X.K F ρ σ) (h : dCallF sp t ρ μ Q) : tCall (lSp X.K sp) [] E0 (lA X.K F0 t) σ H (uQ X.K F0 F H μ Q) :=
  ⟨F, ρ, μ, _, S, R, h, fun xs H1 ⟨F1, ds, μ1, g1, rs, h1⟩ => by
    dsimp only
    rw [List.append_nil]
    exact ⟨F1, ds, μ1, Q, fun _ _ => False, g1.sim.self, rs, h1, fun v H' ⟨F2, d, μ2, g2, rd, h2⟩ => ⟨F2, d, μ2, g1.trans (.base g1.sim g2), rd, h2⟩, fun _ _ _ _ _ z => z.elim⟩⟩
theorem d_call (F : FnOk X.prog X.w X.K X.mg X.base CX k f fd ps (lSp X.K sp)) (hx : Passes CX X E0) (hr : Room k X.A) (hg : Gl X x) (hm : X.mg x = some (.ref f)) (hk : PySem.W.keepIn X.K (.ref f) = true) (hb : Binds X.K fd ps [])
    (ha : PA X (e :: es) (lA X.K F0 t)) (hdb : (x == ("__debug__" : Str)) = false := by decide) (he : starEach (e :: es) X.env = (false, eval e X.env) :: starEach es X.env := by rfl) (hpl : (backTo pos (starEach es X.env)).any (·.1) = false := by rfl) :
    PE X (.Call (.Name x p) (e :: es) [] pos) (lE X.K F0 (dCallF sp t)) :=
  upE (pe_call F hr hg hm hk hb .nil hx ha hdb he hpl) fun σ H F ρ μ Q S R h => lCallF S R h
theorem d_call0 (F : FnOk X.prog X.w X.K X.mg X.base CX k f fd ps (lSp X.K sp)) (hx : Passes CX X E0) (hr : Room k X.A) (hg : Gl X x) (hm : X.mg x = some (.ref f)) (hk : PySem.W.keepIn X.K (.ref f) = true) (hb : Binds X.K fd ps []) (hdb : (x == ("__debug__" : Str)) = false := by decide) :
    PE X (.Call (.Name x p) [] [] pos) (lE X.K F0 (dCallF sp dNil)) :=
  upE (pe_call0 F hr hg hm hk hb .nil hx hdb) fun σ H F ρ μ Q S R h => ⟨F, [], μ, Q, fun _ _ => False, S.self, rfl, h, fun v H' ⟨F2, d, μ2, g2, rd, h2⟩ => ⟨F2, d, μ2, .base S g2, rd, h2⟩, fun _ _ _ _ _ z => z.elim⟩
/-- THE RULE for a def that raises nothing: its body over data keeps its promise -/
theorem dfun {P : Program} {w : World} {K : Fg} {mg : Str → Option Value} {base : Heap} {x qual : Str} {st : Stmt} {f : Addr} {fd : FuncData} {N ps : List Str} {k : Nat} {sp : DSp} (F : Fun K x qual st f fd) (S : FnScope N ps (defScope st))
    (len : ∀ ds μ Q E, sp ds μ Q E → ds.length = ps.length)
    (t : DS) (hbody : ∀ (F0 : Og) (cdv : Value) (A : Around) (outer : List Env) (s : Shared) (H : Hp) (E : XK), Room k (A.deeper (envOfC qual (defScope st) s.heap.objs.size f cdv)) → PSs (cxOf CX0 P w K mg base N qual (defScope st) f cdv A outer s H E).nox (defBody st) (lS K F0 t))
    (hread : ∀ ds μ Q E, sp ds μ Q E → t { nx := fun _ μ' => Q .non μ', rt := Q } (ds.map some ++ List.replicate (N.length - ds.length) none) μ) : FnOk P w K mg base CX0 (k + 1) f fd ps (lSp K sp) := by
  refine F.ok S (fun vs H Q E h => ?_) (fun cdv A outer s H vs Q E hr h => ?_)
  · obtain ⟨F, ds, μ, Qd, Ed, Sm, r, h1, _⟩ := h
    rw [r.length]
    exact len _ _ _ _ h1
  · obtain ⟨F1, ds, μ, Qd, Ed, Sm, r, h1, hq, _⟩ := h
    refine ⟨_, hbody ⟨F1, H, μ⟩ cdv A outer s H E hr, F1, _, μ, _, Sm, REnv.start r, hread _ _ _ _ h1, ?_⟩
    exact ⟨fun σ H' ⟨F2, ρ2, μ2, g2, _, q⟩ => hq _ _ ⟨F2, .non, μ2, g2, rfl, q⟩, hq, fun _ _ ⟨_, _, _, _, _, z⟩ => z, fun _ _ ⟨_, _, _, _, _, z⟩ => z⟩
end
end DL

-- text DL5
set_option Elab.async false
set_option linter.all false
set_option maxRecDepth 100000
set_option maxHeartbeats 2000000
/-! DL5: zip of two, of three, enumerate, over lists and tuples in any mix. -/
namespace DL
open PySem PySem.Spec PyProof.Rows L2

/-- a list or a tuple, as it is walked -/
inductive Kd where
  | l | t
def Kd.it : Kd → Heap → Addr → Addr → Nat → Prop
  | .l, h, i, a, n => h.IsListIter i a n
  | .t, h, i, a, n => h.IsTupleIter i a n
def Kd.isq : Kd → Heap → Addr → Array Value → Prop
  | .l, h, a, vs => h.IsList a vs
  | .t, h, a, vs => h.IsTuple a vs
def Kd.sq : Kd → Fg → Hp → Addr → List V → Prop
  | .l, K, H, a, xs => SqL K H a xs
  | .t, K, H, a, xs => SqT K H a xs
def Kd.ob : Kd → Addr → Obj
  | .l, a => { cls := .type "list_iterator", data := .fields #[.ref a, .int 0 0] }
  | .t, a => { cls := .type "tuple_iterator", data := .fields #[.ref a, .int 0 0] }
def Kd.d : Kd → List D → D
  | .l, xs => .lst xs
  | .t, xs => .tup xs
section
variable {k : Kd} {h h' : Heap} {i a : Addr} {n : Nat}
theorem Kd.obj (st : k.it h i a n) : ∃ o, h.get? i = some o ∧ ∀ v, o.data ≠ .cell v := by
  cases k with
  | l =>
    obtain ⟨o, ho, hc, hd⟩ := st
    exact ⟨o, ho, fun v q => by rw [hd] at q; cases q⟩
  | t =>
    obtain ⟨o, ho, hc, hd⟩ := st
    exact ⟨o, ho, fun v q => by rw [hd] at q; cases q⟩
theorem Kd.at (st : k.it h i a n) (e : ∀ o, h.get? i = some o → h'.get? i = some o) : k.it h' i a n := by
  cases k with
  | l => exact Heap.IsListIter.at st e
  | t => exact Heap.IsTupleIter.at st e
theorem Kd.qat {vs : Array Value} (st : k.isq h a vs) (e : ∀ o, h.get? a = some o → h'.get? a = some o) : k.isq h' a vs := by
  cases k with
  | l => exact Heap.IsList.at st e
  | t => exact Heap.IsTuple.at st e
theorem Kd.draws (prog : Program) (w : World) (A : Around) (hh : A.handled = none) (k : Kd) (it l : Addr) (hne : l ≠ it) (items : Array Value) :
    Draws prog w A it [it, l] items.size (fun i v => items[i]? = some v) (fun i h => k.it h it l i ∧ k.isq h l items) := by
  cases k with
  | l => exact Draws.list hh it l hne items
  | t => exact Draws.tuple hh it l hne items
theorem Kd.begins (k : Kd) (l : Addr) (items : Array Value) : Begins (.ref l) (k.ob l) (fun h => k.isq h l items) := by
  cases k with
  | l => exact begins_list l items
  | t => exact begins_tuple l items
theorem Kd.it0 (e : h.get? i = some (k.ob a)) : k.it h i a 0 := by
  cases k with
  | l => exact ⟨_, e, rfl, rfl⟩
  | t => exact ⟨_, e, rfl, rfl⟩
theorem Kd.lt {vs : Array Value} (st : k.isq h a vs) : a < h.objs.size := by
  cases k with
  | l => obtain ⟨o, ho, _⟩ := st; exact Heap.lt_size ho
  | t => obtain ⟨o, ho, _⟩ := st; exact Heap.lt_size ho
end
theorem Kd.inv {X : Cx} {pins : List (Addr × Obj)} {σ : L2.St} {H : Hp} {s : Shared} {k : Kd} {a : Addr} {xs : List V} (I : Inv X pins σ H s) (h : k.sq X.K H a xs) : ∃ its : List Value, Vals xs its ∧ k.isq s.heap a its.toArray := by
  cases k with
  | l =>
    obtain ⟨its, r, p, _⟩ := I.list h
    exact ⟨its, r, p.isList⟩
  | t =>
    obtain ⟨its, r, p, _⟩ := I.tuple h
    exact ⟨its, r, p⟩
theorem Kd.inj {X : Cx} {pins : List (Addr × Obj)} {σ : L2.St} {H : Hp} {s : Shared} {k : Kd} {a : Addr} {xs ys : List V} (I : Inv X pins σ H s) (h : k.sq X.K H a xs) (h' : k.sq X.K H a ys) : xs = ys := by
  cases k with
  | l => exact I.list_inj h h'
  | t => exact I.tuple_inj h h'

/-- a tuple of values just laid -/
theorem tup_new {X : Cx} {H : Hp} {h' : Heap} {T : Addr} {xs : List V} {us : List Value} (r : Vals xs us) (hz : xs.length ≤ sizeLine) (hT : h'.IsTuple T us.toArray) : ObjOk X.prog X.w (upd H T (.tup xs)) h' T (.tup xs) := ⟨hz, us, r, hT⟩

/-! ### zip of three -/
def Itz3 (K : Fg) (k1 k2 k3 : Kd) (a b c : Addr) : It :=
  ⟨fun i H => ∃ (xs ys zs : List V) (x y z : V), k1.sq K H a xs ∧ k2.sq K H b ys ∧ k3.sq K H c zs ∧ xs[i]? = some x ∧ ys[i]? = some y ∧ zs[i]? = some z,
    fun i H v H' => ∃ T x y z, v = .ref T ∧ H T = none ∧ H' = upd H T (.tup [x, y, z]) ∧ (∀ xs, k1.sq K H a xs → xs[i]? = some x) ∧ (∀ ys, k2.sq K H b ys → ys[i]? = some y) ∧ ∀ zs, k3.sq K H c zs → zs[i]? = some z,
    fun i H => ∃ xs ys zs : List V, k1.sq K H a xs ∧ k2.sq K H b ys ∧ k3.sq K H c zs ∧ xs.length = i ∧ ys.length = i ∧ zs.length = i⟩
theorem turn_zip3 {P : Program} {w : World} {K : Fg} {elts : List Expr} {kk : Nat} {tpos : Pos} {k1 k2 k3 : Kd} {a b c z TI TO i1 i2 i3 : Addr} (hs : ∀ (na : a ≠ i1) (nb : b ≠ i2) (nc : c ≠ i3), ZipSep3 z TI TO i1 i2 i3 [i1, a] [i2, b] [i3, c]) (na : a ≠ i1) (nb : b ≠ i2) (nc : c ≠ i3) :
    Turn P w K (.Tuple elts kk tpos) (Itz3 K k1 k2 k3 a b c) [z, TI, TO, i1, i2, i3] z (fun i h => IsZip h z TI TO .none ∧ IsTupOf3 h TI (.ref i1) (.ref i2) (.ref i3) ∧ (∃ x y u, IsTupOf3 h TO x y u) ∧ k1.it h i1 a i ∧ k2.it h i2 b i ∧ k3.it h i3 c i) where
  mem := by simp
  obj := fun i h st d hd => by
    obtain ⟨hz, hTI, ⟨x, y, u, hTO⟩, s1, s2, s3⟩ := st
    have e' : d = z ∨ d = TI ∨ d = TO ∨ d = i1 ∨ d = i2 ∨ d = i3 := by simpa using hd
    rcases e' with q | q | q | q | q | q
    · rw [q]; exact ⟨_, hz, fun v q => nomatch q⟩
    · rw [q]; exact ⟨_, hTI, fun v q => nomatch q⟩
    · rw [q]; exact ⟨_, hTO, fun v q => nomatch q⟩
    · rw [q]; exact Kd.obj s1
    · rw [q]; exact Kd.obj s2
    · rw [q]; exact Kd.obj s3
  keep := fun i h h' st k => by
    obtain ⟨hz, hTI, ⟨x, y, u, hTO⟩, s1, s2, s3⟩ := st
    exact ⟨k z (by simp) _ hz, k TI (by simp) _ hTI, ⟨x, y, u, k TO (by simp) _ hTO⟩, Kd.at s1 fun o q => k i1 (by simp) o q, Kd.at s2 fun o q => k i2 (by simp) o q, Kd.at s3 fun o q => k i3 (by simp) o q⟩
  item := by
    intro X hP hw hK hc i pins s σ H E I hf st hg
    subst hP hw hK
    obtain ⟨hz, hTI, hTO, s1, s2, s3⟩ := st
    obtain ⟨xs, ys, zs, x, y, u, qx, qy, qz, hx, hy, hu⟩ := hg
    obtain ⟨its, r1, p1⟩ := Kd.inv I qx
    obtain ⟨its2, r2, p2⟩ := Kd.inv I qy
    obtain ⟨its3, r3, p3⟩ := Kd.inv I qz
    have hh : X.A.in1.handled = none := I.ok.hd hc
    have W := GoesN.zip3 (elts := elts) (x1 := kk) (pos := tpos) (hs na nb nc) (Kd.draws X.prog X.w _ hh k1 i1 a na its.toArray) (Kd.draws X.prog X.w _ hh k2 i2 b nb its2.toArray) (Kd.draws X.prog X.w _ hh k3 i3 c nc its3.toArray)
    have l1 := r1.length
    have l2 := r2.length
    have l3 := r3.length
    have g1 := (List.getElem?_eq_some_iff.mp hx).1
    have g2 := (List.getElem?_eq_some_iff.mp hy).1
    have g3 := (List.getElem?_eq_some_iff.mp hu).1
    refine W.goes i s _ E (by simp only [List.size_toArray]; omega) ⟨hz, hTI, hTO, ⟨s1, p1⟩, ⟨s2, p2⟩, ⟨s3, p3⟩⟩ fun v h' tk ⟨T, x', y', u', ev, hn, hx', hy', hu', hT⟩ st' hk htk => ?_
    obtain ⟨ux, hux, rx⟩ := r1.get hx
    obtain ⟨uy, huy, ry⟩ := r2.get hy
    obtain ⟨uz, huz, rz⟩ := r3.get hu
    have ex : ux = x' := Option.some.inj (hux.symm.trans (by simpa using hx'))
    have ey : uy = y' := Option.some.inj (huy.symm.trans (by simpa using hy'))
    have ez : uz = u' := Option.some.inj (huz.symm.trans (by simpa using hu'))
    subst ex ey ez ev
    have I1 : Inv X pins σ (upd H T (.tup [x, y, u])) { s with heap := h', toks := tk } :=
      I.turnedNew (ch := [z, TI, TO, i1, i2, i3]) (fun d o hb q => hk d o (fun q' => hb (by
        have e' : d = z ∨ d = TO ∨ d = i1 ∨ d = i2 ∨ d = i3 := by simpa using q'
        rcases e' with q | q | q | q | q <;> simp [q])) q) hf hn (tup_new (.cons rx (.cons ry (.cons rz .nil))) (by show 3 ≤ sizeLine; decide) hT)
    obtain ⟨z1, z2, z3, ⟨t1, _⟩, ⟨t2, _⟩, ⟨t3, _⟩⟩ := st'
    refine ⟨.ref T, _, I1, rfl, ⟨T, x, y, u, rfl, I.hok.fresh hn, rfl, fun l hl => by rw [Kd.inj I hl qx]; exact hx, fun l hl => by rw [Kd.inj I hl qy]; exact hy, fun l hl => by rw [Kd.inj I hl qz]; exact hu⟩, ⟨z1, z2, z3, t1, t2, t3⟩, fun d hd => ?_⟩
    have hlt : d < s.heap.objs.size := by
      have e' : d = z ∨ d = TI ∨ d = TO ∨ d = i1 ∨ d = i2 ∨ d = i3 := by simpa using hd
      obtain ⟨_, _, _, hTO⟩ := hTO
      rcases e' with q | q | q | q | q | q
      · rw [q]; exact Heap.lt_size hz
      · rw [q]; exact Heap.lt_size hTI
      · rw [q]; exact Heap.lt_size hTO
      · rw [q]; obtain ⟨_, e1, _⟩ := Kd.obj s1; exact Heap.lt_size e1
      · rw [q]; obtain ⟨_, e1, _⟩ := Kd.obj s2; exact Heap.lt_size e1
      · rw [q]; obtain ⟨_, e1, _⟩ := Kd.obj s3; exact Heap.lt_size e1
    rw [upd_ne (Nat.ne_of_lt (Nat.lt_of_lt_of_le hlt hn))]
    exact (hf d hd).1
  done := by
    intro X hP hw hK hc i pins s σ H E I hf st hg
    subst hP hw hK
    obtain ⟨hz, hTI, hTO, s1, s2, s3⟩ := st
    obtain ⟨xs, ys, zs, qx, qy, qz, e1, e2, e3⟩ := hg
    obtain ⟨its, r1, p1⟩ := Kd.inv I qx
    obtain ⟨its2, r2, p2⟩ := Kd.inv I qy
    obtain ⟨its3, r3, p3⟩ := Kd.inv I qz
    have hh : X.A.in1.handled = none := I.ok.hd hc
    have W := GoesN.zip3 (elts := elts) (x1 := kk) (pos := tpos) (hs na nb nc) (Kd.draws X.prog X.w _ hh k1 i1 a na its.toArray) (Kd.draws X.prog X.w _ hh k2 i2 b nb its2.toArray) (Kd.draws X.prog X.w _ hh k3 i3 c nc its3.toArray)
    have l1 := r1.length
    have l2 := r2.length
    have l3 := r3.length
    have en : i = min (min its.toArray.size its2.toArray.size) its3.toArray.size := by simp only [List.size_toArray]; omega
    rw [en] at s1 s2 s3
    exact W.stops s _ E ⟨hz, hTI, hTO, ⟨s1, p1⟩, ⟨s2, p2⟩, ⟨s3, p3⟩⟩ fun h' tk hk htk => I.turnedL (ch := [z, TI, TO, i1, i2, i3]) (fun d o hb q => hk d o (fun q' => hb (by
        have e' : d = z ∨ d = TO ∨ d = i1 ∨ d = i2 ∨ d = i3 := by simpa using q'
        rcases e' with q | q | q | q | q <;> simp [q])) q) hf
  self := fun A i s Q E st h => wpAny_pyIter_zip st.1 h
def iZip3 (K : Fg) (k1 k2 k3 : Kd) (ta : TA) : TI := fun σ H R => ta σ H fun vs H1 => ∃ a b c xs ys zs, vs = [.ref a, .ref b, .ref c] ∧ k1.sq K H1 a xs ∧ k2.sq K H1 b ys ∧ k3.sq K H1 c zs ∧ R (Itz3 K k1 k2 k3 a b c) H1
theorem pi_zip3 {X : Cx} {e e2 e3 : Expr} {ta : TA} {p pos tpos : Pos} {elts : List Expr} {kk : Nat} (k1 k2 k3 : Kd) (hg : Gl X "zip") (hm : X.mg "zip" = none) (ha : PA X [e, e2, e3] ta)
    (hs : starEach [e, e2, e3] X.env = (false, eval e X.env) :: starEach [e2, e3] X.env := by rfl) (hpl : (backTo pos (starEach [e2, e3] X.env)).any (·.1) = false := by rfl) :
    PI X (.Tuple elts kk tpos) (.Call (.Name "zip" p) [e, e2, e3] [] pos) (iZip3 X.K k1 k2 k3 ta) := by
  refine ⟨fun pins s σ H R I h => ?_⟩
  refine Call_ (ld_blt I hg hm PyProof.Rows.boot_zip (PyProof.Rows.callWith_type1 (thn (ha.run pos pins s σ H _ I h) fun us s1 ⟨vs, H1, I1, r1, q1⟩ => ?_) hs hpl))
  obtain ⟨a, b, c, xs, ys, zs, ex, qx, qy, qz, q⟩ := q1
  subst ex
  cases r1 with
  | cons ra rr => cases rr with
    | cons rb rr => cases rr with
      | cons rc rr =>
        cases rr
        cases ra
        cases rb
        cases rc
        obtain ⟨its, _, p1⟩ := Kd.inv I1 qx
        obtain ⟨its2, _, p2⟩ := Kd.inv I1 qy
        obtain ⟨its3, _, p3⟩ := Kd.inv I1 qz
        have la := Kd.lt p1
        have lb := Kd.lt p2
        have lc := Kd.lt p3
        refine zip_begins3 (k1.begins a _) (k2.begins b _) (k3.begins c _) p1 p2 p3 fun h' hz hTI hTO h1 h2 h3 hsz hk => wpAny_pyIter_zip hz ?_
        have I2 : Inv X pins σ H1 { s1 with heap := h' } := I1.kept (t' := s1.toks) hk
        have fresh : ∀ d, d ∈ [s1.heap.objs.size + 5, s1.heap.objs.size + 3, s1.heap.objs.size + 4, s1.heap.objs.size, s1.heap.objs.size + 1, s1.heap.objs.size + 2] → FpOk X pins H1 d := fun d hd => by
          have hle : s1.heap.objs.size ≤ d := by
            simp only [List.mem_cons, List.not_mem_nil, or_false] at hd
            rcases hd with z | z | z | z | z | z <;> rw [z]
            all_goals first | exact Nat.le_refl _ | exact Nat.le_add_right _ _
          exact I1.fpOk hle (I1.hok.fresh hle)
        refine ⟨s1.heap.objs.size + 5, [s1.heap.objs.size + 5, s1.heap.objs.size + 3, s1.heap.objs.size + 4, s1.heap.objs.size, s1.heap.objs.size + 1, s1.heap.objs.size + 2], _, _, H1, rfl, I2,
          turn_zip3 (k1 := k1) (k2 := k2) (k3 := k3) (fun _ _ _ => zip_sep3 (by intro x hx; rw [List.mem_singleton.mp hx]; exact la) (by intro x hx; rw [List.mem_singleton.mp hx]; exact lb) (by intro x hx; rw [List.mem_singleton.mp hx]; exact lc)) (Nat.ne_of_lt la) (Nat.ne_of_lt (Nat.lt_of_lt_of_le lb (Nat.le_add_right _ _))) (Nat.ne_of_lt (Nat.lt_of_lt_of_le lc (Nat.le_add_right _ _))),
          ⟨hz, hTI, ⟨_, _, _, hTO⟩, Kd.it0 h1, Kd.it0 h2, Kd.it0 h3⟩, fresh, q⟩
/-! ### zip of two -/
def Itz2 (K : Fg) (k1 k2 : Kd) (a b : Addr) : It :=
  ⟨fun i H => ∃ (xs ys : List V) (x y : V), k1.sq K H a xs ∧ k2.sq K H b ys ∧ xs[i]? = some x ∧ ys[i]? = some y,
    fun i H v H' => ∃ T x y, v = .ref T ∧ H T = none ∧ H' = upd H T (.tup [x, y]) ∧ (∀ xs, k1.sq K H a xs → xs[i]? = some x) ∧ (∀ ys, k2.sq K H b ys → ys[i]? = some y),
    fun i H => ∃ xs ys : List V, k1.sq K H a xs ∧ k2.sq K H b ys ∧ xs.length = i ∧ ys.length = i⟩
theorem turn_zip2 {P : Program} {w : World} {K : Fg} {elts : List Expr} {kk : Nat} {tpos : Pos} {k1 k2 : Kd} {a b z TI TO i1 i2 : Addr} (hs : ∀ (na : a ≠ i1) (nb : b ≠ i2), ZipSep2 z TI TO i1 i2 [i1, a] [i2, b]) (na : a ≠ i1) (nb : b ≠ i2) :
    Turn P w K (.Tuple elts kk tpos) (Itz2 K k1 k2 a b) [z, TI, TO, i1, i2] z (fun i h => IsZip h z TI TO .none ∧ IsTupOf2 h TI (.ref i1) (.ref i2) ∧ (∃ x y, IsTupOf2 h TO x y) ∧ k1.it h i1 a i ∧ k2.it h i2 b i) where
  mem := by simp
  obj := fun i h st d hd => by
    obtain ⟨hz, hTI, ⟨x, y, hTO⟩, s1, s2⟩ := st
    have e' : d = z ∨ d = TI ∨ d = TO ∨ d = i1 ∨ d = i2 := by simpa using hd
    rcases e' with q | q | q | q | q
    · rw [q]; exact ⟨_, hz, fun v q => nomatch q⟩
    · rw [q]; exact ⟨_, hTI, fun v q => nomatch q⟩
    · rw [q]; exact ⟨_, hTO, fun v q => nomatch q⟩
    · rw [q]; exact Kd.obj s1
    · rw [q]; exact Kd.obj s2
  keep := fun i h h' st k => by
    obtain ⟨hz, hTI, ⟨x, y, hTO⟩, s1, s2⟩ := st
    exact ⟨k z (by simp) _ hz, k TI (by simp) _ hTI, ⟨x, y, k TO (by simp) _ hTO⟩, Kd.at s1 fun o q => k i1 (by simp) o q, Kd.at s2 fun o q => k i2 (by simp) o q⟩
  item := by
    intro X hP hw hK hc i pins s σ H E I hf st hg
    subst hP hw hK
    obtain ⟨hz, hTI, hTO, s1, s2⟩ := st
    obtain ⟨xs, ys, x, y, qx, qy, hx, hy⟩ := hg
    obtain ⟨its, r1, p1⟩ := Kd.inv I qx
    obtain ⟨its2, r2, p2⟩ := Kd.inv I qy
    have hh : X.A.in1.handled = none := I.ok.hd hc
    have W := GoesN.zip2 (elts := elts) (x1 := kk) (pos := tpos) (hs na nb) (Kd.draws X.prog X.w _ hh k1 i1 a na its.toArray) (Kd.draws X.prog X.w _ hh k2 i2 b nb its2.toArray)
    have l1 := r1.length
    have l2 := r2.length
    have g1 := (List.getElem?_eq_some_iff.mp hx).1
    have g2 := (List.getElem?_eq_some_iff.mp hy).1
    refine W.goes i s _ E (by simp only [List.size_toArray]; omega) ⟨hz, hTI, hTO, ⟨s1, p1⟩, ⟨s2, p2⟩⟩ fun v h' tk ⟨T, x', y', ev, hn, hx', hy', hT⟩ st' hk htk => ?_
    obtain ⟨ux, hux, rx⟩ := r1.get hx
    obtain ⟨uy, huy, ry⟩ := r2.get hy
    have ex : ux = x' := Option.some.inj (hux.symm.trans (by simpa using hx'))
    have ey : uy = y' := Option.some.inj (huy.symm.trans (by simpa using hy'))
    subst ex ey ev
    have I1 : Inv X pins σ (upd H T (.tup [x, y])) { s with heap := h', toks := tk } :=
      I.turnedNew (ch := [z, TI, TO, i1, i2]) (fun d o hb q => hk d o (fun q' => hb (by
        have e' : d = z ∨ d = TO ∨ d = i1 ∨ d = i2 := by simpa using q'
        rcases e' with q | q | q | q <;> simp [q])) q) hf hn (tup_new (.cons rx (.cons ry .nil)) (by show 2 ≤ sizeLine; decide) hT)
    obtain ⟨z1, z2, z3, ⟨t1, _⟩, ⟨t2, _⟩⟩ := st'
    refine ⟨.ref T, _, I1, rfl, ⟨T, x, y, rfl, I.hok.fresh hn, rfl, fun l hl => by rw [Kd.inj I hl qx]; exact hx, fun l hl => by rw [Kd.inj I hl qy]; exact hy⟩, ⟨z1, z2, z3, t1, t2⟩, fun d hd => ?_⟩
    have hlt : d < s.heap.objs.size := by
      have e' : d = z ∨ d = TI ∨ d = TO ∨ d = i1 ∨ d = i2 := by simpa using hd
      obtain ⟨_, _, hTO⟩ := hTO
      rcases e' with q | q | q | q | q
      · rw [q]; exact Heap.lt_size hz
      · rw [q]; exact Heap.lt_size hTI
      · rw [q]; exact Heap.lt_size hTO
      · rw [q]; obtain ⟨_, e1, _⟩ := Kd.obj s1; exact Heap.lt_size e1
      · rw [q]; obtain ⟨_, e1, _⟩ := Kd.obj s2; exact Heap.lt_size e1
    rw [upd_ne (Nat.ne_of_lt (Nat.lt_of_lt_of_le hlt hn))]
    exact (hf d hd).1
  done := by
    intro X hP hw hK hc i pins s σ H E I hf st hg
    subst hP hw hK
    obtain ⟨hz, hTI, hTO, s1, s2⟩ := st
    obtain ⟨xs, ys, qx, qy, e1, e2⟩ := hg
    obtain ⟨its, r1, p1⟩ := Kd.inv I qx
    obtain ⟨its2, r2, p2⟩ := Kd.inv I qy
    have hh : X.A.in1.handled = none := I.ok.hd hc
    have W := GoesN.zip2 (elts := elts) (x1 := kk) (pos := tpos) (hs na nb) (Kd.draws X.prog X.w _ hh k1 i1 a na its.toArray) (Kd.draws X.prog X.w _ hh k2 i2 b nb its2.toArray)
    have l1 := r1.length
    have l2 := r2.length
    have en : i = min its.toArray.size its2.toArray.size := by simp only [List.size_toArray]; omega
    rw [en] at s1 s2
    exact W.stops s _ E ⟨hz, hTI, hTO, ⟨s1, p1⟩, ⟨s2, p2⟩⟩ fun h' tk hk htk => I.turnedL (ch := [z, TI, TO, i1, i2]) (fun d o hb q => hk d o (fun q' => hb (by
        have e' : d = z ∨ d = TO ∨ d = i1 ∨ d = i2 := by simpa using q'
        rcases e' with q | q | q | q <;> simp [q])) q) hf
  self := fun A i s Q E st h => wpAny_pyIter_zip st.1 h
def iZip2 (K : Fg) (k1 k2 : Kd) (ta : TA) : TI := fun σ H R => ta σ H fun vs H1 => ∃ a b xs ys, vs = [.ref a, .ref b] ∧ k1.sq K H1 a xs ∧ k2.sq K H1 b ys ∧ R (Itz2 K k1 k2 a b) H1
theorem pi_zip2 {X : Cx} {e e2 : Expr} {ta : TA} {p pos tpos : Pos} {elts : List Expr} {kk : Nat} (k1 k2 : Kd) (hg : Gl X "zip") (hm : X.mg "zip" = none) (ha : PA X [e, e2] ta)
    (hs : starEach [e, e2] X.env = (false, eval e X.env) :: starEach [e2] X.env := by rfl) (hpl : (backTo pos (starEach [e2] X.env)).any (·.1) = false := by rfl) :
    PI X (.Tuple elts kk tpos) (.Call (.Name "zip" p) [e, e2] [] pos) (iZip2 X.K k1 k2 ta) := by
  refine ⟨fun pins s σ H R I h => ?_⟩
  refine Call_ (ld_blt I hg hm PyProof.Rows.boot_zip (PyProof.Rows.callWith_type1 (thn (ha.run pos pins s σ H _ I h) fun us s1 ⟨vs, H1, I1, r1, q1⟩ => ?_) hs hpl))
  obtain ⟨a, b, xs, ys, ex, qx, qy, q⟩ := q1
  subst ex
  cases r1 with
  | cons ra rr => cases rr with
    | cons rb rr =>
      cases rr
      cases ra
      cases rb
      obtain ⟨its, _, p1⟩ := Kd.inv I1 qx
      obtain ⟨its2, _, p2⟩ := Kd.inv I1 qy
      have la := Kd.lt p1
      have lb := Kd.lt p2
      refine zip_begins2 (k1.begins a _) (k2.begins b _) p1 p2 fun h' hz hTI hTO h1 h2 hsz hk => wpAny_pyIter_zip hz ?_
      have I2 : Inv X pins σ H1 { s1 with heap := h' } := I1.kept (t' := s1.toks) hk
      have fresh : ∀ d, d ∈ [s1.heap.objs.size + 4, s1.heap.objs.size + 2, s1.heap.objs.size + 3, s1.heap.objs.size, s1.heap.objs.size + 1] → FpOk X pins H1 d := fun d hd => by
        have hle : s1.heap.objs.size ≤ d := by
          simp only [List.mem_cons, List.not_mem_nil, or_false] at hd
          rcases hd with z | z | z | z | z <;> rw [z]
          all_goals first | exact Nat.le_refl _ | exact Nat.le_add_right _ _
        exact I1.fpOk hle (I1.hok.fresh hle)
      refine ⟨s1.heap.objs.size + 4, [s1.heap.objs.size + 4, s1.heap.objs.size + 2, s1.heap.objs.size + 3, s1.heap.objs.size, s1.heap.objs.size + 1], _, _, H1, rfl, I2,
        turn_zip2 (k1 := k1) (k2 := k2) (fun _ _ => zip_sep2 (by intro x hx; rw [List.mem_singleton.mp hx]; exact la) (by intro x hx; rw [List.mem_singleton.mp hx]; exact lb)) (Nat.ne_of_lt la) (Nat.ne_of_lt (Nat.lt_of_lt_of_le lb (Nat.le_add_right _ _))),
        ⟨hz, hTI, ⟨_, _, hTO⟩, Kd.it0 h1, Kd.it0 h2⟩, fresh, q⟩

/-! ### enumerate -/
def Itn (K : Fg) (k : Kd) (a : Addr) : It :=
  ⟨fun i H => ∃ (xs : List V) (x : V), k.sq K H a xs ∧ xs[i]? = some x,
    fun i H v H' => ∃ T x, v = .ref T ∧ H T = none ∧ H' = upd H T (.tup [.int (i : Nat), x]) ∧ ∀ xs, k.sq K H a xs → xs[i]? = some x,
    fun i H => ∃ xs : List V, k.sq K H a xs ∧ xs.length = i⟩
theorem turn_enumK {P : Program} {w : World} {K : Fg} {elts : List Expr} {kk : Nat} {tpos : Pos} {k : Kd} {a e it : Addr} (hei : e ≠ it) (hea : e ≠ a) (na : a ≠ it) :
    Turn P w K (.Tuple elts kk tpos) (Itn K k a) [e, it] e (fun i h => (∃ old, IsEnum h e it (0 + (i : Int)) old) ∧ k.it h it a i) where
  mem := by simp
  obj := fun i h st d hd => by
    obtain ⟨⟨old, he⟩, s1⟩ := st
    have e' : d = e ∨ d = it := by simpa using hd
    rcases e' with q | q
    · rw [q]; exact ⟨_, he, fun v q => nomatch q⟩
    · rw [q]; exact Kd.obj s1
  keep := fun i h h' st k => by
    obtain ⟨⟨old, he⟩, s1⟩ := st
    exact ⟨⟨old, k e (by simp) _ he⟩, Kd.at s1 fun o q => k it (by simp) o q⟩
  item := by
    intro X hP hw hK hc i pins s σ H E I hf st hg
    subst hP hw hK
    obtain ⟨he, s1⟩ := st
    obtain ⟨xs, x, qx, hx⟩ := hg
    obtain ⟨its, r1, p1⟩ := Kd.inv I qx
    have hh : X.A.in1.handled = none := I.ok.hd hc
    have W := GoesN.enumFrom (elts := elts) (x1 := kk) (pos := tpos) 0 (Kd.draws X.prog X.w _ hh k it a na its.toArray) e hei (by simp [hei, hea]) (by simp)
    have l1 := r1.length
    have g1 := (List.getElem?_eq_some_iff.mp hx).1
    refine W.goes i s _ E (by simp only [List.size_toArray]; omega) ⟨he, s1, p1⟩ fun v h' tk ⟨T, t, x', ev, hn, hx', hT⟩ st' hk htk => ?_
    obtain ⟨ux, hux, rx⟩ := r1.get hx
    have ex : ux = x' := Option.some.inj (hux.symm.trans (by simpa using hx'))
    subst ex ev
    have I1 : Inv X pins σ (upd H T (.tup [.int (i : Nat), x])) { s with heap := h', toks := tk } :=
      I.turnedNew (ch := [e, it]) hk hf hn (tup_new (xs := [.int (i : Nat), x]) (us := [.int (0 + (i : Int)) t, ux]) (.cons ⟨t, by rw [Int.zero_add]⟩ (.cons rx .nil)) (by show 2 ≤ sizeLine; decide) hT)
    obtain ⟨z1, t1, _⟩ := st'
    refine ⟨.ref T, _, I1, rfl, ⟨T, x, rfl, I.hok.fresh hn, rfl, fun l hl => by rw [Kd.inj I hl qx]; exact hx⟩, ⟨z1, t1⟩, fun d hd => ?_⟩
    have hlt : d < s.heap.objs.size := by
      have e' : d = e ∨ d = it := by simpa using hd
      obtain ⟨_, he⟩ := he
      rcases e' with q | q
      · rw [q]; exact Heap.lt_size he
      · rw [q]; obtain ⟨_, e1, _⟩ := Kd.obj s1; exact Heap.lt_size e1
    rw [upd_ne (Nat.ne_of_lt (Nat.lt_of_lt_of_le hlt hn))]
    exact (hf d hd).1
  done := by
    intro X hP hw hK hc i pins s σ H E I hf st hg
    subst hP hw hK
    obtain ⟨he, s1⟩ := st
    obtain ⟨xs, qx, e1⟩ := hg
    obtain ⟨its, r1, p1⟩ := Kd.inv I qx
    have hh : X.A.in1.handled = none := I.ok.hd hc
    have W := GoesN.enumFrom (elts := elts) (x1 := kk) (pos := tpos) 0 (Kd.draws X.prog X.w _ hh k it a na its.toArray) e hei (by simp [hei, hea]) (by simp)
    have l1 := r1.length
    have en : i = its.toArray.size := by simp only [List.size_toArray]; omega
    rw [en] at s1 he
    exact W.stops s _ E ⟨he, s1, p1⟩ fun h' tk hk htk => I.turnedL (ch := [e, it]) hk hf
  self := fun A i s Q E st h => by
    obtain ⟨old, he⟩ := st.1
    exact wpAny_pyIter_enum he h

theorem meets_enumB1 {v : Value} {o : Obj} {H : Heap → Prop} (B : Begins v o H) :
    Meets (Builtin.«enumerate.__new__» ⟨[.type "enumerate", v], []⟩) (fun _ R s => H s.heap ∧
      R (.ok (.ret (.ref (s.heap.push o).objs.size))) { s with heap := (s.heap.push o).push { cls := .type "enumerate", data := .fields #[.none, .bool false, .ref s.heap.objs.size, rawInt 0, .none, .none] } }) :=
  .of_wp fun prog w A R s h => by
    obtain ⟨hp, g, d, tk, os⟩ := s; obtain ⟨h1, h⟩ := h
    have hsub := sub_enumerate
    have q1 : ∀ {A' : Around} {E : Value → Shared → Prop} {Q : Value → Shared → Prop}, Q (.ref hp.objs.size) ⟨hp.push o, g, d, tk, os⟩ → wpAny (model prog w) A' (pyIter v) Q E ⟨hp, g, d, tk, os⟩ :=
      fun q => B.iter prog w _ _ ⟨hp, g, d, tk, os⟩ _ h1 q
    wp_walk using q1
    refine wpAny_stack_any fun st => wpAny_pure ?_
    split
    · rename_i c _ _ _ _ _
      cases (c == Value.type "enumerate")
      · wp_walk using q1
        exact ⟨_, rfl, h⟩
      · wp_walk using q1
        exact ⟨_, rfl, h⟩
    · wp_walk using q1
      exact ⟨_, rfl, h⟩
theorem enum_begins1 {prog : Program} {w : World} {A : Around} {E : Value → Shared → Prop} {s : Shared} {v : Value} {o : Obj} {H : Heap → Prop} {Q : Value → Shared → Prop} (B : Begins v o H) (h1 : H s.heap)
    (h : ∀ h', IsEnum h' (s.heap.objs.size + 1) s.heap.objs.size 0 .none → h'.get? s.heap.objs.size = some o → h'.objs.size = s.heap.objs.size + 2 →
      (∀ b o, s.heap.get? b = some o → h'.get? b = some o) → Q (.ref (s.heap.objs.size + 1)) { s with heap := h' }) :
    wpAny (model prog w) A (call (.type "enumerate") [v]) Q E s := by
  refine callType_new F.called_enumerate (by decide) (F.typeCall_enumerate_1 _) (F.newCall_enumerate_1 _) (fun obj => F.args_object_init_2 obj _) F.entry_enumerate_new
    (meets_enumB1 B) ⟨h1, ?_⟩
  have hz : (s.heap.push o).objs.size = s.heap.objs.size + 1 := Heap.size_push ..
  show _ ∧ _
  rw [hz]
  have he : IsEnum ((s.heap.push o).push { cls := .type "enumerate", data := .fields #[.none, .bool false, .ref s.heap.objs.size, rawInt 0, .none, .none] }) (s.heap.objs.size + 1) s.heap.objs.size 0 .none := by
    have := Heap.get?_push_size (s.heap.push o) (o := { cls := .type "enumerate", data := .fields #[.none, .bool false, .ref s.heap.objs.size, rawInt 0, .none, .none] }) rfl
    rw [hz] at this; exact this
  refine ⟨⟨_, he, rfl⟩, h _ he (Heap.get?_push_of_some _ (Heap.get?_push_size _ B.free)) (by rw [Heap.size_push, hz]) fun b o x => Heap.get?_push_of_some _ (Heap.get?_push_of_some _ x)⟩
def iEnumK (K : Fg) (k : Kd) (ta : TA) : TI := fun σ H R => ta σ H fun vs H1 => ∃ a xs, vs = [.ref a] ∧ k.sq K H1 a xs ∧ R (Itn K k a) H1
theorem pi_enumK {X : Cx} {e : Expr} {ta : TA} {p pos tpos : Pos} {elts : List Expr} {kk : Nat} (k : Kd) (hg : Gl X "enumerate") (hm : X.mg "enumerate" = none) (ha : PA X [e] ta) (hs : starEach [e] X.env = [(false, eval e X.env)] := by rfl) :
    PI X (.Tuple elts kk tpos) (.Call (.Name "enumerate" p) [e] [] pos) (iEnumK X.K k ta) := by
  refine ⟨fun pins s σ H R I h => ?_⟩
  refine Call_ (ld_blt I hg hm boot_enumerate (PyProof.Rows.callWith_type1 (thn (ha.run pos pins s σ H _ I h) fun us s1 ⟨vs, H1, I1, r1, q1⟩ => ?_) hs rfl))
  obtain ⟨a, xs, ex, hq, q⟩ := q1
  subst ex
  cases r1 with
  | cons r rr =>
    cases rr
    cases r
    obtain ⟨its, _, p1⟩ := Kd.inv I1 hq
    have la := Kd.lt p1
    refine enum_begins1 (k.begins a _) p1 fun h' he hit hsz hk => wpAny_pyIter_enum he ?_
    have I2 : Inv X pins σ H1 { s1 with heap := h' } := I1.kept (t' := s1.toks) hk
    refine ⟨s1.heap.objs.size + 1, [s1.heap.objs.size + 1, s1.heap.objs.size], _, _, H1, rfl, I2, turn_enumK (k := k) (a := a) (e := s1.heap.objs.size + 1) (it := s1.heap.objs.size) (Nat.succ_ne_self _) (Nat.ne_of_gt (Nat.lt_succ_of_lt la)) (Nat.ne_of_lt la), ⟨⟨.none, he⟩, Kd.it0 hit⟩, fun b hb => ?_, q⟩
    have e' : b = s1.heap.objs.size + 1 ∨ b = s1.heap.objs.size := by simpa using hb
    have hle : s1.heap.objs.size ≤ b := by
      rcases e' with z | z
      · rw [z]; exact Nat.le_add_right _ _
      · rw [z]; exact Nat.le_refl _
    exact I1.fpOk hle (I1.hok.fresh hle)

/-! ### over data -/
def zip2D (xs ys : List D) : List D := List.zipWith (fun x y => .tup [x, y]) xs ys
def zip3D : List D → List D → List D → List D
  | x :: xs, y :: ys, z :: zs => .tup [x, y, z] :: zip3D xs ys zs
  | _, _, _ => []
def enumD (xs : List D) : List D := xs.mapIdx fun i x => .tup [.int (i : Nat), x]
theorem zip2D_len {xs ys : List D} (h : xs.length = ys.length) : (zip2D xs ys).length = xs.length := by simp [zip2D, h]
theorem zip2D_get {xs ys : List D} {i : Nat} {x y : D} (hx : xs[i]? = some x) (hy : ys[i]? = some y) : (zip2D xs ys)[i]? = some (.tup [x, y]) := by simp [zip2D, List.getElem?_zipWith, hx, hy]
theorem zip3D_len : ∀ {xs ys zs : List D}, xs.length = ys.length → xs.length = zs.length → (zip3D xs ys zs).length = xs.length
  | [], _, _, _, _ => rfl
  | x :: xs, [], _, h, _ => by simp at h
  | x :: xs, y :: ys, [], _, h => by simp at h
  | x :: xs, y :: ys, z :: zs, h, h' => by
    show (zip3D xs ys zs).length + 1 = xs.length + 1
    rw [zip3D_len (by simpa using h) (by simpa using h')]
theorem zip3D_get : ∀ {xs ys zs : List D} {i : Nat} {x y z : D}, xs[i]? = some x → ys[i]? = some y → zs[i]? = some z → (zip3D xs ys zs)[i]? = some (.tup [x, y, z])
  | [], _, _, _, _, _, _, h, _, _ => by simp at h
  | _ :: _, [], _, _, _, _, _, _, h, _ => by simp at h
  | _ :: _, _ :: _, [], _, _, _, _, _, _, h => by simp at h
  | x :: xs, y :: ys, z :: zs, 0, _, _, _, h1, h2, h3 => by
    cases (Option.some.inj h1 : x = _)
    cases (Option.some.inj h2 : y = _)
    cases (Option.some.inj h3 : z = _)
    rfl
  | x :: xs, y :: ys, z :: zs, i + 1, _, _, _, h1, h2, h3 => zip3D_get (xs := xs) (ys := ys) (zs := zs) (i := i) h1 h2 h3
theorem enumD_len (xs : List D) : (enumD xs).length = xs.length := by simp [enumD]
theorem enumD_get {xs : List D} {i : Nat} {x : D} (hx : xs[i]? = some x) : (enumD xs)[i]? = some (.tup [.int (i : Nat), x]) := by simp [enumD, hx]
def Kd.it? (k : Kd) (d : D) : Option (List D) := match k, d with
  | .l, .lst xs => some xs
  | .t, .tup xs => some xs
  | _, _ => none
/-- the two have one length -/
def diZip2 (k1 k2 : Kd) (t : DA) : DI := fun ρ μ R => t ρ μ fun ds μ1 => ∃ xs ys, ds = [k1.d xs, k2.d ys] ∧ xs.length = ys.length ∧ R (zip2D xs ys) μ1
def diZip3 (k1 k2 k3 : Kd) (t : DA) : DI := fun ρ μ R => t ρ μ fun ds μ1 => ∃ xs ys zs, ds = [k1.d xs, k2.d ys, k3.d zs] ∧ xs.length = ys.length ∧ xs.length = zs.length ∧ R (zip3D xs ys zs) μ1
def diEnum (k : Kd) (t : DA) : DI := fun ρ μ R => t ρ μ fun ds μ1 => ∃ xs, ds = [k.d xs] ∧ R (enumD xs) μ1
section
variable {X : Cx} {F0 : Og} {K : Fg}
theorem Kd.rep {k : Kd} {F H : Hp} {xs : List D} {v : V} (e : Same F H) (r : Rep K F (k.d xs) v) : ∃ a vs, v = .ref a ∧ k.sq K F a vs ∧ Reps K F xs vs := by
  cases k with
  | l => exact r
  | t => exact r
theorem Kd.sqm {k : Kd} {F H : Hp} {a : Addr} {vs : List V} (e : Same F H) (h : k.sq K F a vs) : k.sq K H a vs := by
  cases k with
  | l => exact e.seq h
  | t => exact Same.seqT e h
theorem yl_zip2 {F : Hp} {k1 k2 : Kd} {a b : Addr} {xs ys : List D} {vs us : List V} (h1 : k1.sq K F a vs) (h2 : k2.sq K F b us) (r1 : Reps K F xs vs) (r2 : Reps K F ys us) (hl : xs.length = ys.length) : Ylds K F0 F (Itz2 K k1 k2 a b) (zip2D xs ys) where
  go := fun i H F' μ hi e S => by
    rw [zip2D_len hl] at hi
    exact ⟨vs, us, vs[i]'(by rw [r1.length]; exact hi), us[i]'(by rw [r2.length, ← hl]; exact hi), Kd.sqm S.sub (Kd.sqm e h1), Kd.sqm S.sub (Kd.sqm e h2), List.getElem?_eq_getElem _, List.getElem?_eq_getElem _⟩
  yl := fun i H F' μ x H' hi e S y => by
    rw [zip2D_len hl] at hi
    have hi2 : i < ys.length := by omega
    obtain ⟨T, x, y, rfl, hT, rfl, f1, f2⟩ := y
    have hx := f1 _ (Kd.sqm S.sub (Kd.sqm e h1))
    have hy := f2 _ (Kd.sqm S.sub (Kd.sqm e h2))
    obtain ⟨v, g1, g2⟩ := r1.get (d := xs[i]) (List.getElem?_eq_getElem hi)
    obtain ⟨u, g3, g4⟩ := r2.get (d := ys[i]) (List.getElem?_eq_getElem hi2)
    rw [hx] at g1; cases g1
    rw [hy] at g3; cases g3
    have g := Go.new S (.tup [x, y]) hT
    exact ⟨_, _, g, zip2D_get (List.getElem?_eq_getElem hi) (List.getElem?_eq_getElem hi2), T, [x, y], rfl, .of upd_same, x, [y], rfl, Rep.mono (e.trans g.ext) _ _ g2, y, [], rfl, Rep.mono (e.trans g.ext) _ _ g4, rfl⟩
  st := fun H F' μ e S => ⟨vs, us, Kd.sqm S.sub (Kd.sqm e h1), Kd.sqm S.sub (Kd.sqm e h2), by rw [r1.length, zip2D_len hl], by rw [r2.length, zip2D_len hl, hl]⟩
theorem yl_zip3 {F : Hp} {k1 k2 k3 : Kd} {a b c : Addr} {xs ys zs : List D} {vs us ws : List V} (h1 : k1.sq K F a vs) (h2 : k2.sq K F b us) (h3 : k3.sq K F c ws) (r1 : Reps K F xs vs) (r2 : Reps K F ys us) (r3 : Reps K F zs ws) (hl : xs.length = ys.length) (hl' : xs.length = zs.length) : Ylds K F0 F (Itz3 K k1 k2 k3 a b c) (zip3D xs ys zs) where
  go := fun i H F' μ hi e S => by
    rw [zip3D_len hl hl'] at hi
    exact ⟨vs, us, ws, vs[i]'(by rw [r1.length]; exact hi), us[i]'(by rw [r2.length, ← hl]; exact hi), ws[i]'(by rw [r3.length, ← hl']; exact hi), Kd.sqm S.sub (Kd.sqm e h1), Kd.sqm S.sub (Kd.sqm e h2), Kd.sqm S.sub (Kd.sqm e h3), List.getElem?_eq_getElem _, List.getElem?_eq_getElem _, List.getElem?_eq_getElem _⟩
  yl := fun i H F' μ x H' hi e S y => by
    rw [zip3D_len hl hl'] at hi
    have hi2 : i < ys.length := by omega
    have hi3 : i < zs.length := by omega
    obtain ⟨T, x, y, z, rfl, hT, rfl, f1, f2, f3⟩ := y
    have hx := f1 _ (Kd.sqm S.sub (Kd.sqm e h1))
    have hy := f2 _ (Kd.sqm S.sub (Kd.sqm e h2))
    have hz := f3 _ (Kd.sqm S.sub (Kd.sqm e h3))
    obtain ⟨v, g1, g2⟩ := r1.get (d := xs[i]) (List.getElem?_eq_getElem hi)
    obtain ⟨u, g3, g4⟩ := r2.get (d := ys[i]) (List.getElem?_eq_getElem hi2)
    obtain ⟨w, g5, g6⟩ := r3.get (d := zs[i]) (List.getElem?_eq_getElem hi3)
    rw [hx] at g1; cases g1
    rw [hy] at g3; cases g3
    rw [hz] at g5; cases g5
    have g := Go.new S (.tup [x, y, z]) hT
    exact ⟨_, _, g, zip3D_get (List.getElem?_eq_getElem hi) (List.getElem?_eq_getElem hi2) (List.getElem?_eq_getElem hi3), T, [x, y, z], rfl, .of upd_same, x, [y, z], rfl, Rep.mono (e.trans g.ext) _ _ g2, y, [z], rfl, Rep.mono (e.trans g.ext) _ _ g4, z, [], rfl, Rep.mono (e.trans g.ext) _ _ g6, rfl⟩
  st := fun H F' μ e S => ⟨vs, us, ws, Kd.sqm S.sub (Kd.sqm e h1), Kd.sqm S.sub (Kd.sqm e h2), Kd.sqm S.sub (Kd.sqm e h3), by rw [r1.length, zip3D_len hl hl'], by rw [r2.length, zip3D_len hl hl', hl], by rw [r3.length, zip3D_len hl hl', hl']⟩
theorem yl_enum {F : Hp} {k : Kd} {a : Addr} {xs : List D} {vs : List V} (h1 : k.sq K F a vs) (r1 : Reps K F xs vs) : Ylds K F0 F (Itn K k a) (enumD xs) where
  go := fun i H F' μ hi e S => by
    rw [enumD_len] at hi
    exact ⟨vs, vs[i]'(by rw [r1.length]; exact hi), Kd.sqm S.sub (Kd.sqm e h1), List.getElem?_eq_getElem _⟩
  yl := fun i H F' μ x H' hi e S y => by
    rw [enumD_len] at hi
    obtain ⟨T, x, rfl, hT, rfl, f1⟩ := y
    have hx := f1 _ (Kd.sqm S.sub (Kd.sqm e h1))
    obtain ⟨v, g1, g2⟩ := r1.get (d := xs[i]) (List.getElem?_eq_getElem hi)
    rw [hx] at g1; cases g1
    have g := Go.new S (.tup [.int (i : Nat), x]) hT
    exact ⟨_, _, g, enumD_get (List.getElem?_eq_getElem hi), T, [.int (i : Nat), x], rfl, .of upd_same, _, [x], rfl, rfl, x, [], rfl, Rep.mono (e.trans g.ext) _ _ g2, rfl⟩
  st := fun H F' μ e S => ⟨vs, Kd.sqm S.sub (Kd.sqm e h1), by rw [r1.length, enumD_len]⟩
theorem di_zip2 {e e2 : Expr} {ta : DA} {p pos tpos : Pos} {elts : List Expr} {kk : Nat} (k1 k2 : Kd) (hg : Gl X "zip") (hm : X.mg "zip" = none) (ha : PA X [e, e2] (lA X.K F0 ta))
    (hs : starEach [e, e2] X.env = (false, eval e X.env) :: starEach [e2] X.env := by rfl) (hpl : (backTo pos (starEach [e2] X.env)).any (·.1) = false := by rfl) :
    PI X (.Tuple elts kk tpos) (.Call (.Name "zip" p) [e, e2] [] pos) (lI X.K F0 (diZip2 k1 k2 ta)) :=
  upI (pi_zip2 k1 k2 hg hm ha hs hpl) fun σ H F ρ μ Rd S Re h R hq => ⟨F, ρ, μ, _, S, Re, h, fun us H1 ⟨F1, ds, μ1, g1, rs, xs, ys, ed, hl, h1⟩ => by
    subst ed
    obtain ⟨v, w, rfl, rv, rw'⟩ := rs.un2
    obtain ⟨a, as, rfl, q1, q2⟩ := Kd.rep g1.sim.sub rv
    obtain ⟨b, bs, rfl, q3, q4⟩ := Kd.rep g1.sim.sub rw'
    exact ⟨a, b, as, bs, rfl, Kd.sqm g1.sim.sub q1, Kd.sqm g1.sim.sub q3, hq _ _ F1 _ μ1 g1 (yl_zip2 q1 q3 q2 q4 hl) h1⟩⟩
theorem di_zip3 {e e2 e3 : Expr} {ta : DA} {p pos tpos : Pos} {elts : List Expr} {kk : Nat} (k1 k2 k3 : Kd) (hg : Gl X "zip") (hm : X.mg "zip" = none) (ha : PA X [e, e2, e3] (lA X.K F0 ta))
    (hs : starEach [e, e2, e3] X.env = (false, eval e X.env) :: starEach [e2, e3] X.env := by rfl) (hpl : (backTo pos (starEach [e2, e3] X.env)).any (·.1) = false := by rfl) :
    PI X (.Tuple elts kk tpos) (.Call (.Name "zip" p) [e, e2, e3] [] pos) (lI X.K F0 (diZip3 k1 k2 k3 ta)) :=
  upI (pi_zip3 k1 k2 k3 hg hm ha hs hpl) fun σ H F ρ μ Rd S Re h R hq => ⟨F, ρ, μ, _, S, Re, h, fun us H1 ⟨F1, ds, μ1, g1, rs, xs, ys, zs, ed, hl, hl', h1⟩ => by
    subst ed
    obtain ⟨v, r, rfl, rv, rr⟩ := rs
    obtain ⟨w, u, rfl, rw', ru⟩ := rr.un2
    obtain ⟨a, as, rfl, q1, q2⟩ := Kd.rep g1.sim.sub rv
    obtain ⟨b, bs, rfl, q3, q4⟩ := Kd.rep g1.sim.sub rw'
    obtain ⟨c, cs, rfl, q5, q6⟩ := Kd.rep g1.sim.sub ru
    exact ⟨a, b, c, as, bs, cs, rfl, Kd.sqm g1.sim.sub q1, Kd.sqm g1.sim.sub q3, Kd.sqm g1.sim.sub q5, hq _ _ F1 _ μ1 g1 (yl_zip3 q1 q3 q5 q2 q4 q6 hl hl') h1⟩⟩
theorem di_enum {e : Expr} {ta : DA} {p pos tpos : Pos} {elts : List Expr} {kk : Nat} (k : Kd) (hg : Gl X "enumerate") (hm : X.mg "enumerate" = none) (ha : PA X [e] (lA X.K F0 ta)) (hs : starEach [e] X.env = [(false, eval e X.env)] := by rfl) :
    PI X (.Tuple elts kk tpos) (.Call (.Name "enumerate" p) [e] [] pos) (lI X.K F0 (diEnum k ta)) :=
  upI (pi_enumK k hg hm ha hs) fun σ H F ρ μ Rd S Re h R hq => ⟨F, ρ, μ, _, S, Re, h, fun us H1 ⟨F1, ds, μ1, g1, rs, xs, ed, h1⟩ => by
    subst ed
    obtain ⟨v, rfl, rv⟩ := rs.un1
    obtain ⟨a, as, rfl, q1, q2⟩ := Kd.rep g1.sim.sub rv
    exact ⟨a, as, rfl, Kd.sqm g1.sim.sub q1, hq _ _ F1 _ μ1 g1 (yl_enum q1 q2) h1⟩⟩
end
end DL

-- text DL6
set_option Elab.async false
set_option linter.all false
set_option maxRecDepth 100000
set_option maxHeartbeats 2000000
/-! DL6: three names at once, lists repeated, appended to, stored into, texts, raising defs, defs by their names. -/
namespace DL
open PySem PySem.Spec PyProof.Rows L2

/-! ### a, b, c = x, y, z with plain local names -/
def tPar3 (i j k : Nat) (ta : TA) : TS := fun D σ H => ta σ H fun vs H1 => ∃ v w u, vs = [v, w, u] ∧ D.nx (((σ.set i (some v)).set j (some w)).set k (some u)) H1
section
variable {X : Cx} {pos : Pos}
theorem ps_par3 {i j k : Nat} {x y z : Str} {a b c : Expr} {ta : TA} {px py pz pt : Pos} {kt k2 pt2} (hc : X.calm = true) (hN : X.N.Nodup) (hi : X.N[i]? = some x) (hj : X.N[j]? = some y) (hk : X.N[k]? = some z) (hij : i ≠ j) (hik : i ≠ k) (hjk : j ≠ k)
    (hx : X.env.scope.names.lookup x = some .local) (hy : X.env.scope.names.lookup y = some .local) (hz : X.env.scope.names.lookup z = some .local) (ha : PA X [a, b, c] ta)
    (hw : swappedStores [.Tuple [.Name x px, .Name y py, .Name z pz] kt pt] (.Tuple [a, b, c] k2 pt2) X.env = pure (some [x, y, z]))
    (hs : swapsWithSole [.Tuple [.Name x px, .Name y py, .Name z pz] kt pt] (.Tuple [a, b, c] k2 pt2) pos.line X.env = pure false := by rfl) :
    PS X (.Assign [.Tuple [.Name x px, .Name y py, .Name z pz] kt pt] (.Tuple [a, b, c] k2 pt2) pos) (tPar3 i j k ta) := by
  refine ⟨fun pins s σ H D I h => ?_⟩
  rw [exec_Assign_arm]
  refine wpAny_bind (wpAny_standAt ?_)
  rw [hs]
  refine wpAny_bind (wpAny_pure ?_)
  rw [if_neg (by decide)]
  refine wpAny_bind (Tuple_ (thn (ha.run _ pins s σ H _ I h) fun us s1 ⟨vs, H1, I1, r1, q1⟩ => ?_))
  obtain ⟨v, w, u, e1, q1⟩ := q1
  subst e1
  obtain ⟨u1, u2, u3, rfl, rv, rw', ru⟩ : ∃ u1 u2 u3, us = [u1, u2, u3] ∧ RelV v u1 ∧ RelV w u2 ∧ RelV u u3 := by
    cases r1 with
    | cons p q =>
      cases q with
      | cons p' q' =>
        cases q' with
        | cons p'' q'' =>
          cases q''
          exact ⟨_, _, _, rfl, p, p', p''⟩
  refine wpAny_newObj_type ?_ (by show 3 ≤ sizeLine; decide)
  have I2 : Inv X pins σ H1 { s1 with heap := s1.heap.push { cls := .type "tuple", data := .seq [u1, u2, u3].toArray } } := I1.kept (t' := s1.toks) fun b o e => Heap.get?_push_of_some _ e
  rw [hw]
  refine wpAny_bind (wpAny_pure ?_)
  show wpAny (model X.prog X.w) X.A (do rule "assign.swapped-stores"; let items ← unpackItems (.ref s1.heap.objs.size) 3 none; assignInOrder [fun v => bindName X.env z v, fun v => bindName X.env y v, fun v => bindName X.env x v] items.reverse; pure Flow.next) _ _ _
  refine wpAny_bind (wpAny_rule (wpAny_bind (unpackItems_tuple (items := #[u1, u2, u3]) (I.ok.hd hc) (IsTup.new s1.heap _) fun h' hx' => ?_)))
  have I3 := I2.kept (h' := h') (t' := s1.toks) fun b o e => hx' b o (Nat.ne_of_lt (Heap.lt_size e)) e
  show wpAny _ _ (assignInOrder [fun v => bindName X.env z v, fun v => bindName X.env y v, fun v => bindName X.env x v] [u3, u2, u1] >>= fun _ => pure Flow.next) _ _ _
  refine wpAny_bind (assignInOrder_cons (wpAny_bindName (store_ok I3 hN hk (.inl hz) ru (fun s2 I4 => ?_) (.inr hz))))
  refine assignInOrder_cons (wpAny_bindName (store_ok I4 hN hj (.inl hy) rw' (fun s3 I5 => ?_) (.inr hy)))
  refine assignInOrder_cons (wpAny_bindName (store_ok I5 hN hi (.inl hx) rv (fun s4 I6 => assignInOrder_nil (wpAny_pure ?_)) (.inr hx)))
  rw [List.set_comm _ _ (Ne.symm hij), List.set_comm _ _ (Ne.symm hik), List.set_comm _ _ (Ne.symm hjk)] at I6
  exact ⟨_, H1, I6, q1⟩
end
def dPar3 (i j k : Nat) (ta : DA) : DS := fun D ρ μ => ta ρ μ fun ds μ1 => match ds with
  | [v, w, u] => D.nx (((ρ.set i (some v)).set j (some w)).set k (some u)) μ1
  | _ => False
section
variable {X : Cx} {F0 : Og} {pos : Pos} {vs : List Nat}
theorem ds_par3 {i j k : Nat} {x y z : Str} {a b c : Expr} {ta : DA} {px py pz pt : Pos} {kt k2 pt2} (hc : X.calm = true) (hN : X.N.Nodup) (hi : X.N[i]? = some x) (hj : X.N[j]? = some y) (hk : X.N[k]? = some z) (hij : i ≠ j) (hik : i ≠ k) (hjk : j ≠ k)
    (hx : X.env.scope.names.lookup x = some .local) (hy : X.env.scope.names.lookup y = some .local) (hz : X.env.scope.names.lookup z = some .local) (ha : PA X [a, b, c] (lA X.K F0 ta))
    (hw : swappedStores [.Tuple [.Name x px, .Name y py, .Name z pz] kt pt] (.Tuple [a, b, c] k2 pt2) X.env = pure (some [x, y, z]))
    (hs : swapsWithSole [.Tuple [.Name x px, .Name y py, .Name z pz] kt pt] (.Tuple [a, b, c] k2 pt2) pos.line X.env = pure false := by rfl) :
    PS X (.Assign [.Tuple [.Name x px, .Name y py, .Name z pz] kt pt] (.Tuple [a, b, c] k2 pt2) pos) (lS X.K F0 (dPar3 i j k ta)) := upS (ps_par3 hc hN hi hj hk hij hik hjk hx hy hz ha hw hs) fun σ H F ρ μ Dd S R h =>
  ⟨F, ρ, μ, _, S, R, h, fun us H1 ⟨F1, ds, μ1, g1, rs, h1⟩ => by
    dsimp only at h1
    split at h1
    · obtain ⟨v, r, rfl, rv, rr⟩ := rs
      obtain ⟨w, u, rfl, rw', ru⟩ := rr.un2
      exact ⟨v, w, u, rfl, F1, _, μ1, g1, (((R.mono g1.ext).set rv).set rw').set ru, h1⟩
    · exact h1.elim⟩
/-! ### [a, ..] * n -/
def dRepL (t : DA) (tb : DE) : DE := fun ρ μ Q => t ρ μ fun xs μ1 => xs.length ≤ 1000 ∧ tb ρ μ1 fun y μ2 => match y with
  | .int k => 0 ≤ k ∧ k ≤ 1000 ∧ Q (.lst (List.replicate k.toNat xs).flatten) μ2
  | _ => False
theorem d_repL {es : List Expr} {b : Expr} {t : DA} {tb : DE} {p1 pos : Pos} (ha : PA X es (lA X.K F0 t)) (hb : PE X b (lE X.K F0 tb)) : PE X (.BinOp (.List es p1) .Mult b pos) (lE X.K F0 (dRepL t tb)) :=
  upE (pe_op op_rep (pe_lst ha) hb) fun σ H F ρ μ Q S R h => ⟨F, ρ, μ, _, S, R, h, fun xs H1 ⟨F1, ds, μ1, g1, rs, hl, h1⟩ => by
    have hl' : ds.length ≤ sizeLine := Nat.le_trans hl (by decide)
    refine ⟨by rw [rs.length]; exact hl', fun p hp => ?_⟩
    have g2 := Go.new g1.sim (.lst xs) hp
    refine ⟨_, ρ, μ1, _, g2.sim, R.mono (g1.trans g2).ext, h1, fun y H2 ⟨F2, dy, μ2, g3, ry, h2⟩ => ?_⟩
    cases dy with
    | int k =>
      have ry : y = .int k := ry
      obtain ⟨k0, k1, q⟩ := h2
      have hp2 : H2 p = some (.lst xs) := g3.sim.sub _ _ (g3.ext _ _ upd_same)
      refine ⟨p, k, xs, rfl, ry, hp2, by omega, by omega, ?_, fun q' hq' => ?_⟩
      · rw [rs.length, sizeLine_eq]
        have a1 : ds.length * k.toNat ≤ 1000 * 1000 := Nat.mul_le_mul hl (by omega)
        omega
      · exact .new (d := .lst _) ((g1.trans g2).trans g3) hq' (fun F' eF hF => ⟨q', _, rfl, .of hF, (Reps.mono (((g2.ext.trans g3.ext)).trans eF) _ _ rs).rep _⟩) q
    | _ => exact h2.elim⟩
/-! ### xs.append(e), xs[i] = e -/
def dAppend (i : Nat) (te : DE) : DE := fun ρ μ Q => match ρ[i]? with
  | some (some (.raw (.ref a))) => (∃ ds, μ a = some (.lst ds)) ∧ te ρ μ fun y μ1 => ∃ ds, μ1 a = some (.lst ds) ∧ ds.length < sizeLine ∧ Q .non (muSet μ1 a (.lst (ds ++ [y])))
  | _ => False
theorem d_append (i : Nat) {x : Str} {e : Expr} {te : DE} {p apos cpos : Pos} (hv : PE X (.Name x p) (tVar i)) (he : PE X e (lE X.K F0 te))
    (hbase : attributeBase (.Name x p) "append" X.env (eval (.Name x p) X.env) = eval (.Name x p) X.env := by rfl)
    (hfew : ((backTo cpos (starEach (e :: []) X.env)).all (fun x => !x.1) && (backToKw cpos (keywordEach [] X.env)).all (fun x => x.1.isSome)
      && decide ((e :: []).length + ([] : List Keyword).length + (if ([] : List Keyword).isEmpty then 0 else 1) < 30)) = true := by rfl)
    (hline : (apos.endLine == cpos.line) = true := by rfl) (hs : starEach (e :: []) X.env = (false, eval e X.env) :: starEach [] X.env := by rfl) (hplain : (backTo cpos (starEach [] X.env)).any (·.1) = false := by rfl) :
    PE X (.Call (.Attribute (.Name x p) "append" apos) [e] [] cpos) (lE X.K F0 (dAppend i te)) :=
  upE (pe_bm PySem.F.plainAttrs_list PySem.F.slot_list_append PySem.F.type_list_append mt_append hv (pa_cons he pa_nil hs) hbase hfew hline hs hplain) fun σ H F ρ μ Q S R h => by
    unfold dAppend at h
    split at h
    · rename_i a e1
      obtain ⟨⟨ds0, hm⟩, h⟩ := h
      obtain ⟨v, h1, h2⟩ := R.2 i _ e1
      have h2 : v = .ref a := h2
      subst h2
      obtain ⟨vs0, hH, _⟩ := S.lst hm
      refine ⟨_, h1, .inl ⟨rfl, vs0, .of hH⟩, F, ρ, μ, _, S, R, h, fun y H1 ⟨F1, dy, μ1, g1, ry, ds, hm1, hl, q⟩ => ?_⟩
      obtain ⟨vs, hH1, r1⟩ := g1.sim.lst hm1
      refine ⟨a, vs, y, rfl, rfl, hH1, by rw [r1.length]; exact hl, ?_⟩
      exact ⟨F1, .non, _, g1.trans (.write g1.sim hm1 (m := .lst (ds ++ [dy])) ⟨vs ++ [y], upd_same, r1.append (.one ry)⟩), rfl, q⟩
    · exact h.elim
def dgSub (ta ti : DE) : DG := fun d ρ μ Q => ta ρ μ fun o μ1 => ti ρ μ1 fun i μ2 => match o, i with
  | .raw (.ref a), .int k => ∃ ds j, μ2 a = some (.lst ds) ∧ ixN ds.length k = some j ∧ Q ρ (muSet μ2 a (.lst (ds.set j d)))
  | _, _ => False
theorem dg_sub {o i : Expr} {ta ti : DE} (ho : PE X o (lE X.K F0 ta)) (hi : PE X i (lE X.K F0 ti))
    (ha : ∀ v, assign (.Subscript o i pos) X.env v = (do
      let ov ← holding [v] (eval o X.env)
      let iv ← holding [v, ov] (eval i X.env)
      standAt pos
      holding [v, ov, iv] (setItem ov iv v)
      release [v, ov, iv] []) := by intro _; rfl) : PG X (.Subscript o i pos) (lG X.K F0 vs (dgSub ta ti)) :=
  ⟨fun pins s σ H v u Q I r h => by
    obtain ⟨F, ρ, μ, d, Qd, S, R, rd, hg, hq⟩ := h
    refine (pg_sub ho hi set_list ha).run pins s σ H v u Q I r ⟨F, ρ, μ, _, S, R, hg, fun x H1 ⟨F1, dx, μ1, g1, rx, h1⟩ => ⟨F1, ρ, μ1, _, g1.sim, R.mono g1.ext, h1, fun y H2 ⟨F2, dy, μ2, g2, ry, h2⟩ => ?_⟩⟩
    cases dx with
    | raw w =>
      cases w with
      | ref a =>
        cases dy with
        | int k =>
          obtain ⟨ds, j, hm, hj, q⟩ := h2
          obtain ⟨us, hH, r2⟩ := g2.sim.lst hm
          have rx : x = .ref a := rx
          have ry : y = .int k := ry
          refine ⟨a, us, k, j, rx, ry, hH, by rw [r2.length]; exact hj, hq _ _ ?_ rfl⟩
          have g12 := g1.trans g2
          exact ⟨F2, ρ, _, g12.trans (.write g2.sim hm (m := .lst (ds.set j d)) ⟨us.set j v, upd_same, Reps.set (Rep.mono g12.ext _ _ rd) j r2⟩), R.mono g12.ext, q⟩
        | _ => exact h2.elim
      | _ => exact h2.elim
    | _ => exact h2.elim⟩
/-! ### texts: sep.join(xs), s.split(sep) -/
def dJoin (to te : DE) : DE := fun ρ μ Q => to ρ μ fun x μ1 => match x with
  | .str a => te ρ μ1 fun y μ2 => (match y with
    | .lst xs => ∃ ys : List Str, xs = ys.map D.str ∧ (ys.map (·.length)).sum + ys.length * a.length ≤ 16777216 ∧ Q (.str (Txt.join a ys)) μ2
    | _ => False)
  | _ => False
def dSplit (to te : DE) : DE := fun ρ μ Q => to ρ μ fun x μ1 => match x with
  | .str a => te ρ μ1 fun y μ2 => (match y with
    | .str b => (b.length == 0) = false ∧ a.length + 2 ≤ sizeLine ∧ Q (.lst ((Txt.split a b).map D.str)) μ2
    | _ => False)
  | _ => False
theorem d_join {o e : Expr} {to te : DE} {apos : Pos} (ho : PE X o (lE X.K F0 to)) (he : PE X e (lE X.K F0 te)) (hs : starEach [e] X.env = [(false, eval e X.env)] := by rfl) (hbase : attributeBase o "join" X.env (eval o X.env) = eval o X.env := by rfl) (hline : (apos.endLine == pos.line) = true := by rfl) :
    PE X (.Call (.Attribute o "join" apos) [e] [] pos) (lE X.K F0 (dJoin to te)) := upE (pe_join ho he hs hbase hline) fun σ H F ρ μ Q S R h => ⟨F, ρ, μ, _, S, R, h, fun x H1 ⟨F1, dx, μ1, g1, rx, h1⟩ => by
  cases dx with
  | str a =>
    have rx : x = .str a := rx
    refine ⟨⟨a, rx⟩, F1, ρ, μ1, _, g1.sim, R.mono g1.ext, h1, fun y H2 ⟨F2, dy, μ2, g2, ry, h2⟩ => ?_⟩
    cases dy with
    | lst xs =>
      obtain ⟨ys, rfl, hz, q⟩ := h2
      obtain ⟨p, us, rfl, h3, h4⟩ := ry
      exact ⟨a, p, ys, rx, rfl, .inl (by rw [← h4.strs]; exact g2.sim.sub.seq h3), hz, .im (d := .str _) (g1.trans g2) rfl q⟩
    | _ => exact h2.elim
  | _ => exact h1.elim⟩
theorem d_split {o e : Expr} {to te : DE} {apos : Pos} (ho : PE X o (lE X.K F0 to)) (he : PE X e (lE X.K F0 te)) (hs : starEach [e] X.env = [(false, eval e X.env)] := by rfl) (hbase : attributeBase o "split" X.env (eval o X.env) = eval o X.env := by rfl) (hline : (apos.endLine == pos.line) = true := by rfl) :
    PE X (.Call (.Attribute o "split" apos) [e] [] pos) (lE X.K F0 (dSplit to te)) := upE (pe_split ho he hs hbase hline) fun σ H F ρ μ Q S R h => ⟨F, ρ, μ, _, S, R, h, fun x H1 ⟨F1, dx, μ1, g1, rx, h1⟩ => by
  cases dx with
  | str a =>
    have rx : x = .str a := rx
    refine ⟨⟨a, rx⟩, F1, ρ, μ1, _, g1.sim, R.mono g1.ext, h1, fun y H2 ⟨F2, dy, μ2, g2, ry, h2⟩ => ?_⟩
    cases dy with
    | str b =>
      obtain ⟨hb, hz, q⟩ := h2
      have ry : y = .str b := ry
      exact ⟨a, b, rx, by rw [ry], hb, hz, fun p hp => .new (d := .lst _) (g1.trans g2) hp (fun F' eF hF => ⟨p, _, rfl, .of hF, .of_strs⟩) q⟩
    | _ => exact h2.elim
  | _ => exact h1.elim⟩
end

/-! ### defs by their names -/
theorem hu64 {A : Around} {k : Nat} (hr : Room k A) : A.units + 64 < cLine := hr.units
theorem hu65 {A : Around} {k : Nat} (hr : Room k A) : A.units + 65 < cLine := by have := hr.un; omega
/-- where the def st of the top stands -/
structure Dn (K : Fg) (mg : Str → Option Value) (x : Str) (st : Stmt) : Prop where
  ex : ∃ f fd, Fun K x x st f fd ∧ mg x = some (.ref f)
/-- a def of the top that keeps a promise -/
structure Dk (P : Program) (w : World) (K : Fg) (mg : Str → Option Value) (base : Heap) (x : Str) (k : Nat) (ps : List Str) (sp : DSp) : Prop where
  ex : ∃ CX f fd, FnOk P w K mg base CX k f fd ps (lSp K sp) ∧ (∀ X : Cx, X.prog = P → X.w = w → Passes CX X E0) ∧ mg x = some (.ref f) ∧ PySem.W.keepIn K (.ref f) = true ∧ Binds K fd ps []
section
variable {X : Cx} {F0 : Og} {k : Nat} {ps : List Str} {sp : DSp} {x : Str} {p pos : Pos} {e : Expr} {es : List Expr} {t : DA}
theorem d_callD (G : Dk X.prog X.w X.K X.mg X.base x k ps sp) (hr : Room k X.A) (ha : PA X (e :: es) (lA X.K F0 t)) (hg : Gl X x := by rfl) (hdb : (x == ("__debug__" : Str)) = false := by decide) (he : starEach (e :: es) X.env = (false, eval e X.env) :: starEach es X.env := by rfl) (hpl : (backTo pos (starEach es X.env)).any (·.1) = false := by rfl) :
    PE X (.Call (.Name x p) (e :: es) [] pos) (lE X.K F0 (dCallF sp t)) := by
  obtain ⟨CX, f, fd, F, hx, hm, hk, hb⟩ := G.ex
  exact d_call F (hx X rfl rfl) hr hg hm hk hb ha hdb he hpl
theorem d_callD0 (G : Dk X.prog X.w X.K X.mg X.base x k ps sp) (hr : Room k X.A) (hg : Gl X x := by rfl) (hdb : (x == ("__debug__" : Str)) = false := by decide) :
    PE X (.Call (.Name x p) [] [] pos) (lE X.K F0 (dCallF sp dNil)) := by
  obtain ⟨CX, f, fd, F, hx, hm, hk, hb⟩ := G.ex
  exact d_call0 F (hx X rfl rfl) hr hg hm hk hb hdb
end
section
variable {P : Program} {w : World} {K : Fg} {mg : Str → Option Value} {base : Heap} {x : Str} {st : Stmt} {N ps : List Str} {k : Nat} {sp : DSp}
/-- THE RULE for a def of the top that raises nothing -/
theorem Dk.of (d : Dn K mg x st) (S : FnScope N ps (defScope st)) (len : ∀ ds μ Q E, sp ds μ Q E → ds.length = ps.length)
    (hb : ∀ (kV doc pm : Value) (an : Option Addr) (cdv ct : Value) (us : List Value), us.length = ps.length → bindArgs (PySem.W.fnOf x x (defArgs st) (defBody st) (defScope st) .none kV doc pm an cdv ct) ⟨us, []⟩ = pure (ps.zip us))
    (t : DS) (hbody : ∀ (F0 : Og) (f : Addr) (cdv : Value) (A : Around) (outer : List Env) (s : Shared) (H : Hp) (E : XK), Room k (A.deeper (envOfC x (defScope st) s.heap.objs.size f cdv)) → PSs (cxOf CX0 P w K mg base N x (defScope st) f cdv A outer s H E).nox (defBody st) (lS K F0 t))
    (hread : ∀ ds μ Q E, sp ds μ Q E → t { nx := fun _ μ' => Q .non μ', rt := Q } (ds.map some ++ List.replicate (N.length - ds.length) none) μ) : Dk P w K mg base x (k + 1) ps sp := by
  obtain ⟨f, fd, F, hm⟩ := d.ex
  exact ⟨CX0, f, fd, dfun F S len t (fun F0 cdv A outer s H E hr => hbody F0 f cdv A outer s H E hr) hread, fun _ _ _ => pass0, hm, F.kp, F.binds hb⟩
end
end DL

-- text F1
set_option Elab.async false
set_option linter.all false
set_option maxRecDepth 100000
set_option maxHeartbeats 2000000
/-! F1: fractions as data, their sizes, equality of data. -/
namespace GS
open PySem PySem.Spec PyProof.Rows L2 DL

/-- a fraction as the program holds it -/
def fr (r : Rat) : D := .tup [.int r.num, .int r.den]
/-- both parts below 2^k -/
structure Bz (k : Nat) (r : Rat) : Prop where
  n : r.num.natAbs < 2 ^ k
  d : r.den < 2 ^ k
theorem Bz.mono {k l : Nat} {r : Rat} (h : Bz k r) (hl : k ≤ l) : Bz l r :=
  have := Nat.pow_le_pow_right (n := 2) (by decide) hl
  ⟨Nat.lt_of_lt_of_le h.n this, Nat.lt_of_lt_of_le h.d this⟩
theorem num_le (a b : Int) (hb : 0 < b) : ((a : Rat) / (b : Rat)).num.natAbs ≤ a.natAbs ∧ ((a : Rat) / (b : Rat)).den ≤ b.natAbs := by
  rw [← Rat.divInt_eq_div]
  constructor
  · rw [Rat.num_divInt, Int.sign_eq_one_of_pos hb, Int.one_mul]
    have hg : (0 : Int) ≤ (b.gcd a : Int) := Int.natCast_nonneg _
    rw [Int.natAbs_ediv_of_dvd (Int.gcd_dvd_right ..)]
    exact Nat.div_le_self _ _
  · rw [Rat.den_divInt, if_neg (by omega)]
    exact Nat.div_le_self _ _
theorem Bz.frac {k : Nat} {a b : Int} (hb : 0 < b) (h1 : a.natAbs < 2 ^ k) (h2 : b.natAbs < 2 ^ k) : Bz k ((a : Rat) / (b : Rat)) :=
  ⟨Nat.lt_of_le_of_lt (num_le a b hb).1 h1, Nat.lt_of_le_of_lt (num_le a b hb).2 h2⟩
theorem rat_eq (r : Rat) : r = (r.num : Rat) / ((r.den : Int) : Rat) := by
  rw [← Rat.divInt_eq_div, Rat.num_divInt_den]
theorem den_pos (r : Rat) : (0 : Int) < (r.den : Int) := by
  have := r.den_nz
  omega
theorem denQ_pos (r : Rat) : (0 : Rat) < ((r.den : Int) : Rat) := by
  have := (Rat.intCast_lt_intCast (a := 0) (b := r.den)).mpr (den_pos r)
  exact_mod_cast this
theorem castQ_pos {b : Int} (h : 0 < b) : (0 : Rat) < (b : Rat) := by
  have := (Rat.intCast_lt_intCast (a := 0) (b := b)).mpr h
  exact_mod_cast this
theorem lt_mul {a b : Nat} {k l : Nat} (h1 : a < 2 ^ k) (h2 : b < 2 ^ l) : a * b < 2 ^ (k + l) := by
  rw [Nat.pow_add]
  exact Nat.mul_lt_mul'' h1 h2
theorem int_mul_lt {a b : Int} {k l : Nat} (h1 : a.natAbs < 2 ^ k) (h2 : b.natAbs < 2 ^ l) : (a * b).natAbs < 2 ^ (k + l) := by
  rw [Int.natAbs_mul]
  exact lt_mul h1 h2
theorem int_add_lt {a b : Int} {k : Nat} (h1 : a.natAbs < 2 ^ k) (h2 : b.natAbs < 2 ^ k) : (a + b).natAbs < 2 ^ (k + 1) := by
  have := Int.natAbs_add_le a b
  rw [Nat.pow_succ]
  omega
theorem int_lt_mono {a : Int} {k l : Nat} (h1 : a.natAbs < 2 ^ k) (h : k ≤ l) : a.natAbs < 2 ^ l := Nat.lt_of_lt_of_le h1 (Nat.pow_le_pow_right (by decide) h)
theorem log2_lt {n k : Nat} (h : n < 2 ^ k) (hk : 0 < k) : n.log2 < k := by
  by_cases hn : n = 0
  · subst hn
    simpa using hk
  · exact (Nat.log2_lt hn).mpr h
theorem mulW {i j : Int} {k l : Nat} (h1 : i.natAbs < 2 ^ k) (h2 : j.natAbs < 2 ^ l) (h : k + l ≤ 20000000) : CMulB i j := by
  have a := log2_lt (k := k + 1) (Nat.lt_of_lt_of_le h1 (Nat.pow_le_pow_right (by decide) (Nat.le_succ k))) (Nat.succ_pos _)
  have b := log2_lt (k := l + 1) (Nat.lt_of_lt_of_le h2 (Nat.pow_le_pow_right (by decide) (Nat.le_succ l))) (Nat.succ_pos _)
  show _ < _
  omega
theorem divW {x j : Int} {k : Nat} (h0 : 0 < j) (h1 : j.natAbs < 2 ^ k) (h : k ≤ 8990) : CDivW x j :=
  ⟨h0, by
    have a := log2_lt (k := k + 1) (Nat.lt_of_lt_of_le h1 (Nat.pow_le_pow_right (by decide) (Nat.le_succ k))) (Nat.succ_pos _)
    omega⟩
/-! the ways of fractions as the program counts them -/
theorem cast_mul (a b : Int) : ((a * b : Int) : Rat) = (a : Rat) * (b : Rat) := by push_cast; rfl
theorem add_eq (r s : Rat) : (((r.num * s.den + s.num * r.den : Int) : Rat) / ((r.den * s.den : Int) : Rat)) = r + s := by
  have h1 := rat_eq r
  have h2 := rat_eq s
  have p1 := denQ_pos r
  have p2 := denQ_pos s
  generalize r.num = a at *
  generalize (r.den : Int) = b at *
  generalize s.num = c at *
  generalize (s.den : Int) = d at *
  subst h1 h2
  push_cast
  grind
theorem sub_eq (r s : Rat) : (((r.num * s.den - s.num * r.den : Int) : Rat) / ((r.den * s.den : Int) : Rat)) = r - s := by
  have h1 := rat_eq r
  have h2 := rat_eq s
  have p1 := denQ_pos r
  have p2 := denQ_pos s
  generalize r.num = a at *
  generalize (r.den : Int) = b at *
  generalize s.num = c at *
  generalize (s.den : Int) = d at *
  subst h1 h2
  push_cast
  grind
theorem mul_eq (r s : Rat) : (((r.num * s.num : Int) : Rat) / ((r.den * s.den : Int) : Rat)) = r * s := by
  have h1 := rat_eq r
  have h2 := rat_eq s
  have p1 := denQ_pos r
  have p2 := denQ_pos s
  generalize r.num = a at *
  generalize (r.den : Int) = b at *
  generalize s.num = c at *
  generalize (s.den : Int) = d at *
  subst h1 h2
  push_cast
  grind
theorem num_pos {r : Rat} (h : 0 < r) : 0 < r.num := by
  have := (Rat.lt_iff 0 r).mp h
  simpa using this
theorem div_eq (r s : Rat) (hs : 0 < s) : (((r.num * s.den : Int) : Rat) / ((r.den * s.num : Int) : Rat)) = r / s := by
  have h1 := rat_eq r
  have h2 := rat_eq s
  have p1 := denQ_pos r
  have p2 := denQ_pos s
  have p3 := castQ_pos (num_pos hs)
  generalize r.num = a at *
  generalize (r.den : Int) = b at *
  generalize s.num = c at *
  generalize (s.den : Int) = d at *
  subst h1 h2
  push_cast
  grind
theorem Bz.add {k l : Nat} {r s : Rat} (h1 : Bz k r) (h2 : Bz l s) : Bz (k + l + 1) (r + s) := by
  rw [← add_eq]
  refine .frac (Int.mul_pos (den_pos r) (den_pos s)) (int_add_lt (int_mul_lt h1.n (by exact_mod_cast h2.d)) ?_) ?_
  · rw [Nat.add_comm k l]
    exact int_mul_lt h2.n (by exact_mod_cast h1.d)
  · exact int_lt_mono (int_mul_lt (by exact_mod_cast h1.d) (by exact_mod_cast h2.d)) (Nat.le_succ _)
theorem Bz.sub {k l : Nat} {r s : Rat} (h1 : Bz k r) (h2 : Bz l s) : Bz (k + l + 1) (r - s) := by
  rw [← sub_eq]
  refine .frac (Int.mul_pos (den_pos r) (den_pos s)) ?_ ?_
  · rw [Int.sub_eq_add_neg]
    refine int_add_lt (int_mul_lt h1.n (by exact_mod_cast h2.d)) ?_
    rw [Nat.add_comm k l, Int.natAbs_neg]
    exact int_mul_lt h2.n (by exact_mod_cast h1.d)
  · exact int_lt_mono (int_mul_lt (by exact_mod_cast h1.d) (by exact_mod_cast h2.d)) (Nat.le_succ _)
theorem Bz.mul {k l : Nat} {r s : Rat} (h1 : Bz k r) (h2 : Bz l s) : Bz (k + l) (r * s) := by
  rw [← mul_eq]
  exact .frac (Int.mul_pos (den_pos r) (den_pos s)) (int_mul_lt h1.n h2.n) (int_mul_lt (by exact_mod_cast h1.d) (by exact_mod_cast h2.d))
theorem Bz.div {k l : Nat} {r s : Rat} (h1 : Bz k r) (h2 : Bz l s) (hs : 0 < s) : Bz (k + l) (r / s) := by
  rw [← div_eq r s hs]
  exact .frac (Int.mul_pos (den_pos r) (num_pos hs)) (int_mul_lt h1.n (by exact_mod_cast h2.d)) (int_mul_lt (by exact_mod_cast h1.d) h2.n)
theorem Bz.int {k : Nat} {i : Int} (h : i.natAbs < 2 ^ k) (hk : 0 < k) : Bz k (i : Rat) := ⟨by simpa using h, by
  show (1 : Nat) < 2 ^ k
  exact Nat.one_lt_two_pow (by omega)⟩
theorem Bz.pos {k : Nat} {r : Rat} (h : Bz k r) : 0 < k := by
  have h1 := h.d
  have h2 := r.den_nz
  cases k with
  | zero => simp at h1; omega
  | succ k => exact Nat.succ_pos _
/-- divided by what divides both -/
theorem frmk (t b : Int) (hb : 0 < b) : D.tup [.int (t / (Int.gcd t b : Int)), .int (b / (Int.gcd t b : Int))] = fr ((t : Rat) / (b : Rat)) := by
  rw [← Rat.divInt_eq_div]
  unfold fr
  rw [Rat.num_divInt, Rat.den_divInt, if_neg (by omega), Int.sign_eq_one_of_pos hb, Int.one_mul, Int.gcd_comm]
  congr 3
  push_cast
  rw [Int.natAbs_of_nonneg (by omega)]

/-! ### equality of data -/
structure Enc {α : Type} [DecidableEq α] (enc : α → D) (n : Nat) : Prop where
  lay : ∀ a, (toPy (enc a)).canLay0 = true
  dep : ∀ a, (toPy (enc a)).depth ≤ n
  eq : ∀ a b, eqD (enc a) (enc b) = decide (a = b)
section
variable {α : Type} [DecidableEq α] {enc : α → D} {n : Nat}
theorem Enc.shp (h : Enc enc n) (hn : n ≤ 64) (a : α) : shp (enc a) = true := by
  show (_ && _) = true
  rw [h.lay, decide_eq_true (Nat.le_trans (h.dep a) hn)]
  rfl
theorem Enc.int : Enc (fun i : Int => D.int i) 1 := ⟨fun a => rfl, fun a => by show PyData.depth (.int a) ≤ 1; simp [PyData.depth], fun a b => by
  show PyData.eqv (.int a) (.int b) = _
  simp only [PyData.eqv]
  rfl⟩
theorem Enc.seqL (h : Enc enc n) : ∀ xs : List α, PyData.canLayAll0 (toPys (xs.map enc)) = true ∧ PyData.depthAll (toPys (xs.map enc)) ≤ n
  | [] => ⟨rfl, Nat.zero_le _⟩
  | x :: xs => by
    obtain ⟨h1, h2⟩ := h.seqL xs
    constructor
    · show (_ && _) = true
      rw [h.lay, h1]
      rfl
    · show PyData.depthAll (toPy (enc x) :: _) ≤ n
      simp only [PyData.depthAll]
      exact Nat.max_le.mpr ⟨h.dep x, h2⟩
theorem Enc.eqvL (h : Enc enc n) : ∀ xs ys : List α, PyData.eqvAll (toPys (xs.map enc)) (toPys (ys.map enc)) = decide (xs = ys)
  | [], [] => rfl
  | [], y :: ys => by simp [toPys, PyData.eqvAll]
  | x :: xs, [] => by simp [toPys, PyData.eqvAll]
  | x :: xs, y :: ys => by
    have e := h.eq x y
    have e : PyData.eqv (toPy (enc x)) (toPy (enc y)) = decide (x = y) := e
    show PyData.eqvAll (toPy (enc x) :: toPys (xs.map enc)) (toPy (enc y) :: toPys (ys.map enc)) = _
    simp only [PyData.eqvAll]
    rw [e, h.eqvL xs ys]
    by_cases h1 : x = y <;> by_cases h2 : xs = ys <;> simp [h1, h2]
theorem Enc.lst (h : Enc enc n) : Enc (fun xs : List α => D.lst (xs.map enc)) (n + 1) := ⟨fun xs => (h.seqL xs).1, fun xs => by
  show PyData.depth (.list (toPys (xs.map enc))) ≤ _
  simp only [PyData.depth]
  have := (h.seqL xs).2
  omega, fun xs ys => by
  show PyData.eqv (.list (toPys (xs.map enc))) (.list (toPys (ys.map enc))) = _
  simp only [PyData.eqv]
  exact h.eqvL xs ys⟩
theorem Enc.tup (h : Enc enc n) : Enc (fun xs : List α => D.tup (xs.map enc)) (n + 1) := ⟨fun xs => (h.seqL xs).1, fun xs => by
  show PyData.depth (.tuple (toPys (xs.map enc))) ≤ _
  simp only [PyData.depth]
  have := (h.seqL xs).2
  omega, fun xs ys => by
  show PyData.eqv (.tuple (toPys (xs.map enc))) (.tuple (toPys (ys.map enc))) = _
  simp only [PyData.eqv]
  exact h.eqvL xs ys⟩
theorem Enc.comap {β : Type} [DecidableEq β] (h : Enc enc n) {f : β → α} (hf : ∀ a b, f a = f b → a = b) {enc' : β → D} (he : ∀ b, enc' b = enc (f b)) : Enc enc' n := ⟨fun b => by rw [he]; exact h.lay _, fun b => by rw [he]; exact h.dep _, fun a b => by
  rw [he, he, h.eq]
  by_cases hab : a = b
  · subst hab; simp
  · rw [decide_eq_false hab, decide_eq_false (fun z => hab (hf _ _ z))]⟩
end
theorem Enc.fr : Enc fr 2 := Enc.comap (Enc.tup Enc.int) (f := fun r : Rat => [r.num, (r.den : Int)]) (fun a b h => by
  simp only [List.cons.injEq, and_true] at h
  exact Rat.ext h.1 (by exact_mod_cast h.2)) fun b => rfl
def wL (ws : List Int) : List D := ws.map D.int
def fL (xs : List Rat) : List D := xs.map fr
end GS

-- text DL7
set_option Elab.async false
set_option linter.all false
set_option maxRecDepth 100000
set_option maxHeartbeats 2000000
/-! DL7: readings of loops and comprehensions by lists; a variable that holds a list or a tuple is walked; builtins. -/
namespace DL
open PySem PySem.Spec PyProof.Rows L2

/-! ### a list or a tuple in a variable is walked -/
def diSeq (i : Nat) : DI := fun ρ μ R => match ρ[i]? with
  | some (some (.lst xs)) => R xs μ
  | some (some (.tup xs)) => R xs μ
  | _ => False
theorem PI.or {X : Cx} {tg iter : Expr} {w1 w2 : TI} (h1 : PI X tg iter w1) (h2 : PI X tg iter w2) : PI X tg iter (fun σ H R => w1 σ H R ∨ w2 σ H R) := ⟨fun pins s σ H R I h => by
  rcases h with h | h
  · exact h1.run pins s σ H R I h
  · exact h2.run pins s σ H R I h⟩
theorem PI.weak {X : Cx} {tg iter : Expr} {w1 w2 : TI} (h1 : PI X tg iter w1) (h : ∀ σ H R, w2 σ H R → w1 σ H R) : PI X tg iter w2 := ⟨fun pins s σ H R I h' => h1.run pins s σ H R I (h σ H R h')⟩
theorem di_seq {X : Cx} {F0 : Og} {tg e : Expr} (i : Nat) (h : PE X e (lE X.K F0 (dVar i))) : PI X tg e (lI X.K F0 (diSeq i)) :=
  PI.weak (PI.or (di_lst h) (di_tup h)) fun σ H R ⟨F, ρ, μ, Rd, S, Re, ht, hq⟩ => by
    unfold diSeq at ht
    split at ht
    · rename_i xs e
      refine .inl ⟨F, ρ, μ, Rd, S, Re, ?_, hq⟩
      show dVar i ρ μ _
      unfold dVar
      rw [e]
      exact ht
    · rename_i xs e
      refine .inr ⟨F, ρ, μ, Rd, S, Re, ?_, hq⟩
      show dVar i ρ μ _
      unfold dVar
      rw [e]
      exact ht
    · exact ht.elim

/-! ### comprehensions and loops, by lists -/
def LcB (g : DG) (tt : DT) (te : DE) (vs : List Nat) (ρ : En) (xs : List D) (μ1 : Mu) (Q : DQ) : Prop := xs.length ≤ sizeLine ∧ ∃ Pv : Nat → List D → Mu → Prop, Pv 0 [] μ1 ∧
  (∀ (i : Nat) x acc μ, xs[i]? = some x → Pv i acc μ → g x (dwipe ρ vs) μ fun ρ2 μ2 => tt ρ2 μ2 fun b μ3 => if b = true then te ρ2 μ3 fun y μ4 => Pv (i + 1) (acc ++ [y]) μ4 else Pv (i + 1) acc μ3) ∧ ∀ acc μ, Pv xs.length acc μ → Q (.lst acc) μ
theorem dLc_eq {src : DI} {g : DG} {tt : DT} {te : DE} {vs : List Nat} {ρ : En} {μ : Mu} {Q : DQ} : dLc src g tt te vs ρ μ Q = src ρ μ fun xs μ1 => LcB g tt te vs ρ xs μ1 Q := rfl
def ForB (g : DG) (tb : DS) (Dd : DEnds) (ρ : En) (xs : List D) (μ1 : Mu) : Prop := ∃ Pv : Nat → En → Mu → Prop, Pv 0 ρ μ1 ∧
  (∀ (i : Nat) x ρ μ, xs[i]? = some x → Pv i ρ μ → g x ρ μ fun ρ2 μ2 => tb { Dd with nx := Pv (i + 1), ct := Pv (i + 1), bk := Dd.nx } ρ2 μ2) ∧ ∀ ρ μ, Pv xs.length ρ μ → Dd.nx ρ μ
theorem dFor_eq {src : DI} {g : DG} {tb : DS} {D : DEnds} {ρ : En} {μ : Mu} : dFor src g tb D ρ μ = src ρ μ fun xs μ1 => ForB g tb D ρ xs μ1 := rfl
def WhB (c : DT) (tb : DS) (D : DEnds) (ρ : En) (μ : Mu) : Prop := dWhile c tb D ρ μ
theorem dWhile_eq {c : DT} {tb : DS} {D : DEnds} {ρ : En} {μ : Mu} : dWhile c tb D ρ μ = WhB c tb D ρ μ := rfl
section
variable {α : Type} {g : DG} {tt : DT} {te : DE} {vs : List Nat} {ρ : En} {xs : List D} {μ : Mu} {Q : DQ} {tb : DS} {Dd : DEnds}
theorem LcB.fm (as : List α) (e : α → D) (f : α → Option D) (hx : xs = as.map e) (hl : as.length ≤ sizeLine)
    (h : ∀ a ∈ as, ∀ R : Option D → Mu → Prop, R (f a) μ → g (e a) (dwipe ρ vs) μ fun ρ2 μ2 => tt ρ2 μ2 fun b μ3 => if b = true then te ρ2 μ3 fun y μ4 => R (some y) μ4 else R none μ3)
    (hq : Q (.lst (as.filterMap f)) μ) : LcB g tt te vs ρ xs μ Q := by
  subst hx
  refine ⟨by rw [List.length_map]; exact hl, fun i acc m => acc = (as.take i).filterMap f ∧ m = μ, ⟨rfl, rfl⟩, ?_, ?_⟩
  · rintro i x acc m hi ⟨rfl, rfl⟩
    rw [List.getElem?_map] at hi
    cases ha : as[i]? with
    | none => rw [ha] at hi; cases hi
    | some a =>
      rw [ha] at hi
      cases hi
      have hm : a ∈ as := List.mem_of_getElem? ha
      have ht : as.take (i + 1) = as.take i ++ [a] := by
        rw [List.take_add_one, ha]
        rfl
      have := h a hm (fun o m' => (match o with | some y => (as.take i).filterMap f ++ [y] | none => (as.take i).filterMap f) = (as.take (i + 1)).filterMap f ∧ m' = m) ⟨by
        rw [ht, List.filterMap_append]
        cases hf : f a with
        | none => simp [hf]
        | some y => simp [hf], rfl⟩
      exact this
  · rintro acc m ⟨rfl, rfl⟩
    rw [List.length_map, List.take_length]
    exact hq
theorem LcB.mp (as : List α) (e : α → D) (f : α → D) (hx : xs = as.map e) (hl : as.length ≤ sizeLine)
    (h : ∀ a ∈ as, ∀ R : DQ, R (f a) μ → g (e a) (dwipe ρ vs) μ fun ρ2 μ2 => te ρ2 μ2 R) (hq : Q (.lst (as.map f)) μ) : LcB g dYes te vs ρ xs μ Q :=
  LcB.fm as e (fun a => some (f a)) hx hl (fun a ha R hR => h a ha (fun y m => R (some y) m) hR) (by
    rw [show (as.filterMap fun a => some (f a)) = as.map f from by induction as with
      | nil => rfl
      | cons a r ih => simp [List.filterMap_cons]]
    exact hq)
/-- a comprehension whose parts change what may change: J after so many -/
theorem LcB.st (as : List α) (e : α → D) (J : List α → List D → Mu → Prop) (hx : xs = as.map e) (hl : as.length ≤ sizeLine) (h0 : J [] [] μ)
    (h : ∀ pre a post acc m, as = pre ++ a :: post → J pre acc m → g (e a) (dwipe ρ vs) m fun ρ2 μ2 => te ρ2 μ2 fun y m' => J (pre ++ [a]) (acc ++ [y]) m')
    (hq : ∀ acc m, J as acc m → Q (.lst acc) m) : LcB g dYes te vs ρ xs μ Q := by
  subst hx
  refine ⟨by rw [List.length_map]; exact hl, fun i acc m => J (as.take i) acc m, h0, ?_, ?_⟩
  · intro i x acc m hi hj
    rw [List.getElem?_map] at hi
    cases ha : as[i]? with
    | none => rw [ha] at hi; cases hi
    | some a =>
      rw [ha] at hi
      cases hi
      have ht : as.take (i + 1) = as.take i ++ [a] := by
        rw [List.take_add_one, ha]
        rfl
      have hs : as = as.take i ++ a :: as.drop (i + 1) := by
        obtain ⟨hlt, rfl⟩ := List.getElem?_eq_some_iff.mp ha
        rw [← List.drop_eq_getElem_cons hlt, List.take_append_drop]
      have := h _ a _ acc m hs hj
      rw [← ht] at this
      exact this
  · intro acc m hj
    rw [List.length_map, List.take_length] at hj
    exact hq acc m hj
theorem ForB.inv (as : List α) (e : α → D) (J : List α → En → Mu → Prop) (hx : xs = as.map e) (h0 : J [] ρ μ)
    (h : ∀ pre a post ρ m, as = pre ++ a :: post → J pre ρ m → g (e a) ρ m fun ρ2 μ2 => tb { Dd with nx := J (pre ++ [a]), ct := J (pre ++ [a]), bk := Dd.nx } ρ2 μ2)
    (hq : ∀ ρ m, J as ρ m → Dd.nx ρ m) : ForB g tb Dd ρ xs μ := by
  subst hx
  refine ⟨fun i ρ m => J (as.take i) ρ m, h0, ?_, ?_⟩
  · intro i x ρ m hi hj
    rw [List.getElem?_map] at hi
    cases ha : as[i]? with
    | none => rw [ha] at hi; cases hi
    | some a =>
      rw [ha] at hi
      cases hi
      have ht : as.take (i + 1) = as.take i ++ [a] := by
        rw [List.take_add_one, ha]
        rfl
      have hs : as = as.take i ++ a :: as.drop (i + 1) := by
        obtain ⟨hlt, rfl⟩ := List.getElem?_eq_some_iff.mp ha
        rw [← List.drop_eq_getElem_cons hlt, List.take_append_drop]
      have := h _ a _ ρ m hs hj
      rw [← ht] at this
      exact this
  · intro ρ m hj
    rw [List.length_map, List.take_length] at hj
    exact hq ρ m hj
theorem WhB.inv {c : DT} (J : Nat → En → Mu → Prop) (m : Nat) (h0 : J m ρ μ)
    (h : ∀ m ρ μ, J m ρ μ → c ρ μ fun b μ1 => if b = true then tb { Dd with nx := fun ρ2 μ2 => ∃ m', m' < m ∧ J m' ρ2 μ2, ct := fun ρ2 μ2 => ∃ m', m' < m ∧ J m' ρ2 μ2, bk := Dd.nx } ρ μ1 else Dd.nx ρ μ1) : WhB c tb Dd ρ μ := ⟨J, ⟨m, h0⟩, h⟩
end
theorem zip2D_map {α β : Type} (f : α → D) (g : β → D) : ∀ (as : List α) (bs : List β), zip2D (as.map f) (bs.map g) = (as.zip bs).map fun p => .tup [f p.1, g p.2]
  | [], bs => by simp [zip2D]
  | a :: as, [] => by simp [zip2D]
  | a :: as, b :: bs => by
    have := zip2D_map f g as bs
    unfold zip2D at this ⊢
    simp only [List.map_cons, List.zipWith_cons_cons, List.zip_cons_cons, this]
theorem zip3D_map {α β γ : Type} (f : α → D) (g : β → D) (h : γ → D) : ∀ (as : List α) (bs : List β) (cs : List γ), zip3D (as.map f) (bs.map g) (cs.map h) = (as.zip (bs.zip cs)).map fun p => .tup [f p.1, g p.2.1, h p.2.2]
  | [], bs, cs => by simp [zip3D]
  | a :: as, [], cs => by simp [zip3D]
  | a :: as, b :: bs, [] => by simp [zip3D]
  | a :: as, b :: bs, c :: cs => by
    simp only [List.map_cons, zip3D, List.zip_cons_cons, zip3D_map f g h as bs cs]
theorem rngD_map (lo : Int) (n : Nat) : rngD lo n = (List.range n).map fun (i : Nat) => D.int (lo + (i : Int)) := rfl
theorem enumD_map {α : Type} (f : α → D) (as : List α) : enumD (as.map f) = as.zipIdx.map fun p => .tup [.int (p.2 : Nat), f p.1] := by
  unfold enumD
  apply List.ext_getElem?
  intro i
  simp [List.getElem?_mapIdx, List.getElem?_zipIdx]
  cases as[i]? <;> rfl

/-! ### the builtins -/
theorem bb_abs : bootBuiltins "abs" = some (.builtin "abs") := by decide +kernel
theorem bb_len : bootBuiltins "len" = some (.builtin "len") := by decide +kernel
theorem bb_sum : bootBuiltins "sum" = some (.builtin "sum") := by decide +kernel
theorem bb_all : bootBuiltins "all" = some (.builtin "all") := by decide +kernel
theorem bb_any : bootBuiltins "any" = some (.builtin "any") := by decide +kernel
theorem bb_isinstance : bootBuiltins "isinstance" = some (.builtin "isinstance") := by decide +kernel
theorem bb_max : bootBuiltins "max" = some (.builtin "max") := by decide +kernel
theorem bb_min : bootBuiltins "min" = some (.builtin "min") := by decide +kernel
theorem bt_ValueError : bootBuiltins "ValueError" = some (.type "ValueError") := by decide +kernel
theorem bt_int : bootBuiltins "int" = some (.type "int") := by decide +kernel
theorem bt_str : bootBuiltins "str" = some (.type "str") := by decide +kernel
theorem bt_tuple : bootBuiltins "tuple" = some (.type "tuple") := by decide +kernel
theorem bt_list : bootBuiltins "list" = some (.type "list") := by decide +kernel
theorem bt_bool : bootBuiltins "bool" = some (.type "bool") := by decide +kernel
end DL

-- text F2
set_option Elab.async false
set_option linter.all false
set_option maxRecDepth 100000
set_option maxHeartbeats 2000000
/-! F2: small facts for readings. -/
namespace GS
open PySem PySem.Spec PyProof.Rows L2 DL
theorem eqD_int (a b : Int) : eqD (.int a) (.int b) = decide (a = b) := Enc.int.eq a b
theorem shp_int (a : Int) : shp (.int a) = true := Enc.int.shp (by decide) a
theorem eqD_fr (a b : Rat) : eqD (fr a) (fr b) = decide (a = b) := Enc.fr.eq a b
theorem shp_fr (a : Rat) : shp (fr a) = true := Enc.fr.shp (by decide) a
theorem atI_0 {α : Type} (a : α) (l : List α) : atI (a :: l) 0 = some a := by simp [atI, ixN]
theorem atI_1 {α : Type} (a b : α) (l : List α) : atI (a :: b :: l) 1 = some b := by
  have : (1 : Int) < (l.length : Int) + 1 + 1 := by omega
  simp [atI, ixN, this]
theorem ixN_nat (n i : Nat) (h : i < n) : ixN n (i : Int) = some i := by simp [ixN, h]
theorem atI_nat {α : Type} (l : List α) (i : Nat) (h : i < l.length) : atI l (i : Int) = some l[i] := by simp [atI, ixN, h]
theorem atI_get {α : Type} (l : List α) (i : Nat) (a : α) (h : l[i]? = some a) : atI l (i : Int) = some a := by
  obtain ⟨hl, rfl⟩ := List.getElem?_eq_some_iff.mp h
  exact atI_nat l i hl
theorem ex_some {α : Type} {a : α} {P : α → Prop} : (∃ d, some a = some d ∧ P d) = P a := by simp
theorem dIx_tup (xs : List D) (i : Int) (μ : Mu) (Q : DQ) : dIx (.tup xs) (.int i) μ Q = (match atI xs i with
  | some d => Q d μ
  | none => False) := by
  show (∃ d, atI xs i = some d ∧ Q d μ) = _
  generalize atI xs i = o
  cases o <;> simp
theorem dIx_lst (xs : List D) (i : Int) (μ : Mu) (Q : DQ) : dIx (.lst xs) (.int i) μ Q = (match atI xs i with
  | some d => Q d μ
  | none => False) := by
  show (∃ d, atI xs i = some d ∧ Q d μ) = _
  generalize atI xs i = o
  cases o <;> simp
theorem dIx_raw (a : Addr) (i : Int) (μ : Mu) (Q : DQ) : dIx (.raw (.ref a)) (.int i) μ Q = ∃ ds d, μ a = some (.lst ds) ∧ atI ds i = some d ∧ Q d μ := rfl
theorem cut_from1 {α : Type} (x : α) (xs : List α) : DL.cutD (x :: xs) (some 1) none = xs := by simp [DL.cutD, HT.sIx]
theorem fr_zero : D.tup [.int 0, .int 1] = fr 0 := rfl
theorem fr_one : D.tup [.int 1, .int 1] = fr 1 := rfl
theorem fr_int (i : Int) : D.tup [.int i, .int 1] = fr (i : Rat) := rfl
theorem tru (b : Bool) : (if b = true then b else b) = b := by simp
mutual
def nr : D → Bool
  | .raw _ => false
  | .tup ds => nrs ds
  | .lst ds => nrs ds
  | _ => true
def nrs : List D → Bool
  | [] => true
  | d :: ds => nr d && nrs ds
end
theorem nrs_mem : ∀ {ds : List D}, nrs ds = true → ∀ d ∈ ds, nr d = true
  | d :: ds, h, x, hx => by
    simp only [nrs, Bool.and_eq_true] at h
    rcases List.mem_cons.mp hx with rfl | hx
    · exact h.1
    · exact nrs_mem h.2 x hx
theorem nrs_of : ∀ {ds : List D}, (∀ d ∈ ds, nr d = true) → nrs ds = true
  | [], _ => rfl
  | d :: ds, h => by
    simp only [nrs, Bool.and_eq_true]
    exact ⟨h d List.mem_cons_self, nrs_of fun x hx => h x (List.mem_cons_of_mem _ hx)⟩
theorem nr_fr (r : Rat) : nr (fr r) = true := rfl
/-- is_whole's answer -/
def wholeD : D → Int → Int → Bool
  | .int i, lo, hi => decide (lo ≤ i ∧ i ≤ hi)
  | _, _, _ => false
/-- fits_fraction's answer -/
def fitsD : D → Int → Int → Int → Bool
  | .tup [.int a, .int b], lo, hi, bel => decide (lo ≤ a ∧ a ≤ hi ∧ 1 ≤ b ∧ b ≤ bel ∧ Int.gcd a b = 1)
  | _, _, _, _ => false
theorem fits_fr {lo hi bel : Int} {d : D} (h : fitsD d lo hi bel = true) : ∃ r : Rat, d = fr r ∧ lo ≤ r.num ∧ r.num ≤ hi ∧ (r.den : Int) ≤ bel := by
  unfold fitsD at h
  split at h
  · rename_i a b
    have h := of_decide_eq_true h
    obtain ⟨h1, h2, h3, h4, h5⟩ := h
    have hb : b = (b.toNat : Int) := by omega
    have hg : a.natAbs.Coprime b.toNat := by
      show Nat.gcd _ _ = 1
      have : b.toNat = b.natAbs := by omega
      rw [this]
      exact h5
    refine ⟨⟨a, b.toNat, by omega, hg⟩, ?_, h1, h2, ?_⟩
    · unfold fr
      simp only
      rw [← hb]
    · simp only
      omega
  · cases h
theorem fits_of {lo hi bel : Int} {r : Rat} (h1 : lo ≤ r.num) (h2 : r.num ≤ hi) (h3 : (r.den : Int) ≤ bel) : fitsD (fr r) lo hi bel = true := by
  show decide _ = true
  refine decide_eq_true ⟨h1, h2, ?_, h3, r.reduced⟩
  have := den_pos r
  omega
end GS

-- text DL8
set_option Elab.async false
set_option linter.all false
set_option maxRecDepth 100000
set_option maxHeartbeats 2000000
/-! DL8: defs that raise. -/
namespace DL
open PySem PySem.Spec PyProof.Rows L2
/-- what an error's class must keep, over data -/
def lW (K : Fg) (F0 : Og) (Ew : Value → Mu → Prop) : WX := fun cls d _ H => d = none ∧ ∃ F μ, Sim K F0 F H μ ∧ Ew cls μ
/-- an own exception class of the top -/
structure Ec (K : Fg) (mg : Str → Option Value) (x : Str) (C : Addr) : Prop where
  q : PySem.W.excIn K C He.veBase "ValueError.__new__" = true
  gC : mg x = some (.ref C)
  kC : PySem.W.keepIn K (.ref C) = true
  h1 : PySem.W.subIn K (.ref C) (.type "BaseException") = some true
  h2 : PySem.W.typeIn K (.ref C) = some (.type "type")
def dRaise (Ew : Value → Mu → Prop) (cls : Value) : DS := fun _ _ μ => Ew cls μ
def dCallX (sp : DSp) (Ew : Value → Mu → Prop) (t : DA) : DE := fun ρ μ Q => t ρ μ fun ds μ1 => sp ds μ1 Q Ew
theorem Sim.chain {K : Fg} {F0 : Og} {F H F' H' : Hp} {μ μ' : Mu} (S : Sim K F0 F H μ) (g : Sim K ⟨F, H, μ⟩ F' H' μ') : Sim K F0 F' H' μ' := ⟨S.old.trans g.old, S.kept.trans g.kept, g.sub, g.mu⟩
section
variable {X : Cx} {F0 : Og} {Ew : Value → Mu → Prop} {C : Addr} {x m : Str} {j : Nat} {p p2 pos pos' : Pos}
theorem ds_raise (hc : X.calm = true) (tk : L2N.Takes X (lW X.K F0 Ew)) (ec : Ec X.K X.mg x C) (hg : Gl X x := by rfl) (hdb : (x == ("__debug__" : Str)) = false := by decide) :
    PS X (.Raise (some (.Call (.Name x p) [.Constant (.str m) j p2] [] pos)) none pos') (lS X.K F0 (dRaise Ew (.ref C))) :=
  upS (L2N.ps_raise hc tk (L2N.pmk_own PySem.F.excBase_ValueError ec.q ec.gC ec.kC (raises_own ec.h1 ec.h2) hg hdb)) fun σ H F ρ μ Dd S R h => ⟨rfl, F, μ, S, h⟩
/-- a def of the top that may raise -/
structure DkX (P : Program) (w : World) (K : Fg) (mg : Str → Option Value) (base : Heap) (x : Str) (k : Nat) (ps : List Str) (sp : DSp) : Prop where
  ex : ∃ f fd, FnOk P w K mg base (L2N.CX P w) k f fd ps (lSp K sp) ∧ mg x = some (.ref f) ∧ PySem.W.keepIn K (.ref f) = true ∧ Binds K fd ps []
theorem DkX.dk {P : Program} {w : World} {K : Fg} {mg : Str → Option Value} {base : Heap} {x : Str} {k : Nat} {ps : List Str} {sp : DSp} (h : DkX P w K mg base x k ps sp) : Dk P w K mg base x k ps sp := by
  obtain ⟨f, fd, F, hm, hk, hb⟩ := h.ex
  refine ⟨_, f, fd, F, fun X hP hw => ?_, hm, hk, hb⟩
  intro pins σ H s e s' I c
  obtain ⟨_, _, _, _, _, _, _, _, _, _, _, _, z⟩ := c
  exact z.elim
theorem d_callDX {k : Nat} {ps : List Str} {sp : DSp} {e : Expr} {es : List Expr} {t : DA} (tk : L2N.Takes X (lW X.K F0 Ew)) (G : DkX X.prog X.w X.K X.mg X.base x k ps sp) (hr : Room k X.A) (ha : PA X (e :: es) (lA X.K F0 t)) (hg : Gl X x := by rfl) (hdb : (x == ("__debug__" : Str)) = false := by decide)
    (he : starEach (e :: es) X.env = (false, eval e X.env) :: starEach es X.env := by rfl) (hpl : (backTo pos (starEach es X.env)).any (·.1) = false := by rfl) :
    PE X (.Call (.Name x p) (e :: es) [] pos) (lE X.K F0 (dCallX sp Ew t)) := by
  obtain ⟨f, fd, F, hm, hk, hb⟩ := G.ex
  refine upE (pe_callS F hr hg hm hk hb (fun σ => L2N.passAt tk σ) ha hdb he hpl) fun σ H F ρ μ Q S R h => ?_
  refine ⟨F, ρ, μ, _, S, R, h, fun xs H1 ⟨F1, ds, μ1, g1, rs, h1⟩ => ?_⟩
  refine ⟨F1, ds, μ1, Q, Ew, g1.sim.self, rs, h1, fun v H' ⟨F2, d, μ2, g2, rd, h2⟩ => ⟨F2, d, μ2, g1.trans (.base g1.sim g2), rd, h2⟩, fun cls F' H' μ' S' z => ⟨rfl, F', μ', g1.sim.chain S', z⟩⟩
end
section
variable {P : Program} {w : World} {K : Fg} {mg : Str → Option Value} {base : Heap} {x : Str} {st : Stmt} {N ps : List Str} {k : Nat} {sp : DSp}
/-- THE RULE for a def of the top that may raise -/
theorem DkX.of (d : Dn K mg x st) (S : FnScope N ps (defScope st)) (len : ∀ ds μ Q E, sp ds μ Q E → ds.length = ps.length)
    (hb : ∀ (kV doc pm : Value) (an : Option Addr) (cdv ct : Value) (us : List Value), us.length = ps.length → bindArgs (PySem.W.fnOf x x (defArgs st) (defBody st) (defScope st) .none kV doc pm an cdv ct) ⟨us, []⟩ = pure (ps.zip us))
    (t : (Value → Mu → Prop) → DS) (hbody : ∀ (F0 : Og) (f : Addr) (cdv : Value) (A : Around) (outer : List Env) (s : Shared) (H : Hp) (E : XK) (Ew : Value → Mu → Prop), Room k (A.deeper (envOfC x (defScope st) s.heap.objs.size f cdv)) →
      L2N.Takes (cxOf (L2N.CX P w) P w K mg base N x (defScope st) f cdv A outer s H E) (lW K F0 Ew) → PSs (cxOf (L2N.CX P w) P w K mg base N x (defScope st) f cdv A outer s H E) (defBody st) (lS K F0 (t Ew)))
    (hread : ∀ ds μ Q E, sp ds μ Q E → t E { nx := fun _ μ' => Q .non μ', rt := Q } (ds.map some ++ List.replicate (N.length - ds.length) none) μ) : DkX P w K mg base x (k + 1) ps sp := by
  obtain ⟨f, fd, F, hm⟩ := d.ex
  obtain ⟨oc, od, kV, doc, pm, an, cdv, ct, osl, rfl, lk, hcd⟩ := id F.ex
  have fin : FnOk P w K mg base (L2N.CX P w) (k + 1) f (PySem.W.fnOf x x (defArgs st) (defBody st) (defScope st) .none kV doc pm an cdv ct) ps (lSp K sp) := by
    refine fn_of lk hcd S (fun vs H Q E h => ?_) fun A outer s H vs Q E hr h => ?_
    · obtain ⟨F, ds, μ, Qd, Ed, Sm, r, h1, _⟩ := h
      rw [r.length]
      exact len _ _ _ _ h1
    · obtain ⟨F1, ds, μ, Qd, Ed, Sm, r, h1, hq, he⟩ := h
      refine ⟨_, hbody ⟨F1, H, μ⟩ f cdv A outer s H E Ed hr ?_, F1, _, μ, _, Sm, REnv.start r, hread _ _ _ _ h1, ?_⟩
      · exact (L2N.takes_of rfl rfl rfl rfl).imp fun cls d σ H' ⟨hd, F', μ', S', z⟩ => by
          subst hd
          exact he cls F' H' μ' S' z
      · exact ⟨fun σ H' ⟨F2, ρ2, μ2, g2, _, q⟩ => hq _ _ ⟨F2, .non, μ2, g2, rfl, q⟩, hq, fun _ _ ⟨_, _, _, _, _, z⟩ => z, fun _ _ ⟨_, _, _, _, _, z⟩ => z⟩
  exact ⟨f, _, fin, hm, F.kp, F.binds hb⟩
end
end DL

-- text Top
set_option Elab.async false
set_option linter.all false
set_option maxRecDepth 100000
set_option maxHeartbeats 4000000
namespace GS
open PySem
abbrev top (i : Nat) : Stmt := PySem.Challenge.pw_growshares_k07_whole_weights_told_back.main.body.getD i (.Pass ⟨0, 0, 0, 0⟩)
end GS

-- text F3
set_option Elab.async false
set_option linter.all false
set_option maxRecDepth 100000
set_option maxHeartbeats 2000000
/-! F3: what the program's defs answer, as plain Lean. -/
namespace GS
open PySem PySem.Spec PyProof.Rows L2 DL
def fitOdds : D → Bool
  | .tup xs => decide (2 ≤ xs.length ∧ xs.length ≤ 5) && xs.all fun x => fitsD x 1 1000 1000
  | _ => false
def ratD : D → Rat
  | .tup [.int a, .int b] => (a : Rat) / (b : Rat)
  | _ => 0
theorem ratD_fr (r : Rat) : ratD (fr r) = r := (rat_eq r).symm
def FAR : Int := 10 ^ 30
def fitShares (many : Nat) : D → Bool
  | .tup xs => decide (xs.length = many + 1) && (xs.all (fun x => fitsD x 0 FAR FAR) && decide ((xs.map ratD).sum = 1))
  | _ => false
theorem fits_all {lo hi bel : Int} : ∀ {xs : List D}, (xs.all fun x => fitsD x lo hi bel) = true → ∃ rs : List Rat, xs = fL rs ∧ ∀ r ∈ rs, lo ≤ r.num ∧ r.num ≤ hi ∧ (r.den : Int) ≤ bel
  | [], _ => ⟨[], rfl, by simp⟩
  | x :: xs, h => by
    simp only [List.all_cons, Bool.and_eq_true] at h
    obtain ⟨rs, rfl, h2⟩ := fits_all h.2
    obtain ⟨r, rfl, h3⟩ := fits_fr h.1
    exact ⟨r :: rs, rfl, fun q hq => by
      rcases List.mem_cons.mp hq with rfl | hq
      · exact h3
      · exact h2 q hq⟩
theorem all_fits {lo hi bel : Int} {rs : List Rat} (h : ∀ r ∈ rs, lo ≤ r.num ∧ r.num ≤ hi ∧ (r.den : Int) ≤ bel) : ((fL rs).all fun x => fitsD x lo hi bel) = true := by
  unfold fL
  rw [List.all_map, List.all_eq_true]
  intro r hr
  obtain ⟨h1, h2, h3⟩ := h r hr
  exact fits_of h1 h2 h3
theorem ratD_fL (rs : List Rat) : (fL rs).map ratD = rs := by
  unfold fL
  rw [List.map_map]
  conv => rhs; rw [← List.map_id rs]
  exact List.map_congr_left fun r _ => ratD_fr r
theorem bz_of {r : Rat} {k : Nat} {hi bel : Int} (h0 : 0 ≤ r.num) (h1 : r.num ≤ hi) (h2 : (r.den : Int) ≤ bel) (h3 : hi < 2 ^ k) (h4 : bel < 2 ^ k) : Bz k r := by
  refine ⟨?_, ?_⟩
  · have : ((r.num.natAbs : Nat) : Int) < ((2 ^ k : Nat) : Int) := by
      push_cast
      omega
    exact_mod_cast this
  · have : ((r.den : Nat) : Int) < ((2 ^ k : Nat) : Int) := by
      push_cast
      omega
    exact_mod_cast this
theorem far_lt : FAR < 2 ^ 100 := by decide
theorem num_nonneg {r : Rat} (h : 0 ≤ r) : 0 ≤ r.num := by
  have := (Rat.le_iff 0 r).mp h
  simpa using this
theorem nonneg_num {r : Rat} (h : 0 ≤ r.num) : 0 ≤ r := by
  refine (Rat.le_iff 0 r).mpr ?_
  simpa using h
theorem pos_num {r : Rat} (h : 0 < r.num) : 0 < r := by
  refine (Rat.lt_iff 0 r).mpr ?_
  simpa using h

/-! ### factors, gains -/
def facs (os : List Rat) (s0 : Rat) (ss : List Rat) : List Rat := (ss.zip os).map fun p => s0 + p.1 * p.2
/-- the chances -/
def chs (ws : List Int) : List Rat := ws.map fun (w : Int) => (w : Rat) / ((ws.sum : Int) : Rat)
def meanR (ws : List Int) (xs : List Rat) : Rat := ((ws.zip xs).map fun p => (p.1 : Rat) / ((ws.sum : Int) : Rat) * p.2).sum
def gainsR (ws : List Int) (os : List Rat) (fs : List Rat) : List Rat := meanR ws (fs.map fun f => 1 / f) :: ((chs ws).zip (os.zip fs)).map fun p => p.1 * p.2.1 / p.2.2
def gainsO (ws : List Int) (os : List Rat) (s0 : Rat) (ss : List Rat) : Option (List Rat) := if (0 : Rat) ∈ facs os s0 ss then none else some (gainsR ws os (facs os s0 ss))
def optD : Option (List Rat) → D
  | none => .non
  | some xs => .tup (fL xs)
def bestB (ws : List Int) (os : List Rat) (s0 : Rat) (ss : List Rat) : Bool := match gainsO ws os s0 ss with
  | none => false
  | some gs => gs.all fun g => !decide ((1 : Rat) < g)
/-- what the sizes must be -/
structure GamOk (ws : List Int) (os : List Rat) : Prop where
  len : ws.length = os.length
  few : os.length ≤ 5
  wn : ∀ w ∈ ws, 0 ≤ w
  ws0 : 0 < ws.sum
  wsz : ws.sum < 2 ^ 16
  on : ∀ o ∈ os, 0 < o
  oz : ∀ o ∈ os, Bz 20 o
structure ShOk (n : Nat) (s0 : Rat) (ss : List Rat) : Prop where
  len : ss.length = n
  n0 : 0 ≤ s0
  nn : ∀ s ∈ ss, 0 ≤ s
  z0 : Bz 110 s0
  zz : ∀ s ∈ ss, Bz 110 s
theorem le_sum : ∀ {ws : List Int}, (∀ w ∈ ws, 0 ≤ w) → ∀ w ∈ ws, w ≤ ws.sum
  | [], _, w, h => by simp at h
  | a :: ws, h0, w, h => by
    have hs : 0 ≤ ws.sum := by
      clear h
      induction ws with
      | nil => simp
      | cons b r ih =>
        have := ih fun w hw => h0 w (by
          rcases List.mem_cons.mp hw with rfl | hw
          · simp
          · simp [hw])
        have hb := h0 b (by simp)
        simp only [List.sum_cons]
        omega
    have ha := h0 a (by simp)
    rcases List.mem_cons.mp h with rfl | h
    · simp only [List.sum_cons]; omega
    · have := le_sum (fun w hw => h0 w (List.mem_cons_of_mem _ hw)) w h
      simp only [List.sum_cons]; omega
theorem GamOk.wz {ws : List Int} {os : List Rat} (g : GamOk ws os) : ∀ w ∈ ws, w.natAbs < 2 ^ 16 := fun w hw => by
  have h1 := g.wn w hw
  have h2 := le_sum g.wn w hw
  have h3 := g.wsz
  omega
theorem GamOk.sz {ws : List Int} {os : List Rat} (g : GamOk ws os) : ws.sum.natAbs < 2 ^ 16 := by
  have h1 := g.ws0
  have h3 := g.wsz
  omega
theorem facs_len {os : List Rat} {s0 : Rat} {ss : List Rat} (h : ss.length = os.length) : (facs os s0 ss).length = os.length := by simp [facs, h]
theorem facs_all {os : List Rat} {s0 : Rat} {ss : List Rat} (ho : ∀ o ∈ os, 0 < o) (hz : ∀ o ∈ os, Bz 20 o) (h : ShOk os.length s0 ss) : ∀ f ∈ facs os s0 ss, 0 ≤ f ∧ Bz 241 f := by
  intro f hf
  unfold facs at hf
  obtain ⟨⟨s, o⟩, hp, rfl⟩ := List.mem_map.mp hf
  obtain ⟨h1, h2⟩ := List.of_mem_zip hp
  have a := h.nn s h1
  have b := ho o h2
  refine ⟨?_, (h.z0.add ((h.zz s h1).mul (hz o h2))).mono (by decide)⟩
  have := Rat.mul_nonneg a (Rat.le_of_lt b)
  have := h.n0
  grind

/-! ### all weights -/
def rng1 (hi : Int) : List Int := (List.range hi.toNat).map fun (i : Nat) => 1 + (i : Int)
def heads (lim : List Int → Int) : Nat → List (List Int)
  | 0 => [[]]
  | k + 1 => (heads lim k).flatMap fun h => (rng1 (lim h)).map fun i => h ++ [i]
def limT (n : Nat) (W : Int) (h : List Int) : Int := W - h.sum - ((n : Int) - 1 - h.length)
def limL (W : Int) (h : List Int) : Int := W - h.sum
def allW (n : Nat) (W : Int) : List (List Int) := (heads (limT n W) (n - 1)).map fun h => h ++ [W - h.sum]
def everyL (n : Nat) (W : Int) : List (List Int) := (heads (limL W) n).filter fun h => decide (h.sum = W)
def tupW (ws : List Int) : D := .tup (wL ws)
theorem heads_len {lim : List Int → Int} : ∀ {k : Nat} {h : List Int}, h ∈ heads lim k → h.length = k
  | 0, h, hh => by
    have : h = [] := by simpa [heads] using hh
    subst this; rfl
  | k + 1, h, hh => by
    simp only [heads, List.mem_flatMap, List.mem_map] at hh
    obtain ⟨g, hg, i, _, rfl⟩ := hh
    rw [List.length_append, heads_len hg]
    rfl
theorem mem_rng1 {hi i : Int} : i ∈ rng1 hi ↔ 1 ≤ i ∧ i ≤ hi := by
  unfold rng1
  simp only [List.mem_map, List.mem_range]
  constructor
  · rintro ⟨j, h, rfl⟩
    omega
  · rintro ⟨h1, h2⟩
    exact ⟨(i - 1).toNat, by omega, by omega⟩
theorem heads_pos {lim : List Int → Int} : ∀ {k : Nat} {h : List Int}, h ∈ heads lim k → ∀ w ∈ h, 1 ≤ w
  | 0, h, hh => by
    have : h = [] := by simpa [heads] using hh
    subst this; simp
  | k + 1, h, hh => by
    simp only [heads, List.mem_flatMap, List.mem_map] at hh
    obtain ⟨g, hg, i, hi, rfl⟩ := hh
    intro w hw
    rcases List.mem_append.mp hw with hw | hw
    · exact heads_pos hg w hw
    · have : w = i := by simpa using hw
      subst this
      exact (mem_rng1.mp hi).1
theorem rng1_len (hi : Int) : (rng1 hi).length = hi.toNat := by simp [rng1]
theorem pos_sum : ∀ {h : List Int}, (∀ w ∈ h, 1 ≤ w) → (h.length : Int) ≤ h.sum
  | [], _ => by simp
  | a :: h, hp => by
    have := pos_sum fun w hw => hp w (List.mem_cons_of_mem _ hw)
    have := hp a (by simp)
    simp only [List.length_cons, List.sum_cons]
    omega
theorem heads_num {lim : List Int → Int} {B : Nat} (hb : ∀ k h, h ∈ heads lim k → (lim h).toNat ≤ B) : ∀ k : Nat, (heads lim k).length ≤ B ^ k
  | 0 => by simp [heads]
  | k + 1 => by
    have ih := heads_num hb k
    have hk := hb k
    have : ∀ l : List (List Int), (∀ h ∈ l, (lim h).toNat ≤ B) → (l.flatMap fun h => (rng1 (lim h)).map fun i => h ++ [i]).length ≤ l.length * B := by
      intro l
      induction l with
      | nil => simp
      | cons a l ih =>
        intro h0
        have h1 := ih fun h hh => h0 h (List.mem_cons_of_mem _ hh)
        have h2 := h0 a (by simp)
        simp only [List.flatMap_cons, List.length_append, List.length_map, rng1_len, List.length_cons]
        rw [Nat.add_mul]
        omega
    refine Nat.le_trans (this _ fun h hh => hk h hh) ?_
    rw [Nat.pow_succ]
    exact Nat.mul_le_mul_right _ ih
/-- the weights that are told -/
def toldL (os : List Rat) (W : Int) (s0 : Rat) (ss : List Rat) : List (List Int) := (allW os.length W).filter fun ws => bestB ws os s0 ss
def aboveL (os : List Rat) (W : Int) (s0 : Rat) (ss : List Rat) : List Int :=
  (os.zipIdx.filter fun p => (toldL os W s0 ss).all fun ws => decide ((1 : Rat) < (ws.getD p.2 0 : Rat) / (W : Rat) * p.1)).map fun p => (p.2 : Int)
structure Valid (os : List Rat) (W : Int) (s0 : Rat) (ss : List Rat) : Prop where
  l2 : 2 ≤ os.length
  l5 : os.length ≤ 5
  ob : ∀ o ∈ os, 1 ≤ o.num ∧ o.num ≤ 1000 ∧ (o.den : Int) ≤ 1000
  w1 : (os.length : Int) ≤ W
  w2 : W ≤ 20
  sl : ss.length = os.length
  sb : ∀ s ∈ s0 :: ss, 0 ≤ s.num ∧ s.num ≤ FAR ∧ (s.den : Int) ≤ FAR
  s1 : (s0 :: ss).sum = 1
theorem Valid.oz {os : List Rat} {W : Int} {s0 : Rat} {ss : List Rat} (v : Valid os W s0 ss) : ∀ o ∈ os, 0 < o ∧ Bz 20 o := fun o ho => by
  obtain ⟨h1, h2, h3⟩ := v.ob o ho
  exact ⟨pos_num (by omega), bz_of (by omega) h2 h3 (by decide) (by decide)⟩
theorem Valid.sh {os : List Rat} {W : Int} {s0 : Rat} {ss : List Rat} (v : Valid os W s0 ss) : ShOk os.length s0 ss := by
  have a : ∀ s ∈ s0 :: ss, 0 ≤ s ∧ Bz 110 s := fun s hs => by
    obtain ⟨h1, h2, h3⟩ := v.sb s hs
    exact ⟨nonneg_num h1, bz_of h1 h2 h3 (by decide) (by decide)⟩
  exact ⟨v.sl, (a s0 (by simp)).1, fun s hs => (a s (by simp [hs])).1, (a s0 (by simp)).2, fun s hs => (a s (by simp [hs])).2⟩
theorem Valid.fo {os : List Rat} {W : Int} {s0 : Rat} {ss : List Rat} (v : Valid os W s0 ss) : fitOdds (.tup (fL os)) = true := by
  show (_ && _) = true
  rw [all_fits v.ob, Bool.and_true]
  have := v.l2
  have := v.l5
  simp [fL]
  omega
theorem Valid.fs {os : List Rat} {W : Int} {s0 : Rat} {ss : List Rat} (v : Valid os W s0 ss) : fitShares os.length (.tup (fL (s0 :: ss))) = true := by
  show (_ && (_ && _)) = true
  rw [all_fits v.sb, ratD_fL, v.s1]
  have := v.sl
  simp [fL, this]
theorem Valid.fw {os : List Rat} {W : Int} {s0 : Rat} {ss : List Rat} (v : Valid os W s0 ss) : wholeD (.int W) os.length 20 = true := decide_eq_true ⟨v.w1, v.w2⟩
end GS

-- text F4
set_option Elab.async false
set_option linter.all false
set_option maxRecDepth 100000
set_option maxHeartbeats 2000000
/-! F4: the law's drum, games, shares. -/
namespace GS
open PySem PySem.Spec PyProof.Rows L2 DL
def DrumAt (μ : Mu) (a : Addr) : Prop := ∃ g x : Int, μ a = some (.lst [.int g, .int x]) ∧ 0 ≤ x ∧ x < 2 ^ 31
structure Adv (a : Addr) (μ μ' : Mu) : Prop where
  dr : DrumAt μ' a
  kp : ∀ b m, b ≠ a → μ b = some m → μ' b = some m
theorem Adv.trans {a : Addr} {μ μ1 μ2 : Mu} (h : Adv a μ μ1) (g : Adv a μ1 μ2) : Adv a μ μ2 := ⟨g.dr, fun b m hb e => g.kp b m hb (h.kp b m hb e)⟩
theorem Adv.refl {a : Addr} {μ : Mu} (h : DrumAt μ a) : Adv a μ μ := ⟨h, fun _ _ _ e => e⟩
theorem Adv.set {a : Addr} {μ : Mu} {g x : Int} (h0 : 0 ≤ x) (h1 : x < 2 ^ 31) : Adv a μ (muSet μ a (.lst [.int g, .int x])) := ⟨⟨g, x, muSet_same, h0, h1⟩, fun b m hb e => by rw [muSet_ne hb]; exact e⟩
theorem Adv.set2 {a : Addr} {μ : Mu} {m : MO} {g x : Int} (h0 : 0 ≤ x) (h1 : x < 2 ^ 31) : Adv a μ (muSet (muSet μ a m) a (.lst [.int g, .int x])) := ⟨⟨g, x, muSet_same, h0, h1⟩, fun b m hb e => by rw [muSet_ne hb, muSet_ne hb]; exact e⟩
/-- something else is new or changed -/
theorem Adv.oth {a p : Addr} {μ μ' : Mu} {m : MO} (h : Adv a μ μ') (hp : μ p = none) (ha : p ≠ a) : Adv a μ (muSet μ' p m) := by
  obtain ⟨⟨g, x, h1, h2, h3⟩, k⟩ := h
  refine ⟨⟨g, x, by rw [muSet_ne (Ne.symm ha)]; exact h1, h2, h3⟩, fun b n hb e => ?_⟩
  rw [muSet_ne (fun z => by rw [z, hp] at e; cases e)]
  exact k b n hb e
theorem Adv.del {a p : Addr} {μ μ' : Mu} (h : Adv a μ μ') (hp : μ p = none) (ha : p ≠ a) : Adv a μ (muDel μ' p) := by
  obtain ⟨⟨g, x, h1, h2, h3⟩, k⟩ := h
  have e0 : ∀ b, b ≠ p → muDel μ' p b = μ' b := fun b hb => by unfold muDel; rw [if_neg hb]
  refine ⟨⟨g, x, by rw [e0 a (Ne.symm ha)]; exact h1, h2, h3⟩, fun b n hb e => ?_⟩
  rw [e0 b (fun z => by rw [z, hp] at e; cases e)]
  exact k b n hb e
theorem Adv.none {a p : Addr} {μ μ' : Mu} (h : Adv a μ μ') (hp : μ' p = .none) : μ p = .none ∧ p ≠ a := by
  have ha : p ≠ a := fun z => by
    obtain ⟨⟨g, x, h1, _⟩, _⟩ := h
    rw [← z, hp] at h1
    cases h1
  refine ⟨?_, ha⟩
  cases e : μ p with
  | none => rfl
  | some m =>
    have := h.kp p m ha e
    rw [hp] at this
    cases this
/-- a game of the law -/
structure LG (ws : List Int) (os : List Rat) : Prop where
  len : ws.length = os.length
  l2 : 2 ≤ os.length
  l5 : os.length ≤ 5
  wb : ∀ w ∈ ws, 1 ≤ w ∧ w ≤ 20
  ob : ∀ o ∈ os, 1 ≤ o.num ∧ o.num ≤ 1000 ∧ (o.den : Int) ≤ 1000
def gameD (ws : List Int) (os : List Rat) : D := .tup [.tup (wL ws), .tup (fL os)]
/-- shares of the law -/
structure LS (n : Nat) (s0 : Rat) (ss : List Rat) : Prop where
  len : ss.length = n
  sb : ∀ s ∈ s0 :: ss, 0 ≤ s.num ∧ s.num ≤ FAR ∧ (s.den : Int) ≤ FAR
  s1 : (s0 :: ss).sum = 1
theorem frac_num {t b hi : Int} (hb : 0 < b) (ht : 0 ≤ t) (h1 : t ≤ hi) (h2 : b ≤ hi) : 0 ≤ ((t : Rat) / (b : Rat)).num ∧ ((t : Rat) / (b : Rat)).num ≤ hi ∧ (((t : Rat) / (b : Rat)).den : Int) ≤ hi := by
  obtain ⟨a1, a2⟩ := num_le t b hb
  have a3 : 0 ≤ ((t : Rat) / (b : Rat)).num := by
    apply num_nonneg
    have hb' := castQ_pos hb
    have ht' : (0 : Rat) ≤ (t : Rat) := by
      have := (Rat.intCast_le_intCast (a := 0) (b := t)).mpr ht
      exact_mod_cast this
    rw [Rat.div_def]
    exact Rat.mul_nonneg ht' (Rat.le_of_lt (Rat.inv_pos.mpr hb'))
  omega
theorem frac_num1 {t b hi : Int} (hb : 0 < b) (ht : 0 < t) (h1 : t ≤ hi) (h2 : b ≤ hi) : 1 ≤ ((t : Rat) / (b : Rat)).num ∧ ((t : Rat) / (b : Rat)).num ≤ hi ∧ (((t : Rat) / (b : Rat)).den : Int) ≤ hi := by
  obtain ⟨a1, a2, a3⟩ := frac_num hb (Int.le_of_lt ht) h1 h2
  have : 0 < ((t : Rat) / (b : Rat)).num := by
    apply num_pos
    rw [Rat.div_def]
    exact Rat.mul_pos (castQ_pos ht) (Rat.inv_pos.mpr (castQ_pos hb))
  omega
theorem int_fr1 {i : Int} (h : 1 ≤ i) (h1 : i ≤ 1000) : 1 ≤ ((i : Int) : Rat).num ∧ ((i : Int) : Rat).num ≤ 1000 ∧ (((i : Int) : Rat).den : Int) ≤ 1000 := ⟨by simpa using h, by simpa using h1, by simp⟩
end GS

-- text F5
set_option Elab.async false
set_option linter.all false
set_option maxRecDepth 100000
set_option maxHeartbeats 2000000
/-! F5: the law's factors and gains. -/
namespace GS
open PySem PySem.Spec PyProof.Rows L2 DL
def Ext (μ μ' : Mu) : Prop := ∀ b m, μ b = some m → μ' b = some m
theorem Ext.refl (μ : Mu) : Ext μ μ := fun _ _ e => e
theorem Ext.trans {μ μ1 μ2 : Mu} (h : Ext μ μ1) (g : Ext μ1 μ2) : Ext μ μ2 := fun b m e => g b m (h b m e)
theorem Ext.set {μ μ' : Mu} {p : Addr} {m : MO} (h : Ext μ μ') (hp : μ p = none) : Ext μ (muSet μ' p m) := fun b n e => by
  rw [muSet_ne (fun z => by rw [z, hp] at e; cases e)]
  exact h b n e
theorem Ext.del {μ μ' : Mu} {p : Addr} (h : Ext μ μ') (hp : μ p = none) : Ext μ (muDel μ' p) := fun b n e => by
  unfold muDel
  rw [if_neg (fun z => by rw [z, hp] at e; cases e)]
  exact h b n e
theorem Ext.none {μ μ' : Mu} {p : Addr} (h : Ext μ μ') (hp : μ' p = none) : μ p = .none := by
  cases e : μ p with
  | none => rfl
  | some m =>
    have := h p m e
    rw [hp] at this
    cases this
theorem DrumAt.ext {μ μ' : Mu} {a : Addr} (h : DrumAt μ a) (e : Ext μ μ') : DrumAt μ' a := by
  obtain ⟨g, x, h1, h2, h3⟩ := h
  exact ⟨g, x, e _ _ h1, h2, h3⟩
def prD (p : Int × Int) : D := .tup [.int p.1, .int p.2]
def ratio (p : Int × Int) : Rat := (p.1 : Rat) / (p.2 : Rat)
def facP (s0 s o : Rat) : Int × Int := (s0.num * s.den * o.den + s.num * o.num * s0.den, s0.den * s.den * o.den)
def facPs (os : List Rat) (s0 : Rat) (ss : List Rat) : List (Int × Int) := (ss.zip os).map fun q => facP s0 q.1 q.2
theorem facP_pos (s0 s o : Rat) : 0 < (facP s0 s o).2 := Int.mul_pos (Int.mul_pos (den_pos _) (den_pos _)) (den_pos _)
theorem facP_ratio (s0 s o : Rat) : ratio (facP s0 s o) = s0 + s * o := by
  have h1 := rat_eq s0
  have h2 := rat_eq s
  have h3 := rat_eq o
  have p1 := denQ_pos s0
  have p2 := denQ_pos s
  have p3 := denQ_pos o
  unfold ratio facP
  simp only
  generalize s0.num = a at *
  generalize (s0.den : Int) = b at *
  generalize s.num = c at *
  generalize (s.den : Int) = d at *
  generalize o.num = e at *
  generalize (o.den : Int) = f at *
  subst h1 h2 h3
  push_cast
  grind
theorem facP_bz {s0 s o : Rat} (h0 : Bz 110 s0) (h1 : Bz 110 s) (h2 : Bz 20 o) : (facP s0 s o).1.natAbs < 2 ^ 242 ∧ (facP s0 s o).2.natAbs < 2 ^ 240 := by
  have d0 : (s0.den : Int).natAbs < 2 ^ 110 := by exact_mod_cast h0.d
  have d1 : (s.den : Int).natAbs < 2 ^ 110 := by exact_mod_cast h1.d
  have d2 : (o.den : Int).natAbs < 2 ^ 20 := by exact_mod_cast h2.d
  exact ⟨int_lt_mono (int_add_lt (k := 240) (int_mul_lt (int_mul_lt h0.n d1) d2) (int_mul_lt (int_mul_lt h1.n h2.n) d0)) (by decide), int_mul_lt (int_mul_lt d0 d1) d2⟩
theorem facPs_ratio (os : List Rat) (s0 : Rat) (ss : List Rat) : (facPs os s0 ss).map ratio = facs os s0 ss := by
  unfold facPs facs
  rw [List.map_map]
  exact List.map_congr_left fun q _ => facP_ratio s0 q.1 q.2
structure PrOk (p : Int × Int) : Prop where
  p1 : 0 ≤ p.1
  p2 : 0 < p.2
  z1 : p.1.natAbs < 2 ^ 242
  z2 : p.2.natAbs < 2 ^ 242
theorem facPs_ok {os : List Rat} {s0 : Rat} {ss : List Rat} (ho : ∀ o ∈ os, 0 < o) (hz : ∀ o ∈ os, Bz 20 o) (h : ShOk os.length s0 ss) : ∀ p ∈ facPs os s0 ss, PrOk p := by
  intro p hp
  unfold facPs at hp
  obtain ⟨⟨s, o⟩, hq, rfl⟩ := List.mem_map.mp hp
  obtain ⟨h1, h2⟩ := List.of_mem_zip hq
  obtain ⟨b1, b2⟩ := facP_bz h.z0 (h.zz s h1) (hz o h2)
  refine ⟨?_, facP_pos _ _ _, b1, int_lt_mono b2 (by decide)⟩
  have n0 := num_nonneg h.n0
  have n1 := num_nonneg (h.nn s h1)
  have n2 := Int.le_of_lt (num_pos (ho o h2))
  have d0 := Int.le_of_lt (den_pos s0)
  have d1 := Int.le_of_lt (den_pos s)
  have d2 := Int.le_of_lt (den_pos o)
  exact Int.add_nonneg (Int.mul_nonneg (Int.mul_nonneg n0 d1) d2) (Int.mul_nonneg (Int.mul_nonneg n1 n2) d0)
theorem ratio_zero {p : Int × Int} (h : 0 < p.2) : p.1 = 0 ↔ ratio p = 0 := by
  have hq := castQ_pos h
  unfold ratio
  constructor
  · intro e
    rw [e]
    simp [Rat.div_def, Rat.zero_mul]
  · intro e
    have : (p.1 : Rat) = 0 := by
      have : (p.1 : Rat) = (p.1 : Rat) / (p.2 : Rat) * (p.2 : Rat) := by grind
      rw [this, e, Rat.zero_mul]
    exact_mod_cast this
/-- sum of w x -/
def wsum (l : List (Int × (Int × Int))) : Rat := (l.map fun q => (q.1 : Rat) * ratio q.2).sum
theorem wsum_mean (ws : List Int) (ps : List (Int × Int)) : wsum (ws.zip ps) / ((ws.sum : Int) : Rat) = meanR ws (ps.map ratio) := by
  unfold meanR wsum
  generalize ((ws.sum : Int) : Rat) = W
  induction ws generalizing ps with
  | nil => simp [Rat.div_def, Rat.zero_mul]
  | cons w ws ih =>
    cases ps with
    | nil => simp [Rat.div_def, Rat.zero_mul]
    | cons p ps =>
      have := ih ps
      simp only [List.map_cons, List.zip_cons_cons, List.sum_cons] at this ⊢
      rw [← this]
      simp only [Rat.div_def]
      grind
theorem gt_one (g : Rat) : (decide ((g.den : Int) < g.num)) = decide ((1 : Rat) < g) := by
  rw [decide_eq_decide]
  have := Rat.lt_iff 1 g
  simp at this
  exact this.symm
theorem mem_facs_zero {os : List Rat} {s0 : Rat} {ss : List Rat} (h : ∀ p ∈ facPs os s0 ss, PrOk p) : ((facPs os s0 ss).filter fun p => decide (p.1 = 0)) = [] ↔ (0 : Rat) ∉ facs os s0 ss := by
  rw [← facPs_ratio, List.filter_eq_nil_iff]
  constructor
  · intro h1 h2
    obtain ⟨p, hp, e⟩ := List.mem_map.mp h2
    exact h1 p hp (decide_eq_true ((ratio_zero (h p hp).p2).mpr e))
  · intro h1 p hp h2
    exact h1 (List.mem_map.mpr ⟨p, hp, (ratio_zero (h p hp).p2).mp (of_decide_eq_true h2)⟩)
/-- the gains of the bets, by pairs -/
def glP (W : Int) (q : Int × (Rat × (Int × Int))) : Rat := (q.1 : Rat) / (W : Rat) * q.2.1 / ratio q.2.2
theorem gains_tail (ws : List Int) (os : List Rat) (ps : List (Int × Int)) : (((chs ws).zip (os.zip (ps.map ratio))).map fun p => p.1 * p.2.1 / p.2.2) = (ws.zip (os.zip ps)).map (glP ws.sum) := by
  unfold chs
  generalize ws.sum = W
  induction ws generalizing os ps with
  | nil => simp
  | cons w ws ih =>
    cases os with
    | nil => simp
    | cons o os =>
      cases ps with
      | nil => simp
      | cons p ps =>
        have := ih os ps
        simp only [List.map_cons, List.zip_cons_cons] at this ⊢
        rw [this]
        rfl
theorem inv_ratio {p : Int × Int} : ratio (p.2, p.1) = 1 / ratio p := by
  unfold ratio
  simp only [Rat.div_def]
  rw [Rat.inv_mul_rev, Rat.inv_inv]
  grind
end GS

-- text DL9
set_option Elab.async false
set_option linter.all false
set_option maxRecDepth 100000
set_option maxHeartbeats 2000000
/-! DL9: expressions that change nothing, by their values. -/
namespace DL
open PySem PySem.Spec PyProof.Rows L2 GS
def Ev (t : DE) (ρ : En) (μ : Mu) (d : D) : Prop := ∀ Q : DQ, Q d μ → t ρ μ Q
def EvT (t : DT) (ρ : En) (μ : Mu) (b : Bool) : Prop := ∀ Q : Bool → Mu → Prop, Q b μ → t ρ μ Q
def EvA (t : DA) (ρ : En) (μ : Mu) (ds : List D) : Prop := ∀ Q : List D → Mu → Prop, Q ds μ → t ρ μ Q
section
variable {ρ : En} {μ : Mu} {i j : Int} {n : Nat} {d d' : D} {ta tb tc : DE} {t u : DT} {b c : Bool} {xs : List D} {ds : List D} {as : DA} {D0 : DEnds} {s1 s2 : DS}
theorem Ev.var (h : ρ[n]? = some (some d) := by rfl) : Ev (dVar n) ρ μ d := fun Q q => by
  unfold dVar
  rw [h]
  exact q
theorem Ev.con : Ev (dC d) ρ μ d := fun Q q => q
theorem Ev.ixT (h1 : Ev ta ρ μ (.tup xs)) (h2 : Ev tb ρ μ (.int i)) (h3 : atI xs i = some d) : Ev (dOp dIx ta tb) ρ μ d := fun Q q => h1 _ (h2 _ ⟨d, h3, q⟩)
theorem Ev.ixL (h1 : Ev ta ρ μ (.lst xs)) (h2 : Ev tb ρ μ (.int i)) (h3 : atI xs i = some d) : Ev (dOp dIx ta tb) ρ μ d := fun Q q => h1 _ (h2 _ ⟨d, h3, q⟩)
theorem Ev.num {r : Rat} (h1 : Ev ta ρ μ (fr r)) : Ev (dOp dIx ta (dC (.int 0))) ρ μ (.int r.num) := Ev.ixT h1 .con (atI_0 _ _)
theorem Ev.den {r : Rat} (h1 : Ev ta ρ μ (fr r)) : Ev (dOp dIx ta (dC (.int 1))) ρ μ (.int r.den) := Ev.ixT h1 .con (atI_1 _ _ _)
theorem Ev.mul (h1 : Ev ta ρ μ (.int i)) (h2 : Ev tb ρ μ (.int j)) (h : CMulB i j) : Ev (dOp dMulT ta tb) ρ μ (.int (i * j)) := fun Q q => h1 _ (h2 _ ⟨h, q⟩)
theorem Ev.add (h1 : Ev ta ρ μ (.int i)) (h2 : Ev tb ρ μ (.int j)) : Ev (dOp dAdd ta tb) ρ μ (.int (i + j)) := fun Q q => h1 _ (h2 _ q)
theorem Ev.sub (h1 : Ev ta ρ μ (.int i)) (h2 : Ev tb ρ μ (.int j)) : Ev (dOp dSub ta tb) ρ μ (.int (i - j)) := fun Q q => h1 _ (h2 _ q)
theorem Ev.gt (h1 : Ev ta ρ μ (.int i)) (h2 : Ev tb ρ μ (.int j)) : Ev (dOp dGt ta tb) ρ μ (.bl (decide (j < i))) := fun Q q => h1 _ (h2 _ q)
theorem Ev.lt (h1 : Ev ta ρ μ (.int i)) (h2 : Ev tb ρ μ (.int j)) : Ev (dOp dLt ta tb) ρ μ (.bl (decide (i < j))) := fun Q q => h1 _ (h2 _ q)
theorem Ev.ge (h1 : Ev ta ρ μ (.int i)) (h2 : Ev tb ρ μ (.int j)) : Ev (dOp dGe ta tb) ρ μ (.bl (decide (j ≤ i))) := fun Q q => h1 _ (h2 _ q)
theorem Ev.le (h1 : Ev ta ρ μ (.int i)) (h2 : Ev tb ρ μ (.int j)) : Ev (dOp dLe ta tb) ρ μ (.bl (decide (i ≤ j))) := fun Q q => h1 _ (h2 _ q)
theorem Ev.eqI (h1 : Ev ta ρ μ (.int i)) (h2 : Ev tb ρ μ (.int j)) : Ev (dOp dEq ta tb) ρ μ (.bl (decide (i = j))) := fun Q q => h1 _ (h2 _ ⟨shp_int i, shp_int j, by rw [eqD_int]; exact q⟩)
theorem EvT.of (h : Ev ta ρ μ (.bl b)) : EvT (dTest ta) ρ μ b := fun Q q => h _ q
theorem EvT.or (h1 : EvT t ρ μ b) (h2 : EvT u ρ μ c) : EvT (dOr t u) ρ μ (b || c) := fun Q q => h1 _ (by
  cases b with
  | true => exact q
  | false => exact h2 _ q)
theorem EvT.and (h1 : EvT t ρ μ b) (h2 : EvT u ρ μ c) : EvT (dAnd t u) ρ μ (b && c) := fun Q q => h1 _ (by
  cases b with
  | true => exact h2 _ q
  | false => exact q)
theorem EvA.nil : EvA dNil ρ μ [] := fun Q q => q
theorem EvA.cons (h1 : Ev ta ρ μ d) (h2 : EvA as ρ μ ds) : EvA (dCons ta as) ρ μ (d :: ds) := fun Q q => h1 _ (h2 _ q)
theorem Ev.tup (h1 : EvA as ρ μ ds) (hl : ds.length ≤ sizeLine := by decide) : Ev (dTup as) ρ μ (.tup ds) := fun Q q => h1 _ ⟨hl, q⟩
theorem Ev.lst (h1 : EvA as ρ μ ds) (hl : ds.length ≤ sizeLine := by decide) : Ev (dLst as) ρ μ (.lst ds) := fun Q q => h1 _ ⟨hl, q⟩
theorem Ev.addL {ys : List D} (h1 : Ev ta ρ μ (.lst xs)) (h2 : Ev tb ρ μ (.lst ys)) (hl : xs.length + ys.length ≤ sizeLine := by decide) : Ev (dOp dAdd ta tb) ρ μ (.lst (xs ++ ys)) := fun Q q => h1 _ (h2 _ ⟨hl, q⟩)
theorem Ev.pr : Ev (dTup (dCons (dC (.int i)) (dCons (dC (.int j)) dNil))) ρ μ (.tup [.int i, .int j]) := .tup (.cons .con (.cons .con .nil)) (show 2 ≤ sizeLine by decide)
theorem Ev.t2 (h1 : Ev ta ρ μ d) (h2 : Ev tb ρ μ d') : Ev (dTup (dCons ta (dCons tb dNil))) ρ μ (.tup [d, d']) := .tup (.cons h1 (.cons h2 .nil)) (show 2 ≤ sizeLine by decide)
theorem Ev.t3 {d3 : D} (h1 : Ev ta ρ μ d) (h2 : Ev tb ρ μ d') (h3 : Ev tc ρ μ d3) : Ev (dTup (dCons ta (dCons tb (dCons tc dNil)))) ρ μ (.tup [d, d', d3]) := .tup (.cons h1 (.cons h2 (.cons h3 .nil))) (show 3 ≤ sizeLine by decide)
theorem Ev.ite (h : EvT t ρ μ b) (h1 : b = true → Ev ta ρ μ d) (h2 : b = false → Ev tb ρ μ d) : Ev (dIf t ta tb) ρ μ d := fun Q q => h _ (by
  cases b with
  | true => exact h1 rfl _ q
  | false => exact h2 rfl _ q)
theorem seq_of (h : s1 { D0 with nx := s2 D0 } ρ μ) : dSeq s1 s2 D0 ρ μ := h
theorem ifS_of (h : EvT t ρ μ b) (k1 : b = true → s1 D0 ρ μ) (k2 : b = false → s2 D0 ρ μ) : dIfS t s1 s2 D0 ρ μ := h _ (by
  cases b with
  | true => exact k1 rfl
  | false => exact k2 rfl)
theorem asg_of {k : Nat} (h : Ev ta ρ μ d) (q : D0.nx (ρ.set k (some d)) μ) : dAsg ta (dgName k) D0 ρ μ := h _ q
theorem step_of {ρ' : En} {k : Nat} (h : Ev ta ρ μ d) (he : ρ.set k (some d) = ρ') (q : s2 D0 ρ' μ) : dSeq (dAsg ta (dgName k)) s2 D0 ρ μ := h _ (by
  subst he
  exact q)
theorem par_of {k l : Nat} (h : EvA as ρ μ [d, d']) (q : D0.nx ((ρ.set k (some d)).set l (some d')) μ) : dPar k l as D0 ρ μ := h _ q
theorem ret_of (h : Ev ta ρ μ d) (q : D0.rt d μ) : dRet ta D0 ρ μ := h _ q
theorem call_of {sp : DSp} {Q : DQ} (h : EvA as ρ μ ds) (q : sp ds μ Q fun _ _ => False) : dCallF sp as ρ μ Q := h _ q
end
end DL

-- text F6
set_option Elab.async false
set_option linter.all false
set_option maxRecDepth 100000
set_option maxHeartbeats 2000000
/-! F6: the rate: marks, and that one of them holds. -/
namespace GS
def good (W : Int) (q : Int × Rat) : Rat := (q.1 : Rat) * q.2 / (W : Rat)
def cutR (W : Int) (m : Rat) (l : List (Int × Rat)) : Rat := (l.map fun q => if m ≤ good W q then 1 / q.2 else 0).sum
def lackR (W : Int) (m : Rat) (l : List (Int × Rat)) : Rat := 1 - cutR W m l
def restI (W : Int) (m : Rat) (l : List (Int × Rat)) : Int := (l.map fun q => if m ≤ good W q then 0 else q.1).sum
def rateR (W : Int) (m : Rat) (l : List (Int × Rat)) : Rat := (restI W m l : Rat) / ((W : Rat) * lackR W m l)
structure Qual (W : Int) (m : Rat) (l : List (Int × Rat)) : Prop where
  lp : 0 < lackR W m l
  rp : 0 < restI W m l
  eq : ∀ q ∈ l, rateR W m l < good W q ↔ m ≤ good W q
theorem castR_pos {b : Int} (h : 0 < b) : (0 : Rat) < (b : Rat) := by
  have := (Rat.intCast_lt_intCast (a := 0) (b := b)).mpr h
  exact_mod_cast this
section
variable {W : Int} {l : List (Int × Rat)}
/-- how much is in, as a number -/
def inN (W : Int) (m : Rat) (l : List (Int × Rat)) : Nat := (l.filter fun q => decide (m ≤ good W q)).length
/-- what the weights above a mark come to, by another mark below -/
theorem step_sums {m m' : Rat} (hm : m' ≤ m) (hW : 0 < W) (hn : ∀ q ∈ l, ¬ m ≤ good W q → m' ≤ good W q → good W q = m') (ho : ∀ q ∈ l, 0 < q.2) :
    (restI W m' l : Rat) = (restI W m l : Rat) - m' * (W : Rat) * (cutR W m' l - cutR W m l) := by
  have w := castR_pos hW
  induction l with
  | nil =>
    simp [restI, cutR, Rat.mul_zero, Rat.sub_eq_add_neg]
    grind
  | cons q l ih =>
    have h1 := ih (fun q hq => hn q (List.mem_cons_of_mem _ hq)) (fun q hq => ho q (List.mem_cons_of_mem _ hq))
    have h2 := hn q (by simp)
    have h3 := ho q (by simp)
    simp only [restI, cutR, List.map_cons, List.sum_cons] at h1 ⊢
    by_cases c1 : m ≤ good W q
    · have c2 : m' ≤ good W q := Rat.le_trans hm c1
      simp only [if_pos c1, if_pos c2]
      push_cast
      push_cast at h1
      rw [Rat.zero_add, h1, Rat.zero_add]
      grind
    · by_cases c2 : m' ≤ good W q
      · have e := h2 c1 c2
        simp only [if_neg c1, if_pos c2]
        push_cast
        push_cast at h1
        rw [Rat.zero_add, h1]
        have e2 : (q.1 : Rat) = m' * (W : Rat) * (1 / q.2) := by
          unfold good at e
          rw [← e]
          grind
        rw [e2]
        grind
      · simp only [if_neg c1, if_neg c2]
        push_cast
        push_cast at h1
        rw [h1]
        grind
theorem cut_le {m m' : Rat} (hm : m' ≤ m) (ho : ∀ q ∈ l, 0 < q.2) : cutR W m l ≤ cutR W m' l := by
  induction l with
  | nil => exact Rat.le_refl
  | cons q l ih =>
    have h1 := ih (fun q hq => ho q (List.mem_cons_of_mem _ hq))
    have h3 := ho q (by simp)
    have h4 : 0 < 1 / q.2 := by
      rw [Rat.div_def, Rat.one_mul]
      exact Rat.inv_pos.mpr h3
    simp only [cutR, List.map_cons, List.sum_cons] at h1 ⊢
    by_cases c1 : m ≤ good W q
    · have c2 : m' ≤ good W q := Rat.le_trans hm c1
      simp only [if_pos c1, if_pos c2]
      grind
    · by_cases c2 : m' ≤ good W q
      · simp only [if_neg c1, if_pos c2]
        grind
      · simp only [if_neg c1, if_neg c2]
        grind
theorem cut_lt {m m' : Rat} (hm : m' ≤ m) (ho : ∀ q ∈ l, 0 < q.2) {q : Int × Rat} (hq : q ∈ l) (h1 : ¬ m ≤ good W q) (h2 : m' ≤ good W q) : cutR W m l < cutR W m' l := by
  induction l with
  | nil => cases hq
  | cons p l ih =>
    have h3 := ho p (by simp)
    have h4 : 0 < 1 / p.2 := by
      rw [Rat.div_def, Rat.one_mul]
      exact Rat.inv_pos.mpr h3
    have h5 := cut_le (W := W) (l := l) hm (fun q hq => ho q (List.mem_cons_of_mem _ hq))
    simp only [cutR, List.map_cons, List.sum_cons] at h5 ⊢
    rcases List.mem_cons.mp hq with rfl | hq
    · simp only [if_neg h1, if_pos h2]
      grind
    · have h6 := ih (fun q hq => ho q (List.mem_cons_of_mem _ hq)) hq
      simp only [cutR] at h6
      by_cases c1 : m ≤ good W p
      · have c2 : m' ≤ good W p := Rat.le_trans hm c1
        simp only [if_pos c1, if_pos c2]
        grind
      · by_cases c2 : m' ≤ good W p
        · simp only [if_neg c1, if_pos c2]
          grind
        · simp only [if_neg c1, if_neg c2]
          grind
theorem rest_nonneg {m : Rat} (hw : ∀ q ∈ l, 0 < q.1) : 0 ≤ restI W m l := by
  induction l with
  | nil => simp [restI]
  | cons q l ih =>
    have h1 := ih (fun q hq => hw q (List.mem_cons_of_mem _ hq))
    have h2 := hw q (by simp)
    simp only [restI, List.map_cons, List.sum_cons] at h1 ⊢
    split <;> omega
theorem rest_pos {m : Rat} (hw : ∀ q ∈ l, 0 < q.1) {q : Int × Rat} (hq : q ∈ l) (h1 : ¬ m ≤ good W q) : 0 < restI W m l := by
  induction l with
  | nil => cases hq
  | cons p l ih =>
    have h2 := hw p (by simp)
    rcases List.mem_cons.mp hq with rfl | hq
    · have h3 := rest_nonneg (W := W) (m := m) (l := l) (fun q hq => hw q (List.mem_cons_of_mem _ hq))
      simp only [restI, List.map_cons, List.sum_cons] at h3 ⊢
      rw [if_neg h1]
      omega
    · have h3 := ih (fun q hq => hw q (List.mem_cons_of_mem _ hq)) hq
      simp only [restI, List.map_cons, List.sum_cons] at h3 ⊢
      split <;> omega
theorem cut_all {m : Rat} (h : ∀ q ∈ l, m ≤ good W q) : cutR W m l = (l.map fun q => 1 / q.2).sum := by
  unfold cutR
  congr 1
  exact List.map_congr_left fun q hq => if_pos (h q hq)
theorem inN_lt {m m' : Rat} (hm : m' ≤ m) {q : Int × Rat} (hq : q ∈ l) (h1 : ¬ m ≤ good W q) (h2 : m' ≤ good W q) : inN W m l < inN W m' l := by
  have le : ∀ l : List (Int × Rat), inN W m l ≤ inN W m' l := by
    intro l
    unfold inN
    induction l with
    | nil => simp
    | cons p l ih =>
      by_cases c1 : m ≤ good W p
      · have c2 : m' ≤ good W p := Rat.le_trans hm c1
        simp only [List.filter_cons, c1, c2, decide_true, if_true, List.length_cons]
        omega
      · by_cases c2 : m' ≤ good W p
        · simp only [List.filter_cons, c1, c2, decide_true, decide_false, if_true, Bool.false_eq_true, if_false, List.length_cons]
          omega
        · simp only [List.filter_cons, c1, c2, decide_false, Bool.false_eq_true, if_false]
          exact ih
  induction l with
  | nil => cases hq
  | cons p l ih =>
    have h5 := le l
    unfold inN at h5 ih ⊢
    rcases List.mem_cons.mp hq with rfl | hq
    · simp only [List.filter_cons, h1, h2, decide_true, decide_false, if_true, Bool.false_eq_true, if_false, List.length_cons]
      omega
    · have h6 := ih hq
      by_cases c1 : m ≤ good W p
      · have c2 : m' ≤ good W p := Rat.le_trans hm c1
        simp only [List.filter_cons, c1, c2, decide_true, if_true, List.length_cons]
        omega
      · by_cases c2 : m' ≤ good W p
        · simp only [List.filter_cons, c1, c2, decide_true, decide_false, if_true, Bool.false_eq_true, if_false, List.length_cons]
          omega
        · simp only [List.filter_cons, c1, c2, decide_false, Bool.false_eq_true, if_false]
          exact h6
/-- the greatest good of those below a mark -/
theorem max_below {m : Rat} : (∃ q ∈ l, ¬ m ≤ good W q) → ∃ q ∈ l, ¬ m ≤ good W q ∧ ∀ p ∈ l, ¬ m ≤ good W p → good W p ≤ good W q := by
  induction l with
  | nil => rintro ⟨q, h, _⟩; cases h
  | cons a l ih =>
    intro h
    by_cases he : ∃ q ∈ l, ¬ m ≤ good W q
    · obtain ⟨q, hq, h1, h2⟩ := ih he
      by_cases ha : ¬ m ≤ good W a
      · by_cases hc : good W a ≤ good W q
        · exact ⟨q, List.mem_cons_of_mem _ hq, h1, fun p hp hp2 => by
            rcases List.mem_cons.mp hp with rfl | hp
            · exact hc
            · exact h2 p hp hp2⟩
        · exact ⟨a, by simp, ha, fun p hp hp2 => by
            rcases List.mem_cons.mp hp with rfl | hp
            · exact Rat.le_refl
            · have := h2 p hp hp2
              grind⟩
      · exact ⟨q, List.mem_cons_of_mem _ hq, h1, fun p hp hp2 => by
          rcases List.mem_cons.mp hp with rfl | hp
          · exact absurd hp2 ha
          · exact h2 p hp hp2⟩
    · obtain ⟨q, hq, h1⟩ := h
      refine ⟨q, hq, h1, fun p hp hp2 => ?_⟩
      rcases List.mem_cons.mp hq with rfl | hq
      · rcases List.mem_cons.mp hp with rfl | hp
        · exact Rat.le_refl
        · exact absurd ⟨p, hp, hp2⟩ he
      · exact absurd ⟨q, hq, h1⟩ he
/-- a mark below: what it comes to -/
theorem exists_qual (hW : 0 < W) (hw : ∀ q ∈ l, 0 < q.1) (ho : ∀ q ∈ l, 0 < q.2) (hall : 1 < (l.map fun q => 1 / q.2).sum) (ms : List Rat) (hms : ∀ q ∈ l, good W q ∈ ms) :
    ∀ (k : Nat) (m : Rat), m ∈ ms → l.length - inN W m l ≤ k → 0 < lackR W m l → (∀ q ∈ l, m ≤ good W q → rateR W m l < good W q) → ∃ m' ∈ ms, Qual W m' l := by
  intro k
  induction k with
  | zero =>
    intro m hm hk hl hg
    exfalso
    have hin : inN W m l = l.length := by
      have : inN W m l ≤ l.length := List.length_filter_le _ _
      omega
    have hq : ∀ q ∈ l, m ≤ good W q := fun q hq => by
      have h1 : (l.filter fun q => decide (m ≤ good W q)) = l := List.filter_eq_self.mpr (by
        have := List.length_filter_eq_length_iff.mp (show (l.filter fun q => decide (m ≤ good W q)).length = l.length from hin)
        exact this)
      have h2 := List.filter_eq_self.mp h1 q hq
      exact of_decide_eq_true h2
    unfold lackR at hl
    rw [cut_all hq] at hl
    grind
  | succ k ih =>
    intro m hm hk hl hg
    -- some is out
    have hout : ∃ q ∈ l, ¬ m ≤ good W q := by
      refine Classical.byContradiction fun hne => ?_
      have hq : ∀ q ∈ l, m ≤ good W q := fun q hq => Classical.byContradiction fun h => hne ⟨q, hq, h⟩
      unfold lackR at hl
      rw [cut_all hq] at hl
      grind
    obtain ⟨q0, hq0, hq1⟩ := hout
    have hrest := rest_pos hw hq0 hq1
    by_cases hmore : ∃ q ∈ l, ¬ m ≤ good W q ∧ rateR W m l < good W q
    · obtain ⟨q, hq, hqm, hqr⟩ := hmore
      obtain ⟨p, hp, hpm, hmax⟩ := max_below ⟨q, hq, hqm⟩
      have hpr : rateR W m l < good W p := by
        have := hmax q hq hqm
        grind
      have hm' : good W p ≤ m := by grind
      have hn : ∀ q ∈ l, ¬ m ≤ good W q → good W p ≤ good W q → good W q = good W p := fun q hq h1 h2 => by
        have := hmax q hq h1
        grind
      have hs := step_sums hm' hW hn ho
      have hc := cut_lt hm' ho hp hpm Rat.le_refl
      have w := castR_pos hW
      have hrn : (0 : Rat) ≤ (restI W (good W p) l : Rat) := by
        have := (Rat.intCast_le_intCast (a := 0) (b := restI W (good W p) l)).mpr (rest_nonneg hw)
        exact_mod_cast this
      have hrp : (0 : Rat) < (restI W m l : Rat) := castR_pos hrest
      -- rate * (W lack) = rest
      have hrate : (restI W m l : Rat) = rateR W m l * ((W : Rat) * lackR W m l) := by
        unfold rateR
        have : 0 < (W : Rat) * lackR W m l := Rat.mul_pos w hl
        grind
      have hr0 : 0 < rateR W m l := by
        unfold rateR
        rw [Rat.div_def]
        exact Rat.mul_pos hrp (Rat.inv_pos.mpr (Rat.mul_pos w hl))
      generalize hg0 : good W p = gp at *
      generalize hcm : cutR W m l = cm at *
      generalize hcp : cutR W gp l = cp at *
      have hlm : lackR W m l = 1 - cm := by unfold lackR; rw [hcm]
      have hlp : lackR W gp l = 1 - cp := by unfold lackR; rw [hcp]
      generalize hrr : rateR W m l = rr at *
      have key : (restI W gp l : Rat) = (W : Rat) * (rr * (1 - cm) - gp * (cp - cm)) := by
        rw [hs, hrate, hlm]
        grind
      have hlack' : 0 < lackR W gp l := by
        rw [hlp]
        refine Classical.byContradiction fun hneg => ?_
        have h1 : 1 - cp ≤ 0 := by grind
        -- rr (1-cm) - gp (cp-cm) < rr (1 - cp) <= 0
        have h2 : 0 < (gp - rr) * (cp - cm) := Rat.mul_pos (by grind) (by grind)
        have h3 : 0 ≤ rr * (cp - 1) := Rat.mul_nonneg (Rat.le_of_lt hr0) (by grind)
        have h4 : rr * (1 - cm) - gp * (cp - cm) < 0 := by grind
        have h5 : 0 < (W : Rat) * (0 - (rr * (1 - cm) - gp * (cp - cm))) := Rat.mul_pos w (by grind)
        grind
      have hrate' : rateR W gp l < rr := by
        unfold rateR
        rw [Rat.div_lt_iff (Rat.mul_pos w hlack'), key, hlp]
        have h2 : 0 < (W : Rat) * ((gp - rr) * (cp - cm)) := Rat.mul_pos w (Rat.mul_pos (by grind) (by grind))
        grind
      refine ih gp (by rw [← hg0]; exact hms p hp) ?_ hlack' fun q hq hqg => ?_
      · have := inN_lt (W := W) (l := l) hm' hp (by rw [hg0]; exact hpm) (by rw [hg0]; exact Rat.le_refl)
        have h2 : inN W gp l ≤ l.length := List.length_filter_le _ _
        omega
      · grind
    · refine ⟨m, hm, hl, hrest, fun q hq => ⟨fun h => ?_, hg q hq⟩⟩
      exact Classical.byContradiction fun hne => hmore ⟨q, hq, hne, h⟩
end
end GS

-- text F7
set_option Elab.async false
set_option linter.all false
set_option maxRecDepth 100000
set_option maxHeartbeats 2000000
/-! F7: best shares by the rate: they come to 1, and no gain is above 1. -/
namespace GS
structure RateOK (W : Int) (r : Rat) (l : List (Int × Rat)) : Prop where
  r0 : 0 ≤ r
  ex : ∃ m, (∀ q ∈ l, r < good W q ↔ m ≤ good W q) ∧ 0 ≤ lackR W m l ∧ (restI W m l : Rat) = r * ((W : Rat) * lackR W m l)
def sB (W : Int) (r : Rat) (q : Int × Rat) : Rat := if r < good W q then (q.1 : Rat) / (W : Rat) - r / q.2 else 0
section
variable {W : Int} {l : List (Int × Rat)} {r m : Rat}
theorem good_pos (hW : 0 < W) {q : Int × Rat} (h1 : 0 < q.1) (h2 : 0 < q.2) : 0 < good W q := by
  unfold good
  rw [Rat.div_def]
  exact Rat.mul_pos (Rat.mul_pos (castR_pos h1) h2) (Rat.inv_pos.mpr (castR_pos hW))
theorem Qual.rate (hW : 0 < W) (h : Qual W m l) : RateOK W (rateR W m l) l := by
  have w := castR_pos hW
  have hp := Rat.mul_pos w h.lp
  have hr := castR_pos h.rp
  refine ⟨?_, m, h.eq, Rat.le_of_lt h.lp, ?_⟩
  · unfold rateR
    rw [Rat.div_def]
    exact Rat.le_of_lt (Rat.mul_pos hr (Rat.inv_pos.mpr hp))
  · unfold rateR
    grind
theorem rate_zero (hW : 0 < W) (hw : ∀ q ∈ l, 0 < q.1) (ho : ∀ q ∈ l, 0 < q.2) (h : (l.map fun q => 1 / q.2).sum ≤ 1) : RateOK W 0 l := by
  have hall : ∀ q ∈ l, (0 : Rat) ≤ good W q := fun q hq => Rat.le_of_lt (good_pos hW (hw q hq) (ho q hq))
  refine ⟨Rat.le_refl, 0, fun q hq => ⟨fun _ => hall q hq, fun _ => good_pos hW (hw q hq) (ho q hq)⟩, ?_, ?_⟩
  · unfold lackR
    rw [cut_all hall]
    grind
  · have e : restI W 0 l = 0 := by
      unfold restI
      have : (l.map fun q => if (0 : Rat) ≤ good W q then (0 : Int) else q.1) = l.map fun _ => 0 := List.map_congr_left fun q hq => if_pos (hall q hq)
      rw [this]
      clear this hall h hw ho
      induction l with
      | nil => rfl
      | cons a l ih => simpa using ih
    rw [e, Rat.zero_mul]
    rfl
theorem sB_sum (hW : 0 < W) (ho : ∀ q ∈ l, 0 < q.2) (h : ∀ q ∈ l, r < good W q ↔ m ≤ good W q) : (l.map (sB W r)).sum = (((l.map (·.1)).sum : Int) : Rat) / (W : Rat) - (restI W m l : Rat) / (W : Rat) - r * cutR W m l := by
  have w := castR_pos hW
  induction l with
  | nil =>
    simp [restI, cutR, Rat.div_def, Rat.mul_zero, Rat.zero_mul]
    grind
  | cons q l ih =>
    have h1 := ih (fun q hq => ho q (List.mem_cons_of_mem _ hq)) (fun q hq => h q (List.mem_cons_of_mem _ hq))
    have h2 := h q (by simp)
    simp only [List.map_cons, List.sum_cons, restI, cutR] at h1 ⊢
    rw [h1]
    unfold sB
    by_cases c : r < good W q
    · rw [if_pos c, if_pos (h2.mp c), if_pos (h2.mp c)]
      push_cast
      simp only [Rat.div_def]
      grind
    · have c' : ¬ m ≤ good W q := fun z => c (h2.mpr z)
      rw [if_neg c, if_neg c', if_neg c']
      push_cast
      simp only [Rat.div_def]
      grind
theorem best_sum (hW : 0 < W) (hs : (l.map (·.1)).sum = W) (ho : ∀ q ∈ l, 0 < q.2) (h : RateOK W r l) : r + (l.map (sB W r)).sum = 1 := by
  have w := castR_pos hW
  obtain ⟨r0, m, h1, h2, h3⟩ := h
  rw [sB_sum hW ho h1, hs, h3]
  unfold lackR
  simp only [Rat.div_def]
  grind
theorem sB_nonneg (hW : 0 < W) {q : Int × Rat} (h2 : 0 < q.2) : 0 ≤ sB W r q := by
  unfold sB
  split
  · rename_i c
    unfold good at c
    have w := castR_pos hW
    have : r / q.2 < (q.1 : Rat) / (W : Rat) := by
      rw [Rat.div_lt_iff h2]
      have e : (q.1 : Rat) / (W : Rat) * q.2 = (q.1 : Rat) * q.2 / (W : Rat) := by
        simp only [Rat.div_def]
        grind
      rw [e]
      exact c
    grind
  · exact Rat.le_refl
/-- the factor -/
theorem sB_fac (hW : 0 < W) {q : Int × Rat} (h2 : 0 < q.2) : r + sB W r q * q.2 = if r < good W q then good W q else r := by
  have w := castR_pos hW
  unfold sB
  split
  · unfold good
    simp only [Rat.div_def]
    grind
  · grind
theorem kept_sum (hW : 0 < W) (ho : ∀ q ∈ l, 0 < q.2) (hw : ∀ q ∈ l, 0 < q.1) (h : ∀ q ∈ l, r < good W q ↔ m ≤ good W q) :
    (l.map fun q => (q.1 : Rat) / (W : Rat) * (1 / (r + sB W r q * q.2))).sum = cutR W m l + (restI W m l : Rat) * (1 / ((W : Rat) * r)) := by
  have w := castR_pos hW
  induction l with
  | nil =>
    simp [restI, cutR, Rat.zero_mul]
    grind
  | cons q l ih =>
    have h1 := ih (fun q hq => ho q (List.mem_cons_of_mem _ hq)) (fun q hq => hw q (List.mem_cons_of_mem _ hq)) (fun q hq => h q (List.mem_cons_of_mem _ hq))
    have h2 := h q (by simp)
    have o := ho q (by simp)
    have p := castR_pos (hw q (by simp))
    simp only [List.map_cons, List.sum_cons, restI, cutR] at h1 ⊢
    rw [h1, sB_fac hW o]
    by_cases c : r < good W q
    · rw [if_pos c, if_pos (h2.mp c), if_pos (h2.mp c)]
      have e : (q.1 : Rat) / (W : Rat) * (1 / good W q) = 1 / q.2 := by
        unfold good
        simp only [Rat.div_def]
        rw [Rat.inv_mul_rev, Rat.inv_mul_rev, Rat.inv_inv]
        grind
      rw [e]
      push_cast
      grind
    · have c' : ¬ m ≤ good W q := fun z => c (h2.mpr z)
      rw [if_neg c, if_neg c', if_neg c']
      have e : (q.1 : Rat) / (W : Rat) * (1 / r) = (q.1 : Rat) * (1 / ((W : Rat) * r)) := by
        simp only [Rat.div_def]
        rw [Rat.inv_mul_rev]
        grind
      rw [e]
      push_cast
      grind
end
theorem zip_map_self {α β γ : Type} (f : α × β → γ) : ∀ (ws : List α) (os : List β), ((ws.zip os).map f).zip os = (ws.zip os).map fun q => (f q, q.2)
  | [], os => by simp
  | w :: ws, [] => by simp
  | w :: ws, o :: os => by simp [zip_map_self f ws os]
theorem zip_map_left' {α β γ : Type} (g : α × β → γ) : ∀ (ws : List α) (os : List β), ws.zip ((ws.zip os).map g) = (ws.zip os).map fun q => (q.1, g q)
  | [], os => by simp
  | w :: ws, [] => by simp
  | w :: ws, o :: os => by simp [zip_map_left' g ws os]
theorem fst_sum {β : Type} : ∀ (ws : List Int) (os : List β), ws.length = os.length → ((ws.zip os).map (·.1)) = ws
  | [], os, _ => by simp
  | w :: ws, [], h => by simp at h
  | w :: ws, o :: os, h => by
    rw [List.zip_cons_cons, List.map_cons, fst_sum ws os (by simpa using h)]
/-- no gain is above 1 -/
theorem best_best {ws : List Int} {os : List Rat} {r : Rat} (hl : ws.length = os.length) (hw : ∀ w ∈ ws, 0 < w) (ho : ∀ o ∈ os, 0 < o) (hW : 0 < ws.sum) (h : RateOK ws.sum r (ws.zip os)) : bestB ws os r ((ws.zip os).map (sB ws.sum r)) = true := by
  obtain ⟨r0, m, h1, h2, h3⟩ := h
  have w := castR_pos hW
  have hw' : ∀ q ∈ ws.zip os, 0 < q.1 := fun q hq => hw _ (List.of_mem_zip hq).1
  have ho' : ∀ q ∈ ws.zip os, 0 < q.2 := fun q hq => ho _ (List.of_mem_zip hq).2
  have hf : facs os r ((ws.zip os).map (sB ws.sum r)) = (ws.zip os).map fun q => r + sB ws.sum r q * q.2 := by
    unfold facs
    rw [zip_map_self, List.map_map]
    rfl
  -- if one is out, the rate is above 0
  have hrp : ∀ q ∈ ws.zip os, ¬ r < good ws.sum q → 0 < r := fun q hq hn => by
    have hm : ¬ m ≤ good ws.sum q := fun z => hn ((h1 q hq).mpr z)
    have h4 := castR_pos (rest_pos hw' hq hm)
    refine Classical.byContradiction fun hr => ?_
    have : r = 0 := by grind
    rw [this, Rat.zero_mul] at h3
    grind
  have hfp : ∀ q ∈ ws.zip os, 0 < r + sB ws.sum r q * q.2 := fun q hq => by
    rw [sB_fac hW (ho' q hq)]
    split
    · exact good_pos hW (hw' q hq) (ho' q hq)
    · rename_i c
      exact hrp q hq c
  have hno : (0 : Rat) ∉ facs os r ((ws.zip os).map (sB ws.sum r)) := by
    rw [hf]
    intro z
    obtain ⟨q, hq, e⟩ := List.mem_map.mp z
    have := hfp q hq
    grind
  have e : gainsO ws os r ((ws.zip os).map (sB ws.sum r)) = some (gainsR ws os (facs os r ((ws.zip os).map (sB ws.sum r)))) := if_neg hno
  unfold bestB
  rw [e]
  simp only [gainsR, List.all_cons, Bool.and_eq_true, List.all_eq_true, Bool.not_eq_true', decide_eq_false_iff_not]
  constructor
  · rw [hf]
    have e2 : meanR ws (((ws.zip os).map fun q => r + sB ws.sum r q * q.2).map fun f => 1 / f) = ((ws.zip os).map fun q => (q.1 : Rat) / ((ws.sum : Int) : Rat) * (1 / (r + sB ws.sum r q * q.2))).sum := by
      unfold meanR
      rw [List.map_map, zip_map_left', List.map_map]
      rfl
    rw [e2, kept_sum hW ho' hw' h1, h3]
    unfold lackR at h2 ⊢
    by_cases hr : r = 0
    · rw [hr]
      simp only [Rat.zero_mul]
      grind
    · have : r * ((ws.sum : Int) * (1 - cutR ws.sum m (ws.zip os)) : Rat) * (1 / ((ws.sum : Int) * r : Rat)) = 1 - cutR ws.sum m (ws.zip os) := by grind
      rw [this]
      grind
  · intro g hg
    rw [hf] at hg
    have e3 : ((chs ws).zip (os.zip ((ws.zip os).map fun q => r + sB ws.sum r q * q.2))) = (ws.zip os).map fun q => ((q.1 : Rat) / ((ws.sum : Int) : Rat), q.2, r + sB ws.sum r q * q.2) := by
      have : ∀ (W : Int) (ws : List Int) (os : List Rat), ((ws.map fun w : Int => (w : Rat) / (W : Rat)).zip (os.zip ((ws.zip os).map fun q => r + sB W r q * q.2))) = (ws.zip os).map fun q => ((q.1 : Rat) / (W : Rat), q.2, r + sB W r q * q.2) := by
        intro W ws
        induction ws with
        | nil => intro os; simp
        | cons w ws ih =>
          intro os
          cases os with
          | nil => simp
          | cons o os => simp [ih os]
      exact this ws.sum ws os
    rw [e3, List.map_map] at hg
    obtain ⟨q, hq, rfl⟩ := List.mem_map.mp hg
    simp only [Function.comp]
    have fp := hfp q hq
    have e4 : (q.1 : Rat) / ((ws.sum : Int) : Rat) * q.2 = good ws.sum q := by
      unfold good
      simp only [Rat.div_def]
      grind
    rw [e4]
    intro hgt
    rw [Rat.lt_div_iff fp, Rat.one_mul, sB_fac hW (ho' q hq)] at hgt
    split at hgt <;> grind
end GS

-- text F8
set_option Elab.async false
set_option linter.all false
set_option maxRecDepth 100000
set_option maxHeartbeats 2000000
/-! F8: facts for the walk of the rate. -/
namespace GS
open PySem PySem.Spec PyProof.Rows L2 DL
def MK : Rat := ((1000000000 : Int) : Rat)
theorem invsum_append (a : List (Int × Rat)) (q : Int × Rat) : ((a ++ [q]).map fun q => 1 / q.2).sum = (a.map fun q => 1 / q.2).sum + 1 / q.2 := by
  simp [Rat.add_zero]
theorem cutR_append (W : Int) (m : Rat) (a : List (Int × Rat)) (q : Int × Rat) : cutR W m (a ++ [q]) = cutR W m a + (if m ≤ good W q then 1 / q.2 else 0) := by
  simp [cutR, Rat.add_zero]
theorem restI_append (W : Int) (m : Rat) (a : List (Int × Rat)) (q : Int × Rat) : restI W m (a ++ [q]) = restI W m a + (if m ≤ good W q then 0 else q.1) := by
  simp [restI]
theorem cutR_nonneg {W : Int} {m : Rat} {l : List (Int × Rat)} (ho : ∀ q ∈ l, 0 < q.2) : 0 ≤ cutR W m l := by
  induction l with
  | nil => exact Rat.le_refl
  | cons q l ih =>
    have h1 := ih fun q hq => ho q (List.mem_cons_of_mem _ hq)
    have h2 : 0 < 1 / q.2 := by
      rw [Rat.div_def, Rat.one_mul]
      exact Rat.inv_pos.mpr (ho q (by simp))
    simp only [cutR, List.map_cons, List.sum_cons] at h1 ⊢
    split <;> grind
theorem restI_le {W : Int} {m : Rat} {l : List (Int × Rat)} (hw : ∀ q ∈ l, 1 ≤ q.1 ∧ q.1 ≤ 20) : 0 ≤ restI W m l ∧ restI W m l ≤ 20 * l.length := by
  induction l with
  | nil => simp [restI]
  | cons q l ih =>
    have h1 := ih fun q hq => hw q (List.mem_cons_of_mem _ hq)
    have h2 := hw q (by simp)
    simp only [restI, List.map_cons, List.sum_cons, List.length_cons] at h1 ⊢
    split <;> omega
theorem mark_le (m g : Rat) : (decide (m.num * (g.den : Int) < g.num * (m.den : Int)) || decide (m.num * (g.den : Int) = g.num * (m.den : Int))) = decide (m ≤ g) := by
  have h := Rat.le_iff m g
  by_cases c : m.num * (g.den : Int) ≤ g.num * (m.den : Int)
  · rw [decide_eq_true (h.mpr c)]
    by_cases c2 : m.num * (g.den : Int) < g.num * (m.den : Int)
    · rw [decide_eq_true c2]; rfl
    · rw [decide_eq_true (show m.num * (g.den : Int) = g.num * (m.den : Int) by omega)]
      simp
  · rw [decide_eq_false (fun z => c (h.mp z)), decide_eq_false (show ¬ m.num * (g.den : Int) < g.num * (m.den : Int) by omega), decide_eq_false (show ¬ m.num * (g.den : Int) = g.num * (m.den : Int) by omega)]
    rfl
theorem less_dec (m g : Rat) : decide (m.num * (g.den : Int) < g.num * (m.den : Int)) = decide (m < g) := by
  rw [decide_eq_decide]
  exact (Rat.lt_iff m g).symm
theorem le_dec (m g : Rat) : decide (m.num * (g.den : Int) ≤ g.num * (m.den : Int)) = decide (m ≤ g) := by
  rw [decide_eq_decide]
  exact (Rat.le_iff m g).symm
theorem filt_range {n : Nat} {p q : Nat → Bool} : ((List.range n).filter p).map (fun (i : Nat) => (i : Int)) = ((List.range n).filter q).map (fun (i : Nat) => (i : Int)) ↔ ∀ i, i < n → p i = q i := by
  constructor
  · intro h i hi
    have inj : ∀ a b : List Nat, a.map (fun (i : Nat) => (i : Int)) = b.map (fun (i : Nat) => (i : Int)) → a = b := by
      intro a
      induction a with
      | nil => intro b hb; simpa using hb.symm
      | cons x a ih =>
        intro b hb
        cases b with
        | nil => simp at hb
        | cons y b =>
          simp only [List.map_cons, List.cons.injEq] at hb
          rw [ih b hb.2, show x = y from by omega]
    have h2 := inj _ _ h
    have h3 : i ∈ (List.range n).filter p ↔ i ∈ (List.range n).filter q := by rw [h2]
    simp only [List.mem_filter, List.mem_range, hi, true_and] at h3
    cases hp : p i <;> cases hq : q i <;> simp_all
  · intro h
    congr 1
    exact List.filter_congr fun i hi => h i (List.mem_range.mp hi)
structure LG2 (ws : List Int) (os : List Rat) : Prop where
  wp : ∀ q ∈ ws.zip os, 0 < q.1
  w20 : ∀ q ∈ ws.zip os, 1 ≤ q.1 ∧ q.1 ≤ 20
  op : ∀ q ∈ ws.zip os, 0 < q.2
  ob : ∀ q ∈ ws.zip os, 1 ≤ q.2.num ∧ q.2.num ≤ 1000 ∧ (q.2.den : Int) ≤ 1000
  sm : ((ws.zip os).map (·.1)).sum = ws.sum
  s0 : 0 < ws.sum
  s1 : ws.sum ≤ 100
  ln : (ws.zip os).length = os.length
theorem sum_le20 : ∀ l : List Int, (∀ v ∈ l, 1 ≤ v ∧ v ≤ 20) → (l.length : Int) ≤ l.sum ∧ l.sum ≤ 20 * l.length
  | [], _ => by simp
  | b :: r, h => by
    have h1 := sum_le20 r fun v hv => h v (List.mem_cons_of_mem _ hv)
    have h2 := h b (by simp)
    simp only [List.sum_cons, List.length_cons]
    omega
theorem LG.two {ws : List Int} {os : List Rat} (g : LG ws os) : LG2 ws os := by
  have hb : ∀ q ∈ ws.zip os, (1 ≤ q.1 ∧ q.1 ≤ 20) ∧ (1 ≤ q.2.num ∧ q.2.num ≤ 1000 ∧ (q.2.den : Int) ≤ 1000) := fun q hq => ⟨g.wb _ (List.of_mem_zip hq).1, g.ob _ (List.of_mem_zip hq).2⟩
  have hs := sum_le20 ws g.wb
  have l2 := g.l2
  have l5 := g.l5
  have ln := g.len
  refine ⟨fun q hq => by have := (hb q hq).1; omega, fun q hq => (hb q hq).1, fun q hq => pos_num (by have := (hb q hq).2; omega), fun q hq => (hb q hq).2, by rw [fst_sum ws os g.len], by omega, by omega, by rw [List.length_zip, g.len, Nat.min_self]⟩
theorem LG.gam {ws : List Int} {os : List Rat} (g : LG ws os) : GamOk ws os := by
  have t := g.two
  have s1 := t.s1
  exact ⟨g.len, g.l5, fun w hw => by have := g.wb w hw; omega, t.s0, by omega, fun o ho => pos_num (by have := g.ob o ho; omega), fun o ho => by
    obtain ⟨h1, h2, h3⟩ := g.ob o ho
    exact bz_of (by omega) h2 h3 (by decide) (by decide)⟩
theorem good_lt {ws : List Int} {os : List Rat} (t : LG2 ws os) {q : Int × Rat} (hq : q ∈ ws.zip os) : good ws.sum q < MK := by
  have w := castR_pos t.s0
  obtain ⟨h1, h2⟩ := t.w20 q hq
  obtain ⟨h3, h4, h5⟩ := t.ob q hq
  have o1000 : q.2 ≤ 1000 := by
    refine (Rat.le_iff _ _).mpr ?_
    have := den_pos q.2
    simp
    omega
  have op := t.op q hq
  unfold good
  rw [Rat.div_lt_iff w]
  have hs : (1 : Rat) ≤ (ws.sum : Rat) := by
    have := (Rat.intCast_le_intCast (a := 1) (b := ws.sum)).mpr (by have := t.s0; omega)
    exact_mod_cast this
  have hq1 : (q.1 : Rat) ≤ 20 := by
    have := (Rat.intCast_le_intCast (a := q.1) (b := 20)).mpr h2
    exact_mod_cast this
  have hq0 : (0 : Rat) ≤ (q.1 : Rat) := by
    have := (Rat.intCast_le_intCast (a := 0) (b := q.1)).mpr (by omega)
    exact_mod_cast this
  have e1 : (q.1 : Rat) * q.2 ≤ 20 * 1000 := by
    have a1 := Rat.mul_le_mul_of_nonneg_right hq1 (Rat.le_of_lt op)
    have a2 : (20 : Rat) * q.2 ≤ 20 * 1000 := Rat.mul_le_mul_of_nonneg_left o1000 (by decide)
    exact Rat.le_trans a1 a2
  have e2 : (1000000000 : Rat) * 1 ≤ 1000000000 * (ws.sum : Rat) := Rat.mul_le_mul_of_nonneg_left hs (by decide)
  have e3 : MK = 1000000000 := rfl
  rw [e3]
  grind
theorem qual_ex {ws : List Int} {os : List Rat} (t : LG2 ws os) (h : 1 < ((ws.zip os).map fun q => 1 / q.2).sum) : ∃ m ∈ MK :: (ws.zip os).map (good ws.sum), Qual ws.sum m (ws.zip os) := by
  have hn : ∀ q ∈ ws.zip os, ¬ MK ≤ good ws.sum q := fun q hq z => by
    have := good_lt t hq
    grind
  refine exists_qual t.s0 t.wp t.op h _ (fun q hq => List.mem_cons_of_mem _ (List.mem_map.mpr ⟨q, hq, rfl⟩)) (ws.zip os).length MK (by simp) (Nat.sub_le _ _) ?_ fun q hq z => absurd z (hn q hq)
  have e : cutR ws.sum MK (ws.zip os) = 0 := by
    unfold cutR
    have : ((ws.zip os).map fun q => if MK ≤ good ws.sum q then 1 / q.2 else 0) = (ws.zip os).map fun _ => (0 : Rat) := List.map_congr_left fun q hq => if_neg (hn q hq)
    rw [this]
    generalize ws.zip os = l
    induction l with
    | nil => rfl
    | cons a l ih =>
      rw [List.map_cons, List.sum_cons, ih, Rat.zero_add]
  unfold lackR
  rw [e]
  grind
end GS

-- text F9
set_option Elab.async false
set_option linter.all false
set_option maxRecDepth 100000
set_option maxHeartbeats 2000000
/-! F9: the two lists of all weights are one. -/
namespace GS
open PySem PySem.Spec PyProof.Rows L2 DL
theorem filt_lt (N M : Nat) (h : M ≤ N) : (List.range N).filter (fun i => decide (i < M)) = List.range M := by
  induction N with
  | zero =>
    have : M = 0 := by omega
    subst this
    rfl
  | succ N ih =>
    rw [List.range_succ, List.filter_append]
    by_cases c : M ≤ N
    · rw [ih c]
      have : ¬ N < M := by omega
      simp [this]
    · have e : M = N + 1 := by omega
      subst e
      have e2 : (List.range N).filter (fun i => decide (i < N + 1)) = List.range N := List.filter_eq_self.mpr fun i hi => decide_eq_true (by have := List.mem_range.mp hi; omega)
      rw [e2, List.range_succ]
      simp
theorem filt_rng {a b : Int} (h : b ≤ a) : (rng1 a).filter (fun i => decide (i ≤ b)) = rng1 b := by
  unfold rng1
  rw [List.filter_map, ← filt_lt a.toNat b.toNat (by omega)]
  congr 1
  refine List.filter_congr fun i hi => ?_
  simp only [Function.comp]
  rw [decide_eq_decide]
  omega
theorem filt_last (a : Int) : (rng1 a).filter (fun i => decide (i = a)) = if 1 ≤ a then [a] else [] := by
  by_cases h : 1 ≤ a
  · rw [if_pos h]
    have e : rng1 a = rng1 (a - 1) ++ [a] := by
      unfold rng1
      have e1 : a.toNat = (a - 1).toNat + 1 := by omega
      rw [e1, List.range_succ, List.map_append]
      congr 1
      simp
      omega
    rw [e, List.filter_append]
    have e2 : (rng1 (a - 1)).filter (fun i => decide (i = a)) = [] := by
      rw [List.filter_eq_nil_iff]
      intro i hi hc
      have := (mem_rng1.mp hi).2
      have := of_decide_eq_true hc
      omega
    rw [e2]
    simp
  · rw [if_neg h]
    have e : rng1 a = [] := by
      unfold rng1
      have : a.toNat = 0 := by omega
      rw [this]
      rfl
    rw [e]
    rfl
theorem filter_flat {α β : Type} (p : α → Bool) (f : α → List β) : ∀ l : List α, (l.filter p).flatMap f = l.flatMap fun a => if p a = true then f a else []
  | [] => rfl
  | a :: l => by
    have := filter_flat p f l
    by_cases h : p a = true
    · simp [h, this]
    · simp [h, this]
theorem flat_filter {α β : Type} (p : β → Bool) (f : α → List β) : ∀ l : List α, (l.flatMap f).filter p = l.flatMap fun a => (f a).filter p
  | [] => rfl
  | a :: l => by simp [flat_filter p f l]
theorem flat_congr {α β : Type} {f g : α → List β} : ∀ {l : List α}, (∀ a ∈ l, f a = g a) → l.flatMap f = l.flatMap g
  | [], _ => rfl
  | a :: l, h => by
    rw [List.flatMap_cons, List.flatMap_cons, h a (by simp), flat_congr fun b hb => h b (List.mem_cons_of_mem _ hb)]
theorem headsTL {n : Nat} {W : Int} (hW : (n : Int) ≤ W) : ∀ k, k ≤ n - 1 → heads (limT n W) k = (heads (limL W) k).filter fun h => decide (h.sum + ((n : Int) - k) ≤ W)
  | 0, _ => by
    show [[]] = List.filter _ [[]]
    rw [List.filter_cons, if_pos (decide_eq_true (by simp only [List.sum_nil]; omega))]
    rfl
  | k + 1, hk => by
    have ih := headsTL hW k (by omega)
    show (heads (limT n W) k).flatMap _ = ((heads (limL W) k).flatMap _).filter _
    rw [ih, filter_flat, flat_filter]
    refine flat_congr fun h hh => ?_
    have hl := heads_len hh
    have e1 : ((rng1 (limL W h)).map fun i => h ++ [i]).filter (fun h => decide (h.sum + ((n : Int) - ((k + 1 : Nat) : Int)) ≤ W)) = (rng1 (limT n W h)).map fun i => h ++ [i] := by
      rw [List.filter_map]
      congr 1
      rw [← filt_rng (show limT n W h ≤ limL W h by unfold limT limL; omega)]
      refine List.filter_congr fun i hi => ?_
      simp only [Function.comp, List.sum_append, List.sum_cons, List.sum_nil]
      rw [decide_eq_decide]
      unfold limT
      omega
    rw [e1]
    by_cases c : h.sum + ((n : Int) - k) ≤ W
    · rw [if_pos (decide_eq_true c)]
    · rw [if_neg (by rw [decide_eq_false c]; decide)]
      have : rng1 (limT n W h) = [] := by
        unfold rng1 limT
        have : (W - h.sum - ((n : Int) - 1 - (h.length : Int))).toNat = 0 := by omega
        rw [this]
        rfl
      rw [this]
      rfl
theorem every_all {n : Nat} {W : Int} (hn : 1 ≤ n) (hW : (n : Int) ≤ W) : everyL n W = allW n W := by
  obtain ⟨k, rfl⟩ : ∃ k, n = k + 1 := ⟨n - 1, by omega⟩
  unfold everyL allW
  rw [show k + 1 - 1 = k from rfl, headsTL hW k (by omega)]
  show ((heads (limL W) k).flatMap _).filter _ = _
  rw [flat_filter]
  have e0 : ∀ l : List (List Int), ((l.filter fun h => decide (h.sum + (((k + 1 : Nat) : Int) - k) ≤ W)).map fun h => h ++ [W - h.sum]) = l.flatMap fun h => if decide (h.sum + (((k + 1 : Nat) : Int) - k) ≤ W) = true then [h ++ [W - h.sum]] else [] := by
    intro l
    induction l with
    | nil => rfl
    | cons a l ih =>
      by_cases c : decide (a.sum + (((k + 1 : Nat) : Int) - k) ≤ W) = true
      · rw [List.filter_cons, if_pos c, List.map_cons, ih, List.flatMap_cons, if_pos c]
        rfl
      · rw [List.filter_cons, if_neg c, ih, List.flatMap_cons, if_neg c]
        rfl
  rw [e0]
  refine flat_congr fun h hh => ?_
  have e1 : ((rng1 (limL W h)).map fun i => h ++ [i]).filter (fun h => decide (h.sum = W)) = ((rng1 (limL W h)).filter fun i => decide (i = limL W h)).map fun i => h ++ [i] := by
    rw [List.filter_map]
    congr 1
    refine List.filter_congr fun i hi => ?_
    simp only [Function.comp, List.sum_append, List.sum_cons, List.sum_nil]
    rw [decide_eq_decide]
    unfold limL
    omega
  rw [e1, filt_last]
  by_cases c : h.sum + (((k + 1 : Nat) : Int) - k) ≤ W
  · rw [if_pos (decide_eq_true c), if_pos (by unfold limL; omega)]
    rfl
  · rw [if_neg (show ¬ 1 ≤ limL W h by unfold limL; omega), if_neg (by rw [decide_eq_false c]; decide)]
    rfl
end GS
namespace DL
open PySem PySem.Spec PyProof.Rows L2
section
variable {α : Type} {g : DG} {tt : DT} {te : DE} {vs : List Nat} {ρ : En} {xs : List D} {μ : Mu} {Q : DQ}
/-- a comprehension with a test whose parts change what may change -/
theorem LcB.stf (as : List α) (e : α → D) (J : List α → List D → Mu → Prop) (hx : xs = as.map e) (hl : as.length ≤ sizeLine) (h0 : J [] [] μ)
    (h : ∀ pre a post acc m, as = pre ++ a :: post → J pre acc m → g (e a) (dwipe ρ vs) m fun ρ2 μ2 => tt ρ2 μ2 fun b μ3 => if b = true then te ρ2 μ3 fun y m' => J (pre ++ [a]) (acc ++ [y]) m' else J (pre ++ [a]) acc μ3)
    (hq : ∀ acc m, J as acc m → Q (.lst acc) m) : LcB g tt te vs ρ xs μ Q := by
  subst hx
  refine ⟨by rw [List.length_map]; exact hl, fun i acc m => J (as.take i) acc m, h0, ?_, ?_⟩
  · intro i x acc m hi hj
    rw [List.getElem?_map] at hi
    cases ha : as[i]? with
    | none => rw [ha] at hi; cases hi
    | some a =>
      rw [ha] at hi
      cases hi
      have ht : as.take (i + 1) = as.take i ++ [a] := by
        rw [List.take_add_one, ha]
        rfl
      have hs : as = as.take i ++ a :: as.drop (i + 1) := by
        obtain ⟨hlt, rfl⟩ := List.getElem?_eq_some_iff.mp ha
        rw [← List.drop_eq_getElem_cons hlt, List.take_append_drop]
      have := h _ a _ acc m hs hj
      rw [← ht] at this
      exact this
  · intro acc m hj
    rw [List.length_map, List.take_length] at hj
    exact hq acc m hj
end
end DL

-- text DH1
set_option Elab.async false
set_option linter.all false
set_option maxRecDepth 100000
set_option maxHeartbeats 4000000
/-! DH1: while an exception is handled: ends of list and tuple iterators, unpacking, zip of two lists, a comprehension. -/
namespace DL
open PySem PySem.Spec PyProof.Rows L2 HotX L2H
section
variable {prog : Program} {w : World} {A : Around} {E : Value → Shared → Prop} {s : Shared}
theorem list_end_hot {it l x1 : Addr} {i : Nat} {items} {Q : Value → Shared → Prop} (hot : HotAt A x1 s.heap) (hne : x1 ≠ it)
    (hit : s.heap.IsListIter it l i) (hl : s.heap.IsList l items) (hx : items[i]? = none)
    (hE : ∀ h' e, Heap.ExtBut it s.heap h' → (∃ o, h'.get? e = some o ∧ o.cls = .type "StopIteration") → E (.ref e) { s with heap := h' }) :
    wpAny (model prog w) A (Builtin.SmallTypes.nextOf (.ref it)) Q E s := by
  obtain ⟨o, ho, hc, hd⟩ := id hit
  obtain ⟨ol, hol, _, nl, hdl⟩ := hl
  obtain ⟨hh, o1, vs1, h1, d1, c1⟩ := hot
  unfold Builtin.SmallTypes.nextOf
  refine wpAny_bind (wpAny_callSpecial?_slot (name := Str.ofString "__next__") hit.typeIs slot_listiter_next
    (wpAny_call_entry slot_listiter_next hit.typeIs entry_listiter_next ?_ (args_listiter_next _)))
  show wpAny _ _ (field (.ref it) 0 >>= _) _ _ s
  refine wpAny_bind (wpAny_field ho hd (x := .ref l) rfl ?_)
  show wpAny _ _ (if (Value.ref l == Value.none) = true then _ else _) _ _ s
  rw [if_neg (show ¬ ((Value.ref l == Value.none) = true) from Bool.false_ne_true)]
  show wpAny _ _ (field (.ref it) 1 >>= _) _ _ s
  refine wpAny_bind (wpAny_field ho hd (x := .int i 0) rfl ?_)
  show wpAny _ _ (seqItems? (.ref l) >>= _) _ _ s
  refine wpAny_bind (wpAny_seqItems hol hdl ?_)
  simp only [Int.toNat_natCast, hx]
  refine wpAny_bind (wpAny_rule (wpAny_bind (wpAny_setField ho hd (by simp) ?_)))
  have up : ∀ b u, b ≠ it → s.heap.get? b = some u → (s.heap.update it (Obj.mapFields (·.setIfInBounds 0 Value.none))).get? b = some u := fun b u hb e => by
    rw [Heap.get?_update_other _ _ (Ne.symm hb)]
    exact e
  show wpAny _ _ (newExc (.type "StopIteration") [] >>= _) _ _ _
  refine wpAny_bind ?_
  simp only [newExc, newTuple]
  refine wpAny_bind (wpAny_newObj_type ?_ (by size_fits))
  refine wpAny_bind (m := firstArgMember _ _) (wpAny_of_eq (a := Value.none) (by first | rfl | (simp only [firstArgMember]; rfl)) ?_)
  refine wpAny_newObj_type ?_ (by size_fits)
  have k1 := up x1 o1 hne h1
  refine raiseNew_hot ⟨hh, o1, vs1, Heap.get?_push_of_some _ (Heap.get?_push_of_some _ k1), d1, c1⟩ (Nat.ne_of_lt (Heap.lt_size (Heap.get?_push_of_some _ k1))) (Heap.get?_push_size _ rfl) rfl (by first | (simp; done) | (simp; omega) | (simp only [Array.size_append]; simp; omega)) ?_
  refine hE _ _ (fun b u hb e => ?_) ⟨_, Heap.get?_update_self _ (Heap.get?_push_size _ rfl) rfl, rfl⟩
  have k2 := Heap.get?_push_of_some (h := s.heap.update it (Obj.mapFields (·.setIfInBounds 0 Value.none))) { cls := .type "tuple", data := .seq ([] : List Value).toArray } (up b u hb e)
  rw [Heap.get?_update_other _ _ (Nat.ne_of_gt (Heap.lt_size k2))]
  exact Heap.get?_push_of_some _ k2
theorem tuple_end_hot {it t x1 : Addr} {i : Nat} {items} {Q : Option Value → Shared → Prop} (hot : HotAt A x1 s.heap) (hne : x1 ≠ it)
    (hit : IsTupIter s.heap it t i) (ht : IsTup s.heap t items) (hx : items[i]? = none)
    (hQ : ∀ h', Heap.ExtBut it s.heap h' → Q none { s with heap := h' }) : wpAny (model prog w) A (pyNext (.ref it)) Q E s := by
  obtain ⟨o, ho, hc, hd⟩ := id hit
  obtain ⟨ol, hol, _, nl, hdl⟩ := ht
  obtain ⟨hh, o1, vs1, h1, d1, c1⟩ := hot
  unfold pyNext
  refine wpAny_bind (wpAny_attempt (wpAny_callSpecial?_slot (name := Str.ofString "__next__") hit.typeIs slot_tupleiter_next
    (wpAny_call_entry slot_tupleiter_next hit.typeIs entry_tupleiter_next ?_ (args_tupleiter_next _))))
  show wpAny _ _ (field (.ref it) 0 >>= _) _ _ s
  refine wpAny_bind (wpAny_field ho hd (x := .ref t) rfl ?_)
  show wpAny _ _ (if (Value.ref t == Value.none) = true then _ else _) _ _ s
  rw [if_neg (show ¬ ((Value.ref t == Value.none) = true) from Bool.false_ne_true)]
  show wpAny _ _ (field (.ref it) 1 >>= _) _ _ s
  refine wpAny_bind (wpAny_field ho hd (x := .int i 0) rfl ?_)
  show wpAny _ _ (seqItems? (.ref t) >>= _) _ _ s
  refine wpAny_bind (wpAny_seqItems hol hdl ?_)
  simp only [Int.toNat_natCast, hx]
  refine wpAny_bind (wpAny_rule (wpAny_bind (wpAny_setField ho hd (by simp) ?_)))
  have up : ∀ b u, b ≠ it → s.heap.get? b = some u → (s.heap.update it (Obj.mapFields (·.setIfInBounds 0 Value.none))).get? b = some u := fun b u hb e => by
    rw [Heap.get?_update_other _ _ (Ne.symm hb)]
    exact e
  show wpAny _ _ (newExc (.type "StopIteration") [] >>= _) _ _ _
  refine wpAny_bind ?_
  simp only [newExc, newTuple]
  refine wpAny_bind (wpAny_newObj_type ?_ (by size_fits))
  refine wpAny_bind (m := firstArgMember _ _) (wpAny_of_eq (a := Value.none) (by first | rfl | (simp only [firstArgMember]; rfl)) ?_)
  refine wpAny_newObj_type ?_ (by size_fits)
  have k1 := up x1 o1 hne h1
  refine raiseNew_hot ⟨hh, o1, vs1, Heap.get?_push_of_some _ (Heap.get?_push_of_some _ k1), d1, c1⟩ (Nat.ne_of_lt (Heap.lt_size (Heap.get?_push_of_some _ k1))) (Heap.get?_push_size _ rfl) rfl (by first | (simp; done) | (simp; omega) | (simp only [Array.size_append]; simp; omega)) ?_
  refine wpAny_bind (wpAny_isInstance (T := "StopIteration") (b := true) ⟨_, Heap.get?_update_self _ (Heap.get?_push_size _ rfl) rfl, rfl⟩ isSubtype_stop ?_)
  refine wpAny_pure (hQ _ fun b u hb e => ?_)
  have k2 := Heap.get?_push_of_some (h := s.heap.update it (Obj.mapFields (·.setIfInBounds 0 Value.none))) { cls := .type "tuple", data := .seq ([] : List Value).toArray } (up b u hb e)
  rw [Heap.get?_update_other _ _ (Nat.ne_of_gt (Heap.lt_size k2))]
  exact Heap.get?_push_of_some _ k2
theorem unpack_hot {t x1 : Addr} {items : Array Value} {Q : List Value → Shared → Prop} (hot : HotAt A x1 s.heap) (ht : IsTup s.heap t items)
    (hQ : ∀ h', Heap.ExtBut s.heap.objs.size s.heap h' → Q items.toList { s with heap := h' }) : wpAny (model prog w) A (unpackItems (.ref t) items.size none) Q E s := by
  have hlt : t ≠ s.heap.objs.size := by obtain ⟨o, ho, _⟩ := ht; exact Nat.ne_of_lt (Heap.lt_size ho)
  obtain ⟨hh, o1, vs1, h1, d1, c1⟩ := hot
  have hx1 : x1 ≠ s.heap.objs.size := Nat.ne_of_lt (Heap.lt_size h1)
  unfold unpackItems
  refine wpAny_bind ?_
  · unfold notIterableAtAll
    refine wpAny_bind (wpAny_specialOf ht.typeIs slot_tuple_iter.lookup ?_)
    refine wpAny_pure ?_
    simp only [Bool.false_eq_true, if_false]
    refine wpAny_bind (wpAny_holding (iter_tuple ht ?_))
    refine wpAny_bind (wpAny_holding (draw_tuple hlt items.size 0 _ _ ⟨_, Heap.get?_push_size _ rfl, rfl, rfl⟩ (ht.push _) (by omega) fun h₁ hit₁ hs₁ => ?_))
    have hall : List.take items.size (List.drop 0 items.toList) = items.toList := by
      rw [List.drop_zero]; exact List.take_of_length_le (by simp)
    rw [hall]
    rw [if_neg (by simp)]
    have ht₁ : IsTup h₁ t items := (ht.push _).extBut hs₁.extBut hlt
    refine wpAny_bind (wpAny_holding (tuple_end_hot ⟨hh, o1, vs1, hs₁.extBut x1 o1 hx1 (Heap.get?_push_of_some _ h1), d1, c1⟩ hx1 hit₁ ht₁ (by simp) fun h₂ he₂ => ?_))
    simp only [Option.isSome_none, Bool.false_eq_true, if_false]
    refine wpAny_pure (hQ h₂ fun b o hb e => he₂ b o hb (hs₁.extBut b o hb (Heap.get?_push_of_some _ e)))
theorem assign_hot {env : Env} {elts : List Expr} {k} {pos : Pos} {t x1 : Addr} {items : Array Value} {Q : Unit → Shared → Prop} (hot : HotAt A x1 s.heap) (ht : IsTup s.heap t items)
    (hn : (assignEach elts env).length = items.size) (hstar : (assignEach elts env).findIdx? (·.1) = none)
    (h : ∀ h', Heap.ExtBut s.heap.objs.size s.heap h' → wpAny (model prog w) A (assignInOrder ((assignEach elts env).map (·.2)) items.toList) Q E { s with heap := h' }) :
    wpAny (model prog w) A (assign (.Tuple elts k pos) env (.ref t)) Q E s := by
  rw [assign_Tuple]
  refine wpAny_bind (wpAny_standAt ?_)
  unfold unpack
  rw [hn, hstar]
  exact wpAny_bind (wpAny_holding (unpack_hot hot ht h))
end
/-- (a, b, ..) = a tuple of that length, there -/
theorem pg_tupH {X : Cx} {pos : Pos} {es : List Expr} {k : Nat} {t : TGs} {n : Nat} (hc : HotC X) (h : PGs X es t)
    (hn : (assignEach es X.env).length = n := by rfl) (hst : (assignEach es X.env).findIdx? (·.1) = none := by rfl) : PG X (.Tuple es k pos) (gTup X.K n t) := by
  refine ⟨fun pins s σ H v u Q I r hw => ?_⟩
  obtain ⟨a, xs, e1, hq, hl, hw⟩ := hw
  subst e1
  cases r
  obtain ⟨its, rv, ht, hz⟩ := I.tuple hq
  obtain ⟨x1, hot⟩ := hc.at I
  refine assign_hot hot ht (by simp [hn, ← hl, rv.length]) hst fun h' hx => ?_
  have I1 : Inv X pins σ H { s with heap := h' } := I.kept (t' := s.toks) fun b o e => hx b o (Nat.ne_of_lt (Heap.lt_size e)) e
  exact h.run pins _ σ H xs _ Q I1 (by simpa using rv) hw
theorem hot_at {A : Around} {x1 : Addr} {h h' : Heap} (hot : HotAt A x1 h) (k : ∀ o, h.get? x1 = some o → h'.get? x1 = some o) : HotAt A x1 h' := by
  obtain ⟨hh, o1, vs1, h1, d1, c1⟩ := hot
  exact ⟨hh, o1, vs1, k _ h1, d1, c1⟩
theorem draws_hot (prog : Program) (w : World) (A : Around) (x1 it l : Addr) (hne : l ≠ it) (hx : x1 ≠ it) (items : Array Value) :
    Draws prog w A it [it, l, x1] items.size (fun i v => items[i]? = some v) (fun i h => h.IsListIter it l i ∧ h.IsList l items ∧ HotAt A x1 h) where
  live := fun _ _ st => let ⟨o, ho, _⟩ := st.1; ⟨o, ho⟩
  frame := fun _ _ _ st hk => ⟨st.1.at fun o e => hk it (by simp) o e, st.2.1.at fun o e => hk l (by simp) o e, hot_at st.2.2 fun o e => hk x1 (by simp) o e⟩
  item := fun i s Q E hi st hQ => by
    refine wpAny_nextOf_list_item st.1 st.2.1 (x := items[i]) (by simp [hi]) fun h' hit' hs' => ?_
    exact hQ _ h' s.toks (by simp [hi]) ⟨hit', st.2.1.extBut hs'.extBut hne, hot_at st.2.2 fun o e => hs'.extBut x1 o hx e⟩ hs'
  done := fun s Q E st hE => list_end_hot st.2.2 hx st.1 st.2.1 (by simp) hE
end DL

-- text DH2
set_option Elab.async false
set_option linter.all false
set_option maxRecDepth 100000
set_option maxHeartbeats 4000000
/-! DH2: zip of two lists and a comprehension while an exception is handled. -/
namespace DL
open PySem PySem.Spec PyProof.Rows L2 HotX L2H
/-- the block's context, the handled exception's object kept in sight -/
abbrev blkH (X : Cx) (s : Shared) (H : Hp) (scope : Scope) (cenv : Env) (fp : List Addr) (p : Addr × Obj) : Cx := { X.blk s H scope cenv fp with pn := [p] }
theorem zsep_hot {z TI TO i1 i2 a b x1 : Addr} (S : ZipSep2 z TI TO i1 i2 [i1, a] [i2, b]) (h1 : x1 ≠ z) (h2 : x1 ≠ TO) (h3 : x1 ≠ i1) (h4 : x1 ≠ i2) : ZipSep2 z TI TO i1 i2 [i1, a, x1] [i2, b, x1] := by
  obtain ⟨a1, a2, a3, a4, a5, a6, a7, a8, a9, a10, a11, a12, a13⟩ := S
  have e1 : ∀ (y u v : Addr), y ∉ [u, v] → x1 ≠ y → y ∉ [u, v, x1] := fun y u v h g hm => by
    rcases List.mem_cons.mp hm with q | hm
    · exact h (by simp [q])
    · rcases List.mem_cons.mp hm with q | hm
      · exact h (by simp [q])
      · exact g (List.mem_singleton.mp hm).symm
  exact ⟨a1, a2, a3, a4, by simp, e1 _ _ _ a6 h1, e1 _ _ _ a7 h2, a8, by simp, e1 _ _ _ a10 h1, e1 _ _ _ a11 h2, e1 _ _ _ a12 h3, e1 _ _ _ a13 h4⟩
theorem turn_zip2H {P : Program} {w : World} {K : Fg} {elts : List Expr} {kk : Nat} {tpos : Pos} {a b z TI TO i1 i2 : Addr} (hs : ZipSep2 z TI TO i1 i2 [i1, a] [i2, b]) (na : a ≠ i1) (nb : b ≠ i2) :
    TurnH P w K (.Tuple elts kk tpos) (Itz2 K .l .l a b) [z, TI, TO, i1, i2] z (fun i h => IsZip h z TI TO .none ∧ IsTupOf2 h TI (.ref i1) (.ref i2) ∧ (∃ x y, IsTupOf2 h TO x y) ∧ h.IsListIter i1 a i ∧ h.IsListIter i2 b i) where
  mem := by simp
  obj := (turn_zip2 (P := P) (w := w) (K := K) (elts := elts) (kk := kk) (tpos := tpos) (k1 := .l) (k2 := .l) (fun _ _ => hs) na nb).obj
  keep := (turn_zip2 (P := P) (w := w) (K := K) (elts := elts) (kk := kk) (tpos := tpos) (k1 := .l) (k2 := .l) (fun _ _ => hs) na nb).keep
  item := by
    intro X hP hw hK hc i pins s σ H E I hf st hg
    subst hP hw hK
    obtain ⟨hz, hTI, hTO, s1, s2⟩ := st
    obtain ⟨xs, ys, x, y, qx, qy, hx, hy⟩ := hg
    obtain ⟨its, r1, p1⟩ := Kd.inv (k := .l) I qx
    obtain ⟨its2, r2, p2⟩ := Kd.inv (k := .l) I qy
    obtain ⟨p, ⟨hh, v1, e1, c1⟩, hp⟩ := hc
    have ne : ∀ d ∈ [z, TI, TO, i1, i2], p.1 ≠ d := fun d hd => (hf d hd).2.2.2.2.2 p (List.mem_append_left _ hp)
    have hot : HotAt X.A.in1 p.1 s.heap := ⟨hh, p.2, v1, (I.pin p (List.mem_append_left _ hp)).1, e1, c1⟩
    have W := GoesN.zip2 (A := X.A) (elts := elts) (x1 := kk) (pos := tpos) (zsep_hot hs (ne z (by simp)) (ne TO (by simp)) (ne i1 (by simp)) (ne i2 (by simp))) (draws_hot X.prog X.w X.A.in1 p.1 i1 a na (ne i1 (by simp)) its.toArray) (draws_hot X.prog X.w X.A.in1 p.1 i2 b nb (ne i2 (by simp)) its2.toArray)
    have l1 := r1.length
    have l2 := r2.length
    have g1 := (List.getElem?_eq_some_iff.mp hx).1
    have g2 := (List.getElem?_eq_some_iff.mp hy).1
    refine W.goes i s _ E (by simp only [List.size_toArray]; omega) ⟨hz, hTI, hTO, ⟨s1, p1, hot⟩, ⟨s2, p2, hot⟩⟩ fun v h' tk ⟨T, x', y', ev, hn, hx', hy', hT⟩ st' hk htk => ?_
    obtain ⟨ux, hux, rx⟩ := r1.get hx
    obtain ⟨uy, huy, ry⟩ := r2.get hy
    have ex : ux = x' := Option.some.inj (hux.symm.trans (by simpa using hx'))
    have ey : uy = y' := Option.some.inj (huy.symm.trans (by simpa using hy'))
    subst ex ey ev
    have I1 : Inv X pins σ (upd H T (.tup [x, y])) { s with heap := h', toks := tk } :=
      I.turnedNew (ch := [z, TI, TO, i1, i2]) (fun d o hb q => hk d o (fun q' => hb (by
        have e' : d = z ∨ d = TO ∨ d = i1 ∨ d = i2 := by simpa using q'
        rcases e' with q | q | q | q <;> simp [q])) q) hf hn (tup_new (.cons rx (.cons ry .nil)) (by show 2 ≤ sizeLine; decide) hT)
    obtain ⟨z1, z2, z3, ⟨t1, _⟩, ⟨t2, _⟩⟩ := st'
    refine ⟨.ref T, _, I1, rfl, ⟨T, x, y, rfl, I.hok.fresh hn, rfl, fun l hl => by rw [Kd.inj (k := .l) I hl qx]; exact hx, fun l hl => by rw [Kd.inj (k := .l) I hl qy]; exact hy⟩, ⟨z1, z2, z3, t1, t2⟩, fun d hd => ?_⟩
    have hlt : d < s.heap.objs.size := by
      have e' : d = z ∨ d = TI ∨ d = TO ∨ d = i1 ∨ d = i2 := by simpa using hd
      obtain ⟨_, _, hTO⟩ := hTO
      rcases e' with q | q | q | q | q
      · rw [q]; exact Heap.lt_size hz
      · rw [q]; exact Heap.lt_size hTI
      · rw [q]; exact Heap.lt_size hTO
      · rw [q]; obtain ⟨_, e1, _⟩ := Kd.obj (k := .l) s1; exact Heap.lt_size e1
      · rw [q]; obtain ⟨_, e1, _⟩ := Kd.obj (k := .l) s2; exact Heap.lt_size e1
    rw [upd_ne (Nat.ne_of_lt (Nat.lt_of_lt_of_le hlt hn))]
    exact (hf d hd).1
  done := by
    intro X hP hw hK hc i pins s σ H E I hf st hg
    subst hP hw hK
    obtain ⟨hz, hTI, hTO, s1, s2⟩ := st
    obtain ⟨xs, ys, qx, qy, e1, e2⟩ := hg
    obtain ⟨its, r1, p1⟩ := Kd.inv (k := .l) I qx
    obtain ⟨its2, r2, p2⟩ := Kd.inv (k := .l) I qy
    obtain ⟨p, ⟨hh, v1, ee1, c1⟩, hp⟩ := hc
    have ne : ∀ d ∈ [z, TI, TO, i1, i2], p.1 ≠ d := fun d hd => (hf d hd).2.2.2.2.2 p (List.mem_append_left _ hp)
    have hot : HotAt X.A.in1 p.1 s.heap := ⟨hh, p.2, v1, (I.pin p (List.mem_append_left _ hp)).1, ee1, c1⟩
    have W := GoesN.zip2 (A := X.A) (elts := elts) (x1 := kk) (pos := tpos) (zsep_hot hs (ne z (by simp)) (ne TO (by simp)) (ne i1 (by simp)) (ne i2 (by simp))) (draws_hot X.prog X.w X.A.in1 p.1 i1 a na (ne i1 (by simp)) its.toArray) (draws_hot X.prog X.w X.A.in1 p.1 i2 b nb (ne i2 (by simp)) its2.toArray)
    have l1 := r1.length
    have l2 := r2.length
    have en : i = min its.toArray.size its2.toArray.size := by simp only [List.size_toArray]; omega
    rw [en] at s1 s2
    exact W.stops s _ E ⟨hz, hTI, hTO, ⟨s1, p1, hot⟩, ⟨s2, p2, hot⟩⟩ fun h' tk hk htk => I.turnedL (ch := [z, TI, TO, i1, i2]) (fun d o hb q => hk d o (fun q' => hb (by
        have e' : d = z ∨ d = TO ∨ d = i1 ∨ d = i2 := by simpa using q'
        rcases e' with q | q | q | q <;> simp [q])) q) hf
  self := fun A i s Q E st h => wpAny_pyIter_zip st.1 h
theorem pi_zip2H {X : Cx} {e e2 : Expr} {ta : TA} {p pos tpos : Pos} {elts : List Expr} {kk : Nat} (hg : Gl X "zip") (hm : X.mg "zip" = none) (ha : PA X [e, e2] ta)
    (hs : starEach [e, e2] X.env = (false, eval e X.env) :: starEach [e2] X.env := by rfl) (hpl : (backTo pos (starEach [e2] X.env)).any (·.1) = false := by rfl) :
    PIH X (.Tuple elts kk tpos) (.Call (.Name "zip" p) [e, e2] [] pos) (iZip2 X.K .l .l ta) := by
  refine ⟨fun pins s σ H R I h => ?_⟩
  refine Call_ (ld_blt I hg hm PyProof.Rows.boot_zip (PyProof.Rows.callWith_type1 (thn (ha.run pos pins s σ H _ I h) fun us s1 ⟨vs, H1, I1, r1, q1⟩ => ?_) hs hpl))
  obtain ⟨a, b, xs, ys, ex, qx, qy, q⟩ := q1
  subst ex
  cases r1 with
  | cons ra rr => cases rr with
    | cons rb rr =>
      cases rr
      cases ra
      cases rb
      obtain ⟨its, _, p1⟩ := Kd.inv (k := .l) I1 qx
      obtain ⟨its2, _, p2⟩ := Kd.inv (k := .l) I1 qy
      have la := Kd.lt (k := .l) p1
      have lb := Kd.lt (k := .l) p2
      refine zip_begins2 (Kd.begins .l a _) (Kd.begins .l b _) p1 p2 fun h' hz hTI hTO h1 h2 hsz hk => wpAny_pyIter_zip hz ?_
      have I2 : Inv X pins σ H1 { s1 with heap := h' } := I1.kept (t' := s1.toks) hk
      have fresh : ∀ d, d ∈ [s1.heap.objs.size + 4, s1.heap.objs.size + 2, s1.heap.objs.size + 3, s1.heap.objs.size, s1.heap.objs.size + 1] → FpOk X pins H1 d := fun d hd => by
        have hle : s1.heap.objs.size ≤ d := by
          simp only [List.mem_cons, List.not_mem_nil, or_false] at hd
          rcases hd with z | z | z | z | z <;> rw [z]
          all_goals first | exact Nat.le_refl _ | exact Nat.le_add_right _ _
        exact I1.fpOk hle (I1.hok.fresh hle)
      refine ⟨s1.heap.objs.size + 4, [s1.heap.objs.size + 4, s1.heap.objs.size + 2, s1.heap.objs.size + 3, s1.heap.objs.size, s1.heap.objs.size + 1], _, _, H1, rfl, I2,
        turn_zip2H (zip_sep2 (by intro x hx; rw [List.mem_singleton.mp hx]; exact la) (by intro x hx; rw [List.mem_singleton.mp hx]; exact lb)) (Nat.ne_of_lt la) (Nat.ne_of_lt (Nat.lt_of_lt_of_le lb (Nat.le_add_right _ _))),
        ⟨hz, hTI, ⟨_, _, hTO⟩, Kd.it0 (k := .l) h1, Kd.it0 (k := .l) h2⟩, fresh, q⟩
section
variable {X : Cx}
theorem pe_lcH {p0 : Addr × Obj} {elt tg iter : Expr} {ifs : List Expr} {scope : Scope} {own : List (Str × Nat)} {pos : Pos} {wi : TI} {g : TG} {tt : TT} {te : TE}
    (hot : Hot1 X.A p0) (hp0 : p0 ∈ X.pn) (hN : X.N.Nodup) (hi : PIH X tg iter wi) (ok : BlkOk X.N X.env.scope scope own)
    (hg : ∀ (s : Shared) (H : Hp) (C : Addr) (cl : List (Str × Addr)) (fp : List Addr), PG (blkH X s H scope (compEnvC scope cl C X.env) fp p0) tg g) (ht : ∀ (s : Shared) (H : Hp) (C : Addr) (cl : List (Str × Addr)) (fp : List Addr), PTs (blkH X s H scope (compEnvC scope cl C X.env) fp p0) ifs tt)
    (he : ∀ (s : Shared) (H : Hp) (C : Addr) (cl : List (Str × Addr)) (fp : List Addr), PE (blkH X s H scope (compEnvC scope cl C X.env) fp p0) elt te) (hs : ∀ x, foldedSetIterable iter X.env x = pure x := by intro _; rfl) :
    PE X (.ListComp elt [⟨tg, iter, ifs, 0⟩] scope pos) (tLc wi g tt te (own.map (·.2))) := by
  refine ⟨fun pins s σ H Q I h => ?_⟩
  rw [eval_ListComp]
  have hRR : ∀ D C s' m H', Inv X pins σ H' s' → Q (.ref D) H' → s'.heap.Ns C m → FpOk X pins H' C → compPost (model X.prog X.w) X.A X.xe none (EP X pins σ Q) (.ref D) C (.ok .next) s' := fun D C s' m H' I' q hn f => ⟨m, hn, fun h'' sb => by
    obtain ⟨f0, f1, f2, f3, f4, f5⟩ := f
    exact ⟨.ref D, H', I'.turned (t' := s'.toks) (fun b o hb e => (sb.2 b hb).trans e) f0 f1 f3 f4 f5, rfl, q⟩⟩
  have hfree : ∀ y ∈ scope.names, y.2 = .free → ∃ c, X.env.cells.lookup y.1 = some c := fun y hy e => by
    rcases ok.free y hy e with k | k
    · exact I.ok.has _ (.inl k)
    · exact I.ok.has _ (.inr k)
  refine wpAny_comprehension_free (use := none) rfl hs (closure_ok hfree) ok.kind (fun y hy e => by rw [ok.uniq y hy, e])
    (thn (hi.run pins s σ H _ I h) fun xv s1 hx => thn hx fun itv s2 h2 => ?_)
  obtain ⟨it, fp, tn, J, H2, e, I2, T, st2, f2, q⟩ := h2
  subst e
  refine wpAny_newObj_type (newEnv_comp ?_) (by show 0 ≤ sizeLine; decide)
  generalize hD : s2.heap.objs.size = D
  have hDn : H2 D = none := I2.hok.fresh (Nat.le_of_eq hD)
  obtain ⟨W, ⟨m0, w0⟩, turn⟩ := q D hDn
  generalize hs3 : ({ s2 with heap := s2.heap.push { cls := .type "list", data := .seq ([] : List Value).toArray } } : Shared) = s3
  have I3 : Inv X pins σ (upd H2 D (.lst [])) s3 := by
    rw [← hs3]
    refine I2.laid (t' := s2.toks) (fun b o e => Heap.get?_push_of_some _ e) (Nat.le_of_eq hD) ⟨Nat.zero_le _, [], 0, .nil, ?_⟩
    rw [← hD]
    exact Heap.get?_push_size _ rfl
  have h3 : s3.heap = s2.heap.push { cls := .type "list", data := .seq ([] : List Value).toArray } := by rw [← hs3]
  have sz : ∀ b ∈ fp, b < s2.heap.objs.size := fun b hb => by
    obtain ⟨o, e, _⟩ := T.obj _ _ st2 b hb
    exact Heap.lt_size e
  have f3 : ∀ b ∈ fp, FpOk X pins (upd H2 D (.lst [])) b ∧ b < s3.heap.objs.size := fun b hb => by
    have hlt := sz b hb
    refine ⟨⟨?_, (f2 b hb).2⟩, by rw [h3, Heap.size_push]; exact Nat.lt_succ_of_lt hlt⟩
    rw [upd_ne (by rw [← hD]; exact Nat.ne_of_lt hlt)]
    exact (f2 b hb).1
  have st3 : tn 0 s3.heap := T.keep _ _ _ st2 fun b _ o e => by rw [h3]; exact Heap.get?_push_of_some _ e
  have I4 := block_start I3 ok hN f3
  have pg := hg s3 (upd H2 D (.lst [])) s3.heap.objs.size (cellsFrom (s3.heap.objs.size + 1) scope.names (cloFrom X.env.cells scope.names [])) fp
  have pt := ht s3 (upd H2 D (.lst [])) s3.heap.objs.size (cellsFrom (s3.heap.objs.size + 1) scope.names (cloFrom X.env.cells scope.names [])) fp
  have pe := he s3 (upd H2 D (.lst [])) s3.heap.objs.size (cellsFrom (s3.heap.objs.size + 1) scope.names (cloFrom X.env.cells scope.names [])) fp
  show codeAny _ _ (.compStart (.ListComp elt [⟨tg, iter, ifs, 0⟩] scope pos) 0 (.ref it) (.ref D) (compEnvC scope (cellsFrom (s3.heap.objs.size + 1) scope.names (cloFrom X.env.cells scope.names [])) s3.heap.objs.size X.env)) (compPost (model X.prog X.w) X.A X.xe none (EP X pins σ Q) (.ref D) s3.heap.objs.size) { s3 with heap := pushCells (s3.heap.push { cls := .type "dict", data := .dict #[] }) scope.names }
  have nfp : ∀ b ∈ fp, (upd H2 D (.lst [])) b = none := fun b hb => (f3 b hb).1.1
  generalize hce : compEnvC scope (cellsFrom (s3.heap.objs.size + 1) scope.names (cloFrom X.env.cells scope.names [])) s3.heap.objs.size X.env = ce at I4 pg pt pe ⊢
  have cL : ce.locals = s3.heap.objs.size := by subst hce; rfl
  generalize hH3 : upd H2 D (.lst []) = H3 at I3 I4 pg pt pe w0 nfp f3
  have kp4 : ∀ b o, s3.heap.get? b = some o → (pushCells (s3.heap.push { cls := .type "dict", data := .dict #[] }) scope.names).get? b = some o := fun b o e => pushCells_keeps _ _ _ _ (Heap.get?_push_of_some _ e)
  have P0 := I3.pin p0 (List.mem_append_left _ hp0)
  have nst : p0.1 ∉ frs X.stack := fun hm => (List.mem_cons.mp (I3.stkSub p0.1 hm)).elim P0.2.2.1 P0.2.2.2.1
  have I4' : Inv (blkH X s3 H3 scope ce fp p0) [] (wipe σ (own.map (·.2))) H3 { s3 with heap := pushCells (s3.heap.push { cls := .type "dict", data := .dict #[] }) scope.names } :=
    ⟨⟨I4.ok.mod, I4.ok.kind, I4.ok.glob, I4.ok.blt, I4.ok.above, I4.ok.inj, I4.ok.has, I4.ok.cab, I4.ok.hd, I4.ok.frames, I4.ok.stk, I4.ok.exf, I4.ok.bs, I4.ok.bsz, I4.ok.noex, I4.ok.exfs, I4.ok.funs, I4.ok.frf⟩, I4.os, I4.bare, I4.base, I4.loc, I4.cell, I4.free, I4.freeC,
      fun r hr => by
        have er : r = p0 := by simpa using (show r ∈ [p0] ++ ([] : List (Addr × Obj)) from hr)
        rw [er]
        exact ⟨kp4 _ _ P0.1, P0.2.1, fun z => by
          have z : p0.1 = ce.locals := z
          rw [cL] at z
          exact Nat.lt_irrefl _ (z ▸ Heap.lt_size P0.1), nst, P0.2.2.2.2⟩, I4.hok, I4.len⟩
  generalize hs4 : ({ s3 with heap := pushCells (s3.heap.push { cls := .type "dict", data := .dict #[] }) scope.names } : Shared) = s4 at I4' ⊢
  have st4 : tn 0 s4.heap := T.keep _ _ _ st3 fun b _ o e => by rw [← hs4]; exact pushCells_keeps _ _ _ _ (Heap.get?_push_of_some _ e)
  have stat : ∀ {σ' : L2.St} {H' : Hp} {s' : Shared}, Inv (blkH X s3 H3 scope ce fp p0) [] σ' H' s' → (∀ b ∈ fp, H' b = none) → ∀ b ∈ fp, FpOk (blkH X s3 H3 scope ce fp p0) [] H' b := fun {σ' H' s'} I' hn b hb =>
    ⟨hn b hb, (I'.ok.exf b hb).1, I'.ok.exfs b hb, .inl hb, fun x c e => (I'.ok.exf b hb).2 x c e, fun p hp => by
      have ep : p = p0 := by simpa using (show p ∈ [p0] ++ ([] : List (Addr × Obj)) from hp)
      rw [ep]
      exact (f3 b hb).1.2.2.2.2.2 p0 (List.mem_append_left _ hp0)⟩
  have hc : HotC (blkH X s3 H3 scope ce fp p0) := ⟨p0, hot, List.mem_singleton.mpr rfl⟩
  have loop : codeAny (model X.prog X.w) X.A (.compLoop (.ListComp elt [⟨tg, iter, ifs, 0⟩] scope pos) 0 (.ref it) (.ref D) ce) (compPost (model X.prog X.w) X.A X.xe none (EP X pins σ Q) (.ref D) s3.heap.objs.size) s4 := by
    refine compLoop_any (fun n s' => ∃ i H', Inv (blkH X s3 H3 scope ce fp p0) [] (wipe σ (own.map (·.2))) H' s' ∧ tn i s'.heap ∧ (∀ b ∈ fp, H' b = none) ∧ W i n H') ?_ m0 ⟨0, H3, I4', st4, nfp, w0⟩
    rintro n s5 ⟨i, H5, I5, st5, n5, w5⟩
    rcases turn i n H5 w5 with ⟨stop, qq⟩ | ⟨go, Nx, hNx, step⟩
    · have td := T.done (blkH X s3 H3 scope ce fp p0) rfl rfl rfl hc i [] s5 _ H5 (fun _ _ => False) I5 (stat I5 n5) st5 stop
      refine thnF td fun r s6 ⟨hr, I6⟩ => ?_
      subst hr
      have I7 : Inv X pins σ H5 s6 := I3.call' (ch := fp) I6.os I6.base I6.hok I6.bare fun b hb => ⟨(f3 b hb).1.2.2.2.1, (f3 b hb).1.2.1, (f3 b hb).1.2.2.2.2.1, (f3 b hb).1.2.2.2.2.2⟩
      have nC : H5 s3.heap.objs.size = none := by
        have z : H5 ce.locals = none := I6.free
        rw [cL] at z
        exact z
      obtain ⟨m, hn, _⟩ := I6.loc
      have hn : s6.heap.Ns ce.locals m := hn
      rw [cL] at hn
      exact hRR D s3.heap.objs.size s6 m H5 I7 qq hn (I3.fpOk (Nat.le_refl _) nC)
    · have ti := T.item (blkH X s3 H3 scope ce fp p0) rfl rfl rfl hc i [] s5 _ H5 (fun _ _ => False) I5 (stat I5 n5) st5 go
      refine thnF ti fun r s6 ⟨u, hr, h6⟩ => ?_
      subst hr
      refine thnF h6 fun _ s7 ⟨x, H7, I7, r7, y7, st7, n7⟩ => ?_
      have I7' := I7.pinned (stat I7 n7) (T.obj _ _ st7)
      refine thnF (pg.run _ s7 _ H7 x u _ I7' r7 (step x H7 y7)) fun _ s8 ⟨σ8, H8, I8, hw8, q8⟩ => ?_
      refine thnF (pt.run _ s8 σ8 H8 _ I8 q8) fun b s9 ⟨H9, I9, q9⟩ => ?_
      have fin : ∀ {s' : Shared} {H' : Hp}, Inv (blkH X s3 H3 scope ce fp p0) ([] ++ pinsAt fp s7.heap) σ8 H' s' → Nx H' → ∃ m, m < n ∧ ∃ i H', Inv (blkH X s3 H3 scope ce fp p0) [] (wipe σ (own.map (·.2))) H' s' ∧ tn i s'.heap ∧ (∀ b ∈ fp, H' b = none) ∧ W i m H' := fun {s' H'} I' nx => by
        obtain ⟨m', hm, w'⟩ := hNx H' nx
        have pin' : ∀ b ∈ fp, ∀ o, s7.heap.get? b = some o → s'.heap.get? b = some o ∧ H' b = none := fun b hb o e =>
          let z := I'.pin (b, o) (List.mem_append_right _ (List.mem_append_right _ (mem_pinsAt hb e)))
          ⟨z.1, z.2.1⟩
        have hl : (wipe σ (own.map (·.2))).length = σ8.length := by rw [← hw8, wipe_length]
        refine ⟨m', hm, i + 1, H', (I'.unpinned (pins := [])).weak hl (fun j v e => ?_), T.keep _ _ _ st7 fun b hb o e => (pin' b hb o e).1, fun b hb => ?_, w'⟩
        · rw [← hw8] at e
          exact (wipe_some e).1
        · obtain ⟨o, e, _⟩ := T.obj _ _ st7 b hb
          exact (pin' b hb o e).2
      cases b with
      | false =>
        simp only [Bool.false_eq_true, if_false] at q9 ⊢
        exact fin I9 q9
      | true =>
        simp only [if_true] at q9 ⊢
        refine thnF (pe.run _ s9 σ8 H9 _ I9 q9) fun z s10 ⟨yv, H10, I10, r10, acc, hD10, hz10, nx⟩ => ?_
        exact app_ok (X := blkH X s3 H3 scope ce fp p0) I10 hD10 hz10 r10 fun s11 I11 => fin I11 nx
  exact codeAny_compStart_list loop (T.self X.A 0 _ _ _ st4 loop)
end

/-! ### over data -/
structure PIHd (X : Cx) (F0 : Og) (tg iter : Expr) (t : DI) : Prop where
  h : PIH X tg iter (lI X.K F0 t)
section
variable {X : Cx} {F0 : Og} {pos : Pos} {vs : List Nat}
theorem di_zip2H {e e2 : Expr} {ta : DA} {p pos tpos : Pos} {elts : List Expr} {kk : Nat} (hg : Gl X "zip") (hm : X.mg "zip" = none) (ha : PA X [e, e2] (lA X.K F0 ta))
    (hs : starEach [e, e2] X.env = (false, eval e X.env) :: starEach [e2] X.env := by rfl) (hpl : (backTo pos (starEach [e2] X.env)).any (·.1) = false := by rfl) :
    PIH X (.Tuple elts kk tpos) (.Call (.Name "zip" p) [e, e2] [] pos) (lI X.K F0 (diZip2 .l .l ta)) := by
  refine ⟨fun pins s σ H R I h' => ?_⟩
  obtain ⟨F, ρ, μ, Rd, S, Re, ht, hq⟩ := h'
  refine (pi_zip2H hg hm ha hs hpl).run pins s σ H R I ⟨F, ρ, μ, _, S, Re, ht, fun us H1 ⟨F1, ds, μ1, g1, rs, xs, ys, ed, hl, h1⟩ => ?_⟩
  subst ed
  obtain ⟨v, w, rfl, rv, rw'⟩ := rs.un2
  obtain ⟨a, as, rfl, q1, q2⟩ := Kd.rep (k := .l) g1.sim.sub rv
  obtain ⟨b, bs, rfl, q3, q4⟩ := Kd.rep (k := .l) g1.sim.sub rw'
  exact ⟨a, b, as, bs, rfl, Kd.sqm (k := .l) g1.sim.sub q1, Kd.sqm (k := .l) g1.sim.sub q3, hq _ _ F1 _ μ1 g1 (yl_zip2 q1 q3 q2 q4 hl) h1⟩
theorem dg_tupH {es : List Expr} {k : Nat} {gs : DGs} (n : Nat) (hc : HotC X) (h : PGs X es (lGs X.K F0 vs gs)) (hg : ∀ ds ρ μ Q, gs ds ρ μ Q → ds.length = n)
    (hn : (assignEach es X.env).length = n := by rfl) (hst : (assignEach es X.env).findIdx? (·.1) = none := by rfl) : PG X (.Tuple es k pos) (lG X.K F0 vs (dgTup gs)) :=
  ⟨fun pins s σ H v u Q I r hh => by
    obtain ⟨F, ρ, μ, d, Qd, S, R, rd, hg', hq⟩ := hh
    cases d with
    | tup xs =>
      obtain ⟨p, us, h1, h2, h3⟩ := rd
      exact (pg_tupH hc h hn hst).run pins s σ H v u Q I r ⟨p, us, h1, Same.seqT S.sub h2, by rw [h3.length]; exact hg _ _ _ _ hg', F, ρ, μ, xs, Qd, S, R, h3, hg', hq⟩
    | _ => exact hg'.elim⟩
theorem d_lcH {p0 : Addr × Obj} {elt tg iter : Expr} {ifs : List Expr} {scope : Scope} {own : List (Str × Nat)} {pos : Pos} {src : DI} {g : DG} {tt : DT} {te : DE} (hot : Hot1 X.A p0) (hp0 : p0 ∈ X.pn) (hN : X.N.Nodup) (hi : PIH X tg iter (lI X.K F0 src)) (ok : BlkOk X.N X.env.scope scope own)
    (hg : ∀ (s : Shared) (H : Hp) (C : Addr) (cl : List (Str × Addr)) (fp : List Addr), PG (blkH X s H scope (compEnvC scope cl C X.env) fp p0) tg (lG X.K F0 (own.map (·.2)) g)) (ht : ∀ (s : Shared) (H : Hp) (C : Addr) (cl : List (Str × Addr)) (fp : List Addr), PTs (blkH X s H scope (compEnvC scope cl C X.env) fp p0) ifs (lT X.K F0 tt))
    (he : ∀ (s : Shared) (H : Hp) (C : Addr) (cl : List (Str × Addr)) (fp : List Addr), PE (blkH X s H scope (compEnvC scope cl C X.env) fp p0) elt (lE X.K F0 te)) (hs : ∀ x, foldedSetIterable iter X.env x = pure x := by intro _; rfl) :
    PE X (.ListComp elt [⟨tg, iter, ifs, 0⟩] scope pos) (lE X.K F0 (dLc src g tt te (own.map (·.2)))) :=
  upE (pe_lcH hot hp0 hN hi ok hg ht he hs) fun σ H F ρ μ Q S Re h => lLc S Re h fun _ _ z => z
end
end DL

-- text DH3
set_option Elab.async false
set_option linter.all false
set_option maxRecDepth 100000
set_option maxHeartbeats 4000000
/-! DH3: a lambda handed to a def that catches; a def called while an exception is handled. -/
namespace DL
open PySem PySem.Spec PyProof.Rows L2 HotX L2H LamX
section
variable {X : Cx} {pins : List (Addr × Obj)} {σ : L2.St} {H HZ : Hp} {s s1 : Shared}
/-- the lambda's context, for errors whose context is None -/
abbrev lamN (X : Cx) (A : Around) (outer : List Env) (s : Shared) (H : Hp) (E : XK) (scope : Scope) (f c' : Addr) : Cx :=
  { lamCx X A outer s H E scope f c' with xe := fun e s' => wpAny (model X.prog X.w) (A.deeper (lamEnv X scope s.heap.objs.size f c')) (leaving (lamEnv X scope s.heap.objs.size f c') e) (fun _ s'' => L2N.CX X.prog X.w outer H s E e s'') (fun e' s'' => L2N.CX X.prog X.w outer H s E e' s'') s' }
theorem lamN_takes {A : Around} {outer : List Env} {s : Shared} {H : Hp} {E : XK} {scope : Scope} {f c' : Addr} : L2N.Takes (lamN X A outer s H E scope f c') (fun cls d _ H => E cls d H) := L2N.takes_of rfl rfl rfl rfl
theorem pe_actN {CXg : CXT} {Eg : XK} {Ng : List Str} {qg : Str} {sg : Scope} {g f c' : Addr} {cdg pm ctv : Value} {params : Arguments} {body : Expr} {scope : Scope} {k i : Nat} {a : Str} {pn : List (Addr × Obj)} {xe : Value → Shared → Prop} {W : WX} {E : XK} {tb : TE} {p1 p2 : Pos}
    (I : Inv X pins σ H s) (L : LamS X.env.scope scope) (hf : s.heap.get? f = some (PySem.W.kla_obj "<lambda>" (X.env.qual ++ "<lambda>") params body scope (cloFrom X.env.cells scope.names []) pm c' ctv)) (hfn : H f = none) (hfr : f ∉ frs X.stack)
    (hbind : bindArgs (PySem.W.kla_fn "<lambda>" (X.env.qual ++ "<lambda>") params body scope (cloFrom X.env.cells scope.names []) pm (.ref c') ctv) ⟨[], []⟩ = pure [])
    (tk : L2N.Takes ((cxOf CXg X.prog X.w X.K X.mg X.base Ng qg sg g cdg X.A X.stack s H Eg).tr pn xe) W) (hW : ∀ cls d σ' H', E cls d H' → W cls d σ' H') (hr : Room (k + 1) (X.A.deeper (envOfC qg sg s.heap.objs.size g cdg)))
    (hbody : ∀ (A : Around) (outer : List Env) (s : Shared) (H : Hp), Room k (A.deeper (lamEnv X scope s.heap.objs.size f c')) → PE (lamN X A outer s H E scope f c') body tb)
    (hN : Ng[i]? = some a) (hv : Vis sg a) (hd : (a == ("__debug__" : Str)) = false := by decide) (hcd : (a == ("__classdict__" : Str)) = false := by decide) :
    PE ((cxOf CXg X.prog X.w X.K X.mg X.base Ng qg sg g cdg X.A X.stack s H Eg).tr pn xe) (.Call (.Name a p1) [] [] p2)
      (fun σZ HZ Q => σZ[i]? = some (some (.ref f)) ∧ HZ c' = some (CodeO c' (X.env.qual ++ "<lambda>")) ∧ tb σ HZ Q) := by
  refine ⟨fun pinsZ sZ σZ HZ Q IZ h => ?_⟩
  obtain ⟨hs, hc, ht⟩ := h
  refine wpAny_Call_Name_kw (thn ((pe_var (pos := p1) (i := i) hN hv hd hcd).run pinsZ sZ σZ HZ (fun v H1 => v = .ref f ∧ H1 = HZ) IZ ⟨.ref f, hs, rfl, rfl⟩) fun u s1 ⟨v, H1, I1, r1, q1⟩ => ?_)
  obtain ⟨ev, eH⟩ := q1
  subst ev
  rw [eH] at I1
  obtain rfl : u = Value.ref f := r1
  have of1 : s1.heap.get? f = some (PySem.W.kla_obj "<lambda>" (X.env.qual ++ "<lambda>") params body scope (cloFrom X.env.cells scope.names []) pm c' ctv) := I1.base.keep f _ hf hfn hfr (fun z => nomatch (show f ∈ ([] : List Addr) from z))
  refine PySem.W.callWith_F0 ⟨_, _, _, _, of1⟩ ?_
  have un : Un (frs X.stack) [] H HZ s.heap s1.heap := I1.base
  obtain ⟨⟨oc, vs, t, hoc, hdc, hvc⟩, _, _⟩ := I1.hok c' _ hc
  have rc : codeAny (model X.prog X.w) (X.A.deeper (envOfC qg sg s.heap.objs.size g cdg)) (.call (.ref f) ⟨[], []⟩) (CR (L2N.CX X.prog X.w) (envOfC qg sg s.heap.objs.size g cdg :: X.stack) X.prog X.w HZ s1 Q E) s1 := by
    refine PySem.W.kla_callFunE hr.depth of1 rfl L.co L.gen rfl ⟨c', oc, vs, t, rfl, hoc, hdc, hvc⟩ ?_
    rw [hbind]
    refine wpAny_pure (wpAny_newFunctionEnv (fun y hy => (L.own y hy).2) (fun y hy => absurd hy (by simp)) (fun h₁ hns hsb => ⟨I1.nolimit.fresh _ hsb, ?_⟩) L.kind)
    show codeAny _ _ (.expr body (lamEnv X scope s1.heap.objs.size f c')) _ _
    have kp : ∀ b o, s1.heap.get? b = some o → h₁.get? b = some o := fun b o e => hsb.extBut b o (Nat.ne_of_lt (Heap.lt_size e)) (Heap.get?_push_of_some _ e)
    have J0 : Inv (lamCx X (X.A.deeper (envOfC qg sg s.heap.objs.size g cdg)) (envOfC qg sg s.heap.objs.size g cdg :: X.stack) s1 HZ E scope f c') [] σ HZ { s1 with heap := h₁, toks := s1.toks + ([] : List (Str × Value)).length } :=
      lam_start2 I L I1.env0 hr.hd un hns kp
    have J : Inv (lamN X (X.A.deeper (envOfC qg sg s.heap.objs.size g cdg)) (envOfC qg sg s.heap.objs.size g cdg :: X.stack) s1 HZ E scope f c') [] σ HZ { s1 with heap := h₁, toks := s1.toks + ([] : List (Str × Value)).length } :=
      ⟨⟨J0.ok.mod, J0.ok.kind, J0.ok.glob, J0.ok.blt, J0.ok.above, J0.ok.inj, J0.ok.has, J0.ok.cab, J0.ok.hd, J0.ok.frames, J0.ok.stk, J0.ok.exf, J0.ok.bs, J0.ok.bsz, J0.ok.noex, J0.ok.exfs, J0.ok.funs, J0.ok.frf⟩, J0.os, J0.bare, J0.base, J0.loc, J0.cell, J0.free, J0.freeC, J0.pin, J0.hok, J0.len⟩
    refine PySem.W.kla_codeExpr (wpAny_mono ((hbody _ _ s1 HZ (hr.deeper _)).run [] _ _ HZ Q J ht) (fun v s' hq => ?_) fun e s' hq => hq)
    obtain ⟨w', H', J', rv, q⟩ := hq
    exact ⟨w', H', J'.os, J'.bare, J'.base, J'.hok, rv, q⟩
  have hx : Passes (L2N.CX X.prog X.w) ((cxOf CXg X.prog X.w X.K X.mg X.base Ng qg sg g cdg X.A X.stack s H Eg).tr pn xe) E := L2N.passes_call tk hW
  refine wpAny_call (codeAny_mono rc fun r s' hq => ?_)
  cases r with
  | error e => exact hx pinsZ σZ HZ s1 e s' I1 hq
  | ok fl =>
    cases fl with
    | ret u => exact I1.after hq
    | next => exact False.elim hq
    | brk => exact False.elim hq
    | cont => exact False.elim hq
/-- the lambda is made, what stands then told in full -/
theorem lam_mk {c P : Addr} {params : Arguments} {body : Expr} {scope : Scope} {pos : Pos} {E : Value → Shared → Prop} {Q : Value → Shared → Prop} {ps : Array Value} (I : Inv X pins σ H s) (TB : TabB X.base X.mg c P) (hcode : X.env.code = .ref c)
    (hP : H P = some (.tbl ps)) (ht : TriplesOk ps.toList) (ha : ∀ (pos : Pos) (cv : Value), codeAmong pos ps.toList = some cv → ∃ c, cv = .ref c ∧ H c = some (CodeO c (X.env.qual ++ "<lambda>")))
    (hdef : defaultsOf params X.env = ([], [])) (hfree : ∀ y ∈ scope.names, y.2 = .free → ∃ c, X.env.cells.lookup y.1 = some c)
    (h : ∀ (f c' : Addr) (pm ctv : Value) (H1 : Hp) (s' : Shared), Inv X pins σ H1 s' →
      ((H1 = H ∧ codeAmong pos ps.toList = some (.ref c')) ∨ (H c' = none ∧ H1 = upd (upd H P (.tbl (ps ++ #[rawInt pos.line, rawInt pos.col, .ref c']))) c' (CodeO c' (X.env.qual ++ "<lambda>")))) →
      s'.heap.get? f = some (PySem.W.kla_obj "<lambda>" (X.env.qual ++ "<lambda>") params body scope (cloFrom X.env.cells scope.names []) pm c' ctv) → H1 f = none → f ∉ frs X.stack → H1 c' = some (CodeO c' (X.env.qual ++ "<lambda>")) → Q (.ref f) s') :
    wpAny (model X.prog X.w) X.A (eval (.Lambda params body scope pos) X.env) Q E s := by
  refine PySem.W.kla_eval hdef ?_
  have bP : s.heap.BuiltinsAt X.mg P := TB.bm.keeps I.bk
  have hP' : s.heap.get? P = some { cls := .none, data := .fields ps } := I.hok P _ hP
  have nofr : ∀ f, s.heap.objs.size ≤ f → f ∉ frs X.stack := fun f hf z => by
    rcases List.mem_cons.mp (I.stkSub _ z) with e | e
    · have h1 := I.lt
      rw [← e] at h1
      exact Nat.lt_irrefl _ (Nat.lt_of_lt_of_le h1 hf)
    · exact I.nofs hf e
  cases hc : codeAmong pos ps.toList with
  | none =>
    refine PySem.W.kla_makeFunction (mg := X.mg) (c := c) (P := P) (ps := ps) (closure_ok hfree) I.ok.glob (I.mod.glob.keeps I.bk) hcode (TB.code.keeps I.bk) hP' ht hc TB.gP bP fun c' ctv h' tk hx hge hlt hrec htb => ?_
    obtain ⟨c2, oc, vs, t, e2, hoc, hd, hv⟩ := hrec
    cases e2
    have hsz : s.heap.objs.size ≤ h'.objs.size := Nat.le_trans hge (Nat.le_of_lt hlt)
    have nC : H c' = none := I.hok.fresh hge
    have I1 := inv_table (t' := tk) (more := #[rawInt pos.line, rawInt pos.col, .ref c']) (h' := h'.push (PySem.W.kla_obj "<lambda>" (X.env.qual ++ "<lambda>") params body scope (cloFrom X.env.cells scope.names []) ((X.mg "__name__").getD .none) c' ctv)) I hP
      (fun b o hb e => Heap.get?_push_of_some _ (hx b o hb e)) (Heap.get?_push_of_some _ htb) hge ⟨oc, vs, t, Heap.get?_push_of_some _ hoc, hd, hv⟩
    refine h h'.objs.size c' ((X.mg "__name__").getD .none) ctv _ _ I1 (.inr ⟨nC, rfl⟩) (Heap.get?_push_size _ rfl) ?_ (nofr _ hsz) upd_same
    have n1 : h'.objs.size ≠ c' := Nat.ne_of_gt hlt
    have n2 : h'.objs.size ≠ P := Nat.ne_of_gt (Nat.lt_of_lt_of_le (Heap.lt_size hP') hsz)
    rw [upd_ne n1, upd_ne n2]
    exact I.hok.fresh hsz
  | some cv =>
    obtain ⟨c', e, hco⟩ := ha pos cv hc
    subst e
    refine PySem.W.kla_makeFunctionHit (mg := X.mg) (c := c) (P := P) (ps := ps) (closure_ok hfree) I.ok.glob (I.mod.glob.keeps I.bk) hcode (TB.code.keeps I.bk) hP' ht hc bP fun ctv h' tk hx hsz => ?_
    have I1 : Inv X pins σ H { s with heap := h'.push (PySem.W.kla_obj "<lambda>" (X.env.qual ++ "<lambda>") params body scope (cloFrom X.env.cells scope.names []) ((X.mg "__name__").getD .none) c' ctv), toks := tk } := I.kept fun b o e => Heap.get?_push_of_some _ (hx b o e)
    exact h h'.objs.size c' ((X.mg "__name__").getD .none) ctv H _ I1 (.inl ⟨rfl, hc⟩) (Heap.get?_push_size _ rfl) (I.hok.fresh hsz) (nofr _ hsz) hco
end
/-! ### over data -/
/-- the lambda's table and code object, seen by the data -/
theorem tab_sim {K : Fg} {F0 : Og} {F H H1 : Hp} {μ : Mu} {P c' : Addr} {q : Str} {ps : Array Value} {pos : Pos} (S : Sim K F0 F H μ) (hm : μ P = some (.tab q)) (hP : H P = some (.tbl ps)) (ht : TriplesOk ps.toList)
    (ha : ∀ (pos : Pos) (cv : Value), codeAmong pos ps.toList = some cv → ∃ c, cv = .ref c ∧ F c = some (CodeO c q))
    (h : (H1 = H ∧ codeAmong pos ps.toList = some (.ref c')) ∨ (H c' = none ∧ H1 = upd (upd H P (.tbl (ps ++ #[rawInt pos.line, rawInt pos.col, .ref c']))) c' (CodeO c' q))) :
    ∃ F1, Go K F0 F H μ F1 H1 μ ∧ F1 c' = some (CodeO c' q) := by
  rcases h with ⟨rfl, hc⟩ | ⟨hn, rfl⟩
  · obtain ⟨c, e1, e2⟩ := ha pos _ hc
    cases e1
    exact ⟨F, .refl S, e2⟩
  · obtain ⟨fP, _⟩ := S.mu P _ hm
    have fc : F c' = none := S.sub.free hn
    have mc : μ c' = none := (S.free hn).2
    have nPc : P ≠ c' := fun z => by rw [z, mc] at hm; cases hm
    have eF : Same F (upd F c' (CodeO c' q)) := same_upd fc
    have kp : Keep F H μ (upd F c' (CodeO c' q)) (upd (upd H P (.tbl (ps ++ #[rawInt pos.line, rawInt pos.col, .ref c']))) c' (CodeO c' q)) μ := fun b u hb f m => by
      have n1 : b ≠ c' := ne_of_none hb hn
      have n2 : b ≠ P := fun z => by rw [z, hm] at m; cases m
      exact ⟨by rw [upd_ne n1, upd_ne n2]; exact hb, by rw [upd_ne n1]; exact f, m⟩
    refine ⟨upd F c' (CodeO c' q), ⟨eF, ⟨S.old.trans eF, S.kept.trans kp, fun b x e => ?_, fun a m e => ?_⟩, kp⟩, upd_same⟩
    · by_cases hb : b = c'
      · subst hb
        rw [upd_same] at e ⊢
        exact e
      · rw [upd_ne hb] at e ⊢
        rw [upd_ne (fun z => by rw [z, fP] at e; cases e)]
        exact S.sub _ _ e
    · have n1 : a ≠ c' := fun z => by rw [z, mc] at e; cases e
      obtain ⟨h1, h2⟩ := S.mu a m e
      refine ⟨by rw [upd_ne n1]; exact h1, ?_⟩
      by_cases hb : a = P
      · subst hb
        rw [hm] at e
        cases e
        have eL : (ps ++ #[rawInt pos.line, rawInt pos.col, .ref c']).toList = ps.toList ++ [rawInt pos.line, rawInt pos.col, .ref c'] := by simp
        refine ⟨_, by rw [upd_ne n1, upd_same], by rw [eL]; exact PySem.TriplesOk_snoc _ _ _ _ ht, fun p' cv hcv => ?_⟩
        rw [eL] at hcv
        rcases among_app _ ht hcv with z | z
        · obtain ⟨c0, e1, e2⟩ := ha p' cv z
          exact ⟨c0, e1, eF _ _ e2⟩
        · exact ⟨c', z, upd_same⟩
      · exact (h2.mono eF).heap (by rw [upd_ne n1, upd_ne hb])
end DL

-- text DH4
set_option Elab.async false
set_option linter.all false
set_option maxRecDepth 100000
set_option maxHeartbeats 4000000
/-! DH4: x(lambda: ..) over data; a def called while an exception is handled; isinstance of it. -/
namespace DL
open PySem PySem.Spec PyProof.Rows L2 HotX L2H LamX
theorem takes0N {X : Cx} : L2N.Takes X (fun _ _ _ _ => False) := fun _ _ x => by
  obtain ⟨_, _, _, _, _, _, _, _, _, _, _, _, _, _, _, _, z⟩ := x
  exact z.elim
/-- x(lambda: call), x: try: call / except S as e: return names(e); nm: the text for an error's class -/
def dLam (P : Addr) (q : Str) (ok : Str) (nm : Value → Str → Prop) (te : (Value → Mu → Prop) → DE) : DE := fun ρ μ Q => μ P = some (.tab q) ∧ te (fun cls μ' => ∃ t, nm cls t ∧ Q (.str t) μ') ρ μ fun _ μ' => Q (.str ok) μ'
section
variable {X : Cx} {F0 : Og}
theorem d_lam {x a en e q ok : Str} {g c P CS : Addr} {k j : Nat} {st : Stmt} {fd : FuncData} {params : Arguments} {body ce : Expr} {scope : Scope} {nm : Value → Str → Prop} {te : (Value → Mu → Prop) → DE} {p lpos pos p1 p2 p3 p4 p6 p7 p8 p9 p10 : Pos}
    (fn : Fun X.K x x st g fd) (hm : X.mg x = some (.ref g)) (Sg : FnScope [a, e] [a] (defScope st))
    (hst : defBody st = [.Try [.Expr (.Call (.Name a p1) [] [] p2) p3] [.ExceptHandler (some (.Name en p4)) (some e) [.Return (some ce) p6] p7] [] [] p8, .Return (some (.Constant (.str ok) j p9)) p10])
    (hbnd : ∀ (kV doc pm : Value) (an : Option Addr) (cdv ct : Value) (us : List Value), us.length = [a].length → bindArgs (PySem.W.fnOf x x (defArgs st) (defBody st) (defScope st) .none kV doc pm an cdv ct) ⟨us, []⟩ = pure ([a].zip us))
    (hlen : (defScope st).names.lookup e = some .local) (hva : Vis (defScope st) a) (hge : (defScope st).names.lookup en = some .globalImplicit) (hme : X.mg en = some (.ref CS))
    (hq : q = X.env.qual ++ "<lambda>") (TB : TabB X.base X.mg c P) (hcode : X.env.code = .ref c) (hr : Room (k + 2) X.A) (L : LamS X.env.scope scope) (hdef : defaultsOf params X.env = ([], []))
    (hbind : ∀ (q : Str) (cl : List (Str × Addr)) (pm cv ctv : Value), bindArgs (PySem.W.kla_fn "<lambda>" q params body scope cl pm cv ctv) ⟨[], []⟩ = pure [])
    (hbody : ∀ (F0' : Og) (A : Around) (outer : List Env) (s : Shared) (H : Hp) (E : XK) (f c' : Addr) (Ew : Value → Mu → Prop), Room k (A.deeper (lamEnv X scope s.heap.objs.size f c')) → L2N.Takes (lamN X A outer s H E scope f c') (lW X.K F0' Ew) → PE (lamN X A outer s H E scope f c') body (lE X.K F0' (te Ew)))
    (hex : ∀ cls t, nm cls t → PySem.W.exmOne X.K cls (.ref CS) = some true)
    (hnm : ∀ (F0' : Og) (cdg : Value) (s : Shared) (H : Hp) (a0 : Addr) (oe : Obj) (cls : Value) (t : Str) (pn : List (Addr × Obj)), Room (k + 1) (X.A.deeper (envOfC x (defScope st) s.heap.objs.size g cdg)) → L2N.Zn cls none oe → (∃ vs, oe.data = .fields vs) → nm cls t →
      PE ((cxOf CX0 X.prog X.w X.K X.mg X.base [a, e] x (defScope st) g cdg X.A X.stack s H E0).nox.suite a0 ((a0, oe) :: pn)) ce (lE X.K F0' (fun ρ μ Q => ρ[1]? = some (some (.raw (.ref a0))) ∧ Q (.str t) μ)))
    (hg : Gl X x := by rfl) (hdb : (x == ("__debug__" : Str)) = false := by decide) (hd : (a == ("__debug__" : Str)) = false := by decide) (hcd : (a == ("__classdict__" : Str)) = false := by decide) (hde : (en == ("__debug__" : Str)) = false := by decide) :
    PE X (.Call (.Name x p) [.Lambda params body scope lpos] [] pos) (lE X.K F0 (dLam P q ok nm te)) := by
  refine ⟨fun pins s σ H Q I h => ?_⟩
  obtain ⟨F, ρ, μ, Qd, S, R, ⟨hP, hte⟩, hfin⟩ := h
  obtain ⟨fP, ps, h1, h2, h3⟩ := S.mu P _ hP
  subst hq
  obtain ⟨oc, od, kV, doc, pm0, an, cdv, ct, osl, efd, lk, hcg⟩ := id fn.ex
  subst efd
  refine wpAny_Call_Name_kw (ld_glob I hg hm ?_ hdb)
  refine PySem.W.callWith_K (h₀ := X.base) I.ok.mod.kin fn.kp ?_ (by rfl) (by rfl)
  show wpAny _ _ (spliced ((false, eval (.Lambda params body scope lpos) X.env) :: backTo pos (starEach [] X.env))) _ _ s
  refine Calls.spliced_cons (lam_mk I TB hcode h1 h2 (fun ps cv hc => by
    obtain ⟨c0, e1, e2⟩ := h3 ps cv hc
    exact ⟨c0, e1, S.sub _ _ e2⟩) hdef (L.has I.ok) fun f c' pm ctv H1 s' I1 hor hf hfn hfr hco => ?_)
  refine Calls.spliced_nil ⟨I1.kIn, ?_⟩
  obtain ⟨F1, g1, fc⟩ := tab_sim S hP h1 h2 h3 hor
  have rc : codeAny (model X.prog X.w) X.A (.call (.ref g) ⟨[.ref f], []⟩) (CR CX0 X.stack X.prog X.w H1 s' Q E0) s' := by
    refine run_ofS (N := [a, e]) (ps := [a]) (us := [.ref f]) (vs := [.ref f]) lk hcg Sg hr I1.env0 (fn.binds hbnd s' [.ref f] I1.kIn rfl) (.cons rfl .nil) rfl fun hr' => ?_
    rw [hst]
    have nd := Sg.nd
    have hgl : Gl (cxOf CX0 X.prog X.w X.K X.mg X.base [a, e] x (defScope st) g cdv X.A X.stack s' H1 E0).nox en := hge
    have R1 : REnv X.K F1 ρ σ := R.mono g1.ext
    have last : PSs (cxOf CX0 X.prog X.w X.K X.mg X.base [a, e] x (defScope st) g cdv X.A X.stack s' H1 E0).nox [.Return (some (.Constant (.str ok) j p9)) p10] _ := pss_one (ps_ret pe_str)
    have tr := L2N.ps_try_as (X := (cxOf CX0 X.prog X.w X.K X.mg X.base [a, e] x (defScope st) g cdv X.A X.stack s' H1 E0).nox) (x := en) (n := e) (i := 1) (c := .ref CS) (np := p4) (pos := p8) (pos' := p7)
      (body := [.Expr (.Call (.Name a p1) [] [] p2) p3]) (b₀ := .Return (some ce) p6) (suite := []) (Wout := fun _ _ _ _ => False)
      (tb := fun W D σ2 H2 => ∃ (Ew : Value → Mu → Prop) (F2 : Hp) (μ2 : Mu) (Q1 : DQ), Sim X.K ⟨F1, H1, μ⟩ F2 H2 μ2 ∧ σ2[0]? = some (some (.ref f)) ∧ (∀ cls d σ' H', lW X.K ⟨F1, H1, μ⟩ Ew cls d σ' H' → W cls d σ' H') ∧ te Ew ρ μ2 Q1 ∧ ∀ v H', uQ X.K ⟨F1, H1, μ⟩ F2 H2 μ2 Q1 v H' → D.nx σ2 H')
      (ts := fun a0 cls d D σ2 H2 => ∃ (σ3 : L2.St) (F2 : Hp) (μ2 : Mu) (t : Str) (Q1 : DQ), σ2 = σ3.set 1 (some (.ref a0)) ∧ d = none ∧ Sim X.K ⟨F1, H1, μ⟩ F2 H2 μ2 ∧ nm cls t ∧ Q1 (.str t) μ2 ∧ ∀ v H', uQ X.K ⟨F1, H1, μ⟩ F2 H2 μ2 Q1 v H' → D.rt v H')
      rfl rfl nd rfl hlen ⟨hgl, hde, .inl hme⟩ takes0N (fun W pn xe tk _ => ?_) (fun a0 oe cls d pn hz hv => ?_)
    · refine ⟨_, (pss_cons tr last).nox, ?_⟩
      refine ⟨fun cls μ' => ∃ t, nm cls t ∧ Qd (.str t) μ', F1, μ, fun _ μ' => Qd (.str ok) μ', g1.sim.self, rfl, ?_, hte, ?_⟩
      · rintro cls d σ' H' ⟨hd0, F2, μ2, S2, t, hnt, q⟩
        refine ⟨true, hex cls t hnt, fun _ a ha => ⟨σ', F2, μ2, t, Qd, rfl, hd0, S2, hnt, q, fun v H'' hu => ?_⟩, fun z => by cases z⟩
        obtain ⟨F3, d3, μ3, g3, r3, q3⟩ := hu
        have ga : Go X.K F0 F1 H1 μ F2 H' μ2 := ⟨S2.old, g1.sim.chain S2, S2.kept⟩
        have gb : Go X.K F0 F2 H' μ2 F3 H'' μ3 := ⟨g3.ext, g1.sim.chain g3.sim, g3.keep⟩
        exact hfin _ _ ⟨F3, d3, μ3, (g1.trans ga).trans gb, r3, q3⟩
      · rintro v H' ⟨F3, d3, μ3, g3, _, q3⟩
        exact hfin _ _ ⟨F3, .str ok, μ3, g1.trans (.base g1.sim g3), rfl, q3⟩
    · refine ⟨fun pinsZ sZ σZ HZ D IZ hh => ?_⟩
      obtain ⟨Ew, F2, μ2, Q1, S2, hs0, hW, ht, hn⟩ := hh
      have pe := pe_actN (CXg := CX0) (Eg := E0) (Ng := [a, e]) (qg := x) (sg := defScope st) (g := g) (cdg := cdv) (pn := pn) (xe := xe) (W := W) (X := X) (i := 0) (k := k) (E := fun cls d H' => lW X.K ⟨F1, H1, μ⟩ Ew cls d [] H') (tb := lE X.K ⟨F1, H1, μ⟩ (te Ew)) (p1 := p1) (p2 := p2) I1 L hf hfn hfr (hbind _ _ _ _ _) tk (fun cls d σ' H' hw => hW cls d σ' H' hw) hr' (fun A outer s H hr2 => hbody _ A outer s H _ f c' Ew hr2 (lamN_takes.imp fun _ _ _ _ w => w)) rfl hva hd hcd
      exact (pss_one (ps_expr pe)).run pinsZ sZ σZ HZ D IZ ⟨hs0, S2.sub _ _ (S2.old _ _ fc), F2, ρ, μ2, Q1, S2, R1.mono S2.old, ht, fun v H' q => hn v H' q⟩
    · refine ⟨fun pinsZ sZ σZ HZ D IZ hh => ?_⟩
      obtain ⟨σ3, F2, μ2, t, Q1, rfl, rfl, S2, hnt, q1, hn⟩ := hh
      have pe := hnm ⟨F1, H1, μ⟩ cdv s' H1 a0 oe cls t pn hr' hz hv hnt
      have len : (σ3.set 1 (some (V.ref a0))).length = 2 := IZ.len
      refine (pss_one (ps_ret pe)).run pinsZ sZ _ HZ D IZ ⟨F2, [none, some (.raw (.ref a0))], μ2, Q1, S2, ⟨len, fun i d hi => ?_⟩, ⟨rfl, q1⟩, hn⟩
      rcases i with _ | _ | i
      · simp at hi
      · have ed : d = .raw (.ref a0) := by simpa using hi.symm
        subst ed
        refine ⟨.ref a0, ?_, rfl⟩
        rw [List.getElem?_set_self (by rw [List.length_set] at len; omega)]
      · simp at hi
  refine wpAny_call (codeAny_mono rc fun r s2 hq => ?_)
  cases r with
  | error e => exact (show False from hq).elim
  | ok fl =>
    cases fl with
    | ret u => exact I1.after hq
    | next => exact False.elim hq
    | brk => exact False.elim hq
    | cont => exact False.elim hq
end
/-! ### a def called while an exception is handled -/
theorem run_pin {CX : CXT} {P : Program} {w : World} {K : PySem.W.Frag} {mg : Str → Option Value} {base : Heap} {k : Nat} {f : Addr} {name qual : Str} {params : Arguments} {body : List Stmt} {scope : Scope} {dV kV doc pm cdv ct oc : Value} {an od : Option Addr}
    {osl : Array (Option Value)} {N ps : List Str} (lk : K.lookup f = some ⟨oc, od, .func (PySem.W.fnOf name qual params body scope dV kV doc pm an cdv ct), osl⟩) (hcd : PySem.W.codeIn K cdv qual = true) (S : FnScope N ps scope)
    {A : Around} {outer : List Env} {s : Shared} {H : Hp} {args : Args} {us : List Value} {vs : List V} {Q : VK} {E : XK} {p : Addr × Obj} (hr : RoomH (k + 1) A) (hpin : PinOk outer H s p) (e0 : Env0 P w K mg base A outer s H) (hb : BindsTo s (PySem.W.fnOf name qual params body scope dV kV doc pm an cdv ct) args (ps.zip us)) (r : Vals vs us) (hl : vs.length = ps.length)
    (hbody : RoomH k (A.deeper (envOfC qual scope s.heap.objs.size f cdv)) → ∃ t, PSs (cxH CX P w K mg base N qual scope f cdv A outer s H E p) body t ∧ t { nx := fun _ H' => Q .non H', rt := Q } (L2.start N vs) H) :
    codeAny (model P w) A (.call (.ref f) args) (CR CX outer P w H s Q E) s := by
  have KX : K.In s.heap := e0.mod.kin.keeps fun b o e => (e0.bs b o e).1
  have lim : s.heap.NoLimit := e0.mod.nolimit.keeps fun b o e => (e0.bs b o e).1
  have hkind : ∀ y ∈ ps.zip us, scope.names.lookup y.1 = some .local ∨ (scope.names.lookup y.1 = some .cell ∧ ((cellsFrom (s.heap.objs.size + 1) scope.names []).lookup y.1).isSome = true) := fun ⟨n, v⟩ hy => by
    rcases S.par n (List.of_mem_zip hy).1 with q | q
    · exact .inl q
    · exact .inr ⟨q, PySem.W.cellsFrom_some _ _ _ (.inl q)⟩
  refine codeAny_call_function hr.depth (KX _ _ lk) rfl S.co S.gen rfl (PySem.W.codeRec_of KX hcd) (hb _ _ _ _ ?_)
  refine wpAny_newFunctionEnv_cells S.kind hkind fun env he s1 x => ?_
  subst he
  refine ⟨lim.keeps x.toInCall.keep, codeAny_func ?_⟩
  obtain ⟨t, ht, hq⟩ := hbody (hr.deeper _)
  have I : Inv (cxH CX P w K mg base N qual scope f cdv A outer s H E p) [] (L2.start N vs) H s1 := inv_startH S hpin e0 hl r x
  refine wpAny_mono (ht.run [] s1 (L2.start N vs) H _ I hq) (fun fl s' hs => ?_) fun e s' hs => hs
  have fin : ∀ {σ' : L2.St} {H' : Hp} {v : V} {u : Value}, Inv (cxH CX P w K mg base N qual scope f cdv A outer s H E p) [] σ' H' s' → RelV v u → Q v H' → CE outer P w H s Q u s' :=
    fun {σ' H' v u} J rv q => ⟨v, H', J.os, J.bare, J.base, J.hok, rv, q⟩
  cases fl with
  | ret u =>
    obtain ⟨v, σ', H', J, rv, q⟩ := hs
    exact fin J rv q
  | next =>
    obtain ⟨σ', H', J, q⟩ := hs
    exact fin (v := V.non) (u := Value.none) J rfl q
  | brk =>
    obtain ⟨_, _, _, q⟩ := hs
    exact False.elim q
  | cont =>
    obtain ⟨_, _, _, q⟩ := hs
    exact False.elim q
section
variable {X : Cx} {F0 : Og}
theorem d_callP {p0 : Addr × Obj} {x : Str} {f : Addr} {st : Stmt} {fd : FuncData} {N ps : List Str} {k : Nat} {e : Expr} {es : List Expr} {t : DA} {tb : DS} {q pos : Pos} (hot : Hot1 X.A p0) (hp : p0 ∈ X.pn) (fn : Fun X.K x x st f fd) (hm : X.mg x = some (.ref f)) (S : FnScope N ps (defScope st))
    (hbnd : ∀ (kV doc pm : Value) (an : Option Addr) (cdv ct : Value) (us : List Value), us.length = ps.length → bindArgs (PySem.W.fnOf x x (defArgs st) (defBody st) (defScope st) .none kV doc pm an cdv ct) ⟨us, []⟩ = pure (ps.zip us))
    (hr : RoomH (k + 1) X.A) (ha : PA X (e :: es) (lA X.K F0 t))
    (hbody : ∀ (F0' : Og) (cdv : Value) (A : Around) (outer : List Env) (s : Shared) (H : Hp), Hot1 A p0 → RoomH k (A.deeper (envOfC x (defScope st) s.heap.objs.size f cdv)) → PSs (cxH CX0 X.prog X.w X.K X.mg X.base N x (defScope st) f cdv A outer s H E0 p0) (defBody st) (lS X.K F0' tb))
    (hg : Gl X x := by rfl) (hdb : (x == ("__debug__" : Str)) = false := by decide) (he : starEach (e :: es) X.env = (false, eval e X.env) :: starEach es X.env := by rfl) (hpl : (backTo pos (starEach es X.env)).any (·.1) = false := by rfl) :
    PE X (.Call (.Name x q) (e :: es) [] pos) (lE X.K F0 (fun ρ μ Q => t ρ μ fun ds μ1 => ds.length = ps.length ∧ tb { nx := fun _ μ' => Q .non μ', rt := Q } (ds.map some ++ List.replicate (N.length - ds.length) none) μ1)) := by
  obtain ⟨oc, od, kV, doc, pm0, an, cdv, ct, osl, efd, lk, hcg⟩ := id fn.ex
  subst efd
  refine ⟨fun pins s σ H Q I h => ?_⟩
  obtain ⟨F, ρ, μ, Qd, S0, R, ht, hfin⟩ := h
  refine wpAny_Call_Name_kw (ld_glob I hg hm ?_ hdb)
  refine PySem.W.callWith_K (h₀ := X.base) I.ok.mod.kin fn.kp (thn (ha.run pos pins s σ H _ I ⟨F, ρ, μ, _, S0, R, ht, fun _ _ z => z⟩) fun us s1 ⟨vs, H1, I1, r, q⟩ => ⟨I1.kIn, ?_⟩) he hpl
  obtain ⟨F1, ds, μ1, g1, rs, hl, hb⟩ := q
  have P1 := I1.pin p0 (List.mem_append_left _ hp)
  have hpin : PinOk X.stack H1 s1 p0 := ⟨P1.1, P1.2.1, fun hm => (List.mem_cons.mp (I1.stkSub p0.1 hm)).elim P1.2.2.1 P1.2.2.2.1, P1.2.2.2.2⟩
  have hul : us.length = ps.length := by rw [← r.length, rs.length]; exact hl
  have b := fn.binds hbnd s1 us I1.kIn (by rw [List.append_nil]; exact hul)
  rw [List.append_nil] at b
  have rc : codeAny (model X.prog X.w) X.A (.call (.ref f) ⟨us, []⟩) (CR CX0 X.stack X.prog X.w H1 s1 Q E0) s1 := by
    refine run_pin (p := p0) lk hcg S hr hpin I1.env0 b r (by rw [rs.length]; exact hl) fun hr' => ⟨_, hbody ⟨F1, H1, μ1⟩ cdv _ _ s1 H1 hot hr', F1, _, μ1, _, g1.sim.self, REnv.start rs, hb, ?_⟩
    exact ⟨fun σ H' ⟨F2, ρ2, μ2, g2, _, q⟩ => hfin _ _ ⟨F2, .non, μ2, g1.trans (.base g1.sim g2), rfl, q⟩, fun v H' ⟨F2, d, μ2, g2, rd, q⟩ => hfin _ _ ⟨F2, d, μ2, g1.trans (.base g1.sim g2), rd, q⟩, fun _ _ ⟨_, _, _, _, _, z⟩ => z, fun _ _ ⟨_, _, _, _, _, z⟩ => z⟩
  refine wpAny_call (codeAny_mono rc fun r s2 hq => ?_)
  cases r with
  | error e => exact (show False from hq).elim
  | ok fl =>
    cases fl with
    | ret u => exact I1.after hq
    | next => exact False.elim hq
    | brk => exact False.elim hq
    | cont => exact False.elim hq
/-! ### isinstance of the handled exception -/
theorem call_isP {p0 : Addr × Obj} {D : Addr} (hp : p0 ∈ X.pn) (C : ExcC X.K D) (hz : Zc (.ref D) none p0.2) (hf : ∃ vs, p0.2.data = .fields vs) : CallR X (.builtin "isinstance") (rIsE X.K D p0.1) := by
  intro pins s σ H xs us Q I r h
  obtain ⟨c, cv, b, rfl, hcv, e, q⟩ := h
  cases r with
  | cons rx rr =>
    cases rr with
    | cons rt rr =>
      cases rr
      cases rx
      have ec := hcv _ rt
      subst ec
      obtain ⟨hget, _⟩ := I.pin p0 (List.mem_append_left _ hp)
      obtain ⟨vs, hv⟩ := hf
      have J : PySem.W.InstAt s.heap p0.1 p0.2 D none := by
        obtain ⟨a, oe⟩ := p0
        obtain ⟨oc, od, oda, osl⟩ := oe
        obtain ⟨h1, h2⟩ := hz
        dsimp only at h1 h2 hv hget
        subst h1 h2 hv
        exact ⟨hget, rfl, rfl, trivial⟩
      exact PySem.W.kia_one (PySem.W.handS_kitx_exc C.hg C.hk C.hs C.hd C.ha C.hn C.ht C.hm) I.kIn J e (fun z => nomatch z) fun tk => ⟨.bl b, H, I.kept (t' := tk) fun _ _ z => z, rfl, q⟩
def bIsE (K : Fg) (D a : Addr) : RD := fun ds μ Q => match ds with
  | [.raw (.ref a'), .raw v] => a' = a ∧ ∃ cv b, (∀ u, RelV v u → u = cv) ∧ PySem.W.kitOne K (.ref D) cv = some b ∧ Q (.bl b) μ
  | _ => False
theorem lc_isE {K : Fg} {F0 : Og} {D a : Addr} : LC K F0 (rIsE K D a) (bIsE K D a) := by
  intro Fb Hb μb F H μ vs ds Q Q' g rs h hq
  unfold bIsE at h
  split at h
  · obtain ⟨v, u, rfl, rv, ru⟩ := rs.un2
    obtain ⟨ea, cv, b, h1, h2, q⟩ := h
    subst ea
    have rv : v = .ref _ := rv
    have ru : u = _ := ru
    subst rv ru
    exact ⟨_, cv, b, rfl, h1, h2, hq _ _ (.im (d := .bl _) g rfl q)⟩
  · exact h.elim
theorem d_glC {x : Str} {C : Addr} {pos : Pos} (hg : Gl X x) (hm : X.mg x = some (.ref C)) (hd : (x == ("__debug__" : Str)) = false := by decide) : PE X (.Name x pos) (lE X.K F0 (dC (.raw (.ref C)))) :=
  d_c (v := .ref C) (pe_glob hg hm rfl hd) fun _ => rfl
end
end DL

-- text DH5
set_option Elab.async false
set_option linter.all false
set_option maxRecDepth 100000
set_option maxHeartbeats 2000000
/-! DH5: a def whose code object is known (it makes lambdas). -/
namespace DL
open PySem PySem.Spec PyProof.Rows L2
section
variable {P : Program} {w : World} {K : Fg} {mg : Str → Option Value} {base : Heap} {x : Str} {st : Stmt} {N ps : List Str} {k : Nat} {sp : DSp} {c : Addr}
theorem d_imp {X : Cx} {F0 : Og} {e : Expr} {t1 t2 : DE} (h : PE X e (lE X.K F0 t1)) (hi : ∀ ρ μ Q, t2 ρ μ Q → t1 ρ μ Q) : PE X e (lE X.K F0 t2) := ⟨fun pins s σ H Q I ⟨F, ρ, μ, Qd, S, R, ht, hq⟩ => h.run pins s σ H Q I ⟨F, ρ, μ, Qd, S, R, hi _ _ _ ht, hq⟩⟩
/-- where the def st of the top stands, and its code object -/
structure DnC (K : Fg) (mg : Str → Option Value) (x : Str) (st : Stmt) (c : Addr) : Prop where
  ex : ∃ f fd, Fun K x x st f fd ∧ fd.code = .ref c ∧ mg x = some (.ref f)
theorem DnC.of (d : DnC K mg x st c) (S : FnScope N ps (defScope st)) (len : ∀ ds μ Q E, sp ds μ Q E → ds.length = ps.length)
    (hb : ∀ (kV doc pm : Value) (an : Option Addr) (cdv ct : Value) (us : List Value), us.length = ps.length → bindArgs (PySem.W.fnOf x x (defArgs st) (defBody st) (defScope st) .none kV doc pm an cdv ct) ⟨us, []⟩ = pure (ps.zip us))
    (t : DS) (hbody : ∀ (F0 : Og) (f : Addr) (A : Around) (outer : List Env) (s : Shared) (H : Hp) (E : XK), Room k (A.deeper (envOfC x (defScope st) s.heap.objs.size f (.ref c))) → PSs (cxOf CX0 P w K mg base N x (defScope st) f (.ref c) A outer s H E).nox (defBody st) (lS K F0 t))
    (hread : ∀ ds μ Q E, sp ds μ Q E → t { nx := fun _ μ' => Q .non μ', rt := Q } (ds.map some ++ List.replicate (N.length - ds.length) none) μ) : Dk P w K mg base x (k + 1) ps sp := by
  obtain ⟨f, fd, F, hcode, hm⟩ := d.ex
  obtain ⟨oc, od, kV, doc, pm, an, cdv, ct, osl, rfl, lk, hcd⟩ := id F.ex
  have ec : cdv = .ref c := hcode
  subst ec
  have fin : FnOk P w K mg base CX0 (k + 1) f (PySem.W.fnOf x x (defArgs st) (defBody st) (defScope st) .none kV doc pm an (.ref c) ct) ps (lSp K sp) := by
    refine fn_of lk hcd S (fun vs H Q E h => ?_) fun A outer s H vs Q E hr h => ?_
    · obtain ⟨F, ds, μ, Qd, Ed, Sm, r, h1, _⟩ := h
      rw [r.length]
      exact len _ _ _ _ h1
    · obtain ⟨F1, ds, μ, Qd, Ed, Sm, r, h1, hq, he⟩ := h
      refine ⟨_, (hbody ⟨F1, H, μ⟩ f A outer s H E hr).nox, F1, _, μ, _, Sm, REnv.start r, hread _ _ _ _ h1, ?_⟩
      exact ⟨fun σ H' ⟨F2, ρ2, μ2, g2, _, q⟩ => hq _ _ ⟨F2, .non, μ2, g2, rfl, q⟩, hq, fun _ _ ⟨_, _, _, _, _, z⟩ => z, fun _ _ ⟨_, _, _, _, _, z⟩ => z⟩
  exact ⟨CX0, f, _, fin, fun _ _ _ => pass0, hm, F.kp, F.binds hb⟩
end
end DL

-- text W1
set_option Elab.async false
set_option linter.all false
set_option maxRecDepth 100000
set_option maxHeartbeats 4000000
namespace GS
open PySem PySem.Spec PyProof.Rows L2 DL
section
variable {P : Program} {w : World} {K : Fg} {mg : Str → Option Value} {base : Heap}
/-! ### shared -/
def sp_shared : DSp := fun ds μ Q _ => ∃ i j : Int, ds = [.int i, .int j] ∧ Q (.int (Int.gcd i j)) μ
theorem ln_shared (ds : List D) (μ Q E) (h : sp_shared ds μ Q E) : ds.length = 2 := by
  obtain ⟨i, j, rfl, _⟩ := h
  rfl
abbrev s_shared : Stmt := top 1
theorem sc_shared : FnScope ["one", "other"] ["one", "other"] (defScope s_shared) := ⟨rfl, rfl, rfl, by decide +kernel, rfl, by decide +kernel, by decide +kernel⟩
def t_shared : DS := (dSeq (dPar 0 1 (dCons (dCall bAbs (dCons (dVar 0) dNil)) (dCons (dCall bAbs (dCons (dVar 1) dNil)) dNil)))
  (dSeq (dWhile (dTest (dOp dNe (dVar 1) (dC (.int 0)))) (dPar 0 1 (dCons (dVar 1) (dCons (dOp dMod (dVar 0) (dVar 1)) dNil))))
  (dRet (dVar 0))))
theorem rd_shared (ds : List D) (μ : Mu) (Q : DQ) (E) (h : sp_shared ds μ Q E) : t_shared { nx := fun _ μ' => Q .non μ', rt := Q } (ds.map some ++ List.replicate (2 - ds.length) none) μ := by
  obtain ⟨i, j, rfl, q⟩ := h
  unfold t_shared
  simp only [dRet, dRetN, dSeq, dNext, dDrop, dIfS, dNever, dAsg, dPar, dPar3, dgName, dgTup, dgLst, dgNil, dgCons, dgSub, dOp, dTest, dChain, dVar, dFrz, dC, dAdd, dSub, dMulT, dDiv, dMod, dPow, dLt, dLe, dGt, dGe, dInt0, dInt2, dEq, dNe, dIn, dNotIn, dIsN, dNotN, dAnd, dOr, dNot, dAndV, dOrV, dNotV, dIf, dNil, dCons, dTup, dLst, dLstM, dIx, dSlice, dNo, dPart, dCall, dCallF, bAbs, bLen, bSum, bAll, bAny, bInt, bStr, bTup, bLst, bIsi, dLc_eq, dFor_eq, dWhile_eq, diLst, diTup, diRng1, diRng2, diZip2, diZip3, diEnum, diSeq, dYes, dAppend, dRepL, dJoin, dSplit, List.getElem?_cons_zero, List.getElem?_cons_succ, List.set_cons_zero, List.set_cons_succ, List.map_cons, List.map_nil, List.cons_append, List.nil_append, List.replicate, List.length_cons, List.length_nil, dwipe, atI_0, atI_1, ex_some]
  refine WhB.inv (fun m ρ m' => ∃ a b : Nat, ρ = [some (.int a), some (.int b)] ∧ b = m ∧ Nat.gcd a b = Int.gcd i j ∧ m' = μ) j.natAbs ⟨i.natAbs, j.natAbs, ?_, rfl, rfl, rfl⟩ ?_
  · congr 3
    · congr 1
      split <;> omega
    · congr 3
      split <;> omega
  · rintro m ρ m' ⟨a, b, rfl, rfl, hg, rfl⟩
    simp only [dRet, dRetN, dSeq, dNext, dDrop, dIfS, dNever, dAsg, dPar, dPar3, dgName, dgTup, dgLst, dgNil, dgCons, dgSub, dOp, dTest, dChain, dVar, dFrz, dC, dAdd, dSub, dMulT, dDiv, dMod, dPow, dLt, dLe, dGt, dGe, dInt0, dInt2, dEq, dNe, dIn, dNotIn, dIsN, dNotN, dAnd, dOr, dNot, dAndV, dOrV, dNotV, dIf, dNil, dCons, dTup, dLst, dLstM, dIx, dSlice, dNo, dPart, dCall, dCallF, bAbs, bLen, bSum, bAll, bAny, bInt, bStr, bTup, bLst, bIsi, dLc_eq, dFor_eq, dWhile_eq, diLst, diTup, diRng1, diRng2, diZip2, diZip3, diEnum, diSeq, dYes, dAppend, dRepL, dJoin, dSplit, List.getElem?_cons_zero, List.getElem?_cons_succ, List.set_cons_zero, List.set_cons_succ, List.map_cons, List.map_nil, List.cons_append, List.nil_append, List.replicate, List.length_cons, List.length_nil, dwipe, atI_0, atI_1, ex_some]
    simp only [eqD_int, shp_int, true_and]
    by_cases hb : b = 0
    · subst hb
      simp only [Nat.gcd_zero_right] at hg
      simp
      rw [hg]
      exact q
    · have hb' : decide ((b : Int) = 0) = false := decide_eq_false (by omega)
      rw [hb']
      simp only [Bool.not_false, if_true]
      refine ⟨by omega, a % b, Nat.mod_lt _ (by omega), b, a % b, ?_, rfl, ?_, trivial⟩
      · rw [Int.natCast_emod]
      · rw [Nat.gcd_comm b, ← Nat.gcd_rec, Nat.gcd_comm]
        exact hg
theorem ok_shared (d : Dn K mg "shared" s_shared) (b_abs : mg "abs" = none) : Dk P w K mg base "shared" 1 ["one", "other"] sp_shared :=
  Dk.of d sc_shared ln_shared (fun _ _ _ _ _ _ us hl => match us, hl with | [_, _], _ => rfl) t_shared (fun F0 f cdv A outer s H E hr => by
    have nd := sc_shared.nd
    exact (ds_cons (ds_par (i := 0) (j := 1) rfl nd rfl rfl (by decide) rfl rfl (da_cons (d_callB call_abs lc_abs (by rfl) b_abs bb_abs (da_cons (dv 0) da_nil)) (da_cons (d_callB call_abs lc_abs (by rfl) b_abs bb_abs (da_cons (dv 1) da_nil)) da_nil)) (by rfl))
      (ds_cons (ds_while PassesOwn.never (d_neT (hu64 hr) (dv 1) d_int) (ds_one (ds_par (i := 0) (j := 1) rfl nd rfl rfl (by decide) rfl rfl (da_cons (dv 1) (da_cons (d_mod (dv 0) (dv 1)) da_nil)) (by rfl))))
      (ds_one (ds_ret (dv 0)))))) rd_shared
/-! ### made -/
def sp_made : DSp := fun ds μ Q _ => ∃ (t b : Int) (k : Nat), ds = [.int t, .int b] ∧ 0 < b ∧ b.natAbs < 2 ^ k ∧ k ≤ 8990 ∧ Q (fr ((t : Rat) / (b : Rat))) μ
theorem ln_made (ds : List D) (μ Q E) (h : sp_made ds μ Q E) : ds.length = 2 := by
  obtain ⟨i, j, k, rfl, _⟩ := h
  rfl
abbrev s_made : Stmt := top 2
theorem sc_made : FnScope ["top", "below", "much"] ["top", "below"] (defScope s_made) := ⟨rfl, rfl, rfl, by decide +kernel, rfl, by decide +kernel, by decide +kernel⟩
def t_made : DS := (dSeq (dAsg (dCallF sp_shared (dCons (dVar 0) (dCons (dVar 1) dNil))) (dgName 2))
  (dRet (dTup (dCons (dOp dDiv (dVar 0) (dVar 2)) (dCons (dOp dDiv (dVar 1) (dVar 2)) dNil)))))
theorem rd_made (ds : List D) (μ : Mu) (Q : DQ) (E) (h : sp_made ds μ Q E) : t_made { nx := fun _ μ' => Q .non μ', rt := Q } (ds.map some ++ List.replicate (3 - ds.length) none) μ := by
  obtain ⟨t, b, k, rfl, h0, h1, h2, q⟩ := h
  unfold t_made
  simp only [dRet, dRetN, dSeq, dNext, dDrop, dIfS, dNever, dAsg, dPar, dPar3, dgName, dgTup, dgLst, dgNil, dgCons, dgSub, dOp, dTest, dChain, dVar, dFrz, dC, dAdd, dSub, dMulT, dDiv, dMod, dPow, dLt, dLe, dGt, dGe, dInt0, dInt2, dEq, dNe, dIn, dNotIn, dIsN, dNotN, dAnd, dOr, dNot, dAndV, dOrV, dNotV, dIf, dNil, dCons, dTup, dLst, dLstM, dIx, dSlice, dNo, dPart, dCall, dCallF, bAbs, bLen, bSum, bAll, bAny, bInt, bStr, bTup, bLst, bIsi, dLc_eq, dFor_eq, dWhile_eq, diLst, diTup, diRng1, diRng2, diZip2, diZip3, diEnum, diSeq, dYes, dAppend, dRepL, dJoin, dSplit, List.getElem?_cons_zero, List.getElem?_cons_succ, List.set_cons_zero, List.set_cons_succ, List.map_cons, List.map_nil, List.cons_append, List.nil_append, List.replicate, List.length_cons, List.length_nil, dwipe, atI_0, atI_1, ex_some]
  refine ⟨t, b, rfl, ?_⟩
  have hg : 0 < (Int.gcd t b : Int) := by
    have := Int.gcd_pos_of_ne_zero_right t (Int.ne_of_gt h0)
    omega
  have hl : (Int.gcd t b : Int).natAbs < 2 ^ k := Nat.lt_of_le_of_lt (Nat.le_of_dvd (by omega) (Int.natAbs_dvd_natAbs.mpr (Int.gcd_dvd_right ..))) h1
  refine ⟨divW hg hl h2, divW hg hl h2, by decide, ?_⟩
  rw [frmk t b h0]
  exact q
theorem ok_made (d : Dn K mg "made" s_made) (g_shared : Dk P w K mg base "shared" 1 ["one", "other"] sp_shared) : Dk P w K mg base "made" 2 ["top", "below"] sp_made :=
  Dk.of d sc_made ln_made (fun _ _ _ _ _ _ us hl => match us, hl with | [_, _], _ => rfl) t_made (fun F0 f cdv A outer s H E hr => by
    have nd := sc_made.nd
    exact (ds_cons (ds_set (i := 2) nd rfl (Or.inl rfl) (d_callD g_shared (hr.mono (by decide)) (da_cons (dv 0) (da_cons (dv 1) da_nil))))
      (ds_one (ds_ret (d_tup (da_cons (d_div (dv 0) (dv 2)) (da_cons (d_div (dv 1) (dv 2)) da_nil))))))) rd_made
/-! ### plus -/
def sp_plus : DSp := fun ds μ Q _ => ∃ (r s : Rat) (k l : Nat), ds = [fr r, fr s] ∧ Bz k r ∧ Bz l s ∧ k + l ≤ 8900 ∧ Q (fr (r + s)) μ
theorem ln_plus (ds : List D) (μ Q E) (h : sp_plus ds μ Q E) : ds.length = 2 := by
  obtain ⟨r, s, k, l, rfl, _⟩ := h
  rfl
abbrev s_plus : Stmt := top 3
theorem sc_plus : FnScope ["one", "other"] ["one", "other"] (defScope s_plus) := ⟨rfl, rfl, rfl, by decide +kernel, rfl, by decide +kernel, by decide +kernel⟩
def t_plus : DS := (dRet (dCallF sp_made (dCons (dOp dAdd (dOp dMulT (dOp dIx (dVar 0) (dC (.int 0))) (dOp dIx (dVar 1) (dC (.int 1)))) (dOp dMulT (dOp dIx (dVar 1) (dC (.int 0))) (dOp dIx (dVar 0) (dC (.int 1))))) (dCons (dOp dMulT (dOp dIx (dVar 0) (dC (.int 1))) (dOp dIx (dVar 1) (dC (.int 1)))) dNil))))
theorem rd_plus (ds : List D) (μ : Mu) (Q : DQ) (E) (h : sp_plus ds μ Q E) : t_plus { nx := fun _ μ' => Q .non μ', rt := Q } (ds.map some ++ List.replicate (2 - ds.length) none) μ := by
  obtain ⟨r, s, k, l, rfl, h1, h2, h3, q⟩ := h
  have d1 : (r.den : Int).natAbs < 2 ^ k := by exact_mod_cast h1.d
  have d2 : (s.den : Int).natAbs < 2 ^ l := by exact_mod_cast h2.d
  unfold t_plus
  simp only [dRet, dRetN, dSeq, dNext, dDrop, dIfS, dNever, dAsg, dPar, dPar3, dgName, dgTup, dgLst, dgNil, dgCons, dgSub, dOp, dTest, dChain, dVar, dFrz, dC, dAdd, dSub, dMulT, dDiv, dMod, dPow, dLt, dLe, dGt, dGe, dInt0, dInt2, dEq, dNe, dIn, dNotIn, dIsN, dNotN, dAnd, dOr, dNot, dAndV, dOrV, dNotV, dIf, dNil, dCons, dTup, dLst, dLstM, dIx, dSlice, dNo, dPart, dCall, dCallF, bAbs, bLen, bSum, bAll, bAny, bInt, bStr, bTup, bLst, bIsi, dLc_eq, dFor_eq, dWhile_eq, diLst, diTup, diRng1, diRng2, diZip2, diZip3, diEnum, diSeq, dYes, dAppend, dRepL, dJoin, dSplit, List.getElem?_cons_zero, List.getElem?_cons_succ, List.set_cons_zero, List.set_cons_succ, List.map_cons, List.map_nil, List.cons_append, List.nil_append, List.replicate, List.length_cons, List.length_nil, dwipe, atI_0, atI_1, ex_some, fr]
  refine ⟨mulW h1.n d2 (by omega), mulW h2.n d1 (by omega), mulW d1 d2 (by omega), ?_⟩
  refine ⟨_, _, k + l, rfl, Int.mul_pos (den_pos r) (den_pos s), int_mul_lt d1 d2, by omega, ?_⟩
  rw [add_eq]
  exact q
theorem ok_plus (d : Dn K mg "plus" s_plus) (g_made : Dk P w K mg base "made" 2 ["top", "below"] sp_made) : Dk P w K mg base "plus" 3 ["one", "other"] sp_plus :=
  Dk.of d sc_plus ln_plus (fun _ _ _ _ _ _ us hl => match us, hl with | [_, _], _ => rfl) t_plus (fun F0 f cdv A outer s H E hr => by
    have nd := sc_plus.nd
    exact (ds_one (ds_ret (d_callD g_made (hr.mono (by decide)) (da_cons (d_add (d_mul (d_ix (dv 0) d_int) (d_ix (dv 1) d_int)) (d_mul (d_ix (dv 1) d_int) (d_ix (dv 0) d_int))) (da_cons (d_mul (d_ix (dv 0) d_int) (d_ix (dv 1) d_int)) da_nil)))))) rd_plus
/-! ### times -/
def sp_times : DSp := fun ds μ Q _ => ∃ (r s : Rat) (k l : Nat), ds = [fr r, fr s] ∧ Bz k r ∧ Bz l s ∧ k + l ≤ 8900 ∧ Q (fr (r * s)) μ
theorem ln_times (ds : List D) (μ Q E) (h : sp_times ds μ Q E) : ds.length = 2 := by
  obtain ⟨r, s, k, l, rfl, _⟩ := h
  rfl
abbrev s_times : Stmt := top 4
theorem sc_times : FnScope ["one", "other"] ["one", "other"] (defScope s_times) := ⟨rfl, rfl, rfl, by decide +kernel, rfl, by decide +kernel, by decide +kernel⟩
def t_times : DS := (dRet (dCallF sp_made (dCons (dOp dMulT (dOp dIx (dVar 0) (dC (.int 0))) (dOp dIx (dVar 1) (dC (.int 0)))) (dCons (dOp dMulT (dOp dIx (dVar 0) (dC (.int 1))) (dOp dIx (dVar 1) (dC (.int 1)))) dNil))))
theorem rd_times (ds : List D) (μ : Mu) (Q : DQ) (E) (h : sp_times ds μ Q E) : t_times { nx := fun _ μ' => Q .non μ', rt := Q } (ds.map some ++ List.replicate (2 - ds.length) none) μ := by
  obtain ⟨r, s, k, l, rfl, h1, h2, h3, q⟩ := h
  have d1 : (r.den : Int).natAbs < 2 ^ k := by exact_mod_cast h1.d
  have d2 : (s.den : Int).natAbs < 2 ^ l := by exact_mod_cast h2.d
  unfold t_times
  simp only [dRet, dRetN, dSeq, dNext, dDrop, dIfS, dNever, dAsg, dPar, dPar3, dgName, dgTup, dgLst, dgNil, dgCons, dgSub, dOp, dTest, dChain, dVar, dFrz, dC, dAdd, dSub, dMulT, dDiv, dMod, dPow, dLt, dLe, dGt, dGe, dInt0, dInt2, dEq, dNe, dIn, dNotIn, dIsN, dNotN, dAnd, dOr, dNot, dAndV, dOrV, dNotV, dIf, dNil, dCons, dTup, dLst, dLstM, dIx, dSlice, dNo, dPart, dCall, dCallF, bAbs, bLen, bSum, bAll, bAny, bInt, bStr, bTup, bLst, bIsi, dLc_eq, dFor_eq, dWhile_eq, diLst, diTup, diRng1, diRng2, diZip2, diZip3, diEnum, diSeq, dYes, dAppend, dRepL, dJoin, dSplit, List.getElem?_cons_zero, List.getElem?_cons_succ, List.set_cons_zero, List.set_cons_succ, List.map_cons, List.map_nil, List.cons_append, List.nil_append, List.replicate, List.length_cons, List.length_nil, dwipe, atI_0, atI_1, ex_some, fr]
  refine ⟨mulW h1.n h2.n (by omega), mulW d1 d2 (by omega), ?_⟩
  refine ⟨_, _, k + l, rfl, Int.mul_pos (den_pos r) (den_pos s), int_mul_lt d1 d2, by omega, ?_⟩
  rw [mul_eq]
  exact q
theorem ok_times (d : Dn K mg "times" s_times) (g_made : Dk P w K mg base "made" 2 ["top", "below"] sp_made) : Dk P w K mg base "times" 3 ["one", "other"] sp_times :=
  Dk.of d sc_times ln_times (fun _ _ _ _ _ _ us hl => match us, hl with | [_, _], _ => rfl) t_times (fun F0 f cdv A outer s H E hr => by
    have nd := sc_times.nd
    exact (ds_one (ds_ret (d_callD g_made (hr.mono (by decide)) (da_cons (d_mul (d_ix (dv 0) d_int) (d_ix (dv 1) d_int)) (da_cons (d_mul (d_ix (dv 0) d_int) (d_ix (dv 1) d_int)) da_nil)))))) rd_times
/-! ### over -/
def sp_over : DSp := fun ds μ Q _ => ∃ (r s : Rat) (k l : Nat), ds = [fr r, fr s] ∧ Bz k r ∧ Bz l s ∧ k + l ≤ 8900 ∧ 0 < s ∧ Q (fr (r / s)) μ
theorem ln_over (ds : List D) (μ Q E) (h : sp_over ds μ Q E) : ds.length = 2 := by
  obtain ⟨r, s, k, l, rfl, _⟩ := h
  rfl
abbrev s_over : Stmt := top 5
theorem sc_over : FnScope ["one", "other"] ["one", "other"] (defScope s_over) := ⟨rfl, rfl, rfl, by decide +kernel, rfl, by decide +kernel, by decide +kernel⟩
def t_over : DS := (dRet (dCallF sp_made (dCons (dOp dMulT (dOp dIx (dVar 0) (dC (.int 0))) (dOp dIx (dVar 1) (dC (.int 1)))) (dCons (dOp dMulT (dOp dIx (dVar 0) (dC (.int 1))) (dOp dIx (dVar 1) (dC (.int 0)))) dNil))))
theorem rd_over (ds : List D) (μ : Mu) (Q : DQ) (E) (h : sp_over ds μ Q E) : t_over { nx := fun _ μ' => Q .non μ', rt := Q } (ds.map some ++ List.replicate (2 - ds.length) none) μ := by
  obtain ⟨r, s, k, l, rfl, h1, h2, h3, h4, q⟩ := h
  have d1 : (r.den : Int).natAbs < 2 ^ k := by exact_mod_cast h1.d
  have d2 : (s.den : Int).natAbs < 2 ^ l := by exact_mod_cast h2.d
  unfold t_over
  simp only [dRet, dRetN, dSeq, dNext, dDrop, dIfS, dNever, dAsg, dPar, dPar3, dgName, dgTup, dgLst, dgNil, dgCons, dgSub, dOp, dTest, dChain, dVar, dFrz, dC, dAdd, dSub, dMulT, dDiv, dMod, dPow, dLt, dLe, dGt, dGe, dInt0, dInt2, dEq, dNe, dIn, dNotIn, dIsN, dNotN, dAnd, dOr, dNot, dAndV, dOrV, dNotV, dIf, dNil, dCons, dTup, dLst, dLstM, dIx, dSlice, dNo, dPart, dCall, dCallF, bAbs, bLen, bSum, bAll, bAny, bInt, bStr, bTup, bLst, bIsi, dLc_eq, dFor_eq, dWhile_eq, diLst, diTup, diRng1, diRng2, diZip2, diZip3, diEnum, diSeq, dYes, dAppend, dRepL, dJoin, dSplit, List.getElem?_cons_zero, List.getElem?_cons_succ, List.set_cons_zero, List.set_cons_succ, List.map_cons, List.map_nil, List.cons_append, List.nil_append, List.replicate, List.length_cons, List.length_nil, dwipe, atI_0, atI_1, ex_some, fr]
  refine ⟨mulW h1.n d2 (by omega), mulW d1 h2.n (by omega), ?_⟩
  refine ⟨_, _, k + l, rfl, Int.mul_pos (den_pos r) (num_pos h4), int_mul_lt d1 h2.n, by omega, ?_⟩
  rw [div_eq r s h4]
  exact q
theorem ok_over (d : Dn K mg "over" s_over) (g_made : Dk P w K mg base "made" 2 ["top", "below"] sp_made) : Dk P w K mg base "over" 3 ["one", "other"] sp_over :=
  Dk.of d sc_over ln_over (fun _ _ _ _ _ _ us hl => match us, hl with | [_, _], _ => rfl) t_over (fun F0 f cdv A outer s H E hr => by
    have nd := sc_over.nd
    exact (ds_one (ds_ret (d_callD g_made (hr.mono (by decide)) (da_cons (d_mul (d_ix (dv 0) d_int) (d_ix (dv 1) d_int)) (da_cons (d_mul (d_ix (dv 0) d_int) (d_ix (dv 1) d_int)) da_nil)))))) rd_over
/-! ### is_less -/
def sp_is_less : DSp := fun ds μ Q _ => ∃ (r s : Rat) (k l : Nat), ds = [fr r, fr s] ∧ Bz k r ∧ Bz l s ∧ k + l ≤ 8900 ∧ Q (.bl (decide (r < s))) μ
theorem ln_is_less (ds : List D) (μ Q E) (h : sp_is_less ds μ Q E) : ds.length = 2 := by
  obtain ⟨r, s, k, l, rfl, _⟩ := h
  rfl
abbrev s_is_less : Stmt := top 6
theorem sc_is_less : FnScope ["one", "other"] ["one", "other"] (defScope s_is_less) := ⟨rfl, rfl, rfl, by decide +kernel, rfl, by decide +kernel, by decide +kernel⟩
def t_is_less : DS := (dRet (dOp dLt (dOp dMulT (dOp dIx (dVar 0) (dC (.int 0))) (dOp dIx (dVar 1) (dC (.int 1)))) (dOp dMulT (dOp dIx (dVar 1) (dC (.int 0))) (dOp dIx (dVar 0) (dC (.int 1))))))
theorem rd_is_less (ds : List D) (μ : Mu) (Q : DQ) (E) (h : sp_is_less ds μ Q E) : t_is_less { nx := fun _ μ' => Q .non μ', rt := Q } (ds.map some ++ List.replicate (2 - ds.length) none) μ := by
  obtain ⟨r, s, k, l, rfl, h1, h2, h3, q⟩ := h
  have d1 : (r.den : Int).natAbs < 2 ^ k := by exact_mod_cast h1.d
  have d2 : (s.den : Int).natAbs < 2 ^ l := by exact_mod_cast h2.d
  unfold t_is_less
  simp only [dRet, dRetN, dSeq, dNext, dDrop, dIfS, dNever, dAsg, dPar, dPar3, dgName, dgTup, dgLst, dgNil, dgCons, dgSub, dOp, dTest, dChain, dVar, dFrz, dC, dAdd, dSub, dMulT, dDiv, dMod, dPow, dLt, dLe, dGt, dGe, dInt0, dInt2, dEq, dNe, dIn, dNotIn, dIsN, dNotN, dAnd, dOr, dNot, dAndV, dOrV, dNotV, dIf, dNil, dCons, dTup, dLst, dLstM, dIx, dSlice, dNo, dPart, dCall, dCallF, bAbs, bLen, bSum, bAll, bAny, bInt, bStr, bTup, bLst, bIsi, dLc_eq, dFor_eq, dWhile_eq, diLst, diTup, diRng1, diRng2, diZip2, diZip3, diEnum, diSeq, dYes, dAppend, dRepL, dJoin, dSplit, List.getElem?_cons_zero, List.getElem?_cons_succ, List.set_cons_zero, List.set_cons_succ, List.map_cons, List.map_nil, List.cons_append, List.nil_append, List.replicate, List.length_cons, List.length_nil, dwipe, atI_0, atI_1, ex_some, fr]
  refine ⟨mulW h1.n d2 (by omega), mulW h2.n d1 (by omega), ?_⟩
  rw [show decide (r.num * (s.den : Int) < s.num * (r.den : Int)) = decide (r < s) from by rw [decide_eq_decide]; exact (Rat.lt_iff r s).symm]
  exact q
theorem ok_is_less (d : Dn K mg "is_less" s_is_less) : Dk P w K mg base "is_less" 1 ["one", "other"] sp_is_less :=
  Dk.of d sc_is_less ln_is_less (fun _ _ _ _ _ _ us hl => match us, hl with | [_, _], _ => rfl) t_is_less (fun F0 f cdv A outer s H E hr => by
    have nd := sc_is_less.nd
    exact (ds_one (ds_ret (d_lt  (d_mul (d_ix (dv 0) d_int) (d_ix (dv 1) d_int)) (d_mul (d_ix (dv 1) d_int) (d_ix (dv 0) d_int)))))) rd_is_less
/-! ### total -/
/-- the sum, from the left -/
def sp_total : DSp := fun ds μ Q _ => ∃ (xs : List Rat) (k : Nat), (ds = [.lst (fL xs)] ∨ ds = [.tup (fL xs)]) ∧ (∀ x ∈ xs, Bz k x) ∧ xs.length * (k + 1) ≤ 8000 ∧ Q (fr xs.sum) μ
theorem ln_total (ds : List D) (μ Q E) (h : sp_total ds μ Q E) : ds.length = 1 := by
  obtain ⟨xs, k, rfl | rfl, _⟩ := h <;> rfl
abbrev s_total : Stmt := top 7
theorem sc_total : FnScope ["some", "found", "one"] ["some"] (defScope s_total) := ⟨rfl, rfl, rfl, by decide +kernel, rfl, by decide +kernel, by decide +kernel⟩
def t_total : DS := (dSeq (dAsg (dTup (dCons (dC (.int 0)) (dCons (dC (.int 1)) dNil))) (dgName 1))
  (dSeq (dFor (diSeq 0) (dgName 2) (dAsg (dCallF sp_plus (dCons (dVar 1) (dCons (dVar 2) dNil))) (dgName 1)))
  (dRet (dVar 1))))
theorem rd_total (ds : List D) (μ : Mu) (Q : DQ) (E) (h : sp_total ds μ Q E) : t_total { nx := fun _ μ' => Q .non μ', rt := Q } (ds.map some ++ List.replicate (3 - ds.length) none) μ := by
  obtain ⟨xs, k, hd, hk, hs, q⟩ := h
  have main : ∀ (v : D), ForB (dgName 2) (dAsg (dCallF sp_plus (dCons (dVar 1) (dCons (dVar 2) dNil))) (dgName 1)) { nx := fun ρ μ' => (dRet (dVar 1)) { nx := fun _ μ' => Q .non μ', rt := Q } ρ μ', rt := Q } [some v, some (fr 0), none] (fL xs) μ := fun v => by
    refine ForB.inv xs fr (fun pre ρ m => (∃ o, ρ = [some v, some (fr pre.sum), o]) ∧ Bz (pre.length * (k + 1) + 1) pre.sum ∧ m = μ) rfl ⟨⟨none, rfl⟩, ?_, rfl⟩ ?_ ?_
    · simp
      exact ⟨by decide, by decide⟩
    · rintro pre a post ρ m he ⟨⟨o, rfl⟩, hb, rfl⟩
      have ha : Bz k a := hk a (by rw [he]; simp)
      have hl : pre.length + 1 ≤ xs.length := by rw [he]; simp
      have hl2 : (pre.length + 1) * (k + 1) ≤ xs.length * (k + 1) := Nat.mul_le_mul_right _ hl
      have hl3 : (pre.length + 1) * (k + 1) = pre.length * (k + 1) + k + 1 := by rw [Nat.add_mul]; omega
      simp only [dRet, dRetN, dSeq, dNext, dDrop, dIfS, dNever, dAsg, dPar, dPar3, dgName, dgTup, dgLst, dgNil, dgCons, dgSub, dOp, dTest, dChain, dVar, dFrz, dC, dAdd, dSub, dMulT, dDiv, dMod, dPow, dLt, dLe, dGt, dGe, dInt0, dInt2, dEq, dNe, dIn, dNotIn, dIsN, dNotN, dAnd, dOr, dNot, dAndV, dOrV, dNotV, dIf, dNil, dCons, dTup, dLst, dLstM, dIx, dSlice, dNo, dPart, dCall, dCallF, bAbs, bLen, bSum, bAll, bAny, bInt, bStr, bTup, bLst, bIsi, dLc_eq, dFor_eq, dWhile_eq, diLst, diTup, diRng1, diRng2, diZip2, diZip3, diEnum, diSeq, dYes, dAppend, dRepL, dJoin, dSplit, List.getElem?_cons_zero, List.getElem?_cons_succ, List.set_cons_zero, List.set_cons_succ, List.map_cons, List.map_nil, List.cons_append, List.nil_append, List.replicate, List.length_cons, List.length_nil, dwipe, atI_0, atI_1, ex_some]
      refine ⟨_, _, _, _, rfl, hb, ha, by omega, ⟨a |> fr, ?_⟩, ?_, rfl⟩
      · simp [Rat.add_zero]
      · simp only [List.sum_append, List.length_append, List.length_singleton, List.sum_cons, List.sum_nil, Rat.add_zero]
        exact (hb.add ha).mono (by omega)
    · rintro ρ m ⟨⟨o, rfl⟩, hb, rfl⟩
      simp only [dRet, dRetN, dSeq, dNext, dDrop, dIfS, dNever, dAsg, dPar, dPar3, dgName, dgTup, dgLst, dgNil, dgCons, dgSub, dOp, dTest, dChain, dVar, dFrz, dC, dAdd, dSub, dMulT, dDiv, dMod, dPow, dLt, dLe, dGt, dGe, dInt0, dInt2, dEq, dNe, dIn, dNotIn, dIsN, dNotN, dAnd, dOr, dNot, dAndV, dOrV, dNotV, dIf, dNil, dCons, dTup, dLst, dLstM, dIx, dSlice, dNo, dPart, dCall, dCallF, bAbs, bLen, bSum, bAll, bAny, bInt, bStr, bTup, bLst, bIsi, dLc_eq, dFor_eq, dWhile_eq, diLst, diTup, diRng1, diRng2, diZip2, diZip3, diEnum, diSeq, dYes, dAppend, dRepL, dJoin, dSplit, List.getElem?_cons_zero, List.getElem?_cons_succ, List.set_cons_zero, List.set_cons_succ, List.map_cons, List.map_nil, List.cons_append, List.nil_append, List.replicate, List.length_cons, List.length_nil, dwipe, atI_0, atI_1, ex_some]
      exact q
  unfold t_total
  rcases hd with rfl | rfl
  · simp only [dRet, dRetN, dSeq, dNext, dDrop, dIfS, dNever, dAsg, dPar, dPar3, dgName, dgTup, dgLst, dgNil, dgCons, dgSub, dOp, dTest, dChain, dVar, dFrz, dC, dAdd, dSub, dMulT, dDiv, dMod, dPow, dLt, dLe, dGt, dGe, dInt0, dInt2, dEq, dNe, dIn, dNotIn, dIsN, dNotN, dAnd, dOr, dNot, dAndV, dOrV, dNotV, dIf, dNil, dCons, dTup, dLst, dLstM, dIx, dSlice, dNo, dPart, dCall, dCallF, bAbs, bLen, bSum, bAll, bAny, bInt, bStr, bTup, bLst, bIsi, dLc_eq, dFor_eq, dWhile_eq, diLst, diTup, diRng1, diRng2, diZip2, diZip3, diEnum, diSeq, dYes, dAppend, dRepL, dJoin, dSplit, List.getElem?_cons_zero, List.getElem?_cons_succ, List.set_cons_zero, List.set_cons_succ, List.map_cons, List.map_nil, List.cons_append, List.nil_append, List.replicate, List.length_cons, List.length_nil, dwipe, atI_0, atI_1, ex_some, fr_zero]
    exact ⟨by decide, main _⟩
  · simp only [dRet, dRetN, dSeq, dNext, dDrop, dIfS, dNever, dAsg, dPar, dPar3, dgName, dgTup, dgLst, dgNil, dgCons, dgSub, dOp, dTest, dChain, dVar, dFrz, dC, dAdd, dSub, dMulT, dDiv, dMod, dPow, dLt, dLe, dGt, dGe, dInt0, dInt2, dEq, dNe, dIn, dNotIn, dIsN, dNotN, dAnd, dOr, dNot, dAndV, dOrV, dNotV, dIf, dNil, dCons, dTup, dLst, dLstM, dIx, dSlice, dNo, dPart, dCall, dCallF, bAbs, bLen, bSum, bAll, bAny, bInt, bStr, bTup, bLst, bIsi, dLc_eq, dFor_eq, dWhile_eq, diLst, diTup, diRng1, diRng2, diZip2, diZip3, diEnum, diSeq, dYes, dAppend, dRepL, dJoin, dSplit, List.getElem?_cons_zero, List.getElem?_cons_succ, List.set_cons_zero, List.set_cons_succ, List.map_cons, List.map_nil, List.cons_append, List.nil_append, List.replicate, List.length_cons, List.length_nil, dwipe, atI_0, atI_1, ex_some, fr_zero]
    exact ⟨by decide, main _⟩
theorem ok_total (d : Dn K mg "total" s_total) (g_plus : Dk P w K mg base "plus" 3 ["one", "other"] sp_plus) : Dk P w K mg base "total" 4 ["some"] sp_total :=
  Dk.of d sc_total ln_total (fun _ _ _ _ _ _ us hl => match us, hl with | [_], _ => rfl) t_total (fun F0 f cdv A outer s H E hr => by
    have nd := sc_total.nd
    exact (ds_cons (ds_set (i := 1) nd rfl (Or.inl rfl) (d_tup (da_cons d_int (da_cons d_int da_nil))))
      (ds_cons (ds_for (vs := [2]) PassesOwn.never rfl (di_seq 0 (dv 0)) (dg_name (i := 2) nd rfl (Or.inl rfl) (by decide)) (ds_one (ds_set (i := 1) nd rfl (Or.inl rfl) (d_callD g_plus (hr.mono (by decide)) (da_cons (dv 1) (da_cons (dv 2) da_nil))))))
      (ds_one (ds_ret (dv 1)))))) rd_total
/-! ### is_whole -/
def sp_is_whole : DSp := fun ds μ Q _ => ∃ (d : D) (lo hi : Int), ds = [d, .int lo, .int hi] ∧ nr d = true ∧ Q (.bl (wholeD d lo hi)) μ
theorem ln_is_whole (ds : List D) (μ Q E) (h : sp_is_whole ds μ Q E) : ds.length = 3 := by
  obtain ⟨d, lo, hi, rfl, _⟩ := h
  rfl
abbrev s_is_whole : Stmt := top 8
theorem sc_is_whole : FnScope ["value", "low", "high"] ["value", "low", "high"] (defScope s_is_whole) := ⟨rfl, rfl, rfl, by decide +kernel, rfl, by decide +kernel, by decide +kernel⟩
def t_is_whole : DS := (dRet (dAndV (dCall bIsi (dCons (dVar 0) (dCons (dC (.raw (.ty "int"))) dNil))) (dAndV (dNotV (dCall bIsi (dCons (dVar 0) (dCons (dC (.raw (.ty "bool"))) dNil)))) (dChain dLe dLe (dVar 1) (dVar 0) (dVar 2)))))
theorem rd_is_whole (ds : List D) (μ : Mu) (Q : DQ) (E) (h : sp_is_whole ds μ Q E) : t_is_whole { nx := fun _ μ' => Q .non μ', rt := Q } (ds.map some ++ List.replicate (3 - ds.length) none) μ := by
  obtain ⟨d, lo, hi, rfl, hn, q⟩ := h
  unfold t_is_whole
  cases d with
  | raw v => cases hn
  | int i =>
    simp only [dRet, dRetN, dSeq, dNext, dDrop, dIfS, dNever, dAsg, dPar, dPar3, dgName, dgTup, dgLst, dgNil, dgCons, dgSub, dOp, dTest, dChain, dVar, dFrz, dC, dAdd, dSub, dMulT, dDiv, dMod, dPow, dLt, dLe, dGt, dGe, dInt0, dInt2, dEq, dNe, dIn, dNotIn, dIsN, dNotN, dAnd, dOr, dNot, dAndV, dOrV, dNotV, dIf, dNil, dCons, dTup, dLst, dLstM, dIx, dSlice, dNo, dPart, dCall, dCallF, bAbs, bLen, bSum, bAll, bAny, bInt, bStr, bTup, bLst, bIsi, dLc_eq, dFor_eq, dWhile_eq, diLst, diTup, diRng1, diRng2, diZip2, diZip3, diEnum, diSeq, dYes, dAppend, dRepL, dJoin, dSplit, List.getElem?_cons_zero, List.getElem?_cons_succ, List.set_cons_zero, List.set_cons_succ, List.map_cons, List.map_nil, List.cons_append, List.nil_append, List.replicate, List.length_cons, List.length_nil, dwipe, atI_0, atI_1, ex_some]
    simp [tyD, isTy]
    by_cases h1 : lo ≤ i
    · simp only [decide_eq_true h1]
      have e : wholeD (.int i) lo hi = decide (i ≤ hi) := by simp [wholeD, h1]
      rw [← e]
      exact q
    · simp only [decide_eq_false h1]
      have e : wholeD (.int i) lo hi = false := by simp [wholeD, h1]
      rw [← e]
      exact q
  | _ =>
    simp only [dRet, dRetN, dSeq, dNext, dDrop, dIfS, dNever, dAsg, dPar, dPar3, dgName, dgTup, dgLst, dgNil, dgCons, dgSub, dOp, dTest, dChain, dVar, dFrz, dC, dAdd, dSub, dMulT, dDiv, dMod, dPow, dLt, dLe, dGt, dGe, dInt0, dInt2, dEq, dNe, dIn, dNotIn, dIsN, dNotN, dAnd, dOr, dNot, dAndV, dOrV, dNotV, dIf, dNil, dCons, dTup, dLst, dLstM, dIx, dSlice, dNo, dPart, dCall, dCallF, bAbs, bLen, bSum, bAll, bAny, bInt, bStr, bTup, bLst, bIsi, dLc_eq, dFor_eq, dWhile_eq, diLst, diTup, diRng1, diRng2, diZip2, diZip3, diEnum, diSeq, dYes, dAppend, dRepL, dJoin, dSplit, List.getElem?_cons_zero, List.getElem?_cons_succ, List.set_cons_zero, List.set_cons_succ, List.map_cons, List.map_nil, List.cons_append, List.nil_append, List.replicate, List.length_cons, List.length_nil, dwipe, atI_0, atI_1, ex_some]
    simp [tyD, isTy]
    exact q
theorem ok_is_whole (d : Dn K mg "is_whole" s_is_whole) (b_isinstance : mg "isinstance" = none) (b_int : mg "int" = none) (b_bool : mg "bool" = none) : Dk P w K mg base "is_whole" 1 ["value", "low", "high"] sp_is_whole :=
  Dk.of d sc_is_whole ln_is_whole (fun _ _ _ _ _ _ us hl => match us, hl with | [_, _, _], _ => rfl) t_is_whole (fun F0 f cdv A outer s H E hr => by
    have nd := sc_is_whole.nd
    exact (ds_one (ds_ret (d_andV (d_callB call_isi lc_isi (by rfl) b_isinstance bb_isinstance (da_cons (dv 0) (da_cons (d_ty (by rfl) b_int bt_int) da_nil))) (d_andV (d_notV (d_callB call_isi lc_isi (by rfl) b_isinstance bb_isinstance (da_cons (dv 0) (da_cons (d_ty (by rfl) b_bool bt_bool) da_nil)))) (d_one (d_lele (dv 1) (dv 0) (dv 2)))))))) rd_is_whole
/-! ### fits_fraction -/
def sp_fits_fraction : DSp := fun ds μ Q _ => ∃ (d : D) (lo hi bel : Int), ds = [d, .int lo, .int hi, .int bel] ∧ nr d = true ∧ Q (.bl (fitsD d lo hi bel)) μ
theorem ln_fits_fraction (ds : List D) (μ Q E) (h : sp_fits_fraction ds μ Q E) : ds.length = 4 := by
  obtain ⟨d, lo, hi, bel, rfl, _⟩ := h
  rfl
abbrev s_fits_fraction : Stmt := top 9
theorem sc_fits_fraction : FnScope ["value", "low", "high", "below"] ["value", "low", "high", "below"] (defScope s_fits_fraction) := ⟨rfl, rfl, rfl, by decide +kernel, rfl, by decide +kernel, by decide +kernel⟩
def t_fits_fraction : DS := (dSeq (dIfS (dOr (dNot (dTest (dCall bIsi (dCons (dVar 0) (dCons (dC (.raw (.ty "tuple"))) dNil))))) (dTest (dOp dNe (dCall bLen (dCons (dVar 0) dNil)) (dC (.int 2))))) (dRet (dC (.bl false))) dNext)
  (dRet (dAndV (dCallF sp_is_whole (dCons (dOp dIx (dVar 0) (dC (.int 0))) (dCons (dVar 1) (dCons (dVar 2) dNil)))) (dAndV (dCallF sp_is_whole (dCons (dOp dIx (dVar 0) (dC (.int 1))) (dCons (dC (.int 1)) (dCons (dVar 3) dNil)))) (dOp dEq (dCallF sp_shared (dCons (dOp dIx (dVar 0) (dC (.int 0))) (dCons (dOp dIx (dVar 0) (dC (.int 1))) dNil))) (dC (.int 1)))))))
theorem rd_fits_fraction (ds : List D) (μ : Mu) (Q : DQ) (E) (h : sp_fits_fraction ds μ Q E) : t_fits_fraction { nx := fun _ μ' => Q .non μ', rt := Q } (ds.map some ++ List.replicate (4 - ds.length) none) μ := by
  obtain ⟨d, lo, hi, bel, rfl, hn, q⟩ := h
  unfold t_fits_fraction
  cases d with
  | raw v => cases hn
  | tup xs =>
    simp only [dRet, dRetN, dSeq, dNext, dDrop, dIfS, dNever, dAsg, dPar, dPar3, dgName, dgTup, dgLst, dgNil, dgCons, dgSub, dOp, dTest, dChain, dVar, dFrz, dC, dAdd, dSub, dMulT, dDiv, dMod, dPow, dLt, dLe, dGt, dGe, dInt0, dInt2, dEq, dNe, dIn, dNotIn, dIsN, dNotN, dAnd, dOr, dNot, dAndV, dOrV, dNotV, dIf, dNil, dCons, dTup, dLst, dLstM, dIx, dSlice, dNo, dPart, dCall, dCallF, bAbs, bLen, bSum, bAll, bAny, bInt, bStr, bTup, bLst, bIsi, dLc_eq, dFor_eq, dWhile_eq, diLst, diTup, diRng1, diRng2, diZip2, diZip3, diEnum, diSeq, dYes, dAppend, dRepL, dJoin, dSplit, List.getElem?_cons_zero, List.getElem?_cons_succ, List.set_cons_zero, List.set_cons_succ, List.map_cons, List.map_nil, List.cons_append, List.nil_append, List.replicate, List.length_cons, List.length_nil, dwipe, atI_0, atI_1, ex_some]
    simp [tyD, isTy]
    simp only [eqD_int, shp_int, true_and]
    match xs, hn, q with
    | [], _, q => simp; exact q
    | [a], _, q =>
      have e : fitsD (.tup [a]) lo hi bel = false := by simp [fitsD]
      simp
      rw [← e]
      exact q
    | a :: b :: c :: r, _, q =>
      have : ¬ ((((a :: b :: c :: r).length : Nat) : Int) = 2) := by simp only [List.length_cons]; omega
      simp [this]
      have e : fitsD (.tup (a :: b :: c :: r)) lo hi bel = false := by simp [fitsD]
      rw [← e]
      exact q
    | [a, b], hn, q =>
      have na : nr a = true := nrs_mem hn a (by simp)
      have nb : nr b = true := nrs_mem hn b (by simp)
      simp [atI_0, atI_1]
      refine ⟨a, lo, hi, rfl, na, ?_⟩
      cases a with
      | int i =>
        by_cases h1 : lo ≤ i ∧ i ≤ hi
        · rw [show wholeD (.int i) lo hi = true from decide_eq_true h1]
          refine ⟨b, 1, bel, rfl, nb, ?_⟩
          cases b with
          | int j =>
            by_cases h2 : 1 ≤ j ∧ j ≤ bel
            · rw [show wholeD (.int j) 1 bel = true from decide_eq_true h2]
              refine ⟨i, j, rfl, ?_⟩
              simp only [shp_int, eqD_int, true_and]
              rw [show decide ((Int.gcd i j : Int) = 1) = fitsD (.tup [.int i, .int j]) lo hi bel from by
                show _ = decide _
                rw [decide_eq_decide]
                constructor
                · intro z
                  exact ⟨h1.1, h1.2, h2.1, h2.2, by omega⟩
                · intro z
                  omega]
              exact q
            · rw [show wholeD (.int j) 1 bel = false from decide_eq_false h2]
              rw [show fitsD (.tup [.int i, .int j]) lo hi bel = false from decide_eq_false (by omega)] at q
              exact q
          | _ => exact q
        · rw [show wholeD (.int i) lo hi = false from decide_eq_false h1]
          cases b with
          | int j =>
            rw [show fitsD (.tup [.int i, .int j]) lo hi bel = false from decide_eq_false (by omega)] at q
            exact q
          | _ => exact q
      | _ => exact q
  | _ =>
    simp only [dRet, dRetN, dSeq, dNext, dDrop, dIfS, dNever, dAsg, dPar, dPar3, dgName, dgTup, dgLst, dgNil, dgCons, dgSub, dOp, dTest, dChain, dVar, dFrz, dC, dAdd, dSub, dMulT, dDiv, dMod, dPow, dLt, dLe, dGt, dGe, dInt0, dInt2, dEq, dNe, dIn, dNotIn, dIsN, dNotN, dAnd, dOr, dNot, dAndV, dOrV, dNotV, dIf, dNil, dCons, dTup, dLst, dLstM, dIx, dSlice, dNo, dPart, dCall, dCallF, bAbs, bLen, bSum, bAll, bAny, bInt, bStr, bTup, bLst, bIsi, dLc_eq, dFor_eq, dWhile_eq, diLst, diTup, diRng1, diRng2, diZip2, diZip3, diEnum, diSeq, dYes, dAppend, dRepL, dJoin, dSplit, List.getElem?_cons_zero, List.getElem?_cons_succ, List.set_cons_zero, List.set_cons_succ, List.map_cons, List.map_nil, List.cons_append, List.nil_append, List.replicate, List.length_cons, List.length_nil, dwipe, atI_0, atI_1, ex_some]
    simp [tyD, isTy]
    exact q
theorem ok_fits_fraction (d : Dn K mg "fits_fraction" s_fits_fraction) (b_isinstance : mg "isinstance" = none) (b_tuple : mg "tuple" = none) (b_len : mg "len" = none) (g_is_whole : Dk P w K mg base "is_whole" 1 ["value", "low", "high"] sp_is_whole) (g_shared : Dk P w K mg base "shared" 1 ["one", "other"] sp_shared) : Dk P w K mg base "fits_fraction" 2 ["value", "low", "high", "below"] sp_fits_fraction :=
  Dk.of d sc_fits_fraction ln_fits_fraction (fun _ _ _ _ _ _ us hl => match us, hl with | [_, _, _, _], _ => rfl) t_fits_fraction (fun F0 f cdv A outer s H E hr => by
    have nd := sc_fits_fraction.nd
    exact (ds_cons (ds_if (PW.pt (d_or (d_not (d_test (d_callB call_isi lc_isi (by rfl) b_isinstance bb_isinstance (da_cons (dv 0) (da_cons (d_ty (by rfl) b_tuple bt_tuple) da_nil))))) (d_or1 (d_neT (hu64 hr) (d_callB (call_len_seq.or call_len_str) lc_len (by rfl) b_len bb_len (da_cons (dv 0) da_nil)) d_int)))) (ds_one (ds_ret d_bl)) ds_nil)
      (ds_one (ds_ret (d_andV (d_callD g_is_whole (hr.mono (by decide)) (da_cons (d_ix (dv 0) d_int) (da_cons (dv 1) (da_cons (dv 2) da_nil)))) (d_andV (d_callD g_is_whole (hr.mono (by decide)) (da_cons (d_ix (dv 0) d_int) (da_cons d_int (da_cons (dv 3) da_nil)))) (d_one (d_eq (hu64 hr) (d_callD g_shared (hr.mono (by decide)) (da_cons (d_ix (dv 0) d_int) (da_cons (d_ix (dv 0) d_int) da_nil))) d_int)))))))) rd_fits_fraction
end
end GS

-- text W2
set_option Elab.async false
set_option linter.all false
set_option maxRecDepth 100000
set_option maxHeartbeats 4000000
namespace GS
open PySem PySem.Spec PyProof.Rows L2 DL
section
variable {P : Program} {w : World} {K : Fg} {mg : Str → Option Value} {base : Heap} {C : Str → Addr}
/-! ### fit_odds -/
def sp_fit_odds : DSp := fun ds μ Q _ => ∃ (d : D), ds = [d] ∧ nr d = true ∧ (∀ xs, d = .tup xs → xs.length ≤ sizeLine) ∧ Q (.bl (fitOdds d)) μ
theorem ln_fit_odds (ds : List D) (μ Q E) (h : sp_fit_odds ds μ Q E) : ds.length = 1 := by
  obtain ⟨d, rfl, _⟩ := h
  rfl
abbrev s_fit_odds : Stmt := top 29
theorem sc_fit_odds : FnScope ["value", "one"] ["value"] (defScope s_fit_odds) := ⟨rfl, rfl, rfl, by decide +kernel, rfl, by decide +kernel, by decide +kernel⟩
def t_fit_odds : DS := (dSeq (dIfS (dOr (dNot (dTest (dCall bIsi (dCons (dVar 0) (dCons (dC (.raw (.ty "tuple"))) dNil))))) (dNot (dTest (dChain dLe dLe (dC (.int 2)) (dCall bLen (dCons (dVar 0) dNil)) (dC (.int 5)))))) (dRet (dC (.bl false))) dNext)
  (dRet (dCall bAll (dCons (dLc (diTup (dVar 0)) (dgName 1) dYes (dCallF sp_fits_fraction (dCons (dVar 1) (dCons (dC (.int 1)) (dCons (dC (.int 1000)) (dCons (dC (.int 1000)) dNil))))) [1]) dNil))))
theorem rd_fit_odds (ds : List D) (μ : Mu) (Q : DQ) (E) (h : sp_fit_odds ds μ Q E) : t_fit_odds { nx := fun _ μ' => Q .non μ', rt := Q } (ds.map some ++ List.replicate (2 - ds.length) none) μ := by
  obtain ⟨d, rfl, hn, hz, q⟩ := h
  unfold t_fit_odds
  cases d with
  | raw v => cases hn
  | tup xs =>
    simp only [dRaise, dCallX, dRet, dRetN, dSeq, dNext, dDrop, dIfS, dNever, dAsg, dPar, dPar3, dgName, dgTup, dgLst, dgNil, dgCons, dgSub, dOp, dTest, dChain, dVar, dFrz, dC, dAdd, dSub, dMulT, dDiv, dMod, dPow, dLt, dLe, dGt, dGe, dInt0, dInt2, dEq, dNe, dIn, dNotIn, dIsN, dNotN, dAnd, dOr, dNot, dAndV, dOrV, dNotV, dIf, dNil, dCons, dTup, dLst, dLstM, dIx, dSlice, dNo, dPart, dCall, dCallF, bAbs, bLen, bSum, bAll, bAny, bInt, bStr, bTup, bLst, bIsi, dLc_eq, dFor_eq, dWhile_eq, diLst, diTup, diRng1, diRng2, diZip2, diZip3, diEnum, diSeq, dYes, dAppend, dRepL, dJoin, dSplit, List.getElem?_cons_zero, List.getElem?_cons_succ, List.set_cons_zero, List.set_cons_succ, List.map_cons, List.map_nil, List.cons_append, List.nil_append, List.replicate, List.length_cons, List.length_nil, dwipe, atI_0, atI_1, ex_some]
    refine ⟨by simp, ?_⟩
    simp only [show isTy (tyD (.tup xs)) "tuple" = true from rfl, Bool.not_true, Bool.false_eq_true, if_false]
    by_cases h1 : (2 : Int) ≤ xs.length
    · by_cases h2 : (xs.length : Int) ≤ 5
      · rw [decide_eq_true h1, decide_eq_true h2]
        simp only [Bool.not_true, Bool.false_eq_true, if_false]
        refine LcB.mp xs id (fun x => .bl (fitsD x 1 1000 1000)) (List.map_id xs).symm (hz xs rfl) ?_ ?_
        · intro a ha R hR
          simp only [dRaise, dCallX, dRet, dRetN, dSeq, dNext, dDrop, dIfS, dNever, dAsg, dPar, dPar3, dgName, dgTup, dgLst, dgNil, dgCons, dgSub, dOp, dTest, dChain, dVar, dFrz, dC, dAdd, dSub, dMulT, dDiv, dMod, dPow, dLt, dLe, dGt, dGe, dInt0, dInt2, dEq, dNe, dIn, dNotIn, dIsN, dNotN, dAnd, dOr, dNot, dAndV, dOrV, dNotV, dIf, dNil, dCons, dTup, dLst, dLstM, dIx, dSlice, dNo, dPart, dCall, dCallF, bAbs, bLen, bSum, bAll, bAny, bInt, bStr, bTup, bLst, bIsi, dLc_eq, dFor_eq, dWhile_eq, diLst, diTup, diRng1, diRng2, diZip2, diZip3, diEnum, diSeq, dYes, dAppend, dRepL, dJoin, dSplit, List.getElem?_cons_zero, List.getElem?_cons_succ, List.set_cons_zero, List.set_cons_succ, List.map_cons, List.map_nil, List.cons_append, List.nil_append, List.replicate, List.length_cons, List.length_nil, dwipe, atI_0, atI_1, ex_some]
          exact ⟨a, 1, 1000, 1000, rfl, nrs_mem hn a ha, hR⟩
        · refine ⟨xs.map fun x => fitsD x 1 1000 1000, by simp, ?_⟩
          have e : fitOdds (.tup xs) = (xs.map fun x => fitsD x 1 1000 1000).all id := by
            show (_ && _) = _
            rw [decide_eq_true (by omega), Bool.true_and, List.all_map]
            rfl
          rw [← e]
          exact q
      · rw [decide_eq_true h1, decide_eq_false h2]
        have e : fitOdds (.tup xs) = false := by
          show (_ && _) = _
          rw [decide_eq_false (by omega), Bool.false_and]
        rw [e] at q
        exact q
    · rw [decide_eq_false h1]
      have e : fitOdds (.tup xs) = false := by
        show (_ && _) = _
        rw [decide_eq_false (by omega), Bool.false_and]
      rw [e] at q
      exact q
  | _ =>
    simp only [dRaise, dCallX, dRet, dRetN, dSeq, dNext, dDrop, dIfS, dNever, dAsg, dPar, dPar3, dgName, dgTup, dgLst, dgNil, dgCons, dgSub, dOp, dTest, dChain, dVar, dFrz, dC, dAdd, dSub, dMulT, dDiv, dMod, dPow, dLt, dLe, dGt, dGe, dInt0, dInt2, dEq, dNe, dIn, dNotIn, dIsN, dNotN, dAnd, dOr, dNot, dAndV, dOrV, dNotV, dIf, dNil, dCons, dTup, dLst, dLstM, dIx, dSlice, dNo, dPart, dCall, dCallF, bAbs, bLen, bSum, bAll, bAny, bInt, bStr, bTup, bLst, bIsi, dLc_eq, dFor_eq, dWhile_eq, diLst, diTup, diRng1, diRng2, diZip2, diZip3, diEnum, diSeq, dYes, dAppend, dRepL, dJoin, dSplit, List.getElem?_cons_zero, List.getElem?_cons_succ, List.set_cons_zero, List.set_cons_succ, List.map_cons, List.map_nil, List.cons_append, List.nil_append, List.replicate, List.length_cons, List.length_nil, dwipe, atI_0, atI_1, ex_some]
    simp [tyD, isTy]
    exact q
theorem ok_fit_odds (d : Dn K mg "fit_odds" s_fit_odds) (b_isinstance : mg "isinstance" = none) (b_tuple : mg "tuple" = none) (b_len : mg "len" = none) (b_all : mg "all" = none) (m_MOST_OUTCOMES : ∃ t, mg "MOST_OUTCOMES" = some (.int 5 t)) (g_fits_fraction : Dk P w K mg base "fits_fraction" 2 ["value", "low", "high", "below"] sp_fits_fraction) : Dk P w K mg base "fit_odds" 3 ["value"] sp_fit_odds :=
  Dk.of d sc_fit_odds ln_fit_odds (fun _ _ _ _ _ _ us hl => match us, hl with | [_], _ => rfl) t_fit_odds (fun F0 f cdv A outer s H E hr => by
    have nd := sc_fit_odds.nd
    exact (ds_cons (ds_if (PW.pt (d_or (d_not (d_test (d_callB call_isi lc_isi (by rfl) b_isinstance bb_isinstance (da_cons (dv 0) (da_cons (d_ty (by rfl) b_tuple bt_tuple) da_nil))))) (d_or1 (d_not (d_leleT d_int (d_callB (call_len_seq.or call_len_str) lc_len (by rfl) b_len bb_len (da_cons (dv 0) da_nil)) (d_globI (by rfl) m_MOST_OUTCOMES)))))) (ds_one (ds_ret d_bl)) ds_nil)
      (ds_one (ds_ret (d_callB (cr_all rfl) lc_all (by rfl) b_all bb_all (da_cons (d_lc (own := [("one", 1)]) rfl nd (di_tup (dv 0)) (blkOk_by (N := ["value", "one"]) (sc := defScope s_fit_odds) (own := [("one", 1)]) (by decide +kernel)) (fun _ _ _ _ _ => (dg_name (i := 1) nd rfl (Or.inl rfl) (by decide))) (fun _ _ _ _ _ => dp_nil) (fun _ _ _ _ _ => (d_callD g_fits_fraction (hr.mono (by decide)) (da_cons (dv 1) (da_cons d_int (da_cons d_int (da_cons d_int da_nil))))))) da_nil)))))) rd_fit_odds
/-! ### fit_shares -/
def sp_fit_shares : DSp := fun ds μ Q _ => ∃ (n : Nat) (d : D), ds = [.int n, d] ∧ n ≤ 60 ∧ nr d = true ∧ (∀ xs, d = .tup xs → xs.length ≤ sizeLine) ∧ Q (.bl (fitShares n d)) μ
theorem ln_fit_shares (ds : List D) (μ Q E) (h : sp_fit_shares ds μ Q E) : ds.length = 2 := by
  obtain ⟨n, d, rfl, _⟩ := h
  rfl
abbrev s_fit_shares : Stmt := top 30
theorem sc_fit_shares : FnScope ["many", "value", "one"] ["many", "value"] (defScope s_fit_shares) := ⟨rfl, rfl, rfl, by decide +kernel, rfl, by decide +kernel, by decide +kernel⟩
def t_fit_shares : DS := (dSeq (dIfS (dOr (dNot (dTest (dCall bIsi (dCons (dVar 1) (dCons (dC (.raw (.ty "tuple"))) dNil))))) (dTest (dOp dNe (dCall bLen (dCons (dVar 1) dNil)) (dOp dAdd (dVar 0) (dC (.int 1)))))) (dRet (dC (.bl false))) dNext)
  (dRet (dAndV (dCall bAll (dCons (dLc (diTup (dVar 1)) (dgName 2) dYes (dCallF sp_fits_fraction (dCons (dVar 2) (dCons (dC (.int 0)) (dCons (dC (.int 1000000000000000000000000000000)) (dCons (dC (.int 1000000000000000000000000000000)) dNil))))) [2]) dNil)) (dOp dEq (dCallF sp_total (dCons (dVar 1) dNil)) (dTup (dCons (dC (.int 1)) (dCons (dC (.int 1)) dNil)))))))
theorem rd_fit_shares (ds : List D) (μ : Mu) (Q : DQ) (E) (h : sp_fit_shares ds μ Q E) : t_fit_shares { nx := fun _ μ' => Q .non μ', rt := Q } (ds.map some ++ List.replicate (3 - ds.length) none) μ := by
  obtain ⟨n, d, rfl, hn6, hn, hz, q⟩ := h
  unfold t_fit_shares
  cases d with
  | raw v => cases hn
  | tup xs =>
    simp only [dRaise, dCallX, dRet, dRetN, dSeq, dNext, dDrop, dIfS, dNever, dAsg, dPar, dPar3, dgName, dgTup, dgLst, dgNil, dgCons, dgSub, dOp, dTest, dChain, dVar, dFrz, dC, dAdd, dSub, dMulT, dDiv, dMod, dPow, dLt, dLe, dGt, dGe, dInt0, dInt2, dEq, dNe, dIn, dNotIn, dIsN, dNotN, dAnd, dOr, dNot, dAndV, dOrV, dNotV, dIf, dNil, dCons, dTup, dLst, dLstM, dIx, dSlice, dNo, dPart, dCall, dCallF, bAbs, bLen, bSum, bAll, bAny, bInt, bStr, bTup, bLst, bIsi, dLc_eq, dFor_eq, dWhile_eq, diLst, diTup, diRng1, diRng2, diZip2, diZip3, diEnum, diSeq, dYes, dAppend, dRepL, dJoin, dSplit, List.getElem?_cons_zero, List.getElem?_cons_succ, List.set_cons_zero, List.set_cons_succ, List.map_cons, List.map_nil, List.cons_append, List.nil_append, List.replicate, List.length_cons, List.length_nil, dwipe, atI_0, atI_1, ex_some]
    refine ⟨by simp, ?_⟩
    simp only [show isTy (tyD (.tup xs)) "tuple" = true from rfl, Bool.not_true, Bool.false_eq_true, if_false]
    simp only [shp_int, eqD_int, true_and]
    by_cases h1 : (xs.length : Int) = (n : Int) + 1
    · rw [decide_eq_true h1]
      simp only [Bool.not_true, Bool.false_eq_true, if_false]
      have hl : xs.length = n + 1 := by omega
      refine LcB.mp xs id (fun x => .bl (fitsD x 0 FAR FAR)) (List.map_id xs).symm (hz xs rfl) ?_ ?_
      · intro a ha R hR
        simp only [dRaise, dCallX, dRet, dRetN, dSeq, dNext, dDrop, dIfS, dNever, dAsg, dPar, dPar3, dgName, dgTup, dgLst, dgNil, dgCons, dgSub, dOp, dTest, dChain, dVar, dFrz, dC, dAdd, dSub, dMulT, dDiv, dMod, dPow, dLt, dLe, dGt, dGe, dInt0, dInt2, dEq, dNe, dIn, dNotIn, dIsN, dNotN, dAnd, dOr, dNot, dAndV, dOrV, dNotV, dIf, dNil, dCons, dTup, dLst, dLstM, dIx, dSlice, dNo, dPart, dCall, dCallF, bAbs, bLen, bSum, bAll, bAny, bInt, bStr, bTup, bLst, bIsi, dLc_eq, dFor_eq, dWhile_eq, diLst, diTup, diRng1, diRng2, diZip2, diZip3, diEnum, diSeq, dYes, dAppend, dRepL, dJoin, dSplit, List.getElem?_cons_zero, List.getElem?_cons_succ, List.set_cons_zero, List.set_cons_succ, List.map_cons, List.map_nil, List.cons_append, List.nil_append, List.replicate, List.length_cons, List.length_nil, dwipe, atI_0, atI_1, ex_some]
        exact ⟨a, 0, FAR, FAR, rfl, nrs_mem hn a ha, hR⟩
      · refine ⟨xs.map fun x => fitsD x 0 FAR FAR, by simp, ?_⟩
        have e0 : (xs.map fun x => fitsD x 0 FAR FAR).all id = xs.all fun x => fitsD x 0 FAR FAR := by
          rw [List.all_map]
          rfl
        rw [e0]
        have e1 : fitShares n (.tup xs) = ((xs.all fun x => fitsD x 0 FAR FAR) && decide ((xs.map ratD).sum = 1)) := by
          show (_ && _) = _
          rw [decide_eq_true hl, Bool.true_and]
        rw [e1] at q
        cases h2 : xs.all fun x => fitsD x 0 FAR FAR with
        | false =>
          rw [h2] at q
          exact q
        | true =>
          rw [h2, Bool.true_and] at q
          obtain ⟨rs, rfl, hb⟩ := fits_all h2
          rw [ratD_fL] at q
          have hlr : rs.length = n + 1 := by simpa [fL] using hl
          refine ⟨rs, 100, .inr rfl, fun x hx => ?_, ?_, ?_, ?_⟩
          · obtain ⟨b1, b2, b3⟩ := hb x hx
            exact bz_of b1 b2 b3 far_lt far_lt
          · rw [hlr]
            omega
          · decide
          · simp only [fr_one, shp_fr, eqD_fr, true_and]
            exact q
    · rw [decide_eq_false h1]
      have e : fitShares n (.tup xs) = false := by
        show (_ && _) = _
        rw [decide_eq_false (by omega), Bool.false_and]
      rw [e] at q
      exact q
  | _ =>
    simp only [dRaise, dCallX, dRet, dRetN, dSeq, dNext, dDrop, dIfS, dNever, dAsg, dPar, dPar3, dgName, dgTup, dgLst, dgNil, dgCons, dgSub, dOp, dTest, dChain, dVar, dFrz, dC, dAdd, dSub, dMulT, dDiv, dMod, dPow, dLt, dLe, dGt, dGe, dInt0, dInt2, dEq, dNe, dIn, dNotIn, dIsN, dNotN, dAnd, dOr, dNot, dAndV, dOrV, dNotV, dIf, dNil, dCons, dTup, dLst, dLstM, dIx, dSlice, dNo, dPart, dCall, dCallF, bAbs, bLen, bSum, bAll, bAny, bInt, bStr, bTup, bLst, bIsi, dLc_eq, dFor_eq, dWhile_eq, diLst, diTup, diRng1, diRng2, diZip2, diZip3, diEnum, diSeq, dYes, dAppend, dRepL, dJoin, dSplit, List.getElem?_cons_zero, List.getElem?_cons_succ, List.set_cons_zero, List.set_cons_succ, List.map_cons, List.map_nil, List.cons_append, List.nil_append, List.replicate, List.length_cons, List.length_nil, dwipe, atI_0, atI_1, ex_some]
    simp [tyD, isTy]
    exact q
theorem ok_fit_shares (d : Dn K mg "fit_shares" s_fit_shares) (b_isinstance : mg "isinstance" = none) (b_tuple : mg "tuple" = none) (b_len : mg "len" = none) (b_all : mg "all" = none) (m_FAR : ∃ t, mg "FAR" = some (.int 1000000000000000000000000000000 t)) (g_fits_fraction : Dk P w K mg base "fits_fraction" 2 ["value", "low", "high", "below"] sp_fits_fraction) (g_total : Dk P w K mg base "total" 4 ["some"] sp_total) : Dk P w K mg base "fit_shares" 5 ["many", "value"] sp_fit_shares :=
  Dk.of d sc_fit_shares ln_fit_shares (fun _ _ _ _ _ _ us hl => match us, hl with | [_, _], _ => rfl) t_fit_shares (fun F0 f cdv A outer s H E hr => by
    have nd := sc_fit_shares.nd
    exact (ds_cons (ds_if (PW.pt (d_or (d_not (d_test (d_callB call_isi lc_isi (by rfl) b_isinstance bb_isinstance (da_cons (dv 1) (da_cons (d_ty (by rfl) b_tuple bt_tuple) da_nil))))) (d_or1 (d_neT (hu64 hr) (d_callB (call_len_seq.or call_len_str) lc_len (by rfl) b_len bb_len (da_cons (dv 1) da_nil)) (d_add (dv 0) d_int))))) (ds_one (ds_ret d_bl)) ds_nil)
      (ds_one (ds_ret (d_andV (d_callB (cr_all rfl) lc_all (by rfl) b_all bb_all (da_cons (d_lc (own := [("one", 2)]) rfl nd (di_tup (dv 1)) (blkOk_by (N := ["many", "value", "one"]) (sc := defScope s_fit_shares) (own := [("one", 2)]) (by decide +kernel)) (fun _ _ _ _ _ => (dg_name (i := 2) nd rfl (Or.inl rfl) (by decide))) (fun _ _ _ _ _ => dp_nil) (fun _ _ _ _ _ => (d_callD g_fits_fraction (hr.mono (by decide)) (da_cons (dv 2) (da_cons d_int (da_cons (d_globI (by rfl) m_FAR) (da_cons (d_globI (by rfl) m_FAR) da_nil))))))) da_nil)) (d_one (d_eq (hu64 hr) (d_callD g_total (hr.mono (by decide)) (da_cons (dv 1) da_nil)) (d_tup (da_cons d_int (da_cons d_int da_nil)))))))))) rd_fit_shares
/-! ### factors_of -/
def sp_factors_of : DSp := fun ds μ Q _ => ∃ (os : List Rat) (s0 : Rat) (ss : List Rat), ds = [.tup (fL os), .tup (fL (s0 :: ss))] ∧ ss.length = os.length ∧ os.length ≤ 60 ∧ (∀ o ∈ os, Bz 20 o) ∧ (∀ s ∈ s0 :: ss, Bz 110 s) ∧ Q (.tup (fL (facs os s0 ss))) μ
theorem ln_factors_of (ds : List D) (μ Q E) (h : sp_factors_of ds μ Q E) : ds.length = 2 := by
  obtain ⟨os, s0, ss, rfl, _⟩ := h
  rfl
abbrev s_factors_of : Stmt := top 31
theorem sc_factors_of : FnScope ["odds", "shares", "share", "one"] ["odds", "shares"] (defScope s_factors_of) := ⟨rfl, rfl, rfl, by decide +kernel, rfl, by decide +kernel, by decide +kernel⟩
def t_factors_of : DS := (dRet (dCall bTup (dCons (dLc (diZip2 .t .t (dCons (dSlice (dVar 1) (dPart (dC (.int 1))) dNo) (dCons (dVar 0) dNil))) (dgTup (dgCons (dgName 2) (dgCons (dgName 3) dgNil))) dYes (dCallF sp_plus (dCons (dOp dIx (dVar 1) (dC (.int 0))) (dCons (dCallF sp_times (dCons (dVar 2) (dCons (dVar 3) dNil))) dNil))) [2, 3]) dNil)))
theorem rd_factors_of (ds : List D) (μ : Mu) (Q : DQ) (E) (h : sp_factors_of ds μ Q E) : t_factors_of { nx := fun _ μ' => Q .non μ', rt := Q } (ds.map some ++ List.replicate (4 - ds.length) none) μ := by
  obtain ⟨os, s0, ss, rfl, hl, h60, hz, hs, q⟩ := h
  unfold t_factors_of
  simp only [dRaise, dCallX, dRet, dRetN, dSeq, dNext, dDrop, dIfS, dNever, dAsg, dPar, dPar3, dgName, dgTup, dgLst, dgNil, dgCons, dgSub, dOp, dTest, dChain, dVar, dFrz, dC, dAdd, dSub, dMulT, dDiv, dMod, dPow, dLt, dLe, dGt, dGe, dInt0, dInt2, dEq, dNe, dIn, dNotIn, dIsN, dNotN, dAnd, dOr, dNot, dAndV, dOrV, dNotV, dIf, dNil, dCons, dTup, dLst, dLstM, dIx, dSlice, dNo, dPart, dCall, dCallF, bAbs, bLen, bSum, bAll, bAny, bInt, bStr, bTup, bLst, bIsi, dLc_eq, dFor_eq, dWhile_eq, diLst, diTup, diRng1, diRng2, diZip2, diZip3, diEnum, diSeq, dYes, dAppend, dRepL, dJoin, dSplit, List.getElem?_cons_zero, List.getElem?_cons_succ, List.set_cons_zero, List.set_cons_succ, List.map_cons, List.map_nil, List.cons_append, List.nil_append, List.replicate, List.length_cons, List.length_nil, dwipe, atI_0, atI_1, ex_some, fL, cut_from1]
  refine ⟨ss.map fr, os.map fr, rfl, by simp [hl], ?_⟩
  refine LcB.mp (ss.zip os) (fun p => .tup [fr p.1, fr p.2]) (fun p => fr (s0 + p.1 * p.2)) (zip2D_map fr fr ss os) ?_ ?_ ?_
  · simp only [List.length_zip, hl, Nat.min_self]
    exact Nat.le_trans h60 (by decide)
  · rintro ⟨s, o⟩ hp R hR
    obtain ⟨hp1, hp2⟩ := List.of_mem_zip hp
    have b0 := hs s0 (by simp)
    have b1 := hs s (by simp [hp1])
    have b2 := hz o hp2
    simp only [dRaise, dCallX, dRet, dRetN, dSeq, dNext, dDrop, dIfS, dNever, dAsg, dPar, dPar3, dgName, dgTup, dgLst, dgNil, dgCons, dgSub, dOp, dTest, dChain, dVar, dFrz, dC, dAdd, dSub, dMulT, dDiv, dMod, dPow, dLt, dLe, dGt, dGe, dInt0, dInt2, dEq, dNe, dIn, dNotIn, dIsN, dNotN, dAnd, dOr, dNot, dAndV, dOrV, dNotV, dIf, dNil, dCons, dTup, dLst, dLstM, dIx, dSlice, dNo, dPart, dCall, dCallF, bAbs, bLen, bSum, bAll, bAny, bInt, bStr, bTup, bLst, bIsi, dLc_eq, dFor_eq, dWhile_eq, diLst, diTup, diRng1, diRng2, diZip2, diZip3, diEnum, diSeq, dYes, dAppend, dRepL, dJoin, dSplit, List.getElem?_cons_zero, List.getElem?_cons_succ, List.set_cons_zero, List.set_cons_succ, List.map_cons, List.map_nil, List.cons_append, List.nil_append, List.replicate, List.length_cons, List.length_nil, dwipe, atI_0, atI_1, ex_some]
    exact ⟨s, o, 110, 20, rfl, b1, b2, by decide, s0, s * o, 110, 130, rfl, b0, b1.mul b2, by decide, hR⟩
  · simp only [facs, fL, List.map_map] at q
    exact q
theorem ok_factors_of (d : Dn K mg "factors_of" s_factors_of) (b_tuple : mg "tuple" = none) (b_zip : mg "zip" = none) (g_plus : Dk P w K mg base "plus" 3 ["one", "other"] sp_plus) (g_times : Dk P w K mg base "times" 3 ["one", "other"] sp_times) : Dk P w K mg base "factors_of" 4 ["odds", "shares"] sp_factors_of :=
  Dk.of d sc_factors_of ln_factors_of (fun _ _ _ _ _ _ us hl => match us, hl with | [_, _], _ => rfl) t_factors_of (fun F0 f cdv A outer s H E hr => by
    have nd := sc_factors_of.nd
    exact (ds_one (ds_ret (d_callTy call_tuple_of lc_tup (by rfl) b_tuple bt_tuple (da_cons (d_lc (own := [("share", 2), ("one", 3)]) rfl nd (di_zip2 .t .t (by rfl) b_zip (da_cons (d_slice (dv 1) (do_some d_int) do_no) (da_cons (dv 0) da_nil))) (blkOk_by (N := ["odds", "shares", "share", "one"]) (sc := defScope s_factors_of) (own := [("share", 2), ("one", 3)]) (by decide +kernel)) (fun _ _ _ _ _ => (dg_tup 2 rfl (dgs_cons (dg_name (i := 2) nd rfl (Or.inl rfl) (by decide)) (dgs_cons (dg_name (i := 3) nd rfl (Or.inl rfl) (by decide)) dgs_nil)) (gl_cons (gl_cons (fun _ _ _ _ h => gl_nil h) gx_name) gx_name))) (fun _ _ _ _ _ => dp_nil) (fun _ _ _ _ _ => (d_callD g_plus (hr.mono (by decide)) (da_cons (d_ix (dv 1) d_int) (da_cons (d_callD g_times (hr.mono (by decide)) (da_cons (dv 2) (da_cons (dv 3) da_nil))) da_nil))))) da_nil))))) rd_factors_of
/-! ### mean_of -/
def sp_mean_of : DSp := fun ds μ Q _ => ∃ (ws : List Int) (xs : List Rat) (k : Nat), ds = [.tup (wL ws), .lst (fL xs)] ∧ ws.length = xs.length ∧ ws.length ≤ 60 ∧ (∀ w ∈ ws, w.natAbs < 2 ^ 16) ∧ 0 < ws.sum ∧ ws.sum.natAbs < 2 ^ 16 ∧ (∀ x ∈ xs, Bz k x) ∧ xs.length * (16 + k + 1) ≤ 8000 ∧ Q (fr (meanR ws xs)) μ
theorem ln_mean_of (ds : List D) (μ Q E) (h : sp_mean_of ds μ Q E) : ds.length = 2 := by
  obtain ⟨ws, xs, k, rfl, _⟩ := h
  rfl
abbrev s_mean_of : Stmt := top 32
theorem sc_mean_of : FnScope ["weights", "some", "weight", "one"] ["weights", "some"] (defScope s_mean_of) := ⟨rfl, rfl, rfl, by decide +kernel, rfl, by decide +kernel, by decide +kernel⟩
def t_mean_of : DS := (dRet (dCallF sp_total (dCons (dLc (diZip2 .t .l (dCons (dVar 0) (dCons (dVar 1) dNil))) (dgTup (dgCons (dgName 2) (dgCons (dgName 3) dgNil))) dYes (dCallF sp_times (dCons (dCallF sp_made (dCons (dVar 2) (dCons (dCall bSum (dCons (dVar 0) dNil)) dNil))) (dCons (dVar 3) dNil))) [2, 3]) dNil)))
theorem rd_mean_of (ds : List D) (μ : Mu) (Q : DQ) (E) (h : sp_mean_of ds μ Q E) : t_mean_of { nx := fun _ μ' => Q .non μ', rt := Q } (ds.map some ++ List.replicate (4 - ds.length) none) μ := by
  obtain ⟨ws, xs, k, rfl, hl, h60, hw, hs0, hs, hz, hsz, q⟩ := h
  have bw : ∀ w ∈ ws, Bz 16 ((w : Rat) / ((ws.sum : Int) : Rat)) := fun w hw' => .frac hs0 (hw w hw') hs
  unfold t_mean_of
  simp only [dRaise, dCallX, dRet, dRetN, dSeq, dNext, dDrop, dIfS, dNever, dAsg, dPar, dPar3, dgName, dgTup, dgLst, dgNil, dgCons, dgSub, dOp, dTest, dChain, dVar, dFrz, dC, dAdd, dSub, dMulT, dDiv, dMod, dPow, dLt, dLe, dGt, dGe, dInt0, dInt2, dEq, dNe, dIn, dNotIn, dIsN, dNotN, dAnd, dOr, dNot, dAndV, dOrV, dNotV, dIf, dNil, dCons, dTup, dLst, dLstM, dIx, dSlice, dNo, dPart, dCall, dCallF, bAbs, bLen, bSum, bAll, bAny, bInt, bStr, bTup, bLst, bIsi, dLc_eq, dFor_eq, dWhile_eq, diLst, diTup, diRng1, diRng2, diZip2, diZip3, diEnum, diSeq, dYes, dAppend, dRepL, dJoin, dSplit, List.getElem?_cons_zero, List.getElem?_cons_succ, List.set_cons_zero, List.set_cons_succ, List.map_cons, List.map_nil, List.cons_append, List.nil_append, List.replicate, List.length_cons, List.length_nil, dwipe, atI_0, atI_1, ex_some]
  refine ⟨wL ws, fL xs, rfl, by simp [wL, fL, hl], ?_⟩
  refine LcB.mp (ws.zip xs) (fun p => .tup [.int p.1, fr p.2]) (fun p => fr ((p.1 : Rat) / ((ws.sum : Int) : Rat) * p.2)) (zip2D_map D.int fr ws xs) ?_ ?_ ?_
  · simp only [List.length_zip, ← hl, Nat.min_self]
    exact Nat.le_trans h60 (by decide)
  · rintro ⟨w, x⟩ hp R hR
    obtain ⟨hp1, hp2⟩ := List.of_mem_zip hp
    have k1 : k ≤ 8000 := by
      have : 1 ≤ xs.length := List.length_pos_iff.mpr (List.ne_nil_of_mem hp2)
      have : 1 * (16 + k + 1) ≤ xs.length * (16 + k + 1) := Nat.mul_le_mul_right _ this
      omega
    simp only [dRaise, dCallX, dRet, dRetN, dSeq, dNext, dDrop, dIfS, dNever, dAsg, dPar, dPar3, dgName, dgTup, dgLst, dgNil, dgCons, dgSub, dOp, dTest, dChain, dVar, dFrz, dC, dAdd, dSub, dMulT, dDiv, dMod, dPow, dLt, dLe, dGt, dGe, dInt0, dInt2, dEq, dNe, dIn, dNotIn, dIsN, dNotN, dAnd, dOr, dNot, dAndV, dOrV, dNotV, dIf, dNil, dCons, dTup, dLst, dLstM, dIx, dSlice, dNo, dPart, dCall, dCallF, bAbs, bLen, bSum, bAll, bAny, bInt, bStr, bTup, bLst, bIsi, dLc_eq, dFor_eq, dWhile_eq, diLst, diTup, diRng1, diRng2, diZip2, diZip3, diEnum, diSeq, dYes, dAppend, dRepL, dJoin, dSplit, List.getElem?_cons_zero, List.getElem?_cons_succ, List.set_cons_zero, List.set_cons_succ, List.map_cons, List.map_nil, List.cons_append, List.nil_append, List.replicate, List.length_cons, List.length_nil, dwipe, atI_0, atI_1, ex_some]
    exact ⟨ws, rfl, w, ws.sum, 16, rfl, hs0, hs, by decide, _, x, 16, k, rfl, bw w hp1, hz x hp2, by omega, hR⟩
  · refine ⟨(ws.zip xs).map fun p => (p.1 : Rat) / ((ws.sum : Int) : Rat) * p.2, 16 + k, .inl (by simp [fL]), ?_, ?_, q⟩
    · intro x hx
      obtain ⟨⟨w, y⟩, hp, rfl⟩ := List.mem_map.mp hx
      obtain ⟨hp1, hp2⟩ := List.of_mem_zip hp
      exact (bw w hp1).mul (hz y hp2)
    · simp only [List.length_map, List.length_zip, hl, Nat.min_self]
      exact hsz
theorem ok_mean_of (d : Dn K mg "mean_of" s_mean_of) (b_zip : mg "zip" = none) (b_sum : mg "sum" = none) (g_total : Dk P w K mg base "total" 4 ["some"] sp_total) (g_times : Dk P w K mg base "times" 3 ["one", "other"] sp_times) (g_made : Dk P w K mg base "made" 2 ["top", "below"] sp_made) : Dk P w K mg base "mean_of" 5 ["weights", "some"] sp_mean_of :=
  Dk.of d sc_mean_of ln_mean_of (fun _ _ _ _ _ _ us hl => match us, hl with | [_, _], _ => rfl) t_mean_of (fun F0 f cdv A outer s H E hr => by
    have nd := sc_mean_of.nd
    exact (ds_one (ds_ret (d_callD g_total (hr.mono (by decide)) (da_cons (d_lc (own := [("weight", 2), ("one", 3)]) rfl nd (di_zip2 .t .l (by rfl) b_zip (da_cons (dv 0) (da_cons (dv 1) da_nil))) (blkOk_by (N := ["weights", "some", "weight", "one"]) (sc := defScope s_mean_of) (own := [("weight", 2), ("one", 3)]) (by decide +kernel)) (fun _ _ _ _ _ => (dg_tup 2 rfl (dgs_cons (dg_name (i := 2) nd rfl (Or.inl rfl) (by decide)) (dgs_cons (dg_name (i := 3) nd rfl (Or.inl rfl) (by decide)) dgs_nil)) (gl_cons (gl_cons (fun _ _ _ _ h => gl_nil h) gx_name) gx_name))) (fun _ _ _ _ _ => dp_nil) (fun _ _ _ _ _ => (d_callD g_times (hr.mono (by decide)) (da_cons (d_callD g_made (hr.mono (by decide)) (da_cons (dv 2) (da_cons (d_callB ((cr_sum rfl).or (cr_sumT rfl)) lc_sum (by rfl) b_sum bb_sum (da_cons (dv 0) da_nil)) da_nil))) (da_cons (dv 3) da_nil))))) da_nil))))) rd_mean_of
/-! ### chances_of -/
def sp_chances_of : DSp := fun ds μ Q _ => ∃ (ws : List Int), ds = [.tup (wL ws)] ∧ ws.length ≤ 60 ∧ (∀ w ∈ ws, w.natAbs < 2 ^ 16) ∧ 0 < ws.sum ∧ ws.sum.natAbs < 2 ^ 16 ∧ Q (.lst (fL (chs ws))) μ
theorem ln_chances_of (ds : List D) (μ Q E) (h : sp_chances_of ds μ Q E) : ds.length = 1 := by
  obtain ⟨ws, rfl, _⟩ := h
  rfl
abbrev s_chances_of : Stmt := top 35
theorem sc_chances_of : FnScope ["weights", "weight"] ["weights"] (defScope s_chances_of) := ⟨rfl, rfl, rfl, by decide +kernel, rfl, by decide +kernel, by decide +kernel⟩
def t_chances_of : DS := (dRet (dLc (diTup (dVar 0)) (dgName 1) dYes (dCallF sp_made (dCons (dVar 1) (dCons (dCall bSum (dCons (dVar 0) dNil)) dNil))) [1]))
theorem rd_chances_of (ds : List D) (μ : Mu) (Q : DQ) (E) (h : sp_chances_of ds μ Q E) : t_chances_of { nx := fun _ μ' => Q .non μ', rt := Q } (ds.map some ++ List.replicate (2 - ds.length) none) μ := by
  obtain ⟨ws, rfl, h60, hw, hs0, hs, q⟩ := h
  unfold t_chances_of
  simp only [dRaise, dCallX, dRet, dRetN, dSeq, dNext, dDrop, dIfS, dNever, dAsg, dPar, dPar3, dgName, dgTup, dgLst, dgNil, dgCons, dgSub, dOp, dTest, dChain, dVar, dFrz, dC, dAdd, dSub, dMulT, dDiv, dMod, dPow, dLt, dLe, dGt, dGe, dInt0, dInt2, dEq, dNe, dIn, dNotIn, dIsN, dNotN, dAnd, dOr, dNot, dAndV, dOrV, dNotV, dIf, dNil, dCons, dTup, dLst, dLstM, dIx, dSlice, dNo, dPart, dCall, dCallF, bAbs, bLen, bSum, bAll, bAny, bInt, bStr, bTup, bLst, bIsi, dLc_eq, dFor_eq, dWhile_eq, diLst, diTup, diRng1, diRng2, diZip2, diZip3, diEnum, diSeq, dYes, dAppend, dRepL, dJoin, dSplit, List.getElem?_cons_zero, List.getElem?_cons_succ, List.set_cons_zero, List.set_cons_succ, List.map_cons, List.map_nil, List.cons_append, List.nil_append, List.replicate, List.length_cons, List.length_nil, dwipe, atI_0, atI_1, ex_some]
  refine LcB.mp ws D.int (fun w => fr ((w : Rat) / ((ws.sum : Int) : Rat))) rfl (Nat.le_trans h60 (by decide)) ?_ ?_
  · intro w hp R hR
    simp only [dRaise, dCallX, dRet, dRetN, dSeq, dNext, dDrop, dIfS, dNever, dAsg, dPar, dPar3, dgName, dgTup, dgLst, dgNil, dgCons, dgSub, dOp, dTest, dChain, dVar, dFrz, dC, dAdd, dSub, dMulT, dDiv, dMod, dPow, dLt, dLe, dGt, dGe, dInt0, dInt2, dEq, dNe, dIn, dNotIn, dIsN, dNotN, dAnd, dOr, dNot, dAndV, dOrV, dNotV, dIf, dNil, dCons, dTup, dLst, dLstM, dIx, dSlice, dNo, dPart, dCall, dCallF, bAbs, bLen, bSum, bAll, bAny, bInt, bStr, bTup, bLst, bIsi, dLc_eq, dFor_eq, dWhile_eq, diLst, diTup, diRng1, diRng2, diZip2, diZip3, diEnum, diSeq, dYes, dAppend, dRepL, dJoin, dSplit, List.getElem?_cons_zero, List.getElem?_cons_succ, List.set_cons_zero, List.set_cons_succ, List.map_cons, List.map_nil, List.cons_append, List.nil_append, List.replicate, List.length_cons, List.length_nil, dwipe, atI_0, atI_1, ex_some]
    exact ⟨ws, rfl, w, ws.sum, 16, rfl, hs0, hs, by decide, hR⟩
  · simp only [chs, fL, List.map_map] at q
    exact q
theorem ok_chances_of (d : Dn K mg "chances_of" s_chances_of) (b_sum : mg "sum" = none) (g_made : Dk P w K mg base "made" 2 ["top", "below"] sp_made) : Dk P w K mg base "chances_of" 3 ["weights"] sp_chances_of :=
  Dk.of d sc_chances_of ln_chances_of (fun _ _ _ _ _ _ us hl => match us, hl with | [_], _ => rfl) t_chances_of (fun F0 f cdv A outer s H E hr => by
    have nd := sc_chances_of.nd
    exact (ds_one (ds_ret (d_lc (own := [("weight", 1)]) rfl nd (di_tup (dv 0)) (blkOk_by (N := ["weights", "weight"]) (sc := defScope s_chances_of) (own := [("weight", 1)]) (by decide +kernel)) (fun _ _ _ _ _ => (dg_name (i := 1) nd rfl (Or.inl rfl) (by decide))) (fun _ _ _ _ _ => dp_nil) (fun _ _ _ _ _ => (d_callD g_made (hr.mono (by decide)) (da_cons (dv 1) (da_cons (d_callB ((cr_sum rfl).or (cr_sumT rfl)) lc_sum (by rfl) b_sum bb_sum (da_cons (dv 0) da_nil)) da_nil)))))))) rd_chances_of
/-! ### gains_of -/
def sp_gains_of : DSp := fun ds μ Q _ => ∃ (ws : List Int) (os : List Rat) (s0 : Rat) (ss : List Rat), ds = [.tup [.tup (wL ws), .tup (fL os)], .tup (fL (s0 :: ss))] ∧ GamOk ws os ∧ ShOk os.length s0 ss ∧ Q (optD (gainsO ws os s0 ss)) μ
theorem ln_gains_of (ds : List D) (μ Q E) (h : sp_gains_of ds μ Q E) : ds.length = 2 := by
  obtain ⟨ws, os, s0, ss, rfl, _⟩ := h
  rfl
abbrev s_gains_of : Stmt := top 36
theorem sc_gains_of : FnScope ["game", "shares", "some", "kept", "laid", "one", "part", "two"] ["game", "shares"] (defScope s_gains_of) := ⟨rfl, rfl, rfl, by decide +kernel, rfl, by decide +kernel, by decide +kernel⟩
def t_gains_of : DS := (dSeq (dAsg (dCallF sp_factors_of (dCons (dOp dIx (dVar 0) (dC (.int 1))) (dCons (dVar 1) dNil))) (dgName 2))
  (dSeq (dIfS (dTest (dOp dIn (dTup (dCons (dC (.int 0)) (dCons (dC (.int 1)) dNil))) (dVar 2))) (dRet (dC .non)) dNext)
  (dSeq (dAsg (dCallF sp_mean_of (dCons (dOp dIx (dVar 0) (dC (.int 0))) (dCons (dLc (diTup (dVar 2)) (dgName 5) dYes (dCallF sp_over (dCons (dTup (dCons (dC (.int 1)) (dCons (dC (.int 1)) dNil))) (dCons (dVar 5) dNil))) [5]) dNil))) (dgName 3))
  (dSeq (dAsg (dLc (diZip3 .l .t .t (dCons (dCallF sp_chances_of (dCons (dOp dIx (dVar 0) (dC (.int 0))) dNil)) (dCons (dOp dIx (dVar 0) (dC (.int 1))) (dCons (dVar 2) dNil)))) (dgTup (dgCons (dgName 6) (dgCons (dgName 5) (dgCons (dgName 7) dgNil)))) dYes (dCallF sp_over (dCons (dCallF sp_times (dCons (dVar 6) (dCons (dVar 5) dNil))) (dCons (dVar 7) dNil))) [6, 5, 7]) (dgName 4))
  (dRet (dOp dAdd (dTup (dCons (dVar 3) dNil)) (dCall bTup (dCons (dVar 4) dNil))))))))
theorem any_fr (x : Rat) (xs : List Rat) : ((fL xs).any fun z => eqD z (fr x)) = decide (x ∈ xs) := by
  unfold fL
  rw [List.any_map]
  induction xs with
  | nil => rfl
  | cons a r ih =>
    rw [List.any_cons, ih]
    simp only [Function.comp, eqD_fr]
    by_cases h : a = x
    · subst h; simp
    · have h' : ¬ x = a := fun z => h z.symm
      simp [h, h']
theorem shp_fL (xs : List Rat) : shp (.tup (fL xs)) = true := Enc.shp (Enc.tup Enc.fr) (by decide) xs
theorem rd_gains_of (ds : List D) (μ : Mu) (Q : DQ) (E) (h : sp_gains_of ds μ Q E) : t_gains_of { nx := fun _ μ' => Q .non μ', rt := Q } (ds.map some ++ List.replicate (8 - ds.length) none) μ := by
  obtain ⟨ws, os, s0, ss, rfl, g, sh, q⟩ := h
  have hf := facs_all g.on g.oz sh
  have hfl := facs_len (s0 := s0) sh.len
  unfold t_gains_of
  simp only [dRaise, dCallX, dRet, dRetN, dSeq, dNext, dDrop, dIfS, dNever, dAsg, dPar, dPar3, dgName, dgTup, dgLst, dgNil, dgCons, dgSub, dOp, dTest, dChain, dVar, dFrz, dC, dAdd, dSub, dMulT, dDiv, dMod, dPow, dLt, dLe, dGt, dGe, dInt0, dInt2, dEq, dNe, dIn, dNotIn, dIsN, dNotN, dAnd, dOr, dNot, dAndV, dOrV, dNotV, dIf, dNil, dCons, dTup, dLst, dLstM, dIx, dSlice, dNo, dPart, dCall, dCallF, bAbs, bLen, bSum, bAll, bAny, bInt, bStr, bTup, bLst, bIsi, dLc_eq, dFor_eq, dWhile_eq, diLst, diTup, diRng1, diRng2, diZip2, diZip3, diEnum, diSeq, dYes, dAppend, dRepL, dJoin, dSplit, List.getElem?_cons_zero, List.getElem?_cons_succ, List.set_cons_zero, List.set_cons_succ, List.map_cons, List.map_nil, List.cons_append, List.nil_append, List.replicate, List.length_cons, List.length_nil, dwipe, atI_0, atI_1, ex_some]
  refine ⟨os, s0, ss, rfl, sh.len, Nat.le_trans g.few (by decide), g.oz, fun s hs => ?_, ?_⟩
  · rcases List.mem_cons.mp hs with rfl | hs
    · exact sh.z0
    · exact sh.zz s hs
  · simp only [fr_zero, fr_one, shp_fr, shp_fL, any_fr, true_and]
    refine ⟨by decide, ?_⟩
    by_cases h0 : (0 : Rat) ∈ facs os s0 ss
    · rw [if_pos (decide_eq_true h0)]
      have e : gainsO ws os s0 ss = none := if_pos h0
      rw [e] at q
      exact q
    · rw [if_neg (by rw [decide_eq_false h0]; decide)]
      have e : gainsO ws os s0 ss = some (gainsR ws os (facs os s0 ss)) := if_neg h0
      rw [e] at q
      have fp : ∀ f ∈ facs os s0 ss, 0 < f := fun f hm => by
        have h1 := (hf f hm).1
        have h2 : f ≠ 0 := fun z => h0 (z ▸ hm)
        grind
      generalize hfs : facs os s0 ss = fs at *
      have bi : ∀ f ∈ fs, Bz 242 (1 / f) := fun f hm => (Bz.div (k := 1) (r := 1) ⟨by decide, by decide⟩ (hf f hm).2 (fp f hm)).mono (by decide)
      have sl : fs.length ≤ sizeLine := by rw [hfl]; exact Nat.le_trans g.few (by decide)
      refine LcB.mp fs fr (fun f => fr (1 / f)) rfl sl ?_ ?_
      · intro f hm R hR
        simp only [dRaise, dCallX, dRet, dRetN, dSeq, dNext, dDrop, dIfS, dNever, dAsg, dPar, dPar3, dgName, dgTup, dgLst, dgNil, dgCons, dgSub, dOp, dTest, dChain, dVar, dFrz, dC, dAdd, dSub, dMulT, dDiv, dMod, dPow, dLt, dLe, dGt, dGe, dInt0, dInt2, dEq, dNe, dIn, dNotIn, dIsN, dNotN, dAnd, dOr, dNot, dAndV, dOrV, dNotV, dIf, dNil, dCons, dTup, dLst, dLstM, dIx, dSlice, dNo, dPart, dCall, dCallF, bAbs, bLen, bSum, bAll, bAny, bInt, bStr, bTup, bLst, bIsi, dLc_eq, dFor_eq, dWhile_eq, diLst, diTup, diRng1, diRng2, diZip2, diZip3, diEnum, diSeq, dYes, dAppend, dRepL, dJoin, dSplit, List.getElem?_cons_zero, List.getElem?_cons_succ, List.set_cons_zero, List.set_cons_succ, List.map_cons, List.map_nil, List.cons_append, List.nil_append, List.replicate, List.length_cons, List.length_nil, dwipe, atI_0, atI_1, ex_some, fr_one]
        exact ⟨by decide, 1, f, 1, 241, rfl, ⟨by decide, by decide⟩, (hf f hm).2, by decide, fp f hm, hR⟩
      · refine ⟨ws, fs.map fun f => 1 / f, 242, ?_, ?_, ?_, g.wz, g.ws0, g.sz, ?_, ?_, ?_⟩
        · simp [fL]
        · simp [hfl, g.len]
        · rw [g.len]
          exact Nat.le_trans g.few (by decide)
        · intro x hx
          obtain ⟨f, hm, rfl⟩ := List.mem_map.mp hx
          exact bi f hm
        · rw [List.length_map, hfl]
          have := g.few
          omega
        · refine ⟨ws, rfl, ?_, g.wz, g.ws0, g.sz, ?_⟩
          · rw [g.len]
            exact Nat.le_trans g.few (by decide)
          · refine ⟨fL (chs ws), fL os, fL fs, rfl, ?_, ?_, ?_⟩
            · simp [fL, chs, g.len]
            · simp [fL, chs, g.len, hfl]
            · refine LcB.mp ((chs ws).zip (os.zip fs)) (fun p => .tup [fr p.1, fr p.2.1, fr p.2.2]) (fun p => fr (p.1 * p.2.1 / p.2.2)) (zip3D_map fr fr fr _ _ _) ?_ ?_ ?_
              · simp only [List.length_zip, chs, List.length_map, g.len, hfl, Nat.min_self]
                exact Nat.le_trans g.few (by decide)
              · rintro ⟨c, o, f⟩ hp R hR
                obtain ⟨hp1, hp2⟩ := List.of_mem_zip hp
                obtain ⟨hp2, hp3⟩ := List.of_mem_zip hp2
                have bc : Bz 16 c := by
                  obtain ⟨w, hw, rfl⟩ := List.mem_map.mp hp1
                  exact .frac g.ws0 (g.wz w hw) g.sz
                have bo := g.oz o hp2
                simp only [dRaise, dCallX, dRet, dRetN, dSeq, dNext, dDrop, dIfS, dNever, dAsg, dPar, dPar3, dgName, dgTup, dgLst, dgNil, dgCons, dgSub, dOp, dTest, dChain, dVar, dFrz, dC, dAdd, dSub, dMulT, dDiv, dMod, dPow, dLt, dLe, dGt, dGe, dInt0, dInt2, dEq, dNe, dIn, dNotIn, dIsN, dNotN, dAnd, dOr, dNot, dAndV, dOrV, dNotV, dIf, dNil, dCons, dTup, dLst, dLstM, dIx, dSlice, dNo, dPart, dCall, dCallF, bAbs, bLen, bSum, bAll, bAny, bInt, bStr, bTup, bLst, bIsi, dLc_eq, dFor_eq, dWhile_eq, diLst, diTup, diRng1, diRng2, diZip2, diZip3, diEnum, diSeq, dYes, dAppend, dRepL, dJoin, dSplit, List.getElem?_cons_zero, List.getElem?_cons_succ, List.set_cons_zero, List.set_cons_succ, List.map_cons, List.map_nil, List.cons_append, List.nil_append, List.replicate, List.length_cons, List.length_nil, dwipe, atI_0, atI_1, ex_some]
                exact ⟨c, o, 16, 20, rfl, bc, bo, by decide, c * o, f, 36, 241, rfl, bc.mul bo, (hf f hp3).2, by decide, fp f hp3, hR⟩
              · simp only [List.length_map, List.length_zip, chs, g.len, hfl, Nat.min_self, optD, gainsR, fL, List.map_cons, List.map_map] at q ⊢
                refine ⟨by decide, by have := g.few; rw [sizeLine_eq]; omega, ?_⟩
                exact q
theorem ok_gains_of (d : Dn K mg "gains_of" s_gains_of) (b_zip : mg "zip" = none) (b_tuple : mg "tuple" = none) (g_factors_of : Dk P w K mg base "factors_of" 4 ["odds", "shares"] sp_factors_of) (g_mean_of : Dk P w K mg base "mean_of" 5 ["weights", "some"] sp_mean_of) (g_over : Dk P w K mg base "over" 3 ["one", "other"] sp_over) (g_chances_of : Dk P w K mg base "chances_of" 3 ["weights"] sp_chances_of) (g_times : Dk P w K mg base "times" 3 ["one", "other"] sp_times) : Dk P w K mg base "gains_of" 6 ["game", "shares"] sp_gains_of :=
  Dk.of d sc_gains_of ln_gains_of (fun _ _ _ _ _ _ us hl => match us, hl with | [_, _], _ => rfl) t_gains_of (fun F0 f cdv A outer s H E hr => by
    have nd := sc_gains_of.nd
    exact (ds_cons (ds_set (i := 2) nd rfl (Or.inl rfl) (d_callD g_factors_of (hr.mono (by decide)) (da_cons (d_ix (dv 0) d_int) (da_cons (dv 1) da_nil))))
      (ds_cons (ds_if (d_inT (hu65 hr) (d_tup (da_cons d_int (da_cons d_int da_nil))) (dv 2)) (ds_one (ds_ret d_non)) ds_nil)
      (ds_cons (ds_set (i := 3) nd rfl (Or.inl rfl) (d_callD g_mean_of (hr.mono (by decide)) (da_cons (d_ix (dv 0) d_int) (da_cons (d_lc (own := [("one", 5)]) rfl nd (di_tup (dv 2)) (blkOk_by (N := ["game", "shares", "some", "kept", "laid", "one", "part", "two"]) (sc := defScope s_gains_of) (own := [("one", 5)]) (by decide +kernel)) (fun _ _ _ _ _ => (dg_name (i := 5) nd rfl (Or.inl rfl) (by decide))) (fun _ _ _ _ _ => dp_nil) (fun _ _ _ _ _ => (d_callD g_over (hr.mono (by decide)) (da_cons (d_tup (da_cons d_int (da_cons d_int da_nil))) (da_cons (dv 5) da_nil))))) da_nil))))
      (ds_cons (ds_setLc (i := 4) (own := [("part", 6), ("one", 5), ("two", 7)]) rfl nd rfl rfl (sw_true rfl rfl rfl (by decide +kernel)) (di_zip3 .l .t .t (by rfl) b_zip (da_cons (d_callD g_chances_of (hr.mono (by decide)) (da_cons (d_ix (dv 0) d_int) da_nil)) (da_cons (d_ix (dv 0) d_int) (da_cons (dv 2) da_nil)))) (blkOk_by (N := ["game", "shares", "some", "kept", "laid", "one", "part", "two"]) (sc := defScope s_gains_of) (own := [("part", 6), ("one", 5), ("two", 7)]) (by decide +kernel)) (fun _ _ _ _ _ => (dg_tup 3 rfl (dgs_cons (dg_name (i := 6) nd rfl (Or.inl rfl) (by decide)) (dgs_cons (dg_name (i := 5) nd rfl (Or.inl rfl) (by decide)) (dgs_cons (dg_name (i := 7) nd rfl (Or.inl rfl) (by decide)) dgs_nil))) (gl_cons (gl_cons (gl_cons (fun _ _ _ _ h => gl_nil h) gx_name) gx_name) gx_name))) (fun _ _ _ _ _ => dp_nil) (fun _ _ _ _ _ => (d_callD g_over (hr.mono (by decide)) (da_cons (d_callD g_times (hr.mono (by decide)) (da_cons (dv 6) (da_cons (dv 5) da_nil))) (da_cons (dv 7) da_nil)))))
      (ds_one (ds_ret (d_add (d_tup (da_cons (dv 3) da_nil)) (d_callTy call_tuple_of lc_tup (by rfl) b_tuple bt_tuple (da_cons (dv 4) da_nil)))))))))) rd_gains_of
/-! ### are_best -/
def sp_are_best : DSp := fun ds μ Q _ => ∃ (ws : List Int) (os : List Rat) (s0 : Rat) (ss : List Rat), ds = [.tup [.tup (wL ws), .tup (fL os)], .tup (fL (s0 :: ss))] ∧ GamOk ws os ∧ ShOk os.length s0 ss ∧ Q (.bl (bestB ws os s0 ss)) μ
theorem ln_are_best (ds : List D) (μ Q E) (h : sp_are_best ds μ Q E) : ds.length = 2 := by
  obtain ⟨ws, os, s0, ss, rfl, _⟩ := h
  rfl
abbrev s_are_best : Stmt := top 37
theorem sc_are_best : FnScope ["game", "shares", "some", "one"] ["game", "shares"] (defScope s_are_best) := ⟨rfl, rfl, rfl, by decide +kernel, rfl, by decide +kernel, by decide +kernel⟩
def t_are_best : DS := (dSeq (dAsg (dCallF sp_gains_of (dCons (dVar 0) (dCons (dVar 1) dNil))) (dgName 2))
  (dRet (dAndV (dOp dNotN (dVar 2) (dC .non)) (dCall bAll (dCons (dLc (diTup (dVar 2)) (dgName 3) dYes (dNotV (dCallF sp_is_less (dCons (dTup (dCons (dC (.int 1)) (dCons (dC (.int 1)) dNil))) (dCons (dVar 3) dNil)))) [3]) dNil)))))
theorem gains_bz {ws : List Int} {os : List Rat} {s0 : Rat} {ss : List Rat} {gs : List Rat} (g : GamOk ws os) (sh : ShOk os.length s0 ss) (e : gainsO ws os s0 ss = some gs) : gs.length ≤ 6 ∧ ∀ x ∈ gs, Bz 2000 x := by
  have hf := facs_all g.on g.oz sh
  have hfl := facs_len (s0 := s0) sh.len
  by_cases h0 : (0 : Rat) ∈ facs os s0 ss
  · rw [show gainsO ws os s0 ss = none from if_pos h0] at e
    cases e
  · rw [show gainsO ws os s0 ss = some (gainsR ws os (facs os s0 ss)) from if_neg h0] at e
    cases e
    have fp : ∀ f ∈ facs os s0 ss, 0 < f := fun f hm => by
      have h1 := (hf f hm).1
      have h2 : f ≠ 0 := fun z => h0 (z ▸ hm)
      grind
    generalize hfs : facs os s0 ss = fs at *
    have bi : ∀ f ∈ fs, Bz 242 (1 / f) := fun f hm => (Bz.div (k := 1) (r := 1) ⟨by decide, by decide⟩ (hf f hm).2 (fp f hm)).mono (by decide)
    have bsum : ∀ (xs : List Rat) (k : Nat), (∀ x ∈ xs, Bz k x) → Bz (xs.length * (k + 1) + 1) xs.sum := by
      intro xs k
      induction xs with
      | nil => intro _; exact ⟨by simp, by simp⟩
      | cons a r ih =>
        intro h
        have h1 := ih fun x hx => h x (List.mem_cons_of_mem _ hx)
        have h2 := h a (by simp)
        rw [List.sum_cons, List.length_cons, Nat.add_mul]
        exact (h2.add h1).mono (by omega)
    constructor
    · have := g.few
      simp [gainsR, chs, g.len, hfl]
      omega
    · intro x hx
      rcases List.mem_cons.mp hx with rfl | hx
      · have := bsum ((ws.zip (fs.map fun f => 1 / f)).map fun p => (p.1 : Rat) / ((ws.sum : Int) : Rat) * p.2) 258 (by
          intro x hx
          obtain ⟨⟨w, y⟩, hp, rfl⟩ := List.mem_map.mp hx
          obtain ⟨hp1, hp2⟩ := List.of_mem_zip hp
          obtain ⟨f, hm, rfl⟩ := List.mem_map.mp hp2
          exact (Bz.frac g.ws0 (g.wz w hp1) g.sz).mul (bi f hm))
        refine this.mono ?_
        simp only [List.length_map, List.length_zip, g.len, hfl, Nat.min_self]
        have := g.few
        omega
      · obtain ⟨⟨c, o, f⟩, hp, rfl⟩ := List.mem_map.mp hx
        obtain ⟨hp1, hp2⟩ := List.of_mem_zip hp
        obtain ⟨hp2, hp3⟩ := List.of_mem_zip hp2
        obtain ⟨w, hw, rfl⟩ := List.mem_map.mp hp1
        exact ((((Bz.frac g.ws0 (g.wz w hw) g.sz).mul (g.oz o hp2))).div (hf f hp3).2 (fp f hp3)).mono (by decide)
theorem rd_are_best (ds : List D) (μ : Mu) (Q : DQ) (E) (h : sp_are_best ds μ Q E) : t_are_best { nx := fun _ μ' => Q .non μ', rt := Q } (ds.map some ++ List.replicate (4 - ds.length) none) μ := by
  obtain ⟨ws, os, s0, ss, rfl, g, sh, q⟩ := h
  unfold t_are_best
  simp only [dRaise, dCallX, dRet, dRetN, dSeq, dNext, dDrop, dIfS, dNever, dAsg, dPar, dPar3, dgName, dgTup, dgLst, dgNil, dgCons, dgSub, dOp, dTest, dChain, dVar, dFrz, dC, dAdd, dSub, dMulT, dDiv, dMod, dPow, dLt, dLe, dGt, dGe, dInt0, dInt2, dEq, dNe, dIn, dNotIn, dIsN, dNotN, dAnd, dOr, dNot, dAndV, dOrV, dNotV, dIf, dNil, dCons, dTup, dLst, dLstM, dIx, dSlice, dNo, dPart, dCall, dCallF, bAbs, bLen, bSum, bAll, bAny, bInt, bStr, bTup, bLst, bIsi, dLc_eq, dFor_eq, dWhile_eq, diLst, diTup, diRng1, diRng2, diZip2, diZip3, diEnum, diSeq, dYes, dAppend, dRepL, dJoin, dSplit, List.getElem?_cons_zero, List.getElem?_cons_succ, List.set_cons_zero, List.set_cons_succ, List.map_cons, List.map_nil, List.cons_append, List.nil_append, List.replicate, List.length_cons, List.length_nil, dwipe, atI_0, atI_1, ex_some]
  refine ⟨ws, os, s0, ss, rfl, g, sh, ?_⟩
  cases e : gainsO ws os s0 ss with
  | none =>
    have eb : bestB ws os s0 ss = false := by unfold bestB; rw [e]
    rw [eb] at q
    exact q
  | some gs =>
    have eb : bestB ws os s0 ss = gs.all fun x => !decide ((1 : Rat) < x) := by unfold bestB; rw [e]
    rw [eb] at q
    obtain ⟨hl, hz⟩ := gains_bz g sh e
    show LcB _ _ _ _ _ (fL gs) _ _
    refine LcB.mp gs fr (fun x => .bl (!decide ((1 : Rat) < x))) rfl (Nat.le_trans hl (by decide)) ?_ ?_
    · intro x hx R hR
      simp only [dRaise, dCallX, dRet, dRetN, dSeq, dNext, dDrop, dIfS, dNever, dAsg, dPar, dPar3, dgName, dgTup, dgLst, dgNil, dgCons, dgSub, dOp, dTest, dChain, dVar, dFrz, dC, dAdd, dSub, dMulT, dDiv, dMod, dPow, dLt, dLe, dGt, dGe, dInt0, dInt2, dEq, dNe, dIn, dNotIn, dIsN, dNotN, dAnd, dOr, dNot, dAndV, dOrV, dNotV, dIf, dNil, dCons, dTup, dLst, dLstM, dIx, dSlice, dNo, dPart, dCall, dCallF, bAbs, bLen, bSum, bAll, bAny, bInt, bStr, bTup, bLst, bIsi, dLc_eq, dFor_eq, dWhile_eq, diLst, diTup, diRng1, diRng2, diZip2, diZip3, diEnum, diSeq, dYes, dAppend, dRepL, dJoin, dSplit, List.getElem?_cons_zero, List.getElem?_cons_succ, List.set_cons_zero, List.set_cons_succ, List.map_cons, List.map_nil, List.cons_append, List.nil_append, List.replicate, List.length_cons, List.length_nil, dwipe, atI_0, atI_1, ex_some, fr_one]
      exact ⟨by decide, 1, x, 1, 2000, rfl, ⟨by decide, by decide⟩, hz x hx, by decide, hR⟩
    · refine ⟨gs.map fun x => !decide ((1 : Rat) < x), by simp, ?_⟩
      rw [List.all_map]
      exact q
theorem ok_are_best (d : Dn K mg "are_best" s_are_best) (b_all : mg "all" = none) (g_gains_of : Dk P w K mg base "gains_of" 6 ["game", "shares"] sp_gains_of) (g_is_less : Dk P w K mg base "is_less" 1 ["one", "other"] sp_is_less) : Dk P w K mg base "are_best" 7 ["game", "shares"] sp_are_best :=
  Dk.of d sc_are_best ln_are_best (fun _ _ _ _ _ _ us hl => match us, hl with | [_, _], _ => rfl) t_are_best (fun F0 f cdv A outer s H E hr => by
    have nd := sc_are_best.nd
    exact (ds_cons (ds_set (i := 2) nd rfl (Or.inl rfl) (d_callD g_gains_of (hr.mono (by decide)) (da_cons (dv 0) (da_cons (dv 1) da_nil))))
      (ds_one (ds_ret (d_andV (d_notN  (dv 2) d_non) (d_one (d_callB (cr_all rfl) lc_all (by rfl) b_all bb_all (da_cons (d_lc (own := [("one", 3)]) rfl nd (di_tup (dv 2)) (blkOk_by (N := ["game", "shares", "some", "one"]) (sc := defScope s_are_best) (own := [("one", 3)]) (by decide +kernel)) (fun _ _ _ _ _ => (dg_name (i := 3) nd rfl (Or.inl rfl) (by decide))) (fun _ _ _ _ _ => dp_nil) (fun _ _ _ _ _ => (d_notV (d_callD g_is_less (hr.mono (by decide)) (da_cons (d_tup (da_cons d_int (da_cons d_int da_nil))) (da_cons (dv 3) da_nil)))))) da_nil)))))))) rd_are_best
end
end GS

-- text W3
set_option Elab.async false
set_option linter.all false
set_option maxRecDepth 100000
set_option maxHeartbeats 4000000
namespace GS
open PySem PySem.Spec PyProof.Rows L2 DL
section
variable {P : Program} {w : World} {K : Fg} {mg : Str → Option Value} {base : Heap} {C : Str → Addr}
/-! ### all_weights -/
def dlW (hs : List (List Int)) : D := .lst (hs.map tupW)
def sp_all_weights : DSp := fun ds μ Q _ => ∃ (n : Nat) (W : Int), ds = [.int n, .int W] ∧ 1 ≤ n ∧ n ≤ 5 ∧ 0 ≤ W ∧ W ≤ 20 ∧ Q (dlW (allW n W)) μ
theorem ln_all_weights (ds : List D) (μ Q E) (h : sp_all_weights ds μ Q E) : ds.length = 2 := by
  obtain ⟨n, W, rfl, _⟩ := h
  rfl
abbrev s_all_weights : Stmt := top 39
theorem sc_all_weights : FnScope ["outcomes", "whole", "found", "outcome", "longer", "head", "left", "one"] ["outcomes", "whole"] (defScope s_all_weights) := ⟨rfl, rfl, rfl, by decide +kernel, rfl, by decide +kernel, by decide +kernel⟩
def t_all_weights : DS := (dSeq (dAsg (dLst (dCons (dTup dNil) dNil)) (dgName 2))
  (dSeq (dFor (diRng1 (dCons (dOp dSub (dVar 0) (dC (.int 1))) dNil)) (dgName 3) (dSeq (dAsg (dLst dNil) (dgName 4))
  (dSeq (dFor (diLst (dVar 2)) (dgName 5) (dSeq (dAsg (dOp dSub (dOp dSub (dVar 1) (dCall bSum (dCons (dVar 5) dNil))) (dOp dSub (dOp dSub (dVar 0) (dC (.int 1))) (dCall bLen (dCons (dVar 5) dNil)))) (dgName 6))
  (dAsg (dOp dAdd (dVar 4) (dLc (diRng2 (dCons (dC (.int 1)) (dCons (dOp dAdd (dVar 6) (dC (.int 1))) dNil))) (dgName 7) dYes (dOp dAdd (dVar 5) (dTup (dCons (dVar 7) dNil))) [7])) (dgName 4))))
  (dAsg (dVar 4) (dgName 2)))))
  (dRet (dLc (diLst (dVar 2)) (dgName 5) dYes (dOp dAdd (dVar 5) (dTup (dCons (dOp dSub (dVar 1) (dCall bSum (dCons (dVar 5) dNil))) dNil))) [5]))))
theorem limT_le {n : Nat} {W : Int} (hn : 1 ≤ n) (hW : W ≤ 20) {k : Nat} {h : List Int} (hk : k ≤ n - 1) (hh : h ∈ heads (limT n W) k) : (limT n W h).toNat ≤ 20 := by
  have h1 := heads_len hh
  have h2 := pos_sum (heads_pos hh)
  unfold limT
  omega
theorem headsT_num {n : Nat} {W : Int} (hn : 1 ≤ n) (hW : W ≤ 20) : ∀ k : Nat, k ≤ n - 1 → (heads (limT n W) k).length ≤ 20 ^ k
  | 0, _ => by simp [heads]
  | k + 1, hk => by
    have ih := headsT_num hn hW k (by omega)
    have hl : ∀ h ∈ heads (limT n W) k, (limT n W h).toNat ≤ 20 := fun h hh => limT_le hn hW (by omega) hh
    have : ∀ l : List (List Int), (∀ h ∈ l, (limT n W h).toNat ≤ 20) → (l.flatMap fun h => (rng1 (limT n W h)).map fun i => h ++ [i]).length ≤ l.length * 20 := by
      intro l
      induction l with
      | nil => simp
      | cons a l ih =>
        intro h0
        have h1 := ih fun h hh => h0 h (List.mem_cons_of_mem _ hh)
        have h2 := h0 a (by simp)
        simp only [List.flatMap_cons, List.length_append, List.length_map, rng1_len, List.length_cons]
        omega
    refine Nat.le_trans (this _ hl) ?_
    rw [Nat.pow_succ]
    omega
theorem flat_len {n : Nat} {W : Int} {l : List (List Int)} (h : ∀ h ∈ l, (limT n W h).toNat ≤ 20) : (l.flatMap fun h => (rng1 (limT n W h)).map fun i => h ++ [i]).length ≤ l.length * 20 := by
  induction l with
  | nil => simp
  | cons a l ih =>
    have h1 := ih fun x hx => h x (List.mem_cons_of_mem _ hx)
    have h2 := h a (by simp)
    simp only [List.flatMap_cons, List.length_append, List.length_map, rng1_len, List.length_cons]
    omega
theorem headsT_sum {n : Nat} {W : Int} (hn : 1 ≤ n) (hW : 0 ≤ W) {k : Nat} (hk : k ≤ n - 1) {h : List Int} (hh : h ∈ heads (limT n W) k) : h.sum ≤ W := by
  cases k with
  | zero =>
    have : h = [] := by simpa [heads] using hh
    subst this
    simpa using hW
  | succ k =>
    simp only [heads, List.mem_flatMap, List.mem_map] at hh
    obtain ⟨g, hg, i, hi, rfl⟩ := hh
    have h2 := (mem_rng1.mp hi).2
    have h3 := heads_len hg
    simp only [List.sum_append, List.sum_cons, List.sum_nil]
    unfold limT at h2
    omega
theorem tupW_snoc (h : List Int) (i : Int) : D.tup (wL h ++ [.int i]) = tupW (h ++ [i]) := by simp [tupW, wL]
theorem rd_all_weights (ds : List D) (μ : Mu) (Q : DQ) (E) (h : sp_all_weights ds μ Q E) : t_all_weights { nx := fun _ μ' => Q .non μ', rt := Q } (ds.map some ++ List.replicate (8 - ds.length) none) μ := by
  obtain ⟨n, W, rfl, hn1, hn5, hW0, hW, q⟩ := h
  have hp : ∀ k, k ≤ n - 1 → 20 ^ k ≤ 20 ^ 4 := fun k hk => Nat.pow_le_pow_right (by decide) (by omega)
  unfold t_all_weights
  simp only [dRaise, dCallX, dRet, dRetN, dSeq, dNext, dDrop, dIfS, dNever, dAsg, dPar, dPar3, dgName, dgTup, dgLst, dgNil, dgCons, dgSub, dOp, dTest, dChain, dVar, dFrz, dC, dAdd, dSub, dMulT, dDiv, dMod, dPow, dLt, dLe, dGt, dGe, dInt0, dInt2, dEq, dNe, dIn, dNotIn, dIsN, dNotN, dAnd, dOr, dNot, dAndV, dOrV, dNotV, dIf, dNil, dCons, dTup, dLst, dLstM, dIx, dSlice, dNo, dPart, dCall, dCallF, bAbs, bLen, bSum, bAll, bAny, bInt, bStr, bTup, bLst, bIsi, dLc_eq, dFor_eq, dWhile_eq, diLst, diTup, diRng1, diRng2, diZip2, diZip3, diEnum, diSeq, dYes, dAppend, dRepL, dJoin, dSplit, List.getElem?_cons_zero, List.getElem?_cons_succ, List.set_cons_zero, List.set_cons_succ, List.map_cons, List.map_nil, List.cons_append, List.nil_append, List.replicate, List.length_cons, List.length_nil, dwipe, atI_0, atI_1, ex_some]
  refine ⟨by decide, by decide, by omega, by omega, ?_⟩
  refine ForB.inv (List.range ((n : Int) - 1).toNat) (fun (i : Nat) => D.int (0 + (i : Int))) (fun pre ρ m => (∃ o3 o4 o5 o6 o7, ρ = [some (.int n), some (.int W), some (dlW (heads (limT n W) pre.length)), o3, o4, o5, o6, o7]) ∧ m = μ) rfl ⟨⟨_, _, _, _, _, rfl⟩, rfl⟩ ?_ ?_
  · rintro pre a post ρ m he ⟨⟨o3, o4, o5, o6, o7, rfl⟩, rfl⟩
    have hk : pre.length + 1 ≤ n - 1 := by
      have := congrArg List.length he
      simp only [List.length_range, List.length_append, List.length_cons] at this
      omega
    simp only [dRaise, dCallX, dRet, dRetN, dSeq, dNext, dDrop, dIfS, dNever, dAsg, dPar, dPar3, dgName, dgTup, dgLst, dgNil, dgCons, dgSub, dOp, dTest, dChain, dVar, dFrz, dC, dAdd, dSub, dMulT, dDiv, dMod, dPow, dLt, dLe, dGt, dGe, dInt0, dInt2, dEq, dNe, dIn, dNotIn, dIsN, dNotN, dAnd, dOr, dNot, dAndV, dOrV, dNotV, dIf, dNil, dCons, dTup, dLst, dLstM, dIx, dSlice, dNo, dPart, dCall, dCallF, bAbs, bLen, bSum, bAll, bAny, bInt, bStr, bTup, bLst, bIsi, dLc_eq, dFor_eq, dWhile_eq, diLst, diTup, diRng1, diRng2, diZip2, diZip3, diEnum, diSeq, dYes, dAppend, dRepL, dJoin, dSplit, List.getElem?_cons_zero, List.getElem?_cons_succ, List.set_cons_zero, List.set_cons_succ, List.map_cons, List.map_nil, List.cons_append, List.nil_append, List.replicate, List.length_cons, List.length_nil, dwipe, atI_0, atI_1, ex_some, dlW]
    refine ⟨by decide, ?_⟩
    refine ForB.inv (heads (limT n W) pre.length) tupW (fun p2 ρ m' => (∃ o3 o5 o6 o7, ρ = [some (.int n), some (.int W), some (dlW (heads (limT n W) pre.length)), o3, some (dlW (p2.flatMap fun h => (rng1 (limT n W h)).map fun i => h ++ [i])), o5, o6, o7]) ∧ m' = m) rfl ⟨⟨_, _, _, _, rfl⟩, rfl⟩ ?_ ?_
    · rintro p2 hd po2 ρ m' he2 ⟨⟨o3, o5, o6, o7, rfl⟩, rfl⟩
      have hm : hd ∈ heads (limT n W) pre.length := by rw [he2]; simp
      have hlen := heads_len hm
      have hnum := headsT_num hn1 hW pre.length (by omega)
      have hlim := limT_le hn1 hW (show pre.length ≤ n - 1 by omega) hm
      have h20 := hp (pre.length + 1) hk
      rw [Nat.pow_succ] at h20
      have hp2 : (p2.flatMap fun h => (rng1 (limT n W h)).map fun i => h ++ [i]).length ≤ p2.length * 20 := flat_len fun h hh => limT_le hn1 hW (show pre.length ≤ n - 1 by omega) (by rw [he2]; simp [hh])
      have hp2l : p2.length + 1 ≤ (heads (limT n W) pre.length).length := by rw [he2]; simp
      have hsum := headsT_sum hn1 hW0 (show pre.length ≤ n - 1 by omega) hm
      have hlo : -100 ≤ limT n W hd := by
        unfold limT
        omega
      have elim : W - hd.sum - ((n : Int) - 1 - (wL hd).length) = limT n W hd := by simp [limT, wL]
      simp only [dRaise, dCallX, dRet, dRetN, dSeq, dNext, dDrop, dIfS, dNever, dAsg, dPar, dPar3, dgName, dgTup, dgLst, dgNil, dgCons, dgSub, dOp, dTest, dChain, dVar, dFrz, dC, dAdd, dSub, dMulT, dDiv, dMod, dPow, dLt, dLe, dGt, dGe, dInt0, dInt2, dEq, dNe, dIn, dNotIn, dIsN, dNotN, dAnd, dOr, dNot, dAndV, dOrV, dNotV, dIf, dNil, dCons, dTup, dLst, dLstM, dIx, dSlice, dNo, dPart, dCall, dCallF, bAbs, bLen, bSum, bAll, bAny, bInt, bStr, bTup, bLst, bIsi, dLc_eq, dFor_eq, dWhile_eq, diLst, diTup, diRng1, diRng2, diZip2, diZip3, diEnum, diSeq, dYes, dAppend, dRepL, dJoin, dSplit, List.getElem?_cons_zero, List.getElem?_cons_succ, List.set_cons_zero, List.set_cons_succ, List.map_cons, List.map_nil, List.cons_append, List.nil_append, List.replicate, List.length_cons, List.length_nil, dwipe, atI_0, atI_1, ex_some, tupW, dlW]
      refine ⟨hd, rfl, ?_⟩
      rw [elim]
      refine ⟨⟨by omega, by omega, by omega, by omega⟩, ?_⟩
      rw [show (limT n W hd + 1 - 1).toNat = (limT n W hd).toNat from by omega]
      refine LcB.mp (rng1 (limT n W hd)) D.int (fun i => tupW (hd ++ [i])) ?_ ?_ ?_ ?_
      · unfold rng1 rngD
        rw [List.map_map]
        rfl
      · rw [rng1_len]
        exact Nat.le_trans hlim (by decide)
      · intro i hi R hR
        simp only [dRaise, dCallX, dRet, dRetN, dSeq, dNext, dDrop, dIfS, dNever, dAsg, dPar, dPar3, dgName, dgTup, dgLst, dgNil, dgCons, dgSub, dOp, dTest, dChain, dVar, dFrz, dC, dAdd, dSub, dMulT, dDiv, dMod, dPow, dLt, dLe, dGt, dGe, dInt0, dInt2, dEq, dNe, dIn, dNotIn, dIsN, dNotN, dAnd, dOr, dNot, dAndV, dOrV, dNotV, dIf, dNil, dCons, dTup, dLst, dLstM, dIx, dSlice, dNo, dPart, dCall, dCallF, bAbs, bLen, bSum, bAll, bAny, bInt, bStr, bTup, bLst, bIsi, dLc_eq, dFor_eq, dWhile_eq, diLst, diTup, diRng1, diRng2, diZip2, diZip3, diEnum, diSeq, dYes, dAppend, dRepL, dJoin, dSplit, List.getElem?_cons_zero, List.getElem?_cons_succ, List.set_cons_zero, List.set_cons_succ, List.map_cons, List.map_nil, List.cons_append, List.nil_append, List.replicate, List.length_cons, List.length_nil, dwipe, atI_0, atI_1, ex_some, tupW_snoc]
        refine ⟨by decide, ?_, hR⟩
        simp [wL, hlen]
        rw [sizeLine_eq]
        omega
      · refine ⟨?_, ⟨o3, some (.tup (wL hd)), some (.int (limT n W hd)), o7, ?_⟩, rfl⟩
        · simp only [List.length_map, rng1_len]
          rw [sizeLine_eq]
          omega
        · simp [dlW, List.flatMap_append, Function.comp_def]
    · rintro ρ m' ⟨⟨o3, o5, o6, o7, rfl⟩, rfl⟩
      simp only [dRaise, dCallX, dRet, dRetN, dSeq, dNext, dDrop, dIfS, dNever, dAsg, dPar, dPar3, dgName, dgTup, dgLst, dgNil, dgCons, dgSub, dOp, dTest, dChain, dVar, dFrz, dC, dAdd, dSub, dMulT, dDiv, dMod, dPow, dLt, dLe, dGt, dGe, dInt0, dInt2, dEq, dNe, dIn, dNotIn, dIsN, dNotN, dAnd, dOr, dNot, dAndV, dOrV, dNotV, dIf, dNil, dCons, dTup, dLst, dLstM, dIx, dSlice, dNo, dPart, dCall, dCallF, bAbs, bLen, bSum, bAll, bAny, bInt, bStr, bTup, bLst, bIsi, dLc_eq, dFor_eq, dWhile_eq, diLst, diTup, diRng1, diRng2, diZip2, diZip3, diEnum, diSeq, dYes, dAppend, dRepL, dJoin, dSplit, List.getElem?_cons_zero, List.getElem?_cons_succ, List.set_cons_zero, List.set_cons_succ, List.map_cons, List.map_nil, List.cons_append, List.nil_append, List.replicate, List.length_cons, List.length_nil, dwipe, atI_0, atI_1, ex_some]
      refine ⟨⟨o3, some (dlW ((heads (limT n W) pre.length).flatMap fun h => (rng1 (limT n W h)).map fun i => h ++ [i])), o5, o6, o7, ?_⟩, trivial⟩
      rw [List.length_append]
      rfl
  · rintro ρ m ⟨⟨o3, o4, o5, o6, o7, rfl⟩, rfl⟩
    simp only [dRaise, dCallX, dRet, dRetN, dSeq, dNext, dDrop, dIfS, dNever, dAsg, dPar, dPar3, dgName, dgTup, dgLst, dgNil, dgCons, dgSub, dOp, dTest, dChain, dVar, dFrz, dC, dAdd, dSub, dMulT, dDiv, dMod, dPow, dLt, dLe, dGt, dGe, dInt0, dInt2, dEq, dNe, dIn, dNotIn, dIsN, dNotN, dAnd, dOr, dNot, dAndV, dOrV, dNotV, dIf, dNil, dCons, dTup, dLst, dLstM, dIx, dSlice, dNo, dPart, dCall, dCallF, bAbs, bLen, bSum, bAll, bAny, bInt, bStr, bTup, bLst, bIsi, dLc_eq, dFor_eq, dWhile_eq, diLst, diTup, diRng1, diRng2, diZip2, diZip3, diEnum, diSeq, dYes, dAppend, dRepL, dJoin, dSplit, List.getElem?_cons_zero, List.getElem?_cons_succ, List.set_cons_zero, List.set_cons_succ, List.map_cons, List.map_nil, List.cons_append, List.nil_append, List.replicate, List.length_cons, List.length_nil, dwipe, atI_0, atI_1, ex_some, dlW]
    have el : ((n : Int) - 1).toNat = n - 1 := by omega
    rw [List.length_range, el]
    refine LcB.mp (heads (limT n W) (n - 1)) tupW (fun h => tupW (h ++ [W - h.sum])) rfl ?_ ?_ ?_
    · refine Nat.le_trans (headsT_num hn1 hW (n - 1) (Nat.le_refl _)) (Nat.le_trans (hp (n - 1) (Nat.le_refl _)) (by decide))
    · intro hd hm R hR
      have hlen := heads_len hm
      simp only [dRaise, dCallX, dRet, dRetN, dSeq, dNext, dDrop, dIfS, dNever, dAsg, dPar, dPar3, dgName, dgTup, dgLst, dgNil, dgCons, dgSub, dOp, dTest, dChain, dVar, dFrz, dC, dAdd, dSub, dMulT, dDiv, dMod, dPow, dLt, dLe, dGt, dGe, dInt0, dInt2, dEq, dNe, dIn, dNotIn, dIsN, dNotN, dAnd, dOr, dNot, dAndV, dOrV, dNotV, dIf, dNil, dCons, dTup, dLst, dLstM, dIx, dSlice, dNo, dPart, dCall, dCallF, bAbs, bLen, bSum, bAll, bAny, bInt, bStr, bTup, bLst, bIsi, dLc_eq, dFor_eq, dWhile_eq, diLst, diTup, diRng1, diRng2, diZip2, diZip3, diEnum, diSeq, dYes, dAppend, dRepL, dJoin, dSplit, List.getElem?_cons_zero, List.getElem?_cons_succ, List.set_cons_zero, List.set_cons_succ, List.map_cons, List.map_nil, List.cons_append, List.nil_append, List.replicate, List.length_cons, List.length_nil, dwipe, atI_0, atI_1, ex_some, tupW]
      refine ⟨hd, rfl, by decide, ?_, ?_⟩
      · simp [wL, hlen]
        rw [sizeLine_eq]
        omega
      · rw [tupW_snoc]
        exact hR
    · simp only [dlW, allW, List.map_map] at q
      exact q
theorem ok_all_weights (d : Dn K mg "all_weights" s_all_weights) (b_range : mg "range" = none) (b_sum : mg "sum" = none) (b_len : mg "len" = none) : Dk P w K mg base "all_weights" 1 ["outcomes", "whole"] sp_all_weights :=
  Dk.of d sc_all_weights ln_all_weights (fun _ _ _ _ _ _ us hl => match us, hl with | [_, _], _ => rfl) t_all_weights (fun F0 f cdv A outer s H E hr => by
    have nd := sc_all_weights.nd
    exact (ds_cons (ds_set (i := 2) nd rfl (Or.inl rfl) (d_lst (da_cons (d_tup da_nil) da_nil)))
      (ds_cons (ds_for (vs := [3]) PassesOwn.never rfl (di_rng1 (by rfl) b_range (da_cons (d_sub (dv 0) d_int) da_nil)) (dg_name (i := 3) nd rfl (Or.inl rfl) (by decide)) (ds_cons (ds_set (i := 4) nd rfl (Or.inl rfl) (d_lst da_nil))
      (ds_cons (ds_for (vs := [5]) PassesOwn.never rfl (di_lst (dv 2)) (dg_name (i := 5) nd rfl (Or.inr rfl) (by decide)) (ds_cons (ds_set (i := 6) nd rfl (Or.inl rfl) (d_sub (d_sub (dv 1) (d_callB ((cr_sum rfl).or (cr_sumT rfl)) lc_sum (by rfl) b_sum bb_sum (da_cons (dv 5) da_nil))) (d_sub (d_sub (dv 0) d_int) (d_callB (call_len_seq.or call_len_str) lc_len (by rfl) b_len bb_len (da_cons (dv 5) da_nil)))))
      (ds_one (ds_set (i := 4) nd rfl (Or.inl rfl) (d_add (dv 4) (d_lc (own := [("one", 7)]) rfl nd (di_rng2 (by rfl) b_range (da_cons d_int (da_cons (d_add (dv 6) d_int) da_nil))) (blkOk_by (N := ["outcomes", "whole", "found", "outcome", "longer", "head", "left", "one"]) (sc := defScope s_all_weights) (own := [("one", 7)]) (by decide +kernel)) (fun _ _ _ _ _ => (dg_name (i := 7) nd rfl (Or.inl rfl) (by decide))) (fun _ _ _ _ _ => dp_nil) (fun _ _ _ _ _ => (d_add (dv 5) (d_tup (da_cons (dv 7) da_nil))))))))))
      (ds_one (ds_set (i := 2) nd rfl (Or.inl rfl) (dv 4))))))
      (ds_one (ds_ret (d_lc (own := [("head", 5)]) rfl nd (di_lst (dv 2)) (blkOk_by (N := ["outcomes", "whole", "found", "outcome", "longer", "head", "left", "one"]) (sc := defScope s_all_weights) (own := [("head", 5)]) (by decide +kernel)) (fun _ _ _ _ _ => (dg_name (i := 5) nd rfl (Or.inl rfl) (by decide))) (fun _ _ _ _ _ => dp_nil) (fun _ _ _ _ _ => (d_add (dv 5) (d_tup (da_cons (d_sub (dv 1) (d_callB ((cr_sum rfl).or (cr_sumT rfl)) lc_sum (by rfl) b_sum bb_sum (da_cons (dv 5) da_nil))) da_nil)))))))))) rd_all_weights
/-! ### need_number -/
def sp_need_number (C : Str → Addr) : DSp := fun ds μ Q E => ∃ (d : D) (lo hi : Int), ds = [d, .int lo, .int hi] ∧ nr d = true ∧ ((wholeD d lo hi = true ∧ Q .non μ) ∨ (wholeD d lo hi = false ∧ E (.ref (C "InvalidNumber")) μ))
theorem ln_need_number (C : Str → Addr) (ds : List D) (μ Q E) (h : sp_need_number C ds μ Q E) : ds.length = 3 := by
  obtain ⟨d, lo, hi, rfl, _⟩ := h
  rfl
abbrev s_need_number : Stmt := top 33
theorem sc_need_number : FnScope ["value", "low", "high"] ["value", "low", "high"] (defScope s_need_number) := ⟨rfl, rfl, rfl, by decide +kernel, rfl, by decide +kernel, by decide +kernel⟩
def t_need_number (C : Str → Addr) (Ew : Value → Mu → Prop) : DS := (dIfS (dNot (dTest (dCallF sp_is_whole (dCons (dVar 0) (dCons (dVar 1) (dCons (dVar 2) dNil)))))) (dRaise Ew (.ref (C "InvalidNumber"))) dNext)
theorem rd_need_number (C : Str → Addr) (ds : List D) (μ : Mu) (Q : DQ) (E) (h : sp_need_number C ds μ Q E) : t_need_number C E { nx := fun _ μ' => Q .non μ', rt := Q } (ds.map some ++ List.replicate (3 - ds.length) none) μ := by
  obtain ⟨d, lo, hi, rfl, hn, h⟩ := h
  unfold t_need_number
  simp only [dRaise, dCallX, dRet, dRetN, dSeq, dNext, dDrop, dIfS, dNever, dAsg, dPar, dPar3, dgName, dgTup, dgLst, dgNil, dgCons, dgSub, dOp, dTest, dChain, dVar, dFrz, dC, dAdd, dSub, dMulT, dDiv, dMod, dPow, dLt, dLe, dGt, dGe, dInt0, dInt2, dEq, dNe, dIn, dNotIn, dIsN, dNotN, dAnd, dOr, dNot, dAndV, dOrV, dNotV, dIf, dNil, dCons, dTup, dLst, dLstM, dIx, dSlice, dNo, dPart, dCall, dCallF, bAbs, bLen, bSum, bAll, bAny, bInt, bStr, bTup, bLst, bIsi, dLc_eq, dFor_eq, dWhile_eq, diLst, diTup, diRng1, diRng2, diZip2, diZip3, diEnum, diSeq, dYes, dAppend, dRepL, dJoin, dSplit, List.getElem?_cons_zero, List.getElem?_cons_succ, List.set_cons_zero, List.set_cons_succ, List.map_cons, List.map_nil, List.cons_append, List.nil_append, List.replicate, List.length_cons, List.length_nil, dwipe, atI_0, atI_1, ex_some]
  refine ⟨d, lo, hi, rfl, hn, ?_⟩
  rcases h with ⟨e, q⟩ | ⟨e, q⟩
  · rw [e]
    exact q
  · rw [e]
    exact q
theorem ok_need_number (d : Dn K mg "need_number" s_need_number) (x_InvalidNumber : Ec K mg "InvalidNumber" (C "InvalidNumber")) (g_is_whole : Dk P w K mg base "is_whole" 1 ["value", "low", "high"] sp_is_whole) : DkX P w K mg base "need_number" 2 ["value", "low", "high"] (sp_need_number C) :=
  DkX.of d sc_need_number (ln_need_number C) (fun _ _ _ _ _ _ us hl => match us, hl with | [_, _, _], _ => rfl) (t_need_number C) (fun F0 f cdv A outer s H E Ew hr tk => by
    have nd := sc_need_number.nd
    exact (ds_one (ds_if (d_not (d_test (d_callD g_is_whole (hr.mono (by decide)) (da_cons (dv 0) (da_cons (dv 1) (da_cons (dv 2) da_nil)))))) (ds_one (ds_raise rfl tk x_InvalidNumber)) ds_nil))) (rd_need_number C)
/-! ### need_told -/
/-- what is wrong with the arguments, and the error's class -/
def Bad (o w s : D) : Str → Prop := fun x => nr o = true ∧ nr w = true ∧ nr s = true ∧ (∀ xs, o = .tup xs → xs.length ≤ sizeLine) ∧ (∀ xs, s = .tup xs → xs.length ≤ sizeLine) ∧
  ((fitOdds o = false ∧ x = "InvalidOdds") ∨ (∃ os, o = .tup os ∧ fitOdds o = true ∧ ((wholeD w os.length 20 = false ∧ x = "InvalidNumber") ∨ (wholeD w os.length 20 = true ∧ fitShares os.length s = false ∧ x = "InvalidShares"))))
def ToldS (C : Str → Addr) (r : List Rat → Int → Rat → List Rat → D) : DSp := fun ds μ Q E => (∃ os W s0 ss, ds = [.tup (fL os), .int W, .tup (fL (s0 :: ss))] ∧ Valid os W s0 ss ∧ Q (r os W s0 ss) μ) ∨ ∃ o w s x, ds = [o, w, s] ∧ Bad o w s x ∧ E (.ref (C x)) μ
theorem told_len {C : Str → Addr} {r} {ds : List D} {μ Q E} (h : ToldS C r ds μ Q E) : ds.length = 3 := by
  rcases h with ⟨os, W, s0, ss, rfl, _⟩ | ⟨o, w, s, x, rfl, _⟩ <;> rfl
def sp_need_told (C : Str → Addr) : DSp := ToldS C fun _ _ _ _ => .non
theorem ln_need_told (C : Str → Addr) (ds : List D) (μ Q E) (h : sp_need_told C ds μ Q E) : ds.length = 3 := told_len h
abbrev s_need_told : Stmt := top 40
theorem sc_need_told : FnScope ["odds", "whole", "shares"] ["odds", "whole", "shares"] (defScope s_need_told) := ⟨rfl, rfl, rfl, by decide +kernel, rfl, by decide +kernel, by decide +kernel⟩
def t_need_told (C : Str → Addr) (Ew : Value → Mu → Prop) : DS := (dSeq (dIfS (dNot (dTest (dCallF sp_fit_odds (dCons (dVar 0) dNil)))) (dRaise Ew (.ref (C "InvalidOdds"))) dNext)
  (dSeq (dDrop (dCallX (sp_need_number C) Ew (dCons (dVar 1) (dCons (dCall bLen (dCons (dVar 0) dNil)) (dCons (dC (.int 20)) dNil)))))
  (dIfS (dNot (dTest (dCallF sp_fit_shares (dCons (dCall bLen (dCons (dVar 0) dNil)) (dCons (dVar 2) dNil))))) (dRaise Ew (.ref (C "InvalidShares"))) dNext)))
theorem nr_fL (xs : List Rat) : nr (.tup (fL xs)) = true := by
  show nrs (fL xs) = true
  refine nrs_of fun d hd => ?_
  obtain ⟨r, _, rfl⟩ := List.mem_map.mp hd
  rfl
theorem rd_need_told (C : Str → Addr) (ds : List D) (μ : Mu) (Q : DQ) (E) (h : sp_need_told C ds μ Q E) : t_need_told C E { nx := fun _ μ' => Q .non μ', rt := Q } (ds.map some ++ List.replicate (3 - ds.length) none) μ := by
  unfold t_need_told
  rcases h with ⟨os, W, s0, ss, rfl, v, q⟩ | ⟨o, w, s, x, rfl, ⟨no, nw, ns, zo, zs, hb⟩, q⟩
  · have lo : (fL os).length = os.length := by simp [fL]
    have l5 := v.l5
    simp only [dRaise, dCallX, dRet, dRetN, dSeq, dNext, dDrop, dIfS, dNever, dAsg, dPar, dPar3, dgName, dgTup, dgLst, dgNil, dgCons, dgSub, dOp, dTest, dChain, dVar, dFrz, dC, dAdd, dSub, dMulT, dDiv, dMod, dPow, dLt, dLe, dGt, dGe, dInt0, dInt2, dEq, dNe, dIn, dNotIn, dIsN, dNotN, dAnd, dOr, dNot, dAndV, dOrV, dNotV, dIf, dNil, dCons, dTup, dLst, dLstM, dIx, dSlice, dNo, dPart, dCall, dCallF, bAbs, bLen, bSum, bAll, bAny, bInt, bStr, bTup, bLst, bIsi, dLc_eq, dFor_eq, dWhile_eq, diLst, diTup, diRng1, diRng2, diZip2, diZip3, diEnum, diSeq, dYes, dAppend, dRepL, dJoin, dSplit, List.getElem?_cons_zero, List.getElem?_cons_succ, List.set_cons_zero, List.set_cons_succ, List.map_cons, List.map_nil, List.cons_append, List.nil_append, List.replicate, List.length_cons, List.length_nil, dwipe, atI_0, atI_1, ex_some]
    refine ⟨_, rfl, nr_fL os, fun xs e => ?_, ?_⟩
    · cases e
      rw [lo]
      exact Nat.le_trans l5 (by decide)
    · rw [v.fo]
      simp only [Bool.not_true, Bool.false_eq_true, if_false]
      refine ⟨.int W, _, _, rfl, rfl, .inl ⟨?_, ?_⟩⟩
      · rw [lo]
        exact v.fw
      · refine ⟨os.length, _, by rw [lo], by omega, nr_fL _, fun xs e => ?_, ?_⟩
        · cases e
          have := v.sl
          simp only [fL, List.length_map, List.length_cons]
          rw [sizeLine_eq]
          omega
        · rw [v.fs]
          exact q
  · simp only [dRaise, dCallX, dRet, dRetN, dSeq, dNext, dDrop, dIfS, dNever, dAsg, dPar, dPar3, dgName, dgTup, dgLst, dgNil, dgCons, dgSub, dOp, dTest, dChain, dVar, dFrz, dC, dAdd, dSub, dMulT, dDiv, dMod, dPow, dLt, dLe, dGt, dGe, dInt0, dInt2, dEq, dNe, dIn, dNotIn, dIsN, dNotN, dAnd, dOr, dNot, dAndV, dOrV, dNotV, dIf, dNil, dCons, dTup, dLst, dLstM, dIx, dSlice, dNo, dPart, dCall, dCallF, bAbs, bLen, bSum, bAll, bAny, bInt, bStr, bTup, bLst, bIsi, dLc_eq, dFor_eq, dWhile_eq, diLst, diTup, diRng1, diRng2, diZip2, diZip3, diEnum, diSeq, dYes, dAppend, dRepL, dJoin, dSplit, List.getElem?_cons_zero, List.getElem?_cons_succ, List.set_cons_zero, List.set_cons_succ, List.map_cons, List.map_nil, List.cons_append, List.nil_append, List.replicate, List.length_cons, List.length_nil, dwipe, atI_0, atI_1, ex_some]
    rcases hb with ⟨h1, rfl⟩ | ⟨os, rfl, h1, ⟨h2, rfl⟩ | ⟨h2, h3, rfl⟩⟩
    · have l3 : ∀ (Y : Prop), Y → Y := fun _ y => y
      refine ⟨o, rfl, no, zo, ?_⟩
      rw [h1]
      exact q
    · refine ⟨_, rfl, no, zo, ?_⟩
      rw [h1]
      simp only [Bool.not_true, Bool.false_eq_true, if_false]
      exact ⟨w, _, _, rfl, nw, .inr ⟨h2, q⟩⟩
    · refine ⟨_, rfl, no, zo, ?_⟩
      have l5 : os.length ≤ 5 := by
        have h1 : (decide (2 ≤ os.length ∧ os.length ≤ 5) && os.all fun x => fitsD x 1 1000 1000) = true := h1
        have := of_decide_eq_true (Bool.and_eq_true_iff.mp h1).1
        exact this.2
      rw [h1]
      simp only [Bool.not_true, Bool.false_eq_true, if_false]
      refine ⟨w, _, _, rfl, nw, .inl ⟨h2, os.length, s, rfl, by omega, ns, zs, ?_⟩⟩
      rw [h3]
      exact q
theorem ok_need_told (d : Dn K mg "need_told" s_need_told) (b_len : mg "len" = none) (x_InvalidOdds : Ec K mg "InvalidOdds" (C "InvalidOdds")) (x_InvalidShares : Ec K mg "InvalidShares" (C "InvalidShares")) (g_fit_odds : Dk P w K mg base "fit_odds" 3 ["value"] sp_fit_odds) (g_need_number : DkX P w K mg base "need_number" 2 ["value", "low", "high"] (sp_need_number C)) (g_fit_shares : Dk P w K mg base "fit_shares" 5 ["many", "value"] sp_fit_shares) : DkX P w K mg base "need_told" 6 ["odds", "whole", "shares"] (sp_need_told C) :=
  DkX.of d sc_need_told (ln_need_told C) (fun _ _ _ _ _ _ us hl => match us, hl with | [_, _, _], _ => rfl) (t_need_told C) (fun F0 f cdv A outer s H E Ew hr tk => by
    have nd := sc_need_told.nd
    exact (ds_cons (ds_if (d_not (d_test (d_callD g_fit_odds (hr.mono (by decide)) (da_cons (dv 0) da_nil)))) (ds_one (ds_raise rfl tk x_InvalidOdds)) ds_nil)
      (ds_cons (ds_expr (d_callDX tk g_need_number (hr.mono (by decide)) (da_cons (dv 1) (da_cons (d_callB (call_len_seq.or call_len_str) lc_len (by rfl) b_len bb_len (da_cons (dv 0) da_nil)) (da_cons d_int da_nil)))))
      (ds_one (ds_if (d_not (d_test (d_callD g_fit_shares (hr.mono (by decide)) (da_cons (d_callB (call_len_seq.or call_len_str) lc_len (by rfl) b_len bb_len (da_cons (dv 0) da_nil)) (da_cons (dv 2) da_nil))))) (ds_one (ds_raise rfl tk x_InvalidShares)) ds_nil))))) (rd_need_told C)
/-! ### told_by -/
def sp_told_by : DSp := fun ds μ Q _ => ∃ os W s0 ss, ds = [.tup (fL os), .int W, .tup (fL (s0 :: ss))] ∧ Valid os W s0 ss ∧ Q (dlW (toldL os W s0 ss)) μ
theorem ln_told_by (ds : List D) (μ Q E) (h : sp_told_by ds μ Q E) : ds.length = 3 := by
  obtain ⟨os, W, s0, ss, rfl, _⟩ := h
  rfl
abbrev s_told_by : Stmt := top 41
theorem sc_told_by : FnScope ["odds", "whole", "shares", "weights"] ["odds", "whole", "shares"] (defScope s_told_by) := ⟨rfl, rfl, rfl, by decide +kernel, rfl, by decide +kernel, by decide +kernel⟩
def t_told_by : DS := (dRet (dLc (diLst (dCallF sp_all_weights (dCons (dCall bLen (dCons (dVar 0) dNil)) (dCons (dVar 1) dNil)))) (dgName 3) (dTest (dCallF sp_are_best (dCons (dTup (dCons (dVar 3) (dCons (dVar 0) dNil))) (dCons (dVar 2) dNil)))) (dVar 3) [3]))
theorem allW_ok {n : Nat} {W : Int} (hn : 1 ≤ n) (hW : (n : Int) ≤ W) {ws : List Int} (h : ws ∈ allW n W) : ws.length = n ∧ (∀ w ∈ ws, 0 ≤ w) ∧ ws.sum = W ∧ ∀ w ∈ ws, 1 ≤ w := by
  unfold allW at h
  obtain ⟨hd, hm, rfl⟩ := List.mem_map.mp h
  have hl := heads_len hm
  have hpos := heads_pos hm
  have last : 1 ≤ W - hd.sum := by
    obtain ⟨k, rfl⟩ : ∃ k, n = k + 1 := ⟨n - 1, by omega⟩
    cases k with
    | zero =>
      have : hd = [] := List.eq_nil_of_length_eq_zero hl
      subst this
      simp
      omega
    | succ k =>
      rw [show k + 1 + 1 - 1 = k + 1 from rfl] at hm
      simp only [heads, List.mem_flatMap, List.mem_map] at hm
      obtain ⟨g, hg, i, hi, rfl⟩ := hm
      have h2 := (mem_rng1.mp hi).2
      have h3 := heads_len hg
      simp only [List.sum_append, List.sum_cons, List.sum_nil]
      unfold limT at h2
      omega
  refine ⟨by simp [hl]; omega, fun w hw => ?_, by simp [List.sum_append]; omega, fun w hw => ?_⟩
  · rcases List.mem_append.mp hw with hw | hw
    · have := hpos w hw
      omega
    · have : w = W - hd.sum := by simpa using hw
      omega
  · rcases List.mem_append.mp hw with hw | hw
    · exact hpos w hw
    · have : w = W - hd.sum := by simpa using hw
      omega
theorem Valid.gam {os : List Rat} {W : Int} {s0 : Rat} {ss : List Rat} (v : Valid os W s0 ss) {ws : List Int} (h : ws ∈ allW os.length W) : GamOk ws os := by
  have l2 := v.l2
  have w1 := v.w1
  have w2 := v.w2
  obtain ⟨h1, h2, h3, _⟩ := allW_ok (by omega) w1 h
  exact ⟨h1, v.l5, h2, by omega, by rw [h3]; omega, fun o ho => (v.oz o ho).1, fun o ho => (v.oz o ho).2⟩
theorem allW_num {n : Nat} {W : Int} (hn : 1 ≤ n) (hn5 : n ≤ 5) (hW : W ≤ 20) : (allW n W).length ≤ sizeLine := by
  unfold allW
  rw [List.length_map]
  exact Nat.le_trans (headsT_num hn hW (n - 1) (Nat.le_refl _)) (Nat.le_trans (Nat.pow_le_pow_right (by decide) (show n - 1 ≤ 4 by omega)) (by decide))
theorem filt_some {α β : Type} (p : α → Bool) (f : α → β) : ∀ l : List α, (l.filterMap fun a => if p a = true then some (f a) else none) = (l.filter p).map f
  | [] => rfl
  | a :: l => by
    by_cases h : p a = true
    · simp [h, filt_some p f l]
    · simp [h, filt_some p f l]
theorem rd_told_by (ds : List D) (μ : Mu) (Q : DQ) (E) (h : sp_told_by ds μ Q E) : t_told_by { nx := fun _ μ' => Q .non μ', rt := Q } (ds.map some ++ List.replicate (4 - ds.length) none) μ := by
  obtain ⟨os, W, s0, ss, rfl, v, q⟩ := h
  have l2 := v.l2
  have l5 := v.l5
  have w1 := v.w1
  unfold t_told_by
  simp only [dRaise, dCallX, dRet, dRetN, dSeq, dNext, dDrop, dIfS, dNever, dAsg, dPar, dPar3, dgName, dgTup, dgLst, dgNil, dgCons, dgSub, dOp, dTest, dChain, dVar, dFrz, dC, dAdd, dSub, dMulT, dDiv, dMod, dPow, dLt, dLe, dGt, dGe, dInt0, dInt2, dEq, dNe, dIn, dNotIn, dIsN, dNotN, dAnd, dOr, dNot, dAndV, dOrV, dNotV, dIf, dNil, dCons, dTup, dLst, dLstM, dIx, dSlice, dNo, dPart, dCall, dCallF, bAbs, bLen, bSum, bAll, bAny, bInt, bStr, bTup, bLst, bIsi, dLc_eq, dFor_eq, dWhile_eq, diLst, diTup, diRng1, diRng2, diZip2, diZip3, diEnum, diSeq, dYes, dAppend, dRepL, dJoin, dSplit, List.getElem?_cons_zero, List.getElem?_cons_succ, List.set_cons_zero, List.set_cons_succ, List.map_cons, List.map_nil, List.cons_append, List.nil_append, List.replicate, List.length_cons, List.length_nil, dwipe, atI_0, atI_1, ex_some]
  refine ⟨os.length, W, by simp [fL], by omega, l5, by omega, v.w2, ?_⟩
  show LcB _ _ _ _ _ ((allW os.length W).map tupW) _ _
  refine LcB.fm (allW os.length W) tupW (fun ws => if bestB ws os s0 ss = true then some (tupW ws) else none) rfl (allW_num (by omega) l5 v.w2) ?_ ?_
  · intro ws hm R hR
    simp only [dRaise, dCallX, dRet, dRetN, dSeq, dNext, dDrop, dIfS, dNever, dAsg, dPar, dPar3, dgName, dgTup, dgLst, dgNil, dgCons, dgSub, dOp, dTest, dChain, dVar, dFrz, dC, dAdd, dSub, dMulT, dDiv, dMod, dPow, dLt, dLe, dGt, dGe, dInt0, dInt2, dEq, dNe, dIn, dNotIn, dIsN, dNotN, dAnd, dOr, dNot, dAndV, dOrV, dNotV, dIf, dNil, dCons, dTup, dLst, dLstM, dIx, dSlice, dNo, dPart, dCall, dCallF, bAbs, bLen, bSum, bAll, bAny, bInt, bStr, bTup, bLst, bIsi, dLc_eq, dFor_eq, dWhile_eq, diLst, diTup, diRng1, diRng2, diZip2, diZip3, diEnum, diSeq, dYes, dAppend, dRepL, dJoin, dSplit, List.getElem?_cons_zero, List.getElem?_cons_succ, List.set_cons_zero, List.set_cons_succ, List.map_cons, List.map_nil, List.cons_append, List.nil_append, List.replicate, List.length_cons, List.length_nil, dwipe, atI_0, atI_1, ex_some]
    refine ⟨by decide, ws, os, s0, ss, rfl, v.gam hm, v.sh, ?_⟩
    cases e : bestB ws os s0 ss with
    | true =>
      rw [e] at hR
      exact hR
    | false =>
      rw [e] at hR
      exact hR
  · rw [filt_some]
    exact q
theorem ok_told_by (d : Dn K mg "told_by" s_told_by) (b_len : mg "len" = none) (g_all_weights : Dk P w K mg base "all_weights" 1 ["outcomes", "whole"] sp_all_weights) (g_are_best : Dk P w K mg base "are_best" 7 ["game", "shares"] sp_are_best) : Dk P w K mg base "told_by" 8 ["odds", "whole", "shares"] sp_told_by :=
  Dk.of d sc_told_by ln_told_by (fun _ _ _ _ _ _ us hl => match us, hl with | [_, _, _], _ => rfl) t_told_by (fun F0 f cdv A outer s H E hr => by
    have nd := sc_told_by.nd
    exact (ds_one (ds_ret (d_lc (own := [("weights", 3)]) rfl nd (di_lst (d_callD g_all_weights (hr.mono (by decide)) (da_cons (d_callB (call_len_seq.or call_len_str) lc_len (by rfl) b_len bb_len (da_cons (dv 0) da_nil)) (da_cons (dv 1) da_nil)))) (blkOk_by (N := ["odds", "whole", "shares", "weights"]) (sc := defScope s_told_by) (own := [("weights", 3)]) (by decide +kernel)) (fun _ _ _ _ _ => (dg_name (i := 3) nd rfl (Or.inl rfl) (by decide))) (fun _ _ _ _ _ => (dp_one (d_test (d_callD g_are_best (hr.mono (by decide)) (da_cons (d_tup (da_cons (dv 3) (da_cons (dv 0) da_nil))) (da_cons (dv 2) da_nil)))))) (fun _ _ _ _ _ => (dv 3)))))) rd_told_by
/-! ### weights_told -/
def sp_weights_told (C : Str → Addr) : DSp := ToldS C fun os W s0 ss => dlW (toldL os W s0 ss)
theorem ln_weights_told (C : Str → Addr) (ds : List D) (μ Q E) (h : sp_weights_told C ds μ Q E) : ds.length = 3 := told_len h
abbrev s_weights_told : Stmt := top 42
theorem sc_weights_told : FnScope ["odds", "total", "shares"] ["odds", "total", "shares"] (defScope s_weights_told) := ⟨rfl, rfl, rfl, by decide +kernel, rfl, by decide +kernel, by decide +kernel⟩
def t_weights_told (C : Str → Addr) (Ew : Value → Mu → Prop) : DS := (dSeq (dDrop (dCallX (sp_need_told C) Ew (dCons (dVar 0) (dCons (dVar 1) (dCons (dVar 2) dNil)))))
  (dRet (dCallF sp_told_by (dCons (dVar 0) (dCons (dVar 1) (dCons (dVar 2) dNil))))))
theorem rd_weights_told (C : Str → Addr) (ds : List D) (μ : Mu) (Q : DQ) (E) (h : sp_weights_told C ds μ Q E) : t_weights_told C E { nx := fun _ μ' => Q .non μ', rt := Q } (ds.map some ++ List.replicate (3 - ds.length) none) μ := by
  unfold t_weights_told
  rcases h with ⟨os, W, s0, ss, rfl, v, q⟩ | ⟨o, w, s, x, rfl, hb, q⟩
  · simp only [dRaise, dCallX, dRet, dRetN, dSeq, dNext, dDrop, dIfS, dNever, dAsg, dPar, dPar3, dgName, dgTup, dgLst, dgNil, dgCons, dgSub, dOp, dTest, dChain, dVar, dFrz, dC, dAdd, dSub, dMulT, dDiv, dMod, dPow, dLt, dLe, dGt, dGe, dInt0, dInt2, dEq, dNe, dIn, dNotIn, dIsN, dNotN, dAnd, dOr, dNot, dAndV, dOrV, dNotV, dIf, dNil, dCons, dTup, dLst, dLstM, dIx, dSlice, dNo, dPart, dCall, dCallF, bAbs, bLen, bSum, bAll, bAny, bInt, bStr, bTup, bLst, bIsi, dLc_eq, dFor_eq, dWhile_eq, diLst, diTup, diRng1, diRng2, diZip2, diZip3, diEnum, diSeq, dYes, dAppend, dRepL, dJoin, dSplit, List.getElem?_cons_zero, List.getElem?_cons_succ, List.set_cons_zero, List.set_cons_succ, List.map_cons, List.map_nil, List.cons_append, List.nil_append, List.replicate, List.length_cons, List.length_nil, dwipe, atI_0, atI_1, ex_some]
    exact .inl ⟨os, W, s0, ss, rfl, v, os, W, s0, ss, rfl, v, q⟩
  · simp only [dRaise, dCallX, dRet, dRetN, dSeq, dNext, dDrop, dIfS, dNever, dAsg, dPar, dPar3, dgName, dgTup, dgLst, dgNil, dgCons, dgSub, dOp, dTest, dChain, dVar, dFrz, dC, dAdd, dSub, dMulT, dDiv, dMod, dPow, dLt, dLe, dGt, dGe, dInt0, dInt2, dEq, dNe, dIn, dNotIn, dIsN, dNotN, dAnd, dOr, dNot, dAndV, dOrV, dNotV, dIf, dNil, dCons, dTup, dLst, dLstM, dIx, dSlice, dNo, dPart, dCall, dCallF, bAbs, bLen, bSum, bAll, bAny, bInt, bStr, bTup, bLst, bIsi, dLc_eq, dFor_eq, dWhile_eq, diLst, diTup, diRng1, diRng2, diZip2, diZip3, diEnum, diSeq, dYes, dAppend, dRepL, dJoin, dSplit, List.getElem?_cons_zero, List.getElem?_cons_succ, List.set_cons_zero, List.set_cons_succ, List.map_cons, List.map_nil, List.cons_append, List.nil_append, List.replicate, List.length_cons, List.length_nil, dwipe, atI_0, atI_1, ex_some]
    exact .inr ⟨o, w, s, x, rfl, hb, q⟩
theorem ok_weights_told (d : Dn K mg "weights_told" s_weights_told) (g_need_told : DkX P w K mg base "need_told" 6 ["odds", "whole", "shares"] (sp_need_told C)) (g_told_by : Dk P w K mg base "told_by" 8 ["odds", "whole", "shares"] sp_told_by) : DkX P w K mg base "weights_told" 9 ["odds", "total", "shares"] (sp_weights_told C) :=
  DkX.of d sc_weights_told (ln_weights_told C) (fun _ _ _ _ _ _ us hl => match us, hl with | [_, _, _], _ => rfl) (t_weights_told C) (fun F0 f cdv A outer s H E Ew hr tk => by
    have nd := sc_weights_told.nd
    exact (ds_cons (ds_expr (d_callDX tk g_need_told (hr.mono (by decide)) (da_cons (dv 0) (da_cons (dv 1) (da_cons (dv 2) da_nil)))))
      (ds_one (ds_ret (d_callD g_told_by (hr.mono (by decide)) (da_cons (dv 0) (da_cons (dv 1) (da_cons (dv 2) da_nil)))))))) (rd_weights_told C)
/-! ### surely_above -/
def sp_surely_above (C : Str → Addr) : DSp := ToldS C fun os W s0 ss => .lst (wL (aboveL os W s0 ss))
theorem ln_surely_above (C : Str → Addr) (ds : List D) (μ Q E) (h : sp_surely_above C ds μ Q E) : ds.length = 3 := told_len h
abbrev s_surely_above : Stmt := top 43
theorem sc_surely_above : FnScope ["odds", "total", "shares", "some", "found", "at", "one", "weights"] ["odds", "total", "shares"] (defScope s_surely_above) := ⟨rfl, rfl, rfl, by decide +kernel, rfl, by decide +kernel, by decide +kernel⟩
def t_surely_above (C : Str → Addr) (Ew : Value → Mu → Prop) : DS := (dSeq (dDrop (dCallX (sp_need_told C) Ew (dCons (dVar 0) (dCons (dVar 1) (dCons (dVar 2) dNil)))))
  (dSeq (dPar 3 4 (dCons (dCallF sp_told_by (dCons (dVar 0) (dCons (dVar 1) (dCons (dVar 2) dNil)))) (dCons (dLst dNil) dNil)))
  (dSeq (dFor (diEnum .t (dCons (dVar 0) dNil)) (dgTup (dgCons (dgName 5) (dgCons (dgName 6) dgNil))) (dIfS (dTest (dCall bAll (dCons (dLc (diLst (dVar 3)) (dgName 7) dYes (dCallF sp_is_less (dCons (dTup (dCons (dC (.int 1)) (dCons (dC (.int 1)) dNil))) (dCons (dCallF sp_times (dCons (dCallF sp_made (dCons (dOp dIx (dVar 7) (dVar 5)) (dCons (dVar 1) dNil))) (dCons (dVar 6) dNil))) dNil))) [7]) dNil))) (dAsg (dOp dAdd (dVar 4) (dLst (dCons (dVar 5) dNil))) (dgName 4)) dNext))
  (dRet (dVar 4)))))
theorem rd_surely_above (C : Str → Addr) (ds : List D) (μ : Mu) (Q : DQ) (E) (h : sp_surely_above C ds μ Q E) : t_surely_above C E { nx := fun _ μ' => Q .non μ', rt := Q } (ds.map some ++ List.replicate (8 - ds.length) none) μ := by
  unfold t_surely_above
  rcases h with ⟨os, W, s0, ss, rfl, v, q⟩ | ⟨o, w, s, x, rfl, hb, q⟩
  · have l2 := v.l2
    have l5 := v.l5
    have w1 := v.w1
    have w2 := v.w2
    have hz := v.oz
    simp only [dRaise, dCallX, dRet, dRetN, dSeq, dNext, dDrop, dIfS, dNever, dAsg, dPar, dPar3, dgName, dgTup, dgLst, dgNil, dgCons, dgSub, dOp, dTest, dChain, dVar, dFrz, dC, dAdd, dSub, dMulT, dDiv, dMod, dPow, dLt, dLe, dGt, dGe, dInt0, dInt2, dEq, dNe, dIn, dNotIn, dIsN, dNotN, dAnd, dOr, dNot, dAndV, dOrV, dNotV, dIf, dNil, dCons, dTup, dLst, dLstM, dIx, dSlice, dNo, dPart, dCall, dCallF, bAbs, bLen, bSum, bAll, bAny, bInt, bStr, bTup, bLst, bIsi, dLc_eq, dFor_eq, dWhile_eq, diLst, diTup, diRng1, diRng2, diZip2, diZip3, diEnum, diSeq, dYes, dAppend, dRepL, dJoin, dSplit, List.getElem?_cons_zero, List.getElem?_cons_succ, List.set_cons_zero, List.set_cons_succ, List.map_cons, List.map_nil, List.cons_append, List.nil_append, List.replicate, List.length_cons, List.length_nil, dwipe, atI_0, atI_1, ex_some]
    refine .inl ⟨os, W, s0, ss, rfl, v, os, W, s0, ss, rfl, v, by decide, fL os, rfl, ?_⟩
    refine ForB.inv os.zipIdx (fun p => .tup [.int (p.2 : Nat), fr p.1]) (fun pre ρ m => (∃ o5 o6 o7, ρ = [some (.tup (fL os)), some (.int W), some (.tup (fL (s0 :: ss))), some (dlW (toldL os W s0 ss)), some (.lst (wL ((pre.filter fun p => (toldL os W s0 ss).all fun ws => decide ((1 : Rat) < (ws.getD p.2 0 : Rat) / (W : Rat) * p.1)).map fun p => (p.2 : Int)))), o5, o6, o7]) ∧ m = μ) (enumD_map fr os) ⟨⟨_, _, _, rfl⟩, rfl⟩ ?_ ?_
    · rintro pre ⟨o, i⟩ post ρ m he ⟨⟨o5, o6, o7, rfl⟩, rfl⟩
      have hm : (o, i) ∈ os.zipIdx := by rw [he]; simp
      have hi := List.mem_zipIdx hm
      have hoi : o ∈ os := by
        obtain ⟨_, h2, h3⟩ := hi
        rw [h3]
        exact List.getElem_mem _
      have hio : i < os.length := by
        obtain ⟨_, h2, _⟩ := hi
        omega
      have hpl : pre.length ≤ 5 := by
        have := congrArg List.length he
        simp only [List.length_zipIdx, List.length_append, List.length_cons] at this
        omega
      simp only [dRaise, dCallX, dRet, dRetN, dSeq, dNext, dDrop, dIfS, dNever, dAsg, dPar, dPar3, dgName, dgTup, dgLst, dgNil, dgCons, dgSub, dOp, dTest, dChain, dVar, dFrz, dC, dAdd, dSub, dMulT, dDiv, dMod, dPow, dLt, dLe, dGt, dGe, dInt0, dInt2, dEq, dNe, dIn, dNotIn, dIsN, dNotN, dAnd, dOr, dNot, dAndV, dOrV, dNotV, dIf, dNil, dCons, dTup, dLst, dLstM, dIx, dSlice, dNo, dPart, dCall, dCallF, bAbs, bLen, bSum, bAll, bAny, bInt, bStr, bTup, bLst, bIsi, dLc_eq, dFor_eq, dWhile_eq, diLst, diTup, diRng1, diRng2, diZip2, diZip3, diEnum, diSeq, dYes, dAppend, dRepL, dJoin, dSplit, List.getElem?_cons_zero, List.getElem?_cons_succ, List.set_cons_zero, List.set_cons_succ, List.map_cons, List.map_nil, List.cons_append, List.nil_append, List.replicate, List.length_cons, List.length_nil, dwipe, atI_0, atI_1, ex_some, dlW]
      refine LcB.mp (toldL os W s0 ss) tupW (fun ws => .bl (decide ((1 : Rat) < (ws.getD i 0 : Rat) / (W : Rat) * o))) rfl ?_ ?_ ?_
      · exact Nat.le_trans (List.length_filter_le _ _) (allW_num (by omega) l5 w2)
      · intro ws hw R hR
        have hin : ws ∈ allW os.length W := (List.mem_filter.mp hw).1
        obtain ⟨g1, g2, g3, _⟩ := allW_ok (by omega) w1 hin
        have gw := (v.gam hin).wz
        have gz := (v.gam hin).sz
        have hil : i < ws.length := by omega
        have hget : ws.getD i 0 = ws[i] := by simp [List.getD, hil]
        have hmem : ws[i] ∈ ws := List.getElem_mem _
        have hWs : W.natAbs < 2 ^ 16 := by rw [← g3]; exact gz
        simp only [dRaise, dCallX, dRet, dRetN, dSeq, dNext, dDrop, dIfS, dNever, dAsg, dPar, dPar3, dgName, dgTup, dgLst, dgNil, dgCons, dgSub, dOp, dTest, dChain, dVar, dFrz, dC, dAdd, dSub, dMulT, dDiv, dMod, dPow, dLt, dLe, dGt, dGe, dInt0, dInt2, dEq, dNe, dIn, dNotIn, dIsN, dNotN, dAnd, dOr, dNot, dAndV, dOrV, dNotV, dIf, dNil, dCons, dTup, dLst, dLstM, dIx, dSlice, dNo, dPart, dCall, dCallF, bAbs, bLen, bSum, bAll, bAny, bInt, bStr, bTup, bLst, bIsi, dLc_eq, dFor_eq, dWhile_eq, diLst, diTup, diRng1, diRng2, diZip2, diZip3, diEnum, diSeq, dYes, dAppend, dRepL, dJoin, dSplit, List.getElem?_cons_zero, List.getElem?_cons_succ, List.set_cons_zero, List.set_cons_succ, List.map_cons, List.map_nil, List.cons_append, List.nil_append, List.replicate, List.length_cons, List.length_nil, dwipe, atI_0, atI_1, ex_some, tupW, fr_one]
        rw [hget] at hR
        refine ⟨by decide, .int ws[i], ?_, ws[i], W, 16, rfl, by omega, hWs, by decide, _, o, 16, 20, rfl, .frac (by omega) (gw _ hmem) hWs, (hz o hoi).2, by decide, 1, _, 1, 36, rfl, ⟨by decide, by decide⟩, (Bz.frac (by omega) (gw _ hmem) hWs).mul (hz o hoi).2, by decide, hR⟩
        exact atI_get _ _ _ (by simp [wL, hil])
      · refine ⟨(toldL os W s0 ss).map fun ws => decide ((1 : Rat) < (ws.getD i 0 : Rat) / (W : Rat) * o), by simp, ?_⟩
        rw [List.all_map]
        by_cases hc : ((toldL os W s0 ss).all fun ws => decide ((1 : Rat) < (ws.getD i 0 : Rat) / (W : Rat) * o)) = true
        · have hc' : ((toldL os W s0 ss).all (id ∘ fun ws => decide ((1 : Rat) < (ws.getD i 0 : Rat) / (W : Rat) * o))) = true := hc
          rw [if_pos hc']
          refine ⟨by decide, ?_, ⟨some (.int i), some (fr o), o7, ?_⟩, rfl⟩
          · have := List.length_filter_le (fun p : Rat × Nat => (toldL os W s0 ss).all fun ws => decide ((1 : Rat) < (ws.getD p.2 0 : Rat) / (W : Rat) * p.1)) pre
            simp only [wL, List.length_map]
            rw [sizeLine_eq]
            omega
          · simp only [List.filter_append, List.filter_cons, hc, if_true, List.filter_nil, List.map_append, wL, List.map_cons, List.map_nil]
        · have hc' : ¬ ((toldL os W s0 ss).all (id ∘ fun ws => decide ((1 : Rat) < (ws.getD i 0 : Rat) / (W : Rat) * o))) = true := hc
          rw [if_neg hc']
          refine ⟨⟨some (.int i), some (fr o), o7, ?_⟩, rfl⟩
          simp only [List.filter_append, List.filter_cons, hc, if_false, Bool.false_eq_true, List.filter_nil, List.append_nil]
    · rintro ρ m ⟨⟨o5, o6, o7, rfl⟩, rfl⟩
      simp only [dRaise, dCallX, dRet, dRetN, dSeq, dNext, dDrop, dIfS, dNever, dAsg, dPar, dPar3, dgName, dgTup, dgLst, dgNil, dgCons, dgSub, dOp, dTest, dChain, dVar, dFrz, dC, dAdd, dSub, dMulT, dDiv, dMod, dPow, dLt, dLe, dGt, dGe, dInt0, dInt2, dEq, dNe, dIn, dNotIn, dIsN, dNotN, dAnd, dOr, dNot, dAndV, dOrV, dNotV, dIf, dNil, dCons, dTup, dLst, dLstM, dIx, dSlice, dNo, dPart, dCall, dCallF, bAbs, bLen, bSum, bAll, bAny, bInt, bStr, bTup, bLst, bIsi, dLc_eq, dFor_eq, dWhile_eq, diLst, diTup, diRng1, diRng2, diZip2, diZip3, diEnum, diSeq, dYes, dAppend, dRepL, dJoin, dSplit, List.getElem?_cons_zero, List.getElem?_cons_succ, List.set_cons_zero, List.set_cons_succ, List.map_cons, List.map_nil, List.cons_append, List.nil_append, List.replicate, List.length_cons, List.length_nil, dwipe, atI_0, atI_1, ex_some]
      exact q
  · simp only [dRaise, dCallX, dRet, dRetN, dSeq, dNext, dDrop, dIfS, dNever, dAsg, dPar, dPar3, dgName, dgTup, dgLst, dgNil, dgCons, dgSub, dOp, dTest, dChain, dVar, dFrz, dC, dAdd, dSub, dMulT, dDiv, dMod, dPow, dLt, dLe, dGt, dGe, dInt0, dInt2, dEq, dNe, dIn, dNotIn, dIsN, dNotN, dAnd, dOr, dNot, dAndV, dOrV, dNotV, dIf, dNil, dCons, dTup, dLst, dLstM, dIx, dSlice, dNo, dPart, dCall, dCallF, bAbs, bLen, bSum, bAll, bAny, bInt, bStr, bTup, bLst, bIsi, dLc_eq, dFor_eq, dWhile_eq, diLst, diTup, diRng1, diRng2, diZip2, diZip3, diEnum, diSeq, dYes, dAppend, dRepL, dJoin, dSplit, List.getElem?_cons_zero, List.getElem?_cons_succ, List.set_cons_zero, List.set_cons_succ, List.map_cons, List.map_nil, List.cons_append, List.nil_append, List.replicate, List.length_cons, List.length_nil, dwipe, atI_0, atI_1, ex_some]
    exact .inr ⟨o, w, s, x, rfl, hb, q⟩
theorem ok_surely_above (d : Dn K mg "surely_above" s_surely_above) (b_enumerate : mg "enumerate" = none) (b_all : mg "all" = none) (g_need_told : DkX P w K mg base "need_told" 6 ["odds", "whole", "shares"] (sp_need_told C)) (g_told_by : Dk P w K mg base "told_by" 8 ["odds", "whole", "shares"] sp_told_by) (g_is_less : Dk P w K mg base "is_less" 1 ["one", "other"] sp_is_less) (g_times : Dk P w K mg base "times" 3 ["one", "other"] sp_times) (g_made : Dk P w K mg base "made" 2 ["top", "below"] sp_made) : DkX P w K mg base "surely_above" 9 ["odds", "total", "shares"] (sp_surely_above C) :=
  DkX.of d sc_surely_above (ln_surely_above C) (fun _ _ _ _ _ _ us hl => match us, hl with | [_, _, _], _ => rfl) (t_surely_above C) (fun F0 f cdv A outer s H E Ew hr tk => by
    have nd := sc_surely_above.nd
    exact (ds_cons (ds_expr (d_callDX tk g_need_told (hr.mono (by decide)) (da_cons (dv 0) (da_cons (dv 1) (da_cons (dv 2) da_nil)))))
      (ds_cons (ds_par (i := 3) (j := 4) rfl nd rfl rfl (by decide) rfl rfl (da_cons (d_callD g_told_by (hr.mono (by decide)) (da_cons (dv 0) (da_cons (dv 1) (da_cons (dv 2) da_nil)))) (da_cons (d_lst da_nil) da_nil)) (by rfl))
      (ds_cons (ds_for (vs := [5, 6]) PassesOwn.leaving rfl (di_enum .t (by rfl) b_enumerate (da_cons (dv 0) da_nil)) (dg_tup 2 rfl (dgs_cons (dg_name (i := 5) nd rfl (Or.inr rfl) (by decide)) (dgs_cons (dg_name (i := 6) nd rfl (Or.inr rfl) (by decide)) dgs_nil)) (gl_cons (gl_cons (fun _ _ _ _ h => gl_nil h) gx_name) gx_name)) (ds_one (ds_if (d_test (d_callB (cr_all rfl) lc_all (by rfl) b_all bb_all (da_cons (d_lc (own := [("weights", 7)]) rfl nd (di_lst (dv 3)) (blkOk_by (N := ["odds", "total", "shares", "some", "found", "at", "one", "weights"]) (sc := defScope s_surely_above) (own := [("weights", 7)]) (by decide +kernel)) (fun _ _ _ _ _ => (dg_name (i := 7) nd rfl (Or.inl rfl) (by decide))) (fun _ _ _ _ _ => dp_nil) (fun _ _ _ _ _ => (d_callD g_is_less (hr.mono (by decide)) (da_cons (d_tup (da_cons d_int (da_cons d_int da_nil))) (da_cons (d_callD g_times (hr.mono (by decide)) (da_cons (d_callD g_made (hr.mono (by decide)) (da_cons (d_ix (dv 7) (dv 5)) (da_cons (dv 1) da_nil))) (da_cons (dv 6) da_nil))) da_nil))))) da_nil))) (ds_one (ds_set (i := 4) nd rfl (Or.inl rfl) (d_add (dv 4) (d_lst (da_cons (dv 5) da_nil))))) ds_nil)))
      (ds_one (ds_ret (dv 4))))))) (rd_surely_above C)
end
end GS

-- text W4
set_option Elab.async false
set_option linter.all false
set_option maxRecDepth 100000
set_option maxHeartbeats 4000000
namespace GS
open PySem PySem.Spec PyProof.Rows L2 DL
section
variable {P : Program} {w : World} {K : Fg} {mg : Str → Option Value} {base : Heap} {C : Str → Addr}
/-! ### _law_drum -/
def sp_law_drum : DSp := fun ds μ Q _ => ∃ c t : Int, ds = [.int c, .int t] ∧ c.natAbs.log2 < 2000000 ∧ t.natAbs.log2 < 100 ∧ ∀ p g x, μ p = none → 0 ≤ x → x < 2 ^ 31 → Q (.raw (.ref p)) (muSet μ p (.lst [.int g, .int x]))
theorem ln_law_drum (ds : List D) (μ Q E) (h : sp_law_drum ds μ Q E) : ds.length = 2 := by
  obtain ⟨i, j, rfl, _⟩ := h
  rfl
abbrev s_law_drum : Stmt := top 45
theorem sc_law_drum : FnScope ["_law_cell", "_law_turn", "_law_great"] ["_law_cell", "_law_turn"] (defScope s_law_drum) := ⟨rfl, rfl, rfl, by decide +kernel, rfl, by decide +kernel, by decide +kernel⟩
def t_law_drum : DS := (dSeq (dAsg (dIf (dTest (dOp dGe (dVar 0) (dOp dPow (dC (.int 10)) (dC (.int 18))))) (dOp dAdd (dOp dDiv (dVar 0) (dC (.int 7))) (dOp dMulT (dC (.int 61)) (dVar 1))) (dC (.int 0))) (dgName 2))
  (dRet (dLstM (dCons (dVar 2) (dCons (dOp dAdd (dOp dMod (dCall bInt (dCons (dOp dAdd (dOp dMulT (dVar 0) (dC (.int 97))) (dOp dMulT (dC (.int 1087)) (dVar 1))) dNil)) (dC (.int 2077504273))) (dC (.int 71))) dNil)))))
theorem mulB' {i j : Int} (h1 : i.natAbs.log2 < 2000000) (h2 : j.natAbs.log2 < 1000) : CMulB i j := by
  show _ < _
  omega
theorem rd_law_drum (ds : List D) (μ : Mu) (Q : DQ) (E) (h : sp_law_drum ds μ Q E) : t_law_drum { nx := fun _ μ' => Q .non μ', rt := Q } (ds.map some ++ List.replicate (3 - ds.length) none) μ := by
  obtain ⟨c, t, rfl, hc, ht, q⟩ := h
  have m1 : CMulB 61 t := mulB' (by decide) (by omega)
  have m2 : CMulB 1087 t := mulB' (by decide) (by omega)
  have m3 : CMulB c 97 := mulB' (by omega) (by decide)
  have d7 : CDivW c 7 := ⟨by decide, by decide⟩
  have fin : ∀ g : Int, (0 + 1 + 1 ≤ sizeLine ∧ ∀ p, μ p = none → Q (.raw (.ref p)) (muSet μ p (.lst [.int g, .int ((c * 97 + 1087 * t) % 2077504273 + 71)]))) := fun g => ⟨by decide, fun p hp => by
    have h1 := Int.emod_nonneg (c * 97 + 1087 * t) (b := 2077504273) (by decide)
    have h2 := Int.emod_lt_of_pos (c * 97 + 1087 * t) (b := 2077504273) (by decide)
    exact q p g _ hp (by omega) (by omega)⟩
  have p1 : CPow 10 18 := ⟨by decide, by decide, by decide⟩
  unfold t_law_drum
  simp only [dRaise, dCallX, dRet, dRetN, dSeq, dNext, dDrop, dIfS, dNever, dAsg, dPar, dPar3, dgName, dgTup, dgLst, dgNil, dgCons, dgSub, dOp, dTest, dChain, dVar, dFrz, dC, dAdd, dSub, dMulT, dDiv, dMod, dPow, dLt, dLe, dGt, dGe, dInt0, dInt2, dEq, dNe, dIn, dNotIn, dIsN, dNotN, dAnd, dOr, dNot, dAndV, dOrV, dNotV, dIf, dNil, dCons, dTup, dLst, dLstM, dIx, dSlice, dNo, dPart, dCall, dCallF, bAbs, bLen, bSum, bAll, bAny, bInt, bStr, bTup, bLst, bIsi, dLc_eq, dFor_eq, dWhile_eq, diLst, diTup, diRng1, diRng2, diZip2, diZip3, diEnum, diSeq, dYes, dAppend, dRepL, dJoin, dSplit, List.getElem?_cons_zero, List.getElem?_cons_succ, List.set_cons_zero, List.set_cons_succ, List.map_cons, List.map_nil, List.cons_append, List.nil_append, List.replicate, List.length_cons, List.length_nil, dwipe, atI_0, atI_1, ex_some]
  refine ⟨p1, ?_⟩
  split
  · refine ⟨d7, m1, m3, m2, by decide, fin _⟩
  · exact ⟨m3, m2, by decide, fin _⟩
theorem ok_law_drum (d : Dn K mg "_law_drum" s_law_drum) (b_int : mg "int" = none) : Dk P w K mg base "_law_drum" 1 ["_law_cell", "_law_turn"] sp_law_drum :=
  Dk.of d sc_law_drum ln_law_drum (fun _ _ _ _ _ _ us hl => match us, hl with | [_, _], _ => rfl) t_law_drum (fun F0 f cdv A outer s H E hr => by
    have nd := sc_law_drum.nd
    exact (ds_cons (ds_set (i := 2) nd rfl (Or.inl rfl) (d_if (d_geT  (dv 0) (d_pow d_int d_int)) (d_add (d_div (dv 0) d_int) (d_mul d_int (dv 1))) d_int))
      (ds_one (ds_ret (d_lstM (da_cons (dv 2) (da_cons (d_add (d_mod (d_callTy (call_int1.or call_int_str) lc_int (by rfl) b_int bt_int (da_cons (d_add (d_mul (dv 0) d_int) (d_mul d_int (dv 1))) da_nil)) d_int) d_int) da_nil))))))) rd_law_drum
/-! ### _law_roll -/
def sp_law_roll : DSp := fun ds μ Q _ => ∃ (a : Addr) (k : Int), ds = [.raw (.ref a), .int k] ∧ DrumAt μ a ∧ 0 < k ∧ k < 2 ^ 100 ∧ ∀ r μ', 0 ≤ r → r < k → Adv a μ μ' → Q (.int r) μ'
theorem ln_law_roll (ds : List D) (μ Q E) (h : sp_law_roll ds μ Q E) : ds.length = 2 := by
  obtain ⟨i, j, rfl, _⟩ := h
  rfl
abbrev s_law_roll : Stmt := top 46
theorem sc_law_roll : FnScope ["_law_drum_here", "_law_many", "_law_found", "_law_deep"] ["_law_drum_here", "_law_many"] (defScope s_law_roll) := ⟨rfl, rfl, rfl, by decide +kernel, rfl, by decide +kernel, by decide +kernel⟩
def t_law_roll : DS := (dSeq (dIfS (dTest (dOp dGt (dOp dIx (dVar 0) (dC (.int 0))) (dC (.int 0)))) (dSeq (dAsg (dOp dMod (dCall bInt (dCons (dOp dIx (dVar 0) (dC (.int 0))) dNil)) (dVar 1)) (dgName 2))
  (dSeq (dAsg (dOp dDiv (dOp dIx (dVar 0) (dC (.int 0))) (dVar 1)) (dgSub (dVar 0) (dC (.int 0))))
  (dRet (dVar 2)))) dNext)
  (dSeq (dAsg (dOp dMod (dCall bInt (dCons (dOp dAdd (dOp dMulT (dOp dIx (dVar 0) (dC (.int 1))) (dC (.int 30671))) (dC (.int 8807))) dNil)) (dC (.int 2147483549))) (dgSub (dVar 0) (dC (.int 1))))
  (dSeq (dAsg (dOp dMod (dCall bInt (dCons (dOp dMulT (dOp dIx (dVar 0) (dC (.int 1))) (dOp dAdd (dOp dIx (dVar 0) (dC (.int 1))) (dC (.int 101)))) dNil)) (dC (.int 2147483587))) (dgName 3))
  (dRet (dOp dMod (dCall bInt (dCons (dOp dDiv (dVar 3) (dC (.int 613))) dNil)) (dVar 1))))))
theorem rd_law_roll (ds : List D) (μ : Mu) (Q : DQ) (E) (h : sp_law_roll ds μ Q E) : t_law_roll { nx := fun _ μ' => Q .non μ', rt := Q } (ds.map some ++ List.replicate (4 - ds.length) none) μ := by
  obtain ⟨a, k, rfl, ⟨g, x, hm, h0, h1⟩, hk, hk2, q⟩ := h
  have kk : k.natAbs < 2 ^ 100 := by omega
  unfold t_law_roll
  simp only [dRaise, dCallX, dRet, dRetN, dSeq, dNext, dDrop, dIfS, dNever, dAsg, dPar, dPar3, dgName, dgTup, dgLst, dgNil, dgCons, dgSub, dOp, dTest, dChain, dVar, dFrz, dC, dAdd, dSub, dMulT, dDiv, dMod, dPow, dLt, dLe, dGt, dGe, dInt0, dInt2, dEq, dNe, dIn, dNotIn, dIsN, dNotN, dAnd, dOr, dNot, dAndV, dOrV, dNotV, dIf, dNil, dCons, dTup, dLst, dLstM, dIx, dSlice, dNo, dPart, dCall, dCallF, bAbs, bLen, bSum, bAll, bAny, bInt, bStr, bTup, bLst, bIsi, dLc_eq, dFor_eq, dWhile_eq, diLst, diTup, diRng1, diRng2, diZip2, diZip3, diEnum, diSeq, dYes, dAppend, dRepL, dJoin, dSplit, List.getElem?_cons_zero, List.getElem?_cons_succ, List.set_cons_zero, List.set_cons_succ, List.map_cons, List.map_nil, List.cons_append, List.nil_append, List.replicate, List.length_cons, List.length_nil, dwipe, atI_0, atI_1, ex_some]
  refine ⟨_, _, hm, atI_0 _ _, ?_⟩
  simp only [dRaise, dCallX, dRet, dRetN, dSeq, dNext, dDrop, dIfS, dNever, dAsg, dPar, dPar3, dgName, dgTup, dgLst, dgNil, dgCons, dgSub, dOp, dTest, dChain, dVar, dFrz, dC, dAdd, dSub, dMulT, dDiv, dMod, dPow, dLt, dLe, dGt, dGe, dInt0, dInt2, dEq, dNe, dIn, dNotIn, dIsN, dNotN, dAnd, dOr, dNot, dAndV, dOrV, dNotV, dIf, dNil, dCons, dTup, dLst, dLstM, dIx, dSlice, dNo, dPart, dCall, dCallF, bAbs, bLen, bSum, bAll, bAny, bInt, bStr, bTup, bLst, bIsi, dLc_eq, dFor_eq, dWhile_eq, diLst, diTup, diRng1, diRng2, diZip2, diZip3, diEnum, diSeq, dYes, dAppend, dRepL, dJoin, dSplit, List.getElem?_cons_zero, List.getElem?_cons_succ, List.set_cons_zero, List.set_cons_succ, List.map_cons, List.map_nil, List.cons_append, List.nil_append, List.replicate, List.length_cons, List.length_nil, dwipe, atI_0, atI_1, ex_some]
  split
  · refine ⟨_, _, hm, atI_0 _ _, ?_⟩
    simp only [dRaise, dCallX, dRet, dRetN, dSeq, dNext, dDrop, dIfS, dNever, dAsg, dPar, dPar3, dgName, dgTup, dgLst, dgNil, dgCons, dgSub, dOp, dTest, dChain, dVar, dFrz, dC, dAdd, dSub, dMulT, dDiv, dMod, dPow, dLt, dLe, dGt, dGe, dInt0, dInt2, dEq, dNe, dIn, dNotIn, dIsN, dNotN, dAnd, dOr, dNot, dAndV, dOrV, dNotV, dIf, dNil, dCons, dTup, dLst, dLstM, dIx, dSlice, dNo, dPart, dCall, dCallF, bAbs, bLen, bSum, bAll, bAny, bInt, bStr, bTup, bLst, bIsi, dLc_eq, dFor_eq, dWhile_eq, diLst, diTup, diRng1, diRng2, diZip2, diZip3, diEnum, diSeq, dYes, dAppend, dRepL, dJoin, dSplit, List.getElem?_cons_zero, List.getElem?_cons_succ, List.set_cons_zero, List.set_cons_succ, List.map_cons, List.map_nil, List.cons_append, List.nil_append, List.replicate, List.length_cons, List.length_nil, dwipe, atI_0, atI_1, ex_some]
    refine ⟨hk, _, _, hm, atI_0 _ _, divW hk kk (by decide), [.int g, .int x], 0, hm, rfl, ?_⟩
    refine q _ _ (Int.emod_nonneg _ (by omega)) (Int.emod_lt_of_pos _ hk) (.set h0 h1)
  · refine ⟨_, _, hm, atI_1 _ _ _, ?_⟩
    simp only [dRaise, dCallX, dRet, dRetN, dSeq, dNext, dDrop, dIfS, dNever, dAsg, dPar, dPar3, dgName, dgTup, dgLst, dgNil, dgCons, dgSub, dOp, dTest, dChain, dVar, dFrz, dC, dAdd, dSub, dMulT, dDiv, dMod, dPow, dLt, dLe, dGt, dGe, dInt0, dInt2, dEq, dNe, dIn, dNotIn, dIsN, dNotN, dAnd, dOr, dNot, dAndV, dOrV, dNotV, dIf, dNil, dCons, dTup, dLst, dLstM, dIx, dSlice, dNo, dPart, dCall, dCallF, bAbs, bLen, bSum, bAll, bAny, bInt, bStr, bTup, bLst, bIsi, dLc_eq, dFor_eq, dWhile_eq, diLst, diTup, diRng1, diRng2, diZip2, diZip3, diEnum, diSeq, dYes, dAppend, dRepL, dJoin, dSplit, List.getElem?_cons_zero, List.getElem?_cons_succ, List.set_cons_zero, List.set_cons_succ, List.map_cons, List.map_nil, List.cons_append, List.nil_append, List.replicate, List.length_cons, List.length_nil, dwipe, atI_0, atI_1, ex_some]
    have b1 : x.natAbs < 2 ^ 31 := by omega
    refine ⟨mulW b1 (show (30671 : Int).natAbs < 2 ^ 15 by decide) (by decide), by decide, [.int g, .int x], 1, hm, rfl, ?_⟩
    generalize hx : (x * 30671 + 8807) % 2147483549 = x1
    have c0 : 0 ≤ x1 := by rw [← hx]; exact Int.emod_nonneg _ (by decide)
    have c1 : x1 < 2147483549 := by rw [← hx]; exact Int.emod_lt_of_pos _ (by decide)
    have b2 : x1.natAbs < 2 ^ 31 := by omega
    have b3 : (x1 + 101).natAbs < 2 ^ 32 := by omega
    have hm2 : (muSet μ a (.lst ([D.int g, D.int x].set 1 (D.int x1)))) a = some (.lst [.int g, .int x1]) := muSet_same
    refine ⟨_, _, hm2, atI_1 _ _ _, _, _, hm2, atI_1 _ _ _, ?_⟩
    simp only [dRaise, dCallX, dRet, dRetN, dSeq, dNext, dDrop, dIfS, dNever, dAsg, dPar, dPar3, dgName, dgTup, dgLst, dgNil, dgCons, dgSub, dOp, dTest, dChain, dVar, dFrz, dC, dAdd, dSub, dMulT, dDiv, dMod, dPow, dLt, dLe, dGt, dGe, dInt0, dInt2, dEq, dNe, dIn, dNotIn, dIsN, dNotN, dAnd, dOr, dNot, dAndV, dOrV, dNotV, dIf, dNil, dCons, dTup, dLst, dLstM, dIx, dSlice, dNo, dPart, dCall, dCallF, bAbs, bLen, bSum, bAll, bAny, bInt, bStr, bTup, bLst, bIsi, dLc_eq, dFor_eq, dWhile_eq, diLst, diTup, diRng1, diRng2, diZip2, diZip3, diEnum, diSeq, dYes, dAppend, dRepL, dJoin, dSplit, List.getElem?_cons_zero, List.getElem?_cons_succ, List.set_cons_zero, List.set_cons_succ, List.map_cons, List.map_nil, List.cons_append, List.nil_append, List.replicate, List.length_cons, List.length_nil, dwipe, atI_0, atI_1, ex_some]
    refine ⟨mulW b2 b3 (by decide), by decide, ⟨by decide, by decide⟩, hk, ?_⟩
    exact q _ _ (Int.emod_nonneg _ (by omega)) (Int.emod_lt_of_pos _ hk) (.set c0 (by omega))
theorem ok_law_roll (d : Dn K mg "_law_roll" s_law_roll) (b_int : mg "int" = none) : Dk P w K mg base "_law_roll" 1 ["_law_drum_here", "_law_many"] sp_law_roll :=
  Dk.of d sc_law_roll ln_law_roll (fun _ _ _ _ _ _ us hl => match us, hl with | [_, _], _ => rfl) t_law_roll (fun F0 f cdv A outer s H E hr => by
    have nd := sc_law_roll.nd
    exact (ds_cons (ds_if (d_gtT  (d_ix (dv 0) d_int) d_int) (ds_cons (ds_set (i := 2) nd rfl (Or.inl rfl) (d_mod (d_callTy (call_int1.or call_int_str) lc_int (by rfl) b_int bt_int (da_cons (d_ix (dv 0) d_int) da_nil)) (dv 1)))
      (ds_cons (ds_asg (vs := []) (d_div (d_ix (dv 0) d_int) (dv 1)) (dg_sub (dv 0) d_int))
      (ds_one (ds_ret (dv 2))))) ds_nil)
      (ds_cons (ds_asg (vs := []) (d_mod (d_callTy (call_int1.or call_int_str) lc_int (by rfl) b_int bt_int (da_cons (d_add (d_mul (d_ix (dv 0) d_int) d_int) d_int) da_nil)) d_int) (dg_sub (dv 0) d_int))
      (ds_cons (ds_set (i := 3) nd rfl (Or.inl rfl) (d_mod (d_callTy (call_int1.or call_int_str) lc_int (by rfl) b_int bt_int (da_cons (d_mul (d_ix (dv 0) d_int) (d_add (d_ix (dv 0) d_int) d_int)) da_nil)) d_int))
      (ds_one (ds_ret (d_mod (d_callTy (call_int1.or call_int_str) lc_int (by rfl) b_int bt_int (da_cons (d_div (dv 3) d_int) da_nil)) (dv 1)))))))) rd_law_roll
/-! ### _law_some -/
def sp_law_some : DSp := fun ds μ Q _ => ∃ (a : Addr) (xs : List D), ds = [.raw (.ref a), .lst xs] ∧ DrumAt μ a ∧ 0 < xs.length ∧ xs.length ≤ sizeLine ∧ ∀ x ∈ xs, ∀ μ', Adv a μ μ' → Q x μ'
theorem ln_law_some (ds : List D) (μ Q E) (h : sp_law_some ds μ Q E) : ds.length = 2 := by
  obtain ⟨i, j, rfl, _⟩ := h
  rfl
abbrev s_law_some : Stmt := top 47
theorem sc_law_some : FnScope ["_law_drum_here", "_law_things"] ["_law_drum_here", "_law_things"] (defScope s_law_some) := ⟨rfl, rfl, rfl, by decide +kernel, rfl, by decide +kernel, by decide +kernel⟩
def t_law_some : DS := (dRet (dOp dIx (dVar 1) (dCallF sp_law_roll (dCons (dVar 0) (dCons (dCall bLen (dCons (dVar 1) dNil)) dNil)))))
theorem rd_law_some (ds : List D) (μ : Mu) (Q : DQ) (E) (h : sp_law_some ds μ Q E) : t_law_some { nx := fun _ μ' => Q .non μ', rt := Q } (ds.map some ++ List.replicate (2 - ds.length) none) μ := by
  obtain ⟨a, xs, rfl, hd, hl, hz, q⟩ := h
  rw [sizeLine_eq] at hz
  unfold t_law_some
  simp only [dRaise, dCallX, dRet, dRetN, dSeq, dNext, dDrop, dIfS, dNever, dAsg, dPar, dPar3, dgName, dgTup, dgLst, dgNil, dgCons, dgSub, dOp, dTest, dChain, dVar, dFrz, dC, dAdd, dSub, dMulT, dDiv, dMod, dPow, dLt, dLe, dGt, dGe, dInt0, dInt2, dEq, dNe, dIn, dNotIn, dIsN, dNotN, dAnd, dOr, dNot, dAndV, dOrV, dNotV, dIf, dNil, dCons, dTup, dLst, dLstM, dIx, dSlice, dNo, dPart, dCall, dCallF, bAbs, bLen, bSum, bAll, bAny, bInt, bStr, bTup, bLst, bIsi, dLc_eq, dFor_eq, dWhile_eq, diLst, diTup, diRng1, diRng2, diZip2, diZip3, diEnum, diSeq, dYes, dAppend, dRepL, dJoin, dSplit, List.getElem?_cons_zero, List.getElem?_cons_succ, List.set_cons_zero, List.set_cons_succ, List.map_cons, List.map_nil, List.cons_append, List.nil_append, List.replicate, List.length_cons, List.length_nil, dwipe, atI_0, atI_1, ex_some]
  refine ⟨a, xs.length, rfl, hd, by omega, by omega, fun r μ' h0 h1 ad => ?_⟩
  simp only [dRaise, dCallX, dRet, dRetN, dSeq, dNext, dDrop, dIfS, dNever, dAsg, dPar, dPar3, dgName, dgTup, dgLst, dgNil, dgCons, dgSub, dOp, dTest, dChain, dVar, dFrz, dC, dAdd, dSub, dMulT, dDiv, dMod, dPow, dLt, dLe, dGt, dGe, dInt0, dInt2, dEq, dNe, dIn, dNotIn, dIsN, dNotN, dAnd, dOr, dNot, dAndV, dOrV, dNotV, dIf, dNil, dCons, dTup, dLst, dLstM, dIx, dSlice, dNo, dPart, dCall, dCallF, bAbs, bLen, bSum, bAll, bAny, bInt, bStr, bTup, bLst, bIsi, dLc_eq, dFor_eq, dWhile_eq, diLst, diTup, diRng1, diRng2, diZip2, diZip3, diEnum, diSeq, dYes, dAppend, dRepL, dJoin, dSplit, List.getElem?_cons_zero, List.getElem?_cons_succ, List.set_cons_zero, List.set_cons_succ, List.map_cons, List.map_nil, List.cons_append, List.nil_append, List.replicate, List.length_cons, List.length_nil, dwipe, atI_0, atI_1, ex_some]
  obtain ⟨n, rfl⟩ : ∃ n : Nat, r = n := ⟨r.toNat, by omega⟩
  have hn : n < xs.length := by omega
  exact ⟨_, atI_nat xs n hn, q _ (List.getElem_mem _) _ ad⟩
theorem ok_law_some (d : Dn K mg "_law_some" s_law_some) (b_len : mg "len" = none) (g_law_roll : Dk P w K mg base "_law_roll" 1 ["_law_drum_here", "_law_many"] sp_law_roll) : Dk P w K mg base "_law_some" 2 ["_law_drum_here", "_law_things"] sp_law_some :=
  Dk.of d sc_law_some ln_law_some (fun _ _ _ _ _ _ us hl => match us, hl with | [_, _], _ => rfl) t_law_some (fun F0 f cdv A outer s H E hr => by
    have nd := sc_law_some.nd
    exact (ds_one (ds_ret (d_ix (dv 1) (d_callD g_law_roll (hr.mono (by decide)) (da_cons (dv 0) (da_cons (d_callB (call_len_seq.or call_len_str) lc_len (by rfl) b_len bb_len (da_cons (dv 1) da_nil)) da_nil))))))) rd_law_some
/-! ### _law_low -/
def sp_law_low : DSp := fun ds μ Q _ => ∃ (t b : Int) (k : Nat), ds = [.int t, .int b] ∧ 0 < b ∧ b.natAbs < 2 ^ k ∧ k ≤ 8990 ∧ Q (fr ((t : Rat) / (b : Rat))) μ
theorem ln_law_low (ds : List D) (μ Q E) (h : sp_law_low ds μ Q E) : ds.length = 2 := by
  obtain ⟨i, j, k, rfl, _⟩ := h
  rfl
abbrev s_law_low : Stmt := top 48
theorem sc_law_low : FnScope ["_law_top", "_law_below", "_law_one", "_law_other"] ["_law_top", "_law_below"] (defScope s_law_low) := ⟨rfl, rfl, rfl, by decide +kernel, rfl, by decide +kernel, by decide +kernel⟩
def t_law_low : DS := (dSeq (dPar 2 3 (dCons (dIf (dTest (dOp dGt (dVar 0) (dC (.int 0)))) (dVar 0) (dOp dSub (dC (.int 0)) (dVar 0))) (dCons (dVar 1) dNil)))
  (dSeq (dWhile (dTest (dOp dNe (dVar 3) (dC (.int 0)))) (dPar 2 3 (dCons (dVar 3) (dCons (dOp dMod (dVar 2) (dVar 3)) dNil))))
  (dRet (dTup (dCons (dOp dDiv (dVar 0) (dVar 2)) (dCons (dOp dDiv (dVar 1) (dVar 2)) dNil))))))
theorem rd_law_low (ds : List D) (μ : Mu) (Q : DQ) (E) (h : sp_law_low ds μ Q E) : t_law_low { nx := fun _ μ' => Q .non μ', rt := Q } (ds.map some ++ List.replicate (4 - ds.length) none) μ := by
  obtain ⟨t, b, k, rfl, h0, h1, h2, q⟩ := h
  have hg : 0 < (Int.gcd t b : Int) := by
    have := Int.gcd_pos_of_ne_zero_right t (Int.ne_of_gt h0)
    omega
  have hl : (Int.gcd t b : Int).natAbs < 2 ^ k := Nat.lt_of_le_of_lt (Nat.le_of_dvd (by omega) (Int.natAbs_dvd_natAbs.mpr (Int.gcd_dvd_right ..))) h1
  have main : WhB (dTest (dOp dNe (dVar 3) (dC (.int 0)))) (dPar 2 3 (dCons (dVar 3) (dCons (dOp dMod (dVar 2) (dVar 3)) dNil))) { nx := fun ρ μ' => (dRet (dTup (dCons (dOp dDiv (dVar 0) (dVar 2)) (dCons (dOp dDiv (dVar 1) (dVar 2)) dNil)))) { nx := fun _ μ' => Q .non μ', rt := Q } ρ μ', rt := Q } [some (.int t), some (.int b), some (.int (t.natAbs : Nat)), some (.int b)] μ := by
    refine WhB.inv (fun m ρ m' => ∃ x y : Nat, ρ = [some (.int t), some (.int b), some (.int x), some (.int y)] ∧ y = m ∧ Nat.gcd x y = Int.gcd t b ∧ m' = μ) b.natAbs ⟨t.natAbs, b.natAbs, ?_, rfl, rfl, rfl⟩ ?_
    · rw [Int.natAbs_of_nonneg (Int.le_of_lt h0)]
    · rintro m ρ m' ⟨x, y, rfl, rfl, hgy, rfl⟩
      simp only [dRaise, dCallX, dRet, dRetN, dSeq, dNext, dDrop, dIfS, dNever, dAsg, dPar, dPar3, dgName, dgTup, dgLst, dgNil, dgCons, dgSub, dOp, dTest, dChain, dVar, dFrz, dC, dAdd, dSub, dMulT, dDiv, dMod, dPow, dLt, dLe, dGt, dGe, dInt0, dInt2, dEq, dNe, dIn, dNotIn, dIsN, dNotN, dAnd, dOr, dNot, dAndV, dOrV, dNotV, dIf, dNil, dCons, dTup, dLst, dLstM, dIx, dSlice, dNo, dPart, dCall, dCallF, bAbs, bLen, bSum, bAll, bAny, bInt, bStr, bTup, bLst, bIsi, dLc_eq, dFor_eq, dWhile_eq, diLst, diTup, diRng1, diRng2, diZip2, diZip3, diEnum, diSeq, dYes, dAppend, dRepL, dJoin, dSplit, List.getElem?_cons_zero, List.getElem?_cons_succ, List.set_cons_zero, List.set_cons_succ, List.map_cons, List.map_nil, List.cons_append, List.nil_append, List.replicate, List.length_cons, List.length_nil, dwipe, atI_0, atI_1, ex_some]
      simp only [eqD_int, shp_int, true_and]
      by_cases hb : y = 0
      · subst hb
        simp only [Nat.gcd_zero_right] at hgy
        subst hgy
        simp
        refine ⟨divW hg hl h2, divW hg hl h2, by decide, ?_⟩
        rw [frmk t b h0]
        exact q
      · have hb' : decide ((y : Int) = 0) = false := decide_eq_false (by omega)
        rw [hb']
        simp only [Bool.not_false, if_true]
        refine ⟨by omega, x % y, Nat.mod_lt _ (by omega), y, x % y, ?_, rfl, ?_, trivial⟩
        · rw [Int.natCast_emod]
        · rw [Nat.gcd_comm y, ← Nat.gcd_rec, Nat.gcd_comm]
          exact hgy
  unfold t_law_low
  simp only [dRaise, dCallX, dRet, dRetN, dSeq, dNext, dDrop, dIfS, dNever, dAsg, dPar, dPar3, dgName, dgTup, dgLst, dgNil, dgCons, dgSub, dOp, dTest, dChain, dVar, dFrz, dC, dAdd, dSub, dMulT, dDiv, dMod, dPow, dLt, dLe, dGt, dGe, dInt0, dInt2, dEq, dNe, dIn, dNotIn, dIsN, dNotN, dAnd, dOr, dNot, dAndV, dOrV, dNotV, dIf, dNil, dCons, dTup, dLst, dLstM, dIx, dSlice, dNo, dPart, dCall, dCallF, bAbs, bLen, bSum, bAll, bAny, bInt, bStr, bTup, bLst, bIsi, dLc_eq, dFor_eq, dWhile_eq, diLst, diTup, diRng1, diRng2, diZip2, diZip3, diEnum, diSeq, dYes, dAppend, dRepL, dJoin, dSplit, List.getElem?_cons_zero, List.getElem?_cons_succ, List.set_cons_zero, List.set_cons_succ, List.map_cons, List.map_nil, List.cons_append, List.nil_append, List.replicate, List.length_cons, List.length_nil, dwipe, atI_0, atI_1, ex_some]
  by_cases ht : 0 < t
  · rw [if_pos (decide_eq_true ht)]
    have e : ((t.natAbs : Nat) : Int) = t := by omega
    rw [e] at main
    exact main
  · rw [if_neg (by rw [decide_eq_false ht]; decide)]
    have e : ((t.natAbs : Nat) : Int) = 0 - t := by omega
    rw [e] at main
    exact main
theorem ok_law_low (d : Dn K mg "_law_low" s_law_low) : Dk P w K mg base "_law_low" 1 ["_law_top", "_law_below"] sp_law_low :=
  Dk.of d sc_law_low ln_law_low (fun _ _ _ _ _ _ us hl => match us, hl with | [_, _], _ => rfl) t_law_low (fun F0 f cdv A outer s H E hr => by
    have nd := sc_law_low.nd
    exact (ds_cons (ds_par (i := 2) (j := 3) rfl nd rfl rfl (by decide) rfl rfl (da_cons (d_if (d_gtT  (dv 0) d_int) (dv 0) (d_sub d_int (dv 0))) (da_cons (dv 1) da_nil)) (by rfl))
      (ds_cons (ds_while PassesOwn.never (d_neT (hu64 hr) (dv 3) d_int) (ds_one (ds_par (i := 2) (j := 3) rfl nd rfl rfl (by decide) rfl rfl (da_cons (dv 3) (da_cons (d_mod (dv 2) (dv 3)) da_nil)) (by rfl))))
      (ds_one (ds_ret (d_tup (da_cons (d_div (dv 0) (dv 2)) (da_cons (d_div (dv 1) (dv 2)) da_nil)))))))) rd_law_low
end
end GS

-- text W5
set_option Elab.async false
set_option linter.all false
set_option maxRecDepth 100000
set_option maxHeartbeats 4000000
namespace GS
open PySem PySem.Spec PyProof.Rows L2 DL
section
variable {P : Program} {w : World} {K : Fg} {mg : Str → Option Value} {base : Heap} {C : Str → Addr}
/-! ### _law_game -/
def sp_law_game : DSp := fun ds μ Q _ => ∃ (a : Addr), ds = [.raw (.ref a)] ∧ DrumAt μ a ∧ ∀ ws os μ', LG ws os → Adv a μ μ' → Q (gameD ws os) μ'
theorem ln_law_game (ds : List D) (μ Q E) (h : sp_law_game ds μ Q E) : ds.length = 1 := by
  obtain ⟨i, rfl, _⟩ := h
  rfl
abbrev s_law_game : Stmt := top 49
theorem sc_law_game : FnScope ["_law_drum_here", "_law_some_here", "_law_many", "_law_wide", "_law_weights", "_law_way", "_law_odds", "_law_outcome"] ["_law_drum_here"] (defScope s_law_game) := ⟨rfl, rfl, rfl, by decide +kernel, rfl, by decide +kernel, by decide +kernel⟩
def t_law_game : DS := (dSeq (dIfS (dTest (dOp dEq (dCallF sp_law_roll (dCons (dVar 0) (dCons (dC (.int 6)) dNil))) (dC (.int 0)))) (dSeq (dAsg (dLst (dCons (dTup (dCons (dTup (dCons (dC (.int 1)) (dCons (dC (.int 1)) dNil))) (dCons (dTup (dCons (dTup (dCons (dC (.int 3)) (dCons (dC (.int 1)) dNil))) (dCons (dTup (dCons (dC (.int 1)) (dCons (dC (.int 1)) dNil))) dNil))) dNil))) (dCons (dTup (dCons (dTup (dCons (dC (.int 1)) (dCons (dC (.int 1)) (dCons (dC (.int 2)) dNil)))) (dCons (dTup (dCons (dTup (dCons (dC (.int 2)) (dCons (dC (.int 1)) dNil))) (dCons (dTup (dCons (dC (.int 4)) (dCons (dC (.int 1)) dNil))) (dCons (dTup (dCons (dC (.int 4)) (dCons (dC (.int 1)) dNil))) dNil)))) dNil))) (dCons (dTup (dCons (dTup (dCons (dC (.int 3)) (dCons (dC (.int 1)) dNil))) (dCons (dTup (dCons (dTup (dCons (dC (.int 2)) (dCons (dC (.int 1)) dNil))) (dCons (dTup (dCons (dC (.int 3)) (dCons (dC (.int 2)) dNil))) dNil))) dNil))) dNil)))) (dgName 1))
  (dSeq (dAsg (dOp dAdd (dVar 1) (dLst (dCons (dTup (dCons (dTup (dCons (dC (.int 1)) (dCons (dC (.int 1)) (dCons (dC (.int 1)) dNil)))) (dCons (dTup (dCons (dTup (dCons (dC (.int 2)) (dCons (dC (.int 1)) dNil))) (dCons (dTup (dCons (dC (.int 2)) (dCons (dC (.int 1)) dNil))) (dCons (dTup (dCons (dC (.int 1)) (dCons (dC (.int 1)) dNil))) dNil)))) dNil))) (dCons (dTup (dCons (dTup (dCons (dC (.int 1)) (dCons (dC (.int 1)) dNil))) (dCons (dTup (dCons (dTup (dCons (dC (.int 2)) (dCons (dC (.int 1)) dNil))) (dCons (dTup (dCons (dC (.int 2)) (dCons (dC (.int 1)) dNil))) dNil))) dNil))) dNil)))) (dgName 1))
  (dRet (dCallF sp_law_some (dCons (dVar 0) (dCons (dVar 1) dNil)))))) dNext)
  (dSeq (dAsg (dTup (dCons (dOp dAdd (dC (.int 2)) (dCallF sp_law_roll (dCons (dVar 0) (dCons (dC (.int 4)) dNil)))) (dCons (dCallF sp_law_some (dCons (dVar 0) (dCons (dLst (dCons (dC (.int 2)) (dCons (dC (.int 5)) (dCons (dC (.int 20)) dNil)))) dNil))) dNil))) (dgTup (dgCons (dgName 2) (dgCons (dgName 3) dgNil))))
  (dSeq (dAsg (dCall bTup (dCons (dLc (diRng1 (dCons (dVar 2) dNil)) (dgName 7) dYes (dOp dAdd (dC (.int 1)) (dCallF sp_law_roll (dCons (dVar 0) (dCons (dVar 3) dNil)))) [7]) dNil)) (dgName 4))
  (dSeq (dPar 5 6 (dCons (dCallF sp_law_roll (dCons (dVar 0) (dCons (dC (.int 4)) dNil))) (dCons (dLstM dNil) dNil)))
  (dSeq (dFor (diRng1 (dCons (dVar 2) dNil)) (dgName 7) (dIfS (dTest (dOp dEq (dVar 5) (dC (.int 0)))) (dDrop (dAppend 6 (dCallF sp_law_low (dCons (dCall bSum (dCons (dVar 4) dNil)) (dCons (dOp dIx (dVar 4) (dVar 7)) dNil))))) (dIfS (dTest (dOp dEq (dVar 5) (dC (.int 1)))) (dDrop (dAppend 6 (dTup (dCons (dOp dAdd (dC (.int 1)) (dCallF sp_law_roll (dCons (dVar 0) (dCons (dC (.int 9)) dNil)))) (dCons (dC (.int 1)) dNil))))) (dDrop (dAppend 6 (dCallF sp_law_low (dCons (dOp dAdd (dC (.int 1)) (dCallF sp_law_roll (dCons (dVar 0) (dCons (dC (.int 12)) dNil)))) (dCons (dOp dAdd (dC (.int 1)) (dCallF sp_law_roll (dCons (dVar 0) (dCons (dC (.int 4)) dNil)))) dNil))))))))
  (dRet (dTup (dCons (dVar 4) (dCons (dCall bTup (dCons (dFrz 6) dNil)) dNil)))))))))
def oneH : Rat := ⟨3, 2, by decide, by decide⟩
theorem lg1 : LG [1, 1] [3, 1] := ⟨rfl, by decide, by decide, by decide, by decide⟩
theorem lg2 : LG [1, 1, 2] [2, 4, 4] := ⟨rfl, by decide, by decide, by decide, by decide⟩
theorem lg3 : LG [3, 1] [2, oneH] := ⟨rfl, by decide, by decide, by decide, by decide⟩
theorem lg4 : LG [1, 1, 1] [2, 2, 1] := ⟨rfl, by decide, by decide, by decide, by decide⟩
theorem lg5 : LG [1, 1] [2, 2] := ⟨rfl, by decide, by decide, by decide, by decide⟩
theorem rd_law_game (ds : List D) (μ : Mu) (Q : DQ) (E) (h : sp_law_game ds μ Q E) : t_law_game { nx := fun _ μ' => Q .non μ', rt := Q } (ds.map some ++ List.replicate (8 - ds.length) none) μ := by
  obtain ⟨a, rfl, hd, q⟩ := h
  unfold t_law_game
  simp only [dRaise, dCallX, dRet, dRetN, dSeq, dNext, dDrop, dIfS, dNever, dAsg, dPar, dPar3, dgName, dgTup, dgLst, dgNil, dgCons, dgSub, dOp, dTest, dChain, dVar, dFrz, dC, dAdd, dSub, dMulT, dDiv, dMod, dPow, dLt, dLe, dGt, dGe, dInt0, dInt2, dEq, dNe, dIn, dNotIn, dIsN, dNotN, dAnd, dOr, dNot, dAndV, dOrV, dNotV, dIf, dNil, dCons, dTup, dLst, dLstM, dIx, dSlice, dNo, dPart, dCall, dCallF, bAbs, bLen, bSum, bAll, bAny, bInt, bStr, bTup, bLst, bIsi, dLc_eq, dFor_eq, dWhile_eq, diLst, diTup, diRng1, diRng2, diZip2, diZip3, diEnum, diSeq, dYes, dAppend, dRepL, dJoin, dSplit, List.getElem?_cons_zero, List.getElem?_cons_succ, List.set_cons_zero, List.set_cons_succ, List.map_cons, List.map_nil, List.cons_append, List.nil_append, List.replicate, List.length_cons, List.length_nil, dwipe, atI_0, atI_1, ex_some]
  refine ⟨a, 6, rfl, hd, by decide, by decide, fun r μ1 _ _ ad1 => ?_⟩
  simp only [shp_int, eqD_int, true_and]
  split
  · refine ⟨by decide, by decide, by decide, by decide, by decide, by decide, by decide, by decide, by decide, by decide, by decide, by decide, by decide, by decide, by decide, by decide, by decide, by decide, by decide, by decide, by decide, by decide, by decide, by decide, by decide, by decide, by decide, by decide, by decide, by decide, a, _, rfl, ad1.dr, by decide, by decide, ?_⟩
    intro x hx μ2 ad2
    have ad := ad1.trans ad2
    simp only [List.mem_cons, List.not_mem_nil, or_false] at hx
    rcases hx with rfl | rfl | rfl | rfl | rfl
    · exact q _ _ _ lg1 ad
    · exact q _ _ _ lg2 ad
    · exact q _ _ _ lg3 ad
    · exact q _ _ _ lg4 ad
    · exact q _ _ _ lg5 ad
  · refine ⟨a, 4, rfl, ad1.dr, by decide, by decide, fun r2 μ2 h20 h24 ad2 => ?_⟩
    simp only [dRaise, dCallX, dRet, dRetN, dSeq, dNext, dDrop, dIfS, dNever, dAsg, dPar, dPar3, dgName, dgTup, dgLst, dgNil, dgCons, dgSub, dOp, dTest, dChain, dVar, dFrz, dC, dAdd, dSub, dMulT, dDiv, dMod, dPow, dLt, dLe, dGt, dGe, dInt0, dInt2, dEq, dNe, dIn, dNotIn, dIsN, dNotN, dAnd, dOr, dNot, dAndV, dOrV, dNotV, dIf, dNil, dCons, dTup, dLst, dLstM, dIx, dSlice, dNo, dPart, dCall, dCallF, bAbs, bLen, bSum, bAll, bAny, bInt, bStr, bTup, bLst, bIsi, dLc_eq, dFor_eq, dWhile_eq, diLst, diTup, diRng1, diRng2, diZip2, diZip3, diEnum, diSeq, dYes, dAppend, dRepL, dJoin, dSplit, List.getElem?_cons_zero, List.getElem?_cons_succ, List.set_cons_zero, List.set_cons_succ, List.map_cons, List.map_nil, List.cons_append, List.nil_append, List.replicate, List.length_cons, List.length_nil, dwipe, atI_0, atI_1, ex_some]
    refine ⟨by decide, a, _, rfl, ad2.dr, by decide, by decide, ?_⟩
    intro wd hw μ3 ad3
    have hwd : ∃ w : Int, wd = .int w ∧ 1 ≤ w ∧ w ≤ 20 := by
      simp only [List.mem_cons, List.not_mem_nil, or_false] at hw
      rcases hw with rfl | rfl | rfl
      · exact ⟨2, rfl, by decide, by decide⟩
      · exact ⟨5, rfl, by decide, by decide⟩
      · exact ⟨20, rfl, by decide, by decide⟩
    obtain ⟨w, rfl, hw1, hw2⟩ := hwd
    have ad03 := (ad1.trans ad2).trans ad3
    refine ⟨by decide, by omega, by omega, ?_⟩
    refine LcB.st (List.range (2 + r2).toNat) (fun (i : Nat) => D.int (0 + (i : Int))) (fun pre acc m => ∃ vs, acc = wL vs ∧ vs.length = pre.length ∧ (∀ v ∈ vs, 1 ≤ v ∧ v ≤ 20) ∧ Adv a μ m) rfl ?_ ⟨[], rfl, rfl, by simp, ad03⟩ ?_ ?_
    · rw [List.length_range, sizeLine_eq]
      omega
    · rintro pre b post acc m he ⟨vs, rfl, hvl, hv, adm⟩
      simp only [dRaise, dCallX, dRet, dRetN, dSeq, dNext, dDrop, dIfS, dNever, dAsg, dPar, dPar3, dgName, dgTup, dgLst, dgNil, dgCons, dgSub, dOp, dTest, dChain, dVar, dFrz, dC, dAdd, dSub, dMulT, dDiv, dMod, dPow, dLt, dLe, dGt, dGe, dInt0, dInt2, dEq, dNe, dIn, dNotIn, dIsN, dNotN, dAnd, dOr, dNot, dAndV, dOrV, dNotV, dIf, dNil, dCons, dTup, dLst, dLstM, dIx, dSlice, dNo, dPart, dCall, dCallF, bAbs, bLen, bSum, bAll, bAny, bInt, bStr, bTup, bLst, bIsi, dLc_eq, dFor_eq, dWhile_eq, diLst, diTup, diRng1, diRng2, diZip2, diZip3, diEnum, diSeq, dYes, dAppend, dRepL, dJoin, dSplit, List.getElem?_cons_zero, List.getElem?_cons_succ, List.set_cons_zero, List.set_cons_succ, List.map_cons, List.map_nil, List.cons_append, List.nil_append, List.replicate, List.length_cons, List.length_nil, dwipe, atI_0, atI_1, ex_some]
      refine ⟨a, w, rfl, adm.dr, by omega, by omega, fun r3 μ4 h30 h3w ad4 => ⟨vs ++ [1 + r3], ?_, ?_, fun v hm => ?_, adm.trans ad4⟩⟩
      · simp [wL]
      · simp [hvl]
      · rcases List.mem_append.mp hm with hm | hm
        · exact hv v hm
        · have : v = 1 + r3 := by simpa using hm
          omega
    · rintro acc μ4 ⟨ws, rfl, hvl, hv, ad4⟩
      rw [List.length_range] at hvl
      simp only [dRaise, dCallX, dRet, dRetN, dSeq, dNext, dDrop, dIfS, dNever, dAsg, dPar, dPar3, dgName, dgTup, dgLst, dgNil, dgCons, dgSub, dOp, dTest, dChain, dVar, dFrz, dC, dAdd, dSub, dMulT, dDiv, dMod, dPow, dLt, dLe, dGt, dGe, dInt0, dInt2, dEq, dNe, dIn, dNotIn, dIsN, dNotN, dAnd, dOr, dNot, dAndV, dOrV, dNotV, dIf, dNil, dCons, dTup, dLst, dLstM, dIx, dSlice, dNo, dPart, dCall, dCallF, bAbs, bLen, bSum, bAll, bAny, bInt, bStr, bTup, bLst, bIsi, dLc_eq, dFor_eq, dWhile_eq, diLst, diTup, diRng1, diRng2, diZip2, diZip3, diEnum, diSeq, dYes, dAppend, dRepL, dJoin, dSplit, List.getElem?_cons_zero, List.getElem?_cons_succ, List.set_cons_zero, List.set_cons_succ, List.map_cons, List.map_nil, List.cons_append, List.nil_append, List.replicate, List.length_cons, List.length_nil, dwipe, atI_0, atI_1, ex_some]
      refine ⟨a, 4, rfl, ad4.dr, by decide, by decide, fun way μ5 _ _ ad5 => ?_⟩
      refine ⟨by decide, fun p hp => ?_⟩
      have ad05 := ad4.trans ad5
      obtain ⟨hp0, hpa⟩ := ad05.none hp
      refine ⟨by omega, by omega, ?_⟩
      refine ForB.inv (List.range (2 + r2).toNat) (fun (i : Nat) => D.int (0 + (i : Int))) (fun pre ρ m => ∃ os o1 o7, ρ = [some (.raw (.ref a)), o1, some (.int (2 + r2)), some (.int w), some (.tup (wL ws)), some (.int way), some (.raw (.ref p)), o7] ∧ os.length = pre.length ∧ (∀ o ∈ os, 1 ≤ o.num ∧ o.num ≤ 1000 ∧ (o.den : Int) ≤ 1000) ∧ m p = some (.lst (fL os)) ∧ Adv a μ m) rfl ⟨[], _, _, rfl, rfl, by simp, muSet_same, ad05.oth hp0 hpa⟩ ?_ ?_
      · rintro pre i post ρ m he ⟨os, o1, o7, rfl, hol, hob, hmp, adm⟩
        have hi : i < ws.length := by
          have h1 := congrArg List.length he
          simp only [List.length_range, List.length_append, List.length_cons] at h1
          have h2 : (List.range (2 + r2).toNat)[pre.length]? = some i := by rw [he]; simp
          rw [List.getElem?_range (by omega)] at h2
          have : pre.length = i := by simpa using h2
          omega
        have hpl : os.length < 5 := by
          have h1 := congrArg List.length he
          simp only [List.length_range, List.length_append, List.length_cons] at h1
          omega
        have fin : ∀ (r : Rat) (m2 : Mu), Adv a μ m2 → m2 p = some (.lst (fL os)) → 1 ≤ r.num ∧ r.num ≤ 1000 ∧ (r.den : Int) ≤ 1000 → ∃ ds, m2 p = some (.lst ds) ∧ ds.length < sizeLine ∧ (∃ os' o1' o7', [some (.raw (.ref a)), o1, some (.int (2 + r2)), some (.int w), some (.tup (wL ws)), some (.int way), some (.raw (.ref p)), some (.int (0 + (i : Int)))] = [some (.raw (.ref a)), o1', some (.int (2 + r2)), some (.int w), some (.tup (wL ws)), some (.int way), some (.raw (.ref p)), o7'] ∧ os'.length = (pre ++ [i]).length ∧ (∀ o ∈ os', 1 ≤ o.num ∧ o.num ≤ 1000 ∧ (o.den : Int) ≤ 1000) ∧ muSet m2 p (.lst (ds ++ [fr r])) p = some (.lst (fL os')) ∧ Adv a μ (muSet m2 p (.lst (ds ++ [fr r])))) := by
          intro r m2 ad2 hm2 hr
          refine ⟨fL os, hm2, by simp only [fL, List.length_map]; rw [sizeLine_eq]; omega, os ++ [r], _, _, rfl, by simp [hol], fun o ho => ?_, by rw [muSet_same]; simp [fL], ad2.oth hp0 hpa⟩
          rcases List.mem_append.mp ho with ho | ho
          · exact hob o ho
          · have : o = r := by simpa using ho
            subst this
            exact hr
        have wi := hv ws[i] (List.getElem_mem _)
        simp only [dRaise, dCallX, dRet, dRetN, dSeq, dNext, dDrop, dIfS, dNever, dAsg, dPar, dPar3, dgName, dgTup, dgLst, dgNil, dgCons, dgSub, dOp, dTest, dChain, dVar, dFrz, dC, dAdd, dSub, dMulT, dDiv, dMod, dPow, dLt, dLe, dGt, dGe, dInt0, dInt2, dEq, dNe, dIn, dNotIn, dIsN, dNotN, dAnd, dOr, dNot, dAndV, dOrV, dNotV, dIf, dNil, dCons, dTup, dLst, dLstM, dIx, dSlice, dNo, dPart, dCall, dCallF, bAbs, bLen, bSum, bAll, bAny, bInt, bStr, bTup, bLst, bIsi, dLc_eq, dFor_eq, dWhile_eq, diLst, diTup, diRng1, diRng2, diZip2, diZip3, diEnum, diSeq, dYes, dAppend, dRepL, dJoin, dSplit, List.getElem?_cons_zero, List.getElem?_cons_succ, List.set_cons_zero, List.set_cons_succ, List.map_cons, List.map_nil, List.cons_append, List.nil_append, List.replicate, List.length_cons, List.length_nil, dwipe, atI_0, atI_1, ex_some]
        simp only [shp_int, eqD_int, true_and]
        split
        · refine ⟨⟨_, hmp⟩, ws, rfl, .int ws[i], ?_, ws.sum, ws[i], 16, rfl, by omega, by omega, by decide, ?_⟩
          · rw [Int.zero_add]
            exact atI_get _ _ _ (by simp [wL, hi])
          · refine fin _ m adm hmp (frac_num1 (by omega) ?_ ?_ (by omega))
            · have := le_sum (fun w hw => by have := (hv w hw).1; omega) ws[i] (List.getElem_mem _)
              omega
            · have : ∀ l : List Int, (∀ v ∈ l, 1 ≤ v ∧ v ≤ 20) → l.sum ≤ 20 * l.length := by
                intro l
                induction l with
                | nil => simp
                | cons b r ih =>
                  intro h
                  have h1 := ih fun v hv => h v (List.mem_cons_of_mem _ hv)
                  have h2 := h b (by simp)
                  simp only [List.sum_cons, List.length_cons]
                  omega
              have := this ws hv
              omega
        · split
          · refine ⟨⟨_, hmp⟩, a, 9, rfl, adm.dr, by decide, by decide, fun r m2 hr0 hr9 adr => ?_⟩
            have hm2 := adr.kp p _ hpa hmp
            exact ⟨by decide, fin ((1 + r : Int) : Rat) m2 (adm.trans adr) hm2 (int_fr1 (by omega) (by omega))⟩
          · refine ⟨⟨_, hmp⟩, a, 12, rfl, adm.dr, by decide, by decide, fun r m2 hr0 hr9 adr => ?_⟩
            refine ⟨a, 4, rfl, adr.dr, by decide, by decide, fun r' m3 hr'0 hr'4 adr' => ?_⟩
            have hm3 := adr'.kp p _ hpa (adr.kp p _ hpa hmp)
            refine ⟨1 + r, 1 + r', 16, rfl, by omega, by omega, by decide, ?_⟩
            exact fin _ m3 ((adm.trans adr).trans adr') hm3 (frac_num1 (by omega) (by omega) (by omega) (by omega))
      · rintro ρ m ⟨os, o1, o7, rfl, hol, hob, hmp, adm⟩
        simp only [dRaise, dCallX, dRet, dRetN, dSeq, dNext, dDrop, dIfS, dNever, dAsg, dPar, dPar3, dgName, dgTup, dgLst, dgNil, dgCons, dgSub, dOp, dTest, dChain, dVar, dFrz, dC, dAdd, dSub, dMulT, dDiv, dMod, dPow, dLt, dLe, dGt, dGe, dInt0, dInt2, dEq, dNe, dIn, dNotIn, dIsN, dNotN, dAnd, dOr, dNot, dAndV, dOrV, dNotV, dIf, dNil, dCons, dTup, dLst, dLstM, dIx, dSlice, dNo, dPart, dCall, dCallF, bAbs, bLen, bSum, bAll, bAny, bInt, bStr, bTup, bLst, bIsi, dLc_eq, dFor_eq, dWhile_eq, diLst, diTup, diRng1, diRng2, diZip2, diZip3, diEnum, diSeq, dYes, dAppend, dRepL, dJoin, dSplit, List.getElem?_cons_zero, List.getElem?_cons_succ, List.set_cons_zero, List.set_cons_succ, List.map_cons, List.map_nil, List.cons_append, List.nil_append, List.replicate, List.length_cons, List.length_nil, dwipe, atI_0, atI_1, ex_some, hmp]
        rw [List.length_range] at hol
        refine ⟨by decide, ?_⟩
        exact q ws os _ ⟨by omega, by omega, by omega, hv, hob⟩ (adm.del hp0 hpa)
theorem ok_law_game (d : Dn K mg "_law_game" s_law_game) (b_tuple : mg "tuple" = none) (b_range : mg "range" = none) (b_sum : mg "sum" = none) (g_law_roll : Dk P w K mg base "_law_roll" 1 ["_law_drum_here", "_law_many"] sp_law_roll) (g_law_some : Dk P w K mg base "_law_some" 2 ["_law_drum_here", "_law_things"] sp_law_some) (g_law_low : Dk P w K mg base "_law_low" 1 ["_law_top", "_law_below"] sp_law_low) : Dk P w K mg base "_law_game" 3 ["_law_drum_here"] sp_law_game :=
  Dk.of d sc_law_game ln_law_game (fun _ _ _ _ _ _ us hl => match us, hl with | [_], _ => rfl) t_law_game (fun F0 f cdv A outer s H E hr => by
    have nd := sc_law_game.nd
    exact (ds_cons (ds_if (d_eqT (hu64 hr) (d_callD g_law_roll (hr.mono (by decide)) (da_cons (dv 0) (da_cons d_int da_nil))) d_int) (ds_cons (ds_set (i := 1) nd rfl (Or.inl rfl) (d_lst (da_cons (d_tup (da_cons (d_tup (da_cons d_int (da_cons d_int da_nil))) (da_cons (d_tup (da_cons (d_tup (da_cons d_int (da_cons d_int da_nil))) (da_cons (d_tup (da_cons d_int (da_cons d_int da_nil))) da_nil))) da_nil))) (da_cons (d_tup (da_cons (d_tup (da_cons d_int (da_cons d_int (da_cons d_int da_nil)))) (da_cons (d_tup (da_cons (d_tup (da_cons d_int (da_cons d_int da_nil))) (da_cons (d_tup (da_cons d_int (da_cons d_int da_nil))) (da_cons (d_tup (da_cons d_int (da_cons d_int da_nil))) da_nil)))) da_nil))) (da_cons (d_tup (da_cons (d_tup (da_cons d_int (da_cons d_int da_nil))) (da_cons (d_tup (da_cons (d_tup (da_cons d_int (da_cons d_int da_nil))) (da_cons (d_tup (da_cons d_int (da_cons d_int da_nil))) da_nil))) da_nil))) da_nil)))))
      (ds_cons (ds_set (i := 1) nd rfl (Or.inl rfl) (d_add (dv 1) (d_lst (da_cons (d_tup (da_cons (d_tup (da_cons d_int (da_cons d_int (da_cons d_int da_nil)))) (da_cons (d_tup (da_cons (d_tup (da_cons d_int (da_cons d_int da_nil))) (da_cons (d_tup (da_cons d_int (da_cons d_int da_nil))) (da_cons (d_tup (da_cons d_int (da_cons d_int da_nil))) da_nil)))) da_nil))) (da_cons (d_tup (da_cons (d_tup (da_cons d_int (da_cons d_int da_nil))) (da_cons (d_tup (da_cons (d_tup (da_cons d_int (da_cons d_int da_nil))) (da_cons (d_tup (da_cons d_int (da_cons d_int da_nil))) da_nil))) da_nil))) da_nil)))))
      (ds_one (ds_ret (d_callD g_law_some (hr.mono (by decide)) (da_cons (dv 0) (da_cons (dv 1) da_nil))))))) ds_nil)
      (ds_cons (ds_asg (vs := [2, 3]) (d_tup (da_cons (d_add d_int (d_callD g_law_roll (hr.mono (by decide)) (da_cons (dv 0) (da_cons d_int da_nil)))) (da_cons (d_callD g_law_some (hr.mono (by decide)) (da_cons (dv 0) (da_cons (d_lst (da_cons d_int (da_cons d_int (da_cons d_int da_nil)))) da_nil))) da_nil))) (dg_tup 2 rfl (dgs_cons (dg_name (i := 2) nd rfl (Or.inl rfl) (by decide)) (dgs_cons (dg_name (i := 3) nd rfl (Or.inr rfl) (by decide)) dgs_nil)) (gl_cons (gl_cons (fun _ _ _ _ h => gl_nil h) gx_name) gx_name)))
      (ds_cons (ds_set (i := 4) nd rfl (Or.inl rfl) (d_callTy call_tuple_of lc_tup (by rfl) b_tuple bt_tuple (da_cons (d_lc (own := [("_law_outcome", 7)]) rfl nd (di_rng1 (by rfl) b_range (da_cons (dv 2) da_nil)) (blkOk_by (N := ["_law_drum_here", "_law_some_here", "_law_many", "_law_wide", "_law_weights", "_law_way", "_law_odds", "_law_outcome"]) (sc := defScope s_law_game) (own := [("_law_outcome", 7)]) (by decide +kernel)) (fun _ _ _ _ _ => (dg_name (i := 7) nd rfl (Or.inl rfl) (by decide))) (fun _ _ _ _ _ => dp_nil) (fun _ _ _ _ _ => (d_add d_int (d_callD g_law_roll (hr.mono (by decide)) (da_cons (dv 0) (da_cons (dv 3) da_nil)))))) da_nil)))
      (ds_cons (ds_par (i := 5) (j := 6) rfl nd rfl rfl (by decide) rfl rfl (da_cons (d_callD g_law_roll (hr.mono (by decide)) (da_cons (dv 0) (da_cons d_int da_nil))) (da_cons (d_lstM da_nil) da_nil)) (by rfl))
      (ds_cons (ds_for (vs := [7]) PassesOwn.never rfl (di_rng1 (by rfl) b_range (da_cons (dv 2) da_nil)) (dg_name (i := 7) nd rfl (Or.inl rfl) (by decide)) (ds_one (ds_if (d_eqT (hu64 hr) (dv 5) d_int) (ds_one (ds_expr (d_append 6 (pv 6) (d_callD g_law_low (hr.mono (by decide)) (da_cons (d_callB ((cr_sum rfl).or (cr_sumT rfl)) lc_sum (by rfl) b_sum bb_sum (da_cons (dv 4) da_nil)) (da_cons (d_ix (dv 4) (dv 7)) da_nil)))))) (ds_one (ds_if (d_eqT (hu64 hr) (dv 5) d_int) (ds_one (ds_expr (d_append 6 (pv 6) (d_tup (da_cons (d_add d_int (d_callD g_law_roll (hr.mono (by decide)) (da_cons (dv 0) (da_cons d_int da_nil)))) (da_cons d_int da_nil)))))) (ds_one (ds_expr (d_append 6 (pv 6) (d_callD g_law_low (hr.mono (by decide)) (da_cons (d_add d_int (d_callD g_law_roll (hr.mono (by decide)) (da_cons (dv 0) (da_cons d_int da_nil)))) (da_cons (d_add d_int (d_callD g_law_roll (hr.mono (by decide)) (da_cons (dv 0) (da_cons d_int da_nil)))) da_nil)))))))))))
      (ds_one (ds_ret (d_tup (da_cons (dv 4) (da_cons (d_callTy call_tuple_of lc_tup (by rfl) b_tuple bt_tuple (da_cons (dvz 6) da_nil)) da_nil))))))))))) rd_law_game
/-! ### _law_shares -/
def sp_law_shares : DSp := fun ds μ Q _ => ∃ (a : Addr) (ws : List Int) (os : List Rat), ds = [.raw (.ref a), gameD ws os] ∧ DrumAt μ a ∧ ws.length = os.length ∧ 1 ≤ os.length ∧ os.length ≤ 5 ∧ ∀ s0 ss μ', LS os.length s0 ss → Adv a μ μ' → Q (.tup (fL (s0 :: ss))) μ'
theorem ln_law_shares (ds : List D) (μ Q E) (h : sp_law_shares ds μ Q E) : ds.length = 2 := by
  obtain ⟨i, _, _, rfl, _⟩ := h
  rfl
abbrev s_law_shares : Stmt := top 50
theorem sc_law_shares : FnScope ["_law_drum_here", "_law_game_here", "_law_many", "_law_whole", "_law_parts", "_law_left", "_law_bet", "_law_much", "_law_shift"] ["_law_drum_here", "_law_game_here"] (defScope s_law_shares) := ⟨rfl, rfl, rfl, by decide +kernel, rfl, by decide +kernel, by decide +kernel⟩
def t_law_shares : DS := (dSeq (dAsg (dTup (dCons (dOp dAdd (dCall bLen (dCons (dOp dIx (dVar 1) (dC (.int 0))) dNil)) (dC (.int 1))) (dCons (dCallF sp_law_some (dCons (dVar 0) (dCons (dLst (dCons (dC (.int 1)) (dCons (dC (.int 2)) (dCons (dC (.int 4)) (dCons (dC (.int 12)) (dCons (dC (.int 97)) dNil)))))) dNil))) dNil))) (dgTup (dgCons (dgName 2) (dgCons (dgName 3) dgNil))))
  (dSeq (dPar 4 5 (dCons (dLst dNil) (dCons (dVar 3) dNil)))
  (dSeq (dFor (diRng1 (dCons (dOp dSub (dVar 2) (dC (.int 1))) dNil)) (dgName 6) (dSeq (dAsg (dCallF sp_law_roll (dCons (dVar 0) (dCons (dOp dAdd (dVar 5) (dC (.int 1))) dNil))) (dgName 7))
  (dPar 4 5 (dCons (dOp dAdd (dVar 4) (dLst (dCons (dVar 7) dNil))) (dCons (dOp dSub (dVar 5) (dVar 7)) dNil)))))
  (dSeq (dAsg (dOp dAdd (dVar 4) (dLst (dCons (dVar 5) dNil))) (dgName 4))
  (dSeq (dAsg (dCallF sp_law_roll (dCons (dVar 0) (dCons (dVar 2) dNil))) (dgName 8))
  (dRet (dCall bTup (dCons (dLc (diLst (dOp dAdd (dSlice (dVar 4) (dPart (dVar 8)) dNo) (dSlice (dVar 4) dNo (dPart (dVar 8))))) (dgName 7) dYes (dCallF sp_law_low (dCons (dVar 7) (dCons (dVar 3) dNil))) [7]) dNil))))))))
theorem sum_div (W : Int) : ∀ l : List Int, (l.map fun i : Int => (i : Rat) / (W : Rat)).sum = ((l.sum : Int) : Rat) / (W : Rat)
  | [] => by simp [Rat.div_def, Rat.zero_mul]
  | a :: l => by
    rw [List.map_cons, List.sum_cons, sum_div W l, List.sum_cons, Rat.intCast_add]
    simp only [Rat.div_def]
    grind
theorem wL_cut (l : List Int) (lo hi : Option Int) : DL.cutD (wL l) lo hi = wL (DL.cutD l lo hi) := by
  simp [DL.cutD, wL, List.map_take, List.map_drop]
theorem rd_law_shares (ds : List D) (μ : Mu) (Q : DQ) (E) (h : sp_law_shares ds μ Q E) : t_law_shares { nx := fun _ μ' => Q .non μ', rt := Q } (ds.map some ++ List.replicate (9 - ds.length) none) μ := by
  obtain ⟨a, ws, os, rfl, hd, hwl, h1, h5, q⟩ := h
  unfold t_law_shares
  simp only [dRaise, dCallX, dRet, dRetN, dSeq, dNext, dDrop, dIfS, dNever, dAsg, dPar, dPar3, dgName, dgTup, dgLst, dgNil, dgCons, dgSub, dOp, dTest, dChain, dVar, dFrz, dC, dAdd, dSub, dMulT, dDiv, dMod, dPow, dLt, dLe, dGt, dGe, dInt0, dInt2, dEq, dNe, dIn, dNotIn, dIsN, dNotN, dAnd, dOr, dNot, dAndV, dOrV, dNotV, dIf, dNil, dCons, dTup, dLst, dLstM, dIx, dSlice, dNo, dPart, dCall, dCallF, bAbs, bLen, bSum, bAll, bAny, bInt, bStr, bTup, bLst, bIsi, dLc_eq, dFor_eq, dWhile_eq, diLst, diTup, diRng1, diRng2, diZip2, diZip3, diEnum, diSeq, dYes, dAppend, dRepL, dJoin, dSplit, List.getElem?_cons_zero, List.getElem?_cons_succ, List.set_cons_zero, List.set_cons_succ, List.map_cons, List.map_nil, List.cons_append, List.nil_append, List.replicate, List.length_cons, List.length_nil, dwipe, atI_0, atI_1, ex_some, gameD]
  have lw : (wL ws).length = os.length := by simp [wL, hwl]
  refine ⟨by decide, a, _, rfl, hd, by decide, by decide, fun x hx μ1 ad1 => ?_⟩
  have hW : ∃ W : Int, x = .int W ∧ 1 ≤ W ∧ W ≤ 97 := by
    simp only [List.mem_cons, List.not_mem_nil, or_false] at hx
    rcases hx with rfl | rfl | rfl | rfl | rfl
    · exact ⟨1, rfl, by decide, by decide⟩
    · exact ⟨2, rfl, by decide, by decide⟩
    · exact ⟨4, rfl, by decide, by decide⟩
    · exact ⟨12, rfl, by decide, by decide⟩
    · exact ⟨97, rfl, by decide, by decide⟩
  obtain ⟨W, rfl, hW1, hW2⟩ := hW
  simp only [dRaise, dCallX, dRet, dRetN, dSeq, dNext, dDrop, dIfS, dNever, dAsg, dPar, dPar3, dgName, dgTup, dgLst, dgNil, dgCons, dgSub, dOp, dTest, dChain, dVar, dFrz, dC, dAdd, dSub, dMulT, dDiv, dMod, dPow, dLt, dLe, dGt, dGe, dInt0, dInt2, dEq, dNe, dIn, dNotIn, dIsN, dNotN, dAnd, dOr, dNot, dAndV, dOrV, dNotV, dIf, dNil, dCons, dTup, dLst, dLstM, dIx, dSlice, dNo, dPart, dCall, dCallF, bAbs, bLen, bSum, bAll, bAny, bInt, bStr, bTup, bLst, bIsi, dLc_eq, dFor_eq, dWhile_eq, diLst, diTup, diRng1, diRng2, diZip2, diZip3, diEnum, diSeq, dYes, dAppend, dRepL, dJoin, dSplit, List.getElem?_cons_zero, List.getElem?_cons_succ, List.set_cons_zero, List.set_cons_succ, List.map_cons, List.map_nil, List.cons_append, List.nil_append, List.replicate, List.length_cons, List.length_nil, dwipe, atI_0, atI_1, ex_some]
  refine ⟨by decide, by decide, by omega, by omega, ?_⟩
  rw [lw]
  refine ForB.inv (List.range (((os.length : Nat) : Int) + 1 - 1).toNat) (fun (i : Nat) => D.int (0 + (i : Int))) (fun pre ρ m => ∃ vs left o6 o7 o8, ρ = [some (.raw (.ref a)), some (.tup [.tup (wL ws), .tup (fL os)]), some (.int ((os.length : Nat) + 1)), some (.int W), some (.lst (wL vs)), some (.int left), o6, o7, o8] ∧ vs.length = pre.length ∧ (∀ v ∈ vs, 0 ≤ v) ∧ 0 ≤ left ∧ vs.sum + left = W ∧ Adv a μ m) rfl ⟨[], W, _, _, _, rfl, rfl, by simp, by omega, by simp, ad1⟩ ?_ ?_
  · rintro pre i post ρ m he ⟨vs, left, o6, o7, o8, rfl, hvl, hv, hl0, hs, adm⟩
    have hpl : vs.length < 5 := by
      have h1 := congrArg List.length he
      simp only [List.length_range, List.length_append, List.length_cons] at h1
      omega
    have hvs : 0 ≤ vs.sum := by
      clear he hvl hs hpl
      induction vs with
      | nil => simp
      | cons b r ih =>
        have h1 := ih fun v hm => hv v (List.mem_cons_of_mem _ hm)
        have h2 := hv b (by simp)
        simp only [List.sum_cons]
        omega
    simp only [dRaise, dCallX, dRet, dRetN, dSeq, dNext, dDrop, dIfS, dNever, dAsg, dPar, dPar3, dgName, dgTup, dgLst, dgNil, dgCons, dgSub, dOp, dTest, dChain, dVar, dFrz, dC, dAdd, dSub, dMulT, dDiv, dMod, dPow, dLt, dLe, dGt, dGe, dInt0, dInt2, dEq, dNe, dIn, dNotIn, dIsN, dNotN, dAnd, dOr, dNot, dAndV, dOrV, dNotV, dIf, dNil, dCons, dTup, dLst, dLstM, dIx, dSlice, dNo, dPart, dCall, dCallF, bAbs, bLen, bSum, bAll, bAny, bInt, bStr, bTup, bLst, bIsi, dLc_eq, dFor_eq, dWhile_eq, diLst, diTup, diRng1, diRng2, diZip2, diZip3, diEnum, diSeq, dYes, dAppend, dRepL, dJoin, dSplit, List.getElem?_cons_zero, List.getElem?_cons_succ, List.set_cons_zero, List.set_cons_succ, List.map_cons, List.map_nil, List.cons_append, List.nil_append, List.replicate, List.length_cons, List.length_nil, dwipe, atI_0, atI_1, ex_some]
    refine ⟨a, left + 1, rfl, adm.dr, by omega, by omega, fun r m2 hr0 hr1 adr => ⟨by decide, ?_, vs ++ [r], left - r, some (.int (0 + (i : Int))), some (.int r), o8, ?_, ?_, fun v hm => ?_, by omega, ?_, adm.trans adr⟩⟩
    · simp only [wL, List.length_map]
      rw [sizeLine_eq]
      omega
    · simp [wL]
    · simp [hvl]
    · rcases List.mem_append.mp hm with hm | hm
      · exact hv v hm
      · have : v = r := by simpa using hm
        omega
    · simp only [List.sum_append, List.sum_cons, List.sum_nil]
      omega
  · rintro ρ m ⟨vs, left, o6, o7, o8, rfl, hvl, hv, hl0, hs, adm⟩
    rw [List.length_range] at hvl
    have hvl : vs.length = os.length := by omega
    simp only [dRaise, dCallX, dRet, dRetN, dSeq, dNext, dDrop, dIfS, dNever, dAsg, dPar, dPar3, dgName, dgTup, dgLst, dgNil, dgCons, dgSub, dOp, dTest, dChain, dVar, dFrz, dC, dAdd, dSub, dMulT, dDiv, dMod, dPow, dLt, dLe, dGt, dGe, dInt0, dInt2, dEq, dNe, dIn, dNotIn, dIsN, dNotN, dAnd, dOr, dNot, dAndV, dOrV, dNotV, dIf, dNil, dCons, dTup, dLst, dLstM, dIx, dSlice, dNo, dPart, dCall, dCallF, bAbs, bLen, bSum, bAll, bAny, bInt, bStr, bTup, bLst, bIsi, dLc_eq, dFor_eq, dWhile_eq, diLst, diTup, diRng1, diRng2, diZip2, diZip3, diEnum, diSeq, dYes, dAppend, dRepL, dJoin, dSplit, List.getElem?_cons_zero, List.getElem?_cons_succ, List.set_cons_zero, List.set_cons_succ, List.map_cons, List.map_nil, List.cons_append, List.nil_append, List.replicate, List.length_cons, List.length_nil, dwipe, atI_0, atI_1, ex_some]
    refine ⟨by decide, ?_, a, (os.length : Nat) + 1, rfl, adm.dr, by omega, by omega, fun r m2 hr0 hr1 adr => ?_⟩
    · simp only [wL, List.length_map]
      rw [sizeLine_eq]
      omega
    have e1 : wL vs ++ [D.int left] = wL (vs ++ [left]) := by simp [wL]
    obtain ⟨n, rfl⟩ : ∃ n : Nat, r = n := ⟨r.toNat, by omega⟩
    simp only [dRaise, dCallX, dRet, dRetN, dSeq, dNext, dDrop, dIfS, dNever, dAsg, dPar, dPar3, dgName, dgTup, dgLst, dgNil, dgCons, dgSub, dOp, dTest, dChain, dVar, dFrz, dC, dAdd, dSub, dMulT, dDiv, dMod, dPow, dLt, dLe, dGt, dGe, dInt0, dInt2, dEq, dNe, dIn, dNotIn, dIsN, dNotN, dAnd, dOr, dNot, dAndV, dOrV, dNotV, dIf, dNil, dCons, dTup, dLst, dLstM, dIx, dSlice, dNo, dPart, dCall, dCallF, bAbs, bLen, bSum, bAll, bAny, bInt, bStr, bTup, bLst, bIsi, dLc_eq, dFor_eq, dWhile_eq, diLst, diTup, diRng1, diRng2, diZip2, diZip3, diEnum, diSeq, dYes, dAppend, dRepL, dJoin, dSplit, List.getElem?_cons_zero, List.getElem?_cons_succ, List.set_cons_zero, List.set_cons_succ, List.map_cons, List.map_nil, List.cons_append, List.nil_append, List.replicate, List.length_cons, List.length_nil, dwipe, atI_0, atI_1, ex_some]
    rw [e1, wL_cut, wL_cut]
    have e2 : DL.cutD (vs ++ [left]) (some (n : Int)) none = (vs ++ [left]).drop n := by
      have : min n (vs.length + 1) = n := by omega
      simp only [DL.cutD, HT.sIx, List.length_append, List.length_cons, List.length_nil]
      rw [if_neg (by omega)]
      simp only [Int.toNat_natCast, Nat.zero_add, this]
      rw [List.take_of_length_le]
      simp
    have e3 : DL.cutD (vs ++ [left]) none (some (n : Int)) = (vs ++ [left]).take n := by
      have : min n (vs.length + 1) = n := by omega
      simp only [DL.cutD, HT.sIx, List.length_append, List.length_cons, List.length_nil]
      rw [if_neg (by omega)]
      simp only [Int.toNat_natCast, Nat.zero_add, this, List.drop_zero, Nat.sub_zero]
    rw [e2, e3]
    generalize hps : vs ++ [left] = ps
    have hpl : ps.length = os.length + 1 := by rw [← hps]; simp [hvl]
    have hps0 : ∀ v ∈ ps, 0 ≤ v := by
      rw [← hps]
      intro v hm
      rcases List.mem_append.mp hm with hm | hm
      · exact hv v hm
      · have : v = left := by simpa using hm
        omega
    have hpsum : ps.sum = W := by
      rw [← hps]
      simp only [List.sum_append, List.sum_cons, List.sum_nil]
      omega
    generalize hrs : ps.drop n ++ ps.take n = rs
    have rsl : rs.length = os.length + 1 := by
      rw [← hrs, List.length_append, List.length_drop, List.length_take]
      omega
    have rs0 : ∀ v ∈ rs, 0 ≤ v := by
      rw [← hrs]
      intro v hm
      rcases List.mem_append.mp hm with hm | hm
      · exact hps0 v (List.mem_of_mem_drop hm)
      · exact hps0 v (List.mem_of_mem_take hm)
    have rsum : rs.sum = W := by
      rw [← hrs, List.sum_append, Int.add_comm, ← List.sum_append, List.take_append_drop]
      exact hpsum
    have e4 : wL (ps.drop n) ++ wL (ps.take n) = wL rs := by rw [← hrs]; simp [wL]
    refine ⟨?_, ?_⟩
    · simp only [wL, List.length_map, List.length_drop, List.length_take]
      rw [sizeLine_eq]
      omega
    · rw [e4]
      have ad := adm.trans adr
      refine LcB.mp rs D.int (fun v => fr ((v : Rat) / (W : Rat))) rfl (by rw [rsl, sizeLine_eq]; omega) ?_ ?_
      · intro v hm R hR
        simp only [dRaise, dCallX, dRet, dRetN, dSeq, dNext, dDrop, dIfS, dNever, dAsg, dPar, dPar3, dgName, dgTup, dgLst, dgNil, dgCons, dgSub, dOp, dTest, dChain, dVar, dFrz, dC, dAdd, dSub, dMulT, dDiv, dMod, dPow, dLt, dLe, dGt, dGe, dInt0, dInt2, dEq, dNe, dIn, dNotIn, dIsN, dNotN, dAnd, dOr, dNot, dAndV, dOrV, dNotV, dIf, dNil, dCons, dTup, dLst, dLstM, dIx, dSlice, dNo, dPart, dCall, dCallF, bAbs, bLen, bSum, bAll, bAny, bInt, bStr, bTup, bLst, bIsi, dLc_eq, dFor_eq, dWhile_eq, diLst, diTup, diRng1, diRng2, diZip2, diZip3, diEnum, diSeq, dYes, dAppend, dRepL, dJoin, dSplit, List.getElem?_cons_zero, List.getElem?_cons_succ, List.set_cons_zero, List.set_cons_succ, List.map_cons, List.map_nil, List.cons_append, List.nil_append, List.replicate, List.length_cons, List.length_nil, dwipe, atI_0, atI_1, ex_some]
        exact ⟨v, W, 10, rfl, by omega, by omega, by decide, hR⟩
      · cases rs with
        | nil => simp at rsl
        | cons v0 vr =>
          have hle := fun v hm => le_sum rs0 v hm
          have key : Q (.tup (fL ((v0 : Rat) / (W : Rat) :: vr.map fun v : Int => (v : Rat) / (W : Rat)))) m2 := q _ _ _ ⟨by simpa using rsl, fun s hs => ?_, ?_⟩ ad
          · simp only [fL, List.map_cons, List.map_map] at key ⊢
            exact key
          · have : ∃ v ∈ v0 :: vr, s = (v : Rat) / (W : Rat) := by
              rcases List.mem_cons.mp hs with rfl | hs
              · exact ⟨v0, by simp, rfl⟩
              · obtain ⟨v, hv, rfl⟩ := List.mem_map.mp hs
                exact ⟨v, by simp [hv], rfl⟩
            obtain ⟨v, hm, rfl⟩ := this
            have h1 := rs0 v hm
            have h2 := hle v hm
            rw [rsum] at h2
            exact frac_num (by omega) h1 (by unfold FAR; omega) (by unfold FAR; omega)
          · have := sum_div W (v0 :: vr)
            rw [List.map_cons] at this
            rw [this, rsum]
            have := castQ_pos (show 0 < W by omega)
            grind
theorem ok_law_shares (d : Dn K mg "_law_shares" s_law_shares) (b_len : mg "len" = none) (b_range : mg "range" = none) (b_tuple : mg "tuple" = none) (g_law_some : Dk P w K mg base "_law_some" 2 ["_law_drum_here", "_law_things"] sp_law_some) (g_law_roll : Dk P w K mg base "_law_roll" 1 ["_law_drum_here", "_law_many"] sp_law_roll) (g_law_low : Dk P w K mg base "_law_low" 1 ["_law_top", "_law_below"] sp_law_low) : Dk P w K mg base "_law_shares" 3 ["_law_drum_here", "_law_game_here"] sp_law_shares :=
  Dk.of d sc_law_shares ln_law_shares (fun _ _ _ _ _ _ us hl => match us, hl with | [_, _], _ => rfl) t_law_shares (fun F0 f cdv A outer s H E hr => by
    have nd := sc_law_shares.nd
    exact (ds_cons (ds_asg (vs := [2, 3]) (d_tup (da_cons (d_add (d_callB (call_len_seq.or call_len_str) lc_len (by rfl) b_len bb_len (da_cons (d_ix (dv 1) d_int) da_nil)) d_int) (da_cons (d_callD g_law_some (hr.mono (by decide)) (da_cons (dv 0) (da_cons (d_lst (da_cons d_int (da_cons d_int (da_cons d_int (da_cons d_int (da_cons d_int da_nil)))))) da_nil))) da_nil))) (dg_tup 2 rfl (dgs_cons (dg_name (i := 2) nd rfl (Or.inl rfl) (by decide)) (dgs_cons (dg_name (i := 3) nd rfl (Or.inr rfl) (by decide)) dgs_nil)) (gl_cons (gl_cons (fun _ _ _ _ h => gl_nil h) gx_name) gx_name)))
      (ds_cons (ds_par (i := 4) (j := 5) rfl nd rfl rfl (by decide) rfl rfl (da_cons (d_lst da_nil) (da_cons (dv 3) da_nil)) (by rfl))
      (ds_cons (ds_for (vs := [6]) PassesOwn.never rfl (di_rng1 (by rfl) b_range (da_cons (d_sub (dv 2) d_int) da_nil)) (dg_name (i := 6) nd rfl (Or.inl rfl) (by decide)) (ds_cons (ds_set (i := 7) nd rfl (Or.inl rfl) (d_callD g_law_roll (hr.mono (by decide)) (da_cons (dv 0) (da_cons (d_add (dv 5) d_int) da_nil))))
      (ds_one (ds_par (i := 4) (j := 5) rfl nd rfl rfl (by decide) rfl rfl (da_cons (d_add (dv 4) (d_lst (da_cons (dv 7) da_nil))) (da_cons (d_sub (dv 5) (dv 7)) da_nil)) (by rfl)))))
      (ds_cons (ds_set (i := 4) nd rfl (Or.inl rfl) (d_add (dv 4) (d_lst (da_cons (dv 5) da_nil))))
      (ds_cons (ds_set (i := 8) nd rfl (Or.inl rfl) (d_callD g_law_roll (hr.mono (by decide)) (da_cons (dv 0) (da_cons (dv 2) da_nil))))
      (ds_one (ds_ret (d_callTy call_tuple_of lc_tup (by rfl) b_tuple bt_tuple (da_cons (d_lc (own := [("_law_much", 7)]) rfl nd (di_lst (d_add (d_slice (dv 4) (do_some (dv 8)) do_no) (d_slice (dv 4) do_no (do_some (dv 8))))) (blkOk_by (N := ["_law_drum_here", "_law_game_here", "_law_many", "_law_whole", "_law_parts", "_law_left", "_law_bet", "_law_much", "_law_shift"]) (sc := defScope s_law_shares) (own := [("_law_much", 7)]) (by decide +kernel)) (fun _ _ _ _ _ => (dg_name (i := 7) nd rfl (Or.inl rfl) (by decide))) (fun _ _ _ _ _ => dp_nil) (fun _ _ _ _ _ => (d_callD g_law_low (hr.mono (by decide)) (da_cons (dv 7) (da_cons (dv 3) da_nil))))) da_nil)))))))))) rd_law_shares
end
end GS

-- text W6
set_option Elab.async false
set_option linter.all false
set_option maxRecDepth 100000
set_option maxHeartbeats 4000000
namespace GS
open PySem PySem.Spec PyProof.Rows L2 DL
section
variable {P : Program} {w : World} {K : Fg} {mg : Str → Option Value} {base : Heap} {C : Str → Addr}
/-! ### _law_factors -/
def sp_law_factors : DSp := fun ds μ Q _ => ∃ (ws : List Int) (os : List Rat) (s0 : Rat) (ss : List Rat), ds = [gameD ws os, .tup (fL (s0 :: ss))] ∧ GamOk ws os ∧ ShOk os.length s0 ss ∧ ∀ μ', Ext μ μ' → Q (.lst ((facPs os s0 ss).map prD)) μ'
theorem ln_law_factors (ds : List D) (μ Q E) (h : sp_law_factors ds μ Q E) : ds.length = 2 := by
  obtain ⟨ws, os, s0, ss, rfl, _⟩ := h
  rfl
abbrev s_law_factors : Stmt := top 51
theorem sc_law_factors : FnScope ["_law_game_here", "_law_shares_here", "_law_found", "_law_at", "_law_kept", "_law_laid", "_law_odds", "_law_below"] ["_law_game_here", "_law_shares_here"] (defScope s_law_factors) := ⟨rfl, rfl, rfl, by decide +kernel, rfl, by decide +kernel, by decide +kernel⟩
def t_law_factors : DS := (dSeq (dAsg (dLstM dNil) (dgName 2))
  (dSeq (dFor (diRng1 (dCons (dCall bLen (dCons (dOp dIx (dVar 0) (dC (.int 0))) dNil)) dNil)) (dgName 3) (dSeq (dPar3 4 5 6 (dCons (dOp dIx (dVar 1) (dC (.int 0))) (dCons (dOp dIx (dVar 1) (dOp dAdd (dVar 3) (dC (.int 1)))) (dCons (dOp dIx (dOp dIx (dVar 0) (dC (.int 1))) (dVar 3)) dNil))))
  (dSeq (dAsg (dOp dMulT (dOp dMulT (dOp dIx (dVar 4) (dC (.int 1))) (dOp dIx (dVar 5) (dC (.int 1)))) (dOp dIx (dVar 6) (dC (.int 1)))) (dgName 7))
  (dDrop (dAppend 2 (dTup (dCons (dOp dAdd (dOp dMulT (dOp dMulT (dOp dIx (dVar 4) (dC (.int 0))) (dOp dIx (dVar 5) (dC (.int 1)))) (dOp dIx (dVar 6) (dC (.int 1)))) (dOp dMulT (dOp dMulT (dOp dIx (dVar 5) (dC (.int 0))) (dOp dIx (dVar 6) (dC (.int 0)))) (dOp dIx (dVar 4) (dC (.int 1))))) (dCons (dVar 7) dNil))))))))
  (dRet (dFrz 2))))
theorem atI_fL {xs : List Rat} {i : Nat} (h : i < xs.length) : atI (fL xs) (i : Int) = some (fr xs[i]) := atI_get _ _ _ (by simp [fL, h])
theorem take_snoc {α : Type} {l : List α} {i : Nat} (h : i < l.length) : l.take (i + 1) = l.take i ++ [l[i]] := by
  rw [List.take_add_one, List.getElem?_eq_getElem h]
  rfl
theorem rd_law_factors (ds : List D) (μ : Mu) (Q : DQ) (E) (h : sp_law_factors ds μ Q E) : t_law_factors { nx := fun _ μ' => Q .non μ', rt := Q } (ds.map some ++ List.replicate (8 - ds.length) none) μ := by
  obtain ⟨ws, os, s0, ss, rfl, g, sh, q⟩ := h
  have hfl : (facPs os s0 ss).length = os.length := by simp [facPs, sh.len]
  have lw : (wL ws).length = os.length := by simp [wL, g.len]
  have few := g.few
  unfold t_law_factors
  simp only [dRaise, dCallX, dRet, dRetN, dSeq, dNext, dDrop, dIfS, dNever, dAsg, dPar, dPar3, dgName, dgTup, dgLst, dgNil, dgCons, dgSub, dOp, dTest, dChain, dVar, dFrz, dC, dAdd, dSub, dMulT, dDiv, dMod, dPow, dLt, dLe, dGt, dGe, dInt0, dInt2, dEq, dNe, dIn, dNotIn, dIsN, dNotN, dAnd, dOr, dNot, dAndV, dOrV, dNotV, dIf, dNil, dCons, dTup, dLst, dLstM, dIx, dSlice, dNo, dPart, dCall, dCallF, bAbs, bLen, bSum, bAll, bAny, bInt, bStr, bTup, bLst, bIsi, dLc_eq, dFor_eq, dWhile_eq, diLst, diTup, diRng1, diRng2, diZip2, diZip3, diEnum, diSeq, dYes, dAppend, dRepL, dJoin, dSplit, List.getElem?_cons_zero, List.getElem?_cons_succ, List.set_cons_zero, List.set_cons_succ, List.map_cons, List.map_nil, List.cons_append, List.nil_append, List.replicate, List.length_cons, List.length_nil, dwipe, atI_0, atI_1, ex_some, gameD]
  refine ⟨by decide, fun p hp => ?_⟩
  refine ⟨by omega, by omega, ?_⟩
  rw [lw]
  refine ForB.inv (List.range ((os.length : Nat) : Int).toNat) (fun (i : Nat) => D.int (0 + (i : Int))) (fun pre ρ m => (∃ o3 o4 o5 o6 o7, ρ = [some (.tup [.tup (wL ws), .tup (fL os)]), some (.tup (fL (s0 :: ss))), some (.raw (.ref p)), o3, o4, o5, o6, o7]) ∧ m p = some (.lst (((facPs os s0 ss).take pre.length).map prD)) ∧ Ext μ m) rfl ⟨⟨_, _, _, _, _, rfl⟩, muSet_same, (Ext.refl μ).set hp⟩ ?_ ?_
  · rintro pre i post ρ m he ⟨⟨o3, o4, o5, o6, o7, rfl⟩, hm, ex⟩
    have hi : pre.length = i ∧ i < os.length := by
      have h1 := congrArg List.length he
      simp only [List.length_range, List.length_append, List.length_cons] at h1
      have h2 : (List.range ((os.length : Nat) : Int).toNat)[pre.length]? = some i := by rw [he]; simp
      rw [List.getElem?_range (by omega)] at h2
      have : pre.length = i := by simpa using h2
      omega
    obtain ⟨hpi, hio⟩ := hi
    have his : i < ss.length := by have := sh.len; omega
    have zs := sh.zz ss[i] (List.getElem_mem _)
    have zo := g.oz os[i] (List.getElem_mem _)
    have d0 : (s0.den : Int).natAbs < 2 ^ 110 := by exact_mod_cast sh.z0.d
    have d1 : (ss[i].den : Int).natAbs < 2 ^ 110 := by exact_mod_cast zs.d
    have d2 : (os[i].den : Int).natAbs < 2 ^ 20 := by exact_mod_cast zo.d
    have a1 : atI (fL (s0 :: ss)) 0 = some (fr s0) := atI_0 _ _
    have a2 : atI (fL (s0 :: ss)) ((i : Int) + 1) = some (fr ss[i]) := by
      have := atI_fL (xs := s0 :: ss) (i := i + 1) (by simp; omega)
      simpa using this
    have a3 : atI (fL os) (i : Int) = some (fr os[i]) := atI_fL hio
    simp only [dSeq, dPar3, dCons, dNil, dOp, dVar, dC, dgName, dIx_tup, dIx_lst, dAdd, List.getElem?_cons_zero, List.getElem?_cons_succ, List.set_cons_zero, List.set_cons_succ, atI_0, atI_1, Int.zero_add, a1, a2, a3]
    simp only [dRaise, dCallX, dRet, dRetN, dSeq, dNext, dDrop, dIfS, dNever, dAsg, dPar, dPar3, dgName, dgTup, dgLst, dgNil, dgCons, dgSub, dOp, dTest, dChain, dVar, dFrz, dC, dAdd, dSub, dMulT, dDiv, dMod, dPow, dLt, dLe, dGt, dGe, dInt0, dInt2, dEq, dNe, dIn, dNotIn, dIsN, dNotN, dAnd, dOr, dNot, dAndV, dOrV, dNotV, dIf, dNil, dCons, dTup, dLst, dLstM, dIx, dSlice, dNo, dPart, dCall, dCallF, bAbs, bLen, bSum, bAll, bAny, bInt, bStr, bTup, bLst, bIsi, dLc_eq, dFor_eq, dWhile_eq, diLst, diTup, diRng1, diRng2, diZip2, diZip3, diEnum, diSeq, dYes, dAppend, dRepL, dJoin, dSplit, List.getElem?_cons_zero, List.getElem?_cons_succ, List.set_cons_zero, List.set_cons_succ, List.map_cons, List.map_nil, List.cons_append, List.nil_append, List.replicate, List.length_cons, List.length_nil, dwipe, atI_0, atI_1, ex_some, fr]
    refine ⟨mulW d0 d1 (by decide), mulW (int_mul_lt d0 d1) d2 (by decide), ⟨_, hm⟩, mulW sh.z0.n d1 (by decide), mulW (int_mul_lt sh.z0.n d1) d2 (by decide), mulW zs.n zo.n (by decide), mulW (int_mul_lt zs.n zo.n) d0 (by decide), by decide, _, hm, ?_, ?_, ?_, ?_⟩
    · simp only [List.length_map, List.length_take]
      rw [sizeLine_eq]
      omega
    · exact ⟨_, _, _, _, _, rfl⟩
    · rw [muSet_same]
      have hl : i < (facPs os s0 ss).length := by omega
      rw [List.length_append, List.length_singleton, hpi, take_snoc hl, List.map_append]
      congr 2
      simp [facPs, facP, prD]
    · exact ex.set hp
  · rintro ρ m ⟨⟨o3, o4, o5, o6, o7, rfl⟩, hm, ex⟩
    simp only [dRaise, dCallX, dRet, dRetN, dSeq, dNext, dDrop, dIfS, dNever, dAsg, dPar, dPar3, dgName, dgTup, dgLst, dgNil, dgCons, dgSub, dOp, dTest, dChain, dVar, dFrz, dC, dAdd, dSub, dMulT, dDiv, dMod, dPow, dLt, dLe, dGt, dGe, dInt0, dInt2, dEq, dNe, dIn, dNotIn, dIsN, dNotN, dAnd, dOr, dNot, dAndV, dOrV, dNotV, dIf, dNil, dCons, dTup, dLst, dLstM, dIx, dSlice, dNo, dPart, dCall, dCallF, bAbs, bLen, bSum, bAll, bAny, bInt, bStr, bTup, bLst, bIsi, dLc_eq, dFor_eq, dWhile_eq, diLst, diTup, diRng1, diRng2, diZip2, diZip3, diEnum, diSeq, dYes, dAppend, dRepL, dJoin, dSplit, List.getElem?_cons_zero, List.getElem?_cons_succ, List.set_cons_zero, List.set_cons_succ, List.map_cons, List.map_nil, List.cons_append, List.nil_append, List.replicate, List.length_cons, List.length_nil, dwipe, atI_0, atI_1, ex_some, hm]
    rw [List.length_range, List.take_of_length_le (by rw [hfl]; omega)]
    exact q _ (ex.del hp)
theorem ok_law_factors (d : Dn K mg "_law_factors" s_law_factors) (b_range : mg "range" = none) (b_len : mg "len" = none) : Dk P w K mg base "_law_factors" 1 ["_law_game_here", "_law_shares_here"] sp_law_factors :=
  Dk.of d sc_law_factors ln_law_factors (fun _ _ _ _ _ _ us hl => match us, hl with | [_, _], _ => rfl) t_law_factors (fun F0 f cdv A outer s H E hr => by
    have nd := sc_law_factors.nd
    exact (ds_cons (ds_set (i := 2) nd rfl (Or.inl rfl) (d_lstM da_nil))
      (ds_cons (ds_for (vs := [3]) PassesOwn.never rfl (di_rng1 (by rfl) b_range (da_cons (d_callB (call_len_seq.or call_len_str) lc_len (by rfl) b_len bb_len (da_cons (d_ix (dv 0) d_int) da_nil)) da_nil)) (dg_name (i := 3) nd rfl (Or.inl rfl) (by decide)) (ds_cons (ds_par3 (i := 4) (j := 5) (k := 6) rfl nd rfl rfl rfl (by decide) (by decide) (by decide) rfl rfl rfl (da_cons (d_ix (dv 1) d_int) (da_cons (d_ix (dv 1) (d_add (dv 3) d_int)) (da_cons (d_ix (d_ix (dv 0) d_int) (dv 3)) da_nil))) (by rfl))
      (ds_cons (ds_set (i := 7) nd rfl (Or.inl rfl) (d_mul (d_mul (d_ix (dv 4) d_int) (d_ix (dv 5) d_int)) (d_ix (dv 6) d_int)))
      (ds_one (ds_expr (d_append 2 (pv 2) (d_tup (da_cons (d_add (d_mul (d_mul (d_ix (dv 4) d_int) (d_ix (dv 5) d_int)) (d_ix (dv 6) d_int)) (d_mul (d_mul (d_ix (dv 5) d_int) (d_ix (dv 6) d_int)) (d_ix (dv 4) d_int))) (da_cons (dv 7) da_nil)))))))))
      (ds_one (ds_ret (dvz 2)))))) rd_law_factors
/-! ### _law_mean -/
def sp_law_mean : DSp := fun ds μ Q _ => ∃ (ws : List Int) (ps : List (Int × Int)), ds = [.tup (wL ws), .lst (ps.map prD)] ∧ ws.length = ps.length ∧ ws.length ≤ 5 ∧ (∀ w ∈ ws, w.natAbs < 2 ^ 16) ∧ 0 < ws.sum ∧ ws.sum.natAbs < 2 ^ 16 ∧ (∀ p ∈ ps, PrOk p) ∧ Q (fr (meanR ws (ps.map ratio))) μ
theorem ln_law_mean (ds : List D) (μ Q E) (h : sp_law_mean ds μ Q E) : ds.length = 2 := by
  obtain ⟨ws, xs, rfl, _⟩ := h
  rfl
abbrev s_law_mean : Stmt := top 52
theorem sc_law_mean : FnScope ["_law_weights", "_law_some_here", "_law_top", "_law_below", "_law_weight", "_law_one", "_law_other"] ["_law_weights", "_law_some_here"] (defScope s_law_mean) := ⟨rfl, rfl, rfl, by decide +kernel, rfl, by decide +kernel, by decide +kernel⟩
def t_law_mean : DS := (dSeq (dAsg (dTup (dCons (dC (.int 0)) (dCons (dC (.int 1)) dNil))) (dgTup (dgCons (dgName 2) (dgCons (dgName 3) dgNil))))
  (dSeq (dFor (diZip2 .t .l (dCons (dVar 0) (dCons (dVar 1) dNil))) (dgTup (dgCons (dgName 4) (dgCons (dgTup (dgCons (dgName 5) (dgCons (dgName 6) dgNil))) dgNil))) (dPar 2 3 (dCons (dOp dAdd (dOp dMulT (dVar 2) (dVar 6)) (dOp dMulT (dOp dMulT (dVar 4) (dVar 5)) (dVar 3))) (dCons (dOp dMulT (dVar 3) (dVar 6)) dNil))))
  (dRet (dCallF sp_law_low (dCons (dVar 2) (dCons (dOp dMulT (dVar 3) (dCall bSum (dCons (dVar 0) dNil))) dNil))))))
theorem rd_law_mean (ds : List D) (μ : Mu) (Q : DQ) (E) (h : sp_law_mean ds μ Q E) : t_law_mean { nx := fun _ μ' => Q .non μ', rt := Q } (ds.map some ++ List.replicate (7 - ds.length) none) μ := by
  obtain ⟨ws, ps, rfl, hl, h5, hw, hs0, hs, hps, q⟩ := h
  unfold t_law_mean
  simp only [dRaise, dCallX, dRet, dRetN, dSeq, dNext, dDrop, dIfS, dNever, dAsg, dPar, dPar3, dgName, dgTup, dgLst, dgNil, dgCons, dgSub, dOp, dTest, dChain, dVar, dFrz, dC, dAdd, dSub, dMulT, dDiv, dMod, dPow, dLt, dLe, dGt, dGe, dInt0, dInt2, dEq, dNe, dIn, dNotIn, dIsN, dNotN, dAnd, dOr, dNot, dAndV, dOrV, dNotV, dIf, dNil, dCons, dTup, dLst, dLstM, dIx, dSlice, dNo, dPart, dCall, dCallF, bAbs, bLen, bSum, bAll, bAny, bInt, bStr, bTup, bLst, bIsi, dLc_eq, dFor_eq, dWhile_eq, diLst, diTup, diRng1, diRng2, diZip2, diZip3, diEnum, diSeq, dYes, dAppend, dRepL, dJoin, dSplit, List.getElem?_cons_zero, List.getElem?_cons_succ, List.set_cons_zero, List.set_cons_succ, List.map_cons, List.map_nil, List.cons_append, List.nil_append, List.replicate, List.length_cons, List.length_nil, dwipe, atI_0, atI_1, ex_some]
  refine ⟨by decide, wL ws, ps.map prD, rfl, by simp [wL, hl], ?_⟩
  refine ForB.inv (ws.zip ps) (fun q => .tup [.int q.1, prD q.2]) (fun pre ρ m => ∃ (t b : Int) (o4 o5 o6 : Option D), ρ = [some (.tup (wL ws)), some (.lst (ps.map prD)), some (.int t), some (.int b), o4, o5, o6] ∧ 0 < b ∧ b.natAbs < 2 ^ (300 * pre.length + 1) ∧ t.natAbs < 2 ^ (300 * pre.length + 300) ∧ (t : Rat) / (b : Rat) = wsum pre ∧ m = μ) (zip2D_map D.int prD ws ps) ⟨0, 1, _, _, _, rfl, by decide, by decide, by decide, by simp [wsum, Rat.div_def, Rat.zero_mul], rfl⟩ ?_ ?_
  · rintro pre ⟨w, p⟩ post ρ m he ⟨t, b, o4, o5, o6, rfl, hb0, hb, ht, hv, rfl⟩
    have hmem : (w, p) ∈ ws.zip ps := by rw [he]; simp
    obtain ⟨m1, m2⟩ := List.of_mem_zip hmem
    have pk := hps p m2
    have wz := hw w m1
    have hpl : pre.length < 5 := by
      have := congrArg List.length he
      simp only [List.length_zip, ← hl, Nat.min_self, List.length_append, List.length_cons] at this
      omega
    simp only [dRaise, dCallX, dRet, dRetN, dSeq, dNext, dDrop, dIfS, dNever, dAsg, dPar, dPar3, dgName, dgTup, dgLst, dgNil, dgCons, dgSub, dOp, dTest, dChain, dVar, dFrz, dC, dAdd, dSub, dMulT, dDiv, dMod, dPow, dLt, dLe, dGt, dGe, dInt0, dInt2, dEq, dNe, dIn, dNotIn, dIsN, dNotN, dAnd, dOr, dNot, dAndV, dOrV, dNotV, dIf, dNil, dCons, dTup, dLst, dLstM, dIx, dSlice, dNo, dPart, dCall, dCallF, bAbs, bLen, bSum, bAll, bAny, bInt, bStr, bTup, bLst, bIsi, dLc_eq, dFor_eq, dWhile_eq, diLst, diTup, diRng1, diRng2, diZip2, diZip3, diEnum, diSeq, dYes, dAppend, dRepL, dJoin, dSplit, List.getElem?_cons_zero, List.getElem?_cons_succ, List.set_cons_zero, List.set_cons_succ, List.map_cons, List.map_nil, List.cons_append, List.nil_append, List.replicate, List.length_cons, List.length_nil, dwipe, atI_0, atI_1, ex_some, prD]
    refine ⟨mulW ht pk.z2 (by omega), mulW wz pk.z1 (by omega), mulW (int_mul_lt wz pk.z1) hb (by omega), mulW hb pk.z2 (by omega), t * p.2 + w * p.1 * b, b * p.2, _, _, _, rfl, Int.mul_pos hb0 pk.p2, ?_, ?_, ?_, trivial⟩
    · refine int_lt_mono (int_mul_lt hb pk.z2) ?_
      simp only [List.length_append, List.length_singleton]
      omega
    · have h1 : (t * p.2).natAbs < 2 ^ (300 * pre.length + 542) := int_lt_mono (int_mul_lt ht pk.z2) (by omega)
      have h2 : (w * p.1 * b).natAbs < 2 ^ (300 * pre.length + 542) := int_lt_mono (int_mul_lt (int_mul_lt wz pk.z1) hb) (by omega)
      refine int_lt_mono (int_add_lt h1 h2) ?_
      simp only [List.length_append, List.length_singleton]
      omega
    · have e : wsum (pre ++ [(w, p)]) = wsum pre + (w : Rat) * ratio p := by
        unfold wsum
        simp [Rat.add_zero]
      rw [e, ← hv]
      have q1 := castQ_pos hb0
      have q2 := castQ_pos pk.p2
      unfold ratio
      push_cast
      grind
  · rintro ρ m ⟨t, b, o4, o5, o6, rfl, hb0, hb, ht, hv, rfl⟩
    have hzl : (ws.zip ps).length ≤ 5 := by simp only [List.length_zip]; omega
    simp only [dRaise, dCallX, dRet, dRetN, dSeq, dNext, dDrop, dIfS, dNever, dAsg, dPar, dPar3, dgName, dgTup, dgLst, dgNil, dgCons, dgSub, dOp, dTest, dChain, dVar, dFrz, dC, dAdd, dSub, dMulT, dDiv, dMod, dPow, dLt, dLe, dGt, dGe, dInt0, dInt2, dEq, dNe, dIn, dNotIn, dIsN, dNotN, dAnd, dOr, dNot, dAndV, dOrV, dNotV, dIf, dNil, dCons, dTup, dLst, dLstM, dIx, dSlice, dNo, dPart, dCall, dCallF, bAbs, bLen, bSum, bAll, bAny, bInt, bStr, bTup, bLst, bIsi, dLc_eq, dFor_eq, dWhile_eq, diLst, diTup, diRng1, diRng2, diZip2, diZip3, diEnum, diSeq, dYes, dAppend, dRepL, dJoin, dSplit, List.getElem?_cons_zero, List.getElem?_cons_succ, List.set_cons_zero, List.set_cons_succ, List.map_cons, List.map_nil, List.cons_append, List.nil_append, List.replicate, List.length_cons, List.length_nil, dwipe, atI_0, atI_1, ex_some]
    refine ⟨ws, rfl, mulW hb hs (by omega), t, b * ws.sum, 300 * (ws.zip ps).length + 1 + 16, rfl, Int.mul_pos hb0 hs0, int_mul_lt hb hs, by omega, ?_⟩
    have e : (t : Rat) / ((b * ws.sum : Int) : Rat) = meanR ws (ps.map ratio) := by
      rw [← wsum_mean, ← hv]
      have q1 := castQ_pos hb0
      have q2 := castQ_pos hs0
      push_cast
      grind
    rw [e]
    exact q
theorem ok_law_mean (d : Dn K mg "_law_mean" s_law_mean) (b_zip : mg "zip" = none) (b_sum : mg "sum" = none) (g_law_low : Dk P w K mg base "_law_low" 1 ["_law_top", "_law_below"] sp_law_low) : Dk P w K mg base "_law_mean" 2 ["_law_weights", "_law_some_here"] sp_law_mean :=
  Dk.of d sc_law_mean ln_law_mean (fun _ _ _ _ _ _ us hl => match us, hl with | [_, _], _ => rfl) t_law_mean (fun F0 f cdv A outer s H E hr => by
    have nd := sc_law_mean.nd
    exact (ds_cons (ds_asg (vs := [2, 3]) (d_tup (da_cons d_int (da_cons d_int da_nil))) (dg_tup 2 rfl (dgs_cons (dg_name (i := 2) nd rfl (Or.inl rfl) (by decide)) (dgs_cons (dg_name (i := 3) nd rfl (Or.inl rfl) (by decide)) dgs_nil)) (gl_cons (gl_cons (fun _ _ _ _ h => gl_nil h) gx_name) gx_name)))
      (ds_cons (ds_for (vs := [4, 5, 6]) PassesOwn.never rfl (di_zip2 .t .l (by rfl) b_zip (da_cons (dv 0) (da_cons (dv 1) da_nil))) (dg_tup 2 rfl (dgs_cons (dg_name (i := 4) nd rfl (Or.inl rfl) (by decide)) (dgs_cons (dg_tup 2 rfl (dgs_cons (dg_name (i := 5) nd rfl (Or.inl rfl) (by decide)) (dgs_cons (dg_name (i := 6) nd rfl (Or.inl rfl) (by decide)) dgs_nil)) (gl_cons (gl_cons (fun _ _ _ _ h => gl_nil h) gx_name) gx_name)) dgs_nil)) (gl_cons (gl_cons (fun _ _ _ _ h => gl_nil h) (gx_tup (gxs_cons gx_name (gxs_cons gx_name gxs_nil)))) gx_name)) (ds_one (ds_par (i := 2) (j := 3) rfl nd rfl rfl (by decide) rfl rfl (da_cons (d_add (d_mul (dv 2) (dv 6)) (d_mul (d_mul (dv 4) (dv 5)) (dv 3))) (da_cons (d_mul (dv 3) (dv 6)) da_nil)) (by rfl))))
      (ds_one (ds_ret (d_callD g_law_low (hr.mono (by decide)) (da_cons (dv 2) (da_cons (d_mul (dv 3) (d_callB ((cr_sum rfl).or (cr_sumT rfl)) lc_sum (by rfl) b_sum bb_sum (da_cons (dv 0) da_nil))) da_nil)))))))) rd_law_mean
/-! ### _law_gains -/
def sp_law_gains : DSp := fun ds μ Q _ => ∃ (ws : List Int) (os : List Rat) (s0 : Rat) (ss : List Rat), ds = [gameD ws os, .tup (fL (s0 :: ss))] ∧ GamOk ws os ∧ ShOk os.length s0 ss ∧ ∀ μ', Ext μ μ' → Q (optD (gainsO ws os s0 ss)) μ'
theorem ln_law_gains (ds : List D) (μ Q E) (h : sp_law_gains ds μ Q E) : ds.length = 2 := by
  obtain ⟨ws, os, s0, ss, rfl, _⟩ := h
  rfl
abbrev s_law_gains : Stmt := top 56
theorem sc_law_gains : FnScope ["_law_game_here", "_law_shares_here", "_law_some_here", "_law_whole", "_law_found", "_law_weight", "_law_top", "_law_below", "_law_one", "_law_other"] ["_law_game_here", "_law_shares_here"] (defScope s_law_gains) := ⟨rfl, rfl, rfl, by decide +kernel, rfl, by decide +kernel, by decide +kernel⟩
def t_law_gains : DS := (dSeq (dPar 2 3 (dCons (dCallF sp_law_factors (dCons (dVar 0) (dCons (dVar 1) dNil))) (dCons (dCall bSum (dCons (dOp dIx (dVar 0) (dC (.int 0))) dNil)) dNil)))
  (dSeq (dIfS (dTest (dOp dNe (dLc (diLst (dVar 2)) (dgTup (dgCons (dgName 8) (dgCons (dgName 9) dgNil))) (dTest (dOp dEq (dVar 8) (dC (.int 0)))) (dVar 8) [8, 9]) (dLst dNil))) (dRet (dC .non)) dNext)
  (dSeq (dAsg (dLstM (dCons (dCallF sp_law_mean (dCons (dOp dIx (dVar 0) (dC (.int 0))) (dCons (dLc (diLst (dVar 2)) (dgTup (dgCons (dgName 8) (dgCons (dgName 9) dgNil))) dYes (dTup (dCons (dVar 9) (dCons (dVar 8) dNil))) [8, 9]) dNil))) dNil)) (dgName 4))
  (dSeq (dFor (diZip3 .t .t .l (dCons (dOp dIx (dVar 0) (dC (.int 0))) (dCons (dOp dIx (dVar 0) (dC (.int 1))) (dCons (dVar 2) dNil)))) (dgTup (dgCons (dgName 5) (dgCons (dgTup (dgCons (dgName 6) (dgCons (dgName 7) dgNil))) (dgCons (dgTup (dgCons (dgName 8) (dgCons (dgName 9) dgNil))) dgNil)))) (dDrop (dAppend 4 (dCallF sp_law_low (dCons (dOp dMulT (dOp dMulT (dVar 5) (dVar 6)) (dVar 9)) (dCons (dOp dMulT (dOp dMulT (dVar 3) (dVar 7)) (dVar 8)) dNil))))))
  (dRet (dCall bTup (dCons (dFrz 4) dNil)))))))
theorem intsL_eq (xs : List Int) : eqD (.lst (xs.map D.int)) (.lst []) = decide (xs = []) := (Enc.lst Enc.int).eq xs []
theorem intsL_shp (xs : List Int) : shp (.lst (xs.map D.int)) = true := (Enc.lst Enc.int).shp (by decide) xs
theorem nil_shp : shp (.lst []) = true := intsL_shp []
theorem rd_law_gains (ds : List D) (μ : Mu) (Q : DQ) (E) (h : sp_law_gains ds μ Q E) : t_law_gains { nx := fun _ μ' => Q .non μ', rt := Q } (ds.map some ++ List.replicate (10 - ds.length) none) μ := by
  obtain ⟨ws, os, s0, ss, rfl, g, sh, q⟩ := h
  have hpk := facPs_ok g.on g.oz sh
  have hfl : (facPs os s0 ss).length = os.length := by simp [facPs, sh.len]
  have hz := mem_facs_zero hpk
  have few := g.few
  unfold t_law_gains
  simp only [dRaise, dCallX, dRet, dRetN, dSeq, dNext, dDrop, dIfS, dNever, dAsg, dPar, dPar3, dgName, dgTup, dgLst, dgNil, dgCons, dgSub, dOp, dTest, dChain, dVar, dFrz, dC, dAdd, dSub, dMulT, dDiv, dMod, dPow, dLt, dLe, dGt, dGe, dInt0, dInt2, dEq, dNe, dIn, dNotIn, dIsN, dNotN, dAnd, dOr, dNot, dAndV, dOrV, dNotV, dIf, dNil, dCons, dTup, dLst, dLstM, dIx, dSlice, dNo, dPart, dCall, dCallF, bAbs, bLen, bSum, bAll, bAny, bInt, bStr, bTup, bLst, bIsi, dLc_eq, dFor_eq, dWhile_eq, diLst, diTup, diRng1, diRng2, diZip2, diZip3, diEnum, diSeq, dYes, dAppend, dRepL, dJoin, dSplit, List.getElem?_cons_zero, List.getElem?_cons_succ, List.set_cons_zero, List.set_cons_succ, List.map_cons, List.map_nil, List.cons_append, List.nil_append, List.replicate, List.length_cons, List.length_nil, dwipe, atI_0, atI_1, ex_some]
  refine ⟨ws, os, s0, ss, rfl, g, sh, fun μ1 ex1 => ?_⟩
  simp only [dRaise, dCallX, dRet, dRetN, dSeq, dNext, dDrop, dIfS, dNever, dAsg, dPar, dPar3, dgName, dgTup, dgLst, dgNil, dgCons, dgSub, dOp, dTest, dChain, dVar, dFrz, dC, dAdd, dSub, dMulT, dDiv, dMod, dPow, dLt, dLe, dGt, dGe, dInt0, dInt2, dEq, dNe, dIn, dNotIn, dIsN, dNotN, dAnd, dOr, dNot, dAndV, dOrV, dNotV, dIf, dNil, dCons, dTup, dLst, dLstM, dIx, dSlice, dNo, dPart, dCall, dCallF, bAbs, bLen, bSum, bAll, bAny, bInt, bStr, bTup, bLst, bIsi, dLc_eq, dFor_eq, dWhile_eq, diLst, diTup, diRng1, diRng2, diZip2, diZip3, diEnum, diSeq, dYes, dAppend, dRepL, dJoin, dSplit, List.getElem?_cons_zero, List.getElem?_cons_succ, List.set_cons_zero, List.set_cons_succ, List.map_cons, List.map_nil, List.cons_append, List.nil_append, List.replicate, List.length_cons, List.length_nil, dwipe, atI_0, atI_1, ex_some, gameD]
  refine ⟨ws, rfl, ?_⟩
  refine LcB.fm (facPs os s0 ss) prD (fun p => if decide (p.1 = 0) = true then some (D.int p.1) else none) rfl (by rw [hfl, sizeLine_eq]; omega) ?_ ?_
  · rintro ⟨t, b⟩ hm R hR
    simp only [dRaise, dCallX, dRet, dRetN, dSeq, dNext, dDrop, dIfS, dNever, dAsg, dPar, dPar3, dgName, dgTup, dgLst, dgNil, dgCons, dgSub, dOp, dTest, dChain, dVar, dFrz, dC, dAdd, dSub, dMulT, dDiv, dMod, dPow, dLt, dLe, dGt, dGe, dInt0, dInt2, dEq, dNe, dIn, dNotIn, dIsN, dNotN, dAnd, dOr, dNot, dAndV, dOrV, dNotV, dIf, dNil, dCons, dTup, dLst, dLstM, dIx, dSlice, dNo, dPart, dCall, dCallF, bAbs, bLen, bSum, bAll, bAny, bInt, bStr, bTup, bLst, bIsi, dLc_eq, dFor_eq, dWhile_eq, diLst, diTup, diRng1, diRng2, diZip2, diZip3, diEnum, diSeq, dYes, dAppend, dRepL, dJoin, dSplit, List.getElem?_cons_zero, List.getElem?_cons_succ, List.set_cons_zero, List.set_cons_succ, List.map_cons, List.map_nil, List.cons_append, List.nil_append, List.replicate, List.length_cons, List.length_nil, dwipe, atI_0, atI_1, ex_some, prD]
    simp only [shp_int, eqD_int, true_and]
    by_cases h0 : t = 0
    · subst h0
      exact hR
    · have e : decide (t = 0) = false := decide_eq_false h0
      simp only [e, Bool.false_eq_true, if_false] at hR ⊢
      exact hR
  · rw [filt_some]
    have e1 : ((facPs os s0 ss).filter fun p => decide (p.1 = 0)).map (fun p => D.int p.1) = (((facPs os s0 ss).filter fun p => decide (p.1 = 0)).map (fun p => p.1)).map D.int := by rw [List.map_map]; rfl
    rw [e1]
    refine ⟨by decide, intsL_shp _, nil_shp, ?_⟩
    rw [intsL_eq]
    by_cases h0 : (0 : Rat) ∈ facs os s0 ss
    · have e2 : decide (((facPs os s0 ss).filter fun p => decide (p.1 = 0)).map (fun p => p.1) = []) = false := by
        refine decide_eq_false fun z => ?_
        rw [List.map_eq_nil_iff] at z
        exact hz.mp z h0
      rw [e2]
      have e : gainsO ws os s0 ss = none := if_pos h0
      rw [e] at q
      exact q _ ex1
    · have e2 : decide (((facPs os s0 ss).filter fun p => decide (p.1 = 0)).map (fun p => p.1) = []) = true := by
        refine decide_eq_true ?_
        rw [List.map_eq_nil_iff]
        exact hz.mpr h0
      rw [e2]
      simp only [Bool.not_true, Bool.false_eq_true, if_false]
      have e : gainsO ws os s0 ss = some (gainsR ws os (facs os s0 ss)) := if_neg h0
      rw [e] at q
      have pp : ∀ p ∈ facPs os s0 ss, 0 < p.1 := fun p hm => by
        have h1 := (hpk p hm).p1
        have h2 : p.1 ≠ 0 := fun z => h0 (by rw [← facPs_ratio]; exact List.mem_map.mpr ⟨p, hm, (ratio_zero (hpk p hm).p2).mp z⟩)
        omega
      rw [← facPs_ratio] at q
      generalize hps : facPs os s0 ss = ps at *
      have hmean : meanR ws ((ps.map fun p => (p.2, p.1)).map ratio) = meanR ws ((ps.map ratio).map fun f => 1 / f) := by
        rw [List.map_map, List.map_map]
        congr 1
        exact List.map_congr_left fun p _ => inv_ratio
      refine LcB.mp ps prD (fun p => prD (p.2, p.1)) rfl (by rw [hfl, sizeLine_eq]; omega) ?_ ?_
      · rintro ⟨t, b⟩ hm R hR
        simp only [dRaise, dCallX, dRet, dRetN, dSeq, dNext, dDrop, dIfS, dNever, dAsg, dPar, dPar3, dgName, dgTup, dgLst, dgNil, dgCons, dgSub, dOp, dTest, dChain, dVar, dFrz, dC, dAdd, dSub, dMulT, dDiv, dMod, dPow, dLt, dLe, dGt, dGe, dInt0, dInt2, dEq, dNe, dIn, dNotIn, dIsN, dNotN, dAnd, dOr, dNot, dAndV, dOrV, dNotV, dIf, dNil, dCons, dTup, dLst, dLstM, dIx, dSlice, dNo, dPart, dCall, dCallF, bAbs, bLen, bSum, bAll, bAny, bInt, bStr, bTup, bLst, bIsi, dLc_eq, dFor_eq, dWhile_eq, diLst, diTup, diRng1, diRng2, diZip2, diZip3, diEnum, diSeq, dYes, dAppend, dRepL, dJoin, dSplit, List.getElem?_cons_zero, List.getElem?_cons_succ, List.set_cons_zero, List.set_cons_succ, List.map_cons, List.map_nil, List.cons_append, List.nil_append, List.replicate, List.length_cons, List.length_nil, dwipe, atI_0, atI_1, ex_some, prD]
        exact ⟨by decide, hR⟩
      · refine ⟨ws, ps.map fun p => (p.2, p.1), ?_, by simp [hfl, g.len], by rw [g.len]; exact few, g.wz, g.ws0, g.sz, ?_, ?_⟩
        · rw [List.map_map]
          rfl
        · intro p hm
          obtain ⟨p', hm', rfl⟩ := List.mem_map.mp hm
          have k := hpk p' hm'
          exact ⟨Int.le_of_lt k.p2, pp p' hm', k.z2, k.z1⟩
        · rw [hmean]
          refine ⟨by decide, fun a ha => ?_⟩
          refine ⟨wL ws, fL os, ps.map prD, rfl, by simp [wL, fL, g.len], by simp [wL, g.len, hfl], ?_⟩
          refine ForB.inv (ws.zip (os.zip ps)) (fun q => .tup [.int q.1, fr q.2.1, prD q.2.2]) (fun pre ρ m => (∃ o5 o6 o7 o8 o9, ρ = [some (.tup [.tup (wL ws), .tup (fL os)]), some (.tup (fL (s0 :: ss))), some (.lst (ps.map prD)), some (.int ws.sum), some (.raw (.ref a)), o5, o6, o7, o8, o9]) ∧ m a = some (.lst (fr (meanR ws ((ps.map ratio).map fun f => 1 / f)) :: (pre.map (glP ws.sum)).map fr)) ∧ Ext μ1 m) (zip3D_map D.int fr prD ws os ps) ⟨⟨_, _, _, _, _, rfl⟩, muSet_same, (Ext.refl μ1).set ha⟩ ?_ ?_
          · rintro pre ⟨w, o, p⟩ post ρ m he ⟨⟨o5, o6, o7, o8, o9, rfl⟩, hm, ex⟩
            have hmem : (w, o, p) ∈ ws.zip (os.zip ps) := by rw [he]; simp
            obtain ⟨m1, m2⟩ := List.of_mem_zip hmem
            obtain ⟨m2, m3⟩ := List.of_mem_zip m2
            have pk := hpk p m3
            have pq := pp p m3
            have wz := g.wz w m1
            have oz := g.oz o m2
            have d2 : (o.den : Int).natAbs < 2 ^ 20 := by exact_mod_cast oz.d
            have hpl : pre.length < 5 := by
              have := congrArg List.length he
              simp only [List.length_zip, g.len, hfl, Nat.min_self, List.length_append, List.length_cons] at this
              omega
            simp only [dRaise, dCallX, dRet, dRetN, dSeq, dNext, dDrop, dIfS, dNever, dAsg, dPar, dPar3, dgName, dgTup, dgLst, dgNil, dgCons, dgSub, dOp, dTest, dChain, dVar, dFrz, dC, dAdd, dSub, dMulT, dDiv, dMod, dPow, dLt, dLe, dGt, dGe, dInt0, dInt2, dEq, dNe, dIn, dNotIn, dIsN, dNotN, dAnd, dOr, dNot, dAndV, dOrV, dNotV, dIf, dNil, dCons, dTup, dLst, dLstM, dIx, dSlice, dNo, dPart, dCall, dCallF, bAbs, bLen, bSum, bAll, bAny, bInt, bStr, bTup, bLst, bIsi, dLc_eq, dFor_eq, dWhile_eq, diLst, diTup, diRng1, diRng2, diZip2, diZip3, diEnum, diSeq, dYes, dAppend, dRepL, dJoin, dSplit, List.getElem?_cons_zero, List.getElem?_cons_succ, List.set_cons_zero, List.set_cons_succ, List.map_cons, List.map_nil, List.cons_append, List.nil_append, List.replicate, List.length_cons, List.length_nil, dwipe, atI_0, atI_1, ex_some, prD, fr]
            refine ⟨⟨_, hm⟩, mulW wz oz.n (by decide), mulW (int_mul_lt wz oz.n) pk.z2 (by decide), mulW g.sz d2 (by decide), mulW (int_mul_lt g.sz d2) pk.z1 (by decide), w * o.num * p.2, ws.sum * o.den * p.1, 300, rfl, Int.mul_pos (Int.mul_pos g.ws0 (den_pos o)) pq, int_lt_mono (int_mul_lt (int_mul_lt g.sz d2) pk.z1) (by decide), by decide, ?_⟩
            refine ⟨_, hm, ?_, ⟨_, _, _, _, _, rfl⟩, ?_, ex.set ha⟩
            · simp only [List.length_cons, List.length_map]
              rw [sizeLine_eq]
              omega
            · rw [muSet_same]
              have ev : ((w * o.num * p.2 : Int) : Rat) / ((ws.sum * o.den * p.1 : Int) : Rat) = glP ws.sum (w, o, p) := by
                unfold glP ratio
                have h1 := rat_eq o
                have q1 := castQ_pos pk.p2
                have q2 := castQ_pos g.ws0
                have q3 := castQ_pos pq
                have q4 := denQ_pos o
                simp only
                generalize o.num = x at *
                generalize (o.den : Int) = y at *
                subst h1
                push_cast
                grind
              rw [ev]
              simp [fr]
          · rintro ρ m ⟨⟨o5, o6, o7, o8, o9, rfl⟩, hm, ex⟩
            simp only [dRaise, dCallX, dRet, dRetN, dSeq, dNext, dDrop, dIfS, dNever, dAsg, dPar, dPar3, dgName, dgTup, dgLst, dgNil, dgCons, dgSub, dOp, dTest, dChain, dVar, dFrz, dC, dAdd, dSub, dMulT, dDiv, dMod, dPow, dLt, dLe, dGt, dGe, dInt0, dInt2, dEq, dNe, dIn, dNotIn, dIsN, dNotN, dAnd, dOr, dNot, dAndV, dOrV, dNotV, dIf, dNil, dCons, dTup, dLst, dLstM, dIx, dSlice, dNo, dPart, dCall, dCallF, bAbs, bLen, bSum, bAll, bAny, bInt, bStr, bTup, bLst, bIsi, dLc_eq, dFor_eq, dWhile_eq, diLst, diTup, diRng1, diRng2, diZip2, diZip3, diEnum, diSeq, dYes, dAppend, dRepL, dJoin, dSplit, List.getElem?_cons_zero, List.getElem?_cons_succ, List.set_cons_zero, List.set_cons_succ, List.map_cons, List.map_nil, List.cons_append, List.nil_append, List.replicate, List.length_cons, List.length_nil, dwipe, atI_0, atI_1, ex_some, hm]
            have key := q (muDel m a) (ex1.trans (ex.del ha))
            have e5 : optD (some (gainsR ws os (ps.map ratio))) = .tup (fr (meanR ws ((ps.map ratio).map fun f => 1 / f)) :: ((ws.zip (os.zip ps)).map (glP ws.sum)).map fr) := by
              unfold optD gainsR fL
              rw [gains_tail]
              rfl
            rw [e5] at key
            exact key
theorem ok_law_gains (d : Dn K mg "_law_gains" s_law_gains) (b_sum : mg "sum" = none) (b_zip : mg "zip" = none) (b_tuple : mg "tuple" = none) (g_law_factors : Dk P w K mg base "_law_factors" 1 ["_law_game_here", "_law_shares_here"] sp_law_factors) (g_law_mean : Dk P w K mg base "_law_mean" 2 ["_law_weights", "_law_some_here"] sp_law_mean) (g_law_low : Dk P w K mg base "_law_low" 1 ["_law_top", "_law_below"] sp_law_low) : Dk P w K mg base "_law_gains" 3 ["_law_game_here", "_law_shares_here"] sp_law_gains :=
  Dk.of d sc_law_gains ln_law_gains (fun _ _ _ _ _ _ us hl => match us, hl with | [_, _], _ => rfl) t_law_gains (fun F0 f cdv A outer s H E hr => by
    have nd := sc_law_gains.nd
    exact (ds_cons (ds_par (i := 2) (j := 3) rfl nd rfl rfl (by decide) rfl rfl (da_cons (d_callD g_law_factors (hr.mono (by decide)) (da_cons (dv 0) (da_cons (dv 1) da_nil))) (da_cons (d_callB ((cr_sum rfl).or (cr_sumT rfl)) lc_sum (by rfl) b_sum bb_sum (da_cons (d_ix (dv 0) d_int) da_nil)) da_nil)) (by rfl))
      (ds_cons (ds_if (d_neT (hu64 hr) (d_lc (own := [("_law_one", 8), ("_law_other", 9)]) rfl nd (di_lst (dv 2)) (blkOk_by (N := ["_law_game_here", "_law_shares_here", "_law_some_here", "_law_whole", "_law_found", "_law_weight", "_law_top", "_law_below", "_law_one", "_law_other"]) (sc := defScope s_law_gains) (own := [("_law_one", 8), ("_law_other", 9)]) (by decide +kernel)) (fun _ _ _ _ _ => (dg_tup 2 rfl (dgs_cons (dg_name (i := 8) nd rfl (Or.inl rfl) (by decide)) (dgs_cons (dg_name (i := 9) nd rfl (Or.inl rfl) (by decide)) dgs_nil)) (gl_cons (gl_cons (fun _ _ _ _ h => gl_nil h) gx_name) gx_name))) (fun _ _ _ _ _ => (dp_one (d_eqT (hu64 hr) (dv 8) d_int))) (fun _ _ _ _ _ => (dv 8))) (d_lst da_nil)) (ds_one (ds_ret d_non)) ds_nil)
      (ds_cons (ds_set (i := 4) nd rfl (Or.inl rfl) (d_lstM (da_cons (d_callD g_law_mean (hr.mono (by decide)) (da_cons (d_ix (dv 0) d_int) (da_cons (d_lc (own := [("_law_one", 8), ("_law_other", 9)]) rfl nd (di_lst (dv 2)) (blkOk_by (N := ["_law_game_here", "_law_shares_here", "_law_some_here", "_law_whole", "_law_found", "_law_weight", "_law_top", "_law_below", "_law_one", "_law_other"]) (sc := defScope s_law_gains) (own := [("_law_one", 8), ("_law_other", 9)]) (by decide +kernel)) (fun _ _ _ _ _ => (dg_tup 2 rfl (dgs_cons (dg_name (i := 8) nd rfl (Or.inl rfl) (by decide)) (dgs_cons (dg_name (i := 9) nd rfl (Or.inl rfl) (by decide)) dgs_nil)) (gl_cons (gl_cons (fun _ _ _ _ h => gl_nil h) gx_name) gx_name))) (fun _ _ _ _ _ => dp_nil) (fun _ _ _ _ _ => (d_tup (da_cons (dv 9) (da_cons (dv 8) da_nil))))) da_nil))) da_nil)))
      (ds_cons (ds_for (vs := [5, 6, 7, 8, 9]) PassesOwn.never rfl (di_zip3 .t .t .l (by rfl) b_zip (da_cons (d_ix (dv 0) d_int) (da_cons (d_ix (dv 0) d_int) (da_cons (dv 2) da_nil)))) (dg_tup 3 rfl (dgs_cons (dg_name (i := 5) nd rfl (Or.inl rfl) (by decide)) (dgs_cons (dg_tup 2 rfl (dgs_cons (dg_name (i := 6) nd rfl (Or.inl rfl) (by decide)) (dgs_cons (dg_name (i := 7) nd rfl (Or.inl rfl) (by decide)) dgs_nil)) (gl_cons (gl_cons (fun _ _ _ _ h => gl_nil h) gx_name) gx_name)) (dgs_cons (dg_tup 2 rfl (dgs_cons (dg_name (i := 8) nd rfl (Or.inl rfl) (by decide)) (dgs_cons (dg_name (i := 9) nd rfl (Or.inl rfl) (by decide)) dgs_nil)) (gl_cons (gl_cons (fun _ _ _ _ h => gl_nil h) gx_name) gx_name)) dgs_nil))) (gl_cons (gl_cons (gl_cons (fun _ _ _ _ h => gl_nil h) (gx_tup (gxs_cons gx_name (gxs_cons gx_name gxs_nil)))) (gx_tup (gxs_cons gx_name (gxs_cons gx_name gxs_nil)))) gx_name)) (ds_one (ds_expr (d_append 4 (pv 4) (d_callD g_law_low (hr.mono (by decide)) (da_cons (d_mul (d_mul (dv 5) (dv 6)) (dv 9)) (da_cons (d_mul (d_mul (dv 3) (dv 7)) (dv 8)) da_nil)))))))
      (ds_one (ds_ret (d_callTy call_tuple_of lc_tup (by rfl) b_tuple bt_tuple (da_cons (dvz 4) da_nil))))))))) rd_law_gains
/-! ### _law_are_best -/
def sp_law_are_best : DSp := fun ds μ Q _ => ∃ (ws : List Int) (os : List Rat) (s0 : Rat) (ss : List Rat), ds = [gameD ws os, .tup (fL (s0 :: ss))] ∧ GamOk ws os ∧ ShOk os.length s0 ss ∧ ∀ μ', Ext μ μ' → Q (.bl (bestB ws os s0 ss)) μ'
theorem ln_law_are_best (ds : List D) (μ Q E) (h : sp_law_are_best ds μ Q E) : ds.length = 2 := by
  obtain ⟨ws, os, s0, ss, rfl, _⟩ := h
  rfl
abbrev s_law_are_best : Stmt := top 57
theorem sc_law_are_best : FnScope ["_law_game_here", "_law_shares_here", "_law_some_here", "_law_one", "_law_other"] ["_law_game_here", "_law_shares_here"] (defScope s_law_are_best) := ⟨rfl, rfl, rfl, by decide +kernel, rfl, by decide +kernel, by decide +kernel⟩
def t_law_are_best : DS := (dSeq (dAsg (dCallF sp_law_gains (dCons (dVar 0) (dCons (dVar 1) dNil))) (dgName 2))
  (dRet (dAndV (dOp dNotN (dVar 2) (dC .non)) (dOp dEq (dLc (diTup (dVar 2)) (dgTup (dgCons (dgName 3) (dgCons (dgName 4) dgNil))) (dTest (dOp dGt (dVar 3) (dVar 4))) (dVar 3) [3, 4]) (dLst dNil)))))
theorem filt_all {α : Type} (p : α → Bool) : ∀ l : List α, (l.all fun a => !p a) = decide (l.filter p = [])
  | [] => rfl
  | a :: l => by
    have := filt_all p l
    cases h : p a with
    | true => simp [h]
    | false => simp [h, this]
theorem rd_law_are_best (ds : List D) (μ : Mu) (Q : DQ) (E) (h : sp_law_are_best ds μ Q E) : t_law_are_best { nx := fun _ μ' => Q .non μ', rt := Q } (ds.map some ++ List.replicate (5 - ds.length) none) μ := by
  obtain ⟨ws, os, s0, ss, rfl, g, sh, q⟩ := h
  unfold t_law_are_best
  simp only [dRaise, dCallX, dRet, dRetN, dSeq, dNext, dDrop, dIfS, dNever, dAsg, dPar, dPar3, dgName, dgTup, dgLst, dgNil, dgCons, dgSub, dOp, dTest, dChain, dVar, dFrz, dC, dAdd, dSub, dMulT, dDiv, dMod, dPow, dLt, dLe, dGt, dGe, dInt0, dInt2, dEq, dNe, dIn, dNotIn, dIsN, dNotN, dAnd, dOr, dNot, dAndV, dOrV, dNotV, dIf, dNil, dCons, dTup, dLst, dLstM, dIx, dSlice, dNo, dPart, dCall, dCallF, bAbs, bLen, bSum, bAll, bAny, bInt, bStr, bTup, bLst, bIsi, dLc_eq, dFor_eq, dWhile_eq, diLst, diTup, diRng1, diRng2, diZip2, diZip3, diEnum, diSeq, dYes, dAppend, dRepL, dJoin, dSplit, List.getElem?_cons_zero, List.getElem?_cons_succ, List.set_cons_zero, List.set_cons_succ, List.map_cons, List.map_nil, List.cons_append, List.nil_append, List.replicate, List.length_cons, List.length_nil, dwipe, atI_0, atI_1, ex_some]
  refine ⟨ws, os, s0, ss, rfl, g, sh, fun μ1 ex1 => ?_⟩
  cases e : gainsO ws os s0 ss with
  | none =>
    have eb : bestB ws os s0 ss = false := by unfold bestB; rw [e]
    rw [eb] at q
    exact q _ ex1
  | some gs =>
    have eb : bestB ws os s0 ss = gs.all fun x => !decide ((1 : Rat) < x) := by unfold bestB; rw [e]
    rw [eb] at q
    obtain ⟨hl, hz⟩ := gains_bz g sh e
    show LcB _ _ _ _ _ (fL gs) _ _
    refine LcB.fm gs fr (fun x => if decide ((1 : Rat) < x) = true then some (D.int x.num) else none) rfl (Nat.le_trans hl (by decide)) ?_ ?_
    · intro x hx R hR
      rw [← gt_one] at hR
      simp only [dRaise, dCallX, dRet, dRetN, dSeq, dNext, dDrop, dIfS, dNever, dAsg, dPar, dPar3, dgName, dgTup, dgLst, dgNil, dgCons, dgSub, dOp, dTest, dChain, dVar, dFrz, dC, dAdd, dSub, dMulT, dDiv, dMod, dPow, dLt, dLe, dGt, dGe, dInt0, dInt2, dEq, dNe, dIn, dNotIn, dIsN, dNotN, dAnd, dOr, dNot, dAndV, dOrV, dNotV, dIf, dNil, dCons, dTup, dLst, dLstM, dIx, dSlice, dNo, dPart, dCall, dCallF, bAbs, bLen, bSum, bAll, bAny, bInt, bStr, bTup, bLst, bIsi, dLc_eq, dFor_eq, dWhile_eq, diLst, diTup, diRng1, diRng2, diZip2, diZip3, diEnum, diSeq, dYes, dAppend, dRepL, dJoin, dSplit, List.getElem?_cons_zero, List.getElem?_cons_succ, List.set_cons_zero, List.set_cons_succ, List.map_cons, List.map_nil, List.cons_append, List.nil_append, List.replicate, List.length_cons, List.length_nil, dwipe, atI_0, atI_1, ex_some, fr]
      by_cases hc : (x.den : Int) < x.num
      · rw [decide_eq_true hc] at hR ⊢
        exact hR
      · rw [decide_eq_false hc] at hR ⊢
        exact hR
    · rw [filt_some]
      have e1 : (gs.filter fun x => decide ((1 : Rat) < x)).map (fun x => D.int x.num) = ((gs.filter fun x => decide ((1 : Rat) < x)).map (fun x => x.num)).map D.int := by rw [List.map_map]; rfl
      rw [e1]
      refine ⟨by decide, intsL_shp _, nil_shp, ?_⟩
      rw [intsL_eq]
      have e2 : decide ((gs.filter fun x => decide ((1 : Rat) < x)).map (fun x => x.num) = []) = gs.all fun x => !decide ((1 : Rat) < x) := by
        rw [filt_all, decide_eq_decide, List.map_eq_nil_iff]
      rw [e2]
      exact q _ ex1
theorem ok_law_are_best (d : Dn K mg "_law_are_best" s_law_are_best) (g_law_gains : Dk P w K mg base "_law_gains" 3 ["_law_game_here", "_law_shares_here"] sp_law_gains) : Dk P w K mg base "_law_are_best" 4 ["_law_game_here", "_law_shares_here"] sp_law_are_best :=
  Dk.of d sc_law_are_best ln_law_are_best (fun _ _ _ _ _ _ us hl => match us, hl with | [_, _], _ => rfl) t_law_are_best (fun F0 f cdv A outer s H E hr => by
    have nd := sc_law_are_best.nd
    exact (ds_cons (ds_set (i := 2) nd rfl (Or.inl rfl) (d_callD g_law_gains (hr.mono (by decide)) (da_cons (dv 0) (da_cons (dv 1) da_nil))))
      (ds_one (ds_ret (d_andV (d_notN  (dv 2) d_non) (d_one (d_eq (hu64 hr) (d_lc (own := [("_law_one", 3), ("_law_other", 4)]) rfl nd (di_tup (dv 2)) (blkOk_by (N := ["_law_game_here", "_law_shares_here", "_law_some_here", "_law_one", "_law_other"]) (sc := defScope s_law_are_best) (own := [("_law_one", 3), ("_law_other", 4)]) (by decide +kernel)) (fun _ _ _ _ _ => (dg_tup 2 rfl (dgs_cons (dg_name (i := 3) nd rfl (Or.inl rfl) (by decide)) (dgs_cons (dg_name (i := 4) nd rfl (Or.inl rfl) (by decide)) dgs_nil)) (gl_cons (gl_cons (fun _ _ _ _ h => gl_nil h) gx_name) gx_name))) (fun _ _ _ _ _ => (dp_one (d_gtT  (dv 3) (dv 4)))) (fun _ _ _ _ _ => (dv 3))) (d_lst da_nil)))))))) rd_law_are_best
/-! ### _law_every -/
def sp_law_every : DSp := fun ds μ Q _ => ∃ (n : Nat) (W : Int), ds = [.int n, .int W] ∧ n ≤ 5 ∧ 0 ≤ W ∧ W ≤ 20 ∧ Q (dlW (everyL n W)) μ
theorem ln_law_every (ds : List D) (μ Q E) (h : sp_law_every ds μ Q E) : ds.length = 2 := by
  obtain ⟨n, W, rfl, _⟩ := h
  rfl
abbrev s_law_every : Stmt := top 60
theorem sc_law_every : FnScope ["_law_many", "_law_whole", "_law_found", "_law_outcome", "_law_longer", "_law_head", "_law_one"] ["_law_many", "_law_whole"] (defScope s_law_every) := ⟨rfl, rfl, rfl, by decide +kernel, rfl, by decide +kernel, by decide +kernel⟩
def t_law_every : DS := (dSeq (dAsg (dLst (dCons (dTup dNil) dNil)) (dgName 2))
  (dSeq (dFor (diRng1 (dCons (dVar 0) dNil)) (dgName 3) (dSeq (dAsg (dLst dNil) (dgName 4))
  (dSeq (dFor (diLst (dVar 2)) (dgName 5) (dAsg (dOp dAdd (dVar 4) (dLc (diRng2 (dCons (dC (.int 1)) (dCons (dOp dAdd (dOp dSub (dVar 1) (dCall bSum (dCons (dVar 5) dNil))) (dC (.int 1))) dNil))) (dgName 6) dYes (dOp dAdd (dVar 5) (dTup (dCons (dVar 6) dNil))) [6])) (dgName 4)))
  (dAsg (dVar 4) (dgName 2)))))
  (dRet (dLc (diLst (dVar 2)) (dgName 5) (dTest (dOp dEq (dCall bSum (dCons (dVar 5) dNil)) (dVar 1))) (dVar 5) [5]))))
theorem limL_le {W : Int} (hW : W ≤ 20) {k : Nat} {h : List Int} (hh : h ∈ heads (limL W) k) : (limL W h).toNat ≤ 20 := by
  have h2 := pos_sum (heads_pos hh)
  unfold limL
  omega
theorem headsL_sum {W : Int} (hW : 0 ≤ W) {k : Nat} {h : List Int} (hh : h ∈ heads (limL W) k) : h.sum ≤ W := by
  cases k with
  | zero =>
    have : h = [] := by simpa [heads] using hh
    subst this
    simpa using hW
  | succ k =>
    simp only [heads, List.mem_flatMap, List.mem_map] at hh
    obtain ⟨g, hg, i, hi, rfl⟩ := hh
    have h2 := (mem_rng1.mp hi).2
    simp only [List.sum_append, List.sum_cons, List.sum_nil]
    unfold limL at h2
    omega
theorem flatL_len {W : Int} {l : List (List Int)} (h : ∀ h ∈ l, (limL W h).toNat ≤ 20) : (l.flatMap fun h => (rng1 (limL W h)).map fun i => h ++ [i]).length ≤ l.length * 20 := by
  induction l with
  | nil => simp
  | cons a l ih =>
    have h1 := ih fun x hx => h x (List.mem_cons_of_mem _ hx)
    have h2 := h a (by simp)
    simp only [List.flatMap_cons, List.length_append, List.length_map, rng1_len, List.length_cons]
    omega
theorem headsL_num {W : Int} (hW : W ≤ 20) (k : Nat) : (heads (limL W) k).length ≤ 20 ^ k := heads_num (fun k h hh => limL_le hW hh) k
theorem rd_law_every (ds : List D) (μ : Mu) (Q : DQ) (E) (h : sp_law_every ds μ Q E) : t_law_every { nx := fun _ μ' => Q .non μ', rt := Q } (ds.map some ++ List.replicate (7 - ds.length) none) μ := by
  obtain ⟨n, W, rfl, hn5, hW0, hW, q⟩ := h
  have hp : ∀ k, k ≤ n → 20 ^ k ≤ 20 ^ 5 := fun k hk => Nat.pow_le_pow_right (by decide) (by omega)
  unfold t_law_every
  simp only [dRaise, dCallX, dRet, dRetN, dSeq, dNext, dDrop, dIfS, dNever, dAsg, dPar, dPar3, dgName, dgTup, dgLst, dgNil, dgCons, dgSub, dOp, dTest, dChain, dVar, dFrz, dC, dAdd, dSub, dMulT, dDiv, dMod, dPow, dLt, dLe, dGt, dGe, dInt0, dInt2, dEq, dNe, dIn, dNotIn, dIsN, dNotN, dAnd, dOr, dNot, dAndV, dOrV, dNotV, dIf, dNil, dCons, dTup, dLst, dLstM, dIx, dSlice, dNo, dPart, dCall, dCallF, bAbs, bLen, bSum, bAll, bAny, bInt, bStr, bTup, bLst, bIsi, dLc_eq, dFor_eq, dWhile_eq, diLst, diTup, diRng1, diRng2, diZip2, diZip3, diEnum, diSeq, dYes, dAppend, dRepL, dJoin, dSplit, List.getElem?_cons_zero, List.getElem?_cons_succ, List.set_cons_zero, List.set_cons_succ, List.map_cons, List.map_nil, List.cons_append, List.nil_append, List.replicate, List.length_cons, List.length_nil, dwipe, atI_0, atI_1, ex_some]
  refine ⟨by decide, by decide, by omega, by omega, ?_⟩
  refine ForB.inv (List.range ((n : Nat) : Int).toNat) (fun (i : Nat) => D.int (0 + (i : Int))) (fun pre ρ m => (∃ o3 o4 o5 o6, ρ = [some (.int n), some (.int W), some (dlW (heads (limL W) pre.length)), o3, o4, o5, o6]) ∧ m = μ) rfl ⟨⟨_, _, _, _, rfl⟩, rfl⟩ ?_ ?_
  · rintro pre a post ρ m he ⟨⟨o3, o4, o5, o6, rfl⟩, rfl⟩
    have hk : pre.length + 1 ≤ n := by
      have := congrArg List.length he
      simp only [List.length_range, List.length_append, List.length_cons] at this
      omega
    simp only [dRaise, dCallX, dRet, dRetN, dSeq, dNext, dDrop, dIfS, dNever, dAsg, dPar, dPar3, dgName, dgTup, dgLst, dgNil, dgCons, dgSub, dOp, dTest, dChain, dVar, dFrz, dC, dAdd, dSub, dMulT, dDiv, dMod, dPow, dLt, dLe, dGt, dGe, dInt0, dInt2, dEq, dNe, dIn, dNotIn, dIsN, dNotN, dAnd, dOr, dNot, dAndV, dOrV, dNotV, dIf, dNil, dCons, dTup, dLst, dLstM, dIx, dSlice, dNo, dPart, dCall, dCallF, bAbs, bLen, bSum, bAll, bAny, bInt, bStr, bTup, bLst, bIsi, dLc_eq, dFor_eq, dWhile_eq, diLst, diTup, diRng1, diRng2, diZip2, diZip3, diEnum, diSeq, dYes, dAppend, dRepL, dJoin, dSplit, List.getElem?_cons_zero, List.getElem?_cons_succ, List.set_cons_zero, List.set_cons_succ, List.map_cons, List.map_nil, List.cons_append, List.nil_append, List.replicate, List.length_cons, List.length_nil, dwipe, atI_0, atI_1, ex_some, dlW]
    refine ⟨by decide, ?_⟩
    refine ForB.inv (heads (limL W) pre.length) tupW (fun p2 ρ m' => (∃ o3 o5 o6, ρ = [some (.int n), some (.int W), some (dlW (heads (limL W) pre.length)), o3, some (dlW (p2.flatMap fun h => (rng1 (limL W h)).map fun i => h ++ [i])), o5, o6]) ∧ m' = m) rfl ⟨⟨_, _, _, rfl⟩, rfl⟩ ?_ ?_
    · rintro p2 hd po2 ρ m' he2 ⟨⟨o3, o5, o6, rfl⟩, rfl⟩
      have hm : hd ∈ heads (limL W) pre.length := by rw [he2]; simp
      have hlen := heads_len hm
      have hnum := headsL_num hW pre.length
      have hlim := limL_le hW hm
      have hsum := headsL_sum hW0 hm
      have h20 := hp (pre.length + 1) hk
      rw [Nat.pow_succ] at h20
      have hp2 : (p2.flatMap fun h => (rng1 (limL W h)).map fun i => h ++ [i]).length ≤ p2.length * 20 := flatL_len fun h hh => limL_le hW (k := pre.length) (by rw [he2]; simp [hh])
      have hp2l : p2.length + 1 ≤ (heads (limL W) pre.length).length := by rw [he2]; simp
      have elim : W - hd.sum = limL W hd := rfl
      have hlo : 0 ≤ limL W hd := by rw [← elim]; omega
      simp only [dRaise, dCallX, dRet, dRetN, dSeq, dNext, dDrop, dIfS, dNever, dAsg, dPar, dPar3, dgName, dgTup, dgLst, dgNil, dgCons, dgSub, dOp, dTest, dChain, dVar, dFrz, dC, dAdd, dSub, dMulT, dDiv, dMod, dPow, dLt, dLe, dGt, dGe, dInt0, dInt2, dEq, dNe, dIn, dNotIn, dIsN, dNotN, dAnd, dOr, dNot, dAndV, dOrV, dNotV, dIf, dNil, dCons, dTup, dLst, dLstM, dIx, dSlice, dNo, dPart, dCall, dCallF, bAbs, bLen, bSum, bAll, bAny, bInt, bStr, bTup, bLst, bIsi, dLc_eq, dFor_eq, dWhile_eq, diLst, diTup, diRng1, diRng2, diZip2, diZip3, diEnum, diSeq, dYes, dAppend, dRepL, dJoin, dSplit, List.getElem?_cons_zero, List.getElem?_cons_succ, List.set_cons_zero, List.set_cons_succ, List.map_cons, List.map_nil, List.cons_append, List.nil_append, List.replicate, List.length_cons, List.length_nil, dwipe, atI_0, atI_1, ex_some, tupW, dlW]
      refine ⟨hd, rfl, ?_⟩
      rw [elim]
      refine ⟨⟨by omega, by omega, by omega, by omega⟩, ?_⟩
      rw [show (limL W hd + 1 - 1).toNat = (limL W hd).toNat from by omega]
      refine LcB.mp (rng1 (limL W hd)) D.int (fun i => tupW (hd ++ [i])) ?_ ?_ ?_ ?_
      · unfold rng1 rngD
        rw [List.map_map]
        rfl
      · rw [rng1_len]
        exact Nat.le_trans hlim (by decide)
      · intro i hi R hR
        simp only [dRaise, dCallX, dRet, dRetN, dSeq, dNext, dDrop, dIfS, dNever, dAsg, dPar, dPar3, dgName, dgTup, dgLst, dgNil, dgCons, dgSub, dOp, dTest, dChain, dVar, dFrz, dC, dAdd, dSub, dMulT, dDiv, dMod, dPow, dLt, dLe, dGt, dGe, dInt0, dInt2, dEq, dNe, dIn, dNotIn, dIsN, dNotN, dAnd, dOr, dNot, dAndV, dOrV, dNotV, dIf, dNil, dCons, dTup, dLst, dLstM, dIx, dSlice, dNo, dPart, dCall, dCallF, bAbs, bLen, bSum, bAll, bAny, bInt, bStr, bTup, bLst, bIsi, dLc_eq, dFor_eq, dWhile_eq, diLst, diTup, diRng1, diRng2, diZip2, diZip3, diEnum, diSeq, dYes, dAppend, dRepL, dJoin, dSplit, List.getElem?_cons_zero, List.getElem?_cons_succ, List.set_cons_zero, List.set_cons_succ, List.map_cons, List.map_nil, List.cons_append, List.nil_append, List.replicate, List.length_cons, List.length_nil, dwipe, atI_0, atI_1, ex_some, tupW_snoc]
        refine ⟨by decide, ?_, hR⟩
        simp [wL, hlen]
        rw [sizeLine_eq]
        omega
      · refine ⟨?_, ⟨o3, some (.tup (wL hd)), o6, ?_⟩, rfl⟩
        · simp only [List.length_map, rng1_len]
          rw [sizeLine_eq]
          omega
        · simp [dlW, List.flatMap_append, Function.comp_def]
    · rintro ρ m' ⟨⟨o3, o5, o6, rfl⟩, rfl⟩
      simp only [dRaise, dCallX, dRet, dRetN, dSeq, dNext, dDrop, dIfS, dNever, dAsg, dPar, dPar3, dgName, dgTup, dgLst, dgNil, dgCons, dgSub, dOp, dTest, dChain, dVar, dFrz, dC, dAdd, dSub, dMulT, dDiv, dMod, dPow, dLt, dLe, dGt, dGe, dInt0, dInt2, dEq, dNe, dIn, dNotIn, dIsN, dNotN, dAnd, dOr, dNot, dAndV, dOrV, dNotV, dIf, dNil, dCons, dTup, dLst, dLstM, dIx, dSlice, dNo, dPart, dCall, dCallF, bAbs, bLen, bSum, bAll, bAny, bInt, bStr, bTup, bLst, bIsi, dLc_eq, dFor_eq, dWhile_eq, diLst, diTup, diRng1, diRng2, diZip2, diZip3, diEnum, diSeq, dYes, dAppend, dRepL, dJoin, dSplit, List.getElem?_cons_zero, List.getElem?_cons_succ, List.set_cons_zero, List.set_cons_succ, List.map_cons, List.map_nil, List.cons_append, List.nil_append, List.replicate, List.length_cons, List.length_nil, dwipe, atI_0, atI_1, ex_some]
      refine ⟨⟨o3, some (dlW ((heads (limL W) pre.length).flatMap fun h => (rng1 (limL W h)).map fun i => h ++ [i])), o5, o6, ?_⟩, trivial⟩
      rw [List.length_append]
      rfl
  · rintro ρ m ⟨⟨o3, o4, o5, o6, rfl⟩, rfl⟩
    simp only [dRaise, dCallX, dRet, dRetN, dSeq, dNext, dDrop, dIfS, dNever, dAsg, dPar, dPar3, dgName, dgTup, dgLst, dgNil, dgCons, dgSub, dOp, dTest, dChain, dVar, dFrz, dC, dAdd, dSub, dMulT, dDiv, dMod, dPow, dLt, dLe, dGt, dGe, dInt0, dInt2, dEq, dNe, dIn, dNotIn, dIsN, dNotN, dAnd, dOr, dNot, dAndV, dOrV, dNotV, dIf, dNil, dCons, dTup, dLst, dLstM, dIx, dSlice, dNo, dPart, dCall, dCallF, bAbs, bLen, bSum, bAll, bAny, bInt, bStr, bTup, bLst, bIsi, dLc_eq, dFor_eq, dWhile_eq, diLst, diTup, diRng1, diRng2, diZip2, diZip3, diEnum, diSeq, dYes, dAppend, dRepL, dJoin, dSplit, List.getElem?_cons_zero, List.getElem?_cons_succ, List.set_cons_zero, List.set_cons_succ, List.map_cons, List.map_nil, List.cons_append, List.nil_append, List.replicate, List.length_cons, List.length_nil, dwipe, atI_0, atI_1, ex_some, dlW]
    have el : ((n : Nat) : Int).toNat = n := by omega
    rw [List.length_range, el]
    refine LcB.fm (heads (limL W) n) tupW (fun h => if decide (h.sum = W) = true then some (tupW h) else none) rfl ?_ ?_ ?_
    · refine Nat.le_trans (headsL_num hW n) (Nat.le_trans (hp n (Nat.le_refl _)) (by decide))
    · intro hd hm R hR
      simp only [dRaise, dCallX, dRet, dRetN, dSeq, dNext, dDrop, dIfS, dNever, dAsg, dPar, dPar3, dgName, dgTup, dgLst, dgNil, dgCons, dgSub, dOp, dTest, dChain, dVar, dFrz, dC, dAdd, dSub, dMulT, dDiv, dMod, dPow, dLt, dLe, dGt, dGe, dInt0, dInt2, dEq, dNe, dIn, dNotIn, dIsN, dNotN, dAnd, dOr, dNot, dAndV, dOrV, dNotV, dIf, dNil, dCons, dTup, dLst, dLstM, dIx, dSlice, dNo, dPart, dCall, dCallF, bAbs, bLen, bSum, bAll, bAny, bInt, bStr, bTup, bLst, bIsi, dLc_eq, dFor_eq, dWhile_eq, diLst, diTup, diRng1, diRng2, diZip2, diZip3, diEnum, diSeq, dYes, dAppend, dRepL, dJoin, dSplit, List.getElem?_cons_zero, List.getElem?_cons_succ, List.set_cons_zero, List.set_cons_succ, List.map_cons, List.map_nil, List.cons_append, List.nil_append, List.replicate, List.length_cons, List.length_nil, dwipe, atI_0, atI_1, ex_some, tupW]
      refine ⟨hd, rfl, ?_⟩
      simp only [shp_int, eqD_int, true_and]
      by_cases hc : hd.sum = W
      · rw [decide_eq_true hc] at hR ⊢
        exact hR
      · rw [decide_eq_false hc] at hR ⊢
        exact hR
    · rw [filt_some]
      exact q
theorem ok_law_every (d : Dn K mg "_law_every" s_law_every) (b_range : mg "range" = none) (b_sum : mg "sum" = none) : Dk P w K mg base "_law_every" 1 ["_law_many", "_law_whole"] sp_law_every :=
  Dk.of d sc_law_every ln_law_every (fun _ _ _ _ _ _ us hl => match us, hl with | [_, _], _ => rfl) t_law_every (fun F0 f cdv A outer s H E hr => by
    have nd := sc_law_every.nd
    exact (ds_cons (ds_set (i := 2) nd rfl (Or.inl rfl) (d_lst (da_cons (d_tup da_nil) da_nil)))
      (ds_cons (ds_for (vs := [3]) PassesOwn.never rfl (di_rng1 (by rfl) b_range (da_cons (dv 0) da_nil)) (dg_name (i := 3) nd rfl (Or.inl rfl) (by decide)) (ds_cons (ds_set (i := 4) nd rfl (Or.inl rfl) (d_lst da_nil))
      (ds_cons (ds_for (vs := [5]) PassesOwn.never rfl (di_lst (dv 2)) (dg_name (i := 5) nd rfl (Or.inr rfl) (by decide)) (ds_one (ds_set (i := 4) nd rfl (Or.inl rfl) (d_add (dv 4) (d_lc (own := [("_law_one", 6)]) rfl nd (di_rng2 (by rfl) b_range (da_cons d_int (da_cons (d_add (d_sub (dv 1) (d_callB ((cr_sum rfl).or (cr_sumT rfl)) lc_sum (by rfl) b_sum bb_sum (da_cons (dv 5) da_nil))) d_int) da_nil))) (blkOk_by (N := ["_law_many", "_law_whole", "_law_found", "_law_outcome", "_law_longer", "_law_head", "_law_one"]) (sc := defScope s_law_every) (own := [("_law_one", 6)]) (by decide +kernel)) (fun _ _ _ _ _ => (dg_name (i := 6) nd rfl (Or.inl rfl) (by decide))) (fun _ _ _ _ _ => dp_nil) (fun _ _ _ _ _ => (d_add (dv 5) (d_tup (da_cons (dv 6) da_nil)))))))))
      (ds_one (ds_set (i := 2) nd rfl (Or.inl rfl) (dv 4))))))
      (ds_one (ds_ret (d_lc (own := [("_law_head", 5)]) rfl nd (di_lst (dv 2)) (blkOk_by (N := ["_law_many", "_law_whole", "_law_found", "_law_outcome", "_law_longer", "_law_head", "_law_one"]) (sc := defScope s_law_every) (own := [("_law_head", 5)]) (by decide +kernel)) (fun _ _ _ _ _ => (dg_name (i := 5) nd rfl (Or.inl rfl) (by decide))) (fun _ _ _ _ _ => (dp_one (d_eqT (hu64 hr) (d_callB ((cr_sum rfl).or (cr_sumT rfl)) lc_sum (by rfl) b_sum bb_sum (da_cons (dv 5) da_nil)) (dv 1)))) (fun _ _ _ _ _ => (dv 5)))))))) rd_law_every
end
end GS

-- text W7
set_option Elab.async false
set_option linter.all false
set_option maxRecDepth 100000
set_option maxHeartbeats 4000000
namespace GS
open PySem PySem.Spec PyProof.Rows L2 DL
section
variable {P : Program} {w : World} {K : Fg} {mg : Str → Option Value} {base : Heap} {C : Str → Addr}
/-! ### _law_rate -/
def sp_law_rate : DSp := fun ds μ Q _ => ∃ (ws : List Int) (os : List Rat), ds = [.tup (wL ws), .tup (fL os)] ∧ LG ws os ∧ ∀ r, RateOK ws.sum r (ws.zip os) → r.num ≤ 10 ^ 18 → (r.den : Int) ≤ 10 ^ 18 → Q (fr r) μ
theorem ln_law_rate (ds : List D) (μ Q E) (h : sp_law_rate ds μ Q E) : ds.length = 2 := by
  obtain ⟨ws, os, rfl, _⟩ := h
  rfl
abbrev s_law_rate : Stmt := top 54
theorem sc_law_rate : FnScope ["_law_weights", "_law_odds", "_law_whole", "_law_low_here", "_law_part", "_law_below", "_law_weight", "_law_one", "_law_other", "_law_good", "_law_mark", "_law_lack", "_law_rest", "_law_at", "_law_more", "_law_due"] ["_law_weights", "_law_odds"] (defScope s_law_rate) := ⟨rfl, rfl, rfl, by decide +kernel, rfl, by decide +kernel, by decide +kernel⟩
def t_law_rate : DS := (dSeq (dAsg (dTup (dCons (dCall bSum (dCons (dVar 0) dNil)) (dCons (dTup (dCons (dC (.int 0)) (dCons (dC (.int 1)) dNil))) dNil))) (dgTup (dgCons (dgName 2) (dgCons (dgName 3) dgNil))))
  (dSeq (dAsg (dTup (dCons (dC (.int 0)) (dCons (dC (.int 1)) dNil))) (dgTup (dgCons (dgName 4) (dgCons (dgName 5) dgNil))))
  (dSeq (dFor (diZip2 .t .t (dCons (dVar 0) (dCons (dVar 1) dNil))) (dgTup (dgCons (dgName 6) (dgCons (dgTup (dgCons (dgName 7) (dgCons (dgName 8) dgNil))) dgNil))) (dIfS (dTest (dOp dGt (dVar 6) (dC (.int 0)))) (dPar 4 5 (dCons (dOp dAdd (dOp dMulT (dVar 4) (dVar 7)) (dOp dMulT (dVar 8) (dVar 5))) (dCons (dOp dMulT (dVar 5) (dVar 7)) dNil))) dNext))
  (dSeq (dIfS (dTest (dOp dLe (dVar 4) (dVar 5))) (dRet (dTup (dCons (dC (.int 0)) (dCons (dC (.int 1)) dNil)))) dNext)
  (dSeq (dAsg (dLc (diZip2 .t .t (dCons (dVar 0) (dCons (dVar 1) dNil))) (dgTup (dgCons (dgName 6) (dgCons (dgTup (dgCons (dgName 7) (dgCons (dgName 8) dgNil))) dgNil))) dYes (dCallF sp_law_low (dCons (dOp dMulT (dVar 6) (dVar 7)) (dCons (dOp dMulT (dVar 2) (dVar 8)) dNil))) [6, 7, 8]) (dgName 9))
  (dSeq (dFor (diLst (dOp dAdd (dLst (dCons (dTup (dCons (dOp dPow (dC (.int 10)) (dC (.int 9))) (dCons (dC (.int 1)) dNil))) dNil)) (dVar 9))) (dgName 10) (dSeq (dAsg (dTup (dCons (dTup (dCons (dC (.int 1)) (dCons (dC (.int 1)) dNil))) (dCons (dC (.int 0)) dNil))) (dgTup (dgCons (dgName 11) (dgCons (dgName 12) dgNil))))
  (dSeq (dFor (diRng1 (dCons (dCall bLen (dCons (dVar 1) dNil)) dNil)) (dgName 13) (dIfS (dOr (dTest (dOp dGt (dOp dMulT (dOp dIx (dOp dIx (dVar 9) (dVar 13)) (dC (.int 0))) (dOp dIx (dVar 10) (dC (.int 1)))) (dOp dMulT (dOp dIx (dVar 10) (dC (.int 0))) (dOp dIx (dOp dIx (dVar 9) (dVar 13)) (dC (.int 1)))))) (dTest (dOp dEq (dOp dMulT (dOp dIx (dVar 10) (dC (.int 0))) (dOp dIx (dOp dIx (dVar 9) (dVar 13)) (dC (.int 1)))) (dOp dMulT (dOp dIx (dOp dIx (dVar 9) (dVar 13)) (dC (.int 0))) (dOp dIx (dVar 10) (dC (.int 1))))))) (dAsg (dTup (dCons (dOp dSub (dOp dMulT (dOp dIx (dVar 11) (dC (.int 0))) (dOp dIx (dOp dIx (dVar 1) (dVar 13)) (dC (.int 0)))) (dOp dMulT (dOp dIx (dOp dIx (dVar 1) (dVar 13)) (dC (.int 1))) (dOp dIx (dVar 11) (dC (.int 1))))) (dCons (dOp dMulT (dOp dIx (dVar 11) (dC (.int 1))) (dOp dIx (dOp dIx (dVar 1) (dVar 13)) (dC (.int 0)))) dNil))) (dgName 11)) (dAsg (dOp dAdd (dVar 12) (dOp dIx (dVar 0) (dVar 13))) (dgName 12))))
  (dIfS (dAnd (dTest (dOp dGt (dOp dIx (dVar 11) (dC (.int 0))) (dC (.int 0)))) (dTest (dOp dGt (dVar 12) (dC (.int 0))))) (dSeq (dAsg (dCallF sp_law_low (dCons (dOp dMulT (dVar 12) (dOp dIx (dVar 11) (dC (.int 1)))) (dCons (dOp dMulT (dVar 2) (dOp dIx (dVar 11) (dC (.int 0)))) dNil))) (dgName 3))
  (dSeq (dAsg (dLc (diRng1 (dCons (dCall bLen (dCons (dVar 1) dNil)) dNil)) (dgName 13) (dTest (dOp dGt (dOp dMulT (dOp dIx (dOp dIx (dVar 9) (dVar 13)) (dC (.int 0))) (dOp dIx (dVar 3) (dC (.int 1)))) (dOp dMulT (dOp dIx (dVar 3) (dC (.int 0))) (dOp dIx (dOp dIx (dVar 9) (dVar 13)) (dC (.int 1)))))) (dVar 13) [13]) (dgName 14))
  (dSeq (dAsg (dLc (diRng1 (dCons (dCall bLen (dCons (dVar 1) dNil)) dNil)) (dgName 13) (dTest (dOp dGe (dOp dMulT (dOp dIx (dOp dIx (dVar 9) (dVar 13)) (dC (.int 0))) (dOp dIx (dVar 10) (dC (.int 1)))) (dOp dMulT (dOp dIx (dVar 10) (dC (.int 0))) (dOp dIx (dOp dIx (dVar 9) (dVar 13)) (dC (.int 1)))))) (dVar 13) [13]) (dgName 15))
  (dIfS (dTest (dOp dEq (dVar 14) (dVar 15))) (dRet (dVar 3)) dNext)))) dNext))))
  (dRet (dC .non))))))))
theorem zip_bz {ws : List Int} {os : List Rat} (g : LG ws os) {q : Int × Rat} (hq : q ∈ ws.zip os) : q.1.natAbs < 2 ^ 5 ∧ q.2.num.natAbs < 2 ^ 10 ∧ (q.2.den : Int).natAbs < 2 ^ 10 ∧ ws.sum.natAbs < 2 ^ 7 := by
  have t := g.two
  have h1 := t.w20 q hq
  have h2 := t.ob q hq
  have h3 := t.s0
  have h4 := t.s1
  omega
theorem good_frac {W : Int} (hW : 0 < W) (q : Int × Rat) : ((q.1 * q.2.num : Int) : Rat) / ((W * q.2.den : Int) : Rat) = good W q := by
  have h1 := rat_eq q.2
  have p1 := denQ_pos q.2
  have p2 := castQ_pos hW
  unfold good
  generalize q.2.num = a at *
  generalize (q.2.den : Int) = b at *
  rw [h1]
  push_cast
  grind
theorem inv_frac {o : Rat} (h : 0 < o) : (1 : Rat) / o = ((o.den : Int) : Rat) / (o.num : Rat) := by
  have h1 := rat_eq o
  have p1 := denQ_pos o
  have p2 := castQ_pos (num_pos h)
  generalize o.num = a at *
  generalize (o.den : Int) = b at *
  subst h1
  simp only [Rat.div_def]
  rw [Rat.inv_mul_rev, Rat.inv_inv]
  grind
theorem good_bz {ws : List Int} {os : List Rat} (g : LG ws os) {q : Int × Rat} (hq : q ∈ ws.zip os) : Bz 40 (good ws.sum q) := by
  obtain ⟨z1, z2, z3, z4⟩ := zip_bz g hq
  rw [← good_frac g.two.s0]
  exact .frac (Int.mul_pos g.two.s0 (den_pos _)) (int_lt_mono (int_mul_lt z1 z2) (by decide)) (int_lt_mono (int_mul_lt z4 z3) (by decide))
theorem pow_1000 {k : Nat} (h : k ≤ 5) : (1000 : Int) ^ k ≤ 1000000000000000 := by
  have : (1000 : Int) ^ k ≤ 1000 ^ 5 := by
    rcases k with _ | _ | _ | _ | _ | _ | k
    all_goals first | decide | omega
  exact Int.le_trans this (by decide)
/-- one mark, line by line -/
theorem mark_step {ws : List Int} {os : List Rat} (g : LG ws os) (mk : Rat) (bk : Bz 40 mk) {D0 : DEnds} {μ : Mu} {o3 o4 o5 o6 o7 o8 o13 o14 o15 : Option D}
    (hend : ∀ (l0 l1 rest : Int) (o13 : Option D), 0 < l1 → l1 ≤ 1000 ^ os.length → l0 ≤ l1 → l0.natAbs < 2 ^ 60 → (l0 : Rat) / (l1 : Rat) = lackR ws.sum mk (ws.zip os) → rest = restI ws.sum mk (ws.zip os) →
      D0.nx [some (.tup (wL ws)), some (.tup (fL os)), some (.int ws.sum), o3, o4, o5, o6, o7, o8, some (.lst (fL ((ws.zip os).map (good ws.sum)))), some (fr mk), some (.tup [.int l0, .int l1]), some (.int rest), o13, o14, o15] μ) :
    ForB (dgName 13) (dIfS (dOr (dTest (dOp dGt (dOp dMulT (dOp dIx (dOp dIx (dVar 9) (dVar 13)) (dC (.int 0))) (dOp dIx (dVar 10) (dC (.int 1)))) (dOp dMulT (dOp dIx (dVar 10) (dC (.int 0))) (dOp dIx (dOp dIx (dVar 9) (dVar 13)) (dC (.int 1)))))) (dTest (dOp dEq (dOp dMulT (dOp dIx (dVar 10) (dC (.int 0))) (dOp dIx (dOp dIx (dVar 9) (dVar 13)) (dC (.int 1)))) (dOp dMulT (dOp dIx (dOp dIx (dVar 9) (dVar 13)) (dC (.int 0))) (dOp dIx (dVar 10) (dC (.int 1))))))) (dAsg (dTup (dCons (dOp dSub (dOp dMulT (dOp dIx (dVar 11) (dC (.int 0))) (dOp dIx (dOp dIx (dVar 1) (dVar 13)) (dC (.int 0)))) (dOp dMulT (dOp dIx (dOp dIx (dVar 1) (dVar 13)) (dC (.int 1))) (dOp dIx (dVar 11) (dC (.int 1))))) (dCons (dOp dMulT (dOp dIx (dVar 11) (dC (.int 1))) (dOp dIx (dOp dIx (dVar 1) (dVar 13)) (dC (.int 0)))) dNil))) (dgName 11)) (dAsg (dOp dAdd (dVar 12) (dOp dIx (dVar 0) (dVar 13))) (dgName 12)))
      D0 [some (.tup (wL ws)), some (.tup (fL os)), some (.int ws.sum), o3, o4, o5, o6, o7, o8, some (.lst (fL ((ws.zip os).map (good ws.sum)))), some (fr mk), some (.tup [.int 1, .int 1]), some (.int 0), o13, o14, o15] (rngD 0 ((os.length : Nat) : Int).toNat) μ := by
  have t := g.two
  have l5 := g.l5
  refine ForB.inv (List.range ((os.length : Nat) : Int).toNat) (fun (i : Nat) => D.int (0 + (i : Int))) (fun pre ρ m => (∃ (l0 l1 rest : Int) (o13 : Option D), ρ = [some (.tup (wL ws)), some (.tup (fL os)), some (.int ws.sum), o3, o4, o5, o6, o7, o8, some (.lst (fL ((ws.zip os).map (good ws.sum)))), some (fr mk), some (.tup [.int l0, .int l1]), some (.int rest), o13, o14, o15] ∧
    0 < l1 ∧ l1 ≤ 1000 ^ pre.length ∧ l1.natAbs < 2 ^ (10 * pre.length + 1) ∧ l0 ≤ l1 ∧ l0.natAbs < 2 ^ (11 * pre.length + 1) ∧ (l0 : Rat) / (l1 : Rat) = lackR ws.sum mk ((ws.zip os).take pre.length) ∧ rest = restI ws.sum mk ((ws.zip os).take pre.length)) ∧ m = μ) rfl
    ⟨⟨1, 1, 0, _, rfl, by decide, by decide, by decide, by decide, by decide, by simp [lackR, cutR, Rat.div_def, Rat.sub_eq_add_neg]; grind, by simp [restI]⟩, rfl⟩ ?_ ?_
  · rintro pre i post ρ m he ⟨⟨l0, l1, rest, o13, rfl, h1, h2, h3, h4, h5, h6, h7⟩, rfl⟩
    have hi : pre.length = i ∧ i < os.length := by
      have h1 := congrArg List.length he
      simp only [List.length_range, List.length_append, List.length_cons] at h1
      have h2 : (List.range ((os.length : Nat) : Int).toNat)[pre.length]? = some i := by rw [he]; simp
      rw [List.getElem?_range (by omega)] at h2
      have : pre.length = i := by simpa using h2
      omega
    obtain ⟨hpi, hio⟩ := hi
    subst hpi
    have hiz : pre.length < (ws.zip os).length := by rw [t.ln]; exact hio
    have hiw : pre.length < ws.length := by rw [g.len]; exact hio
    generalize hq : (ws.zip os)[pre.length] = q
    have hmem : q ∈ ws.zip os := by rw [← hq]; exact List.getElem_mem _
    have hq1 : ws[pre.length] = q.1 := by rw [← hq]; simp
    have hq2 : os[pre.length] = q.2 := by rw [← hq]; simp
    obtain ⟨z1, z2, z3, z4⟩ := zip_bz g hmem
    have gz := good_bz g hmem
    have gd : ((good ws.sum q).den : Int).natAbs < 2 ^ 40 := by exact_mod_cast gz.d
    have kd : (mk.den : Int).natAbs < 2 ^ 40 := by exact_mod_cast bk.d
    have op := t.op q hmem
    have ob := t.ob q hmem
    have w20 := t.w20 q hmem
    have a1 : atI (fL ((ws.zip os).map (good ws.sum))) (0 + (pre.length : Int)) = some (fr (good ws.sum q)) := by
      rw [Int.zero_add]
      refine atI_get _ _ _ ?_
      simp [fL, List.getElem?_eq_getElem hiz, hq]
    have a2 : atI (fL os) (0 + (pre.length : Int)) = some (fr q.2) := by
      rw [Int.zero_add]
      refine atI_get _ _ _ ?_
      simp [fL, List.getElem?_eq_getElem hio, hq2]
    have a3 : atI (wL ws) (0 + (pre.length : Int)) = some (.int q.1) := by
      rw [Int.zero_add]
      refine atI_get _ _ _ ?_
      simp [wL, List.getElem?_eq_getElem hiw, hq1]
    have etake : (ws.zip os).take (pre ++ [pre.length]).length = (ws.zip os).take pre.length ++ [q] := by
      rw [List.length_append, List.length_singleton, take_snoc hiz, hq]
    show dIfS _ _ _ _ [some (.tup (wL ws)), some (.tup (fL os)), some (.int ws.sum), o3, o4, o5, o6, o7, o8, some (.lst (fL ((ws.zip os).map (good ws.sum)))), some (fr mk), some (.tup [.int l0, .int l1]), some (.int rest), some (.int (0 + (pre.length : Int))), o14, o15] m
    have eg := Ev.ixL (ρ := [some (.tup (wL ws)), some (.tup (fL os)), some (.int ws.sum), o3, o4, o5, o6, o7, o8, some (.lst (fL ((ws.zip os).map (good ws.sum)))), some (fr mk), some (.tup [.int l0, .int l1]), some (.int rest), some (.int (0 + (pre.length : Int))), o14, o15]) (μ := m) (ta := dVar 9) (tb := dVar 13) .var .var a1
    have eo := Ev.ixT (ρ := [some (.tup (wL ws)), some (.tup (fL os)), some (.int ws.sum), o3, o4, o5, o6, o7, o8, some (.lst (fL ((ws.zip os).map (good ws.sum)))), some (fr mk), some (.tup [.int l0, .int l1]), some (.int rest), some (.int (0 + (pre.length : Int))), o14, o15]) (μ := m) (ta := dVar 1) (tb := dVar 13) .var .var a2
    have ew := Ev.ixT (ρ := [some (.tup (wL ws)), some (.tup (fL os)), some (.int ws.sum), o3, o4, o5, o6, o7, o8, some (.lst (fL ((ws.zip os).map (good ws.sum)))), some (fr mk), some (.tup [.int l0, .int l1]), some (.int rest), some (.int (0 + (pre.length : Int))), o14, o15]) (μ := m) (ta := dVar 0) (tb := dVar 13) .var .var a3
    have ek : Ev (dVar 10) [some (.tup (wL ws)), some (.tup (fL os)), some (.int ws.sum), o3, o4, o5, o6, o7, o8, some (.lst (fL ((ws.zip os).map (good ws.sum)))), some (fr mk), some (.tup [.int l0, .int l1]), some (.int rest), some (.int (0 + (pre.length : Int))), o14, o15] m (fr mk) := .var
    have el : Ev (dVar 11) [some (.tup (wL ws)), some (.tup (fL os)), some (.int ws.sum), o3, o4, o5, o6, o7, o8, some (.lst (fL ((ws.zip os).map (good ws.sum)))), some (fr mk), some (.tup [.int l0, .int l1]), some (.int rest), some (.int (0 + (pre.length : Int))), o14, o15] m (.tup [.int l0, .int l1]) := .var
    have e0 := Ev.mul eg.num ek.den (mulW gz.n kd (by decide))
    have e1 := Ev.mul ek.num eg.den (mulW bk.n gd (by decide))
    have lb : l1.natAbs < 2 ^ 60 := int_lt_mono h3 (by omega)
    have lb0 : l0.natAbs < 2 ^ 60 := int_lt_mono h5 (by omega)
    have l0e : Ev (dOp dIx (dVar 11) (dC (.int 0))) _ m (.int l0) := Ev.ixT el .con (atI_0 _ _)
    have l1e : Ev (dOp dIx (dVar 11) (dC (.int 1))) _ m (.int l1) := Ev.ixT el .con (atI_1 _ _ _)
    refine ifS_of (EvT.or (.of (.gt e0 e1)) (.of (.eqI e1 e0))) (fun hc => ?_) (fun hc => ?_)
    · rw [mark_le] at hc
      have hc := of_decide_eq_true hc
      refine asg_of (.tup (.cons (.sub (.mul l0e eo.num (mulW lb0 z2 (by decide))) (.mul eo.den l1e (mulW z3 lb (by decide)))) (.cons (.mul l1e eo.num (mulW lb z2 (by decide))) .nil)) (show 2 ≤ sizeLine by decide)) ?_
      refine ⟨⟨l0 * q.2.num - q.2.den * l1, l1 * q.2.num, rest, _, rfl, Int.mul_pos h1 (num_pos op), ?_, ?_, ?_, ?_, ?_, ?_⟩, rfl⟩
      · rw [List.length_append, List.length_singleton, Int.pow_succ]
        exact Int.mul_le_mul h2 ob.2.1 (by omega) (Int.pow_nonneg (by decide))
      · refine int_lt_mono (int_mul_lt h3 z2) ?_
        simp only [List.length_append, List.length_singleton]
        omega
      · have b1 : l0 * q.2.num ≤ l1 * q.2.num := Int.mul_le_mul_of_nonneg_right h4 (by omega)
        have b2 : 0 ≤ (q.2.den : Int) * l1 := Int.mul_nonneg (by omega) (by omega)
        omega
      · rw [Int.sub_eq_add_neg]
        refine int_lt_mono (int_add_lt (k := 11 * pre.length + 11) (int_lt_mono (int_mul_lt h5 z2) (by omega)) ?_) ?_
        · rw [Int.natAbs_neg]
          exact int_lt_mono (int_mul_lt z3 h3) (by omega)
        · simp only [List.length_append, List.length_singleton]
          omega
      · rw [etake]
        unfold lackR at h6 ⊢
        rw [cutR_append, if_pos hc, inv_frac op]
        have q1 := castQ_pos h1
        have q2 := castQ_pos (num_pos op)
        have q3 := denQ_pos q.2
        generalize cutR ws.sum mk ((ws.zip os).take pre.length) = cc at *
        have : cc = 1 - (l0 : Rat) / (l1 : Rat) := by grind
        rw [this]
        generalize q.2.num = x at *
        generalize (q.2.den : Int) = y at *
        push_cast
        grind
      · rw [etake, restI_append, if_pos hc, h7]
        omega
    · rw [mark_le] at hc
      have hc := of_decide_eq_false hc
      refine asg_of (.add .var ew) ?_
      refine ⟨⟨l0, l1, rest + q.1, _, rfl, h1, ?_, ?_, h4, ?_, ?_, ?_⟩, rfl⟩
      · rw [List.length_append, List.length_singleton, Int.pow_succ]
        omega
      · refine int_lt_mono h3 ?_
        simp only [List.length_append, List.length_singleton]
        omega
      · refine int_lt_mono h5 ?_
        simp only [List.length_append, List.length_singleton]
        omega
      · rw [etake]
        unfold lackR at h6 ⊢
        rw [cutR_append, if_neg hc, h6]
        grind
      · rw [etake, restI_append, if_neg hc, h7]
  · rintro ρ m ⟨⟨l0, l1, rest, o13, rfl, h1, h2, h3, h4, h5, h6, h7⟩, rfl⟩
    have hll : (List.range ((os.length : Nat) : Int).toNat).length = os.length := by simp
    rw [hll] at h2 h5 h6 h7
    rw [List.take_of_length_le (by rw [t.ln]; exact Nat.le_refl _)] at h6 h7
    exact hend l0 l1 rest o13 h1 h2 h4 (int_lt_mono h5 (by omega)) h6 h7
theorem fr_MK : D.tup [.int (10 ^ Int.toNat 9), .int 1] = fr MK := rfl
theorem rd_law_rate (ds : List D) (μ : Mu) (Q : DQ) (E) (h : sp_law_rate ds μ Q E) : t_law_rate { nx := fun _ μ' => Q .non μ', rt := Q } (ds.map some ++ List.replicate (16 - ds.length) none) μ := by
  obtain ⟨ws, os, rfl, g, q⟩ := h
  have t := g.two
  have l5 := g.l5
  unfold t_law_rate
  simp only [dRaise, dCallX, dRet, dRetN, dSeq, dNext, dDrop, dIfS, dNever, dAsg, dPar, dPar3, dgName, dgTup, dgLst, dgNil, dgCons, dgSub, dOp, dTest, dChain, dVar, dFrz, dC, dAdd, dSub, dMulT, dDiv, dMod, dPow, dLt, dLe, dGt, dGe, dInt0, dInt2, dEq, dNe, dIn, dNotIn, dIsN, dNotN, dAnd, dOr, dNot, dAndV, dOrV, dNotV, dIf, dNil, dCons, dTup, dLst, dLstM, dIx, dSlice, dNo, dPart, dCall, dCallF, bAbs, bLen, bSum, bAll, bAny, bInt, bStr, bTup, bLst, bIsi, dLc_eq, dFor_eq, dWhile_eq, diLst, diTup, diRng1, diRng2, diZip2, diZip3, diEnum, diSeq, dYes, dAppend, dRepL, dJoin, dSplit, List.getElem?_cons_zero, List.getElem?_cons_succ, List.set_cons_zero, List.set_cons_succ, List.map_cons, List.map_nil, List.cons_append, List.nil_append, List.replicate, List.length_cons, List.length_nil, dwipe, atI_0, atI_1, ex_some]
  refine ⟨ws, rfl, by decide, by decide, by decide, wL ws, fL os, rfl, by simp [wL, fL, g.len], ?_⟩
  refine ForB.inv (ws.zip os) (fun q => .tup [.int q.1, fr q.2]) (fun pre ρ m => ∃ (p b : Int) (o6 o7 o8 : Option D), ρ = [some (.tup (wL ws)), some (.tup (fL os)), some (.int ws.sum), some (.tup [.int 0, .int 1]), some (.int p), some (.int b), o6, o7, o8, none, none, none, none, none, none, none] ∧ 0 < b ∧ b.natAbs < 2 ^ (10 * pre.length + 1) ∧ p.natAbs < 2 ^ (11 * pre.length + 1) ∧ (p : Rat) / (b : Rat) = (pre.map fun q => 1 / q.2).sum ∧ m = μ) (zip2D_map D.int fr ws os) ⟨0, 1, _, _, _, rfl, by decide, by decide, by decide, by simp [Rat.div_def, Rat.zero_mul], rfl⟩ ?_ ?_
  · rintro pre ⟨w, o⟩ post ρ m he ⟨p, b, o6, o7, o8, rfl, hb, hbz, hpz, hv, rfl⟩
    have hmem : (w, o) ∈ ws.zip os := by rw [he]; simp
    obtain ⟨z1, z2, z3, z4⟩ := zip_bz g hmem
    have hpl : pre.length < 5 := by
      have := congrArg List.length he
      rw [t.ln] at this
      simp only [List.length_append, List.length_cons] at this
      omega
    have hw := t.wp _ hmem
    have op := t.op _ hmem
    simp only at z1 z2 z3 hw op
    simp only [dRaise, dCallX, dRet, dRetN, dSeq, dNext, dDrop, dIfS, dNever, dAsg, dPar, dPar3, dgName, dgTup, dgLst, dgNil, dgCons, dgSub, dOp, dTest, dChain, dVar, dFrz, dC, dAdd, dSub, dMulT, dDiv, dMod, dPow, dLt, dLe, dGt, dGe, dInt0, dInt2, dEq, dNe, dIn, dNotIn, dIsN, dNotN, dAnd, dOr, dNot, dAndV, dOrV, dNotV, dIf, dNil, dCons, dTup, dLst, dLstM, dIx, dSlice, dNo, dPart, dCall, dCallF, bAbs, bLen, bSum, bAll, bAny, bInt, bStr, bTup, bLst, bIsi, dLc_eq, dFor_eq, dWhile_eq, diLst, diTup, diRng1, diRng2, diZip2, diZip3, diEnum, diSeq, dYes, dAppend, dRepL, dJoin, dSplit, List.getElem?_cons_zero, List.getElem?_cons_succ, List.set_cons_zero, List.set_cons_succ, List.map_cons, List.map_nil, List.cons_append, List.nil_append, List.replicate, List.length_cons, List.length_nil, dwipe, atI_0, atI_1, ex_some, fr]
    rw [if_pos (decide_eq_true hw)]
    refine ⟨mulW hpz z2 (by omega), mulW z3 hbz (by omega), mulW hbz z2 (by omega), p * o.num + o.den * b, b * o.num, _, _, _, rfl, Int.mul_pos hb (num_pos op), ?_, ?_, ?_, trivial⟩
    · refine int_lt_mono (int_mul_lt hbz z2) ?_
      simp only [List.length_append, List.length_singleton]
      omega
    · refine int_lt_mono (int_add_lt (k := 11 * pre.length + 11) (int_lt_mono (int_mul_lt hpz z2) (by omega)) (int_lt_mono (int_mul_lt z3 hbz) (by omega))) ?_
      simp only [List.length_append, List.length_singleton]
      omega
    · rw [invsum_append, ← hv]
      simp only
      rw [inv_frac op]
      have q1 := castQ_pos hb
      have q2 := castQ_pos (num_pos op)
      have q3 := denQ_pos o
      generalize o.num = x at *
      generalize (o.den : Int) = y at *
      push_cast
      grind
  · rintro ρ m ⟨p, b, o6, o7, o8, rfl, hb, hbz, hpz, hv, rfl⟩
    simp only [dRaise, dCallX, dRet, dRetN, dSeq, dNext, dDrop, dIfS, dNever, dAsg, dPar, dPar3, dgName, dgTup, dgLst, dgNil, dgCons, dgSub, dOp, dTest, dChain, dVar, dFrz, dC, dAdd, dSub, dMulT, dDiv, dMod, dPow, dLt, dLe, dGt, dGe, dInt0, dInt2, dEq, dNe, dIn, dNotIn, dIsN, dNotN, dAnd, dOr, dNot, dAndV, dOrV, dNotV, dIf, dNil, dCons, dTup, dLst, dLstM, dIx, dSlice, dNo, dPart, dCall, dCallF, bAbs, bLen, bSum, bAll, bAny, bInt, bStr, bTup, bLst, bIsi, dLc_eq, dFor_eq, dWhile_eq, diLst, diTup, diRng1, diRng2, diZip2, diZip3, diEnum, diSeq, dYes, dAppend, dRepL, dJoin, dSplit, List.getElem?_cons_zero, List.getElem?_cons_succ, List.set_cons_zero, List.set_cons_succ, List.map_cons, List.map_nil, List.cons_append, List.nil_append, List.replicate, List.length_cons, List.length_nil, dwipe, atI_0, atI_1, ex_some]
    by_cases hpb : p ≤ b
    · rw [if_pos (decide_eq_true hpb)]
      refine ⟨by decide, q 0 (rate_zero t.s0 t.wp t.op ?_) (by decide) (by decide)⟩
      rw [← hv]
      have q1 := castQ_pos hb
      have q2 := (Rat.intCast_le_intCast (a := p) (b := b)).mpr hpb
      refine Rat.not_lt.mp fun z => ?_
      rw [Rat.lt_div_iff q1] at z
      grind
    · rw [if_neg (by rw [decide_eq_false hpb]; decide)]
      have hmore : 1 < ((ws.zip os).map fun q => 1 / q.2).sum := by
        rw [← hv]
        have q1 := castQ_pos hb
        have q2 := (Rat.intCast_lt_intCast (a := b) (b := p)).mpr (by omega)
        rw [Rat.lt_div_iff q1]
        grind
      obtain ⟨mq, hmq, hqual⟩ := qual_ex t hmore
      refine ⟨wL ws, fL os, rfl, by simp [wL, fL, g.len], ?_⟩
      refine LcB.mp (ws.zip os) (fun q => .tup [.int q.1, fr q.2]) (fun q => fr (good ws.sum q)) (zip2D_map D.int fr ws os) (by rw [t.ln, sizeLine_eq]; omega) ?_ ?_
      · rintro ⟨w, o⟩ hmem R hR
        obtain ⟨z1, z2, z3, z4⟩ := zip_bz g hmem
        simp only at z1 z2 z3
        simp only [dRaise, dCallX, dRet, dRetN, dSeq, dNext, dDrop, dIfS, dNever, dAsg, dPar, dPar3, dgName, dgTup, dgLst, dgNil, dgCons, dgSub, dOp, dTest, dChain, dVar, dFrz, dC, dAdd, dSub, dMulT, dDiv, dMod, dPow, dLt, dLe, dGt, dGe, dInt0, dInt2, dEq, dNe, dIn, dNotIn, dIsN, dNotN, dAnd, dOr, dNot, dAndV, dOrV, dNotV, dIf, dNil, dCons, dTup, dLst, dLstM, dIx, dSlice, dNo, dPart, dCall, dCallF, bAbs, bLen, bSum, bAll, bAny, bInt, bStr, bTup, bLst, bIsi, dLc_eq, dFor_eq, dWhile_eq, diLst, diTup, diRng1, diRng2, diZip2, diZip3, diEnum, diSeq, dYes, dAppend, dRepL, dJoin, dSplit, List.getElem?_cons_zero, List.getElem?_cons_succ, List.set_cons_zero, List.set_cons_succ, List.map_cons, List.map_nil, List.cons_append, List.nil_append, List.replicate, List.length_cons, List.length_nil, dwipe, atI_0, atI_1, ex_some, fr]
        refine ⟨mulW z1 z2 (by decide), mulW z4 z3 (by decide), w * o.num, ws.sum * o.den, 40, rfl, Int.mul_pos t.s0 (den_pos o), int_lt_mono (int_mul_lt z4 z3) (by decide), by decide, ?_⟩
        have := good_frac t.s0 (w, o)
        simp only at this
        rw [this]
        exact hR
      · have egl : (ws.zip os).map (fun q => fr (good ws.sum q)) = fL ((ws.zip os).map (good ws.sum)) := by simp [fL]
        rw [egl]
        refine ⟨⟨by decide, by decide, by decide⟩, by decide, by decide, ?_, ?_⟩
        · simp only [fL, List.length_map, t.ln, List.length_cons, List.length_nil]
          rw [sizeLine_eq]
          omega
        · show ForB _ _ _ _ ([D.tup [.int (10 ^ Int.toNat 9), .int 1]] ++ fL ((ws.zip os).map (good ws.sum))) _
          rw [fr_MK]
          refine ForB.inv (MK :: (ws.zip os).map (good ws.sum)) fr (fun pre ρ m' => (∃ o3 o6 o7 o8 o10 o11 o12 o13 o14 o15 : Option D, ρ = [some (.tup (wL ws)), some (.tup (fL os)), some (.int ws.sum), o3, some (.int p), some (.int b), o6, o7, o8, some (.lst (fL ((ws.zip os).map (good ws.sum)))), o10, o11, o12, o13, o14, o15]) ∧ (∀ mk ∈ pre, ¬ Qual ws.sum mk (ws.zip os)) ∧ m' = m) rfl ⟨⟨_, _, _, _, _, _, _, _, _, _, rfl⟩, by simp, rfl⟩ ?_ ?_
          · rintro pre mk post ρ m' he ⟨⟨o3, o6, o7, o8, o10, o11, o12, o13, o14, o15, rfl⟩, hnq, rfl⟩
            have hmk : mk ∈ MK :: (ws.zip os).map (good ws.sum) := by rw [he]; simp
            have bk : Bz 40 mk := by
              rcases List.mem_cons.mp hmk with rfl | hmk
              · exact ⟨by decide, by decide⟩
              · obtain ⟨q, hq, rfl⟩ := List.mem_map.mp hmk
                exact good_bz g hq
            have kd : (mk.den : Int).natAbs < 2 ^ 40 := by exact_mod_cast bk.d
            have hgo : ∀ Y : Prop, Y → Y := fun _ y => y
            simp only [dgName, dSeq, dAsg, dTup, dCons, dNil, dC, dgTup, dgCons, dgNil, dFor_eq, diRng1, dCall, bLen, dVar, List.getElem?_cons_zero, List.getElem?_cons_succ, List.set_cons_zero, List.set_cons_succ, List.length_cons, List.length_nil]
            refine ⟨by decide, by decide, ?_⟩
            have elen : (fL os).length = os.length := by simp [fL]
            rw [elen]
            refine ⟨by omega, by omega, ?_⟩
            refine mark_step g mk bk ?_
            intro l0 l1 rest o13 hl1 hl1b hl0 hl0z hlack hrest
            have p1000 := pow_1000 l5
            have hr20 := restI_le (W := ws.sum) (m := mk) t.w20
            rw [t.ln] at hr20
            have q1 := castQ_pos hl1
            simp only [dRaise, dCallX, dRet, dRetN, dSeq, dNext, dDrop, dIfS, dNever, dAsg, dPar, dPar3, dgName, dgTup, dgLst, dgNil, dgCons, dgSub, dOp, dTest, dChain, dVar, dFrz, dC, dAdd, dSub, dMulT, dDiv, dMod, dPow, dLt, dLe, dGt, dGe, dInt0, dInt2, dEq, dNe, dIn, dNotIn, dIsN, dNotN, dAnd, dOr, dNot, dAndV, dOrV, dNotV, dIf, dNil, dCons, dTup, dLst, dLstM, dIx, dSlice, dNo, dPart, dCall, dCallF, bAbs, bLen, bSum, bAll, bAny, bInt, bStr, bTup, bLst, bIsi, dLc_eq, dFor_eq, dWhile_eq, diLst, diTup, diRng1, diRng2, diZip2, diZip3, diEnum, diSeq, dYes, dAppend, dRepL, dJoin, dSplit, List.getElem?_cons_zero, List.getElem?_cons_succ, List.set_cons_zero, List.set_cons_succ, List.map_cons, List.map_nil, List.cons_append, List.nil_append, List.replicate, List.length_cons, List.length_nil, dwipe, atI_0, atI_1, ex_some]
            have next : ∀ (o3 o14 o15 : Option D), ¬ Qual ws.sum mk (ws.zip os) → (∃ o3' o6' o7' o8' o10' o11' o12' o13' o14' o15' : Option D, [some (.tup (wL ws)), some (.tup (fL os)), some (.int ws.sum), o3, some (.int p), some (.int b), o6, o7, o8, some (.lst (fL ((ws.zip os).map (good ws.sum)))), some (fr mk), some (.tup [.int l0, .int l1]), some (.int rest), o13, o14, o15] = [some (.tup (wL ws)), some (.tup (fL os)), some (.int ws.sum), o3', some (.int p), some (.int b), o6', o7', o8', some (.lst (fL ((ws.zip os).map (good ws.sum)))), o10', o11', o12', o13', o14', o15']) ∧ (∀ mk' ∈ pre ++ [mk], ¬ Qual ws.sum mk' (ws.zip os)) ∧ m' = m' := by
              intro o3 o14 o15 hn
              refine ⟨⟨_, _, _, _, _, _, _, _, _, _, rfl⟩, fun mk' hm => ?_, rfl⟩
              rcases List.mem_append.mp hm with hm | hm
              · exact hnq mk' hm
              · have : mk' = mk := by simpa using hm
                subst this
                exact hn
            have elen2 : ((fL os).length : Int) = os.length := by rw [elen]
            simp only [elen2]
            by_cases hA : 0 < l0
            · rw [if_pos (decide_eq_true hA)]
              by_cases hB : 0 < rest
              · rw [if_pos (decide_eq_true hB)]
                have hA' := castQ_pos hA
                have hB' := castQ_pos hB
                have s0' := castQ_pos t.s0
                have hlp : 0 < lackR ws.sum mk (ws.zip os) := by
                  rw [← hlack, Rat.div_def]
                  exact Rat.mul_pos hA' (Rat.inv_pos.mpr q1)
                have r100 : rest ≤ 100 := by omega
                have l1b : l1 ≤ 1000000000000000 := Int.le_trans hl1b p1000
                have l0b : l0 ≤ 1000000000000000 := Int.le_trans hl0 l1b
                have s1 := t.s1
                have s0 := t.s0
                have zr : rest.natAbs < 2 ^ 7 := by omega
                have zl : l1.natAbs < 2 ^ 50 := by omega
                have zs : ws.sum.natAbs < 2 ^ 7 := by omega
                have zl0 : l0.natAbs < 2 ^ 50 := by omega
                refine ⟨mulW zr zl (by decide), mulW zs zl0 (by decide), rest * l1, ws.sum * l0, 57, rfl, Int.mul_pos t.s0 hA, int_mul_lt zs zl0, by decide, ?_⟩
                have er : ((rest * l1 : Int) : Rat) / ((ws.sum * l0 : Int) : Rat) = rateR ws.sum mk (ws.zip os) := by
                  unfold rateR
                  rw [← hrest, ← hlack]
                  push_cast
                  grind
                have bnd := num_le (rest * l1) (ws.sum * l0) (Int.mul_pos t.s0 hA)
                have b1 : (rest * l1).natAbs ≤ 100 * 1000000000000000 := by
                  rw [Int.natAbs_mul]
                  exact Nat.mul_le_mul (by omega) (by omega)
                have b2 : (ws.sum * l0).natAbs ≤ 100 * 1000000000000000 := by
                  rw [Int.natAbs_mul]
                  exact Nat.mul_le_mul (by omega) (by omega)
                have rz : Bz 57 (((rest * l1 : Int) : Rat) / ((ws.sum * l0 : Int) : Rat)) := .frac (Int.mul_pos t.s0 hA) (int_mul_lt zr zl) (int_mul_lt zs zl0)
                rw [er] at bnd rz ⊢
                generalize hr : rateR ws.sum mk (ws.zip os) = r at *
                have rd : (r.den : Int).natAbs < 2 ^ 57 := by exact_mod_cast rz.d
                refine ⟨by omega, by omega, ?_⟩
                have eN : ((os.length : Nat) : Int).toNat = os.length := by omega
                rw [eN]
                have gat : ∀ i, i < os.length → ∃ gi, ((ws.zip os).map (good ws.sum)).getD i 0 = gi ∧ atI (fL ((ws.zip os).map (good ws.sum))) (0 + (i : Int)) = some (fr gi) ∧ Bz 40 gi := by
                  intro i hi
                  have hiz : i < (ws.zip os).length := by rw [t.ln]; exact hi
                  refine ⟨good ws.sum (ws.zip os)[i], ?_, ?_, good_bz g (List.getElem_mem _)⟩
                  · simp [List.getD, List.getElem?_eq_getElem hiz]
                  · rw [Int.zero_add]
                    exact atI_get _ _ _ (by simp [fL, List.getElem?_eq_getElem hiz])
                have nz : (List.range os.length).length ≤ sizeLine := by
                  rw [List.length_range, sizeLine_eq]
                  omega
                have emap : ∀ p : Nat → Bool, ((List.range os.length).filter p).map (fun (i : Nat) => D.int (0 + (i : Int))) = (((List.range os.length).filter p).map (fun (i : Nat) => (i : Int))).map D.int := by
                  intro p
                  rw [List.map_map]
                  exact List.map_congr_left fun i _ => by simp
                refine LcB.fm (List.range os.length) (fun (i : Nat) => D.int (0 + (i : Int))) (fun i => if decide (r < ((ws.zip os).map (good ws.sum)).getD i 0) = true then some (D.int (0 + (i : Int))) else none) rfl nz ?_ ?_
                · intro i hi R hR
                  obtain ⟨gi, e1, e2, e3⟩ := gat i (List.mem_range.mp hi)
                  have gd : (gi.den : Int).natAbs < 2 ^ 40 := by exact_mod_cast e3.d
                  rw [e1] at hR
                  simp only [dgName, dwipe, List.set_cons_zero, List.set_cons_succ]
                  have eg := Ev.ixL (ρ := [some (.tup (wL ws)), some (.tup (fL os)), some (.int ws.sum), some (fr r), some (.int p), some (.int b), o6, o7, o8, some (.lst (fL ((ws.zip os).map (good ws.sum)))), some (fr mk), some (.tup [.int l0, .int l1]), some (.int rest), some (.int (0 + (i : Int))), o14, o15]) (μ := m') (ta := dVar 9) (tb := dVar 13) .var .var e2
                  have ek : Ev (dVar 3) [some (.tup (wL ws)), some (.tup (fL os)), some (.int ws.sum), some (fr r), some (.int p), some (.int b), o6, o7, o8, some (.lst (fL ((ws.zip os).map (good ws.sum)))), some (fr mk), some (.tup [.int l0, .int l1]), some (.int rest), some (.int (0 + (i : Int))), o14, o15] m' (fr r) := .var
                  refine EvT.of (.gt (Ev.mul eg.num ek.den (mulW e3.n rd (by decide))) (Ev.mul ek.num eg.den (mulW rz.n gd (by decide)))) _ ?_
                  rw [less_dec]
                  cases hc : decide (r < gi) with
                  | true =>
                    rw [hc] at hR
                    exact hR
                  | false =>
                    rw [hc] at hR
                    exact hR
                · rw [filt_some, emap]
                  refine ⟨by omega, by omega, ?_⟩
                  refine LcB.fm (List.range os.length) (fun (i : Nat) => D.int (0 + (i : Int))) (fun i => if decide (mk ≤ ((ws.zip os).map (good ws.sum)).getD i 0) = true then some (D.int (0 + (i : Int))) else none) rfl nz ?_ ?_
                  · intro i hi R hR
                    obtain ⟨gi, e1, e2, e3⟩ := gat i (List.mem_range.mp hi)
                    have gd : (gi.den : Int).natAbs < 2 ^ 40 := by exact_mod_cast e3.d
                    rw [e1] at hR
                    simp only [dgName, dwipe, List.set_cons_zero, List.set_cons_succ]
                    generalize hx : D.lst (List.map D.int (List.map (fun (i : Nat) => (i : Int)) (List.filter (fun i => decide (r < ((ws.zip os).map (good ws.sum)).getD i 0)) (List.range os.length)))) = x1
                    have eg := Ev.ixL (ρ := [some (.tup (wL ws)), some (.tup (fL os)), some (.int ws.sum), some (fr r), some (.int p), some (.int b), o6, o7, o8, some (.lst (fL ((ws.zip os).map (good ws.sum)))), some (fr mk), some (.tup [.int l0, .int l1]), some (.int rest), some (.int (0 + (i : Int))), some x1, o15]) (μ := m') (ta := dVar 9) (tb := dVar 13) .var .var e2
                    have ek : Ev (dVar 10) [some (.tup (wL ws)), some (.tup (fL os)), some (.int ws.sum), some (fr r), some (.int p), some (.int b), o6, o7, o8, some (.lst (fL ((ws.zip os).map (good ws.sum)))), some (fr mk), some (.tup [.int l0, .int l1]), some (.int rest), some (.int (0 + (i : Int))), some x1, o15] m' (fr mk) := .var
                    refine EvT.of (.ge (Ev.mul eg.num ek.den (mulW e3.n kd (by decide))) (Ev.mul ek.num eg.den (mulW bk.n gd (by decide)))) _ ?_
                    rw [le_dec]
                    cases hc : decide (mk ≤ gi) with
                    | true =>
                      rw [hc] at hR
                      exact hR
                    | false =>
                      rw [hc] at hR
                      exact hR
                  · rw [filt_some, emap]
                    refine ⟨intsL_shp _, intsL_shp _, ?_⟩
                    rw [show ∀ xs ys : List Int, eqD (.lst (xs.map D.int)) (.lst (ys.map D.int)) = decide (xs = ys) from fun xs ys => (Enc.lst Enc.int).eq xs ys]
                    have qiff : Qual ws.sum mk (ws.zip os) ↔ ∀ i, i < os.length → decide (r < ((ws.zip os).map (good ws.sum)).getD i 0) = decide (mk ≤ ((ws.zip os).map (good ws.sum)).getD i 0) := by
                      constructor
                      · rintro ⟨_, _, h⟩ i hi
                        have hiz : i < (ws.zip os).length := by rw [t.ln]; exact hi
                        have e : ((ws.zip os).map (good ws.sum)).getD i 0 = good ws.sum (ws.zip os)[i] := by simp [List.getD, List.getElem?_eq_getElem hiz]
                        rw [e, decide_eq_decide, ← hr]
                        exact h _ (List.getElem_mem _)
                      · intro h
                        refine ⟨hlp, by rw [← hrest]; exact hB, fun q hq => ?_⟩
                        obtain ⟨i, hiz, rfl⟩ := List.getElem_of_mem hq
                        have e : ((ws.zip os).map (good ws.sum)).getD i 0 = good ws.sum (ws.zip os)[i] := by simp [List.getD, List.getElem?_eq_getElem hiz]
                        have h2 := h i (by rw [t.ln] at hiz; exact hiz)
                        rw [e, decide_eq_decide, ← hr] at h2
                        exact h2
                    by_cases heq : ((List.range os.length).filter fun i => decide (r < ((ws.zip os).map (good ws.sum)).getD i 0)).map (fun (i : Nat) => (i : Int)) = ((List.range os.length).filter fun i => decide (mk ≤ ((ws.zip os).map (good ws.sum)).getD i 0)).map (fun (i : Nat) => (i : Int))
                    · rw [if_pos (decide_eq_true heq)]
                      have ql := qiff.mpr (filt_range.mp heq)
                      have ok := ql.rate t.s0
                      rw [hr] at ok
                      exact q r ok (by omega) (by omega)
                    · rw [if_neg (by rw [decide_eq_false heq]; decide)]
                      exact next _ _ _ fun z => heq (filt_range.mpr (qiff.mp z))
              · rw [if_neg (by rw [decide_eq_false hB]; decide)]
                have := next o3 o14 o15 fun z => hB (by rw [hrest]; exact z.rp)
                exact ⟨this.1, this.2.1, trivial⟩
            · rw [if_neg (by rw [decide_eq_false hA]; decide)]
              have hnq' : ¬ Qual ws.sum mk (ws.zip os) := fun z => hA (by
                have h1 := z.lp
                rw [← hlack] at h1
                have h2 : (0 : Rat) < (l0 : Rat) := by
                  rw [Rat.lt_div_iff q1, Rat.zero_mul] at h1
                  exact h1
                have h3 := (Rat.intCast_lt_intCast (a := 0) (b := l0)).mp (by exact_mod_cast h2)
                exact h3)
              have := next o3 o14 o15 hnq'
              simp only [Bool.false_eq_true, if_false]
              exact ⟨this.1, this.2.1, trivial⟩
          · rintro ρ m' ⟨_, hnq, rfl⟩
            exact absurd hqual (hnq mq hmq)
theorem ok_law_rate (d : Dn K mg "_law_rate" s_law_rate) (b_sum : mg "sum" = none) (b_zip : mg "zip" = none) (b_range : mg "range" = none) (b_len : mg "len" = none) (g_law_low : Dk P w K mg base "_law_low" 1 ["_law_top", "_law_below"] sp_law_low) : Dk P w K mg base "_law_rate" 2 ["_law_weights", "_law_odds"] sp_law_rate :=
  Dk.of d sc_law_rate ln_law_rate (fun _ _ _ _ _ _ us hl => match us, hl with | [_, _], _ => rfl) t_law_rate (fun F0 f cdv A outer s H E hr => by
    have nd := sc_law_rate.nd
    exact (ds_cons (ds_asg (vs := [2, 3]) (d_tup (da_cons (d_callB ((cr_sum rfl).or (cr_sumT rfl)) lc_sum (by rfl) b_sum bb_sum (da_cons (dv 0) da_nil)) (da_cons (d_tup (da_cons d_int (da_cons d_int da_nil))) da_nil))) (dg_tup 2 rfl (dgs_cons (dg_name (i := 2) nd rfl (Or.inr rfl) (by decide)) (dgs_cons (dg_name (i := 3) nd rfl (Or.inr rfl) (by decide)) dgs_nil)) (gl_cons (gl_cons (fun _ _ _ _ h => gl_nil h) gx_name) gx_name)))
      (ds_cons (ds_asg (vs := [4, 5]) (d_tup (da_cons d_int (da_cons d_int da_nil))) (dg_tup 2 rfl (dgs_cons (dg_name (i := 4) nd rfl (Or.inl rfl) (by decide)) (dgs_cons (dg_name (i := 5) nd rfl (Or.inl rfl) (by decide)) dgs_nil)) (gl_cons (gl_cons (fun _ _ _ _ h => gl_nil h) gx_name) gx_name)))
      (ds_cons (ds_for (vs := [6, 7, 8]) PassesOwn.never rfl (di_zip2 .t .t (by rfl) b_zip (da_cons (dv 0) (da_cons (dv 1) da_nil))) (dg_tup 2 rfl (dgs_cons (dg_name (i := 6) nd rfl (Or.inl rfl) (by decide)) (dgs_cons (dg_tup 2 rfl (dgs_cons (dg_name (i := 7) nd rfl (Or.inl rfl) (by decide)) (dgs_cons (dg_name (i := 8) nd rfl (Or.inl rfl) (by decide)) dgs_nil)) (gl_cons (gl_cons (fun _ _ _ _ h => gl_nil h) gx_name) gx_name)) dgs_nil)) (gl_cons (gl_cons (fun _ _ _ _ h => gl_nil h) (gx_tup (gxs_cons gx_name (gxs_cons gx_name gxs_nil)))) gx_name)) (ds_one (ds_if (d_gtT  (dv 6) d_int) (ds_one (ds_par (i := 4) (j := 5) rfl nd rfl rfl (by decide) rfl rfl (da_cons (d_add (d_mul (dv 4) (dv 7)) (d_mul (dv 8) (dv 5))) (da_cons (d_mul (dv 5) (dv 7)) da_nil)) (by rfl))) ds_nil)))
      (ds_cons (ds_if (d_leT  (dv 4) (dv 5)) (ds_one (ds_ret (d_tup (da_cons d_int (da_cons d_int da_nil))))) ds_nil)
      (ds_cons (ds_set (i := 9) nd rfl (Or.inr rfl) (d_lc (own := [("_law_weight", 6), ("_law_one", 7), ("_law_other", 8)]) rfl nd (di_zip2 .t .t (by rfl) b_zip (da_cons (dv 0) (da_cons (dv 1) da_nil))) (blkOk_by (N := ["_law_weights", "_law_odds", "_law_whole", "_law_low_here", "_law_part", "_law_below", "_law_weight", "_law_one", "_law_other", "_law_good", "_law_mark", "_law_lack", "_law_rest", "_law_at", "_law_more", "_law_due"]) (sc := defScope s_law_rate) (own := [("_law_weight", 6), ("_law_one", 7), ("_law_other", 8)]) (by decide +kernel)) (fun _ _ _ _ _ => (dg_tup 2 rfl (dgs_cons (dg_name (i := 6) nd rfl (Or.inl rfl) (by decide)) (dgs_cons (dg_tup 2 rfl (dgs_cons (dg_name (i := 7) nd rfl (Or.inl rfl) (by decide)) (dgs_cons (dg_name (i := 8) nd rfl (Or.inl rfl) (by decide)) dgs_nil)) (gl_cons (gl_cons (fun _ _ _ _ h => gl_nil h) gx_name) gx_name)) dgs_nil)) (gl_cons (gl_cons (fun _ _ _ _ h => gl_nil h) (gx_tup (gxs_cons gx_name (gxs_cons gx_name gxs_nil)))) gx_name))) (fun _ _ _ _ _ => dp_nil) (fun _ _ _ _ _ => (d_callD g_law_low (hr.mono (by decide)) (da_cons (d_mul (dv 6) (dv 7)) (da_cons (d_mul (dv 2) (dv 8)) da_nil))))))
      (ds_cons (ds_for (vs := [10]) PassesOwn.never rfl (di_lst (d_add (d_lst (da_cons (d_tup (da_cons (d_pow d_int d_int) (da_cons d_int da_nil))) da_nil)) (dv 9))) (dg_name (i := 10) nd rfl (Or.inr rfl) (by decide)) (ds_cons (ds_asg (vs := [11, 12]) (d_tup (da_cons (d_tup (da_cons d_int (da_cons d_int da_nil))) (da_cons d_int da_nil))) (dg_tup 2 rfl (dgs_cons (dg_name (i := 11) nd rfl (Or.inl rfl) (by decide)) (dgs_cons (dg_name (i := 12) nd rfl (Or.inl rfl) (by decide)) dgs_nil)) (gl_cons (gl_cons (fun _ _ _ _ h => gl_nil h) gx_name) gx_name)))
      (ds_cons (ds_for (vs := [13]) PassesOwn.never rfl (di_rng1 (by rfl) b_range (da_cons (d_callB (call_len_seq.or call_len_str) lc_len (by rfl) b_len bb_len (da_cons (dv 1) da_nil)) da_nil)) (dg_name (i := 13) nd rfl (Or.inl rfl) (by decide)) (ds_one (ds_if (PW.pt (d_or (d_gtT  (d_mul (d_ix (d_ix (dv 9) (dv 13)) d_int) (d_ix (dv 10) d_int)) (d_mul (d_ix (dv 10) d_int) (d_ix (d_ix (dv 9) (dv 13)) d_int))) (d_or1 (d_eqT (hu64 hr) (d_mul (d_ix (dv 10) d_int) (d_ix (d_ix (dv 9) (dv 13)) d_int)) (d_mul (d_ix (d_ix (dv 9) (dv 13)) d_int) (d_ix (dv 10) d_int)))))) (ds_one (ds_set (i := 11) nd rfl (Or.inl rfl) (d_tup (da_cons (d_sub (d_mul (d_ix (dv 11) d_int) (d_ix (d_ix (dv 1) (dv 13)) d_int)) (d_mul (d_ix (d_ix (dv 1) (dv 13)) d_int) (d_ix (dv 11) d_int))) (da_cons (d_mul (d_ix (dv 11) d_int) (d_ix (d_ix (dv 1) (dv 13)) d_int)) da_nil))))) (ds_one (ds_set (i := 12) nd rfl (Or.inl rfl) (d_add (dv 12) (d_ix (dv 0) (dv 13))))))))
      (ds_one (ds_if (PW.pt (d_and (d_gtT  (d_ix (dv 11) d_int) d_int) (d_and1 (d_gtT  (dv 12) d_int)))) (ds_cons (ds_set (i := 3) nd rfl (Or.inr rfl) (d_callD g_law_low (hr.mono (by decide)) (da_cons (d_mul (dv 12) (d_ix (dv 11) d_int)) (da_cons (d_mul (dv 2) (d_ix (dv 11) d_int)) da_nil))))
      (ds_cons (ds_setLc (i := 14) (own := [("_law_at", 13)]) rfl nd rfl rfl (sw_true rfl rfl rfl (by decide +kernel)) (di_rng1 (by rfl) b_range (da_cons (d_callB (call_len_seq.or call_len_str) lc_len (by rfl) b_len bb_len (da_cons (dv 1) da_nil)) da_nil)) (blkOk_by (N := ["_law_weights", "_law_odds", "_law_whole", "_law_low_here", "_law_part", "_law_below", "_law_weight", "_law_one", "_law_other", "_law_good", "_law_mark", "_law_lack", "_law_rest", "_law_at", "_law_more", "_law_due"]) (sc := defScope s_law_rate) (own := [("_law_at", 13)]) (by decide +kernel)) (fun _ _ _ _ _ => (dg_name (i := 13) nd rfl (Or.inl rfl) (by decide))) (fun _ _ _ _ _ => (dp_one (d_gtT  (d_mul (d_ix (d_ix (dv 9) (dv 13)) d_int) (d_ix (dv 3) d_int)) (d_mul (d_ix (dv 3) d_int) (d_ix (d_ix (dv 9) (dv 13)) d_int))))) (fun _ _ _ _ _ => (dv 13)))
      (ds_cons (ds_setLc (i := 15) (own := [("_law_at", 13)]) rfl nd rfl rfl (sw_true rfl rfl rfl (by decide +kernel)) (di_rng1 (by rfl) b_range (da_cons (d_callB (call_len_seq.or call_len_str) lc_len (by rfl) b_len bb_len (da_cons (dv 1) da_nil)) da_nil)) (blkOk_by (N := ["_law_weights", "_law_odds", "_law_whole", "_law_low_here", "_law_part", "_law_below", "_law_weight", "_law_one", "_law_other", "_law_good", "_law_mark", "_law_lack", "_law_rest", "_law_at", "_law_more", "_law_due"]) (sc := defScope s_law_rate) (own := [("_law_at", 13)]) (by decide +kernel)) (fun _ _ _ _ _ => (dg_name (i := 13) nd rfl (Or.inl rfl) (by decide))) (fun _ _ _ _ _ => (dp_one (d_geT  (d_mul (d_ix (d_ix (dv 9) (dv 13)) d_int) (d_ix (dv 10) d_int)) (d_mul (d_ix (dv 10) d_int) (d_ix (d_ix (dv 9) (dv 13)) d_int))))) (fun _ _ _ _ _ => (dv 13)))
      (ds_one (ds_if (d_eqT (hu64 hr) (dv 14) (dv 15)) (ds_one (ds_ret (dv 3))) ds_nil))))) ds_nil)))))
      (ds_one (ds_ret d_non))))))))) rd_law_rate
end
end GS

-- text W8
set_option Elab.async false
set_option linter.all false
set_option maxRecDepth 100000
set_option maxHeartbeats 4000000
namespace GS
open PySem PySem.Spec PyProof.Rows L2 DL
section
variable {P : Program} {w : World} {K : Fg} {mg : Str → Option Value} {base : Heap} {C : Str → Addr}
/-! ### _law_best -/
def sp_law_best : DSp := fun ds μ Q _ => ∃ (ws : List Int) (os : List Rat), ds = [.tup (wL ws), .tup (fL os)] ∧ LG ws os ∧ ∀ r ss μ', LS os.length r ss → bestB ws os r ss = true → Ext μ μ' → Q (.tup (fL (r :: ss))) μ'
theorem ln_law_best (ds : List D) (μ Q E) (h : sp_law_best ds μ Q E) : ds.length = 2 := by
  obtain ⟨ws, os, rfl, _⟩ := h
  rfl
abbrev s_law_best : Stmt := top 55
theorem sc_law_best : FnScope ["_law_weights", "_law_odds", "_law_low_here", "_law_whole", "_law_laid", "_law_weight", "_law_one", "_law_other", "_law_top", "_law_below"] ["_law_weights", "_law_odds"] (defScope s_law_best) := ⟨rfl, rfl, rfl, by decide +kernel, rfl, by decide +kernel, by decide +kernel⟩
def t_law_best : DS := (dSeq (dPar 2 3 (dCons (dCallF sp_law_rate (dCons (dVar 0) (dCons (dVar 1) dNil))) (dCons (dCall bSum (dCons (dVar 0) dNil)) dNil)))
  (dSeq (dAsg (dLstM dNil) (dgName 4))
  (dSeq (dFor (diZip2 .t .t (dCons (dVar 0) (dCons (dVar 1) dNil))) (dgTup (dgCons (dgName 5) (dgCons (dgTup (dgCons (dgName 6) (dgCons (dgName 7) dgNil))) dgNil))) (dSeq (dPar 8 9 (dCons (dOp dSub (dOp dMulT (dOp dMulT (dVar 5) (dVar 6)) (dOp dIx (dVar 2) (dC (.int 1)))) (dOp dMulT (dOp dMulT (dOp dIx (dVar 2) (dC (.int 0))) (dVar 7)) (dVar 3))) (dCons (dOp dMulT (dOp dMulT (dVar 3) (dVar 6)) (dOp dIx (dVar 2) (dC (.int 1)))) dNil)))
  (dDrop (dAppend 4 (dIf (dTest (dOp dGt (dVar 8) (dC (.int 0)))) (dCallF sp_law_low (dCons (dVar 8) (dCons (dVar 9) dNil))) (dTup (dCons (dC (.int 0)) (dCons (dC (.int 1)) dNil))))))))
  (dRet (dOp dAdd (dTup (dCons (dVar 2) dNil)) (dCall bTup (dCons (dFrz 4) dNil)))))))
theorem sB_frac {W : Int} (hW : 0 < W) (r : Rat) {q : Int × Rat} (ho : 0 < q.2) : ((q.1 * q.2.num * r.den - r.num * q.2.den * W : Int) : Rat) / ((W * q.2.num * r.den : Int) : Rat) = (q.1 : Rat) / (W : Rat) - r / q.2 := by
  have h1 := rat_eq q.2
  have h2 := rat_eq r
  have p1 := denQ_pos q.2
  have p2 := castQ_pos hW
  have p3 := castQ_pos (num_pos ho)
  have p4 := denQ_pos r
  generalize q.2.num = a at *
  generalize (q.2.den : Int) = b at *
  generalize r.num = c at *
  generalize (r.den : Int) = d at *
  rw [h1, h2]
  simp only [Rat.div_def]
  rw [Rat.inv_mul_rev, Rat.inv_inv]
  push_cast
  rw [Rat.inv_mul_rev, Rat.inv_mul_rev]
  grind
theorem sB_top {W : Int} (hW : 0 < W) (r : Rat) {q : Int × Rat} (ho : 0 < q.2) : 0 < q.1 * q.2.num * r.den - r.num * q.2.den * W ↔ r < good W q := by
  have e := sB_frac hW r ho
  have pb : 0 < W * q.2.num * r.den := Int.mul_pos (Int.mul_pos hW (num_pos ho)) (den_pos r)
  have pbq := castQ_pos pb
  have w := castR_pos hW
  have key : r < good W q ↔ 0 < (q.1 : Rat) / (W : Rat) - r / q.2 := by
    have e2 : (q.1 : Rat) / (W : Rat) * q.2 = good W q := by
      unfold good
      simp only [Rat.div_def]
      grind
    rw [← e2]
    constructor
    · intro h
      rw [← Rat.div_lt_iff ho] at h
      grind
    · intro h
      rw [← Rat.div_lt_iff ho]
      grind
  rw [key, ← e, Rat.lt_div_iff pbq, Rat.zero_mul]
  constructor
  · intro h
    exact castQ_pos h
  · intro h
    have := (Rat.intCast_lt_intCast (a := 0) (b := q.1 * q.2.num * r.den - r.num * q.2.den * W)).mp (by exact_mod_cast h)
    exact this
theorem rd_law_best (ds : List D) (μ : Mu) (Q : DQ) (E) (h : sp_law_best ds μ Q E) : t_law_best { nx := fun _ μ' => Q .non μ', rt := Q } (ds.map some ++ List.replicate (10 - ds.length) none) μ := by
  obtain ⟨ws, os, rfl, g, q⟩ := h
  have t := g.two
  have l5 := g.l5
  have l2 := g.l2
  unfold t_law_best
  simp only [dRaise, dCallX, dRet, dRetN, dSeq, dNext, dDrop, dIfS, dNever, dAsg, dPar, dPar3, dgName, dgTup, dgLst, dgNil, dgCons, dgSub, dOp, dTest, dChain, dVar, dFrz, dC, dAdd, dSub, dMulT, dDiv, dMod, dPow, dLt, dLe, dGt, dGe, dInt0, dInt2, dEq, dNe, dIn, dNotIn, dIsN, dNotN, dAnd, dOr, dNot, dAndV, dOrV, dNotV, dIf, dNil, dCons, dTup, dLst, dLstM, dIx, dSlice, dNo, dPart, dCall, dCallF, bAbs, bLen, bSum, bAll, bAny, bInt, bStr, bTup, bLst, bIsi, dLc_eq, dFor_eq, dWhile_eq, diLst, diTup, diRng1, diRng2, diZip2, diZip3, diEnum, diSeq, dYes, dAppend, dRepL, dJoin, dSplit, List.getElem?_cons_zero, List.getElem?_cons_succ, List.set_cons_zero, List.set_cons_succ, List.map_cons, List.map_nil, List.cons_append, List.nil_append, List.replicate, List.length_cons, List.length_nil, dwipe, atI_0, atI_1, ex_some]
  refine ⟨ws, os, rfl, g, fun r ok rn rd => ?_⟩
  refine ⟨ws, rfl, by decide, fun p hp => ?_⟩
  refine ⟨wL ws, fL os, rfl, by simp [wL, fL, g.len], ?_⟩
  have r0 := num_nonneg ok.r0
  have dp := den_pos r
  have zrn : r.num.natAbs < 2 ^ 60 := by omega
  have zrd : (r.den : Int).natAbs < 2 ^ 60 := by omega
  refine ForB.inv (ws.zip os) (fun q => .tup [.int q.1, fr q.2]) (fun pre ρ m => (∃ o5 o6 o7 o8 o9, ρ = [some (.tup (wL ws)), some (.tup (fL os)), some (fr r), some (.int ws.sum), some (.raw (.ref p)), o5, o6, o7, o8, o9]) ∧ m p = some (.lst (fL (pre.map (sB ws.sum r)))) ∧ Ext μ m) (zip2D_map D.int fr ws os) ⟨⟨_, _, _, _, _, rfl⟩, muSet_same, (Ext.refl μ).set hp⟩ ?_ ?_
  · rintro pre ⟨w, o⟩ post ρ m he ⟨⟨o5, o6, o7, o8, o9, rfl⟩, hm, ex⟩
    have hmem : (w, o) ∈ ws.zip os := by rw [he]; simp
    obtain ⟨z1, z2, z3, z4⟩ := zip_bz g hmem
    have op := t.op _ hmem
    simp only at z1 z2 z3 op
    have hpl : pre.length < 5 := by
      have := congrArg List.length he
      rw [t.ln] at this
      simp only [List.length_append, List.length_cons] at this
      omega
    simp only [dRaise, dCallX, dRet, dRetN, dSeq, dNext, dDrop, dIfS, dNever, dAsg, dPar, dPar3, dgName, dgTup, dgLst, dgNil, dgCons, dgSub, dOp, dTest, dChain, dVar, dFrz, dC, dAdd, dSub, dMulT, dDiv, dMod, dPow, dLt, dLe, dGt, dGe, dInt0, dInt2, dEq, dNe, dIn, dNotIn, dIsN, dNotN, dAnd, dOr, dNot, dAndV, dOrV, dNotV, dIf, dNil, dCons, dTup, dLst, dLstM, dIx, dSlice, dNo, dPart, dCall, dCallF, bAbs, bLen, bSum, bAll, bAny, bInt, bStr, bTup, bLst, bIsi, dLc_eq, dFor_eq, dWhile_eq, diLst, diTup, diRng1, diRng2, diZip2, diZip3, diEnum, diSeq, dYes, dAppend, dRepL, dJoin, dSplit, List.getElem?_cons_zero, List.getElem?_cons_succ, List.set_cons_zero, List.set_cons_succ, List.map_cons, List.map_nil, List.cons_append, List.nil_append, List.replicate, List.length_cons, List.length_nil, dwipe, atI_0, atI_1, ex_some, fr]
    have zb : (ws.sum * o.num * (r.den : Int)).natAbs < 2 ^ 77 := int_mul_lt (int_mul_lt z4 z2) zrd
    have pb : 0 < ws.sum * o.num * (r.den : Int) := Int.mul_pos (Int.mul_pos t.s0 (num_pos op)) dp
    have fin : ∀ x : D, x = fr (sB ws.sum r (w, o)) → ∃ ds, m p = some (.lst ds) ∧ ds.length < sizeLine ∧ (∃ o5' o6' o7' o8' o9', [some (D.tup (wL ws)), some (D.tup (fL os)), some (D.tup [D.int r.num, D.int r.den]), some (D.int ws.sum), some (D.raw (.ref p)), some (D.int w), some (D.int o.num), some (D.int o.den), some (D.int (w * o.num * r.den - r.num * o.den * ws.sum)), some (D.int (ws.sum * o.num * r.den))] = [some (D.tup (wL ws)), some (D.tup (fL os)), some (D.tup [D.int r.num, D.int r.den]), some (D.int ws.sum), some (D.raw (.ref p)), o5', o6', o7', o8', o9']) ∧ muSet m p (.lst (ds ++ [x])) p = some (.lst (fL ((pre ++ [(w, o)]).map (sB ws.sum r)))) ∧ Ext μ (muSet m p (.lst (ds ++ [x]))) := by
      rintro x rfl
      refine ⟨_, hm, ?_, ⟨_, _, _, _, _, rfl⟩, ?_, ex.set hp⟩
      · simp only [fL, List.length_map]
        rw [sizeLine_eq]
        omega
      · rw [muSet_same]
        simp [fL]
    refine ⟨mulW z1 z2 (by decide), mulW (int_mul_lt z1 z2) zrd (by decide), mulW zrn z3 (by decide), mulW (int_mul_lt zrn z3) z4 (by decide), mulW z4 z2 (by decide), mulW (int_mul_lt z4 z2) zrd (by decide), ⟨_, hm⟩, ?_⟩
    have et := sB_top (W := ws.sum) t.s0 r (q := (w, o)) op
    simp only at et
    by_cases hc : 0 < w * o.num * (r.den : Int) - r.num * (o.den : Int) * ws.sum
    · rw [if_pos (decide_eq_true hc)]
      refine ⟨_, _, 77, rfl, pb, zb, by decide, fin _ ?_⟩
      have e := sB_frac (W := ws.sum) t.s0 r (q := (w, o)) op
      simp only at e
      rw [e]
      unfold sB
      rw [if_pos (et.mp hc)]
    · rw [if_neg (by rw [decide_eq_false hc]; decide)]
      refine ⟨by decide, fin _ ?_⟩
      unfold sB
      rw [if_neg (fun z => hc (et.mpr z))]
      rfl
  · rintro ρ m ⟨⟨o5, o6, o7, o8, o9, rfl⟩, hm, ex⟩
    simp only [dRaise, dCallX, dRet, dRetN, dSeq, dNext, dDrop, dIfS, dNever, dAsg, dPar, dPar3, dgName, dgTup, dgLst, dgNil, dgCons, dgSub, dOp, dTest, dChain, dVar, dFrz, dC, dAdd, dSub, dMulT, dDiv, dMod, dPow, dLt, dLe, dGt, dGe, dInt0, dInt2, dEq, dNe, dIn, dNotIn, dIsN, dNotN, dAnd, dOr, dNot, dAndV, dOrV, dNotV, dIf, dNil, dCons, dTup, dLst, dLstM, dIx, dSlice, dNo, dPart, dCall, dCallF, bAbs, bLen, bSum, bAll, bAny, bInt, bStr, bTup, bLst, bIsi, dLc_eq, dFor_eq, dWhile_eq, diLst, diTup, diRng1, diRng2, diZip2, diZip3, diEnum, diSeq, dYes, dAppend, dRepL, dJoin, dSplit, List.getElem?_cons_zero, List.getElem?_cons_succ, List.set_cons_zero, List.set_cons_succ, List.map_cons, List.map_nil, List.cons_append, List.nil_append, List.replicate, List.length_cons, List.length_nil, dwipe, atI_0, atI_1, ex_some, hm]
    refine ⟨by decide, ?_, ?_⟩
    · simp only [fL, List.length_map, t.ln]
      rw [sizeLine_eq]
      omega
    · have key := q r ((ws.zip os).map (sB ws.sum r)) (muDel m p) ⟨by rw [List.length_map, t.ln], fun s hs => ?_, ?_⟩ (best_best g.len (fun w hw => by have := g.wb w hw; omega) (fun o ho => pos_num (by have := g.ob o ho; omega)) t.s0 ok) (ex.del hp)
      · exact key
      · rcases List.mem_cons.mp hs with rfl | hs
        · unfold FAR
          omega
        · obtain ⟨⟨w, o⟩, hmem, rfl⟩ := List.mem_map.mp hs
          have op := t.op _ hmem
          have ob := t.ob _ hmem
          have wb := t.w20 _ hmem
          simp only at op ob wb
          have s1 := t.s1
          have pb : 0 < ws.sum * o.num * (r.den : Int) := Int.mul_pos (Int.mul_pos t.s0 (num_pos op)) dp
          have b1 : ws.sum * o.num * (r.den : Int) ≤ 100 * 1000 * 1000000000000000000 := by
            have a1 : ws.sum * o.num ≤ 100 * 1000 := Int.mul_le_mul s1 ob.2.1 (by omega) (by decide)
            exact Int.mul_le_mul a1 (by omega) (by omega) (by decide)
          unfold sB
          split
          · rename_i hc
            have hc' := (sB_top (W := ws.sum) t.s0 r (q := (w, o)) op).mpr hc
            simp only at hc'
            have e := sB_frac (W := ws.sum) t.s0 r (q := (w, o)) op
            simp only at e
            rw [← e]
            have b2 : w * o.num * (r.den : Int) ≤ 100 * 1000 * 1000000000000000000 := by
              have a1 : w * o.num ≤ 100 * 1000 := Int.mul_le_mul (by omega) ob.2.1 (by omega) (by decide)
              exact Int.mul_le_mul a1 (by omega) (by omega) (by decide)
            have b3 : 0 ≤ r.num * (o.den : Int) * ws.sum := Int.mul_nonneg (Int.mul_nonneg r0 (by omega)) (Int.le_of_lt t.s0)
            exact frac_num pb (by omega) (by unfold FAR; omega) (by unfold FAR; omega)
          · decide
      · rw [List.sum_cons]
        exact best_sum t.s0 t.sm t.op ok
theorem ok_law_best (d : Dn K mg "_law_best" s_law_best) (b_sum : mg "sum" = none) (b_zip : mg "zip" = none) (b_tuple : mg "tuple" = none) (g_law_rate : Dk P w K mg base "_law_rate" 2 ["_law_weights", "_law_odds"] sp_law_rate) (g_law_low : Dk P w K mg base "_law_low" 1 ["_law_top", "_law_below"] sp_law_low) : Dk P w K mg base "_law_best" 3 ["_law_weights", "_law_odds"] sp_law_best :=
  Dk.of d sc_law_best ln_law_best (fun _ _ _ _ _ _ us hl => match us, hl with | [_, _], _ => rfl) t_law_best (fun F0 f cdv A outer s H E hr => by
    have nd := sc_law_best.nd
    exact (ds_cons (ds_par (i := 2) (j := 3) rfl nd rfl rfl (by decide) rfl rfl (da_cons (d_callD g_law_rate (hr.mono (by decide)) (da_cons (dv 0) (da_cons (dv 1) da_nil))) (da_cons (d_callB ((cr_sum rfl).or (cr_sumT rfl)) lc_sum (by rfl) b_sum bb_sum (da_cons (dv 0) da_nil)) da_nil)) (by rfl))
      (ds_cons (ds_set (i := 4) nd rfl (Or.inl rfl) (d_lstM da_nil))
      (ds_cons (ds_for (vs := [5, 6, 7]) PassesOwn.never rfl (di_zip2 .t .t (by rfl) b_zip (da_cons (dv 0) (da_cons (dv 1) da_nil))) (dg_tup 2 rfl (dgs_cons (dg_name (i := 5) nd rfl (Or.inl rfl) (by decide)) (dgs_cons (dg_tup 2 rfl (dgs_cons (dg_name (i := 6) nd rfl (Or.inl rfl) (by decide)) (dgs_cons (dg_name (i := 7) nd rfl (Or.inl rfl) (by decide)) dgs_nil)) (gl_cons (gl_cons (fun _ _ _ _ h => gl_nil h) gx_name) gx_name)) dgs_nil)) (gl_cons (gl_cons (fun _ _ _ _ h => gl_nil h) (gx_tup (gxs_cons gx_name (gxs_cons gx_name gxs_nil)))) gx_name)) (ds_cons (ds_par (i := 8) (j := 9) rfl nd rfl rfl (by decide) rfl rfl (da_cons (d_sub (d_mul (d_mul (dv 5) (dv 6)) (d_ix (dv 2) d_int)) (d_mul (d_mul (d_ix (dv 2) d_int) (dv 7)) (dv 3))) (da_cons (d_mul (d_mul (dv 3) (dv 6)) (d_ix (dv 2) d_int)) da_nil)) (by rfl))
      (ds_one (ds_expr (d_append 4 (pv 4) (d_if (d_gtT  (dv 8) d_int) (d_callD g_law_low (hr.mono (by decide)) (da_cons (dv 8) (da_cons (dv 9) da_nil))) (d_tup (da_cons d_int (da_cons d_int da_nil)))))))))
      (ds_one (ds_ret (d_add (d_tup (da_cons (dv 2) da_nil)) (d_callTy call_tuple_of lc_tup (by rfl) b_tuple bt_tuple (da_cons (dvz 4) da_nil))))))))) rd_law_best
/-! ### _law_known -/
def q34 : Rat := ⟨3, 4, by decide, by decide⟩
def q14 : Rat := ⟨1, 4, by decide, by decide⟩
def sp_law_known : DSp := fun ds μ Q _ => ds = [] ∧ Q (.lst [gameD [1, 1] [3, 1], gameD [1, 1, 2] [2, 4, 4], .tup (fL [q34, q14, 0]), .tup (fL [1, 0, 0]), .tup (fL [0, 1, 0])]) μ
theorem ln_law_known (ds : List D) (μ Q E) (h : sp_law_known ds μ Q E) : ds.length = 0 := by
  obtain ⟨rfl, _⟩ := h
  rfl
abbrev s_law_known : Stmt := top 53
theorem sc_law_known : FnScope ["_law_some_here"] [] (defScope s_law_known) := ⟨rfl, rfl, rfl, by decide +kernel, rfl, by decide +kernel, by decide +kernel⟩
def t_law_known : DS := (dSeq (dAsg (dLst (dCons (dTup (dCons (dTup (dCons (dC (.int 1)) (dCons (dC (.int 1)) dNil))) (dCons (dTup (dCons (dTup (dCons (dC (.int 3)) (dCons (dC (.int 1)) dNil))) (dCons (dTup (dCons (dC (.int 1)) (dCons (dC (.int 1)) dNil))) dNil))) dNil))) (dCons (dTup (dCons (dTup (dCons (dC (.int 1)) (dCons (dC (.int 1)) (dCons (dC (.int 2)) dNil)))) (dCons (dTup (dCons (dTup (dCons (dC (.int 2)) (dCons (dC (.int 1)) dNil))) (dCons (dTup (dCons (dC (.int 4)) (dCons (dC (.int 1)) dNil))) (dCons (dTup (dCons (dC (.int 4)) (dCons (dC (.int 1)) dNil))) dNil)))) dNil))) dNil))) (dgName 0))
  (dRet (dOp dAdd (dVar 0) (dLst (dCons (dTup (dCons (dTup (dCons (dC (.int 3)) (dCons (dC (.int 4)) dNil))) (dCons (dTup (dCons (dC (.int 1)) (dCons (dC (.int 4)) dNil))) (dCons (dTup (dCons (dC (.int 0)) (dCons (dC (.int 1)) dNil))) dNil)))) (dCons (dTup (dCons (dTup (dCons (dC (.int 1)) (dCons (dC (.int 1)) dNil))) (dCons (dTup (dCons (dC (.int 0)) (dCons (dC (.int 1)) dNil))) (dCons (dTup (dCons (dC (.int 0)) (dCons (dC (.int 1)) dNil))) dNil)))) (dCons (dTup (dCons (dTup (dCons (dC (.int 0)) (dCons (dC (.int 1)) dNil))) (dCons (dTup (dCons (dC (.int 1)) (dCons (dC (.int 1)) dNil))) (dCons (dTup (dCons (dC (.int 0)) (dCons (dC (.int 1)) dNil))) dNil)))) dNil)))))))
theorem rd_law_known (ds : List D) (μ : Mu) (Q : DQ) (E) (h : sp_law_known ds μ Q E) : t_law_known { nx := fun _ μ' => Q .non μ', rt := Q } (ds.map some ++ List.replicate (1 - ds.length) none) μ := by
  obtain ⟨rfl, q⟩ := h
  have h1 : Ev (dVar 0) [some (.lst [D.tup [D.tup [.int 1, .int 1], D.tup [D.tup [.int 3, .int 1], D.tup [.int 1, .int 1]]], D.tup [D.tup [.int 1, .int 1, .int 2], D.tup [D.tup [.int 2, .int 1], D.tup [.int 4, .int 1], D.tup [.int 4, .int 1]]]])] μ (.lst [D.tup [D.tup [.int 1, .int 1], D.tup [D.tup [.int 3, .int 1], D.tup [.int 1, .int 1]]], D.tup [D.tup [.int 1, .int 1, .int 2], D.tup [D.tup [.int 2, .int 1], D.tup [.int 4, .int 1], D.tup [.int 4, .int 1]]]]) := .var
  have h2 : ∀ ρ, Ev _ ρ μ (.lst [D.tup [D.tup [.int 3, .int 4], D.tup [.int 1, .int 4], D.tup [.int 0, .int 1]], D.tup [D.tup [.int 1, .int 1], D.tup [.int 0, .int 1], D.tup [.int 0, .int 1]], D.tup [D.tup [.int 0, .int 1], D.tup [.int 1, .int 1], D.tup [.int 0, .int 1]]]) := fun ρ => .lst (.cons (.t3 .pr .pr .pr) (.cons (.t3 .pr .pr .pr) (.cons (.t3 .pr .pr .pr) .nil))) (show 3 ≤ sizeLine by decide)
  refine seq_of (asg_of (d := .lst [D.tup [D.tup [.int 1, .int 1], D.tup [D.tup [.int 3, .int 1], D.tup [.int 1, .int 1]]], D.tup [D.tup [.int 1, .int 1, .int 2], D.tup [D.tup [.int 2, .int 1], D.tup [.int 4, .int 1], D.tup [.int 4, .int 1]]]]) (.lst (.cons (.t2 .pr (.t2 .pr .pr)) (.cons (.t2 (.t3 .con .con .con) (.t3 .pr .pr .pr)) .nil)) (show 2 ≤ sizeLine by decide)) ?_)
  refine ret_of (.addL h1 (h2 _) (show 5 ≤ sizeLine by decide)) ?_
  exact q
theorem ok_law_known (d : Dn K mg "_law_known" s_law_known) : Dk P w K mg base "_law_known" 1 [] sp_law_known :=
  Dk.of d sc_law_known ln_law_known (fun _ _ _ _ _ _ us hl => match us, hl with | [], _ => rfl) t_law_known (fun F0 f cdv A outer s H E hr => by
    have nd := sc_law_known.nd
    exact (ds_cons (ds_set (i := 0) nd rfl (Or.inl rfl) (d_lst (da_cons (d_tup (da_cons (d_tup (da_cons d_int (da_cons d_int da_nil))) (da_cons (d_tup (da_cons (d_tup (da_cons d_int (da_cons d_int da_nil))) (da_cons (d_tup (da_cons d_int (da_cons d_int da_nil))) da_nil))) da_nil))) (da_cons (d_tup (da_cons (d_tup (da_cons d_int (da_cons d_int (da_cons d_int da_nil)))) (da_cons (d_tup (da_cons (d_tup (da_cons d_int (da_cons d_int da_nil))) (da_cons (d_tup (da_cons d_int (da_cons d_int da_nil))) (da_cons (d_tup (da_cons d_int (da_cons d_int da_nil))) da_nil)))) da_nil))) da_nil))))
      (ds_one (ds_ret (d_add (dv 0) (d_lst (da_cons (d_tup (da_cons (d_tup (da_cons d_int (da_cons d_int da_nil))) (da_cons (d_tup (da_cons d_int (da_cons d_int da_nil))) (da_cons (d_tup (da_cons d_int (da_cons d_int da_nil))) da_nil)))) (da_cons (d_tup (da_cons (d_tup (da_cons d_int (da_cons d_int da_nil))) (da_cons (d_tup (da_cons d_int (da_cons d_int da_nil))) (da_cons (d_tup (da_cons d_int (da_cons d_int da_nil))) da_nil)))) (da_cons (d_tup (da_cons (d_tup (da_cons d_int (da_cons d_int da_nil))) (da_cons (d_tup (da_cons d_int (da_cons d_int da_nil))) (da_cons (d_tup (da_cons d_int (da_cons d_int da_nil))) da_nil)))) da_nil))))))))) rd_law_known
/-! ### _law_right -/
def sp_law_right : DSp := fun ds μ Q _ => ∃ os W s0 ss, ds = [.tup (fL os), .int W, .tup (fL (s0 :: ss))] ∧ Valid os W s0 ss ∧ ∀ μ', Ext μ μ' → Q (.bl true) μ'
theorem ln_law_right (ds : List D) (μ Q E) (h : sp_law_right ds μ Q E) : ds.length = 3 := by
  obtain ⟨os, W, s0, ss, rfl, _⟩ := h
  rfl
abbrev s_law_right : Stmt := top 61
theorem sc_law_right : FnScope ["_law_odds", "_law_whole", "_law_shares_so", "_law_due", "_law_found", "_law_at", "_law_top", "_law_below", "_law_head"] ["_law_odds", "_law_whole", "_law_shares_so"] (defScope s_law_right) := ⟨rfl, rfl, rfl, by decide +kernel, rfl, by decide +kernel, by decide +kernel⟩
def t_law_right (C : Str → Addr) : DS := (dSeq (dAsg (dLc (diLst (dCallF sp_law_every (dCons (dCall bLen (dCons (dVar 0) dNil)) (dCons (dVar 1) dNil)))) (dgName 8) (dTest (dCallF sp_law_are_best (dCons (dTup (dCons (dVar 8) (dCons (dVar 0) dNil))) (dCons (dVar 2) dNil)))) (dVar 8) [8]) (dgName 3))
  (dSeq (dIfS (dTest (dOp dNe (dCallF (sp_weights_told C) (dCons (dVar 0) (dCons (dVar 1) (dCons (dVar 2) dNil)))) (dVar 3))) (dRet (dC (.bl false))) dNext)
  (dSeq (dAsg (dLstM dNil) (dgName 4))
  (dSeq (dFor (diEnum .t (dCons (dVar 0) dNil)) (dgTup (dgCons (dgName 5) (dgCons (dgTup (dgCons (dgName 6) (dgCons (dgName 7) dgNil))) dgNil))) (dIfS (dTest (dOp dEq (dLc (diLst (dVar 3)) (dgName 8) (dTest (dOp dLe (dOp dMulT (dOp dIx (dVar 8) (dVar 5)) (dVar 6)) (dOp dMulT (dVar 7) (dVar 1)))) (dVar 8) [8]) (dLst dNil))) (dDrop (dAppend 4 (dVar 5))) dNext))
  (dRet (dOp dEq (dCallF (sp_surely_above C) (dCons (dVar 0) (dCons (dVar 1) (dCons (dVar 2) dNil)))) (dFrz 4)))))))
theorem encW : Enc tupW 2 := (Enc.tup Enc.int).comap (fun _ _ h => h) fun _ => rfl
theorem dlW_shp (hs : List (List Int)) : shp (dlW hs) = true := (Enc.lst encW).shp (by decide) hs
theorem dlW_eq (a b : List (List Int)) : eqD (dlW a) (dlW b) = decide (a = b) := (Enc.lst encW).eq a b
theorem above_iff {w W : Int} (hW : 0 < W) {o : Rat} (ho : 0 < o) : (decide (w * o.num ≤ o.den * W)) = !decide ((1 : Rat) < (w : Rat) / (W : Rat) * o) := by
  have h1 := rat_eq o
  have p1 := denQ_pos o
  have p2 := castQ_pos hW
  have e : (w : Rat) / (W : Rat) * o = ((w * o.num : Int) : Rat) / ((o.den * W : Int) : Rat) := by
    generalize o.num = a at *
    generalize (o.den : Int) = b at *
    subst h1
    simp only [Rat.div_def]
    push_cast
    rw [Rat.inv_mul_rev]
    grind
  have pp : 0 < (o.den : Int) * W := Int.mul_pos (den_pos o) hW
  rw [e]
  have key : (1 : Rat) < ((w * o.num : Int) : Rat) / ((o.den * W : Int) : Rat) ↔ (o.den : Int) * W < w * o.num := by
    rw [Rat.lt_div_iff (castQ_pos pp), Rat.one_mul]
    exact Rat.intCast_lt_intCast
  by_cases c : w * o.num ≤ o.den * W
  · rw [decide_eq_true c, decide_eq_false (fun z => by have := key.mp z; omega)]
    rfl
  · rw [decide_eq_false c, decide_eq_true (key.mpr (by omega))]
    rfl
theorem rd_law_right (C : Str → Addr) (ds : List D) (μ : Mu) (Q : DQ) (E) (h : sp_law_right ds μ Q E) : t_law_right C { nx := fun _ μ' => Q .non μ', rt := Q } (ds.map some ++ List.replicate (9 - ds.length) none) μ := by
  obtain ⟨os, W, s0, ss, rfl, v, q⟩ := h
  have l2 := v.l2
  have l5 := v.l5
  have w1 := v.w1
  have w2 := v.w2
  have hz := v.oz
  have W0 : 0 < W := by omega
  have tl : (toldL os W s0 ss).length ≤ sizeLine := Nat.le_trans (List.length_filter_le _ _) (allW_num (by omega) l5 w2)
  unfold t_law_right
  simp only [dRaise, dCallX, dRet, dRetN, dSeq, dNext, dDrop, dIfS, dNever, dAsg, dPar, dPar3, dgName, dgTup, dgLst, dgNil, dgCons, dgSub, dOp, dTest, dChain, dVar, dFrz, dC, dAdd, dSub, dMulT, dDiv, dMod, dPow, dLt, dLe, dGt, dGe, dInt0, dInt2, dEq, dNe, dIn, dNotIn, dIsN, dNotN, dAnd, dOr, dNot, dAndV, dOrV, dNotV, dIf, dNil, dCons, dTup, dLst, dLstM, dIx, dSlice, dNo, dPart, dCall, dCallF, bAbs, bLen, bSum, bAll, bAny, bInt, bStr, bTup, bLst, bIsi, dLc_eq, dFor_eq, dWhile_eq, diLst, diTup, diRng1, diRng2, diZip2, diZip3, diEnum, diSeq, dYes, dAppend, dRepL, dJoin, dSplit, List.getElem?_cons_zero, List.getElem?_cons_succ, List.set_cons_zero, List.set_cons_succ, List.map_cons, List.map_nil, List.cons_append, List.nil_append, List.replicate, List.length_cons, List.length_nil, dwipe, atI_0, atI_1, ex_some]
  refine ⟨os.length, W, by simp [fL], l5, by omega, w2, ?_⟩
  rw [every_all (by omega) w1]
  show LcB _ _ _ _ _ ((allW os.length W).map tupW) _ _
  refine LcB.stf (allW os.length W) tupW (fun pre acc m => acc = ((pre.filter fun ws => bestB ws os s0 ss).map tupW) ∧ Ext μ m) rfl (allW_num (by omega) l5 w2) ⟨rfl, Ext.refl μ⟩ ?_ ?_
  · rintro pre ws post acc m he ⟨rfl, ex⟩
    have hm : ws ∈ allW os.length W := by rw [he]; simp
    simp only [dRaise, dCallX, dRet, dRetN, dSeq, dNext, dDrop, dIfS, dNever, dAsg, dPar, dPar3, dgName, dgTup, dgLst, dgNil, dgCons, dgSub, dOp, dTest, dChain, dVar, dFrz, dC, dAdd, dSub, dMulT, dDiv, dMod, dPow, dLt, dLe, dGt, dGe, dInt0, dInt2, dEq, dNe, dIn, dNotIn, dIsN, dNotN, dAnd, dOr, dNot, dAndV, dOrV, dNotV, dIf, dNil, dCons, dTup, dLst, dLstM, dIx, dSlice, dNo, dPart, dCall, dCallF, bAbs, bLen, bSum, bAll, bAny, bInt, bStr, bTup, bLst, bIsi, dLc_eq, dFor_eq, dWhile_eq, diLst, diTup, diRng1, diRng2, diZip2, diZip3, diEnum, diSeq, dYes, dAppend, dRepL, dJoin, dSplit, List.getElem?_cons_zero, List.getElem?_cons_succ, List.set_cons_zero, List.set_cons_succ, List.map_cons, List.map_nil, List.cons_append, List.nil_append, List.replicate, List.length_cons, List.length_nil, dwipe, atI_0, atI_1, ex_some]
    refine ⟨by decide, ws, os, s0, ss, rfl, v.gam hm, v.sh, fun m2 ex2 => ?_⟩
    cases e : bestB ws os s0 ss with
    | true =>
      show _ ∧ _
      exact ⟨by simp [e], ex.trans ex2⟩
    | false =>
      show _ ∧ _
      exact ⟨by simp [e], ex.trans ex2⟩
  · rintro acc m ⟨rfl, ex⟩
    show ToldS _ _ _ _ _ _
    refine .inl ⟨os, W, s0, ss, rfl, v, ?_⟩
    refine ⟨dlW_shp _, dlW_shp _, ?_⟩
    have ee : eqD (dlW (toldL os W s0 ss)) (.lst (((allW os.length W).filter fun ws => bestB ws os s0 ss).map tupW)) = true := by
      have := dlW_eq (toldL os W s0 ss) ((allW os.length W).filter fun ws => bestB ws os s0 ss)
      exact this.trans (decide_eq_true rfl)
    rw [ee]
    simp only [Bool.not_true, Bool.false_eq_true, if_false]
    refine ⟨by decide, fun p hp => ?_⟩
    have hp0 := ex.none hp
    refine ⟨fL os, rfl, ?_⟩
    refine ForB.inv os.zipIdx (fun p => .tup [.int (p.2 : Nat), fr p.1]) (fun pre ρ m' => (∃ o5 o6 o7 o8, ρ = [some (.tup (fL os)), some (.int W), some (.tup (fL (s0 :: ss))), some (dlW (toldL os W s0 ss)), some (.raw (.ref p)), o5, o6, o7, o8]) ∧ m' p = some (.lst (wL ((pre.filter fun p => (toldL os W s0 ss).all fun ws => decide ((1 : Rat) < (ws.getD p.2 0 : Rat) / (W : Rat) * p.1)).map fun p => (p.2 : Int)))) ∧ Ext μ m') (enumD_map fr os) ⟨⟨_, _, _, _, rfl⟩, muSet_same, ex.set hp0⟩ ?_ ?_
    · rintro pre ⟨o, i⟩ post ρ m' he ⟨⟨o5, o6, o7, o8, rfl⟩, hm, ex'⟩
      have hmm : (o, i) ∈ os.zipIdx := by rw [he]; simp
      have hi := List.mem_zipIdx hmm
      have hoi : o ∈ os := by
        obtain ⟨_, h2, h3⟩ := hi
        rw [h3]
        exact List.getElem_mem _
      have hio : i < os.length := by
        obtain ⟨_, h2, _⟩ := hi
        omega
      have hpl : pre.length ≤ 5 := by
        have := congrArg List.length he
        simp only [List.length_zipIdx, List.length_append, List.length_cons] at this
        omega
      obtain ⟨op, oz⟩ := hz o hoi
      have od : (o.den : Int).natAbs < 2 ^ 20 := by exact_mod_cast oz.d
      have Wz : W.natAbs < 2 ^ 16 := by omega
      simp only [dRaise, dCallX, dRet, dRetN, dSeq, dNext, dDrop, dIfS, dNever, dAsg, dPar, dPar3, dgName, dgTup, dgLst, dgNil, dgCons, dgSub, dOp, dTest, dChain, dVar, dFrz, dC, dAdd, dSub, dMulT, dDiv, dMod, dPow, dLt, dLe, dGt, dGe, dInt0, dInt2, dEq, dNe, dIn, dNotIn, dIsN, dNotN, dAnd, dOr, dNot, dAndV, dOrV, dNotV, dIf, dNil, dCons, dTup, dLst, dLstM, dIx, dSlice, dNo, dPart, dCall, dCallF, bAbs, bLen, bSum, bAll, bAny, bInt, bStr, bTup, bLst, bIsi, dLc_eq, dFor_eq, dWhile_eq, diLst, diTup, diRng1, diRng2, diZip2, diZip3, diEnum, diSeq, dYes, dAppend, dRepL, dJoin, dSplit, List.getElem?_cons_zero, List.getElem?_cons_succ, List.set_cons_zero, List.set_cons_succ, List.map_cons, List.map_nil, List.cons_append, List.nil_append, List.replicate, List.length_cons, List.length_nil, dwipe, atI_0, atI_1, ex_some, dlW, fr]
      refine LcB.fm (toldL os W s0 ss) tupW (fun ws => if decide (ws.getD i 0 * o.num ≤ o.den * W) = true then some (tupW ws) else none) rfl tl ?_ ?_
      · intro ws hw R hR
        have hin : ws ∈ allW os.length W := (List.mem_filter.mp hw).1
        obtain ⟨g1, g2, g3, _⟩ := allW_ok (by omega) w1 hin
        have gw := (v.gam hin).wz
        have hil : i < ws.length := by omega
        have hget : ws.getD i 0 = ws[i] := by simp [List.getD, hil]
        have wz := gw ws[i] (List.getElem_mem _)
        rw [hget] at hR
        simp only [dRaise, dCallX, dRet, dRetN, dSeq, dNext, dDrop, dIfS, dNever, dAsg, dPar, dPar3, dgName, dgTup, dgLst, dgNil, dgCons, dgSub, dOp, dTest, dChain, dVar, dFrz, dC, dAdd, dSub, dMulT, dDiv, dMod, dPow, dLt, dLe, dGt, dGe, dInt0, dInt2, dEq, dNe, dIn, dNotIn, dIsN, dNotN, dAnd, dOr, dNot, dAndV, dOrV, dNotV, dIf, dNil, dCons, dTup, dLst, dLstM, dIx, dSlice, dNo, dPart, dCall, dCallF, bAbs, bLen, bSum, bAll, bAny, bInt, bStr, bTup, bLst, bIsi, dLc_eq, dFor_eq, dWhile_eq, diLst, diTup, diRng1, diRng2, diZip2, diZip3, diEnum, diSeq, dYes, dAppend, dRepL, dJoin, dSplit, List.getElem?_cons_zero, List.getElem?_cons_succ, List.set_cons_zero, List.set_cons_succ, List.map_cons, List.map_nil, List.cons_append, List.nil_append, List.replicate, List.length_cons, List.length_nil, dwipe, atI_0, atI_1, ex_some, tupW]
        refine ⟨.int ws[i], atI_get _ _ _ (by simp [wL, hil]), mulW wz oz.n (by decide), mulW od Wz (by decide), ?_⟩
        by_cases hc : ws[i] * o.num ≤ o.den * W
        · rw [decide_eq_true hc] at hR ⊢
          exact hR
        · rw [decide_eq_false hc] at hR ⊢
          exact hR
      · rw [filt_some]
        refine ⟨by decide, dlW_shp _, dlW_shp [], ?_⟩
        have e1 := dlW_eq ((toldL os W s0 ss).filter fun ws => decide (ws.getD i 0 * o.num ≤ o.den * W)) []
        have e2 : eqD (.lst (((toldL os W s0 ss).filter fun ws => decide (ws.getD i 0 * o.num ≤ o.den * W)).map tupW)) (.lst []) = (toldL os W s0 ss).all fun ws => decide ((1 : Rat) < (ws.getD i 0 : Rat) / (W : Rat) * o) := by
          refine e1.trans ?_
          rw [← filt_all]
          congr 1
          funext ws
          rw [above_iff W0 op]
          simp
        rw [e2]
        by_cases hc : ((toldL os W s0 ss).all fun ws => decide ((1 : Rat) < (ws.getD i 0 : Rat) / (W : Rat) * o)) = true
        · rw [if_pos hc]
          refine ⟨⟨_, hm⟩, _, hm, ?_, ⟨some (.int i), some (.int o.num), some (.int o.den), o8, rfl⟩, ?_, ex'.set hp0⟩
          · have := List.length_filter_le (fun p : Rat × Nat => (toldL os W s0 ss).all fun ws => decide ((1 : Rat) < (ws.getD p.2 0 : Rat) / (W : Rat) * p.1)) pre
            simp only [wL, List.length_map]
            rw [sizeLine_eq]
            omega
          · rw [muSet_same]
            simp only [List.filter_append, List.filter_cons, hc, if_true, List.filter_nil, List.map_append, wL, List.map_cons, List.map_nil]
        · rw [if_neg hc]
          refine ⟨⟨some (.int i), some (.int o.num), some (.int o.den), o8, rfl⟩, ?_, ex'⟩
          simp only [List.filter_append, List.filter_cons, hc, if_false, Bool.false_eq_true, List.filter_nil, List.append_nil]
          exact hm
    · rintro ρ m' ⟨⟨o5, o6, o7, o8, rfl⟩, hm, ex'⟩
      simp only [dRaise, dCallX, dRet, dRetN, dSeq, dNext, dDrop, dIfS, dNever, dAsg, dPar, dPar3, dgName, dgTup, dgLst, dgNil, dgCons, dgSub, dOp, dTest, dChain, dVar, dFrz, dC, dAdd, dSub, dMulT, dDiv, dMod, dPow, dLt, dLe, dGt, dGe, dInt0, dInt2, dEq, dNe, dIn, dNotIn, dIsN, dNotN, dAnd, dOr, dNot, dAndV, dOrV, dNotV, dIf, dNil, dCons, dTup, dLst, dLstM, dIx, dSlice, dNo, dPart, dCall, dCallF, bAbs, bLen, bSum, bAll, bAny, bInt, bStr, bTup, bLst, bIsi, dLc_eq, dFor_eq, dWhile_eq, diLst, diTup, diRng1, diRng2, diZip2, diZip3, diEnum, diSeq, dYes, dAppend, dRepL, dJoin, dSplit, List.getElem?_cons_zero, List.getElem?_cons_succ, List.set_cons_zero, List.set_cons_succ, List.map_cons, List.map_nil, List.cons_append, List.nil_append, List.replicate, List.length_cons, List.length_nil, dwipe, atI_0, atI_1, ex_some, hm]
      show ToldS _ _ _ _ _ _
      refine .inl ⟨os, W, s0, ss, rfl, v, ?_⟩
      simp only [hm]
      have e1 : eqD (.lst (wL (aboveL os W s0 ss))) (.lst (wL (aboveL os W s0 ss))) = true := by
        have := (Enc.lst Enc.int).eq (aboveL os W s0 ss) (aboveL os W s0 ss)
        exact this.trans (decide_eq_true rfl)
      refine ⟨intsL_shp _, intsL_shp _, ?_⟩
      have e2 := q (muDel m' p) (ex'.del hp0)
      rw [← e1] at e2
      exact e2
theorem ok_law_right (d : Dn K mg "_law_right" s_law_right) (b_len : mg "len" = none) (b_enumerate : mg "enumerate" = none) (g_law_every : Dk P w K mg base "_law_every" 1 ["_law_many", "_law_whole"] sp_law_every) (g_law_are_best : Dk P w K mg base "_law_are_best" 4 ["_law_game_here", "_law_shares_here"] sp_law_are_best) (g_weights_told : DkX P w K mg base "weights_told" 9 ["odds", "total", "shares"] (sp_weights_told C)) (g_surely_above : DkX P w K mg base "surely_above" 9 ["odds", "total", "shares"] (sp_surely_above C)) : Dk P w K mg base "_law_right" 10 ["_law_odds", "_law_whole", "_law_shares_so"] sp_law_right :=
  Dk.of d sc_law_right ln_law_right (fun _ _ _ _ _ _ us hl => match us, hl with | [_, _, _], _ => rfl) (t_law_right C) (fun F0 f cdv A outer s H E hr => by
    have nd := sc_law_right.nd
    exact (ds_cons (ds_setLc (i := 3) (own := [("_law_head", 8)]) rfl nd rfl rfl (sw_true rfl rfl rfl (by decide +kernel)) (di_lst (d_callD g_law_every (hr.mono (by decide)) (da_cons (d_callB (call_len_seq.or call_len_str) lc_len (by rfl) b_len bb_len (da_cons (dv 0) da_nil)) (da_cons (dv 1) da_nil)))) (blkOk_by (N := ["_law_odds", "_law_whole", "_law_shares_so", "_law_due", "_law_found", "_law_at", "_law_top", "_law_below", "_law_head"]) (sc := defScope s_law_right) (own := [("_law_head", 8)]) (by decide +kernel)) (fun _ _ _ _ _ => (dg_name (i := 8) nd rfl (Or.inl rfl) (by decide))) (fun _ _ _ _ _ => (dp_one (d_test (d_callD g_law_are_best (hr.mono (by decide)) (da_cons (d_tup (da_cons (dv 8) (da_cons (dv 0) da_nil))) (da_cons (dv 2) da_nil)))))) (fun _ _ _ _ _ => (dv 8)))
      (ds_cons (ds_if (d_neT (hu64 hr) (d_callD g_weights_told.dk (hr.mono (by decide)) (da_cons (dv 0) (da_cons (dv 1) (da_cons (dv 2) da_nil)))) (dv 3)) (ds_one (ds_ret d_bl)) ds_nil)
      (ds_cons (ds_set (i := 4) nd rfl (Or.inl rfl) (d_lstM da_nil))
      (ds_cons (ds_for (vs := [5, 6, 7]) PassesOwn.never rfl (di_enum .t (by rfl) b_enumerate (da_cons (dv 0) da_nil)) (dg_tup 2 rfl (dgs_cons (dg_name (i := 5) nd rfl (Or.inr rfl) (by decide)) (dgs_cons (dg_tup 2 rfl (dgs_cons (dg_name (i := 6) nd rfl (Or.inr rfl) (by decide)) (dgs_cons (dg_name (i := 7) nd rfl (Or.inr rfl) (by decide)) dgs_nil)) (gl_cons (gl_cons (fun _ _ _ _ h => gl_nil h) gx_name) gx_name)) dgs_nil)) (gl_cons (gl_cons (fun _ _ _ _ h => gl_nil h) (gx_tup (gxs_cons gx_name (gxs_cons gx_name gxs_nil)))) gx_name)) (ds_one (ds_if (d_eqT (hu64 hr) (d_lc (own := [("_law_head", 8)]) rfl nd (di_lst (dv 3)) (blkOk_by (N := ["_law_odds", "_law_whole", "_law_shares_so", "_law_due", "_law_found", "_law_at", "_law_top", "_law_below", "_law_head"]) (sc := defScope s_law_right) (own := [("_law_head", 8)]) (by decide +kernel)) (fun _ _ _ _ _ => (dg_name (i := 8) nd rfl (Or.inl rfl) (by decide))) (fun _ _ _ _ _ => (dp_one (d_leT  (d_mul (d_ix (dv 8) (dv 5)) (dv 6)) (d_mul (dv 7) (dv 1))))) (fun _ _ _ _ _ => (dv 8))) (d_lst da_nil)) (ds_one (ds_expr (d_append 4 (pv 4) (dv 5)))) ds_nil)))
      (ds_one (ds_ret (d_eq (hu64 hr) (d_callD g_surely_above.dk (hr.mono (by decide)) (da_cons (dv 0) (da_cons (dv 1) (da_cons (dv 2) da_nil)))) (dvz 4))))))))) (rd_law_right C)
end
end GS

-- text WN
set_option Elab.async false
set_option linter.all false
set_option maxRecDepth 100000
set_option maxHeartbeats 4000000
namespace GS
open PySem PySem.Spec PyProof.Rows L2 DL L2H
section
variable {P : Program} {w : World} {K : Fg} {mg : Str → Option Value} {base : Heap} {C : Str → Addr}
abbrev s_law_names : Stmt := top 58
theorem sc_law_names : FnScope ["_law_e", "_law_some_here", "_law_labels", "_law_label", "_law_good"] ["_law_e"] (defScope s_law_names) := ⟨rfl, rfl, rfl, by decide +kernel, rfl, by decide +kernel, by decide +kernel⟩
def t_law_names (C : Str → Addr) (K : Fg) (D0 a0 : Addr) : DS := (dSeq (dAsg (dLst (dCons (dCall (bIsE K D0 a0) (dCons (dVar 0) (dCons (dC (.raw (.ref (C "InvalidGame")))) dNil))) (dCons (dCall (bIsE K D0 a0) (dCons (dVar 0) (dCons (dC (.raw (.ref (C "InvalidShares")))) dNil))) (dCons (dCall (bIsE K D0 a0) (dCons (dVar 0) (dCons (dC (.raw (.ref (C "InvalidOutcome")))) dNil))) dNil)))) (dgName 1))
  (dSeq (dAsg (dOp dAdd (dVar 1) (dLst (dCons (dCall (bIsE K D0 a0) (dCons (dVar 0) (dCons (dC (.raw (.ref (C "InvalidNumber")))) dNil))) (dCons (dCall (bIsE K D0 a0) (dCons (dVar 0) (dCons (dC (.raw (.ref (C "InvalidTimes")))) dNil))) (dCons (dCall (bIsE K D0 a0) (dCons (dVar 0) (dCons (dC (.raw (.ref (C "InvalidNews")))) dNil))) dNil))))) (dgName 1))
  (dSeq (dAsg (dOp dAdd (dVar 1) (dLst (dCons (dCall (bIsE K D0 a0) (dCons (dVar 0) (dCons (dC (.raw (.ref (C "InvalidCounts")))) dNil))) (dCons (dCall (bIsE K D0 a0) (dCons (dVar 0) (dCons (dC (.raw (.ref (C "InvalidOdds")))) dNil))) (dCons (dCall (bIsE K D0 a0) (dCons (dVar 0) (dCons (dC (.raw (.ref (C "InvalidPair")))) dNil))) dNil))))) (dgName 1))
  (dSeq (dAsg (dOp dAdd (dVar 1) (dLst (dCons (dCall (bIsE K D0 a0) (dCons (dVar 0) (dCons (dC (.raw (.ref (C "InvalidBet")))) dNil))) (dCons (dCall (bIsE K D0 a0) (dCons (dVar 0) (dCons (dC (.raw (.ref (C "InvalidText")))) dNil))) (dCons (dCall (bIsE K D0 a0) (dCons (dVar 0) (dCons (dC (.raw (.ref (C "Unlike")))) dNil))) dNil))))) (dgName 1))
  (dSeq (dAsg (dOp dAdd (dVar 1) (dLst (dCons (dCall (bIsE K D0 a0) (dCons (dVar 0) (dCons (dC (.raw (.ref (C "NothingToUndo")))) dNil))) (dCons (dCall (bIsE K D0 a0) (dCons (dVar 0) (dCons (dC (.raw (.ref (C "TooMany")))) dNil))) (dCons (dCall (bIsE K D0 a0) (dCons (dVar 0) (dCons (dC (.raw (.ty "ValueError"))) dNil))) dNil))))) (dgName 1))
  (dSeq (dAsg (dC (.str (PySem.Str.ofString "game shares outcome number times news counts odds pair bet text unlike undo many value"))) (dgName 2))
  (dRet (dJoin (dC (.str (PySem.Str.ofString " "))) (dLc (diZip2 .l .l (dCons (dSplit (dVar 2) (dC (.str (PySem.Str.ofString " ")))) (dCons (dVar 1) dNil))) (dgTup (dgCons (dgName 3) (dgCons (dgName 4) dgNil))) (dTest (dVar 4)) (dVar 3) [3, 4])))))))))
theorem body_law_names {F0 : Og} {f : Addr} {cdv : Value} {A : Around} {outer : List Env} {s : Shared} {H : Hp} {p0 : Addr × Obj} {D0 : Addr} (b_isinstance : mg "isinstance" = none) (b_ValueError : mg "ValueError" = none) (b_zip : mg "zip" = none) (m_InvalidOutcome : mg "InvalidOutcome" = some (.ref (C "InvalidOutcome"))) (m_InvalidShares : mg "InvalidShares" = some (.ref (C "InvalidShares"))) (m_InvalidGame : mg "InvalidGame" = some (.ref (C "InvalidGame"))) (m_InvalidNews : mg "InvalidNews" = some (.ref (C "InvalidNews"))) (m_InvalidTimes : mg "InvalidTimes" = some (.ref (C "InvalidTimes"))) (m_InvalidNumber : mg "InvalidNumber" = some (.ref (C "InvalidNumber"))) (m_InvalidPair : mg "InvalidPair" = some (.ref (C "InvalidPair"))) (m_InvalidOdds : mg "InvalidOdds" = some (.ref (C "InvalidOdds"))) (m_InvalidCounts : mg "InvalidCounts" = some (.ref (C "InvalidCounts"))) (m_Unlike : mg "Unlike" = some (.ref (C "Unlike"))) (m_InvalidText : mg "InvalidText" = some (.ref (C "InvalidText"))) (m_InvalidBet : mg "InvalidBet" = some (.ref (C "InvalidBet"))) (m_TooMany : mg "TooMany" = some (.ref (C "TooMany"))) (m_NothingToUndo : mg "NothingToUndo" = some (.ref (C "NothingToUndo"))) (hot : Hot1 A p0) (hC : ExcC K D0) (hz : Zc (.ref D0) none p0.2) (hf : ∃ vs, p0.2.data = .fields vs) :
  PSs (cxH CX0 P w K mg base ["_law_e", "_law_some_here", "_law_labels", "_law_label", "_law_good"] "_law_names" (defScope s_law_names) f cdv A outer s H E0 p0) (defBody s_law_names) (lS K F0 (t_law_names C K D0 p0.1)) := by
  have nd := sc_law_names.nd
  have hp0 : p0 ∈ [p0] := List.mem_singleton.mpr rfl
  exact (ds_cons (ds_set (i := 1) nd rfl (Or.inl rfl) (d_lst (da_cons (d_callB (call_isP hp0 hC hz hf) lc_isE (by rfl) b_isinstance bb_isinstance (da_cons (dv 0) (da_cons (d_glC (by rfl) m_InvalidGame) da_nil))) (da_cons (d_callB (call_isP hp0 hC hz hf) lc_isE (by rfl) b_isinstance bb_isinstance (da_cons (dv 0) (da_cons (d_glC (by rfl) m_InvalidShares) da_nil))) (da_cons (d_callB (call_isP hp0 hC hz hf) lc_isE (by rfl) b_isinstance bb_isinstance (da_cons (dv 0) (da_cons (d_glC (by rfl) m_InvalidOutcome) da_nil))) da_nil)))))
      (ds_cons (ds_set (i := 1) nd rfl (Or.inl rfl) (d_add (dv 1) (d_lst (da_cons (d_callB (call_isP hp0 hC hz hf) lc_isE (by rfl) b_isinstance bb_isinstance (da_cons (dv 0) (da_cons (d_glC (by rfl) m_InvalidNumber) da_nil))) (da_cons (d_callB (call_isP hp0 hC hz hf) lc_isE (by rfl) b_isinstance bb_isinstance (da_cons (dv 0) (da_cons (d_glC (by rfl) m_InvalidTimes) da_nil))) (da_cons (d_callB (call_isP hp0 hC hz hf) lc_isE (by rfl) b_isinstance bb_isinstance (da_cons (dv 0) (da_cons (d_glC (by rfl) m_InvalidNews) da_nil))) da_nil))))))
      (ds_cons (ds_set (i := 1) nd rfl (Or.inl rfl) (d_add (dv 1) (d_lst (da_cons (d_callB (call_isP hp0 hC hz hf) lc_isE (by rfl) b_isinstance bb_isinstance (da_cons (dv 0) (da_cons (d_glC (by rfl) m_InvalidCounts) da_nil))) (da_cons (d_callB (call_isP hp0 hC hz hf) lc_isE (by rfl) b_isinstance bb_isinstance (da_cons (dv 0) (da_cons (d_glC (by rfl) m_InvalidOdds) da_nil))) (da_cons (d_callB (call_isP hp0 hC hz hf) lc_isE (by rfl) b_isinstance bb_isinstance (da_cons (dv 0) (da_cons (d_glC (by rfl) m_InvalidPair) da_nil))) da_nil))))))
      (ds_cons (ds_set (i := 1) nd rfl (Or.inl rfl) (d_add (dv 1) (d_lst (da_cons (d_callB (call_isP hp0 hC hz hf) lc_isE (by rfl) b_isinstance bb_isinstance (da_cons (dv 0) (da_cons (d_glC (by rfl) m_InvalidBet) da_nil))) (da_cons (d_callB (call_isP hp0 hC hz hf) lc_isE (by rfl) b_isinstance bb_isinstance (da_cons (dv 0) (da_cons (d_glC (by rfl) m_InvalidText) da_nil))) (da_cons (d_callB (call_isP hp0 hC hz hf) lc_isE (by rfl) b_isinstance bb_isinstance (da_cons (dv 0) (da_cons (d_glC (by rfl) m_Unlike) da_nil))) da_nil))))))
      (ds_cons (ds_set (i := 1) nd rfl (Or.inl rfl) (d_add (dv 1) (d_lst (da_cons (d_callB (call_isP hp0 hC hz hf) lc_isE (by rfl) b_isinstance bb_isinstance (da_cons (dv 0) (da_cons (d_glC (by rfl) m_NothingToUndo) da_nil))) (da_cons (d_callB (call_isP hp0 hC hz hf) lc_isE (by rfl) b_isinstance bb_isinstance (da_cons (dv 0) (da_cons (d_glC (by rfl) m_TooMany) da_nil))) (da_cons (d_callB (call_isP hp0 hC hz hf) lc_isE (by rfl) b_isinstance bb_isinstance (da_cons (dv 0) (da_cons (d_ty (by rfl) b_ValueError bt_ValueError) da_nil))) da_nil))))))
      (ds_cons (ds_set (i := 2) nd rfl (Or.inl rfl) d_str)
      (ds_one (ds_ret (d_join d_str (d_lcH (own := [("_law_label", 3), ("_law_good", 4)]) hot hp0 nd (di_zip2H (by rfl) b_zip (da_cons (d_split (dv 2) d_str) (da_cons (dv 1) da_nil))) (blkOk_by (N := ["_law_e", "_law_some_here", "_law_labels", "_law_label", "_law_good"]) (sc := defScope s_law_names) (own := [("_law_label", 3), ("_law_good", 4)]) (by decide +kernel)) (fun _ _ _ _ _ => (dg_tupH 2 ⟨p0, hot, List.mem_singleton.mpr rfl⟩ (dgs_cons (dg_name (i := 3) nd rfl (Or.inl rfl) (by decide)) (dgs_cons (dg_name (i := 4) nd rfl (Or.inl rfl) (by decide)) dgs_nil)) (gl_cons (gl_cons (fun _ _ _ _ h => gl_nil h) gx_name) gx_name))) (fun _ _ _ _ _ => (dp_one (d_test (dv 4)))) (fun _ _ _ _ _ => (dv 3))))))))))))
end
end GS

-- text WR
set_option Elab.async false
set_option linter.all false
set_option maxRecDepth 100000
set_option maxHeartbeats 4000000
namespace GS
open PySem PySem.Spec PyProof.Rows L2 DL
def labels : List Str := ["game", "shares", "outcome", "number", "times", "news", "counts", "odds", "pair", "bet", "text", "unlike", "undo", "many", "value"]
def namesT (fl : List Bool) : Str := Txt.join (PySem.Str.ofString " ") (((labels.zip fl).filter fun p => p.2).map fun p => p.1)
theorem labels_split : Txt.split (PySem.Str.ofString "game shares outcome number times news counts odds pair bet text unlike undo many value") (PySem.Str.ofString " ") = labels := by decide +kernel
theorem rd_law_names (C : Str → Addr) (K : Fg) (D0 a : Addr) (fl : Str → Bool) (h : ∀ x ∈ (["InvalidGame", "InvalidShares", "InvalidOutcome", "InvalidNumber", "InvalidTimes", "InvalidNews", "InvalidCounts", "InvalidOdds", "InvalidPair", "InvalidBet", "InvalidText", "Unlike", "NothingToUndo", "TooMany"] : List Str), PySem.W.kitOne K (.ref D0) (.ref (C x)) = some (fl x)) (hv : PySem.W.kitOne K (.ref D0) (.type "ValueError") = some (fl "ValueError")) (μ : Mu) (Q : DQ)
    (q : Q (.str (namesT ((["InvalidGame", "InvalidShares", "InvalidOutcome", "InvalidNumber", "InvalidTimes", "InvalidNews", "InvalidCounts", "InvalidOdds", "InvalidPair", "InvalidBet", "InvalidText", "Unlike", "NothingToUndo", "TooMany", "ValueError"] : List Str).map fl))) μ) :
    t_law_names C K D0 a { nx := fun _ μ' => Q .non μ', rt := Q } [some (.raw (.ref a)), none, none, none, none] μ := by
  have one : ∀ (x : Str) (Q : DQ), x ∈ (["InvalidGame", "InvalidShares", "InvalidOutcome", "InvalidNumber", "InvalidTimes", "InvalidNews", "InvalidCounts", "InvalidOdds", "InvalidPair", "InvalidBet", "InvalidText", "Unlike", "NothingToUndo", "TooMany"] : List Str) → ∀ ρ : En, ρ[0]? = some (some (.raw (.ref a))) → Q (.bl (fl x)) μ → dCall (bIsE K D0 a) (dCons (dVar 0) (dCons (dC (.raw (.ref (C x)))) dNil)) ρ μ Q := by
    intro x Q hx ρ hρ hq
    show dVar 0 ρ μ _
    unfold dVar
    rw [hρ]
    exact ⟨rfl, .ref (C x), fl x, fun u hu => hu, h x hx, hq⟩
  have two : ∀ (Q : DQ) (ρ : En), ρ[0]? = some (some (.raw (.ref a))) → Q (.bl (fl "ValueError")) μ → dCall (bIsE K D0 a) (dCons (dVar 0) (dCons (dC (.raw (.ty "ValueError"))) dNil)) ρ μ Q := by
    intro Q ρ hρ hq
    show dVar 0 ρ μ _
    unfold dVar
    rw [hρ]
    exact ⟨rfl, .type "ValueError", fl "ValueError", fun u hu => hu, hv, hq⟩
  have e3 : ∀ (x y z : Str), x ∈ (["InvalidGame", "InvalidShares", "InvalidOutcome", "InvalidNumber", "InvalidTimes", "InvalidNews", "InvalidCounts", "InvalidOdds", "InvalidPair", "InvalidBet", "InvalidText", "Unlike", "NothingToUndo", "TooMany"] : List Str) → y ∈ (["InvalidGame", "InvalidShares", "InvalidOutcome", "InvalidNumber", "InvalidTimes", "InvalidNews", "InvalidCounts", "InvalidOdds", "InvalidPair", "InvalidBet", "InvalidText", "Unlike", "NothingToUndo", "TooMany"] : List Str) → z ∈ (["InvalidGame", "InvalidShares", "InvalidOutcome", "InvalidNumber", "InvalidTimes", "InvalidNews", "InvalidCounts", "InvalidOdds", "InvalidPair", "InvalidBet", "InvalidText", "Unlike", "NothingToUndo", "TooMany"] : List Str) → ∀ ρ : En, ρ[0]? = some (some (.raw (.ref a))) → Ev (dLst (dCons (dCall (bIsE K D0 a) (dCons (dVar 0) (dCons (dC (.raw (.ref (C x)))) dNil))) (dCons (dCall (bIsE K D0 a) (dCons (dVar 0) (dCons (dC (.raw (.ref (C y)))) dNil))) (dCons (dCall (bIsE K D0 a) (dCons (dVar 0) (dCons (dC (.raw (.ref (C z)))) dNil))) dNil)))) ρ μ (.lst ([fl x, fl y, fl z].map D.bl)) :=
    fun x y z hx hy hz ρ hρ => .lst (.cons (fun Q q => one x Q hx ρ hρ q) (.cons (fun Q q => one y Q hy ρ hρ q) (.cons (fun Q q => one z Q hz ρ hρ q) .nil))) (show 3 ≤ sizeLine by decide)
  have e3v : ∀ (x y : Str), x ∈ (["InvalidGame", "InvalidShares", "InvalidOutcome", "InvalidNumber", "InvalidTimes", "InvalidNews", "InvalidCounts", "InvalidOdds", "InvalidPair", "InvalidBet", "InvalidText", "Unlike", "NothingToUndo", "TooMany"] : List Str) → y ∈ (["InvalidGame", "InvalidShares", "InvalidOutcome", "InvalidNumber", "InvalidTimes", "InvalidNews", "InvalidCounts", "InvalidOdds", "InvalidPair", "InvalidBet", "InvalidText", "Unlike", "NothingToUndo", "TooMany"] : List Str) → ∀ ρ : En, ρ[0]? = some (some (.raw (.ref a))) → Ev (dLst (dCons (dCall (bIsE K D0 a) (dCons (dVar 0) (dCons (dC (.raw (.ref (C x)))) dNil))) (dCons (dCall (bIsE K D0 a) (dCons (dVar 0) (dCons (dC (.raw (.ref (C y)))) dNil))) (dCons (dCall (bIsE K D0 a) (dCons (dVar 0) (dCons (dC (.raw (.ty "ValueError"))) dNil))) dNil)))) ρ μ (.lst ([fl x, fl y, fl "ValueError"].map D.bl)) :=
    fun x y hx hy ρ hρ => .lst (.cons (fun Q q => one x Q hx ρ hρ q) (.cons (fun Q q => one y Q hy ρ hρ q) (.cons (fun Q q => two Q ρ hρ q) .nil))) (show 3 ≤ sizeLine by decide)
  have ad : ∀ (l1 l2 : List Bool) (t : DE), Ev t [some (.raw (.ref a)), some (.lst (l1.map D.bl)), none, none, none] μ (.lst (l2.map D.bl)) → l1.length + l2.length ≤ 20 → Ev (dOp dAdd (dVar 1) t) [some (.raw (.ref a)), some (.lst (l1.map D.bl)), none, none, none] μ (.lst ((l1 ++ l2).map D.bl)) := by
    intro l1 l2 t ht hl
    rw [List.map_append]
    exact .addL .var ht (by simp only [List.length_map]; rw [sizeLine_eq]; omega)
  have h0 := e3 "InvalidGame" "InvalidShares" "InvalidOutcome" (by simp) (by simp) (by simp) [some (.raw (.ref a)), none, none, none, none] rfl
  have h1 := ad [fl "InvalidGame", fl "InvalidShares", fl "InvalidOutcome"] [fl "InvalidNumber", fl "InvalidTimes", fl "InvalidNews"] _ (e3 "InvalidNumber" "InvalidTimes" "InvalidNews" (by simp) (by simp) (by simp) [some (.raw (.ref a)), some (.lst (([fl "InvalidGame", fl "InvalidShares", fl "InvalidOutcome"] : List Bool).map D.bl)), none, none, none] rfl) (show 20 ≥ _ from by simp only [List.length_cons, List.length_nil]; omega)
  have h2 := ad [fl "InvalidGame", fl "InvalidShares", fl "InvalidOutcome", fl "InvalidNumber", fl "InvalidTimes", fl "InvalidNews"] [fl "InvalidCounts", fl "InvalidOdds", fl "InvalidPair"] _ (e3 "InvalidCounts" "InvalidOdds" "InvalidPair" (by simp) (by simp) (by simp) [some (.raw (.ref a)), some (.lst (([fl "InvalidGame", fl "InvalidShares", fl "InvalidOutcome", fl "InvalidNumber", fl "InvalidTimes", fl "InvalidNews"] : List Bool).map D.bl)), none, none, none] rfl) (show 20 ≥ _ from by simp only [List.length_cons, List.length_nil]; omega)
  have h3 := ad [fl "InvalidGame", fl "InvalidShares", fl "InvalidOutcome", fl "InvalidNumber", fl "InvalidTimes", fl "InvalidNews", fl "InvalidCounts", fl "InvalidOdds", fl "InvalidPair"] [fl "InvalidBet", fl "InvalidText", fl "Unlike"] _ (e3 "InvalidBet" "InvalidText" "Unlike" (by simp) (by simp) (by simp) [some (.raw (.ref a)), some (.lst (([fl "InvalidGame", fl "InvalidShares", fl "InvalidOutcome", fl "InvalidNumber", fl "InvalidTimes", fl "InvalidNews", fl "InvalidCounts", fl "InvalidOdds", fl "InvalidPair"] : List Bool).map D.bl)), none, none, none] rfl) (show 20 ≥ _ from by simp only [List.length_cons, List.length_nil]; omega)
  have h4 := ad [fl "InvalidGame", fl "InvalidShares", fl "InvalidOutcome", fl "InvalidNumber", fl "InvalidTimes", fl "InvalidNews", fl "InvalidCounts", fl "InvalidOdds", fl "InvalidPair", fl "InvalidBet", fl "InvalidText", fl "Unlike"] [fl "NothingToUndo", fl "TooMany", fl "ValueError"] _ (e3v "NothingToUndo" "TooMany" (by simp) (by simp) [some (.raw (.ref a)), some (.lst (([fl "InvalidGame", fl "InvalidShares", fl "InvalidOutcome", fl "InvalidNumber", fl "InvalidTimes", fl "InvalidNews", fl "InvalidCounts", fl "InvalidOdds", fl "InvalidPair", fl "InvalidBet", fl "InvalidText", fl "Unlike"] : List Bool).map D.bl)), none, none, none] rfl) (show 20 ≥ _ from by simp only [List.length_cons, List.length_nil]; omega)
  unfold t_law_names
  refine step_of (ρ' := [some (.raw (.ref a)), some (.lst (([fl "InvalidGame", fl "InvalidShares", fl "InvalidOutcome"] : List Bool).map D.bl)), none, none, none]) h0 rfl ?_
  refine step_of (ρ' := [some (.raw (.ref a)), some (.lst (([fl "InvalidGame", fl "InvalidShares", fl "InvalidOutcome", fl "InvalidNumber", fl "InvalidTimes", fl "InvalidNews"] : List Bool).map D.bl)), none, none, none]) h1 rfl ?_
  refine step_of (ρ' := [some (.raw (.ref a)), some (.lst (([fl "InvalidGame", fl "InvalidShares", fl "InvalidOutcome", fl "InvalidNumber", fl "InvalidTimes", fl "InvalidNews", fl "InvalidCounts", fl "InvalidOdds", fl "InvalidPair"] : List Bool).map D.bl)), none, none, none]) h2 rfl ?_
  refine step_of (ρ' := [some (.raw (.ref a)), some (.lst (([fl "InvalidGame", fl "InvalidShares", fl "InvalidOutcome", fl "InvalidNumber", fl "InvalidTimes", fl "InvalidNews", fl "InvalidCounts", fl "InvalidOdds", fl "InvalidPair", fl "InvalidBet", fl "InvalidText", fl "Unlike"] : List Bool).map D.bl)), none, none, none]) h3 rfl ?_
  refine step_of (ρ' := [some (.raw (.ref a)), some (.lst (([fl "InvalidGame", fl "InvalidShares", fl "InvalidOutcome", fl "InvalidNumber", fl "InvalidTimes", fl "InvalidNews", fl "InvalidCounts", fl "InvalidOdds", fl "InvalidPair", fl "InvalidBet", fl "InvalidText", fl "Unlike", fl "NothingToUndo", fl "TooMany", fl "ValueError"] : List Bool).map D.bl)), none, none, none]) h4 rfl ?_
  refine step_of (ρ' := [some (.raw (.ref a)), some (.lst (([fl "InvalidGame", fl "InvalidShares", fl "InvalidOutcome", fl "InvalidNumber", fl "InvalidTimes", fl "InvalidNews", fl "InvalidCounts", fl "InvalidOdds", fl "InvalidPair", fl "InvalidBet", fl "InvalidText", fl "Unlike", fl "NothingToUndo", fl "TooMany", fl "ValueError"] : List Bool).map D.bl)), some (.str (PySem.Str.ofString "game shares outcome number times news counts odds pair bet text unlike undo many value")), none, none]) (d := .str (PySem.Str.ofString "game shares outcome number times news counts odds pair bet text unlike undo many value")) Ev.con rfl ?_
  generalize hfs : (["InvalidGame", "InvalidShares", "InvalidOutcome", "InvalidNumber", "InvalidTimes", "InvalidNews", "InvalidCounts", "InvalidOdds", "InvalidPair", "InvalidBet", "InvalidText", "Unlike", "NothingToUndo", "TooMany", "ValueError"] : List Str).map fl = fs at q
  have hl : fs.length = 15 := by rw [← hfs]; rfl
  have hρ : ∀ Y : En → Prop, Y [some (.raw (.ref a)), some (.lst (fs.map D.bl)), some (.str (PySem.Str.ofString "game shares outcome number times news counts odds pair bet text unlike undo many value")), none, none] → Y [some (.raw (.ref a)), some (.lst (fs.map D.bl)), some (.str (PySem.Str.ofString "game shares outcome number times news counts odds pair bet text unlike undo many value")), none, none] := fun _ y => y
  have main : dRet (dJoin (dC (.str (PySem.Str.ofString " "))) (dLc (diZip2 .l .l (dCons (dSplit (dVar 2) (dC (.str (PySem.Str.ofString " ")))) (dCons (dVar 1) dNil))) (dgTup (dgCons (dgName 3) (dgCons (dgName 4) dgNil))) (dTest (dVar 4)) (dVar 3) [3, 4])) { nx := fun _ μ' => Q .non μ', rt := Q } [some (.raw (.ref a)), some (.lst (fs.map D.bl)), some (.str (PySem.Str.ofString "game shares outcome number times news counts odds pair bet text unlike undo many value")), none, none] μ := by
    simp only [dRaise, dCallX, dRet, dRetN, dSeq, dNext, dDrop, dIfS, dNever, dAsg, dPar, dPar3, dgName, dgTup, dgLst, dgNil, dgCons, dgSub, dOp, dTest, dChain, dVar, dFrz, dC, dAdd, dSub, dMulT, dDiv, dMod, dPow, dLt, dLe, dGt, dGe, dInt0, dInt2, dEq, dNe, dIn, dNotIn, dIsN, dNotN, dAnd, dOr, dNot, dAndV, dOrV, dNotV, dIf, dNil, dCons, dTup, dLst, dLstM, dIx, dSlice, dNo, dPart, dCall, dCallF, bAbs, bLen, bSum, bAll, bAny, bInt, bStr, bTup, bLst, bIsi, dLc_eq, dFor_eq, dWhile_eq, diLst, diTup, diRng1, diRng2, diZip2, diZip3, diEnum, diSeq, dYes, dAppend, dRepL, dJoin, dSplit, List.getElem?_cons_zero, List.getElem?_cons_succ, List.set_cons_zero, List.set_cons_succ, List.map_cons, List.map_nil, List.cons_append, List.nil_append, List.replicate, List.length_cons, List.length_nil, dwipe, atI_0, atI_1, ex_some]
    refine ⟨by decide, by decide, labels.map D.str, fs.map D.bl, ?_, ?_, ?_⟩
    · rw [labels_split]
      rfl
    · simp [hl, labels]
    · refine LcB.fm (labels.zip fs) (fun p => .tup [.str p.1, .bl p.2]) (fun p => if p.2 = true then some (.str p.1) else none) (zip2D_map D.str D.bl labels fs) ?_ ?_ ?_
      · simp only [List.length_zip, hl, labels]
        decide
      · rintro ⟨x, b⟩ hm R hR
        simp only [dRaise, dCallX, dRet, dRetN, dSeq, dNext, dDrop, dIfS, dNever, dAsg, dPar, dPar3, dgName, dgTup, dgLst, dgNil, dgCons, dgSub, dOp, dTest, dChain, dVar, dFrz, dC, dAdd, dSub, dMulT, dDiv, dMod, dPow, dLt, dLe, dGt, dGe, dInt0, dInt2, dEq, dNe, dIn, dNotIn, dIsN, dNotN, dAnd, dOr, dNot, dAndV, dOrV, dNotV, dIf, dNil, dCons, dTup, dLst, dLstM, dIx, dSlice, dNo, dPart, dCall, dCallF, bAbs, bLen, bSum, bAll, bAny, bInt, bStr, bTup, bLst, bIsi, dLc_eq, dFor_eq, dWhile_eq, diLst, diTup, diRng1, diRng2, diZip2, diZip3, diEnum, diSeq, dYes, dAppend, dRepL, dJoin, dSplit, List.getElem?_cons_zero, List.getElem?_cons_succ, List.set_cons_zero, List.set_cons_succ, List.map_cons, List.map_nil, List.cons_append, List.nil_append, List.replicate, List.length_cons, List.length_nil, dwipe, atI_0, atI_1, ex_some]
        cases b with
        | true => exact hR
        | false => exact hR
      · rw [filt_some (fun p : Str × Bool => p.2) (fun p => D.str p.1)]
        refine ⟨((labels.zip fs).filter fun (p : Str × Bool) => p.2).map fun (p : Str × Bool) => p.1, by rw [List.map_map]; rfl, ?_, q⟩
        have b1 : ∀ l : List (Str × Bool), (∀ p ∈ l, p.1.length ≤ 10) → ((((l.filter fun p => p.2).map fun p => p.1).map (·.length)).sum ≤ 10 * l.length ∧ ((l.filter fun p => p.2).map fun p => p.1).length ≤ l.length) := by
          intro l
          induction l with
          | nil => simp
          | cons p l ih =>
            intro hp
            have h1 := ih fun p hp' => hp p (List.mem_cons_of_mem _ hp')
            have h2 := hp p (by simp)
            cases hb : p.2 with
            | true =>
              simp only [List.filter_cons, hb, if_true, List.map_cons, List.sum_cons, List.length_cons]
              omega
            | false =>
              simp only [List.filter_cons, hb, Bool.false_eq_true, if_false, List.length_cons]
              omega
        have b2 := b1 (labels.zip fs) fun p hp => by
          have := (List.of_mem_zip hp).1
          have b3 : ∀ x ∈ labels, x.length ≤ 10 := by decide +kernel
          exact b3 _ this
        have b4 : (labels.zip fs).length = 15 := by simp [hl, labels]
        rw [b4] at b2
        have b5 : (Str.ofString " ").length = 1 := by decide +kernel
        rw [b5]
        omega
  subst hfs
  exact main
end GS

-- text WE
set_option Elab.async false
set_option linter.all false
set_option maxRecDepth 100000
set_option maxHeartbeats 4000000
/-! WE: the names of a caught error, called in the except suite. -/
namespace GS
open PySem PySem.Spec PyProof.Rows L2 DL L2H HotX
/-- the text for an error's class -/
def nmE (C : Str → Addr) : Value → Str → Prop := fun cls t => ∃ x y : Str, ((x = "InvalidOdds" ∧ y = "odds value") ∨ (x = "InvalidNumber" ∧ y = "number value") ∨ (x = "InvalidShares" ∧ y = "shares value")) ∧ cls = .ref (C x) ∧ t = y
def clsN : List Str := ["InvalidGame", "InvalidShares", "InvalidOutcome", "InvalidNumber", "InvalidTimes", "InvalidNews", "InvalidCounts", "InvalidOdds", "InvalidPair", "InvalidBet", "InvalidText", "Unlike", "NothingToUndo", "TooMany"]
/-- what the head tells of an error's class -/
structure ErrF (K : Fg) (C : Str → Addr) (x : Str) : Prop where
  exc : ExcC K (C x)
  kit : ∀ y ∈ clsN, PySem.W.kitOne K (.ref (C x)) (.ref (C y)) = some (decide (x = y))
  val : PySem.W.kitOne K (.ref (C x)) (.type "ValueError") = some true
theorem nv : ∀ y ∈ clsN, decide (y = "ValueError") = false := by decide +kernel
theorem nt1 : namesT ((["InvalidGame", "InvalidShares", "InvalidOutcome", "InvalidNumber", "InvalidTimes", "InvalidNews", "InvalidCounts", "InvalidOdds", "InvalidPair", "InvalidBet", "InvalidText", "Unlike", "NothingToUndo", "TooMany", "ValueError"] : List Str).map fun y => decide (("InvalidOdds" : Str) = y) || decide (y = "ValueError")) = "odds value" := by decide +kernel
theorem nt2 : namesT ((["InvalidGame", "InvalidShares", "InvalidOutcome", "InvalidNumber", "InvalidTimes", "InvalidNews", "InvalidCounts", "InvalidOdds", "InvalidPair", "InvalidBet", "InvalidText", "Unlike", "NothingToUndo", "TooMany", "ValueError"] : List Str).map fun y => decide (("InvalidNumber" : Str) = y) || decide (y = "ValueError")) = "number value" := by decide +kernel
theorem nt3 : namesT ((["InvalidGame", "InvalidShares", "InvalidOutcome", "InvalidNumber", "InvalidTimes", "InvalidNews", "InvalidCounts", "InvalidOdds", "InvalidPair", "InvalidBet", "InvalidText", "Unlike", "NothingToUndo", "TooMany", "ValueError"] : List Str).map fun y => decide (("InvalidShares" : Str) = y) || decide (y = "ValueError")) = "shares value" := by decide +kernel
theorem pe_names {X : Cx} {F0 : Og} {C : Str → Addr} {a0 : Addr} {oe : Obj} {cls : Value} {t : Str} {fN : Addr} {fdN : FuncData} {e1 : Expr} {q pos : Pos} (fnN : Fun X.K "_law_names" "_law_names" s_law_names fN fdN) (mN : X.mg "_law_names" = some (.ref fN))
    (b_isinstance : X.mg "isinstance" = none) (b_ValueError : X.mg "ValueError" = none) (b_zip : X.mg "zip" = none) (mC : ∀ x ∈ clsN, X.mg x = some (.ref (C x)))
    (hE : ∀ x ∈ (["InvalidOdds", "InvalidNumber", "InvalidShares"] : List Str), ErrF X.K C x)
    (hh : X.A.handled = some (.ref a0)) (hp : (a0, oe) ∈ X.pn) (hr : RoomH 3 X.A) (hz : L2N.Zn cls none oe) (hv : ∃ vs, oe.data = .fields vs) (hn : nmE C cls t) (ha : PA X [e1] (lA X.K F0 (dCons (dVar 1) dNil)))
    (hg : Gl X "_law_names" := by rfl) (he : starEach [e1] X.env = (false, eval e1 X.env) :: starEach [] X.env := by rfl) (hpl : (backTo pos (starEach [] X.env)).any (·.1) = false := by rfl) :
    PE X (.Call (.Name "_law_names" q) [e1] [] pos) (lE X.K F0 (fun ρ μ Q => ρ[1]? = some (some (.raw (.ref a0))) ∧ Q (.str t) μ)) := by
  obtain ⟨x, y, hxy, rfl, rfl⟩ := hn
  obtain ⟨vs, hvs⟩ := hv
  have hot : Hot1 X.A (a0, oe) := ⟨hh, vs, hvs, hz.2.2 vs hvs⟩
  have hx : x ∈ (["InvalidOdds", "InvalidNumber", "InvalidShares"] : List Str) := by
    rcases hxy with ⟨rfl, _⟩ | ⟨rfl, _⟩ | ⟨rfl, _⟩ <;> simp
  have F := hE x hx
  refine d_imp (d_callP (p0 := (a0, oe)) (k := 2) hot hp fnN mN sc_law_names (fun _ _ _ _ _ _ us hl => match us, hl with | [_], _ => rfl) hr ha
    (fun F0' cdv A outer s H hA hr2 => body_law_names b_isinstance b_ValueError b_zip (mC _ (by simp [clsN])) (mC _ (by simp [clsN])) (mC _ (by simp [clsN])) (mC _ (by simp [clsN])) (mC _ (by simp [clsN])) (mC _ (by simp [clsN])) (mC _ (by simp [clsN])) (mC _ (by simp [clsN])) (mC _ (by simp [clsN])) (mC _ (by simp [clsN])) (mC _ (by simp [clsN])) (mC _ (by simp [clsN])) (mC _ (by simp [clsN])) (mC _ (by simp [clsN])) hA F.exc ⟨hz.1, hz.2.1⟩ ⟨vs, hvs⟩) hg (by decide) he hpl) ?_
  rintro ρ μ Q ⟨h1, hq⟩
  show dVar 1 ρ μ _
  unfold dVar
  rw [h1]
  refine ⟨rfl, ?_⟩
  refine rd_law_names C X.K (C x) a0 (fun y => decide (x = y) || decide (y = "ValueError")) ?_ ?_ μ Q ?_
  · intro y hy
    rw [F.kit y hy, nv y hy, Bool.or_false]
  · rw [F.val, decide_eq_true (show (("ValueError" : Str) = "ValueError") from rfl), Bool.or_true]
  · rcases hxy with ⟨rfl, rfl⟩ | ⟨rfl, rfl⟩ | ⟨rfl, rfl⟩
    · rw [nt1]
      exact hq
    · rw [nt2]
      exact hq
    · rw [nt3]
      exact hq
end GS

-- text WL
set_option Elab.async false
set_option linter.all false
set_option maxRecDepth 100000
set_option maxHeartbeats 4000000
namespace GS
open PySem PySem.Spec PyProof.Rows L2 DL L2H HotX LamX
section
variable {P : Program} {w : World} {K : Fg} {mg : Str → Option Value} {base : Heap} {C : Str → Addr}
abbrev s_law_error : Stmt := top 59
theorem sc_law_error : FnScope ["_law_call", "_law_e"] ["_law_call"] (defScope s_law_error) := ⟨rfl, rfl, rfl, by decide +kernel, rfl, by decide +kernel, by decide +kernel⟩
abbrev s_law : Stmt := top 62
theorem sc_law : FnScope ["_law_script", "_law_cell", "_law_drum_here", "_law_one", "_law_many", "_law_odds", "_law_whole", "_law_some_here", "_law_weights", "_law_shares_so", "_law_odd", "_law_found", "_law_first", "_law_second", "_law_half", "_law_keep", "_law_all_in", "_law_told"] ["_law_script"] (defScope s_law) := ⟨rfl, rfl, rfl, by decide +kernel, rfl, by decide +kernel, by decide +kernel⟩
def qL : Str := "law.<locals>.<lambda>"
def t_law (C : Str → Addr) (P0 : Addr) : DS := (dSeq (dFor (diLst (dSlice (dOp dAdd (dLst (dCons (dC (.int 0)) dNil)) (dVar 0)) dNo (dPart (dC (.int 8))))) (dgName 1) (dSeq (dAsg (dCallF sp_law_drum (dCons (dVar 1) (dCons (dC (.int 9)) dNil))) (dgName 2))
  (dSeq (dAsg (dCallF sp_law_game (dCons (dVar 2) dNil)) (dgName 3))
  (dSeq (dAsg (dTup (dCons (dCall bLen (dCons (dOp dIx (dVar 3) (dC (.int 0))) dNil)) (dCons (dOp dIx (dVar 3) (dC (.int 1))) dNil))) (dgTup (dgCons (dgName 4) (dgCons (dgName 5) dgNil))))
  (dSeq (dAsg (dOp dAdd (dVar 4) (dCallF sp_law_roll (dCons (dVar 2) (dCons (dOp dIx (dLst (dCons (dC (.int 19)) (dCons (dC (.int 14)) (dCons (dC (.int 9)) (dCons (dC (.int 6)) dNil))))) (dOp dSub (dVar 4) (dC (.int 2)))) dNil)))) (dgName 6))
  (dSeq (dAsg (dCallF sp_law_every (dCons (dVar 4) (dCons (dVar 6) dNil))) (dgName 7))
  (dSeq (dAsg (dCallF sp_law_some (dCons (dVar 2) (dCons (dVar 7) dNil))) (dgName 8))
  (dSeq (dFor (diTup (dTup (dCons (dCallF sp_law_best (dCons (dVar 8) (dCons (dVar 5) dNil))) (dCons (dCallF sp_law_shares (dCons (dVar 2) (dCons (dVar 3) dNil))) (dCons (dOp dAdd (dTup (dCons (dTup (dCons (dC (.int 1)) (dCons (dC (.int 1)) dNil))) dNil)) (dOp dMulT (dTup (dCons (dTup (dCons (dC (.int 0)) (dCons (dC (.int 1)) dNil))) dNil)) (dVar 4))) dNil))))) (dgName 9) (dIfS (dNot (dTest (dCallF sp_law_right (dCons (dVar 5) (dCons (dVar 6) (dCons (dVar 9) dNil)))))) (dRet (dC (.bl false))) dNext))
  (dSeq (dIfS (dTest (dOp dNotIn (dVar 8) (dCallF (sp_weights_told C) (dCons (dVar 5) (dCons (dVar 6) (dCons (dCallF sp_law_best (dCons (dVar 8) (dCons (dVar 5) dNil))) dNil)))))) (dRet (dC (.bl false))) dNext)
  (dSeq (dFor (diTup (dTup (dCons (dC .non) (dCons (dTup dNil) (dCons (dSlice (dVar 5) dNo (dPart (dC (.int 1)))) (dCons (dCall bLst (dCons (dVar 5) dNil)) (dCons (dOp dMulT (dVar 5) (dC (.int 3))) (dCons (dOp dMulT (dTup (dCons (dTup (dCons (dC (.int 2)) (dCons (dC (.int 2)) dNil))) dNil)) (dVar 4)) (dCons (dOp dMulT (dTup (dCons (dTup (dCons (dC (.int 0)) (dCons (dC (.int 1)) dNil))) dNil)) (dVar 4)) (dCons (dOp dMulT (dTup (dCons (dTup (dCons (dC (.int 1001)) (dCons (dC (.int 1)) dNil))) dNil)) (dVar 4)) dNil)))))))))) (dgName 10) (dSeq (dAsg (dLstM (dCons (dLam P0 qL (PySem.Str.ofString "") (nmE C) (fun Ew => (dCallX (sp_weights_told C) Ew (dCons (dVar 10) (dCons (dC .non) (dCons (dC .non) dNil)))))) dNil)) (dgName 11))
  (dSeq (dDrop (dAppend 11 (dLam P0 qL (PySem.Str.ofString "") (nmE C) (fun Ew => (dCallX (sp_surely_above C) Ew (dCons (dVar 10) (dCons (dC .non) (dCons (dC .non) dNil))))))))
  (dIfS (dTest (dOp dNe (dFrz 11) (dRepL (dCons (dC (.str (PySem.Str.ofString "odds value"))) dNil) (dC (.int 2))))) (dRet (dC (.bl false))) dNext))))
  (dSeq (dFor (diTup (dTup (dCons (dC .non) (dCons (dOp dSub (dVar 4) (dC (.int 1))) (dCons (dC (.int 21)) (dCons (dC (.bl true)) (dCons (dC (.str (PySem.Str.ofString "5"))) dNil))))))) (dgName 10) (dSeq (dAsg (dLstM (dCons (dLam P0 qL (PySem.Str.ofString "") (nmE C) (fun Ew => (dCallX (sp_weights_told C) Ew (dCons (dVar 5) (dCons (dVar 10) (dCons (dC .non) dNil)))))) dNil)) (dgName 11))
  (dSeq (dDrop (dAppend 11 (dLam P0 qL (PySem.Str.ofString "") (nmE C) (fun Ew => (dCallX (sp_surely_above C) Ew (dCons (dVar 5) (dCons (dVar 10) (dCons (dC .non) dNil))))))))
  (dIfS (dTest (dOp dNe (dFrz 11) (dRepL (dCons (dC (.str (PySem.Str.ofString "number value"))) dNil) (dC (.int 2))))) (dRet (dC (.bl false))) dNext))))
  (dFor (diTup (dTup (dCons (dC .non) (dCons (dTup dNil) (dCons (dOp dMulT (dTup (dCons (dTup (dCons (dC (.int 1)) (dCons (dC (.int 1)) dNil))) dNil)) (dVar 4)) (dCons (dTup (dCons (dTup (dCons (dC (.int 1)) (dCons (dC (.int 1)) dNil))) dNil)) (dCons (dC (.int 1)) dNil))))))) (dgName 10) (dSeq (dAsg (dLstM (dCons (dLam P0 qL (PySem.Str.ofString "") (nmE C) (fun Ew => (dCallX (sp_weights_told C) Ew (dCons (dVar 5) (dCons (dVar 6) (dCons (dVar 10) dNil)))))) dNil)) (dgName 11))
  (dSeq (dDrop (dAppend 11 (dLam P0 qL (PySem.Str.ofString "") (nmE C) (fun Ew => (dCallX (sp_surely_above C) Ew (dCons (dVar 5) (dCons (dVar 6) (dCons (dVar 10) dNil))))))))
  (dIfS (dTest (dOp dNe (dFrz 11) (dRepL (dCons (dC (.str (PySem.Str.ofString "shares value"))) dNil) (dC (.int 2))))) (dRet (dC (.bl false))) dNext)))))))))))))))
  (dSeq (dAsg (dCallF sp_law_known dNil) (dgLst (dgCons (dgName 12) (dgCons (dgName 13) (dgCons (dgName 14) (dgCons (dgName 15) (dgCons (dgName 16) dgNil)))))))
  (dSeq (dAsg (dOp dIx (dVar 12) (dC (.int 1))) (dgName 5))
  (dSeq (dIfS (dOr (dTest (dOp dNe (dCallF (sp_weights_told C) (dCons (dVar 5) (dCons (dC (.int 2)) (dCons (dVar 14) dNil)))) (dLst (dCons (dTup (dCons (dC (.int 1)) (dCons (dC (.int 1)) dNil))) dNil)))) (dTest (dOp dNe (dCallF (sp_weights_told C) (dCons (dVar 5) (dCons (dC (.int 4)) (dCons (dVar 14) dNil)))) (dLst (dCons (dTup (dCons (dC (.int 2)) (dCons (dC (.int 2)) dNil))) dNil))))) (dRet (dC (.bl false))) dNext)
  (dSeq (dIfS (dOr (dTest (dOp dNe (dCallF (sp_weights_told C) (dCons (dVar 5) (dCons (dC (.int 6)) (dCons (dVar 15) dNil)))) (dLst (dCons (dTup (dCons (dC (.int 1)) (dCons (dC (.int 5)) dNil))) (dCons (dTup (dCons (dC (.int 2)) (dCons (dC (.int 4)) dNil))) dNil))))) (dTest (dOp dNe (dCallF (sp_weights_told C) (dCons (dVar 5) (dCons (dC (.int 6)) (dCons (dVar 16) dNil)))) (dLst dNil)))) (dRet (dC (.bl false))) dNext)
  (dSeq (dIfS (dTest (dOp dNe (dCallF (sp_weights_told C) (dCons (dTup (dCons (dTup (dCons (dC (.int 2)) (dCons (dC (.int 1)) dNil))) (dCons (dTup (dCons (dC (.int 2)) (dCons (dC (.int 1)) dNil))) dNil))) (dCons (dC (.int 4)) (dCons (dTup (dCons (dTup (dCons (dC (.int 0)) (dCons (dC (.int 1)) dNil))) (dCons (dTup (dCons (dC (.int 1)) (dCons (dC (.int 4)) dNil))) (dCons (dTup (dCons (dC (.int 3)) (dCons (dC (.int 4)) dNil))) dNil)))) dNil)))) (dLst (dCons (dTup (dCons (dC (.int 1)) (dCons (dC (.int 3)) dNil))) dNil)))) (dRet (dC (.bl false))) dNext)
  (dSeq (dAsg (dLst (dCons (dCallF (sp_surely_above C) (dCons (dVar 5) (dCons (dC (.int 2)) (dCons (dVar 14) dNil)))) (dCons (dCallF (sp_surely_above C) (dCons (dVar 5) (dCons (dC (.int 6)) (dCons (dVar 15) dNil)))) (dCons (dCallF (sp_surely_above C) (dCons (dVar 5) (dCons (dC (.int 6)) (dCons (dVar 16) dNil)))) dNil)))) (dgName 17))
  (dRet (dOp dEq (dVar 17) (dLst (dCons (dLst (dCons (dC (.int 0)) dNil)) (dCons (dLst dNil) (dCons (dLst (dCons (dC (.int 0)) (dCons (dC (.int 1)) dNil))) dNil)))))))))))))
theorem body_law {F0 : Og} {f c0 : Addr} {A : Around} {outer : List Env} {s : Shared} {H : Hp} {E : XK} (b_len : mg "len" = none) (b_list : mg "list" = none) (g_law_drum : Dk P w K mg base "_law_drum" 1 ["_law_cell", "_law_turn"] sp_law_drum) (g_law_game : Dk P w K mg base "_law_game" 3 ["_law_drum_here"] sp_law_game) (g_law_roll : Dk P w K mg base "_law_roll" 1 ["_law_drum_here", "_law_many"] sp_law_roll) (g_law_every : Dk P w K mg base "_law_every" 1 ["_law_many", "_law_whole"] sp_law_every) (g_law_some : Dk P w K mg base "_law_some" 2 ["_law_drum_here", "_law_things"] sp_law_some) (g_law_shares : Dk P w K mg base "_law_shares" 3 ["_law_drum_here", "_law_game_here"] sp_law_shares) (g_law_best : Dk P w K mg base "_law_best" 3 ["_law_weights", "_law_odds"] sp_law_best) (g_law_right : Dk P w K mg base "_law_right" 10 ["_law_odds", "_law_whole", "_law_shares_so"] sp_law_right) (g_weights_told : DkX P w K mg base "weights_told" 9 ["odds", "total", "shares"] (sp_weights_told C)) (g_surely_above : DkX P w K mg base "surely_above" 9 ["odds", "total", "shares"] (sp_surely_above C)) (g_law_known : Dk P w K mg base "_law_known" 1 [] sp_law_known) {gE fN CS P0 : Addr} {fdE fdN : FuncData} (fnE : Fun K "_law_error" "_law_error" s_law_error gE fdE) (mE : mg "_law_error" = some (.ref gE)) (fnN : Fun K "_law_names" "_law_names" s_law_names fN fdN) (mN : mg "_law_names" = some (.ref fN)) (mS : mg "ShareError" = some (.ref CS)) (b_isinstance : mg "isinstance" = none) (b_ValueError : mg "ValueError" = none) (b_zip : mg "zip" = none) (mC : ∀ x ∈ clsN, mg x = some (.ref (C x))) (hE : ∀ x ∈ (["InvalidOdds", "InvalidNumber", "InvalidShares"] : List Str), ErrF K C x) (hex : ∀ cls t, nmE C cls t → PySem.W.exmOne K cls (.ref CS) = some true) (TB : TabB base mg c0 P0) (hr : Room 13 (A.deeper (envOfC "law" (defScope s_law) s.heap.objs.size f (.ref c0)))) : PSs (cxOf CX0 P w K mg base ["_law_script", "_law_cell", "_law_drum_here", "_law_one", "_law_many", "_law_odds", "_law_whole", "_law_some_here", "_law_weights", "_law_shares_so", "_law_odd", "_law_found", "_law_first", "_law_second", "_law_half", "_law_keep", "_law_all_in", "_law_told"] "law" (defScope s_law) f (.ref c0) A outer s H E).nox (defBody s_law) (lS K F0 (t_law C P0)) := by
  have nd := sc_law.nd
  exact (ds_cons (ds_for (vs := [1]) PassesOwn.never rfl (di_lst (d_slice (d_add (d_lst (da_cons d_int da_nil)) (dv 0)) do_no (do_some d_int))) (dg_name (i := 1) nd rfl (Or.inl rfl) (by decide)) (ds_cons (ds_set (i := 2) nd rfl (Or.inl rfl) (d_callD g_law_drum (hr.mono (by decide)) (da_cons (dv 1) (da_cons d_int da_nil))))
      (ds_cons (ds_set (i := 3) nd rfl (Or.inl rfl) (d_callD g_law_game (hr.mono (by decide)) (da_cons (dv 2) da_nil)))
      (ds_cons (ds_asg (vs := [4, 5]) (d_tup (da_cons (d_callB (call_len_seq.or call_len_str) lc_len (by rfl) b_len bb_len (da_cons (d_ix (dv 3) d_int) da_nil)) (da_cons (d_ix (dv 3) d_int) da_nil))) (dg_tup 2 rfl (dgs_cons (dg_name (i := 4) nd rfl (Or.inl rfl) (by decide)) (dgs_cons (dg_name (i := 5) nd rfl (Or.inr rfl) (by decide)) dgs_nil)) (gl_cons (gl_cons (fun _ _ _ _ h => gl_nil h) gx_name) gx_name)))
      (ds_cons (ds_set (i := 6) nd rfl (Or.inr rfl) (d_add (dv 4) (d_callD g_law_roll (hr.mono (by decide)) (da_cons (dv 2) (da_cons (d_ix (d_lst (da_cons d_int (da_cons d_int (da_cons d_int (da_cons d_int da_nil))))) (d_sub (dv 4) d_int)) da_nil)))))
      (ds_cons (ds_set (i := 7) nd rfl (Or.inl rfl) (d_callD g_law_every (hr.mono (by decide)) (da_cons (dv 4) (da_cons (dv 6) da_nil))))
      (ds_cons (ds_set (i := 8) nd rfl (Or.inl rfl) (d_callD g_law_some (hr.mono (by decide)) (da_cons (dv 2) (da_cons (dv 7) da_nil))))
      (ds_cons (ds_for (vs := [9]) PassesOwn.never rfl (di_tup (d_tup (da_cons (d_callD g_law_best (hr.mono (by decide)) (da_cons (dv 8) (da_cons (dv 5) da_nil))) (da_cons (d_callD g_law_shares (hr.mono (by decide)) (da_cons (dv 2) (da_cons (dv 3) da_nil))) (da_cons (d_add (d_tup (da_cons (d_tup (da_cons d_int (da_cons d_int da_nil))) da_nil)) (d_mul (d_tup (da_cons (d_tup (da_cons d_int (da_cons d_int da_nil))) da_nil)) (dv 4))) da_nil))))) (dg_name (i := 9) nd rfl (Or.inl rfl) (by decide)) (ds_one (ds_if (d_not (d_test (d_callD g_law_right (hr.mono (by decide)) (da_cons (dv 5) (da_cons (dv 6) (da_cons (dv 9) da_nil)))))) (ds_one (ds_ret d_bl)) ds_nil)))
      (ds_cons (ds_if (d_notInT (hu65 hr) (dv 8) (d_callD g_weights_told.dk (hr.mono (by decide)) (da_cons (dv 5) (da_cons (dv 6) (da_cons (d_callD g_law_best (hr.mono (by decide)) (da_cons (dv 8) (da_cons (dv 5) da_nil))) da_nil))))) (ds_one (ds_ret d_bl)) ds_nil)
      (ds_cons (ds_for (vs := [10]) PassesOwn.never rfl (di_tup (d_tup (da_cons d_non (da_cons (d_tup da_nil) (da_cons (d_slice (dv 5) do_no (do_some d_int)) (da_cons (d_callTy call_list_of lc_lst (by rfl) b_list bt_list (da_cons (dv 5) da_nil)) (da_cons (d_mul (dv 5) d_int) (da_cons (d_mul (d_tup (da_cons (d_tup (da_cons d_int (da_cons d_int da_nil))) da_nil)) (dv 4)) (da_cons (d_mul (d_tup (da_cons (d_tup (da_cons d_int (da_cons d_int da_nil))) da_nil)) (dv 4)) (da_cons (d_mul (d_tup (da_cons (d_tup (da_cons d_int (da_cons d_int da_nil))) da_nil)) (dv 4)) da_nil)))))))))) (dg_name (i := 10) nd rfl (Or.inr rfl) (by decide)) (ds_cons (ds_set (i := 11) nd rfl (Or.inl rfl) (d_lstM (da_cons (d_lam (k := 9) fnE mE sc_law_error rfl (fun _ _ _ _ _ _ us hl => match us, hl with | [_], _ => rfl) rfl (Or.inl rfl) rfl mS rfl TB rfl (hr.mono (by decide)) (lamS_by (sc := defScope s_law) (by decide +kernel)) rfl (fun _ _ _ _ _ => rfl) (fun F0' A outer s H E f c' Ew hr tk => (d_callDX tk g_weights_told (hr.mono (by decide)) (da_cons (dv 10) (da_cons d_non (da_cons d_non da_nil))))) hex (fun F0' cdg s H a0 oe cls t pn hr3 hz hv hn => pe_names fnN mN b_isinstance b_ValueError b_zip mC hE rfl List.mem_cons_self ⟨((roomH_of hr3).mono (show 3 ≤ 10 by decide)).dp, ((roomH_of hr3).mono (show 3 ≤ 10 by decide)).un⟩ hz hv hn (da_cons (dv 1) da_nil))) da_nil)))
      (ds_cons (ds_expr (d_append 11 (pv 11) (d_lam (k := 9) fnE mE sc_law_error rfl (fun _ _ _ _ _ _ us hl => match us, hl with | [_], _ => rfl) rfl (Or.inl rfl) rfl mS rfl TB rfl (hr.mono (by decide)) (lamS_by (sc := defScope s_law) (by decide +kernel)) rfl (fun _ _ _ _ _ => rfl) (fun F0' A outer s H E f c' Ew hr tk => (d_callDX tk g_surely_above (hr.mono (by decide)) (da_cons (dv 10) (da_cons d_non (da_cons d_non da_nil))))) hex (fun F0' cdg s H a0 oe cls t pn hr3 hz hv hn => pe_names fnN mN b_isinstance b_ValueError b_zip mC hE rfl List.mem_cons_self ⟨((roomH_of hr3).mono (show 3 ≤ 10 by decide)).dp, ((roomH_of hr3).mono (show 3 ≤ 10 by decide)).un⟩ hz hv hn (da_cons (dv 1) da_nil)))))
      (ds_one (ds_if (d_neT (hu64 hr) (dvz 11) (d_repL (da_cons d_str da_nil) d_int)) (ds_one (ds_ret d_bl)) ds_nil)))))
      (ds_cons (ds_for (vs := [10]) PassesOwn.never rfl (di_tup (d_tup (da_cons d_non (da_cons (d_sub (dv 4) d_int) (da_cons d_int (da_cons d_bl (da_cons d_str da_nil))))))) (dg_name (i := 10) nd rfl (Or.inr rfl) (by decide)) (ds_cons (ds_set (i := 11) nd rfl (Or.inl rfl) (d_lstM (da_cons (d_lam (k := 9) fnE mE sc_law_error rfl (fun _ _ _ _ _ _ us hl => match us, hl with | [_], _ => rfl) rfl (Or.inl rfl) rfl mS rfl TB rfl (hr.mono (by decide)) (lamS_by (sc := defScope s_law) (by decide +kernel)) rfl (fun _ _ _ _ _ => rfl) (fun F0' A outer s H E f c' Ew hr tk => (d_callDX tk g_weights_told (hr.mono (by decide)) (da_cons (dv 5) (da_cons (dv 10) (da_cons d_non da_nil))))) hex (fun F0' cdg s H a0 oe cls t pn hr3 hz hv hn => pe_names fnN mN b_isinstance b_ValueError b_zip mC hE rfl List.mem_cons_self ⟨((roomH_of hr3).mono (show 3 ≤ 10 by decide)).dp, ((roomH_of hr3).mono (show 3 ≤ 10 by decide)).un⟩ hz hv hn (da_cons (dv 1) da_nil))) da_nil)))
      (ds_cons (ds_expr (d_append 11 (pv 11) (d_lam (k := 9) fnE mE sc_law_error rfl (fun _ _ _ _ _ _ us hl => match us, hl with | [_], _ => rfl) rfl (Or.inl rfl) rfl mS rfl TB rfl (hr.mono (by decide)) (lamS_by (sc := defScope s_law) (by decide +kernel)) rfl (fun _ _ _ _ _ => rfl) (fun F0' A outer s H E f c' Ew hr tk => (d_callDX tk g_surely_above (hr.mono (by decide)) (da_cons (dv 5) (da_cons (dv 10) (da_cons d_non da_nil))))) hex (fun F0' cdg s H a0 oe cls t pn hr3 hz hv hn => pe_names fnN mN b_isinstance b_ValueError b_zip mC hE rfl List.mem_cons_self ⟨((roomH_of hr3).mono (show 3 ≤ 10 by decide)).dp, ((roomH_of hr3).mono (show 3 ≤ 10 by decide)).un⟩ hz hv hn (da_cons (dv 1) da_nil)))))
      (ds_one (ds_if (d_neT (hu64 hr) (dvz 11) (d_repL (da_cons d_str da_nil) d_int)) (ds_one (ds_ret d_bl)) ds_nil)))))
      (ds_one (ds_for (vs := [10]) PassesOwn.never rfl (di_tup (d_tup (da_cons d_non (da_cons (d_tup da_nil) (da_cons (d_mul (d_tup (da_cons (d_tup (da_cons d_int (da_cons d_int da_nil))) da_nil)) (dv 4)) (da_cons (d_tup (da_cons (d_tup (da_cons d_int (da_cons d_int da_nil))) da_nil)) (da_cons d_int da_nil))))))) (dg_name (i := 10) nd rfl (Or.inr rfl) (by decide)) (ds_cons (ds_set (i := 11) nd rfl (Or.inl rfl) (d_lstM (da_cons (d_lam (k := 9) fnE mE sc_law_error rfl (fun _ _ _ _ _ _ us hl => match us, hl with | [_], _ => rfl) rfl (Or.inl rfl) rfl mS rfl TB rfl (hr.mono (by decide)) (lamS_by (sc := defScope s_law) (by decide +kernel)) rfl (fun _ _ _ _ _ => rfl) (fun F0' A outer s H E f c' Ew hr tk => (d_callDX tk g_weights_told (hr.mono (by decide)) (da_cons (dv 5) (da_cons (dv 6) (da_cons (dv 10) da_nil))))) hex (fun F0' cdg s H a0 oe cls t pn hr3 hz hv hn => pe_names fnN mN b_isinstance b_ValueError b_zip mC hE rfl List.mem_cons_self ⟨((roomH_of hr3).mono (show 3 ≤ 10 by decide)).dp, ((roomH_of hr3).mono (show 3 ≤ 10 by decide)).un⟩ hz hv hn (da_cons (dv 1) da_nil))) da_nil)))
      (ds_cons (ds_expr (d_append 11 (pv 11) (d_lam (k := 9) fnE mE sc_law_error rfl (fun _ _ _ _ _ _ us hl => match us, hl with | [_], _ => rfl) rfl (Or.inl rfl) rfl mS rfl TB rfl (hr.mono (by decide)) (lamS_by (sc := defScope s_law) (by decide +kernel)) rfl (fun _ _ _ _ _ => rfl) (fun F0' A outer s H E f c' Ew hr tk => (d_callDX tk g_surely_above (hr.mono (by decide)) (da_cons (dv 5) (da_cons (dv 6) (da_cons (dv 10) da_nil))))) hex (fun F0' cdg s H a0 oe cls t pn hr3 hz hv hn => pe_names fnN mN b_isinstance b_ValueError b_zip mC hE rfl List.mem_cons_self ⟨((roomH_of hr3).mono (show 3 ≤ 10 by decide)).dp, ((roomH_of hr3).mono (show 3 ≤ 10 by decide)).un⟩ hz hv hn (da_cons (dv 1) da_nil)))))
      (ds_one (ds_if (d_neT (hu64 hr) (dvz 11) (d_repL (da_cons d_str da_nil) d_int)) (ds_one (ds_ret d_bl)) ds_nil)))))))))))))))))
      (ds_cons (ds_asg (vs := [12, 13, 14, 15, 16]) (d_callD0 g_law_known (hr.mono (by decide))) (dg_lst 5 rfl (dgs_cons (dg_name (i := 12) nd rfl (Or.inl rfl) (by decide)) (dgs_cons (dg_name (i := 13) nd rfl (Or.inl rfl) (by decide)) (dgs_cons (dg_name (i := 14) nd rfl (Or.inl rfl) (by decide)) (dgs_cons (dg_name (i := 15) nd rfl (Or.inl rfl) (by decide)) (dgs_cons (dg_name (i := 16) nd rfl (Or.inl rfl) (by decide)) dgs_nil))))) (gl_cons (gl_cons (gl_cons (gl_cons (gl_cons (fun _ _ _ _ h => gl_nil h) gx_name) gx_name) gx_name) gx_name) gx_name)))
      (ds_cons (ds_set (i := 5) nd rfl (Or.inr rfl) (d_ix (dv 12) d_int))
      (ds_cons (ds_if (PW.pt (d_or (d_neT (hu64 hr) (d_callD g_weights_told.dk (hr.mono (by decide)) (da_cons (dv 5) (da_cons d_int (da_cons (dv 14) da_nil)))) (d_lst (da_cons (d_tup (da_cons d_int (da_cons d_int da_nil))) da_nil))) (d_or1 (d_neT (hu64 hr) (d_callD g_weights_told.dk (hr.mono (by decide)) (da_cons (dv 5) (da_cons d_int (da_cons (dv 14) da_nil)))) (d_lst (da_cons (d_tup (da_cons d_int (da_cons d_int da_nil))) da_nil)))))) (ds_one (ds_ret d_bl)) ds_nil)
      (ds_cons (ds_if (PW.pt (d_or (d_neT (hu64 hr) (d_callD g_weights_told.dk (hr.mono (by decide)) (da_cons (dv 5) (da_cons d_int (da_cons (dv 15) da_nil)))) (d_lst (da_cons (d_tup (da_cons d_int (da_cons d_int da_nil))) (da_cons (d_tup (da_cons d_int (da_cons d_int da_nil))) da_nil)))) (d_or1 (d_neT (hu64 hr) (d_callD g_weights_told.dk (hr.mono (by decide)) (da_cons (dv 5) (da_cons d_int (da_cons (dv 16) da_nil)))) (d_lst da_nil))))) (ds_one (ds_ret d_bl)) ds_nil)
      (ds_cons (ds_if (d_neT (hu64 hr) (d_callD g_weights_told.dk (hr.mono (by decide)) (da_cons (d_tup (da_cons (d_tup (da_cons d_int (da_cons d_int da_nil))) (da_cons (d_tup (da_cons d_int (da_cons d_int da_nil))) da_nil))) (da_cons d_int (da_cons (d_tup (da_cons (d_tup (da_cons d_int (da_cons d_int da_nil))) (da_cons (d_tup (da_cons d_int (da_cons d_int da_nil))) (da_cons (d_tup (da_cons d_int (da_cons d_int da_nil))) da_nil)))) da_nil)))) (d_lst (da_cons (d_tup (da_cons d_int (da_cons d_int da_nil))) da_nil))) (ds_one (ds_ret d_bl)) ds_nil)
      (ds_cons (ds_set (i := 17) nd rfl (Or.inl rfl) (d_lst (da_cons (d_callD g_surely_above.dk (hr.mono (by decide)) (da_cons (dv 5) (da_cons d_int (da_cons (dv 14) da_nil)))) (da_cons (d_callD g_surely_above.dk (hr.mono (by decide)) (da_cons (dv 5) (da_cons d_int (da_cons (dv 15) da_nil)))) (da_cons (d_callD g_surely_above.dk (hr.mono (by decide)) (da_cons (dv 5) (da_cons d_int (da_cons (dv 16) da_nil)))) da_nil)))))
      (ds_one (ds_ret (d_eq (hu64 hr) (dv 17) (d_lst (da_cons (d_lst (da_cons d_int da_nil)) (da_cons (d_lst da_nil) (da_cons (d_lst (da_cons d_int (da_cons d_int da_nil))) da_nil))))))))))))))
end
end GS

-- text WC
set_option Elab.async false
set_option linter.all false
set_option maxRecDepth 100000
set_option maxHeartbeats 4000000
/-! WC: the law's constants. -/
namespace GS
theorem k1 : toldL [3, 1] 2 q34 [q14, 0] = [[1, 1]] := by decide +kernel
theorem k2 : toldL [3, 1] 4 q34 [q14, 0] = [[2, 2]] := by decide +kernel
theorem k3 : toldL [3, 1] 6 1 [0, 0] = [[1, 5], [2, 4]] := by decide +kernel
theorem k4 : toldL [3, 1] 6 0 [1, 0] = [] := by decide +kernel
theorem k5 : toldL [2, 2] 4 0 [q14, q34] = [[1, 3]] := by decide +kernel
theorem k6 : aboveL [3, 1] 2 q34 [q14, 0] = [0] := by decide +kernel
theorem k7 : aboveL [3, 1] 6 1 [0, 0] = [] := by decide +kernel
theorem k8 : aboveL [3, 1] 6 0 [1, 0] = [0, 1] := by decide +kernel
end GS

-- text WB
set_option Elab.async false
set_option linter.all false
set_option maxRecDepth 100000
set_option maxHeartbeats 4000000
/-! WB: what is wrong with the law's odd arguments. -/
namespace GS
open PySem PySem.Spec PyProof.Rows L2 DL
theorem fo_len {xs : List D} (h : xs.length < 2 ∨ 5 < xs.length) : fitOdds (.tup xs) = false := by
  show (_ && _) = _
  rw [decide_eq_false (by omega), Bool.false_and]
theorem fo_bad {x : D} {xs : List D} (h : fitsD x 1 1000 1000 = false) (hm : x ∈ xs) : fitOdds (.tup xs) = false := by
  show (_ && _) = _
  have : (xs.all fun x => fitsD x 1 1000 1000) = false := by
    rw [List.all_eq_false]
    exact ⟨x, hm, by rw [h]; decide⟩
  rw [this, Bool.and_false]
theorem rep_flat (n : Nat) (x : D) : (List.replicate n [x]).flatten = List.replicate n x := by
  induction n with
  | zero => rfl
  | succ n ih => rw [List.replicate_succ, List.flatten_cons, ih, List.replicate_succ]; rfl
theorem fs_len {n : Nat} {xs : List D} (h : xs.length ≠ n + 1) : fitShares n (.tup xs) = false := by
  show (_ && _) = _
  rw [decide_eq_false h, Bool.false_and]
end GS

-- text WM
set_option Elab.async false
set_option linter.all false
set_option maxRecDepth 100000
set_option maxHeartbeats 4000000
/-! WM: what law answers. -/
namespace GS
open PySem PySem.Spec PyProof.Rows L2 DL
def sp_law (P0 : Addr) : DSp := fun ds μ Q _ => ∃ cells : List Int, ds = [.lst (cells.map D.int)] ∧ (∀ c ∈ cells, c.natAbs.log2 < 2000000) ∧ cells.length ≤ 1000 ∧ μ P0 = some (.tab qL) ∧ ∀ μ', Q (.bl true) μ'
theorem ln_law (P0 : Addr) (ds : List D) (μ Q E) (h : sp_law P0 ds μ Q E) : ds.length = 1 := by
  obtain ⟨cells, rfl, _⟩ := h
  rfl
/-- shares that the law hands on -/
theorem valid_of {ws : List Int} {os : List Rat} {W : Int} {s0 : Rat} {ss : List Rat} (g : LG ws os) (l : LS os.length s0 ss) (h1 : (os.length : Int) ≤ W) (h2 : W ≤ 20) : Valid os W s0 ss := ⟨g.l2, g.l5, g.ob, h1, h2, l.len, l.sb, l.s1⟩
theorem step_call {ρ : En} {μ : Mu} {sp : DSp} {as : DA} {ds : List D} {k : Nat} {s2 : DS} {D0 : DEnds} (h : EvA as ρ μ ds) (q : sp ds μ (fun d μ1 => s2 D0 (ρ.set k (some d)) μ1) fun _ _ => False) : dSeq (dAsg (dCallF sp as) (dgName k)) s2 D0 ρ μ := h _ q
theorem step_tup2 {ρ : En} {μ : Mu} {as : DA} {d d' : D} {k l : Nat} {s2 : DS} {D0 : DEnds} (h : EvA as ρ μ [d, d']) (q : s2 D0 ((ρ.set k (some d)).set l (some d')) μ) : dSeq (dAsg (dTup as) (dgTup (dgCons (dgName k) (dgCons (dgName l) dgNil)))) s2 D0 ρ μ := h _ ⟨by show 2 ≤ sizeLine; decide, q⟩
theorem ev_len {ρ : En} {μ : Mu} {t : DE} {xs : List D} (h : Ev t ρ μ (.tup xs)) : Ev (dCall bLen (dCons t dNil)) ρ μ (.int xs.length) := fun Q q => h _ q
theorem step_addcall {ρ : En} {μ : Mu} {sp : DSp} {t : DE} {n : Int} {as : DA} {ds : List D} {k : Nat} {s2 : DS} {D0 : DEnds} (h0 : Ev t ρ μ (.int n)) (h : EvA as ρ μ ds) (q : sp ds μ (fun d μ1 => dAdd (.int n) d μ1 fun v μ2 => s2 D0 (ρ.set k (some v)) μ2) fun _ _ => False) : dSeq (dAsg (dOp dAdd t (dCallF sp as)) (dgName k)) s2 D0 ρ μ := h0 _ (h _ q)
theorem lam_bad {C : Str → Addr} {P0 : Addr} {q ok x y : Str} {r : List Rat → Int → Rat → List Rat → D} {o w s : D} {as : DA} {ρ : En} {μ : Mu} {Q : DQ}
    (hxy : (x = "InvalidOdds" ∧ y = "odds value") ∨ (x = "InvalidNumber" ∧ y = "number value") ∨ (x = "InvalidShares" ∧ y = "shares value"))
    (h : EvA as ρ μ [o, w, s]) (hb : Bad o w s x) (hP : μ P0 = some (.tab q)) (hq : Q (.str y) μ) : dLam P0 q ok (nmE C) (fun Ew => dCallX (ToldS C r) Ew as) ρ μ Q :=
  ⟨hP, h _ (.inr ⟨o, w, s, x, rfl, hb, y, ⟨x, y, hxy, rfl, rfl⟩, hq⟩)⟩
end GS

-- text WP
set_option Elab.async false
set_option linter.all false
set_option maxRecDepth 100000
set_option maxHeartbeats 4000000
/-! WP: steps of law's loops; the odd arguments. -/
namespace GS
open PySem PySem.Spec PyProof.Rows L2 DL
theorem step_for {ρ : En} {μ : Mu} {as : DA} {ds : List D} {g : DG} {tb s2 : DS} {D0 : DEnds} (h : EvA as ρ μ ds) (hl : ds.length ≤ sizeLine) (q : ForB g tb { D0 with nx := s2 D0 } ρ ds μ) : dSeq (dFor (diTup (dTup as)) g tb) s2 D0 ρ μ := h _ ⟨hl, q⟩
theorem last_for {ρ : En} {μ : Mu} {as : DA} {ds : List D} {g : DG} {tb : DS} {D0 : DEnds} (h : EvA as ρ μ ds) (hl : ds.length ≤ sizeLine) (q : ForB g tb D0 ρ ds μ) : dFor (diTup (dTup as)) g tb D0 ρ μ := h _ ⟨hl, q⟩
theorem ev_slice1 {ρ : En} {μ : Mu} {t : DE} {xs : List D} (h : Ev t ρ μ (.tup xs)) : Ev (dSlice t dNo (dPart (dC (.int 1)))) ρ μ (.tup (DL.cutD xs none (some 1))) := fun Q q => h _ q
theorem ev_list {ρ : En} {μ : Mu} {t : DE} {xs : List D} (h : Ev t ρ μ (.tup xs)) : Ev (dCall bLst (dCons t dNil)) ρ μ (.lst xs) := fun Q q => h _ q
theorem ev_mulT {ρ : En} {μ : Mu} {t u : DE} {xs : List D} {k : Int} (h : Ev t ρ μ (.tup xs)) (h2 : Ev u ρ μ (.int k)) (a : xs ≠ []) (b : 2 ≤ k) (c : k ≤ 1000) (d : xs.length ≤ 1000) : Ev (dOp dMulT t u) ρ μ (.tup (List.replicate k.toNat xs).flatten) := fun Q q => h _ (h2 _ ⟨a, b, c, d, q⟩)
theorem ev_addT {ρ : En} {μ : Mu} {t u : DE} {xs ys : List D} (h : Ev t ρ μ (.tup xs)) (h2 : Ev u ρ μ (.tup ys)) (hl : xs.length + ys.length ≤ sizeLine) : Ev (dOp dAdd t u) ρ μ (.tup (xs ++ ys)) := fun Q q => h _ (h2 _ ⟨hl, q⟩)
/-- ((i, j),) * n -/
theorem ev_rep {ρ : En} {μ : Mu} {u : DE} {i j : Int} {n : Nat} (h2 : Ev u ρ μ (.int (n : Nat))) (b : 2 ≤ n) (c : n ≤ 5) : Ev (dOp dMulT (dTup (dCons (dTup (dCons (dC (.int i)) (dCons (dC (.int j)) dNil))) dNil)) u) ρ μ (.tup (List.replicate n (.tup [.int i, .int j]))) := by
  have := ev_mulT (ρ := ρ) (μ := μ) (t := dTup (dCons (dTup (dCons (dC (.int i)) (dCons (dC (.int j)) dNil))) dNil)) (xs := [.tup [.int i, .int j]]) (.tup (.cons .pr .nil) (show 1 ≤ sizeLine by decide)) h2 (by simp) (by omega) (by omega) (show 1 ≤ 1000 by decide)
  rw [Int.toNat_natCast, rep_flat] at this
  exact this
/-! ### the odd arguments -/
theorem two_eq {x y : Str} (hxy : (x = "InvalidOdds" ∧ y = "odds value") ∨ (x = "InvalidNumber" ∧ y = "number value") ∨ (x = "InvalidShares" ∧ y = "shares value")) : shp (.lst [.str y, .str y]) = true ∧ eqD (.lst [.str y, .str y]) (.lst (List.replicate 2 [D.str y]).flatten) = true := by
  rcases hxy with ⟨_, rfl⟩ | ⟨_, rfl⟩ | ⟨_, rfl⟩ <;> decide +kernel
theorem step_lst1 {ρ : En} {μ : Mu} {X : DE} {k : Nat} {s2 : DS} {D0 : DEnds} (h : X ρ μ fun d μ1 => 1 ≤ sizeLine ∧ ∀ p, μ1 p = none → s2 D0 (ρ.set k (some (.raw (.ref p)))) (muSet μ1 p (.lst [d]))) : dSeq (dAsg (dLstM (dCons X dNil)) (dgName k)) s2 D0 ρ μ := h
theorem step_app {ρ : En} {μ : Mu} {X : DE} {k : Nat} {p : Addr} {ds : List D} {s2 : DS} {D0 : DEnds} (e : ρ[k]? = some (some (.raw (.ref p)))) (hm : μ p = some (.lst ds)) (h : X ρ μ fun y μ1 => ∃ ds, μ1 p = some (.lst ds) ∧ ds.length < sizeLine ∧ s2 D0 ρ (muSet μ1 p (.lst (ds ++ [y])))) : dSeq (dDrop (dAppend k X)) s2 D0 ρ μ := by
  show dAppend k X ρ μ (fun _ μ1 => s2 D0 ρ μ1)
  unfold dAppend
  rw [e]
  exact ⟨⟨_, hm⟩, h⟩
theorem ifne_frz {ρ : En} {μ : Mu} {k : Nat} {p : Addr} {xs : List D} {tb : DE} {y : D} {s1 : DS} {D0 : DEnds} (e : ρ[k]? = some (some (.raw (.ref p)))) (hm : μ p = some (.lst xs)) (hb : ∀ m, Ev tb ρ m y) (sx : shp (.lst xs) = true) (sy : shp y = true) (he : eqD (.lst xs) y = true) (q : D0.nx ρ (muDel μ p)) : dIfS (dTest (dOp dNe (dFrz k) tb)) s1 dNext D0 ρ μ := by
  show dFrz k ρ μ (fun x μ1 => tb ρ μ1 fun y μ2 => dNe x y μ2 fun d μ1 => match d with
    | .bl b => if b = true then s1 D0 ρ μ1 else D0.nx ρ μ1
    | _ => False)
  unfold dFrz
  rw [e]
  simp only [hm]
  refine hb _ _ ⟨sx, sy, ?_⟩
  rw [he]
  exact q
theorem ev_repL {ρ : En} {μ : Mu} {as : DA} {ds : List D} {tb : DE} {n : Int} (h : EvA as ρ μ ds) (hb : Ev tb ρ μ (.int n)) (hl : ds.length ≤ 1000) (h0 : 0 ≤ n) (h1 : n ≤ 1000) : Ev (dRepL as tb) ρ μ (.lst (List.replicate n.toNat ds).flatten) := fun Q q => h _ ⟨hl, hb _ ⟨h0, h1, q⟩⟩
theorem odd_body {C : Str → Addr} {P0 : Addr} {x y : Str} {o w s : D} {as : DA} {ρ : En} {μ : Mu} {D0 : DEnds} (hxy : (x = "InvalidOdds" ∧ y = "odds value") ∨ (x = "InvalidNumber" ∧ y = "number value") ∨ (x = "InvalidShares" ∧ y = "shares value"))
    (hb : Bad o w s x) (hP : μ P0 = some (.tab qL)) (hl : 11 < ρ.length) (h1 : ∀ μ, EvA as ρ μ [o, w, s]) (h2 : ∀ d μ, EvA as (ρ.set 11 d) μ [o, w, s])
    (q : ∀ d μ', μ' P0 = some (.tab qL) → D0.nx (ρ.set 11 d) μ') :
    dSeq (dAsg (dLstM (dCons (dLam P0 qL (PySem.Str.ofString "") (nmE C) (fun Ew => (dCallX (sp_weights_told C) Ew as))) dNil)) (dgName 11))
      (dSeq (dDrop (dAppend 11 (dLam P0 qL (PySem.Str.ofString "") (nmE C) (fun Ew => (dCallX (sp_surely_above C) Ew as)))))
        (dIfS (dTest (dOp dNe (dFrz 11) (dRepL (dCons (dC (.str y)) dNil) (dC (.int 2))))) (dRet (dC (.bl false))) dNext)) D0 ρ μ := by
  refine step_lst1 (lam_bad (r := fun os W s0 ss => dlW (toldL os W s0 ss)) hxy (h1 μ) hb hP ⟨show 1 ≤ sizeLine by decide, fun p hp => ?_⟩)
  have nP : P0 ≠ p := fun z => by rw [z, hp] at hP; cases hP
  have e11 : (ρ.set 11 (some (D.raw (.ref p))))[11]? = some (some (.raw (.ref p))) := by rw [List.getElem?_set_self hl]
  have hP1 : muSet μ p (.lst [.str y]) P0 = some (.tab qL) := by rw [muSet_ne nP]; exact hP
  refine step_app e11 muSet_same (lam_bad (r := fun os W s0 ss => .lst (wL (aboveL os W s0 ss))) hxy (h2 _ _) hb hP1 ⟨_, muSet_same, show 1 < sizeLine by decide, ?_⟩)
  obtain ⟨sy, e⟩ := two_eq hxy
  refine ifne_frz e11 muSet_same (fun m => ev_repL (n := 2) (.cons .con .nil) .con (show 1 ≤ 1000 by decide) (by decide) (by decide)) sy sy e (q _ _ ?_)
  unfold muDel
  rw [if_neg nP, muSet_ne nP, muSet_ne nP]
  exact hP
/-! ### what is wrong -/
theorem bad_odds {o : D} (hr : nr o = true) (hz : ∀ xs, o = .tup xs → xs.length ≤ sizeLine) (h : fitOdds o = false) : Bad o .non .non "InvalidOdds" := ⟨hr, rfl, rfl, hz, fun _ z => (by cases z), .inl ⟨h, rfl⟩⟩
section
variable {os : List Rat} {W : Int} {s0 : Rat} {ss : List Rat}
theorem bad_num (v : Valid os W s0 ss) {w : D} (hr : nr w = true) (h : wholeD w os.length 20 = false) : Bad (.tup (fL os)) w .non "InvalidNumber" := by
  have lo : (fL os).length = os.length := by simp [fL]
  have l5 := v.l5
  refine ⟨nr_fL os, hr, rfl, fun xs e => ?_, fun _ z => (by cases z), .inr ⟨fL os, rfl, v.fo, .inl ⟨by rw [lo]; exact h, rfl⟩⟩⟩
  cases e
  rw [lo]
  exact Nat.le_trans l5 (by decide)
theorem bad_shares (v : Valid os W s0 ss) {s : D} (hr : nr s = true) (hz : ∀ xs, s = .tup xs → xs.length ≤ sizeLine) (h : fitShares os.length s = false) : Bad (.tup (fL os)) (.int W) s "InvalidShares" := by
  have lo : (fL os).length = os.length := by simp [fL]
  have l5 := v.l5
  refine ⟨nr_fL os, rfl, hr, fun xs e => ?_, hz, .inr ⟨fL os, rfl, v.fo, .inr ⟨by rw [lo]; exact v.fw, by rw [lo]; exact h, rfl⟩⟩⟩
  cases e
  rw [lo]
  exact Nat.le_trans l5 (by decide)
end
theorem nr_rep (n : Nat) (i j : Int) : nr (.tup (List.replicate n (.tup [.int i, .int j]))) = true := by
  show nrs _ = true
  exact nrs_of fun d hd => by rw [List.eq_of_mem_replicate hd]; rfl
theorem odd_odds {os : List Rat} (l2 : 2 ≤ os.length) (l5 : os.length ≤ 5) : ∀ d ∈ ([.non, .tup [], .tup (DL.cutD (fL os) none (some 1)), .lst (fL os), .tup (List.replicate 3 (fL os)).flatten, .tup (List.replicate os.length (.tup [.int 2, .int 2])), .tup (List.replicate os.length (.tup [.int 0, .int 1])), .tup (List.replicate os.length (.tup [.int 1001, .int 1]))] : List D), Bad d .non .non "InvalidOdds" := by
  have lo : (fL os).length = os.length := by simp [fL]
  have rep : ∀ i j : Int, fitsD (.tup [.int i, .int j]) 1 1000 1000 = false → Bad (.tup (List.replicate os.length (.tup [.int i, .int j]))) .non .non "InvalidOdds" := fun i j h =>
    bad_odds (nr_rep _ _ _) (fun xs e => by cases e; rw [List.length_replicate]; exact Nat.le_trans l5 (by decide)) (fo_bad (x := .tup [.int i, .int j]) h (by rw [List.mem_replicate]; exact ⟨by omega, rfl⟩))
  have nrf : ∀ d ∈ fL os, nr d = true := nrs_mem (nr_fL os)
  intro d hd
  simp only [List.mem_cons, List.not_mem_nil, or_false] at hd
  rcases hd with rfl | rfl | rfl | rfl | rfl | rfl | rfl | rfl
  · exact bad_odds rfl (fun _ z => by cases z) rfl
  · exact bad_odds rfl (fun xs e => by cases e; exact Nat.zero_le _) (fo_len (by simp))
  · have l1 : (DL.cutD (fL os) none (some 1)).length ≤ 1 := by
      unfold DL.cutD
      rw [List.length_take]
      have : HT.sIx (fL os).length (fL os).length (some 1) ≤ 1 := by
        show (if (1 : Int) < 0 then ((1 : Int) + ((fL os).length : Nat)).toNat else min (Int.toNat 1) (fL os).length) ≤ 1
        rw [if_neg (by decide)]
        exact Nat.min_le_left _ _
      omega
    refine bad_odds (nrs_of fun d hd => nrf d ?_) (fun xs e => by cases e; exact Nat.le_trans l1 (by decide)) (fo_len (.inl (by omega)))
    unfold DL.cutD at hd
    exact List.mem_of_mem_drop (List.mem_of_mem_take hd)
  · exact bad_odds (nr_fL os) (fun _ z => by cases z) rfl
  · have l1 : (List.replicate 3 (fL os)).flatten.length = 3 * os.length := by simp [List.replicate, lo]; omega
    refine bad_odds (nrs_of fun d hd => ?_) (fun xs e => by cases e; rw [l1]; exact Nat.le_trans (show 3 * os.length ≤ 15 by omega) (by decide)) (fo_len (.inr (by omega)))
    obtain ⟨l, hl, hd⟩ := List.mem_flatten.mp hd
    rw [List.eq_of_mem_replicate hl] at hd
    exact nrf d hd
  · exact rep 2 2 (by decide)
  · exact rep 0 1 (by decide)
  · exact rep 1001 1 (by decide)
theorem odd_num {os : List Rat} {W : Int} {s0 : Rat} {ss : List Rat} (v : Valid os W s0 ss) : ∀ d ∈ ([.non, .int ((os.length : Nat) - 1), .int 21, .bl true, .str "5"] : List D), Bad (.tup (fL os)) d .non "InvalidNumber" := by
  intro d hd
  simp only [List.mem_cons, List.not_mem_nil, or_false] at hd
  rcases hd with rfl | rfl | rfl | rfl | rfl
  · exact bad_num v rfl rfl
  · exact bad_num v rfl (decide_eq_false (by omega))
  · exact bad_num v rfl (decide_eq_false (by omega))
  · exact bad_num v rfl rfl
  · exact bad_num v rfl rfl
theorem odd_shares {os : List Rat} {W : Int} {s0 : Rat} {ss : List Rat} (v : Valid os W s0 ss) : ∀ d ∈ ([.non, .tup [], .tup (List.replicate os.length (.tup [.int 1, .int 1])), .tup [.tup [.int 1, .int 1]], .int 1] : List D), Bad (.tup (fL os)) (.int W) d "InvalidShares" := by
  have l2 := v.l2
  have l5 := v.l5
  intro d hd
  simp only [List.mem_cons, List.not_mem_nil, or_false] at hd
  rcases hd with rfl | rfl | rfl | rfl | rfl
  · exact bad_shares v rfl (fun _ z => by cases z) rfl
  · exact bad_shares v rfl (fun xs e => by cases e; exact Nat.zero_le _) (fs_len (by simp))
  · exact bad_shares v (nr_rep _ _ _) (fun xs e => by cases e; rw [List.length_replicate]; exact Nat.le_trans l5 (by decide)) (fs_len (by simp))
  · exact bad_shares v rfl (fun xs e => by cases e; exact show 1 ≤ sizeLine by decide) (fs_len (show 1 ≠ os.length + 1 by omega))
  · exact bad_shares v rfl (fun _ z => by cases z) rfl
/-! ### weights -/
theorem rep_sum : ∀ k : Nat, (List.replicate k (1 : Int)).sum = k
  | 0 => rfl
  | k + 1 => by
    rw [List.replicate_succ, List.sum_cons, rep_sum k]
    omega
theorem heads_one {n : Nat} {W : Int} (h : (n : Int) ≤ W) : ∀ k : Nat, k ≤ n → List.replicate k (1 : Int) ∈ heads (limT n W) k
  | 0, _ => by simp [heads]
  | k + 1, hk => by
    have ih := heads_one h k (by omega)
    simp only [heads, List.mem_flatMap, List.mem_map]
    refine ⟨_, ih, 1, mem_rng1.mpr ⟨by omega, ?_⟩, ?_⟩
    · unfold limT
      rw [rep_sum, List.length_replicate]
      omega
    · rw [List.replicate_succ']
theorem allW_ne {n : Nat} {W : Int} (hn : 1 ≤ n) (h : (n : Int) ≤ W) : 0 < (allW n W).length := by
  unfold allW
  rw [List.length_map]
  exact List.length_pos_of_mem (heads_one h (n - 1) (by omega))
theorem lg_allW {ws : List Int} {os : List Rat} {ws' : List Int} {W : Int} (g : LG ws os) (h1 : (os.length : Int) ≤ W) (h2 : W ≤ 20) (hm : ws' ∈ allW os.length W) : LG ws' os := by
  have l2 := g.l2
  obtain ⟨a1, a2, a3, a4⟩ := allW_ok (by omega) h1 hm
  refine ⟨a1, g.l2, g.l5, fun w hw => ⟨a4 w hw, ?_⟩, g.ob⟩
  have := le_sum a2 w hw
  omega
theorem ls_kept {n : Nat} : LS n 1 (List.replicate n 0) := by
  refine ⟨by simp, fun s hs => ?_, ?_⟩
  · rcases List.mem_cons.mp hs with rfl | hs
    · exact ⟨by decide, by decide, by decide⟩
    · rw [List.eq_of_mem_replicate hs]
      exact ⟨by decide, by decide, by decide⟩
  · induction n with
    | zero => decide +kernel
    | succ n ih =>
      rw [List.replicate_succ, List.sum_cons, List.sum_cons, Rat.zero_add]
      rw [List.sum_cons] at ih
      exact ih
theorem fL_kept (n : Nat) : [D.tup [.int 1, .int 1]] ++ List.replicate n (.tup [.int 0, .int 1]) = fL (1 :: List.replicate n 0) := by
  simp only [fL, List.map_cons, List.map_replicate, List.cons_append, List.nil_append]
  rfl
/-! ### calls by their values -/
section
variable {C : Str → Addr} {ρ : En} {μ : Mu} {as : DA} {os : List Rat} {W : Int} {s0 : Rat} {ss : List Rat}
theorem ev_told {l : List (List Int)} (h : EvA as ρ μ [.tup (fL os), .int W, .tup (fL (s0 :: ss))]) (v : Valid os W s0 ss) (hk : toldL os W s0 ss = l) : Ev (dCallF (sp_weights_told C) as) ρ μ (dlW l) := fun Q q => h _ (.inl ⟨os, W, s0, ss, rfl, v, by show Q (_) μ; simp only [hk]; exact q⟩)
theorem ev_above {l : List Int} (h : EvA as ρ μ [.tup (fL os), .int W, .tup (fL (s0 :: ss))]) (v : Valid os W s0 ss) (hk : aboveL os W s0 ss = l) : Ev (dCallF (sp_surely_above C) as) ρ μ (.lst (wL l)) := fun Q q => h _ (.inl ⟨os, W, s0, ss, rfl, v, by show Q (_) μ; simp only [hk]; exact q⟩)
theorem ev_ne {ta tb : DE} {x y : D} (h1 : Ev ta ρ μ x) (h2 : Ev tb ρ μ y) (sx : shp x = true) (sy : shp y = true) : Ev (dOp dNe ta tb) ρ μ (.bl (!eqD x y)) := fun Q q => h1 _ (h2 _ ⟨sx, sy, q⟩)
theorem ev_eq {ta tb : DE} {x y : D} (h1 : Ev ta ρ μ x) (h2 : Ev tb ρ μ y) (sx : shp x = true) (sy : shp y = true) : Ev (dOp dEq ta tb) ρ μ (.bl (eqD x y)) := fun Q q => h1 _ (h2 _ ⟨sx, sy, q⟩)
theorem if_right {D0 : DEnds} (h : EvA as ρ μ [.tup (fL os), .int W, .tup (fL (s0 :: ss))]) (v : Valid os W s0 ss) (q : ∀ μ', Ext μ μ' → D0.nx ρ μ') : dIfS (dNot (dTest (dCallF sp_law_right as))) (dRet (dC (.bl false))) dNext D0 ρ μ := h _ ⟨os, W, s0, ss, rfl, v, fun μ' ex => q μ' ex⟩
theorem for_three {sp1 sp2 : DSp} {as1 as2 : DA} {ds1 : List D} {t3 : DE} {g : DG} {tb s2 : DS} {D0 : DEnds} (h1 : EvA as1 ρ μ ds1)
    (q : sp1 ds1 μ (fun x μ1 => dCallF sp2 as2 ρ μ1 fun y μ2 => t3 ρ μ2 fun z μ3 => 3 ≤ sizeLine ∧ ForB g tb { D0 with nx := s2 D0 } ρ [x, y, z] μ3) fun _ _ => False) :
    dSeq (dFor (diTup (dTup (dCons (dCallF sp1 as1) (dCons (dCallF sp2 as2) (dCons t3 dNil))))) g tb) s2 D0 ρ μ := h1 _ q
theorem if_told {ws : List Int} {t8 t5 t6 : DE} {s2 : DS} {D0 : DEnds} (h8 : Ev t8 ρ μ (tupW ws)) (h5 : Ev t5 ρ μ (.tup (fL os))) (h6 : Ev t6 ρ μ (.int W)) (hb : EvA as ρ μ [.tup (wL ws), .tup (fL os)]) (g : LG ws os) (h1 : (os.length : Int) ≤ W) (h2 : W ≤ 20) (hm : ws ∈ allW os.length W)
    (q : ∀ μ', Ext μ μ' → s2 D0 ρ μ') : dSeq (dIfS (dTest (dOp dNotIn t8 (dCallF (sp_weights_told C) (dCons t5 (dCons t6 (dCons (dCallF sp_law_best as) dNil)))))) (dRet (dC (.bl false))) dNext) s2 D0 ρ μ := by
  have f5 : Ev t5 ρ μ (.tup (fL os)) := h5
  refine h8 _ (h5 _ (h6 _ (hb _ ⟨ws, os, rfl, g, fun r ss m ls hbest ex => ?_⟩)))
  have v : Valid os W r ss := valid_of g ls h1 h2
  refine .inl ⟨os, W, r, ss, rfl, v, ?_⟩
  refine ⟨encW.shp (by decide) ws, dlW_shp _, ?_⟩
  have hin : ((toldL os W r ss).map tupW).any (fun z => eqD z (tupW ws)) = true := by
    rw [List.any_map, List.any_eq_true]
    exact ⟨ws, List.mem_filter.mpr ⟨hm, hbest⟩, (encW.eq ws ws).trans (decide_eq_true rfl)⟩
  show (if (!((toldL os W r ss).map tupW).any (fun z => eqD z (tupW ws))) = true then _ else _)
  rw [hin]
  exact q m ex
end
/-! ### the document's games -/
theorem vc1 : Valid [3, 1] 2 q34 [q14, 0] := ⟨by decide, by decide, by decide +kernel, by decide, by decide, by decide, by decide +kernel, by decide +kernel⟩
theorem vc2 : Valid [3, 1] 4 q34 [q14, 0] := ⟨by decide, by decide, by decide +kernel, by decide, by decide, by decide, by decide +kernel, by decide +kernel⟩
theorem vc3 : Valid [3, 1] 6 1 [0, 0] := ⟨by decide, by decide, by decide +kernel, by decide, by decide, by decide, by decide +kernel, by decide +kernel⟩
theorem vc4 : Valid [3, 1] 6 0 [1, 0] := ⟨by decide, by decide, by decide +kernel, by decide, by decide, by decide, by decide +kernel, by decide +kernel⟩
theorem vc5 : Valid [2, 2] 4 0 [q14, q34] := ⟨by decide, by decide, by decide +kernel, by decide, by decide, by decide, by decide +kernel, by decide +kernel⟩
section
variable {ρ : En} {μ : Mu} {s2 : DS} {D0 : DEnds}
theorem evF {t : DE} {b b' : Bool} (h : Ev t ρ μ (.bl b)) (e : b = b') : Ev t ρ μ (.bl b') := e ▸ h
theorem seq_if {t : DT} {b : Bool} {s1 : DS} (h : EvT t ρ μ b) (q : s2 D0 ρ μ) (hb : b = false := by rfl) : dSeq (dIfS t s1 dNext) s2 D0 ρ μ := h _ (by subst hb; exact q)
theorem known_asg (q : s2 D0 (((((ρ.set 12 (some (gameD [1, 1] [3, 1]))).set 13 (some (gameD [1, 1, 2] [2, 4, 4]))).set 14 (some (.tup (fL [q34, q14, 0])))).set 15 (some (.tup (fL [1, 0, 0])))).set 16 (some (.tup (fL [0, 1, 0])))) μ) : dSeq (dAsg (dCallF sp_law_known dNil) (dgLst (dgCons (dgName 12) (dgCons (dgName 13) (dgCons (dgName 14) (dgCons (dgName 15) (dgCons (dgName 16) dgNil))))))) s2 D0 ρ μ := ⟨rfl, q⟩
end
end GS

-- text WQ
set_option Elab.async false
set_option linter.all false
set_option maxRecDepth 100000
set_option maxHeartbeats 4000000
namespace GS
open PySem PySem.Spec PyProof.Rows L2 DL
theorem rd_law (C : Str → Addr) (P0 : Addr) (ds : List D) (μ : Mu) (Q : DQ) (E) (h : sp_law P0 ds μ Q E) : t_law C P0 { nx := fun _ μ' => Q .non μ', rt := Q } (ds.map some ++ List.replicate (18 - ds.length) none) μ := by
  obtain ⟨cells, rfl, hc, hl, hP, q⟩ := h
  unfold t_law
  simp only [dSeq, dFor_eq, diLst, dSlice, dOp, dAdd, dLst, dCons, dNil, dC, dVar, dNo, dPart, List.map_cons, List.map_nil, List.cons_append, List.nil_append, List.replicate, List.getElem?_cons_zero, List.length_cons, List.length_nil]
  have hcut : DL.cutD (D.int 0 :: cells.map D.int) none (some 8) = (DL.cutD ((0 : Int) :: cells) none (some 8)).map D.int := by
    simp [DL.cutD, List.map_take, List.map_drop]
  have hmem : ∀ c ∈ DL.cutD ((0 : Int) :: cells) none (some 8), c.natAbs.log2 < 2000000 := fun c hm => by
    have h1 := List.mem_of_mem_drop (List.mem_of_mem_take hm)
    rcases List.mem_cons.mp h1 with rfl | h1
    · decide
    · exact hc c h1
  refine ⟨by decide, by simp only [List.length_map]; rw [sizeLine_eq]; omega, ?_⟩
  rw [hcut]
  refine ForB.inv (DL.cutD ((0 : Int) :: cells) none (some 8)) D.int (fun pre ρ m => (∃ o1 o2 o3 o4 o5 o6 o7 o8 o9 o10 o11 o12 o13 o14 o15 o16 o17, ρ = [some (.lst (cells.map D.int)), o1, o2, o3, o4, o5, o6, o7, o8, o9, o10, o11, o12, o13, o14, o15, o16, o17]) ∧ m P0 = some (.tab qL)) rfl ⟨⟨_, _, _, _, _, _, _, _, _, _, _, _, _, _, _, _, _, rfl⟩, hP⟩ ?_ ?_
  · rintro pre c post ρ m he ⟨⟨o1, o2, o3, o4, o5, o6, o7, o8, o9, o10, o11, o12, o13, o14, o15, o16, o17, rfl⟩, hP⟩
    have hcz := hmem c (by rw [he]; simp)
    refine step_call (.cons .var (.cons .con .nil)) ⟨c, 9, rfl, hcz, by decide, fun a g x ha h0 h1 => ?_⟩
    have aP : P0 ≠ a := fun z => by rw [z, ha] at hP; cases hP
    have dr0 : DrumAt (muSet m a (.lst [.int g, .int x])) a := ⟨g, x, muSet_same, h0, h1⟩
    have hP0 : (muSet m a (.lst [.int g, .int x])) P0 = some (.tab qL) := by rw [muSet_ne aP]; exact hP
    generalize muSet m a (.lst [.int g, .int x]) = m0 at dr0 hP0 ⊢
    refine step_call (ds := [.raw (.ref a)]) (.cons .var .nil) ⟨a, rfl, dr0, fun ws os m1 lg ad1 => ?_⟩
    have hP1 := ad1.kp P0 _ aP hP0
    have dr1 := ad1.dr
    have l2 := lg.l2
    have l5 := lg.l5
    refine step_tup2 (d := .int (os.length : Nat)) (d' := .tup (fL os)) (.cons (by
      have := ev_len (ρ := [some (.lst (cells.map D.int)), some (.int c), some (.raw (.ref a)), some (gameD ws os), o4, o5, o6, o7, o8, o9, o10, o11, o12, o13, o14, o15, o16, o17]) (μ := m1) (t := dOp dIx (dVar 3) (dC (.int 0))) (xs := wL ws) (Ev.ixT (xs := [.tup (wL ws), .tup (fL os)]) .var .con (atI_0 _ _))
      rw [show (wL ws).length = os.length from by simp [wL, lg.len]] at this
      exact this) (.cons (Ev.ixT (xs := [.tup (wL ws), .tup (fL os)]) .var .con (atI_1 _ _ _)) .nil)) ?_
    -- the whole
    obtain ⟨lim, hlim, hl1, hl2⟩ : ∃ lim : Int, atI ([.int 19, .int 14, .int 9, .int 6] : List D) ((os.length : Nat) - 2) = some (.int lim) ∧ 1 ≤ lim ∧ (os.length : Int) + lim ≤ 21 := by
      rcases (show os.length = 2 ∨ os.length = 3 ∨ os.length = 4 ∨ os.length = 5 by omega) with e | e | e | e <;> rw [e]
      · exact ⟨19, rfl, by decide, by decide⟩
      · exact ⟨14, rfl, by decide, by decide⟩
      · exact ⟨9, rfl, by decide, by decide⟩
      · exact ⟨6, rfl, by decide, by decide⟩
    refine step_addcall (n := (os.length : Nat)) (ds := [.raw (.ref a), .int lim]) .var (.cons .var (.cons (Ev.ixL (.lst (.cons .con (.cons .con (.cons .con (.cons .con .nil)))) (show 4 ≤ sizeLine by decide)) (.sub .var .con) hlim) .nil)) ⟨a, lim, rfl, dr1, by omega, by omega, fun r m2 hr0 hr1 ad2 => ?_⟩
    have hP2 := ad2.kp P0 _ aP hP1
    have dr2 := ad2.dr
    simp only [dAdd, List.set_cons_zero, List.set_cons_succ]
    generalize hW : ((os.length : Nat) : Int) + r = W
    have W1 : (os.length : Int) ≤ W := by omega
    have W2 : W ≤ 20 := by omega
    refine step_call (ds := [.int (os.length : Nat), .int W]) (.cons .var (.cons .var .nil)) ⟨os.length, W, rfl, l5, by omega, W2, ?_⟩
    rw [every_all (by omega) W1]
    -- the weights
    have hW0 := allW_ne (n := os.length) (W := W) (by omega) W1
    refine step_call (ds := [.raw (.ref a), dlW (allW os.length W)]) (.cons .var (.cons .var .nil)) ⟨a, (allW os.length W).map tupW, rfl, dr2, by rw [List.length_map]; exact hW0, by rw [List.length_map]; exact allW_num (by omega) l5 W2, fun x hx m3 ad3 => ?_⟩
    obtain ⟨ws', hw', rfl⟩ := List.mem_map.mp hx
    have hP3 := ad3.kp P0 _ aP hP2
    have dr3 := ad3.dr
    have lg' := lg_allW lg W1 W2 hw'
    simp only [List.set_cons_zero, List.set_cons_succ]
    -- three shares
    refine for_three (ds1 := [.tup (wL ws'), .tup (fL os)]) (.cons .var (.cons .var .nil)) ⟨ws', os, rfl, lg', fun r ss m4 ls hbest ex4 => ?_⟩
    have hP4 := ex4 _ _ hP3
    have dr4 := dr3.ext ex4
    refine call_of (ds := [.raw (.ref a), gameD ws os]) (.cons .var (.cons .var .nil)) ⟨a, ws, os, rfl, dr4, lg.len, by omega, l5, fun t0 ts m5 lt ad5 => ?_⟩
    have hP5 := ad5.kp P0 _ aP hP4
    refine (ev_addT (xs := [.tup [.int 1, .int 1]]) (.tup (.cons .pr .nil) (show 1 ≤ sizeLine by decide)) (ev_rep (n := os.length) .var l2 l5) (by rw [List.length_replicate, sizeLine_eq]; simp only [List.length_cons, List.length_nil]; omega)) _ ⟨show 3 ≤ sizeLine by decide, ?_⟩
    refine ForB.inv ([(r, ss), (t0, ts), (1, List.replicate os.length 0)] : List (Rat × List Rat)) (fun p => .tup (fL (p.1 :: p.2))) (fun pre ρ m => (∃ o9 o10 o11 o12 o13 o14 o15 o16 o17, ρ = [some (.lst (cells.map D.int)), some (.int c), some (.raw (.ref a)), some (gameD ws os), some (.int (os.length : Nat)), some (.tup (fL os)), some (.int W), some (dlW (allW os.length W)), some (tupW ws'), o9, o10, o11, o12, o13, o14, o15, o16, o17]) ∧ m P0 = some (.tab qL)) ?_ ⟨⟨_, _, _, _, _, _, _, _, _, rfl⟩, hP5⟩ ?_ ?_
    · simp only [List.map_cons, List.map_nil, fL_kept]
    · rintro pre ⟨u0, us⟩ post ρ m he2 ⟨⟨o9, o10, o11, o12, o13, o14, o15, o16, o17, rfl⟩, hP⟩
      have lu : LS os.length u0 us := by
        have : (u0, us) ∈ ([(r, ss), (t0, ts), (1, List.replicate os.length 0)] : List (Rat × List Rat)) := by rw [he2]; simp
        simp only [List.mem_cons, List.not_mem_nil, or_false, Prod.mk.injEq] at this
        rcases this with ⟨rfl, rfl⟩ | ⟨rfl, rfl⟩ | ⟨rfl, rfl⟩
        · exact ls
        · exact lt
        · exact ls_kept
      exact if_right (os := os) (W := W) (s0 := u0) (ss := us) (.cons .var (.cons .var (.cons .var .nil))) (valid_of lg lu W1 W2) fun m' ex => ⟨⟨_, _, _, _, _, _, _, _, _, rfl⟩, ex _ _ hP⟩
    · rintro ρ m ⟨⟨o9, o10, o11, o12, o13, o14, o15, o16, o17, rfl⟩, hP⟩
      dsimp only
      refine if_told (ws := ws') (os := os) (W := W) .var .var .var (.cons .var (.cons .var .nil)) lg' W1 W2 hw' fun m6 ex6 => ?_
      have hP6 := ex6 _ _ hP
      have v := valid_of lg lt W1 W2
      -- no odds
      refine step_for (ds := [.non, .tup [], .tup (DL.cutD (fL os) none (some 1)), .lst (fL os), .tup (List.replicate 3 (fL os)).flatten, .tup (List.replicate os.length (.tup [.int 2, .int 2])), .tup (List.replicate os.length (.tup [.int 0, .int 1])), .tup (List.replicate os.length (.tup [.int 1001, .int 1]))])
        (.cons .con (.cons (.tup .nil (Nat.zero_le _)) (.cons (ev_slice1 .var) (.cons (ev_list .var) (.cons (ev_mulT (k := 3) .var .con (by intro z; rw [fL, List.map_eq_nil_iff] at z; rw [z] at l2; exact absurd l2 (by decide)) (by decide) (by decide) (by rw [fL, List.length_map]; omega)) (.cons (ev_rep .var l2 l5) (.cons (ev_rep .var l2 l5) (.cons (ev_rep .var l2 l5) .nil)))))))) (show 8 ≤ sizeLine by decide) ?_
      refine ForB.inv _ id (fun pre ρ m => (∃ o9 o10 o11 o12 o13 o14 o15 o16 o17, ρ = [some (.lst (cells.map D.int)), some (.int c), some (.raw (.ref a)), some (gameD ws os), some (.int (os.length : Nat)), some (.tup (fL os)), some (.int W), some (dlW (allW os.length W)), some (tupW ws'), o9, o10, o11, o12, o13, o14, o15, o16, o17]) ∧ m P0 = some (.tab qL)) (List.map_id _).symm ⟨⟨_, _, _, _, _, _, _, _, _, rfl⟩, hP6⟩ ?_ ?_
      · rintro pre d post ρ m hd ⟨⟨o9, o10, o11, o12, o13, o14, o15, o16, o17, rfl⟩, hP⟩
        have hb := odd_odds l2 l5 d (by rw [hd]; simp)
        refine odd_body (o := d) (w := .non) (s := .non) (.inl ⟨rfl, rfl⟩) hb hP (by simp) (fun m => .cons .var (.cons .con (.cons .con .nil))) (fun x m => .cons .var (.cons .con (.cons .con .nil))) fun x m' h' => ⟨⟨_, _, _, _, _, _, _, _, _, rfl⟩, h'⟩
      · rintro ρ m ⟨⟨o9, o10, o11, o12, o13, o14, o15, o16, o17, rfl⟩, hP⟩
        -- no number
        dsimp only
        refine step_for (ds := [.non, .int ((os.length : Nat) - 1), .int 21, .bl true, .str "5"]) (.cons .con (.cons (.sub .var .con) (.cons .con (.cons .con (.cons .con .nil))))) (show 5 ≤ sizeLine by decide) ?_
        refine ForB.inv _ id (fun pre ρ m => (∃ o9 o10 o11 o12 o13 o14 o15 o16 o17, ρ = [some (.lst (cells.map D.int)), some (.int c), some (.raw (.ref a)), some (gameD ws os), some (.int (os.length : Nat)), some (.tup (fL os)), some (.int W), some (dlW (allW os.length W)), some (tupW ws'), o9, o10, o11, o12, o13, o14, o15, o16, o17]) ∧ m P0 = some (.tab qL)) (List.map_id _).symm ⟨⟨_, _, _, _, _, _, _, _, _, rfl⟩, hP⟩ ?_ ?_
        · rintro pre d post ρ m hd ⟨⟨o9, o10, o11, o12, o13, o14, o15, o16, o17, rfl⟩, hP⟩
          have hb := odd_num v d (by rw [hd]; simp)
          refine odd_body (o := .tup (fL os)) (w := d) (s := .non) (.inr (.inl ⟨rfl, rfl⟩)) hb hP (by simp) (fun m => .cons .var (.cons .var (.cons .con .nil))) (fun x m => .cons .var (.cons .var (.cons .con .nil))) fun x m' h' => ⟨⟨_, _, _, _, _, _, _, _, _, rfl⟩, h'⟩
        · rintro ρ m ⟨⟨o9, o10, o11, o12, o13, o14, o15, o16, o17, rfl⟩, hP⟩
          -- no shares
          refine last_for (ds := [.non, .tup [], .tup (List.replicate os.length (.tup [.int 1, .int 1])), .tup [.tup [.int 1, .int 1]], .int 1]) (.cons .con (.cons (.tup .nil (Nat.zero_le _)) (.cons (ev_rep .var l2 l5) (.cons (.tup (.cons .pr .nil) (show 1 ≤ sizeLine by decide)) (.cons .con .nil))))) (show 5 ≤ sizeLine by decide) ?_
          refine ForB.inv _ id (fun pre ρ m => (∃ o9 o10 o11 o12 o13 o14 o15 o16 o17, ρ = [some (.lst (cells.map D.int)), some (.int c), some (.raw (.ref a)), some (gameD ws os), some (.int (os.length : Nat)), some (.tup (fL os)), some (.int W), some (dlW (allW os.length W)), some (tupW ws'), o9, o10, o11, o12, o13, o14, o15, o16, o17]) ∧ m P0 = some (.tab qL)) (List.map_id _).symm ⟨⟨_, _, _, _, _, _, _, _, _, rfl⟩, hP⟩ ?_ ?_
          · rintro pre d post ρ m hd ⟨⟨o9, o10, o11, o12, o13, o14, o15, o16, o17, rfl⟩, hP⟩
            have hb := odd_shares v d (by rw [hd]; simp)
            refine odd_body (o := .tup (fL os)) (w := .int W) (s := d) (.inr (.inr ⟨rfl, rfl⟩)) hb hP (by simp) (fun m => .cons .var (.cons .var (.cons .var .nil))) (fun x m => .cons .var (.cons .var (.cons .var .nil))) fun x m' h' => ⟨⟨_, _, _, _, _, _, _, _, _, rfl⟩, h'⟩
          · rintro ρ m ⟨⟨o9, o10, o11, o12, o13, o14, o15, o16, o17, rfl⟩, hP⟩
            exact ⟨⟨_, _, _, _, _, _, _, _, _, _, _, _, _, _, _, _, _, rfl⟩, hP⟩
  · rintro ρ m ⟨⟨o1, o2, o3, o4, o5, o6, o7, o8, o9, o10, o11, o12, o13, o14, o15, o16, o17, rfl⟩, hP⟩
    dsimp only
    refine known_asg ?_
    simp only [List.set_cons_zero, List.set_cons_succ]
    refine step_of (Ev.ixT (xs := [.tup (wL [1, 1]), .tup (fL [3, 1])]) .var .con (atI_1 _ _ _)) (by simp only [List.set_cons_zero, List.set_cons_succ]; rfl) ?_
    refine seq_if (b := false) (EvT.or (b := false) (c := false) (.of (evF (ev_ne (ev_told (os := [3, 1]) (W := 2) (s0 := q34) (ss := [q14, 0]) (.cons .var (.cons .con (.cons .var .nil))) vc1 k1) (.lst (.cons (.tup (.cons .con (.cons .con .nil)) (show 2 ≤ sizeLine by decide)) .nil) (show 1 ≤ sizeLine by decide)) (dlW_shp _) (dlW_shp [[1, 1]])) (by decide +kernel)))
      (.of (evF (ev_ne (ev_told (os := [3, 1]) (W := 4) (s0 := q34) (ss := [q14, 0]) (.cons .var (.cons .con (.cons .var .nil))) vc2 k2) (.lst (.cons (.tup (.cons .con (.cons .con .nil)) (show 2 ≤ sizeLine by decide)) .nil) (show 1 ≤ sizeLine by decide)) (dlW_shp _) (dlW_shp [[2, 2]])) (by decide +kernel)))) ?_
    refine seq_if (b := false) (EvT.or (b := false) (c := false) (.of (evF (ev_ne (ev_told (os := [3, 1]) (W := 6) (s0 := 1) (ss := [0, 0]) (.cons .var (.cons .con (.cons .var .nil))) vc3 k3) (.lst (.cons (.tup (.cons .con (.cons .con .nil)) (show 2 ≤ sizeLine by decide)) (.cons (.tup (.cons .con (.cons .con .nil)) (show 2 ≤ sizeLine by decide)) .nil)) (show 2 ≤ sizeLine by decide)) (dlW_shp _) (dlW_shp [[1, 5], [2, 4]])) (by decide +kernel)))
      (.of (evF (ev_ne (ev_told (os := [3, 1]) (W := 6) (s0 := 0) (ss := [1, 0]) (.cons .var (.cons .con (.cons .var .nil))) vc4 k4) (.lst .nil (Nat.zero_le _)) (dlW_shp _) (dlW_shp [])) (by decide +kernel)))) ?_
    refine seq_if (b := false) (.of (evF (ev_ne (ev_told (os := [2, 2]) (W := 4) (s0 := 0) (ss := [q14, q34]) (.cons (.t2 .pr .pr) (.cons .con (.cons (.t3 .pr .pr .pr) .nil))) vc5 k5) (.lst (.cons (.tup (.cons .con (.cons .con .nil)) (show 2 ≤ sizeLine by decide)) .nil) (show 1 ≤ sizeLine by decide)) (dlW_shp _) (dlW_shp [[1, 3]])) (by decide +kernel))) ?_
    refine step_of (.lst (.cons (ev_above (os := [3, 1]) (W := 2) (s0 := q34) (ss := [q14, 0]) (.cons .var (.cons .con (.cons .var .nil))) vc1 k6) (.cons (ev_above (os := [3, 1]) (W := 6) (s0 := 1) (ss := [0, 0]) (.cons .var (.cons .con (.cons .var .nil))) vc3 k7) (.cons (ev_above (os := [3, 1]) (W := 6) (s0 := 0) (ss := [1, 0]) (.cons .var (.cons .con (.cons .var .nil))) vc4 k8) .nil))) (show 3 ≤ sizeLine by decide)) (by simp only [List.set_cons_zero, List.set_cons_succ]; rfl) ?_
    refine ret_of (d := .bl (eqD (.lst [.lst (wL [0]), .lst (wL []), .lst (wL [0, 1])]) (.lst [.lst [.int 0], .lst [], .lst [.int 0, .int 1]]))) (ev_eq .var (.lst (.cons (.lst (.cons .con .nil) (show 1 ≤ sizeLine by decide)) (.cons (.lst .nil (Nat.zero_le _)) (.cons (.lst (.cons .con (.cons .con .nil)) (show 2 ≤ sizeLine by decide)) .nil))) (show 3 ≤ sizeLine by decide)) (by decide +kernel) (by decide +kernel)) ?_
    rw [show eqD (.lst [.lst (wL [0]), .lst (wL []), .lst (wL [0, 1])]) (.lst [.lst [.int 0], .lst [], .lst [.int 0, .int 1]]) = true by decide +kernel]
    exact q m
end GS

-- text WF
set_option Elab.async false
set_option linter.all false
set_option maxRecDepth 100000
set_option maxHeartbeats 4000000
/-! the facts of the head, the defs by their names. -/
namespace GS
open PySem PySem.Spec PyProof.Rows L2 DL LamX
abbrev DD (x : Str) (st : Stmt) : He.DefD := ⟨(x, none), x, x, defArgs st, defBody st, defScope st, [], []⟩
def fnA : List He.DefD := [DD "_law_drum" s_law_drum, DD "_law_roll" s_law_roll, DD "_law_some" s_law_some, DD "_law_low" s_law_low, DD "_law_game" s_law_game, DD "_law_every" s_law_every, DD "_law_shares" s_law_shares, DD "_law_rate" s_law_rate, DD "_law_best" s_law_best, DD "_law_factors" s_law_factors, DD "_law_mean" s_law_mean, DD "_law_gains" s_law_gains, DD "_law_are_best" s_law_are_best, DD "is_whole" s_is_whole, DD "shared" s_shared, DD "fits_fraction" s_fits_fraction, DD "fit_odds" s_fit_odds, DD "need_number" s_need_number, DD "made" s_made, DD "plus" s_plus, DD "total" s_total, DD "fit_shares" s_fit_shares, DD "need_told" s_need_told, DD "all_weights" s_all_weights, DD "times" s_times, DD "factors_of" s_factors_of, DD "mean_of" s_mean_of, DD "over" s_over, DD "chances_of" s_chances_of, DD "gains_of" s_gains_of, DD "is_less" s_is_less, DD "are_best" s_are_best, DD "told_by" s_told_by, DD "weights_told" s_weights_told, DD "surely_above" s_surely_above, DD "_law_right" s_law_right, DD "_law_known" s_law_known, DD "_law_names" s_law_names, DD "_law_error" s_law_error, DD "law" s_law]
def faA0 : List He.Fa := [.glo "_law_drum", .glo "_law_roll", .glo "_law_some", .glo "_law_low", .glo "_law_game", .glo "_law_every", .glo "_law_shares", .glo "_law_rate", .glo "_law_best", .glo "_law_factors", .glo "_law_mean", .glo "_law_gains", .glo "_law_are_best", .glo "is_whole", .glo "shared", .glo "fits_fraction", .glo "fit_odds", .glo "need_number", .glo "made", .glo "plus", .glo "total", .glo "fit_shares", .glo "need_told", .glo "all_weights", .glo "times", .glo "factors_of", .glo "mean_of", .glo "over", .glo "chances_of", .glo "gains_of"]
def faA1 : List He.Fa := [.glo "is_less", .glo "are_best", .glo "told_by", .glo "weights_told", .glo "surely_above", .glo "_law_right", .glo "_law_known", .glo "_law_names", .glo "_law_error", .glo "law", .free "int", .free "len", .free "tuple", .free "range", .free "sum", .free "zip", .free "isinstance", .free "bool", .free "abs", .free "all", .free "enumerate", .free "list", .free "ValueError", .int "MOST_OUTCOMES" 5, .int "FAR" 1000000000000000000000000000000, .exc "InvalidOdds", .exc "InvalidNumber", .exc "InvalidShares", .glo "InvalidGame", .glo "InvalidShares"]
def faA2 : List He.Fa := [.glo "InvalidOutcome", .glo "InvalidNumber", .glo "InvalidTimes", .glo "InvalidNews", .glo "InvalidCounts", .glo "InvalidOdds", .glo "InvalidPair", .glo "InvalidBet", .glo "InvalidText", .glo "Unlike", .glo "NothingToUndo", .glo "TooMany", .glo "ShareError"]
def faA : List He.Fa := faA0 ++ faA1 ++ faA2
def tfA : List He.Defn := [("law", none)]
def errN : List Str := ["InvalidOdds", "InvalidNumber", "InvalidShares"]
def eqB (a b : Option Bool) : Bool := decide (a = b)
def excCb (K : Fg) (D : Addr) : Bool := He.eqO (PySem.W.findIn K (.ref D) "__getattribute__") (some (some (.builtin "BaseException.__getattribute__"))) && (He.eqO (PySem.W.findIn K (.ref D) "__getattr__") (some none) && (eqB (PySem.W.subIn K (.ref D) (.type "BaseException")) (some true) && (PySem.W.hasDictIn K D &&
  (He.eqO (PySem.W.findIn K (.ref D) "__class__") (some (some (.builtin "object.__class__"))) && (He.eqO (PySem.W.specialIn K (.builtin "object.__class__") "__get__") (some (some (.builtin "getset_descriptor.__get__"))) && (eqB (PySem.W.takesIn K (.builtin "object.__class__")) (some true) && eqB (PySem.W.mroIn K D (.type "object")) (some true)))))))
def errB (K : Fg) (x : Str) : Bool := excCb K (He.ga K x) && ((clsN.all fun y => eqB (PySem.W.kitOne K (.ref (He.ga K x)) (.ref (He.ga K y))) (some (decide (x = y)))) && (eqB (PySem.W.kitOne K (.ref (He.ga K x)) (.type "ValueError")) (some true) && eqB (PySem.W.exmOne K (.ref (He.ga K x)) (.ref (He.ga K "ShareError"))) (some true)))
def exA (K : Fg) : Bool := errN.all (errB K)
theorem eqB_ok {a b : Option Bool} (h : eqB a b = true) : a = b := of_decide_eq_true h
theorem excC_of {K : Fg} {D : Addr} (h : excCb K D = true) : ExcC K D := by
  obtain ⟨h1, h⟩ := He.ba h
  obtain ⟨h2, h⟩ := He.ba h
  obtain ⟨h3, h⟩ := He.ba h
  obtain ⟨h4, h⟩ := He.ba h
  obtain ⟨h5, h⟩ := He.ba h
  obtain ⟨h6, h⟩ := He.ba h
  obtain ⟨h7, h8⟩ := He.ba h
  exact ⟨He.eqO_ok h1, He.eqO_ok h2, eqB_ok h3, h4, He.eqO_ok h5, He.eqO_ok h6, eqB_ok h7, eqB_ok h8⟩
theorem err_of {K : Fg} {x : Str} (h : exA K = true) (hx : x ∈ errN) : ErrF K (He.ga K) x ∧ PySem.W.exmOne K (.ref (He.ga K x)) (.ref (He.ga K "ShareError")) = some true := by
  have h := List.all_eq_true.mp h x hx
  obtain ⟨h1, h⟩ := He.ba h
  obtain ⟨h2, h⟩ := He.ba h
  obtain ⟨h3, h4⟩ := He.ba h
  exact ⟨⟨excC_of h1, fun y hy => eqB_ok (List.all_eq_true.mp h2 y hy), eqB_ok h3⟩, eqB_ok h4⟩

section
variable {P : Program} {w : World} {K : Fg} {mg : Str → Option Value} {base h : Heap}
/-- a def whose code object is known keeps its promise -/
theorem fn_code {x : Str} {st : Stmt} {N ps : List Str} {k : Nat} {sp : DSp} {c f : Addr} {fd : FuncData} (F : Fun K x x st f fd) (hcode : fd.code = .ref c) (S : FnScope N ps (defScope st)) (len : ∀ ds μ Q E, sp ds μ Q E → ds.length = ps.length)
    (t : DS) (hbody : ∀ (F0 : Og) (f : Addr) (A : Around) (outer : List Env) (s : Shared) (H : Hp) (E : XK), Room k (A.deeper (envOfC x (defScope st) s.heap.objs.size f (.ref c))) → PSs (cxOf CX0 P w K mg base N x (defScope st) f (.ref c) A outer s H E).nox (defBody st) (lS K F0 t))
    (hread : ∀ ds μ Q E, sp ds μ Q E → t { nx := fun _ μ' => Q .non μ', rt := Q } (ds.map some ++ List.replicate (N.length - ds.length) none) μ) : FnOk P w K mg base CX0 (k + 1) f fd ps (lSp K sp) := by
  obtain ⟨oc, od, kV, doc, pm, an, cdv, ct, osl, rfl, lk, hcd⟩ := id F.ex
  have ec : cdv = .ref c := hcode
  subst ec
  refine fn_of lk hcd S (fun vs H Q E h => ?_) fun A outer s H vs Q E hr h => ?_
  · obtain ⟨F, ds, μ, Qd, Ed, Sm, r, h1, _⟩ := h
    rw [r.length]
    exact len _ _ _ _ h1
  · obtain ⟨F1, ds, μ, Qd, Ed, Sm, r, h1, hq, he⟩ := h
    refine ⟨_, (hbody ⟨F1, H, μ⟩ f A outer s H E hr).nox, F1, _, μ, _, Sm, REnv.start r, hread _ _ _ _ h1, ?_⟩
    exact ⟨fun σ H' ⟨F2, ρ2, μ2, g2, _, q⟩ => hq _ _ ⟨F2, .non, μ2, g2, rfl, q⟩, hq, fun _ _ ⟨_, _, _, _, _, z⟩ => z, fun _ _ ⟨_, _, _, _, _, z⟩ => z⟩
theorem dn_of (X : K.In h) (G : h.Ns mainGlobals mg) (c : He.SaysD faA fnA K) {i j : Nat} {x : Str} {st : Stmt} (hi : fnA[i]? = some (DD x st)) (hj : faA[j]? = some (.glo x)) : Dn K mg x st := by
  obtain ⟨fd, F⟩ := c.def_ i hi
  exact ⟨⟨He.ga K x, fd, He5.fun_of F, He.glo_ok X G (c.fact j hj)⟩⟩
theorem ec_of (X : K.In h) (G : h.Ns mainGlobals mg) (c : He.SaysD faA fnA K) {i j : Nat} {x : Str} (hi : faA[i]? = some (.exc x)) (hj : faA[j]? = some (.glo x)) : Ec K mg x (He.ga K x) := by
  obtain ⟨h1, h2, h3, h4⟩ := He.exc_ok (c.fact i hi)
  exact ⟨h1, He.glo_ok X G (c.fact j hj), h2, h3, h4⟩
theorem clsN_in : ∀ x ∈ clsN, He.Fa.glo x ∈ faA := by
  intro x hx
  simp only [clsN, List.mem_cons, List.not_mem_nil, or_false] at hx
  rcases hx with rfl | rfl | rfl | rfl | rfl | rfl | rfl | rfl | rfl | rfl | rfl | rfl | rfl | rfl
  · exact List.mem_of_getElem? (i := 58) rfl
  · exact List.mem_of_getElem? (i := 59) rfl
  · exact List.mem_of_getElem? (i := 60) rfl
  · exact List.mem_of_getElem? (i := 61) rfl
  · exact List.mem_of_getElem? (i := 62) rfl
  · exact List.mem_of_getElem? (i := 63) rfl
  · exact List.mem_of_getElem? (i := 64) rfl
  · exact List.mem_of_getElem? (i := 65) rfl
  · exact List.mem_of_getElem? (i := 66) rfl
  · exact List.mem_of_getElem? (i := 67) rfl
  · exact List.mem_of_getElem? (i := 68) rfl
  · exact List.mem_of_getElem? (i := 69) rfl
  · exact List.mem_of_getElem? (i := 70) rfl
  · exact List.mem_of_getElem? (i := 71) rfl
theorem law_ok (X : K.In h) (G : h.Ns mainGlobals mg) (s : He.SaysX faA fnA [] tfA exA w h K) (TB : TabB base mg (He.cT K ("law", none)).1 (He.cT K ("law", none)).2) {f : Addr} {fd : FuncData} (fnL : Fun K "law" "law" s_law f fd) (hcode : fd.code = .ref (He.cT K ("law", none)).1) : FnOk P w K mg base CX0 14 f fd ["_law_script"] (lSp K (sp_law (He.cT K ("law", none)).2)) := by
  have c : He.SaysD faA fnA K := s.t.d
  have b_int : mg "int" = none := He.free_ok X G (c.fact 40 (f := .free "int") rfl)
  have b_len : mg "len" = none := He.free_ok X G (c.fact 41 (f := .free "len") rfl)
  have b_tuple : mg "tuple" = none := He.free_ok X G (c.fact 42 (f := .free "tuple") rfl)
  have b_range : mg "range" = none := He.free_ok X G (c.fact 43 (f := .free "range") rfl)
  have b_sum : mg "sum" = none := He.free_ok X G (c.fact 44 (f := .free "sum") rfl)
  have b_zip : mg "zip" = none := He.free_ok X G (c.fact 45 (f := .free "zip") rfl)
  have b_isinstance : mg "isinstance" = none := He.free_ok X G (c.fact 46 (f := .free "isinstance") rfl)
  have b_bool : mg "bool" = none := He.free_ok X G (c.fact 47 (f := .free "bool") rfl)
  have b_abs : mg "abs" = none := He.free_ok X G (c.fact 48 (f := .free "abs") rfl)
  have b_all : mg "all" = none := He.free_ok X G (c.fact 49 (f := .free "all") rfl)
  have b_enumerate : mg "enumerate" = none := He.free_ok X G (c.fact 50 (f := .free "enumerate") rfl)
  have b_list : mg "list" = none := He.free_ok X G (c.fact 51 (f := .free "list") rfl)
  have b_ValueError : mg "ValueError" = none := He.free_ok X G (c.fact 52 (f := .free "ValueError") rfl)
  have m_MOST_OUTCOMES : ∃ t, mg "MOST_OUTCOMES" = some (.int 5 t) := He.int_ok X G (c.fact 53 (f := .int "MOST_OUTCOMES" 5) rfl)
  have m_FAR : ∃ t, mg "FAR" = some (.int 1000000000000000000000000000000 t) := He.int_ok X G (c.fact 54 (f := .int "FAR" 1000000000000000000000000000000) rfl)
  have x_InvalidOdds : Ec K mg "InvalidOdds" (He.ga K "InvalidOdds") := ec_of X G c (i := 55) (j := 65) rfl rfl
  have x_InvalidNumber : Ec K mg "InvalidNumber" (He.ga K "InvalidNumber") := ec_of X G c (i := 56) (j := 61) rfl rfl
  have x_InvalidShares : Ec K mg "InvalidShares" (He.ga K "InvalidShares") := ec_of X G c (i := 57) (j := 59) rfl rfl
  have d_law_drum : Dn K mg "_law_drum" s_law_drum := dn_of X G c (i := 0) (j := 0) rfl rfl
  have d_law_roll : Dn K mg "_law_roll" s_law_roll := dn_of X G c (i := 1) (j := 1) rfl rfl
  have d_law_some : Dn K mg "_law_some" s_law_some := dn_of X G c (i := 2) (j := 2) rfl rfl
  have d_law_low : Dn K mg "_law_low" s_law_low := dn_of X G c (i := 3) (j := 3) rfl rfl
  have d_law_game : Dn K mg "_law_game" s_law_game := dn_of X G c (i := 4) (j := 4) rfl rfl
  have d_law_every : Dn K mg "_law_every" s_law_every := dn_of X G c (i := 5) (j := 5) rfl rfl
  have d_law_shares : Dn K mg "_law_shares" s_law_shares := dn_of X G c (i := 6) (j := 6) rfl rfl
  have d_law_rate : Dn K mg "_law_rate" s_law_rate := dn_of X G c (i := 7) (j := 7) rfl rfl
  have d_law_best : Dn K mg "_law_best" s_law_best := dn_of X G c (i := 8) (j := 8) rfl rfl
  have d_law_factors : Dn K mg "_law_factors" s_law_factors := dn_of X G c (i := 9) (j := 9) rfl rfl
  have d_law_mean : Dn K mg "_law_mean" s_law_mean := dn_of X G c (i := 10) (j := 10) rfl rfl
  have d_law_gains : Dn K mg "_law_gains" s_law_gains := dn_of X G c (i := 11) (j := 11) rfl rfl
  have d_law_are_best : Dn K mg "_law_are_best" s_law_are_best := dn_of X G c (i := 12) (j := 12) rfl rfl
  have d_is_whole : Dn K mg "is_whole" s_is_whole := dn_of X G c (i := 13) (j := 13) rfl rfl
  have d_shared : Dn K mg "shared" s_shared := dn_of X G c (i := 14) (j := 14) rfl rfl
  have d_fits_fraction : Dn K mg "fits_fraction" s_fits_fraction := dn_of X G c (i := 15) (j := 15) rfl rfl
  have d_fit_odds : Dn K mg "fit_odds" s_fit_odds := dn_of X G c (i := 16) (j := 16) rfl rfl
  have d_need_number : Dn K mg "need_number" s_need_number := dn_of X G c (i := 17) (j := 17) rfl rfl
  have d_made : Dn K mg "made" s_made := dn_of X G c (i := 18) (j := 18) rfl rfl
  have d_plus : Dn K mg "plus" s_plus := dn_of X G c (i := 19) (j := 19) rfl rfl
  have d_total : Dn K mg "total" s_total := dn_of X G c (i := 20) (j := 20) rfl rfl
  have d_fit_shares : Dn K mg "fit_shares" s_fit_shares := dn_of X G c (i := 21) (j := 21) rfl rfl
  have d_need_told : Dn K mg "need_told" s_need_told := dn_of X G c (i := 22) (j := 22) rfl rfl
  have d_all_weights : Dn K mg "all_weights" s_all_weights := dn_of X G c (i := 23) (j := 23) rfl rfl
  have d_times : Dn K mg "times" s_times := dn_of X G c (i := 24) (j := 24) rfl rfl
  have d_factors_of : Dn K mg "factors_of" s_factors_of := dn_of X G c (i := 25) (j := 25) rfl rfl
  have d_mean_of : Dn K mg "mean_of" s_mean_of := dn_of X G c (i := 26) (j := 26) rfl rfl
  have d_over : Dn K mg "over" s_over := dn_of X G c (i := 27) (j := 27) rfl rfl
  have d_chances_of : Dn K mg "chances_of" s_chances_of := dn_of X G c (i := 28) (j := 28) rfl rfl
  have d_gains_of : Dn K mg "gains_of" s_gains_of := dn_of X G c (i := 29) (j := 29) rfl rfl
  have d_is_less : Dn K mg "is_less" s_is_less := dn_of X G c (i := 30) (j := 30) rfl rfl
  have d_are_best : Dn K mg "are_best" s_are_best := dn_of X G c (i := 31) (j := 31) rfl rfl
  have d_told_by : Dn K mg "told_by" s_told_by := dn_of X G c (i := 32) (j := 32) rfl rfl
  have d_weights_told : Dn K mg "weights_told" s_weights_told := dn_of X G c (i := 33) (j := 33) rfl rfl
  have d_surely_above : Dn K mg "surely_above" s_surely_above := dn_of X G c (i := 34) (j := 34) rfl rfl
  have d_law_right : Dn K mg "_law_right" s_law_right := dn_of X G c (i := 35) (j := 35) rfl rfl
  have d_law_known : Dn K mg "_law_known" s_law_known := dn_of X G c (i := 36) (j := 36) rfl rfl
  have d_law_names : Dn K mg "_law_names" s_law_names := dn_of X G c (i := 37) (j := 37) rfl rfl
  have d_law_error : Dn K mg "_law_error" s_law_error := dn_of X G c (i := 38) (j := 38) rfl rfl
  have d_law : Dn K mg "law" s_law := dn_of X G c (i := 39) (j := 39) rfl rfl
  have g_law_drum : Dk P w K mg base "_law_drum" 1 ["_law_cell", "_law_turn"] sp_law_drum := ok_law_drum d_law_drum b_int
  have g_law_roll : Dk P w K mg base "_law_roll" 1 ["_law_drum_here", "_law_many"] sp_law_roll := ok_law_roll d_law_roll b_int
  have g_law_some : Dk P w K mg base "_law_some" 2 ["_law_drum_here", "_law_things"] sp_law_some := ok_law_some d_law_some b_len g_law_roll
  have g_law_low : Dk P w K mg base "_law_low" 1 ["_law_top", "_law_below"] sp_law_low := ok_law_low d_law_low
  have g_law_game : Dk P w K mg base "_law_game" 3 ["_law_drum_here"] sp_law_game := ok_law_game d_law_game b_tuple b_range b_sum g_law_roll g_law_some g_law_low
  have g_law_every : Dk P w K mg base "_law_every" 1 ["_law_many", "_law_whole"] sp_law_every := ok_law_every d_law_every b_range b_sum
  have g_law_shares : Dk P w K mg base "_law_shares" 3 ["_law_drum_here", "_law_game_here"] sp_law_shares := ok_law_shares d_law_shares b_len b_range b_tuple g_law_some g_law_roll g_law_low
  have g_law_rate : Dk P w K mg base "_law_rate" 2 ["_law_weights", "_law_odds"] sp_law_rate := ok_law_rate d_law_rate b_sum b_zip b_range b_len g_law_low
  have g_law_best : Dk P w K mg base "_law_best" 3 ["_law_weights", "_law_odds"] sp_law_best := ok_law_best d_law_best b_sum b_zip b_tuple g_law_rate g_law_low
  have g_law_factors : Dk P w K mg base "_law_factors" 1 ["_law_game_here", "_law_shares_here"] sp_law_factors := ok_law_factors d_law_factors b_range b_len
  have g_law_mean : Dk P w K mg base "_law_mean" 2 ["_law_weights", "_law_some_here"] sp_law_mean := ok_law_mean d_law_mean b_zip b_sum g_law_low
  have g_law_gains : Dk P w K mg base "_law_gains" 3 ["_law_game_here", "_law_shares_here"] sp_law_gains := ok_law_gains d_law_gains b_sum b_zip b_tuple g_law_factors g_law_mean g_law_low
  have g_law_are_best : Dk P w K mg base "_law_are_best" 4 ["_law_game_here", "_law_shares_here"] sp_law_are_best := ok_law_are_best d_law_are_best g_law_gains
  have g_is_whole : Dk P w K mg base "is_whole" 1 ["value", "low", "high"] sp_is_whole := ok_is_whole d_is_whole b_isinstance b_int b_bool
  have g_shared : Dk P w K mg base "shared" 1 ["one", "other"] sp_shared := ok_shared d_shared b_abs
  have g_fits_fraction : Dk P w K mg base "fits_fraction" 2 ["value", "low", "high", "below"] sp_fits_fraction := ok_fits_fraction d_fits_fraction b_isinstance b_tuple b_len g_is_whole g_shared
  have g_fit_odds : Dk P w K mg base "fit_odds" 3 ["value"] sp_fit_odds := ok_fit_odds d_fit_odds b_isinstance b_tuple b_len b_all m_MOST_OUTCOMES g_fits_fraction
  have g_need_number : DkX P w K mg base "need_number" 2 ["value", "low", "high"] (sp_need_number (He.ga K)) := ok_need_number d_need_number x_InvalidNumber g_is_whole
  have g_made : Dk P w K mg base "made" 2 ["top", "below"] sp_made := ok_made d_made g_shared
  have g_plus : Dk P w K mg base "plus" 3 ["one", "other"] sp_plus := ok_plus d_plus g_made
  have g_total : Dk P w K mg base "total" 4 ["some"] sp_total := ok_total d_total g_plus
  have g_fit_shares : Dk P w K mg base "fit_shares" 5 ["many", "value"] sp_fit_shares := ok_fit_shares d_fit_shares b_isinstance b_tuple b_len b_all m_FAR g_fits_fraction g_total
  have g_need_told : DkX P w K mg base "need_told" 6 ["odds", "whole", "shares"] (sp_need_told (He.ga K)) := ok_need_told d_need_told b_len x_InvalidOdds x_InvalidShares g_fit_odds g_need_number g_fit_shares
  have g_all_weights : Dk P w K mg base "all_weights" 1 ["outcomes", "whole"] sp_all_weights := ok_all_weights d_all_weights b_range b_sum b_len
  have g_times : Dk P w K mg base "times" 3 ["one", "other"] sp_times := ok_times d_times g_made
  have g_factors_of : Dk P w K mg base "factors_of" 4 ["odds", "shares"] sp_factors_of := ok_factors_of d_factors_of b_tuple b_zip g_plus g_times
  have g_mean_of : Dk P w K mg base "mean_of" 5 ["weights", "some"] sp_mean_of := ok_mean_of d_mean_of b_zip b_sum g_total g_times g_made
  have g_over : Dk P w K mg base "over" 3 ["one", "other"] sp_over := ok_over d_over g_made
  have g_chances_of : Dk P w K mg base "chances_of" 3 ["weights"] sp_chances_of := ok_chances_of d_chances_of b_sum g_made
  have g_gains_of : Dk P w K mg base "gains_of" 6 ["game", "shares"] sp_gains_of := ok_gains_of d_gains_of b_zip b_tuple g_factors_of g_mean_of g_over g_chances_of g_times
  have g_is_less : Dk P w K mg base "is_less" 1 ["one", "other"] sp_is_less := ok_is_less d_is_less
  have g_are_best : Dk P w K mg base "are_best" 7 ["game", "shares"] sp_are_best := ok_are_best d_are_best b_all g_gains_of g_is_less
  have g_told_by : Dk P w K mg base "told_by" 8 ["odds", "whole", "shares"] sp_told_by := ok_told_by d_told_by b_len g_all_weights g_are_best
  have g_weights_told : DkX P w K mg base "weights_told" 9 ["odds", "total", "shares"] (sp_weights_told (He.ga K)) := ok_weights_told d_weights_told g_need_told g_told_by
  have g_surely_above : DkX P w K mg base "surely_above" 9 ["odds", "total", "shares"] (sp_surely_above (He.ga K)) := ok_surely_above d_surely_above b_enumerate b_all g_need_told g_told_by g_is_less g_times g_made
  have g_law_right : Dk P w K mg base "_law_right" 10 ["_law_odds", "_law_whole", "_law_shares_so"] sp_law_right := ok_law_right d_law_right b_len b_enumerate g_law_every g_law_are_best g_weights_told g_surely_above
  have g_law_known : Dk P w K mg base "_law_known" 1 [] sp_law_known := ok_law_known d_law_known
  obtain ⟨fE, fdE, fnE, mE⟩ := d_law_error.ex
  obtain ⟨fN, fdN, fnN, mN⟩ := d_law_names.ex
  have mS : mg "ShareError" = some (.ref (He.ga K "ShareError")) := He.glo_ok X G (c.fact 72 (f := .glo "ShareError") rfl)
  have mC : ∀ x ∈ clsN, mg x = some (.ref (He.ga K x)) := fun x hx => He.glo_ok X G (c.facts (f := .glo x) (clsN_in x hx))
  have hE : ∀ x ∈ (["InvalidOdds", "InvalidNumber", "InvalidShares"] : List Str), ErrF K (He.ga K) x := fun x hx => (err_of s.more hx).1
  have hex : ∀ cls t, nmE (He.ga K) cls t → PySem.W.exmOne K cls (.ref (He.ga K "ShareError")) = some true := by
    rintro cls t ⟨x, y, hxy, rfl, rfl⟩
    refine (err_of s.more ?_).2
    rcases hxy with ⟨rfl, _⟩ | ⟨rfl, _⟩ | ⟨rfl, _⟩ <;> simp [errN]
  exact fn_code fnL hcode sc_law (ln_law _) (t_law (He.ga K) (He.cT K ("law", none)).2) (fun F0 f A outer s H E hr => body_law b_len b_list g_law_drum g_law_game g_law_roll g_law_every g_law_some g_law_shares g_law_best g_law_right g_weights_told g_surely_above g_law_known fnE mE fnN mN mS b_isinstance b_ValueError b_zip mC hE hex TB hr) (rd_law (He.ga K) _)
theorem law_in : He.Fa.glo "law" ∈ faA := List.mem_of_getElem? (i := 39) rfl
end
end GS

-- text WG
set_option Elab.async false
set_option linter.all false
set_option maxRecDepth 100000
set_option maxHeartbeats 0
namespace GS
open PySem PySem.Spec PyProof.Rows L2 DL
abbrev Rw : PySem.W.OpenRow := PySem.W.OpenLaw.row PySem.Challenge.rw_growshares_k07_whole_weights_told_back
abbrev hkA : PySem.W.Hook := He.hookX 6 faA fnA [] tfA exA
def obA (s : PySem.W.SharedT) : He.AlX := He.obsX 6 faA fnA [] tfA exA (HandSHeadRun.getT s)
theorem obA_eq (s : PySem.W.SharedT) : obA s = hkA.obs s.abs := He.obsX_eq (HandSHeadRun.getT_eq s)
/-- the script, the law's table: what stands there at the start -/
theorem start_ok {K : Fg} {H : Hp} {P0 a : Addr} {ns : List Int} (hP : H P0 = some (.tbl #[])) (hS : SqL K H a (ns.map V.int)) (hn : ns.length ≤ 1000) (hb : ∀ z ∈ ns, Builtin.Int.intBits z ≤ 1048576) : lSp K (sp_law P0) [.ref a] H (fun v _ => v = .bl true) fun _ _ _ => False := by
  have hF : SqL K (fun b => if b = P0 then none else H b) a (ns.map V.int) := by
    rcases hS with (h | ⟨o, h⟩) | h
    · have ne : a ≠ P0 := fun z => by rw [z, hP] at h; cases h
      exact .inl (.inl ((if_neg ne).trans h))
    · have ne : a ≠ P0 := fun z => by rw [z, hP] at h; cases h
      exact .inl (.inr ⟨o, (if_neg ne).trans h⟩)
    · exact .inr h
  have sm : Sim K ⟨fun b => if b = P0 then none else H b, H, fun b => if b = P0 then some (.tab qL) else none⟩ (fun b => if b = P0 then none else H b) H (fun b => if b = P0 then some (.tab qL) else none) := by
    refine ⟨.refl _, .refl _ _ _, fun b o e => ?_, fun b m e => ?_⟩
    · by_cases hb : b = P0
      · rw [if_pos hb] at e
        cases e
      · rw [if_neg hb] at e
        exact e
    · by_cases hb : b = P0
      · rw [if_pos hb] at e
        cases e
        subst hb
        refine ⟨if_pos rfl, #[], hP, ?_, fun pos cv hc => ?_⟩
        · first | trivial | exact rfl | simp [TriplesOk]
        · first | cases hc | simp [codeAmong] at hc
      · rw [if_neg hb] at e
        cases e
  have lg : ∀ z ∈ ns, z.natAbs.log2 < 2000000 := fun z hz => by
    have := hb z hz
    unfold Builtin.Int.intBits at this
    split at this <;> first | omega | (simp_all; done)
  refine ⟨_, [.lst (ns.map D.int)], _, fun d _ => d = .bl true, fun _ _ => False, sm, .one ⟨a, _, rfl, hF, .of_ints⟩, ⟨ns, rfl, lg, hn, if_pos rfl, fun _ => rfl⟩, ?_, fun _ _ _ _ _ z => z⟩
  rintro v H' ⟨F', d, μ', g, r, rfl⟩
  exact r
theorem law_at {w : World} {mg : Str → Option Value} {fa : Addr} {h : Heap} (Y : hkA.says w h) (G : h.Ns mainGlobals mg) (hm : mg "law" = some (.ref fa)) : ∃ K : Fg, K.In h ∧ LamX.LawAtS PySem.Challenge.rw_growshares_k07_whole_weights_told_back w K CX0 14 63 "_law_script" mg fa h := by
  obtain ⟨K, KX, s⟩ := Y
  have c : He.SaysD faA fnA K := s.t.d
  have p0 : (("law", none) : He.Defn) ∈ tfA := List.mem_cons_self
  obtain ⟨fd, F0⟩ := c.def_ (fnA.length - 1) (d := DD "law" s_law) rfl
  have F : FunD K "law" "law" (defArgs s_law) (defBody s_law) (defScope s_law) [] [] (He.ga K "law") fd := F0
  have hfa : fa = He.ga K "law" := by
    have e := hm.symm.trans (He.glo_ok KX G (c.facts (f := .glo "law") law_in))
    cases e
    rfl
  subst hfa
  have fnL := He5.fun_of F
  refine ⟨K, KX, fd, [He.cT K ("law", none)], lSp K (sp_law (He.cT K ("law", none)).2), ?_, ?_, ?_, ?_, ?_, ?_⟩
  · intro p hp
    rw [List.mem_singleton.mp hp]
    exact s.empty _ p0
  · intro p hp
    rw [List.mem_singleton.mp hp]
    exact s.out _ p0
  · intro p hp
    rw [List.mem_singleton.mp hp]
    exact PySem.W.codeHd_of_K KX (s.hd _ p0)
  · have b := FunD.bindsA (ps := ["_law_script"]) F fun _ _ _ _ _ _ us hl => match us, hl with | [_], _ => rfl
    exact fun s u => b s [u] rfl
  · intro H a ns hl hb hP hS
    exact start_ok (hP _ (List.mem_singleton.mpr rfl)) hS (Nat.le_trans hl (by decide)) hb
  · intro base Kb Gb TB
    obtain ⟨oc, od, dV, kV, doc, pm, an, cdv, ct, osl, e, l, hcd, _⟩ := id F.ex
    obtain ⟨cc, ecc⟩ := He.codeIn_ref hcd
    have e2 : fd.code = .ref cc := by rw [e]; exact ecc
    have e3 : He.codeOf K ("law", none) = cc := He.codeOf_eq l e2
    exact law_ok (P := (PySem.Challenge.rw_growshares_k07_whole_weights_told_back).prog) (base := base) KX G s (TB _ (List.mem_singleton.mpr rfl)) fnL (by rw [e2, ← e3]; rfl)
end GS

-- text WH
set_option Elab.async false
set_option linter.all false
set_option maxRecDepth 100000
set_option maxHeartbeats 0
namespace GS
open PySem PySem.Spec PyProof.Rows L2 DL
def loose0 : List Str := ["shared", "made", "plus", "times", "over", "is_less", "total", "is_whole", "fits_fraction", "ShareError", "InvalidGame", "InvalidShares", "InvalidOutcome", "InvalidNumber", "InvalidTimes", "InvalidNews", "InvalidCounts", "InvalidOdds", "InvalidPair", "InvalidBet", "InvalidText", "Unlike", "NothingToUndo", "TooMany", "MOST_OUTCOMES", "FAR", "fit_odds", "fit_shares", "factors_of", "mean_of"]
def loose1 : List Str := ["need_number", "chances_of", "gains_of", "are_best", "all_weights", "need_told", "told_by", "weights_told", "surely_above", "_law_drum", "_law_roll", "_law_some", "_law_low", "_law_game", "_law_shares", "_law_factors", "_law_mean", "_law_known", "_law_rate", "_law_best", "_law_gains", "_law_are_best", "_law_names", "_law_error", "_law_every", "_law_right"]
def loose : List Str := loose0 ++ loose1
theorem runA (w : World) : HandSHeadRun.RunEq Rw (PySem.W.view Rw.prog [62]) hkA obA 20000 loose w := by
  intro os
  kernel_rfl
end GS
open PySem PySem.W PySem.Calls PyProof.Rows
theorem PySem.Challenge.cw_growshares_k07_whole_weights_told_back_holds : PySem.Challenge.rw_growshares_k07_whole_weights_told_back.Holds := by
  w_on; o_law
  refine HandSHeadRun.head_any (r := OpenLaw.row PySem.Challenge.rw_growshares_k07_whole_weights_told_back) (q := view (OpenLaw.row PySem.Challenge.rw_growshares_k07_whole_weights_told_back).prog [62]) (H := GS.hkA) (ob := GS.obA) (M := 20000) (loose := GS.loose) (d := HandSHeadRun.topDef (OpenLaw.row PySem.Challenge.rw_growshares_k07_whole_weights_told_back).prog 62) (kwd := []) GS.obA_eq
    (by kernel_rfl) (fun s => by kernel_rfl) GS.runA (by kernel_rfl) (by kernel_rfl) (by kernel_rfl) (by rfl) (by first | assumption | decide +kernel) (by decide +kernel) ⟨rfl, rfl, rfl, rfl, rfl, by decide +kernel⟩ ?hw ?hc
  case hw => w_witness2
  case hc =>
    refine LamX.walk_ofTsE (l := PySem.Challenge.rw_growshares_k07_whole_weights_told_back) (n := 63) (k := 14) (x := "_law_script") (CX := fun _ => L2.CX0) rfl (by decide) (by kernel_rfl) ⟨rfl, by decide, by decide⟩ ?F (fun _ _ _ _ _ z => z)
    intro w mg fa h Y G hmg0
    have hmg : mg ("law" : PySem.Str) = some (.ref fa) := by
      have e : (HandSHeadRun.topDef (OpenLaw.row PySem.Challenge.rw_growshares_k07_whole_weights_told_back).prog 62).name = ("law" : PySem.Str) := by kernel_rfl
      rw [← e]
      exact hmg0
    exact GS.law_at Y G hmg
