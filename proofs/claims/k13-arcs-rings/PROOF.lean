import PyProof.Rows.All
import Wide.All
import OpenK.AllK
import Wide.FinOn
import HandS.ForMost
import HandS.ForExc
import HandS.CallSlots
import HandS.ExcField
import HandS.ExcInit
import HandS.TryMany
import HandS.TupAny
import HandS.IsInst
import HandS.CallLocal
import HandS.Style
import HandS.TupMul
import HandS.Strs
import HandS.Sort
import HandS.TryOnly
import HandS.Words
import PyProof.ListMulRoad
import HandS.SortInts
import HandS.More
import HandS.WordsDict
import HandS.Conv
import KE.KExcIs
import PyProof.MaxThree
import HandS.Text
import PyProof.Rows.SetFrom
import HandS.TupSets
import HandS.Dict
import KE.KSortTupG
import HandS.Ends
import KE.RegKIsAll
import PySem.Challenge.RW_fullspeed_k13_arcs_rings_judged
set_option linter.all false
set_option Elab.async false
set_option maxRecDepth 100000
set_option maxHeartbeats 4000003
/-! Values by trees: plain values, owned objects, frames; one judgement a construct. -/
namespace Sm
open PySem L2

/-- plain values: what never changes -/
inductive PV where
  | non | bl (b : Bool) | int (i : Int) | str (x : Str) | adr (a : Addr) | ty (n : String) | rng (lo hi : Int) | tup (xs : List PV) | lst (xs : List PV) | tupz (xs : List PV) | xcp (a d : Addr) (cls : Nat) (ks : List Str) (xs : List PV)
  deriving Inhabited

mutual
def VR (K : PySem.W.Frag) (S : Hp) : PV → V → Prop
  | .non, v => v = .non
  | .bl b, v => v = .bl b
  | .int i, v => v = .int i
  | .str x, v => v = .str x
  | .adr a, v => v = .ref a
  | .ty n, v => v = .ty n
  | .rng lo hi, v => ∃ a, v = .ref a ∧ S a = some (.rng lo hi)
  | .tup ps, v => ∃ a xs, v = .ref a ∧ S a = some (.tup xs) ∧ VRL K S ps xs
  | .lst ps, v => ∃ a xs, v = .ref a ∧ SqL K S a xs ∧ VRL K S ps xs
  | .tupz ps, v => ∃ a o xs, v = .ref a ∧ S a = some (.frz o (.tup xs)) ∧ o.cls = .type "tuple" ∧ o.dict = none ∧ VRL K S ps xs
  | .xcp a d _ ks ps, v => ∃ xs fs, v = .ref a ∧ S d = some (.xd fs) ∧ (∀ f, fs.lookup f = (ks.zip xs).lookup f) ∧ VRL K S ps xs
def VRL (K : PySem.W.Frag) (S : Hp) : List PV → List V → Prop
  | [], xs => xs = []
  | p :: ps, xs => ∃ x r, xs = x :: r ∧ VR K S p x ∧ VRL K S ps r
end

/-- owned objects (and plain values): lists of plain values, lists of owned ones, dicts by keys, dicts by tuples, instances -/
inductive MV where
  | pv (p : PV) | pl (xs : List PV) | ls (xs : List MV) | pd (ks : List Key) (xs : List PV) | pt (ks : List (List Key)) (xs : List PV) | dt (ks : List Key) (xs : List MV) | ins (c : Addr) (ks : List Str) (xs : List MV)
  deriving Inhabited

mutual
def Own (K : PySem.W.Frag) (S H : Hp) : MV → V → List Addr → Prop
  | .pv p, v, fp => fp = [] ∧ VR K S p v
  | .pl ps, v, fp => ∃ a vs, v = .ref a ∧ fp = [a] ∧ H a = some (.lst vs) ∧ S a = none ∧ VRL K S ps vs
  | .ls ms, v, fp => ∃ a vs r, v = .ref a ∧ fp = a :: r ∧ H a = some (.lst vs) ∧ S a = none ∧ OwnL K S H ms vs r
  | .pd ks ps, v, fp => ∃ a kvs, v = .ref a ∧ fp = [a] ∧ H a = some (.dK kvs) ∧ S a = none ∧ kvs.map (·.1) = ks ∧ VRL K S ps (kvs.map (·.2))
  | .pt ks ps, v, fp => ∃ a kvs, v = .ref a ∧ fp = [a] ∧ H a = some (.dT kvs) ∧ S a = none ∧ kvs.map (·.1) = ks ∧ VRL K S ps (kvs.map (·.2))
  | .dt ks ms, v, fp => ∃ a kvs r, v = .ref a ∧ fp = a :: r ∧ H a = some (.dK kvs) ∧ S a = none ∧ kvs.map (·.1) = ks ∧ OwnL K S H ms (kvs.map (·.2)) r
  | .ins C ks ms, v, fp => ∃ a dx fs r, v = .ref a ∧ fp = a :: r ∧ H a = some (.ins C dx fs) ∧ S a = none ∧ fs.map (·.1) = ks ∧ OwnL K S H ms (fs.map (·.2)) r
def OwnL (K : PySem.W.Frag) (S H : Hp) : List MV → List V → List Addr → Prop
  | [], vs, fp => vs = [] ∧ fp = []
  | m :: ms, vs, fp => ∃ v r f1 f2, vs = v :: r ∧ fp = f1 ++ f2 ∧ Own K S H m v f1 ∧ OwnL K S H ms r f2
end

/-! ### lemmas: more of the plain part -/
theorem same_sqt {K : PySem.W.Frag} {S S' : Hp} (h : Same S S') {a : Addr} {xs : List V} (q : SqT K S a xs) : SqT K S' a xs := q.imp (fun z => z.imp (h _ _) fun ⟨o, y⟩ => ⟨o, h _ _ y⟩) id
theorem same_sql {K : PySem.W.Frag} {S S' : Hp} (h : Same S S') {a : Addr} {xs : List V} (q : SqL K S a xs) : SqL K S' a xs := h.seq q
mutual
theorem VR.mono {K : PySem.W.Frag} {S S' : Hp} (h : Same S S') : ∀ {p : PV} {v : V}, VR K S p v → VR K S' p v
  | .non, _, q => q
  | .bl _, _, q => q
  | .int _, _, q => q
  | .str _, _, q => q
  | .adr _, _, q => q
  | .ty _, _, q => q
  | .rng _ _, _, ⟨a, e, q⟩ => ⟨a, e, h _ _ q⟩
  | .tup _, _, ⟨a, xs, e, q, r⟩ => ⟨a, xs, e, h _ _ q, VRL.mono h r⟩
  | .lst _, _, ⟨a, xs, e, q, r⟩ => ⟨a, xs, e, same_sql h q, VRL.mono h r⟩
  | .tupz _, _, ⟨a, o, xs, e, q, c, d, r⟩ => ⟨a, o, xs, e, h _ _ q, c, d, VRL.mono h r⟩
  | .xcp _ _ _ _ _, _, ⟨xs, fs, e, q, l, r⟩ => ⟨xs, fs, e, h _ _ q, l, VRL.mono h r⟩
theorem VRL.mono {K : PySem.W.Frag} {S S' : Hp} (h : Same S S') : ∀ {ps : List PV} {xs : List V}, VRL K S ps xs → VRL K S' ps xs
  | [], _, q => q
  | _ :: _, _, ⟨x, r, e, q, t⟩ => ⟨x, r, e, VR.mono h q, VRL.mono h t⟩
end
mutual
/-- owned things whose own cells are untouched stay -/
theorem Own.keep {K : PySem.W.Frag} {S S' H H' : Hp} (h : Same S S') : ∀ {m : MV} {v : V} {fp : List Addr}, Own K S H m v fp → (∀ b ∈ fp, H' b = H b) → (∀ b ∈ fp, S' b = none) → Own K S' H' m v fp
  | .pv _, _, _, ⟨e, q⟩, _, _ => ⟨e, q.mono h⟩
  | .pl _, _, _, ⟨a, vs, e, ef, q, n, r⟩, k, z => ⟨a, vs, e, ef, (k a (by rw [ef]; exact List.mem_singleton.mpr rfl)).trans q, z a (by rw [ef]; exact List.mem_singleton.mpr rfl), r.mono h⟩
  | .ls _, _, _, ⟨a, vs, t, e, ef, q, n, r⟩, k, z => ⟨a, vs, t, e, ef, (k a (by rw [ef]; exact List.mem_cons_self)).trans q, z a (by rw [ef]; exact List.mem_cons_self),
      OwnL.keep h r (fun b hb => k b (by rw [ef]; exact List.mem_cons_of_mem _ hb)) fun b hb => z b (by rw [ef]; exact List.mem_cons_of_mem _ hb)⟩
  | .pd _ _, _, _, ⟨a, vs, e, ef, q, n, r1, r⟩, k, z => ⟨a, vs, e, ef, (k a (by rw [ef]; exact List.mem_singleton.mpr rfl)).trans q, z a (by rw [ef]; exact List.mem_singleton.mpr rfl), r1, r.mono h⟩
  | .pt _ _, _, _, ⟨a, vs, e, ef, q, n, r1, r⟩, k, z => ⟨a, vs, e, ef, (k a (by rw [ef]; exact List.mem_singleton.mpr rfl)).trans q, z a (by rw [ef]; exact List.mem_singleton.mpr rfl), r1, r.mono h⟩
  | .dt _ _, _, _, ⟨a, vs, t, e, ef, q, n, r1, r⟩, k, z => ⟨a, vs, t, e, ef, (k a (by rw [ef]; exact List.mem_cons_self)).trans q, z a (by rw [ef]; exact List.mem_cons_self), r1,
      OwnL.keep h r (fun b hb => k b (by rw [ef]; exact List.mem_cons_of_mem _ hb)) fun b hb => z b (by rw [ef]; exact List.mem_cons_of_mem _ hb)⟩
  | .ins _ _ _, _, _, ⟨a, dx, fs, t, e, ef, q, n, r1, r⟩, k, z => ⟨a, dx, fs, t, e, ef, (k a (by rw [ef]; exact List.mem_cons_self)).trans q, z a (by rw [ef]; exact List.mem_cons_self), r1,
      OwnL.keep h r (fun b hb => k b (by rw [ef]; exact List.mem_cons_of_mem _ hb)) fun b hb => z b (by rw [ef]; exact List.mem_cons_of_mem _ hb)⟩
theorem OwnL.keep {K : PySem.W.Frag} {S S' H H' : Hp} (h : Same S S') : ∀ {ms : List MV} {vs : List V} {fp : List Addr}, OwnL K S H ms vs fp → (∀ b ∈ fp, H' b = H b) → (∀ b ∈ fp, S' b = none) → OwnL K S' H' ms vs fp
  | [], _, _, q, _, _ => q
  | _ :: _, _, _, ⟨v, r, f1, f2, e, ef, q, t⟩, k, z => ⟨v, r, f1, f2, e, ef, q.keep h (fun b hb => k b (by rw [ef]; exact List.mem_append_left _ hb)) (fun b hb => z b (by rw [ef]; exact List.mem_append_left _ hb)),
      OwnL.keep h t (fun b hb => k b (by rw [ef]; exact List.mem_append_right _ hb)) fun b hb => z b (by rw [ef]; exact List.mem_append_right _ hb)⟩
end
mutual
/-- own cells are tracked, and not of the plain part -/
theorem Own.cells {K : PySem.W.Frag} {S H : Hp} : ∀ {m : MV} {v : V} {fp : List Addr}, Own K S H m v fp → ∀ b ∈ fp, H b ≠ none ∧ S b = none
  | .pv _, _, _, ⟨e, _⟩, b, hb => by rw [e] at hb; cases hb
  | .pl _, _, _, ⟨a, vs, e, ef, q, n, r⟩, b, hb => by rw [ef] at hb; cases List.mem_singleton.mp hb; exact ⟨by rw [q]; simp, n⟩
  | .ls _, _, _, ⟨a, vs, t, e, ef, q, n, r⟩, b, hb => by
    rw [ef] at hb
    rcases List.mem_cons.mp hb with rfl | hb
    · exact ⟨by rw [q]; simp, n⟩
    · exact OwnL.cells r b hb
  | .pd _ _, _, _, ⟨a, vs, e, ef, q, n, r⟩, b, hb => by rw [ef] at hb; cases List.mem_singleton.mp hb; exact ⟨by rw [q]; simp, n⟩
  | .pt _ _, _, _, ⟨a, vs, e, ef, q, n, r⟩, b, hb => by rw [ef] at hb; cases List.mem_singleton.mp hb; exact ⟨by rw [q]; simp, n⟩
  | .dt _ _, _, _, ⟨a, vs, t, e, ef, q, n, r1, r⟩, b, hb => by
    rw [ef] at hb
    rcases List.mem_cons.mp hb with rfl | hb
    · exact ⟨by rw [q]; simp, n⟩
    · exact OwnL.cells r b hb
  | .ins _ _ _, _, _, ⟨a, dx, fs, t, e, ef, q, n, r1, r⟩, b, hb => by
    rw [ef] at hb
    rcases List.mem_cons.mp hb with rfl | hb
    · exact ⟨by rw [q]; simp, n⟩
    · exact OwnL.cells r b hb
theorem OwnL.cells {K : PySem.W.Frag} {S H : Hp} : ∀ {ms : List MV} {vs : List V} {fp : List Addr}, OwnL K S H ms vs fp → ∀ b ∈ fp, H b ≠ none ∧ S b = none
  | [], _, _, ⟨_, e⟩, b, hb => by rw [e] at hb; cases hb
  | _ :: _, _, _, ⟨v, r, f1, f2, e, ef, q, t⟩, b, hb => by
    rw [ef] at hb
    rcases List.mem_append.mp hb with hb | hb
    · exact Own.cells q b hb
    · exact OwnL.cells t b hb
end

/-! ### frames -/
/-- a slot: nothing known, a thing of the frame's own, a parameter's object that the caller keeps -/
inductive Sl where
  | no | ow (m : MV) | pr (m : MV)
  deriving Inhabited
abbrev Fr := List Sl
def SlR (K : PySem.W.Frag) (S H : Hp) : Sl → Option V → List Addr → Prop
  | .no, _, fp => fp = []
  | .ow m, o, fp => ∃ v, o = some v ∧ Own K S H m v fp
  | .pr m, o, fp => ∃ v, o = some v ∧ Own K S H m v fp
def FrR (K : PySem.W.Frag) (S H : Hp) : Fr → L2.St → List Addr → Prop
  | [], σ, fp => σ = [] ∧ fp = []
  | s :: r, σ, fp => ∃ o t f1 f2, σ = o :: t ∧ fp = f1 ++ f2 ∧ SlR K S H s o f1 ∧ FrR K S H r t f2
theorem SlR.keep {K : PySem.W.Frag} {S S' H H' : Hp} (h : Same S S') : ∀ {s : Sl} {o : Option V} {fp : List Addr}, SlR K S H s o fp → (∀ b ∈ fp, H' b = H b) → (∀ b ∈ fp, S' b = none) → SlR K S' H' s o fp
  | .no, _, _, q, _, _ => q
  | .ow _, _, _, ⟨v, e, q⟩, k, z => ⟨v, e, q.keep h k z⟩
  | .pr _, _, _, ⟨v, e, q⟩, k, z => ⟨v, e, q.keep h k z⟩
theorem FrR.keep {K : PySem.W.Frag} {S S' H H' : Hp} (h : Same S S') : ∀ {fr : Fr} {σ : L2.St} {fp : List Addr}, FrR K S H fr σ fp → (∀ b ∈ fp, H' b = H b) → (∀ b ∈ fp, S' b = none) → FrR K S' H' fr σ fp
  | [], _, _, q, _, _ => q
  | _ :: _, _, _, ⟨o, t, f1, f2, e, ef, q, r⟩, k, z => ⟨o, t, f1, f2, e, ef, q.keep h (fun b hb => k b (by rw [ef]; exact List.mem_append_left _ hb)) (fun b hb => z b (by rw [ef]; exact List.mem_append_left _ hb)),
      FrR.keep h r (fun b hb => k b (by rw [ef]; exact List.mem_append_right _ hb)) fun b hb => z b (by rw [ef]; exact List.mem_append_right _ hb)⟩
theorem SlR.cells {K : PySem.W.Frag} {S H : Hp} : ∀ {s : Sl} {o : Option V} {fp : List Addr}, SlR K S H s o fp → ∀ b ∈ fp, H b ≠ none ∧ S b = none
  | .no, _, _, q, b, hb => by rw [show _ = [] from q] at hb; cases hb
  | .ow _, _, _, ⟨v, e, q⟩, b, hb => q.cells b hb
  | .pr _, _, _, ⟨v, e, q⟩, b, hb => q.cells b hb
theorem FrR.cells {K : PySem.W.Frag} {S H : Hp} : ∀ {fr : Fr} {σ : L2.St} {fp : List Addr}, FrR K S H fr σ fp → ∀ b ∈ fp, H b ≠ none ∧ S b = none
  | [], _, _, ⟨_, e⟩, b, hb => by rw [e] at hb; cases hb
  | _ :: _, _, _, ⟨o, t, f1, f2, e, ef, q, r⟩, b, hb => by
    rw [ef] at hb
    rcases List.mem_append.mp hb with hb | hb
    · exact q.cells b hb
    · exact FrR.cells r b hb
theorem FrR.len {K : PySem.W.Frag} {S H : Hp} : ∀ {fr : Fr} {σ : L2.St} {fp : List Addr}, FrR K S H fr σ fp → σ.length = fr.length
  | [], _, _, ⟨e, _⟩ => by rw [e]; rfl
  | _ :: _, _, _, ⟨o, t, f1, f2, e, ef, q, r⟩ => by rw [e, List.length_cons, List.length_cons, FrR.len r]
/-- what stands in a slot: its part of the cells, and the rest by the slot's exchange -/
theorem FrR.at {K : PySem.W.Frag} {S H : Hp} : ∀ {fr : Fr} {σ : L2.St} {fp : List Addr} {i : Nat} {s : Sl}, FrR K S H fr σ fp → fr[i]? = some s →
    ∃ o f0 f1 f2, σ[i]? = some o ∧ fp = f0 ++ (f1 ++ f2) ∧ SlR K S H s o f1 ∧
      ∀ (S' H' : Hp) (s' : Sl) (o' : Option V) (f' : List Addr), Same S S' → (∀ b ∈ f0, H' b = H b ∧ S' b = none) → (∀ b ∈ f2, H' b = H b ∧ S' b = none) → SlR K S' H' s' o' f' → FrR K S' H' (fr.set i s') (σ.set i o') (f0 ++ (f' ++ f2))
  | [], _, _, _, _, _, e => by cases e
  | x :: r, _, _, 0, s, ⟨o, t, f1, f2, e, ef, q, w⟩, es => by
    have es' : x = s := by simpa using es
    subst es' e ef
    exact ⟨o, [], f1, f2, rfl, rfl, q, fun S' H' s' o' f' hS _ h2 q' => ⟨o', t, f', f2, rfl, rfl, q', w.keep hS (fun b hb => (h2 b hb).1) fun b hb => (h2 b hb).2⟩⟩
  | x :: r, _, _, i + 1, s, ⟨o, t, f1, f2, e, ef, q, w⟩, es => by
    subst e ef
    obtain ⟨o2, g0, g1, g2, e1, e2, q2, k⟩ := FrR.at (i := i) (s := s) w (by simpa using es)
    subst e2
    refine ⟨o2, f1 ++ g0, g1, g2, by simpa using e1, by rw [List.append_assoc], q2, fun S' H' s' o' f' hS h1 h2 q' => ?_⟩
    refine ⟨o, t.set i o', f1, g0 ++ (f' ++ g2), rfl, by rw [List.append_assoc], q.keep hS (fun b hb => (h1 b (List.mem_append_left _ hb)).1) (fun b hb => (h1 b (List.mem_append_left _ hb)).2),
      k S' H' s' o' f' hS (fun b hb => h1 b (List.mem_append_right _ hb)) h2 q'⟩
end Sm

namespace Sm
open PySem L2
variable {K : PySem.W.Frag}

/-- a state: the plain part, the heap, the slots' values, the frame, the cells that the frame owns -/
structure Cf where
  S : Hp
  H : Hp
  σ : L2.St
  fr : Fr
  F : List Addr
structure Rep (K : PySem.W.Frag) (c : Cf) : Prop where
  sub : Same c.S c.H
  rel : FrR K c.S c.H c.fr c.σ c.F
  nd : c.F.Nodup
theorem Rep.cells {c : Cf} (r : Rep K c) {b : Addr} (hb : b ∈ c.F) : c.H b ≠ none ∧ c.S b = none := r.rel.cells b hb
/-- from c one has come to c', holding a result with the cells X; m: without change (what stood stands) -/
structure Go (K : PySem.W.Frag) (m : Bool) (c : Cf) (X : List Addr) (c' : Cf) : Prop where
  rep : Rep K c'
  nd : (X ++ c'.F).Nodup
  xc : ∀ b ∈ X, c'.H b ≠ none ∧ c'.S b = none
  sS : Same c.S c'.S
  keep : ∀ b, b ∉ c.F → ∀ o, c.H b = some o → c'.H b = some o
  new : ∀ b ∈ X ++ c'.F, b ∈ c.F ∨ c.H b = none
  newS : ∀ b, c'.S b ≠ none → c.S b ≠ none ∨ b ∈ c.F ∨ c.H b = none
  pr : ∀ (i : Nat) m, c.fr[i]? = some (.pr m) → c'.σ[i]? = c.σ[i]? ∧ ∃ m', c'.fr[i]? = some (.pr m')
  pure : m = true → c'.fr = c.fr ∧ c'.F = c.F ∧ Same c.H c'.H ∧ c'.σ = c.σ
theorem Go.refl {m : Bool} {c : Cf} (r : Rep K c) : Go K m c [] c where
  rep := r
  nd := r.nd
  xc := fun _ h => nomatch h
  sS := Same.refl _
  keep := fun _ _ _ e => e
  new := fun b hb => .inl hb
  newS := fun b h => .inl h
  pr := fun i m e => ⟨rfl, m, e⟩
  pure := fun _ => ⟨rfl, rfl, Same.refl _, rfl⟩
theorem Go.weak {m : Bool} {c c' : Cf} {X : List Addr} (g : Go K m c X c') : Go K false c X c' := ⟨g.rep, g.nd, g.xc, g.sS, g.keep, g.new, g.newS, g.pr, fun h => nomatch h⟩
/-- what another holds stays -/
theorem Go.other {m : Bool} {c c' : Cf} {X Y : List Addr} (g : Go K m c X c') (hd : ∀ b ∈ Y, b ∉ c.F) (hc : ∀ b ∈ Y, c.H b ≠ none ∧ c.S b = none) :
    (∀ b ∈ Y, c'.H b = c.H b) ∧ (∀ b ∈ Y, c'.S b = none) ∧ (∀ b ∈ Y, b ∉ X ++ c'.F) := by
  refine ⟨fun b hb => ?_, fun b hb => ?_, fun b hb hx => ?_⟩
  · cases e : c.H b with
    | none => exact absurd e (hc b hb).1
    | some o => exact g.keep b (hd b hb) o e
  · cases e : c'.S b with
    | none => rfl
    | some o =>
      rcases g.newS b (by rw [e]; simp) with h | h | h
      · exact absurd (hc b hb).2 h
      · exact absurd h (hd b hb)
      · exact absurd h (hc b hb).1
  · rcases g.new b hx with h | h
    · exact hd b hb h
    · exact (hc b hb).1 h
/-- X is still held when the next step is done -/
theorem Go.trans {m : Bool} {c c1 c2 : Cf} {X Y : List Addr} (g : Go K m c X c1) (h : Go K m c1 Y c2) : Go K m c (X ++ Y) c2 := by
  obtain ⟨o1, o2, o3⟩ := h.other (Y := X) (fun b hb => fun q => (List.nodup_append.mp g.nd).2.2 b hb b q rfl) g.xc
  have newH : ∀ b, c1.H b = none → b ∈ c.F ∨ c.H b = none := fun b hb => by
    by_cases hF : b ∈ c.F
    · exact .inl hF
    · cases e : c.H b with
      | none => exact .inr rfl
      | some o => rw [g.keep b hF o e] at hb; cases hb
  refine ⟨h.rep, ?_, fun b hb => ?_, g.sS.trans h.sS, fun b hF o e => ?_, fun b hb => ?_, fun b hb => ?_, fun i q e => ?_, fun q => ?_⟩
  · rw [List.append_assoc]
    refine List.nodup_append.mpr ⟨(List.nodup_append.mp g.nd).1, h.nd, fun a ha b hb e => ?_⟩
    subst e
    exact o3 a ha hb
  · rcases List.mem_append.mp hb with hb | hb
    · exact ⟨by rw [o1 b hb]; exact (g.xc b hb).1, o2 b hb⟩
    · exact h.xc b hb
  · have e1 := g.keep b hF o e
    refine h.keep b (fun q => ?_) o e1
    rcases g.new b (List.mem_append_right _ q) with z | z
    · exact hF z
    · rw [z] at e; cases e
  · rw [List.append_assoc] at hb
    rcases List.mem_append.mp hb with hb | hb
    · exact g.new b (List.mem_append_left _ hb)
    · rcases h.new b hb with z | z
      · exact g.new b (List.mem_append_right _ z)
      · exact newH b z
  · rcases h.newS b hb with z | z | z
    · exact g.newS b z
    · rcases g.new b (List.mem_append_right _ z) with y | y
      · exact .inr (.inl y)
      · exact .inr (.inr y)
    · exact .inr (newH b z)
  · obtain ⟨e1, m', e2⟩ := g.pr i q e
    obtain ⟨e3, m2, e4⟩ := h.pr i m' e2
    exact ⟨e3.trans e1, m2, e4⟩
  · obtain ⟨a1, a2, a3, a4⟩ := g.pure q
    obtain ⟨b1, b2, b3, b4⟩ := h.pure q
    exact ⟨b1.trans a1, b2.trans a2, a3.trans b3, b4.trans a4⟩
/-- a held result is let go -/
theorem Go.drop {m : Bool} {c c' : Cf} {X Y : List Addr} (g : Go K m c (X ++ Y) c') : Go K m c Y c' :=
  ⟨g.rep, by have q := g.nd; rw [List.append_assoc] at q; exact (List.nodup_append.mp q).2.1, fun b hb => g.xc b (List.mem_append_right _ hb), g.sS, g.keep, fun b hb => g.new b (by rw [List.append_assoc]; exact List.mem_append_right _ hb), g.newS, g.pr, g.pure⟩
theorem Go.dropAll {m : Bool} {c c' : Cf} {X : List Addr} (g : Go K m c X c') : Go K m c [] c' := Go.drop (X := X) (Y := []) (by rw [List.append_nil]; exact g)
theorem Go.then {m : Bool} {c c1 c2 : Cf} {Y : List Addr} (g : Go K m c [] c1) (h : Go K m c1 Y c2) : Go K m c Y c2 := g.trans h
/-- what is held stays what it is over a further step -/
theorem Go.hold {m n : Bool} {c c1 c2 : Cf} {X Y : List Addr} {mv : MV} {v : V} (g : Go K m c X c1) (h : Go K n c1 Y c2) (o : Own K c1.S c1.H mv v X) : Own K c2.S c2.H mv v X := by
  obtain ⟨o1, o2, _⟩ := h.other (Y := X) (fun b hb => fun q => (List.nodup_append.mp g.nd).2.2 b hb b q rfl) g.xc
  exact o.keep h.sS o1 o2

/-- the way to show a step, over the fields -/
theorem Go.of {m : Bool} {c : Cf} {X : List Addr} {S' H' : Hp} {σ' : L2.St} {fr' : Fr} {F' : List Addr} (sub : Same S' H') (rel : FrR K S' H' fr' σ' F') (nd : (X ++ F').Nodup) (xc : ∀ b ∈ X, H' b ≠ none ∧ S' b = none) (sS : Same c.S S')
    (keep : ∀ b, b ∉ c.F → ∀ o, c.H b = some o → H' b = some o) (new : ∀ b ∈ X ++ F', b ∈ c.F ∨ c.H b = none) (newS : ∀ b, S' b ≠ none → c.S b ≠ none ∨ b ∈ c.F ∨ c.H b = none)
    (pr : ∀ (i : Nat) m, c.fr[i]? = some (.pr m) → σ'[i]? = c.σ[i]? ∧ ∃ m', fr'[i]? = some (.pr m')) (pure : m = true → fr' = c.fr ∧ F' = c.F ∧ Same c.H H' ∧ σ' = c.σ) : Go K m c X ⟨S', H', σ', fr', F'⟩ :=
  ⟨⟨sub, rel, (List.nodup_append.mp nd).2.1⟩, nd, xc, sS, keep, new, newS, pr, pure⟩
theorem Rep.freeS {c : Cf} (r : Rep K c) {p : Addr} (hp : c.H p = none) : c.S p = none := by
  cases e : c.S p with
  | none => rfl
  | some u => rw [r.sub _ _ e] at hp; cases hp
theorem Rep.ne {c : Cf} (r : Rep K c) {p : Addr} (hp : c.H p = none) : ∀ b ∈ c.F, b ≠ p := fun b hb e => by subst e; exact (r.cells hb).1 hp
/-- a new plain object at p -/
theorem Rep.laidS {c : Cf} (r : Rep K c) {p : Addr} (hp : c.H p = none) (o : HO) (m : Bool) : Go K m c [] ⟨upd c.S p o, upd c.H p o, c.σ, c.fr, c.F⟩ := by
  have ns := r.freeS hp
  have nf := r.ne hp
  have sS : Same c.S (upd c.S p o) := fun b u e => by rw [upd_ne (ne_of_none e ns)]; exact e
  have sH : Same c.H (upd c.H p o) := fun b u e => by rw [upd_ne (ne_of_none e hp)]; exact e
  refine Go.of (fun b u e => ?_) (r.rel.keep sS (fun b hb => by rw [upd_ne (nf b hb)]) fun b hb => by rw [upd_ne (nf b hb)]; exact (r.cells hb).2) r.nd (fun _ h => nomatch h) sS (fun b _ => sH b) (fun b hb => .inl hb) (fun b hb => ?_) (fun i q e => ⟨rfl, q, e⟩) fun _ => ⟨rfl, rfl, sH, rfl⟩
  · by_cases h : b = p
    · subst h; rw [upd_same] at e ⊢; exact e
    · rw [upd_ne h] at e ⊢; exact r.sub _ _ e
  · by_cases h : b = p
    · subst h; exact .inr (.inr hp)
    · rw [upd_ne h] at hb; exact .inl hb
/-- a new owned object at p -/
theorem Rep.laidH {c : Cf} (r : Rep K c) {p : Addr} (hp : c.H p = none) (o : HO) (m : Bool) : Go K m c [p] ⟨c.S, upd c.H p o, c.σ, c.fr, c.F⟩ := by
  have ns := r.freeS hp
  have nf := r.ne hp
  have sH : Same c.H (upd c.H p o) := fun b u e => by rw [upd_ne (ne_of_none e hp)]; exact e
  refine Go.of (r.sub.trans sH) (r.rel.keep (Same.refl _) (fun b hb => by rw [upd_ne (nf b hb)]) fun b hb => (r.cells hb).2) (List.nodup_cons.mpr ⟨fun hb => nf p hb rfl, r.nd⟩) (fun b hb => ?_) (Same.refl _) (fun b _ => sH b) (fun b hb => ?_) (fun b hb => .inl hb) (fun i q e => ⟨rfl, q, e⟩) fun _ => ⟨rfl, rfl, sH, rfl⟩
  · cases List.mem_singleton.mp hb
    exact ⟨by rw [upd_same]; simp, ns⟩
  · rcases List.mem_cons.mp hb with rfl | hb
    · exact .inr hp
    · exact .inl hb
/-- a held list becomes plain -/
theorem Go.freeze {m : Bool} {c c' : Cf} {p : Addr} {X : List Addr} {o : HO} (g : Go K m c (p :: X) c') (ho : c'.H p = some o) : Go K m c X ⟨upd c'.S p o, c'.H, c'.σ, c'.fr, c'.F⟩ := by
  have np := (g.xc p List.mem_cons_self).2
  have hn := List.nodup_cons.mp (show (p :: (X ++ c'.F)).Nodup from g.nd)
  have nf : ∀ b ∈ c'.F, b ≠ p := fun b hb e => hn.1 (by subst e; exact List.mem_append_right _ hb)
  have sS : Same c'.S (upd c'.S p o) := fun b u e => by rw [upd_ne (ne_of_none e np)]; exact e
  refine Go.of (fun b u e => ?_) (g.rep.rel.keep sS (fun b hb => rfl) (fun b hb => by rw [upd_ne (nf b hb)]; exact (g.rep.cells hb).2)) hn.2 (fun b hb => ?_) (g.sS.trans sS) g.keep (fun b hb => g.new b (List.mem_cons_of_mem _ hb)) (fun b hb => ?_) g.pr g.pure
  · by_cases h : b = p
    · subst h; rw [upd_same] at e; rw [← e]; exact ho
    · rw [upd_ne h] at e; exact g.rep.sub _ _ e
  · refine ⟨(g.xc b (List.mem_cons_of_mem _ hb)).1, ?_⟩
    rw [upd_ne (fun e => hn.1 (by subst e; exact List.mem_append_left _ hb))]
    exact (g.xc b (List.mem_cons_of_mem _ hb)).2
  · by_cases h : b = p
    · subst h
      rcases g.new b List.mem_cons_self with z | z
      · exact .inr (.inl z)
      · exact .inr (.inr z)
    · rw [upd_ne h] at hb; exact g.newS b hb

/-! ### exceptions -/
structure Ex where
  cls : Nat
  fs : List Str × List PV
def XdR (K : PySem.W.Frag) (S H : Hp) (fs : List Str × List PV) (d : Addr) : Prop := ∃ vs xs, S d = some (.xd xs) ∧ (∀ f, xs.lookup f = (fs.1.zip vs).lookup f) ∧ VRL K S fs.2 vs

/-- what an expression comes to -/
inductive O (α : Type) where
  | ok (a : α) (fr : Fr)
  | exc (x : Ex) (fr : Fr)
  | bad
def O.bind {α β : Type} (o : O α) (k : α → Fr → O β) : O β := match o with | .ok a fr => k a fr | .exc x fr => .exc x fr | .bad => .bad
def O.bindP {β : Type} (o : O MV) (k : PV → Fr → O β) : O β := match o with | .ok (.pv p) fr => k p fr | .ok _ _ => .bad | .exc x fr => .exc x fr | .bad => .bad
@[simp] theorem O.bind_ok {α β : Type} (a : α) (fr : Fr) (k : α → Fr → O β) : (O.ok a fr).bind k = k a fr := rfl
@[simp] theorem O.bind_exc {α β : Type} (x : Ex) (fr : Fr) (k : α → Fr → O β) : (O.exc x fr : O α).bind k = .exc x fr := rfl
@[simp] theorem O.bind_bad {α β : Type} (k : α → Fr → O β) : (O.bad : O α).bind k = .bad := rfl
@[simp] theorem O.bindP_ok {β : Type} (a : PV) (fr : Fr) (k : PV → Fr → O β) : (O.ok (.pv a) fr).bindP k = k a fr := rfl
@[simp] theorem O.bindP_exc {β : Type} (x : Ex) (fr : Fr) (k : PV → Fr → O β) : (O.exc x fr : O MV).bindP k = .exc x fr := rfl
@[simp] theorem O.bindP_bad {β : Type} (k : PV → Fr → O β) : (O.bad : O MV).bindP k = .bad := rfl

def postE {α : Type} (Ow : PySem.W.Frag → Hp → Hp → α → V → List Addr → Prop) (K : PySem.W.Frag) (ca : Nat → Addr) (m : Bool) (c : Cf) (Q : VK) (W : WX) : O α → Prop
  | .ok a fr => ∀ c' v fp, c'.fr = fr → c'.σ = c.σ → Go K m c fp c' → Ow K c'.S c'.H a v fp → Q v c'.H
  | .exc x fr => ∀ c' d, c'.fr = fr → c'.σ = c.σ → Go K false c [] c' → XdR K c'.S c'.H x.fs d → W (.ref (ca x.cls)) (some d) c'.σ c'.H
  | .bad => False
variable {X : Cx} {ca : Nat → Addr} {m : Bool}
def tE (X : Cx) (ca : Nat → Addr) (m : Bool) (ev : Fr → O MV) : TE := fun σ H Q => ∃ W, Takes X W ∧ ∃ c : Cf, c.σ = σ ∧ c.H = H ∧ Rep X.K c ∧ postE Own X.K ca m c Q W (ev c.fr)
/-- THE judgement: the expression e comes to what ev tells (m: it changes nothing) -/
structure SE (X : Cx) (ca : Nat → Addr) (m : Bool) (e : Expr) (ev : Fr → O MV) : Prop where
  pe : PE X e (tE X ca m ev)
theorem SE.of {e : Expr} {t : TE} {ev : Fr → O MV} (h : PE X e t) (k : ∀ (W : WX) (c : Cf) (Q : VK), Takes X W → Rep X.K c → postE Own X.K ca m c Q W (ev c.fr) → t c.σ c.H Q) : SE X ca m e ev := by
  refine ⟨⟨fun pins s σ H Q I ⟨W, tk, c, e1, e2, r, p⟩ => ?_⟩⟩
  subst e1 e2
  exact h.run pins s c.σ c.H Q I (k W c Q tk r p)
theorem SE.weak {e : Expr} {ev : Fr → O MV} (h : SE X ca true e ev) : SE X ca false e ev := by
  refine SE.of h.pe fun W c Q tk r p => ⟨W, tk, c, rfl, rfl, r, ?_⟩
  cases q : ev c.fr with
  | ok a fr => rw [q] at p; exact fun c' v fp e1 e2 g o => p c' v fp e1 e2 g.weak o
  | exc x fr => rw [q] at p; exact p
  | bad => rw [q] at p; exact p
theorem SE.mode {e : Expr} {ev : Fr → O MV} (h : SE X ca true e ev) : SE X ca m e ev := by
  cases m with
  | true => exact h
  | false => exact h.weak
/-- another way to say the same -/
theorem SE.eq {e : Expr} {ev ev' : Fr → O MV} (h : SE X ca m e ev) (q : ∀ fr, ev' fr = .bad ∨ ev fr = ev' fr) : SE X ca m e ev' := by
  refine SE.of h.pe fun W c Q tk r p => ⟨W, tk, c, rfl, rfl, r, ?_⟩
  rcases q c.fr with z | z
  · rw [z] at p; exact p.elim
  · rw [z]; exact p
/-- what a reading of e needs: run e from c, then go on -/
theorem SE.use {e : Expr} {ev : Fr → O MV} (W : WX) (tk : Takes X W) {c : Cf} (r : Rep X.K c) {Q : VK} (p : postE Own X.K ca m c Q W (ev c.fr)) : tE X ca m ev c.σ c.H Q := ⟨W, tk, c, rfl, rfl, r, p⟩
/-- run e, then what follows: the shape of all composite rules -/
theorem use_bind {ev : Fr → O MV} {β : Type} {Ow : PySem.W.Frag → Hp → Hp → β → V → List Addr → Prop} {k : MV → Fr → O β} {W : WX} (tk : Takes X W) {c0 c : Cf} {Y : List Addr} (g0 : Go X.K m c0 Y c) (hσ : c.σ = c0.σ) {Q0 Q : VK}
    (p : postE Ow X.K ca m c0 Q0 W ((ev c.fr).bind k))
    (h : ∀ c' a v fp, c'.σ = c.σ → Go X.K m c fp c' → Own X.K c'.S c'.H a v fp → postE Ow X.K ca m c0 Q0 W (k a c'.fr) → Q v c'.H) : tE X ca m ev c.σ c.H Q := by
  refine ⟨W, tk, c, rfl, rfl, g0.rep, ?_⟩
  cases q : ev c.fr with
  | ok a fr =>
    rw [q] at p
    intro c' v fp e1 e2 g o
    subst e1
    exact h c' a v fp e2 g o p
  | exc x fr =>
    rw [q] at p
    intro c' d e1 e2 g o
    exact p c' d e1 (e2.trans hσ) (g0.weak.dropAll.then g) o
  | bad => rw [q] at p; exact p.elim
theorem use_bindP {ev : Fr → O MV} {β : Type} {Ow : PySem.W.Frag → Hp → Hp → β → V → List Addr → Prop} {k : PV → Fr → O β} {W : WX} (tk : Takes X W) {c0 c : Cf} {Y : List Addr} (g0 : Go X.K m c0 Y c) (hσ : c.σ = c0.σ) {Q0 Q : VK}
    (p : postE Ow X.K ca m c0 Q0 W ((ev c.fr).bindP k))
    (h : ∀ c' a v, c'.σ = c.σ → Go X.K m c [] c' → VR X.K c'.S a v → postE Ow X.K ca m c0 Q0 W (k a c'.fr) → Q v c'.H) : tE X ca m ev c.σ c.H Q := by
  refine use_bind (k := fun a fr => match a with | .pv p => k p fr | _ => .bad) tk g0 hσ (Q0 := Q0) (Ow := Ow) (p := ?_) fun c' a v fp e1 g o p => ?_
  · cases q : ev c.fr with
    | ok a fr => rw [q] at p; cases a <;> exact p
    | exc x fr => rw [q] at p; exact p
    | bad => rw [q] at p; exact p
  · cases a with
    | pv a =>
      obtain ⟨e, o⟩ := o
      subst e
      exact h c' a v e1 g o p
    | _ => exact p.elim
end Sm

namespace Sm
open PySem L2 PyProof.Rows
variable {K : PySem.W.Frag} {X : Cx} {ca : Nat → Addr} {m : Bool}

/-- the plain part has grown, the heap too -/
structure Gp (S H S' H' : Hp) : Prop where
  sS : Same S S'
  sH : Same H H'
  sub : Same S' H'
  new : ∀ b, S' b ≠ none → S b ≠ none ∨ H b = none
theorem Gp.refl {S H : Hp} (h : Same S H) : Gp S H S H := ⟨Same.refl _, Same.refl _, h, fun _ h => .inl h⟩
theorem Gp.laid {S H : Hp} (h : Same S H) {p : Addr} (hp : H p = none) (o : HO) : Gp S H (upd S p o) (upd H p o) := by
  have ns := h.free hp
  refine ⟨fun b u e => by rw [upd_ne (ne_of_none e ns)]; exact e, fun b u e => by rw [upd_ne (ne_of_none e hp)]; exact e, fun b u e => ?_, fun b hb => ?_⟩
  · by_cases z : b = p
    · subst z; rw [upd_same] at e ⊢; exact e
    · rw [upd_ne z] at e ⊢; exact h _ _ e
  · by_cases z : b = p
    · subst z; exact .inr hp
    · rw [upd_ne z] at hb; exact .inl hb
theorem Go.of_gp {c : Cf} {S' H' : Hp} (r : Rep K c) (g : Gp c.S c.H S' H') : Go K m c [] ⟨S', H', c.σ, c.fr, c.F⟩ := by
  have kp : ∀ b ∈ c.F, H' b = c.H b := fun b hb => by
    cases e : c.H b with
    | none => exact absurd e (r.cells hb).1
    | some o => exact g.sH _ _ e
  have kn : ∀ b ∈ c.F, S' b = none := fun b hb => by
    cases e : S' b with
    | none => rfl
    | some o =>
      rcases g.new b (by rw [e]; simp) with z | z
      · exact absurd (r.cells hb).2 z
      · exact absurd z (r.cells hb).1
  exact Go.of g.sub (r.rel.keep g.sS kp kn) r.nd (fun _ h => nomatch h) g.sS (fun b _ => g.sH b) (fun b hb => .inl hb) (fun b hb => (g.new b hb).elim .inl fun z => .inr (.inr z)) (fun i q e => ⟨rfl, q, e⟩) fun _ => ⟨rfl, rfl, g.sH, rfl⟩

/-- what a value operation gives: from plain ones a plain one -/
def VK1 (K : PySem.W.Frag) (S H : Hp) (Q : VK) (r : Option PV) : Prop := ∃ p, r = some p ∧ ∀ S' H' v, Gp S H S' H' → VR K S' p v → Q v H'
def rS (K : PySem.W.Frag) (g : PV → PV → Option PV) : R2 := fun x y H Q => ∃ S p q, Same S H ∧ VR K S p x ∧ VR K S q y ∧ VK1 K S H Q (g p q)
def OpS (X : Cx) (f : Value → Value → Sem Value) (g : PV → PV → Option PV) : Prop := OpR X f (rS X.K g)
theorem VK1.here {S H : Hp} {Q : VK} {p : PV} (h : VK1 K S H Q (some p)) (sub : Same S H) {v : V} (r : VR K S p v) : Q v H := by
  obtain ⟨p', e, k⟩ := h
  cases e
  exact k S H v (Gp.refl sub) r
theorem VK1.bad {S H : Hp} {Q : VK} (h : VK1 K S H Q none) : False := by obtain ⟨_, e, _⟩ := h; cases e
theorem VK1.new {S H : Hp} {Q : VK} {p : PV} (h : VK1 K S H Q (some p)) (sub : Same S H) {a : Addr} (ha : H a = none) {o : HO} (r : VR K (upd S a o) p (.ref a)) : Q (.ref a) (upd H a o) := by
  obtain ⟨p', e, k⟩ := h
  cases e
  exact k _ _ _ (Gp.laid sub ha o) r
theorem VK1.ite {S H : Hp} {Q : VK} {c : Prop} [Decidable c] {r : PV} (h : VK1 K S H Q (if c then some r else none)) : c ∧ VK1 K S H Q (some r) := by
  by_cases hc : c
  · rw [if_pos hc] at h; exact ⟨hc, h⟩
  · rw [if_neg hc] at h; exact h.bad.elim
theorem VRL.len : ∀ {ps : List PV} {S : Hp} {xs : List V}, VRL K S ps xs → xs.length = ps.length
  | [], _, _, e => by rw [show _ = [] from e]; rfl
  | _ :: ps, _, _, ⟨x, r, e, _, t⟩ => by rw [e, List.length_cons, List.length_cons, VRL.len t]
theorem VRL.app {S : Hp} : ∀ {ps qs : List PV} {xs ys : List V}, VRL K S ps xs → VRL K S qs ys → VRL K S (ps ++ qs) (xs ++ ys)
  | [], _, _, _, e, h => by rw [show _ = [] from e]; exact h
  | _ :: ps, _, _, _, ⟨x, r, e, q, t⟩, h => by rw [e]; exact ⟨x, _, rfl, q, VRL.app t h⟩
theorem VRL.get {S : Hp} : ∀ {ps : List PV} {xs : List V} {i : Nat} {p : PV}, VRL K S ps xs → ps[i]? = some p → ∃ x, xs[i]? = some x ∧ VR K S p x
  | [], _, _, _, _, h => by cases h
  | _ :: ps, _, 0, p, ⟨x, r, e, q, t⟩, h => by
    subst e
    simp at h
    subst h
    exact ⟨x, rfl, q⟩
  | _ :: ps, _, i + 1, p, ⟨x, r, e, q, t⟩, h => by
    subst e
    obtain ⟨y, e2, r2⟩ := VRL.get (i := i) t (by simpa using h)
    exact ⟨y, by simpa using e2, r2⟩
theorem VRL.getV {S : Hp} : ∀ {ps : List PV} {xs : List V} {i : Nat} {x : V}, VRL K S ps xs → xs[i]? = some x → ∃ p, ps[i]? = some p ∧ VR K S p x
  | [], _, _, _, e, h => by rw [show _ = [] from e] at h; cases h
  | p :: ps, _, 0, x, ⟨y, r, e, q, t⟩, h => by
    subst e
    simp at h
    subst h
    exact ⟨p, rfl, q⟩
  | p :: ps, _, i + 1, x, ⟨y, r, e, q, t⟩, h => by
    subst e
    obtain ⟨y, e2, r2⟩ := VRL.getV (i := i) t (by simpa using h)
    exact ⟨y, by simpa using e2, r2⟩
theorem VRL.take {S : Hp} : ∀ {ps : List PV} {xs : List V} (n : Nat), VRL K S ps xs → VRL K S (ps.take n) (xs.take n)
  | _, _, 0, _ => by rw [List.take_zero, List.take_zero]; rfl
  | [], _, n + 1, e => by rw [show _ = [] from e]; rfl
  | _ :: ps, _, n + 1, ⟨x, r, e, q, t⟩ => by subst e; exact ⟨x, _, rfl, q, VRL.take n t⟩
theorem VRL.drop {S : Hp} : ∀ {ps : List PV} {xs : List V} (n : Nat), VRL K S ps xs → VRL K S (ps.drop n) (xs.drop n)
  | _, _, 0, h => h
  | [], _, n + 1, e => by rw [show _ = [] from e]; rfl
  | _ :: ps, _, n + 1, ⟨x, r, e, q, t⟩ => by subst e; exact VRL.drop n t
theorem VRL.set {S : Hp} {p : PV} {x : V} (h : VR K S p x) : ∀ {ps : List PV} {xs : List V} (i : Nat), VRL K S ps xs → VRL K S (ps.set i p) (xs.set i x)
  | [], _, _, e => by rw [show _ = [] from e]; rfl
  | _ :: ps, _, 0, ⟨y, r, e, q, t⟩ => by subst e; exact ⟨x, r, rfl, h, t⟩
  | _ :: ps, _, i + 1, ⟨y, r, e, q, t⟩ => by subst e; exact ⟨y, _, rfl, q, VRL.set h i t⟩
theorem VRL.rev {S : Hp} : ∀ {ps : List PV} {xs : List V}, VRL K S ps xs → VRL K S ps.reverse xs.reverse
  | [], _, e => by rw [show _ = [] from e]; rfl
  | _ :: ps, _, ⟨x, r, e, q, t⟩ => by
    subst e
    rw [List.reverse_cons, List.reverse_cons]
    exact (VRL.rev t).app ⟨x, [], rfl, q, rfl⟩
theorem VRL.map {S : Hp} {α : Type} (f : α → PV) (g : α → V) (h : ∀ a, VR K S (f a) (g a)) : ∀ l : List α, VRL K S (l.map f) (l.map g)
  | [] => rfl
  | a :: l => ⟨g a, l.map g, rfl, h a, VRL.map f g h l⟩
theorem VR.tupT {S : Hp} {ps : List PV} {v : V} (h : VR K S (.tup ps) v) : ∃ a xs, v = .ref a ∧ SqT K S a xs ∧ VRL K S ps xs := by
  obtain ⟨a, xs, e, q, r⟩ := h
  exact ⟨a, xs, e, SqT.of q, r⟩
theorem VR.lstT {S : Hp} {ps : List PV} {v : V} (h : VR K S (.lst ps) v) : ∃ a xs, v = .ref a ∧ SqL K S a xs ∧ VRL K S ps xs := h

/-! ### operators -/
def gAdd : PV → PV → Option PV
  | .int i, .int j => some (.int (i + j))
  | .int i, .bl k => some (.int (i + b2i k))
  | .str x, .str y => if x.length + y.length ≤ sizeLine then some (.str (x ++ y)) else none
  | .tup xs, .tup ys => if xs.length + ys.length ≤ sizeLine then some (.tup (xs ++ ys)) else none
  | _, _ => none
theorem ops_add : OpS X (binaryOp .Add) gAdd := by
  intro pins s σ H x y v u Q I rx ry ⟨S, p, q, sub, hp, hq, k⟩
  cases p <;> cases q <;> try exact k.bad.elim
  · obtain rfl := hp; obtain rfl := hq
    exact op_add_ib pins s σ H _ _ v u Q I rx ry ⟨_, _, rfl, rfl, k.here sub rfl⟩
  · obtain rfl := hp; obtain rfl := hq
    exact op_add pins s σ H _ _ v u Q I rx ry ⟨_, _, rfl, rfl, k.here sub rfl⟩
  · obtain rfl := hp; obtain rfl := hq
    rename_i a b
    obtain ⟨hz, k⟩ := VK1.ite (c := a.length + b.length ≤ sizeLine) k
    exact op_add_str pins s σ H _ _ v u Q I rx ry ⟨_, _, rfl, rfl, hz, k.here sub rfl⟩
  · obtain ⟨a, xs, rfl, ha, hx⟩ := hp
    obtain ⟨b, ys, rfl, hb, hy⟩ := hq
    rename_i ps qs
    obtain ⟨hz, k⟩ := VK1.ite (c := ps.length + qs.length ≤ sizeLine) k
    refine op_catA pins s σ H _ _ v u Q I rx ry ⟨a, b, xs, ys, rfl, rfl, SqT.of (sub _ _ ha), SqT.of (sub _ _ hb), by rw [hx.len, hy.len]; exact hz, fun e => ?_, fun _ e => ?_, fun _ _ p np => ?_⟩
    · refine k.here sub ⟨b, ys, rfl, hb, ?_⟩
      have q := hx.app hy
      rw [e] at q
      exact q
    · refine k.here sub ⟨a, xs, rfl, ha, ?_⟩
      have q := hx.app hy
      rw [e, List.append_nil] at q
      exact q
    · refine k.new sub np ⟨p, _, rfl, upd_same, VRL.mono (fun b u e => ?_) (hx.app hy)⟩
      rw [upd_ne (ne_of_none e (sub.free np))]; exact e
def gSub : PV → PV → Option PV
  | .int i, .int j => some (.int (i - j))
  | _, _ => none
theorem ops_sub : OpS X (binaryOp .Sub) gSub := by
  intro pins s σ H x y v u Q I rx ry ⟨S, p, q, sub, hp, hq, k⟩
  cases p <;> cases q <;> try exact k.bad.elim
  obtain rfl := hp; obtain rfl := hq
  exact op_sub pins s σ H _ _ v u Q I rx ry ⟨_, _, rfl, rfl, k.here sub rfl⟩
/-- a factor below 2^64 -/
def smallI (i : Int) : Bool := decide (i.natAbs < 18446744073709551616)
def gMul : PV → PV → Option PV
  | .int i, .int j => if smallI i = true ∨ smallI j = true then some (.int (i * j)) else none
  | _, _ => none
theorem smallI_iff {i : Int} : smallI i = true ↔ -(2 ^ 64) < i ∧ i < 2 ^ 64 := by unfold smallI; rw [decide_eq_true_eq]; omega
theorem ops_mul : OpS X (binaryOp .Mult) gMul := by
  intro pins s σ H x y v u Q I rx ry ⟨S, p, q, sub, hp, hq, k⟩
  cases p <;> cases q <;> try exact k.bad.elim
  obtain rfl := hp; obtain rfl := hq
  rename_i i j
  obtain ⟨h, k⟩ := VK1.ite (c := smallI i = true ∨ smallI j = true) k
  exact op_mul pins s σ H _ _ v u Q I rx ry ⟨_, _, rfl, rfl, h.imp smallI_iff.mp smallI_iff.mp, k.here sub rfl⟩
def gDiv : PV → PV → Option PV
  | .int i, .int j => if 0 < j ∧ j < 1073741824 then some (.int (i / j)) else none
  | _, _ => none
theorem ops_div : OpS X (binaryOp .FloorDiv) gDiv := by
  intro pins s σ H x y v u Q I rx ry ⟨S, p, q, sub, hp, hq, k⟩
  cases p <;> cases q <;> try exact k.bad.elim
  obtain rfl := hp; obtain rfl := hq
  rename_i i j
  obtain ⟨h, k⟩ := VK1.ite (c := 0 < j ∧ j < 1073741824) k
  exact op_fdiv pins s σ H _ _ v u Q I rx ry ⟨_, _, rfl, rfl, h, k.here sub rfl⟩
def gMod : PV → PV → Option PV
  | .int i, .int j => if 0 < j then some (.int (i % j)) else none
  | _, _ => none
theorem ops_mod : OpS X (binaryOp .Mod) gMod := by
  intro pins s σ H x y v u Q I rx ry ⟨S, p, q, sub, hp, hq, k⟩
  cases p <;> cases q <;> try exact k.bad.elim
  obtain rfl := hp; obtain rfl := hq
  rename_i i j
  obtain ⟨h, k⟩ := VK1.ite (c := 0 < j) k
  exact op_mod pins s σ H _ _ v u Q I rx ry ⟨_, _, rfl, rfl, h, k.here sub rfl⟩
def gPow : PV → PV → Option PV
  | .int i, .int j => if 0 ≤ j ∧ j ≤ 1000000 ∧ smallI i = true then some (.int (i ^ j.toNat)) else none
  | _, _ => none
theorem smallI_abs {i : Int} (h : smallI i = true) : i.natAbs < 2 ^ 64 := by
  obtain ⟨h1, h2⟩ := smallI_iff.mp h
  omega
theorem ops_pow : OpS X (binaryOp .Pow) gPow := by
  intro pins s σ H x y v u Q I rx ry ⟨S, p, q, sub, hp, hq, k⟩
  cases p <;> cases q <;> try exact k.bad.elim
  obtain rfl := hp; obtain rfl := hq
  rename_i i j
  obtain ⟨h, k⟩ := VK1.ite (c := 0 ≤ j ∧ j ≤ 1000000 ∧ smallI i = true) k
  exact op_pow pins s σ H _ _ v u Q I rx ry ⟨_, _, rfl, rfl, ⟨h.1, h.2.1, smallI_abs h.2.2⟩, k.here sub rfl⟩
def gShl : PV → PV → Option PV
  | .int i, .int j => if 0 ≤ j ∧ j ≤ 1000000 ∧ smallI i = true then some (.int (i * 2 ^ j.toNat)) else none
  | _, _ => none
theorem ops_shl : OpS X (binaryOp .LShift) gShl := by
  intro pins s σ H x y v u Q I rx ry ⟨S, p, q, sub, hp, hq, k⟩
  cases p <;> cases q <;> try exact k.bad.elim
  obtain rfl := hp; obtain rfl := hq
  rename_i i j
  obtain ⟨h, k⟩ := VK1.ite (c := 0 ≤ j ∧ j ≤ 1000000 ∧ smallI i = true) k
  exact op_shl pins s σ H _ _ v u Q I rx ry ⟨_, _, rfl, rfl, ⟨h.1, h.2.1, smallI_abs h.2.2⟩, k.here sub rfl⟩

/-! ### comparisons -/
def gCmpI (f : Int → Int → Bool) : PV → PV → Option PV
  | .int i, .int j => some (.bl (f i j))
  | _, _ => none
theorem ops_cmpI {op : CmpOp} {f : Int → Int → Bool} (ho : OpR X (compareOp op) (rI0 fun i j => .bl (f i j))) : OpS X (compareOp op) (gCmpI f) := by
  intro pins s σ H x y v u Q I rx ry ⟨S, p, q, sub, hp, hq, k⟩
  cases p <;> cases q <;> try exact k.bad.elim
  obtain rfl := hp; obtain rfl := hq
  exact ho pins s σ H _ _ v u Q I rx ry ⟨_, _, rfl, rfl, k.here sub rfl⟩
abbrev gLt := gCmpI fun i j => decide (i < j)
abbrev gLe := gCmpI fun i j => decide (i ≤ j)
abbrev gGt := gCmpI fun i j => decide (j < i)
abbrev gGe := gCmpI fun i j => decide (j ≤ i)
theorem ops_lt : OpS X (compareOp .Lt) gLt := ops_cmpI op_lt
theorem ops_le : OpS X (compareOp .LtE) gLe := ops_cmpI op_le
theorem ops_gt : OpS X (compareOp .Gt) gGt := ops_cmpI op_gt
theorem ops_ge : OpS X (compareOp .GtE) gGe := ops_cmpI op_ge

mutual
/-- the data of the kit -/
def toD : PV → PyData
  | .bl b => .bool b
  | .int i => .int i
  | .str x => .str x
  | .tup ps => .tuple (toDs ps)
  | .lst ps => .list (toDs ps)
  | _ => .none
def toDs : List PV → List PyData
  | [] => []
  | p :: ps => toD p :: toDs ps
end
mutual
def dataOk : PV → Bool
  | .non => true
  | .bl b => true
  | .int i => true
  | .str x => PyData.strOk x
  | .tup ps => dataOks ps
  | .lst ps => dataOks ps
  | _ => false
def dataOks : List PV → Bool
  | [] => true
  | p :: ps => dataOk p && dataOks ps
end
mutual
def depP : PV → Nat
  | .tup ps => depPs ps + 1
  | .lst ps => depPs ps + 1
  | _ => 0
def depPs : List PV → Nat
  | [] => 0
  | p :: ps => max (depP p) (depPs ps)
end
mutual
theorem toD_lay : ∀ p : PV, dataOk p = true → (toD p).canLay0 = true
  | .non, _ => rfl
  | .bl _, _ => rfl
  | .int _, _ => rfl
  | .str x, h => by show PyData.canLay0 (.str x) = true; rw [PyData.canLay0]; exact h
  | .adr _, _ => rfl
  | .ty _, _ => rfl
  | .rng _ _, _ => rfl
  | .tup ps, h => by show PyData.canLay0 (.tuple (toDs ps)) = true; rw [PyData.canLay0]; exact toDs_lay ps h
  | .lst ps, h => by show PyData.canLay0 (.list (toDs ps)) = true; rw [PyData.canLay0]; exact toDs_lay ps h
  | .tupz _, _ => rfl
  | .xcp _ _ _ _ _, _ => rfl
theorem toDs_lay : ∀ ps : List PV, dataOks ps = true → PyData.canLayAll0 (toDs ps) = true
  | [], _ => rfl
  | p :: ps, h => by
    have h' : (dataOk p && dataOks ps) = true := h
    rw [Bool.and_eq_true] at h'
    show PyData.canLayAll0 (toD p :: toDs ps) = true
    rw [PyData.canLayAll0, toD_lay p h'.1, toDs_lay ps h'.2]; rfl
end
mutual
theorem toD_dep : ∀ p : PV, (toD p).depth = depP p
  | .non => rfl
  | .bl _ => rfl
  | .int _ => rfl
  | .str _ => rfl
  | .adr _ => rfl
  | .ty _ => rfl
  | .rng _ _ => rfl
  | .tup ps => by show PyData.depth (.tuple (toDs ps)) = depPs ps + 1; rw [PyData.depth, toDs_dep ps]
  | .lst ps => by show PyData.depth (.list (toDs ps)) = depPs ps + 1; rw [PyData.depth, toDs_dep ps]
  | .tupz _ => rfl
  | .xcp _ _ _ _ _ => rfl
theorem toDs_dep : ∀ ps : List PV, PyData.depthAll (toDs ps) = depPs ps
  | [] => rfl
  | p :: ps => by show PyData.depthAll (toD p :: toDs ps) = max (depP p) (depPs ps); rw [PyData.depthAll, toD_dep p, toDs_dep ps]
end
theorem toD_shaped {p : PV} (d : dataOk p = true) (h : depP p ≤ 64) : SeqAt.shaped (toD p) = true := by
  unfold SeqAt.shaped
  rw [toD_lay p d, toD_dep]
  simp [h]
mutual
theorem toD_rel {S H : Hp} (sub : Same S H) : ∀ {p : PV} {v : V}, dataOk p = true → VR K S p v → Dp K H v (toD p)
  | .non, _, _, h => by obtain rfl := h; exact .non
  | .bl b, _, _, h => by obtain rfl := h; exact .bl b
  | .int i, _, _, h => by obtain rfl := h; exact .int i
  | .str x, _, _, h => by obtain rfl := h; exact .str x
  | .adr _, _, h, _ => by cases h
  | .ty _, _, h, _ => by cases h
  | .rng _ _, _, h, _ => by cases h
  | .tup ps, _, d, ⟨a, xs, e, q, r⟩ => by subst e; exact .tup (SqT.of (sub _ _ q)) (toDs_rel sub d r)
  | .lst ps, _, d, ⟨a, xs, e, q, r⟩ => by subst e; exact .lst (same_sql sub q) (toDs_rel sub d r)
  | .tupz _, _, h, _ => by cases h
  | .xcp _ _ _ _ _, _, h, _ => by cases h
theorem toDs_rel {S H : Hp} (sub : Same S H) : ∀ {ps : List PV} {vs : List V}, dataOks ps = true → VRL K S ps vs → DpAll K H vs (toDs ps)
  | [], _, _, e => by rw [show _ = [] from e]; exact .nil
  | p :: ps, _, d, ⟨x, r, e, q, t⟩ => by
    subst e
    have d' : (dataOk p && dataOks ps) = true := d
    rw [Bool.and_eq_true] at d'
    exact .cons (toD_rel sub d'.1 q) (toDs_rel sub d'.2 t)
end
/-- ==, as Python has it of data: True is 1 -/
def eqP (p q : PV) : Bool := PyData.eqv (toD p) (toD q)
def okEq (p q : PV) : Bool := dataOk p && (dataOk q && (decide (depP p ≤ 64) && decide (depP q ≤ 64)))
def gEq : PV → PV → Option PV
  | .int i, .int j => some (.bl (decide (i = j)))
  | .str x, .str y => some (.bl (decide (x = y)))
  | .bl x, .bl y => some (.bl (decide (x = y)))
  | p, q => if okEq p q = true then some (.bl (eqP p q)) else none
def gNe : PV → PV → Option PV
  | .int i, .int j => some (.bl (!decide (i = j)))
  | .str x, .str y => some (.bl (!decide (x = y)))
  | .bl x, .bl y => some (.bl (!decide (x = y)))
  | p, q => if okEq p q = true then some (.bl (!eqP p q)) else none
theorem gEq_def (p q : PV) : (∃ i j, p = .int i ∧ q = .int j) ∨ (∃ i j, p = .str i ∧ q = .str j) ∨ (∃ i j, p = .bl i ∧ q = .bl j) ∨ ((gEq p q = if okEq p q = true then some (.bl (eqP p q)) else none) ∧ gNe p q = if okEq p q = true then some (.bl (!eqP p q)) else none) := by
  cases p <;> cases q <;> first
    | exact .inr (.inr (.inr ⟨rfl, rfl⟩))
    | exact .inl ⟨_, _, rfl, rfl⟩
    | exact .inr (.inl ⟨_, _, rfl, rfl⟩)
    | exact .inr (.inr (.inl ⟨_, _, rfl, rfl⟩))
theorem decV_int {i j : Int} : decide (V.int i = V.int j) = decide (i = j) := by by_cases h : i = j <;> simp [h]
theorem decV_str {i j : Str} : decide (V.str i = V.str j) = decide (i = j) := by by_cases h : i = j <;> simp [h]
theorem decV_bl {i j : Bool} : decide (V.bl i = V.bl j) = decide (i = j) := by by_cases h : i = j <;> simp [h]
theorem ops_eq (hu : X.A.units + 64 < cLine) : OpS X (compareOp .Eq) gEq := by
  intro pins s σ H x y v u Q I rx ry ⟨S, p, q, sub, hp, hq, k⟩
  rcases gEq_def p q with ⟨i, j, rfl, rfl⟩ | ⟨i, j, rfl, rfl⟩ | ⟨i, j, rfl, rfl⟩ | ⟨e, _⟩
  · obtain rfl := hp; obtain rfl := hq
    exact op_eq pins s σ H _ _ v u Q I rx ry ⟨rfl, by rw [decV_int]; exact k.here sub rfl⟩
  · obtain rfl := hp; obtain rfl := hq
    exact op_eq pins s σ H _ _ v u Q I rx ry ⟨rfl, by rw [decV_str]; exact k.here sub rfl⟩
  · obtain rfl := hp; obtain rfl := hq
    exact op_eq pins s σ H _ _ v u Q I rx ry ⟨rfl, by rw [decV_bl]; exact k.here sub rfl⟩
  · rw [e] at k
    by_cases h : okEq p q = true
    · rw [if_pos h] at k
      unfold okEq at h
      simp only [Bool.and_eq_true, decide_eq_true_eq] at h
      exact op_eqD hu pins s σ H _ _ v u Q I rx ry ⟨_, _, toD_rel sub h.1 hp, toD_rel sub h.2.1 hq, toD_shaped h.1 h.2.2.1, toD_shaped h.2.1 h.2.2.2, k.here sub rfl⟩
    · rw [if_neg h] at k; exact k.bad.elim
theorem ops_ne (hu : X.A.units + 64 < cLine) : OpS X (compareOp .NotEq) gNe := by
  intro pins s σ H x y v u Q I rx ry ⟨S, p, q, sub, hp, hq, k⟩
  rcases gEq_def p q with ⟨i, j, rfl, rfl⟩ | ⟨i, j, rfl, rfl⟩ | ⟨i, j, rfl, rfl⟩ | ⟨_, e⟩
  · obtain rfl := hp; obtain rfl := hq
    exact op_ne pins s σ H _ _ v u Q I rx ry ⟨rfl, by rw [decV_int]; exact k.here sub rfl⟩
  · obtain rfl := hp; obtain rfl := hq
    exact op_ne pins s σ H _ _ v u Q I rx ry ⟨rfl, by rw [decV_str]; exact k.here sub rfl⟩
  · obtain rfl := hp; obtain rfl := hq
    exact op_ne pins s σ H _ _ v u Q I rx ry ⟨rfl, by rw [decV_bl]; exact k.here sub rfl⟩
  · rw [e] at k
    by_cases h : okEq p q = true
    · rw [if_pos h] at k
      unfold okEq at h
      simp only [Bool.and_eq_true, decide_eq_true_eq] at h
      exact op_neD hu pins s σ H _ _ v u Q I rx ry ⟨_, _, toD_rel sub h.1 hp, toD_rel sub h.2.1 hq, toD_shaped h.1 h.2.2.1, toD_shaped h.2.1 h.2.2.2, k.here sub rfl⟩
    · rw [if_neg h] at k; exact k.bad.elim

/-- x is c, c None or a truth value -/
def gIs : PV → PV → Option PV
  | p, .non => some (.bl (match p with | .non => true | _ => false))
  | p, .bl c => some (.bl (match p with | .bl b => b == c | _ => false))
  | _, _ => none
def gIsNot : PV → PV → Option PV
  | p, .non => some (.bl (match p with | .non => false | _ => true))
  | p, .bl c => some (.bl (match p with | .bl b => !(b == c) | _ => true))
  | _, _ => none
theorem is_plain {M : Model} {A : Around} {E : Value → Shared → Prop} {s : Shared} {a b : Value} {Q : Value → Shared → Prop} {k : Bool} (hp : plainIs a b = true) (e : (a == b) = k) (h : Q (.bool k) s) : wpAny M A (compareOp .Is a b) Q E s := wpAny_is_plain hp (by rw [e]; exact h)
theorem isNot_plain {M : Model} {A : Around} {E : Value → Shared → Prop} {s : Shared} {a b : Value} {Q : Value → Shared → Prop} {k : Bool} (hp : plainIs a b = true) (e : (!(a == b)) = k) (h : Q (.bool k) s) : wpAny M A (compareOp .IsNot a b) Q E s := wpAny_isNot_plain hp (by rw [e]; exact h)
theorem ops_is : OpS X (compareOp .Is) gIs := by
  intro pins s σ H x y v u Q I rx ry ⟨S, p, q, sub, hp, hq, k⟩
  cases q <;> try exact (k.bad : False).elim
  · obtain rfl := hq
    cases ry
    cases p <;> first
      | (obtain rfl := hp; cases rx; exact is_plain rfl rfl (fin_bl I (k.here sub rfl) rfl))
      | (obtain rfl := hp; obtain ⟨t, rfl⟩ := rx; exact is_plain rfl rfl (fin_bl I (k.here sub rfl) rfl))
      | (obtain ⟨a, e⟩ := hp; obtain rfl := e.1; cases rx; exact is_plain rfl rfl (fin_bl I (k.here sub rfl) rfl))
      | (obtain ⟨a, _, e⟩ := hp; obtain rfl := e.1; cases rx; exact is_plain rfl rfl (fin_bl I (k.here sub rfl) rfl))
      | (obtain ⟨a, _, _, e⟩ := hp; obtain rfl := e.1; cases rx; exact is_plain rfl rfl (fin_bl I (k.here sub rfl) rfl))
  · obtain rfl := hq
    cases ry
    cases p <;> first
      | (obtain rfl := hp; cases rx; exact is_plain rfl rfl (fin_bl I (k.here sub rfl) rfl))
      | (obtain rfl := hp; obtain ⟨t, rfl⟩ := rx; exact is_plain rfl rfl (fin_bl I (k.here sub rfl) rfl))
      | (obtain ⟨a, e⟩ := hp; obtain rfl := e.1; cases rx; exact is_plain rfl rfl (fin_bl I (k.here sub rfl) rfl))
      | (obtain ⟨a, _, e⟩ := hp; obtain rfl := e.1; cases rx; exact is_plain rfl rfl (fin_bl I (k.here sub rfl) rfl))
      | (obtain ⟨a, _, _, e⟩ := hp; obtain rfl := e.1; cases rx; exact is_plain rfl rfl (fin_bl I (k.here sub rfl) rfl))
      | (obtain rfl := hp; cases rx; exact PyProof.Rows.is_bool (fin_bl I (k.here sub rfl) rfl))
theorem ops_isNot : OpS X (compareOp .IsNot) gIsNot := by
  intro pins s σ H x y v u Q I rx ry ⟨S, p, q, sub, hp, hq, k⟩
  cases q <;> try exact (k.bad : False).elim
  · obtain rfl := hq
    cases ry
    cases p <;> first
      | (obtain rfl := hp; cases rx; exact isNot_plain rfl rfl (fin_bl I (k.here sub rfl) rfl))
      | (obtain rfl := hp; obtain ⟨t, rfl⟩ := rx; exact isNot_plain rfl rfl (fin_bl I (k.here sub rfl) rfl))
      | (obtain ⟨a, e⟩ := hp; obtain rfl := e.1; cases rx; exact isNot_plain rfl rfl (fin_bl I (k.here sub rfl) rfl))
      | (obtain ⟨a, _, e⟩ := hp; obtain rfl := e.1; cases rx; exact isNot_plain rfl rfl (fin_bl I (k.here sub rfl) rfl))
      | (obtain ⟨a, _, _, e⟩ := hp; obtain rfl := e.1; cases rx; exact isNot_plain rfl rfl (fin_bl I (k.here sub rfl) rfl))
  · obtain rfl := hq
    cases ry
    cases p <;> first
      | (obtain rfl := hp; cases rx; exact isNot_plain rfl rfl (fin_bl I (k.here sub rfl) rfl))
      | (obtain rfl := hp; obtain ⟨t, rfl⟩ := rx; exact isNot_plain rfl rfl (fin_bl I (k.here sub rfl) rfl))
      | (obtain ⟨a, e⟩ := hp; obtain rfl := e.1; cases rx; exact isNot_plain rfl rfl (fin_bl I (k.here sub rfl) rfl))
      | (obtain ⟨a, _, e⟩ := hp; obtain rfl := e.1; cases rx; exact isNot_plain rfl rfl (fin_bl I (k.here sub rfl) rfl))
      | (obtain ⟨a, _, _, e⟩ := hp; obtain rfl := e.1; cases rx; exact isNot_plain rfl rfl (fin_bl I (k.here sub rfl) rfl))
      | (obtain rfl := hp; exact op_notBl pins s σ H _ (.bl _) _ _ Q I rx (show RelV (.bl _) _ from rfl) ⟨_, _, rfl, rfl, by rw [← Bool.beq_eq_decide_eq]; exact k.here sub rfl⟩)
end Sm

namespace Sm
open PySem L2 PyProof.Rows
variable {K : PySem.W.Frag} {X : Cx} {ca : Nat → Addr} {m : Bool}

/-- from a partial operation -/
def opO (r : Option PV) (fr : Fr) : O MV := match r with | some p => .ok (.pv p) fr | none => .bad
@[simp] theorem opO_some (p : PV) (fr : Fr) : opO (some p) fr = .ok (.pv p) fr := rfl
@[simp] theorem opO_none (fr : Fr) : opO none fr = .bad := rfl
/-- the end of a rule: at c (come to from c0) a plain result -/
theorem fin_op {c0 c : Cf} (g : Go X.K m c0 [] c) (hσ : c.σ = c0.σ) {r : Option PV} {Q : VK} {W : WX} (p : postE Own X.K ca m c0 Q W (opO r c.fr)) : VK1 X.K c.S c.H Q r := by
  cases r with
  | none => exact p.elim
  | some q => exact ⟨q, rfl, fun S' H' v gp o => p ⟨S', H', c.σ, c.fr, c.F⟩ v [] rfl hσ (g.then (Go.of_gp g.rep gp)) ⟨rfl, o⟩⟩
theorem fin_here {c0 c : Cf} (g : Go X.K m c0 [] c) (hσ : c.σ = c0.σ) {q : PV} {Q : VK} {W : WX} (p : postE Own X.K ca m c0 Q W (.ok (.pv q) c.fr)) {v : V} (o : VR X.K c.S q v) : Q v c.H := p c v [] rfl hσ g ⟨rfl, o⟩

/-! ### names, constants -/
def eC (p : PV) (fr : Fr) : O MV := .ok (.pv p) fr
theorem se_C {e : Expr} {v : V} {p : PV} (h : PE X e (tC v)) (r : ∀ S, VR X.K S p v) : SE X ca m e (eC p) := SE.of h fun W c Q tk rp po => fin_here (Go.refl rp) rfl po (r _)
theorem se_int {i j pos} : SE X ca m (.Constant (.int i) j pos) (eC (.int i)) := se_C pe_int fun _ => rfl
theorem se_bl {b j pos} : SE X ca m (.Constant (.bool b) j pos) (eC (.bl b)) := se_C pe_bl fun _ => rfl
theorem se_non {j pos} : SE X ca m (.Constant .none j pos) (eC .non) := se_C pe_non fun _ => rfl
theorem se_str {x j pos} : SE X ca m (.Constant (.str x) j pos) (eC (.str x)) := se_C pe_str fun _ => rfl
/-- a global name: a number of the module's top, a def, a class -/
theorem se_glob {x : Str} {v : V} {p : PV} {u : Value} {pos : Pos} (hg : Gl X x) (hm : X.mg x = some u) (r : RelV v u) (q : ∀ S, VR X.K S p v) (hd : (x == ("__debug__" : Str)) = false := by decide) : SE X ca m (.Name x pos) (eC p) := se_C (pe_glob hg hm r hd) q
theorem se_gint {x : Str} {i : Int} {t : Tok} {pos : Pos} (hg : Gl X x) (hm : X.mg x = some (.int i t)) (hd : (x == ("__debug__" : Str)) = false := by decide) : SE X ca m (.Name x pos) (eC (.int i)) := se_glob (v := .int i) hg hm ⟨t, rfl⟩ (fun _ => rfl) hd
theorem se_gadr {x : Str} {a : Addr} {pos : Pos} (hg : Gl X x) (hm : X.mg x = some (.ref a)) (hd : (x == ("__debug__" : Str)) = false := by decide) : SE X ca m (.Name x pos) (eC (.adr a)) := se_glob (v := .ref a) hg hm rfl (fun _ => rfl) hd
theorem se_bty {x : Str} {n : String} {pos : Pos} (hg : Gl X x) (hm : X.mg x = none) (hv : bootBuiltins x = some (.type n)) (hn : x ≠ "__name__" := by decide) (hd : (x == ("__debug__" : Str)) = false := by decide) : SE X ca m (.Name x pos) (eC (.ty n)) :=
  se_C (pe_bltn (v := .ty n) hg hm hv rfl hn hd) fun _ => rfl

/-- the plain thing in slot i -/
def eV (i : Nat) (fr : Fr) : O MV := match fr[i]? with
  | some (.ow (.pv p)) => .ok (.pv p) fr
  | some (.pr (.pv p)) => .ok (.pv p) fr
  | _ => .bad
theorem Rep.slot {c : Cf} (r : Rep K c) {i : Nat} {mv : MV} (h : c.fr[i]? = some (.ow mv) ∨ c.fr[i]? = some (.pr mv)) : ∃ v f, c.σ[i]? = some (some v) ∧ Own K c.S c.H mv v f ∧ ∀ b ∈ f, b ∈ c.F := by
  rcases h with h | h
  · obtain ⟨o, f0, f1, f2, e1, e2, ⟨v, e, q⟩, _⟩ := r.rel.at h
    subst e
    exact ⟨v, f1, e1, q, fun b hb => by rw [e2]; exact List.mem_append_right _ (List.mem_append_left _ hb)⟩
  · obtain ⟨o, f0, f1, f2, e1, e2, ⟨v, e, q⟩, _⟩ := r.rel.at h
    subst e
    exact ⟨v, f1, e1, q, fun b hb => by rw [e2]; exact List.mem_append_right _ (List.mem_append_left _ hb)⟩
theorem eV_cases (i : Nat) (fr : Fr) : (∃ p, (fr[i]? = some (.ow (.pv p)) ∨ fr[i]? = some (.pr (.pv p))) ∧ eV i fr = .ok (.pv p) fr) ∨ eV i fr = .bad := by
  unfold eV
  split
  · exact .inl ⟨_, .inl (by assumption), rfl⟩
  · exact .inl ⟨_, .inr (by assumption), rfl⟩
  · exact .inr rfl
theorem se_var {i : Nat} {e : Expr} (h : PE X e (tVar i)) : SE X ca m e (eV i) := by
  refine SE.of h fun W c Q tk rp po => ?_
  rcases eV_cases i c.fr with ⟨p, hs, e⟩ | e
  · rw [e] at po
    obtain ⟨v, f, e1, ⟨_, o⟩, _⟩ := rp.slot hs
    exact ⟨v, e1, fin_here (Go.refl rp) rfl po o⟩
  · rw [e] at po; exact po.elim
/-- the name in slot i -/
theorem sv (i : Nat) {x : Str} {pos : Pos} (hN : X.N[i]? = some x := by rfl) (hv : Vis X.env.scope x := by first | exact Or.inl rfl | exact Or.inr (Or.inl rfl) | exact Or.inr (Or.inr rfl)) (hd : (x == ("__debug__" : Str)) = false := by decide)
    (hcd : (x == ("__classdict__" : Str)) = false := by decide) : SE X ca m (.Name x pos) (eV i) := se_var (pe_var hN hv hd hcd)
/-- the slot's thing is moved out -/
def eMv (i : Nat) (fr : Fr) : O MV := match fr[i]? with
  | some (.ow mv) => .ok mv (fr.set i .no)
  | _ => .bad
theorem se_move {i : Nat} {e : Expr} (h : PE X e (tVar i)) : SE X ca false e (eMv i) := by
  refine SE.of h fun W c Q tk rp po => ?_
  unfold eMv at po
  split at po
  · rename_i mv hs
    obtain ⟨o, f0, f1, f2, e1, e2, ⟨v, e, q⟩, ex⟩ := rp.rel.at hs
    subst e
    have nd := rp.nd
    rw [e2] at nd
    have hperm : (f0 ++ (f1 ++ f2)).Perm (f1 ++ (f0 ++ f2)) := by
      rw [← List.append_assoc, ← List.append_assoc]
      exact List.Perm.append_right f2 List.perm_append_comm
    have nd2 := hperm.nodup_iff.mp nd
    have hF := rp.rel.cells
    rw [e2] at hF
    have hc : ∀ b ∈ f0 ++ (f1 ++ f2), c.H b ≠ none ∧ c.S b = none := hF
    have hset : c.σ.set i (some v) = c.σ := by
      have hi : i < c.σ.length := (List.getElem?_eq_some_iff.mp e1).1
      have := (List.getElem?_eq_some_iff.mp e1).2
      rw [← this]; exact List.set_getElem_self hi
    have rel := ex c.S c.H .no (some v) [] (Same.refl _) (fun b hb => ⟨rfl, (hc b (List.mem_append_left _ hb)).2⟩) (fun b hb => ⟨rfl, (hc b (List.mem_append_right _ (List.mem_append_right _ hb))).2⟩) rfl
    rw [hset] at rel
    refine ⟨v, e1, po ⟨c.S, c.H, c.σ, c.fr.set i .no, f0 ++ f2⟩ v f1 rfl rfl ?_ q⟩
    refine Go.of rp.sub rel nd2 (fun b hb => hc b (List.mem_append_right _ (List.mem_append_left _ hb))) (Same.refl _) (fun b _ o e => e) (fun b hb => .inl ?_) (fun b hb => .inl hb) (fun j q e => ⟨rfl, q, ?_⟩) (fun h => nomatch h)
    · rw [e2]; exact hperm.mem_iff.mpr hb
    · have hne : i ≠ j := fun z => by subst z; rw [hs] at e; cases e
      rw [List.getElem?_set_ne hne]; exact e
  · exact po.elim

/-! ### operators -/
def eBin (g : PV → PV → Option PV) (ea eb : Fr → O MV) (fr : Fr) : O MV := (ea fr).bindP fun p fr1 => (eb fr1).bindP fun q fr2 => opO (g p q) fr2
theorem bin_use {ea eb : Fr → O MV} {g : PV → PV → Option PV} {W : WX} {c : Cf} {Q : VK} (tk : Takes X W) (rp : Rep X.K c) (po : postE Own X.K ca m c Q W (eBin g ea eb c.fr)) : tOp (rS X.K g) (tE X ca m ea) (tE X ca m eb) c.σ c.H Q := by
  refine use_bindP tk (Go.refl rp) rfl po fun c1 p v e1 g1 o1 po => ?_
  rw [← e1]
  refine use_bindP tk g1 e1 po fun c2 q u e2 g2 o2 po => ?_
  exact ⟨c2.S, p, q, g2.rep.sub, o1.mono g2.sS, o2, fin_op (g1.then g2) (e2.trans e1) po⟩
theorem se_bin {a b : Expr} {ea eb : Fr → O MV} {op : Operator} {g : PV → PV → Option PV} {pos : Pos} (ho : OpS X (binaryOp op) g) (ha : SE X ca m a ea) (hb : SE X ca m b eb) : SE X ca m (.BinOp a op b pos) (eBin g ea eb) :=
  SE.of (pe_op ho ha.pe hb.pe) fun W c Q tk rp po => bin_use tk rp po
theorem se_cmp {a b : Expr} {ea eb : Fr → O MV} {op : CmpOp} {g : PV → PV → Option PV} {pos : Pos} (ho : OpS X (compareOp op) g) (ha : SE X ca m a ea) (hb : SE X ca m b eb) (hm : behindInMarks op b = false := by first | exact nomark _ | with_unfolding_all rfl) : SE X ca m (.Compare a [op] [b] pos) (eBin g ea eb) :=
  SE.of (pe_cmpR ho ha.pe hb.pe hm) fun W c Q tk rp po => bin_use tk rp po
def eNeg (ea : Fr → O MV) (fr : Fr) : O MV := (ea fr).bindP fun p fr1 => opO (match p with | .int i => some (.int (-i)) | _ => none) fr1
theorem se_neg {a : Expr} {ea : Fr → O MV} {pos : Pos} (ha : SE X ca m a ea) : SE X ca m (.UnaryOp .USub a pos) (eNeg ea) := by
  refine SE.of (pe_un un_neg ha.pe) fun W c Q tk rp po => use_bindP tk (Go.refl rp) rfl po fun c1 p v e1 g1 o1 po => ?_
  have k := fin_op g1 e1 po
  cases p <;> try exact k.bad.elim
  obtain rfl := o1
  exact ⟨_, rfl, k.here g1.rep.sub rfl⟩

/-! ### subscripts -/
def gIx : PV → PV → Option PV
  | .tup ps, .int i => atI ps i
  | .lst ps, .int i => atI ps i
  | .str z, .int i => if z.length ≤ sizeLine then (atI z.cps.toList i).map fun c => .str ⟨#[c]⟩ else none
  | _, _ => none
theorem atI_rel {S : Hp} {ps : List PV} {xs : List V} {i : Int} {p : PV} (r : VRL K S ps xs) (h : atI ps i = some p) : ∃ x, atI xs i = some x ∧ VR K S p x := by
  unfold atI at h ⊢
  rw [r.len]
  cases e : ixN ps.length i with
  | none => rw [e] at h; cases h
  | some j =>
    rw [e] at h
    exact r.get h
theorem ixs : IxR X (rS X.K gIx) := by
  intro value slice pins s σ H x y v u Q I rx ry ⟨S, p, q, sub, hp, hq, k⟩ hs
  cases p <;> cases q <;> try exact k.bad.elim
  · obtain rfl := hp; obtain rfl := hq
    rename_i z i
    have k' : VK1 X.K S H Q (if z.length ≤ sizeLine then (atI z.cps.toList i).map fun c => PV.str ⟨#[c]⟩ else none) := k
    by_cases hz : z.length ≤ sizeLine
    · rw [if_pos hz] at k'
      cases e : atI z.cps.toList i with
      | none => rw [e] at k'; exact k'.bad.elim
      | some c =>
        rw [e] at k'
        exact ix_str value slice pins s σ H _ _ v u Q I rx ry ⟨_, _, c, rfl, rfl, hz, e, VK1.here k' sub rfl⟩ hs
    · rw [if_neg hz] at k'; exact k'.bad.elim
  · obtain ⟨a, xs, rfl, ha, hx⟩ := hp
    obtain rfl := hq
    rename_i ps i
    have k' : VK1 X.K S H Q (atI ps i) := k
    cases e : atI ps i with
    | none => rw [e] at k'; exact k'.bad.elim
    | some p =>
      rw [e] at k'
      obtain ⟨x, ex, rx'⟩ := atI_rel hx e
      exact ix_tup value slice pins s σ H _ _ v u Q I rx ry ⟨a, xs, i, x, rfl, rfl, SqT.of (sub _ _ ha), ex, k'.here sub rx'⟩ hs
  · obtain ⟨a, xs, rfl, ha, hx⟩ := hp
    obtain rfl := hq
    rename_i ps i
    have k' : VK1 X.K S H Q (atI ps i) := k
    cases e : atI ps i with
    | none => rw [e] at k'; exact k'.bad.elim
    | some p =>
      rw [e] at k'
      obtain ⟨x, ex, rx'⟩ := atI_rel hx e
      exact ix_list value slice pins s σ H _ _ v u Q I rx ry ⟨a, xs, i, x, rfl, rfl, same_sql sub ha, ex, k'.here sub rx'⟩ hs
abbrev eIx (ea eb : Fr → O MV) : Fr → O MV := eBin gIx ea eb
theorem se_ix {a b : Expr} {ea eb : Fr → O MV} {pos : Pos} (ha : SE X ca m a ea) (hb : SE X ca m b eb) (hs : PlainIx b := by exact fun _ _ => rfl) : SE X ca m (.Subscript a b pos) (eIx ea eb) :=
  SE.of (pe_ix ixs ha.pe hb.pe hs) fun W c Q tk rp po => bin_use tk rp po
/-- xs[e], xs an owned list in slot i -/
def rdL (i : Nat) (fr : Fr) : Option (List PV) := match fr[i]? with
  | some (.ow (.pl ps)) => some ps
  | some (.pr (.pl ps)) => some ps
  | _ => none
theorem rdL_slot {c : Cf} (r : Rep K c) {i : Nat} {ps : List PV} (h : rdL i c.fr = some ps) : ∃ a vs, c.σ[i]? = some (some (.ref a)) ∧ c.H a = some (.lst vs) ∧ c.S a = none ∧ a ∈ c.F ∧ VRL K c.S ps vs := by
  unfold rdL at h
  have q : c.fr[i]? = some (.ow (.pl ps)) ∨ c.fr[i]? = some (.pr (.pl ps)) := by
    split at h
    · injection h with h; subst h; exact .inl (by assumption)
    · injection h with h; subst h; exact .inr (by assumption)
    · cases h
  obtain ⟨v, f, e1, ⟨a, vs, e, ef, h1, h2, h3⟩, hf⟩ := r.slot q
  subst e
  exact ⟨a, vs, e1, h1, h2, hf a (by rw [ef]; exact List.mem_singleton.mpr rfl), h3⟩
def eIxL (i : Nat) (eb : Fr → O MV) (fr : Fr) : O MV := match rdL i fr with
  | none => .bad
  | some _ => (eb fr).bindP fun q fr1 => match rdL i fr1 with
    | some ps => opO (gIx (.lst ps) q) fr1
    | none => .bad
theorem se_ixL {i : Nat} {a b : Expr} {eb : Fr → O MV} {pos : Pos} (ha : PE X a (tVar i)) (hb : SE X ca m b eb) (hs : PlainIx b := by exact fun _ _ => rfl) : SE X ca m (.Subscript a b pos) (eIxL i eb) := by
  refine SE.of (t := fun σ H Q => tOp (rIxL X.K) (tVar i) (tE X ca m eb) σ H Q) (pe_ix ix_list ha hb.pe hs) fun W c Q tk rp po => ?_
  unfold eIxL at po
  cases e : rdL i c.fr with
  | none => rw [e] at po; exact po.elim
  | some ps0 =>
    rw [e] at po
    obtain ⟨a, vs, e1, _⟩ := rdL_slot rp e
    refine ⟨_, e1, use_bindP tk (Go.refl rp) rfl po fun c1 q u e2 g2 o2 po => ?_⟩
    cases e3 : rdL i c1.fr with
    | none => rw [e3] at po; exact po.elim
    | some ps =>
      rw [e3] at po
      obtain ⟨a', vs', e4, h1, _, _, h3⟩ := rdL_slot g2.rep e3
      rw [e2, e1] at e4
      cases e4
      have k := fin_op g2 e2 po
      cases q <;> try exact k.bad.elim
      obtain rfl := o2
      rename_i j
      cases e5 : atI ps j with
      | none => exact (VK1.bad (show VK1 X.K c1.S c1.H Q none from by rw [← e5]; exact k)).elim
      | some p =>
        obtain ⟨x, ex, rx⟩ := atI_rel h3 e5
        exact ⟨a, vs', j, x, rfl, rfl, SqL.of h1, ex, VK1.here (show VK1 X.K c1.S c1.H Q (some p) from by rw [← e5]; exact k) g2.rep.sub rx⟩

/-! ### argument lists: plain ones -/
def postA (K : PySem.W.Frag) (ca : Nat → Addr) (m : Bool) (c : Cf) (Q : List V → Hp → Prop) (W : WX) : O (List PV) → Prop
  | .ok ps fr => ∀ c' vs, c'.fr = fr → c'.σ = c.σ → Go K m c [] c' → VRL K c'.S ps vs → Q vs c'.H
  | .exc x fr => ∀ c' d, c'.fr = fr → c'.σ = c.σ → Go K false c [] c' → XdR K c'.S c'.H x.fs d → W (.ref (ca x.cls)) (some d) c'.σ c'.H
  | .bad => False
def tAr (X : Cx) (ca : Nat → Addr) (m : Bool) (ev : Fr → O (List PV)) : TA := fun σ H Q => ∃ W, Takes X W ∧ ∃ c : Cf, c.σ = σ ∧ c.H = H ∧ Rep X.K c ∧ postA X.K ca m c Q W (ev c.fr)
structure SA (X : Cx) (ca : Nat → Addr) (m : Bool) (es : List Expr) (ev : Fr → O (List PV)) : Prop where
  pa : PA X es (tAr X ca m ev)
theorem SA.of {es : List Expr} {t : TA} {ev : Fr → O (List PV)} (h : PA X es t) (k : ∀ (W : WX) (c : Cf) (Q : List V → Hp → Prop), Takes X W → Rep X.K c → postA X.K ca m c Q W (ev c.fr) → t c.σ c.H Q) : SA X ca m es ev := by
  refine ⟨⟨fun pos pins s σ H Q I ⟨W, tk, c, e1, e2, r, p⟩ => ?_⟩⟩
  subst e1 e2
  exact h.run pos pins s c.σ c.H Q I (k W c Q tk r p)
def aNil (fr : Fr) : O (List PV) := .ok [] fr
def aCons (ea : Fr → O MV) (er : Fr → O (List PV)) (fr : Fr) : O (List PV) := (ea fr).bindP fun p fr1 => (er fr1).bind fun ps fr2 => .ok (p :: ps) fr2
theorem sa_nil : SA X ca m [] aNil := SA.of pa_nil fun W c Q tk rp po => po c [] rfl rfl (Go.refl rp) rfl
/-- run e for an argument list -/
theorem useA_bindP {ev : Fr → O MV} {k : PV → Fr → O (List PV)} {W : WX} (tk : Takes X W) {c : Cf} (rp : Rep X.K c) {Q0 : List V → Hp → Prop} {Q : VK} (p : postA X.K ca m c Q0 W ((ev c.fr).bindP k))
    (h : ∀ c' a v, c'.σ = c.σ → Go X.K m c [] c' → VR X.K c'.S a v → postA X.K ca m c Q0 W (k a c'.fr) → Q v c'.H) : tE X ca m ev c.σ c.H Q := by
  refine ⟨W, tk, c, rfl, rfl, rp, ?_⟩
  cases q : ev c.fr with
  | ok a fr =>
    rw [q] at p
    intro c' v fp e1 e2 g o
    subst e1
    cases a with
    | pv a =>
      obtain ⟨e, o⟩ := o
      subst e
      exact h c' a v e2 g o p
    | _ => exact p.elim
  | exc x fr => rw [q] at p; exact p
  | bad => rw [q] at p; exact p.elim
theorem sa_cons {e : Expr} {es : List Expr} {ea : Fr → O MV} {er : Fr → O (List PV)} (ha : SE X ca m e ea) (hr : SA X ca m es er) (hs : starEach (e :: es) X.env = (false, eval e X.env) :: starEach es X.env := by rfl) : SA X ca m (e :: es) (aCons ea er) := by
  refine SA.of (pa_cons ha.pe hr.pa hs) fun W c Q tk rp po => useA_bindP tk rp po fun c1 p v e1 g1 o1 po => ?_
  refine ⟨W, tk, c1, e1, rfl, g1.rep, ?_⟩
  cases q : er c1.fr with
  | ok ps fr =>
    rw [q] at po
    intro c2 vs e2 e3 g2 o2
    subst e2
    exact po c2 (v :: vs) rfl (e3.trans e1) (g1.then g2) ⟨v, vs, rfl, o1.mono g2.sS, o2⟩
  | exc x fr =>
    rw [q] at po
    intro c2 d e2 e3 g2 o2
    exact po c2 d e2 (e3.trans e1) (g1.weak.then g2) o2
  | bad => rw [q] at po; exact po.elim
/-- run the arguments, then what follows -/
theorem use_args {ev : Fr → O (List PV)} {k : List PV → Fr → O MV} {W : WX} (tk : Takes X W) {c0 c : Cf} (g0 : Go X.K m c0 [] c) (hσ : c.σ = c0.σ) {Q0 : VK} {Q : List V → Hp → Prop} (p : postE Own X.K ca m c0 Q0 W ((ev c.fr).bind k))
    (h : ∀ c' ps vs, c'.σ = c.σ → Go X.K m c [] c' → VRL X.K c'.S ps vs → postE Own X.K ca m c0 Q0 W (k ps c'.fr) → Q vs c'.H) : tAr X ca m ev c.σ c.H Q := by
  refine ⟨W, tk, c, rfl, rfl, g0.rep, ?_⟩
  cases q : ev c.fr with
  | ok a fr =>
    rw [q] at p
    intro c' vs e1 e2 g o
    subst e1
    exact h c' a vs e2 g o p
  | exc x fr =>
    rw [q] at p
    intro c' d e1 e2 g o
    exact p c' d e1 (e2.trans hσ) (g0.weak.then g) o
  | bad => rw [q] at p; exact p.elim

/-! ### displays -/
def eTup (ea : Fr → O (List PV)) (fr : Fr) : O MV := (ea fr).bind fun ps fr1 => if ps.length ≤ sizeLine then .ok (.pv (.tup ps)) fr1 else .bad
theorem se_tup {es : List Expr} {ea : Fr → O (List PV)} {x1} {pos : Pos} (h : SA X ca m es ea) : SE X ca m (.Tuple es x1 pos) (eTup ea) := by
  refine SE.of (pe_tup h.pa) fun W c Q tk rp po => use_args tk (Go.refl rp) rfl po fun c1 ps vs e1 g1 o1 po => ?_
  by_cases hz : ps.length ≤ sizeLine
  · rw [if_pos hz] at po
    refine ⟨by rw [o1.len]; exact hz, fun p np => ?_⟩
    have g2 := g1.rep.laidS np (.tup vs) m
    exact po ⟨upd c1.S p (.tup vs), upd c1.H p (.tup vs), c1.σ, c1.fr, c1.F⟩ (.ref p) [] rfl e1 (g1.then g2) ⟨rfl, p, vs, rfl, upd_same, o1.mono g2.sS⟩
  · rw [if_neg hz] at po; exact po.elim
/-- a list of plain things, the frame's own -/
def eLst (ea : Fr → O (List PV)) (fr : Fr) : O MV := (ea fr).bind fun ps fr1 => if ps.length ≤ sizeLine then .ok (.pl ps) fr1 else .bad
theorem se_lst {es : List Expr} {ea : Fr → O (List PV)} {pos : Pos} (h : SA X ca m es ea) : SE X ca m (.List es pos) (eLst ea) := by
  refine SE.of (pe_lst h.pa) fun W c Q tk rp po => use_args tk (Go.refl rp) rfl po fun c1 ps vs e1 g1 o1 po => ?_
  by_cases hz : ps.length ≤ sizeLine
  · rw [if_pos hz] at po
    refine ⟨by rw [o1.len]; exact hz, fun p np => ?_⟩
    have g2 := g1.rep.laidH np (.lst vs) m
    exact po ⟨c1.S, upd c1.H p (.lst vs), c1.σ, c1.fr, c1.F⟩ (.ref p) [p] rfl e1 (g1.trans g2) ⟨p, vs, rfl, rfl, upd_same, g1.rep.freeS np, o1⟩
  · rw [if_neg hz] at po; exact po.elim
/-- an owned list becomes plain -/
def eFz (ea : Fr → O MV) (fr : Fr) : O MV := match ea fr with
  | .ok (.pl ps) fr1 => .ok (.pv (.lst ps)) fr1
  | .ok (.pv p) fr1 => .ok (.pv p) fr1
  | .exc x fr1 => .exc x fr1
  | _ => .bad
theorem se_fz {e : Expr} {ea : Fr → O MV} (h : SE X ca m e ea) : SE X ca m e (eFz ea) := by
  refine SE.of h.pe fun W c Q tk rp po => ⟨W, tk, c, rfl, rfl, rp, ?_⟩
  unfold eFz at po
  cases q : ea c.fr with
  | ok a fr =>
    rw [q] at po
    intro c' v fp e1 e2 g o
    cases a with
    | pv p =>
      exact po c' v fp e1 e2 g o
    | pl ps =>
      obtain ⟨a, vs, e, ef, h1, h2, h3⟩ := o
      subst ef
      have g2 := g.freeze h1
      exact po ⟨upd c'.S a (.lst vs), c'.H, c'.σ, c'.fr, c'.F⟩ v [] e1 e2 g2 ⟨rfl, a, vs, e, SqL.of upd_same, h3.mono fun b u z => (upd_ne (ne_of_none z h2)).trans z⟩
    | _ => exact po.elim
  | exc x fr => rw [q] at po; exact po
  | bad => rw [q] at po; exact po.elim

/-! ### tests -/
def postT (K : PySem.W.Frag) (ca : Nat → Addr) (m : Bool) (c : Cf) (Q : Bool → Hp → Prop) (W : WX) : O Bool → Prop
  | .ok b fr => ∀ c', c'.fr = fr → c'.σ = c.σ → Go K m c [] c' → Q b c'.H
  | .exc x fr => ∀ c' d, c'.fr = fr → c'.σ = c.σ → Go K false c [] c' → XdR K c'.S c'.H x.fs d → W (.ref (ca x.cls)) (some d) c'.σ c'.H
  | .bad => False
def tTe (X : Cx) (ca : Nat → Addr) (m : Bool) (ev : Fr → O Bool) : TT := fun σ H Q => ∃ W, Takes X W ∧ ∃ c : Cf, c.σ = σ ∧ c.H = H ∧ Rep X.K c ∧ postT X.K ca m c Q W (ev c.fr)
structure ST (X : Cx) (ca : Nat → Addr) (m : Bool) (e : Expr) (ev : Fr → O Bool) : Prop where
  pt : PT X e (tTe X ca m ev)
structure SW (X : Cx) (ca : Nat → Addr) (m : Bool) (e : Expr) (ev : Fr → O Bool) : Prop where
  pw : PW X e (tTe X ca m ev)
theorem SW.st {e : Expr} {ev : Fr → O Bool} (h : SW X ca m e ev) : ST X ca m e ev := ⟨h.pw.pt⟩
theorem ST.of {e : Expr} {t : TT} {ev : Fr → O Bool} (h : PT X e t) (k : ∀ (W : WX) (c : Cf) (Q : Bool → Hp → Prop), Takes X W → Rep X.K c → postT X.K ca m c Q W (ev c.fr) → t c.σ c.H Q) : ST X ca m e ev := by
  refine ⟨⟨fun pins s σ H Q I ⟨W, tk, c, e1, e2, r, p⟩ => ?_⟩⟩
  subst e1 e2
  exact h.run pins s c.σ c.H Q I (k W c Q tk r p)
theorem SW.of {e : Expr} {t : TT} {ev : Fr → O Bool} (h : PW X e t) (k : ∀ (W : WX) (c : Cf) (Q : Bool → Hp → Prop), Takes X W → Rep X.K c → postT X.K ca m c Q W (ev c.fr) → t c.σ c.H Q) : SW X ca m e ev := by
  refine ⟨⟨fun wh pins s σ H Q I ⟨W, tk, c, e1, e2, r, p⟩ => ?_⟩⟩
  subst e1 e2
  exact h.run wh pins s c.σ c.H Q I (k W c Q tk r p)
/-- run e for a test -/
theorem useT_bind {ev : Fr → O MV} {k : MV → Fr → O Bool} {W : WX} (tk : Takes X W) {c0 c : Cf} (g0 : Go X.K m c0 [] c) (hσ : c.σ = c0.σ) {Q0 : Bool → Hp → Prop} {Q : VK} (p : postT X.K ca m c0 Q0 W ((ev c.fr).bind k))
    (h : ∀ c' a v fp, c'.σ = c.σ → Go X.K m c fp c' → Own X.K c'.S c'.H a v fp → postT X.K ca m c0 Q0 W (k a c'.fr) → Q v c'.H) : tE X ca m ev c.σ c.H Q := by
  refine ⟨W, tk, c, rfl, rfl, g0.rep, ?_⟩
  cases q : ev c.fr with
  | ok a fr =>
    rw [q] at p
    intro c' v fp e1 e2 g o
    subst e1
    exact h c' a v fp e2 g o p
  | exc x fr =>
    rw [q] at p
    intro c' d e1 e2 g o
    exact p c' d e1 (e2.trans hσ) (g0.weak.then g) o
  | bad => rw [q] at p; exact p.elim
theorem bindP_eq {β : Type} (o : O MV) (k : PV → Fr → O β) : o.bindP k = o.bind fun a fr => match a with | .pv p => k p fr | _ => .bad := by
  cases o with
  | ok a fr => cases a <;> rfl
  | _ => rfl
theorem useT_bindP {ev : Fr → O MV} {k : PV → Fr → O Bool} {W : WX} (tk : Takes X W) {c0 c : Cf} (g0 : Go X.K m c0 [] c) (hσ : c.σ = c0.σ) {Q0 : Bool → Hp → Prop} {Q : VK} (p : postT X.K ca m c0 Q0 W ((ev c.fr).bindP k))
    (h : ∀ c' a v, c'.σ = c.σ → Go X.K m c [] c' → VR X.K c'.S a v → postT X.K ca m c0 Q0 W (k a c'.fr) → Q v c'.H) : tE X ca m ev c.σ c.H Q := by
  rw [bindP_eq] at p
  refine useT_bind tk g0 hσ p fun c' a v fp e g o po => ?_
  cases a with
  | pv a =>
    obtain ⟨e', o⟩ := o
    subst e'
    exact h c' a v e g o po
  | _ => exact po.elim
/-- run a test, then what follows -/
theorem useTT {ev : Fr → O Bool} {k : Bool → Fr → O Bool} {W : WX} (tk : Takes X W) {c0 c : Cf} (g0 : Go X.K m c0 [] c) (hσ : c.σ = c0.σ) {Q0 Q : Bool → Hp → Prop} (p : postT X.K ca m c0 Q0 W ((ev c.fr).bind k))
    (h : ∀ c' b, c'.σ = c.σ → Go X.K m c [] c' → postT X.K ca m c0 Q0 W (k b c'.fr) → Q b c'.H) : tTe X ca m ev c.σ c.H Q := by
  refine ⟨W, tk, c, rfl, rfl, g0.rep, ?_⟩
  cases q : ev c.fr with
  | ok a fr =>
    rw [q] at p
    intro c' e1 e2 g
    subst e1
    exact h c' a e2 g p
  | exc x fr =>
    rw [q] at p
    intro c' d e1 e2 g o
    exact p c' d e1 (e2.trans hσ) (g0.weak.then g) o
  | bad => rw [q] at p; exact p.elim
def unB (p : PV) (fr : Fr) : O Bool := match p with | .bl b => .ok b fr | _ => .bad
@[simp] theorem unB_bl (b : Bool) (fr : Fr) : unB (.bl b) fr = .ok b fr := rfl
/-- a comparison as a test -/
def bCmp (g : PV → PV → Option PV) (ea eb : Fr → O MV) (fr : Fr) : O Bool := (ea fr).bindP fun p fr1 => (eb fr1).bindP fun q fr2 => match g p q with | some r => unB r fr2 | none => .bad
theorem finT {c0 c : Cf} (g : Go X.K m c0 [] c) (hσ : c.σ = c0.σ) {r : Option PV} {Q : Bool → Hp → Prop} {W : WX} (p : postT X.K ca m c0 Q W (match r with | some r => unB r c.fr | none => .bad)) : VK1 X.K c.S c.H (fun x H' => ∃ k, x = .bl k ∧ Q k H') r := by
  cases r with
  | none => exact p.elim
  | some q =>
    refine ⟨q, rfl, fun S' H' v gp o => ?_⟩
    cases q <;> try exact p.elim
    obtain rfl := o
    exact ⟨_, rfl, p ⟨S', H', c.σ, c.fr, c.F⟩ rfl hσ (g.then (Go.of_gp g.rep gp))⟩
theorem st_cmp {a b : Expr} {ea eb : Fr → O MV} {op : CmpOp} {g : PV → PV → Option PV} {pos : Pos} (ho : OpS X (compareOp op) g) (ha : SE X ca m a ea) (hb : SE X ca m b eb) (hm : behindInMarks op b = false := by first | exact nomark _ | with_unfolding_all rfl) : ST X ca m (.Compare a [op] [b] pos) (bCmp g ea eb) := by
  refine ST.of (pt_cmpR ho ha.pe hb.pe hm) fun W c Q tk rp po => ?_
  refine useT_bindP tk (Go.refl rp) rfl po fun c1 p v e1 g1 o1 po => ?_
  rw [← e1]
  refine useT_bindP tk g1 e1 po fun c2 q u e2 g2 o2 po => ?_
  exact ⟨c2.S, p, q, g2.rep.sub, o1.mono g2.sS, o2, finT (g1.then g2) (e2.trans e1) po⟩
/-- truth -/
def truM : MV → Option Bool
  | .pv .non => some false
  | .pv (.bl b) => some b
  | .pv (.int i) => some (i != 0)
  | .pv (.str x) => if x.length ≤ sizeLine then some ((x.length : Int) != 0) else none
  | .pv (.tup ps) => some (!ps.isEmpty)
  | .pv (.lst ps) => some (!ps.isEmpty)
  | .pl ps => some (!ps.isEmpty)
  | .ls ps => some (!ps.isEmpty)
  | .pd ks _ => some (!ks.isEmpty)
  | _ => none
theorem VRL.emp {S : Hp} {ps : List PV} {xs : List V} (r : VRL K S ps xs) : (!ps.isEmpty) = !xs.isEmpty := by
  cases ps with
  | nil => rw [show xs = [] from r]; rfl
  | cons p ps => obtain ⟨x, t, e, _⟩ := r; rw [e]; rfl
theorem OwnL.emp {S H : Hp} {ps : List MV} {xs : List V} {fp : List Addr} (r : OwnL K S H ps xs fp) : (!ps.isEmpty) = !xs.isEmpty := by
  cases ps with
  | nil => obtain ⟨e, _⟩ := r; rw [e]; rfl
  | cons p ps => obtain ⟨x, t, f1, f2, e, _⟩ := r; rw [e]; rfl
theorem truM_ok {S H : Hp} (sub : Same S H) {a : MV} {v : V} {fp : List Addr} {b : Bool} (o : Own K S H a v fp) (h : truM a = some b) : TruV K v H b := by
  unfold truM at h
  split at h
  · cases h; obtain ⟨_, o⟩ := o; obtain rfl := o; rfl
  · cases h; obtain ⟨_, o⟩ := o; obtain rfl := o; rfl
  · cases h; obtain ⟨_, o⟩ := o; obtain rfl := o; rfl
  · obtain ⟨_, o⟩ := o; obtain rfl := o
    split at h
    · cases h; exact ⟨by assumption, rfl⟩
    · cases h
  · cases h; obtain ⟨_, a, xs, rfl, q, r⟩ := o; exact .inr (.inl ⟨xs, SqT.of (sub _ _ q), r.emp⟩)
  · cases h; obtain ⟨_, a, xs, rfl, q, r⟩ := o; exact .inl ⟨xs, same_sql sub q, r.emp⟩
  · cases h; obtain ⟨a, xs, rfl, _, q, _, r⟩ := o; exact .inl ⟨xs, SqL.of q, r.emp⟩
  · cases h; obtain ⟨a, xs, _, rfl, _, q, _, r⟩ := o; exact .inl ⟨xs, SqL.of q, r.emp⟩
  · cases h; obtain ⟨a, kvs, rfl, _, q, _, e, _⟩ := o; exact .inr (.inr ⟨kvs, q, by rw [← e]; cases kvs <;> rfl⟩)
  · cases h
def bTru (ea : Fr → O MV) (fr : Fr) : O Bool := (ea fr).bind fun a fr1 => match truM a with | some b => .ok b fr1 | none => .bad
theorem st_tru {a : Expr} {ea : Fr → O MV} (ha : SE X ca m a ea) (he : ∀ whole, isTrue a X.env whole = (do let v ← whole; standAt a.pos; holding [v] (truthy v)) := by exact fun _ => rfl) : ST X ca m a (bTru ea) := by
  refine ST.of (pt_truth ha.pe he) fun W c Q tk rp po => useT_bind tk (Go.refl rp) rfl po fun c1 p v fp e1 g1 o1 po => ?_
  cases q : truM p with
  | none => rw [q] at po; exact po.elim
  | some b =>
    rw [q] at po
    exact ⟨b, truM_ok g1.rep.sub o1 q, po c1 rfl e1 g1.dropAll⟩
/-- the truth of the slot's own thing -/
def bTruS (i : Nat) (fr : Fr) : O Bool := match fr[i]? with
  | some (.ow a) => (match truM a with | some b => .ok b fr | none => .bad)
  | some (.pr a) => (match truM a with | some b => .ok b fr | none => .bad)
  | _ => .bad
theorem st_truS {i : Nat} {a : Expr} (ha : PE X a (tVar i)) (he : ∀ whole, isTrue a X.env whole = (do let v ← whole; standAt a.pos; holding [v] (truthy v)) := by exact fun _ => rfl) : ST X ca m a (bTruS i) := by
  refine ST.of (pt_truth ha he) fun W c Q tk rp po => ?_
  have key : ∀ mv, (c.fr[i]? = some (.ow mv) ∨ c.fr[i]? = some (.pr mv)) → postT X.K ca m c Q W (match truM mv with | some b => .ok b c.fr | none => .bad) → tVar i c.σ c.H fun x H' => ∃ k, TruV X.K x H' k ∧ Q k H' := fun mv hs po => by
    obtain ⟨v, f, e1, o, _⟩ := rp.slot hs
    cases q : truM mv with
    | none => rw [q] at po; exact po.elim
    | some b =>
      rw [q] at po
      exact ⟨v, e1, b, truM_ok rp.sub o q, po c rfl rfl (Go.refl rp)⟩
  unfold bTruS at po
  split at po
  · exact key _ (.inl (by assumption)) po
  · exact key _ (.inr (by assumption)) po
  · exact po.elim
def bNot (t : Fr → O Bool) (fr : Fr) : O Bool := (t fr).bind fun b fr1 => .ok (!b) fr1
theorem st_not {a : Expr} {t : Fr → O Bool} {pos : Pos} (ha : ST X ca m a t) : ST X ca m (.UnaryOp .Not a pos) (bNot t) :=
  ST.of (pt_not ha.pt) fun W c Q tk rp po => useTT tk (Go.refl rp) rfl po fun c1 b e1 g1 po => po c1 rfl e1 g1
def bAnd (t u : Fr → O Bool) (fr : Fr) : O Bool := (t fr).bind fun b fr1 => if b = true then u fr1 else .ok false fr1
def bOr (t u : Fr → O Bool) (fr : Fr) : O Bool := (t fr).bind fun b fr1 => if b = true then .ok true fr1 else u fr1
theorem useTT' {ev : Fr → O Bool} {W : WX} (tk : Takes X W) {c0 c : Cf} (g0 : Go X.K m c0 [] c) (hσ : c.σ = c0.σ) {Q : Bool → Hp → Prop} (p : postT X.K ca m c0 Q W (ev c.fr)) : tTe X ca m ev c.σ c.H Q := by
  refine ⟨W, tk, c, rfl, rfl, g0.rep, ?_⟩
  cases q : ev c.fr with
  | ok a fr => rw [q] at p; exact fun c' e1 e2 g => p c' e1 (e2.trans hσ) (g0.then g)
  | exc x fr => rw [q] at p; exact fun c' d e1 e2 g o => p c' d e1 (e2.trans hσ) (g0.weak.then g) o
  | bad => rw [q] at p; exact p.elim
theorem sw_and1 {a : Expr} {t : Fr → O Bool} {pos : Pos} (ha : ST X ca m a t) : SW X ca m (.BoolOp .And [a] pos) t := ⟨pw_and1 ha.pt⟩
theorem sw_or1 {a : Expr} {t : Fr → O Bool} {pos : Pos} (ha : ST X ca m a t) : SW X ca m (.BoolOp .Or [a] pos) t := ⟨pw_or1 ha.pt⟩
theorem sw_and {a b : Expr} {rest : List Expr} {t u : Fr → O Bool} {pos : Pos} (ha : ST X ca m a t) (hb : SW X ca m (.BoolOp .And (b :: rest) pos) u) : SW X ca m (.BoolOp .And (a :: b :: rest) pos) (bAnd t u) :=
  SW.of (pw_and ha.pt hb.pw) fun W c Q tk rp po => useTT tk (Go.refl rp) rfl po fun c1 b e1 g1 po => by
    cases b with
    | true =>
      rw [if_pos rfl] at po ⊢
      rw [← e1]
      exact useTT' tk g1 e1 po
    | false =>
      rw [if_neg Bool.false_ne_true] at po ⊢
      exact po c1 rfl e1 g1
theorem sw_or {a b : Expr} {rest : List Expr} {t u : Fr → O Bool} {pos : Pos} (ha : ST X ca m a t) (hb : SW X ca m (.BoolOp .Or (b :: rest) pos) u) : SW X ca m (.BoolOp .Or (a :: b :: rest) pos) (bOr t u) :=
  SW.of (pw_or ha.pt hb.pw) fun W c Q tk rp po => useTT tk (Go.refl rp) rfl po fun c1 b e1 g1 po => by
    cases b with
    | false =>
      rw [if_neg Bool.false_ne_true] at po ⊢
      rw [← e1]
      exact useTT' tk g1 e1 po
    | true =>
      rw [if_pos rfl] at po ⊢
      exact po c1 rfl e1 g1

/-! ### and, or, not as values; a if t else b -/
theorem use_last {ev : Fr → O MV} {W : WX} (tk : Takes X W) {c0 c : Cf} (g0 : Go X.K m c0 [] c) (hσ : c.σ = c0.σ) {Q : VK} (p : postE Own X.K ca m c0 Q W (ev c.fr)) : tE X ca m ev c.σ c.H Q := by
  refine ⟨W, tk, c, rfl, rfl, g0.rep, ?_⟩
  cases q : ev c.fr with
  | ok a fr => rw [q] at p; exact fun c' v fp e1 e2 g o => p c' v fp e1 (e2.trans hσ) (g0.then g) o
  | exc x fr => rw [q] at p; exact fun c' d e1 e2 g o => p c' d e1 (e2.trans hσ) (g0.weak.then g) o
  | bad => rw [q] at p; exact p.elim
def eAnd (ea eb : Fr → O MV) (fr : Fr) : O MV := (ea fr).bindP fun p fr1 => match p with | .bl b => if b = true then eb fr1 else .ok (.pv (.bl false)) fr1 | _ => .bad
def eOr (ea eb : Fr → O MV) (fr : Fr) : O MV := (ea fr).bindP fun p fr1 => match p with | .bl b => if b = true then .ok (.pv (.bl true)) fr1 else eb fr1 | _ => .bad
def eNot (ea : Fr → O MV) (fr : Fr) : O MV := (ea fr).bindP fun p fr1 => match p with | .bl b => .ok (.pv (.bl (!b))) fr1 | _ => .bad
theorem se_one {op} {a : Expr} {ea : Fr → O MV} {pos : Pos} (h : SE X ca m a ea) : SE X ca m (.BoolOp op [a] pos) ea := ⟨pe_one h.pe⟩
theorem se_and {a b : Expr} {rest : List Expr} {ea eb : Fr → O MV} {pos : Pos} (ha : SE X ca m a ea) (hb : SE X ca m (.BoolOp .And (b :: rest) pos) eb) : SE X ca m (.BoolOp .And (a :: b :: rest) pos) (eAnd ea eb) := by
  refine SE.of (pe_and ha.pe hb.pe) fun W c Q tk rp po => use_bindP tk (Go.refl rp) rfl po fun c1 p v e1 g1 o1 po => ?_
  cases p <;> try exact po.elim
  obtain rfl := o1
  rename_i b
  refine ⟨b, rfl, ?_⟩
  cases b with
  | true => rw [if_pos rfl]; rw [← e1]; exact use_last tk g1 e1 po
  | false => rw [if_neg Bool.false_ne_true]; exact fin_here g1 e1 po rfl
theorem se_or {a b : Expr} {rest : List Expr} {ea eb : Fr → O MV} {pos : Pos} (ha : SE X ca m a ea) (hb : SE X ca m (.BoolOp .Or (b :: rest) pos) eb) : SE X ca m (.BoolOp .Or (a :: b :: rest) pos) (eOr ea eb) := by
  refine SE.of (pe_or ha.pe hb.pe) fun W c Q tk rp po => use_bindP tk (Go.refl rp) rfl po fun c1 p v e1 g1 o1 po => ?_
  cases p <;> try exact po.elim
  obtain rfl := o1
  rename_i b
  refine ⟨b, rfl, ?_⟩
  cases b with
  | false => rw [if_neg Bool.false_ne_true]; rw [← e1]; exact use_last tk g1 e1 po
  | true => rw [if_pos rfl]; exact fin_here g1 e1 po rfl
theorem se_notV {a : Expr} {ea : Fr → O MV} {pos : Pos} (ha : SE X ca m a ea) : SE X ca m (.UnaryOp .Not a pos) (eNot ea) := by
  refine SE.of (pe_not ha.pe) fun W c Q tk rp po => use_bindP tk (Go.refl rp) rfl po fun c1 p v e1 g1 o1 po => ?_
  cases p <;> try exact po.elim
  obtain rfl := o1
  exact ⟨_, rfl, fin_here g1 e1 po rfl⟩
def eIf (t : Fr → O Bool) (ea eb : Fr → O MV) (fr : Fr) : O MV := match t fr with | .ok b fr1 => if b = true then ea fr1 else eb fr1 | .exc x fr1 => .exc x fr1 | .bad => .bad
theorem use_test {ev : Fr → O Bool} {k : Bool → Fr → O MV} {W : WX} (tk : Takes X W) {c0 c : Cf} (g0 : Go X.K m c0 [] c) (hσ : c.σ = c0.σ) {Q0 : VK} {Q : Bool → Hp → Prop} (p : postE Own X.K ca m c0 Q0 W (match ev c.fr with | .ok b fr1 => k b fr1 | .exc x fr1 => .exc x fr1 | .bad => .bad))
    (h : ∀ c' b, c'.σ = c.σ → Go X.K m c [] c' → postE Own X.K ca m c0 Q0 W (k b c'.fr) → Q b c'.H) : tTe X ca m ev c.σ c.H Q := by
  refine ⟨W, tk, c, rfl, rfl, g0.rep, ?_⟩
  cases q : ev c.fr with
  | ok a fr =>
    rw [q] at p
    intro c' e1 e2 g
    subst e1
    exact h c' a e2 g p
  | exc x fr =>
    rw [q] at p
    intro c' d e1 e2 g o
    exact p c' d e1 (e2.trans hσ) (g0.weak.then g) o
  | bad => rw [q] at p; exact p.elim
theorem se_if {t a b : Expr} {et : Fr → O Bool} {ea eb : Fr → O MV} {pos : Pos} (ht : ST X ca m t et) (ha : SE X ca m a ea) (hb : SE X ca m b eb) : SE X ca m (.IfExp t a b pos) (eIf et ea eb) := by
  refine SE.of (pe_ifExp ht.pt ha.pe hb.pe) fun W c Q tk rp po => use_test (k := fun b fr1 => if b = true then ea fr1 else eb fr1) tk (Go.refl rp) rfl po fun c1 b e1 g1 po => ?_
  cases b with
  | true => rw [if_pos rfl] at po ⊢; rw [← e1]; exact use_last tk g1 e1 po
  | false => rw [if_neg Bool.false_ne_true] at po ⊢; rw [← e1]; exact use_last tk g1 e1 po
end Sm

namespace Sm
open PySem L2 PyProof.Rows
variable {K : PySem.W.Frag} {X : Cx} {ca : Nat → Addr} {m : Bool}

/-! ### slots -/
/-- a slot that may be stored to -/
def free? (fr : Fr) (i : Nat) : Bool := match fr[i]? with | some (.pr _) => false | some _ => true | none => false
/-- what is held goes to slot i -/
theorem Go.store {c c' : Cf} {Y : List Addr} {mv : MV} {v : V} {i : Nat} (g : Go K m c Y c') (o : Own K c'.S c'.H mv v Y) (h : free? c'.fr i = true) :
    ∃ F', Go K false c [] ⟨c'.S, c'.H, c'.σ.set i (some v), c'.fr.set i (.ow mv), F'⟩ := by
  obtain ⟨s, hs, hp⟩ : ∃ s, c'.fr[i]? = some s ∧ ∀ q, s ≠ .pr q := by
    unfold free? at h
    split at h
    · cases h
    · rename_i s hn hs; exact ⟨s, hs, fun q e => hn q e⟩
    · cases h
  obtain ⟨o0, f0, f1, f2, e1, e2, q, ex⟩ := g.rep.rel.at hs
  have nd := g.nd
  rw [e2] at nd
  have perm : (f0 ++ (Y ++ f2)).Perm (Y ++ (f0 ++ f2)) := by
    rw [← List.append_assoc, ← List.append_assoc]
    exact List.Perm.append_right f2 List.perm_append_comm
  have nd1 := List.nodup_append.mp nd
  have nd2 := List.nodup_append.mp nd1.2.1
  have nd3 := List.nodup_append.mp nd2.2.1
  have hc := fun b => g.rep.rel.cells b
  rw [e2] at hc
  refine ⟨f0 ++ (Y ++ f2), Go.of g.rep.sub ?_ ?_ (fun _ h => nomatch h) g.sS g.keep (fun b hb => ?_) g.newS (fun j q e => ?_) (fun h => nomatch h)⟩
  · exact ex c'.S c'.H (.ow mv) (some v) Y (Same.refl _) (fun b hb => ⟨rfl, (hc b (List.mem_append_left _ hb)).2⟩) (fun b hb => ⟨rfl, (hc b (List.mem_append_right _ (List.mem_append_right _ hb))).2⟩) ⟨v, rfl, o⟩
  · refine perm.nodup_iff.mpr (List.nodup_append.mpr ⟨nd1.1, List.nodup_append.mpr ⟨nd2.1, nd3.2.1, fun a ha b hb => nd2.2.2 a ha b (List.mem_append_right _ hb)⟩, fun a ha b hb => nd1.2.2 a ha b ?_⟩)
    rcases List.mem_append.mp hb with hb | hb
    · exact List.mem_append_left _ hb
    · exact List.mem_append_right _ (List.mem_append_right _ hb)
  · refine g.new b ?_
    rw [e2]
    rcases List.mem_append.mp (perm.mem_iff.mp hb) with hb | hb
    · exact List.mem_append_left _ hb
    · rcases List.mem_append.mp hb with hb | hb
      · exact List.mem_append_right _ (List.mem_append_left _ hb)
      · exact List.mem_append_right _ (List.mem_append_right _ (List.mem_append_right _ hb))
  · obtain ⟨a1, m', a2⟩ := g.pr j q e
    have ne : i ≠ j := fun z => by subst z; rw [hs] at a2; exact hp m' (Option.some.inj a2)
    exact ⟨by rw [List.getElem?_set_ne ne]; exact a1, m', by rw [List.getElem?_set_ne ne]; exact a2⟩
/-- the object at a, in slot i, is changed -/
theorem Go.write {c c' : Cf} {Y : List Addr} {mv mv' : MV} {i : Nat} {tag : MV → Sl} (ht : tag = Sl.ow ∨ tag = Sl.pr) (g : Go K m c Y c') (hs : c'.fr[i]? = some (tag mv)) {v : V} (hv : c'.σ[i]? = some (some v))
    {H' : Hp} {f' : List Addr} (h : ∀ f1, Own K c'.S c'.H mv v f1 → (∀ b ∈ f1, b ∈ c'.F) → f1.Nodup → (∀ b ∈ f1, b ∉ Y) → (∀ b, b ∉ f1 → c'.H b = none ∨ H' b = c'.H b) ∧ (∀ b ∈ f', H' b ≠ none) ∧ Own K c'.S H' mv' v f' ∧ f'.Nodup ∧ (∀ b ∈ f', b ∈ f1 ∨ c'.H b = none)) :
    ∃ F', Go K false c Y ⟨c'.S, H', c'.σ, c'.fr.set i (tag mv'), F'⟩ := by
  have hs' : ∃ f0 f1 f2, c'.F = f0 ++ (f1 ++ f2) ∧ Own K c'.S c'.H mv v f1 ∧ ∀ (S' H' : Hp) (f' : List Addr), Same c'.S S' → (∀ b ∈ f0, H' b = c'.H b ∧ S' b = none) → (∀ b ∈ f2, H' b = c'.H b ∧ S' b = none) → Own K S' H' mv' v f' → FrR K S' H' (c'.fr.set i (tag mv')) (c'.σ.set i (some v)) (f0 ++ (f' ++ f2)) := by
    obtain ⟨o0, f0, f1, f2, e1, e2, q, ex⟩ := g.rep.rel.at hs
    rw [hv] at e1
    have e1' := Option.some.inj e1
    rcases ht with rfl | rfl
    · obtain ⟨v', z, q⟩ := q
      subst z
      cases e1'
      exact ⟨f0, f1, f2, e2, q, fun S' H' f' a b c d => ex S' H' (.ow mv') (some v) f' a b c ⟨v, rfl, d⟩⟩
    · obtain ⟨v', z, q⟩ := q
      subst z
      cases e1'
      exact ⟨f0, f1, f2, e2, q, fun S' H' f' a b c d => ex S' H' (.pr mv') (some v) f' a b c ⟨v, rfl, d⟩⟩
  obtain ⟨f0, f1, f2, e2, q, ex⟩ := hs'
  have nd := g.nd
  rw [e2] at nd
  have nd1 := List.nodup_append.mp nd
  have nd2 := List.nodup_append.mp nd1.2.1
  have nd3 := List.nodup_append.mp nd2.2.1
  have m0 : ∀ b ∈ f0, b ∈ c'.F := fun b hb => by rw [e2]; exact List.mem_append_left _ hb
  have m1 : ∀ b ∈ f1, b ∈ c'.F := fun b hb => by rw [e2]; exact List.mem_append_right _ (List.mem_append_left _ hb)
  have m2 : ∀ b ∈ f2, b ∈ c'.F := fun b hb => by rw [e2]; exact List.mem_append_right _ (List.mem_append_right _ hb)
  obtain ⟨k1, k2, o', nd', nw⟩ := h f1 q m1 nd3.1 (fun b hb hy => nd1.2.2 b hy b (List.mem_append_right _ (List.mem_append_left _ hb)) rfl)
  have stay : ∀ b, b ∉ f1 → c'.H b ≠ none → H' b = c'.H b := fun b hb hn => (k1 b hb).elim (fun z => absurd z hn) id
  have n0 : ∀ b ∈ f0, b ∉ f1 := fun b hb h1 => nd2.2.2 b hb b (List.mem_append_left _ h1) rfl
  have n2 : ∀ b ∈ f2, b ∉ f1 := fun b hb h1 => nd3.2.2 b h1 b hb rfl
  have hset : c'.σ.set i (some v) = c'.σ := by
    have hi : i < c'.σ.length := (List.getElem?_eq_some_iff.mp hv).1
    have := (List.getElem?_eq_some_iff.mp hv).2
    rw [← this]; exact List.set_getElem_self hi
  have rel := ex c'.S H' f' (Same.refl _) (fun b hb => ⟨stay b (n0 b hb) (g.rep.cells (m0 b hb)).1, (g.rep.cells (m0 b hb)).2⟩) (fun b hb => ⟨stay b (n2 b hb) (g.rep.cells (m2 b hb)).1, (g.rep.cells (m2 b hb)).2⟩) o'
  rw [hset] at rel
  have nY : ∀ b ∈ Y, b ∉ f1 := fun b hb h1 => nd1.2.2 b hb b (List.mem_append_right _ (List.mem_append_left _ h1)) rfl
  have fr' : ∀ b ∈ f', b ∉ f1 → c'.H b = none := fun b hb h1 => (nw b hb).elim (fun z => absurd z h1) id
  have dis : ∀ (l : List Addr), (∀ b ∈ l, c'.H b ≠ none) → (∀ b ∈ l, b ∉ f1) → ∀ b ∈ l, b ∉ f' := fun l h1 h2 b hb hf => h1 b hb (fr' b hf (h2 b hb))
  have hS1 : ∀ b ∈ f1, c'.S b = none := fun b hb => (g.rep.cells (m1 b hb)).2
  refine ⟨f0 ++ (f' ++ f2), Go.of (fun b o e => ?_) rel ?_ (fun b hb => ⟨?_, (g.xc b hb).2⟩) g.sS (fun b hF o e => ?_) (fun b hb => ?_) g.newS (fun j q e => ?_) (fun h => nomatch h)⟩
  · have h1 : b ∉ f1 := fun hb => by rw [hS1 b hb] at e; cases e
    have e3 := g.rep.sub _ _ e
    rw [stay b h1 (by rw [e3]; simp)]; exact e3
  · refine List.nodup_append.mpr ⟨nd1.1, List.nodup_append.mpr ⟨nd2.1, List.nodup_append.mpr ⟨nd', nd3.2.1, fun a ha b hb z => ?_⟩, fun a ha b hb z => ?_⟩, fun a ha b hb z => ?_⟩
    · subst z; exact dis f2 (fun b hb => (g.rep.cells (m2 b hb)).1) n2 a hb ha
    · subst z
      rcases List.mem_append.mp hb with hb | hb
      · exact dis f0 (fun b hb => (g.rep.cells (m0 b hb)).1) n0 a ha hb
      · exact nd2.2.2 a ha a (List.mem_append_right _ hb) rfl
    · subst z
      rcases List.mem_append.mp hb with hb | hb
      · exact nd1.2.2 a ha a (List.mem_append_left _ hb) rfl
      · rcases List.mem_append.mp hb with hb | hb
        · exact dis Y (fun b hb => (g.xc b hb).1) nY a ha hb
        · exact nd1.2.2 a ha a (List.mem_append_right _ (List.mem_append_right _ hb)) rfl
  · rw [stay b (nY b hb) (g.xc b hb).1]; exact (g.xc b hb).1
  · have e3 := g.keep b hF o e
    by_cases h1 : b ∈ f1
    · exfalso
      rcases g.new b (List.mem_append_right _ (m1 b h1)) with z | z
      · exact hF z
      · rw [z] at e; cases e
    · rw [stay b h1 (by rw [e3]; simp)]; exact e3
  · have back : ∀ b, b ∈ f' → b ∈ c.F ∨ c.H b = none := fun b hb => by
      rcases nw b hb with z | z
      · exact g.new b (List.mem_append_right _ (m1 b z))
      · by_cases hF : b ∈ c.F
        · exact .inl hF
        · refine .inr ?_
          cases e : c.H b with
          | none => rfl
          | some o => rw [g.keep b hF o e] at z; cases z
    rcases List.mem_append.mp hb with hb | hb
    · exact g.new b (List.mem_append_left _ hb)
    · rcases List.mem_append.mp hb with hb | hb
      · exact g.new b (List.mem_append_right _ (m0 b hb))
      · rcases List.mem_append.mp hb with hb | hb
        · exact back b hb
        · exact g.new b (List.mem_append_right _ (m2 b hb))
  · obtain ⟨a1, m', a2⟩ := g.pr j q e
    by_cases ne : i = j
    · subst ne
      have hi : i < c'.fr.length := (List.getElem?_eq_some_iff.mp hs).1
      rw [hs] at a2
      rcases ht with rfl | rfl
      · cases a2
      · exact ⟨a1, mv', by rw [List.getElem?_set_self hi]⟩
    · exact ⟨a1, m', by rw [List.getElem?_set_ne ne]; exact a2⟩

/-! ### statements -/
inductive SO where
  | nx (fr : Fr)
  | rt (r : MV) (fr : Fr)
  | bk (fr : Fr)
  | ct (fr : Fr)
  | exc (x : Ex) (fr : Fr)
  | bad
def postS (K : PySem.W.Frag) (ca : Nat → Addr) (c : Cf) (D : Ends) (W : WX) : SO → Prop
  | .nx fr => ∀ c', c'.fr = fr → Go K false c [] c' → D.nx c'.σ c'.H
  | .rt r fr => ∀ c' v fp, c'.fr = fr → Go K false c fp c' → Own K c'.S c'.H r v fp → D.rt v c'.H
  | .bk fr => ∀ c', c'.fr = fr → Go K false c [] c' → D.bk c'.σ c'.H
  | .ct fr => ∀ c', c'.fr = fr → Go K false c [] c' → D.ct c'.σ c'.H
  | .exc x fr => ∀ c' d, c'.fr = fr → Go K false c [] c' → XdR K c'.S c'.H x.fs d → W (.ref (ca x.cls)) (some d) c'.σ c'.H
  | .bad => False
theorem postS.after {c c1 : Cf} {D : Ends} {W : WX} {o : SO} (g : Go K m c [] c1) (h : postS K ca c D W o) : postS K ca c1 D W o := by
  cases o with
  | nx fr => exact fun c' e g' => h c' e (g.weak.then g')
  | rt r fr => exact fun c' v fp e g' ow => h c' v fp e (g.weak.then g') ow
  | bk fr => exact fun c' e g' => h c' e (g.weak.then g')
  | ct fr => exact fun c' e g' => h c' e (g.weak.then g')
  | exc x fr => exact fun c' d e g' xd => h c' d e (g.weak.then g') xd
  | bad => exact h
def tSt (X : Cx) (ca : Nat → Addr) (s : Fr → SO) : TS := fun D σ H => ∃ W, Takes X W ∧ ∃ c : Cf, c.σ = σ ∧ c.H = H ∧ Rep X.K c ∧ postS X.K ca c D W (s c.fr)
structure SS (X : Cx) (ca : Nat → Addr) (st : Stmt) (s : Fr → SO) : Prop where
  ps : PS X st (tSt X ca s)
structure SSs (X : Cx) (ca : Nat → Addr) (st : List Stmt) (s : Fr → SO) : Prop where
  ps : PSs X st (tSt X ca s)
theorem SS.of {st : Stmt} {t : TS} {s : Fr → SO} (h : PS X st t) (k : ∀ (W : WX) (c : Cf) (D : Ends), Takes X W → Rep X.K c → postS X.K ca c D W (s c.fr) → t D c.σ c.H) : SS X ca st s := by
  refine ⟨⟨fun pins sh σ H D I ⟨W, tk, c, e1, e2, r, p⟩ => ?_⟩⟩
  subst e1 e2
  exact h.run pins sh c.σ c.H D I (k W c D tk r p)
theorem SSs.of {st : List Stmt} {t : TS} {s : Fr → SO} (h : PSs X st t) (k : ∀ (W : WX) (c : Cf) (D : Ends), Takes X W → Rep X.K c → postS X.K ca c D W (s c.fr) → t D c.σ c.H) : SSs X ca st s := by
  refine ⟨⟨fun pins sh σ H D I ⟨W, tk, c, e1, e2, r, p⟩ => ?_⟩⟩
  subst e1 e2
  exact h.run pins sh c.σ c.H D I (k W c D tk r p)
theorem SSs.eq {st : List Stmt} {s s' : Fr → SO} (h : SSs X ca st s) (q : ∀ fr, s' fr = .bad ∨ s fr = s' fr) : SSs X ca st s' := by
  refine SSs.of h.ps fun W c D tk r p => ⟨W, tk, c, rfl, rfl, r, ?_⟩
  rcases q c.fr with z | z
  · rw [z] at p; exact p.elim
  · rw [z]; exact p
def sNil (fr : Fr) : SO := .nx fr
def sSeq (s1 s2 : Fr → SO) (fr : Fr) : SO := match s1 fr with | .nx fr1 => s2 fr1 | .rt r f => .rt r f | .bk f => .bk f | .ct f => .ct f | .exc x f => .exc x f | .bad => .bad
theorem sss_nil : SSs X ca [] sNil := SSs.of pss_nil fun W c D tk r p => p c rfl (Go.refl r)
/-- run s, then what follows -/
theorem useS {s : Fr → SO} {W : WX} (tk : Takes X W) {c0 c : Cf} (g : Go X.K m c0 [] c) {D0 D : Ends} {k : Fr → SO} (p : postS X.K ca c0 D0 W (match s c.fr with | .nx fr1 => k fr1 | .rt r f => .rt r f | .bk f => .bk f | .ct f => .ct f | .exc x f => .exc x f | .bad => .bad))
    (hr : D.rt = D0.rt) (hb : D.bk = D0.bk) (hc : D.ct = D0.ct) (h : ∀ c', Go X.K false c [] c' → postS X.K ca c0 D0 W (k c'.fr) → D.nx c'.σ c'.H) : tSt X ca s D c.σ c.H := by
  refine ⟨W, tk, c, rfl, rfl, g.rep, ?_⟩
  cases q : s c.fr with
  | nx fr => rw [q] at p; intro c' e g'; subst e; exact h c' g' p
  | rt r fr => rw [q] at p; intro c' v fp e g' o; rw [hr]; exact p c' v fp e (g.weak.then g') o
  | bk fr => rw [q] at p; intro c' e g'; rw [hb]; exact p c' e (g.weak.then g')
  | ct fr => rw [q] at p; intro c' e g'; rw [hc]; exact p c' e (g.weak.then g')
  | exc x fr => rw [q] at p; intro c' d e g' xd; exact p c' d e (g.weak.then g') xd
  | bad => rw [q] at p; exact p.elim
theorem useLast {s : Fr → SO} {W : WX} (tk : Takes X W) {c0 c : Cf} (g : Go X.K m c0 [] c) {D : Ends} (p : postS X.K ca c0 D W (s c.fr)) : tSt X ca s D c.σ c.H := ⟨W, tk, c, rfl, rfl, g.rep, p.after g⟩
theorem sss_cons {st : Stmt} {r : List Stmt} {s1 s2 : Fr → SO} (h1 : SS X ca st s1) (h2 : SSs X ca r s2) : SSs X ca (st :: r) (sSeq s1 s2) :=
  SSs.of (pss_cons h1.ps h2.ps) fun W c D tk r p => useS tk (Go.refl (m := false) r) p rfl rfl rfl fun c' g p => useLast tk g p
theorem sss_one {st : Stmt} {s : Fr → SO} (h : SS X ca st s) : SSs X ca [st] s := ⟨pss_one h.ps⟩
theorem ss_pass {pos} : SS X ca (.Pass pos) sNil := SS.of ps_pass fun W c D tk r p => p c rfl (Go.refl r)
theorem ss_break {pos} : SS X ca (.Break pos) (fun fr => .bk fr) := SS.of ps_break fun W c D tk r p => p c rfl (Go.refl r)
theorem ss_continue {pos} : SS X ca (.Continue pos) (fun fr => .ct fr) := SS.of ps_continue fun W c D tk r p => p c rfl (Go.refl r)
/-- run an expression, in a statement -/
theorem useE {ev : Fr → O MV} {k : MV → Fr → SO} {W : WX} (tk : Takes X W) {c0 c : Cf} (g0 : Go X.K false c0 [] c) {D0 : Ends} {Q : VK} (p : postS X.K ca c0 D0 W (match ev c.fr with | .ok a fr1 => k a fr1 | .exc x f => .exc x f | .bad => .bad))
    (h : ∀ c' a v fp, c'.σ = c.σ → Go X.K false c fp c' → Own X.K c'.S c'.H a v fp → postS X.K ca c0 D0 W (k a c'.fr) → Q v c'.H) : tE X ca false ev c.σ c.H Q := by
  refine ⟨W, tk, c, rfl, rfl, g0.rep, ?_⟩
  cases q : ev c.fr with
  | ok a fr => rw [q] at p; intro c' v fp e1 e2 g o; subst e1; exact h c' a v fp e2 g o p
  | exc x fr => rw [q] at p; intro c' d e1 e2 g o; exact p c' d e1 (g0.then g) o
  | bad => rw [q] at p; exact p.elim
theorem useEP {ev : Fr → O MV} {k : PV → Fr → SO} {W : WX} (tk : Takes X W) {c0 c : Cf} (g0 : Go X.K false c0 [] c) {D0 : Ends} {Q : VK} (p : postS X.K ca c0 D0 W (match ev c.fr with | .ok (.pv a) fr1 => k a fr1 | .ok _ _ => .bad | .exc x f => .exc x f | .bad => .bad))
    (h : ∀ c' a v, c'.σ = c.σ → Go X.K false c [] c' → VR X.K c'.S a v → postS X.K ca c0 D0 W (k a c'.fr) → Q v c'.H) : tE X ca false ev c.σ c.H Q := by
  refine ⟨W, tk, c, rfl, rfl, g0.rep, ?_⟩
  cases q : ev c.fr with
  | ok a fr =>
    rw [q] at p
    intro c' v fp e1 e2 g o
    subst e1
    cases a with
    | pv a => obtain ⟨e, o⟩ := o; subst e; exact h c' a v e2 g o p
    | _ => exact p.elim
  | exc x fr => rw [q] at p; intro c' d e1 e2 g o; exact p c' d e1 (g0.then g) o
  | bad => rw [q] at p; exact p.elim
theorem useTS {ev : Fr → O Bool} {k : Bool → Fr → SO} {W : WX} (tk : Takes X W) {c0 c : Cf} (g0 : Go X.K false c0 [] c) {D0 : Ends} {Q : Bool → Hp → Prop} (p : postS X.K ca c0 D0 W (match ev c.fr with | .ok b fr1 => k b fr1 | .exc x f => .exc x f | .bad => .bad))
    (h : ∀ c' b, c'.σ = c.σ → Go X.K false c [] c' → postS X.K ca c0 D0 W (k b c'.fr) → Q b c'.H) : tTe X ca false ev c.σ c.H Q := by
  refine ⟨W, tk, c, rfl, rfl, g0.rep, ?_⟩
  cases q : ev c.fr with
  | ok a fr => rw [q] at p; intro c' e1 e2 g; subst e1; exact h c' a e2 g p
  | exc x fr => rw [q] at p; intro c' d e1 e2 g o; exact p c' d e1 (g0.then g) o
  | bad => rw [q] at p; exact p.elim
def sExpr (ev : Fr → O MV) (fr : Fr) : SO := match ev fr with | .ok _ fr1 => .nx fr1 | .exc x f => .exc x f | .bad => .bad
theorem ss_expr {e : Expr} {ev : Fr → O MV} {pos : Pos} (he : SE X ca false e ev) (hs : swapsWith e none pos.line X.env = pure false := by rfl) : SS X ca (.Expr e pos) (sExpr ev) :=
  SS.of (ps_expr he.pe hs) fun W c D tk r p => useE (k := fun _ fr1 => .nx fr1) tk (Go.refl r) p fun c' a v fp e g o p => by rw [← e]; exact p c' rfl g.dropAll
def sRet (ev : Fr → O MV) (fr : Fr) : SO := match ev fr with | .ok a fr1 => .rt a fr1 | .exc x f => .exc x f | .bad => .bad
theorem ss_ret {e : Expr} {ev : Fr → O MV} {pos : Pos} (he : SE X ca false e ev) : SS X ca (.Return (some e) pos) (sRet ev) :=
  SS.of (ps_ret he.pe) fun W c D tk r p => useE (k := fun a fr1 => .rt a fr1) tk (Go.refl r) p fun c' a v fp e g o p => p c' v fp rfl g o
def sRetN (fr : Fr) : SO := .rt (.pv .non) fr
theorem ss_retN {pos : Pos} : SS X ca (.Return none pos) sRetN := SS.of ps_retN fun W c D tk r p => p c .non [] rfl (Go.refl r) ⟨rfl, rfl⟩
def sIf (t : Fr → O Bool) (a b : Fr → SO) (fr : Fr) : SO := match t fr with | .ok k fr1 => if k = true then a fr1 else b fr1 | .exc x f => .exc x f | .bad => .bad
theorem ss_if {t : Expr} {a b : List Stmt} {et : Fr → O Bool} {sa sb : Fr → SO} {pos : Pos} (ht : ST X ca false t et) (ha : SSs X ca a sa) (hb : SSs X ca b sb) : SS X ca (.If t a b pos) (sIf et sa sb) :=
  SS.of (ps_if ht.pt ha.ps hb.ps) fun W c D tk r p => useTS (k := fun k fr1 => if k = true then sa fr1 else sb fr1) tk (Go.refl r) p fun c' k e g p => by
    cases k with
    | true => rw [if_pos rfl] at p ⊢; rw [← e]; exact useLast tk g p
    | false => rw [if_neg Bool.false_ne_true] at p ⊢; rw [← e]; exact useLast tk g p
/-- name = e -/
def sSet (i : Nat) (ev : Fr → O MV) (fr : Fr) : SO := match ev fr with | .ok a fr1 => if free? fr1 i = true then .nx (fr1.set i (.ow a)) else .bad | .exc x f => .exc x f | .bad => .bad
theorem ss_set {i : Nat} {x : Str} {e : Expr} {ev : Fr → O MV} {pos pos' : Pos} (hN : X.N.Nodup) (hi : X.N[i]? = some x) (hx : Loc X.env.scope x) (he : SE X ca false e ev) (hs : swapsWith e (some (.Name x pos')) pos.line X.env = pure false := by rfl)
    (hf : X.fn x = true ∨ X.env.scope.names.lookup x = some .local := by first | exact .inl rfl | exact .inr rfl | assumption) : SS X ca (.Assign [.Name x pos'] e pos) (sSet i ev) :=
  SS.of (ps_set hN hi hx he.pe hs hf) fun W c D tk r p => useE (k := fun a fr1 => if free? fr1 i = true then .nx (fr1.set i (.ow a)) else .bad) tk (Go.refl r) p fun c' a v fp e g o p => by
    by_cases h : free? c'.fr i = true
    · rw [if_pos h] at p
      obtain ⟨F', g'⟩ := g.store o h
      rw [← e]
      exact p ⟨c'.S, c'.H, c'.σ.set i (some v), c'.fr.set i (.ow a), F'⟩ rfl g'
    · rw [if_neg h] at p; exact p.elim
end Sm

namespace Sm
open PySem L2 PyProof.Rows
variable {K : PySem.W.Frag} {X : Cx} {ca : Nat → Addr} {m : Bool}

/-! ### targets of plain things -/
def SigEq (us : List Nat) (σ σ' : L2.St) : Prop := σ'.length = σ.length ∧ ∀ j, j ∉ us → σ'[j]? = σ[j]?
theorem SigEq.refl {us : List Nat} {σ : L2.St} : SigEq us σ σ := ⟨rfl, fun _ _ => rfl⟩
theorem SigEq.app {us vs : List Nat} {a b c : L2.St} (h : SigEq us a b) (k : SigEq vs b c) : SigEq (us ++ vs) a c :=
  ⟨k.1.trans h.1, fun j hj => (k.2 j fun z => hj (List.mem_append_right _ z)).trans (h.2 j fun z => hj (List.mem_append_left _ z))⟩
def tG (X : Cx) (us : List Nat) (t : PV → Fr → Option Fr) : TG := fun v σ H Q => ∃ c : Cf, c.σ = σ ∧ c.H = H ∧ Rep X.K c ∧ ∃ p fr', VR X.K c.S p v ∧ t p c.fr = some fr' ∧ ∀ c', c'.fr = fr' → c'.H = c.H → c'.S = c.S → Go X.K false c [] c' → SigEq us c.σ c'.σ → Q c'.σ c'.H
structure SG (X : Cx) (tg : Expr) (us : List Nat) (t : PV → Fr → Option Fr) : Prop where
  pg : PG X tg (tG X us t)
theorem SG.of {tg : Expr} {g : TG} {us : List Nat} {t : PV → Fr → Option Fr} (h : PG X tg g) (k : ∀ (c : Cf) (p : PV) (v : V) (fr' : Fr) (Q : L2.St → Hp → Prop), Rep X.K c → VR X.K c.S p v → t p c.fr = some fr' → (∀ c', c'.fr = fr' → c'.H = c.H → c'.S = c.S → Go X.K false c [] c' → SigEq us c.σ c'.σ → Q c'.σ c'.H) → g v c.σ c.H Q) : SG X tg us t := by
  refine ⟨⟨fun pins s σ H v u Q I r ⟨c, e1, e2, rp, p, fr', o, e, q⟩ => ?_⟩⟩
  subst e1 e2
  exact h.run pins s c.σ c.H v u Q I r (k c p v fr' Q rp o e q)
def gtN (i : Nat) (p : PV) (fr : Fr) : Option Fr := if free? fr i = true then some (fr.set i (.ow (.pv p))) else none
theorem sg_name {i : Nat} {x : Str} {pos : Pos} (hN : X.N.Nodup) (hi : X.N[i]? = some x) (hx : Loc X.env.scope x) (hf : X.fn x = true ∨ X.env.scope.names.lookup x = some .local := by first | exact .inl rfl | exact .inr rfl | assumption) : SG X (.Name x pos) [i] (gtN i) :=
  SG.of (pg_name hN hi hx hf) fun c p v fr' Q rp o e q => by
    unfold gtN at e
    by_cases h : free? c.fr i = true
    · rw [if_pos h] at e
      obtain ⟨F', g⟩ := (Go.refl (m := false) rp).store (mv := .pv p) (v := v) (i := i) ⟨rfl, o⟩ h
      exact q ⟨c.S, c.H, c.σ.set i (some v), c.fr.set i (.ow (.pv p)), F'⟩ (Option.some.inj e) rfl rfl g ⟨List.length_set, fun j hj => List.getElem?_set_ne fun z => hj (by rw [z]; exact List.mem_singleton.mpr rfl)⟩
    · rw [if_neg h] at e; cases e
def tGs (X : Cx) (us : List Nat) (t : List PV → Fr → Option Fr) : TGs := fun vs σ H Q => ∃ c : Cf, c.σ = σ ∧ c.H = H ∧ Rep X.K c ∧ ∃ ps fr', VRL X.K c.S ps vs ∧ t ps c.fr = some fr' ∧ ∀ c', c'.fr = fr' → c'.H = c.H → c'.S = c.S → Go X.K false c [] c' → SigEq us c.σ c'.σ → Q c'.σ c'.H
structure SGs (X : Cx) (ts : List Expr) (us : List Nat) (t : List PV → Fr → Option Fr) : Prop where
  pgs : PGs X ts (tGs X us t)
def gsNil (ps : List PV) (fr : Fr) : Option Fr := match ps with | [] => some fr | _ => none
def gsCons (t : PV → Fr → Option Fr) (r : List PV → Fr → Option Fr) (ps : List PV) (fr : Fr) : Option Fr := match ps with | p :: ps => (match t p fr with | some fr1 => r ps fr1 | none => none) | [] => none
theorem sgs_nil : SGs X [] [] gsNil := by
  refine ⟨⟨fun pins s σ H vs us Q I r ⟨c, e1, e2, rp, ps, fr', o, e, q⟩ => ?_⟩⟩
  subst e1 e2
  cases ps with
  | nil =>
    cases e
    refine pgs_nil.run pins s c.σ c.H vs us Q I r ⟨o, q c rfl rfl rfl (Go.refl rp) SigEq.refl⟩
  | cons p ps => cases e
theorem sgs_cons {e : Expr} {es : List Expr} {us1 us2 : List Nat} {t : PV → Fr → Option Fr} {r : List PV → Fr → Option Fr} (h1 : SG X e us1 t) (h2 : SGs X es us2 r)
    (hs : (assignEach (e :: es) X.env).map (·.2) = assign e X.env :: (assignEach es X.env).map (·.2) := by rfl) : SGs X (e :: es) (us1 ++ us2) (gsCons t r) := by
  refine ⟨⟨fun pins s σ H vs us Q I rv ⟨c, e1, e2, rp, ps, fr', o, e, q⟩ => ?_⟩⟩
  subst e1 e2
  refine (pgs_cons h1.pg h2.pgs hs).run pins s c.σ c.H vs us Q I rv ?_
  cases ps with
  | nil => cases e
  | cons p ps =>
    obtain ⟨v, vr, ev, o1, o2⟩ := o
    subst ev
    have e' : (match t p c.fr with | some fr1 => r ps fr1 | none => none) = some fr' := e
    cases q1 : t p c.fr with
    | none => rw [q1] at e'; cases e'
    | some fr1 =>
      rw [q1] at e'
      refine ⟨v, vr, rfl, c, rfl, rfl, rp, p, fr1, o1, q1, fun c1 z1 z2 z3 g1 s1 => ⟨c1, rfl, rfl, g1.rep, ps, fr', by rw [z3]; exact o2, by rw [z1]; exact e', fun c2 y1 y2 y3 g2 s2 => q c2 y1 (y2.trans z2) (y3.trans z3) (g1.then g2) (s1.app s2)⟩⟩
/-- (a, b, ..) of a tuple -/
def gtT (n : Nat) (r : List PV → Fr → Option Fr) (p : PV) (fr : Fr) : Option Fr := match p with | .tup ps => if ps.length = n then r ps fr else none | _ => none
theorem sg_tup {es : List Expr} {k : Nat} {pos : Pos} {n : Nat} {us : List Nat} {r : List PV → Fr → Option Fr} (hc : X.calm = true) (h : SGs X es us r) (hn : (assignEach es X.env).length = n := by rfl) (hst : (assignEach es X.env).findIdx? (·.1) = none := by rfl) : SG X (.Tuple es k pos) us (gtT n r) :=
  SG.of (pg_tup hc h.pgs hn hst) fun c p v fr' Q rp o e q => by
    cases p <;> try cases e
    obtain ⟨a, xs, e1, ha, hx⟩ := o
    rename_i ps
    have e' : (if ps.length = n then r ps c.fr else none) = some fr' := e
    by_cases hl : ps.length = n
    · rw [if_pos hl] at e'
      exact ⟨a, xs, e1, SqT.of (rp.sub _ _ ha), hx.len.trans hl, c, rfl, rfl, rp, ps, fr', hx, e', q⟩
    · rw [if_neg hl] at e'; cases e'
/-- (a, b, ..) of a plain list -/
def gtL (n : Nat) (r : List PV → Fr → Option Fr) (p : PV) (fr : Fr) : Option Fr := match p with | .lst ps => if ps.length = n then r ps fr else none | _ => none
theorem sg_lst {es : List Expr} {k : Nat} {pos : Pos} {n : Nat} {us : List Nat} {r : List PV → Fr → Option Fr} (hc : X.calm = true) (h : SGs X es us r) (hn : (assignEach es X.env).length = n := by rfl) (hst : (assignEach es X.env).findIdx? (·.1) = none := by rfl) : SG X (.Tuple es k pos) us (gtL n r) :=
  SG.of (pg_lst hc h.pgs hn hst) fun c p v fr' Q rp o e q => by
    cases p <;> try cases e
    obtain ⟨a, xs, e1, ha, hx⟩ := o
    rename_i ps
    have e' : (if ps.length = n then r ps c.fr else none) = some fr' := e
    by_cases hl : ps.length = n
    · rw [if_pos hl] at e'
      exact ⟨a, xs, e1, same_sql rp.sub ha, hx.len.trans hl, c, rfl, rfl, rp, ps, fr', hx, e', q⟩
    · rw [if_neg hl] at e'; cases e'
/-- target = e, e plain -/
def sAsg (t : PV → Fr → Option Fr) (ev : Fr → O MV) (fr : Fr) : SO := match ev fr with | .ok (.pv p) fr1 => (match t p fr1 with | some fr2 => .nx fr2 | none => .bad) | .ok _ _ => .bad | .exc x f => .exc x f | .bad => .bad
theorem ss_asg {tg e : Expr} {us : List Nat} {t : PV → Fr → Option Fr} {ev : Fr → O MV} {pos : Pos} (he : SE X ca false e ev) (hg : SG X tg us t) (hs : swapsWithSole [tg] e pos.line X.env = pure false := by rfl) (hw : swappedStores [tg] e X.env = pure none := by rfl)
    (h1 : (assignEach [tg] X.env).map (·.2) = [assign tg X.env] := by rfl) : SS X ca (.Assign [tg] e pos) (sAsg t ev) :=
  SS.of (ps_asg he.pe hg.pg hs hw h1) fun W c D tk r p => useEP (k := fun p fr1 => match t p fr1 with | some fr2 => .nx fr2 | none => .bad) tk (Go.refl r) p fun c' a v e g o p => by
    cases q : t a c'.fr with
    | none => rw [q] at p; exact p.elim
    | some fr2 =>
      rw [q] at p
      rw [← e]
      exact ⟨c', rfl, rfl, g.rep, a, fr2, o, q, fun c2 y1 y2 y3 g2 _ => p c2 y1 (g.then g2)⟩

/-! ### loops -/
def forL (t : PV → Fr → Option Fr) (b : Fr → SO) : List PV → Fr → SO
  | [], fr => .nx fr
  | p :: ps, fr => match t p fr with
    | none => .bad
    | some fr1 => match b fr1 with
      | .nx fr2 => forL t b ps fr2
      | .ct fr2 => forL t b ps fr2
      | .bk fr2 => .nx fr2
      | .rt r f => .rt r f
      | .exc x f => .exc x f
      | .bad => .bad
/-- one turn's post -/
theorem turn_post {b : Fr → SO} {t : PV → Fr → Option Fr} {W : WX} {c0 c1 : Cf} {D : Ends} {N : L2.St → Hp → Prop} {ps : List PV} (g : Go K false c0 [] c1) {o : SO}
    (p : postS K ca c0 D W (match o with | .nx fr2 => forL t b ps fr2 | .ct fr2 => forL t b ps fr2 | .bk fr2 => .nx fr2 | .rt r f => .rt r f | .exc x f => .exc x f | .bad => .bad))
    (hN : ∀ c', Go K false c1 [] c' → postS K ca c0 D W (forL t b ps c'.fr) → N c'.σ c'.H) : postS K ca c1 { D with nx := N, ct := N, bk := D.nx } W o := by
  cases o with
  | nx fr => intro c' e g'; subst e; exact hN c' g' p
  | ct fr => intro c' e g'; subst e; exact hN c' g' p
  | bk fr => exact fun c' e g' => p c' e (g.then g')
  | rt r fr => exact fun c' v fp e g' ow => p c' v fp e (g.then g') ow
  | exc x fr => exact fun c' d e g' xd => p c' d e (g.then g') xd
  | bad => exact p
/-- the core of all loops over plain things: from c0 on, the source J -/
theorem for_core {J : It} {us : List Nat} {vs : List V} {ps : List PV} {t : PV → Fr → Option Fr} {b : Fr → SO} {W : WX} {tg : Expr} {body : List Stmt} {D : Ends} {c : Cf} {Y : List Addr} (tk : Takes X W)
    (hJs : ∀ H, (∀ c', c'.H = H → Go X.K false c [] c' → J.stop vs.length H) ) (hJg : ∀ i H x, vs[i]? = some x → (∀ c', c'.H = H → Go X.K false c [] c' → J.go i H ∧ ∀ y H', J.yld i H y H' → y = x ∧ H' = H))
    (rp : Rep X.K c) (hv : VRL X.K c.S ps vs) (p : postS X.K ca c D W (forL t b ps c.fr)) :
    ∃ Wn : Nat → Nat → L2.St → Hp → Prop, (∃ n, Wn 0 n c.σ c.H) ∧ ∀ i n σ H, Wn i n σ H →
      (J.stop i H ∧ D.nx σ H) ∨ (J.go i H ∧ ∃ N : L2.St → Hp → Prop, (∀ σ' H', N σ' H' → ∃ n', n' < n ∧ Wn (i + 1) n' σ' H') ∧ ∀ x H', J.yld i H x H' → tG X us t x σ H' fun σ2 H2 => tSt X ca b { D with nx := N, ct := N, bk := D.nx } σ2 H2) := by
  refine ⟨fun i n σ H => ∃ c', c'.σ = σ ∧ c'.H = H ∧ Go X.K false c [] c' ∧ n = ps.length - i ∧ i ≤ ps.length ∧ postS X.K ca c D W (forL t b (ps.drop i) c'.fr), ⟨ps.length, c, rfl, rfl, Go.refl rp, by simp, Nat.zero_le _, by simpa using p⟩, ?_⟩
  rintro i n σ H ⟨c', rfl, rfl, g, rfl, hi, p⟩
  have hl := hv.len
  by_cases hlt : i < ps.length
  · have hx : vs[i]? = some (vs[i]'(by omega)) := List.getElem?_eq_getElem (by omega)
    obtain ⟨j1, j2⟩ := hJg i c'.H _ hx c' rfl g
    obtain ⟨q, hq, rq⟩ := hv.getV hx
    have hd : ps.drop i = q :: ps.drop (i + 1) := by
      have h1 := (List.getElem?_eq_some_iff.mp hq)
      rw [List.drop_eq_getElem_cons hlt]
      rw [h1.2]
    rw [hd] at p
    have p' : postS X.K ca c D W (match t q c'.fr with | none => .bad | some fr1 => match b fr1 with | .nx fr2 => forL t b (ps.drop (i + 1)) fr2 | .ct fr2 => forL t b (ps.drop (i + 1)) fr2 | .bk fr2 => .nx fr2 | .rt r f => .rt r f | .exc x f => .exc x f | .bad => .bad) := p
    refine .inr ⟨j1, fun σ' H' => ∃ c2, c2.σ = σ' ∧ c2.H = H' ∧ Go X.K false c [] c2 ∧ postS X.K ca c D W (forL t b (ps.drop (i + 1)) c2.fr), ?_, ?_⟩
    · rintro σ' H' ⟨c2, e1, e2, g2, p2⟩
      exact ⟨ps.length - (i + 1), by omega, c2, e1, e2, g2, rfl, hlt, p2⟩
    · intro x H' y
      obtain ⟨rfl, rfl⟩ := j2 x H' y
      cases et : t q c'.fr with
      | none => rw [et] at p'; exact p'.elim
      | some fr1 =>
        rw [et] at p'
        refine ⟨c', rfl, rfl, g.rep, q, fr1, rq.mono g.sS, et, fun c2 z1 z2 z3 g2 _ => ?_⟩
        subst z1
        exact ⟨W, tk, c2, rfl, rfl, g2.rep, turn_post (g.then g2) p' fun c3 g3 p3 => ⟨c3, rfl, rfl, (g.then g2).then g3, p3⟩⟩
  · have e : i = ps.length := by omega
    subst e
    rw [List.drop_length] at p
    exact .inl ⟨by rw [← hl]; exact hJs c'.H c' rfl g, p c' rfl g⟩
theorem itt_ok {a : Addr} {xs : List V} {c' : Cf} (hT : ∀ c2, Go X.K false c' [] c2 → SqT X.K c2.H a xs) :
    (∀ H, (∀ c2, c2.H = H → Go X.K false c' [] c2 → (Itt X.K a).stop xs.length H)) ∧ ∀ i H x, xs[i]? = some x → (∀ c2, c2.H = H → Go X.K false c' [] c2 → (Itt X.K a).go i H ∧ ∀ y H', (Itt X.K a).yld i H y H' → y = x ∧ H' = H) := by
  refine ⟨fun H c2 e g => ⟨xs, by rw [← e]; exact hT c2 g, Nat.le_refl _⟩, fun i H x hx c2 e g => ⟨⟨xs, x, by rw [← e]; exact hT c2 g, hx⟩, fun y H' ⟨e2, h⟩ => ⟨?_, e2⟩⟩⟩
  have := h xs (by rw [← e]; exact hT c2 g)
  rw [hx] at this
  exact (Option.some.inj this).symm
theorem itl_ok {a : Addr} {xs : List V} {c' : Cf} (hT : ∀ c2, Go X.K false c' [] c2 → SqL X.K c2.H a xs) :
    (∀ H, (∀ c2, c2.H = H → Go X.K false c' [] c2 → (Itl X.K a).stop xs.length H)) ∧ ∀ i H x, xs[i]? = some x → (∀ c2, c2.H = H → Go X.K false c' [] c2 → (Itl X.K a).go i H ∧ ∀ y H', (Itl X.K a).yld i H y H' → y = x ∧ H' = H) := by
  refine ⟨fun H c2 e g => ⟨xs, by rw [← e]; exact hT c2 g, Nat.le_refl _⟩, fun i H x hx c2 e g => ⟨⟨xs, x, by rw [← e]; exact hT c2 g, hx⟩, fun y H' ⟨e2, h⟩ => ⟨?_, e2⟩⟩⟩
  have := h xs (by rw [← e]; exact hT c2 g)
  rw [hx] at this
  exact (Option.some.inj this).symm
/-- what a walk takes: a list, a tuple, a range -/
def iAny (K : PySem.W.Frag) (tl : TE) : TI := fun σ H R => tl σ H fun x H1 => ∃ a, x = .ref a ∧ (((∃ xs, SqL K H1 a xs) ∧ R (Itl K a) H1) ∨ ((∃ xs, SqT K H1 a xs) ∧ R (Itt K a) H1) ∨ ∃ lo hi, H1 a = some (.rng lo hi) ∧ (-(2 ^ 62) ≤ lo ∧ lo < 2 ^ 62 ∧ -(2 ^ 62) ≤ hi ∧ hi < 2 ^ 62) ∧ R (Itr lo (hi - lo).toNat) H1)
theorem pi_any {tg l : Expr} {tl : TE} (hl : PE X l tl) : PI X tg l (iAny X.K tl) := by
  refine ⟨fun pins s σ H R I h => ?_⟩
  refine thn (hl.run pins s σ H _ I h) fun v s1 ⟨x, H1, I1, r1, q1⟩ => ?_
  obtain ⟨a, e, q⟩ := q1
  subst e
  cases r1
  have kp := I1.kept (t' := s1.toks) (h' := s1.heap.push { cls := .type "list_iterator", data := .fields #[] }) fun b o e => Heap.get?_push_of_some _ e
  rcases q with ⟨⟨xs, hq⟩, q⟩ | ⟨⟨xs, hq⟩, q⟩ | ⟨lo, hi, hr, ⟨b1, b2, b3, b4⟩, q⟩
  · obtain ⟨its, rv, p, hz⟩ := I1.list hq
    refine wpAny_pyIter_list p.isList ?_
    refine ⟨s1.heap.objs.size, [s1.heap.objs.size], _, _, H1, rfl, I1.kept (t' := s1.toks) fun b o e => Heap.get?_push_of_some _ e, turn_list a _, ⟨_, Heap.get?_push_size _ rfl, rfl, rfl⟩, fun b hb => ?_, q⟩
    have e : b = s1.heap.objs.size := by simpa using hb
    subst e
    exact I1.fpOk (Nat.le_refl _) (I1.hok.fresh (Nat.le_refl _))
  · obtain ⟨its, rv, p, hz⟩ := I1.tuple hq
    refine wpAny_pyIter_tuple (show s1.heap.IsTuple a its.toArray from p) ?_
    refine ⟨s1.heap.objs.size, [s1.heap.objs.size], _, _, H1, rfl, I1.kept (t' := s1.toks) fun b o e => Heap.get?_push_of_some _ e, turn_tuple a _, ⟨_, Heap.get?_push_size _ rfl, rfl, rfl⟩, fun b hb => ?_, q⟩
    have e : b = s1.heap.objs.size := by simpa using hb
    subst e
    exact I1.fpOk (Nat.le_refl _) (I1.hok.fresh (Nat.le_refl _))
  · obtain ⟨t, u, w', hg⟩ := (show ObjOk X.prog X.w H1 s1.heap a (.rng lo hi) from I1.hok a _ hr)
    refine wpAny_pyIter_range hg (small_one b1 b2 b3 b4) ?_
    refine ⟨s1.heap.objs.size, [s1.heap.objs.size], _, _, H1, rfl, I1.kept (t' := s1.toks) fun b o e => Heap.get?_push_of_some _ e, turn_range _ lo (hi - lo).toNat, ?_, fun b hb => ?_, q⟩
    · have e1 : lo + ((0 : Nat) : Int) * 1 = lo := by simp
      have e2 : (((hi - lo).toNat : Nat) : Int) - ((0 : Nat) : Int) = Builtin.Range.rangeSize lo hi 1 := by rw [rangeSize_one]; split <;> omega
      show IsRangeIter _ _ (lo + ((0 : Nat) : Int) * 1) ((((hi - lo).toNat : Nat) : Int) - ((0 : Nat) : Int)) 1
      rw [e1, e2]
      exact Heap.get?_push_size _ rfl
    · have e : b = s1.heap.objs.size := by simpa using hb
      subst e
      exact I1.fpOk (Nat.le_refl _) (I1.hok.fresh (Nat.le_refl _))
def rgPs (lo : Int) (n : Nat) : List PV := (List.range n).map fun (k : Nat) => .int (lo + (k : Int))
def rgVs (lo : Int) (n : Nat) : List V := (List.range n).map fun (k : Nat) => .int (lo + (k : Int))
theorem rgPs_rel {S : Hp} (lo : Int) (n : Nat) : VRL K S (rgPs lo n) (rgVs lo n) := VRL.map (fun k : Nat => PV.int (lo + (k : Int))) (fun k : Nat => V.int (lo + (k : Int))) (fun _ => rfl) _
def small62 (i : Int) : Bool := decide (i.natAbs < 4611686018427387904)
theorem small62_iff {i : Int} : small62 i = true → -(2 ^ 62) ≤ i ∧ i < 2 ^ 62 := by unfold small62; rw [decide_eq_true_eq]; omega
/-- the items of what is walked -/
def seqM2 : MV → Option (List PV)
  | .pv (.tup ps) => some ps
  | .pv (.lst ps) => some ps
  | .pv (.rng lo hi) => if small62 lo = true ∧ small62 hi = true then some (rgPs lo (hi - lo).toNat) else none
  | .pl ps => some ps
  | _ => none
theorem itr_ok {lo : Int} {n : Nat} {c' : Cf} : (∀ H, (∀ c2, c2.H = H → Go X.K false c' [] c2 → (Itr lo n).stop (rgVs lo n).length H)) ∧
    ∀ i H x, (rgVs lo n)[i]? = some x → (∀ c2, c2.H = H → Go X.K false c' [] c2 → (Itr lo n).go i H ∧ ∀ y H', (Itr lo n).yld i H y H' → y = x ∧ H' = H) := by
  refine ⟨fun H c2 e g => by unfold rgVs; rw [List.length_map, List.length_range]; exact Nat.le_refl _, fun i H x hx c2 e g => ?_⟩
  unfold rgVs at hx
  rw [List.getElem?_map] at hx
  have hi : i < n := by
    by_cases h : i < n
    · exact h
    · rw [List.getElem?_eq_none (by rw [List.length_range]; omega)] at hx; cases hx
  rw [List.getElem?_range hi] at hx
  cases hx
  exact ⟨hi, fun y H' ⟨e1, e2⟩ => ⟨e2, e1⟩⟩
/-- the walk over what an expression gave: from c' on -/
theorem walk_any {us : List Nat} {t : PV → Fr → Option Fr} {b : Fr → SO} {W : WX} {tg : Expr} {body : List Stmt} {D : Ends} {c' : Cf} {c0 : Cf} {Y : List Addr} {a : MV} {v : V} {ps : List PV} (tk : Takes X W) (g : Go X.K false c0 Y c') (o : Own X.K c'.S c'.H a v Y) (hs : seqM2 a = some ps)
    (p : postS X.K ca c' D W (forL t b ps c'.fr)) :
    ∃ ad, v = .ref ad ∧ (((∃ xs, SqL X.K c'.H ad xs) ∧ (∃ Wn : Nat → Nat → L2.St → Hp → Prop, (∃ n, Wn 0 n c'.σ c'.H) ∧ ∀ i n σ H, Wn i n σ H →
      ((Itl X.K ad).stop i H ∧ D.nx σ H) ∨ ((Itl X.K ad).go i H ∧ ∃ N : L2.St → Hp → Prop, (∀ σ' H', N σ' H' → ∃ n', n' < n ∧ Wn (i + 1) n' σ' H') ∧ ∀ x H', (Itl X.K ad).yld i H x H' → tG X us t x σ H' fun σ2 H2 => tSt X ca b { D with nx := N, ct := N, bk := D.nx } σ2 H2))) ∨
     ((∃ xs, SqT X.K c'.H ad xs) ∧ (∃ Wn : Nat → Nat → L2.St → Hp → Prop, (∃ n, Wn 0 n c'.σ c'.H) ∧ ∀ i n σ H, Wn i n σ H →
      ((Itt X.K ad).stop i H ∧ D.nx σ H) ∨ ((Itt X.K ad).go i H ∧ ∃ N : L2.St → Hp → Prop, (∀ σ' H', N σ' H' → ∃ n', n' < n ∧ Wn (i + 1) n' σ' H') ∧ ∀ x H', (Itt X.K ad).yld i H x H' → tG X us t x σ H' fun σ2 H2 => tSt X ca b { D with nx := N, ct := N, bk := D.nx } σ2 H2))) ∨
     ∃ lo hi, c'.H ad = some (.rng lo hi) ∧ (-(2 ^ 62) ≤ lo ∧ lo < 2 ^ 62 ∧ -(2 ^ 62) ≤ hi ∧ hi < 2 ^ 62) ∧ (∃ Wn : Nat → Nat → L2.St → Hp → Prop, (∃ n, Wn 0 n c'.σ c'.H) ∧ ∀ i n σ H, Wn i n σ H →
      ((Itr lo (hi - lo).toNat).stop i H ∧ D.nx σ H) ∨ ((Itr lo (hi - lo).toNat).go i H ∧ ∃ N : L2.St → Hp → Prop, (∀ σ' H', N σ' H' → ∃ n', n' < n ∧ Wn (i + 1) n' σ' H') ∧ ∀ x H', (Itr lo (hi - lo).toNat).yld i H x H' → tG X us t x σ H' fun σ2 H2 => tSt X ca b { D with nx := N, ct := N, bk := D.nx } σ2 H2))) := by
  unfold seqM2 at hs
  split at hs
  · cases hs
    obtain ⟨e0, ad, xs, ev, ha, hx⟩ := o
    have hT : ∀ c2, Go X.K false c' [] c2 → SqT X.K c2.H ad xs := fun c2 g2 => same_sqt g2.rep.sub (SqT.of (g2.sS _ _ ha))
    obtain ⟨k1, k2⟩ := itt_ok hT
    exact ⟨ad, ev, .inr (.inl ⟨⟨xs, hT c' (Go.refl g.rep)⟩, for_core (Y := []) (tg := tg) (body := body) tk k1 k2 g.rep hx p⟩)⟩
  · cases hs
    obtain ⟨e0, ad, xs, ev, ha, hx⟩ := o
    have hT : ∀ c2, Go X.K false c' [] c2 → SqL X.K c2.H ad xs := fun c2 g2 => same_sql (g2.sS.trans g2.rep.sub) ha
    obtain ⟨k1, k2⟩ := itl_ok hT
    exact ⟨ad, ev, .inl ⟨⟨xs, hT c' (Go.refl g.rep)⟩, for_core (Y := []) (tg := tg) (body := body) tk k1 k2 g.rep hx p⟩⟩
  · rename_i lo hi
    by_cases hz : small62 lo = true ∧ small62 hi = true
    · rw [if_pos hz] at hs
      cases hs
      obtain ⟨e0, ad, ev, ha⟩ := o
      obtain ⟨k1, k2⟩ := itr_ok (X := X) (lo := lo) (n := (hi - lo).toNat) (c' := c')
      exact ⟨ad, ev, .inr (.inr ⟨lo, hi, g.rep.sub _ _ ha, ⟨(small62_iff hz.1).1, (small62_iff hz.1).2, (small62_iff hz.2).1, (small62_iff hz.2).2⟩, for_core (Y := []) (tg := tg) (body := body) tk k1 k2 g.rep (rgPs_rel _ _) p⟩)⟩
    · rw [if_neg hz] at hs; cases hs
  · cases hs
    obtain ⟨ad, xs, ev, ef, ha, hn, hx⟩ := o
    have hT : ∀ c2, Go X.K false c' [] c2 → SqL X.K c2.H ad xs := fun c2 g2 => by
      have hd : ∀ b ∈ Y, b ∉ c'.F := fun b hb q => (List.nodup_append.mp g.nd).2.2 b hb b q rfl
      obtain ⟨o1, _, _⟩ := g2.other (Y := Y) hd g.xc
      exact SqL.of ((o1 ad (by rw [ef]; exact List.mem_singleton.mpr rfl)).trans ha)
    obtain ⟨k1, k2⟩ := itl_ok hT
    exact ⟨ad, ev, .inl ⟨⟨xs, hT c' (Go.refl g.rep)⟩, for_core (Y := []) (tg := tg) (body := body) tk k1 k2 g.rep hx p⟩⟩
  · cases hs
def sForE (ev : Fr → O MV) (t : PV → Fr → Option Fr) (b : Fr → SO) (fr : Fr) : SO := match ev fr with
  | .ok a fr1 => (match seqM2 a with | some ps => forL t b ps fr1 | none => .bad)
  | .exc x f => .exc x f
  | .bad => .bad
theorem ss_for {tg iter : Expr} {us : List Nat} {body : List Stmt} {ev : Fr → O MV} {t : PV → Fr → Option Fr} {b : Fr → SO} {pos : Pos} (hp : PassesOwn (model X.prog X.w) X.A X.env X.xe) (hc : X.calm = true) (hi : SE X ca false iter ev) (hg : SG X tg us t) (hb : SSs X ca body b)
    (hs : ∀ x, foldedSetIterable iter X.env x = pure x := by intro _; rfl) : SS X ca (.For tg iter body [] pos) (sForE ev t b) := by
  refine SS.of (ps_for hp hc (pi_any hi.pe) hg.pg hb.ps hs) fun W c D tk r p => ?_
  refine useE (k := fun a fr1 => match seqM2 a with | some ps => forL t b ps fr1 | none => .bad) tk (Go.refl r) p fun c' a v fp e g o p => ?_
  rw [← e]
  cases q : seqM2 a with
  | none => rw [q] at p; exact p.elim
  | some ps =>
    rw [q] at p
    exact walk_any (tg := tg) (body := body) tk g o q (p.after g.dropAll)
/-- while -/
def whileF (t : Fr → O Bool) (b : Fr → SO) : Nat → Fr → SO
  | 0, _ => .bad
  | n + 1, fr => match t fr with
    | .ok k fr1 => if k = true then (match b fr1 with
        | .nx fr2 => whileF t b n fr2
        | .ct fr2 => whileF t b n fr2
        | .bk fr2 => .nx fr2
        | .rt r f => .rt r f
        | .exc x f => .exc x f
        | .bad => .bad) else .nx fr1
    | .exc x f => .exc x f
    | .bad => .bad
theorem ss_while {t : Expr} {body : List Stmt} {et : Fr → O Bool} {b : Fr → SO} {pos : Pos} (fuel : Nat) (hp : PassesOwn (model X.prog X.w) X.A X.env X.xe) (ht : ST X ca false t et) (hb : SSs X ca body b) : SS X ca (.While t body [] pos) (whileF et b fuel) := by
  refine SS.of (ps_while hp ht.pt hb.ps) fun W c D tk r p => ?_
  refine ⟨fun n σ H => ∃ c', c'.σ = σ ∧ c'.H = H ∧ Go X.K false c [] c' ∧ postS X.K ca c D W (whileF et b n c'.fr), ⟨fuel, c, rfl, rfl, Go.refl r, p⟩, ?_⟩
  rintro n σ H ⟨c', rfl, rfl, g, p⟩
  cases n with
  | zero => exact p.elim
  | succ n =>
    refine useTS (k := fun k fr1 => if k = true then (match b fr1 with | .nx fr2 => whileF et b n fr2 | .ct fr2 => whileF et b n fr2 | .bk fr2 => .nx fr2 | .rt r f => .rt r f | .exc x f => .exc x f | .bad => .bad) else .nx fr1) tk g p fun c2 k e2 g2 p => ?_
    cases k with
    | false =>
      rw [if_neg Bool.false_ne_true] at p ⊢
      rw [← e2]
      exact p c2 rfl (g.then g2)
    | true =>
      rw [if_pos rfl] at p ⊢
      refine ⟨fun σ' H' => ∃ c3, c3.σ = σ' ∧ c3.H = H' ∧ Go X.K false c [] c3 ∧ postS X.K ca c D W (whileF et b n c3.fr), fun σ' H' ⟨c3, e3, e4, g3, p3⟩ => ⟨n, Nat.lt_succ_self _, c3, e3, e4, g3, p3⟩, ?_⟩
      rw [← e2]
      refine ⟨W, tk, c2, rfl, rfl, g2.rep, ?_⟩
      cases q : b c2.fr with
      | nx fr => rw [q] at p; intro c3 e g'; subst e; exact ⟨c3, rfl, rfl, (g.then g2).then g', p⟩
      | ct fr => rw [q] at p; intro c3 e g'; subst e; exact ⟨c3, rfl, rfl, (g.then g2).then g', p⟩
      | bk fr => rw [q] at p; exact fun c3 e g' => p c3 e ((g.then g2).then g')
      | rt r fr => rw [q] at p; exact fun c3 v fp e g' ow => p c3 v fp e ((g.then g2).then g') ow
      | exc x fr => rw [q] at p; exact fun c3 d e g' xd => p c3 d e ((g.then g2).then g') xd
      | bad => rw [q] at p; exact p
end Sm

namespace Sm
open PySem L2 PyProof.Rows
variable {K : PySem.W.Frag} {X : Cx} {ca : Nat → Addr} {m : Bool}

/-! ### a comprehension's own slots -/
def wipeF (fr : Fr) : List Nat → Fr
  | [] => fr
  | v :: vs => (wipeF fr vs).set v .no
def plainS : Option Sl → Bool
  | some .no => true
  | some (.ow (.pv _)) => true
  | _ => false
def plainOwn (fr : Fr) (vs : List Nat) : Bool := vs.all fun i => plainS fr[i]?
theorem wipeF_get (fr : Fr) (j : Nat) : ∀ vs : List Nat, (wipeF fr vs)[j]? = fr[j]? ∨ (wipeF fr vs)[j]? = some .no
  | [] => .inl rfl
  | v :: vs => by
    unfold wipeF
    by_cases h : v = j
    · subst h
      by_cases hl : v < (wipeF fr vs).length
      · exact .inr (by rw [List.getElem?_set_self hl])
      · rw [List.getElem?_eq_none (by rw [List.length_set]; omega)]
        have e : (wipeF fr vs)[v]? = none := List.getElem?_eq_none (by omega)
        rcases wipeF_get fr v vs with z | z
        · exact .inl (by rw [← z, e])
        · rw [e] at z; cases z
    · rw [List.getElem?_set_ne h]; exact wipeF_get fr j vs
theorem wipeF_out (fr : Fr) {j : Nat} : ∀ {vs : List Nat}, j ∉ vs → (wipeF fr vs)[j]? = fr[j]?
  | [], _ => rfl
  | v :: vs, h => by
    unfold wipeF
    rw [List.getElem?_set_ne (fun e => h (by rw [e]; exact List.mem_cons_self))]
    exact wipeF_out fr fun q => h (List.mem_cons_of_mem _ q)
theorem wipeF_rel {S H : Hp} {fr : Fr} {σ : L2.St} {F : List Addr} (r : FrR K S H fr σ F) (hc : ∀ b ∈ F, S b = none) : ∀ {vs : List Nat}, plainOwn fr vs = true → FrR K S H (wipeF fr vs) (wipe σ vs) F
  | [], _ => r
  | v :: vs, h => by
    have h' : plainS fr[v]? = true ∧ plainOwn fr vs = true := by
      unfold plainOwn at h ⊢
      rw [List.all_cons, Bool.and_eq_true] at h
      exact h
    have ih := wipeF_rel r hc h'.2
    unfold wipeF wipe
    have hs : ∃ s, (wipeF fr vs)[v]? = some s ∧ (s = .no ∨ ∃ p, s = .ow (.pv p)) := by
      rcases wipeF_get fr v vs with z | z
      · rw [z]
        have q := h'.1
        unfold plainS at q
        split at q
        · exact ⟨_, by assumption, .inl rfl⟩
        · exact ⟨_, by assumption, .inr ⟨_, rfl⟩⟩
        · cases q
      · exact ⟨_, z, .inl rfl⟩
    obtain ⟨s, e, hp⟩ := hs
    obtain ⟨o, f0, f1, f2, e1, e2, q, ex⟩ := ih.at e
    have ef : f1 = [] := by
      rcases hp with rfl | ⟨p, rfl⟩
      · exact q
      · obtain ⟨v, _, h, _⟩ := q; exact h
    subst ef
    rw [e2] at hc ⊢
    exact ex S H .no none [] (Same.refl _) (fun b hb => ⟨rfl, hc b (List.mem_append_left _ hb)⟩) (fun b hb => ⟨rfl, hc b (List.mem_append_right _ hb)⟩) rfl
def restF (fr0 : Fr) : List Nat → Fr → Fr
  | [], fr => fr
  | v :: vs, fr => (restF fr0 vs fr).set v (fr0.getD v .no)
def restσ (σ0 : L2.St) : List Nat → L2.St → L2.St
  | [], σ => σ
  | v :: vs, σ => (restσ σ0 vs σ).set v (σ0.getD v none)
theorem restσ_len (σ0 : L2.St) (σ : L2.St) : ∀ vs, (restσ σ0 vs σ).length = σ.length
  | [] => rfl
  | v :: vs => by unfold restσ; rw [List.length_set, restσ_len σ0 σ vs]
theorem restF_len (σ0 : Fr) (σ : Fr) : ∀ vs, (restF σ0 vs σ).length = σ.length
  | [] => rfl
  | v :: vs => by unfold restF; rw [List.length_set, restF_len σ0 σ vs]
theorem restσ_wipe (σ : L2.St) (vs : List Nat) : restσ σ vs (wipe σ vs) = σ := by
  have key : ∀ (us : List Nat) (τ : L2.St), τ.length = σ.length → (∀ j, j ∉ us → τ[j]? = σ[j]?) → restσ σ us τ = σ := by
    intro us
    induction us with
    | nil => exact fun τ _ h => List.ext_getElem? fun j => h j (by simp)
    | cons v us ih =>
      intro τ hl h
      unfold restσ
      refine List.ext_getElem? fun j => ?_
      by_cases e : v = j
      · subst e
        by_cases hv : v < σ.length
        · rw [List.getElem?_set_self (by rw [restσ_len]; omega), List.getD_eq_getElem?_getD, List.getElem?_eq_getElem hv]; rfl
        · rw [List.getElem?_eq_none (by rw [List.length_set, restσ_len]; omega), List.getElem?_eq_none (by omega)]
      · rw [List.getElem?_set_ne e]
        have : ∀ (top_args : List Nat), (restσ σ top_args τ)[j]? = τ[j]? ∨ (restσ σ top_args τ)[j]? = σ[j]? := by
          intro top_args
          induction top_args with
          | nil => exact .inl rfl
          | cons w top_args ih2 =>
            unfold restσ
            by_cases e2 : w = j
            · subst e2
              by_cases hv : w < σ.length
              · exact .inr (by rw [List.getElem?_set_self (by rw [restσ_len]; omega), List.getD_eq_getElem?_getD, List.getElem?_eq_getElem hv]; rfl)
              · exact .inr (by rw [List.getElem?_eq_none (by rw [List.length_set, restσ_len]; omega), List.getElem?_eq_none (by omega)])
            · rw [List.getElem?_set_ne e2]; exact ih2
        by_cases hj : j ∈ us
        · -- set within
          have : ∀ (top_args : List Nat), j ∈ top_args → (restσ σ top_args τ)[j]? = σ[j]? := by
            intro top_args
            induction top_args with
            | nil => exact fun h => nomatch h
            | cons w top_args ih2 =>
              intro hw
              unfold restσ
              by_cases e2 : w = j
              · subst e2
                by_cases hv : w < σ.length
                · rw [List.getElem?_set_self (by rw [restσ_len]; omega), List.getD_eq_getElem?_getD, List.getElem?_eq_getElem hv]; rfl
                · rw [List.getElem?_eq_none (by rw [List.length_set, restσ_len]; omega), List.getElem?_eq_none (by omega)]
              · rw [List.getElem?_set_ne e2]
                exact ih2 ((List.mem_cons.mp hw).resolve_left (fun z => e2 z.symm))
          exact this us hj
        · rcases this us with z | z
          · rw [z]; exact h j (fun q => (List.mem_cons.mp q).elim (fun z => e z.symm) hj)
          · exact z
  refine key vs _ (wipe_length σ vs) fun j hj => ?_
  have out : ∀ top_args : List Nat, j ∉ top_args → (wipe σ top_args)[j]? = σ[j]? := by
    intro top_args
    induction top_args with
    | nil => exact fun _ => rfl
    | cons w top_args ih =>
      intro h
      unfold wipe
      rw [List.getElem?_set_ne (fun e => h (by rw [e]; exact List.mem_cons_self))]
      exact ih fun q => h (List.mem_cons_of_mem _ q)
  exact out vs hj
theorem restF_out (fr0 fr : Fr) {j : Nat} : ∀ {vs : List Nat}, j ∉ vs → (restF fr0 vs fr)[j]? = fr[j]?
  | [], _ => rfl
  | v :: vs, h => by
    unfold restF
    rw [List.getElem?_set_ne (fun e => h (by rw [e]; exact List.mem_cons_self))]
    exact restF_out fr0 fr fun q => h (List.mem_cons_of_mem _ q)
/-- plain slots are put back -/
theorem restF_rel {S H S0 H0 : Hp} {fr0 : Fr} {σ0 : L2.St} {F0 : List Addr} (r0 : FrR K S0 H0 fr0 σ0 F0) (hS : Same S0 S) {fr : Fr} {σ : L2.St} {F : List Addr} (r : FrR K S H fr σ F) (hc : ∀ b ∈ F, S b = none) :
    ∀ {vs : List Nat}, plainOwn fr0 vs = true → (∀ i ∈ vs, fr[i]? = some .no) → FrR K S H (restF fr0 vs fr) (restσ σ0 vs σ) F
  | [], _, _ => r
  | v :: vs, h, hn => by
    have h' : plainS fr0[v]? = true ∧ plainOwn fr0 vs = true := by
      unfold plainOwn at h ⊢
      rw [List.all_cons, Bool.and_eq_true] at h
      exact h
    have ih := restF_rel r0 hS r hc h'.2 fun i hi => hn i (List.mem_cons_of_mem _ hi)
    unfold restF restσ
    -- the slot as it stands is plain or nothing
    have hs : ∃ s, (restF fr0 vs fr)[v]? = some s ∧ (s = .no ∨ ∃ p, s = .ow (.pv p)) := by
      have : ∀ top_args : List Nat, (restF fr0 top_args fr)[v]? = some .no ∨ (restF fr0 top_args fr)[v]? = some (fr0.getD v .no) := by
        intro top_args
        induction top_args with
        | nil => exact .inl (hn v List.mem_cons_self)
        | cons w top_args ih2 =>
          unfold restF
          by_cases e : w = v
          · subst e
            have hl : w < (restF fr0 top_args fr).length := by
              rw [restF_len]
              exact (List.getElem?_eq_some_iff.mp (hn w List.mem_cons_self)).1
            exact .inr (by rw [List.getElem?_set_self hl])
          · rw [List.getElem?_set_ne e]; exact ih2
      rcases this vs with z | z
      · exact ⟨_, z, .inl rfl⟩
      · refine ⟨_, z, ?_⟩
        have q := h'.1
        rw [List.getD_eq_getElem?_getD]
        unfold plainS at q
        split at q
        · rename_i e; rw [e]; exact .inl rfl
        · rename_i e; rw [e]; exact .inr ⟨_, rfl⟩
        · cases q
    obtain ⟨s, e, hp⟩ := hs
    obtain ⟨o, f0, f1, f2, e1, e2, q, ex⟩ := ih.at e
    have ef : f1 = [] := by
      rcases hp with rfl | ⟨p, rfl⟩
      · exact q
      · obtain ⟨v, _, h, _⟩ := q; exact h
    subst ef
    rw [e2] at hc ⊢
    refine ex S H _ _ [] (Same.refl _) (fun b hb => ⟨rfl, hc b (List.mem_append_left _ hb)⟩) (fun b hb => ⟨rfl, hc b (List.mem_append_right _ hb)⟩) ?_
    have q := h'.1
    rw [List.getD_eq_getElem?_getD, List.getD_eq_getElem?_getD]
    unfold plainS at q
    split at q
    · rename_i e; rw [e]; rfl
    · rename_i p e
      obtain ⟨o, g0, g1, g2, z1, z2, ⟨w, zw, ⟨_, zr⟩⟩, _⟩ := r0.at e
      rw [e, z1]
      exact ⟨w, zw, rfl, zr.mono hS⟩
    · cases q

/-! ### comprehensions -/
structure STs (X : Cx) (ca : Nat → Addr) (ifs : List Expr) (ev : Fr → O Bool) : Prop where
  pts : PTs X ifs (tTe X ca false ev)
theorem sts_nil : STs X ca [] (fun fr => .ok true fr) := by
  refine ⟨⟨fun pins s σ H Q I ⟨W, tk, c, e1, e2, r, p⟩ => ?_⟩⟩
  subst e1 e2
  exact pts_nil.run pins s c.σ c.H Q I (p c rfl rfl (Go.refl r))
theorem sts_one {c : Expr} {ev : Fr → O Bool} (h : ST X ca false c ev) : STs X ca [c] ev := ⟨pts_one h.pt⟩
/-- item by item: the elements made -/
def lcF (vs : List Nat) (t : PV → Fr → Option Fr) (tst : Fr → O Bool) (el : Fr → O MV) : List PV → Fr → O (List MV)
  | [], fr => .ok [] fr
  | p :: ps, fr => match t p fr with
    | none => .bad
    | some fr1 => match tst fr1 with
      | .ok k fr2 => if k = true then (match el fr2 with
          | .ok q fr3 => if plainOwn fr3 vs = true then (match lcF vs t tst el ps (wipeF fr3 vs) with
              | .ok qs fr4 => .ok (q :: qs) fr4
              | _ => .bad) else .bad
          | _ => .bad) else (if plainOwn fr2 vs = true then lcF vs t tst el ps (wipeF fr2 vs) else .bad)
      | _ => .bad
def allP : List MV → Option (List PV)
  | [] => some []
  | .pv p :: ms => (allP ms).map (p :: ·)
  | _ => none
@[simp] theorem allP_map : ∀ ps : List PV, allP (ps.map MV.pv) = some ps
  | [] => rfl
  | p :: ps => by show (allP (ps.map MV.pv)).map (p :: ·) = _; rw [allP_map ps]; rfl
theorem allP_eq : ∀ {ms : List MV} {ps : List PV}, allP ms = some ps → ms = ps.map MV.pv
  | [], ps, h => by cases h; rfl
  | .pv p :: ms, ps, h => by
    have h' : (allP ms).map (p :: ·) = some ps := h
    cases q : allP ms with
    | none => rw [q] at h'; cases h'
    | some qs => rw [q] at h'; cases h'; rw [allP_eq q]; rfl
  | .pl _ :: ms, ps, h => by cases h
  | .ls _ :: ms, ps, h => by cases h
  | .pd _ _ :: ms, ps, h => by cases h
  | .pt _ _ :: ms, ps, h => by cases h
  | .dt _ _ :: ms, ps, h => by cases h
  | .ins _ _ _ :: ms, ps, h => by cases h
theorem OwnL.plain {S H : Hp} : ∀ {ps : List PV} {vs : List V} {fp : List Addr}, OwnL K S H (ps.map MV.pv) vs fp → fp = [] ∧ VRL K S ps vs
  | [], _, _, ⟨e, f⟩ => ⟨f, e⟩
  | p :: ps, _, _, ⟨v, r, f1, f2, e, ef, ⟨q1, q2⟩, t⟩ => by
    obtain ⟨h1, h2⟩ := OwnL.plain t
    exact ⟨by rw [ef, q1, h1]; rfl, v, r, e, q2, h2⟩
theorem OwnL.app {S H : Hp} : ∀ {ms ns : List MV} {vs us : List V} {f g : List Addr}, OwnL K S H ms vs f → OwnL K S H ns us g → OwnL K S H (ms ++ ns) (vs ++ us) (f ++ g)
  | [], _, _, _, _, _, ⟨e, f⟩, h => by rw [e, f]; exact h
  | m :: ms, _, _, _, _, _, ⟨v, r, f1, f2, e, ef, q, t⟩, h => by
    rw [e, ef]
    exact ⟨v, _, f1, _, rfl, by rw [List.append_assoc], q, OwnL.app t h⟩
theorem OwnL.len {S H : Hp} : ∀ {ms : List MV} {vs : List V} {f : List Addr}, OwnL K S H ms vs f → vs.length = ms.length
  | [], _, _, ⟨e, _⟩ => by rw [e]; rfl
  | m :: ms, _, _, ⟨v, r, f1, f2, e, ef, q, t⟩ => by rw [e, List.length_cons, List.length_cons, OwnL.len t]
/-- the held list grows, its items with it -/
theorem Go.grown {c c' : Cf} {D : Addr} {Y Z : List Addr} {ms : List MV} {q : MV} {acc : List V} {y : V} (g : Go K false c ((D :: Y) ++ Z) c') (hD : c.H D = none) (oy : Own K c'.S c'.H q y Z) (om : OwnL K c'.S c'.H ms acc Y) :
    Go K false c (D :: (Y ++ Z)) ⟨c'.S, upd c'.H D (.lst (acc ++ [y])), c'.σ, c'.fr, c'.F⟩ ∧ OwnL K c'.S (upd c'.H D (.lst (acc ++ [y]))) (ms ++ [q]) (acc ++ [y]) (Y ++ Z) := by
  have nd := g.nd
  rw [List.cons_append, List.cons_append] at nd
  have nd1 := List.nodup_cons.mp nd
  have nF : ∀ b ∈ c'.F, b ≠ D := fun b hb e => nd1.1 (by subst e; exact List.mem_append_right _ hb)
  have nX : ∀ b ∈ Y ++ Z, b ≠ D := fun b hb e => nd1.1 (by subst e; exact List.mem_append_left _ hb)
  have xD := g.xc D List.mem_cons_self
  refine ⟨Go.of (fun b o e => ?_) (g.rep.rel.keep (Same.refl _) (fun b hb => by rw [upd_ne (nF b hb)]) fun b hb => (g.rep.cells hb).2) nd (fun b hb => ?_) g.sS (fun b hF o e => ?_) g.new g.newS g.pr (fun h => nomatch h), ?_⟩
  · rw [upd_ne (fun z => by subst z; rw [xD.2] at e; cases e)]; exact g.rep.sub _ _ e
  · by_cases z : b = D
    · subst z; exact ⟨by rw [upd_same]; simp, xD.2⟩
    · rw [upd_ne z]; exact g.xc b hb
  · rw [upd_ne (ne_of_none e hD)]; exact g.keep b hF o e
  · have kp : ∀ b ∈ Y ++ Z, upd c'.H D (.lst (acc ++ [y])) b = c'.H b := fun b hb => upd_ne (nX b hb)
    have cS : ∀ b ∈ Y ++ Z, c'.S b = none := fun b hb => (g.xc b (List.mem_cons_of_mem _ hb)).2
    refine (om.keep (Same.refl _) (fun b hb => kp b (List.mem_append_left _ hb)) fun b hb => cS b (List.mem_append_left _ hb)).app ?_
    exact ⟨y, [], Z, [], rfl, by rw [List.append_nil], oy.keep (Same.refl _) (fun b hb => kp b (List.mem_append_right _ hb)) fun b hb => cS b (List.mem_append_right _ hb), rfl, rfl⟩
/-- the own slots are wiped -/
theorem Go.wiped {c c' : Cf} {Y : List Addr} {vs : List Nat} (g : Go K false c Y c') (h : plainOwn c'.fr vs = true) (hn : ∀ i ∈ vs, ∀ q, c.fr[i]? ≠ some (.pr q)) : Go K false c Y ⟨c'.S, c'.H, wipe c'.σ vs, wipeF c'.fr vs, c'.F⟩ := by
  refine Go.of g.rep.sub (wipeF_rel g.rep.rel (fun b hb => (g.rep.cells hb).2) h) g.nd g.xc g.sS g.keep g.new g.newS (fun j q e => ?_) (fun h => nomatch h)
  have nj : j ∉ vs := fun hj => hn j hj q e
  obtain ⟨a1, m', a2⟩ := g.pr j q e
  refine ⟨?_, m', by rw [wipeF_out _ nj]; exact a2⟩
  rw [wipe_out nj]; exact a1
theorem plainOwn_wipe (fr : Fr) (vs : List Nat) (h : plainOwn fr vs = true) : ∀ i ∈ vs, (wipeF fr vs)[i]? = some .no := by
  have key : ∀ (us : List Nat), (∀ i ∈ us, i < fr.length) → ∀ i ∈ us, (wipeF fr us)[i]? = some .no := by
    intro us
    induction us with
    | nil => exact fun _ _ h => nomatch h
    | cons v us ih =>
      intro hl i hi
      have len : ∀ top_args : List Nat, (wipeF fr top_args).length = fr.length := by
        intro top_args
        induction top_args with
        | nil => rfl
        | cons w top_args ih2 => unfold wipeF; rw [List.length_set, ih2]
      unfold wipeF
      by_cases e : v = i
      · subst e
        rw [List.getElem?_set_self (by rw [len]; exact hl v hi)]
      · rw [List.getElem?_set_ne e]
        exact ih (fun j hj => hl j (List.mem_cons_of_mem _ hj)) i ((List.mem_cons.mp hi).resolve_left fun z => e z.symm)
  refine key vs fun i hi => ?_
  have q := List.all_eq_true.mp h i hi
  by_cases hl : i < fr.length
  · exact hl
  · rw [List.getElem?_eq_none (by omega)] at q; cases q
theorem wipe_sig {us vs : List Nat} {a b : L2.St} (h : SigEq us a b) (hs : ∀ i ∈ us, i ∈ vs) : wipe b vs = wipe a vs := by
  refine List.ext_getElem? fun j => ?_
  have inn : ∀ (σ : L2.St) (top_args : List Nat), j ∈ top_args → (wipe σ top_args)[j]? = if j < σ.length then some none else none := by
    intro σ top_args
    induction top_args with
    | nil => exact fun h => nomatch h
    | cons w top_args ih =>
      intro hw
      unfold wipe
      by_cases e : w = j
      · subst e
        by_cases hl : w < σ.length
        · rw [List.getElem?_set_self (by rw [wipe_length]; exact hl), if_pos hl]
        · rw [List.getElem?_eq_none (by rw [List.length_set, wipe_length]; omega), if_neg hl]
      · rw [List.getElem?_set_ne e]
        exact ih ((List.mem_cons.mp hw).resolve_left fun z => e z.symm)
  by_cases hj : j ∈ vs
  · rw [inn b vs hj, inn a vs hj, h.1]
  · rw [wipe_out hj, wipe_out hj]
    exact h.2 j fun z => hj (hs j z)
/-- readings that let no exception out -/
def tEn (K : PySem.W.Frag) (ca : Nat → Addr) (ev : Fr → O MV) : TE := fun σ H Q => ∃ c : Cf, c.σ = σ ∧ c.H = H ∧ Rep K c ∧ postE Own K ca false c Q (fun _ _ _ _ => False) (ev c.fr)
def tTn (K : PySem.W.Frag) (ca : Nat → Addr) (ev : Fr → O Bool) : TT := fun σ H Q => ∃ c : Cf, c.σ = σ ∧ c.H = H ∧ Rep K c ∧ postT K ca false c Q (fun _ _ _ _ => False) (ev c.fr)
theorem SE.n {e : Expr} {ev : Fr → O MV} (h : SE X ca false e ev) : PE X e (tEn X.K ca ev) := by
  refine ⟨fun pins s σ H Q I ⟨c, e1, e2, r, p⟩ => ?_⟩
  exact h.pe.run pins s σ H Q I ⟨_, takes_none5, c, e1, e2, r, p⟩
theorem STs.n {e : List Expr} {ev : Fr → O Bool} (h : STs X ca e ev) : PTs X e (tTn X.K ca ev) := by
  refine ⟨fun pins s σ H Q I ⟨c, e1, e2, r, p⟩ => ?_⟩
  exact h.pts.run pins s σ H Q I ⟨_, takes_none5, c, e1, e2, r, p⟩
theorem OwnL.hold {m n : Bool} {c c1 c2 : Cf} {Y Z : List Addr} {ms : List MV} {vs : List V} (g : Go K m c Y c1) (h : Go K n c1 Z c2) (o : OwnL K c1.S c1.H ms vs Y) : OwnL K c2.S c2.H ms vs Y := by
  obtain ⟨o1, o2, _⟩ := h.other (Y := Y) (fun b hb => fun q => (List.nodup_append.mp g.nd).2.2 b hb b q rfl) g.xc
  exact o.keep h.sS o1 o2
theorem lc_run {J : It} {us : List Nat} {xs : List V} {ps : List PV} {t : PV → Fr → Option Fr} {tst : Fr → O Bool} {el : Fr → O MV} {vs : List Nat} {c : Cf} {D : Addr} {Q : Hp → Prop} {ms : List MV} {fr4 : Fr}
    (hJs : ∀ H, (∀ c', c'.H = H → (∃ Y, Go X.K false c (D :: Y) c') → J.stop xs.length H)) (hJg : ∀ i H x, xs[i]? = some x → (∀ c', c'.H = H → (∃ Y, Go X.K false c (D :: Y) c') → J.go i H ∧ ∀ y H', J.yld i H y H' → y = x ∧ H' = H))
    (rp : Rep X.K c) (hv : VRL X.K c.S ps xs) (hD : c.H D = none) (hrun : lcF vs t tst el ps c.fr = .ok ms fr4) (hz : ms.length ≤ sizeLine) (hus : ∀ i ∈ us, i ∈ vs) (hn : ∀ i ∈ vs, ∀ q, c.fr[i]? ≠ some (.pr q)) (hwp : wipe c.σ vs = c.σ)
    (fin : ∀ c' acc fp, c'.fr = fr4 → c'.σ = c.σ → Go X.K false c (D :: fp) c' → c'.H D = some (.lst acc) → OwnL X.K c'.S c'.H ms acc fp → Q c'.H) :
    ∃ Wn : Nat → Nat → Hp → Prop, (∃ n, Wn 0 n (upd c.H D (.lst []))) ∧ ∀ i n H, Wn i n H →
      (J.stop i H ∧ Q H) ∨ (J.go i H ∧ ∃ Nx : Hp → Prop, (∀ H', Nx H' → ∃ n', n' < n ∧ Wn (i + 1) n' H') ∧ ∀ x H', J.yld i H x H' → tG X us t x c.σ H' fun σ2 H2 => wipe σ2 vs = c.σ ∧ tTn X.K ca tst σ2 H2 fun b H3 =>
        if b = true then tEn X.K ca el σ2 H3 fun y H4 => ∃ acc, H4 D = some (.lst acc) ∧ acc.length < sizeLine ∧ Nx (upd H4 D (.lst (acc ++ [y]))) else Nx H3) := by
  refine ⟨fun i n H => ∃ c' acc fp ms0 ms1, c'.σ = c.σ ∧ c'.H = H ∧ Go X.K false c (D :: fp) c' ∧ c'.H D = some (.lst acc) ∧ OwnL X.K c'.S c'.H ms0 acc fp ∧ n = ps.length - i ∧ i ≤ ps.length ∧ lcF vs t tst el (ps.drop i) c'.fr = .ok ms1 fr4 ∧ ms0 ++ ms1 = ms,
    ⟨ps.length, ⟨c.S, upd c.H D (.lst []), c.σ, c.fr, c.F⟩, [], [], [], ms, rfl, rfl, rp.laidH hD _ false, upd_same, ⟨rfl, rfl⟩, by simp, Nat.zero_le _, by simpa using hrun, rfl⟩, ?_⟩
  rintro i n H ⟨c', acc, fp, ms0, ms1, hσ, rfl, g, hacc, om, rfl, hi, run, hms⟩
  have hl := hv.len
  by_cases hlt : i < ps.length
  · have hx : xs[i]? = some (xs[i]'(by omega)) := List.getElem?_eq_getElem (by omega)
    obtain ⟨j1, j2⟩ := hJg i c'.H _ hx c' rfl ⟨fp, g⟩
    obtain ⟨q, hq, rq⟩ := hv.getV hx
    have hd : ps.drop i = q :: ps.drop (i + 1) := by
      have h1 := (List.getElem?_eq_some_iff.mp hq)
      rw [List.drop_eq_getElem_cons hlt]
      rw [h1.2]
    rw [hd] at run
    unfold lcF at run
    refine .inr ⟨j1, fun H' => ∃ c2 acc2 fp2 ms2 ms3, c2.σ = c.σ ∧ c2.H = H' ∧ Go X.K false c (D :: fp2) c2 ∧ c2.H D = some (.lst acc2) ∧ OwnL X.K c2.S c2.H ms2 acc2 fp2 ∧ lcF vs t tst el (ps.drop (i + 1)) c2.fr = .ok ms3 fr4 ∧ ms2 ++ ms3 = ms, ?_, ?_⟩
    · rintro H' ⟨c2, acc2, fp2, ms2, ms3, e1, e2, g2, h2, o2, r2, e3⟩
      exact ⟨ps.length - (i + 1), by omega, c2, acc2, fp2, ms2, ms3, e1, e2, g2, h2, o2, rfl, hlt, r2, e3⟩
    · intro x H' y
      obtain ⟨rfl, rfl⟩ := j2 x H' y
      cases et : t q c'.fr with
      | none => rw [et] at run; cases run
      | some fr1 =>
        rw [et] at run
        dsimp only at run
        refine ⟨c', hσ, rfl, g.rep, q, fr1, rq.mono g.sS, et, fun c2 z1 z2 z3 g2 sg => ?_⟩
        subst z1
        have hwc : wipe c2.σ vs = c.σ := by rw [wipe_sig sg hus, hσ, hwp]
        refine ⟨hwc, c2, rfl, rfl, g2.rep, ?_⟩
        cases e3 : tst c2.fr with
        | exc x fr => rw [e3] at run; cases run
        | bad => rw [e3] at run; cases run
        | ok k fr2 =>
          rw [e3] at run
          dsimp only at run
          intro c3 z4 z5 g3
          subst z4
          have g123 : Go X.K false c (D :: fp) c3 := by
            have := (g.trans g2).trans g3
            rw [List.append_nil, List.append_nil] at this
            exact this
          have gg : Go X.K false c' [] c3 := g2.then g3
          have hD3 : c3.H D = some (.lst acc) := by
            have := (gg.other (Y := D :: fp) (fun b hb => fun q => (List.nodup_append.mp g.nd).2.2 b hb b q rfl) g.xc).1 D List.mem_cons_self
            rw [this]; exact hacc
          have om3 : OwnL X.K c3.S c3.H ms0 acc fp := by
            have o := gg.other (Y := D :: fp) (fun b hb => fun q => (List.nodup_append.mp g.nd).2.2 b hb b q rfl) g.xc
            exact om.keep gg.sS (fun b hb => o.1 b (List.mem_cons_of_mem _ hb)) fun b hb => o.2.1 b (List.mem_cons_of_mem _ hb)
          cases k with
          | false =>
            rw [if_neg Bool.false_ne_true] at run ⊢
            by_cases hp : plainOwn c3.fr vs = true
            · rw [if_pos hp] at run
              exact ⟨⟨c3.S, c3.H, wipe c3.σ vs, wipeF c3.fr vs, c3.F⟩, acc, fp, ms0, ms1, by rw [z5]; exact hwc, rfl, g123.wiped hp hn, hD3, om3, run, hms⟩
            · rw [if_neg hp] at run; cases run
          | true =>
            rw [if_pos rfl] at run ⊢
            refine ⟨c3, z5, rfl, g3.rep, ?_⟩
            cases e4 : el c3.fr with
            | exc x fr => rw [e4] at run; cases run
            | bad => rw [e4] at run; cases run
            | ok q2 fr3 =>
              rw [e4] at run
              dsimp only at run
              intro c4 v fy z6 z7 g4 o4
              subst z6
              have run' : (if plainOwn c4.fr vs = true then (match lcF vs t tst el (ps.drop (i + 1)) (wipeF c4.fr vs) with | .ok qs fr4 => .ok (q2 :: qs) fr4 | _ => .bad) else .bad) = O.ok ms1 fr4 := run
              by_cases hp : plainOwn c4.fr vs = true
              · rw [if_pos hp] at run'
                cases e5 : lcF vs t tst el (ps.drop (i + 1)) (wipeF c4.fr vs) with
                | exc x fr => rw [e5] at run'; cases run'
                | bad => rw [e5] at run'; cases run'
                | ok qs fr5 =>
                  rw [e5] at run'
                  injection run' with r1 r2
                  subst r1 r2
                  have o := g4.other (Y := D :: fp) (fun b hb => fun q => (List.nodup_append.mp g123.nd).2.2 b hb b q rfl) g123.xc
                  have hD4 : c4.H D = some (.lst acc) := by rw [o.1 D List.mem_cons_self]; exact hD3
                  have om4 : OwnL X.K c4.S c4.H ms0 acc fp := om3.keep g4.sS (fun b hb => o.1 b (List.mem_cons_of_mem _ hb)) fun b hb => o.2.1 b (List.mem_cons_of_mem _ hb)
                  have g1234 := g123.trans g4
                  obtain ⟨g5, o5⟩ := g1234.grown hD o4 om4
                  refine ⟨acc, hD4, ?_, ⟨c4.S, upd c4.H D (.lst (acc ++ [v])), wipe c4.σ vs, wipeF c4.fr vs, c4.F⟩, acc ++ [v], fp ++ fy, ms0 ++ [q2], qs, by rw [z7, z5]; exact hwc, rfl, g5.wiped hp hn, upd_same, o5, e5, by rw [← hms]; simp⟩
                  have h1 := om4.len
                  have h2 : ms.length = ms0.length + (qs.length + 1) := by rw [← hms]; simp
                  omega
              · rw [if_neg hp] at run'; cases run'
  · have e : i = ps.length := by omega
    subst e
    rw [List.drop_length] at run
    unfold lcF at run
    injection run with r1 r2
    subst r1
    rw [List.append_nil] at hms
    subst hms
    exact .inl ⟨by rw [← hl]; exact hJs c'.H c' rfl ⟨fp, g⟩, fin c' acc fp r2 hσ g hacc om⟩
/-- the list that has come -/
def mkL (pl : Bool) (ms : List MV) : Option MV := if pl = true then (allP ms).map MV.pl else some (.ls ms)
theorem mkL_own {S H : Hp} {pl : Bool} {ms : List MV} {r : MV} {D : Addr} {acc : List V} {fp : List Addr} (h : mkL pl ms = some r) (hD : H D = some (.lst acc)) (hS : S D = none) (o : OwnL K S H ms acc fp) : Own K S H r (.ref D) (D :: fp) := by
  unfold mkL at h
  cases pl with
  | true =>
    rw [if_pos rfl] at h
    cases e : allP ms with
    | none => rw [e] at h; cases h
    | some ps =>
      rw [e] at h
      cases h
      rw [allP_eq e] at o
      obtain ⟨e1, e2⟩ := o.plain
      subst e1
      exact ⟨D, acc, rfl, rfl, hD, hS, e2⟩
  | false =>
    rw [if_neg Bool.false_ne_true] at h
    cases h
    exact ⟨D, acc, fp, rfl, rfl, hD, hS, o⟩
def eLc (pl : Bool) (vs : List Nat) (it : Fr → O MV) (t : PV → Fr → Option Fr) (tst : Fr → O Bool) (el : Fr → O MV) (fr : Fr) : O MV := (it fr).bind fun a fr1 => match seqM2 a with
  | none => .bad
  | some ps => if plainOwn fr1 vs = true then (match lcF vs t tst el ps (wipeF fr1 vs) with
      | .ok ms fr2 => if ms.length ≤ sizeLine then (match mkL pl ms with | some r => .ok r (restF fr1 vs fr2) | none => .bad) else .bad
      | _ => .bad) else .bad
def lcW (X : Cx) (ca : Nat → Addr) (us : List Nat) (t : PV → Fr → Option Fr) (tst : Fr → O Bool) (el : Fr → O MV) (vs : List Nat) (σ : L2.St) (Q : VK) (J : It) (H1 : Hp) : Prop := ∀ D, H1 D = none → ∃ Wn : Nat → Nat → Hp → Prop, (∃ n, Wn 0 n (upd H1 D (.lst []))) ∧ ∀ i n H, Wn i n H →
      (J.stop i H ∧ Q (.ref D) H) ∨ (J.go i H ∧ ∃ Nx : Hp → Prop, (∀ H', Nx H' → ∃ n', n' < n ∧ Wn (i + 1) n' H') ∧ ∀ x H', J.yld i H x H' → tG X us t x (wipe σ vs) H' fun σ2 H2 => wipe σ2 vs = wipe σ vs ∧ tTn X.K ca tst σ2 H2 fun b H3 =>
        if b = true then tEn X.K ca el σ2 H3 fun y H4 => ∃ acc, H4 D = some (.lst acc) ∧ acc.length < sizeLine ∧ Nx (upd H4 D (.lst (acc ++ [y]))) else Nx H3)
/-- the reading of a comprehension, from what its walk gave -/
theorem lc_read {pl : Bool} {us vs : List Nat} {t : PV → Fr → Option Fr} {tst : Fr → O Bool} {el : Fr → O MV} {c0 c1 : Cf} {Y : List Addr} {a : MV} {v : V} {W : WX} {Q : VK} (g : Go X.K false c0 Y c1) (hσ : c1.σ = c0.σ) (o : Own X.K c1.S c1.H a v Y) (hus : ∀ i ∈ us, i ∈ vs)
    (p : postE Own X.K ca false c0 Q W (match seqM2 a with
      | none => .bad
      | some ps => if plainOwn c1.fr vs = true then (match lcF vs t tst el ps (wipeF c1.fr vs) with
          | .ok ms fr2 => if ms.length ≤ sizeLine then (match mkL pl ms with | some r => .ok r (restF c1.fr vs fr2) | none => .bad) else .bad
          | _ => .bad) else .bad)) :
    ∃ ad, v = .ref ad ∧ (((∃ xs, SqL X.K c1.H ad xs) ∧ lcW X ca us t tst el vs c1.σ Q (Itl X.K ad) c1.H) ∨ ((∃ xs, SqT X.K c1.H ad xs) ∧ lcW X ca us t tst el vs c1.σ Q (Itt X.K ad) c1.H) ∨ ∃ lo hi, c1.H ad = some (.rng lo hi) ∧ (-(2 ^ 62) ≤ lo ∧ lo < 2 ^ 62 ∧ -(2 ^ 62) ≤ hi ∧ hi < 2 ^ 62) ∧ lcW X ca us t tst el vs c1.σ Q (Itr lo (hi - lo).toNat) c1.H) := by
  cases hs : seqM2 a with
  | none => rw [hs] at p; exact p.elim
  | some ps =>
    rw [hs] at p
    have p' : postE Own X.K ca false c0 Q W (if plainOwn c1.fr vs = true then (match lcF vs t tst el ps (wipeF c1.fr vs) with
          | .ok ms fr2 => if ms.length ≤ sizeLine then (match mkL pl ms with | some r => .ok r (restF c1.fr vs fr2) | none => .bad) else .bad
          | _ => .bad) else .bad) := p
    by_cases hw : plainOwn c1.fr vs = true
    · rw [if_pos hw] at p'
      cases hr : lcF vs t tst el ps (wipeF c1.fr vs) with
      | exc x fr => rw [hr] at p'; exact p'.elim
      | bad => rw [hr] at p'; exact p'.elim
      | ok ms fr2 =>
        rw [hr] at p'
        have p2 : postE Own X.K ca false c0 Q W (if ms.length ≤ sizeLine then (match mkL pl ms with | some r => .ok r (restF c1.fr vs fr2) | none => .bad) else .bad) := p'
        by_cases hz : ms.length ≤ sizeLine
        · rw [if_pos hz] at p2
          cases hm : mkL pl ms with
          | none => rw [hm] at p2; exact p2.elim
          | some r =>
            rw [hm] at p2
            have p3 : postE Own X.K ca false c0 Q W (.ok r (restF c1.fr vs fr2)) := p2
            -- the block's start
            have hc1 : ∀ b ∈ c1.F, c1.S b = none := fun b hb => (g.rep.cells hb).2
            have rw1 : Rep X.K ⟨c1.S, c1.H, wipe c1.σ vs, wipeF c1.fr vs, c1.F⟩ := ⟨g.rep.sub, wipeF_rel g.rep.rel hc1 hw, g.rep.nd⟩
            have hno := plainOwn_wipe c1.fr vs hw
            have hnp : ∀ i ∈ vs, ∀ q, (wipeF c1.fr vs)[i]? ≠ some (.pr q) := fun i hi q e => by rw [hno i hi] at e; cases e
            have hww : wipe (wipe c1.σ vs) vs = wipe c1.σ vs := wipe_sig (us := vs) ⟨wipe_length _ _, fun j hj => wipe_out hj⟩ fun _ h => h
            have dis : ∀ b ∈ Y, b ∉ c1.F := fun b hb q => (List.nodup_append.mp g.nd).2.2 b hb b q rfl
            have fin : ∀ D, c1.H D = none → ∀ c' acc fp, c'.fr = fr2 → c'.σ = wipe c1.σ vs → Go X.K false ⟨c1.S, c1.H, wipe c1.σ vs, wipeF c1.fr vs, c1.F⟩ (D :: fp) c' → c'.H D = some (.lst acc) → OwnL X.K c'.S c'.H ms acc fp → Q (.ref D) c'.H := fun D hD c' acc fp e1 e2 g2 h2 o2 => by
              subst e1
              have hno2 : ∀ i ∈ vs, c'.fr[i]? = some .no := by
                have key : ∀ (l : List PV) (fr : Fr), (∀ i ∈ vs, fr[i]? = some .no) → ∀ ms fr', lcF vs t tst el l fr = .ok ms fr' → ∀ i ∈ vs, fr'[i]? = some .no := by
                  intro l
                  induction l with
                  | nil => intro fr h ms fr' e; unfold lcF at e; injection e with _ e; subst e; exact h
                  | cons q l ih =>
                    intro fr h ms fr' e
                    unfold lcF at e
                    split at e
                    · cases e
                    · split at e
                      · split at e
                        · split at e
                          · split at e
                            · rename_i hp
                              split at e
                              · rename_i e2
                                injection e with _ e
                                subst e
                                exact ih _ (plainOwn_wipe _ _ hp) _ _ e2
                              · cases e
                            · cases e
                          · cases e
                        · split at e
                          · rename_i hp
                            exact ih _ (plainOwn_wipe _ _ hp) _ _ e
                          · cases e
                      · cases e
                exact key ps _ hno _ _ hr
              have rel := restF_rel g.rep.rel g2.sS g2.rep.rel (fun b hb => (g2.rep.cells hb).2) hw hno2
              rw [e2, restσ_wipe] at rel
              have g3 : Go X.K false c1 (D :: fp) ⟨c'.S, c'.H, c1.σ, restF c1.fr vs c'.fr, c'.F⟩ := by
                refine Go.of g2.rep.sub rel g2.nd g2.xc g2.sS g2.keep g2.new g2.newS (fun j q e => ⟨rfl, ?_⟩) fun h => nomatch h
                have nj : j ∉ vs := fun hj => by
                  have := List.all_eq_true.mp hw j hj
                  rw [e] at this; cases this
                obtain ⟨_, m', a2⟩ := g2.pr j q (by show (wipeF c1.fr vs)[j]? = _; rw [wipeF_out _ nj]; exact e)
                exact ⟨m', by rw [restF_out _ _ nj]; exact a2⟩
              exact p3 ⟨c'.S, c'.H, c1.σ, restF c1.fr vs c'.fr, c'.F⟩ (.ref D) (D :: fp) rfl hσ (Go.drop (X := Y) (g.trans g3)) (mkL_own hm h2 (g2.xc D List.mem_cons_self).2 o2)
            have stay : ∀ D c2, (∃ Z, Go X.K false ⟨c1.S, c1.H, wipe c1.σ vs, wipeF c1.fr vs, c1.F⟩ (D :: Z) c2) → Same c1.S c2.S ∧ Same c2.S c2.H ∧ ∀ b ∈ Y, c2.H b = c1.H b := fun D c2 ⟨Z, g2⟩ =>
              ⟨g2.sS, g2.rep.sub, (g2.other (Y := Y) dis g.xc).1⟩
            unfold seqM2 at hs
            split at hs
            · cases hs
              obtain ⟨e0, ad, xs, ev, ha, hx⟩ := o
              refine ⟨ad, ev, .inr (.inl ⟨⟨xs, SqT.of (g.rep.sub _ _ ha)⟩, fun D hD => ?_⟩)⟩
              refine lc_run (X := X) (c := ⟨c1.S, c1.H, wipe c1.σ vs, wipeF c1.fr vs, c1.F⟩) (xs := xs) (ps := _) (fun H c2 e g2 => ⟨xs, (e ▸ SqT.of ((stay D c2 g2).2.1 _ _ ((stay D c2 g2).1 _ _ ha))), Nat.le_refl _⟩) (fun i H x hx c2 e g2 => ?_) rw1 hx hD hr hz hus hnp hww (fin D hD)
              have hT : SqT X.K H ad xs := (e ▸ SqT.of ((stay D c2 g2).2.1 _ _ ((stay D c2 g2).1 _ _ ha)))
              refine ⟨⟨xs, x, hT, hx⟩, fun y H' ⟨e2, h⟩ => ⟨?_, e2⟩⟩
              have := h xs hT
              rw [hx] at this
              exact (Option.some.inj this).symm
            · cases hs
              obtain ⟨e0, ad, xs, ev, ha, hx⟩ := o
              refine ⟨ad, ev, .inl ⟨⟨xs, same_sql g.rep.sub ha⟩, fun D hD => ?_⟩⟩
              have hT : ∀ H c2, c2.H = H → (∃ Z, Go X.K false ⟨c1.S, c1.H, wipe c1.σ vs, wipeF c1.fr vs, c1.F⟩ (D :: Z) c2) → SqL X.K H ad xs := fun H c2 e g2 => e ▸ same_sql ((stay D c2 g2).1.trans (stay D c2 g2).2.1) ha
              refine lc_run (X := X) (c := ⟨c1.S, c1.H, wipe c1.σ vs, wipeF c1.fr vs, c1.F⟩) (xs := xs) (ps := _) (fun H c2 e g2 => ⟨xs, hT H c2 e g2, Nat.le_refl _⟩) (fun i H x hx c2 e g2 => ?_) rw1 hx hD hr hz hus hnp hww (fin D hD)
              refine ⟨⟨xs, x, hT H c2 e g2, hx⟩, fun y H' ⟨e2, h⟩ => ⟨?_, e2⟩⟩
              have := h xs (hT H c2 e g2)
              rw [hx] at this
              exact (Option.some.inj this).symm
            · rename_i lo hi
              by_cases hz2 : small62 lo = true ∧ small62 hi = true
              · rw [if_pos hz2] at hs
                cases hs
                obtain ⟨e0, ad, ev, ha⟩ := o
                refine ⟨ad, ev, .inr (.inr ⟨lo, hi, g.rep.sub _ _ ha, ⟨(small62_iff hz2.1).1, (small62_iff hz2.1).2, (small62_iff hz2.2).1, (small62_iff hz2.2).2⟩, fun D hD => ?_⟩)⟩
                refine lc_run (X := X) (c := ⟨c1.S, c1.H, wipe c1.σ vs, wipeF c1.fr vs, c1.F⟩) (xs := rgVs lo (hi - lo).toNat) (ps := _) (fun H c2 e g2 => by unfold rgVs; rw [List.length_map, List.length_range]; exact Nat.le_refl _) (fun i H x hx c2 e g2 => ?_) rw1 (rgPs_rel _ _) hD hr hz hus hnp hww (fin D hD)
                unfold rgVs at hx
                rw [List.getElem?_map] at hx
                have hi : i < (hi - lo).toNat := by
                  by_cases h : i < (hi - lo).toNat
                  · exact h
                  · rw [List.getElem?_eq_none (by rw [List.length_range]; omega)] at hx; cases hx
                rw [List.getElem?_range hi] at hx
                cases hx
                exact ⟨hi, fun y H' ⟨e1, e2⟩ => ⟨e2, e1⟩⟩
              · rw [if_neg hz2] at hs; cases hs
            · cases hs
              obtain ⟨ad, xs, ev, ef, ha, hn, hx⟩ := o
              refine ⟨ad, ev, .inl ⟨⟨xs, SqL.of ha⟩, fun D hD => ?_⟩⟩
              have hT : ∀ H c2, c2.H = H → (∃ Z, Go X.K false ⟨c1.S, c1.H, wipe c1.σ vs, wipeF c1.fr vs, c1.F⟩ (D :: Z) c2) → SqL X.K H ad xs := fun H c2 e g2 => by
                subst e
                exact SqL.of (((stay D c2 g2).2.2 ad (by rw [ef]; exact List.mem_singleton.mpr rfl)).trans ha)
              refine lc_run (X := X) (c := ⟨c1.S, c1.H, wipe c1.σ vs, wipeF c1.fr vs, c1.F⟩) (xs := xs) (ps := _) (fun H c2 e g2 => ⟨xs, hT H c2 e g2, Nat.le_refl _⟩) (fun i H x hx c2 e g2 => ?_) rw1 hx hD hr hz hus hnp hww (fin D hD)
              refine ⟨⟨xs, x, hT H c2 e g2, hx⟩, fun y H' ⟨e2, h⟩ => ⟨?_, e2⟩⟩
              have := h xs (hT H c2 e g2)
              rw [hx] at this
              exact (Option.some.inj this).symm
            · cases hs
        · rw [if_neg hz] at p2; exact p2.elim
    · rw [if_neg hw] at p'; exact p'.elim
theorem se_lc {pl : Bool} {elt tg iter : Expr} {ifs : List Expr} {scope : Scope} {own : List (Str × Nat)} {pos : Pos} {us : List Nat} {it : Fr → O MV} {t : PV → Fr → Option Fr} {tst : Fr → O Bool} {el : Fr → O MV} (hc : X.calm = true) (hN : X.N.Nodup) (hi : SE X ca false iter it) (ok : BlkOk X.N X.env.scope scope own)
    (hg : ∀ (s : Shared) (H : Hp) (C : Addr) (cl : List (Str × Addr)) (fp : List Addr), SG (X.blk s H scope (compEnvC scope cl C X.env) fp) tg us t) (ht : ∀ (s : Shared) (H : Hp) (C : Addr) (cl : List (Str × Addr)) (fp : List Addr), STs (X.blk s H scope (compEnvC scope cl C X.env) fp) ca ifs tst)
    (he : ∀ (s : Shared) (H : Hp) (C : Addr) (cl : List (Str × Addr)) (fp : List Addr), SE (X.blk s H scope (compEnvC scope cl C X.env) fp) ca false elt el) (hus : ∀ i ∈ us, i ∈ own.map (·.2) := by decide) (hs : ∀ x, foldedSetIterable iter X.env x = pure x := by intro _; rfl) :
    SE X ca false (.ListComp elt [⟨tg, iter, ifs, 0⟩] scope pos) (eLc pl (own.map (·.2)) it t tst el) := by
  refine SE.of (pe_lc (g := tG X us t) (tt := tTn X.K ca tst) (te := tEn X.K ca el) hc hN (pi_any hi.pe) ok (fun s H C cl fp => (hg s H C cl fp).pg) (fun s H C cl fp => (ht s H C cl fp).n) (fun s H C cl fp => (he s H C cl fp).n) hs) fun W c Q tk rp po => ?_
  refine use_bind (Y := []) tk (Go.refl rp) rfl po fun c1 a v fp e1 g1 o1 po => ?_
  obtain ⟨ad, ev, k⟩ := lc_read (X := X) (us := us) (pl := pl) g1 e1 o1 hus po
  rw [← e1]
  exact ⟨ad, ev, k⟩
/-- name = [..] -/
theorem ss_setLc {pl : Bool} {i : Nat} {y : Str} {py : Pos} {elt tg iter : Expr} {ifs : List Expr} {scope : Scope} {own : List (Str × Nat)} {pos spos : Pos} {us : List Nat} {it : Fr → O MV} {t : PV → Fr → Option Fr} {tst : Fr → O Bool} {el : Fr → O MV} (hc : X.calm = true) (hN : X.N.Nodup) (hy : X.N[i]? = some y) (hyl : X.env.scope.names.lookup y = some .local)
    (hsw : swapsWith (.ListComp elt [⟨tg, iter, ifs, 0⟩] scope pos) (some (.Name y py)) spos.line X.env = pure true) (hi : SE X ca false iter it) (ok : BlkOk X.N X.env.scope scope own)
    (hg : ∀ (s : Shared) (H : Hp) (C : Addr) (cl : List (Str × Addr)) (fp : List Addr), SG (X.blk s H scope (compEnvC scope cl C X.env) fp) tg us t) (ht : ∀ (s : Shared) (H : Hp) (C : Addr) (cl : List (Str × Addr)) (fp : List Addr), STs (X.blk s H scope (compEnvC scope cl C X.env) fp) ca ifs tst)
    (he : ∀ (s : Shared) (H : Hp) (C : Addr) (cl : List (Str × Addr)) (fp : List Addr), SE (X.blk s H scope (compEnvC scope cl C X.env) fp) ca false elt el) (hus : ∀ i ∈ us, i ∈ own.map (·.2) := by decide) (hs : ∀ x, foldedSetIterable iter X.env x = pure x := by intro _; rfl) :
    SS X ca (.Assign [.Name y py] (.ListComp elt [⟨tg, iter, ifs, 0⟩] scope pos) spos) (sSet i (eLc pl (own.map (·.2)) it t tst el)) := by
  refine SS.of (ps_setLc (g := tG X us t) (tt := tTn X.K ca tst) (te := tEn X.K ca el) hc hN hy hyl hsw (pi_any hi.pe) ok (fun s H C cl fp => (hg s H C cl fp).pg) (fun s H C cl fp => (ht s H C cl fp).n) (fun s H C cl fp => (he s H C cl fp).n) hs) fun W c D tk rp po => ?_
  -- as an expression whose end is the store
  have key : postE Own X.K ca false c (fun x H1 => gName i x c.σ H1 D.nx) W (eLc pl (own.map (·.2)) it t tst el c.fr) := by
    unfold sSet at po
    cases q : eLc pl (own.map (·.2)) it t tst el c.fr with
    | ok a fr =>
      rw [q] at po
      intro c' v fp e1 e2 g o
      subst e1
      have po' : postS X.K ca c D W (if free? c'.fr i = true then .nx (c'.fr.set i (.ow a)) else .bad) := po
      by_cases h : free? c'.fr i = true
      · rw [if_pos h] at po'
        obtain ⟨F', g'⟩ := g.store o h
        show D.nx (c.σ.set i (some v)) c'.H
        rw [← e2]
        exact po' ⟨c'.S, c'.H, c'.σ.set i (some v), c'.fr.set i (.ow a), F'⟩ rfl g'
      · rw [if_neg h] at po'; exact po'.elim
    | exc x fr => rw [q] at po; exact fun c' d e1 e2 g o => po c' d e1 g o
    | bad => rw [q] at po; exact po.elim
  refine use_bind (Y := []) (Q0 := fun x H1 => gName i x c.σ H1 D.nx) tk (Go.refl rp) rfl key fun c1 a v fp e1 g1 o1 po => ?_
  obtain ⟨ad, ev, k⟩ := lc_read (X := X) (us := us) (pl := pl) g1 e1 o1 hus po
  rw [← e1] at k ⊢
  exact ⟨ad, ev, k⟩
end Sm

namespace Sm
open PySem L2 PyProof.Rows
variable {K : PySem.W.Frag} {X : Cx} {ca : Nat → Addr} {m : Bool}

/-! ### what a def does -/
inductive FO where
  | ret (r : MV) (outs : List MV)
  | exc (x : Ex) (outs : List MV)
  | bad
/-- from the plain part S, the heap H, cells F of one's own: to S', H', F' -/
structure Ext (S H : Hp) (F : List Addr) (S' H' : Hp) (F' : List Addr) : Prop where
  sub : Same S' H'
  sS : Same S S'
  keep : ∀ b, b ∉ F → ∀ o, H b = some o → H' b = some o
  new : ∀ b ∈ F', b ∈ F ∨ H b = none
  newS : ∀ b, S' b ≠ none → S b ≠ none ∨ b ∈ F ∨ H b = none
  nd : F'.Nodup
def spOf (K : PySem.W.Frag) (ca : Nat → Addr) (g : List MV → FO) (n : Nat) : Sp := fun vs H Q E => ∃ S ms F, Same S H ∧ ms.length = n ∧ OwnL K S H ms vs F ∧ F.Nodup ∧ match g ms with
  | .ret r outs => ∀ S' H' v fp F', Ext S H F S' H' (fp ++ F') → Own K S' H' r v fp → OwnL K S' H' outs vs F' → Q v H'
  | .exc x outs => ∀ S' H' d F', Ext S H F S' H' F' → OwnL K S' H' outs vs F' → XdR K S' H' x.fs d → E (.ref (ca x.cls)) (some d) H'
  | .bad => False
/-- THE promise: the def at f does what g tells, by at most k calls within one another -/
structure FnSim (P : Program) (w : World) (K : PySem.W.Frag) (mg : Str → Option Value) (base : Heap) (ca : Nat → Addr) (k : Nat) (f : Addr) (fd : FuncData) (ps : List Str) (g : List MV → FO) : Prop where
  ok : FnOk P w K mg base (L2.CX P w) k f fd ps (spOf K ca g ps.length)
theorem FnSim.mono {P w mg base j k f fd ps g} (F : FnSim P w K mg base ca j f fd ps g) (h : j ≤ k) : FnSim P w K mg base ca k f fd ps g := ⟨F.ok.mono h⟩
/-- a nicer function in its place -/
theorem FnSim.eq {P w mg base k f fd ps g g'} (F : FnSim P w K mg base ca k f fd ps g) (h : ∀ ms, g' ms = .bad ∨ g ms = g' ms) : FnSim P w K mg base ca k f fd ps g' := by
  refine ⟨F.ok.imp fun vs H Q E ⟨S, ms, Fa, h1, h2, h3, h4, h5⟩ => ⟨S, ms, Fa, h1, h2, h3, h4, ?_⟩⟩
  rcases h ms with z | z
  · rw [z] at h5; exact h5.elim
  · rw [z]; exact h5

/-! ### a def's body -/
def argS : MV → Sl
  | .pv p => .ow (.pv p)
  | m => .pr m
def outs : List MV → Fr → Option (List MV)
  | [], _ => some []
  | .pv p :: ms, _ :: fr => (outs ms fr).map (.pv p :: ·)
  | _ :: ms, .pr m' :: fr => (outs ms fr).map (m' :: ·)
  | _, _ => none
def fr0 (n : Nat) (ms : List MV) : Fr := ms.map argS ++ List.replicate (n - ms.length) .no
def endR (ms : List MV) (r : MV) (fr : Fr) : FO := match outs ms fr with | some os => .ret r os | none => .bad
def runB (n : Nat) (s : Fr → SO) (ms : List MV) : FO := match s (fr0 n ms) with
  | .nx fr => endR ms (.pv .non) fr
  | .rt r fr => endR ms r fr
  | .exc x fr => (match outs ms fr with | some os => .exc x os | none => .bad)
  | _ => .bad
theorem argS_rel {S H : Hp} {m : MV} {v : V} {f : List Addr} (o : Own K S H m v f) : SlR K S H (argS m) (some v) f := by
  cases m with
  | pv p => exact ⟨v, rfl, o⟩
  | _ => exact ⟨v, rfl, o⟩
theorem fr0_rel {S H : Hp} (j : Nat) : ∀ {ms : List MV} {vs : List V} {F : List Addr}, OwnL K S H ms vs F → FrR K S H (ms.map argS ++ List.replicate j .no) (vs.map some ++ List.replicate j none) F
  | [], _, _, ⟨e, f⟩ => by
    subst e f
    show FrR K S H (List.replicate j .no) (List.replicate j none) []
    induction j with
    | zero => exact ⟨rfl, rfl⟩
    | succ j ih => exact ⟨none, _, [], [], rfl, rfl, rfl, ih⟩
  | m :: ms, _, _, ⟨v, r, f1, f2, e, ef, q, t⟩ => by
    subst e ef
    exact ⟨some v, _, f1, f2, rfl, rfl, argS_rel q, fr0_rel j t⟩
theorem outs_rel {S H S0 H0 : Hp} (hS : Same S0 S) : ∀ {ms : List MV} {fr : Fr} {σ : L2.St} {F : List Addr} {vs : List V} {F0 : List Addr} {os : List MV}, FrR K S H fr σ F → OwnL K S0 H0 ms vs F0 →
    (∀ (i : Nat) q, (ms.map argS)[i]? = some (.pr q) → σ[i]? = (vs.map some)[i]?) → outs ms fr = some os → ∃ F', F'.Sublist F ∧ OwnL K S H os vs F'
  | [], fr, σ, F, vs, F0, os, _, ⟨e, _⟩, _, h => by
    have h' : some [] = some os := by cases fr <;> exact h
    cases h'
    exact ⟨[], List.nil_sublist _, e, rfl⟩
  | m :: ms, fr, σ, F, vs, F0, os, r, ⟨v, vr, f1, f2, e, ef, q, t⟩, hp, h => by
    subst e
    cases fr with
    | nil => cases m <;> cases h
    | cons s fr =>
      obtain ⟨o, τ, g1, g2, e1, e2, q1, r1⟩ := r
      subst e1 e2
      have hp' : ∀ (i : Nat) q, (ms.map argS)[i]? = some (.pr q) → τ[i]? = (vr.map some)[i]? := fun i q z => by
        have := hp (i + 1) q (by simpa using z)
        simpa using this
      by_cases hm : ∃ p, m = .pv p
      · obtain ⟨p, rfl⟩ := hm
        have h' : (outs ms fr).map (.pv p :: ·) = some os := h
        cases e3 : outs ms fr with
        | none => rw [e3] at h'; cases h'
        | some os' =>
          rw [e3] at h'
          cases h'
          obtain ⟨F', s1, o1⟩ := outs_rel hS r1 t hp' e3
          exact ⟨F', s1.trans (List.sublist_append_right _ _), v, vr, [], F', rfl, rfl, ⟨rfl, q.2.mono hS⟩, o1⟩
      · have hs : ∃ m', s = .pr m' ∧ (outs ms fr).map (m' :: ·) = some os := by
          cases m with
          | pv p => exact (hm ⟨p, rfl⟩).elim
          | _ => cases s <;> first | exact ⟨_, rfl, h⟩ | cases h
        obtain ⟨m', rfl, h'⟩ := hs
        cases e3 : outs ms fr with
        | none => rw [e3] at h'; cases h'
        | some os' =>
          rw [e3] at h'
          cases h'
          obtain ⟨F', s1, o1⟩ := outs_rel hS r1 t hp' e3
          obtain ⟨v', ev, q2⟩ := q1
          have hv : v' = v := by
            have ea : argS m = .pr m := by cases m with
              | pv p => exact (hm ⟨p, rfl⟩).elim
              | _ => rfl
            have := hp 0 m (by simp [ea])
            rw [ev] at this
            simp at this
            exact this
          subst hv
          exact ⟨g1 ++ F', List.Sublist.append (List.Sublist.refl _) s1, v', vr, g1, F', rfl, rfl, q2, o1⟩
theorem FnSim.of {P : Program} {w : World} {mg : Str → Option Value} {base : Heap} {x qual : Str} {st : Stmt} {f : Addr} {fd : FuncData} {N ps : List Str} {k : Nat} {s : Fr → SO} (F : Fun K x qual st f fd) (S : FnScope N ps (defScope st))
    (hb : ∀ (cdv : Value) (A : Around) (outer : List Env) (sh : Shared) (H : Hp) (E : XK), Room k (A.deeper (envOfC qual (defScope st) sh.heap.objs.size f cdv)) →
      SSs (cxOf (L2.CX P w) P w K mg base N qual (defScope st) f cdv A outer sh H E) ca (defBody st) s) : FnSim P w K mg base ca (k + 1) f fd ps (runB N.length s) := by
  refine ⟨F.okX S (fun vs H Q E ⟨S, ms, Fa, h1, h2, h3, h4, h5⟩ => by rw [h3.len, h2]) fun cdv A outer sh H vs Q E hr ⟨S, ms, Fa, h1, h2, h3, h4, h5⟩ => ?_⟩
  refine ⟨_, (hb cdv A outer sh H E hr).ps, fun cls d _ H => E cls d H, takes_of rfl rfl rfl rfl, ⟨S, H, start N vs, fr0 N.length ms, Fa⟩, rfl, rfl, ⟨h1, ?_, h4⟩, ?_⟩
  · have e : N.length - vs.length = N.length - ms.length := by rw [h3.len]
    show FrR K S H (ms.map argS ++ List.replicate (N.length - ms.length) .no) (vs.map some ++ List.replicate (N.length - vs.length) none) Fa
    rw [e]
    exact fr0_rel _ h3
  · -- the end, by cases of the body's run
    have fin : ∀ (c' : Cf) (fp : List Addr) os, Go K false ⟨S, H, start N vs, fr0 N.length ms, Fa⟩ fp c' → outs ms c'.fr = some os → ∃ F', Ext S H Fa c'.S c'.H (fp ++ F') ∧ OwnL K c'.S c'.H os vs F' := fun c' fp os g ho => by
      have hp : ∀ (i : Nat) q, (ms.map argS)[i]? = some (.pr q) → c'.σ[i]? = (vs.map some)[i]? := fun i q e => by
        have hi : i < ms.length := by
          have := (List.getElem?_eq_some_iff.mp e).1
          simpa using this
        obtain ⟨a1, _⟩ := g.pr i q (by show (ms.map argS ++ _)[i]? = _; rw [List.getElem?_append_left (by simpa using hi)]; exact e)
        rw [a1]
        show (vs.map some ++ _)[i]? = _
        rw [List.getElem?_append_left (by rw [List.length_map, h3.len]; exact hi)]
      obtain ⟨F', s1, o1⟩ := outs_rel g.sS g.rep.rel h3 hp ho
      refine ⟨F', ⟨g.rep.sub, g.sS, g.keep, fun b hb => g.new b ?_, g.newS, ?_⟩, o1⟩
      · rcases List.mem_append.mp hb with hb | hb
        · exact List.mem_append_left _ hb
        · exact List.mem_append_right _ (s1.subset hb)
      · exact g.nd.sublist (List.Sublist.append (List.Sublist.refl _) s1)
    unfold runB at h5
    cases q : s (fr0 N.length ms) with
    | nx fr =>
      rw [q] at h5
      intro c' e g
      subst e
      unfold endR at h5
      cases ho : outs ms c'.fr with
      | none => simp only [ho] at h5
      | some os =>
        simp only [ho] at h5
        obtain ⟨F', x1, o1⟩ := fin c' [] os g ho
        exact h5 c'.S c'.H .non [] F' x1 ⟨rfl, rfl⟩ o1
    | rt r fr =>
      rw [q] at h5
      intro c' v fp e g o
      subst e
      unfold endR at h5
      cases ho : outs ms c'.fr with
      | none => simp only [ho] at h5
      | some os =>
        simp only [ho] at h5
        obtain ⟨F', x1, o1⟩ := fin c' fp os g ho
        exact h5 c'.S c'.H v fp F' x1 o o1
    | exc x fr =>
      rw [q] at h5
      intro c' d e g xd
      subst e
      cases ho : outs ms c'.fr with
      | none => have h6 := h5; simp only [ho] at h6
      | some os =>
        have h6 := h5
        simp only [ho] at h6
        obtain ⟨F', x1, o1⟩ := fin c' [] os g ho
        exact h6 c'.S c'.H d F' x1 o1 xd
    | bk fr => rw [q] at h5; exact h5.elim
    | ct fr => rw [q] at h5; exact h5.elim
    | bad => rw [q] at h5; exact h5.elim

/-! ### calls with plain arguments -/
def plainOuts (ps : List PV) : List MV := ps.map MV.pv
theorem OwnL.ofP {S H : Hp} : ∀ {ps : List PV} {vs : List V}, VRL K S ps vs → OwnL K S H (ps.map MV.pv) vs []
  | [], _, e => ⟨e, rfl⟩
  | p :: ps, _, ⟨x, r, e, q, t⟩ => ⟨x, r, [], [], e, rfl, ⟨rfl, q⟩, OwnL.ofP t⟩
def eCallP (n : Nat) (g : List MV → FO) (ea : Fr → O (List PV)) (fr : Fr) : O MV := (ea fr).bind fun ps fr1 => if ps.length = n then (match g (ps.map .pv) with
  | .ret r _ => .ok r fr1
  | .exc x _ => .exc x fr1
  | .bad => .bad) else .bad
theorem Go.ofExt {c : Cf} {S' H' : Hp} {fp F' : List Addr} (r : Rep K c) (x : Ext c.S c.H [] S' H' (fp ++ F')) (hx : ∀ b ∈ fp, H' b ≠ none ∧ S' b = none) : Go K m c fp ⟨S', H', c.σ, c.fr, c.F⟩ := by
  have sH : Same c.H H' := fun b o e => x.keep b (fun h => nomatch h) o e
  have kp : ∀ b ∈ c.F, H' b = c.H b := fun b hb => by
    cases e : c.H b with
    | none => exact absurd e (r.cells hb).1
    | some o => exact sH _ _ e
  have kn : ∀ b ∈ c.F, S' b = none := fun b hb => by
    cases e : S' b with
    | none => rfl
    | some o =>
      rcases x.newS b (by rw [e]; simp) with z | z | z
      · exact absurd (r.cells hb).2 z
      · cases z
      · exact absurd z (r.cells hb).1
  have fresh : ∀ b ∈ fp, c.H b = none := fun b hb => (x.new b (List.mem_append_left _ hb)).resolve_left fun h => nomatch h
  refine Go.of x.sub (r.rel.keep x.sS kp kn) (List.nodup_append.mpr ⟨(List.nodup_append.mp x.nd).1, r.nd, fun a ha b hb e => ?_⟩) hx x.sS (fun b _ => sH b) (fun b hb => ?_) (fun b hb => ?_) (fun i q e => ⟨rfl, q, e⟩) fun _ => ⟨rfl, rfl, sH, rfl⟩
  · subst e; exact (r.cells hb).1 (fresh a ha)
  · rcases List.mem_append.mp hb with hb | hb
    · exact .inr (fresh b hb)
    · exact .inl hb
  · rcases x.newS b hb with z | z | z
    · exact .inl z
    · cases z
    · exact .inr (.inr z)
variable {k : Nat} {f : Addr} {fd : FuncData} {ps : List Str} {g : List MV → FO}
theorem callP_read {c0 c1 : Cf} {W : WX} {Q : VK} {qs : List PV} {vs : List V} (g1 : Go X.K m c0 [] c1) (hσ : c1.σ = c0.σ) (o1 : VRL X.K c1.S qs vs)
    (hl : qs.length = ps.length) (po : postE Own X.K ca m c0 Q W (match g (qs.map .pv) with | .ret r _ => .ok r c1.fr | .exc x _ => .exc x c1.fr | .bad => .bad)) : spOf X.K ca g ps.length vs c1.H Q (WE W c1.σ) := by
  refine ⟨c1.S, qs.map .pv, [], g1.rep.sub, by rw [List.length_map]; exact hl, OwnL.ofP o1, List.nodup_nil, ?_⟩
  cases q : g (qs.map .pv) with
  | ret r os =>
    rw [q] at po
    intro S' H' v fp F' x ow _
    have gx : Go X.K m c1 fp ⟨S', H', c1.σ, c1.fr, c1.F⟩ := Go.ofExt g1.rep x ow.cells
    exact po ⟨S', H', c1.σ, c1.fr, c1.F⟩ v fp rfl hσ (g1.then gx) ow
  | exc x os =>
    rw [q] at po
    intro S' H' d F' x1 _ xd
    have gx : Go X.K false c1 [] ⟨S', H', c1.σ, c1.fr, c1.F⟩ := Go.ofExt (fp := []) (F' := F') g1.rep x1 fun _ h => nomatch h
    exact po ⟨S', H', c1.σ, c1.fr, c1.F⟩ d rfl hσ (g1.weak.then gx) xd
  | bad => rw [q] at po; exact po.elim
/-- f(e, ..), all arguments plain -/
theorem se_callP {x : Str} {p pos : Pos} {e : Expr} {es : List Expr} {ea : Fr → O (List PV)} (F : FnSim X.prog X.w X.K X.mg X.base ca k f fd ps g) (hr : Room k X.A) (hg : Gl X x) (hm : X.mg x = some (.ref f)) (hk : PySem.W.keepIn X.K (.ref f) = true) (hb : Binds X.K fd ps [])
    (ha : SA X ca m (e :: es) ea) (hdb : (x == ("__debug__" : Str)) = false := by decide) (he : starEach (e :: es) X.env = (false, eval e X.env) :: starEach es X.env := by rfl) (hpl : (backTo pos (starEach es X.env)).any (·.1) = false := by rfl) :
    SE X ca m (.Call (.Name x p) (e :: es) [] pos) (eCallP ps.length g ea) := by
  refine ⟨⟨fun pins s σ H Q I ⟨W, tk, c, e1, e2, rp, po⟩ => ?_⟩⟩
  subst e1 e2
  refine (pe_callS (E := fun σ => WE W σ) F.ok hr hg hm hk hb (fun σ => passAt tk σ) ha.pa hdb he hpl).run pins s c.σ c.H Q I ?_
  refine use_args tk (Go.refl rp) rfl po fun c1 qs vs e1 g1 o1 po => ?_
  by_cases hq : qs.length = ps.length
  · rw [if_pos hq] at po
    rw [← e1]; exact callP_read g1 e1 o1 hq po
  · rw [if_neg hq] at po; exact po.elim
end Sm

namespace Sm
open PySem L2 PyProof.Rows
variable {K : PySem.W.Frag} {X : Cx} {ca : Nat → Addr} {m : Bool}

/-! ### arguments that may be the caller's own objects -/
inductive Arg where
  | val (m : MV)
  | bor (i : Nat)
def ArgR (K : PySem.W.Frag) (S H : Hp) (σ : L2.St) : List Arg → List V → List Addr → Prop
  | [], vs, fp => vs = [] ∧ fp = []
  | .val m :: as, vs, fp => ∃ v r f1 f2, vs = v :: r ∧ fp = f1 ++ f2 ∧ Own K S H m v f1 ∧ ArgR K S H σ as r f2
  | .bor i :: as, vs, fp => ∃ v r, vs = v :: r ∧ σ[i]? = some (some v) ∧ ArgR K S H σ as r fp
theorem ArgR.keep {S S' H H' : Hp} {σ : L2.St} (h : Same S S') : ∀ {as : List Arg} {vs : List V} {fp : List Addr}, ArgR K S H σ as vs fp → (∀ b ∈ fp, H' b = H b) → (∀ b ∈ fp, S' b = none) → ArgR K S' H' σ as vs fp
  | [], _, _, q, _, _ => q
  | .val _ :: _, _, _, ⟨v, r, f1, f2, e, ef, q, t⟩, k, z => ⟨v, r, f1, f2, e, ef, q.keep h (fun b hb => k b (by rw [ef]; exact List.mem_append_left _ hb)) (fun b hb => z b (by rw [ef]; exact List.mem_append_left _ hb)),
      ArgR.keep h t (fun b hb => k b (by rw [ef]; exact List.mem_append_right _ hb)) fun b hb => z b (by rw [ef]; exact List.mem_append_right _ hb)⟩
  | .bor _ :: _, _, _, ⟨v, r, e, q, t⟩, k, z => ⟨v, r, e, q, ArgR.keep h t k z⟩
def takeA : List Arg → Fr → Option (List MV × Fr)
  | [], fr => some ([], fr)
  | .val m :: as, fr => match takeA as fr with | some (ms, fr1) => some (m :: ms, fr1) | none => none
  | .bor i :: as, fr => match fr[i]? with
    | some (.ow m) => (match takeA as (fr.set i .no) with | some (ms, fr1) => some (m :: ms, fr1) | none => none)
    | some (.pr m) => (match takeA as (fr.set i .no) with | some (ms, fr1) => some (m :: ms, fr1) | none => none)
    | _ => none
def backS (s : Option Sl) (o : MV) : Sl := match s with | some (.pr _) => .pr o | _ => .ow o
def putA : List Arg → List MV → Fr → Fr → Fr
  | .bor i :: as, o :: os, f0, fr => putA as os f0 (fr.set i (backS f0[i]? o))
  | .val _ :: as, _ :: os, f0, fr => putA as os f0 fr
  | _, _, _, fr => fr
def bors : List Arg → List Nat
  | [] => []
  | .val _ :: as => bors as
  | .bor i :: as => i :: bors as
theorem takeA_no : ∀ {as : List Arg} {fr : Fr} {ms : List MV} {fr1 : Fr}, takeA as fr = some (ms, fr1) → (∀ i, fr[i]? = some .no → fr1[i]? = some .no ∧ i ∉ bors as) ∧ (∀ i ∈ bors as, fr1[i]? = some .no) ∧ (bors as).Nodup ∧ ms.length = as.length ∧ ∀ i, i ∉ bors as → fr1[i]? = fr[i]?
  | [], fr, ms, fr1, h => by
    cases h
    exact ⟨fun i e => ⟨e, fun q => nomatch q⟩, fun _ q => (nomatch q), List.nodup_nil, rfl, fun _ _ => rfl⟩
  | .val m :: as, fr, ms, fr1, h => by
    unfold takeA at h
    cases e : takeA as fr with
    | none => rw [e] at h; cases h
    | some q =>
      obtain ⟨ms', fr'⟩ := q
      rw [e] at h
      cases h
      obtain ⟨h1, h2, h3, h4, h5⟩ := takeA_no e
      exact ⟨h1, h2, h3, by rw [List.length_cons, List.length_cons, h4], h5⟩
  | .bor i :: as, fr, ms, fr1, h => by
    have key : ∀ m : MV, fr[i]? ≠ some .no → i < fr.length → (match takeA as (fr.set i .no) with | some (ms, fr1) => some (m :: ms, fr1) | none => none) = some (ms, fr1) →
        (∀ j, fr[j]? = some .no → fr1[j]? = some .no ∧ j ∉ bors (.bor i :: as)) ∧ (∀ j ∈ bors (.bor i :: as), fr1[j]? = some .no) ∧ (bors (.bor i :: as)).Nodup ∧ ms.length = as.length + 1 ∧ ∀ j, j ∉ bors (.bor i :: as) → fr1[j]? = fr[j]? := fun m hn hl h => by
      cases e : takeA as (fr.set i .no) with
      | none => rw [e] at h; cases h
      | some q =>
        obtain ⟨ms', fr'⟩ := q
        rw [e] at h
        cases h
        obtain ⟨h1, h2, h3, h4, h5⟩ := takeA_no e
        have hi := h1 i (by rw [List.getElem?_set_self hl])
        refine ⟨fun j ej => ?_, fun j hj => ?_, List.nodup_cons.mpr ⟨hi.2, h3⟩, by rw [List.length_cons, h4], fun j hj => ?_⟩
        · have ne : i ≠ j := fun z => by subst z; exact hn ej
          have := h1 j (by rw [List.getElem?_set_ne ne]; exact ej)
          exact ⟨this.1, fun q => (List.mem_cons.mp q).elim (fun z => ne z.symm) this.2⟩
        · rcases List.mem_cons.mp hj with rfl | hj
          · exact hi.1
          · exact h2 j hj
        · have ne : i ≠ j := fun z => by subst z; exact hj List.mem_cons_self
          rw [h5 j fun q => hj (List.mem_cons_of_mem _ q), List.getElem?_set_ne ne]
    unfold takeA at h
    split at h
    · rename_i m hs
      exact key m (by rw [hs]; simp) (List.getElem?_eq_some_iff.mp hs).1 h
    · rename_i m hs
      exact key m (by rw [hs]; simp) (List.getElem?_eq_some_iff.mp hs).1 h
    · cases h
theorem set_same {σ : L2.St} {i : Nat} {o : Option V} (h : σ[i]? = some o) : σ.set i o = σ := by
  have hi : i < σ.length := (List.getElem?_eq_some_iff.mp h).1
  have := (List.getElem?_eq_some_iff.mp h).2
  rw [← this]; exact List.set_getElem_self hi
/-- the arguments are taken out of the frame -/
theorem takeA_rel {S H : Hp} {σ : L2.St} : ∀ {as : List Arg} {fr : Fr} {F : List Addr} {vs : List V} {fp : List Addr} {ms : List MV} {fr1 : Fr}, FrR K S H fr σ F → (∀ b ∈ F, S b = none) → ArgR K S H σ as vs fp → takeA as fr = some (ms, fr1) →
    ∃ Fa Fr', (fp ++ F).Perm (Fa ++ Fr') ∧ OwnL K S H ms vs Fa ∧ FrR K S H fr1 σ Fr'
  | [], fr, F, vs, fp, ms, fr1, r, _, ⟨e, ef⟩, h => by
    cases h
    subst ef
    exact ⟨[], F, List.Perm.refl _, ⟨e, rfl⟩, r⟩
  | .val m :: as, fr, F, vs, fp, ms, fr1, r, hc, ⟨v, vr, f1, f2, e, ef, q, t⟩, h => by
    unfold takeA at h
    cases e2 : takeA as fr with
    | none => rw [e2] at h; cases h
    | some q2 =>
      obtain ⟨ms', fr'⟩ := q2
      rw [e2] at h
      cases h
      obtain ⟨Fa, Fr', p, o, r'⟩ := takeA_rel r hc t e2
      refine ⟨f1 ++ Fa, Fr', ?_, ⟨v, vr, f1, Fa, e, rfl, q, o⟩, r'⟩
      rw [ef, List.append_assoc, List.append_assoc]
      exact p.append_left f1
  | .bor i :: as, fr, F, vs, fp, ms, fr1, r, hc, ⟨v, vr, e, q, t⟩, h => by
    have key : ∀ (s : Sl) (m : MV), fr[i]? = some s → (∀ f, SlR K S H s (some v) f → Own K S H m v f) → (match takeA as (fr.set i .no) with | some (ms, fr1) => some (m :: ms, fr1) | none => none) = some (ms, fr1) →
        ∃ Fa Fr', (fp ++ F).Perm (Fa ++ Fr') ∧ OwnL K S H ms vs Fa ∧ FrR K S H fr1 σ Fr' := fun s m hs ho h => by
      cases e2 : takeA as (fr.set i .no) with
      | none => rw [e2] at h; cases h
      | some q2 =>
        obtain ⟨ms', fr'⟩ := q2
        rw [e2] at h
        cases h
        obtain ⟨o0, f0, f1, f2, e1, e3, qs, ex⟩ := r.at hs
        rw [q] at e1
        cases e1
        rw [e3] at hc
        have r2 := ex S H .no (some v) [] (Same.refl _) (fun b hb => ⟨rfl, hc b (List.mem_append_left _ hb)⟩) (fun b hb => ⟨rfl, hc b (List.mem_append_right _ (List.mem_append_right _ hb))⟩) rfl
        rw [set_same q] at r2
        obtain ⟨Fa, Fr', p, o, r'⟩ := takeA_rel r2 (fun b hb => hc b (by
          rcases List.mem_append.mp hb with hb | hb
          · exact List.mem_append_left _ hb
          · exact List.mem_append_right _ (List.mem_append_right _ hb))) t e2
        refine ⟨f1 ++ Fa, Fr', ?_, ⟨v, vr, f1, Fa, e, rfl, ho _ qs, o⟩, r'⟩
        rw [e3, List.append_assoc]
        have p1 : (fp ++ (f0 ++ (f1 ++ f2))).Perm (f1 ++ (fp ++ (f0 ++ ([] ++ f2)))) := by
          rw [List.nil_append]
          have a1 : (f0 ++ (f1 ++ f2)).Perm (f1 ++ (f0 ++ f2)) := by
            rw [← List.append_assoc, ← List.append_assoc]
            exact List.Perm.append_right f2 List.perm_append_comm
          refine (a1.append_left fp).trans ?_
          rw [← List.append_assoc fp, ← List.append_assoc f1]
          exact List.Perm.append_right _ List.perm_append_comm
        exact p1.trans (p.append_left f1)
    unfold takeA at h
    split at h
    · rename_i m hs
      exact key _ m hs (fun f ⟨v', e, o⟩ => by cases e; exact o) h
    · rename_i m hs
      exact key _ m hs (fun f ⟨v', e, o⟩ => by cases e; exact o) h
    · cases h
/-- .. and put back, as they are now -/
theorem putA_rel {S H : Hp} {σ : L2.St} {f0 : Fr} {S0 H0 : Hp} : ∀ {as : List Arg} {os : List MV} {fr : Fr} {F : List Addr} {vs : List V} {fp Fa : List Addr}, FrR K S H fr σ F → (∀ b ∈ F, S b = none) → (∀ b ∈ Fa, S b = none) → ArgR K S0 H0 σ as vs fp → (∀ i ∈ bors as, fr[i]? = some .no) → (bors as).Nodup →
    OwnL K S H os vs Fa → ∃ Fd Ff, FrR K S H (putA as os f0 fr) σ Ff ∧ (Fd ++ Ff).Perm (Fa ++ F)
  | [], os, fr, F, vs, fp, Fa, r, _, _, ⟨e, _⟩, _, _, o => by
    subst e
    exact ⟨Fa, F, by cases os <;> exact r, List.Perm.refl _⟩
  | .val m :: as, [], fr, F, vs, fp, Fa, r, _, _, ⟨v, vr, _, _, e, _⟩, _, _, ⟨z, _⟩ => by rw [e] at z; cases z
  | .val m :: as, x :: os, fr, F, vs, fp, Fa, r, hc, ha, ⟨v, vr, f1, f2, e, ef, q, t⟩, hn, nd, ⟨v2, vr2, g1, g2, e2, eg, q2, t2⟩ => by
    rw [e] at e2
    cases e2
    obtain ⟨Fd, Ff, r', p⟩ := putA_rel (f0 := f0) r hc (fun b hb => ha b (by rw [eg]; exact List.mem_append_right _ hb)) t hn nd t2
    refine ⟨g1 ++ Fd, Ff, r', ?_⟩
    rw [eg, List.append_assoc, List.append_assoc]
    exact p.append_left g1
  | .bor i :: as, [], fr, F, vs, fp, Fa, r, _, _, ⟨v, vr, e, _⟩, _, _, ⟨z, _⟩ => by rw [e] at z; cases z
  | .bor i :: as, x :: os, fr, F, vs, fp, Fa, r, hc, ha, ⟨v, vr, e, q, t⟩, hn, nd, ⟨v2, vr2, g1, g2, e2, eg, q2, t2⟩ => by
    rw [e] at e2
    cases e2
    have hi := hn i List.mem_cons_self
    obtain ⟨o0, h0, h1, h2, e1, e3, qs, ex⟩ := r.at hi
    rw [q] at e1
    cases e1
    have eh : h1 = [] := qs
    subst eh
    have nd' := List.nodup_cons.mp (show (i :: bors as).Nodup from nd)
    have hb : SlR K S H (backS f0[i]? x) (some v) g1 := by
      unfold backS
      split
      · exact ⟨v, rfl, q2⟩
      · exact ⟨v, rfl, q2⟩
    have r2 := ex S H (backS f0[i]? x) (some v) g1 (Same.refl _) (fun b hb => ⟨rfl, hc b (by rw [e3]; exact List.mem_append_left _ hb)⟩) (fun b hb => ⟨rfl, hc b (by rw [e3]; exact List.mem_append_right _ hb)⟩) hb
    rw [set_same q] at r2
    have hc2 : ∀ b ∈ h0 ++ (g1 ++ h2), S b = none := fun b hb => by
      rcases List.mem_append.mp hb with hb | hb
      · exact hc b (by rw [e3]; exact List.mem_append_left _ hb)
      · rcases List.mem_append.mp hb with hb | hb
        · exact ha b (by rw [eg]; exact List.mem_append_left _ hb)
        · exact hc b (by rw [e3]; exact List.mem_append_right _ hb)
    have hn2 : ∀ j ∈ bors as, (fr.set i (backS f0[i]? x))[j]? = some .no := fun j hj => by
      have ne : i ≠ j := fun z => by subst z; exact nd'.1 hj
      rw [List.getElem?_set_ne ne]
      exact hn j (List.mem_cons_of_mem _ hj)
    obtain ⟨Fd, Ff, r', p⟩ := putA_rel (f0 := f0) r2 hc2 (fun b hb => ha b (by rw [eg]; exact List.mem_append_right _ hb)) t hn2 nd'.2 t2
    refine ⟨Fd, Ff, r', p.trans ?_⟩
    rw [e3, eg, List.nil_append]
    have a1 : (h0 ++ (g1 ++ h2)).Perm (g1 ++ (h0 ++ h2)) := by
      rw [← List.append_assoc, ← List.append_assoc]
      exact List.Perm.append_right h2 List.perm_append_comm
    refine (a1.append_left g2).trans ?_
    rw [← List.append_assoc g2]
    exact List.Perm.append_right _ List.perm_append_comm
theorem putA_out : ∀ {as : List Arg} {os : List MV} {f0 fr : Fr} {j : Nat}, j ∉ bors as → (putA as os f0 fr)[j]? = fr[j]?
  | [], os, _, _, _, _ => by cases os <;> rfl
  | .val _ :: as, [], _, _, _, _ => rfl
  | .val _ :: as, _ :: os, f0, fr, j, h => putA_out (as := as) (os := os) h
  | .bor i :: as, [], _, _, _, _ => rfl
  | .bor i :: as, o :: os, f0, fr, j, h => by
    have ne : i ≠ j := fun z => h (by subst z; exact List.mem_cons_self)
    show (putA as os f0 (fr.set i (backS f0[i]? o)))[j]? = _
    rw [putA_out (as := as) (os := os) (fun q => h (List.mem_cons_of_mem _ q)), List.getElem?_set_ne ne]
theorem putA_pr : ∀ {as : List Arg} {os : List MV} {f0 fr : Fr} {j : Nat} {q : MV}, f0[j]? = some (.pr q) → j ∈ bors as → (bors as).Nodup → os.length = as.length → j < fr.length → ∃ q', (putA as os f0 fr)[j]? = some (.pr q')
  | [], _, _, _, _, _, _, h, _, _, _ => nomatch h
  | .val _ :: as, [], _, _, _, _, _, _, _, h, _ => nomatch h
  | .val _ :: as, _ :: os, f0, fr, j, q, e, h, nd, hl, hj => putA_pr (as := as) (os := os) e h nd (by simpa using hl) hj
  | .bor i :: as, [], _, _, _, _, _, _, _, h, _ => nomatch h
  | .bor i :: as, o :: os, f0, fr, j, q, e, h, nd, hl, hj => by
    have nd' := List.nodup_cons.mp (show (i :: bors as).Nodup from nd)
    show ∃ q', (putA as os f0 (fr.set i (backS f0[i]? o)))[j]? = some (.pr q')
    by_cases z : i = j
    · subst z
      rw [putA_out (as := as) (os := os) nd'.1, List.getElem?_set_self hj]
      unfold backS
      rw [e]
      exact ⟨o, rfl⟩
    · exact putA_pr (as := as) (os := os) e ((List.mem_cons.mp h).resolve_left fun y => z y.symm) nd'.2 (by simpa using hl) (by rw [List.length_set]; exact hj)
/-- the call: what is handed in, what comes back -/
def callG (n : Nat) (g : List MV → FO) (as : List Arg) (fr : Fr) : O MV := if as.length = n then (match takeA as fr with
  | none => .bad
  | some (ms, fr1) => match g ms with
    | .ret r os => if os.length = as.length then .ok r (putA as os fr fr1) else .bad
    | .exc x os => if os.length = as.length then .exc x (putA as os fr fr1) else .bad
    | .bad => .bad) else .bad
theorem Go.call {c0 c1 : Cf} {fp : List Addr} {as : List Arg} {vs : List V} {ms : List MV} {fr1 : Fr} (g : Go K false c0 fp c1) (ar : ArgR K c1.S c1.H c1.σ as vs fp) (ht : takeA as c1.fr = some (ms, fr1)) :
    ∃ Fa, OwnL K c1.S c1.H ms vs Fa ∧ Fa.Nodup ∧ ∀ S' H' fv F' os, Ext c1.S c1.H Fa S' H' (fv ++ F') → OwnL K S' H' os vs F' → (∀ b ∈ fv, H' b ≠ none ∧ S' b = none) → os.length = as.length →
      ∃ Ff, Go K false c0 fv ⟨S', H', c1.σ, putA as os c1.fr fr1, Ff⟩ := by
  obtain ⟨Fa, Fr', p, o, r⟩ := takeA_rel g.rep.rel (fun b hb => (g.rep.cells hb).2) ar ht
  obtain ⟨t1, t2, t3, t4, t5⟩ := takeA_no ht
  have nd := p.nodup_iff.mp g.nd
  have nd1 := List.nodup_append.mp nd
  have cellsR : ∀ b ∈ Fr', c1.H b ≠ none ∧ c1.S b = none := fun b hb => r.cells b hb
  have mem : ∀ b, b ∈ Fa ++ Fr' → b ∈ fp ++ c1.F := fun b hb => p.mem_iff.mpr hb
  refine ⟨Fa, o, nd1.1, fun S' H' fv F' os x oo hfv hl => ?_⟩
  have nFa : ∀ b ∈ Fr', b ∉ Fa := fun b hb ha => nd1.2.2 b ha b hb rfl
  have kp : ∀ b ∈ Fr', H' b = c1.H b := fun b hb => by
    cases e : c1.H b with
    | none => exact absurd e (cellsR b hb).1
    | some u => exact x.keep b (nFa b hb) u e
  have kn : ∀ b ∈ Fr', S' b = none := fun b hb => by
    cases e : S' b with
    | none => rfl
    | some u =>
      rcases x.newS b (by rw [e]; simp) with z | z | z
      · exact absurd (cellsR b hb).2 z
      · exact absurd z (nFa b hb)
      · exact absurd z (cellsR b hb).1
  have r1 := r.keep x.sS kp kn
  have hcF' : ∀ b ∈ F', S' b = none := fun b hb => (oo.cells b hb).2
  obtain ⟨Fd, Ff, r2, p2⟩ := putA_rel (f0 := c1.fr) r1 kn hcF' ar t2 t3 oo
  have xn := List.nodup_append.mp x.nd
  have fresh : ∀ b ∈ fv ++ F', b ∉ Fr' := fun b hb hr => by
    rcases x.new b hb with z | z
    · exact nFa b hr z
    · exact (cellsR b hr).1 z
  have ndFF : (F' ++ Fr').Nodup := List.nodup_append.mpr ⟨xn.2.1, nd1.2.1, fun a ha b hb e => by subst e; exact fresh a (List.mem_append_right _ ha) hb⟩
  have nd2 := List.nodup_append.mp (p2.nodup_iff.mpr ndFF)
  have memF : ∀ b ∈ Ff, b ∈ F' ∨ b ∈ Fr' := fun b hb => List.mem_append.mp (p2.mem_iff.mp (List.mem_append_right _ hb))
  have back : ∀ b, b ∈ fp ++ c1.F → b ∈ c0.F ∨ c0.H b = none := g.new
  have c1none : ∀ b, c1.H b = none → b ∈ c0.F ∨ c0.H b = none := fun b hb => by
    by_cases hF : b ∈ c0.F
    · exact .inl hF
    · cases e : c0.H b with
      | none => exact .inr rfl
      | some u => rw [g.keep b hF u e] at hb; cases hb
  refine ⟨Ff, Go.of x.sub r2 (List.nodup_append.mpr ⟨xn.1, nd2.2.1, fun a ha b hb e => ?_⟩) hfv (g.sS.trans x.sS) (fun b hF u e => ?_) (fun b hb => ?_) (fun b hb => ?_) (fun j q e => ?_) fun h => nomatch h⟩
  · subst e
    rcases memF a hb with z | z
    · exact xn.2.2 a ha a z rfl
    · exact fresh a (List.mem_append_left _ ha) z
  · refine x.keep b (fun ha => ?_) u (g.keep b hF u e)
    rcases back b (mem b (List.mem_append_left _ ha)) with z | z
    · exact hF z
    · rw [z] at e; cases e
  · have hb' : b ∈ fv ++ F' ∨ b ∈ Fr' := by
      rcases List.mem_append.mp hb with hb | hb
      · exact .inl (List.mem_append_left _ hb)
      · rcases memF b hb with z | z
        · exact .inl (List.mem_append_right _ z)
        · exact .inr z
    rcases hb' with hb' | hb'
    · rcases x.new b hb' with z | z
      · exact back b (mem b (List.mem_append_left _ z))
      · exact c1none b z
    · exact back b (mem b (List.mem_append_right _ hb'))
  · rcases x.newS b hb with z | z | z
    · exact g.newS b z
    · rcases back b (mem b (List.mem_append_left _ z)) with y | y
      · exact .inr (.inl y)
      · exact .inr (.inr y)
    · exact .inr (c1none b z)
  · obtain ⟨a1, m', a2⟩ := g.pr j q e
    refine ⟨a1, ?_⟩
    by_cases hj : j ∈ bors as
    · have hlen : j < fr1.length := (List.getElem?_eq_some_iff.mp (t2 j hj)).1
      exact putA_pr a2 hj t3 hl hlen
    · exact ⟨m', by rw [putA_out hj, t5 j hj]; exact a2⟩
def postB (K : PySem.W.Frag) (ca : Nat → Addr) (c : Cf) (Q : List V → Hp → Prop) (W : WX) : O (List Arg) → Prop
  | .ok as fr => ∀ c' vs fp, c'.fr = fr → c'.σ = c.σ → Go K false c fp c' → ArgR K c'.S c'.H c'.σ as vs fp → Q vs c'.H
  | .exc x fr => ∀ c' d, c'.fr = fr → c'.σ = c.σ → Go K false c [] c' → XdR K c'.S c'.H x.fs d → W (.ref (ca x.cls)) (some d) c'.σ c'.H
  | .bad => False
def tBr (X : Cx) (ca : Nat → Addr) (ev : Fr → O (List Arg)) : TA := fun σ H Q => ∃ W, Takes X W ∧ ∃ c : Cf, c.σ = σ ∧ c.H = H ∧ Rep X.K c ∧ postB X.K ca c Q W (ev c.fr)
structure SB (X : Cx) (ca : Nat → Addr) (es : List Expr) (ev : Fr → O (List Arg)) : Prop where
  pa : PA X es (tBr X ca ev)
theorem SB.of {es : List Expr} {t : TA} {ev : Fr → O (List Arg)} (h : PA X es t) (k : ∀ (W : WX) (c : Cf) (Q : List V → Hp → Prop), Takes X W → Rep X.K c → postB X.K ca c Q W (ev c.fr) → t c.σ c.H Q) : SB X ca es ev := by
  refine ⟨⟨fun pos pins s σ H Q I ⟨W, tk, c, e1, e2, r, p⟩ => ?_⟩⟩
  subst e1 e2
  exact h.run pos pins s c.σ c.H Q I (k W c Q tk r p)
def bNil (fr : Fr) : O (List Arg) := .ok [] fr
theorem sb_nil : SB X ca [] bNil := SB.of pa_nil fun W c Q tk rp po => po c [] [] rfl rfl (Go.refl rp) ⟨rfl, rfl⟩
/-- a value -/
def bVal (ea : Fr → O MV) (er : Fr → O (List Arg)) (fr : Fr) : O (List Arg) := (ea fr).bind fun a fr1 => (er fr1).bind fun as fr2 => .ok (.val a :: as) fr2
theorem sb_val {e : Expr} {es : List Expr} {ea : Fr → O MV} {er : Fr → O (List Arg)} (ha : SE X ca false e ea) (hr : SB X ca es er) (hs : starEach (e :: es) X.env = (false, eval e X.env) :: starEach es X.env := by rfl) : SB X ca (e :: es) (bVal ea er) := by
  refine SB.of (pa_cons ha.pe hr.pa hs) fun W c Q tk rp po => ?_
  refine ⟨W, tk, c, rfl, rfl, rp, ?_⟩
  unfold bVal at po
  cases q : ea c.fr with
  | ok a fr =>
    rw [q] at po
    intro c1 v fp e1 e2 g o
    subst e1
    refine ⟨W, tk, c1, e2, rfl, g.rep, ?_⟩
    have po' : postB X.K ca c Q W ((er c1.fr).bind fun as fr2 => .ok (.val a :: as) fr2) := po
    cases q2 : er c1.fr with
    | ok as fr =>
      rw [q2] at po'
      intro c2 vs fp2 e3 e4 g2 o2
      subst e3
      refine po' c2 (v :: vs) (fp ++ fp2) rfl (e4.trans e2) (g.trans g2) ⟨v, vs, fp, fp2, rfl, rfl, g.hold g2 o, o2⟩
    | exc x fr =>
      rw [q2] at po'
      intro c2 d e3 e4 g2 xd
      exact po' c2 d e3 (e4.trans e2) (g.dropAll.then g2) xd
    | bad => rw [q2] at po'; exact po'.elim
  | exc x fr => rw [q] at po; exact fun c' d e1 e2 g o => po c' d e1 e2 g o
  | bad => rw [q] at po; exact po.elim
/-- a name: the slot's plain thing, or its object lent -/
def bName (i : Nat) (er : Fr → O (List Arg)) (fr : Fr) : O (List Arg) := match fr[i]? with
  | some (.ow (.pv p)) => (er fr).bind fun as fr2 => .ok (.val (.pv p) :: as) fr2
  | some (.pr (.pv p)) => (er fr).bind fun as fr2 => .ok (.val (.pv p) :: as) fr2
  | some (.ow _) => (er fr).bind fun as fr2 => .ok (.bor i :: as) fr2
  | some (.pr _) => (er fr).bind fun as fr2 => .ok (.bor i :: as) fr2
  | _ => .bad
theorem sb_name {i : Nat} {e : Expr} {es : List Expr} {er : Fr → O (List Arg)} (ha : PE X e (tVar i)) (hr : SB X ca es er) (hs : starEach (e :: es) X.env = (false, eval e X.env) :: starEach es X.env := by rfl) : SB X ca (e :: es) (bName i er) := by
  refine SB.of (pa_cons ha hr.pa hs) fun W c Q tk rp po => ?_
  have key : ∀ (mv : MV) (a : Arg), (c.fr[i]? = some (.ow mv) ∨ c.fr[i]? = some (.pr mv)) → (a = .bor i ∨ ∃ p, mv = .pv p ∧ a = .val (.pv p)) → postB X.K ca c Q W ((er c.fr).bind fun as fr2 => .ok (a :: as) fr2) →
      tCons (tVar i) (tBr X ca er) c.σ c.H Q := fun mv a hs ha po => by
    obtain ⟨v, f, e1, o, _⟩ := rp.slot hs
    refine ⟨v, e1, W, tk, c, rfl, rfl, rp, ?_⟩
    cases q2 : er c.fr with
    | ok as fr =>
      rw [q2] at po
      intro c2 vs fp2 e3 e4 g2 o2
      subst e3
      rcases ha with rfl | ⟨p, rfl, rfl⟩
      · exact po c2 (v :: vs) fp2 rfl e4 g2 ⟨v, vs, rfl, by rw [e4]; exact e1, o2⟩
      · exact po c2 (v :: vs) fp2 rfl e4 g2 ⟨v, vs, [], fp2, rfl, rfl, ⟨rfl, o.2.mono g2.sS⟩, o2⟩
    | exc x fr => rw [q2] at po; exact fun c2 d e3 e4 g2 xd => po c2 d e3 e4 g2 xd
    | bad => rw [q2] at po; exact po.elim
  unfold bName at po
  split at po
  · exact key _ _ (.inl (by assumption)) (.inr ⟨_, rfl, rfl⟩) po
  · exact key _ _ (.inr (by assumption)) (.inr ⟨_, rfl, rfl⟩) po
  · exact key _ _ (.inl (by assumption)) (.inl rfl) po
  · exact key _ _ (.inr (by assumption)) (.inl rfl) po
  · exact po.elim
def eCallB (n : Nat) (g : List MV → FO) (ea : Fr → O (List Arg)) (fr : Fr) : O MV := (ea fr).bind fun as fr1 => callG n g as fr1
variable {k : Nat} {f : Addr} {fd : FuncData} {ps : List Str} {g : List MV → FO}
theorem callB_read {c0 c1 : Cf} {W : WX} {Q : VK} {as : List Arg} {vs : List V} {fp : List Addr} (g1 : Go X.K false c0 fp c1) (hσ : c1.σ = c0.σ) (o1 : ArgR X.K c1.S c1.H c1.σ as vs fp)
    (po : postE Own X.K ca false c0 Q W (callG ps.length g as c1.fr)) : spOf X.K ca g ps.length vs c1.H Q (WE W c1.σ) := by
  unfold callG at po
  by_cases hl : as.length = ps.length
  · rw [if_pos hl] at po
    cases ht : takeA as c1.fr with
    | none => rw [ht] at po; exact po.elim
    | some q =>
      obtain ⟨ms, fr1⟩ := q
      rw [ht] at po
      obtain ⟨Fa, o, nd, ex⟩ := g1.call o1 ht
      obtain ⟨_, _, _, t4, _⟩ := takeA_no ht
      refine ⟨c1.S, ms, Fa, g1.rep.sub, t4.trans hl, o, nd, ?_⟩
      have po' : postE Own X.K ca false c0 Q W (match g ms with | .ret r os => if os.length = as.length then .ok r (putA as os c1.fr fr1) else .bad | .exc x os => if os.length = as.length then .exc x (putA as os c1.fr fr1) else .bad | .bad => .bad) := po
      cases q : g ms with
      | ret r os =>
        rw [q] at po'
        have p2 : postE Own X.K ca false c0 Q W (if os.length = as.length then .ok r (putA as os c1.fr fr1) else .bad) := po'
        by_cases ho : os.length = as.length
        · rw [if_pos ho] at p2
          intro S' H' v fv F' x ow oo
          obtain ⟨Ff, gx⟩ := ex S' H' fv F' os x oo ow.cells ho
          exact p2 ⟨S', H', c1.σ, putA as os c1.fr fr1, Ff⟩ v fv rfl hσ gx ow
        · rw [if_neg ho] at p2; exact p2.elim
      | exc x os =>
        rw [q] at po'
        have p2 : postE Own X.K ca false c0 Q W (if os.length = as.length then .exc x (putA as os c1.fr fr1) else .bad) := po'
        by_cases ho : os.length = as.length
        · rw [if_pos ho] at p2
          intro S' H' d F' x oo xd
          obtain ⟨Ff, gx⟩ := ex S' H' [] F' os x oo (fun _ h => nomatch h) ho
          exact p2 ⟨S', H', c1.σ, putA as os c1.fr fr1, Ff⟩ d rfl hσ gx xd
        · rw [if_neg ho] at p2; exact p2.elim
      | bad => rw [q] at po'; exact po'.elim
  · rw [if_neg hl] at po; exact po.elim
theorem use_argsB {ev : Fr → O (List Arg)} {k : List Arg → Fr → O MV} {W : WX} (tk : Takes X W) {c0 c : Cf} (g0 : Go X.K false c0 [] c) (hσ : c.σ = c0.σ) {Q0 : VK} {Q : List V → Hp → Prop} (p : postE Own X.K ca false c0 Q0 W ((ev c.fr).bind k))
    (h : ∀ c' as vs fp, c'.σ = c.σ → Go X.K false c fp c' → ArgR X.K c'.S c'.H c'.σ as vs fp → postE Own X.K ca false c0 Q0 W (k as c'.fr) → Q vs c'.H) : tBr X ca ev c.σ c.H Q := by
  refine ⟨W, tk, c, rfl, rfl, g0.rep, ?_⟩
  cases q : ev c.fr with
  | ok a fr =>
    rw [q] at p
    intro c' vs fp e1 e2 g o
    subst e1
    exact h c' a vs fp e2 g o p
  | exc x fr =>
    rw [q] at p
    intro c' d e1 e2 g o
    exact p c' d e1 (e2.trans hσ) (g0.then g) o
  | bad => rw [q] at p; exact p.elim
theorem se_callB {x : Str} {p pos : Pos} {e : Expr} {es : List Expr} {ea : Fr → O (List Arg)} (F : FnSim X.prog X.w X.K X.mg X.base ca k f fd ps g) (hr : Room k X.A) (hg : Gl X x) (hm : X.mg x = some (.ref f)) (hk : PySem.W.keepIn X.K (.ref f) = true) (hb : Binds X.K fd ps [])
    (ha : SB X ca (e :: es) ea) (hdb : (x == ("__debug__" : Str)) = false := by decide) (he : starEach (e :: es) X.env = (false, eval e X.env) :: starEach es X.env := by rfl) (hpl : (backTo pos (starEach es X.env)).any (·.1) = false := by rfl) :
    SE X ca false (.Call (.Name x p) (e :: es) [] pos) (eCallB ps.length g ea) := by
  refine ⟨⟨fun pins s σ H Q I ⟨W, tk, c, e1, e2, rp, po⟩ => ?_⟩⟩
  subst e1 e2
  refine (pe_callS (E := fun σ => WE W σ) F.ok hr hg hm hk hb (fun σ => passAt tk σ) ha.pa hdb he hpl).run pins s c.σ c.H Q I ?_
  refine use_argsB tk (Go.refl rp) rfl po fun c1 as vs fp e1 g1 o1 po => ?_
  rw [← e1]
  exact callB_read g1 e1 o1 po
end Sm

namespace Sm
open PySem L2 PyProof.Rows
variable {K : PySem.W.Frag} {X : Cx} {ca : Nat → Addr} {m : Bool}

/-! ### builtins of plain things -/
structure BuS (X : Cx) (f : Value) (g : List PV → Option PV) : Prop where
  ex : ∃ r, CallR X f r ∧ ∀ S H qs vs Q, Same S H → VRL X.K S qs vs → VK1 X.K S H Q (g qs) → r vs H Q
def eBu (g : List PV → Option PV) (ea : Fr → O (List PV)) (fr : Fr) : O MV := (ea fr).bind fun ps fr1 => opO (g ps) fr1
section
variable {x : Str} {p pos : Pos} {e : Expr} {es : List Expr} {id T : String} {g : List PV → Option PV} {ea : Fr → O (List PV)}
theorem se_buB (hb : BuS X (.builtin id) g) (hg : Gl X x) (hm : X.mg x = none) (hv : bootBuiltins x = some (.builtin id)) (ha : SA X ca m (e :: es) ea) (hn : x ≠ "__name__" := by decide) (hdb : (x == ("__debug__" : Str)) = false := by decide)
    (he : starEach (e :: es) X.env = (false, eval e X.env) :: starEach es X.env := by rfl) (hpl : (backTo pos (starEach es X.env)).any (·.1) = false := by rfl) : SE X ca m (.Call (.Name x p) (e :: es) [] pos) (eBu g ea) := by
  obtain ⟨r, hr, hi⟩ := hb.ex
  refine SE.of (pe_callB hr hg hm hv ha.pa hn hdb he hpl) fun W c Q tk rp po => ?_
  exact use_args tk (Go.refl rp) rfl po fun c1 qs vs e1 g1 o1 po => hi _ _ _ _ _ g1.rep.sub o1 (fin_op g1 e1 po)
theorem se_buT (hb : BuS X (.type T) g) (hg : Gl X x) (hm : X.mg x = none) (hv : bootBuiltins x = some (.type T)) (ha : SA X ca m (e :: es) ea) (hn : x ≠ "__name__" := by decide) (hdb : (x == ("__debug__" : Str)) = false := by decide)
    (he : starEach (e :: es) X.env = (false, eval e X.env) :: starEach es X.env := by rfl) (hpl : (backTo pos (starEach es X.env)).any (·.1) = false := by rfl) : SE X ca m (.Call (.Name x p) (e :: es) [] pos) (eBu g ea) := by
  obtain ⟨r, hr, hi⟩ := hb.ex
  refine SE.of (pe_callTy hr hg hm hv ha.pa hn hdb he hpl) fun W c Q tk rp po => ?_
  exact use_args tk (Go.refl rp) rfl po fun c1 qs vs e1 g1 o1 po => hi _ _ _ _ _ g1.rep.sub o1 (fin_op g1 e1 po)
end
def gInt : List PV → Option PV
  | [.int i] => some (.int i)
  | [.bl k] => some (.int (if k then 1 else 0))
  | _ => none
theorem VRL.c1 {S : Hp} {p : PV} {vs : List V} (h : VRL K S [p] vs) : ∃ v, vs = [v] ∧ VR K S p v := by
  obtain ⟨v, r, e, q, t⟩ := h
  obtain rfl : r = [] := t
  exact ⟨v, e, q⟩
theorem VRL.c2 {S : Hp} {p q : PV} {vs : List V} (h : VRL K S [p, q] vs) : ∃ v u, vs = [v, u] ∧ VR K S p v ∧ VR K S q u := by
  obtain ⟨v, r, e, q, t⟩ := h
  obtain ⟨u, rfl, q2⟩ := VRL.c1 t
  exact ⟨v, u, e, q, q2⟩
theorem bu_int : BuS X (.type "int") gInt := by
  refine ⟨_, call_int1, fun S H qs vs Q sub r k => ?_⟩
  match qs, r, k with
  | [], r, k => exact k.bad.elim
  | _ :: _ :: _, r, k => exact (VK1.bad (by simpa [gInt] using k)).elim
  | [p], r, k =>
    obtain ⟨v, rfl, q⟩ := r.c1
    cases p <;> try exact k.bad.elim
    · obtain rfl := q
      exact .inr ⟨_, rfl, k.here sub rfl⟩
    · obtain rfl := q
      exact .inl ⟨_, rfl, k.here sub rfl⟩
def gAbs : List PV → Option PV
  | [.int i] => some (.int (if i < 0 then -i else i))
  | _ => none
theorem bu_abs : BuS X (.builtin "abs") gAbs := by
  refine ⟨_, call_abs, fun S H qs vs Q sub r k => ?_⟩
  match qs, r, k with
  | [], r, k => exact k.bad.elim
  | _ :: _ :: _, r, k => exact (VK1.bad (by simpa [gAbs] using k)).elim
  | [p], r, k =>
    obtain ⟨v, rfl, q⟩ := r.c1
    cases p <;> try exact k.bad.elim
    obtain rfl := q
    exact ⟨_, rfl, k.here sub rfl⟩
def gMax : List PV → Option PV
  | [.int i, .int j] => some (.int (if j > i then j else i))
  | _ => none
def gMin : List PV → Option PV
  | [.int i, .int j] => some (.int (if j < i then j else i))
  | _ => none
theorem bu_max (hc : X.calm = true) : BuS X (.builtin "max") gMax := by
  refine ⟨_, call_max2 hc, fun S H qs vs Q sub r k => ?_⟩
  match qs, r, k with
  | [], r, k => exact k.bad.elim
  | [p], r, k => exact (VK1.bad (by simpa [gMax] using k)).elim
  | _ :: _ :: _ :: _, r, k => exact (VK1.bad (by simpa [gMax] using k)).elim
  | [p, p2], r, k =>
    obtain ⟨v, u, rfl, q, q2⟩ := r.c2
    cases p <;> cases p2 <;> try exact k.bad.elim
    obtain rfl := q; obtain rfl := q2
    exact ⟨_, _, rfl, k.here sub rfl⟩
theorem bu_min (hc : X.calm = true) : BuS X (.builtin "min") gMin := by
  refine ⟨_, call_min2 hc, fun S H qs vs Q sub r k => ?_⟩
  match qs, r, k with
  | [], r, k => exact k.bad.elim
  | [p], r, k => exact (VK1.bad (by simpa [gMin] using k)).elim
  | _ :: _ :: _ :: _, r, k => exact (VK1.bad (by simpa [gMin] using k)).elim
  | [p, p2], r, k =>
    obtain ⟨v, u, rfl, q, q2⟩ := r.c2
    cases p <;> cases p2 <;> try exact k.bad.elim
    obtain rfl := q; obtain rfl := q2
    exact ⟨_, _, rfl, k.here sub rfl⟩
/-- range of one, of two -/
def gRange : List PV → Option PV
  | [.int i, .int j] => some (.rng i j)
  | [.int j] => some (.rng 0 j)
  | _ => none
theorem cr_range1 : CallR X (.type "range") (fun vs H Q => ∃ j, vs = [V.int j] ∧ ∀ p, H p = none → Q (.ref p) (upd H p (.rng 0 j))) := by
  intro pins s σ H vs us Q I r h
  obtain ⟨j, rfl, q⟩ := h
  obtain ⟨u1, rfl, t, rfl⟩ := vals1 r
  refine call_range_1 ⟨.ref s.heap.objs.size, upd H s.heap.objs.size (.rng 0 j), I.laid (t' := s.toks + 2) (fun b o e => Heap.get?_push_of_some _ e) (Nat.le_refl _) ?_, rfl, q _ (I.hok.fresh (Nat.le_refl _))⟩
  exact ⟨_, _, _, Heap.get?_push_size _ rfl⟩
theorem CallR.or {f : Value} {r r' : List V → Hp → VK → Prop} (h : CallR X f r) (h' : CallR X f r') : CallR X f (fun xs H Q => r xs H Q ∨ r' xs H Q) := by
  intro pins s σ H xs us Q I rs q
  rcases q with q | q
  · exact h pins s σ H xs us Q I rs q
  · exact h' pins s σ H xs us Q I rs q
theorem bu_range : BuS X (.type "range") gRange := by
  refine ⟨_, CallR.or cr_range1 cr_range2, fun S H qs vs Q sub r k => ?_⟩
  match qs, r, k with
  | [], r, k => exact k.bad.elim
  | [p], r, k =>
    obtain ⟨v, rfl, q⟩ := r.c1
    cases p <;> try exact k.bad.elim
    obtain rfl := q
    exact .inl ⟨_, rfl, fun a ha => k.new sub ha ⟨a, rfl, upd_same⟩⟩
  | _ :: _ :: _ :: _, r, k => exact (VK1.bad (by simpa [gRange] using k)).elim
  | [p, p2], r, k =>
    obtain ⟨v, u, rfl, q, q2⟩ := r.c2
    cases p <;> cases p2 <;> try exact k.bad.elim
    obtain rfl := q; obtain rfl := q2
    exact .inr ⟨_, _, rfl, fun a ha => k.new sub ha ⟨a, rfl, upd_same⟩⟩

/-! ### isinstance -/
def tyN : PV → Option String
  | .non => some "NoneType"
  | .bl _ => some "bool"
  | .int _ => some "int"
  | .str _ => some "str"
  | .tup _ => some "tuple"
  | .lst _ => some "list"
  | _ => none
def isB (a b : String) : Option Bool := kitB a b
theorem tyN_ok {S H : Hp} (sub : Same S H) {p : PV} {v : V} {n : String} (r : VR K S p v) (h : tyN p = some n) : TyX K H v (.type n) := by
  cases p <;> cases h
  · obtain rfl := r; exact .base .non
  · obtain rfl := r; exact .base (.bl _)
  · obtain rfl := r; exact .base (.int _)
  · obtain rfl := r; exact .base (.str _)
  · obtain ⟨a, xs, rfl, ha, _⟩ := r
    exact .base (.tup (sub _ _ ha))
  · obtain ⟨a, xs, rfl, ha, _⟩ := r
    rcases ha with ha | ⟨o, its, n, h1, h2, _⟩
    · rcases ha with ha | ⟨o, ha⟩
      · exact .base (.lst (sub _ _ ha))
      · exact .base (.frz (sub _ _ ha))
    · exact .kList h1 h2
def gIsi : List PV → Option PV
  | [p, .ty n] => (match tyN p with | some t => (isB t n).map PV.bl | none => none)
  | _ => none
theorem bu_isi : BuS X (.builtin "isinstance") gIsi := by
  refine ⟨_, call_isi, fun S H qs vs Q sub r k => ?_⟩
  match qs, r, k with
  | [], r, k => exact k.bad.elim
  | [p], r, k => exact (VK1.bad (by simpa [gIsi] using k)).elim
  | _ :: _ :: _ :: _, r, k => exact (VK1.bad (by simpa [gIsi] using k)).elim
  | [p, p2], r, k =>
    obtain ⟨v, u, rfl, q, q2⟩ := r.c2
    obtain ⟨n, rfl⟩ : ∃ n, p2 = .ty n := by
      cases p2 with
      | ty n => exact ⟨n, rfl⟩
      | _ => exact (VK1.bad (by simpa [gIsi] using k)).elim
    obtain rfl := q2
    have k' : VK1 X.K S H Q (match tyN p with | some t => (isB t n).map PV.bl | none => none) := k
    cases e : tyN p with
    | none => rw [e] at k'; exact k'.bad.elim
    | some t =>
      rw [e] at k'
      have k2 : VK1 X.K S H Q ((isB t n).map PV.bl) := k'
      cases e2 : isB t n with
      | none => rw [e2] at k2; exact k2.bad.elim
      | some b =>
        rw [e2] at k2
        exact ⟨v, _, _, _, b, rfl, .ty n, tyN_ok sub q e, kit_ty e2, k2.here sub rfl⟩

/-! ### builtins of one thing, owned or plain -/
structure B1S (X : Cx) (f : Value) (g : MV → Option PV) : Prop where
  ex : ∃ r, CallR X f r ∧ ∀ S H a v fp Q, Same S H → Own X.K S H a v fp → VK1 X.K S H Q (g a) → r [v] H Q
structure N1S (X : Cx) (f : Value) (g : MV → Option (List PV)) : Prop where
  ex : ∃ r, CallR X f r ∧ ∀ S H a v fp qs Q, Same S H → Own X.K S H a v fp → g a = some qs → (∀ vs, VRL X.K S qs vs → ∀ l, H l = none → Q (.ref l) (upd H l (.lst vs))) → r [v] H Q
def eB1 (g : MV → Option PV) (ea : Fr → O MV) (fr : Fr) : O MV := (ea fr).bind fun a fr1 => opO (g a) fr1
def slM (i : Nat) (fr : Fr) : Option MV := match fr[i]? with
  | some (.ow a) => some a
  | some (.pr a) => some a
  | _ => none
theorem slM_slot {c : Cf} (r : Rep K c) {i : Nat} {a : MV} (h : slM i c.fr = some a) : ∃ v f, c.σ[i]? = some (some v) ∧ Own K c.S c.H a v f ∧ ∀ b ∈ f, b ∈ c.F := by
  unfold slM at h
  refine r.slot ?_
  split at h
  · cases h; exact .inl (by assumption)
  · cases h; exact .inr (by assumption)
  · cases h
def eB1S (g : MV → Option PV) (i : Nat) (fr : Fr) : O MV := match slM i fr with | some a => opO (g a) fr | none => .bad
def newO (r : Option (List PV)) (fr : Fr) : O MV := match r with | some qs => .ok (.pl qs) fr | none => .bad
def eN1 (g : MV → Option (List PV)) (ea : Fr → O MV) (fr : Fr) : O MV := (ea fr).bind fun a fr1 => newO (g a) fr1
def eN1S (g : MV → Option (List PV)) (i : Nat) (fr : Fr) : O MV := match slM i fr with | some a => newO (g a) fr | none => .bad
theorem fin_new {c0 c : Cf} (g : Go K m c0 [] c) (hσ : c.σ = c0.σ) {qs : List PV} {Q : VK} {W : WX} (p : postE Own K ca m c0 Q W (.ok (.pl qs) c.fr)) : ∀ vs, VRL K c.S qs vs → ∀ l, c.H l = none → Q (.ref l) (upd c.H l (.lst vs)) := fun vs r l hl => by
  have g2 : Go K m c0 [l] ⟨c.S, upd c.H l (.lst vs), c.σ, c.fr, c.F⟩ := g.then (g.rep.laidH hl _ m)
  exact p ⟨c.S, upd c.H l (.lst vs), c.σ, c.fr, c.F⟩ (.ref l) [l] rfl hσ g2 ⟨l, vs, rfl, rfl, upd_same, g.rep.freeS hl, r⟩
section
variable {x : Str} {p pos : Pos} {e : Expr} {id T : String} {g : MV → Option PV} {gn : MV → Option (List PV)} {ea : Fr → O MV} {i : Nat}
theorem b1_use {f : Value} (hb : B1S X f g) : ∃ r, CallR X f r ∧ (∀ (W : WX) (c : Cf) (Q : VK), Takes X W → Rep X.K c → postE Own X.K ca m c Q W (eB1 g ea c.fr) → tCB r (tCons (tE X ca m ea) tNil) c.σ c.H Q) ∧
    (∀ (W : WX) (c : Cf) (Q : VK), Takes X W → Rep X.K c → postE Own X.K ca m c Q W (eB1S g i c.fr) → tCB r (tCons (tVar i) tNil) c.σ c.H Q) := by
  obtain ⟨r, hr, hi⟩ := hb.ex
  refine ⟨r, hr, fun W c Q tk rp po => ?_, fun W c Q tk rp po => ?_⟩
  · exact use_bind tk (Go.refl rp) rfl po fun c1 a v fp e1 g1 o1 po => hi _ _ _ _ _ _ g1.rep.sub o1 (fin_op g1.dropAll e1 po)
  · unfold eB1S at po
    cases h : slM i c.fr with
    | none => rw [h] at po; exact po.elim
    | some a =>
      rw [h] at po
      obtain ⟨v, f, e1, o, _⟩ := slM_slot rp h
      exact ⟨v, e1, hi _ _ _ _ _ _ rp.sub o (fin_op (Go.refl rp) rfl po)⟩
theorem n1_use {f : Value} (hb : N1S X f gn) : ∃ r, CallR X f r ∧ (∀ (W : WX) (c : Cf) (Q : VK), Takes X W → Rep X.K c → postE Own X.K ca m c Q W (eN1 gn ea c.fr) → tCB r (tCons (tE X ca m ea) tNil) c.σ c.H Q) ∧
    (∀ (W : WX) (c : Cf) (Q : VK), Takes X W → Rep X.K c → postE Own X.K ca m c Q W (eN1S gn i c.fr) → tCB r (tCons (tVar i) tNil) c.σ c.H Q) := by
  obtain ⟨r, hr, hi⟩ := hb.ex
  refine ⟨r, hr, fun W c Q tk rp po => ?_, fun W c Q tk rp po => ?_⟩
  · refine use_bind tk (Go.refl rp) rfl po fun c1 a v fp e1 g1 o1 po => ?_
    cases h : gn a with
    | none => rw [h] at po; exact po.elim
    | some qs => rw [h] at po; exact hi _ _ _ _ _ _ _ g1.rep.sub o1 h (fin_new g1.dropAll e1 po)
  · unfold eN1S at po
    cases h : slM i c.fr with
    | none => rw [h] at po; exact po.elim
    | some a =>
      rw [h] at po
      obtain ⟨v, f, e1, o, _⟩ := slM_slot rp h
      have po' : postE Own X.K ca m c Q W (newO (gn a) c.fr) := po
      cases h2 : gn a with
      | none => rw [h2] at po'; exact po'.elim
      | some qs => rw [h2] at po'; exact ⟨v, e1, hi _ _ _ _ _ _ _ rp.sub o h2 (fin_new (Go.refl rp) rfl po')⟩
variable (hg : Gl X x) (hm : X.mg x = none) (hn : x ≠ "__name__" := by decide) (hdb : (x == ("__debug__" : Str)) = false := by decide)
    (he : starEach [e] X.env = (false, eval e X.env) :: starEach [] X.env := by rfl) (hpl : (backTo pos (starEach [] X.env)).any (·.1) = false := by rfl)
include hg hm hn hdb he hpl
theorem se_b1B (hb : B1S X (.builtin id) g) (hv : bootBuiltins x = some (.builtin id)) (ha : SE X ca m e ea) : SE X ca m (.Call (.Name x p) [e] [] pos) (eB1 g ea) := by
  obtain ⟨r, hr, h1, _⟩ := b1_use (ca := ca) (m := m) (ea := ea) (i := 0) hb
  exact SE.of (pe_callB hr hg hm hv (pa_cons ha.pe pa_nil he) hn hdb he hpl) h1
theorem se_b1BS (hb : B1S X (.builtin id) g) (hv : bootBuiltins x = some (.builtin id)) (ha : PE X e (tVar i)) : SE X ca m (.Call (.Name x p) [e] [] pos) (eB1S g i) := by
  obtain ⟨r, hr, _, h2⟩ := b1_use (ca := ca) (m := m) (ea := fun _ => .bad) (i := i) hb
  exact SE.of (pe_callB hr hg hm hv (pa_cons ha pa_nil he) hn hdb he hpl) h2
theorem se_b1T (hb : B1S X (.type T) g) (hv : bootBuiltins x = some (.type T)) (ha : SE X ca m e ea) : SE X ca m (.Call (.Name x p) [e] [] pos) (eB1 g ea) := by
  obtain ⟨r, hr, h1, _⟩ := b1_use (ca := ca) (m := m) (ea := ea) (i := 0) hb
  exact SE.of (pe_callTy hr hg hm hv (pa_cons ha.pe pa_nil he) hn hdb he hpl) h1
theorem se_b1TS (hb : B1S X (.type T) g) (hv : bootBuiltins x = some (.type T)) (ha : PE X e (tVar i)) : SE X ca m (.Call (.Name x p) [e] [] pos) (eB1S g i) := by
  obtain ⟨r, hr, _, h2⟩ := b1_use (ca := ca) (m := m) (ea := fun _ => .bad) (i := i) hb
  exact SE.of (pe_callTy hr hg hm hv (pa_cons ha pa_nil he) hn hdb he hpl) h2
theorem se_n1T (hb : N1S X (.type T) gn) (hv : bootBuiltins x = some (.type T)) (ha : SE X ca m e ea) : SE X ca m (.Call (.Name x p) [e] [] pos) (eN1 gn ea) := by
  obtain ⟨r, hr, h1, _⟩ := n1_use (ca := ca) (m := m) (ea := ea) (i := 0) hb
  exact SE.of (pe_callTy hr hg hm hv (pa_cons ha.pe pa_nil he) hn hdb he hpl) h1
theorem se_n1TS (hb : N1S X (.type T) gn) (hv : bootBuiltins x = some (.type T)) (ha : PE X e (tVar i)) : SE X ca m (.Call (.Name x p) [e] [] pos) (eN1S gn i) := by
  obtain ⟨r, hr, _, h2⟩ := n1_use (ca := ca) (m := m) (ea := fun _ => .bad) (i := i) hb
  exact SE.of (pe_callTy hr hg hm hv (pa_cons ha pa_nil he) hn hdb he hpl) h2
end
def gLen : MV → Option PV
  | .pv (.tup ps) => some (.int ps.length)
  | .pv (.lst ps) => some (.int ps.length)
  | .pl ps => some (.int ps.length)
  | .ls ps => some (.int ps.length)
  | .pv (.str x) => if x.length ≤ sizeLine then some (.int x.length) else none
  | _ => none
theorem b1_len : B1S X (.builtin "len") gLen := by
  refine ⟨_, call_len, fun S H a v fp Q sub o k => ?_⟩
  unfold gLen at k
  split at k
  · obtain ⟨_, a, xs, rfl, ha, r⟩ := o
    exact ⟨_, _, rfl, .inr ⟨xs, SqT.of (sub _ _ ha), rfl⟩, by rw [r.len]; exact k.here sub rfl⟩
  · obtain ⟨_, a, xs, rfl, ha, r⟩ := o
    exact ⟨_, _, rfl, .inl ⟨xs, same_sql sub ha, rfl⟩, by rw [r.len]; exact k.here sub rfl⟩
  · obtain ⟨a, vs, rfl, _, ha, _, r⟩ := o
    exact ⟨_, _, rfl, .inl ⟨vs, SqL.of ha, rfl⟩, by rw [r.len]; exact k.here sub rfl⟩
  · obtain ⟨a, vs, _, rfl, _, ha, _, r⟩ := o
    exact ⟨_, _, rfl, .inl ⟨vs, SqL.of ha, rfl⟩, by rw [r.len]; exact k.here sub rfl⟩
  · obtain ⟨_, rfl⟩ := o
    obtain ⟨h, k⟩ := k.ite
    exact ⟨_, _, rfl, ⟨h, rfl⟩, k.here sub rfl⟩
  · exact k.bad.elim
def gTuple : MV → Option PV
  | .pv (.tup ps) => some (.tup ps)
  | .pv (.lst ps) => some (.tup ps)
  | .pl ps => some (.tup ps)
  | _ => none
theorem b1_tuple : B1S X (.type "tuple") gTuple := by
  refine ⟨_, call_tuple_of, fun S H a v fp Q sub o k => ?_⟩
  unfold gTuple at k
  split at k
  · obtain ⟨_, a, xs, rfl, ha, r⟩ := o
    exact ⟨_, xs, rfl, .inr ⟨SqT.of (sub _ _ ha), k.here sub ⟨a, xs, rfl, ha, r⟩⟩⟩
  · obtain ⟨_, a, xs, rfl, ha, r⟩ := o
    exact ⟨_, xs, rfl, .inl ⟨same_sql sub ha, fun l hl => k.new sub hl ⟨l, xs, rfl, upd_same, r.mono (fun b u e => by rw [upd_ne (ne_of_none e (by cases z : S l with | none => rfl | some q => rw [sub _ _ z] at hl; cases hl))]; exact e)⟩⟩⟩
  · obtain ⟨a, vs, rfl, _, ha, _, r⟩ := o
    exact ⟨_, vs, rfl, .inl ⟨SqL.of ha, fun l hl => k.new sub hl ⟨l, vs, rfl, upd_same, r.mono (fun b u e => by rw [upd_ne (ne_of_none e (by cases z : S l with | none => rfl | some q => rw [sub _ _ z] at hl; cases hl))]; exact e)⟩⟩⟩
  · exact k.bad.elim
def gList : MV → Option (List PV)
  | .pv (.tup ps) => some ps
  | .pv (.lst ps) => some ps
  | .pl ps => some ps
  | _ => none
theorem n1_list : N1S X (.type "list") gList := by
  refine ⟨_, call_list_of, fun S H a v fp qs Q sub o h k => ?_⟩
  unfold gList at h
  split at h
  · cases h
    obtain ⟨_, a, xs, rfl, ha, r⟩ := o
    exact ⟨_, xs, rfl, .inr (SqT.of (sub _ _ ha)), k xs r⟩
  · cases h
    obtain ⟨_, a, xs, rfl, ha, r⟩ := o
    exact ⟨_, xs, rfl, .inl (same_sql sub ha), k xs r⟩
  · cases h
    obtain ⟨a, vs, rfl, _, ha, _, r⟩ := o
    exact ⟨_, vs, rfl, .inl (SqL.of ha), k vs r⟩
  · cases h
end Sm

namespace Sm
open PySem L2 PyProof.Rows
variable {K : PySem.W.Frag} {X : Cx} {ca : Nat → Addr} {m : Bool}

/-! ### an owned list in a slot is changed -/
def wrL (i : Nat) (qs : List PV) (fr : Fr) : Fr := match fr[i]? with
  | some (.pr _) => fr.set i (.pr (.pl qs))
  | _ => fr.set i (.ow (.pl qs))
theorem Go.wrL {c c' : Cf} {Y : List Addr} {i : Nat} {ps : List PV} (g : Go K m c Y c') (h : rdL i c'.fr = some ps) : ∃ a vs, c'.σ[i]? = some (some (.ref a)) ∧ c'.H a = some (.lst vs) ∧ VRL K c'.S ps vs ∧
    ∀ vs' qs, VRL K c'.S qs vs' → ∃ F', Go K false c Y ⟨c'.S, upd c'.H a (.lst vs'), c'.σ, Sm.wrL i qs c'.fr, F'⟩ := by
  have key : ∀ (tag : MV → Sl), (tag = Sl.ow ∨ tag = Sl.pr) → c'.fr[i]? = some (tag (.pl ps)) → (∀ qs, Sm.wrL i qs c'.fr = c'.fr.set i (tag (.pl qs))) → ∃ a vs, c'.σ[i]? = some (some (.ref a)) ∧ c'.H a = some (.lst vs) ∧ VRL K c'.S ps vs ∧
    ∀ vs' qs, VRL K c'.S qs vs' → ∃ F', Go K false c Y ⟨c'.S, upd c'.H a (.lst vs'), c'.σ, Sm.wrL i qs c'.fr, F'⟩ := fun tag ht hs hw => by
    have hs2 : c'.fr[i]? = some (.ow (.pl ps)) ∨ c'.fr[i]? = some (.pr (.pl ps)) := by rcases ht with rfl | rfl; exact .inl hs; exact .inr hs
    obtain ⟨v, f, e1, ⟨a, vs, e, ef, h1, h2, h3⟩, hf⟩ := g.rep.slot hs2
    subst e
    refine ⟨a, vs, e1, h1, h3, fun vs' qs hq => ?_⟩
    rw [hw]
    refine g.write (mv := .pl ps) (f' := [a]) ht hs e1 fun f1 o1 hF nd hY => ?_
    obtain ⟨a', vs1, ea, ef1, h4, h5, h6⟩ := o1
    cases ea
    subst ef1
    refine ⟨fun b hb => .inr (upd_ne fun z => hb (by rw [z]; exact List.mem_singleton.mpr rfl)), fun b hb => ?_, ⟨a, vs', rfl, rfl, upd_same, h5, hq⟩, nd, fun b hb => .inl hb⟩
    cases List.mem_singleton.mp hb
    rw [upd_same]; simp
  unfold rdL at h
  split at h
  · rename_i q hs
    cases h
    exact key .ow (.inl rfl) hs fun qs => by unfold Sm.wrL; rw [hs]
  · rename_i q hs
    cases h
    exact key .pr (.inr rfl) hs fun qs => by unfold Sm.wrL; rw [hs]
  · cases h
/-- xs.append(e) -/
def eApp (i : Nat) (ea : Fr → O MV) (fr : Fr) : O MV := match rdL i fr with
  | none => .bad
  | some _ => (ea fr).bindP fun q fr1 => match rdL i fr1 with
    | some ps => if ps.length < sizeLine then .ok (.pv .non) (wrL i (ps ++ [q]) fr1) else .bad
    | none => .bad
section
variable {i : Nat} {o e : Expr} {ea : Fr → O MV} {apos cpos pos : Pos}
theorem se_app (ho : PE X o (tVar i)) (ha : SE X ca false e ea) (hbase : attributeBase o "append" X.env (eval o X.env) = eval o X.env := by rfl)
    (hfew : ((backTo cpos (starEach [e] X.env)).all (fun x => !x.1) && (backToKw cpos (keywordEach [] X.env)).all (fun x => x.1.isSome)
      && decide (([e] : List Expr).length + ([] : List Keyword).length + (if ([] : List Keyword).isEmpty then 0 else 1) < 30)) = true := by rfl)
    (hline : (apos.endLine == cpos.line) = true := by rfl) (hs : starEach [e] X.env = (false, eval e X.env) :: starEach [] X.env := by rfl) (hplain : (backTo cpos (starEach [] X.env)).any (·.1) = false := by rfl) :
    SE X ca false (.Call (.Attribute o "append" apos) [e] [] cpos) (eApp i ea) := by
  refine SE.of (pe_bm PySem.F.plainAttrs_list PySem.F.slot_list_append PySem.F.type_list_append mt_append ho (pa_cons ha.pe pa_nil hs) hbase hfew hline hs hplain) fun W c Q tk rp po => ?_
  unfold eApp at po
  cases h : rdL i c.fr with
  | none => rw [h] at po; exact po.elim
  | some ps0 =>
    rw [h] at po
    obtain ⟨a, vs, e1, h1, _⟩ := rdL_slot rp h
    refine ⟨_, e1, .inl ⟨rfl, _, SqL.of h1⟩, use_bindP tk (Go.refl rp) rfl po fun c1 q u e2 g2 o2 po => ?_⟩
    cases h2 : rdL i c1.fr with
    | none => rw [h2] at po; exact po.elim
    | some ps =>
      rw [h2] at po
      obtain ⟨a', vs', e3, h3, r3, w⟩ := g2.wrL h2
      rw [e2, e1] at e3
      cases e3
      have po' : postE Own X.K ca false c Q W (if ps.length < sizeLine then .ok (.pv .non) (wrL i (ps ++ [q]) c1.fr) else .bad) := po
      by_cases hl : ps.length < sizeLine
      · rw [if_pos hl] at po'
        obtain ⟨F', g3⟩ := w (vs' ++ [u]) (ps ++ [q]) (r3.app ⟨u, [], rfl, o2, rfl⟩)
        exact ⟨a, vs', u, rfl, rfl, h3, by rw [r3.len]; exact hl, po' ⟨c1.S, upd c1.H a (.lst (vs' ++ [u])), c1.σ, wrL i (ps ++ [q]) c1.fr, F'⟩ .non [] rfl e2 g3 ⟨rfl, rfl⟩⟩
      · rw [if_neg hl] at po'; exact po'.elim
/-- xs[e1] = e2 -/
def sSetIx (i : Nat) (ei ev : Fr → O MV) (fr : Fr) : SO := match ev fr with
  | .ok (.pv q) fr1 => (match rdL i fr1 with
    | none => .bad
    | some _ => match ei fr1 with
      | .ok (.pv (.int k)) fr2 => (match rdL i fr2 with
        | some ps => (match ixN ps.length k with | some j => .nx (wrL i (ps.set j q) fr2) | none => .bad)
        | none => .bad)
      | .ok _ _ => .bad
      | .exc x f => .exc x f
      | .bad => .bad)
  | .ok _ _ => .bad
  | .exc x f => .exc x f
  | .bad => .bad
theorem ss_setIx {ix v : Expr} {ei ev : Fr → O MV} {ipos : Pos} (ho : PE X o (tVar i)) (hi : SE X ca false ix ei) (hv : SE X ca false v ev)
    (ha : ∀ v, assign (.Subscript o ix ipos) X.env v = (do
      let ov ← holding [v] (eval o X.env)
      let iv ← holding [v, ov] (eval ix X.env)
      standAt ipos
      holding [v, ov, iv] (setItem ov iv v)
      release [v, ov, iv] []) := by intro _; rfl)
    (hs : swapsWithSole [.Subscript o ix ipos] v pos.line X.env = pure false := by rfl) (hw : swappedStores [.Subscript o ix ipos] v X.env = pure none := by rfl)
    (h1 : (assignEach [.Subscript o ix ipos] X.env).map (·.2) = [assign (.Subscript o ix ipos) X.env] := by rfl) : SS X ca (.Assign [.Subscript o ix ipos] v pos) (sSetIx i ei ev) := by
  refine SS.of (ps_asg hv.pe (pg_sub ho hi.pe set_list ha) hs hw h1) fun W c D tk r p => ?_
  refine useEP (k := fun q fr1 => match rdL i fr1 with
    | none => .bad
    | some _ => match ei fr1 with
      | .ok (.pv (.int k)) fr2 => (match rdL i fr2 with
        | some ps => (match ixN ps.length k with | some j => .nx (wrL i (ps.set j q) fr2) | none => .bad)
        | none => .bad)
      | .ok _ _ => .bad
      | .exc x f => .exc x f
      | .bad => .bad) tk (Go.refl r) p fun c1 q u e1 g1 o1 p => ?_
  cases h : rdL i c1.fr with
  | none => rw [h] at p; exact p.elim
  | some ps0 =>
    rw [h] at p
    obtain ⟨a, vs, e2, _⟩ := rdL_slot g1.rep h
    refine ⟨.ref a, by rw [← e1]; exact e2, ?_⟩
    rw [← e1]
    refine useEP (k := fun k fr2 => match k with
      | .int k => (match rdL i fr2 with
        | some ps => (match ixN ps.length k with | some j => .nx (wrL i (ps.set j q) fr2) | none => .bad)
        | none => .bad)
      | _ => .bad) tk g1 (D0 := D) (p := ?_) fun c2 k w e3 g2 o2 (p : postS X.K ca c D W _) => ?_
    · have p : postS X.K ca c D W (match ei c1.fr with
      | .ok (.pv (.int k)) fr2 => (match rdL i fr2 with
        | some ps => (match ixN ps.length k with | some j => .nx (wrL i (ps.set j q) fr2) | none => .bad)
        | none => .bad)
      | .ok _ _ => .bad
      | .exc x f => .exc x f
      | .bad => .bad) := p
      cases z : ei c1.fr with
      | ok b f =>
        rw [z] at p
        cases b with
        | pv b => cases b <;> exact p
        | _ => exact p
      | exc x f => rw [z] at p; exact p
      | bad => rw [z] at p; exact p
    · cases k <;> try exact p.elim
      rename_i k
      obtain rfl := o2
      have p' : postS X.K ca c D W (match rdL i c2.fr with
        | some ps => (match ixN ps.length k with | some j => .nx (wrL i (ps.set j q) c2.fr) | none => .bad)
        | none => .bad) := p
      cases h2 : rdL i c2.fr with
      | none => rw [h2] at p'; exact p'.elim
      | some ps =>
        rw [h2] at p'
        have p2 : postS X.K ca c D W (match ixN ps.length k with | some j => .nx (wrL i (ps.set j q) c2.fr) | none => .bad) := p'
        obtain ⟨a', vs', e4, h3, r3, w⟩ := (g1.then g2).wrL h2
        rw [e3, e2] at e4
        cases e4
        cases h4 : ixN ps.length k with
        | none => rw [h4] at p2; exact p2.elim
        | some j =>
          rw [h4] at p2
          obtain ⟨F', g3⟩ := w (vs'.set j u) (ps.set j q) (r3.set (o1.mono g2.sS) j)
          refine ⟨a, vs', k, j, rfl, rfl, h3, by rw [r3.len]; exact h4, ?_⟩
          have := p2 ⟨c2.S, upd c2.H a (.lst (vs'.set j u)), c2.σ, wrL i (ps.set j q) c2.fr, F'⟩ rfl g3
          rw [← e3]; exact this
/-- one, other = xs -/
def sUnp (i : Nat) (n : Nat) (t : List PV → Fr → Option Fr) (fr : Fr) : SO := match rdL i fr with
  | some ps => if ps.length = n then (match t ps fr with | some fr1 => .nx fr1 | none => .bad) else .bad
  | none => .bad
theorem ss_unp {es : List Expr} {us : List Nat} {t : List PV → Fr → Option Fr} {n k : Nat} {tpos : Pos} (hc : X.calm = true) (ho : PE X o (tVar i)) (hg : SGs X es us t)
    (hn : (assignEach es X.env).length = n := by rfl) (hst : (assignEach es X.env).findIdx? (·.1) = none := by rfl)
    (hs : swapsWithSole [.Tuple es k tpos] o pos.line X.env = pure false := by rfl) (hw : swappedStores [.Tuple es k tpos] o X.env = pure none := by rfl)
    (h1 : (assignEach [.Tuple es k tpos] X.env).map (·.2) = [assign (.Tuple es k tpos) X.env] := by rfl) : SS X ca (.Assign [.Tuple es k tpos] o pos) (sUnp i n t) := by
  refine SS.of (ps_asg ho (pg_lst hc hg.pgs hn hst) hs hw h1) fun W c D tk r p => ?_
  unfold sUnp at p
  cases h : rdL i c.fr with
  | none => rw [h] at p; exact p.elim
  | some ps =>
    rw [h] at p
    have p' : postS X.K ca c D W (if ps.length = n then (match t ps c.fr with | some fr1 => .nx fr1 | none => .bad) else .bad) := p
    by_cases hl : ps.length = n
    · rw [if_pos hl] at p'
      obtain ⟨a, vs, e1, h1, _, _, r1⟩ := rdL_slot r h
      cases q : t ps c.fr with
      | none => rw [q] at p'; exact p'.elim
      | some fr1 =>
        rw [q] at p'
        exact ⟨.ref a, e1, a, vs, rfl, SqL.of h1, r1.len.trans hl, c, rfl, rfl, r, ps, fr1, r1, q, fun c' y1 _ _ g _ => p' c' y1 g⟩
    · rw [if_neg hl] at p'; exact p'.elim
end

/-! ### list + list -/
def eCatL (i : Nat) (eb : Fr → O MV) (fr : Fr) : O MV := match rdL i fr with
  | none => .bad
  | some _ => (eb fr).bind fun b fr1 => match b, rdL i fr1 with
    | .pl qs, some ps => if ps.length + qs.length ≤ sizeLine then .ok (.pl (ps ++ qs)) fr1 else .bad
    | _, _ => .bad
theorem se_catL {i : Nat} {a b : Expr} {eb : Fr → O MV} {pos : Pos} (ha : PE X a (tVar i)) (hb : SE X ca m b eb) : SE X ca m (.BinOp a .Add b pos) (eCatL i eb) := by
  refine SE.of (pe_op op_cat ha hb.pe) fun W c Q tk rp po => ?_
  unfold eCatL at po
  cases h : rdL i c.fr with
  | none => rw [h] at po; exact po.elim
  | some ps0 =>
    rw [h] at po
    obtain ⟨a, vs, e1, h1, _⟩ := rdL_slot rp h
    refine ⟨_, e1, use_bind tk (Go.refl rp) rfl po fun c1 b v fp e2 g2 o2 po => ?_⟩
    cases b <;> try exact po.elim
    rename_i qs
    cases h2 : rdL i c1.fr with
    | none => rw [h2] at po; exact po.elim
    | some ps =>
      rw [h2] at po
      have po' : postE Own X.K ca m c Q W (if ps.length + qs.length ≤ sizeLine then .ok (.pl (ps ++ qs)) c1.fr else .bad) := po
      obtain ⟨a', vs', e3, h3, _, _, r3⟩ := rdL_slot g2.rep h2
      rw [e2, e1] at e3
      cases e3
      obtain ⟨b, us, rfl, _, h4, _, r4⟩ := o2
      by_cases hl : ps.length + qs.length ≤ sizeLine
      · rw [if_pos hl] at po'
        exact ⟨a, b, vs', us, rfl, rfl, h3, h4, by rw [r3.len, r4.len]; exact hl, fin_new g2.dropAll e2 po' _ (r3.app r4)⟩
      · rw [if_neg hl] at po'; exact po'.elim

/-! ### x in c -/
def flatP : PV → Bool
  | .non => true
  | .bl _ => true
  | .int _ => true
  | .str _ => true
  | _ => false
def toV : PV → V
  | .bl b => .bl b
  | .int i => .int i
  | .str z => .str z
  | _ => .non
def inP (p : PV) (qs : List PV) : Bool := inV (toV p) (qs.map toV)
theorem toV_ok {S : Hp} {p : PV} {v : V} (f : flatP p = true) (r : VR K S p v) : v = toV p ∧ flatV v = true := by
  cases p <;> first | exact absurd (show false = true from f) Bool.false_ne_true | (obtain rfl := r; exact ⟨rfl, rfl⟩)
theorem toVs_ok {S : Hp} : ∀ {ps : List PV} {vs : List V}, ps.all flatP = true → VRL K S ps vs → vs = ps.map toV ∧ vs.all flatV = true
  | [], _, _, r => by obtain rfl := r; exact ⟨rfl, rfl⟩
  | p :: ps, _, f, ⟨v, r, e, h, t⟩ => by
    rw [List.all_cons, Bool.and_eq_true] at f
    obtain ⟨e1, f1⟩ := toV_ok f.1 h
    obtain ⟨e2, f2⟩ := toVs_ok f.2 t
    subst e
    exact ⟨by rw [List.map_cons, ← e1, ← e2], by rw [List.all_cons, f1, f2]; rfl⟩
def gIn : PV → PV → Option PV
  | p, .tup qs => if flatP p = true ∧ qs.all flatP = true then some (.bl (inP p qs)) else none
  | p, .lst qs => if flatP p = true ∧ qs.all flatP = true then some (.bl (inP p qs)) else none
  | _, _ => none
def gNotIn : PV → PV → Option PV
  | p, .tup qs => if flatP p = true ∧ qs.all flatP = true then some (.bl (!inP p qs)) else none
  | p, .lst qs => if flatP p = true ∧ qs.all flatP = true then some (.bl (!inP p qs)) else none
  | _, _ => none
theorem in_use {neg : Bool} {S H : Hp} {p : PV} {qs : List PV} {x : V} {a : Addr} {xs : List V} {Q : VK} (sub : Same S H) (hp : VR K S p x) (ha : SqL K H a xs ∨ SqT K H a xs) (r : VRL K S qs xs)
    (k : VK1 K S H Q (if flatP p = true ∧ qs.all flatP = true then some (.bl (if neg then !inP p qs else inP p qs)) else none)) : rIn K neg x (.ref a) H Q := by
  obtain ⟨⟨f1, f2⟩, k⟩ := k.ite
  obtain ⟨e1, f3⟩ := toV_ok f1 hp
  obtain ⟨e2, f4⟩ := toVs_ok f2 r
  refine ⟨a, xs, rfl, ha, f3, f4, ?_⟩
  subst e1 e2
  exact VK1.here k sub (show VR K S _ _ from rfl)
theorem ops_in : OpS X (compareOp .In) gIn := by
  intro pins s σ H x y v u Q I rx ry ⟨S, p, q, sub, hp, hq, k⟩
  cases q <;> try exact k.bad.elim
  · obtain ⟨a, xs, rfl, ha, r⟩ := hq
    exact op_in_seq pins s σ H x _ v u Q I rx ry (in_use (neg := false) sub hp (.inr (SqT.of (sub _ _ ha))) r k)
  · obtain ⟨a, xs, rfl, ha, r⟩ := hq
    exact op_in_seq pins s σ H x _ v u Q I rx ry (in_use (neg := false) sub hp (.inl (same_sql sub ha)) r k)
theorem ops_notIn : OpS X (compareOp .NotIn) gNotIn := by
  intro pins s σ H x y v u Q I rx ry ⟨S, p, q, sub, hp, hq, k⟩
  cases q <;> try exact k.bad.elim
  · obtain ⟨a, xs, rfl, ha, r⟩ := hq
    exact op_notIn_seq pins s σ H x _ v u Q I rx ry (in_use (neg := true) sub hp (.inr (SqT.of (sub _ _ ha))) r k)
  · obtain ⟨a, xs, rfl, ha, r⟩ := hq
    exact op_notIn_seq pins s σ H x _ v u Q I rx ry (in_use (neg := true) sub hp (.inl (same_sql sub ha)) r k)
/-- e in xs, xs an owned list of a slot -/
def eInL (neg : Bool) (i : Nat) (ea : Fr → O MV) (fr : Fr) : O MV := (ea fr).bindP fun p fr1 => match rdL i fr1 with
  | some qs => opO ((if neg then gNotIn else gIn) p (.lst qs)) fr1
  | none => .bad
def bInL (neg : Bool) (i : Nat) (ea : Fr → O MV) (fr : Fr) : O Bool := (ea fr).bindP fun p fr1 => match rdL i fr1 with
  | some qs => (match (if neg then gNotIn else gIn) p (.lst qs) with | some r => unB r fr1 | none => .bad)
  | none => .bad
theorem inL_use {neg : Bool} {c1 : Cf} {i : Nat} {p : PV} {x : V} {qs : List PV} {Q : VK} (rp : Rep K c1) (h : rdL i c1.fr = some qs) (hp : VR K c1.S p x) (k : VK1 K c1.S c1.H Q ((if neg then gNotIn else gIn) p (.lst qs))) : ∃ y, c1.σ[i]? = some (some y) ∧ rIn K neg x y c1.H Q := by
  obtain ⟨a, vs, e1, h1, _, _, r⟩ := rdL_slot rp h
  refine ⟨.ref a, e1, ?_⟩
  have k' : VK1 K c1.S c1.H Q (if flatP p = true ∧ qs.all flatP = true then some (.bl (if neg then !inP p qs else inP p qs)) else none) := by cases neg <;> exact k
  exact in_use rp.sub hp (.inl (SqL.of h1)) r k'
section
variable {i : Nat} {a b : Expr} {ea : Fr → O MV} {pos : Pos} {op : CmpOp} {neg : Bool}
theorem se_inL' (ho : OpR X (compareOp op) (rIn X.K neg)) (ha : SE X ca m a ea) (hb : PE X b (tVar i)) (hm : behindInMarks op b = false := by first | exact nomark _ | with_unfolding_all rfl) : SE X ca m (.Compare a [op] [b] pos) (eInL neg i ea) := by
  refine SE.of (pe_cmpR ho ha.pe hb hm) fun W c Q tk rp po => ?_
  refine use_bindP tk (Go.refl rp) rfl po fun c1 p x e1 g1 o1 po => ?_
  cases h : rdL i c1.fr with
  | none => rw [h] at po; exact po.elim
  | some qs =>
    rw [h] at po
    obtain ⟨y, e2, k⟩ := inL_use g1.rep h o1 (fin_op g1 e1 po)
    exact ⟨y, by rw [← e1]; exact e2, k⟩
theorem st_inL' (ho : OpR X (compareOp op) (rIn X.K neg)) (ha : SE X ca m a ea) (hb : PE X b (tVar i)) (hm : behindInMarks op b = false := by first | exact nomark _ | with_unfolding_all rfl) : ST X ca m (.Compare a [op] [b] pos) (bInL neg i ea) := by
  refine ST.of (pt_cmpR ho ha.pe hb hm) fun W c Q tk rp po => ?_
  refine useT_bindP tk (Go.refl rp) rfl po fun c1 p x e1 g1 o1 po => ?_
  cases h : rdL i c1.fr with
  | none => rw [h] at po; exact po.elim
  | some qs =>
    rw [h] at po
    obtain ⟨y, e2, k⟩ := inL_use g1.rep h o1 (finT g1 e1 po)
    exact ⟨y, by rw [← e1]; exact e2, k⟩
end
end Sm

namespace Sm
open PySem L2 PySem.Spec PyProof.Rows

/-! ### try with clauses, each with a name or without -/
structure Cl where
  c : Value
  sl : Option Nat
  ts : Addr → Value → Option Addr → TS
def unD (i : Nat) (D : Ends) : Ends := { nx := fun σ' H' => D.nx (σ'.set i none) H', rt := D.rt, bk := fun σ' H' => D.bk (σ'.set i none) H', ct := fun σ' H' => D.ct (σ'.set i none) H' }
def Cl.go (k : Cl) (a : Addr) (cls : Value) (d : Option Addr) (D : Ends) (σ : L2.St) (H : Hp) : Prop := match k.sl with
  | none => k.ts a cls d D σ H
  | some i => k.ts a cls d (unD i D) (σ.set i (some (.ref a))) H
def wCl (K : PySem.W.Frag) (Wout : WX) (D : Ends) : List Cl → WX
  | [] => Wout
  | k :: r => fun cls d σ H => ∃ b, PySem.W.exmOne K cls k.c = some b ∧ (b = true → ∀ a, H a = none → k.go a cls d D σ H) ∧ (b = false → wCl K Wout D r cls d σ H)
def SuOk (X : Cx) (su : List Stmt) (ts : Addr → Value → Option Addr → TS) : Prop := ∀ (a : Addr) (oe : Obj) (cls : Value) (d : Option Addr) (pn : List (Addr × Obj)), Zc cls d oe → (∃ vs, oe.data = .fields vs) → PSs (X.suite a ((a, oe) :: pn)) su (ts a cls d)
inductive ClsOk (X : Cx) : List ExceptHandler → List Cl → Prop
  | nil : ClsOk X [] []
  | bare {x : Str} {c : Value} {ts : Addr → Value → Option Addr → TS} {b : Stmt} {su : List Stmt} {p1 p2 : Pos} {hs : List ExceptHandler} {l : List Cl} (hc : Names X x c) (h : SuOk X (b :: su) ts) (r : ClsOk X hs l) :
      ClsOk X (.ExceptHandler (some (.Name x p1)) none (b :: su) p2 :: hs) (⟨c, none, ts⟩ :: l)
  | as {x n : Str} {c : Value} {i : Nat} {ts : Addr → Value → Option Addr → TS} {b : Stmt} {su : List Stmt} {p1 p2 : Pos} {hs : List ExceptHandler} {l : List Cl} (hi : X.N[i]? = some n) (hn : X.env.kindOf n = some .local) (hc : Names X x c) (h : SuOk X (b :: su) ts) (r : ClsOk X hs l) :
      ClsOk X (.ExceptHandler (some (.Name x p1)) (some n) (b :: su) p2 :: hs) (⟨c, some i, ts⟩ :: l)
section
variable {X : Cx} {pins : List (Addr × Obj)} {D : Ends} {Wout : WX}
/-- what a caught exception is while its clauses are looked at -/
structure Caught (X : Cx) (pins : List (Addr × Obj)) (s' : Shared) (h3 : Heap) (a : Addr) (cls : Value) (d : Option Addr) (σ : L2.St) (H : Hp) (B : Heap) (sI : Shared) : Prop where
  J : Inv X pins σ H sI
  nb : ∀ b o, sI.heap.get? b = some o → b ∉ frs X.stack → B.get? b = some o
  up : sI.heap.UpToSlots h3
  fl : HandSPX.FlyingZ B (X.env :: X.outer) a (Zc cls d) h3
  na : H a = none
  os : s'.os = sI.os
  ag : AllBare s'.gens
theorem Caught.off {s' : Shared} {h3 B : Heap} {a : Addr} {cls : Value} {d : Option Addr} {σ : L2.St} {H : Hp} {sI : Shared} (k : Caught X pins s' h3 a cls d σ H B sI) (hf : X.env.frame = some X.env.locals) (hs : X.stack = X.env :: X.outer) {h : Heap} {o : Obj} {vs : Array Value} (ff : h.FunFrames B (X.env :: X.outer)) (e : h.get? a = some o) (dd : o.data = .fields vs) :
    a ≠ X.env.locals ∧ a ∉ X.fs := by
  have nfr : a ∉ frs (X.env :: X.outer) := fun hm => by
    obtain ⟨_, o', e', hnf⟩ := ff.mem hm
    rw [e] at e'; cases e'
    exact hnf _ dd
  exact ⟨fun z => nfr (List.mem_filterMap.mpr ⟨X.env, List.mem_cons_self, by rw [hf, z]⟩), fun hm => by
    obtain ⟨e, he, q⟩ := List.mem_filterMap.mp hm
    exact nfr (List.mem_filterMap.mpr ⟨e, List.mem_cons_of_mem _ he, q⟩)⟩
theorem clauses_run (hs : X.stack = X.env :: X.outer) (hf : X.env.frame = some X.env.locals) (hN : X.N.Nodup) (tk : Takes X Wout) (ok : X.Ok) {s' : Shared} {h3 B : Heap} {a : Addr} {cls : Value} {d : Option Addr} {σ : L2.St} {H : Hp} {sI : Shared}
    (k : Caught X pins s' h3 a cls d σ H B sI) {hds : List ExceptHandler} {l : List Cl} (hk : ClsOk X hds l) (w : wCl X.K Wout D l cls d σ H) :
    wpAny (model X.prog X.w) X.A (handleBy (.ref a) X.env hds) (SP X pins D) X.xe { s' with heap := h3 } := by
  obtain ⟨oe3, vs3, he3, hz3, hd3⟩ := k.fl.there
  obtain ⟨nL, nF⟩ := k.off hf hs k.fl.2.2.1 he3 hd3
  have J3 : Inv X pins σ H { s' with heap := h3 } := k.J.landed k.nb k.fl.1 k.up k.os k.ag
  have S3 := J3.suite he3 hd3 k.na nL nF
  have LT : PySem.W.Looks (model X.prog X.w) h3 (typeOf (.ref a)) cls := fun A Q E s k q => wpAny_typeOf_ref (k _ _ he3) (by rw [hz3.1]; exact q)
  have test : ∀ {x : Str} {c : Value} {np : Pos} {Q : Value → Shared → Prop} {E : Value → Shared → Prop}, Names X x c → Q c { s' with heap := h3 } → wpAny (model X.prog X.w) (X.A.mark (some (.ref a))) (eval (.Name x np) X.env) Q E { s' with heap := h3 } := fun {x c np Q E} hc q => by
    obtain ⟨hg, hdbg, hm | ⟨hm, hv, hnn⟩⟩ := hc
    · exact ld_glob (X := X.suite a ((a, oe3) :: (X.pn ++ pins))) S3 hg hm q hdbg
    · exact ld_blt (X := X.suite a ((a, oe3) :: (X.pn ++ pins))) S3 hg hm hv q hnn hdbg
  induction hk with
  | nil =>
    refine wpAny_handleBy_nil ?_
    obtain ⟨_, _, _, oe, vs, T, oT, _, he, hz, hd, h1, _⟩ := id k.fl
    unfold PySem.passOn
    refine wpAny_bind (wpAny_field he hd h1 ?_)
    rw [if_neg (show ¬ ((Value.ref T == Value.none) = true) from by simp)]
    have fin : wpAny (model X.prog X.w) X.A (setFlight (.ref a) X.env.frame) (fun _ s4 => wpAny (model X.prog X.w) X.A (throw (.ref a) : Sem Flow) (SP X pins D) X.xe s4) X.xe { s' with heap := h3 } := by
      rw [hf]
      exact HandSPX.setFlight_upZ k.fl fun h4 hh4 up4 => wpAny_throw (tk _ _ ⟨a, B, sI, pins, σ, H, cls, d, rfl, k.J, k.nb, k.up.trans up4, .inr (.inr (by rw [hs]; exact hh4)), k.na, k.os, k.ag, w⟩)
    first
      | exact wpAny_bind (wpAny_pure (wpAny_bind fin))
      | exact wpAny_bind fin
  | @bare x c ts b su p1 p2 hs2 l2 hc h r ih =>
    obtain ⟨v, hb1, hyes, hno⟩ := w
    refine wpAny_handleBy_cons (codeAny_handlers_test ?_) (by intro q; cases q)
    refine test hc ((PySem.W.exm_one (M := model X.prog X.w) (J3.kIn) LT hb1).here ?_)
    cases v with
    | true =>
      refine codeAny_handlers_suite ?_
      refine HandSPX.lands_againZ k.fl fun h4 fl4 up4 => ?_
      have J4 : Inv X pins σ H { s' with heap := h4 } := k.J.landed k.nb fl4.1 (k.up.trans up4) k.os k.ag
      obtain ⟨oe4, vs4, he4, hz4, hd4⟩ := fl4.there
      have S4 := J4.suite he4 hd4 k.na nL nF
      refine wpAny_mono ((h a oe4 cls d (X.pn ++ pins) hz4 ⟨_, hd4⟩).run [] _ _ H _ S4 (hyes rfl a k.na)) (fun f s6 hsp => ?_) (fun _ _ z => False.elim z)
      cases f with
      | next => obtain ⟨σ6, H6, S6, q6⟩ := hsp; exact ⟨_, _, S6.unsuite ok, q6⟩
      | brk => obtain ⟨σ6, H6, S6, q6⟩ := hsp; exact ⟨_, _, S6.unsuite ok, q6⟩
      | cont => obtain ⟨σ6, H6, S6, q6⟩ := hsp; exact ⟨_, _, S6.unsuite ok, q6⟩
      | ret u => obtain ⟨v6, σ6, H6, S6, r6, q6⟩ := hsp; exact ⟨_, _, _, S6.unsuite ok, r6, q6⟩
    | false =>
      show wpAny _ X.A (handleBy (.ref a) X.env hs2) _ _ _
      exact ih (hno rfl)
  | @as x n c i ts b su p1 p2 hs2 l2 hi hn hc h r ih =>
    obtain ⟨v, hb1, hyes, hno⟩ := w
    refine wpAny_handleBy_cons (codeAny_handlers_test ?_) (by intro q; cases q)
    refine test hc ((PySem.W.exm_one (M := model X.prog X.w) (J3.kIn) LT hb1).here ?_)
    cases v with
    | true =>
      refine codeAny_handlers_suite_as ?_
      refine HandSPX.lands_againZ k.fl fun h4 fl4 up4 => ?_
      have J4 : Inv X pins σ H { s' with heap := h4 } := k.J.landed k.nb fl4.1 (k.up.trans up4) k.os k.ag
      obtain ⟨oe4, vs4, he4, hz4, hd4⟩ := fl4.there
      have S4 := J4.suite he4 hd4 k.na nL nF
      refine store_ok (X := X.suite a ((a, oe4) :: (X.pn ++ pins))) (v := .ref a) S4 hN hi (.inl hn) rfl (fun s5 S5 => ?_) (.inr hn)
      refine wpAny_mono ((h a oe4 cls d (X.pn ++ pins) hz4 ⟨_, hd4⟩).run [] s5 _ H (unD i D) S5 (hyes rfl a k.na)) (fun f s6 hsp => ?_) (fun _ _ z => False.elim z)
      have end_ : ∀ {σ6 : L2.St} {H6 : Hp} {Q : Shared → Prop}, Inv (X.suite a ((a, oe4) :: (X.pn ++ pins))) [] σ6 H6 s6 → (∀ s7, Inv X pins (σ6.set i none) H6 s7 → Q s7) →
          wpAny (model X.prog X.w) X.A (do bindName X.env n .none; unbindBehindTheSuite X.env n p2) (fun _ s7 => Q s7) X.xe s6 := fun {σ6 H6 Q} S6 hq => gone_ok (S6.unsuite ok) hN hi hn hq
      cases f with
      | next => obtain ⟨σ6, H6, S6, q6⟩ := hsp; exact end_ S6 fun s7 J7 => ⟨_, _, J7, q6⟩
      | brk => obtain ⟨σ6, H6, S6, q6⟩ := hsp; exact end_ S6 fun s7 J7 => ⟨_, _, J7, q6⟩
      | cont => obtain ⟨σ6, H6, S6, q6⟩ := hsp; exact end_ S6 fun s7 J7 => ⟨_, _, J7, q6⟩
      | ret u => obtain ⟨v6, σ6, H6, S6, r6, q6⟩ := hsp; exact end_ S6 fun s7 J7 => ⟨_, _, _, J7, r6, q6⟩
    | false =>
      show wpAny _ X.A (handleBy (.ref a) X.env hs2) _ _ _
      exact ih (hno rfl)
theorem ps_try_cl {body : List Stmt} {h₀ : ExceptHandler} {hds : List ExceptHandler} {l : List Cl} {pos : Pos} {tb : WX → TS} (hs : X.stack = X.env :: X.outer) (hf : X.env.frame = some X.env.locals) (hN : X.N.Nodup) (tk : Takes X Wout)
    (hb : ∀ (W : WX) (pn : List (Addr × Obj)) (xe : Value → Shared → Prop), Takes (X.tr pn xe) W → PassesOwn (model X.prog X.w) X.A X.env xe → PSs (X.tr pn xe) body (tb W))
    (hh : ClsOk X (h₀ :: hds) l) : PS X (.Try body (h₀ :: hds) [] [] pos) (fun D σ H => tb (wCl X.K Wout D l) D σ H) := by
  refine ⟨fun pins s σ H D I h => ?_⟩
  have ok := I.ok
  have hfr : X.A.frames = some (X.env :: X.outer) := by rw [ok.frames, hs]
  refine wpAny_Try_except ?_
  refine wpAny_mono ((hb (wCl X.K Wout D l) (X.pn ++ pins) (fun e s₁ => wpAny (model X.prog X.w) X.A (noteFrame e X.env) (fun _ s₂ => wpAny (model X.prog X.w) X.A (setFlight e none) (fun _ s₃ =>
    wpAny (model X.prog X.w) X.A (handleBy e X.env (h₀ :: hds)) (SP X pins D) X.xe s₃) X.xe s₂) X.xe s₁) (fun u s' xx => ?_) PassesOwn.looking).run [] s σ H D (I.toTry _) h) (fun f s1 hsp => ?_) (fun e s1 he => he)
  · obtain ⟨a, B, sI, pins', σ', H', cls, d, rfl, J', nb, up, sky, na, os, ag, w⟩ := xx
    show wpAny (model X.prog X.w) X.A (noteFrame (.ref a) X.env) _ _ _
    exact Sky.land Zc.steady hfr hf (by rw [← hs]; exact sky) fun h3 fl3 up3 => clauses_run hs hf hN tk ok ⟨J'.ofTry ok, nb, up.trans up3, fl3, na, os, ag⟩ hh w
  · cases f with
    | next => obtain ⟨σ', H', J', q⟩ := hsp; exact wpAny_execs_nil ⟨σ', H', J'.ofTry ok, q⟩
    | brk => obtain ⟨σ', H', J', q⟩ := hsp; exact ⟨σ', H', J'.ofTry ok, q⟩
    | cont => obtain ⟨σ', H', J', q⟩ := hsp; exact ⟨σ', H', J'.ofTry ok, q⟩
    | ret u => obtain ⟨v, σ', H', J', r, q⟩ := hsp; exact ⟨v, σ', H', J'.ofTry ok, r, q⟩
end
end Sm

namespace Sm
open PySem L2 PyProof.Rows
variable {K : PySem.W.Frag} {X : Cx} {ca : Nat → Addr} {m : Bool}

/-! ### an own exception class with an __init__ of field stores -/
/-- what __init__ does: the fields are laid -/
def spInit (C : Addr) (ks : List Str) : Sp := fun vs H Q E => ∃ a top_args, vs = .ref a :: top_args ∧ top_args.length = ks.length ∧ H a = some (exo a C none) ∧ ∀ d, H d = none → d ≠ a → ∀ fs : List (Str × V), (∀ f, fs.lookup f = (ks.zip top_args).lookup f) → Q .non (upd (upd H d (exd d fs)) a (exo a C (some d)))
structure OwnExc (X : Cx) (x : Str) (C : Addr) (k : Nat) (ks : List Str) : Prop where
  ex : ∃ fI fd ps, OexC X.K C ∧ PySem.W.findIn X.K (.ref C) "__init__" = some (some (.ref fI)) ∧ PySem.W.typeIn X.K (.ref fI) = some (.type "function") ∧ FnOk X.prog X.w X.K X.mg X.base (L2.CX X.prog X.w) k fI fd ps (spInit C ks) ∧ Binds X.K fd ps [] ∧ Room (k + 1) X.A ∧ X.mg x = some (.ref C)
  few : ks.length ≤ 900

/-- C(..) is raised -/
def sRaise (cls : Nat) (ks : List Str) (ea : Fr → O (List PV)) (fr : Fr) : SO := match ea fr with
  | .ok ps fr1 => if ps.length = ks.length then .exc ⟨cls, ks, ps⟩ fr1 else .bad
  | .exc x f => .exc x f
  | .bad => .bad
theorem useAS {ev : Fr → O (List PV)} {k : List PV → Fr → SO} {W : WX} (tk : Takes X W) {c0 c : Cf} (g0 : Go X.K false c0 [] c) {D0 : Ends} {Q : List V → Hp → Prop} (p : postS X.K ca c0 D0 W (match ev c.fr with | .ok a fr1 => k a fr1 | .exc x f => .exc x f | .bad => .bad))
    (h : ∀ c' ps vs, c'.σ = c.σ → Go X.K false c [] c' → VRL X.K c'.S ps vs → postS X.K ca c0 D0 W (k ps c'.fr) → Q vs c'.H) : tAr X ca false ev c.σ c.H Q := by
  refine ⟨W, tk, c, rfl, rfl, g0.rep, ?_⟩
  cases q : ev c.fr with
  | ok a fr => rw [q] at p; intro c' vs e1 e2 g o; subst e1; exact h c' a vs e2 g o p
  | exc x fr => rw [q] at p; intro c' d e1 e2 g o; exact p c' d e1 (g0.then g) o
  | bad => rw [q] at p; exact p.elim
theorem ss_raise {x : Str} {C : Addr} {k cls : Nat} {ks : List Str} {p pos rpos : Pos} {e : Expr} {es : List Expr} {ea : Fr → O (List PV)} (T : OwnExc X x C k ks) (hca : ca cls = C) (hc : X.calm = true) (hg : Gl X x) (ha : SA X ca false (e :: es) ea) (hx : Passes (L2.CX X.prog X.w) X (fun _ _ _ => False))
    (hdb : (x == ("__debug__" : Str)) = false := by decide) (he : starEach (e :: es) X.env = (false, eval e X.env) :: starEach es X.env := by rfl) (hpl : (backTo pos (starEach es X.env)).any (·.1) = false := by rfl) :
    SS X ca (.Raise (some (.Call (.Name x p) (e :: es) [] pos)) none rpos) (sRaise cls ks ea) := by
  obtain ⟨fI, fd, ps, T1, iC, tI, F1, hb, hr, hm⟩ := T.ex
  refine ⟨⟨fun pins sh σ H D I ⟨W, tk, c, e1, e2, r, po⟩ => ?_⟩⟩
  subst e1 e2
  refine (ps_raise hc tk (pmk_oex (dvs := []) T1 iC tI F1 hr hb .nil hx hg hm ha.pa hdb he hpl)).run pins sh c.σ c.H D I ?_
  refine useAS (k := fun ps fr1 => if ps.length = ks.length then .exc ⟨cls, ks, ps⟩ fr1 else .bad) tk (Go.refl r) po fun c1 ps vs e1 g1 o1 po => ?_
  by_cases hl : ps.length = ks.length
  · rw [if_pos hl] at po
    have hvl : vs.length = ks.length := o1.len.trans hl
    refine ⟨by have := T.few; omega, fun a ha => ⟨a, vs, by rw [List.append_nil], hvl, upd_same, fun d hd hda fs hfs => ⟨rfl, d, fs, upd_same, by rw [upd_ne hda, upd_same], by rw [upd_ne hda] at hd; exact hd, ?_⟩⟩⟩
    rw [upd_ne hda] at hd
    have eH : upd (del (upd (upd (upd c1.H a (exo a C none)) d (exd d fs)) a (exo a C (some d))) a) d (.xd fs) = upd c1.H d (.xd fs) := by
      funext b
      by_cases hb : b = d
      · subst hb; rw [upd_same, upd_same]
      · rw [upd_ne hb, upd_ne hb]
        by_cases hb2 : b = a
        · subst hb2; rw [del_same, ha]
        · rw [del_ne hb2, upd_ne hb2, upd_ne hb, upd_ne hb2]
    rw [eH, ← hca, ← e1]
    have g2 := g1.rep.laidS hd (.xd fs) false
    have sS := g2.sS
    exact po ⟨upd c1.S d (.xd fs), upd c1.H d (.xd fs), c1.σ, c1.fr, c1.F⟩ d rfl (g1.then g2) ⟨vs, fs, upd_same, hfs, o1.mono sS⟩
  · rw [if_neg hl] at po; exact po.elim

theorem pv (i : Nat) {x : Str} {pos : Pos} (hN : X.N[i]? = some x := by rfl) (hv : Vis X.env.scope x := by first | exact Or.inl rfl | exact Or.inr (Or.inl rfl) | exact Or.inr (Or.inr rfl)) (hd : (x == ("__debug__" : Str)) = false := by decide)
    (hc : (x == ("__classdict__" : Str)) = false := by decide) : PE X (.Name x pos) (tVar i) := pe_var hN hv hd hc
theorem init1 {P : Program} {w : World} {mg : Str → Option Value} {base : Heap} {x qual f : Str} {st : Stmt} {fI C : Addr} {fd : FuncData} {N ps : List Str} {k : Nat} (F : Fun K x qual st fI fd) (S : FnScope N ps (defScope st)) (hp : ps.length = 2) (T : OexC K C) (hno : PySem.W.findIn K (.ref C) f = some none)
    (hb : ∀ (cdv : Value) (A : Around) (outer : List Env) (sh : Shared) (H : Hp) (E : XK), PSs (cxOf (L2.CX P w) P w K mg base N qual (defScope st) fI cdv A outer sh H E) (defBody st) (tOst K f (tVar 0) (tVar 1))) :
    FnOk P w K mg base (L2.CX P w) (k + 1) fI fd ps (spInit C [f]) := by
  refine F.okX S (fun vs H Q E ⟨a, top_args, e, hl, _⟩ => by rw [e, hp, List.length_cons, hl]; rfl) fun cdv A outer sh H vs Q E hr ⟨a, top_args, e, hl, ea, q⟩ => ?_
  subst e
  match top_args, hl with
  | [y], _ =>
    refine ⟨_, hb cdv A outer sh H E, y, rfl, .ref a, rfl, a, C, rfl, T, hno, .inl ⟨ea, fun dx h1 h2 => q dx h1 h2 [(f, y)] fun _ => rfl⟩⟩

/-! ### try -/
structure ClF where
  sl : Option Nat
  mt : Nat → Option Bool
  run : Ex → Fr → SO
def noE : SO → SO
  | .exc _ _ => .bad
  | o => o
def freeC (o : Option Nat) (fr : Fr) : Bool := match o with | none => true | some i => free? fr i
def clF : List ClF → Ex → Fr → SO
  | [], x, fr => .exc x fr
  | k :: r, x, fr => match k.mt x.cls with
    | some true => if freeC k.sl fr = true then noE (k.run x fr) else .bad
    | some false => clF r x fr
    | none => .bad
def unI (i : Nat) : SO → SO
  | .nx f => if plainOwn f [i] = true then .nx (wipeF f [i]) else .bad
  | .rt r f => if plainOwn f [i] = true then .rt r (wipeF f [i]) else .bad
  | .bk f => if plainOwn f [i] = true then .bk (wipeF f [i]) else .bad
  | .ct f => if plainOwn f [i] = true then .ct (wipeF f [i]) else .bad
  | _ => .bad
def xS (a d : Addr) (x : Ex) : Sl := .ow (.pv (.xcp a d x.cls x.fs.1 x.fs.2))
inductive ClOkF (X : Cx) (ca : Nat → Addr) : List ExceptHandler → List ClF → List Value → Prop
  | nil : ClOkF X ca [] [] []
  | bare {x : Str} {c : Value} {mt : Nat → Option Bool} {run : Ex → Fr → SO} {b : Stmt} {su : List Stmt} {p1 p2 : Pos} {hs : List ExceptHandler} {l : List ClF} {cs : List Value} (hc : Names X x c) (hm : ∀ n b, mt n = some b → PySem.W.exmOne X.K (.ref (ca n)) c = some b)
      (h : ∀ (x : Ex), mt x.cls = some true → ∀ (a : Addr) (oe : Obj) (cls : Value) (d : Option Addr) (pn : List (Addr × Obj)), Zc cls d oe → (∃ vs, oe.data = .fields vs) → SSs (X.suite a ((a, oe) :: pn)) ca (b :: su) (run x)) (r : ClOkF X ca hs l cs) :
      ClOkF X ca (.ExceptHandler (some (.Name x p1)) none (b :: su) p2 :: hs) (⟨none, mt, run⟩ :: l) (c :: cs)
  | as {x n : Str} {c : Value} {i : Nat} {mt : Nat → Option Bool} {run : Ex → Fr → SO} {b : Stmt} {su : List Stmt} {p1 p2 : Pos} {hs : List ExceptHandler} {l : List ClF} {cs : List Value} (hi : X.N[i]? = some n) (hn : X.env.kindOf n = some .local) (hc : Names X x c)
      (hm : ∀ n b, mt n = some b → PySem.W.exmOne X.K (.ref (ca n)) c = some b)
      (h : ∀ (x : Ex), mt x.cls = some true → ∀ (a : Addr) (oe : Obj) (d : Addr) (pn : List (Addr × Obj)), Zc (.ref (ca x.cls)) (some d) oe → (∃ vs, oe.data = .fields vs) →
        ∃ s, SSs (X.suite a ((a, oe) :: pn)) ca (b :: su) s ∧ ∀ fr, run x fr = .bad ∨ (free? fr i = true ∧ unI i (s (fr.set i (xS a d x))) = run x fr)) (r : ClOkF X ca hs l cs) :
      ClOkF X ca (.ExceptHandler (some (.Name x p1)) (some n) (b :: su) p2 :: hs) (⟨some i, mt, run⟩ :: l) (c :: cs)
def noX : WX := fun _ _ _ _ => False
def ClF.ts (K : PySem.W.Frag) (ca : Nat → Addr) (k : ClF) : Addr → Value → Option Addr → TS := fun a cls d D σ H => ∃ (c : Cf) (x : Ex), c.σ = σ ∧ c.H = H ∧ Rep K c ∧ k.mt x.cls = some true ∧ match k.sl with
  | none => postS K ca c D noX (k.run x c.fr)
  | some i => ∃ (fr : Fr) (dd : Addr), cls = .ref (ca x.cls) ∧ d = some dd ∧ c.fr = fr.set i (xS a dd x) ∧ k.run x fr ≠ .bad ∧ ∀ s : Fr → SO, unI i (s c.fr) = k.run x fr → postS K ca c D noX (s c.fr)
def ClF.cl (K : PySem.W.Frag) (ca : Nat → Addr) (k : ClF) (c : Value) : Cl := ⟨c, k.sl, k.ts K ca⟩
theorem ClOkF.ok {hds : List ExceptHandler} {l : List ClF} {cs : List Value} (h : ClOkF X ca hds l cs) : ClsOk X hds (List.zipWith (ClF.cl X.K ca) l cs) := by
  induction h with
  | nil => exact .nil
  | @bare x c mt run b su p1 p2 hs l cs hc hm h r ih =>
    refine .bare hc (fun a oe cls d pn hz hf => ⟨fun pins sh σ H D I ⟨c1, x1, e1, e2, rp, hx, po⟩ => ?_⟩) ih
    subst e1 e2
    exact (h x1 hx a oe cls d pn hz hf).ps.run pins sh c1.σ c1.H D I ⟨_, takes_none5, c1, rfl, rfl, rp, po⟩
  | @as x n c i mt run b su p1 p2 hs l cs hi hn hc hm h r ih =>
    refine .as hi hn hc (fun a oe cls d pn hz hf => ⟨fun pins sh σ H D I ⟨c1, x1, e1, e2, rp, hx, fr, dd, ec, ed, ef, nb, po⟩ => ?_⟩) ih
    subst e1 e2 ec ed
    obtain ⟨s, hs1, hs2⟩ := h x1 hx a oe dd pn hz hf
    refine hs1.ps.run pins sh c1.σ c1.H D I ⟨_, takes_none5, c1, rfl, rfl, rp, po s ?_⟩
    rcases hs2 fr with z | ⟨_, z⟩
    · exact absurd z nb
    · rw [ef]; exact z
theorem free_of {i : Nat} {fr fr' : Fr} (h : free? fr' i = true) (hp : ∀ q, fr[i]? = some (.pr q) → ∃ q', fr'[i]? = some (.pr q')) : ∀ q, fr[i]? ≠ some (.pr q) := fun q e => by
  obtain ⟨q', e'⟩ := hp q e
  unfold free? at h
  rw [e'] at h
  cases h
theorem unI_post {c c2 : Cf} {i : Nat} {D : Ends} {W : WX} {o r : SO} (g : Go K false c [] c2) (hn : ∀ j ∈ [i], ∀ q, c.fr[j]? ≠ some (.pr q)) (po : postS K ca c D W r) (e : unI i o = r) : postS K ca c2 (unD i D) noX o := by
  subst e
  cases o with
  | nx f =>
    intro c3 e3 g3
    subst e3
    have po' : postS K ca c D W (if plainOwn c3.fr [i] = true then .nx (wipeF c3.fr [i]) else .bad) := po
    by_cases h : plainOwn c3.fr [i] = true
    · rw [if_pos h] at po'
      exact po' ⟨c3.S, c3.H, wipe c3.σ [i], wipeF c3.fr [i], c3.F⟩ rfl ((g.then g3).wiped h hn)
    · rw [if_neg h] at po'; exact po'.elim
  | bk f =>
    intro c3 e3 g3
    subst e3
    have po' : postS K ca c D W (if plainOwn c3.fr [i] = true then .bk (wipeF c3.fr [i]) else .bad) := po
    by_cases h : plainOwn c3.fr [i] = true
    · rw [if_pos h] at po'
      exact po' ⟨c3.S, c3.H, wipe c3.σ [i], wipeF c3.fr [i], c3.F⟩ rfl ((g.then g3).wiped h hn)
    · rw [if_neg h] at po'; exact po'.elim
  | ct f =>
    intro c3 e3 g3
    subst e3
    have po' : postS K ca c D W (if plainOwn c3.fr [i] = true then .ct (wipeF c3.fr [i]) else .bad) := po
    by_cases h : plainOwn c3.fr [i] = true
    · rw [if_pos h] at po'
      exact po' ⟨c3.S, c3.H, wipe c3.σ [i], wipeF c3.fr [i], c3.F⟩ rfl ((g.then g3).wiped h hn)
    · rw [if_neg h] at po'; exact po'.elim
  | rt r f =>
    intro c3 v fp e3 g3 ow
    subst e3
    have po' : postS K ca c D W (if plainOwn c3.fr [i] = true then .rt r (wipeF c3.fr [i]) else .bad) := po
    by_cases h : plainOwn c3.fr [i] = true
    · rw [if_pos h] at po'
      exact po' ⟨c3.S, c3.H, wipe c3.σ [i], wipeF c3.fr [i], c3.F⟩ v fp rfl ((g.then g3).wiped h hn) ow
    · rw [if_neg h] at po'; exact po'.elim
  | exc x f => exact po.elim
  | bad => exact po.elim
theorem noE_ite {p : Prop} [Decidable p] {a : SO} (h : noE a = a) : noE (if p then a else .bad) = if p then a else .bad := by
  split
  · exact h
  · rfl
theorem clF_post {hds : List ExceptHandler} {l : List ClF} {cs : List Value} (h : ClOkF X ca hds l cs) {c c1 : Cf} {D : Ends} {Wout : WX} {x : Ex} {d : Addr} (g : Go X.K false c [] c1) (xd : XdR X.K c1.S c1.H x.fs d) (po : postS X.K ca c D Wout (clF l x c1.fr)) :
    wCl X.K Wout D (List.zipWith (ClF.cl X.K ca) l cs) (.ref (ca x.cls)) (some d) c1.σ c1.H := by
  induction h with
  | nil => exact po c1 d rfl g xd
  | @bare x' c' mt run b su p1 p2 hs l cs hc hm h r ih =>
    have po' : postS X.K ca c D Wout (match mt x.cls with | some true => if freeC none c1.fr = true then noE (run x c1.fr) else .bad | some false => clF l x c1.fr | none => .bad) := po
    cases e : mt x.cls with
    | none => rw [e] at po'; exact po'.elim
    | some k =>
      rw [e] at po'
      refine ⟨k, hm _ _ e, fun hk a na => ?_, fun hk => ?_⟩
      · subst hk
        refine ⟨c1, x, rfl, rfl, g.rep, e, ?_⟩
        have po2 : postS X.K ca c1 D Wout (noE (run x c1.fr)) := postS.after g po'
        show postS X.K ca c1 D noX (run x c1.fr)
        revert po2
        generalize run x c1.fr = o
        intro po2
        cases o <;> first | exact po2 | exact False.elim po2
      · subst hk
        exact ih po'
  | @as x' n c' i mt run b su p1 p2 hs l cs hi hn hc hm h r ih =>
    have po' : postS X.K ca c D Wout (match mt x.cls with | some true => if freeC (some i) c1.fr = true then noE (run x c1.fr) else .bad | some false => clF l x c1.fr | none => .bad) := po
    cases e : mt x.cls with
    | none => rw [e] at po'; exact po'.elim
    | some k =>
      rw [e] at po'
      refine ⟨k, hm _ _ e, fun hk a na => ?_, fun hk => ?_⟩
      · subst hk
        have po1 : postS X.K ca c D Wout (if freeC (some i) c1.fr = true then noE (run x c1.fr) else .bad) := po'
        have hfree : free? c1.fr i = true := by
          by_cases h : freeC (some i) c1.fr = true
          · exact h
          · rw [if_neg h] at po1; exact po1.elim
        have po2 : postS X.K ca c D Wout (noE (run x c1.fr)) := by rw [if_pos (show freeC (some i) c1.fr = true from hfree)] at po1; exact po1
        have nb : run x c1.fr ≠ .bad := fun z => by rw [z] at po2; exact po2
        obtain ⟨vs, xs, hS, hl, hr⟩ := xd
        obtain ⟨F', g2⟩ := g.store (mv := .pv (.xcp a d x.cls x.fs.1 x.fs.2)) (v := .ref a) (i := i) ⟨rfl, vs, xs, rfl, hS, hl, hr⟩ hfree
        have hn2 : ∀ j ∈ [i], ∀ q, c.fr[j]? ≠ some (.pr q) := fun j hj => by
          cases List.mem_singleton.mp hj
          exact free_of hfree fun q e => (g.pr _ q e).2
        refine ⟨⟨c1.S, c1.H, c1.σ.set i (some (.ref a)), c1.fr.set i (xS a d x), F'⟩, x, rfl, rfl, g2.rep, e, c1.fr, d, rfl, rfl, rfl, nb, fun s hs => ?_⟩
        have po3 : postS X.K ca c D Wout (run x c1.fr) := by
          have hs' : unI i (s (c1.fr.set i (xS a d x))) = run x c1.fr := hs
          rw [← hs'] at po2 ⊢
          revert po2
          generalize s _ = o
          intro po2
          have key : ∀ r, unI i o = r → noE r = r := fun r e => by
            subst e
            cases o <;> first | rfl | exact noE_ite rfl
          rw [key _ rfl] at po2
          exact po2
        exact unI_post g2 hn2 po3 hs
      · subst hk
        exact ih po'
/-- try: .. except ..: .. -/
def sTry (b : Fr → SO) (l : List ClF) (fr : Fr) : SO := match b fr with
  | .exc x fr1 => clF l x fr1
  | o => o
theorem ss_try {body : List Stmt} {h₀ : ExceptHandler} {hds : List ExceptHandler} {l : List ClF} {cs : List Value} {b : Fr → SO} {pos : Pos} (hs : X.stack = X.env :: X.outer) (hf : X.env.frame = some X.env.locals) (hN : X.N.Nodup)
    (hb : ∀ (pn : List (Addr × Obj)) (xe : Value → Shared → Prop), PassesOwn (model X.prog X.w) X.A X.env xe → SSs (X.tr pn xe) ca body b) (hh : ClOkF X ca (h₀ :: hds) l cs) : SS X ca (.Try body (h₀ :: hds) [] [] pos) (sTry b l) := by
  refine ⟨⟨fun pins sh σ H D I ⟨W, tk, c, e1, e2, r, po⟩ => ?_⟩⟩
  subst e1 e2
  refine (ps_try_cl (tb := fun W D σ H => ∃ c : Cf, c.σ = σ ∧ c.H = H ∧ Rep X.K c ∧ postS X.K ca c D W (b c.fr)) hs hf hN tk (fun W pn xe tk2 po => ⟨fun pins sh σ H D I ⟨c, e1, e2, r, p⟩ => ?_⟩) hh.ok).run pins sh c.σ c.H D I ?_
  · exact (hb pn xe po).ps.run pins sh σ H D I ⟨W, tk2, c, e1, e2, r, p⟩
  · refine ⟨c, rfl, rfl, r, ?_⟩
    unfold sTry at po
    cases q : b c.fr with
    | exc x fr1 =>
      rw [q] at po
      intro c1 d e g xd
      subst e
      exact clF_post hh g xd po
    | nx f => rw [q] at po; exact po
    | rt r f => rw [q] at po; exact po
    | bk f => rw [q] at po; exact po
    | ct f => rw [q] at po; exact po
    | bad => rw [q] at po; exact po.elim
end Sm

namespace Sm
open PySem L2 PyProof.Rows
variable {K : PySem.W.Frag} {X : Cx} {ca : Nat → Addr} {m : Bool}

/-! ### the field of a caught exception -/
def eXf (i : Nat) (a d : Addr) (n : Str) (fr : Fr) : O MV := match fr[i]? with
  | some (.ow (.pv (.xcp a' d' _ ks ps))) => if a' = a ∧ d' = d then opO ((ks.zip ps).lookup n) fr else .bad
  | _ => .bad
theorem zip_lookup {S : Hp} {f : Str} {p : PV} : ∀ {ks : List Str} {ps : List PV} {vs : List V}, VRL K S ps vs → (ks.zip ps).lookup f = some p → ∃ v, (ks.zip vs).lookup f = some v ∧ VR K S p v
  | [], _, _, _, h => by cases h
  | _ :: _, [], _, _, h => by cases h
  | k :: ks, q :: ps, vs, r, h => by
    obtain ⟨x, rr, e, h1, h2⟩ := r
    subst e
    rw [List.zip_cons_cons, List.lookup_cons] at h ⊢
    cases e : f == k with
    | true => rw [e] at h; cases h; exact ⟨x, rfl, h1⟩
    | false => rw [e] at h; exact zip_lookup h2 h
theorem se_xf {a C d : Addr} {oe : Obj} {pn : List (Addr × Obj)} {e : Expr} {i : Nat} {pos : Pos} {n : Str} (T : XfC X.K C) (hno : PySem.W.findIn X.K (.ref C) n = some none) (hz : Zc (.ref C) (some d) oe) (hf : ∃ vs, oe.data = .fields vs)
    (he : PE (X.suite a ((a, oe) :: pn)) e (tVar i)) (hb : attributeBase e n X.env (eval e X.env) = eval e X.env := by rfl) : SE (X.suite a ((a, oe) :: pn)) ca m (.Attribute e n pos) (eXf i a d n) := by
  refine SE.of (pe_xf T hno hz hf he hb) fun W c Q tk rp po => ?_
  unfold eXf at po
  split at po
  · rename_i a' d' cls ks ps hs
    by_cases h : a' = a ∧ d' = d
    · rw [if_pos h] at po
      obtain ⟨rfl, rfl⟩ := h
      obtain ⟨v, f, e1, ⟨_, xs, fs, ev, hS, hl, hr⟩, _⟩ := rp.slot (.inl hs)
      subst ev
      cases hk : (ks.zip ps).lookup n with
      | none => rw [hk] at po; exact po.elim
      | some p =>
        rw [hk] at po
        obtain ⟨y, ey, ry⟩ := zip_lookup hr hk
        exact ⟨_, e1, rfl, rfl, d', fs, y, rfl, rp.sub _ _ hS, (hl n).trans ey, fin_here (Go.refl rp) rfl po ry⟩
    · rw [if_neg h] at po; exact po.elim
  · exact po.elim

/-! ### slices -/
def pt (o : Option (Fr → O MV)) (fr : Fr) : O (Option Int) := match o with
  | none => .ok none fr
  | some ev => (ev fr).bindP fun p fr1 => match p with | .int i => .ok (some i) fr1 | _ => .bad
inductive SPt (X : Cx) (ca : Nat → Addr) (m : Bool) : Option Expr → Option (Fr → O MV) → Prop
  | none : SPt X ca m none none
  | some {e : Expr} {ev : Fr → O MV} (h : SE X ca m e ev) : SPt X ca m (some e) (some ev)
theorem part_use {e : Option Expr} {o : Option (Fr → O MV)} (h : SPt X ca m e o) : ∃ t, PO X e t ∧ ∀ {W : WX} {c0 c : Cf} {Q0 : VK} {Q : Option Int → Hp → Prop} {k : Option Int → Fr → O MV}, Takes X W → Go X.K m c0 [] c → c.σ = c0.σ → postE Own X.K ca m c0 Q0 W ((pt o c.fr).bind k) →
    (∀ c' l, c'.σ = c.σ → Go X.K m c [] c' → postE Own X.K ca m c0 Q0 W (k l c'.fr) → Q l c'.H) → t c.σ c.H Q := by
  cases h with
  | none => exact ⟨_, po_none, fun tk g hσ po q => q _ none rfl (Go.refl g.rep) po⟩
  | @some e ev h =>
    refine ⟨_, po_some h.pe, fun {W c0 c Q0 Q k} tk g hσ po q => ?_⟩
    refine use_bindP (k := fun p fr1 => match p with | .int i => k (some i) fr1 | _ => .bad) (Ow := Own) tk g hσ (Q0 := Q0) (p := ?_) fun c1 p v e1 g1 o1 po => ?_
    · unfold pt at po
      cases z : ev c.fr with
      | ok a fr =>
        have po : postE Own X.K ca m c0 Q0 W (((ev c.fr).bindP fun p fr1 => match p with | .int i => .ok (some i) fr1 | _ => .bad).bind k) := po
        rw [z] at po
        cases a with
        | pv p => cases p <;> exact po
        | _ => exact po
      | exc x fr =>
        have po : postE Own X.K ca m c0 Q0 W (((ev c.fr).bindP fun p fr1 => match p with | .int i => .ok (some i) fr1 | _ => .bad).bind k) := po
        rw [z] at po; exact po
      | bad =>
        have po : postE Own X.K ca m c0 Q0 W (((ev c.fr).bindP fun p fr1 => match p with | .int i => .ok (some i) fr1 | _ => .bad).bind k) := po
        rw [z] at po; exact po
    · cases p <;> try exact po.elim
      obtain rfl := o1
      exact ⟨_, rfl, q c1 _ e1 g1 po⟩
def cutP (ps : List PV) (lo hi : Option Int) : List PV := (ps.drop (HT.sIx ps.length 0 lo)).take (HT.sIx ps.length ps.length hi - HT.sIx ps.length 0 lo)
theorem cut_rel {S : Hp} {ps : List PV} {xs : List V} (r : VRL K S ps xs) (lo hi : Option Int) : VRL K S (cutP ps lo hi) (cutV xs lo hi) := by
  unfold cutP cutV
  rw [r.len]
  exact (r.drop _).take _
def gSl (p : PV) (lo hi : Option Int) : Option PV := match p with
  | .tup ps => some (.tup (cutP ps lo hi))
  | _ => none
/-- t[lo:hi], t a tuple -/
def eSl (ea : Fr → O MV) (lo hi : Option (Fr → O MV)) (fr : Fr) : O MV := (ea fr).bindP fun p fr1 => (pt lo fr1).bind fun l fr2 => (pt hi fr2).bind fun h fr3 => opO (gSl p l h) fr3
theorem se_sl {e : Expr} {lo hi : Option Expr} {ea : Fr → O MV} {elo ehi : Option (Fr → O MV)} {pos p2 : Pos} (ha : SE X ca m e ea) (hl : SPt X ca m lo elo) (hh : SPt X ca m hi ehi) : SE X ca m (.Subscript e (.Slice lo hi none p2) pos) (eSl ea elo ehi) := by
  obtain ⟨t1, h1, k1⟩ := part_use hl
  obtain ⟨t2, h2, k2⟩ := part_use hh
  refine SE.of (pe_slice sl_tupA ha.pe h1 h2) fun W c Q tk rp po => ?_
  refine use_bindP tk (Go.refl rp) rfl po fun c1 p v e1 g1 o1 po => ?_
  rw [← e1]
  refine k1 tk g1 e1 po fun c2 l e2 g2 po => ?_
  rw [← e2]
  refine k2 tk (g1.then g2) (e2.trans e1) po fun c3 h e3 g3 po => ?_
  have k := fin_op ((g1.then g2).then g3) (e3.trans (e2.trans e1)) po
  obtain ⟨ps, rfl⟩ : ∃ ps, p = .tup ps := by
    cases p with
    | tup ps => exact ⟨ps, rfl⟩
    | _ => exact k.bad.elim
  obtain ⟨a, xs, rfl, ha, r⟩ := o1
  have r3 := r.mono (g2.sS.trans g3.sS)
  have ha3 := (g2.sS.trans g3.sS) _ _ ha
  have k' : VK1 X.K c3.S c3.H Q (some (.tup (cutP ps l h))) := k
  refine ⟨a, xs, rfl, SqT.of (g3.rep.sub _ _ ha3), fun w => ?_, fun w p hp => ?_⟩
  · refine VK1.here k' g3.rep.sub ⟨a, xs, rfl, ha3, ?_⟩
    have e : cutP ps l h = ps := by
      unfold cutP
      rw [r.len] at w
      rw [w.1, w.2, List.drop_zero, Nat.sub_zero, List.take_length]
    rw [e]; exact r3
  · refine VK1.new k' g3.rep.sub hp ⟨p, cutV xs l h, rfl, upd_same, ?_⟩
    exact (cut_rel r3 l h).mono fun b u e => (by rw [upd_ne (ne_of_none e (g3.rep.freeS hp))]; exact e : upd c3.S p _ b = some u)
/-- xs[lo:hi], xs an owned list of a slot: a new list -/
def eSlL (i : Nat) (lo hi : Option (Fr → O MV)) (fr : Fr) : O MV := match rdL i fr with
  | none => .bad
  | some _ => (pt lo fr).bind fun l fr2 => (pt hi fr2).bind fun h fr3 => match rdL i fr3 with | some ps => .ok (.pl (cutP ps l h)) fr3 | none => .bad
theorem se_slL {i : Nat} {e : Expr} {lo hi : Option Expr} {elo ehi : Option (Fr → O MV)} {pos p2 : Pos} (ha : PE X e (tVar i)) (hl : SPt X ca m lo elo) (hh : SPt X ca m hi ehi) : SE X ca m (.Subscript e (.Slice lo hi none p2) pos) (eSlL i elo ehi) := by
  obtain ⟨t1, h1, k1⟩ := part_use hl
  obtain ⟨t2, h2, k2⟩ := part_use hh
  refine SE.of (pe_slice sl_list ha h1 h2) fun W c Q tk rp po => ?_
  unfold eSlL at po
  cases z : rdL i c.fr with
  | none => rw [z] at po; exact po.elim
  | some ps0 =>
    rw [z] at po
    obtain ⟨a, vs, e0, _⟩ := rdL_slot rp z
    refine ⟨_, e0, ?_⟩
    refine k1 tk (Go.refl rp) rfl po fun c2 l e2 g2 po => ?_
    rw [← e2]
    refine k2 tk g2 e2 po fun c3 h e3 g3 po => ?_
    cases z3 : rdL i c3.fr with
    | none => rw [z3] at po; exact po.elim
    | some ps =>
      rw [z3] at po
      obtain ⟨a', vs', e4, h3, _, _, r3⟩ := rdL_slot g3.rep z3
      rw [e3, e2, e0] at e4
      cases e4
      exact ⟨a, vs', rfl, SqL.of h3, fin_new (g2.then g3) (e3.trans e2) po _ (cut_rel r3 l h)⟩

/-! ### t.index(s), strings -/

/-- a display whose object is known: .index may be asked -/
def eTupZ (ea : Fr → O (List PV)) (fr : Fr) : O MV := (ea fr).bind fun ps fr1 => if ps.length ≤ sizeLine then .ok (.pv (.tupz ps)) fr1 else .bad
def tTupZ (t : TA) : TE := fun σ H Q => t σ H fun xs H1 => xs.length ≤ sizeLine ∧ ∀ (o : Obj) p, o.cls = .type "tuple" → o.dict = none → H1 p = none → Q (.ref p) (upd H1 p (.frz o (.tup xs)))
theorem pe_tupZ {es : List Expr} {t : TA} {pos : Pos} {x1} (h : PA X es t) : PE X (.Tuple es x1 pos) (tTupZ t) := by
  refine ⟨fun pins s σ H Q I hq => ?_⟩
  refine wpAny_Tuple_spliced (thn (h.run pos pins s σ H _ I hq) fun us s1 ⟨xs, H1, I1, r, z, q⟩ => ⟨by rw [← r.length]; exact z, ?_⟩)
  have hf : H1 s1.heap.objs.size = none := I1.hok.fresh (Nat.le_refl _)
  refine ⟨.ref s1.heap.objs.size, upd H1 s1.heap.objs.size (.frz { cls := .type "tuple", data := .seq us.toArray } (.tup xs)), I1.laid (t' := s1.toks) (fun b u e => Heap.get?_push_of_some _ e) (Nat.le_refl _) ?_, rfl, q _ _ rfl rfl hf⟩
  exact ⟨Heap.get?_push_size _ rfl, z, us, r, ⟨_, Heap.get?_push_size _ rfl, rfl, _, rfl⟩⟩
theorem se_tupZ {es : List Expr} {ea : Fr → O (List PV)} {x1} {pos : Pos} (h : SA X ca m es ea) : SE X ca m (.Tuple es x1 pos) (eTupZ ea) := by
  refine SE.of (pe_tupZ h.pa) fun W c Q tk rp po => ?_
  refine use_args tk (Go.refl rp) rfl po fun c1 ps vs e1 g1 o1 po => ?_
  by_cases hz : ps.length ≤ sizeLine
  · rw [if_pos hz] at po
    refine ⟨by rw [o1.len]; exact hz, fun o p hc hd np => ?_⟩
    have g2 := g1.rep.laidS np (.frz o (.tup vs)) m
    exact po ⟨upd c1.S p (.frz o (.tup vs)), upd c1.H p (.frz o (.tup vs)), c1.σ, c1.fr, c1.F⟩ (.ref p) [] rfl e1 (g1.then g2) ⟨rfl, p, o, vs, rfl, upd_same, hc, hd, o1.mono g2.sS⟩
  · rw [if_neg hz] at po; exact po.elim
def ixS (ps : List PV) (p : PV) : Option Nat := match p with
  | .str z => if ps.all (fun q => match q with | .str _ => true | _ => false) = true then ps.findIdx? (fun q => match q with | .str y => y == z | _ => false) else none
  | _ => none
def gIdx : PV → PV → Option PV
  | .tupz ps, q => (ixS ps q).map fun j => .int (j : Nat)
  | _, _ => none
def tIdx (K : PySem.W.Frag) (to : TE) (t : TA) : TE := fun σ H Q => to σ H fun x H1 => (∃ a o xs, x = .ref a ∧ H1 a = some (.frz o (.tup xs)) ∧ o.cls = .type "tuple" ∧ o.dict = none) ∧ t σ H1 fun xs H2 =>
  ∃ p, ∃ ys : List Str, ∃ z j, x = .ref p ∧ xs = [.str z] ∧ SqT K H2 p (ys.map V.str) ∧ ys[j]? = some z ∧ (∀ m, m < j → ys[m]? ≠ some z) ∧ Q (.int (j : Nat)) H2
theorem pe_idx {o e : Expr} {to : TE} {t : TA} {apos cpos : Pos} (ho : PE X o to) (ha : PA X [e] t) (hbase : attributeBase o "index" X.env (eval o X.env) = eval o X.env := by rfl)
    (hfew : ((backTo cpos (starEach [e] X.env)).all (fun x => !x.1) && (backToKw cpos (keywordEach [] X.env)).all (fun x => x.1.isSome)
      && decide (([e] : List Expr).length + ([] : List Keyword).length + (if ([] : List Keyword).isEmpty then 0 else 1) < 30)) = true := by rfl)
    (hline : (apos.endLine == cpos.line) = true := by rfl) (hs : starEach [e] X.env = (false, eval e X.env) :: starEach [] X.env := by rfl) (hplain : (backTo cpos (starEach [] X.env)).any (·.1) = false := by rfl) :
    PE X (.Call (.Attribute o "index" apos) [e] [] cpos) (tIdx X.K to t) := by
  refine ⟨fun pins s σ H Q I h => ?_⟩
  refine wpAny_Call_method_late hbase hfew hline rfl (thn (ho.run pins s σ H _ I h) fun v s1 ⟨x, H1, I1, r1, ⟨a, ob, xs, ex, ha', hc, hd⟩, q1⟩ => ?_)
  subst ex
  obtain rfl : v = .ref a := r1
  have hob := (I1.hok a _ ha').1
  refine ⟨"tuple", "tuple.index", PySem.F.plainAttrs_tuple, PySem.F.slot_tuple_index, PySem.F.type_tuple_index, ⟨ob, hob, hc⟩, fun b e => by cases e; exact ⟨ob, hob, hd⟩, ?_⟩
  have hA := ha.run cpos pins s1 σ H1 _ I1 q1
  rw [hs] at hA ⊢
  refine Calls.callWith_builtin (by show (false || (backTo cpos (starEach [] X.env)).any (·.1)) = false; rw [hplain] <;> rfl) (Calls.evalArgs_plain ?_)
  exact thn hA fun us s2 ⟨vs, H2, I2, r2, q2⟩ => mt_tup_index pins s2 σ H2 (.ref a) vs (.ref a) us Q I2 rfl r2 q2
theorem strs_of : ∀ {ps : List PV}, ps.all (fun q => match q with | .str _ => true | _ => false) = true → ∃ ys : List Str, ps = ys.map PV.str
  | [], _ => ⟨[], rfl⟩
  | p :: ps, h => by
    rw [List.all_cons, Bool.and_eq_true] at h
    obtain ⟨ys, e⟩ := strs_of h.2
    cases p with
    | str y => exact ⟨y :: ys, by rw [List.map_cons, e]⟩
    | _ => cases h.1
theorem VRL.strs {S : Hp} : ∀ {ys : List Str} {vs : List V}, VRL K S (ys.map PV.str) vs → vs = ys.map V.str
  | [], _, e => e
  | y :: ys, _, ⟨x, r, e, h, t⟩ => by
    subst e
    obtain rfl := h
    rw [VRL.strs t, List.map_cons]
def eIdx (eo ea : Fr → O MV) (fr : Fr) : O MV := (eo fr).bindP fun p fr1 => match p with
  | .tupz ps => (ea fr1).bindP fun q fr2 => opO (gIdx (.tupz ps) q) fr2
  | _ => .bad
theorem se_idx {o e : Expr} {eo ea : Fr → O MV} {apos cpos : Pos} (ho : SE X ca m o eo) (ha : SE X ca m e ea) (hbase : attributeBase o "index" X.env (eval o X.env) = eval o X.env := by rfl)
    (hfew : ((backTo cpos (starEach [e] X.env)).all (fun x => !x.1) && (backToKw cpos (keywordEach [] X.env)).all (fun x => x.1.isSome)
      && decide (([e] : List Expr).length + ([] : List Keyword).length + (if ([] : List Keyword).isEmpty then 0 else 1) < 30)) = true := by rfl)
    (hline : (apos.endLine == cpos.line) = true := by rfl) (hs : starEach [e] X.env = (false, eval e X.env) :: starEach [] X.env := by rfl) (hplain : (backTo cpos (starEach [] X.env)).any (·.1) = false := by rfl) :
    SE X ca m (.Call (.Attribute o "index" apos) [e] [] cpos) (eIdx eo ea) := by
  refine SE.of (pe_idx ho.pe (pa_cons ha.pe pa_nil hs) hbase hfew hline hs hplain) fun W c Q tk rp po => ?_
  refine use_bindP tk (Go.refl rp) rfl po fun c1 p v e1 g1 o1 po => ?_
  cases p with
  | tupz ps =>
    obtain ⟨a, ob, xs, ev, hS, hc, hd, r⟩ := o1
    subst ev
    refine ⟨⟨a, ob, xs, rfl, g1.rep.sub _ _ hS, hc, hd⟩, ?_⟩
    rw [← e1]
    refine use_bindP tk g1 e1 po fun c2 q u e2 g2 o2 po => ?_
    have k := fin_op (g1.then g2) (e2.trans e1) po
    have k' : VK1 X.K c2.S c2.H Q ((ixS ps q).map fun j => .int (j : Nat)) := k
    cases e : ixS ps q with
    | none => rw [e] at k'; exact k'.bad.elim
    | some j =>
      rw [e] at k'
      cases q with
      | str z =>
        obtain rfl := o2
        unfold ixS at e
        by_cases ha : ps.all (fun q => match q with | .str _ => true | _ => false) = true
        · simp only [ha, if_true] at e
          obtain ⟨ys, rfl⟩ := strs_of ha
          have ex := r.strs
          subst ex
          obtain ⟨hj, h1, h2⟩ := List.findIdx?_eq_some_iff_getElem.mp e
          have hj' : j < ys.length := by simpa using hj
          refine ⟨a, ys, z, j, rfl, rfl, .inl (.inr ⟨ob, g2.rep.sub _ _ (g2.sS _ _ hS)⟩), ?_, fun m hm hy => ?_, k'.here g2.rep.sub rfl⟩
          · rw [List.getElem?_eq_getElem hj']
            simp at h1
            rw [h1]
          · have hm' : m < ys.length := by omega
            have := h2 m hm
            rw [List.getElem?_eq_getElem hm'] at hy
            simp at this
            exact this (Option.some.inj hy)
        · simp only [ha] at e
          cases e
      | _ => cases e
  | _ => exact po.elim
end Sm

namespace Sm
open PySem L2 PySem.Spec PyProof.Rows

/-! ### t[::-1] -/
section
variable {prog : Program} {w : World} {A : Around} {E : Value → Shared → Prop} {s : Shared}
theorem places_rev (n : Nat) : Builtin.Slice.slicePlaces ((n : Int) - 1) (-1) (-1) = n := by
  unfold Builtin.Slice.slicePlaces
  have h1 : ¬ ((-1 : Int) > 0) := by omega
  simp only [h1, if_false]
  by_cases h : (n : Int) - 1 > -1
  · rw [if_pos h]
    have : ((n : Int) - 1 - -1 - 1) / (- -1) = (n : Int) - 1 := by
      have e : (- -1 : Int) = 1 := by omega
      rw [e, Int.ediv_one]; omega
    rw [this]; omega
  · rw [if_neg h]; omega
theorem pick_rev (xs : Array Value) : ((List.range xs.size).filterMap fun (m : Nat) => xs[((xs.size : Int) - 1 + (m : Int) * (-1)).toNat]?) = xs.toList.reverse := by
  have e : ∀ m ∈ List.range xs.size, xs[((xs.size : Int) - 1 + (m : Int) * (-1)).toNat]? = some (xs.toList.reverse[m]?.getD .none) := fun m hm => by
    have hm' := List.mem_range.mp hm
    have q : ((xs.size : Int) - 1 + (m : Int) * (-1)).toNat = xs.size - 1 - m := by omega
    rw [q, ← Array.getElem?_toList, List.getElem?_reverse (by simpa using hm')]
    have h2 : xs.toList.length - 1 - m < xs.toList.length := by simp; omega
    have h3 : xs.size - 1 - m = xs.toList.length - 1 - m := by simp
    rw [h3, List.getElem?_eq_getElem h2]; rfl
  have e2 : (List.range xs.size).filterMap (fun (m : Nat) => xs[((xs.size : Int) - 1 + (m : Int) * (-1)).toNat]?) = (List.range xs.size).map fun m => xs.toList.reverse[m]?.getD .none := by
    generalize List.range xs.size = l at e
    induction l with
    | nil => rfl
    | cons a l ih =>
      rw [List.filterMap_cons, e a List.mem_cons_self, List.map_cons, ih fun m hm => e m (List.mem_cons_of_mem _ hm)]
  rw [e2]
  refine List.ext_getElem? fun i => ?_
  rw [List.getElem?_map]
  by_cases hi : i < xs.size
  · rw [List.getElem?_range hi]
    have h2 : i < xs.toList.reverse.length := by simpa using hi
    show some (xs.toList.reverse[i]?.getD .none) = _
    rw [List.getElem?_eq_getElem h2]; rfl
  · rw [List.getElem?_eq_none (by rw [List.length_range]; omega), List.getElem?_eq_none (by rw [List.length_reverse, Array.length_toList]; omega)]; rfl
theorem sliceApplied_rev {sl : Addr} {t : Tok} {n : Nat} {Q : Int × Int × Nat → Shared → Prop} (hs : s.heap.IsSliceOf sl .none .none (.int (-1) t))
    (h : Q ((n : Int) - 1, -1, n) s) : wpAny (model prog w) A (Builtin.Slice.sliceApplied (.ref sl) (pure (n : Int))) Q E s := by
  obtain ⟨os, hos, hcs, hds⟩ := id hs
  unfold Builtin.Slice.sliceApplied Builtin.Slice.sliceFields
  refine wpAny_bind (wpAny_bind (wpAny_field hos hds (x := .none) rfl (wpAny_bind (wpAny_field hos hds (x := .none) rfl (wpAny_bind (wpAny_field hos hds (x := .int (-1) t) rfl (wpAny_pure ?_)))))))
  refine wpAny_bind (slicePart_int ?_)
  show wpAny _ _ (if ((-1 : Int) == 0) = true then _ else _) _ _ s
  rw [if_neg (by decide)]
  refine wpAny_bind (slicePart_none (wpAny_bind (slicePart_none (wpAny_bind (wpAny_pure ?_)))))
  show wpAny _ _ (pure ((n : Int) - 1, (-1 : Int), Builtin.Slice.slicePlaces ((n : Int) - 1) (-1) (-1))) _ _ s
  rw [places_rev]
  exact wpAny_pure h
theorem getItem_tuple_rev {t sl : Addr} {items : Array Value} {u : Tok} {Q : Value → Shared → Prop} (ht : IsTup s.heap t items) (hs : s.heap.IsSliceOf sl .none .none (.int (-1) u)) (hsz : items.size ≤ sizeLine)
    (h : Q (.ref s.heap.objs.size) { s with heap := s.heap.push { cls := .type "tuple", data := .seq items.toList.reverse.toArray } }) : wpAny (model prog w) A (getItem (.ref t) (.ref sl)) Q E s := by
  have htake : sizeOk (.seq items.toList.reverse.toArray) := by
    show items.toList.reverse.toArray.size ≤ sizeLine
    rw [List.size_toArray, List.length_reverse, Array.length_toList]; exact hsz
  obtain ⟨os, hos, hcs, hds⟩ := id hs
  have hTs : s.TypeIs (.ref sl) "slice" := ⟨os, hos, hcs⟩
  unfold getItem
  try with_reducible refine wpAny_holding ?_
  first | refine wpAny_bind (wpAny_pure ?_) | skip
  refine wpAny_bind (wpAny_sequenceKey ht.typeIs (by decide) ?_)
  refine wpAny_bind (wpAny_callSpecial?_slot (name := Str.ofString "__getitem__") ht.typeIs PyProof.Rows.slot_tuple_getitem
    (wpAny_call_entry PyProof.Rows.slot_tuple_getitem ht.typeIs entry_tuple_getitem ?_ (args_tuple_getitem _ _)))
  show wpAny _ _ (Builtin.Tuple.tupleItemsOf (.ref t) >>= _) _ _ s
  refine wpAny_bind (tupleItemsOf_ ht ?_)
  refine wpAny_bind (wpAny_typeOf hTs ?_)
  rw [if_pos (by decide)]
  refine wpAny_bind (sliceApplied_rev hs ?_)
  show wpAny _ _ (if (((items.size : Int) - 1) == 0 && (-1 : Int) == 1 && items.size == items.size) = true then _ else _) _ _ s
  have hno : ¬ ((((items.size : Int) - 1) == 0 && (-1 : Int) == 1 && items.size == items.size) = true) := by
    rw [show ((-1 : Int) == 1) = false from rfl, Bool.and_false]; simp
  rw [if_neg hno, pick_rev]
  first
    | exact wpAny_bind (m := Builtin.Tuple.tupleExact _) (wpAny_newObj_type (wpAny_pure ⟨_, rfl, wpAny_pure h⟩) htake)
    | exact wpAny_bind (m := Builtin.Tuple.tupleExact _) (wpAny_newObj_type (wpAny_bind (wpAny_pure (wpAny_pure ⟨_, rfl, wpAny_pure h⟩))) htake)
    | exact wpAny_bind (wpAny_bind (m := Builtin.Tuple.tupleExact _) (wpAny_newObj_type (wpAny_pure (wpAny_pure ⟨_, rfl, wpAny_pure h⟩)) htake))
    | exact wpAny_bind (wpAny_bind (m := Builtin.Tuple.tupleExact _) (wpAny_newObj_type (wpAny_pure ⟨_, rfl, wpAny_pure h⟩) htake))
end
variable {K : PySem.W.Frag} {X : Cx} {ca : Nat → Addr} {m : Bool}
def tRev (K : PySem.W.Frag) (te : TE) (th : TO) : TE := fun σ H Q => te σ H fun x H1 => th σ H1 fun u H3 => u = some (-1) ∧ ∃ a xs, x = .ref a ∧ SqT K H3 a xs ∧ ∀ p, H3 p = none → Q (.ref p) (upd H3 p (.tup xs.reverse))
theorem pe_rev {e st : Expr} {te : TE} {th : TO} {pos p2 : Pos} (he : PE X e te) (hu : PO X (some st) th) : PE X (.Subscript e (.Slice none none (some st) p2) pos) (tRev X.K te th) := by
  refine ⟨fun pins s σ H Q I h => ?_⟩
  refine Subscript_ (thn (he.run pins s σ H _ I h) fun v s1 ⟨x, H1, I1, r1, q1⟩ => ?_)
  refine wpAny_Slice ?_
  rw [evalPart_none]
  refine wpAny_pure (wpAny_pure ?_)
  refine thn (hu.run pins s1 σ H1 _ I1 q1) fun vu s3 ⟨u, H3, I3, pu, hu, a, xs, ex, hx, q3⟩ => ?_
  subst ex hu
  obtain ⟨tk, rfl⟩ : ∃ tk, vu = .int (-1) tk := by cases pu; exact ⟨_, rfl⟩
  have I4 : Inv X pins σ H3 { s3 with heap := s3.heap.push { cls := .type "slice", data := .fields #[.none, .none, .int (-1) tk] } } := I3.kept (t' := s3.toks) fun b ob q => Heap.get?_push_of_some _ q
  obtain rfl : v = .ref a := r1
  obtain ⟨its, r, ht, hz⟩ := I4.tuple hx
  have hlen : its.toArray.size = xs.length := by rw [List.size_toArray]; exact r.length.symm
  have hg : wpAny (model X.prog X.w) X.A (getItem (.ref a) (.ref s3.heap.objs.size)) (EP X pins σ Q) X.xe { s3 with heap := s3.heap.push { cls := .type "slice", data := .fields #[.none, .none, .int (-1) tk] } } := by
    refine getItem_tuple_rev ht (Heap.IsSliceOf.new ..) (by rw [hlen]; exact hz) ?_
    have hn := I4.hok.fresh (Nat.le_refl _)
    exact ⟨.ref _, _, I4.laid (t' := s3.toks) (fun b u e => Heap.get?_push_of_some _ e) (Nat.le_refl _) (show ObjOk X.prog X.w _ _ _ (.tup xs.reverse) from ⟨by rw [List.length_reverse]; exact hz, its.reverse, r.reverse, ⟨_, Heap.get?_push_size _ rfl, rfl, _, rfl⟩⟩), rfl, q3 _ hn⟩
  show wpAny (model X.prog X.w) X.A (subscriptTail e (.Slice none none (some st) p2) (.ref a) (.ref s3.heap.objs.size)) (EP X pins σ Q) X.xe { s3 with heap := s3.heap.push { cls := .type "slice", data := .fields #[.none, .none, .int (-1) tk] } }
  exact tail_any (ops := [.ref a, .ref s3.heap.objs.size]) ht.typeIs PyProof.Rows.slot_tuple_getitem.lookup hg (by with_unfolding_all rfl)
def eRev (ea es : Fr → O MV) (fr : Fr) : O MV := (ea fr).bindP fun p fr1 => (pt (some es) fr1).bind fun l fr2 => if l = some (-1) then (match p with | .tup ps => .ok (.pv (.tup ps.reverse)) fr2 | _ => .bad) else .bad
theorem se_rev {e st : Expr} {ea es : Fr → O MV} {pos p2 : Pos} (ha : SE X ca m e ea) (hs : SE X ca m st es) : SE X ca m (.Subscript e (.Slice none none (some st) p2) pos) (eRev ea es) := by
  obtain ⟨t1, h1, k1⟩ := part_use (X := X) (ca := ca) (m := m) (.some hs)
  refine SE.of (pe_rev ha.pe h1) fun W c Q tk rp po => ?_
  refine use_bindP tk (Go.refl rp) rfl po fun c1 p v e1 g1 o1 po => ?_
  rw [← e1]
  refine k1 tk g1 e1 po fun c2 l e2 g2 po => ?_
  by_cases hl : l = some (-1)
  · rw [if_pos hl] at po
    cases p <;> try exact po.elim
    rename_i ps
    obtain ⟨a, xs, rfl, ha, r⟩ := o1
    refine ⟨hl, a, xs, rfl, SqT.of (g2.rep.sub _ _ (g2.sS _ _ ha)), fun p hp => ?_⟩
    have g := g1.then g2
    have g3 := g2.rep.laidS hp (.tup xs.reverse) m
    exact po ⟨upd c2.S p (.tup xs.reverse), upd c2.H p (.tup xs.reverse), c2.σ, c2.fr, c2.F⟩ (.ref p) [] rfl (e2.trans e1) (g.then g3) ⟨rfl, p, _, rfl, upd_same, (r.rev.mono g2.sS).mono g3.sS⟩
  · rw [if_neg hl] at po; exact po.elim

/-! ### a call of a def that a slot holds -/
def eCallT (i : Nat) (tab : Addr → Option (Nat × (List MV → FO))) (ea : Fr → O (List PV)) (fr : Fr) : O MV := match fr[i]? with
  | some (.ow (.pv (.adr a))) => (match tab a with | some q => eCallP q.1 q.2 ea fr | none => .bad)
  | _ => .bad
theorem pe_callLS {k i : Nat} {f : Addr} {fd : FuncData} {ps : List Str} {sp : Sp} {E : L2.St → XK} {x : Str} {p pos : Pos} {e : Expr} {es : List Expr} {t : TA} (F : FnOk X.prog X.w X.K X.mg X.base (L2.CX X.prog X.w) k f fd ps sp) (hr : Room k X.A) (hN : X.N[i]? = some x) (hv : Vis X.env.scope x) (hk : PySem.W.keepIn X.K (.ref f) = true) (hb : Binds X.K fd ps [])
    (hx : ∀ σ, PassesAt (L2.CX X.prog X.w) X σ (E σ)) (ha : PA X (e :: es) t)
    (hdb : (x == ("__debug__" : Str)) = false := by decide) (hcd : (x == ("__classdict__" : Str)) = false := by decide)
    (he : starEach (e :: es) X.env = (false, eval e X.env) :: starEach es X.env := by rfl) (hpl : (backTo pos (starEach es X.env)).any (·.1) = false := by rfl) :
    PE X (.Call (.Name x p) (e :: es) [] pos) (fun σ H Q => σ[i]? = some (some (.ref f)) ∧ t σ H fun vs H1 => sp vs H1 Q (E σ)) := by
  refine ⟨fun pins s σ H Q I ⟨hs, ht⟩ => ?_⟩
  refine wpAny_Call_Name_kw (thn ((pe_var (pos := p) hN hv hdb hcd).run pins s σ H (fun v H1 => v = .ref f ∧ H1 = H) I ⟨.ref f, hs, rfl, rfl⟩) fun u s1 ⟨v, H1, I1, r1, q1⟩ => ?_)
  obtain ⟨rfl, rfl⟩ := q1
  cases r1
  refine PySem.W.callWith_K (h₀ := X.base) I.ok.mod.kin hk (thn (ha.run pos pins s1 σ _ _ I1 ht) fun us s2 ⟨vs, H2, I2, r, q⟩ => ⟨I2.kIn, ?_⟩) he hpl
  exact run_fnSD (dvs := []) F hr hb .nil (hx σ) I2 r (by rw [List.append_nil]; exact q)
theorem se_callT {i : Nat} {tab : Addr → Option (Nat × (List MV → FO))} {x : Str} {p pos : Pos} {e : Expr} {es : List Expr} {ea : Fr → O (List PV)}
    (hT : ∀ f q, tab f = some q → ∃ k fd ps, ps.length = q.1 ∧ FnSim X.prog X.w X.K X.mg X.base ca k f fd ps q.2 ∧ Room k X.A ∧ PySem.W.keepIn X.K (.ref f) = true ∧ Binds X.K fd ps [])
    (hN : X.N[i]? = some x) (hv : Vis X.env.scope x) (ha : SA X ca m (e :: es) ea) (hdb : (x == ("__debug__" : Str)) = false := by decide) (hcd : (x == ("__classdict__" : Str)) = false := by decide)
    (he : starEach (e :: es) X.env = (false, eval e X.env) :: starEach es X.env := by rfl) (hpl : (backTo pos (starEach es X.env)).any (·.1) = false := by rfl) :
    SE X ca m (.Call (.Name x p) (e :: es) [] pos) (eCallT i tab ea) := by
  refine ⟨⟨fun pins s σ H Q I ⟨W, tk, c, e1, e2, rp, po⟩ => ?_⟩⟩
  subst e1 e2
  unfold eCallT at po
  split at po
  · rename_i f hs
    cases ht : tab f with
    | none => rw [ht] at po; exact po.elim
    | some q =>
      rw [ht] at po
      obtain ⟨k, fd, ps, hl, F, hr, hk, hb⟩ := hT f q ht
      obtain ⟨v, fp, e1, ⟨_, ev⟩, _⟩ := rp.slot (.inl hs)
      obtain rfl := ev
      refine (pe_callLS (E := fun σ => WE W σ) F.ok hr hN hv hk hb (fun σ => passAt tk σ) ha.pa hdb hcd he hpl).run pins s c.σ c.H Q I ⟨e1, ?_⟩
      have po' : postE Own X.K ca m c Q W (eCallP q.1 q.2 ea c.fr) := po
      refine use_args tk (Go.refl rp) rfl po' fun c1 qs vs e3 g1 o1 po => ?_
      by_cases hq : qs.length = ps.length
      · rw [if_pos (hq.trans hl)] at po
        rw [← e3]; exact callP_read g1 e3 o1 hq po
      · rw [if_neg (by rw [← hl]; exact hq)] at po; exact po.elim
  · exact po.elim
/-- f() -/
def eCall0 (g : List MV → FO) (fr : Fr) : O MV := match g [] with
  | .ret r _ => .ok r fr
  | .exc x _ => .exc x fr
  | .bad => .bad
theorem se_call0 {k : Nat} {f : Addr} {fd : FuncData} {g : List MV → FO} {x : Str} {p pos : Pos} (F : FnSim X.prog X.w X.K X.mg X.base ca k f fd [] g) (hr : Room k X.A) (hg : Gl X x) (hm : X.mg x = some (.ref f)) (hk : PySem.W.keepIn X.K (.ref f) = true) (hb : Binds X.K fd [] [])
    (hdb : (x == ("__debug__" : Str)) = false := by decide) : SE X ca m (.Call (.Name x p) [] [] pos) (eCall0 g) := by
  refine ⟨⟨fun pins s σ H Q I ⟨W, tk, c, e1, e2, rp, po⟩ => ?_⟩⟩
  subst e1 e2
  refine wpAny_Call_Name_kw (ld_glob I hg hm ?_ hdb)
  refine PySem.W.callWith_K0 I.kIn hk (run_fnSD (us := []) (vs := []) (dvs := []) (E := fun σ => WE W σ) F.ok hr hb .nil (passAt tk c.σ) I .nil ?_)
  exact callP_read (ps := []) (qs := []) (Go.refl rp) rfl rfl rfl po
end Sm

namespace Sm
open PySem L2 PyProof.Rows
variable {K : PySem.W.Frag} {X : Cx} {ca : Nat → Addr} {m : Bool}

/-- a def that a name of the module holds -/
structure Df (P : Program) (w : World) (K : PySem.W.Frag) (mg : Str → Option Value) (base : Heap) (ca : Nat → Addr) (k : Nat) (x : Str) (f : Addr) (ps : List Str) (g : List MV → FO) : Prop where
  at_ : mg x = some (.ref f)
  keep : PySem.W.keepIn K (.ref f) = true
  ex : ∃ fd, FnSim P w K mg base ca k f fd ps g ∧ Binds K fd ps []
variable {k : Nat} {x : Str} {f : Addr} {ps : List Str} {g : List MV → FO} {p pos : Pos} {e : Expr} {es : List Expr}
theorem Df.mono {P : Program} {w : World} {mg : Str → Option Value} {base : Heap} {j : Nat} (D : Df P w K mg base ca j x f ps g) (h : j ≤ k) : Df P w K mg base ca k x f ps g := by
  obtain ⟨fd, F, b⟩ := D.ex
  exact ⟨D.at_, D.keep, fd, F.mono h, b⟩
theorem Df.eq {P : Program} {w : World} {mg : Str → Option Value} {base : Heap} {g' : List MV → FO} (D : Df P w K mg base ca k x f ps g) (h : ∀ ms, g' ms = .bad ∨ g ms = g' ms) : Df P w K mg base ca k x f ps g' := by
  obtain ⟨fd, F, b⟩ := D.ex
  exact ⟨D.at_, D.keep, fd, F.eq h, b⟩
theorem se_dP {ea : Fr → O (List PV)} {n : Nat} (D : Df X.prog X.w X.K X.mg X.base ca k x f ps g) (hr : Room k X.A) (hg : Gl X x) (ha : SA X ca m (e :: es) ea) (hn : ps.length = n := by rfl) (hdb : (x == ("__debug__" : Str)) = false := by decide)
    (he : starEach (e :: es) X.env = (false, eval e X.env) :: starEach es X.env := by rfl) (hpl : (backTo pos (starEach es X.env)).any (·.1) = false := by rfl) : SE X ca m (.Call (.Name x p) (e :: es) [] pos) (eCallP n g ea) := by
  subst hn
  obtain ⟨fd, F, b⟩ := D.ex
  exact se_callP F hr hg D.at_ D.keep b ha hdb he hpl
theorem se_dB {ea : Fr → O (List Arg)} {n : Nat} (D : Df X.prog X.w X.K X.mg X.base ca k x f ps g) (hr : Room k X.A) (hg : Gl X x) (ha : SB X ca (e :: es) ea) (hn : ps.length = n := by rfl) (hdb : (x == ("__debug__" : Str)) = false := by decide)
    (he : starEach (e :: es) X.env = (false, eval e X.env) :: starEach es X.env := by rfl) (hpl : (backTo pos (starEach es X.env)).any (·.1) = false := by rfl) : SE X ca false (.Call (.Name x p) (e :: es) [] pos) (eCallB n g ea) := by
  subst hn
  obtain ⟨fd, F, b⟩ := D.ex
  exact se_callB F hr hg D.at_ D.keep b ha hdb he hpl
theorem se_d0 (D : Df X.prog X.w X.K X.mg X.base ca k x f [] g) (hr : Room k X.A) (hg : Gl X x) (hdb : (x == ("__debug__" : Str)) = false := by decide) : SE X ca m (.Call (.Name x p) [] [] pos) (eCall0 g) := by
  obtain ⟨fd, F, b⟩ := D.ex
  exact se_call0 F hr hg D.at_ D.keep b hdb
theorem se_fn (D : Df X.prog X.w X.K X.mg X.base ca k x f ps g) (hg : Gl X x) (hd : (x == ("__debug__" : Str)) = false := by decide) : SE X ca m (.Name x pos) (eC (.adr f)) := se_gadr hg D.at_ hd
theorem bad_sim {P : Program} {w : World} {mg : Str → Option Value} {base : Heap} {fd : FuncData} : FnSim P w K mg base ca k f fd ps (fun _ => .bad) :=
  ⟨⟨fun vs H Q E ⟨S, ms, Fa, h1, h2, h3, h4, h5⟩ => by rw [h3.len, h2], fun A outer s H args us vs Q E _ _ _ _ ⟨_, _, _, _, _, _, _, h⟩ => False.elim h⟩⟩
theorem hu {A : Around} (r : Room k A) : A.units + 64 < cLine := by
  have := r.un
  omega
theorem pass0X {P : Program} {w : World} : Passes (L2.CX P w) X (fun _ _ _ => False) := fun _ _ _ _ _ _ _ ⟨_, _, _, _, _, _, _, _, _, _, _, _, h⟩ => False.elim h
/-- the owned list in slot i becomes plain -/
theorem Go.freezeS {c c' : Cf} {i : Nat} {ps : List PV} (g : Go K false c [] c') (h : c'.fr[i]? = some (.ow (.pl ps))) : ∃ S' F', Go K false c [] ⟨S', c'.H, c'.σ, c'.fr.set i (.ow (.pv (.lst ps))), F'⟩ := by
  obtain ⟨o, f0, f1, f2, e1, e2, q, ex⟩ := g.rep.rel.at h
  obtain ⟨v, eo, a, vs, ev, ef, hH, hS, r⟩ := q
  subst eo ev ef
  have nd := g.rep.nd
  have hc := fun b => g.rep.rel.cells b
  rw [e2] at nd hc
  have nd1 := List.nodup_append.mp nd
  have nd2 := List.nodup_cons.mp (show (a :: f2).Nodup from nd1.2.1)
  have n0 : ∀ b ∈ f0, b ≠ a := fun b hb e => nd1.2.2 b hb a List.mem_cons_self e
  have n2 : ∀ b ∈ f2, b ≠ a := fun b hb e => nd2.1 (by rw [← e]; exact hb)
  have sS : Same c'.S (upd c'.S a (.lst vs)) := fun b u e => by rw [upd_ne (ne_of_none e hS)]; exact e
  have hσ : c'.σ.set i (some (.ref a)) = c'.σ := set_same e1
  have rel := ex (upd c'.S a (.lst vs)) c'.H (.ow (.pv (.lst ps))) (some (.ref a)) [] sS (fun b hb => ⟨rfl, by rw [upd_ne (n0 b hb)]; exact (hc b (List.mem_append_left _ hb)).2⟩) (fun b hb => ⟨rfl, by rw [upd_ne (n2 b hb)]; exact (hc b (List.mem_append_right _ (List.mem_cons_of_mem _ hb))).2⟩)
    ⟨.ref a, rfl, rfl, a, vs, rfl, SqL.of upd_same, r.mono sS⟩
  rw [hσ, List.nil_append] at rel
  have sub : ∀ b ∈ f0 ++ f2, b ∈ c'.F := fun b hb => by
    rw [e2]
    rcases List.mem_append.mp hb with hb | hb
    · exact List.mem_append_left _ hb
    · exact List.mem_append_right _ (List.mem_cons_of_mem _ hb)
  refine ⟨upd c'.S a (.lst vs), f0 ++ f2, Go.of (fun b u e => ?_) rel (show (f0 ++ f2).Nodup from List.nodup_append.mpr ⟨nd1.1, nd2.2, fun x hx y hy e => nd1.2.2 x hx y (List.mem_cons_of_mem _ hy) e⟩) (fun _ h => nomatch h) (g.sS.trans sS) g.keep (fun b hb => g.new b (sub b hb)) (fun b hb => ?_) (fun j q e => ?_) fun h => nomatch h⟩
  · by_cases hb : b = a
    · subst hb; rw [upd_same] at e; cases e; exact hH
    · rw [upd_ne hb] at e; exact g.rep.sub _ _ e
  · by_cases hb2 : b = a
    · subst hb2
      rcases g.new b (by rw [List.nil_append, e2]; exact List.mem_append_right _ List.mem_cons_self) with z | z
      · exact .inr (.inl z)
      · exact .inr (.inr z)
    · rw [upd_ne hb2] at hb; exact g.newS b hb
  · obtain ⟨a1, m', a2⟩ := g.pr j q e
    have ne : i ≠ j := fun z => by subst z; rw [h] at a2; cases a2
    exact ⟨a1, m', by rw [List.getElem?_set_ne ne]; exact a2⟩
def sSetF (i : Nat) (ev : Fr → O MV) (fr : Fr) : SO := match ev fr with
  | .ok (.pl ps) fr1 => if free? fr1 i = true then .nx (fr1.set i (.ow (.pv (.lst ps)))) else .bad
  | .ok _ _ => .bad
  | .exc x f => .exc x f
  | .bad => .bad
theorem SS.frz {st : Stmt} {i : Nat} {ev : Fr → O MV} (h : SS X ca st (sSet i ev)) : SS X ca st (sSetF i ev) := by
  refine SS.of h.ps fun W c D tk r po => ⟨W, tk, c, rfl, rfl, r, ?_⟩
  unfold sSetF at po
  unfold sSet
  cases q : ev c.fr with
  | ok a fr1 =>
    rw [q] at po
    cases a with
    | pl ps =>
      have po' : postS X.K ca c D W (if free? fr1 i = true then .nx (fr1.set i (.ow (.pv (.lst ps)))) else .bad) := po
      show postS X.K ca c D W (if free? fr1 i = true then .nx (fr1.set i (.ow (.pl ps))) else .bad)
      by_cases hf : free? fr1 i = true
      · rw [if_pos hf] at po' ⊢
        intro c' e g
        have hi : i < fr1.length := by
          unfold free? at hf
          cases z : fr1[i]? with
          | none => rw [z] at hf; cases hf
          | some s => exact (List.getElem?_eq_some_iff.mp z).1
        have hs : c'.fr[i]? = some (.ow (.pl ps)) := by rw [e, List.getElem?_set_self hi]
        obtain ⟨S', F', g2⟩ := g.freezeS hs
        exact po' ⟨S', c'.H, c'.σ, c'.fr.set i (.ow (.pv (.lst ps))), F'⟩ (by show c'.fr.set i _ = _; rw [e, List.set_set]) g2
      · rw [if_neg hf] at po'; exact po'.elim
    | _ => exact po.elim
  | exc x f => rw [q] at po; exact po
  | bad => rw [q] at po; exact po.elim
theorem tabOk {j : Nat} {tab : Addr → Option (Nat × (List MV → FO))} (hT : ∀ f q, tab f = some q → ∃ x ps, ps.length = q.1 ∧ Df X.prog X.w X.K X.mg X.base ca j x f ps q.2) (hr : Room j X.A) :
    ∀ f q, tab f = some q → ∃ k fd ps, ps.length = q.1 ∧ FnSim X.prog X.w X.K X.mg X.base ca k f fd ps q.2 ∧ Room k X.A ∧ PySem.W.keepIn X.K (.ref f) = true ∧ Binds X.K fd ps [] := fun f q e => by
  obtain ⟨x, ps, hl, D⟩ := hT f q e
  obtain ⟨fd, F, b⟩ := D.ex
  exact ⟨j, fd, ps, hl, F, hr, D.keep, b⟩
def caB (a : Addr) : Nat → Addr := fun _ => a
def mt0 : Nat → Option Bool := fun n => if n = 0 then some true else none
theorem mt0_ok {a c : Addr} (h : PySem.W.exmOne K (.ref a) (.ref c) = some true) : ∀ n b, mt0 n = some b → PySem.W.exmOne K (.ref (caB a n)) (.ref c) = some b := fun n b e => by
  unfold mt0 at e
  split at e
  · cases e; exact h
  · cases e
theorem exm_of {C S : Addr} (h1 : PySem.W.subIn K (.ref S) (.type "BaseException") = some true) (h2 : PySem.W.isClsIn K S = true) (h3 : PySem.W.typeIn K (.ref S) = some (.type "type")) {r : Bool} (h4 : PySem.W.subIn K (.ref C) (.ref S) = some r) : PySem.W.exmOne K (.ref C) (.ref S) = some r := by
  have e1 : (PySem.W.subIn K (.ref S) (.type "BaseException") == some true) = true := by rw [h1]; rfl
  have e2 : ((PySem.W.clsIn K S).isSome && PySem.W.typeIn K (.ref S) == some (.type "type")) = true := by
    rw [show (PySem.W.clsIn K S).isSome = true from h2, h3]; rfl
  show (if (PySem.W.subIn K (.ref S) (.type "BaseException") == some true) = true then (if ((PySem.W.clsIn K S).isSome && PySem.W.typeIn K (.ref S) == some (.type "type")) = true then PySem.W.subIn K (.ref C) (.ref S) else none) else none) = some r
  rw [if_pos e1, if_pos e2]
  exact h4
end Sm

namespace Sm
open PySem L2
/-! ### the plain side: loops and comprehensions -/
theorem forL_inv {t : PV → Fr → Option Fr} {b : Fr → SO} (I : Nat → Fr → Prop) : ∀ (ps : List PV) (k : Nat) (fr : Fr), I k fr → (∀ i p fr, ps[i]? = some p → I (k + i) fr → ∃ fr1 fr2, t p fr = some fr1 ∧ b fr1 = .nx fr2 ∧ I (k + i + 1) fr2) → ∃ fr', forL t b ps fr = .nx fr' ∧ I (k + ps.length) fr'
  | [], k, fr, h, _ => ⟨fr, rfl, h⟩
  | p :: ps, k, fr, h, step => by
    obtain ⟨fr1, fr2, e1, e2, h2⟩ := step 0 p fr rfl h
    have c1 : ∀ i, k + (i + 1) = k + 1 + i := fun i => by omega
    obtain ⟨fr', e3, h3⟩ := forL_inv I ps (k + 1) fr2 h2 fun i q fr hq hi => by
      obtain ⟨f1, f2, a, b, c⟩ := step (i + 1) q fr hq (by rw [c1]; exact hi)
      exact ⟨f1, f2, a, b, by rw [c1] at c; exact c⟩
    refine ⟨fr', ?_, by rw [List.length_cons, c1]; exact h3⟩
    show (match t p fr with | none => SO.bad | some fr1 => match b fr1 with | .nx fr2 => forL t b ps fr2 | .ct fr2 => forL t b ps fr2 | .bk fr2 => .nx fr2 | .rt r f => .rt r f | .exc x f => .exc x f | .bad => .bad) = _
    rw [e1]
    show (match b fr1 with | .nx fr2 => forL t b ps fr2 | .ct fr2 => forL t b ps fr2 | .bk fr2 => .nx fr2 | .rt r f => .rt r f | .exc x f => .exc x f | .bad => .bad) = _
    rw [e2]
    exact e3
theorem forL_cons {t : PV → Fr → Option Fr} {b : Fr → SO} {p : PV} {ps : List PV} {fr fr1 : Fr} (h : t p fr = some fr1) : forL t b (p :: ps) fr = match b fr1 with | .nx fr2 => forL t b ps fr2 | .ct fr2 => forL t b ps fr2 | .bk fr2 => .nx fr2 | .rt r f => .rt r f | .exc x f => .exc x f | .bad => .bad := by
  show (match t p fr with | none => SO.bad | some fr1 => match b fr1 with | .nx fr2 => forL t b ps fr2 | .ct fr2 => forL t b ps fr2 | .bk fr2 => .nx fr2 | .rt r f => .rt r f | .exc x f => .exc x f | .bad => .bad) = _
  rw [h]
/-- each turn does the same to a state -/
theorem lcF_pure {vs : List Nat} {t : PV → Fr → Option Fr} {tst : Fr → O Bool} {el : Fr → O MV} (b : PV → Bool) (f : PV → PV) {fr : Fr} : ∀ (ps : List PV), (∀ p ∈ ps, ∃ fr1, t p fr = some fr1 ∧ tst fr1 = .ok (b p) fr1 ∧ (b p = true → el fr1 = .ok (.pv (f p)) fr1) ∧ plainOwn fr1 vs = true ∧ wipeF fr1 vs = fr) →
    lcF vs t tst el ps fr = .ok (((ps.filter b).map f).map MV.pv) fr
  | [], _ => rfl
  | p :: ps, h => by
    obtain ⟨fr1, e1, e2, e3, e4, e5⟩ := h p List.mem_cons_self
    have ih := lcF_pure b f ps fun q hq => h q (List.mem_cons_of_mem _ hq)
    unfold lcF
    rw [e1]
    simp only [e2]
    cases hb : b p with
    | true =>
      simp only [e3 hb, if_true, e4, e5, ih]
      rw [List.filter_cons_of_pos hb]; rfl
    | false =>
      simp only [e4, e5, ih, if_true]
      rw [List.filter_cons_of_neg (by rw [hb]; exact Bool.false_ne_true)]
      simp
theorem lcF_inv {vs : List Nat} {t : PV → Fr → Option Fr} {tst : Fr → O Bool} {el : Fr → O MV} (I : Fr → Prop) (E : PV → Prop) : ∀ (ps : List PV) (fr : Fr), I fr → (∀ p ∈ ps, ∀ fr, I fr → ∃ fr1 fr2 q fr3, t p fr = some fr1 ∧ tst fr1 = .ok true fr2 ∧ el fr2 = .ok (.pv q) fr3 ∧ plainOwn fr3 vs = true ∧ I (wipeF fr3 vs) ∧ E q) →
    ∃ (qs : List PV) (fr' : Fr), lcF vs t tst el ps fr = .ok (qs.map MV.pv) fr' ∧ I fr' ∧ qs.length = ps.length ∧ ∀ q ∈ qs, E q
  | [], fr, h, _ => ⟨[], fr, rfl, h, rfl, fun _ h => nomatch h⟩
  | p :: ps, fr, h, step => by
    obtain ⟨fr1, fr2, q, fr3, e1, e2, e3, e4, h3, hq⟩ := step p List.mem_cons_self fr h
    obtain ⟨qs, fr', e5, h5, hl, hE⟩ := lcF_inv I E ps (wipeF fr3 vs) h3 fun r hr => step r (List.mem_cons_of_mem _ hr)
    refine ⟨q :: qs, fr', ?_, h5, by rw [List.length_cons, List.length_cons, hl], fun r hr => ?_⟩
    · unfold lcF
      rw [e1]
      simp only [e2, if_true, e3, e4, e5]
      rfl
    · rcases List.mem_cons.mp hr with rfl | hr
      · exact hq
      · exact hE r hr
theorem rgPs_mem {n : Nat} {p : PV} (h : p ∈ rgPs 0 n) : ∃ k : Nat, k < n ∧ p = .int k := by
  unfold rgPs at h
  obtain ⟨k, hk, e⟩ := List.mem_map.mp h
  exact ⟨k, List.mem_range.mp hk, by rw [← e, Int.zero_add]⟩
theorem rgPs_len (lo : Int) (n : Nat) : (rgPs lo n).length = n := by unfold rgPs; rw [List.length_map, List.length_range]
theorem rgPs_get {n i : Nat} {p : PV} (h : (rgPs 0 n)[i]? = some p) : i < n ∧ p = .int i := by
  unfold rgPs at h
  rw [List.getElem?_map] at h
  by_cases hi : i < n
  · rw [List.getElem?_range hi] at h
    cases h
    exact ⟨hi, by show PV.int (0 + (i : Int)) = _; rw [Int.zero_add]⟩
  · rw [List.getElem?_eq_none (by rw [List.length_range]; omega)] at h; cases h
@[simp] theorem allP_comp {α : Type} (f : α → PV) (l : List α) : allP (l.map (MV.pv ∘ f)) = some (l.map f) := by
  rw [← List.map_map]; exact allP_map _
/-- a prefix of the walk: each of its turns goes on -/
theorem forL_pre {t : PV → Fr → Option Fr} {b : Fr → SO} (I : Nat → Fr → Prop) : ∀ (xs : List PV) (k : Nat) (fr : Fr), I k fr → (∀ i p fr, xs[i]? = some p → I (k + i) fr → ∃ fr1 fr2, t p fr = some fr1 ∧ b fr1 = .nx fr2 ∧ I (k + i + 1) fr2) → ∃ fr1, I (k + xs.length) fr1 ∧ ∀ ys, forL t b (xs ++ ys) fr = forL t b ys fr1
  | [], k, fr, h, _ => ⟨fr, h, fun _ => rfl⟩
  | p :: xs, k, fr, h, step => by
    obtain ⟨fr1, fr2, e1, e2, h2⟩ := step 0 p fr rfl h
    have c1 : ∀ i, k + (i + 1) = k + 1 + i := fun i => by omega
    obtain ⟨fr', h3, e3⟩ := forL_pre I xs (k + 1) fr2 h2 fun i q fr hq hi => by
      obtain ⟨f1, f2, a, b, c⟩ := step (i + 1) q fr hq (by rw [c1]; exact hi)
      exact ⟨f1, f2, a, b, by rw [c1] at c; exact c⟩
    refine ⟨fr', by rw [List.length_cons, c1]; exact h3, fun ys => ?_⟩
    rw [List.cons_append, forL_cons e1, e2]
    exact e3 ys
theorem sSeq_nx {a b : Fr → SO} {fr fr1 : Fr} (h : a fr = .nx fr1) : sSeq a b fr = b fr1 := by unfold sSeq; rw [h]
theorem sSeq_rt {a b : Fr → SO} {fr f : Fr} {r : MV} (h : a fr = .rt r f) : sSeq a b fr = .rt r f := by unfold sSeq; rw [h]
theorem sSeq_exc {a b : Fr → SO} {fr f : Fr} {x : Ex} (h : a fr = .exc x f) : sSeq a b fr = .exc x f := by unfold sSeq; rw [h]
theorem runB_rt {n : Nat} {s : Fr → SO} {ms os : List MV} {r : MV} {fr : Fr} (h : s (fr0 n ms) = .rt r fr) (h2 : outs ms fr = some os) : runB n s ms = .ret r os := by
  unfold runB
  rw [h]
  show endR ms r fr = _
  unfold endR
  rw [h2]
theorem runB_nx {n : Nat} {s : Fr → SO} {ms os : List MV} {fr : Fr} (h : s (fr0 n ms) = .nx fr) (h2 : outs ms fr = some os) : runB n s ms = .ret (.pv .non) os := by
  unfold runB
  rw [h]
  show endR ms (.pv .non) fr = _
  unfold endR
  rw [h2]
theorem runB_exc {n : Nat} {s : Fr → SO} {ms os : List MV} {x : Ex} {fr : Fr} (h : s (fr0 n ms) = .exc x fr) (h2 : outs ms fr = some os) : runB n s ms = .exc x os := by
  unfold runB
  rw [h]
  show (match outs ms fr with | some os => FO.exc x os | none => .bad) = _
  rw [h2]
end Sm

namespace Sm
open PySem L2
/-! ### what holds behind a reading: rules by its outermost sign -/
structure Po where
  nx : Fr → Prop
  rt : MV → Fr → Prop
  bk : Fr → Prop
  ct : Fr → Prop
  ex : Ex → Fr → Prop
@[irreducible] def wE {α : Type} (o : O α) (E : Ex → Fr → Prop) (Q : α → Fr → Prop) : Prop := match o with | .ok a fr => Q a fr | .exc x fr => E x fr | .bad => False
@[irreducible] def wS (o : SO) (P : Po) : Prop := match o with | .nx f => P.nx f | .rt r f => P.rt r f | .bk f => P.bk f | .ct f => P.ct f | .exc x f => P.ex x f | .bad => False
@[irreducible] def wF (o : FO) (E : Ex → List MV → Prop) (Q : MV → List MV → Prop) : Prop := match o with | .ret r os => Q r os | .exc x os => E x os | .bad => False
@[irreducible] def wP (a : MV) (k : PV → Prop) : Prop := match a with | .pv p => k p | _ => False
@[irreducible] def br (b : Bool) (A B : Prop) : Prop := (b = true → A) ∧ (b = false → B)
variable {α : Type} {E : Ex → Fr → Prop} {fr : Fr} {P : Po}
theorem wE_out {a : α} {f : Fr} {Q : α → Fr → Prop} (h : wE (.ok a f) E Q) : Q a f := by with_unfolding_all exact h
theorem wP_out {p : PV} {k : PV → Prop} (h : wP (.pv p) k) : k p := by with_unfolding_all exact h
theorem br_1 {A B : Prop} (h : br true A B) : A := by with_unfolding_all exact h.1 rfl
theorem br_0 {A B : Prop} (h : br false A B) : B := by with_unfolding_all exact h.2 rfl
theorem wE_mono {o : O α} {E E' : Ex → Fr → Prop} {Q Q' : α → Fr → Prop} (h : wE o E Q) (h1 : ∀ a f, Q a f → Q' a f) (h2 : ∀ x f, E x f → E' x f) : wE o E' Q' := by
  with_unfolding_all
    cases o with
    | ok a f => exact h1 a f h
    | exc x f => exact h2 x f h
    | bad => exact h
theorem wS_mono {o : SO} {P P' : Po} (h : wS o P) (h1 : ∀ f, P.nx f → P'.nx f) (h2 : ∀ r f, P.rt r f → P'.rt r f) (h3 : ∀ f, P.bk f → P'.bk f) (h4 : ∀ f, P.ct f → P'.ct f) (h5 : ∀ x f, P.ex x f → P'.ex x f) : wS o P' := by
  with_unfolding_all
    cases o with
    | nx f => exact h1 f h
    | rt r f => exact h2 r f h
    | bk f => exact h3 f h
    | ct f => exact h4 f h
    | exc x f => exact h5 x f h
    | bad => exact h
theorem wF_mono {o : FO} {E E' : Ex → List MV → Prop} {Q Q' : MV → List MV → Prop} (h : wF o E Q) (h1 : ∀ a f, Q a f → Q' a f) (h2 : ∀ x f, E x f → E' x f) : wF o E' Q' := by
  with_unfolding_all
    cases o with
    | ret a f => exact h1 a f h
    | exc x f => exact h2 x f h
    | bad => exact h
theorem wF_ret {o : FO} {Q : MV → List MV → Prop} (h : wF o (fun _ _ => False) Q) : ∃ r os, o = .ret r os ∧ Q r os := by
  with_unfolding_all
    cases o with
    | ret a f => exact ⟨a, f, rfl, h⟩
    | exc x f => exact h.elim
    | bad => exact h.elim
theorem wF_of {o : FO} {r : MV} {os : List MV} {E : Ex → List MV → Prop} {Q : MV → List MV → Prop} (h : o = .ret r os) (q : Q r os) : wF o E Q := by with_unfolding_all (rw [h]; exact q)
theorem wF_ofx {o : FO} {x : Ex} {os : List MV} {E : Ex → List MV → Prop} {Q : MV → List MV → Prop} (h : o = .exc x os) (q : E x os) : wF o E Q := by with_unfolding_all (rw [h]; exact q)
theorem wE_of {o : O α} {a : α} {f : Fr} {Q : α → Fr → Prop} (h : o = .ok a f) (q : Q a f) : wE o E Q := by with_unfolding_all (rw [h]; exact q)
theorem wS_of {o : SO} {f : Fr} (h : o = .nx f) (q : P.nx f) : wS o P := by with_unfolding_all (rw [h]; exact q)
theorem wE_bind {β : Type} {o : O α} {k : α → Fr → O β} {Q : β → Fr → Prop} (h : wE o E fun a f => wE (k a f) E Q) : wE (o.bind k) E Q := by
  with_unfolding_all
    cases o with
    | ok a f => exact h
    | exc x f => exact h
    | bad => exact h
theorem wE_bindP {β : Type} {o : O MV} {k : PV → Fr → O β} {Q : β → Fr → Prop} (h : wE o E fun a f => wP a fun p => wE (k p f) E Q) : wE (o.bindP k) E Q := by
  with_unfolding_all
    cases o with
    | ok a f => cases a <;> first | exact h | exact h.elim
    | exc x f => exact h
    | bad => exact h
theorem w_ok {α : Type} {a : α} {f : Fr} {E : Ex → Fr → Prop} {Q : α → Fr → Prop} (h : Q a f) : wE (.ok a f) E Q := by with_unfolding_all exact h
theorem w_isP {p : PV} {k : PV → Prop} (h : k p) : wP (.pv p) k := by with_unfolding_all exact h
theorem br_i {b : Bool} {A B : Prop} (h1 : b = true → A) (h2 : b = false → B) : br b A B := by with_unfolding_all exact ⟨h1, h2⟩
theorem br_t {A B : Prop} (h : A) : br true A B := by with_unfolding_all exact ⟨fun _ => h, fun z => (nomatch z)⟩
theorem br_f {A B : Prop} (h : B) : br false A B := by with_unfolding_all exact ⟨fun z => (nomatch z), fun _ => h⟩
theorem br_n {b : Bool} {A B : Prop} (h : br b B A) : br (!b) A B := by
  with_unfolding_all
    cases b with
    | true => exact ⟨fun z => (nomatch z), fun _ => h.1 rfl⟩
    | false => exact ⟨fun _ => h.2 rfl, fun z => (nomatch z)⟩
theorem br_d {p : Prop} [Decidable p] {A B : Prop} (h1 : p → A) (h2 : ¬p → B) : br (decide p) A B := by with_unfolding_all exact ⟨fun z => h1 (of_decide_eq_true z), fun z => h2 (of_decide_eq_false z)⟩
/-! expressions -/
variable {Q : MV → Fr → Prop} {QB : Bool → Fr → Prop} {QA : List PV → Fr → Prop} {QR : List Arg → Fr → Prop}
def pvS : Option Sl → Option PV
  | some (.ow (.pv p)) => some p
  | some (.pr (.pv p)) => some p
  | _ => none
theorem w_C {p : PV} (h : Q (.pv p) fr) : wE (eC p fr) E Q := by with_unfolding_all exact h
theorem w_V {i : Nat} {p : PV} (e : pvS fr[i]? = some p) (h : Q (.pv p) fr) : wE (eV i fr) E Q := by
  with_unfolding_all
    have : eV i fr = .ok (.pv p) fr := by
      unfold eV
      unfold pvS at e
      split at e <;> first | (cases e; done) | (rename_i q hq; (try rw [hq]); cases e; rfl)
    rw [this]; exact h
theorem w_opO {o : Option PV} {r : PV} (e : o = some r) (h : Q (.pv r) fr) : wE (opO o fr) E Q := by with_unfolding_all (rw [e]; exact h)
theorem w_add {i j : Int} (h : Q (.pv (.int (i + j))) fr) : wE (opO (gAdd (.int i) (.int j)) fr) E Q := by with_unfolding_all exact h
theorem w_sub {i j : Int} (h : Q (.pv (.int (i - j))) fr) : wE (opO (gSub (.int i) (.int j)) fr) E Q := by with_unfolding_all exact h
theorem w_mod {i j : Int} (hj : 0 < j) (h : Q (.pv (.int (i % j))) fr) : wE (opO (gMod (.int i) (.int j)) fr) E Q := by with_unfolding_all exact w_opO (by show (if 0 < j then _ else _) = _; rw [if_pos hj]) h
theorem w_div {i j : Int} (hj : 0 < j) (hj2 : j < 1073741824) (h : Q (.pv (.int (i / j))) fr) : wE (opO (gDiv (.int i) (.int j)) fr) E Q := by with_unfolding_all exact w_opO (by show (if 0 < j ∧ j < 1073741824 then _ else _) = _; rw [if_pos ⟨hj, hj2⟩]) h
theorem w_mul {i j : Int} (hs : smallI i = true ∨ smallI j = true) (h : Q (.pv (.int (i * j))) fr) : wE (opO (gMul (.int i) (.int j)) fr) E Q := by with_unfolding_all exact w_opO (by show (if smallI i = true ∨ smallI j = true then _ else _) = _; rw [if_pos hs]) h
theorem w_addT {a b : List PV} (hs : a.length + b.length ≤ sizeLine) (h : Q (.pv (.tup (a ++ b))) fr) : wE (opO (gAdd (.tup a) (.tup b)) fr) E Q := by with_unfolding_all exact w_opO (by show (if a.length + b.length ≤ sizeLine then _ else _) = _; rw [if_pos hs]) h
theorem w_ixT {a : List PV} {i : Int} {r : PV} (e : atI a i = some r) (h : Q (.pv r) fr) : wE (opO (gIx (.tup a) (.int i)) fr) E Q := by with_unfolding_all exact w_opO e h
theorem w_ixL {a : List PV} {i : Int} {r : PV} (e : atI a i = some r) (h : Q (.pv r) fr) : wE (opO (gIx (.lst a) (.int i)) fr) E Q := by with_unfolding_all exact w_opO e h
theorem w_bin {g : PV → PV → Option PV} {ea eb : Fr → O MV} (h : wE (ea fr) E fun a f => wP a fun p => wE (eb f) E fun b f2 => wP b fun q => wE (opO (g p q) f2) E Q) : wE (eBin g ea eb fr) E Q := by
  with_unfolding_all
    unfold eBin
    exact wE_bindP (wE_mono h (fun a f h => by cases a <;> first | exact wE_bindP h | exact h.elim) fun _ _ h => h)
theorem w_neg {ea : Fr → O MV} (h : wE (ea fr) E fun a f => ∃ i, a = .pv (.int i) ∧ Q (.pv (.int (-i))) f) : wE (eNeg ea fr) E Q := by
  with_unfolding_all
    unfold eNeg
    exact wE_bindP (wE_mono h (fun a f ⟨i, e, h⟩ => by subst e; exact h) fun _ _ h => h)
theorem w_eAnd {ea eb : Fr → O MV} (h : wE (ea fr) E fun a f => ∃ b, a = .pv (.bl b) ∧ br b (wE (eb f) E Q) (Q (.pv (.bl false)) f)) : wE (eAnd ea eb fr) E Q := by
  with_unfolding_all
    unfold eAnd
    exact wE_bindP (wE_mono h (fun a f ⟨b, e, h⟩ => by subst e; cases b; exact h.2 rfl; exact h.1 rfl) fun _ _ h => h)
theorem w_eOr {ea eb : Fr → O MV} (h : wE (ea fr) E fun a f => ∃ b, a = .pv (.bl b) ∧ br b (Q (.pv (.bl true)) f) (wE (eb f) E Q)) : wE (eOr ea eb fr) E Q := by
  with_unfolding_all
    unfold eOr
    exact wE_bindP (wE_mono h (fun a f ⟨b, e, h⟩ => by subst e; cases b; exact h.2 rfl; exact h.1 rfl) fun _ _ h => h)
theorem w_eNot {ea : Fr → O MV} (h : wE (ea fr) E fun a f => ∃ b, a = .pv (.bl b) ∧ Q (.pv (.bl (!b))) f) : wE (eNot ea fr) E Q := by
  with_unfolding_all
    unfold eNot
    exact wE_bindP (wE_mono h (fun a f ⟨b, e, h⟩ => by subst e; exact h) fun _ _ h => h)
theorem w_eixL {i : Nat} {eb : Fr → O MV} {ps0 : List PV} (e : rdL i fr = some ps0) (h : wE (eb fr) E fun b f => wP b fun q => ∃ ps, rdL i f = some ps ∧ wE (opO (gIx (.lst ps) q) f) E Q) : wE (eIxL i eb fr) E Q := by
  with_unfolding_all
    unfold eIxL
    rw [e]
    refine wE_bindP (wE_mono h (fun a f h => ?_) fun _ _ h => h)
    cases a with
    | pv q =>
      obtain ⟨ps, e2, h⟩ := wP_out h
      show wE (match rdL i f with | some ps => opO (gIx (.lst ps) q) f | none => .bad) E Q
      rw [e2]; exact h
    | _ => exact h.elim
theorem w_aNil (h : QA [] fr) : wE (aNil fr) E QA := by with_unfolding_all exact h
theorem w_aCons {ea : Fr → O MV} {er : Fr → O (List PV)} (h : wE (ea fr) E fun a f => wP a fun p => wE (er f) E fun ps f2 => QA (p :: ps) f2) : wE (aCons ea er fr) E QA := by
  with_unfolding_all
    unfold aCons
    refine wE_bindP (wE_mono h (fun a f h => ?_) fun _ _ h => h)
    cases a with
    | pv p => exact wE_bind h
    | _ => exact h.elim
theorem w_tup {ea : Fr → O (List PV)} (h : wE (ea fr) E fun ps f => ps.length ≤ sizeLine ∧ Q (.pv (.tup ps)) f) : wE (eTup ea fr) E Q := by
  with_unfolding_all
    unfold eTup
    exact wE_bind (wE_mono h (fun ps f ⟨a, b⟩ => by rw [if_pos a]; exact b) fun _ _ h => h)
theorem w_tupZ {ea : Fr → O (List PV)} (h : wE (ea fr) E fun ps f => ps.length ≤ sizeLine ∧ Q (.pv (.tupz ps)) f) : wE (eTupZ ea fr) E Q := by
  with_unfolding_all
    unfold eTupZ
    exact wE_bind (wE_mono h (fun ps f ⟨a, b⟩ => by rw [if_pos a]; exact b) fun _ _ h => h)
theorem w_lst {ea : Fr → O (List PV)} (h : wE (ea fr) E fun ps f => ps.length ≤ sizeLine ∧ Q (.pl ps) f) : wE (eLst ea fr) E Q := by
  with_unfolding_all
    unfold eLst
    exact wE_bind (wE_mono h (fun ps f ⟨a, b⟩ => by rw [if_pos a]; exact b) fun _ _ h => h)
theorem w_bu {g : List PV → Option PV} {ea : Fr → O (List PV)} (h : wE (ea fr) E fun ps f => wE (opO (g ps) f) E Q) : wE (eBu g ea fr) E Q := by with_unfolding_all exact wE_bind h
theorem w_b1 {g : MV → Option PV} {ea : Fr → O MV} (h : wE (ea fr) E fun a f => wE (opO (g a) f) E Q) : wE (eB1 g ea fr) E Q := by with_unfolding_all exact wE_bind h
theorem w_b1S {g : MV → Option PV} {i : Nat} {a : MV} (e : slM i fr = some a) (h : wE (opO (g a) fr) E Q) : wE (eB1S g i fr) E Q := by with_unfolding_all (unfold eB1S; rw [e]; exact h)
theorem w_n1 {g : MV → Option (List PV)} {ea : Fr → O MV} (h : wE (ea fr) E fun a f => ∃ qs, g a = some qs ∧ Q (.pl qs) f) : wE (eN1 g ea fr) E Q := by with_unfolding_all exact wE_bind (wE_mono h (fun a f ⟨qs, e, h⟩ => by rw [e]; exact h) fun _ _ h => h)
theorem w_n1S {g : MV → Option (List PV)} {i : Nat} {a : MV} {qs : List PV} (e : slM i fr = some a) (e2 : g a = some qs) (h : Q (.pl qs) fr) : wE (eN1S g i fr) E Q := by with_unfolding_all (unfold eN1S; rw [e]; show wE (newO (g a) fr) E Q; rw [e2]; exact h)
theorem w_app {i : Nat} {ea : Fr → O MV} {ps0 : List PV} (e : rdL i fr = some ps0) (h : wE (ea fr) E fun b f => wP b fun q => ∃ ps, rdL i f = some ps ∧ ps.length < sizeLine ∧ Q (.pv .non) (wrL i (ps ++ [q]) f)) : wE (eApp i ea fr) E Q := by
  with_unfolding_all
    unfold eApp
    rw [e]
    refine wE_bindP (wE_mono h (fun a f h => ?_) fun _ _ h => h)
    cases a with
    | pv q =>
      obtain ⟨ps, e2, hl, h⟩ := wP_out h
      show wE (match rdL i f with | some ps => if ps.length < sizeLine then .ok (.pv .non) (wrL i (ps ++ [q]) f) else .bad | none => .bad) E Q
      rw [e2]
      show wE (if ps.length < sizeLine then .ok (.pv .non) (wrL i (ps ++ [q]) f) else .bad) E Q
      rw [if_pos hl]; exact h
    | _ => exact h.elim
/-! tests -/
theorem w_cmp {g : PV → PV → Option PV} {ea eb : Fr → O MV} (h : wE (ea fr) E fun a f => wP a fun p => wE (eb f) E fun b f2 => wP b fun q => ∃ k, g p q = some (.bl k) ∧ QB k f2) : wE (bCmp g ea eb fr) E QB := by
  with_unfolding_all
    unfold bCmp
    refine wE_bindP (wE_mono h (fun a f h => ?_) fun _ _ h => h)
    cases a with
    | pv p =>
      refine wE_bindP (wE_mono h (fun b f2 h => ?_) fun _ _ h => h)
      cases b with
      | pv q =>
        obtain ⟨k, e, h⟩ := wP_out h
        show wE (match g p q with | some r => unB r f2 | none => .bad) E QB
        rw [e]; exact h
      | _ => exact h.elim
    | _ => exact h.elim
theorem w_bTru {ea : Fr → O MV} (h : wE (ea fr) E fun a f => ∃ k, truM a = some k ∧ QB k f) : wE (bTru ea fr) E QB := by with_unfolding_all exact wE_bind (wE_mono h (fun a f ⟨k, e, h⟩ => by rw [e]; exact h) fun _ _ h => h)
theorem w_bTruS {i : Nat} {a : MV} {k : Bool} (e : slM i fr = some a) (e2 : truM a = some k) (h : QB k fr) : wE (bTruS i fr) E QB := by
  with_unfolding_all
    have : bTruS i fr = .ok k fr := by
      unfold bTruS
      unfold slM at e
      split at e <;> first | (cases e; done) | (rename_i q hq; (try rw [hq]); cases e; show (match truM a with | some b => O.ok b fr | none => .bad) = _; rw [e2])
    rw [this]; exact h
theorem w_not {t : Fr → O Bool} (h : wE (t fr) E fun b f => QB (!b) f) : wE (bNot t fr) E QB := by with_unfolding_all exact wE_bind h
theorem w_and {t u : Fr → O Bool} (h : wE (t fr) E fun b f => br b (wE (u f) E QB) (QB false f)) : wE (bAnd t u fr) E QB := by with_unfolding_all exact wE_bind (wE_mono h (fun b f h => by cases b; exact h.2 rfl; exact h.1 rfl) fun _ _ h => h)
theorem w_or {t u : Fr → O Bool} (h : wE (t fr) E fun b f => br b (QB true f) (wE (u f) E QB)) : wE (bOr t u fr) E QB := by with_unfolding_all exact wE_bind (wE_mono h (fun b f h => by cases b; exact h.2 rfl; exact h.1 rfl) fun _ _ h => h)
/-! calls -/
theorem w_bNil (h : QR [] fr) : wE (bNil fr) E QR := by with_unfolding_all exact h
theorem w_bVal {ea : Fr → O MV} {er : Fr → O (List Arg)} (h : wE (ea fr) E fun a f => wE (er f) E fun as f2 => QR (.val a :: as) f2) : wE (bVal ea er fr) E QR := by with_unfolding_all exact wE_bind (wE_mono h (fun a f h => wE_bind h) fun _ _ h => h)
def obS : Option Sl → Option MV
  | some (.ow (.pv _)) => none
  | some (.pr (.pv _)) => none
  | some (.ow m) => some m
  | some (.pr m) => some m
  | _ => none
theorem w_bNv {i : Nat} {p : PV} {er : Fr → O (List Arg)} (e : pvS fr[i]? = some p) (h : wE (er fr) E fun as f2 => QR (.val (.pv p) :: as) f2) : wE (bName i er fr) E QR := by
  with_unfolding_all
    have : bName i er fr = (er fr).bind fun as fr2 => .ok (.val (.pv p) :: as) fr2 := by
      unfold bName
      unfold pvS at e
      split at e <;> first | (cases e; done) | (rename_i q hq; (try rw [hq]); cases e; rfl)
    rw [this]; exact wE_bind h
theorem w_bNo {i : Nat} {m : MV} {er : Fr → O (List Arg)} (e : obS fr[i]? = some m) (h : wE (er fr) E fun as f2 => QR (.bor i :: as) f2) : wE (bName i er fr) E QR := by
  with_unfolding_all
    have : bName i er fr = (er fr).bind fun as fr2 => .ok (.bor i :: as) fr2 := by
      unfold bName
      unfold obS at e
      split at e
      · cases e
      · cases e
      · rename_i m1 hn hq; (try rw [hq]); cases m1 <;> first | rfl | exact absurd rfl (hn _)
      · rename_i m1 hn hq; (try rw [hq]); cases m1 <;> first | rfl | exact absurd rfl (hn _)
      · cases e
    rw [this]; exact wE_bind h
theorem w_callG {n : Nat} {g : List MV → FO} {as : List Arg} {ms : List MV} {fr1 : Fr} (hn : as.length = n) (ht : takeA as fr = some (ms, fr1)) (h : wF (g ms) (fun x os => os.length = as.length ∧ E x (putA as os fr fr1)) fun r os => os.length = as.length ∧ Q r (putA as os fr fr1)) : wE (callG n g as fr) E Q := by
  with_unfolding_all
    unfold callG
    rw [if_pos hn, ht]
    show wE (match g ms with | .ret r os => if os.length = as.length then .ok r (putA as os fr fr1) else .bad | .exc x os => if os.length = as.length then .exc x (putA as os fr fr1) else .bad | .bad => .bad) E Q
    cases e : g ms with
    | ret r os => rw [e] at h; show wE (if os.length = as.length then .ok r (putA as os fr fr1) else .bad) E Q; rw [if_pos h.1]; exact h.2
    | exc x os => rw [e] at h; show wE (if os.length = as.length then .exc x (putA as os fr fr1) else .bad : O MV) E Q; rw [if_pos h.1]; exact h.2
    | bad => rw [e] at h; exact h.elim
theorem w_callB {n : Nat} {g : List MV → FO} {ea : Fr → O (List Arg)} (h : wE (ea fr) E fun as f => wE (callG n g as f) E Q) : wE (eCallB n g ea fr) E Q := by with_unfolding_all exact wE_bind h
theorem w_callP {n : Nat} {g : List MV → FO} {ea : Fr → O (List PV)} (h : wE (ea fr) E fun ps f => ps.length = n ∧ wF (g (ps.map .pv)) (fun x _ => E x f) fun r _ => Q r f) : wE (eCallP n g ea fr) E Q := by
  with_unfolding_all
    unfold eCallP
    refine wE_bind (wE_mono h (fun ps f ⟨hn, h⟩ => ?_) fun _ _ h => h)
    rw [if_pos hn]
    cases e : g (ps.map .pv) with
    | ret r os => rw [e] at h; exact h
    | exc x os => rw [e] at h; exact h
    | bad => rw [e] at h; exact h.elim
theorem w_call0 {g : List MV → FO} (h : wF (g []) (fun x _ => E x fr) fun r _ => Q r fr) : wE (eCall0 g fr) E Q := by
  with_unfolding_all
    unfold eCall0
    cases e : g [] with
    | ret r os => rw [e] at h; exact h
    | exc x os => rw [e] at h; exact h
    | bad => rw [e] at h; exact h.elim
/-! statements -/
theorem w_nil (h : P.nx fr) : wS (sNil fr) P := by with_unfolding_all exact h
theorem w_seq {a b : Fr → SO} (h : wS (a fr) { P with nx := fun f => wS (b f) P }) : wS (sSeq a b fr) P := by
  with_unfolding_all
    unfold sSeq
    cases e : a fr with
    | nx f => rw [e] at h; exact h
    | rt r f => rw [e] at h; exact h
    | bk f => rw [e] at h; exact h
    | ct f => rw [e] at h; exact h
    | exc x f => rw [e] at h; exact h
    | bad => rw [e] at h; exact h.elim
theorem w_cut {a b : Fr → SO} (M : Fr → Prop) (h : wS (a fr) { P with nx := M }) (h2 : ∀ f, M f → wS (b f) P) : wS (sSeq a b fr) P := by with_unfolding_all exact w_seq (wS_mono h h2 (fun _ _ h => h) (fun _ h => h) (fun _ h => h) fun _ _ h => h)
theorem w_expr {ev : Fr → O MV} (h : wE (ev fr) P.ex fun _ f => P.nx f) : wS (sExpr ev fr) P := by
  with_unfolding_all
    unfold sExpr
    cases e : ev fr with
    | ok a f => rw [e] at h; exact h
    | exc x f => rw [e] at h; exact h
    | bad => rw [e] at h; exact h.elim
theorem w_ret {ev : Fr → O MV} (h : wE (ev fr) P.ex fun a f => P.rt a f) : wS (sRet ev fr) P := by
  with_unfolding_all
    unfold sRet
    cases e : ev fr with
    | ok a f => rw [e] at h; exact h
    | exc x f => rw [e] at h; exact h
    | bad => rw [e] at h; exact h.elim
theorem w_retN (h : P.rt (.pv .non) fr) : wS (sRetN fr) P := by with_unfolding_all exact h
theorem w_if {t : Fr → O Bool} {a b : Fr → SO} (h : wE (t fr) P.ex fun k f => br k (wS (a f) P) (wS (b f) P)) : wS (sIf t a b fr) P := by
  with_unfolding_all
    unfold sIf
    cases e : t fr with
    | ok k f =>
      rw [e] at h
      cases k with
      | true => exact h.1 rfl
      | false => exact h.2 rfl
    | exc x f => rw [e] at h; exact h
    | bad => rw [e] at h; exact h.elim
theorem w_set {i : Nat} {ev : Fr → O MV} (h : wE (ev fr) P.ex fun a f => free? f i = true ∧ P.nx (f.set i (.ow a))) : wS (sSet i ev fr) P := by
  with_unfolding_all
    unfold sSet
    cases e : ev fr with
    | ok a f =>
      rw [e] at h
      show wS (if free? f i = true then .nx (f.set i (.ow a)) else .bad) P
      rw [if_pos h.1]; exact h.2
    | exc x f => rw [e] at h; exact h
    | bad => rw [e] at h; exact h.elim
def isPl : MV → Option (List PV)
  | .pl ps => some ps
  | _ => none
theorem w_setF {i : Nat} {ev : Fr → O MV} (h : wE (ev fr) P.ex fun a f => ∃ ps, isPl a = some ps ∧ free? f i = true ∧ P.nx (f.set i (.ow (.pv (.lst ps))))) : wS (sSetF i ev fr) P := by
  with_unfolding_all
    unfold sSetF
    cases e : ev fr with
    | ok a f =>
      rw [e] at h
      obtain ⟨ps, h1, h2, h3⟩ := wE_out h
      cases a with
      | pl qs =>
        obtain rfl : qs = ps := Option.some.inj h1
        show wS (if free? f i = true then .nx (f.set i (.ow (.pv (.lst qs)))) else .bad) P
        rw [if_pos h2]; exact h3
      | _ => cases h1
    | exc x f => rw [e] at h; exact h
    | bad => rw [e] at h; exact h.elim
theorem w_setIx {i : Nat} {ei ev : Fr → O MV} (h : wE (ev fr) P.ex fun a f => wP a fun q => ∃ ps0, rdL i f = some ps0 ∧ wE (ei f) P.ex fun c f2 => ∃ k ps j, c = .pv (.int k) ∧ rdL i f2 = some ps ∧ ixN ps.length k = some j ∧ P.nx (wrL i (ps.set j q) f2)) : wS (sSetIx i ei ev fr) P := by
  with_unfolding_all
    unfold sSetIx
    cases e : ev fr with
    | ok a f =>
      rw [e] at h
      cases a with
      | pv q =>
        obtain ⟨ps0, e1, h⟩ := wP_out (wE_out h)
        show wS (match rdL i f with | none => .bad | some _ => match ei f with
        | .ok (.pv (.int k)) fr2 => (match rdL i fr2 with
          | some ps => (match ixN ps.length k with | some j => .nx (wrL i (ps.set j q) fr2) | none => .bad)
          | none => .bad)
        | .ok _ _ => .bad
        | .exc x f => .exc x f
        | .bad => .bad) P
        rw [e1]
        show wS (match ei f with
        | .ok (.pv (.int k)) fr2 => (match rdL i fr2 with
          | some ps => (match ixN ps.length k with | some j => .nx (wrL i (ps.set j q) fr2) | none => .bad)
          | none => .bad)
        | .ok _ _ => .bad
        | .exc x f => .exc x f
        | .bad => .bad) P
        cases e2 : ei f with
        | ok c f2 =>
          rw [e2] at h
          obtain ⟨k, ps, j, ec, e3, e4, h9⟩ := wE_out h
          subst ec
          show wS (match rdL i f2 with | some ps => (match ixN ps.length k with | some j => SO.nx (wrL i (ps.set j q) f2) | none => .bad) | none => .bad) P
          rw [e3]
          show wS (match ixN ps.length k with | some j => SO.nx (wrL i (ps.set j q) f2) | none => .bad) P
          rw [e4]; exact h9
        | exc x f2 => rw [e2] at h; exact h
        | bad => rw [e2] at h; exact h.elim
      | _ => exact h.elim
    | exc x f => rw [e] at h; exact h
    | bad => rw [e] at h; exact h.elim
theorem w_asg {t : PV → Fr → Option Fr} {ev : Fr → O MV} (h : wE (ev fr) P.ex fun a f => wP a fun p => ∃ f2, t p f = some f2 ∧ P.nx f2) : wS (sAsg t ev fr) P := by
  with_unfolding_all
    unfold sAsg
    cases e : ev fr with
    | ok a f =>
      rw [e] at h
      cases a with
      | pv p =>
        obtain ⟨f2, e2, h⟩ := wP_out (wE_out h)
        show wS (match t p f with | some fr2 => .nx fr2 | none => .bad) P
        rw [e2]; exact h
      | _ => exact h.elim
    | exc x f => rw [e] at h; exact h
    | bad => rw [e] at h; exact h.elim
/-- a walk with what holds ahead of each turn -/
theorem w_forL {t : PV → Fr → Option Fr} {b : Fr → SO} (I : Nat → Fr → Prop) : ∀ (ps : List PV) (k : Nat) (fr : Fr), I k fr → (∀ i p fr, ps[i]? = some p → I (k + i) fr → ∃ f, t p fr = some f ∧ wS (b f) { nx := I (k + i + 1), ct := I (k + i + 1), bk := P.nx, rt := P.rt, ex := P.ex }) → (∀ fr, I (k + ps.length) fr → P.nx fr) → wS (forL t b ps fr) P
  | [], k, fr, h, _, fin => by with_unfolding_all exact fin fr h
  | p :: ps, k, fr, h, step, fin => by
    obtain ⟨f, e1, h2⟩ := step 0 p fr rfl h
    have c1 : ∀ i, k + (i + 1) = k + 1 + i := fun i => by omega
    have go : ∀ f2, I (k + 1) f2 → wS (forL t b ps f2) P := fun f2 hf => w_forL I ps (k + 1) f2 hf (fun i q fr hq hi => by
      obtain ⟨f1, a, c⟩ := step (i + 1) q fr hq (by rw [c1]; exact hi)
      exact ⟨f1, a, by rw [c1] at c; exact c⟩) (fun fr hf => fin fr (by rw [List.length_cons, c1]; exact hf))
    rw [forL_cons e1]
    cases e2 : b f with
    | nx f2 => rw [e2] at h2; with_unfolding_all exact go f2 h2
    | ct f2 => rw [e2] at h2; with_unfolding_all exact go f2 h2
    | bk f2 => rw [e2] at h2; with_unfolding_all exact h2
    | rt r f2 => rw [e2] at h2; with_unfolding_all exact h2
    | exc x f2 => rw [e2] at h2; with_unfolding_all exact h2
    | bad => rw [e2] at h2; with_unfolding_all exact h2.elim
theorem w_for {it : Fr → O MV} {t : PV → Fr → Option Fr} {b : Fr → SO} (h : wE (it fr) P.ex fun a f => ∃ ps, seqM2 a = some ps ∧ wS (forL t b ps f) P) : wS (sForE it t b fr) P := by
  with_unfolding_all
    unfold sForE
    cases e : it fr with
    | ok a f =>
      rw [e] at h
      obtain ⟨ps, e2, h⟩ := wE_out h
      show wS (match seqM2 a with | some ps => forL t b ps f | none => .bad) P
      rw [e2]; exact h
    | exc x f => rw [e] at h; exact h
    | bad => rw [e] at h; exact h.elim
theorem w_forL_nil {t : PV → Fr → Option Fr} {b : Fr → SO} (h : P.nx fr) : wS (forL t b [] fr) P := by with_unfolding_all exact h
theorem w_forL_cons {t : PV → Fr → Option Fr} {b : Fr → SO} {p : PV} {ps : List PV} {f : Fr} (e : t p fr = some f) (h : wS (b f) { nx := fun f => wS (forL t b ps f) P, ct := fun f => wS (forL t b ps f) P, bk := P.nx, rt := P.rt, ex := P.ex }) : wS (forL t b (p :: ps) fr) P := by
  with_unfolding_all
    rw [forL_cons e]
    cases e2 : b f with
    | nx f2 => rw [e2] at h; exact h
    | ct f2 => rw [e2] at h; exact h
    | bk f2 => rw [e2] at h; exact h
    | rt r f2 => rw [e2] at h; exact h
    | exc x f2 => rw [e2] at h; exact h
    | bad => rw [e2] at h; exact h.elim
/-- a comprehension: what holds ahead of each item, of the frame and the items made -/
theorem w_lcF {vs : List Nat} {t : PV → Fr → Option Fr} {tst : Fr → O Bool} {el : Fr → O MV} (I : Nat → List PV → Fr → Prop) : ∀ (ps : List PV) (k : Nat) (pre : List PV) (fr : Fr), I k pre fr → (∀ i p pre fr, ps[i]? = some p → I (k + i) pre fr → ∃ f, t p fr = some f ∧ wE (tst f) (fun _ _ => False) fun b f2 =>
      br b (wE (el f2) (fun _ _ => False) fun a f3 => wP a fun q => plainOwn f3 vs = true ∧ I (k + i + 1) (pre ++ [q]) (wipeF f3 vs)) (plainOwn f2 vs = true ∧ I (k + i + 1) pre (wipeF f2 vs))) →
    ∃ (qs : List PV) (fr' : Fr), lcF vs t tst el ps fr = .ok (qs.map MV.pv) fr' ∧ I (k + ps.length) (pre ++ qs) fr' ∧ qs.length ≤ ps.length
  | [], k, pre, fr, h, _ => ⟨[], fr, rfl, by rw [List.append_nil]; exact h, Nat.le_refl _⟩
  | p :: ps, k, pre, fr, h, step => by
    obtain ⟨f, e1, h2⟩ := step 0 p pre fr rfl h
    have c1 : ∀ i, k + (i + 1) = k + 1 + i := fun i => by omega
    have go := fun pre2 f2 hf => w_lcF (vs := vs) (t := t) (tst := tst) (el := el) I ps (k + 1) pre2 f2 hf fun i q pr fr hq hi => by
      obtain ⟨f1, a, c⟩ := step (i + 1) q pr fr hq (by rw [c1]; exact hi)
      exact ⟨f1, a, by rw [c1] at c; exact c⟩
    unfold lcF
    rw [e1]
    cases e2 : tst f with
    | exc x f2 => rw [e2] at h2; with_unfolding_all exact h2.elim
    | bad => rw [e2] at h2; with_unfolding_all exact h2.elim
    | ok b f2 =>
      rw [e2] at h2
      cases b with
      | true =>
        have h3 := br_1 (wE_out h2)
        cases e3 : el f2 with
        | exc x f3 => rw [e3] at h3; with_unfolding_all exact h3.elim
        | bad => rw [e3] at h3; with_unfolding_all exact h3.elim
        | ok a f3 =>
          rw [e3] at h3
          cases a with
          | pv q =>
            obtain ⟨hp, hI⟩ := wP_out (wE_out h3)
            obtain ⟨qs, fr', e4, h4, hl⟩ := go _ _ hI
            refine ⟨q :: qs, fr', ?_, by rw [List.append_assoc] at h4; rw [List.length_cons, c1]; exact h4, by rw [List.length_cons, List.length_cons]; omega⟩
            simp only [e2, if_true, e3, hp, e4]
            rfl
          | _ => with_unfolding_all exact h3.elim
      | false =>
        obtain ⟨hp, hI⟩ := br_0 (wE_out h2)
        obtain ⟨qs, fr', e4, h4, hl⟩ := go _ _ hI
        refine ⟨qs, fr', ?_, by rw [List.length_cons, c1]; exact h4, by rw [List.length_cons]; omega⟩
        simp only [e2, hp, e4, if_true]
        simp
theorem w_lc {vs : List Nat} {it : Fr → O MV} {t : PV → Fr → Option Fr} {tst : Fr → O Bool} {el : Fr → O MV} (h : wE (it fr) E fun a f => ∃ ps, seqM2 a = some ps ∧ plainOwn f vs = true ∧ ∃ qs f2, lcF vs t tst el ps (wipeF f vs) = .ok (qs.map MV.pv) f2 ∧ qs.length ≤ sizeLine ∧ Q (.pl qs) (restF f vs f2)) : wE (eLc true vs it t tst el fr) E Q := by
  with_unfolding_all
    unfold eLc
    refine wE_bind (wE_mono h (fun a f ⟨ps, e, hp, qs, f2, e2, hl, h⟩ => ?_) fun _ _ h => h)
    rw [e]
    show wE (if plainOwn f vs = true then (match lcF vs t tst el ps (wipeF f vs) with
        | .ok ms fr2 => if ms.length ≤ sizeLine then (match mkL true ms with | some r => .ok r (restF f vs fr2) | none => .bad) else .bad
        | _ => .bad) else .bad) E Q
    rw [if_pos hp, e2]
    show wE (if (qs.map MV.pv).length ≤ sizeLine then (match mkL true (qs.map MV.pv) with | some r => .ok r (restF f vs f2) | none => .bad) else .bad) E Q
    rw [if_pos (by rw [List.length_map]; exact hl)]
    have : mkL true (qs.map MV.pv) = some (.pl qs) := by unfold mkL; rw [if_pos rfl, allP_map]; rfl
    rw [this]; exact h
/-- a def's body -/
theorem w_runB {n : Nat} {s : Fr → SO} {ms : List MV} {EF : Ex → List MV → Prop} {QF : MV → List MV → Prop} (h : wS (s (fr0 n ms)) { nx := fun f => ∃ os, outs ms f = some os ∧ QF (.pv .non) os, rt := fun r f => ∃ os, outs ms f = some os ∧ QF r os, bk := fun _ => False, ct := fun _ => False, ex := fun x f => ∃ os, outs ms f = some os ∧ EF x os }) : wF (runB n s ms) EF QF := by
  with_unfolding_all
    unfold runB
    cases e : s (fr0 n ms) with
    | nx f => rw [e] at h; with_unfolding_all unfold wS at h; obtain ⟨os, e2, h⟩ := h; show wF (endR ms (.pv .non) f) EF QF; unfold endR; rw [e2]; exact h
    | rt r f => rw [e] at h; with_unfolding_all unfold wS at h; obtain ⟨os, e2, h⟩ := h; show wF (endR ms r f) EF QF; unfold endR; rw [e2]; exact h
    | exc x f => rw [e] at h; with_unfolding_all unfold wS at h; obtain ⟨os, e2, h⟩ := h; show wF (match outs ms f with | some os => .exc x os | none => .bad) EF QF; rw [e2]; exact h
    | bk f => rw [e] at h; exact h.elim
    | ct f => rw [e] at h; exact h.elim
    | bad => rw [e] at h; exact h.elim
end Sm

namespace Sm
open PySem PySem.Spec PyProof.Rows L2
theorem tmul_one (l : Addr) (its : Array Value) (n : Nat) (dd : Option Addr) (sl : Array (Option Value)) (t : Tok) :
    Meets (Builtin.«tuple.__mul__» ⟨[.ref l, .int 1 t], []⟩) (fun _ R st => st.heap.get? l = some { cls := .type "tuple", dict := dd, data := .seq its n, slots := sl } ∧ R (.ok (.ret (Value.ref l))) st) :=
  .of_wp fun prog w A R st hh => by
    obtain ⟨hp, g, d, tk, os⟩ := st
    obtain ⟨hl, hh⟩ := hh
    have f1 := AutoSeq1.idx_int
    wp_walk using wpAny_loadPart' hl
    exact ⟨_, rfl, hh⟩
theorem tmul_zero (l : Addr) (its : Array Value) (n : Nat) (dd : Option Addr) (sl : Array (Option Value)) (t : Tok) (he : its.isEmpty = false) :
    Meets (Builtin.«tuple.__mul__» ⟨[.ref l, .int 0 t], []⟩) (fun _ R st => st.heap.get? l = some { cls := .type "tuple", dict := dd, data := .seq its n, slots := sl } ∧
      R (.ok (.ret (Value.ref st.heap.objs.size))) { st with heap := st.heap.push { cls := .type "tuple", data := .seq #[] } }) :=
  .of_wp fun prog w A R st hh => by
    obtain ⟨hp, g, d, tk, os⟩ := st
    obtain ⟨hl, hh⟩ := hh
    have f1 := AutoSeq1.idx_int
    wp_walk using wpAny_loadPart' hl
    repeat (first | (refine wpAny_ite_false (decide_eq_false (by rw [he]; exact Bool.false_ne_true)) ?_; wp_walk using wpAny_loadPart' hl))
    exact ⟨_, rfl, hh⟩
variable {X : Cx}
theorem op_rep1 : OpR X (binaryOp .Mult) (fun x y H Q => ∃ l xs, x = .ref l ∧ y = .int 1 ∧ SqT X.K H l xs ∧ Q (.ref l) H) := by
  intro pins s σ H x y v u Q I rx ry h
  obtain ⟨l, xs, rfl, rfl, hT, q⟩ := h
  cases rx
  obtain ⟨t, rfl⟩ := ry
  obtain ⟨its, r, ⟨⟨cls, dd, data, sl⟩, ho, hc, n, hd⟩, hs⟩ := I.tuple hT
  simp only at hc hd
  subst hc hd
  exact wpAny_binaryOp_repeat_ref (T := "tuple") (U := "int") (by decide) ⟨_, ho, rfl⟩ (fun s' => typeIs_int s' 1 t) noFill_tuple_mul F.fills_int_mul F.slot_int_rmul repeat_tuple F.slot_int_index.lookup
    (call_meets F.slot_int_rmul (typeIs_int s 1 t) F.entry_int_rmul (F.args_int_rmul_2 _ _) (int_rmul_tuple 1 t l its.toArray n dd sl)
      ⟨ho, rfl, ⟨_, ho, rfl⟩, call_meets F.slot_tuple_mul ⟨_, ho, rfl⟩ F.entry_tuple_mul (F.args_tuple_mul_2 _ _) (tmul_one l its.toArray n dd sl t) ⟨ho, .ref l, H, I, rfl, q⟩⟩)
theorem op_rep0 : OpR X (binaryOp .Mult) (fun x y H Q => ∃ l xs, x = .ref l ∧ y = .int 0 ∧ SqT X.K H l xs ∧ xs ≠ [] ∧ ∀ p, H p = none → Q (.ref p) (upd H p (.tup []))) := by
  intro pins s σ H x y v u Q I rx ry h
  obtain ⟨l, xs, rfl, rfl, hT, hne, q⟩ := h
  cases rx
  obtain ⟨t, rfl⟩ := ry
  obtain ⟨its, r, ⟨⟨cls, dd, data, sl⟩, ho, hc, n, hd⟩, hs⟩ := I.tuple hT
  simp only at hc hd
  subst hc hd
  have he : its.toArray.isEmpty = false := by
    cases its with
    | nil => exact absurd (List.eq_nil_of_length_eq_zero (by rw [r.length]; rfl)) hne
    | cons a b => rfl
  refine wpAny_binaryOp_repeat_ref (T := "tuple") (U := "int") (by decide) ⟨_, ho, rfl⟩ (fun s' => typeIs_int s' 0 t) noFill_tuple_mul F.fills_int_mul F.slot_int_rmul repeat_tuple F.slot_int_index.lookup
    (call_meets F.slot_int_rmul (typeIs_int s 0 t) F.entry_int_rmul (F.args_int_rmul_2 _ _) (int_rmul_tuple 0 t l its.toArray n dd sl)
      ⟨ho, rfl, ⟨_, ho, rfl⟩, call_meets F.slot_tuple_mul ⟨_, ho, rfl⟩ F.entry_tuple_mul (F.args_tuple_mul_2 _ _) (tmul_zero l its.toArray n dd sl t he) ⟨ho, ?_⟩⟩)
  exact ⟨.ref s.heap.objs.size, _, I.laid (t' := s.toks) (o := .tup []) (fun b ob q => Heap.get?_push_of_some _ q) (Nat.le_refl _) ⟨Nat.zero_le _, [], .nil, IsTup.new _ _⟩, rfl, q _ (I.hok.fresh (Nat.le_refl _))⟩
end Sm

namespace Sm
open PySem L2 PyProof.Rows
variable {K : PySem.W.Frag} {X : Cx} {ca : Nat → Addr} {m : Bool}

/-! ### (a, b) * n -/
def gRep : PV → PV → Option PV
  | .tup ps, .int n => if ps ≠ [] ∧ 0 ≤ n ∧ n ≤ 1000 ∧ ps.length ≤ 1000 then some (.tup (List.replicate n.toNat ps).flatten) else none
  | _, _ => none
theorem VRL.flat {S : Hp} {ps : List PV} {vs : List V} (r : VRL K S ps vs) : ∀ n, VRL K S (List.replicate n ps).flatten (List.replicate n vs).flatten
  | 0 => rfl
  | n + 1 => by
    rw [List.replicate_succ, List.replicate_succ, List.flatten_cons, List.flatten_cons]
    exact r.app (VRL.flat r n)
theorem same_upd {S H : Hp} (sub : Same S H) {a : Addr} (ha : H a = none) (o : HO) : Same S (upd S a o) := fun b u e => by
  rw [upd_ne (ne_of_none e (by
    cases z : S a with
    | none => rfl
    | some q => rw [sub _ _ z] at ha; cases ha))]
  exact e
theorem ops_rep : OpS X (binaryOp .Mult) gRep := by
  intro pins s σ H x y v u Q I rx ry ⟨S, p, q, sub, hp, hq, k⟩
  cases p <;> try exact k.bad.elim
  cases q <;> try exact k.bad.elim
  rename_i ps n
  obtain ⟨a, xs, rfl, ha, r⟩ := hp
  obtain rfl := hq
  have k' : VK1 X.K S H Q (if ps ≠ [] ∧ 0 ≤ n ∧ n ≤ 1000 ∧ ps.length ≤ 1000 then some (.tup (List.replicate n.toNat ps).flatten) else none) := k
  obtain ⟨⟨h1, h2, h3, h4⟩, k2⟩ := k'.ite
  have hne : xs ≠ [] := fun z => by
    subst z
    cases ps with
    | nil => exact h1 rfl
    | cons p ps => obtain ⟨x, t, e, _⟩ := r; cases e
  by_cases c2 : 2 ≤ n
  · exact op_repT pins s σ H _ _ v u Q I rx ry ⟨a, n, xs, rfl, rfl, SqT.of (sub _ _ ha), hne, c2, h3, by rw [r.len]; exact h4, fun p hp => k2.new sub hp (o := .tup (List.replicate n.toNat xs).flatten) ⟨p, _, rfl, upd_same, (r.flat n.toNat).mono (same_upd sub hp _)⟩⟩
  · obtain rfl | rfl : n = 0 ∨ n = 1 := by omega
    · exact op_rep0 pins s σ H _ _ v u Q I rx ry ⟨a, xs, rfl, rfl, SqT.of (sub _ _ ha), hne, fun p hp => k2.new sub hp (o := .tup []) ⟨p, [], rfl, upd_same, rfl⟩⟩
    · have e1 : (List.replicate (1 : Int).toNat ps).flatten = ps := by show (ps ++ []) = ps; rw [List.append_nil]
      rw [e1] at k2
      exact op_rep1 pins s σ H _ _ v u Q I rx ry ⟨a, xs, rfl, rfl, SqT.of (sub _ _ ha), k2.here sub ⟨a, xs, rfl, ha, r⟩⟩

/-! ### xs.pop(), xs.extend(ys) -/
def ePop (i : Nat) (fr : Fr) : O MV := match rdL i fr with
  | some ps => (match ps[ps.length - 1]? with | some q => .ok (.pv q) (wrL i ps.dropLast fr) | none => .bad)
  | none => .bad
def eExt (i : Nat) (ea : Fr → O MV) (fr : Fr) : O MV := match rdL i fr with
  | none => .bad
  | some _ => (ea fr).bind fun b fr1 => match b, rdL i fr1 with
    | .pl qs, some ps => if ps.length + qs.length ≤ sizeLine then .ok (.pv .non) (wrL i (ps ++ qs) fr1) else .bad
    | _, _ => .bad
theorem VRL.dl {S : Hp} {ps : List PV} {vs : List V} (r : VRL K S ps vs) : VRL K S ps.dropLast vs.dropLast := by
  rw [List.dropLast_eq_take, List.dropLast_eq_take, r.len]
  exact r.take _
section
variable {i : Nat} {o e : Expr} {ea : Fr → O MV} {apos cpos pos : Pos}
theorem se_pop (ho : PE X o (tVar i)) (hbase : attributeBase o "pop" X.env (eval o X.env) = eval o X.env := by rfl) (hline : (apos.endLine == cpos.line) = true := by rfl) :
    SE X ca false (.Call (.Attribute o "pop" apos) [] [] cpos) (ePop i) := by
  refine SE.of (pe_bm0 PySem.F.plainAttrs_list PySem.F.slot_list_pop PySem.F.type_list_pop mt_pop ho hbase hline) fun W c Q tk rp po => ?_
  unfold ePop at po
  cases h : rdL i c.fr with
  | none => rw [h] at po; exact po.elim
  | some ps =>
    rw [h] at po
    obtain ⟨a, vs, e1, h1, r3, w⟩ := (Go.refl (m := false) rp).wrL h
    have po1 : postE Own X.K ca false c Q W (match ps[ps.length - 1]? with | some q => .ok (.pv q) (wrL i ps.dropLast c.fr) | none => .bad) := po
    cases h2 : ps[ps.length - 1]? with
    | none => rw [h2] at po1; exact po1.elim
    | some q =>
      rw [h2] at po1
      obtain ⟨x, hx, rx⟩ := r3.get h2
      obtain ⟨F', g3⟩ := w vs.dropLast ps.dropLast r3.dl
      exact ⟨.ref a, e1, .inl ⟨rfl, _, SqL.of h1⟩, a, vs, x, rfl, rfl, h1, by rw [r3.len]; exact hx, po1 ⟨c.S, upd c.H a (.lst vs.dropLast), c.σ, wrL i ps.dropLast c.fr, F'⟩ x [] rfl rfl g3 ⟨rfl, rx⟩⟩
theorem se_ext (ho : PE X o (tVar i)) (ha : SE X ca false e ea) (hbase : attributeBase o "extend" X.env (eval o X.env) = eval o X.env := by rfl)
    (hfew : ((backTo cpos (starEach [e] X.env)).all (fun x => !x.1) && (backToKw cpos (keywordEach [] X.env)).all (fun x => x.1.isSome)
      && decide (([e] : List Expr).length + ([] : List Keyword).length + (if ([] : List Keyword).isEmpty then 0 else 1) < 30)) = true := by rfl)
    (hline : (apos.endLine == cpos.line) = true := by rfl) (hs : starEach [e] X.env = (false, eval e X.env) :: starEach [] X.env := by rfl) (hplain : (backTo cpos (starEach [] X.env)).any (·.1) = false := by rfl) :
    SE X ca false (.Call (.Attribute o "extend" apos) [e] [] cpos) (eExt i ea) := by
  refine SE.of (pe_bm PySem.F.plainAttrs_list PySem.F.slot_list_extend PySem.F.type_list_extend mt_extend ho (pa_cons ha.pe pa_nil hs) hbase hfew hline hs hplain) fun W c Q tk rp po => ?_
  unfold eExt at po
  cases h : rdL i c.fr with
  | none => rw [h] at po; exact po.elim
  | some ps0 =>
    rw [h] at po
    obtain ⟨a, vs, e1, h1, _⟩ := rdL_slot rp h
    refine ⟨_, e1, .inl ⟨rfl, _, SqL.of h1⟩, use_bind tk (Go.refl rp) rfl po fun c1 b u fp e2 g2 o2 po => ?_⟩
    cases b <;> try exact po.elim
    rename_i qs
    cases h2 : rdL i c1.fr with
    | none => rw [h2] at po; exact po.elim
    | some ps =>
      rw [h2] at po
      have po' : postE Own X.K ca false c Q W (if ps.length + qs.length ≤ sizeLine then .ok (.pv .non) (wrL i (ps ++ qs) c1.fr) else .bad) := po
      obtain ⟨b, us, eb, eF, h4, h5, r4⟩ := o2
      subst eb eF
      by_cases hl : ps.length + qs.length ≤ sizeLine
      · rw [if_pos hl] at po'
        have g5 : Go X.K false c [] c1 := g2.dropAll
        obtain ⟨a', vs', e3, h3, r3, w⟩ := g5.wrL h2
        rw [e2, e1] at e3
        cases e3
        obtain ⟨F', g3⟩ := w (vs' ++ us) (ps ++ qs) (r3.app r4)
        exact ⟨a, b, vs', us, rfl, rfl, h3, h4, by rw [r3.len, r4.len]; exact hl, po' ⟨c1.S, upd c1.H a (.lst (vs' ++ us)), c1.σ, wrL i (ps ++ qs) c1.fr, F'⟩ .non [] rfl e2 g3 ⟨rfl, rfl⟩⟩
      · rw [if_neg hl] at po'; exact po'.elim
end

/-! ### sorted -/
def intsP : List PV → Option (List Int)
  | [] => some []
  | .int i :: ps => (intsP ps).map (i :: ·)
  | _ => none
theorem intsP_ok : ∀ {ps : List PV} {l : List Int}, intsP ps = some l → ps = l.map PV.int
  | [], l, h => by cases h; rfl
  | p :: ps, l, h => by
    cases p with
    | int i =>
      have h' : (intsP ps).map (i :: ·) = some l := h
      cases e : intsP ps with
      | none => rw [e] at h'; cases h'
      | some l2 => rw [e] at h'; cases h'; rw [intsP_ok e]; rfl
    | _ => cases h
@[simp] theorem intsP_map : ∀ l : List Int, intsP (l.map PV.int) = some l
  | [] => rfl
  | i :: l => by show (intsP (l.map PV.int)).map (i :: ·) = _; rw [intsP_map l]; rfl
def srt (l : List Int) : List Int := l.mergeSort fun a b => decide (a ≤ b)
theorem srt_perm (l : List Int) : (srt l).Perm l := List.mergeSort_perm _ _
theorem srt_asc (l : List Int) : (srt l).Pairwise (· ≤ ·) :=
  (List.pairwise_mergeSort (le := fun a b : Int => decide (a ≤ b)) (fun a b c h1 h2 => by simp at *; omega) (fun a b => by simp; omega) l).imp fun h => by simpa using h
theorem srt_uniq {l l' : List Int} (h : l'.Perm l) (hs : l'.Pairwise (· ≤ ·)) : l' = srt l :=
  List.Perm.eq_of_pairwise (fun a b _ _ h1 h2 => Int.le_antisymm h1 h2) hs (srt_asc l) (h.trans (srt_perm l).symm)
theorem VRL.ints {S : Hp} : ∀ {l : List Int} {vs : List V}, VRL K S (l.map PV.int) vs → vs = l.map V.int
  | [], _, e => e
  | i :: l, _, ⟨x, r, e, h, t⟩ => by
    subst e
    obtain rfl := h
    rw [VRL.ints t, List.map_cons]
def gSort : MV → Option (List PV)
  | .pl ps => (intsP ps).map fun l => (srt l).map PV.int
  | .pv (.lst ps) => (intsP ps).map fun l => (srt l).map PV.int
  | _ => none
theorem gSort_of {ps qs : List PV} (h : ((intsP ps).map fun l => (srt l).map PV.int) = some qs) : ∃ l, ps = l.map PV.int ∧ qs = (srt l).map PV.int := by
  cases e : intsP ps with
  | none => rw [e] at h; cases h
  | some l => rw [e] at h; cases h; exact ⟨l, intsP_ok e, rfl⟩
theorem n1_sort : N1S X (.builtin "sorted") gSort := by
  refine ⟨_, cr_sortedI, fun S H a v fp qs Q sub o h k => ?_⟩
  have fin : ∀ (l : List Int), qs = (srt l).map PV.int → ∀ (ad : Addr), v = .ref ad → SqL X.K H ad (l.map V.int) → rSortedI X.K [v] H Q := fun l eq ad ev hs => by
    subst ev eq
    refine ⟨ad, l, rfl, hs, fun ns p h1 h2 h3 => ?_⟩
    rw [srt_uniq h1 h2]
    exact k _ (VRL.map PV.int V.int (fun i => (show VR X.K S (.int i) (.int i) from rfl)) _) p h3
  unfold gSort at h
  split at h
  · obtain ⟨l, e1, e2⟩ := gSort_of h
    subst e1
    obtain ⟨ad, xs, ev, _, ha, _, r⟩ := o
    have := r.ints
    subst this
    exact fin l e2 ad ev (SqL.of ha)
  · obtain ⟨l, e1, e2⟩ := gSort_of h
    subst e1
    obtain ⟨_, ad, xs, ev, ha, r⟩ := o
    have := r.ints
    subst this
    exact fin l e2 ad ev (same_sql sub ha)
  · cases h
section
variable {x : Str} {p pos : Pos} {e : Expr} {id : String} {gn : MV → Option (List PV)} {ea : Fr → O MV} {i : Nat}
variable (hg : Gl X x) (hm : X.mg x = none) (hn : x ≠ "__name__" := by decide) (hdb : (x == ("__debug__" : Str)) = false := by decide)
    (he : starEach [e] X.env = (false, eval e X.env) :: starEach [] X.env := by rfl) (hpl : (backTo pos (starEach [] X.env)).any (·.1) = false := by rfl)
include hg hm hn hdb he hpl
theorem se_n1B (hb : N1S X (.builtin id) gn) (hv : bootBuiltins x = some (.builtin id)) (ha : SE X ca m e ea) : SE X ca m (.Call (.Name x p) [e] [] pos) (eN1 gn ea) := by
  obtain ⟨r, hr, h1, _⟩ := n1_use (ca := ca) (m := m) (ea := ea) (i := 0) hb
  exact SE.of (pe_callB hr hg hm hv (pa_cons ha.pe pa_nil he) hn hdb he hpl) h1
theorem se_n1BS (hb : N1S X (.builtin id) gn) (hv : bootBuiltins x = some (.builtin id)) (ha : PE X e (tVar i)) : SE X ca m (.Call (.Name x p) [e] [] pos) (eN1S gn i) := by
  obtain ⟨r, hr, _, h2⟩ := n1_use (ca := ca) (m := m) (ea := fun _ => .bad) (i := i) hb
  exact SE.of (pe_callB hr hg hm hv (pa_cons ha pa_nil he) hn hdb he hpl) h2
end
theorem boot_sorted : bootBuiltins "sorted" = some (.builtin "sorted") := by decide +kernel

/-! ### xs.index(e), a frozen list of flat things -/
def ixF (ps : List PV) (q : PV) : Option Nat := if flatP q = true ∧ ps.all flatP = true then ps.findIdx? (fun p => eqV (toV p) (toV q)) else none
def eIdxF (eo ea : Fr → O MV) (fr : Fr) : O MV := (eo fr).bindP fun p fr1 => match p with
  | .lst ps => (ea fr1).bindP fun q fr2 => opO ((ixF ps q).map fun j => .int (j : Nat)) fr2
  | _ => .bad
theorem se_idxF {o e : Expr} {eo ea : Fr → O MV} {apos cpos : Pos} (ho : SE X ca m o eo) (ha : SE X ca m e ea) (hbase : attributeBase o "index" X.env (eval o X.env) = eval o X.env := by rfl)
    (hfew : ((backTo cpos (starEach [e] X.env)).all (fun x => !x.1) && (backToKw cpos (keywordEach [] X.env)).all (fun x => x.1.isSome)
      && decide (([e] : List Expr).length + ([] : List Keyword).length + (if ([] : List Keyword).isEmpty then 0 else 1) < 30)) = true := by rfl)
    (hline : (apos.endLine == cpos.line) = true := by rfl) (hs : starEach [e] X.env = (false, eval e X.env) :: starEach [] X.env := by rfl) (hplain : (backTo cpos (starEach [] X.env)).any (·.1) = false := by rfl) :
    SE X ca m (.Call (.Attribute o "index" apos) [e] [] cpos) (eIdxF eo ea) := by
  refine SE.of (pe_bm PySem.F.plainAttrs_list PySem.F.slot_list_index PySem.F.type_list_index mt_index ho.pe (pa_cons ha.pe pa_nil hs) hbase hfew hline hs hplain) fun W c Q tk rp po => ?_
  refine use_bindP tk (Go.refl rp) rfl po fun c1 p v e1 g1 o1 po => ?_
  rw [← e1]
  cases p with
  | lst ps =>
    obtain ⟨a, xs, ev, hS, r⟩ := o1
    subst ev
    refine ⟨.inl ⟨rfl, _, same_sql g1.rep.sub hS⟩, ?_⟩
    refine use_bindP tk g1 e1 po fun c2 q u e2 g2 o2 po => ?_
    have k := fin_op (g1.then g2) (e2.trans e1) po
    have k' : VK1 X.K c2.S c2.H Q ((ixF ps q).map fun j => .int (j : Nat)) := k
    cases e : ixF ps q with
    | none => rw [e] at k'; exact k'.bad.elim
    | some j =>
      rw [e] at k'
      unfold ixF at e
      by_cases hf : flatP q = true ∧ ps.all flatP = true
      · rw [if_pos hf] at e
        obtain ⟨eu, fu⟩ := toV_ok hf.1 o2
        obtain ⟨ex, fx⟩ := toVs_ok hf.2 r
        obtain ⟨hj, h1, h2⟩ := List.findIdx?_eq_some_iff_getElem.mp e
        subst eu ex
        refine ⟨a, ps.map toV, toV q, j, toV ps[j], rfl, rfl, same_sql (g2.sS.trans g2.rep.sub) hS, fu, fx, ?_, h1, fun n z hn hz => ?_, k'.here g2.rep.sub rfl⟩
        · rw [List.getElem?_map, List.getElem?_eq_getElem hj]; rfl
        · rw [List.getElem?_map, List.getElem?_eq_getElem (by omega)] at hz
          cases hz
          have := h2 n hn
          simpa using this
      · rw [if_neg hf] at e; cases e
  | _ => exact po.elim

/-! ### a < b < c, in a test -/
def bChain (g g' : PV → PV → Option PV) (ea eb ec : Fr → O MV) (fr : Fr) : O Bool := (ea fr).bindP fun p fr1 => (eb fr1).bindP fun q fr2 => match g p q with
  | some (.bl true) => (ec fr2).bindP fun r fr3 => (match g' q r with | some z => unB z fr3 | none => .bad)
  | some (.bl false) => .ok false fr2
  | _ => .bad
theorem st_chain {op op' : CmpOp} {g g' : PV → PV → Option PV} {a b c : Expr} {ea eb ec : Fr → O MV} {pos : Pos} (ho : OpS X (compareOp op) g) (ho' : OpS X (compareOp op') g') (ha : SE X ca m a ea) (hb : SE X ca m b eb) (hc : SE X ca m c ec)
    (hm : lastMarks [op, op'] [b, c] = false := by with_unfolding_all rfl) : ST X ca m (.Compare a [op, op'] [b, c] pos) (bChain g g' ea eb ec) := by
  refine ST.of (pt_chain ho ho' ha.pe hb.pe hc.pe hm) fun W c0 Q tk rp po => ?_
  refine useT_bindP tk (Go.refl rp) rfl po fun c1 p x e1 g1 o1 po => ?_
  rw [← e1]
  refine useT_bindP tk g1 e1 po fun c2 q y e2 g2 o2 po => ?_
  have po1 : postT X.K ca m c0 Q W (match g p q with
    | some (.bl true) => (ec c2.fr).bindP fun r fr3 => (match g' q r with | some z => unB z fr3 | none => .bad)
    | some (.bl false) => .ok false c2.fr
    | _ => .bad) := po
  cases e3 : g p q with
  | none => rw [e3] at po1; exact po1.elim
  | some z =>
    rw [e3] at po1
    cases z with
    | bl k =>
      refine ⟨c2.S, p, q, g2.rep.sub, o1.mono g2.sS, o2, ?_⟩
      rw [e3]
      refine ⟨.bl k, rfl, fun S' H' v gp hv => ?_⟩
      obtain rfl := hv
      refine ⟨k, rfl, ?_⟩
      have g3 : Go X.K m c0 [] ⟨S', H', c2.σ, c2.fr, c2.F⟩ := (g1.then g2).then (Go.of_gp g2.rep gp)
      cases k with
      | false => exact ⟨false, rfl, po1 ⟨S', H', c2.σ, c2.fr, c2.F⟩ rfl (e2.trans e1) g3⟩
      | true =>
        have po2 : postT X.K ca m c0 Q W ((ec c2.fr).bindP fun r fr3 => (match g' q r with | some z => unB z fr3 | none => .bad)) := po1
        show tE X ca m ec c1.σ H' _
        rw [← e2]
        refine useT_bindP tk (c := ⟨S', H', c2.σ, c2.fr, c2.F⟩) g3 (e2.trans e1) po2 fun c3 r z e4 g4 o4 po => ?_
        exact ⟨c3.S, q, r, g4.rep.sub, (o2.mono gp.sS).mono g4.sS, o4, finT (g3.then g4) (e4.trans (e2.trans e1)) po⟩
    | _ => exact po1.elim
end Sm

namespace Sm
open PySem L2 PyProof.Rows
variable {K : PySem.W.Frag} {X : Cx} {ca : Nat → Addr} {m : Bool}

/-! ### dicts with plain keys and plain values, in a slot -/
def keyP : PV → Option Key
  | .int i => some (.inl i)
  | .str x => some (.inr x)
  | _ => none
theorem keyP_ok {S : Hp} {p : PV} {k : Key} {v : V} (h : keyP p = some k) (r : VR K S p v) : v = kV k := by
  cases p with
  | int i => cases h; exact r
  | str x => cases h; exact r
  | _ => cases h
def rdD (i : Nat) (fr : Fr) : Option (List Key × List PV) := match fr[i]? with
  | some (.ow (.pd ks ps)) => some (ks, ps)
  | some (.pr (.pd ks ps)) => some (ks, ps)
  | _ => none
def wrD (i : Nat) (ks : List Key) (qs : List PV) (fr : Fr) : Fr := match fr[i]? with
  | some (.pr _) => fr.set i (.pr (.pd ks qs))
  | _ => fr.set i (.ow (.pd ks qs))
theorem rdD_slot {c : Cf} (r : Rep K c) {i : Nat} {ks : List Key} {ps : List PV} (h : rdD i c.fr = some (ks, ps)) : ∃ a kvs, c.σ[i]? = some (some (.ref a)) ∧ c.H a = some (.dK kvs) ∧ c.S a = none ∧ kvs.map (·.1) = ks ∧ VRL K c.S ps (kvs.map (·.2)) := by
  unfold rdD at h
  have q : c.fr[i]? = some (.ow (.pd ks ps)) ∨ c.fr[i]? = some (.pr (.pd ks ps)) := by
    split at h
    · cases h; exact .inl (by assumption)
    · cases h; exact .inr (by assumption)
    · cases h
  obtain ⟨v, f, e1, ⟨a, kvs, e, ef, h1, h2, h3, h4⟩, hf⟩ := r.slot q
  subst e
  exact ⟨a, kvs, e1, h1, h2, h3, h4⟩
theorem Go.wrD {c c' : Cf} {Y : List Addr} {i : Nat} {ks : List Key} {ps : List PV} (g : Go K m c Y c') (h : rdD i c'.fr = some (ks, ps)) : ∃ a kvs, c'.σ[i]? = some (some (.ref a)) ∧ c'.H a = some (.dK kvs) ∧ kvs.map (·.1) = ks ∧ VRL K c'.S ps (kvs.map (·.2)) ∧
    ∀ kvs' ks' qs, kvs'.map (·.1) = ks' → VRL K c'.S qs (kvs'.map (·.2)) → ∃ F', Go K false c Y ⟨c'.S, upd c'.H a (.dK kvs'), c'.σ, Sm.wrD i ks' qs c'.fr, F'⟩ := by
  have key : ∀ (tag : MV → Sl), (tag = Sl.ow ∨ tag = Sl.pr) → c'.fr[i]? = some (tag (.pd ks ps)) → (∀ ks' qs, Sm.wrD i ks' qs c'.fr = c'.fr.set i (tag (.pd ks' qs))) → ∃ a kvs, c'.σ[i]? = some (some (.ref a)) ∧ c'.H a = some (.dK kvs) ∧ kvs.map (·.1) = ks ∧ VRL K c'.S ps (kvs.map (·.2)) ∧
    ∀ kvs' ks' qs, kvs'.map (·.1) = ks' → VRL K c'.S qs (kvs'.map (·.2)) → ∃ F', Go K false c Y ⟨c'.S, upd c'.H a (.dK kvs'), c'.σ, Sm.wrD i ks' qs c'.fr, F'⟩ := fun tag ht hs hw => by
    have hs2 : c'.fr[i]? = some (.ow (.pd ks ps)) ∨ c'.fr[i]? = some (.pr (.pd ks ps)) := by rcases ht with rfl | rfl; exact .inl hs; exact .inr hs
    obtain ⟨v, f, e1, ⟨a, kvs, e, ef, h1, h2, h3, h4⟩, hf⟩ := g.rep.slot hs2
    subst e
    refine ⟨a, kvs, e1, h1, h3, h4, fun kvs' ks' qs hk hq => ?_⟩
    rw [hw]
    refine g.write (mv := .pd ks ps) (f' := [a]) ht hs e1 fun f1 o1 hF nd hY => ?_
    obtain ⟨a', kvs1, ea, ef1, h4, h5, h6, h7⟩ := o1
    cases ea
    subst ef1
    refine ⟨fun b hb => .inr (upd_ne fun z => hb (by rw [z]; exact List.mem_singleton.mpr rfl)), fun b hb => ?_, ⟨a, kvs', rfl, rfl, upd_same, h5, hk, hq⟩, nd, fun b hb => .inl hb⟩
    cases List.mem_singleton.mp hb
    rw [upd_same]; simp
  unfold rdD at h
  split at h
  · rename_i q1 q2 hs
    cases h
    exact key .ow (.inl rfl) hs fun ks' qs => by unfold Sm.wrD; rw [hs]
  · rename_i q1 q2 hs
    cases h
    exact key .pr (.inr rfl) hs fun ks' qs => by unfold Sm.wrD; rw [hs]
  · cases h
def hasK (ks : List Key) (k : Key) : Bool := ks.any fun k' => decide (k' = k)
theorem hasK_iff {ks : List Key} {k : Key} : hasK ks k = true ↔ k ∈ ks := by simp [hasK, List.any_eq_true]
def putKs (ks : List Key) (k : Key) : List Key := if hasK ks k = true then ks else ks ++ [k]
def setP : List Key → List PV → Key → PV → List PV
  | k' :: ks, q :: ps, k, p => (if k' = k then p else q) :: setP ks ps k p
  | _, _, _, _ => []
def putPs (ks : List Key) (ps : List PV) (k : Key) (p : PV) : List PV := if hasK ks k = true then setP ks ps k p else ps ++ [p]
theorem setP_ok {S : Hp} {k : Key} {p : PV} {v : V} (hv : VR K S p v) : ∀ (kvs : List (Key × V)) (ps : List PV), VRL K S ps (kvs.map (·.2)) → VRL K S (setP (kvs.map (·.1)) ps k p) ((kvs.map fun kv => if kv.1 = k then (kv.1, v) else kv).map (·.2))
  | [], ps, r => by cases ps <;> exact rfl
  | kv :: kvs, ps, r => by
    cases ps with
    | nil => cases r
    | cons q ps =>
      obtain ⟨x, t, e, hx, ht⟩ := r
      cases e
      refine ⟨_, _, rfl, ?_, setP_ok hv kvs ps ht⟩
      by_cases h : kv.1 = k
      · show VR K S (if kv.1 = k then p else q) (if kv.1 = k then (kv.1, v) else kv).2
        rw [if_pos h, if_pos h]; exact hv
      · show VR K S (if kv.1 = k then p else q) (if kv.1 = k then (kv.1, v) else kv).2
        rw [if_neg h, if_neg h]; exact hx
theorem any_has (kvs : List (Key × V)) (k : Key) : (kvs.any fun kv => decide (kv.1 = k)) = hasK (kvs.map (·.1)) k := by
  unfold hasK
  rw [List.any_map]; rfl
theorem put_ok {S : Hp} {k : Key} {p : PV} {v : V} (hv : VR K S p v) {kvs : List (Key × V)} {ps : List PV} (r : VRL K S ps (kvs.map (·.2))) :
    (putK kvs k v).map (·.1) = putKs (kvs.map (·.1)) k ∧ VRL K S (putPs (kvs.map (·.1)) ps k p) ((putK kvs k v).map (·.2)) := by
  unfold putK putKs putPs
  rw [any_has]
  by_cases h : hasK (kvs.map (·.1)) k = true
  · rw [if_pos h, if_pos h, if_pos h]
    refine ⟨?_, setP_ok hv kvs ps r⟩
    rw [List.map_map]
    exact List.map_congr_left fun kv _ => by show (if kv.1 = k then (kv.1, v) else kv).1 = kv.1; split <;> rfl
  · rw [if_neg h, if_neg h, if_neg h, List.map_append, List.map_append]
    exact ⟨rfl, r.app ⟨v, [], rfl, hv, rfl⟩⟩
theorem val_has (kvs : List (Key × V)) (k : Key) : (valV kvs k).isSome = hasK (kvs.map (·.1)) k := by
  unfold valV
  rw [Option.isSome_map, List.isSome_find?, any_has]
def getP : List Key → List PV → Key → Option PV
  | k' :: ks, p :: ps, k => if k' = k then some p else getP ks ps k
  | _, _, _ => none
theorem getP_ok {S : Hp} {k : Key} {p : PV} : ∀ (kvs : List (Key × V)) (ps : List PV), VRL K S ps (kvs.map (·.2)) → getP (kvs.map (·.1)) ps k = some p → ∃ v, valV kvs k = some v ∧ VR K S p v
  | [], ps, r, h => by cases ps <;> cases h
  | kv :: kvs, ps, r, h => by
    cases ps with
    | nil => cases r
    | cons q ps =>
      obtain ⟨x, t, e, hx, ht⟩ := r
      cases e
      have h' : (if kv.1 = k then some q else getP (kvs.map (·.1)) ps k) = some p := h
      by_cases c : kv.1 = k
      · rw [if_pos c] at h'
        cases h'
        exact ⟨_, valV_pos c, hx⟩
      · rw [if_neg c] at h'
        obtain ⟨v, e, hv⟩ := getP_ok kvs ps ht h'
        refine ⟨v, ?_, hv⟩
        unfold valV at e ⊢
        rw [List.find?_cons_of_neg (by simpa using c)]
        exact e

/-! {} -/
def eDn (fr : Fr) : O MV := .ok (.pd [] []) fr
theorem se_dn {pos : Pos} : SE X ca m (.Dict [] [] pos) eDn := by
  refine SE.of pe_dnewK fun W c Q tk rp po p hp => ?_
  have g := (Go.refl (m := m) rp).then (rp.laidH hp (.dK []) m)
  exact po ⟨c.S, upd c.H p (.dK []), c.σ, c.fr, c.F⟩ (.ref p) [p] rfl rfl g ⟨p, [], rfl, rfl, upd_same, rp.freeS hp, rfl, rfl⟩
/-! d[k] = v -/
def dputK (i : Nat) (q p : PV) (fr2 : Fr) : SO := match keyP p, rdD i fr2 with
  | some k, some (ks, ps) => if ks.length < sizeLine then .nx (wrD i (putKs ks k) (putPs ks ps k q) fr2) else .bad
  | _, _ => .bad
def sDput (i : Nat) (ek ev : Fr → O MV) (fr : Fr) : SO := match ev fr with
  | .ok (.pv q) fr1 => (match rdD i fr1 with
    | none => .bad
    | some _ => match ek fr1 with
      | .ok (.pv p) fr2 => dputK i q p fr2
      | .ok _ _ => .bad
      | .exc x f => .exc x f
      | .bad => .bad)
  | .ok _ _ => .bad
  | .exc x f => .exc x f
  | .bad => .bad
theorem ss_dput {i : Nat} {o ix v : Expr} {ek ev : Fr → O MV} {pos pos' : Pos} (hu : X.A.units + 1 < cLine) (ho : PE X o (tVar i)) (hi : SE X ca false ix ek) (hv : SE X ca false v ev)
    (hs : swapsWith v (some (.Subscript o ix pos')) pos.line X.env = pure false := by rfl) : SS X ca (.Assign [.Subscript o ix pos'] v pos) (sDput i ek ev) := by
  refine SS.of (ps_dput hu ho hi.pe hv.pe hs) fun W c D tk r p => ?_
  refine useEP (k := fun q fr1 => match rdD i fr1 with
    | none => .bad
    | some _ => match ek fr1 with
      | .ok (.pv p) fr2 => dputK i q p fr2
      | .ok _ _ => .bad
      | .exc x f => .exc x f
      | .bad => .bad) tk (Go.refl r) p fun c1 q u e1 g1 o1 p => ?_
  cases h : rdD i c1.fr with
  | none => rw [h] at p; exact p.elim
  | some kp =>
    obtain ⟨ks0, ps0⟩ := kp
    rw [h] at p
    obtain ⟨a, kvs, e2, _⟩ := rdD_slot g1.rep h
    refine ⟨.ref a, by rw [← e1]; exact e2, ?_⟩
    rw [← e1]
    refine useEP (k := fun p fr2 => dputK i q p fr2) tk g1 p fun c2 k w e3 g2 o2 (p : postS X.K ca c D W (dputK i q k c2.fr)) => ?_
    unfold dputK at p
    cases hk : keyP k with
    | none => rw [hk] at p; exact p.elim
    | some ky =>
      cases h2 : rdD i c2.fr with
      | none => rw [hk, h2] at p; exact p.elim
      | some kp =>
        obtain ⟨ks, ps⟩ := kp
        rw [hk, h2] at p
        have p2 : postS X.K ca c D W (if ks.length < sizeLine then .nx (wrD i (putKs ks ky) (putPs ks ps ky q) c2.fr) else .bad) := p
        obtain ⟨a', kvs', e4, h3, ek2, r3, wr⟩ := (g1.then g2).wrD h2
        rw [e3, e2] at e4
        cases e4
        by_cases hl : ks.length < sizeLine
        · rw [if_pos hl] at p2
          have ey := keyP_ok hk o2
          subst ey
          obtain ⟨m1, m2⟩ := put_ok (k := ky) (o1.mono g2.sS) r3
          rw [ek2] at m1 m2
          obtain ⟨F', g3⟩ := wr (putK kvs' ky u) (putKs ks ky) (putPs ks ps ky q) m1 m2
          refine ⟨a, _, rfl, DPut.k h3 (by rw [← ek2, List.length_map] at hl; exact hl), ?_⟩
          have := p2 ⟨c2.S, upd c2.H a (.dK (putK kvs' ky u)), c2.σ, wrD i (putKs ks ky) (putPs ks ps ky q) c2.fr, F'⟩ rfl g3
          rw [← e3]; exact this
        · rw [if_neg hl] at p2; exact p2.elim
/-! k in d, k not in d; d[k]; len(d); sorted(d) -/
def bInD (neg : Bool) (i : Nat) (ek : Fr → O MV) (fr : Fr) : O Bool := (ek fr).bindP fun p fr1 => match keyP p, rdD i fr1 with
  | some k, some (ks, _) => .ok (if neg then !hasK ks k else hasK ks k) fr1
  | _, _ => .bad
section
variable {i : Nat} {a b : Expr} {ek : Fr → O MV} {pos : Pos}
theorem inD_use {neg : Bool} {c0 c1 : Cf} {W : WX} {Q : Bool → Hp → Prop} {p : PV} {y : V} (g : Go X.K m c0 [] c1) (hσ : c1.σ = c0.σ) (o1 : VR X.K c1.S p y)
    (po : postT X.K ca m c0 Q W (match keyP p, rdD i c1.fr with | some k, some (ks, _) => .ok (if neg then !hasK ks k else hasK ks k) c1.fr | _, _ => .bad)) :
    ∃ x, c1.σ[i]? = some (some x) ∧ ∃ ad ov, x = .ref ad ∧ DGet c1.H ad y ov ∧ Q (if neg then !ov.isSome else ov.isSome) c1.H := by
  cases hk : keyP p with
  | none => rw [hk] at po; exact po.elim
  | some k =>
    cases h : rdD i c1.fr with
    | none => rw [hk, h] at po; exact po.elim
    | some kp =>
      obtain ⟨ks, ps⟩ := kp
      rw [hk, h] at po
      obtain ⟨ad, kvs, e1, h1, _, e2, _⟩ := rdD_slot g.rep h
      have ey := keyP_ok hk o1
      subst ey
      refine ⟨.ref ad, e1, ad, valV kvs k, rfl, DGet.k h1, ?_⟩
      rw [val_has, e2]
      exact po c1 rfl hσ g
theorem st_inD (hu : X.A.units + 1 < cLine) (ha : SE X ca m a ek) (hb : PE X b (tVar i)) (hm : behindInMarks .In b = false := by first | exact nomark _ | with_unfolding_all rfl) : ST X ca m (.Compare a [.In] [b] pos) (bInD false i ek) := by
  refine ST.of (pt_cmp (pc_din hu ha.pe hb) hm) fun W c Q tk rp po => ?_
  refine useT_bindP tk (Go.refl rp) rfl po fun c1 p x e1 g1 o1 po => ?_
  obtain ⟨z, e2, ad, ov, ez, hd, q⟩ := inD_use (neg := false) g1 e1 o1 po
  exact ⟨z, by rw [← e1]; exact e2, ad, ov, ez, hd, _, rfl, q⟩
theorem st_notInD (hu : X.A.units + 1 < cLine) (ha : SE X ca m a ek) (hb : PE X b (tVar i)) (hm : behindInMarks .NotIn b = false := by first | exact nomark _ | with_unfolding_all rfl) : ST X ca m (.Compare a [.NotIn] [b] pos) (bInD true i ek) := by
  refine ST.of (pt_cmp (pc_dnotin hu ha.pe hb) hm) fun W c Q tk rp po => ?_
  refine useT_bindP tk (Go.refl rp) rfl po fun c1 p x e1 g1 o1 po => ?_
  obtain ⟨z, e2, ad, ov, ez, hd, q⟩ := inD_use (neg := true) g1 e1 o1 po
  exact ⟨z, by rw [← e1]; exact e2, ad, ov, ez, hd, _, rfl, q⟩
end
def gLenD : MV → Option PV
  | .pd ks _ => some (.int ks.length)
  | _ => none
theorem b1_lenD : B1S X (.builtin "len") gLenD := by
  refine ⟨_, call_lenD, fun S H a v fp Q sub o k => ?_⟩
  unfold gLenD at k
  split at k
  · obtain ⟨ad, kvs, ev, _, h1, _, e2, _⟩ := o
    subst ev
    refine ⟨ad, kvs, rfl, h1, ?_⟩
    rw [← e2, List.length_map] at k
    exact k.here sub rfl
  · exact k.bad.elim
def intsK : List Key → Option (List Int)
  | [] => some []
  | .inl i :: ks => (intsK ks).map (i :: ·)
  | _ => none
theorem intsK_ok : ∀ {ks : List Key} {l : List Int}, intsK ks = some l → ks = l.map Sum.inl
  | [], l, h => by cases h; rfl
  | k :: ks, l, h => by
    cases k with
    | inl i =>
      have h' : (intsK ks).map (i :: ·) = some l := h
      cases e : intsK ks with
      | none => rw [e] at h'; cases h'
      | some l2 => rw [e] at h'; cases h'; rw [intsK_ok e]; rfl
    | inr x => cases h
@[simp] theorem intsK_map : ∀ l : List Int, intsK (l.map Sum.inl) = some l
  | [] => rfl
  | i :: l => by show (intsK (l.map Sum.inl)).map (i :: ·) = _; rw [intsK_map l]; rfl
def gSortD : MV → Option (List PV)
  | .pd ks _ => if ks.length < 64 then (intsK ks).map fun l => (srt l).map PV.int else none
  | _ => none
theorem n1_sortD (hc : X.calm = true) : N1S X (.builtin "sorted") gSortD := by
  refine ⟨_, call_sortedDI hc, fun S H a v fp qs Q sub o h k => ?_⟩
  unfold gSortD at h
  split at h
  · rename_i ks ps
    obtain ⟨ad, kvs, ev, _, h1, _, e2, _⟩ := o
    subst ev
    by_cases hl : ks.length < 64
    · rw [if_pos hl] at h
      cases e : intsK ks with
      | none => rw [e] at h; cases h
      | some l =>
        rw [e] at h
        cases h
        refine ⟨ad, kvs, l, rfl, .inl h1, e2.trans (intsK_ok e), ?_, fun ys p h3 h4 h5 => ?_⟩
        · rw [intsK_ok e, List.length_map] at hl; exact hl
        · rw [srt_uniq h3 h4]
          exact k _ (VRL.map PV.int V.int (fun i => (show VR X.K S (.int i) (.int i) from rfl)) _) p h5
    · rw [if_neg hl] at h; cases h
  · cases h
theorem hu1 {k : Nat} {A : Around} (r : Room k A) : A.units + 1 < cLine := by have := hu r; omega
end Sm

namespace Sm
open PySem L2
variable {α : Type} {E : Ex → Fr → Prop} {fr : Fr} {P : Po} {Q : MV → Fr → Prop} {QB : Bool → Fr → Prop}
theorem wE_i {o : O α} {a : α} {f : Fr} {Q : α → Fr → Prop} (e : o = .ok a f) (h : Q a f) : wE o E Q := wE_of e h
theorem w_pop {i : Nat} {ps : List PV} {q : PV} (e : rdL i fr = some ps) (e2 : ps[ps.length - 1]? = some q) (h : Q (.pv q) (wrL i ps.dropLast fr)) : wE (ePop i fr) E Q := by
  refine wE_of (a := .pv q) (f := wrL i ps.dropLast fr) ?_ h
  unfold ePop
  rw [e]
  show (match ps[ps.length - 1]? with | some q => O.ok (MV.pv q) (wrL i ps.dropLast fr) | none => .bad) = _
  rw [e2]
theorem w_ext {i : Nat} {ea : Fr → O MV} {ps0 : List PV} (e : rdL i fr = some ps0) (h : wE (ea fr) E fun b f => ∃ qs, isPl b = some qs ∧ ∃ ps, rdL i f = some ps ∧ ps.length + qs.length ≤ sizeLine ∧ Q (.pv .non) (wrL i (ps ++ qs) f)) : wE (eExt i ea fr) E Q := by
  unfold eExt
  rw [e]
  refine wE_bind (wE_mono h (fun b f ⟨qs, e1, ps, e2, hl, h⟩ => ?_) fun _ _ h => h)
  cases b with
  | pl qs2 =>
    obtain rfl : qs2 = qs := Option.some.inj e1
    refine wE_of (a := .pv .non) (f := wrL i (ps ++ qs2) f) ?_ h
    show (match MV.pl qs2, rdL i f with | .pl qs, some ps => if ps.length + qs.length ≤ sizeLine then O.ok (MV.pv .non) (wrL i (ps ++ qs) f) else .bad | _, _ => .bad) = _
    rw [e2]
    show (if ps.length + qs2.length ≤ sizeLine then O.ok (MV.pv .non) (wrL i (ps ++ qs2) f) else .bad) = _
    rw [if_pos hl]
  | _ => cases e1
theorem w_idxF {eo ea : Fr → O MV} (h : wE (eo fr) E fun a f => ∃ ps, a = .pv (.lst ps) ∧ wE (ea f) E fun b f2 => wP b fun q => ∃ j, ixF ps q = some j ∧ Q (.pv (.int (j : Nat))) f2) : wE (eIdxF eo ea fr) E Q := by
  unfold eIdxF
  refine wE_bindP (wE_mono h (fun a f ⟨ps, ea', h⟩ => ?_) fun _ _ h => h)
  subst ea'
  refine w_isP (wE_bindP (wE_mono h (fun b f2 h => ?_) fun _ _ h => h))
  cases b with
  | pv q =>
    obtain ⟨j, e, h⟩ := wP_out h
    refine w_isP (w_opO (r := .int (j : Nat)) ?_ h)
    rw [e]; rfl
  | _ => with_unfolding_all exact h.elim
theorem w_chain {g g' : PV → PV → Option PV} {ea eb ec : Fr → O MV} (h : wE (ea fr) E fun a f => wP a fun p => wE (eb f) E fun b f2 => wP b fun q => ∃ k, g p q = some (.bl k) ∧ br k (wE (ec f2) E fun c f3 => wP c fun r => ∃ k2, g' q r = some (.bl k2) ∧ QB k2 f3) (QB false f2)) : wE (bChain g g' ea eb ec fr) E QB := by
  unfold bChain
  refine wE_bindP (wE_mono h (fun a f h => ?_) fun _ _ h => h)
  cases a with
  | pv p =>
    refine w_isP (wE_bindP (wE_mono (wP_out h) (fun b f2 h => ?_) fun _ _ h => h))
    cases b with
    | pv q =>
      obtain ⟨k, e, h⟩ := wP_out h
      refine w_isP ?_
      rw [e]
      cases k with
      | false => exact wE_of rfl (br_0 h)
      | true =>
        refine wE_bindP (wE_mono (br_1 h) (fun c f3 h => ?_) fun _ _ h => h)
        cases c with
        | pv r =>
          obtain ⟨k2, e2, h⟩ := wP_out h
          refine w_isP ?_
          rw [e2]
          exact wE_of rfl h
        | _ => with_unfolding_all exact h.elim
    | _ => with_unfolding_all exact h.elim
  | _ => with_unfolding_all exact h.elim
theorem w_dn (h : Q (.pd [] []) fr) : wE (eDn fr) E Q := wE_of rfl h
theorem w_dput {i : Nat} {ek ev : Fr → O MV} (h : wE (ev fr) P.ex fun a f => wP a fun q => ∃ kp, rdD i f = some kp ∧ wE (ek f) P.ex fun b f2 => wP b fun p => ∃ k, keyP p = some k ∧ ∃ ks ps, rdD i f2 = some (ks, ps) ∧ ks.length < sizeLine ∧ P.nx (wrD i (putKs ks k) (putPs ks ps k q) f2)) : wS (sDput i ek ev fr) P := by
  unfold sDput
  cases e : ev fr with
  | ok a f =>
    rw [e] at h
    cases a with
    | pv q =>
      obtain ⟨kp, e1, h⟩ := wP_out (wE_out h)
      show wS (match rdD i f with
        | none => .bad
        | some _ => match ek f with
          | .ok (.pv p) fr2 => dputK i q p fr2
          | .ok _ _ => .bad
          | .exc x f => .exc x f
          | .bad => .bad) P
      rw [e1]
      show wS (match ek f with
          | .ok (.pv p) fr2 => dputK i q p fr2
          | .ok _ _ => .bad
          | .exc x f => .exc x f
          | .bad => .bad) P
      cases e2 : ek f with
      | ok b f2 =>
        rw [e2] at h
        cases b with
        | pv p =>
          obtain ⟨k, e3, ks, ps, e4, hl, h⟩ := wP_out (wE_out h)
          refine wS_of (f := wrD i (putKs ks k) (putPs ks ps k q) f2) ?_ h
          show dputK i q p f2 = _
          unfold dputK
          rw [e3, e4]
          show (if ks.length < sizeLine then SO.nx (wrD i (putKs ks k) (putPs ks ps k q) f2) else .bad) = _
          rw [if_pos hl]
        | _ => with_unfolding_all exact h.elim
      | exc x f2 => rw [e2] at h; with_unfolding_all exact h
      | bad => rw [e2] at h; with_unfolding_all exact h.elim
    | _ => with_unfolding_all exact h.elim
  | exc x f => rw [e] at h; with_unfolding_all exact h
  | bad => rw [e] at h; with_unfolding_all exact h.elim
theorem w_inD {neg : Bool} {i : Nat} {ek : Fr → O MV} (h : wE (ek fr) E fun b f => wP b fun p => ∃ k, keyP p = some k ∧ ∃ ks ps, rdD i f = some (ks, ps) ∧ QB (if neg then !hasK ks k else hasK ks k) f) : wE (bInD neg i ek fr) E QB := by
  unfold bInD
  refine wE_bindP (wE_mono h (fun a f h => ?_) fun _ _ h => h)
  cases a with
  | pv p =>
    obtain ⟨k, e1, ks, ps, e2, h⟩ := wP_out h
    refine w_isP ?_
    rw [e1, e2]
    exact wE_of rfl h
  | _ => with_unfolding_all exact h.elim
theorem w_inL {neg : Bool} {i : Nat} {ea : Fr → O MV} (h : wE (ea fr) E fun a f => wP a fun p => ∃ qs, rdL i f = some qs ∧ ∃ k, (if neg then gNotIn else gIn) p (.lst qs) = some (.bl k) ∧ QB k f) : wE (bInL neg i ea fr) E QB := by
  unfold bInL
  refine wE_bindP (wE_mono h (fun a f h => ?_) fun _ _ h => h)
  cases a with
  | pv p =>
    obtain ⟨qs, e1, k, e2, h⟩ := wP_out h
    refine w_isP ?_
    rw [e1]
    show wE (match (if neg then gNotIn else gIn) p (.lst qs) with | some r => unB r f | none => .bad) E QB
    rw [e2]
    exact wE_of rfl h
  | _ => with_unfolding_all exact h.elim
theorem w_fz {ea : Fr → O MV} (h : wE (ea fr) E fun a f => ∃ ps, isPl a = some ps ∧ Q (.pv (.lst ps)) f) : wE (eFz ea fr) E Q := by
  unfold eFz
  cases e : ea fr with
  | ok a f =>
    rw [e] at h
    obtain ⟨ps, e1, h⟩ := wE_out h
    cases a with
    | pl qs =>
      obtain rfl : qs = ps := Option.some.inj e1
      exact wE_of rfl h
    | _ => cases e1
  | exc x f => rw [e] at h; with_unfolding_all exact h
  | bad => rw [e] at h; with_unfolding_all exact h.elim
/-- while: what holds ahead of each turn, with a number that falls -/
theorem w_while {t : Fr → O Bool} {b : Fr → SO} (I : Nat → Fr → Prop) (step : ∀ k fr, I k fr → wE (t fr) P.ex fun c f => br c (wS (b f) { nx := fun f => ∃ j, j < k ∧ I j f, ct := fun f => ∃ j, j < k ∧ I j f, bk := P.nx, rt := P.rt, ex := P.ex }) (P.nx f)) :
    ∀ (fuel k : Nat) (fr : Fr), I k fr → k < fuel → wS (whileF t b fuel fr) P
  | 0, k, fr, _, h => absurd h (Nat.not_lt_zero _)
  | n + 1, k, fr, hI, hk => by
    have h := step k fr hI
    have go : ∀ f2, (∃ j, j < k ∧ I j f2) → wS (whileF t b n f2) P := fun f2 ⟨j, hj, hf⟩ => w_while I step n j f2 hf (by omega)
    unfold whileF
    cases e : t fr with
    | ok c f =>
      rw [e] at h
      cases c with
      | false => exact wS_of rfl (br_0 (wE_out h))
      | true =>
        have h2 := br_1 (wE_out h)
        show wS (match b f with
          | .nx fr2 => whileF t b n fr2
          | .ct fr2 => whileF t b n fr2
          | .bk fr2 => .nx fr2
          | .rt r f => .rt r f
          | .exc x f => .exc x f
          | .bad => .bad) P
        cases e2 : b f with
        | nx f2 => rw [e2] at h2; exact go f2 (by with_unfolding_all exact h2)
        | ct f2 => rw [e2] at h2; exact go f2 (by with_unfolding_all exact h2)
        | bk f2 => rw [e2] at h2; with_unfolding_all exact h2
        | rt r f2 => rw [e2] at h2; with_unfolding_all exact h2
        | exc x f2 => rw [e2] at h2; with_unfolding_all exact h2
        | bad => rw [e2] at h2; with_unfolding_all exact h2.elim
    | exc x f => rw [e] at h; with_unfolding_all exact h
    | bad => rw [e] at h; with_unfolding_all exact h.elim
/-! slices, raise, try, calls by a value -/
theorem w_ptn {Q : Option Int → Fr → Prop} (h : Q none fr) : wE (pt none fr) E Q := wE_of rfl h
theorem w_pts {ev : Fr → O MV} {Q : Option Int → Fr → Prop} (h : wE (ev fr) E fun a f => ∃ i, a = .pv (.int i) ∧ Q (some i) f) : wE (pt (some ev) fr) E Q := by
  unfold pt
  exact wE_bindP (wE_mono h (fun a f ⟨i, e, h⟩ => by subst e; exact w_isP (wE_of rfl h)) fun _ _ h => h)
theorem w_sl {ea : Fr → O MV} {lo hi : Option (Fr → O MV)} (h : wE (ea fr) E fun a f => wP a fun p => wE (pt lo f) E fun l f2 => wE (pt hi f2) E fun h f3 => wE (opO (gSl p l h) f3) E Q) : wE (eSl ea lo hi fr) E Q := by
  unfold eSl
  refine wE_bindP (wE_mono h (fun a f h => ?_) fun _ _ h => h)
  cases a with
  | pv p => exact w_isP (wE_bind (wE_mono (wP_out h) (fun l f2 h => wE_bind h) fun _ _ h => h))
  | _ => with_unfolding_all exact h.elim
theorem w_gSl {ps : List PV} {l h : Option Int} (q : Q (.pv (.tup (cutP ps l h))) fr) : wE (opO (gSl (.tup ps) l h) fr) E Q := w_opO rfl q
theorem w_raise {cls : Nat} {ks : List Str} {ea : Fr → O (List PV)} (h : wE (ea fr) P.ex fun ps f => ps.length = ks.length ∧ P.ex ⟨cls, ks, ps⟩ f) : wS (sRaise cls ks ea fr) P := by
  unfold sRaise
  cases e : ea fr with
  | ok ps f =>
    rw [e] at h
    obtain ⟨h1, h2⟩ := wE_out h
    show wS (if ps.length = ks.length then .exc ⟨cls, ks, ps⟩ f else .bad) P
    rw [if_pos h1]
    with_unfolding_all exact h2
  | exc x f => rw [e] at h; with_unfolding_all exact h
  | bad => rw [e] at h; with_unfolding_all exact h.elim
/-- a try whose clauses are known: what is raised goes to the clauses -/
theorem w_try {b : Fr → SO} {l : List ClF} (h : wS (b fr) { P with ex := fun x f => wS (clF l x f) P }) : wS (sTry b l fr) P := by
  unfold sTry
  cases e : b fr with
  | exc x f => rw [e] at h; with_unfolding_all exact h
  | nx f => rw [e] at h; with_unfolding_all exact h
  | rt r f => rw [e] at h; with_unfolding_all exact h
  | bk f => rw [e] at h; with_unfolding_all exact h
  | ct f => rw [e] at h; with_unfolding_all exact h
  | bad => rw [e] at h; with_unfolding_all exact h.elim
theorem w_callT {i : Nat} {tab : Addr → Option (Nat × (List MV → FO))} {ea : Fr → O (List PV)} {a : Addr} {q : Nat × (List MV → FO)} (e1 : fr[i]? = some (.ow (.pv (.adr a)))) (e2 : tab a = some q) (h : wE (eCallP q.1 q.2 ea fr) E Q) : wE (eCallT i tab ea fr) E Q := by
  unfold eCallT
  rw [e1]
  show wE (match tab a with | some q => eCallP q.1 q.2 ea fr | none => .bad) E Q
  rw [e2]; exact h
end Sm

namespace Sm
open PySem L2 PyProof.Rows
variable {K : PySem.W.Frag} {X : Cx} {ca : Nat → Addr} {m : Bool}

/-! ### a list's part, as a new list: xs a frozen list -/
def eSlF (ea : Fr → O MV) (lo hi : Option (Fr → O MV)) (fr : Fr) : O MV := (ea fr).bindP fun p fr1 => (pt lo fr1).bind fun l fr2 => (pt hi fr2).bind fun h fr3 => match p with
  | .lst ps => .ok (.pl (cutP ps l h)) fr3
  | _ => .bad
theorem se_slF {e : Expr} {lo hi : Option Expr} {ea : Fr → O MV} {elo ehi : Option (Fr → O MV)} {pos p2 : Pos} (ha : SE X ca m e ea) (hl : SPt X ca m lo elo) (hh : SPt X ca m hi ehi) : SE X ca m (.Subscript e (.Slice lo hi none p2) pos) (eSlF ea elo ehi) := by
  obtain ⟨t1, h1, k1⟩ := part_use hl
  obtain ⟨t2, h2, k2⟩ := part_use hh
  refine SE.of (pe_slice sl_list ha.pe h1 h2) fun W c Q tk rp po => ?_
  refine use_bindP tk (Go.refl rp) rfl po fun c1 p v e1 g1 o1 po => ?_
  rw [← e1]
  refine k1 tk g1 e1 po fun c2 l e2 g2 po => ?_
  rw [← e2]
  refine k2 tk (g1.then g2) (e2.trans e1) po fun c3 h e3 g3 po => ?_
  cases p with
  | lst ps =>
    obtain ⟨a, xs, rfl, ha, r⟩ := o1
    have r3 := r.mono (g2.sS.trans g3.sS)
    have ha3 := same_sql (g2.sS.trans g3.sS) ha
    exact ⟨a, xs, rfl, same_sql g3.rep.sub ha3, fin_new ((g1.then g2).then g3) (e3.trans (e2.trans e1)) po _ (cut_rel r3 l h)⟩
  | _ => exact po.elim

/-! ### list + list, list * int, of new lists -/
def eCat (ea eb : Fr → O MV) (fr : Fr) : O MV := (ea fr).bind fun a fr1 => (eb fr1).bind fun b fr2 => match a, b with
  | .pl ps, .pl qs => if ps.length + qs.length ≤ sizeLine then .ok (.pl (ps ++ qs)) fr2 else .bad
  | _, _ => .bad
theorem se_cat {a b : Expr} {ea eb : Fr → O MV} {pos : Pos} (ha : SE X ca m a ea) (hb : SE X ca m b eb) : SE X ca m (.BinOp a .Add b pos) (eCat ea eb) := by
  refine SE.of (pe_op op_cat ha.pe hb.pe) fun W c Q tk rp po => ?_
  refine use_bind tk (Go.refl rp) rfl po fun c1 a v fp e1 g1 o1 po => ?_
  rw [← e1]
  refine use_bind tk g1 e1 po fun c2 b u fp2 e2 g2 o2 po => ?_
  have o1' := g1.hold g2 o1
  cases a with
  | pl ps =>
    cases b with
    | pl qs =>
      have po' : postE Own X.K ca m c Q W (if ps.length + qs.length ≤ sizeLine then .ok (.pl (ps ++ qs)) c2.fr else .bad) := po
      obtain ⟨x, xs, rfl, _, h3, _, r3⟩ := o1'
      obtain ⟨y, ys, rfl, _, h4, _, r4⟩ := o2
      by_cases hl : ps.length + qs.length ≤ sizeLine
      · rw [if_pos hl] at po'
        exact ⟨x, y, xs, ys, rfl, rfl, h3, h4, by rw [r3.len, r4.len]; exact hl, fin_new (g1.dropAll.then g2.dropAll) (e2.trans e1) po' _ (r3.app r4)⟩
      · rw [if_neg hl] at po'; exact po'.elim
    | _ => exact po.elim
  | _ => exact po.elim
def eRep (ea eb : Fr → O MV) (fr : Fr) : O MV := (ea fr).bind fun a fr1 => (eb fr1).bindP fun q fr2 => match a, q with
  | .pl ps, .int k => if 0 ≤ k ∧ k ≤ 1000 ∧ ps.length ≤ 1000 then .ok (.pl (List.replicate k.toNat ps).flatten) fr2 else .bad
  | _, _ => .bad
theorem se_rep {a b : Expr} {ea eb : Fr → O MV} {pos : Pos} (ha : SE X ca m a ea) (hb : SE X ca m b eb) : SE X ca m (.BinOp a .Mult b pos) (eRep ea eb) := by
  refine SE.of (pe_op op_rep ha.pe hb.pe) fun W c Q tk rp po => ?_
  refine use_bind tk (Go.refl rp) rfl po fun c1 a v fp e1 g1 o1 po => ?_
  rw [← e1]
  refine use_bindP tk g1 e1 po fun c2 q u e2 g2 o2 po => ?_
  have o1' := g1.hold g2 o1
  cases a with
  | pl ps =>
    cases q with
    | int k =>
      have po' : postE Own X.K ca m c Q W (if 0 ≤ k ∧ k ≤ 1000 ∧ ps.length ≤ 1000 then .ok (.pl (List.replicate k.toNat ps).flatten) c2.fr else .bad) := po
      obtain ⟨x, xs, rfl, _, h3, _, r3⟩ := o1'
      obtain rfl := o2
      by_cases hl : 0 ≤ k ∧ k ≤ 1000 ∧ ps.length ≤ 1000
      · rw [if_pos hl] at po'
        refine ⟨x, k, xs, rfl, rfl, h3, by omega, by omega, ?_, fin_new (g1.dropAll.then g2) (e2.trans e1) po' _ (r3.flat _)⟩
        rw [r3.len, sizeLine_eq]
        have h5 : k.toNat ≤ 1000 := by omega
        exact Nat.le_trans (Nat.mul_le_mul hl.2.2 h5) (by decide)
      · rw [if_neg hl] at po'; exact po'.elim
    | _ => exact po.elim
  | _ => exact po.elim

/-! ### xs.reverse() -/
def eRvs (i : Nat) (fr : Fr) : O MV := match rdL i fr with
  | some ps => .ok (.pv .non) (wrL i ps.reverse fr)
  | none => .bad
theorem se_rvs {i : Nat} {o : Expr} {apos cpos : Pos} (ho : PE X o (tVar i)) (hbase : attributeBase o "reverse" X.env (eval o X.env) = eval o X.env := by rfl) (hline : (apos.endLine == cpos.line) = true := by rfl) :
    SE X ca false (.Call (.Attribute o "reverse" apos) [] [] cpos) (eRvs i) := by
  refine SE.of (pe_bm0 PySem.F.plainAttrs_list PySem.F.slot_list_reverse PySem.F.type_list_reverse mt_reverse ho hbase hline) fun W c Q tk rp po => ?_
  unfold eRvs at po
  cases h : rdL i c.fr with
  | none => rw [h] at po; exact po.elim
  | some ps =>
    rw [h] at po
    obtain ⟨a, vs, e1, h1, r3, w⟩ := (Go.refl (m := false) rp).wrL h
    obtain ⟨F', g3⟩ := w vs.reverse ps.reverse r3.rev
    exact ⟨.ref a, e1, .inl ⟨rfl, _, SqL.of h1⟩, a, vs, rfl, rfl, h1, po ⟨c.S, upd c.H a (.lst vs.reverse), c.σ, wrL i ps.reverse c.fr, F'⟩ .non [] rfl rfl g3 ⟨rfl, rfl⟩⟩
/-! ### xs[::-1] -/
def lsM : MV → Option (List PV)
  | .pl ps => some ps
  | .pv (.lst ps) => some ps
  | _ => none
def eRevL (ea : Fr → O MV) (fr : Fr) : O MV := (ea fr).bind fun a fr1 => newO ((lsM a).map List.reverse) fr1
theorem lsM_rel {S H : Hp} {a : MV} {v : V} {fp : List Addr} {ps : List PV} (sub : Same S H) (h : lsM a = some ps) (o : Own K S H a v fp) : ∃ ad xs, v = .ref ad ∧ SqL K H ad xs ∧ VRL K S ps xs := by
  unfold lsM at h
  split at h
  · cases h
    obtain ⟨ad, xs, e, _, h1, _, r⟩ := o
    exact ⟨ad, xs, e, SqL.of h1, r⟩
  · cases h
    obtain ⟨_, ad, xs, e, h1, r⟩ := o
    exact ⟨ad, xs, e, same_sql sub h1, r⟩
  · cases h
theorem se_revL {e : Expr} {ea : Fr → O MV} {k : Nat} {p1 p2 p3 pos : Pos} (ha : SE X ca m e ea) : SE X ca m (.Subscript e (.Slice none none (some (.UnaryOp .USub (.Constant (.int 1) k p1) p2)) p3) pos) (eRevL ea) := by
  refine SE.of (pe_revL ha.pe) fun W c Q tk rp po => ?_
  refine use_bind tk (Go.refl rp) rfl po fun c1 a v fp e1 g1 o1 po => ?_
  cases h : lsM a with
  | none => rw [h] at po; exact po.elim
  | some ps =>
    rw [h] at po
    obtain ⟨ad, xs, rfl, hs, r⟩ := lsM_rel g1.rep.sub h o1
    exact ⟨ad, xs, rfl, hs, fin_new g1.dropAll e1 po _ r.rev⟩
/-! ### list(range(n)) -/
def eLstRg (ea : Fr → O MV) (fr : Fr) : O MV := (ea fr).bindP fun p fr1 => match p with
  | .int n => if 0 ≤ n ∧ n ≤ 1000000 then .ok (.pl (rgPs 0 n.toNat)) fr1 else .bad
  | _ => .bad
theorem se_lstRg {e : Expr} {ea : Fr → O MV} {p p2 pos pos2 : Pos} (hc : X.calm = true) (hg : Gl X "list") (hm : X.mg "list" = none) (hg2 : Gl X "range") (hm2 : X.mg "range" = none) (ha : SE X ca m e ea)
    (na : starEach [e] X.env = (false, eval e X.env) :: starEach [] X.env := by rfl) (nb : starEach [(.Call (.Name "range" p) [e] [] pos : Expr)] X.env = (false, eval (.Call (.Name "range" p) [e] [] pos) X.env) :: starEach [] X.env := by rfl) :
    SE X ca m (.Call (.Name "list" p2) [.Call (.Name "range" p) [e] [] pos] [] pos2) (eLstRg ea) := by
  refine SE.of (pe_listRg hc hg hm (prg_1 hg2 hm2 ha.pe na) nb) fun W c Q tk rp po => ?_
  refine use_bindP tk (Go.refl rp) rfl po fun c1 q u e1 g1 o1 po => ?_
  cases q with
  | int n =>
    have po' : postE Own X.K ca m c Q W (if 0 ≤ n ∧ n ≤ 1000000 then .ok (.pl (rgPs 0 n.toNat)) c1.fr else .bad) := po
    obtain rfl := o1
    by_cases hl : 0 ≤ n ∧ n ≤ 1000000
    · rw [if_pos hl] at po'
      refine ⟨n, rfl, RgOk.of_le (by omega) (by omega) (by omega) hl.1, fin_new g1 e1 po' _ ?_⟩
      have e : rgV 0 n = rgVs 0 n.toNat := by unfold rgV rgVs; rw [Int.sub_zero]
      rw [e]; exact rgPs_rel _ _
    · rw [if_neg hl] at po'; exact po'.elim
  | _ => exact po.elim
/-! ### sum(xs) -/
def gSum : MV → Option PV
  | .pl ps => (intsP ps).map fun l => .int l.sum
  | .pv (.lst ps) => (intsP ps).map fun l => .int l.sum
  | _ => none
theorem boot_sum : bootBuiltins "sum" = some (.builtin "sum") := by decide +kernel
theorem b1_sum (hc : X.calm = true) : B1S X (.builtin "sum") gSum := by
  refine ⟨_, cr_sum hc, fun S H a v fp Q sub o k => ?_⟩
  have key : ∀ ps, lsM a = some ps → VK1 X.K S H Q ((intsP ps).map fun l => .int l.sum) → rSum X.K [v] H Q := fun ps h k => by
    cases e : intsP ps with
    | none => rw [e] at k; exact k.bad.elim
    | some l =>
      rw [e] at k
      obtain ⟨ad, xs, rfl, hs, r⟩ := lsM_rel sub h o
      rw [intsP_ok e] at r
      have := r.ints
      subst this
      exact ⟨ad, l, rfl, hs, VK1.here k sub rfl⟩
  cases a with
  | pl ps => exact key ps rfl k
  | pv p =>
    cases p with
    | lst ps => exact key ps rfl k
    | _ => exact k.bad.elim
  | _ => exact k.bad.elim
/-! ### xs[i] += e -/
def sAugIx (i : Nat) (ei ev : Fr → O MV) (fr : Fr) : SO := match rdL i fr with
  | none => .bad
  | some _ => match ei fr with
    | .ok (.pv (.int k)) fr1 => (match rdL i fr1 with
      | some ps => (match atI ps k with
        | some (.int z) => (match ev fr1 with
          | .ok (.pv (.int y)) fr2 => (match rdL i fr2 with
            | some qs => (match ixN qs.length k with | some j => .nx (wrL i (qs.set j (.int (z + y))) fr2) | none => .bad)
            | none => .bad)
          | .ok _ _ => .bad
          | .exc x f => .exc x f
          | .bad => .bad)
        | _ => .bad)
      | none => .bad)
    | .ok _ _ => .bad
    | .exc x f => .exc x f
    | .bad => .bad
theorem get_listP : PGet X (rIxL X.K) := by
  intro pins s σ H x y v u Q I rx ry h
  obtain ⟨p, xs, i, z, rfl, rfl, hq, he, q⟩ := h
  cases rx
  obtain ⟨t, rfl⟩ := ry
  obtain ⟨its, r, pl, hz⟩ := I.list hq
  obtain ⟨j, h1, h2, h3, h4, h5⟩ := atI_get he
  obtain ⟨w, ew, rw'⟩ := r.get h2
  have hl := r.length
  have hn := line63
  have fin : EP X pins σ Q w s := ⟨z, H, I, rw', q⟩
  by_cases h0 : 0 ≤ i
  · have hj : i.toNat = j := by
      rw [seqIndex_of h0 h5] at h1
      exact Option.some.inj h1
    exact wpAny_getItem_list pl.isList h0 (by omega) (by rw [hj]; simpa using ew) fin
  · have hj : (i + (its.toArray.size : Int)).toNat = j := by
      rw [seqIndex_neg (by omega) h4] at h1
      rw [List.size_toArray, ← hl]
      exact Option.some.inj h1
    exact wpAny_getItem_list_neg pl.isList (by omega) (by rw [List.size_toArray] <;> omega) (by omega) (by rw [hj]; simpa using ew) fin
theorem ss_augIx {i : Nat} {o ix v : Expr} {ei ev : Fr → O MV} {ipos pos : Pos} (ho : PE X o (tVar i)) (hi : SE X ca false ix ei) (hv : SE X ca false v ev)
    (ha : ∀ ov iv new, augStore ix ov iv new = (do holding [new, ov, iv] (setItem ov iv new); release [new, ov, iv] []; pure .next) := by intros; rfl) : SS X ca (.AugAssign (.Subscript o ix ipos) .Add v pos) (sAugIx i ei ev) := by
  refine SS.of (ps_augS ho hi.pe get_listP hv.pe ip_add set_list ha) fun W c D tk r p => ?_
  unfold sAugIx at p
  cases h : rdL i c.fr with
  | none => rw [h] at p; exact p.elim
  | some ps0 =>
    rw [h] at p
    obtain ⟨a, vs, e2, _⟩ := rdL_slot r h
    refine ⟨.ref a, e2, ?_⟩
    have p1 : postS X.K ca c D W (match ei c.fr with
    | .ok (.pv (.int k)) fr1 => (match rdL i fr1 with
      | some ps => (match atI ps k with
        | some (.int z) => (match ev fr1 with
          | .ok (.pv (.int y)) fr2 => (match rdL i fr2 with
            | some qs => (match ixN qs.length k with | some j => .nx (wrL i (qs.set j (.int (z + y))) fr2) | none => .bad)
            | none => .bad)
          | .ok _ _ => .bad
          | .exc x f => .exc x f
          | .bad => .bad)
        | _ => .bad)
      | none => .bad)
    | .ok _ _ => .bad
    | .exc x f => .exc x f
    | .bad => .bad) := p
    refine useEP (k := fun k fr1 => match k with
      | .int k => (match rdL i fr1 with
        | some ps => (match atI ps k with
          | some (.int z) => (match ev fr1 with
            | .ok (.pv (.int y)) fr2 => (match rdL i fr2 with
              | some qs => (match ixN qs.length k with | some j => .nx (wrL i (qs.set j (.int (z + y))) fr2) | none => .bad)
              | none => .bad)
            | .ok _ _ => .bad
            | .exc x f => .exc x f
            | .bad => .bad)
          | _ => .bad)
        | none => .bad)
      | _ => .bad) tk (Go.refl r) (D0 := D) (p := ?_) fun c1 k w e3 g1 o1 p => ?_
    · cases z : ei c.fr with
      | ok b f =>
        rw [z] at p1
        cases b with
        | pv b => cases b <;> exact p1
        | _ => exact p1
      | exc x f => rw [z] at p1; exact p1
      | bad => rw [z] at p1; exact p1
    · cases k with
      | int k =>
        obtain rfl := o1
        have p2 : postS X.K ca c D W (match rdL i c1.fr with
        | some ps => (match atI ps k with
          | some (.int z) => (match ev c1.fr with
            | .ok (.pv (.int y)) fr2 => (match rdL i fr2 with
              | some qs => (match ixN qs.length k with | some j => .nx (wrL i (qs.set j (.int (z + y))) fr2) | none => .bad)
              | none => .bad)
            | .ok _ _ => .bad
            | .exc x f => .exc x f
            | .bad => .bad)
          | _ => .bad)
        | none => .bad) := p
        cases h2 : rdL i c1.fr with
        | none => rw [h2] at p2; exact p2.elim
        | some ps =>
          rw [h2] at p2
          have p3 : postS X.K ca c D W (match atI ps k with
          | some (.int z) => (match ev c1.fr with
            | .ok (.pv (.int y)) fr2 => (match rdL i fr2 with
              | some qs => (match ixN qs.length k with | some j => .nx (wrL i (qs.set j (.int (z + y))) fr2) | none => .bad)
              | none => .bad)
            | .ok _ _ => .bad
            | .exc x f => .exc x f
            | .bad => .bad)
          | _ => .bad) := p2
          obtain ⟨a', vs', e4, h3, _, _, r3⟩ := rdL_slot g1.rep h2
          rw [e3, e2] at e4
          cases e4
          cases h4 : atI ps k with
          | none => rw [h4] at p3; exact p3.elim
          | some q =>
            rw [h4] at p3
            obtain ⟨x, ex, rx⟩ := atI_rel r3 h4
            cases q with
            | int z =>
              obtain rfl := rx
              refine ⟨a, vs', k, .int z, rfl, rfl, SqL.of h3, ex, ?_⟩
              rw [← e3]
              have p4 : postS X.K ca c D W (match ev c1.fr with
              | .ok (.pv (.int y)) fr2 => (match rdL i fr2 with
                | some qs => (match ixN qs.length k with | some j => .nx (wrL i (qs.set j (.int (z + y))) fr2) | none => .bad)
                | none => .bad)
              | .ok _ _ => .bad
              | .exc x f => .exc x f
              | .bad => .bad) := p3
              refine useEP (k := fun y fr2 => match y with
                | .int y => (match rdL i fr2 with
                  | some qs => (match ixN qs.length k with | some j => .nx (wrL i (qs.set j (.int (z + y))) fr2) | none => .bad)
                  | none => .bad)
                | _ => .bad) tk g1 (D0 := D) (p := ?_) fun c2 y w e5 g2 o2 p => ?_
              · cases z2 : ev c1.fr with
                | ok b f =>
                  rw [z2] at p4
                  cases b with
                  | pv b => cases b <;> exact p4
                  | _ => exact p4
                | exc x f => rw [z2] at p4; exact p4
                | bad => rw [z2] at p4; exact p4
              · cases y with
                | int y =>
                  obtain rfl := o2
                  have p5 : postS X.K ca c D W (match rdL i c2.fr with
                  | some qs => (match ixN qs.length k with | some j => .nx (wrL i (qs.set j (.int (z + y))) c2.fr) | none => .bad)
                  | none => .bad) := p
                  cases h5 : rdL i c2.fr with
                  | none => rw [h5] at p5; exact p5.elim
                  | some qs =>
                    rw [h5] at p5
                    have p6 : postS X.K ca c D W (match ixN qs.length k with | some j => .nx (wrL i (qs.set j (.int (z + y))) c2.fr) | none => .bad) := p5
                    obtain ⟨a2, vs2, e6, h6, r6, w6⟩ := (g1.then g2).wrL h5
                    rw [e5, e3, e2] at e6
                    cases e6
                    cases h7 : ixN qs.length k with
                    | none => rw [h7] at p6; exact p6.elim
                    | some j =>
                      rw [h7] at p6
                      obtain ⟨F', g3⟩ := w6 (vs2.set j (.int (z + y))) (qs.set j (.int (z + y))) (r6.set (show VR X.K c2.S (.int (z + y)) (.int (z + y)) from rfl) j)
                      refine ⟨z, y, rfl, rfl, a, vs2, k, j, rfl, rfl, h6, by rw [r6.len]; exact h7, ?_⟩
                      have := p6 ⟨c2.S, upd c2.H a (.lst (vs2.set j (.int (z + y)))), c2.σ, wrL i (qs.set j (.int (z + y))) c2.fr, F'⟩ rfl g3
                      rw [← e5]; exact this
                | _ => exact p.elim
            | _ => exact p3.elim
      | _ => exact p.elim

/-! ### an owned list of a slot becomes plain ahead of a statement -/
def frz (i : Nat) (fr : Fr) : Option Fr := match fr[i]? with
  | some (.ow (.pl ps)) => some (fr.set i (.ow (.pv (.lst ps))))
  | _ => none
def sFrzAt (i : Nat) (s : Fr → SO) (fr : Fr) : SO := match frz i fr with | some fr1 => s fr1 | none => .bad
theorem SS.frzAt {st : Stmt} {s : Fr → SO} (i : Nat) (h : SS X ca st s) : SS X ca st (sFrzAt i s) := by
  refine ⟨⟨fun pins sh σ H D I ⟨W, tk, c, e1, e2, r, po⟩ => ?_⟩⟩
  subst e1 e2
  unfold sFrzAt Sm.frz at po
  cases hs : c.fr[i]? with
  | none => rw [hs] at po; exact po.elim
  | some q =>
    rw [hs] at po
    cases q with
    | ow mv =>
      cases mv with
      | pl ps =>
        obtain ⟨S', F', g⟩ := (Go.refl (m := false) r).freezeS hs
        exact h.ps.run pins sh c.σ c.H D I ⟨W, tk, ⟨S', c.H, c.σ, c.fr.set i (.ow (.pv (.lst ps))), F'⟩, rfl, rfl, g.rep, postS.after g po⟩
      | _ => exact po.elim
    | _ => exact po.elim

/-! ### f(a=e, ..): keywords alone, in any sequence; parameter j takes the js[j]-th written one -/
def prm {α : Type} (js : List Nat) (xs : List α) : List α := js.filterMap (xs[·]?)
theorem VRL.prm {S : Hp} {ps : List PV} {vs : List V} (r : VRL K S ps vs) : ∀ js : List Nat, VRL K S (Sm.prm js ps) (Sm.prm js vs)
  | [] => rfl
  | j :: js => by
    unfold Sm.prm
    rw [List.filterMap_cons, List.filterMap_cons]
    cases h : ps[j]? with
    | none =>
      have h2 : vs[j]? = none := by rw [List.getElem?_eq_none_iff] at h ⊢; rw [r.len]; exact h
      rw [h2]; exact VRL.prm r js
    | some p =>
      obtain ⟨v, hv, rv⟩ := r.get h
      rw [hv]
      exact ⟨v, _, rfl, rv, VRL.prm r js⟩
theorem vals_prm {vs : List V} {us : List Value} (r : Vals vs us) : ∀ js : List Nat, Vals (Sm.prm js vs) (Sm.prm js us)
  | [] => .nil
  | j :: js => by
    unfold Sm.prm
    rw [List.filterMap_cons, List.filterMap_cons]
    cases h : vs[j]? with
    | none =>
      have h2 : us[j]? = none := by rw [List.getElem?_eq_none_iff] at h ⊢; rw [← r.length]; exact h
      rw [h2]; exact vals_prm r js
    | some p =>
      obtain ⟨v, hv, rv⟩ := r.get h
      rw [hv]
      exact .cons rv (vals_prm r js)
structure KDf (P : Program) (w : World) (K : PySem.W.Frag) (mg : Str → Option Value) (base : Heap) (ca : Nat → Addr) (k : Nat) (x : Str) (f : Addr) (ps ks : List Str) (js : List Nat) (g : List MV → FO) : Prop where
  at_ : mg x = some (.ref f)
  keep : PySem.W.keepIn K (.ref f) = true
  ex : ∃ fd, FnSim P w K mg base ca k f fd ps g ∧ ∀ top_args : List Value, top_args.length = ks.length → bindArgs fd ⟨[], ks.zip top_args⟩ = pure (ps.zip (prm js top_args))
theorem kbinds {x qual : Str} {st : Stmt} {f : Addr} {fd : FuncData} {ps ks : List Str} {js : List Nat} (F : Fun K x qual st f fd)
    (h : ∀ (kV doc pm : Value) (an : Option Addr) (cdv ct : Value) (top_args : List Value), top_args.length = ks.length → bindArgs (PySem.W.fnOf x qual (defArgs st) (defBody st) (defScope st) .none kV doc pm an cdv ct) ⟨[], ks.zip top_args⟩ = pure (ps.zip (prm js top_args))) :
    ∀ top_args : List Value, top_args.length = ks.length → bindArgs fd ⟨[], ks.zip top_args⟩ = pure (ps.zip (prm js top_args)) := by
  obtain ⟨oc, od, kV, doc, pm, an, cdv, ct, osl, rfl, lk, hcd⟩ := F.ex
  exact h kV doc pm an cdv ct
structure SK (X : Cx) (ca : Nat → Addr) (m : Bool) (es : List Keyword) (ev : Fr → O (List PV)) : Prop where
  pk : PK X es (tAr X ca m ev)
theorem SK.of {es : List Keyword} {t : TA} {ev : Fr → O (List PV)} (h : PK X es t) (k : ∀ (W : WX) (c : Cf) (Q : List V → Hp → Prop), Takes X W → Rep X.K c → postA X.K ca m c Q W (ev c.fr) → t c.σ c.H Q) : SK X ca m es ev := by
  refine ⟨⟨fun pos pins s σ H Q I ⟨W, tk, c, e1, e2, r, p⟩ => ?_⟩⟩
  subst e1 e2
  exact h.run pos pins s c.σ c.H Q I (k W c Q tk r p)
theorem sk_nil : SK X ca m [] aNil := SK.of pk_nil fun W c Q tk rp po => po c [] rfl rfl (Go.refl rp) rfl
theorem sk_cons {e : Expr} {nm : Option Str} {kpos : Pos} {es : List Keyword} {ea : Fr → O MV} {er : Fr → O (List PV)} (ha : SE X ca m e ea) (hr : SK X ca m es er) : SK X ca m (⟨nm, e, kpos⟩ :: es) (aCons ea er) := by
  refine SK.of (pk_cons ha.pe hr.pk) fun W c Q tk rp po => useA_bindP tk rp po fun c1 p v e1 g1 o1 po => ?_
  refine ⟨W, tk, c1, e1, rfl, g1.rep, ?_⟩
  cases q : er c1.fr with
  | ok ps fr =>
    rw [q] at po
    intro c2 vs e2 e3 g2 o2
    subst e2
    exact po c2 (v :: vs) rfl (e3.trans e1) (g1.then g2) ⟨v, vs, rfl, o1.mono g2.sS, o2⟩
  | exc x fr =>
    rw [q] at po
    intro c2 d e2 e3 g2 o2
    exact po c2 d e2 (e3.trans e1) (g1.weak.then g2) o2
  | bad => rw [q] at po; exact po.elim
def aPrm (n : Nat) (js : List Nat) (ea : Fr → O (List PV)) (fr : Fr) : O (List PV) := (ea fr).bind fun ps fr1 => if ps.length = n then .ok (prm js ps) fr1 else .bad
theorem se_dK {k : Nat} {x : Str} {f : Addr} {ps ks : List Str} {js : List Nat} {g : List MV → FO} {p pos : Pos} {es : List Keyword} {ea : Fr → O (List PV)} {n l : Nat} (D : KDf X.prog X.w X.K X.mg X.base ca k x f ps ks js g) (hr : Room k X.A) (hg : Gl X x) (ha : SK X ca m es ea)
    (hn : ps.length = n := by rfl) (hl : ks.length = l := by rfl) (hall : (backToKw pos (keywordEach es X.env)).all (·.1.isSome) = true := by rfl) (hks : (backToKw pos (keywordEach es X.env)).filterMap (·.1) = ks := by rfl) (hdb : (x == ("__debug__" : Str)) = false := by decide)
    (hpl : ((backTo pos (starEach [] X.env)).any (·.1) || (backToKw pos (keywordEach es X.env)).any (·.1.isNone)) = false := by rfl) :
    SE X ca m (.Call (.Name x p) [] es pos) (eCallP n g (aPrm l js ea)) := by
  obtain ⟨fd, F, b⟩ := D.ex
  subst hn hl
  refine ⟨⟨fun pins s σ H Q I ⟨W, tk, c, e1, e2, rp, po⟩ => ?_⟩⟩
  subst e1 e2
  refine wpAny_Call_Name_kw (ld_glob I hg D.at_ ?_ hdb)
  refine PySem.W.callWith_KW0 (h₀ := X.base) I.ok.mod.kin D.keep hall (thn (ha.pk.run pos pins s c.σ c.H (fun vs H2 => vs.length = ks.length ∧ spOf X.K ca g ps.length (prm js vs) H2 Q (WE W c.σ)) I ?_) fun top_args s2 ⟨zs, H2, I2, rz, hlz, q2⟩ => ⟨I2.kIn, ?_⟩) hpl
  · refine use_args (k := fun ps0 fr1 => if ps0.length = ks.length then (if (prm js ps0).length = ps.length then (match g ((prm js ps0).map .pv) with | .ret r _ => .ok r fr1 | .exc x _ => .exc x fr1 | .bad => .bad) else .bad) else .bad) tk (Go.refl rp) rfl (Q0 := Q) (p := ?_) fun c1 qs vs e3 g1 o1 po => ?_
    · unfold eCallP aPrm at po
      cases q : ea c.fr with
      | ok a fr =>
        rw [q] at po
        have po' : postE Own X.K ca m c Q W ((if a.length = ks.length then (.ok (prm js a) fr : O (List PV)) else .bad).bind fun qs fr1 => if qs.length = ps.length then (match g (qs.map .pv) with | .ret r _ => .ok r fr1 | .exc x _ => .exc x fr1 | .bad => .bad) else .bad) := po
        show postE Own X.K ca m c Q W (if a.length = ks.length then _ else _)
        by_cases hq : a.length = ks.length
        · rw [if_pos hq] at po' ⊢; exact po'
        · rw [if_neg hq] at po'; exact po'.elim
      | exc x fr => rw [q] at po; exact po
      | bad => rw [q] at po; exact po
    · by_cases hq : qs.length = ks.length
      · rw [if_pos hq] at po
        by_cases hq2 : (prm js qs).length = ps.length
        · rw [if_pos hq2] at po
          refine ⟨by rw [o1.len]; exact hq, ?_⟩
          rw [← e3]
          exact callP_read g1 e3 (o1.prm js) hq2 po
        · rw [if_neg hq2] at po; exact po.elim
      · rw [if_neg hq] at po; exact po.elim
  · rw [hks]
    have hlw : top_args.length = ks.length := by rw [← rz.length]; exact hlz
    have r2 := vals_prm rz js
    refine wpAny_call (codeAny_mono (F.ok.run X.A X.stack s2 H2 ⟨[] ++ [], ks.zip top_args⟩ (prm js top_args) (prm js zs) Q (WE W c.σ) hr I2.env0 (.of_eq (b top_args hlw)) r2 q2) fun r s' hq => ?_)
    cases r with
    | error e => exact passAt tk c.σ pins H2 s2 e s' I2 hq
    | ok fl =>
      cases fl with
      | ret u => exact I2.after hq
      | next => exact False.elim hq
      | brk => exact False.elim hq
      | cont => exact False.elim hq
end Sm

namespace Sm
open PySem L2 PyProof.Rows
variable {K : PySem.W.Frag} {X : Cx} {ca : Nat → Addr} {m : Bool}
/-! ### isinstance(error, C), error the caught one -/
structure IsC (K : PySem.W.Frag) (D S : Addr) : Prop where
  ha : PySem.W.findIn K (.ref D) "__class__" = some (some (.builtin "object.__class__"))
  hn : PySem.W.specialIn K (.builtin "object.__class__") "__get__" = some (some (.builtin "getset_descriptor.__get__"))
  ht : PySem.W.takesIn K (.builtin "object.__class__") = some true
  hm : PySem.W.mroIn K D (.type "object") = some true
  hc : (PySem.W.clsIn K D).isSome = true
  ho : PySem.W.kitOne K (.ref D) (.ref S) = some true
def rIsX (D S a d : Addr) : List V → Hp → VK → Prop := fun xs H Q => ∃ fs, xs = [.ref a, .ref S] ∧ H d = some (.xd fs) ∧ Q (.bl true) H
theorem call_isX {a D S d : Addr} {oe : Obj} {pn : List (Addr × Obj)} (T : XfC X.K D) (C : IsC X.K D S) (hz : Zc (.ref D) (some d) oe) (hf : ∃ vs, oe.data = .fields vs) : CallR (X.suite a ((a, oe) :: pn)) (.builtin "isinstance") (rIsX D S a d) := by
  intro pins s σ H xs us Q I r h
  obtain ⟨fs, rfl, hd, q⟩ := h
  cases r with
  | cons rx rr =>
    cases rr with
    | cons rt rr =>
      cases rr
      cases rx
      cases rt
      obtain ⟨hget, _⟩ := I.pin (a, oe) (List.mem_append.mpr (.inl List.mem_cons_self))
      obtain ⟨vs, hv⟩ := hf
      have hx : ObjOk X.prog X.w H s.heap d (.xd fs) := I.hok d _ hd
      obtain ⟨mA, hns, hr⟩ := hx
      obtain ⟨od, ho, hl⟩ := lookIn_ns hns
      have J : PySem.W.InstAt s.heap a oe D (some od) := ⟨hget, hz.1, by unfold PySem.W.notCls; rw [hv] <;> rfl, by rw [hz.2]; exact ho⟩
      exact PySem.W.kia_one (PySem.W.kitx_exc C.hc T.ga T.gg T.exC C.ha C.hn C.ht C.hm) I.kIn J C.ho (fun z => nomatch z) fun tk => ⟨.bl true, H, I.kept (t' := tk) fun _ _ z => z, rfl, q⟩
def eIsE (i : Nat) (a d : Addr) (fr : Fr) : O MV := match fr[i]? with
  | some (.ow (.pv (.xcp a' d' _ _ _))) => if a' = a ∧ d' = d then .ok (.pv (.bl true)) fr else .bad
  | _ => .bad
theorem se_isE {a D S d : Addr} {oe : Obj} {pn : List (Addr × Obj)} {e e2 : Expr} {i : Nat} {p pos : Pos} (T : XfC X.K D) (C : IsC X.K D S) (hz : Zc (.ref D) (some d) oe) (hf : ∃ vs, oe.data = .fields vs)
    (hg : Gl X "isinstance") (hm : X.mg "isinstance" = none) (hb : bootBuiltins "isinstance" = some (.builtin "isinstance"))
    (he : PE (X.suite a ((a, oe) :: pn)) e (tVar i)) (he2 : PE (X.suite a ((a, oe) :: pn)) e2 (tC (.ref S)))
    (h1 : starEach [e, e2] X.env = (false, eval e X.env) :: starEach [e2] X.env := by rfl) (h2 : starEach [e2] X.env = (false, eval e2 X.env) :: starEach [] X.env := by rfl) (hpl : (backTo pos (starEach [e2] X.env)).any (·.1) = false := by rfl) :
    SE (X.suite a ((a, oe) :: pn)) ca m (.Call (.Name "isinstance" p) [e, e2] [] pos) (eIsE i a d) := by
  refine SE.of (pe_callB (call_isX T C hz hf) hg hm hb (pa_cons he (pa_cons he2 pa_nil h2) h1) (he := h1) (hpl := hpl)) fun W c Q tk rp po => ?_
  unfold eIsE at po
  split at po
  · rename_i a' d' cls ks ps hs
    by_cases h : a' = a ∧ d' = d
    · rw [if_pos h] at po
      obtain ⟨rfl, rfl⟩ := h
      obtain ⟨v, f, e1, ⟨_, xs, fs, ev, hS, hl, hr⟩, _⟩ := rp.slot (.inl hs)
      subst ev
      exact ⟨_, e1, fs, rfl, rp.sub _ _ hS, fin_here (Go.refl rp) rfl po rfl⟩
    · rw [if_neg h] at po; exact po.elim
  · exact po.elim
/-! ### one, other = e1, e2 -/
def sPar (i j : Nat) (ea : Fr → O (List PV)) (fr : Fr) : SO := match ea fr with
  | .ok [p, q] fr1 => (match gtN i p fr1 with | some fr2 => (match gtN j q fr2 with | some fr3 => .nx fr3 | none => .bad) | none => .bad)
  | .ok _ _ => .bad
  | .exc x f => .exc x f
  | .bad => .bad
theorem ss_par {i j : Nat} {x y : Str} {a b : Expr} {ea : Fr → O (List PV)} {px py pt pos : Pos} {kt k2 : Nat} {pt2 : Pos} (hc : X.calm = true) (hN : X.N.Nodup) (hi : X.N[i]? = some x) (hj : X.N[j]? = some y) (hij : i ≠ j)
    (hx : X.env.scope.names.lookup x = some .local) (hy : X.env.scope.names.lookup y = some .local) (ha : SA X ca false [a, b] ea)
    (hw : swappedStores [.Tuple [.Name x px, .Name y py] kt pt] (.Tuple [a, b] k2 pt2) X.env = pure (some [x, y]) := by rfl)
    (hs : swapsWithSole [.Tuple [.Name x px, .Name y py] kt pt] (.Tuple [a, b] k2 pt2) pos.line X.env = pure false := by rfl) :
    SS X ca (.Assign [.Tuple [.Name x px, .Name y py] kt pt] (.Tuple [a, b] k2 pt2) pos) (sPar i j ea) := by
  refine SS.of (ps_par hc hN hi hj hij hx hy ha.pa hw hs) fun W c D tk r p => ?_
  refine ⟨W, tk, c, rfl, rfl, r, ?_⟩
  unfold sPar at p
  cases e : ea c.fr with
  | ok ps fr1 =>
    rw [e] at p
    match ps, p with
    | [p1, q1], p =>
      intro c1 vs e1 e2 g o
      obtain ⟨v, r1, rfl, o1, w, r2, rfl, o2, o3⟩ := o
      obtain rfl : r2 = [] := o3
      refine ⟨v, w, rfl, ?_⟩
      have p' : postS X.K ca c D W (match gtN i p1 fr1 with | some fr2 => (match gtN j q1 fr2 with | some fr3 => .nx fr3 | none => .bad) | none => .bad) := p
      unfold gtN at p'
      by_cases h : free? fr1 i = true
      · rw [if_pos h] at p'
        have p2 : postS X.K ca c D W (match (if free? (fr1.set i (.ow (.pv p1))) j = true then some ((fr1.set i (.ow (.pv p1))).set j (.ow (.pv q1))) else none) with | some fr3 => .nx fr3 | none => .bad) := p'
        by_cases h2 : free? (fr1.set i (.ow (.pv p1))) j = true
        · rw [if_pos h2] at p2
          subst e1
          obtain ⟨F1, g1⟩ := (g.weak).store (mv := .pv p1) (v := v) (i := i) (Y := []) ⟨rfl, o1⟩ h
          obtain ⟨F2, g2⟩ := g1.store (mv := .pv q1) (v := w) (i := j) (Y := []) ⟨rfl, o2⟩ h2
          have := p2 ⟨c1.S, c1.H, (c1.σ.set i (some v)).set j (some w), (c1.fr.set i (.ow (.pv p1))).set j (.ow (.pv q1)), F2⟩ rfl g2
          rw [← e2]; exact this
        · rw [if_neg h2] at p2; exact p2.elim
      · rw [if_neg h] at p'; exact p'.elim
    | [], p => exact p.elim
    | [_], p => exact p.elim
    | _ :: _ :: _ :: _, p => exact p.elim
  | exc x f =>
    rw [e] at p
    intro c1 d e1 e2 g xd
    exact p c1 d e1 g xd
  | bad => rw [e] at p; exact p.elim
end Sm

namespace Sm
open PySem L2
variable {α : Type} {E : Ex → Fr → Prop} {fr : Fr} {P : Po} {Q : MV → Fr → Prop} {QB : Bool → Fr → Prop} {QA : List PV → Fr → Prop}
theorem w_slF {ea : Fr → O MV} {lo hi : Option (Fr → O MV)} (h : wE (ea fr) E fun a f => ∃ ps, lsM a = some ps ∧ a = .pv (.lst ps) ∧ wE (pt lo f) E fun l f2 => wE (pt hi f2) E fun h f3 => Q (.pl (cutP ps l h)) f3) : wE (eSlF ea lo hi fr) E Q := by
  unfold eSlF
  refine wE_bindP (wE_mono h (fun a f ⟨ps, _, e, h⟩ => ?_) fun _ _ h => h)
  subst e
  exact w_isP (wE_bind (wE_mono h (fun l f2 h => wE_bind (wE_mono h (fun h f3 q => wE_of rfl q) fun _ _ h => h)) fun _ _ h => h))
theorem w_cat {ea eb : Fr → O MV} (h : wE (ea fr) E fun a f => ∃ ps, isPl a = some ps ∧ wE (eb f) E fun b f2 => ∃ qs, isPl b = some qs ∧ ps.length + qs.length ≤ sizeLine ∧ Q (.pl (ps ++ qs)) f2) : wE (eCat ea eb fr) E Q := by
  unfold eCat
  refine wE_bind (wE_mono h (fun a f ⟨ps, e, h⟩ => ?_) fun _ _ h => h)
  cases a with
  | pl qs2 =>
    obtain rfl : qs2 = ps := Option.some.inj e
    refine wE_bind (wE_mono h (fun b f2 ⟨qs, e2, hl, h⟩ => ?_) fun _ _ h => h)
    cases b with
    | pl qs3 =>
      obtain rfl : qs3 = qs := Option.some.inj e2
      refine wE_of (a := .pl (qs2 ++ qs3)) (f := f2) ?_ h
      show (if qs2.length + qs3.length ≤ sizeLine then O.ok (MV.pl (qs2 ++ qs3)) f2 else .bad) = _
      rw [if_pos hl]
    | _ => cases e2
  | _ => cases e
theorem w_rep {ea eb : Fr → O MV} (h : wE (ea fr) E fun a f => ∃ ps, isPl a = some ps ∧ wE (eb f) E fun b f2 => ∃ k : Int, b = .pv (.int k) ∧ (0 ≤ k ∧ k ≤ 1000 ∧ ps.length ≤ 1000) ∧ Q (.pl (List.replicate k.toNat ps).flatten) f2) : wE (eRep ea eb fr) E Q := by
  unfold eRep
  refine wE_bind (wE_mono h (fun a f ⟨ps, e, h⟩ => ?_) fun _ _ h => h)
  cases a with
  | pl qs2 =>
    obtain rfl : qs2 = ps := Option.some.inj e
    refine wE_bindP (wE_mono h (fun b f2 ⟨k, e2, hl, h⟩ => ?_) fun _ _ h => h)
    subst e2
    refine w_isP (wE_of (a := .pl (List.replicate k.toNat qs2).flatten) (f := f2) ?_ h)
    show (if 0 ≤ k ∧ k ≤ 1000 ∧ qs2.length ≤ 1000 then O.ok (MV.pl (List.replicate k.toNat qs2).flatten) f2 else .bad) = _
    rw [if_pos hl]
  | _ => cases e
theorem rep_one (n : Nat) (p : PV) : (List.replicate n [p]).flatten = List.replicate n p := by
  induction n with
  | zero => rfl
  | succ n ih => rw [List.replicate_succ, List.flatten_cons, ih, List.replicate_succ]; rfl
theorem w_rvs {i : Nat} {ps : List PV} (e : rdL i fr = some ps) (h : Q (.pv .non) (wrL i ps.reverse fr)) : wE (eRvs i fr) E Q := by
  refine wE_of (a := .pv .non) (f := wrL i ps.reverse fr) ?_ h
  unfold eRvs
  rw [e]
theorem w_revL {ea : Fr → O MV} (h : wE (ea fr) E fun a f => ∃ ps, lsM a = some ps ∧ Q (.pl ps.reverse) f) : wE (eRevL ea fr) E Q := by
  unfold eRevL
  refine wE_bind (wE_mono h (fun a f ⟨ps, e, h⟩ => ?_) fun _ _ h => h)
  rw [e]
  exact wE_of rfl h
theorem w_lstRg {ea : Fr → O MV} (h : wE (ea fr) E fun a f => ∃ n : Int, a = .pv (.int n) ∧ (0 ≤ n ∧ n ≤ 1000000) ∧ Q (.pl (rgPs 0 n.toNat)) f) : wE (eLstRg ea fr) E Q := by
  unfold eLstRg
  refine wE_bindP (wE_mono h (fun a f ⟨n, e, hl, h⟩ => ?_) fun _ _ h => h)
  subst e
  refine w_isP (wE_of (a := .pl (rgPs 0 n.toNat)) (f := f) ?_ h)
  show (if 0 ≤ n ∧ n ≤ 1000000 then O.ok (MV.pl (rgPs 0 n.toNat)) f else .bad) = _
  rw [if_pos hl]
theorem w_move {i : Nat} {m : MV} (e : fr[i]? = some (.ow m)) (h : Q m (fr.set i .no)) : wE (eMv i fr) E Q := by
  refine wE_of (a := m) (f := fr.set i .no) ?_ h
  unfold eMv
  rw [e]
theorem w_augIx {i : Nat} {ei ev : Fr → O MV} {ps0 : List PV} (e : rdL i fr = some ps0) (h : wE (ei fr) P.ex fun a f => ∃ k ps z, a = .pv (.int k) ∧ rdL i f = some ps ∧ atI ps k = some (.int z) ∧ wE (ev f) P.ex fun b f2 => ∃ y qs j, b = .pv (.int y) ∧ rdL i f2 = some qs ∧ ixN qs.length k = some j ∧ P.nx (wrL i (qs.set j (.int (z + y))) f2)) : wS (sAugIx i ei ev fr) P := by
  unfold sAugIx
  rw [e]
  show wS (match ei fr with
    | .ok (.pv (.int k)) fr1 => (match rdL i fr1 with
      | some ps => (match atI ps k with
        | some (.int z) => (match ev fr1 with
          | .ok (.pv (.int y)) fr2 => (match rdL i fr2 with
            | some qs => (match ixN qs.length k with | some j => .nx (wrL i (qs.set j (.int (z + y))) fr2) | none => .bad)
            | none => .bad)
          | .ok _ _ => .bad
          | .exc x f => .exc x f
          | .bad => .bad)
        | _ => .bad)
      | none => .bad)
    | .ok _ _ => .bad
    | .exc x f => .exc x f
    | .bad => .bad) P
  cases e1 : ei fr with
  | ok a f =>
    rw [e1] at h
    obtain ⟨k, ps, z, ea, e2, e3, h2⟩ := wE_out h
    subst ea
    show wS (match rdL i f with
      | some ps => (match atI ps k with
        | some (.int z) => (match ev f with
          | .ok (.pv (.int y)) fr2 => (match rdL i fr2 with
            | some qs => (match ixN qs.length k with | some j => .nx (wrL i (qs.set j (.int (z + y))) fr2) | none => .bad)
            | none => .bad)
          | .ok _ _ => .bad
          | .exc x f => .exc x f
          | .bad => .bad)
        | _ => .bad)
      | none => .bad) P
    rw [e2]
    show wS (match atI ps k with
        | some (.int z) => (match ev f with
          | .ok (.pv (.int y)) fr2 => (match rdL i fr2 with
            | some qs => (match ixN qs.length k with | some j => .nx (wrL i (qs.set j (.int (z + y))) fr2) | none => .bad)
            | none => .bad)
          | .ok _ _ => .bad
          | .exc x f => .exc x f
          | .bad => .bad)
        | _ => .bad) P
    rw [e3]
    show wS (match ev f with
          | .ok (.pv (.int y)) fr2 => (match rdL i fr2 with
            | some qs => (match ixN qs.length k with | some j => .nx (wrL i (qs.set j (.int (z + y))) fr2) | none => .bad)
            | none => .bad)
          | .ok _ _ => .bad
          | .exc x f => .exc x f
          | .bad => .bad) P
    cases e4 : ev f with
    | ok b f2 =>
      rw [e4] at h2
      obtain ⟨y, qs, j, eb, e5, e6, h3⟩ := wE_out h2
      subst eb
      refine wS_of (f := wrL i (qs.set j (.int (z + y))) f2) ?_ h3
      show (match rdL i f2 with
            | some qs => (match ixN qs.length k with | some j => SO.nx (wrL i (qs.set j (.int (z + y))) f2) | none => .bad)
            | none => .bad) = _
      rw [e5]
      show (match ixN qs.length k with | some j => SO.nx (wrL i (qs.set j (.int (z + y))) f2) | none => .bad) = _
      rw [e6]
    | exc x f2 => rw [e4] at h2; with_unfolding_all exact h2
    | bad => rw [e4] at h2; with_unfolding_all exact h2.elim
  | exc x f => rw [e1] at h; with_unfolding_all exact h
  | bad => rw [e1] at h; with_unfolding_all exact h.elim
theorem w_frzAt {i : Nat} {s : Fr → SO} {ps : List PV} (e : fr[i]? = some (.ow (.pl ps))) (h : wS (s (fr.set i (.ow (.pv (.lst ps))))) P) : wS (sFrzAt i s fr) P := by
  unfold sFrzAt Sm.frz
  rw [e]; exact h
theorem w_aPrm {n : Nat} {js : List Nat} {ea : Fr → O (List PV)} (h : wE (ea fr) E fun ps f => ps.length = n ∧ QA (prm js ps) f) : wE (aPrm n js ea fr) E QA := by
  unfold aPrm
  refine wE_bind (wE_mono h (fun ps f ⟨hn, h⟩ => ?_) fun _ _ h => h)
  rw [if_pos hn]; exact wE_of rfl h
theorem w_par {i j : Nat} {ea : Fr → O (List PV)} (h : wE (ea fr) P.ex fun ps f => ∃ p q, ps = [p, q] ∧ free? f i = true ∧ free? (f.set i (.ow (.pv p))) j = true ∧ P.nx ((f.set i (.ow (.pv p))).set j (.ow (.pv q)))) : wS (sPar i j ea fr) P := by
  unfold sPar
  cases e : ea fr with
  | ok ps f =>
    rw [e] at h
    obtain ⟨p, q, rfl, h1, h2, h3⟩ := wE_out h
    refine wS_of (f := (f.set i (.ow (.pv p))).set j (.ow (.pv q))) ?_ h3
    show (match gtN i p f with | some fr2 => (match gtN j q fr2 with | some fr3 => SO.nx fr3 | none => .bad) | none => .bad) = _
    unfold gtN
    rw [if_pos h1]
    show (match (if free? (f.set i (.ow (.pv p))) j = true then some ((f.set i (.ow (.pv p))).set j (.ow (.pv q))) else none) with | some fr3 => SO.nx fr3 | none => .bad) = _
    rw [if_pos h2]
  | exc x f => rw [e] at h; with_unfolding_all exact h
  | bad => rw [e] at h; with_unfolding_all exact h.elim
theorem w_catL {i : Nat} {eb : Fr → O MV} {ps0 : List PV} (e : rdL i fr = some ps0) (h : wE (eb fr) E fun b f => ∃ qs, isPl b = some qs ∧ ∃ ps, rdL i f = some ps ∧ ps.length + qs.length ≤ sizeLine ∧ Q (.pl (ps ++ qs)) f) : wE (eCatL i eb fr) E Q := by
  unfold eCatL
  rw [e]
  refine wE_bind (wE_mono h (fun b f ⟨qs, e1, ps, e2, hl, h⟩ => ?_) fun _ _ h => h)
  cases b with
  | pl qs2 =>
    obtain rfl : qs2 = qs := Option.some.inj e1
    refine wE_of (a := .pl (ps ++ qs2)) (f := f) ?_ h
    show (match MV.pl qs2, rdL i f with | .pl qs, some ps => if ps.length + qs.length ≤ sizeLine then O.ok (MV.pl (ps ++ qs)) f else .bad | _, _ => .bad) = _
    rw [e2]
    show (if ps.length + qs2.length ≤ sizeLine then O.ok (MV.pl (ps ++ qs2)) f else .bad) = _
    rw [if_pos hl]
  | _ => cases e1
theorem w_eIf {t : Fr → O Bool} {a b : Fr → O MV} (h : wE (t fr) E fun k f => br k (wE (a f) E Q) (wE (b f) E Q)) : wE (eIf t a b fr) E Q := by
  unfold eIf
  cases e : t fr with
  | ok k f =>
    rw [e] at h
    cases k with
    | true => exact br_1 (wE_out h)
    | false => exact br_0 (wE_out h)
  | exc x f => rw [e] at h; with_unfolding_all exact h
  | bad => rw [e] at h; with_unfolding_all exact h.elim
end Sm

namespace Sm
open PySem L2 PyProof.Rows
section
variable {prog : Program} {w : World} {A : Around} {E : Value → Shared → Prop} {s : Shared} {l : Addr} {xs : Array (Int × Tok)}
theorem itT_old {h' : Heap} (hk : ∀ b o, b ∉ [s.heap.objs.size] → (s.heap.push { cls := .type "tuple_iterator", data := .fields #[.ref l, .int 0 0] }).get? b = some o → h'.get? b = some o) :
    ∀ b o, s.heap.get? b = some o → h'.get? b = some o := fun b o e => by
  refine hk b o (fun hm => ?_) (Heap.get?_push_of_some _ e)
  rcases List.mem_cons.mp hm with e1 | hm
  · exact absurd (e1 ▸ Heap.lt_size e) (Nat.lt_irrefl _)
  · cases hm
theorem max_intTup {Q : Value → Shared → Prop} (hh : A.handled = none) (hl : s.heap.IsTuple l (intItems xs)) (hne : 0 < xs.size)
    (h : ∀ v h' tk, (intItems xs)[argBest (fun i j => decide (numAt xs i > numAt xs j)) (xs.size - 1)]? = some v → (∀ b o, s.heap.get? b = some o → h'.get? b = some o) → Q v { s with heap := h', toks := tk }) :
    wpAny (model prog w) A (call (.builtin "max") [.ref l]) Q E s := by
  have hlt : l < s.heap.objs.size := by obtain ⟨_, e, _⟩ := hl; exact Heap.lt_size e
  refine call_max_walk (wpAny_pyIter_tuple hl ?_)
  refine ⟨_, [_, l], [_], _, _, _, _, rfl, Walks.tuple (A := A.in1) hh _ l (Nat.ne_of_lt hlt) (intItems xs), ⟨⟨_, Heap.get?_push_size _ rfl, rfl, rfl⟩, hl.push _⟩, fun b hb => ?_, by simpa [intItems] using hne, CmpOf.ints_gt (numAt xs) (fun _ _ => intItems_at), fun v h' tk hP hk => ?_⟩
  · show b < (s.heap.push _).objs.size
    rw [Heap.size_push]
    rcases List.mem_cons.mp hb with rfl | hb
    · exact Nat.lt_succ_self _
    · rcases List.mem_cons.mp hb with rfl | hb
      · exact Nat.lt_succ_of_lt hlt
      · cases hb
  · exact h v h' tk (by simpa [intItems] using hP) (itT_old hk)
end
section
variable {prog : Program} {w : World} {A : Around} {E : Value → Shared → Prop} {s : Shared} {l : Addr} {its : List Value} {ns : List Int} {Q : Value → Shared → Prop}
theorem max_rawT (hh : A.handled = none) (hl : s.heap.IsTuple l its.toArray) (hi : IntsAre its ns) (hne : 0 < ns.length)
    (h : ∀ h' tk M t', (∀ b o, s.heap.get? b = some o → h'.get? b = some o) → M ∈ ns → (∀ a, a ∈ ns → a ≤ M) → Q (.int M t') { s with heap := h', toks := tk }) : wpAny (model prog w) A (call (.builtin "max") [.ref l]) Q E s := by
  obtain ⟨xs, e⟩ := hi.allInts.items
  have hn : numsOf (intItems xs).toList = ns := by rw [← e]; exact hi.numsOf
  rw [nums_intItems] at hn
  subst hn
  rw [e] at hl
  have hsz : 0 < xs.size := by simpa using hne
  refine max_intTup hh hl hsz fun v h' tk hv hk => ?_
  obtain ⟨t, rfl⟩ := intItems_at hv
  obtain ⟨h1, h2⟩ := argBest_gt (numAt xs) (xs.size - 1)
  refine h h' tk _ t hk ?_ fun a ha => ?_
  · rw [numAt_eq]; exact PySem.getD_mem (by rw [List.length_map, Array.length_toList]; omega)
  · obtain ⟨j, hj, rfl⟩ := mem_getD ha
    rw [List.length_map, Array.length_toList] at hj
    rw [← numAt_eq]; exact h2 j (by omega)
end
section
variable {X : Cx}
def rMaxT (K : PySem.W.Frag) : List V → Hp → VK → Prop := fun vs H Q => ∃ (a : Addr) (ns : List Int), vs = [V.ref a] ∧ SqT K H a (ns.map V.int) ∧ 0 < ns.length ∧ ∀ m, m ∈ ns → (∀ y, y ∈ ns → y ≤ m) → Q (.int m) H
theorem cr_maxT (hc : X.calm = true) : CallR X (.builtin "max") (rMaxT X.K) := by
  intro pins s σ H vs us Q I r h
  obtain ⟨a, ns, rfl, hs, hne, q⟩ := h
  obtain ⟨its, rv, hl, _⟩ := I.tuple hs
  rw [Vals.ref1 r]
  exact max_rawT (I.ok.hd hc) hl rv.ints hne fun h' tk m t' hk h1 h2 => ⟨.int _, H, I.kept hk, ⟨_, rfl⟩, q m h1 h2⟩
/-- the greatest, the least of a row -/
def mxL : List Int → Int
  | [] => 0
  | [a] => a
  | a :: b :: l => if a < mxL (b :: l) then mxL (b :: l) else a
def mnL : List Int → Int
  | [] => 0
  | [a] => a
  | a :: b :: l => if mnL (b :: l) < a then mnL (b :: l) else a
theorem mxL_mem : ∀ (a : Int) (l : List Int), mxL (a :: l) ∈ a :: l ∧ ∀ y ∈ a :: l, y ≤ mxL (a :: l)
  | a, [] => ⟨List.mem_cons_self, fun y hy => by rw [List.mem_singleton.mp hy]; exact Int.le_refl _⟩
  | a, b :: l => by
    obtain ⟨h1, h2⟩ := mxL_mem b l
    show (if a < mxL (b :: l) then mxL (b :: l) else a) ∈ _ ∧ ∀ y ∈ _, y ≤ (if a < mxL (b :: l) then mxL (b :: l) else a)
    by_cases h : a < mxL (b :: l)
    · rw [if_pos h]
      refine ⟨List.mem_cons_of_mem _ h1, fun y hy => ?_⟩
      rcases List.mem_cons.mp hy with rfl | hy
      · omega
      · exact h2 y hy
    · rw [if_neg h]
      refine ⟨List.mem_cons_self, fun y hy => ?_⟩
      rcases List.mem_cons.mp hy with rfl | hy
      · exact Int.le_refl _
      · have := h2 y hy; omega
theorem mnL_mem : ∀ (a : Int) (l : List Int), mnL (a :: l) ∈ a :: l ∧ ∀ y ∈ a :: l, mnL (a :: l) ≤ y
  | a, [] => ⟨List.mem_cons_self, fun y hy => by rw [List.mem_singleton.mp hy]; exact Int.le_refl _⟩
  | a, b :: l => by
    obtain ⟨h1, h2⟩ := mnL_mem b l
    show (if mnL (b :: l) < a then mnL (b :: l) else a) ∈ _ ∧ ∀ y ∈ _, (if mnL (b :: l) < a then mnL (b :: l) else a) ≤ y
    by_cases h : mnL (b :: l) < a
    · rw [if_pos h]
      refine ⟨List.mem_cons_of_mem _ h1, fun y hy => ?_⟩
      rcases List.mem_cons.mp hy with rfl | hy
      · omega
      · exact h2 y hy
    · rw [if_neg h]
      refine ⟨List.mem_cons_self, fun y hy => ?_⟩
      rcases List.mem_cons.mp hy with rfl | hy
      · exact Int.le_refl _
      · have := h2 y hy; omega
theorem mxL_eq {a m : Int} {l : List Int} (h1 : m ∈ a :: l) (h2 : ∀ y ∈ a :: l, y ≤ m) : m = mxL (a :: l) := by
  obtain ⟨h3, h4⟩ := mxL_mem a l
  have := h4 m h1
  have := h2 _ h3
  omega
theorem mnL_eq {a m : Int} {l : List Int} (h1 : m ∈ a :: l) (h2 : ∀ y ∈ a :: l, m ≤ y) : m = mnL (a :: l) := by
  obtain ⟨h3, h4⟩ := mnL_mem a l
  have := h4 m h1
  have := h2 _ h3
  omega
def mxP (ps : List PV) : Option PV := match intsP ps with
  | some (a :: l) => some (.int (mxL (a :: l)))
  | _ => none
def mnP (ps : List PV) : Option PV := match intsP ps with
  | some (a :: l) => some (.int (mnL (a :: l)))
  | _ => none
def gMax1 : MV → Option PV
  | .pl ps => mxP ps
  | .pv (.lst ps) => mxP ps
  | .pv (.tup ps) => mxP ps
  | _ => none
def gMin1 : MV → Option PV
  | .pl ps => mnP ps
  | .pv (.lst ps) => mnP ps
  | _ => none
theorem mxP_of {ps : List PV} {K : PySem.W.Frag} {S H : Hp} {Q : VK} (k : VK1 K S H Q (mxP ps)) : ∃ a l, ps = (a :: l).map PV.int ∧ VK1 K S H Q (some (.int (mxL (a :: l)))) := by
  unfold mxP at k
  cases e : intsP ps with
  | none => rw [e] at k; exact k.bad.elim
  | some l =>
    rw [e] at k
    cases l with
    | nil => exact k.bad.elim
    | cons a l => exact ⟨a, l, intsP_ok e, k⟩
theorem mnP_of {ps : List PV} {K : PySem.W.Frag} {S H : Hp} {Q : VK} (k : VK1 K S H Q (mnP ps)) : ∃ a l, ps = (a :: l).map PV.int ∧ VK1 K S H Q (some (.int (mnL (a :: l)))) := by
  unfold mnP at k
  cases e : intsP ps with
  | none => rw [e] at k; exact k.bad.elim
  | some l =>
    rw [e] at k
    cases l with
    | nil => exact k.bad.elim
    | cons a l => exact ⟨a, l, intsP_ok e, k⟩
theorem b1_max1 (hc : X.calm = true) : B1S X (.builtin "max") gMax1 := by
  refine ⟨_, CallR.or (cr_max hc) (cr_maxT hc), fun S H a v fp Q sub o k => ?_⟩
  have key : ∀ ps, lsM a = some ps → VK1 X.K S H Q (mxP ps) → rMax X.K [v] H Q := fun ps h k => by
    obtain ⟨x, l, rfl, k2⟩ := mxP_of k
    obtain ⟨ad, xs, rfl, hs, r⟩ := lsM_rel sub h o
    have := r.ints
    subst this
    exact ⟨ad, x :: l, rfl, hs, Nat.succ_pos _, fun m h1 h2 => by rw [mxL_eq h1 h2]; exact VK1.here k2 sub rfl⟩
  cases a with
  | pl ps => exact .inl (key ps rfl k)
  | pv p =>
    cases p with
    | lst ps => exact .inl (key ps rfl k)
    | tup ps =>
      obtain ⟨_, ad, xs, rfl, hs, r⟩ := o
      obtain ⟨x, l, rfl, k2⟩ := mxP_of (ps := ps) k
      have := r.ints
      subst this
      exact .inr ⟨ad, x :: l, rfl, SqT.of (sub _ _ hs), Nat.succ_pos _, fun m h1 h2 => by rw [mxL_eq h1 h2]; exact VK1.here k2 sub rfl⟩
    | _ => exact k.bad.elim
  | _ => exact k.bad.elim
theorem b1_min1 (hc : X.calm = true) : B1S X (.builtin "min") gMin1 := by
  refine ⟨_, cr_min hc, fun S H a v fp Q sub o k => ?_⟩
  have key : ∀ ps, lsM a = some ps → VK1 X.K S H Q (mnP ps) → rMin X.K [v] H Q := fun ps h k => by
    obtain ⟨x, l, rfl, k2⟩ := mnP_of k
    obtain ⟨ad, xs, rfl, hs, r⟩ := lsM_rel sub h o
    have := r.ints
    subst this
    exact ⟨ad, x :: l, rfl, hs, Nat.succ_pos _, fun m h1 h2 => by rw [mnL_eq h1 h2]; exact VK1.here k2 sub rfl⟩
  cases a with
  | pl ps => exact key ps rfl k
  | pv p =>
    cases p with
    | lst ps => exact key ps rfl k
    | _ => exact k.bad.elim
  | _ => exact k.bad.elim
/-! max of three -/
def gMax3 : List PV → Option PV
  | [.int i, .int j, .int k] => some (.int (if j > i then (if k > j then k else j) else (if k > i then k else i)))
  | _ => none
theorem vals3 {x y z : V} {us : List Value} (r : Vals [x, y, z] us) : ∃ u w' t, us = [u, w', t] ∧ RelV x u ∧ RelV y w' ∧ RelV z t := by
  cases r with
  | cons r1 r2 =>
    obtain ⟨w', t, rfl, r3, r4⟩ := vals2 r2
    exact ⟨_, _, _, rfl, r1, r3, r4⟩
theorem call_max3 (hc : X.calm = true) : CallR X (.builtin "max") (fun xs H Q => ∃ i j k, xs = [.int i, .int j, .int k] ∧ Q (.int (if j > i then (if k > j then k else j) else (if k > i then k else i))) H) := by
  intro pins s σ H xs us Q I r h
  obtain ⟨i, j, k, rfl, q⟩ := h
  obtain ⟨u, w', x, rfl, ⟨t, rfl⟩, ⟨t', rfl⟩, ⟨t2, rfl⟩⟩ := vals3 r
  refine max_three_ints (I.ok.hd hc) fun h' tk kk => ⟨_, H, I.kept kk, ?_, q⟩
  by_cases hj : j > i
  · rw [if_pos hj, if_pos hj]
    by_cases hk : k > j
    · rw [if_pos hk, if_pos hk]; exact ⟨_, rfl⟩
    · rw [if_neg hk, if_neg hk]; exact ⟨_, rfl⟩
  · rw [if_neg hj, if_neg hj]
    by_cases hk : k > i
    · rw [if_pos hk, if_pos hk]; exact ⟨_, rfl⟩
    · rw [if_neg hk, if_neg hk]; exact ⟨_, rfl⟩
theorem VRL.c3 {K : PySem.W.Frag} {S : Hp} {p q r : PV} {vs : List V} (h : VRL K S [p, q, r] vs) : ∃ v u w, vs = [v, u, w] ∧ VR K S p v ∧ VR K S q u ∧ VR K S r w := by
  obtain ⟨v, t, e, z, h⟩ := h
  obtain ⟨u, w, rfl, q1, q2⟩ := VRL.c2 h
  exact ⟨v, u, w, e, z, q1, q2⟩
theorem bu_max3 (hc : X.calm = true) : BuS X (.builtin "max") gMax3 := by
  refine ⟨_, call_max3 hc, fun S H qs vs Q sub r k => ?_⟩
  match qs, r, k with
  | [], r, k => exact k.bad.elim
  | [p], r, k => exact (VK1.bad (by simpa [gMax3] using k)).elim
  | [p, p2], r, k => exact (VK1.bad (by simpa [gMax3] using k)).elim
  | _ :: _ :: _ :: _ :: _, r, k => exact (VK1.bad (by simpa [gMax3] using k)).elim
  | [p, p2, p3], r, k =>
    obtain ⟨v, u, w, rfl, q, q2, q3⟩ := r.c3
    cases p <;> cases p2 <;> cases p3 <;> try exact k.bad.elim
    obtain rfl := q; obtain rfl := q2; obtain rfl := q3
    exact ⟨_, _, _, rfl, k.here sub rfl⟩
end
end Sm

namespace Sm
open PySem L2 PyProof.Rows
variable {K : PySem.W.Frag} {X : Cx} {ca : Nat → Addr} {m : Bool}
/-! a comprehension over a slot's own list, which is put back -/
/-- a part of what is held goes to slot i -/
theorem Go.store2 {c c' : Cf} {Y Z : List Addr} {mv : MV} {v : V} {i : Nat} (g : Go K m c (Y ++ Z) c') (o : Own K c'.S c'.H mv v Y) (h : free? c'.fr i = true) :
    ∃ F', Go K false c Z ⟨c'.S, c'.H, c'.σ.set i (some v), c'.fr.set i (.ow mv), F'⟩ := by
  obtain ⟨s, hs, hp⟩ : ∃ s, c'.fr[i]? = some s ∧ ∀ q, s ≠ .pr q := by
    unfold free? at h
    split at h
    · cases h
    · rename_i s hn hs; exact ⟨s, hs, fun q e => hn q e⟩
    · cases h
  obtain ⟨o0, f0, f1, f2, e1, e2, q, ex⟩ := g.rep.rel.at hs
  have nd := g.nd
  rw [e2] at nd
  have hc := fun b => g.rep.rel.cells b
  rw [e2] at hc
  have nA := List.nodup_append.mp nd
  have nYZ := List.nodup_append.mp nA.1
  have nF := List.nodup_append.mp nA.2.1
  have nF2 := List.nodup_append.mp nF.2.1
  refine ⟨f0 ++ (Y ++ f2), Go.of g.rep.sub ?_ ?_ (fun b hb => g.xc b (List.mem_append_right _ hb)) g.sS g.keep (fun b hb => ?_) g.newS (fun j q e => ?_) (fun h => nomatch h)⟩
  · exact ex c'.S c'.H (.ow mv) (some v) Y (Same.refl _) (fun b hb => ⟨rfl, (hc b (List.mem_append_left _ hb)).2⟩) (fun b hb => ⟨rfl, (hc b (List.mem_append_right _ (List.mem_append_right _ hb))).2⟩) ⟨v, rfl, o⟩
  · refine List.nodup_append.mpr ⟨nYZ.2.1, List.nodup_append.mpr ⟨nF.1, List.nodup_append.mpr ⟨nYZ.1, nF2.2.1, fun a ha b hb => nA.2.2 a (List.mem_append_left _ ha) b (List.mem_append_right _ (List.mem_append_right _ hb))⟩, fun a ha b hb => ?_⟩, fun a ha b hb => ?_⟩
    · rcases List.mem_append.mp hb with hb | hb
      · exact fun z => nA.2.2 b (List.mem_append_left _ hb) a (List.mem_append_left _ ha) z.symm
      · exact nF.2.2 a ha b (List.mem_append_right _ hb)
    · rcases List.mem_append.mp hb with hb | hb
      · exact nA.2.2 a (List.mem_append_right _ ha) b (List.mem_append_left _ hb)
      · rcases List.mem_append.mp hb with hb | hb
        · exact fun z => nYZ.2.2 b hb a ha z.symm
        · exact nA.2.2 a (List.mem_append_right _ ha) b (List.mem_append_right _ (List.mem_append_right _ hb))
  · refine g.new b ?_
    rw [e2]
    rcases List.mem_append.mp hb with hb | hb
    · exact List.mem_append_left _ (List.mem_append_right _ hb)
    · rcases List.mem_append.mp hb with hb | hb
      · exact List.mem_append_right _ (List.mem_append_left _ hb)
      · rcases List.mem_append.mp hb with hb | hb
        · exact List.mem_append_left _ (List.mem_append_left _ hb)
        · exact List.mem_append_right _ (List.mem_append_right _ (List.mem_append_right _ hb))
  · obtain ⟨a1, m', a2⟩ := g.pr j q e
    have ne : i ≠ j := fun z => by subst z; rw [hs] at a2; exact hp m' (Option.some.inj a2)
    exact ⟨by rw [List.getElem?_set_ne ne]; exact a1, m', by rw [List.getElem?_set_ne ne]; exact a2⟩
/-- a slot's own thing, taken out -/
theorem Go.takeOut {c : Cf} {i : Nat} {mv : MV} (rp : Rep K c) (hs : c.fr[i]? = some (.ow mv)) : ∃ v fp F', c.σ[i]? = some (some v) ∧ Go K false c fp ⟨c.S, c.H, c.σ, c.fr.set i .no, F'⟩ ∧ Own K c.S c.H mv v fp := by
  obtain ⟨o, f0, f1, f2, e1, e2, ⟨v, e, q⟩, ex⟩ := rp.rel.at hs
  subst e
  have nd := rp.nd
  rw [e2] at nd
  have hperm : (f0 ++ (f1 ++ f2)).Perm (f1 ++ (f0 ++ f2)) := by
    rw [← List.append_assoc, ← List.append_assoc]
    exact List.Perm.append_right f2 List.perm_append_comm
  have nd2 := hperm.nodup_iff.mp nd
  have hF := rp.rel.cells
  rw [e2] at hF
  have hc : ∀ b ∈ f0 ++ (f1 ++ f2), c.H b ≠ none ∧ c.S b = none := hF
  have hset : c.σ.set i (some v) = c.σ := by
    have hi : i < c.σ.length := (List.getElem?_eq_some_iff.mp e1).1
    have := (List.getElem?_eq_some_iff.mp e1).2
    rw [← this]; exact List.set_getElem_self hi
  have rel := ex c.S c.H .no (some v) [] (Same.refl _) (fun b hb => ⟨rfl, (hc b (List.mem_append_left _ hb)).2⟩) (fun b hb => ⟨rfl, (hc b (List.mem_append_right _ (List.mem_append_right _ hb))).2⟩) rfl
  rw [hset] at rel
  refine ⟨v, f1, f0 ++ f2, e1, ?_, q⟩
  refine Go.of rp.sub rel nd2 (fun b hb => hc b (List.mem_append_right _ (List.mem_append_left _ hb))) (Same.refl _) (fun b _ o e => e) (fun b hb => .inl ?_) (fun b hb => .inl hb) (fun j q e => ⟨rfl, q, ?_⟩) (fun h => nomatch h)
  · rw [e2]; exact hperm.mem_iff.mpr hb
  · have hne : i ≠ j := fun z => by subst z; rw [hs] at e; cases e
    rw [List.getElem?_set_ne hne]; exact e
theorem lc_readM {pl : Bool} {i : Nat} {us vs : List Nat} {t : PV → Fr → Option Fr} {tst : Fr → O Bool} {el : Fr → O MV} {c0 c1 : Cf} {Y : List Addr} {a : MV} {v : V} {W : WX} {Q : VK} (g : Go X.K false c0 Y c1) (hσ : c1.σ = c0.σ) (o : Own X.K c1.S c1.H a v Y) (hus : ∀ i ∈ us, i ∈ vs) (hv : c1.σ[i]? = some (some v))
    (p : postE Own X.K ca false c0 Q W (match seqM2 a with
      | none => .bad
      | some ps => if plainOwn c1.fr vs = true then (match lcF vs t tst el ps (wipeF c1.fr vs) with
          | .ok ms fr2 => if ms.length ≤ sizeLine then (match mkL pl ms with | some r => (if free? (restF c1.fr vs fr2) i = true then .ok r ((restF c1.fr vs fr2).set i (.ow a)) else .bad) | none => .bad) else .bad
          | _ => .bad) else .bad)) :
    ∃ ad, v = .ref ad ∧ (((∃ xs, SqL X.K c1.H ad xs) ∧ lcW X ca us t tst el vs c1.σ Q (Itl X.K ad) c1.H) ∨ ((∃ xs, SqT X.K c1.H ad xs) ∧ lcW X ca us t tst el vs c1.σ Q (Itt X.K ad) c1.H) ∨ ∃ lo hi, c1.H ad = some (.rng lo hi) ∧ (-(2 ^ 62) ≤ lo ∧ lo < 2 ^ 62 ∧ -(2 ^ 62) ≤ hi ∧ hi < 2 ^ 62) ∧ lcW X ca us t tst el vs c1.σ Q (Itr lo (hi - lo).toNat) c1.H) := by
  cases hs : seqM2 a with
  | none => rw [hs] at p; exact p.elim
  | some ps =>
    rw [hs] at p
    have p' : postE Own X.K ca false c0 Q W (if plainOwn c1.fr vs = true then (match lcF vs t tst el ps (wipeF c1.fr vs) with
          | .ok ms fr2 => if ms.length ≤ sizeLine then (match mkL pl ms with | some r => (if free? (restF c1.fr vs fr2) i = true then .ok r ((restF c1.fr vs fr2).set i (.ow a)) else .bad) | none => .bad) else .bad
          | _ => .bad) else .bad) := p
    by_cases hw : plainOwn c1.fr vs = true
    · rw [if_pos hw] at p'
      cases hr : lcF vs t tst el ps (wipeF c1.fr vs) with
      | exc x fr => rw [hr] at p'; exact p'.elim
      | bad => rw [hr] at p'; exact p'.elim
      | ok ms fr2 =>
        rw [hr] at p'
        have p2 : postE Own X.K ca false c0 Q W (if ms.length ≤ sizeLine then (match mkL pl ms with | some r => (if free? (restF c1.fr vs fr2) i = true then .ok r ((restF c1.fr vs fr2).set i (.ow a)) else .bad) | none => .bad) else .bad) := p'
        by_cases hz : ms.length ≤ sizeLine
        · rw [if_pos hz] at p2
          cases hm : mkL pl ms with
          | none => rw [hm] at p2; exact p2.elim
          | some r =>
            rw [hm] at p2
            have p2' : postE Own X.K ca false c0 Q W (if free? (restF c1.fr vs fr2) i = true then .ok r ((restF c1.fr vs fr2).set i (.ow a)) else .bad) := p2
            have hf : free? (restF c1.fr vs fr2) i = true := by
              by_cases hf : free? (restF c1.fr vs fr2) i = true
              · exact hf
              · rw [if_neg hf] at p2'; exact p2'.elim
            rw [if_pos hf] at p2'
            have p3 : postE Own X.K ca false c0 Q W (.ok r ((restF c1.fr vs fr2).set i (.ow a))) := p2'
            have hset : c1.σ.set i (some v) = c1.σ := by
              have hi : i < c1.σ.length := (List.getElem?_eq_some_iff.mp hv).1
              have := (List.getElem?_eq_some_iff.mp hv).2
              rw [← this]; exact List.set_getElem_self hi
            -- the block's start
            have hc1 : ∀ b ∈ c1.F, c1.S b = none := fun b hb => (g.rep.cells hb).2
            have rw1 : Rep X.K ⟨c1.S, c1.H, wipe c1.σ vs, wipeF c1.fr vs, c1.F⟩ := ⟨g.rep.sub, wipeF_rel g.rep.rel hc1 hw, g.rep.nd⟩
            have hno := plainOwn_wipe c1.fr vs hw
            have hnp : ∀ i ∈ vs, ∀ q, (wipeF c1.fr vs)[i]? ≠ some (.pr q) := fun i hi q e => by rw [hno i hi] at e; cases e
            have hww : wipe (wipe c1.σ vs) vs = wipe c1.σ vs := wipe_sig (us := vs) ⟨wipe_length _ _, fun j hj => wipe_out hj⟩ fun _ h => h
            have dis : ∀ b ∈ Y, b ∉ c1.F := fun b hb q => (List.nodup_append.mp g.nd).2.2 b hb b q rfl
            have fin : ∀ D, c1.H D = none → ∀ c' acc fp, c'.fr = fr2 → c'.σ = wipe c1.σ vs → Go X.K false ⟨c1.S, c1.H, wipe c1.σ vs, wipeF c1.fr vs, c1.F⟩ (D :: fp) c' → c'.H D = some (.lst acc) → OwnL X.K c'.S c'.H ms acc fp → Q (.ref D) c'.H := fun D hD c' acc fp e1 e2 g2 h2 o2 => by
              subst e1
              have hno2 : ∀ i ∈ vs, c'.fr[i]? = some .no := by
                have key : ∀ (l : List PV) (fr : Fr), (∀ i ∈ vs, fr[i]? = some .no) → ∀ ms fr', lcF vs t tst el l fr = .ok ms fr' → ∀ i ∈ vs, fr'[i]? = some .no := by
                  intro l
                  induction l with
                  | nil => intro fr h ms fr' e; unfold lcF at e; injection e with _ e; subst e; exact h
                  | cons q l ih =>
                    intro fr h ms fr' e
                    unfold lcF at e
                    split at e
                    · cases e
                    · split at e
                      · split at e
                        · split at e
                          · split at e
                            · rename_i hp
                              split at e
                              · rename_i e2
                                injection e with _ e
                                subst e
                                exact ih _ (plainOwn_wipe _ _ hp) _ _ e2
                              · cases e
                            · cases e
                          · cases e
                        · split at e
                          · rename_i hp
                            exact ih _ (plainOwn_wipe _ _ hp) _ _ e
                          · cases e
                      · cases e
                exact key ps _ hno _ _ hr
              have rel := restF_rel g.rep.rel g2.sS g2.rep.rel (fun b hb => (g2.rep.cells hb).2) hw hno2
              rw [e2, restσ_wipe] at rel
              have g3 : Go X.K false c1 (D :: fp) ⟨c'.S, c'.H, c1.σ, restF c1.fr vs c'.fr, c'.F⟩ := by
                refine Go.of g2.rep.sub rel g2.nd g2.xc g2.sS g2.keep g2.new g2.newS (fun j q e => ⟨rfl, ?_⟩) fun h => nomatch h
                have nj : j ∉ vs := fun hj => by
                  have := List.all_eq_true.mp hw j hj
                  rw [e] at this; cases this
                obtain ⟨_, m', a2⟩ := g2.pr j q (by show (wipeF c1.fr vs)[j]? = _; rw [wipeF_out _ nj]; exact e)
                exact ⟨m', by rw [restF_out _ _ nj]; exact a2⟩
              obtain ⟨F', g4⟩ := Go.store2 (g.trans g3) (g.hold g3 o) hf
              have g4' : Go X.K false c0 (D :: fp) ⟨c'.S, c'.H, c1.σ.set i (some v), (restF c1.fr vs c'.fr).set i (.ow a), F'⟩ := g4
              rw [hset] at g4'
              exact p3 ⟨c'.S, c'.H, c1.σ, (restF c1.fr vs c'.fr).set i (.ow a), F'⟩ (.ref D) (D :: fp) rfl hσ g4' (mkL_own hm h2 (g2.xc D List.mem_cons_self).2 o2)
            have stay : ∀ D c2, (∃ Z, Go X.K false ⟨c1.S, c1.H, wipe c1.σ vs, wipeF c1.fr vs, c1.F⟩ (D :: Z) c2) → Same c1.S c2.S ∧ Same c2.S c2.H ∧ ∀ b ∈ Y, c2.H b = c1.H b := fun D c2 ⟨Z, g2⟩ =>
              ⟨g2.sS, g2.rep.sub, (g2.other (Y := Y) dis g.xc).1⟩
            unfold seqM2 at hs
            split at hs
            · cases hs
              obtain ⟨e0, ad, xs, ev, ha, hx⟩ := o
              refine ⟨ad, ev, .inr (.inl ⟨⟨xs, SqT.of (g.rep.sub _ _ ha)⟩, fun D hD => ?_⟩)⟩
              refine lc_run (X := X) (c := ⟨c1.S, c1.H, wipe c1.σ vs, wipeF c1.fr vs, c1.F⟩) (xs := xs) (ps := _) (fun H c2 e g2 => ⟨xs, (e ▸ SqT.of ((stay D c2 g2).2.1 _ _ ((stay D c2 g2).1 _ _ ha))), Nat.le_refl _⟩) (fun i H x hx c2 e g2 => ?_) rw1 hx hD hr hz hus hnp hww (fin D hD)
              have hT : SqT X.K H ad xs := (e ▸ SqT.of ((stay D c2 g2).2.1 _ _ ((stay D c2 g2).1 _ _ ha)))
              refine ⟨⟨xs, x, hT, hx⟩, fun y H' ⟨e2, h⟩ => ⟨?_, e2⟩⟩
              have := h xs hT
              rw [hx] at this
              exact (Option.some.inj this).symm
            · cases hs
              obtain ⟨e0, ad, xs, ev, ha, hx⟩ := o
              refine ⟨ad, ev, .inl ⟨⟨xs, same_sql g.rep.sub ha⟩, fun D hD => ?_⟩⟩
              have hT : ∀ H c2, c2.H = H → (∃ Z, Go X.K false ⟨c1.S, c1.H, wipe c1.σ vs, wipeF c1.fr vs, c1.F⟩ (D :: Z) c2) → SqL X.K H ad xs := fun H c2 e g2 => e ▸ same_sql ((stay D c2 g2).1.trans (stay D c2 g2).2.1) ha
              refine lc_run (X := X) (c := ⟨c1.S, c1.H, wipe c1.σ vs, wipeF c1.fr vs, c1.F⟩) (xs := xs) (ps := _) (fun H c2 e g2 => ⟨xs, hT H c2 e g2, Nat.le_refl _⟩) (fun i H x hx c2 e g2 => ?_) rw1 hx hD hr hz hus hnp hww (fin D hD)
              refine ⟨⟨xs, x, hT H c2 e g2, hx⟩, fun y H' ⟨e2, h⟩ => ⟨?_, e2⟩⟩
              have := h xs (hT H c2 e g2)
              rw [hx] at this
              exact (Option.some.inj this).symm
            · rename_i lo hi
              by_cases hz2 : small62 lo = true ∧ small62 hi = true
              · rw [if_pos hz2] at hs
                cases hs
                obtain ⟨e0, ad, ev, ha⟩ := o
                refine ⟨ad, ev, .inr (.inr ⟨lo, hi, g.rep.sub _ _ ha, ⟨(small62_iff hz2.1).1, (small62_iff hz2.1).2, (small62_iff hz2.2).1, (small62_iff hz2.2).2⟩, fun D hD => ?_⟩)⟩
                refine lc_run (X := X) (c := ⟨c1.S, c1.H, wipe c1.σ vs, wipeF c1.fr vs, c1.F⟩) (xs := rgVs lo (hi - lo).toNat) (ps := _) (fun H c2 e g2 => by unfold rgVs; rw [List.length_map, List.length_range]; exact Nat.le_refl _) (fun i H x hx c2 e g2 => ?_) rw1 (rgPs_rel _ _) hD hr hz hus hnp hww (fin D hD)
                unfold rgVs at hx
                rw [List.getElem?_map] at hx
                have hi : i < (hi - lo).toNat := by
                  by_cases h : i < (hi - lo).toNat
                  · exact h
                  · rw [List.getElem?_eq_none (by rw [List.length_range]; omega)] at hx; cases hx
                rw [List.getElem?_range hi] at hx
                cases hx
                exact ⟨hi, fun y H' ⟨e1, e2⟩ => ⟨e2, e1⟩⟩
              · rw [if_neg hz2] at hs; cases hs
            · cases hs
              obtain ⟨ad, xs, ev, ef, ha, hn, hx⟩ := o
              refine ⟨ad, ev, .inl ⟨⟨xs, SqL.of ha⟩, fun D hD => ?_⟩⟩
              have hT : ∀ H c2, c2.H = H → (∃ Z, Go X.K false ⟨c1.S, c1.H, wipe c1.σ vs, wipeF c1.fr vs, c1.F⟩ (D :: Z) c2) → SqL X.K H ad xs := fun H c2 e g2 => by
                subst e
                exact SqL.of (((stay D c2 g2).2.2 ad (by rw [ef]; exact List.mem_singleton.mpr rfl)).trans ha)
              refine lc_run (X := X) (c := ⟨c1.S, c1.H, wipe c1.σ vs, wipeF c1.fr vs, c1.F⟩) (xs := xs) (ps := _) (fun H c2 e g2 => ⟨xs, hT H c2 e g2, Nat.le_refl _⟩) (fun i H x hx c2 e g2 => ?_) rw1 hx hD hr hz hus hnp hww (fin D hD)
              refine ⟨⟨xs, x, hT H c2 e g2, hx⟩, fun y H' ⟨e2, h⟩ => ⟨?_, e2⟩⟩
              have := h xs (hT H c2 e g2)
              rw [hx] at this
              exact (Option.some.inj this).symm
            · cases hs
        · rw [if_neg hz] at p2; exact p2.elim
    · rw [if_neg hw] at p'; exact p'.elim
/-- [.. for .. in xs], xs a slot's own list that stays -/
def eLcM (pl : Bool) (i : Nat) (vs : List Nat) (t : PV → Fr → Option Fr) (tst : Fr → O Bool) (el : Fr → O MV) (fr : Fr) : O MV := match fr[i]? with
  | some (.ow a) => (match seqM2 a with
    | none => .bad
    | some ps => if plainOwn (fr.set i .no) vs = true then (match lcF vs t tst el ps (wipeF (fr.set i .no) vs) with
      | .ok ms fr2 => if ms.length ≤ sizeLine then (match mkL pl ms with | some r => (if free? (restF (fr.set i .no) vs fr2) i = true then .ok r ((restF (fr.set i .no) vs fr2).set i (.ow a)) else .bad) | none => .bad) else .bad
      | _ => .bad) else .bad)
  | _ => .bad
theorem se_lcM {pl : Bool} {i : Nat} {elt tg iter : Expr} {ifs : List Expr} {scope : Scope} {own : List (Str × Nat)} {pos : Pos} {us : List Nat} {t : PV → Fr → Option Fr} {tst : Fr → O Bool} {el : Fr → O MV} (hc : X.calm = true) (hN : X.N.Nodup) (hi : PE X iter (tVar i)) (ok : BlkOk X.N X.env.scope scope own)
    (hg : ∀ (s : Shared) (H : Hp) (C : Addr) (cl : List (Str × Addr)) (fp : List Addr), SG (X.blk s H scope (compEnvC scope cl C X.env) fp) tg us t) (ht : ∀ (s : Shared) (H : Hp) (C : Addr) (cl : List (Str × Addr)) (fp : List Addr), STs (X.blk s H scope (compEnvC scope cl C X.env) fp) ca ifs tst)
    (he : ∀ (s : Shared) (H : Hp) (C : Addr) (cl : List (Str × Addr)) (fp : List Addr), SE (X.blk s H scope (compEnvC scope cl C X.env) fp) ca false elt el) (hus : ∀ i ∈ us, i ∈ own.map (·.2) := by decide) (hs : ∀ x, foldedSetIterable iter X.env x = pure x := by intro _; rfl) :
    SE X ca false (.ListComp elt [⟨tg, iter, ifs, 0⟩] scope pos) (eLcM pl i (own.map (·.2)) t tst el) := by
  refine SE.of (pe_lc (g := tG X us t) (tt := tTn X.K ca tst) (te := tEn X.K ca el) hc hN (pi_any hi) ok (fun s H C cl fp => (hg s H C cl fp).pg) (fun s H C cl fp => (ht s H C cl fp).n) (fun s H C cl fp => (he s H C cl fp).n) hs) fun W c Q tk rp po => ?_
  unfold eLcM at po
  split at po
  · rename_i a hs2
    obtain ⟨v, fp, F', e1, g1, o1⟩ := Go.takeOut rp hs2
    obtain ⟨ad, ev, k⟩ := lc_readM (X := X) (us := us) (pl := pl) (c1 := ⟨c.S, c.H, c.σ, c.fr.set i .no, F'⟩) g1 rfl o1 hus e1 po
    exact ⟨v, e1, ad, ev, k⟩
  · exact po.elim
end Sm

namespace Sm
open PySem L2
theorem szle {n : Nat} (h : Nat.ble n 1000000 = true) : n ≤ sizeLine := by
  have := Nat.le_of_ble_eq_true h
  rw [sizeLine_eq]; omega
theorem szlt {n : Nat} (h : n < 1000000) : n < sizeLine := by rw [sizeLine_eq]; omega
def fre (s : Sl) : Prop := s = .no ∨ ∃ m, s = .ow m
theorem fre_no : fre .no := .inl rfl
theorem fre_ow (m : MV) : fre (.ow m) := .inr ⟨m, rfl⟩
theorem fre_at {f : Fr} {i : Nat} {s : Sl} (e : f[i]? = some s) (h : fre s) : free? f i = true := by
  unfold free?
  rw [e]
  rcases h with rfl | ⟨m, rfl⟩ <;> rfl
theorem gtN_at {f : Fr} {i : Nat} {s : Sl} {p : PV} (e : f[i]? = some s) (h : fre s) : gtN i p f = some (f.set i (.ow (.pv p))) := by
  unfold gtN
  rw [if_pos (fre_at e h)]
theorem isi_iint (i : Int) : gIsi [.int i, .ty "int"] = some (.bl true) := by rfl
theorem isi_ibool (i : Int) : gIsi [.int i, .ty "bool"] = some (.bl false) := by rfl
theorem isi_istr (i : Int) : gIsi [.int i, .ty "str"] = some (.bl false) := by rfl
theorem isi_ituple (i : Int) : gIsi [.int i, .ty "tuple"] = some (.bl false) := by rfl
theorem isi_ilist (i : Int) : gIsi [.int i, .ty "list"] = some (.bl false) := by rfl
theorem isi_bint (b : Bool) : gIsi [.bl b, .ty "int"] = some (.bl true) := by rfl
theorem isi_bbool (b : Bool) : gIsi [.bl b, .ty "bool"] = some (.bl true) := by rfl
theorem isi_bstr (b : Bool) : gIsi [.bl b, .ty "str"] = some (.bl false) := by rfl
theorem isi_btuple (b : Bool) : gIsi [.bl b, .ty "tuple"] = some (.bl false) := by rfl
theorem isi_blist (b : Bool) : gIsi [.bl b, .ty "list"] = some (.bl false) := by rfl
theorem isi_sint (s : Str) : gIsi [.str s, .ty "int"] = some (.bl false) := by rfl
theorem isi_sbool (s : Str) : gIsi [.str s, .ty "bool"] = some (.bl false) := by rfl
theorem isi_sstr (s : Str) : gIsi [.str s, .ty "str"] = some (.bl true) := by rfl
theorem isi_stuple (s : Str) : gIsi [.str s, .ty "tuple"] = some (.bl false) := by rfl
theorem isi_slist (s : Str) : gIsi [.str s, .ty "list"] = some (.bl false) := by rfl
theorem isi_tint (ps : List PV) : gIsi [.tup ps, .ty "int"] = some (.bl false) := by rfl
theorem isi_tbool (ps : List PV) : gIsi [.tup ps, .ty "bool"] = some (.bl false) := by rfl
theorem isi_tstr (ps : List PV) : gIsi [.tup ps, .ty "str"] = some (.bl false) := by rfl
theorem isi_ttuple (ps : List PV) : gIsi [.tup ps, .ty "tuple"] = some (.bl true) := by rfl
theorem isi_tlist (ps : List PV) : gIsi [.tup ps, .ty "list"] = some (.bl false) := by rfl
theorem isi_lint (ps : List PV) : gIsi [.lst ps, .ty "int"] = some (.bl false) := by rfl
theorem isi_lbool (ps : List PV) : gIsi [.lst ps, .ty "bool"] = some (.bl false) := by rfl
theorem isi_lstr (ps : List PV) : gIsi [.lst ps, .ty "str"] = some (.bl false) := by rfl
theorem isi_ltuple (ps : List PV) : gIsi [.lst ps, .ty "tuple"] = some (.bl false) := by rfl
theorem isi_llist (ps : List PV) : gIsi [.lst ps, .ty "list"] = some (.bl true) := by rfl
theorem isi_nint  : gIsi [.non, .ty "int"] = some (.bl false) := by rfl
theorem isi_nbool  : gIsi [.non, .ty "bool"] = some (.bl false) := by rfl
theorem isi_nstr  : gIsi [.non, .ty "str"] = some (.bl false) := by rfl
theorem isi_ntuple  : gIsi [.non, .ty "tuple"] = some (.bl false) := by rfl
theorem isi_nlist  : gIsi [.non, .ty "list"] = some (.bl false) := by rfl
theorem w_isi {p : PV} {n : String} {b : Bool} {fr : Fr} {E : Ex → Fr → Prop} {Q : MV → Fr → Prop} (e : gIsi [p, .ty n] = some (.bl b)) (h : Q (.pv (.bl b)) fr) : wE (opO (gIsi [p, .ty n]) fr) E Q := w_opO e h
theorem ixN_nat {n k : Nat} (h : k < n) : ixN n (k : Int) = some k := by
  unfold ixN
  simp [h]
theorem cut_to (ps : List PV) (k : Nat) : cutP ps none (some (k : Int)) = ps.take k := by
  unfold cutP
  have e : HT.sIx ps.length ps.length (some (k : Int)) = min k ps.length := HT.sIx_nat _ _ _
  rw [e]
  show (ps.drop 0).take (min k ps.length - 0) = _
  rw [List.drop_zero, Nat.sub_zero]
  by_cases h : k ≤ ps.length
  · rw [Nat.min_eq_left h]
  · rw [Nat.min_eq_right (by omega), List.take_length, List.take_of_length_le (by omega)]
theorem cut_from (ps : List PV) (k : Nat) : cutP ps (some (k : Int)) none = ps.drop k := by
  unfold cutP
  have e : HT.sIx ps.length 0 (some (k : Int)) = min k ps.length := HT.sIx_nat _ _ _
  rw [e]
  show (ps.drop (min k ps.length)).take (ps.length - min k ps.length) = _
  by_cases h : k ≤ ps.length
  · rw [Nat.min_eq_left h, List.take_of_length_le (by rw [List.length_drop]; omega)]
  · rw [Nat.min_eq_right (by omega), List.drop_length, List.drop_of_length_le (by omega), List.take_nil]
theorem wE_val {α : Type} {o : O α} {a : α} {f : Fr} (h : wE o (fun _ _ => False) fun x g => x = a ∧ g = f) : o = .ok a f := by
  cases o with
  | ok x g => obtain ⟨rfl, rfl⟩ := wE_out h; rfl
  | exc x g => with_unfolding_all exact h.elim
  | bad => with_unfolding_all exact h.elim
theorem wS_rt {o : SO} {r : MV} {f : Fr} {P : Po} (e : o = .rt r f) (h : P.rt r f) : wS o P := by rw [e]; with_unfolding_all exact h
theorem le_sz {n : Nat} (h : n ≤ 1000000) : n ≤ sizeLine := by rw [sizeLine_eq]; omega
theorem small62_nat {n : Nat} (h : n ≤ 1000000) : small62 (n : Int) = true := by unfold small62; rw [decide_eq_true_eq]; omega
theorem small62_0 : small62 0 = true := by unfold small62; rw [decide_eq_true_eq]; omega
theorem seqM2_rng {n : Nat} (h : n ≤ 1000000) : seqM2 (.pv (.rng 0 (n : Int))) = some (rgPs 0 n) := by
  show (if small62 0 = true ∧ small62 (n : Int) = true then some (rgPs 0 ((n : Int) - 0).toNat) else none) = _
  rw [if_pos ⟨small62_0, small62_nat h⟩, Int.sub_zero, Int.toNat_natCast]
theorem seqM2_int {v : Int} (h0 : 0 ≤ v) (h : v ≤ 1000000) : seqM2 (.pv (.rng 0 v)) = some (rgPs 0 v.toNat) := by
  obtain ⟨n, rfl⟩ := Int.eq_ofNat_of_zero_le h0
  exact seqM2_rng (by omega)
theorem rng_ex {n : Nat} {R : List PV → Prop} (h : n ≤ 1000000) (h2 : R (rgPs 0 n)) : ∃ ps, seqM2 (.pv (.rng 0 (n : Int))) = some ps ∧ R ps := ⟨_, seqM2_rng h, h2⟩
theorem setIx_ex {a : MV} {i : Nat} {f : Fr} {k : Int} {ps : List PV} {j : Nat} {R : Int → List PV → Nat → Prop} (h1 : a = .pv (.int k)) (h2 : rdL i f = some ps) (h3 : ixN ps.length k = some j) (h : R k ps j) : ∃ k ps j, a = .pv (.int k) ∧ rdL i f = some ps ∧ ixN ps.length k = some j ∧ R k ps j := ⟨k, ps, j, h1, h2, h3, h⟩
theorem w_lcM {i : Nat} {vs : List Nat} {t : PV → Fr → Option Fr} {tst : Fr → O Bool} {el : Fr → O MV} {fr : Fr} {ps : List PV} {E : Ex → Fr → Prop} {Q : MV → Fr → Prop} (e : fr[i]? = some (.ow (.pl ps))) (hp : plainOwn (fr.set i .no) vs = true)
    (h : ∃ qs f2, lcF vs t tst el ps (wipeF (fr.set i .no) vs) = .ok (qs.map MV.pv) f2 ∧ qs.length ≤ sizeLine ∧ free? (restF (fr.set i .no) vs f2) i = true ∧ Q (.pl qs) ((restF (fr.set i .no) vs f2).set i (.ow (.pl ps)))) : wE (eLcM true i vs t tst el fr) E Q := by
  obtain ⟨qs, f2, e2, hl, hf, h⟩ := h
  refine wE_of (a := .pl qs) (f := (restF (fr.set i .no) vs f2).set i (.ow (.pl ps))) ?_ h
  unfold eLcM
  rw [e]
  show (if plainOwn (fr.set i .no) vs = true then (match lcF vs t tst el ps (wipeF (fr.set i .no) vs) with
      | .ok ms fr2 => if ms.length ≤ sizeLine then (match mkL true ms with | some r => (if free? (restF (fr.set i .no) vs fr2) i = true then O.ok r ((restF (fr.set i .no) vs fr2).set i (.ow (.pl ps))) else .bad) | none => .bad) else .bad
      | _ => .bad) else .bad) = _
  rw [if_pos hp, e2]
  show (if (qs.map MV.pv).length ≤ sizeLine then (match mkL true (qs.map MV.pv) with | some r => (if free? (restF (fr.set i .no) vs f2) i = true then O.ok r ((restF (fr.set i .no) vs f2).set i (.ow (.pl ps))) else .bad) | none => .bad) else .bad) = _
  rw [if_pos (by rw [List.length_map]; exact hl)]
  have : mkL true (qs.map MV.pv) = some (.pl qs) := by unfold mkL; rw [if_pos rfl, allP_map]; rfl
  rw [this]
  show (if free? (restF (fr.set i .no) vs f2) i = true then O.ok (MV.pl qs) ((restF (fr.set i .no) vs f2).set i (.ow (.pl ps))) else .bad) = _
  rw [if_pos hf]
end Sm

local macro_rules | `(tactic| top_caught) => `(tactic| first
  | with_reducible refine Sm.w_seq ?_
  | with_reducible refine Sm.w_bin ?_
  | with_reducible refine Sm.w_C ?_
  | with_reducible refine Sm.w_isP ?_
  | with_reducible refine Sm.w_set ?_
  | with_reducible refine Sm.w_aCons ?_
  | with_reducible refine Sm.w_aNil ?_
  | with_reducible refine Sm.w_bu ?_
  | with_reducible refine Sm.w_b1 ?_
  | with_reducible refine Sm.w_tup ?_
  | with_reducible refine Sm.w_lst ?_
  | with_reducible refine Sm.w_if ?_
  | with_reducible refine Sm.w_cmp ?_
  | with_reducible refine Sm.w_not ?_
  | with_reducible refine Sm.w_and ?_
  | with_reducible refine Sm.w_or ?_
  | with_reducible refine Sm.w_bTru ?_
  | with_reducible refine Sm.w_callB ?_
  | with_reducible refine Sm.w_bVal ?_
  | with_reducible refine Sm.w_bNil ?_
  | with_reducible refine Sm.w_callP ?_
  | with_reducible refine Sm.w_call0 ?_
  | with_reducible refine Sm.w_nil ?_
  | with_reducible refine Sm.w_expr ?_
  | with_reducible refine Sm.w_ret ?_
  | with_reducible refine Sm.w_retN ?_
  | with_reducible refine Sm.w_asg ?_
  | with_reducible refine Sm.w_setF ?_
  | with_reducible refine Sm.w_for ?_
  | with_reducible refine Sm.w_lc ?_
  | with_reducible refine Sm.w_neg ?_
  | with_reducible refine Sm.w_ptn ?_
  | with_reducible refine Sm.w_pts ?_
  | with_reducible refine Sm.w_sl ?_
  | with_reducible refine Sm.w_gSl ?_
  | with_reducible refine Sm.w_raise ?_
  | with_reducible refine Sm.w_try ?_
  | with_reducible refine Sm.w_idxF ?_
  | with_reducible refine Sm.w_chain ?_
  | with_reducible refine Sm.w_dn ?_
  | with_reducible refine Sm.w_dput ?_
  | with_reducible refine Sm.w_inD ?_
  | with_reducible refine Sm.w_inL ?_
  | with_reducible refine Sm.w_fz ?_
  | with_reducible refine Sm.w_tupZ ?_
  | with_reducible refine Sm.w_ok ?_
  | with_reducible refine Sm.w_eAnd ?_
  | with_reducible refine Sm.w_eOr ?_
  | with_reducible refine Sm.w_eNot ?_
  | with_reducible refine Sm.w_setIx ?_
  | with_reducible refine Sm.w_n1 ?_
  | with_reducible refine Sm.w_par ?_
  | with_reducible refine Sm.w_eIf ?_
  | with_reducible refine Sm.w_slF ?_
  | with_reducible refine Sm.w_cat ?_
  | with_reducible refine Sm.w_rep ?_
  | with_reducible refine Sm.w_revL ?_
  | with_reducible refine Sm.w_lstRg ?_
  | with_reducible refine Sm.w_aPrm ?_
  | with_reducible refine Sm.br_t ?_
  | with_reducible refine Sm.br_f ?_
  | with_reducible refine Sm.br_n ?_
  | with_reducible refine Sm.w_add ?_
  | with_reducible refine Sm.w_sub ?_
  | ((with_reducible refine Sm.w_mod ?_ ?_); · decide)
  | ((with_reducible refine Sm.w_div ?_ ?_ ?_); (· decide); (· decide))
  | ((with_reducible refine Sm.w_addT ?_ ?_); · exact Sm.szle rfl)
  | ((with_reducible apply Sm.w_V); · exact rfl)
  | ((with_reducible apply Sm.w_lcM); (· exact rfl); (· exact rfl))
  | ((with_reducible apply Sm.w_b1S); · exact rfl)
  | ((with_reducible apply Sm.w_rvs); · exact rfl)
  | ((with_reducible apply Sm.w_catL); · exact rfl)
  | ((with_reducible apply Sm.w_move); · exact rfl)
  | ((with_reducible apply Sm.w_pop); (· exact rfl); (· exact rfl))
  | ((with_reducible apply Sm.w_augIx); · exact rfl)
  | ((with_reducible apply Sm.w_frzAt); · exact rfl)
  | ((with_reducible apply Sm.w_bNv); · exact rfl)
  | ((with_reducible apply Sm.w_bNo); · exact rfl)
  | ((with_reducible apply Sm.w_eixL); · exact rfl)
  | ((with_reducible apply Sm.w_app); · exact rfl)
  | ((with_reducible apply Sm.w_ext); · exact rfl)
  | ((with_reducible apply Sm.w_ixT); · exact rfl)
  | ((with_reducible apply Sm.w_ixL); · exact rfl)
  | ((with_reducible apply Sm.w_bTruS); (· exact rfl); (· exact rfl))
  | ((with_reducible apply Sm.w_callG); (· exact rfl); (· exact rfl))
  | ((with_reducible apply Sm.w_n1S); (· exact rfl); (· exact rfl))
  | ((with_reducible apply Sm.w_isi); · first | with_reducible exact Sm.isi_iint _ | with_reducible exact Sm.isi_ibool _ | with_reducible exact Sm.isi_istr _ | with_reducible exact Sm.isi_ituple _ | with_reducible exact Sm.isi_ilist _ | with_reducible exact Sm.isi_bint _ | with_reducible exact Sm.isi_bbool _ | with_reducible exact Sm.isi_bstr _ | with_reducible exact Sm.isi_btuple _ | with_reducible exact Sm.isi_blist _ | with_reducible exact Sm.isi_sint _ | with_reducible exact Sm.isi_sbool _ | with_reducible exact Sm.isi_sstr _ | with_reducible exact Sm.isi_stuple _ | with_reducible exact Sm.isi_slist _ | with_reducible exact Sm.isi_tint _ | with_reducible exact Sm.isi_tbool _ | with_reducible exact Sm.isi_tstr _ | with_reducible exact Sm.isi_ttuple _ | with_reducible exact Sm.isi_tlist _ | with_reducible exact Sm.isi_lint _ | with_reducible exact Sm.isi_lbool _ | with_reducible exact Sm.isi_lstr _ | with_reducible exact Sm.isi_ltuple _ | with_reducible exact Sm.isi_llist _ | with_reducible exact Sm.isi_nint | with_reducible exact Sm.isi_nbool | with_reducible exact Sm.isi_nstr | with_reducible exact Sm.isi_ntuple | with_reducible exact Sm.isi_nlist)
  | ((with_reducible apply Sm.w_opO); · exact rfl))
local macro_rules | `(tactic| top_args) => `(tactic| first
  | ((with_reducible refine And.intro (Sm.szle ?_) ?_); · exact rfl)
  | ((with_reducible apply Sm.rng_ex); · omega)
  | ((with_reducible apply Sm.setIx_ex); (· exact rfl); (· exact rfl); (· exact rfl))
  | ((with_reducible refine And.intro ?_ ?_); · exact rfl)
  | ((with_reducible refine And.intro ?_ ?_); · exact Sm.fre_at rfl (by assumption))
  | ((with_reducible apply Exists.intro); (with_reducible apply And.intro); · exact rfl))
local macro_rules | `(tactic| top_name) => `(tactic| repeat (first | top_caught | top_args | dsimp only [] | simp only [List.set_cons_zero, List.set_cons_succ, Sm.wrL, List.getElem?_cons_zero, List.getElem?_cons_succ, Sm.wrD, Sm.putA, Sm.backS, List.cons_append, List.nil_append]))
namespace Sm
open PySem L2 PyProof.Rows
section
variable {X : Cx} {ca : Nat → Addr} {m : Bool}
/-! o.upper() -/
def gUp : MV → Option PV
  | .pv (.str s) => if s.length ≤ 5592405 then some (.str (Txt.upper s)) else none
  | _ => none
theorem se_up {o : Expr} {eo : Fr → O MV} {apos pos : Pos} (ho : SE X ca m o eo) (hbase : attributeBase o "upper" X.env (eval o X.env) = eval o X.env := by rfl) (hline : (apos.endLine == pos.line) = true := by rfl) :
    SE X ca m (.Call (.Attribute o "upper" apos) [] [] pos) (eB1 gUp eo) := by
  refine SE.of (pe_upper ho.pe hbase hline) fun W c Q tk rp po => ?_
  refine use_bind tk (Go.refl rp) rfl po fun c1 a v fp e1 g1 o1 po => ?_
  have k := fin_op g1.dropAll e1 po
  unfold gUp at k
  split at k
  · obtain ⟨_, rfl⟩ := o1
    obtain ⟨h, k⟩ := k.ite
    exact ⟨⟨_, rfl⟩, _, rfl, rfl, h, k.here g1.rep.sub rfl⟩
  · exact k.bad.elim
/-! len(set(xs)), xs a list of ints -/
def dct (ns : List Int) : Nat := (firstMet (fun i => ns.getD i 0) ns.length).length
def tLenSet (K : PySem.W.Frag) (ta : TE) : TE := fun σ H Q => ta σ H fun x H1 => ∃ (l : Addr) (ns : List Int), x = V.ref l ∧ SqL K H1 l (ns.map V.int) ∧ ns.length < 1000 ∧ Q (.int (dct ns : Nat)) H1
theorem pe_lenSet {a : Expr} {ta : TE} {p p2 q pos : Pos} (hc : X.calm = true) (hg : Gl X "len") (hm : X.mg "len" = none) (hg2 : Gl X "set") (hm2 : X.mg "set" = none) (ha : PE X a ta)
    (na : starEach [a] X.env = (false, eval a X.env) :: starEach [] X.env := by rfl) : PE X (.Call (.Name "len" p) [.Call (.Name "set" p2) [a] [] q] [] pos) (tLenSet X.K ta) := by
  refine ⟨fun pins s σ H Q I h => ?_⟩
  refine Call_ (ld_blt I hg hm PySem.boot_len (callWith_builtin1 (args_cons (Call_ (ld_blt I hg2 hm2 boot_set (callWith_type1 (args_cons (thn (ha.run pins s σ H _ I h) fun v s1 ⟨x, H1, I1, r1, q1⟩ => args_nil ?_) na) na rfl))) rfl) rfl rfl))
  obtain ⟨l, ns, rfl, hq, h1, q1⟩ := q1
  cases r1
  obtain ⟨its, rv, pl, hz⟩ := I1.list hq
  have hl : its.toArray.size = ns.length := by rw [List.size_toArray, ← rv.length, List.length_map]
  have hle := firstMet_length_le (fun i => ns.getD i 0) ns.length
  refine call_set_list (I1.ok.hd hc) pl.isList (ns := ns) (by simpa using rv.ints) (by rw [hl]; unfold scanBound; omega) fun h' tk hS hk => args_nil ?_
  rw [hl] at hS
  obtain ⟨o, es, ep, t, ho, hex, hd, _, _, _, hf, hn⟩ := hS
  have I2 : Inv X pins σ H1 { s1 with heap := h', toks := tk } := I1.kept fun b o e => hk b o (Heap.lt_size e) e
  have hb : es.size ≤ ns.length := by rw [hn]; exact hle
  refine call_len_set ho hex hd hf (by omega) ⟨.int (dct ns : Nat), H1, I2.tok _, ⟨_, by rw [hn]; rfl⟩, q1⟩
def gLenSet : MV → Option PV
  | .pl ps => match intsP ps with
    | some ns => if ns.length < 1000 then some (.int (dct ns : Nat)) else none
    | none => none
  | _ => none
theorem se_lenSet {a : Expr} {ea : Fr → O MV} {p p2 q pos : Pos} (hc : X.calm = true) (hg : Gl X "len") (hm : X.mg "len" = none) (hg2 : Gl X "set") (hm2 : X.mg "set" = none) (ha : SE X ca m a ea)
    (na : starEach [a] X.env = (false, eval a X.env) :: starEach [] X.env := by rfl) : SE X ca m (.Call (.Name "len" p) [.Call (.Name "set" p2) [a] [] q] [] pos) (eB1 gLenSet ea) := by
  refine SE.of (pe_lenSet hc hg hm hg2 hm2 ha.pe na) fun W c Q tk rp po => ?_
  refine use_bind tk (Go.refl rp) rfl po fun c1 a v fp e1 g1 o1 po => ?_
  have k := fin_op g1.dropAll e1 po
  unfold gLenSet at k
  split at k
  · split at k
    · rename_i ps _ ns e
      obtain ⟨h, k⟩ := k.ite
      obtain ⟨ad, xs, rfl, hs, r⟩ := lsM_rel (a := .pl ps) g1.rep.sub rfl o1
      rw [intsP_ok e] at r
      have := r.ints
      subst this
      exact ⟨ad, ns, rfl, hs, h, k.here g1.rep.sub rfl⟩
    · exact k.bad.elim
  · exact k.bad.elim
/-! isinstance(e, (A, B)) -/
def gIsi2 (a b : String) (p : PV) : Option PV := match tyN p with
  | some t => (match isB t a, isB t b with
    | some x, some y => some (.bl (x || y))
    | _, _ => none)
  | none => none
def eIsi2 (a b : String) (ea : Fr → O MV) (fr : Fr) : O MV := (ea fr).bindP fun p fr1 => opO (gIsi2 a b p) fr1
theorem kit_any2 {K : PySem.W.Frag} {t u1 u2 : Value} {x y : Bool} (h1 : PySem.W.kitOne K t u1 = some x) (h2 : PySem.W.kitOne K t u2 = some y) : PySem.W.kitAny K t [u1, u2] = some (x || y) := by
  unfold PySem.W.kitAny
  rw [h1]
  cases x with
  | true => rfl
  | false =>
    show PySem.W.kitAny K t [u2] = _
    unfold PySem.W.kitAny
    rw [h2]
    cases y <;> rfl
theorem se_isi2 {a b : String} {e A B : Expr} {ea : Fr → O MV} {k : Nat} {p pos tpos : Pos} (hg : Gl X "isinstance") (hm : X.mg "isinstance" = none) (ha : SE X ca m e ea) (hA : PE X A (tC (.ty a))) (hB : PE X B (tC (.ty b)))
    (n1 : starEach [e, .Tuple [A, B] k tpos] X.env = (false, eval e X.env) :: starEach [.Tuple [A, B] k tpos] X.env := by rfl) (n2 : starEach [.Tuple [A, B] k tpos] X.env = (false, eval (.Tuple [A, B] k tpos) X.env) :: starEach [] X.env := by rfl)
    (n3 : starEach [A, B] X.env = (false, eval A X.env) :: starEach [B] X.env := by rfl) (n4 : starEach [B] X.env = (false, eval B X.env) :: starEach [] X.env := by rfl)
    (hpl : (backTo pos (starEach [.Tuple [A, B] k tpos] X.env)).any (·.1) = false := by rfl) :
    SE X ca m (.Call (.Name "isinstance" p) [e, .Tuple [A, B] k tpos] [] pos) (eIsi2 a b ea) := by
  refine SE.of (pe_callB (x := "isinstance") call_isiT hg hm boot_isinstance (pa_cons ha.pe (pa_cons (pe_tup (pa_cons hA (pa_cons hB pa_nil n4) n3)) pa_nil n2) n1) (by decide) (by decide) n1 hpl) fun W c Q tk rp po => ?_
  refine use_bindP tk (Go.refl rp) rfl po fun c1 q v e1 g1 r1 po => ?_
  obtain ⟨r, er, kk⟩ := fin_op g1.dropAll e1 po
  unfold gIsi2 at er
  cases et : tyN q with
  | none => rw [et] at er; cases er
  | some t =>
    rw [et] at er
    dsimp only at er
    cases ex : isB t a with
    | none => rw [ex] at er; cases er
    | some x =>
      cases ey : isB t b with
      | none => rw [ex, ey] at er; cases er
      | some y =>
        rw [ex, ey] at er
        cases er
        refine ⟨Nat.le_of_ble_eq_true rfl, fun pp np => ?_⟩
        refine ⟨v, pp, [.ty a, .ty b], .type t, [.type a, .type b], x || y, rfl, upd_same, .cons (.ty a) (.cons (.ty b) .nil), tyN_ok (fun u o hu => ?_) r1 et, kit_any2 (kit_ty ex) (kit_ty ey), kk _ _ _ (Gp.laid g1.rep.sub np (.tup [.ty a, .ty b])) rfl⟩
        rw [upd_ne (ne_of_none (g1.rep.sub _ _ hu) np)]
        exact g1.rep.sub _ _ hu
end
theorem dct_le (ns : List Int) : dct ns ≤ ns.length := firstMet_length_le _ _
end Sm

namespace Sm
open PySem L2 PyProof.Rows
section
variable {X : Cx} {ca : Nat → Addr} {m : Bool}
/-! {"a": 1, ..}.get(e, d) -/
def lookT : List (Str × Int) → Str → Option Int
  | [], _ => none
  | kv :: r, x => if kv.1 = x then some kv.2 else lookT r x
def eDgt (tab : List (Str × Int)) (d : Int) (ek : Fr → O MV) (fr : Fr) : O MV := (ek fr).bindP fun p fr1 => match p with
  | .str x => .ok (.pv (.int ((lookT tab x).getD d))) fr1
  | _ => .bad
def tabK (tab : List (Str × Int)) : List (Key × V) := tab.map fun kv => (.inr kv.1, .int kv.2)
def tabT (tab : List (Str × Int)) : List (TE × TE) := tab.map fun kv => (tC (.str kv.1), tC (.int kv.2))
theorem tabT_ok : ∀ (tab : List (Str × Int)) {σ : L2.St} {H : Hp} {Q : List (V × V) → Hp → Prop}, Q ((tabK tab).map fun kv => (kV kv.1, kv.2)) H → tPairs (tabT tab) σ H Q
  | [], σ, H, Q, h => h
  | kv :: r, σ, H, Q, h => tabT_ok r (Q := fun ps H3 => Q ((.str kv.1, .int kv.2) :: ps) H3) h
theorem valV_tab (tab : List (Str × Int)) (x : Str) : valV (tabK tab) (.inr x) = (lookT tab x).map V.int := by
  induction tab with
  | nil => rfl
  | cons kv r ih =>
    show valV ((.inr kv.1, .int kv.2) :: tabK r) (.inr x) = Option.map V.int (if kv.1 = x then some kv.2 else lookT r x)
    by_cases c : kv.1 = x
    · rw [if_pos c]
      subst c
      exact valV_pos rfl
    · rw [if_neg c, ← ih]
      unfold valV
      rw [List.find?_cons_of_neg (by simpa using c)]
theorem merge_nd : ∀ (l acc : List (Key × V)), (acc ++ l).Pairwise (fun a b => a.1 ≠ b.1) → mergeK acc l = acc ++ l
  | [], acc, h => by rw [List.append_nil]; rfl
  | kv :: r, acc, h => by
    have e : putK acc kv.1 kv.2 = acc ++ [kv] := by
      unfold putK
      rw [if_neg]
      intro z
      obtain ⟨y, hy, ey⟩ := List.any_eq_true.mp z
      exact (List.pairwise_append.mp h).2.2 y hy kv List.mem_cons_self (of_decide_eq_true ey)
    show mergeK (putK acc kv.1 kv.2) r = _
    rw [e, merge_nd r (acc ++ [kv]) (by rw [List.append_assoc]; exact h), List.append_assoc]; rfl
theorem upd_upd {H : Hp} {p : Addr} {a b : HO} : upd (upd H p a) p b = upd H p b := by
  funext q
  by_cases c : q = p
  · subst c; rw [upd_same, upd_same]
  · rw [upd_ne c, upd_ne c, upd_ne c]
theorem se_dgt {tab : List (Str × Int)} {d : Int} {keys : List (Option Expr)} {values : List Expr} {e : Expr} {j : _} {dpos apos ppos cpos : Pos} {ek : Fr → O MV} (hu : X.A.units + 1 < cLine)
    (pp : PPs X dpos keys values (tabT tab)) (he : SE X ca m e ek) (hall : keys.all (·.isSome) = true := by rfl) (hl : keys.length = values.length := by rfl) (h0 : keys ≠ [] := by exact fun z => nomatch z) (h15 : keys.length ≤ 15 := by exact Nat.le_of_ble_eq_true rfl)
    (hd : (tab.map (·.1)).Pairwise (· ≠ ·) := by decide +kernel) (ht : tab.length ≤ 15 := by exact Nat.le_of_ble_eq_true rfl)
    (m2 : M2 X (.Dict keys values dpos) "get" apos e (.Constant (.int d) j ppos) cpos := by exact ⟨by rfl, by rfl, by rfl, by rfl⟩) :
    SE X ca m (.Call (.Attribute (.Dict keys values dpos) "get" apos) [e, .Constant (.int d) j ppos] [] cpos) (eDgt tab d ek) := by
  refine SE.of (pe_dget2 hu (pe_disp pp hall hl h0 h15) he.pe pe_int m2) fun W c Q tk rp po => ?_
  intro p hp
  refine tabT_ok tab ⟨upd_same, tabK tab, rfl, by unfold tabK; rw [List.length_map]; exact ht, ?_⟩
  have hm : mergeK [] (tabK tab) = tabK tab := by
    rw [merge_nd _ []]; rfl
    unfold tabK
    rw [List.nil_append]
    refine List.pairwise_map.mpr ((List.pairwise_map.mp hd).imp fun h => ?_)
    intro z
    exact h (Sum.inr.inj z)
  rw [hm, upd_upd]
  have g := (Go.refl (m := m) rp).then (rp.laidH hp (.dK (tabK tab)) m)
  refine ⟨p, rfl, .inl ⟨_, .inl upd_same⟩, ?_⟩
  refine use_bindP (c := ⟨c.S, upd c.H p (.dK (tabK tab)), c.σ, c.fr, c.F⟩) tk g rfl po fun c1 k v e1 g1 o1 po => ?_
  have g2 := (Go.dropAll g).then g1
  have keep : c1.H p = some (.dK (tabK tab)) := g1.keep p (fun z => rp.ne hp _ z rfl) _ upd_same
  show ∃ o, DGet c1.H p v o ∧ Q (o.getD (.int d)) c1.H
  cases k with
  | str x =>
    obtain rfl := o1
    refine ⟨valV (tabK tab) (.inr x), DGet.k (k := .inr x) keep, ?_⟩
    rw [valV_tab]
    have po' : postE Own X.K ca m c Q W (.ok (.pv (.int ((lookT tab x).getD d))) c1.fr) := po
    have : (Option.map V.int (lookT tab x)).getD (.int d) = .int ((lookT tab x).getD d) := by cases lookT tab x <;> rfl
    rw [this]
    exact po' c1 _ [] rfl e1 g2 ⟨rfl, rfl⟩
  | _ => exact po.elim
/-! xs != [..], xs an owned list of a slot -/
def bNeL (i : Nat) (eb : Fr → O MV) (fr : Fr) : O Bool := match rdL i fr with
  | none => .bad
  | some _ => (eb fr).bind fun b fr1 => match b, rdL i fr1 with
    | .pl ps, some qs => if okEq (.lst qs) (.lst ps) = true then .ok (!eqP (.lst qs) (.lst ps)) fr1 else .bad
    | _, _ => .bad
theorem st_neL {i : Nat} {a b : Expr} {eb : Fr → O MV} {pos : Pos} (hu : X.A.units + 64 < cLine) (ha : PE X a (tVar i)) (hb : SE X ca m b eb) (hm : behindInMarks .NotEq b = false := by first | exact nomark _ | with_unfolding_all rfl) :
    ST X ca m (.Compare a [.NotEq] [b] pos) (bNeL i eb) := by
  refine ST.of (pt_cmpR (op_neD hu) ha hb.pe hm) fun W c Q tk rp po => ?_
  unfold bNeL at po
  cases h : rdL i c.fr with
  | none => rw [h] at po; exact po.elim
  | some qs0 =>
    rw [h] at po
    obtain ⟨ad, vs, e0, h0, _⟩ := rdL_slot rp h
    refine ⟨.ref ad, e0, ?_⟩
    refine useT_bind tk (Go.refl rp) rfl po fun c1 y v fp e1 g1 o1 po => ?_
    cases y with
    | pl ps =>
      cases h1 : rdL i c1.fr with
      | none => rw [h1] at po; exact po.elim
      | some qs =>
        rw [h1] at po
        have po' : postT X.K ca m c Q W (if okEq (.lst qs) (.lst ps) = true then .ok (!eqP (.lst qs) (.lst ps)) c1.fr else .bad) := po
        by_cases hk : okEq (.lst qs) (.lst ps) = true
        · rw [if_pos hk] at po'
          unfold okEq at hk
          simp only [Bool.and_eq_true, decide_eq_true_eq] at hk
          obtain ⟨ad', vs', e2, h2, _, _, r2⟩ := rdL_slot g1.rep h1
          have : ad' = ad := by
            rw [e1, e0] at e2
            injection e2 with e2; injection e2 with e2; injection e2 with e2
            exact e2.symm
          subst this
          obtain ⟨bd, xs, rfl, hs, r3⟩ := lsM_rel (a := .pl ps) g1.rep.sub rfl o1
          exact ⟨_, _, Dp.lst (SqL.of h2) (toDs_rel g1.rep.sub hk.1 r2), Dp.lst hs (toDs_rel g1.rep.sub hk.2.1 r3), toD_shaped hk.1 hk.2.2.1, toD_shaped hk.2.1 hk.2.2.2, _, rfl, po' c1 rfl e1 g1.dropAll⟩
        · rw [if_neg hk] at po'; exact po'.elim
    | _ => exact po.elim
/-! name = [..], a comprehension over a slot's own list that stays -/
theorem ss_setLcM {pl : Bool} {i n : Nat} {y : Str} {py : Pos} {elt tg iter : Expr} {ifs : List Expr} {scope : Scope} {own : List (Str × Nat)} {pos spos : Pos} {us : List Nat} {t : PV → Fr → Option Fr} {tst : Fr → O Bool} {el : Fr → O MV} (hc : X.calm = true) (hN : X.N.Nodup) (hy : X.N[n]? = some y) (hyl : X.env.scope.names.lookup y = some .local)
    (hsw : swapsWith (.ListComp elt [⟨tg, iter, ifs, 0⟩] scope pos) (some (.Name y py)) spos.line X.env = pure true) (hi : PE X iter (tVar i)) (ok : BlkOk X.N X.env.scope scope own)
    (hg : ∀ (s : Shared) (H : Hp) (C : Addr) (cl : List (Str × Addr)) (fp : List Addr), SG (X.blk s H scope (compEnvC scope cl C X.env) fp) tg us t) (ht : ∀ (s : Shared) (H : Hp) (C : Addr) (cl : List (Str × Addr)) (fp : List Addr), STs (X.blk s H scope (compEnvC scope cl C X.env) fp) ca ifs tst)
    (he : ∀ (s : Shared) (H : Hp) (C : Addr) (cl : List (Str × Addr)) (fp : List Addr), SE (X.blk s H scope (compEnvC scope cl C X.env) fp) ca false elt el) (hus : ∀ i ∈ us, i ∈ own.map (·.2) := by decide) (hs : ∀ x, foldedSetIterable iter X.env x = pure x := by intro _; rfl) :
    SS X ca (.Assign [.Name y py] (.ListComp elt [⟨tg, iter, ifs, 0⟩] scope pos) spos) (sSet n (eLcM pl i (own.map (·.2)) t tst el)) := by
  refine SS.of (ps_setLc (g := tG X us t) (tt := tTn X.K ca tst) (te := tEn X.K ca el) hc hN hy hyl hsw (pi_any hi) ok (fun s H C cl fp => (hg s H C cl fp).pg) (fun s H C cl fp => (ht s H C cl fp).n) (fun s H C cl fp => (he s H C cl fp).n) hs) fun W c D tk rp po => ?_
  have key : postE Own X.K ca false c (fun x H1 => gName n x c.σ H1 D.nx) W (eLcM pl i (own.map (·.2)) t tst el c.fr) := by
    unfold sSet at po
    cases q : eLcM pl i (own.map (·.2)) t tst el c.fr with
    | ok a fr =>
      rw [q] at po
      intro c' v fp e1 e2 g o
      subst e1
      have po' : postS X.K ca c D W (if free? c'.fr n = true then .nx (c'.fr.set n (.ow a)) else .bad) := po
      by_cases h : free? c'.fr n = true
      · rw [if_pos h] at po'
        obtain ⟨F', g'⟩ := g.store o h
        show D.nx (c.σ.set n (some v)) c'.H
        rw [← e2]
        exact po' ⟨c'.S, c'.H, c'.σ.set n (some v), c'.fr.set n (.ow a), F'⟩ rfl g'
      · rw [if_neg h] at po'; exact po'.elim
    | exc x fr => rw [q] at po; exact fun c' d e1 e2 g o => po c' d e1 g o
    | bad => rw [q] at po; exact po.elim
  unfold eLcM at key
  split at key
  · rename_i a hs2
    obtain ⟨v, fp, F', e1, g1, o1⟩ := Go.takeOut rp hs2
    obtain ⟨ad, ev, k⟩ := lc_readM (X := X) (us := us) (pl := pl) (c1 := ⟨c.S, c.H, c.σ, c.fr.set i .no, F'⟩) g1 rfl o1 hus e1 key
    exact ⟨v, e1, ad, ev, k⟩
  · exact key.elim
end
end Sm

/-! sorted of tuples of ints and texts -/
namespace Sm
open PySem L2 PyProof.Rows
abbrev KeyT := List (Int ⊕ List Nat)
def itemsV (sh : Nat → Bool) : Nat → List V → Option KeyT
  | _, [] => some []
  | i, .int n :: r => if sh i = true then none else (itemsV sh (i + 1) r).map (Sum.inl n :: ·)
  | i, .str x :: r => if sh i = true then (itemsV sh (i + 1) r).map (Sum.inr x.cps.toList :: ·) else none
  | _, _ :: _ => none
theorem items_rel {sh : Nat → Bool} : ∀ {ys : List V} {us : List Value} {i : Nat} {k : KeyT}, Vals ys us → itemsV sh i ys = some k → tupItems sh i us = some k
  | _, _, _, _, .nil, h => h
  | y :: ys, u :: us, i, k, .cons r t, h => by
    cases y with
    | int n =>
      obtain ⟨tk, rfl⟩ := r
      unfold itemsV at h
      unfold tupItems
      by_cases c : sh i = true
      · rw [if_pos c] at h; cases h
      · rw [if_neg c] at h ⊢
        obtain ⟨k2, e2, rfl⟩ := Option.map_eq_some_iff.mp h
        rw [items_rel t e2]; rfl
    | str x =>
      obtain ⟨tk, rfl⟩ := r
      unfold itemsV at h
      unfold tupItems
      by_cases c : sh i = true
      · rw [if_pos c] at h ⊢
        obtain ⟨k2, e2, rfl⟩ := Option.map_eq_some_iff.mp h
        rw [items_rel t e2]; rfl
      · rw [if_neg c] at h; cases h
    | _ => cases h
def keyLe (a b : KeyT) : Bool := !lexLt itemOrd b a
theorem tups_of {h : Heap} {sh : Nat → Bool} : ∀ {vs : List Value}, (∀ v ∈ vs, ∃ f, TupOf h sh v f) → ∃ fs, TupsOf h sh vs fs
  | [], _ => ⟨[], .nil⟩
  | v :: vs, q => by
    obtain ⟨f, hf⟩ := q v List.mem_cons_self
    obtain ⟨fs, h2⟩ := tups_of fun u hu => q u (List.mem_cons_of_mem _ hu)
    exact ⟨f :: fs, .cons hf h2⟩
theorem first_of {sh : Nat → Bool} {us : List Value} {k : KeyT} (h : tupItems sh 0 us = some k) (hn : us ≠ []) : ∃ f, us[0]? = some f ∧ (sh 0 = false → ∃ n t, f = Value.int n t) ∧ (sh 0 = true → ∃ x t, f = Value.str x t) := by
  cases us with
  | nil => exact absurd rfl hn
  | cons u us =>
    refine ⟨u, rfl, ?_⟩
    cases u with
    | int n t =>
      refine ⟨fun _ => ⟨n, t, rfl⟩, fun c => ?_⟩
      unfold tupItems at h
      rw [if_pos c] at h; cases h
    | str x t =>
      refine ⟨fun c => ?_, fun _ => ⟨x, t, rfl⟩⟩
      unfold tupItems at h
      rw [if_neg (by rw [c]; simp)] at h; cases h
    | _ => cases h
/-- sorted(xs), xs a list of tuples of ints and texts: a new list of the same, ascending -/
def rSortT (K : PySem.W.Frag) : List V → Hp → VK → Prop := fun vs H Q => ∃ (a : Addr) (xs : List V) (sh : Nat → Bool) (kf : V → KeyT), vs = [V.ref a] ∧ SqL K H a xs ∧
  (∀ x ∈ xs, ∃ t ys, x = V.ref t ∧ H t = some (.tup ys) ∧ ys ≠ [] ∧ itemsV sh 0 ys = some (kf x)) ∧
  ∀ ys p, ys.Perm xs → ys.Pairwise (fun x y => keyLe (kf x) (kf y) = true) → H p = none → Q (.ref p) (upd H p (.lst ys))
section
variable {X : Cx}
theorem cr_sortT : CallR X (.builtin "sorted") (rSortT X.K) := by
  intro pins s σ H vs us Q I r h
  obtain ⟨a, xs, sh, kf, rfl, hs, hx, q⟩ := h
  obtain ⟨its, rv, hl, hz⟩ := I.list hs
  rw [Vals.ref1 r]
  obtain ⟨e1, e2⟩ := refs_back rv fun x m => by
    obtain ⟨t, _, e, _⟩ := hx x m
    exact ⟨t, e⟩
  have hp : ∀ v ∈ its, ∃ (t : Addr) (o : Obj) (us : List Value) (n : Nat), v = .ref t ∧ s.heap.get? t = some o ∧ o.cls = .type "tuple" ∧ o.data = .seq us.toArray n ∧ us ≠ [] ∧ tupItems sh 0 us = some (kf (backV v)) := fun v hv => by
    obtain ⟨t, rfl⟩ := e2 v hv
    have hm : V.ref t ∈ xs := by rw [e1]; exact List.mem_map.mpr ⟨_, hv, rfl⟩
    obtain ⟨t', ys, e, ht, hne, hi⟩ := hx _ hm
    cases e
    obtain ⟨_, its2, r2, o, ho, hc, n, hd⟩ := I.hok _ _ ht
    refine ⟨t, o, its2, n, rfl, ho, hc, hd, fun z => ?_, items_rel r2 hi⟩
    subst z
    cases r2
    exact hne rfl
  have hk : ∀ v ∈ its, G.tupKeyC s.heap sh v = some (kf (backV v)) := fun v hv => by
    obtain ⟨t, o, us, n, rfl, ho, hc, hd, _, hi⟩ := hp v hv
    have c : G.isTupObj s.heap (.ref t) = true := by simp [G.isTupObj, ho, hc]
    unfold G.tupKeyC
    rw [if_pos c]
    simp only [tupKey, ho, hd]
    exact hi
  obtain ⟨fs, ht⟩ := tups_of (h := s.heap) (sh := sh) (vs := its) fun v hv => by
    obtain ⟨t, o, us, n, rfl, ho, hc, hd, hne, hi⟩ := hp v hv
    obtain ⟨f, h0, h1, h2⟩ := first_of hi hne
    exact ⟨f, t, o, us.toArray, n, rfl, ho, hc, hd, by simpa using h0, h1, h2⟩
  refine G.sorted_tups (shape := sh) (fs := fs) hl.isList ht (fun v hv => ⟨_, hk v hv⟩) (by rw [← rv.length]; exact hz) fun st' p1 p2 p3 => ?_
  have p1' : (arrOf st').toList.Perm (its.zip its) := by
    have := p1.toList
    rw [pairsOf_toList] at this
    exact this
  have m : ∀ p ∈ (arrOf st').toList, p.1 = p.2 ∧ p.1 ∈ its := fun p hp => mem_zip_self (p1'.mem_iff.mp hp)
  obtain ⟨out, hout⟩ : ∃ out : List Value, out = (arrOf st').toList.map (·.2) := ⟨_, rfl⟩
  have eo : (arrOf st').map (·.2) = out.toArray := by
    apply Array.ext'
    simp [hout]
  have ho : out.Perm its := by
    have z := p1'.map Prod.snd
    rw [List.map_snd_zip (Nat.le_refl _)] at z
    rw [hout]; exact z
  have h3 : ∀ u ∈ out, ∃ a, u = Value.ref a := fun u hu => e2 u (ho.mem_iff.mp hu)
  obtain ⟨ep, he0⟩ := PyProof.Rows.sortedAll_at s.heap its ((arrOf st').map (·.2))
  have he' : (sortedAll s.heap its ((arrOf st').map (·.2))).get? (s.heap.objs.size + 1) = some { cls := .type "list", data := .seq out.toArray ep } := he0.trans (by rw [eo])
  have hlen : (out.map backV).length ≤ sizeLine := by
    rw [List.length_map, ho.length_eq, ← rv.length]; exact hz
  refine ⟨.ref _, upd H (s.heap.objs.size + 1) (.lst (out.map backV)), I.laid (t' := s.toks) (fun _ _ => PyProof.Rows.sortedAll_old) (Nat.le_succ _) ⟨hlen, out, ep, vals_back h3, he'⟩, rfl, q _ _ ?_ ?_ (I.hok.fresh (Nat.le_succ _))⟩
  · rw [e1]; exact ho.map backV
  · rw [List.pairwise_map, hout]
    rw [List.pairwise_map, List.pairwise_iff_getElem]
    intro i j hi hj hij
    have hj2 : j < (pairsOf its).size := by rw [← p1.size_eq]; simpa using hj
    have z := p2 i j (Nat.le_of_lt hij) hj2
    have kk : ∀ (n : Nat) (hn : n < (arrOf st').toList.length), KK (G.tupKindC s.heap sh) (arrOf st') n = kf (backV ((arrOf st').toList[n]).2) := fun n hn => by
      have hm := m _ (List.getElem_mem hn)
      unfold KK
      have e : (arrOf st')[n]? = some ((arrOf st').toList[n]) := by
        rw [← Array.getElem?_toList]; exact List.getElem?_eq_getElem hn
      rw [e]
      show (G.tupKeyC s.heap sh ((arrOf st').toList[n]).1).getD _ = _
      rw [hk _ hm.2, hm.1]; rfl
    rw [kk i hi, kk j hj] at z
    show keyLe (kf (backV ((arrOf st').toList[i]).2)) (kf (backV ((arrOf st').toList[j]).2)) = true
    unfold keyLe
    have z' : lexLt itemOrd (kf (backV ((arrOf st').toList[j]).2)) (kf (backV ((arrOf st').toList[i]).2)) = false := z
    rw [z']; rfl
end

/-! the same, of plain values -/
def itemsP (sh : Nat → Bool) : Nat → List PV → Option KeyT
  | _, [] => some []
  | i, .int n :: r => if sh i = true then none else (itemsP sh (i + 1) r).map (Sum.inl n :: ·)
  | i, .str x :: r => if sh i = true then (itemsP sh (i + 1) r).map (Sum.inr x.cps.toList :: ·) else none
  | _, _ :: _ => none
def keyTP (sh : Nat → Bool) : PV → Option KeyT
  | .tup (x :: xs) => itemsP sh 0 (x :: xs)
  | _ => none
def keyD (sh : Nat → Bool) (p : PV) : KeyT := (keyTP sh p).getD []
def shP : List PV → Nat → Bool
  | .tup xs :: _, i => match xs[i]? with
    | some (.str _) => true
    | _ => false
  | _, _ => false
def srtT (ps : List PV) : List PV := ps.mergeSort fun a b => keyLe (keyD (shP ps) a) (keyD (shP ps) b)
def tupsOk (ps : List PV) : Bool := ps.all fun p => (keyTP (shP ps) p).isSome
theorem keyLe_trans (a b c : KeyT) (h1 : keyLe a b = true) (h2 : keyLe b c = true) : keyLe a c = true := by
  unfold keyLe at *
  have q1 : lexLt itemOrd b a = false := by simpa using h1
  have q2 : lexLt itemOrd c b = false := by simpa using h2
  have := KeyOrd.kle_trans (O := listOrd itemOrd) (a := a) (b := b) (c := c) q1 q2
  have q3 : lexLt itemOrd c a = false := this
  rw [q3]; rfl
theorem keyLe_total (a b : KeyT) : (keyLe a b || keyLe b a) = true := by
  unfold keyLe
  cases h : lexLt itemOrd b a with
  | false => rfl
  | true =>
    have : lexLt itemOrd a b = false := KeyOrd.klt_asymm (O := listOrd itemOrd) h
    rw [this]; rfl
theorem keyLe_anti {a b : KeyT} (h1 : keyLe a b = true) (h2 : keyLe b a = true) : a = b := by
  unfold keyLe at *
  exact lex_total (O := itemOrd) a b (by simpa using h2) (by simpa using h1)
theorem items_inj {sh : Nat → Bool} : ∀ {xs ys : List PV} {i : Nat} {k : KeyT}, itemsP sh i xs = some k → itemsP sh i ys = some k → xs = ys
  | [], [], _, _, _, _ => rfl
  | [], y :: ys, i, k, h1, h2 => by
    cases h1
    cases y with
    | int n => unfold itemsP at h2; split at h2; cases h2; obtain ⟨_, _, e⟩ := Option.map_eq_some_iff.mp h2; cases e
    | str n => unfold itemsP at h2; split at h2; obtain ⟨_, _, e⟩ := Option.map_eq_some_iff.mp h2; cases e; cases h2
    | _ => cases h2
  | x :: xs, [], i, k, h1, h2 => by
    cases h2
    cases x with
    | int n => unfold itemsP at h1; split at h1; cases h1; obtain ⟨_, _, e⟩ := Option.map_eq_some_iff.mp h1; cases e
    | str n => unfold itemsP at h1; split at h1; obtain ⟨_, _, e⟩ := Option.map_eq_some_iff.mp h1; cases e; cases h1
    | _ => cases h1
  | x :: xs, y :: ys, i, k, h1, h2 => by
    have key : ∀ (z : PV) (zs : List PV), itemsP sh i (z :: zs) = some k → ∃ k2, itemsP sh (i + 1) zs = some k2 ∧ ((∃ n, z = .int n ∧ k = Sum.inl n :: k2) ∨ ∃ n : Str, z = .str n ∧ k = Sum.inr n.cps.toList :: k2) := fun z zs h => by
      cases z with
      | int n =>
        unfold itemsP at h
        split at h
        · cases h
        · obtain ⟨k2, e, ek⟩ := Option.map_eq_some_iff.mp h
          exact ⟨k2, e, .inl ⟨n, rfl, ek.symm⟩⟩
      | str n =>
        unfold itemsP at h
        split at h
        · obtain ⟨k2, e, ek⟩ := Option.map_eq_some_iff.mp h
          exact ⟨k2, e, .inr ⟨n, rfl, ek.symm⟩⟩
        · cases h
      | _ => cases h
    obtain ⟨k2, e2, c2⟩ := key x xs h1
    obtain ⟨k3, e3, c3⟩ := key y ys h2
    rcases c2 with ⟨n, rfl, ek⟩ | ⟨n, rfl, ek⟩ <;> rcases c3 with ⟨n', rfl, ek'⟩ | ⟨n', rfl, ek'⟩
    · rw [ek] at ek'
      injection ek' with a1 a2
      injection a1 with a1
      subst a1 a2
      rw [items_inj e2 e3]
    · rw [ek] at ek'; injection ek' with a1 a2; cases a1
    · rw [ek] at ek'; injection ek' with a1 a2; cases a1
    · rw [ek] at ek'
      injection ek' with a1 a2
      injection a1 with a1
      subst a2
      have : n = n' := by
        cases n; cases n'
        congr 1
        exact Array.ext' a1
      subst this
      rw [items_inj e2 e3]
theorem key_inj {sh : Nat → Bool} {p q : PV} {k : KeyT} (h1 : keyTP sh p = some k) (h2 : keyTP sh q = some k) : p = q := by
  unfold keyTP at h1 h2
  split at h1
  · split at h2
    · rw [items_inj h1 h2]
    · cases h2
  · cases h1
theorem srtT_perm (ps : List PV) : (srtT ps).Perm ps := List.mergeSort_perm _ _
theorem srtT_asc (ps : List PV) : (srtT ps).Pairwise fun a b => keyLe (keyD (shP ps) a) (keyD (shP ps) b) = true :=
  List.pairwise_mergeSort (le := fun a b => keyLe (keyD (shP ps) a) (keyD (shP ps) b)) (fun a b c h1 h2 => keyLe_trans _ _ _ h1 h2) (fun a b => keyLe_total _ _) ps
theorem srtT_uniq {ps qs : List PV} (ok : tupsOk ps = true) (h : qs.Perm ps) (hs : qs.Pairwise fun a b => keyLe (keyD (shP ps) a) (keyD (shP ps) b) = true) : qs = srtT ps := by
  have some_of : ∀ p ∈ ps, ∃ k, keyTP (shP ps) p = some k := fun p hp => Option.isSome_iff_exists.mp (List.all_eq_true.mp ok p hp)
  refine List.Perm.eq_of_pairwise (fun a b ha hb h1 h2 => ?_) hs (srtT_asc ps) (h.trans (srtT_perm ps).symm)
  obtain ⟨k, ek⟩ := some_of a (h.mem_iff.mp ha)
  obtain ⟨l, el⟩ := some_of b ((srtT_perm ps).mem_iff.mp hb)
  have e1 : keyD (shP ps) a = k := by unfold keyD; rw [ek]; rfl
  have e2 : keyD (shP ps) b = l := by unfold keyD; rw [el]; rfl
  rw [e1, e2] at h1 h2
  have := keyLe_anti h1 h2
  subst this
  exact key_inj ek el
theorem items_VR {K : PySem.W.Frag} {S : Hp} {sh : Nat → Bool} : ∀ {xs : List PV} {ys : List V} {i : Nat} {k : KeyT}, VRL K S xs ys → itemsP sh i xs = some k → itemsV sh i ys = some k
  | [], ys, _, _, e, h => by cases e; exact h
  | x :: xs, ys, i, k, ⟨y, r, e, hx, ht⟩, h => by
    subst e
    cases x with
    | int n =>
      obtain rfl := hx
      unfold itemsP at h; unfold itemsV
      split at h
      · cases h
      · rename_i c
        obtain ⟨k2, e2, rfl⟩ := Option.map_eq_some_iff.mp h
        rw [if_neg c, items_VR ht e2]; rfl
    | str n =>
      obtain rfl := hx
      unfold itemsP at h; unfold itemsV
      split at h
      · rename_i c
        obtain ⟨k2, e2, rfl⟩ := Option.map_eq_some_iff.mp h
        rw [if_pos c, items_VR ht e2]; rfl
      · cases h
    | _ => cases h
theorem VRL.perm {K : PySem.W.Frag} {S : Hp} : ∀ {xs ys : List V}, xs.Perm ys → ∀ {ps : List PV}, VRL K S ps xs → ∃ qs, qs.Perm ps ∧ VRL K S qs ys := by
  intro xs ys h
  induction h with
  | nil => intro ps r; exact ⟨ps, .refl _, r⟩
  | cons x _ ih =>
    intro ps r
    cases ps with
    | nil => cases r
    | cons p ps =>
      obtain ⟨y, t, e, hp, ht⟩ := r
      cases e
      obtain ⟨qs, h1, h2⟩ := ih ht
      exact ⟨p :: qs, h1.cons p, x, _, rfl, hp, h2⟩
  | swap x y l =>
    intro ps r
    cases ps with
    | nil => cases r
    | cons p ps =>
      obtain ⟨_, t, e, hp, ht⟩ := r
      cases e
      cases ps with
      | nil => cases ht
      | cons p2 ps =>
        obtain ⟨_, t2, e2, hp2, ht2⟩ := ht
        cases e2
        exact ⟨p2 :: p :: ps, .swap _ _ _, _, _, rfl, hp2, _, _, rfl, hp, ht2⟩
  | trans _ _ ih1 ih2 =>
    intro ps r
    obtain ⟨qs, h1, h2⟩ := ih1 r
    obtain ⟨rs, h3, h4⟩ := ih2 h2
    exact ⟨rs, h3.trans h1, h4⟩
def kfS (S : Hp) (sh : Nat → Bool) : V → KeyT
  | .ref t => match S t with
    | some (.tup ys) => (itemsV sh 0 ys).getD []
    | _ => []
  | _ => []
theorem key_VR {K : PySem.W.Frag} {S : Hp} {sh : Nat → Bool} {p : PV} {x : V} {k : KeyT} (r : VR K S p x) (h : keyTP sh p = some k) : ∃ t ys, x = .ref t ∧ S t = some (.tup ys) ∧ ys ≠ [] ∧ itemsV sh 0 ys = some k ∧ kfS S sh x = k := by
  unfold keyTP at h
  split at h
  · obtain ⟨t, ys, rfl, hs, hr⟩ := r
    have e := items_VR hr h
    refine ⟨t, ys, rfl, hs, fun z => ?_, e, ?_⟩
    · subst z; obtain ⟨_, _, z, _⟩ := hr; cases z
    · show (match S t with | some (.tup ys) => (itemsV sh 0 ys).getD [] | _ => []) = k
      rw [hs]
      show (itemsV sh 0 ys).getD [] = k
      rw [e]; rfl
  · cases h
theorem VRL.mem2 {K : PySem.W.Frag} {S : Hp} : ∀ {ps : List PV} {xs : List V}, VRL K S ps xs → ∀ x ∈ xs, ∃ p ∈ ps, VR K S p x
  | [], _, e, x, hx => by cases e; cases hx
  | p :: ps, _, ⟨y, r, e, hp, ht⟩, x, hx => by
    subst e
    rcases List.mem_cons.mp hx with rfl | hx
    · exact ⟨p, List.mem_cons_self, hp⟩
    · obtain ⟨q, h1, h2⟩ := VRL.mem2 ht x hx
      exact ⟨q, List.mem_cons_of_mem _ h1, h2⟩
theorem VRL.pw {K : PySem.W.Frag} {S : Hp} {sh : Nat → Bool} : ∀ {ps : List PV} {xs : List V}, VRL K S ps xs → (∀ p ∈ ps, ∃ k, keyTP sh p = some k) → xs.Pairwise (fun x y => keyLe (kfS S sh x) (kfS S sh y) = true) → ps.Pairwise (fun a b => keyLe (keyD sh a) (keyD sh b) = true)
  | [], _, _, _, _ => .nil
  | p :: ps, _, ⟨y, r, e, hp, ht⟩, hk, h => by
    subst e
    obtain ⟨h1, h2⟩ := List.pairwise_cons.mp h
    refine List.pairwise_cons.mpr ⟨fun q hq => ?_, VRL.pw ht (fun q hq => hk q (List.mem_cons_of_mem _ hq)) h2⟩
    have one : ∀ {q : PV} {x : V}, q ∈ p :: ps → VR K S q x → keyD sh q = kfS S sh x := fun {q x} hq hr => by
      obtain ⟨k, ek⟩ := hk q hq
      obtain ⟨_, _, _, _, _, _, e⟩ := key_VR hr ek
      unfold keyD
      rw [ek, e]; rfl
    have mm : ∀ {ps : List PV} {xs : List V}, VRL K S ps xs → ∀ p ∈ ps, ∃ x ∈ xs, VR K S p x := by
      intro ps
      induction ps with
      | nil => intro xs _ p hp; cases hp
      | cons a ps ih =>
        intro xs ⟨y, r, e, h1, h2⟩ p hp
        subst e
        rcases List.mem_cons.mp hp with rfl | hp
        · exact ⟨y, List.mem_cons_self, h1⟩
        · obtain ⟨x, h3, h4⟩ := ih h2 p hp
          exact ⟨x, List.mem_cons_of_mem _ h3, h4⟩
    obtain ⟨x, hx, hr⟩ := mm ht q hq
    rw [one List.mem_cons_self hp, one (List.mem_cons_of_mem _ hq) hr]
    exact h1 x hx
def gSortT : MV → Option (List PV)
  | .pl ps => if tupsOk ps = true then some (srtT ps) else none
  | .pv (.lst ps) => if tupsOk ps = true then some (srtT ps) else none
  | _ => none
section
variable {X : Cx}
theorem sortT_use {S H : Hp} {ad : Addr} {ps : List PV} {xs : List V} {Q : VK} (sub : Same S H) (ok : tupsOk ps = true) (hs : SqL X.K H ad xs) (r : VRL X.K S ps xs)
    (k : ∀ vs, VRL X.K S (srtT ps) vs → ∀ l, H l = none → Q (.ref l) (upd H l (.lst vs))) : rSortT X.K [.ref ad] H Q := by
  have some_of : ∀ p ∈ ps, ∃ k, keyTP (shP ps) p = some k := fun p hp => Option.isSome_iff_exists.mp (List.all_eq_true.mp ok p hp)
  refine ⟨ad, xs, shP ps, kfS S (shP ps), rfl, hs, fun x hx => ?_, fun ys p h1 h2 h3 => ?_⟩
  · obtain ⟨q, hq, hr⟩ := r.mem2 x hx
    obtain ⟨k, ek⟩ := some_of q hq
    obtain ⟨t, ys, e, e2, e3, e4, e5⟩ := key_VR hr ek
    exact ⟨t, ys, e, sub _ _ e2, e3, by rw [e5]; exact e4⟩
  · obtain ⟨qs, hq, r2⟩ := VRL.perm h1.symm r
    have := srtT_uniq ok hq (VRL.pw r2 (fun p hp => some_of p (hq.mem_iff.mp hp)) h2)
    subst this
    exact k ys r2 p h3
theorem n1_sortT : N1S X (.builtin "sorted") gSortT := by
  refine ⟨_, cr_sortT, fun S H a v fp qs Q sub o h k => ?_⟩
  unfold gSortT at h
  split at h
  · rename_i ps
    by_cases c : tupsOk ps = true
    · rw [if_pos c] at h
      cases h
      obtain ⟨ad, xs, ev, _, ha, _, r⟩ := o
      subst ev
      exact sortT_use sub c (SqL.of ha) r k
    · rw [if_neg c] at h; cases h
  · rename_i ps
    by_cases c : tupsOk ps = true
    · rw [if_pos c] at h
      cases h
      obtain ⟨_, ad, xs, ev, ha, r⟩ := o
      subst ev
      exact sortT_use sub c (same_sql sub ha) r k
    · rw [if_neg c] at h; cases h
  · cases h
/-- sorted of ints, or of tuples -/
def gSortA (a : MV) : Option (List PV) := match gSort a with
  | some qs => some qs
  | none => gSortT a
theorem n1_sortA : N1S X (.builtin "sorted") gSortA := by
  obtain ⟨r1, c1, h1⟩ := (n1_sort (X := X)).ex
  obtain ⟨r2, c2, h2⟩ := (n1_sortT (X := X)).ex
  refine ⟨_, CallR.or c1 c2, fun S H a v fp qs Q sub o h k => ?_⟩
  unfold gSortA at h
  split at h
  · rename_i q e
    cases h
    exact .inl (h1 S H a v fp _ Q sub o e k)
  · exact .inr (h2 S H a v fp _ Q sub o h k)
end
end Sm

namespace Sm
open PySem L2 PyProof.Rows
variable {K : PySem.W.Frag} {X : Cx} {ca : Nat → Addr} {m : Bool}
/-! ### dicts with tuples as keys and plain values, in a slot -/
def keysP : List PV → Option (List Key)
  | [] => some []
  | p :: ps => match keyP p, keysP ps with
    | some k, some ks => some (k :: ks)
    | _, _ => none
def keyT : PV → Option (List Key)
  | .tup ps => keysP ps
  | _ => none
theorem keysP_ok {S : Hp} : ∀ {ps : List PV} {ks : List Key} {xs : List V}, keysP ps = some ks → VRL K S ps xs → xs = ks.map kV
  | [], ks, xs, h, r => by cases h; cases r; rfl
  | p :: ps, ks, xs, h, ⟨x, t, e, hx, ht⟩ => by
    subst e
    unfold keysP at h
    split at h
    · rename_i k ks2 e1 e2
      cases h
      rw [keyP_ok e1 hx, keysP_ok e2 ht]; rfl
    · cases h
theorem keyT_ok {S : Hp} {p : PV} {k : List Key} {v : V} (h : keyT p = some k) (r : VR K S p v) : ∃ b, v = .ref b ∧ S b = some (.tup (k.map kV)) := by
  unfold keyT at h
  split at h
  · obtain ⟨b, xs, e, hs, hr⟩ := r
    refine ⟨b, e, ?_⟩
    rw [← keysP_ok h hr]; exact hs
  · cases h
def rdDT (i : Nat) (fr : Fr) : Option (List (List Key) × List PV) := match fr[i]? with
  | some (.ow (.pt ks ps)) => some (ks, ps)
  | some (.pr (.pt ks ps)) => some (ks, ps)
  | _ => none
def wrDT (i : Nat) (ks : List (List Key)) (qs : List PV) (fr : Fr) : Fr := match fr[i]? with
  | some (.pr _) => fr.set i (.pr (.pt ks qs))
  | _ => fr.set i (.ow (.pt ks qs))
theorem rdD_slotT {c : Cf} (r : Rep K c) {i : Nat} {ks : List (List Key)} {ps : List PV} (h : rdDT i c.fr = some (ks, ps)) : ∃ a kvs, c.σ[i]? = some (some (.ref a)) ∧ c.H a = some (.dT kvs) ∧ c.S a = none ∧ kvs.map (·.1) = ks ∧ VRL K c.S ps (kvs.map (·.2)) := by
  unfold rdDT at h
  have q : c.fr[i]? = some (.ow (.pt ks ps)) ∨ c.fr[i]? = some (.pr (.pt ks ps)) := by
    split at h
    · cases h; exact .inl (by assumption)
    · cases h; exact .inr (by assumption)
    · cases h
  obtain ⟨v, f, e1, ⟨a, kvs, e, ef, h1, h2, h3, h4⟩, hf⟩ := r.slot q
  subst e
  exact ⟨a, kvs, e1, h1, h2, h3, h4⟩
theorem Go.wrDT {c c' : Cf} {Y : List Addr} {i : Nat} {ks : List (List Key)} {ps : List PV} (g : Go K m c Y c') (h : rdDT i c'.fr = some (ks, ps)) : ∃ a kvs, c'.σ[i]? = some (some (.ref a)) ∧ c'.H a = some (.dT kvs) ∧ kvs.map (·.1) = ks ∧ VRL K c'.S ps (kvs.map (·.2)) ∧
    ∀ kvs' ks' qs, kvs'.map (·.1) = ks' → VRL K c'.S qs (kvs'.map (·.2)) → ∃ F', Go K false c Y ⟨c'.S, upd c'.H a (.dT kvs'), c'.σ, Sm.wrDT i ks' qs c'.fr, F'⟩ := by
  have key : ∀ (tag : MV → Sl), (tag = Sl.ow ∨ tag = Sl.pr) → c'.fr[i]? = some (tag (.pt ks ps)) → (∀ ks' qs, Sm.wrDT i ks' qs c'.fr = c'.fr.set i (tag (.pt ks' qs))) → ∃ a kvs, c'.σ[i]? = some (some (.ref a)) ∧ c'.H a = some (.dT kvs) ∧ kvs.map (·.1) = ks ∧ VRL K c'.S ps (kvs.map (·.2)) ∧
    ∀ kvs' ks' qs, kvs'.map (·.1) = ks' → VRL K c'.S qs (kvs'.map (·.2)) → ∃ F', Go K false c Y ⟨c'.S, upd c'.H a (.dT kvs'), c'.σ, Sm.wrDT i ks' qs c'.fr, F'⟩ := fun tag ht hs hw => by
    have hs2 : c'.fr[i]? = some (.ow (.pt ks ps)) ∨ c'.fr[i]? = some (.pr (.pt ks ps)) := by rcases ht with rfl | rfl; exact .inl hs; exact .inr hs
    obtain ⟨v, f, e1, ⟨a, kvs, e, ef, h1, h2, h3, h4⟩, hf⟩ := g.rep.slot hs2
    subst e
    refine ⟨a, kvs, e1, h1, h3, h4, fun kvs' ks' qs hk hq => ?_⟩
    rw [hw]
    refine g.write (mv := .pt ks ps) (f' := [a]) ht hs e1 fun f1 o1 hF nd hY => ?_
    obtain ⟨a', kvs1, ea, ef1, h4, h5, h6, h7⟩ := o1
    cases ea
    subst ef1
    refine ⟨fun b hb => .inr (upd_ne fun z => hb (by rw [z]; exact List.mem_singleton.mpr rfl)), fun b hb => ?_, ⟨a, kvs', rfl, rfl, upd_same, h5, hk, hq⟩, nd, fun b hb => .inl hb⟩
    cases List.mem_singleton.mp hb
    rw [upd_same]; simp
  unfold rdDT at h
  split at h
  · rename_i q1 q2 hs
    cases h
    exact key .ow (.inl rfl) hs fun ks' qs => by unfold Sm.wrDT; rw [hs]
  · rename_i q1 q2 hs
    cases h
    exact key .pr (.inr rfl) hs fun ks' qs => by unfold Sm.wrDT; rw [hs]
  · cases h
def hasKT (ks : List (List Key)) (k : List Key) : Bool := ks.any fun k' => decide (k' = k)
theorem hasK_iffT {ks : List (List Key)} {k : List Key} : hasKT ks k = true ↔ k ∈ ks := by simp [hasKT, List.any_eq_true]
def putKsT (ks : List (List Key)) (k : List Key) : List (List Key) := if hasKT ks k = true then ks else ks ++ [k]
def setPT : List (List Key) → List PV → List Key → PV → List PV
  | k' :: ks, q :: ps, k, p => (if k' = k then p else q) :: setPT ks ps k p
  | _, _, _, _ => []
def putPsT (ks : List (List Key)) (ps : List PV) (k : List Key) (p : PV) : List PV := if hasKT ks k = true then setPT ks ps k p else ps ++ [p]
theorem setP_okT {S : Hp} {k : List Key} {p : PV} {v : V} (hv : VR K S p v) : ∀ (kvs : List (List Key × V)) (ps : List PV), VRL K S ps (kvs.map (·.2)) → VRL K S (setPT (kvs.map (·.1)) ps k p) ((kvs.map fun kv => if kv.1 = k then (kv.1, v) else kv).map (·.2))
  | [], ps, r => by cases ps <;> exact rfl
  | kv :: kvs, ps, r => by
    cases ps with
    | nil => cases r
    | cons q ps =>
      obtain ⟨x, t, e, hx, ht⟩ := r
      cases e
      refine ⟨_, _, rfl, ?_, setP_okT hv kvs ps ht⟩
      by_cases h : kv.1 = k
      · show VR K S (if kv.1 = k then p else q) (if kv.1 = k then (kv.1, v) else kv).2
        rw [if_pos h, if_pos h]; exact hv
      · show VR K S (if kv.1 = k then p else q) (if kv.1 = k then (kv.1, v) else kv).2
        rw [if_neg h, if_neg h]; exact hx
theorem any_hasT (kvs : List (List Key × V)) (k : List Key) : (kvs.any fun kv => decide (kv.1 = k)) = hasKT (kvs.map (·.1)) k := by
  unfold hasKT
  rw [List.any_map]; rfl
theorem put_okT {S : Hp} {k : List Key} {p : PV} {v : V} (hv : VR K S p v) {kvs : List (List Key × V)} {ps : List PV} (r : VRL K S ps (kvs.map (·.2))) :
    (putK kvs k v).map (·.1) = putKsT (kvs.map (·.1)) k ∧ VRL K S (putPsT (kvs.map (·.1)) ps k p) ((putK kvs k v).map (·.2)) := by
  unfold putK putKsT putPsT
  rw [any_hasT]
  by_cases h : hasKT (kvs.map (·.1)) k = true
  · rw [if_pos h, if_pos h, if_pos h]
    refine ⟨?_, setP_okT hv kvs ps r⟩
    rw [List.map_map]
    exact List.map_congr_left fun kv _ => by show (if kv.1 = k then (kv.1, v) else kv).1 = kv.1; split <;> rfl
  · rw [if_neg h, if_neg h, if_neg h, List.map_append, List.map_append]
    exact ⟨rfl, r.app ⟨v, [], rfl, hv, rfl⟩⟩
theorem val_hasT (kvs : List (List Key × V)) (k : List Key) : (valV kvs k).isSome = hasKT (kvs.map (·.1)) k := by
  unfold valV
  rw [Option.isSome_map, List.isSome_find?, any_hasT]
def getPT : List (List Key) → List PV → List Key → Option PV
  | k' :: ks, p :: ps, k => if k' = k then some p else getPT ks ps k
  | _, _, _ => none
theorem getP_okT {S : Hp} {k : List Key} {p : PV} : ∀ (kvs : List (List Key × V)) (ps : List PV), VRL K S ps (kvs.map (·.2)) → getPT (kvs.map (·.1)) ps k = some p → ∃ v, valV kvs k = some v ∧ VR K S p v
  | [], ps, r, h => by cases ps <;> cases h
  | kv :: kvs, ps, r, h => by
    cases ps with
    | nil => cases r
    | cons q ps =>
      obtain ⟨x, t, e, hx, ht⟩ := r
      cases e
      have h' : (if kv.1 = k then some q else getPT (kvs.map (·.1)) ps k) = some p := h
      by_cases c : kv.1 = k
      · rw [if_pos c] at h'
        cases h'
        exact ⟨_, valV_pos c, hx⟩
      · rw [if_neg c] at h'
        obtain ⟨v, e, hv⟩ := getP_okT kvs ps ht h'
        refine ⟨v, ?_, hv⟩
        unfold valV at e ⊢
        rw [List.find?_cons_of_neg (by simpa using c)]
        exact e

/-! {} -/
def eDnT (fr : Fr) : O MV := .ok (.pt [] []) fr
theorem se_dnT {pos : Pos} : SE X ca m (.Dict [] [] pos) eDnT := by
  refine SE.of pe_dnewT fun W c Q tk rp po p hp => ?_
  have g := (Go.refl (m := m) rp).then (rp.laidH hp (.dT []) m)
  exact po ⟨c.S, upd c.H p (.dT []), c.σ, c.fr, c.F⟩ (.ref p) [p] rfl rfl g ⟨p, [], rfl, rfl, upd_same, rp.freeS hp, rfl, rfl⟩
/-! d[k] = v -/
def dputKT (i : Nat) (q p : PV) (fr2 : Fr) : SO := match keyT p, rdDT i fr2 with
  | some k, some (ks, ps) => if ks.length < sizeLine then .nx (wrDT i (putKsT ks k) (putPsT ks ps k q) fr2) else .bad
  | _, _ => .bad
def sDputT (i : Nat) (ek ev : Fr → O MV) (fr : Fr) : SO := match ev fr with
  | .ok (.pv q) fr1 => (match rdDT i fr1 with
    | none => .bad
    | some _ => match ek fr1 with
      | .ok (.pv p) fr2 => dputKT i q p fr2
      | .ok _ _ => .bad
      | .exc x f => .exc x f
      | .bad => .bad)
  | .ok _ _ => .bad
  | .exc x f => .exc x f
  | .bad => .bad
theorem ss_dputT {i : Nat} {o ix v : Expr} {ek ev : Fr → O MV} {pos pos' : Pos} (hu : X.A.units + 1 < cLine) (ho : PE X o (tVar i)) (hi : SE X ca false ix ek) (hv : SE X ca false v ev)
    (hs : swapsWith v (some (.Subscript o ix pos')) pos.line X.env = pure false := by rfl) : SS X ca (.Assign [.Subscript o ix pos'] v pos) (sDputT i ek ev) := by
  refine SS.of (ps_dput hu ho hi.pe hv.pe hs) fun W c D tk r p => ?_
  refine useEP (k := fun q fr1 => match rdDT i fr1 with
    | none => .bad
    | some _ => match ek fr1 with
      | .ok (.pv p) fr2 => dputKT i q p fr2
      | .ok _ _ => .bad
      | .exc x f => .exc x f
      | .bad => .bad) tk (Go.refl r) p fun c1 q u e1 g1 o1 p => ?_
  cases h : rdDT i c1.fr with
  | none => rw [h] at p; exact p.elim
  | some kp =>
    obtain ⟨ks0, ps0⟩ := kp
    rw [h] at p
    obtain ⟨a, kvs, e2, _⟩ := rdD_slotT g1.rep h
    refine ⟨.ref a, by rw [← e1]; exact e2, ?_⟩
    rw [← e1]
    refine useEP (k := fun p fr2 => dputKT i q p fr2) tk g1 p fun c2 k w e3 g2 o2 (p : postS X.K ca c D W (dputKT i q k c2.fr)) => ?_
    unfold dputKT at p
    cases hk : keyT k with
    | none => rw [hk] at p; exact p.elim
    | some ky =>
      cases h2 : rdDT i c2.fr with
      | none => rw [hk, h2] at p; exact p.elim
      | some kp =>
        obtain ⟨ks, ps⟩ := kp
        rw [hk, h2] at p
        have p2 : postS X.K ca c D W (if ks.length < sizeLine then .nx (wrDT i (putKsT ks ky) (putPsT ks ps ky q) c2.fr) else .bad) := p
        obtain ⟨a', kvs', e4, h3, ek2, r3, wr⟩ := (g1.then g2).wrDT h2
        rw [e3, e2] at e4
        cases e4
        by_cases hl : ks.length < sizeLine
        · rw [if_pos hl] at p2
          obtain ⟨b, eb0, eb⟩ := keyT_ok hk o2
          subst eb0
          obtain ⟨m1, m2⟩ := put_okT (k := ky) (o1.mono g2.sS) r3
          rw [ek2] at m1 m2
          obtain ⟨F', g3⟩ := wr (putK kvs' ky u) (putKsT ks ky) (putPsT ks ps ky q) m1 m2
          refine ⟨a, _, rfl, DPut.t h3 (g2.rep.sub _ _ eb) (by rw [← ek2, List.length_map] at hl; exact hl), ?_⟩
          have := p2 ⟨c2.S, upd c2.H a (.dT (putK kvs' ky u)), c2.σ, wrDT i (putKsT ks ky) (putPsT ks ps ky q) c2.fr, F'⟩ rfl g3
          rw [← e3]; exact this
        · rw [if_neg hl] at p2; exact p2.elim

/-! d[k], read -/
def eDgetT (i : Nat) (ek : Fr → O MV) (fr : Fr) : O MV := match rdDT i fr with
  | none => .bad
  | some _ => (ek fr).bindP fun p fr1 => match keyT p, rdDT i fr1 with
    | some k, some (ks, ps) => opO (getPT ks ps k) fr1
    | _, _ => .bad
theorem se_dgetT {i : Nat} {o ix : Expr} {ek : Fr → O MV} {pos : Pos} (hu : X.A.units + 1 < cLine) (ho : PE X o (tVar i)) (hi : SE X ca m ix ek) (hs : NoSl ix := by exact fun _ _ => rfl) : SE X ca m (.Subscript o ix pos) (eDgetT i ek) := by
  refine SE.of (pe_dget hu ho hi.pe hs) fun W c Q tk rp po => ?_
  unfold eDgetT at po
  cases h : rdDT i c.fr with
  | none => rw [h] at po; exact po.elim
  | some kp =>
    obtain ⟨ks0, ps0⟩ := kp
    rw [h] at po
    obtain ⟨a, kvs0, e0, _⟩ := rdD_slotT rp h
    refine ⟨.ref a, e0, ?_⟩
    refine use_bindP tk (Go.refl rp) rfl po fun c1 p v e1 g1 o1 po => ?_
    cases hk : keyT p with
    | none => rw [hk] at po; exact po.elim
    | some k =>
      cases h1 : rdDT i c1.fr with
      | none => rw [hk, h1] at po; exact po.elim
      | some kp =>
        obtain ⟨ks, ps⟩ := kp
        rw [hk, h1] at po
        obtain ⟨a', kvs, e2, h2, _, e3, r3⟩ := rdD_slotT g1.rep h1
        have : a' = a := by
          rw [e1, e0] at e2
          injection e2 with e2; injection e2 with e2; injection e2 with e2
          exact e2.symm
        subst this
        obtain ⟨b, rfl, hb⟩ := keyT_ok hk o1
        have po1 : postE Own X.K ca m c Q W (opO (getPT ks ps k) c1.fr) := po
        cases hg : getPT ks ps k with
        | none => rw [hg] at po1; exact po1.elim
        | some q =>
          rw [hg] at po1
          subst e3
          obtain ⟨v, ev, hv⟩ := getP_okT kvs ps r3 hg
          refine ⟨a', v, rfl, ?_, po1 c1 v [] rfl e1 g1 ⟨rfl, hv⟩⟩
          have := DGet.t (k := k) h2 (g1.rep.sub _ _ hb)
          rw [ev] at this
          exact this
end Sm

namespace Sm
open PySem L2
variable {E : Ex → Fr → Prop} {Q : MV → Fr → Prop} {fr : Fr} {P : Po}
/-! dicts with tuples as keys -/
theorem w_dnT (h : Q (.pt [] []) fr) : wE (eDnT fr) E Q := wE_of rfl h
theorem w_dputT {i : Nat} {ek ev : Fr → O MV} (h : wE (ev fr) P.ex fun a f => wP a fun q => ∃ kp, rdDT i f = some kp ∧ wE (ek f) P.ex fun b f2 => wP b fun p => ∃ k, keyT p = some k ∧ ∃ ks ps, rdDT i f2 = some (ks, ps) ∧ ks.length < sizeLine ∧ P.nx (wrDT i (putKsT ks k) (putPsT ks ps k q) f2)) : wS (sDputT i ek ev fr) P := by
  unfold sDputT
  cases e : ev fr with
  | ok a f =>
    rw [e] at h
    cases a with
    | pv q =>
      obtain ⟨kp, e1, h⟩ := wP_out (wE_out h)
      show wS (match rdDT i f with
        | none => .bad
        | some _ => match ek f with
          | .ok (.pv p) fr2 => dputKT i q p fr2
          | .ok _ _ => .bad
          | .exc x f => .exc x f
          | .bad => .bad) P
      rw [e1]
      show wS (match ek f with
          | .ok (.pv p) fr2 => dputKT i q p fr2
          | .ok _ _ => .bad
          | .exc x f => .exc x f
          | .bad => .bad) P
      cases e2 : ek f with
      | ok b f2 =>
        rw [e2] at h
        cases b with
        | pv p =>
          obtain ⟨k, e3, ks, ps, e4, hl, h⟩ := wP_out (wE_out h)
          refine wS_of (f := wrDT i (putKsT ks k) (putPsT ks ps k q) f2) ?_ h
          show dputKT i q p f2 = _
          unfold dputKT
          rw [e3, e4]
          show (if ks.length < sizeLine then SO.nx (wrDT i (putKsT ks k) (putPsT ks ps k q) f2) else .bad) = _
          rw [if_pos hl]
        | _ => with_unfolding_all exact h.elim
      | exc x f2 => rw [e2] at h; with_unfolding_all exact h
      | bad => rw [e2] at h; with_unfolding_all exact h.elim
    | _ => with_unfolding_all exact h.elim
  | exc x f => rw [e] at h; with_unfolding_all exact h
  | bad => rw [e] at h; with_unfolding_all exact h.elim


theorem w_dgetT {i : Nat} {ek : Fr → O MV} {kp : List (List Key) × List PV} (e0 : rdDT i fr = some kp) (h : wE (ek fr) E fun b f => wP b fun p => ∃ k, keyT p = some k ∧ ∃ ks ps, rdDT i f = some (ks, ps) ∧ ∃ q, getPT ks ps k = some q ∧ Q (.pv q) f) : wE (eDgetT i ek fr) E Q := by
  unfold eDgetT
  rw [e0]
  refine wE_bindP (wE_mono h (fun a f h => ?_) fun _ _ h => h)
  cases a with
  | pv p =>
    obtain ⟨k, e1, ks, ps, e2, q, e3, h⟩ := wP_out h
    refine w_isP ?_
    rw [e1, e2]
    show wE (opO (getPT ks ps k) f) E Q
    rw [e3]
    exact wE_of rfl h
  | _ => with_unfolding_all exact h.elim
theorem w_fzP {E : Ex → Fr → Prop} {fr : Fr} {Q : MV → Fr → Prop} {ea : Fr → O MV} (h : wE (ea fr) E fun a f => wP a fun p => Q (.pv p) f) : wE (eFz ea fr) E Q := by
  unfold eFz
  cases e : ea fr with
  | ok a f =>
    rw [e] at h
    cases a with
    | pv p => exact wE_of rfl (wP_out (wE_out h))
    | _ => with_unfolding_all exact h.elim
  | exc x f => rw [e] at h; with_unfolding_all exact h
  | bad => rw [e] at h; with_unfolding_all exact h.elim
/-- a new key -/
theorem put_new {ks : List (List Key)} {ps : List PV} {k : List Key} {q : PV} (h : ¬ k ∈ ks) : putKsT ks k = ks ++ [k] ∧ putPsT ks ps k q = ps ++ [q] := by
  have e : ¬ hasKT ks k = true := fun z => h (hasK_iffT.mp z)
  unfold putKsT putPsT
  rw [if_neg e, if_neg e]
  exact ⟨rfl, rfl⟩
theorem get_mem {α : Type} (kf : α → List Key) (pf : α → PV) (hi : ∀ a b, kf a = kf b → pf a = pf b) : ∀ {l : List α} {a : α}, a ∈ l → getPT (l.map kf) (l.map pf) (kf a) = some (pf a)
  | [], a, h => nomatch h
  | b :: l, a, h => by
    show (if kf b = kf a then some (pf b) else getPT (l.map kf) (l.map pf) (kf a)) = _
    by_cases c : kf b = kf a
    · rw [if_pos c, hi _ _ c]
    · rw [if_neg c]
      rcases List.mem_cons.mp h with rfl | h
      · exact absurd rfl c
      · exact get_mem kf pf hi h
end Sm

namespace Sm
open PySem
/-! longest ways by laps: plain -/
structure Ar where
  w : Str
  e : Nat
  s : Nat
  t : Nat
  g : Int
structure BS where
  h : List Int
  l : List (Option Ar)
  r : Int
def BS.up (b : BS) (a : Ar) : Int := b.h.getD a.s 0 + a.g
def rx (b : BS) (a : Ar) : BS := if b.h.getD a.t 0 < b.up a then { h := b.h.set a.t (b.up a), l := b.l.set a.t (some a), r := (a.t : Int) } else b
def lap (as : List Ar) (b : BS) : BS := as.foldl rx { b with r := -1 }
def bs0 (n : Nat) : BS := ⟨List.replicate n 0, List.replicate n none, -1⟩
def laps (as : List Ar) (n : Nat) : Nat → BS
  | 0 => bs0 n
  | k + 1 => lap as (laps as n k)
theorem rx_r (b : BS) (a : Ar) (h : 0 ≤ b.r) : 0 ≤ (rx b a).r := by
  unfold rx
  split
  · show (0 : Int) ≤ (a.t : Int); omega
  · exact h
theorem fold_r : ∀ (as : List Ar) (b : BS), 0 ≤ b.r → 0 ≤ (as.foldl rx b).r
  | [], b, h => h
  | a :: as, b, h => fold_r as (rx b a) (rx_r b a h)
theorem fold_calm : ∀ (as : List Ar) (b : BS), (as.foldl rx b).r = -1 → as.foldl rx b = b ∧ ∀ a ∈ as, b.h.getD a.s 0 + a.g ≤ b.h.getD a.t 0
  | [], b, h => ⟨rfl, fun a ha => (nomatch ha)⟩
  | a :: as, b, h => by
    have h1 : (as.foldl rx (rx b a)).r = -1 := h
    by_cases c : b.h.getD a.t 0 < b.up a
    · have : 0 ≤ (rx b a).r := by unfold rx; rw [if_pos c]; show (0 : Int) ≤ (a.t : Int); omega
      have := fold_r as _ this
      omega
    · have e : rx b a = b := by unfold rx; rw [if_neg c]
      rw [e] at h1
      obtain ⟨h2, h3⟩ := fold_calm as b h1
      refine ⟨by show as.foldl rx (rx b a) = b; rw [e]; exact h2, fun x hx => ?_⟩
      rcases List.mem_cons.mp hx with rfl | hx
      · unfold BS.up at c; omega
      · exact h3 x hx
theorem rx_len (b : BS) (a : Ar) : (rx b a).h.length = b.h.length ∧ (rx b a).l.length = b.l.length := by
  unfold rx
  split
  · exact ⟨List.length_set, List.length_set⟩
  · exact ⟨rfl, rfl⟩
theorem fold_len : ∀ (as : List Ar) (b : BS), (as.foldl rx b).h.length = b.h.length ∧ (as.foldl rx b).l.length = b.l.length
  | [], b => ⟨rfl, rfl⟩
  | a :: as, b => by
    obtain ⟨h1, h2⟩ := fold_len as (rx b a)
    obtain ⟨h3, h4⟩ := rx_len b a
    exact ⟨h1.trans h3, h2.trans h4⟩
theorem laps_len (as : List Ar) (n : Nat) : ∀ k, (laps as n k).h.length = n ∧ (laps as n k).l.length = n
  | 0 => ⟨List.length_replicate, List.length_replicate⟩
  | k + 1 => by
    obtain ⟨h1, h2⟩ := fold_len as { laps as n k with r := -1 }
    obtain ⟨h3, h4⟩ := laps_len as n k
    exact ⟨h1.trans h3, h2.trans h4⟩
structure Rk (n : Nat) (as pre suf : List Ar) (k : Nat) (b : BS) (ρ : Nat → Nat) : Prop where
  hl : b.h.length = n
  ll : b.l.length = n
  i : ∀ v a, b.l.getD v none = some a → a ∈ as ∧ a.t = v ∧ ρ v ≤ ρ a.s + 1
  ii : ∀ v, 1 ≤ ρ v → ∃ a, b.l.getD v none = some a
  iii : ∀ v, ρ v ≤ k
  iv : b.r = -1 ∨ ∃ v : Nat, b.r = (v : Int) ∧ ρ v = k
  v : ∀ a ∈ pre, ρ a.s < k → b.h.getD a.s 0 + a.g ≤ b.h.getD a.t 0
  vi : ∀ a ∈ suf, ρ a.s + 1 < k → b.h.getD a.s 0 + a.g ≤ b.h.getD a.t 0
theorem getD_set_eq {α : Type} (l : List α) (i : Nat) (x d : α) (h : i < l.length) : (l.set i x).getD i d = x := by
  rw [List.getD_eq_getElem?_getD, List.getElem?_set_self h]; rfl
theorem getD_set_ne {α : Type} (l : List α) {i j : Nat} (x d : α) (h : i ≠ j) : (l.set i x).getD j d = l.getD j d := by
  rw [List.getD_eq_getElem?_getD, List.getElem?_set_ne h, List.getD_eq_getElem?_getD]
theorem Rk.step {n : Nat} {as pre suf : List Ar} {a : Ar} {k : Nat} {b : BS} {ρ : Nat → Nat} (R : Rk n as pre (a :: suf) k b ρ) (ha : a ∈ as) (ht : a.t < n) (hk : 1 ≤ k) : ∃ ρ', Rk n as (pre ++ [a]) suf k (rx b a) ρ' := by
  by_cases c : b.h.getD a.t 0 < b.up a
  · have e : rx b a = { h := b.h.set a.t (b.up a), l := b.l.set a.t (some a), r := (a.t : Int) } := by unfold rx; rw [if_pos c]
    have hk2 : k ≤ ρ a.s + 1 := by
      by_cases z : ρ a.s + 1 < k
      · have := R.vi a List.mem_cons_self z
        unfold BS.up at c
        omega
      · omega
    have h1 : a.t < b.h.length := by rw [R.hl]; exact ht
    have h2 : a.t < b.l.length := by rw [R.ll]; exact ht
    have hp : ∀ c : Ar, c.s ≠ a.t → b.h.getD c.s 0 + c.g ≤ b.h.getD c.t 0 → (b.h.set a.t (b.up a)).getD c.s 0 + c.g ≤ (b.h.set a.t (b.up a)).getD c.t 0 := fun c hc q => by
      rw [getD_set_ne _ _ _ (Ne.symm hc)]
      by_cases z : c.t = a.t
      · rw [z, getD_set_eq _ _ _ _ h1]
        rw [z] at q
        omega
      · rw [getD_set_ne _ _ _ (Ne.symm z)]; exact q
    refine ⟨fun v => if v = a.t then k else ρ v, ?_⟩
    rw [e]
    refine ⟨List.length_set.trans R.hl, List.length_set.trans R.ll, fun v x hx => ?_, fun v hv => ?_, fun v => ?_, .inr ⟨a.t, rfl, if_pos rfl⟩, fun x hx hz => ?_, fun x hx hz => ?_⟩
    · by_cases z : v = a.t
      · subst z
        rw [getD_set_eq _ _ _ _ h2] at hx
        cases hx
        refine ⟨ha, rfl, ?_⟩
        show (if a.t = a.t then k else ρ a.t) ≤ (if a.s = a.t then k else ρ a.s) + 1
        rw [if_pos rfl]
        split <;> omega
      · rw [getD_set_ne _ _ _ (Ne.symm z)] at hx
        obtain ⟨q1, q2, q3⟩ := R.i v x hx
        refine ⟨q1, q2, ?_⟩
        show (if v = a.t then k else ρ v) ≤ (if x.s = a.t then k else ρ x.s) + 1
        rw [if_neg z]
        have := R.iii v
        split <;> omega
    · by_cases z : v = a.t
      · subst z; exact ⟨a, getD_set_eq _ _ _ _ h2⟩
      · have hv' : 1 ≤ ρ v := by
          have : 1 ≤ (if v = a.t then k else ρ v) := hv
          rw [if_neg z] at this; exact this
        obtain ⟨x, hx⟩ := R.ii v hv'
        exact ⟨x, by rw [getD_set_ne _ _ _ (Ne.symm z)]; exact hx⟩
    · show (if v = a.t then k else ρ v) ≤ k
      have := R.iii v
      split <;> omega
    · have hz' : (if x.s = a.t then k else ρ x.s) < k := hz
      have hne : x.s ≠ a.t := fun z => by rw [if_pos z] at hz'; omega
      rw [if_neg hne] at hz'
      rcases List.mem_append.mp hx with hx | hx
      · exact hp x hne (R.v x hx hz')
      · cases List.mem_singleton.mp hx
        show (b.h.set a.t (b.up a)).getD a.s 0 + a.g ≤ (b.h.set a.t (b.up a)).getD a.t 0
        rw [getD_set_ne _ _ _ (Ne.symm hne), getD_set_eq _ _ _ _ h1]
        exact Int.le_refl _
    · have hz' : (if x.s = a.t then k else ρ x.s) + 1 < k := hz
      have hne : x.s ≠ a.t := fun z => by rw [if_pos z] at hz'; omega
      rw [if_neg hne] at hz'
      exact hp x hne (R.vi x (List.mem_cons_of_mem _ hx) hz')
  · have e : rx b a = b := by unfold rx; rw [if_neg c]
    rw [e]
    refine ⟨ρ, R.hl, R.ll, R.i, R.ii, R.iii, R.iv, fun x hx hz => ?_, fun x hx hz => R.vi x (List.mem_cons_of_mem _ hx) hz⟩
    rcases List.mem_append.mp hx with hx | hx
    · exact R.v x hx hz
    · cases List.mem_singleton.mp hx
      unfold BS.up at c; omega
theorem Rk.fold {n : Nat} {as : List Ar} {k : Nat} (hk : 1 ≤ k) (hA : ∀ a ∈ as, a.t < n) : ∀ (suf pre : List Ar) (b : BS) (ρ : Nat → Nat), (∀ a ∈ suf, a ∈ as) → Rk n as pre suf k b ρ → ∃ ρ', Rk n as (pre ++ suf) [] k (suf.foldl rx b) ρ'
  | [], pre, b, ρ, _, R => ⟨ρ, by rw [List.append_nil]; exact R⟩
  | a :: suf, pre, b, ρ, hs, R => by
    have ha := hs a List.mem_cons_self
    obtain ⟨ρ1, R1⟩ := R.step ha (hA a ha) hk
    obtain ⟨ρ2, R2⟩ := Rk.fold hk hA suf (pre ++ [a]) (rx b a) ρ1 (fun x hx => hs x (List.mem_cons_of_mem _ hx)) R1
    exact ⟨ρ2, by rw [List.append_assoc] at R2; exact R2⟩
theorem repl_none {n v : Nat} {a : Ar} {C : Prop} (h : (List.replicate n (none : Option Ar)).getD v none = some a) : C := by
  exfalso
  rw [List.getD_eq_getElem?_getD, List.getElem?_replicate] at h
  split at h <;> cases h
theorem Rk_laps {n : Nat} {as : List Ar} (hA : ∀ a ∈ as, a.t < n) : ∀ k, ∃ ρ, Rk n as as [] (k + 1) (laps as n (k + 1)) ρ
  | 0 => by
    have R0 : Rk n as [] as 1 { bs0 n with r := -1 } (fun _ => 0) := ⟨List.length_replicate, List.length_replicate, fun v a h => (repl_none h), fun v h => absurd h (Nat.not_succ_le_zero 0), fun v => Nat.zero_le _, .inl rfl, fun a ha => (nomatch ha), fun a ha h => absurd h (Nat.lt_irrefl 1)⟩
    obtain ⟨ρ, R⟩ := Rk.fold (Nat.le_refl 1) hA as [] _ _ (fun _ h => h) R0
    exact ⟨ρ, R⟩
  | k + 1 => by
    obtain ⟨ρ, R⟩ := Rk_laps hA k
    have R0 : Rk n as [] as (k + 1 + 1) { laps as n (k + 1) with r := -1 } ρ := ⟨R.hl, R.ll, R.i, R.ii, fun v => Nat.le_succ_of_le (R.iii v), .inl rfl, fun a ha => (nomatch ha), fun a ha h => R.v a ha (by omega)⟩
    obtain ⟨ρ, R⟩ := Rk.fold (by omega) hA as [] _ _ (fun _ h => h) R0
    exact ⟨ρ, R⟩
/-! pigeonhole -/
theorem php : ∀ (n : Nat) (l : List Nat), (∀ x ∈ l, x < n) → l.Nodup → l.length ≤ n
  | 0, [], _, _ => Nat.le_refl _
  | 0, x :: l, h, _ => absurd (h x List.mem_cons_self) (Nat.not_lt_zero _)
  | n + 1, l, h, hd => by
    have h1 : (l.erase n).Nodup := hd.erase n
    have h2 : ∀ x ∈ l.erase n, x < n := fun x hx => by
      have h3 := h x (List.mem_of_mem_erase hx)
      have h4 : x ≠ n := fun z => by subst z; exact (List.Nodup.not_mem_erase hd) hx
      omega
    have := php n (l.erase n) h2 h1
    by_cases c : n ∈ l
    · have e := List.length_erase_of_mem c
      omega
    · rw [List.erase_of_not_mem c] at *
      omega
theorem php2 {n : Nat} {p : Nat → Nat} (h : ∀ i, i ≤ n → p i < n) : ∃ i j, i < j ∧ j ≤ n ∧ p i = p j := by
  by_cases c : ∃ i j, i < j ∧ j ≤ n ∧ p i = p j
  · exact c
  · exfalso
    have hd : ((List.range (n + 1)).map p).Nodup := by
      unfold List.Nodup
      rw [List.pairwise_map]
      refine List.Pairwise.imp_of_mem ?_ (List.pairwise_lt_range (n := n + 1))
      intro a b ha hb hab z
      exact c ⟨a, b, hab, by have := List.mem_range.mp hb; omega, z⟩
    have := php n _ (fun x hx => by
      obtain ⟨i, hi, rfl⟩ := List.mem_map.mp hx
      exact h i (by have := List.mem_range.mp hi; omega)) hd
    rw [List.length_map, List.length_range] at this
    omega
def pre (b : BS) (v : Nat) : Nat := match b.l.getD v none with | some a => a.s | none => v
def chn (b : BS) (v : Nat) : Nat → Nat
  | 0 => v
  | m + 1 => pre b (chn b v m)
/-- behind n + 1 laps that all rose: the way back goes round -/
theorem ring_of {n : Nat} {as : List Ar} (hA : ∀ a ∈ as, a.s < n ∧ a.t < n) (hr : (laps as n (n + 1)).r ≠ -1) :
    ∃ v : Nat, (laps as n (n + 1)).r = (v : Int) ∧ v < n ∧ (∀ m, ∃ a ∈ as, (laps as n (n + 1)).l.getD (chn (laps as n (n + 1)) v m) none = some a ∧ a.t = chn (laps as n (n + 1)) v m ∧ a.s = chn (laps as n (n + 1)) v (m + 1)) ∧
      ∃ d, 1 ≤ d ∧ d ≤ n ∧ chn (laps as n (n + 1)) v (n + d) = chn (laps as n (n + 1)) v n := by
  obtain ⟨ρ, R⟩ := Rk_laps (fun a ha => (hA a ha).2) n
  generalize laps as n (n + 1) = b at *
  rcases R.iv with z | ⟨v, hv, hρ⟩
  · exact absurd z hr
  have step : ∀ m, 1 ≤ ρ (chn b v m) → ∃ a ∈ as, b.l.getD (chn b v m) none = some a ∧ a.t = chn b v m ∧ a.s = chn b v (m + 1) ∧ ρ (chn b v m) ≤ ρ (chn b v (m + 1)) + 1 := fun m hm => by
    obtain ⟨a, ha⟩ := R.ii _ hm
    obtain ⟨q1, q2, q3⟩ := R.i _ a ha
    have e : a.s = chn b v (m + 1) := by
      show a.s = pre b (chn b v m)
      unfold pre
      rw [ha]
    exact ⟨a, q1, ha, q2, e, by rw [← e]; exact q3⟩
  have chain : ∀ m, m ≤ n → n + 1 ≤ ρ (chn b v m) + m := fun m => by
    induction m with
    | zero => intro _; show n + 1 ≤ ρ v + 0; omega
    | succ m ih =>
      intro hm
      have h1 := ih (by omega)
      obtain ⟨a, _, _, _, _, h2⟩ := step m (by omega)
      omega
  have low : ∀ m, m ≤ n → ∃ a ∈ as, b.l.getD (chn b v m) none = some a ∧ a.t = chn b v m ∧ a.s = chn b v (m + 1) := fun m hm => by
    have := chain m hm
    obtain ⟨a, h1, h2, h3, h4, _⟩ := step m (by omega)
    exact ⟨a, h1, h2, h3, h4⟩
  have lt : ∀ m, m ≤ n → chn b v m < n := fun m hm => by
    obtain ⟨a, h1, _, h3, _⟩ := low m hm
    rw [← h3]; exact (hA a h1).2
  obtain ⟨i, j, hij, hj, e⟩ := php2 lt
  have per : ∀ m, chn b v (j + m) = chn b v (i + m) := fun m => by
    induction m with
    | zero => exact e.symm
    | succ m ih => show pre b (chn b v (j + m)) = pre b (chn b v (i + m)); rw [ih]
  have all : ∀ m, ∃ a ∈ as, b.l.getD (chn b v m) none = some a ∧ a.t = chn b v m ∧ a.s = chn b v (m + 1) := fun m => by
    induction m using Nat.strongRecOn with
    | ind m ih =>
      by_cases c : m ≤ n
      · exact low m c
      · have e1 : chn b v m = chn b v (i + (m - j)) := by
          have := per (m - j)
          rw [show j + (m - j) = m by omega] at this
          exact this
        have e2 : chn b v (m + 1) = chn b v (i + (m - j) + 1) := by
          have := per (m - j + 1)
          rw [show j + (m - j + 1) = m + 1 by omega] at this
          exact this
        rw [e1, e2]
        exact ih _ (by omega)
  refine ⟨v, hv, lt 0 (Nat.zero_le _), all, j - i, by omega, by omega, ?_⟩
  have := per (n - i)
  rw [show j + (n - i) = n + (j - i) by omega, show i + (n - i) = n by omega] at this
  exact this
def Cyc (as : List Ar) : Prop := ∃ C : List Nat, C ≠ [] ∧ ∀ v ∈ C, ∃ a ∈ as, a.s = v ∧ a.t ∈ C
theorem cyc_of {n : Nat} {as : List Ar} (hA : ∀ a ∈ as, a.s < n ∧ a.t < n) (hr : (laps as n (n + 1)).r ≠ -1) : Cyc as := by
  obtain ⟨v, _, _, all, d, h1, h2, e⟩ := ring_of hA hr
  generalize laps as n (n + 1) = b at *
  refine ⟨(List.range d).map fun m => chn b v (n + m), fun z => ?_, fun x hx => ?_⟩
  · have := congrArg List.length z
    rw [List.length_map, List.length_range] at this
    exact absurd this (by show d ≠ 0; omega)
  · obtain ⟨m, hm, rfl⟩ := List.mem_map.mp hx
    have hm' := List.mem_range.mp hm
    by_cases c : m = 0
    · subst c
      obtain ⟨a, q1, _, q3, q4⟩ := all (n + (d - 1))
      refine ⟨a, q1, ?_, ?_⟩
      · rw [q4, show n + (d - 1) + 1 = n + d by omega, e]; rfl
      · rw [q3]; exact List.mem_map.mpr ⟨d - 1, List.mem_range.mpr (by omega), rfl⟩
    · obtain ⟨a, q1, _, q3, q4⟩ := all (n + (m - 1))
      refine ⟨a, q1, ?_, ?_⟩
      · rw [q4]; show _ = chn b v (n + m); rw [show n + (m - 1) + 1 = n + m by omega]
      · rw [q3]; exact List.mem_map.mpr ⟨m - 1, List.mem_range.mpr (by omega), rfl⟩
/-- heights that rise along every arc leave no way round -/
theorem no_cyc {as : List Ar} {f : Nat → Int} (h : ∀ a ∈ as, f a.s < f a.t) : ¬ Cyc as := fun ⟨C, hne, hC⟩ => by
  have key : ∀ (l : List Nat), l ≠ [] → ∃ m ∈ l, ∀ x ∈ l, f x ≤ f m := fun l => by
    induction l with
    | nil => exact fun z => absurd rfl z
    | cons x l ih =>
      intro _
      by_cases c : l = []
      · subst c; exact ⟨x, List.mem_cons_self, fun y hy => by cases List.mem_singleton.mp hy; exact Int.le_refl _⟩
      · obtain ⟨m, hm, hx⟩ := ih c
        by_cases c2 : f x ≤ f m
        · exact ⟨m, List.mem_cons_of_mem _ hm, fun y hy => (List.mem_cons.mp hy).elim (fun e => e ▸ c2) (hx y)⟩
        · exact ⟨x, List.mem_cons_self, fun y hy => (List.mem_cons.mp hy).elim (fun e => e ▸ Int.le_refl _) fun hy => by have := hx y hy; omega⟩
  obtain ⟨m, hm, hx⟩ := key C hne
  obtain ⟨a, ha, hs, ht⟩ := hC m hm
  have h1 := h a ha
  have h2 := hx a.t ht
  rw [hs] at h1
  omega
end Sm

namespace Sm
open PySem
/-! walks along arcs, by number of arcs and weight -/
def Wk (as : List Ar) (I : Nat → Prop) : Nat → Nat → Int → Prop
  | 0, v, w => I v ∧ w = 0
  | k + 1, v, w => ∃ a ∈ as, a.t = v ∧ Wk as I k a.s (w - a.g)
def Feas (as : List Ar) (p : Nat → Int) : Prop := ∀ a ∈ as, p a.s + a.g ≤ p a.t
def Pot (as : List Ar) : Prop := ∃ p, Feas as p
theorem Wk.pot {as : List Ar} {I : Nat → Prop} {p : Nat → Int} (hp : Feas as p) : ∀ {k : Nat} {v : Nat} {w : Int}, Wk as I k v w → ∃ u, I u ∧ w ≤ p v - p u
  | 0, v, w, ⟨h, e⟩ => ⟨v, h, by omega⟩
  | k + 1, v, w, ⟨a, ha, ht, hw⟩ => by
    obtain ⟨u, hu, h⟩ := Wk.pot hp hw
    have := hp a ha
    rw [ht] at this
    exact ⟨u, hu, by omega⟩
theorem Wk.lt {as : List Ar} {I : Nat → Prop} {n : Nat} (hI : ∀ u, I u → u < n) (hA : ∀ a ∈ as, a.t < n) : ∀ {k v : Nat} {w : Int}, Wk as I k v w → v < n
  | 0, v, w, ⟨h, _⟩ => hI v h
  | k + 1, v, w, ⟨a, ha, ht, _⟩ => by rw [← ht]; exact hA a ha
theorem Wk.step {as : List Ar} {I : Nat → Prop} {k : Nat} {w : Int} {a : Ar} (ha : a ∈ as) (h : Wk as I k a.s w) : Wk as I (k + 1) a.t (w + a.g) := ⟨a, ha, rfl, by rw [show w + a.g - a.g = w by omega]; exact h⟩
def Att (as : List Ar) (I : Nat → Prop) (v : Nat) (m : Int) : Prop := (∃ k, Wk as I k v m) ∧ ∀ k w, Wk as I k v w → w ≤ m
theorem ex_max {as : List Ar} {I : Nat → Prop} {v : Nat} {b : Int} (B : ∀ k w, Wk as I k v w → w ≤ b) : ∀ (d : Nat) (k : Nat) (w : Int), Wk as I k v w → b - w ≤ (d : Int) → ∃ m, Att as I v m
  | 0, k, w, h, hd => ⟨w, ⟨k, h⟩, fun j x hx => by have := B j x hx; omega⟩
  | d + 1, k, w, h, hd => by
    by_cases c : ∃ j x, Wk as I j v x ∧ w < x
    · obtain ⟨j, x, hx, hl⟩ := c
      exact ex_max B d j x hx (by omega)
    · refine ⟨w, ⟨k, h⟩, fun j x hx => ?_⟩
      by_cases z : w < x
      · exact absurd ⟨j, x, hx, z⟩ c
      · omega
theorem low_of (p : Nat → Int) : ∀ n : Nat, ∃ b, ∀ u, u < n → b ≤ p u
  | 0 => ⟨0, fun u h => absurd h (Nat.not_lt_zero _)⟩
  | n + 1 => by
    obtain ⟨b, hb⟩ := low_of p n
    refine ⟨if b ≤ p n then b else p n, fun u hu => ?_⟩
    by_cases c : u = n
    · subst c; split <;> omega
    · have := hb u (by omega)
      split <;> omega
theorem Att.ex {as : List Ar} {I : Nat → Prop} {n : Nat} (hP : Pot as) (hI : ∀ u, I u → u < n) {k v : Nat} {w : Int} (h : Wk as I k v w) : ∃ m, Att as I v m := by
  obtain ⟨p, hp⟩ := hP
  obtain ⟨b, hb⟩ := low_of p n
  have B : ∀ k w, Wk as I k v w → w ≤ p v - b := fun k w hw => by
    obtain ⟨u, hu, h⟩ := hw.pot hp
    have := hb u (hI u hu)
    omega
  exact ex_max B (p v - b - w).toNat k w h (by have := B k w h; omega)
theorem least_nat {p : Nat → Prop} : ∀ {k : Nat}, p k → ∃ j, p j ∧ ∀ i, i < j → ¬ p i := fun {k} => by
  induction k using Nat.strongRecOn with
  | ind k ih =>
    intro h
    by_cases c : ∃ i, i < k ∧ p i
    · obtain ⟨i, hi, hp⟩ := c
      exact ih i hi hp
    · exact ⟨k, h, fun i hi hp => c ⟨i, hi, hp⟩⟩
def Lev (as : List Ar) (I : Nat → Prop) (v k : Nat) (m : Int) : Prop := Att as I v m ∧ Wk as I k v m ∧ ∀ j, j < k → ¬ Wk as I j v m
theorem Att.lev {as : List Ar} {I : Nat → Prop} {v : Nat} {m : Int} (h : Att as I v m) : ∃ k, Lev as I v k m := by
  obtain ⟨k, hk⟩ := h.1
  obtain ⟨j, h1, h2⟩ := least_nat (p := fun j => Wk as I j v m) hk
  exact ⟨j, h, h1, h2⟩
theorem Att.uniq {as : List Ar} {I : Nat → Prop} {v : Nat} {m m' : Int} (h : Att as I v m) (h' : Att as I v m') : m = m' := by
  obtain ⟨k, hk⟩ := h.1
  obtain ⟨j, hj⟩ := h'.1
  have := h.2 j m' hj
  have := h'.2 k m hk
  omega
theorem Lev.uniq {as : List Ar} {I : Nat → Prop} {v j k : Nat} {m m' : Int} (h : Lev as I v j m) (h' : Lev as I v k m') : j = k := by
  have e := h.1.uniq h'.1
  subst e
  rcases Nat.lt_trichotomy j k with z | z | z
  · exact absurd h.2.1 (h'.2.2 j z)
  · exact z
  · exact absurd h'.2.1 (h.2.2 k z)
theorem Lev.prev {as : List Ar} {I : Nat → Prop} {v k : Nat} {m : Int} (h : Lev as I v (k + 1) m) : ∃ a ∈ as, a.t = v ∧ Lev as I a.s k (m - a.g) := by
  obtain ⟨hm, ⟨a, ha, ht, hw⟩, hl⟩ := h
  refine ⟨a, ha, ht, ⟨⟨k, hw⟩, fun j w hj => ?_⟩, hw, fun j hj z => ?_⟩
  · have := hj.step ha
    rw [ht] at this
    have := hm.2 _ _ this
    omega
  · have := z.step ha
    rw [ht, show m - a.g + a.g = m by omega] at this
    exact hl (j + 1) (by omega) this
theorem Lev.all {as : List Ar} {I : Nat → Prop} : ∀ {k v : Nat} {m : Int}, Lev as I v k m → ∀ i, i ≤ k → ∃ u m', Lev as I u i m'
  | 0, v, m, h, i, hi => by
    obtain rfl : i = 0 := by omega
    exact ⟨v, m, h⟩
  | k + 1, v, m, h, i, hi => by
    by_cases c : i = k + 1
    · subst c; exact ⟨v, m, h⟩
    · obtain ⟨a, _, _, h2⟩ := h.prev
      exact Lev.all h2 i (by omega)
theorem Lev.lt {as : List Ar} {I : Nat → Prop} {n : Nat} (hI : ∀ u, I u → u < n) (hA : ∀ a ∈ as, a.t < n) {k v : Nat} {m : Int} (h : Lev as I v k m) : k < n := by
  by_cases c : k < n
  · exact c
  · exfalso
    have ex : ∀ i, ∃ u, i ≤ n → ∃ m', Lev as I u i m' := fun i => by
      by_cases z : i ≤ n
      · obtain ⟨u, m', q⟩ := h.all i (by omega)
        exact ⟨u, fun _ => ⟨m', q⟩⟩
      · exact ⟨0, fun q => absurd q z⟩
    let p : Nat → Nat := fun i => Classical.choose (ex i)
    have hp : ∀ i, i ≤ n → ∃ m', Lev as I (p i) i m' := fun i hi => Classical.choose_spec (ex i) hi
    obtain ⟨i, j, hij, hj, e⟩ := php2 (n := n) (p := p) fun i hi => by
      obtain ⟨m', q⟩ := hp i hi
      exact q.2.1.lt hI hA
    obtain ⟨m1, q1⟩ := hp i (by omega)
    obtain ⟨m2, q2⟩ := hp j hj
    rw [e] at q1
    have := q1.uniq q2
    omega
/-! sums over arcs -/
def sumF (f : Ar → Int) : List Ar → Int
  | [] => 0
  | a :: as => f a + sumF f as
theorem sumF_le {f g : Ar → Int} : ∀ {as : List Ar}, (∀ a ∈ as, f a ≤ g a) → sumF f as ≤ sumF g as
  | [], _ => Int.le_refl _
  | a :: as, h => by
    have h1 := h a List.mem_cons_self
    have h2 := sumF_le (as := as) fun x hx => h x (List.mem_cons_of_mem _ hx)
    show f a + sumF f as ≤ g a + sumF g as
    omega
theorem sumF_put {f g : Ar → Int} {x : Int} {b : Ar} : ∀ {as : List Ar}, (∀ a ∈ as, f a ≤ g a) → b ∈ as → f b + x ≤ g b → sumF f as + x ≤ sumF g as
  | [], _, hb, _ => nomatch hb
  | a :: as, h, hb, hx => by
    show f a + sumF f as + x ≤ g a + sumF g as
    rcases List.mem_cons.mp hb with rfl | hb
    · have h2 := sumF_le (as := as) fun x hx => h x (List.mem_cons_of_mem _ hx)
      omega
    · have h1 := h a List.mem_cons_self
      have h2 := sumF_put (as := as) (fun x hx => h x (List.mem_cons_of_mem _ hx)) hb hx
      omega
theorem sumF_nn {f : Ar → Int} : ∀ {as : List Ar}, (∀ a ∈ as, 0 ≤ f a) → 0 ≤ sumF f as
  | [], _ => Int.le_refl _
  | a :: as, h => by
    have h1 := h a List.mem_cons_self
    have h2 := sumF_nn (as := as) fun x hx => h x (List.mem_cons_of_mem _ hx)
    show 0 ≤ f a + sumF f as
    omega
theorem sumF_add {f g : Ar → Int} : ∀ {as : List Ar}, sumF f as + sumF g as = sumF (fun a => f a + g a) as
  | [] => rfl
  | a :: as => by
    have := sumF_add (f := f) (g := g) (as := as)
    show f a + sumF f as + (g a + sumF g as) = f a + g a + sumF (fun a => f a + g a) as
    omega
theorem sumF_filter {f : Ar → Int} (p : Ar → Bool) : ∀ {as : List Ar}, sumF f (as.filter p) = sumF (fun a => if p a = true then f a else 0) as
  | [] => rfl
  | a :: as => by
    have := sumF_filter (f := f) p (as := as)
    show sumF f ((a :: as).filter p) = (if p a = true then f a else 0) + sumF (fun a => if p a = true then f a else 0) as
    rw [List.filter_cons]
    split
    · show f a + sumF f (as.filter p) = _; omega
    · omega
def posI (x : Int) : Int := if 0 < x then x else 0
def negI (x : Int) : Int := if x < 0 then -x else 0
theorem posI_nn (x : Int) : 0 ≤ posI x := by unfold posI; split <;> omega
theorem negI_nn (x : Int) : 0 ≤ negI x := by unfold negI; split <;> omega
theorem posI_le (x : Int) : x ≤ posI x := by unfold posI; split <;> omega
theorem negI_le (x : Int) : -x ≤ negI x := by unfold negI; split <;> omega
def inK (as : List Ar) (I : Nat → Prop) (k : Nat) (a : Ar) : Prop := ∃ j, j < k ∧ ∃ m, Lev as I a.s j m
open Classical in
theorem Lev.bnd {as : List Ar} {I : Nat → Prop} {f : Int → Int} (f0 : ∀ x, 0 ≤ f x) {s : Int} (fs : ∀ x, s * x ≤ f x) : ∀ {k v : Nat} {m : Int}, Lev as I v k m → s * m ≤ sumF (fun a => if inK as I k a then f a.g else 0) as
  | 0, v, m, h => by
    have e : m = 0 := h.2.1.2
    subst e
    rw [Int.mul_zero]
    exact sumF_nn fun a _ => by split; exact f0 _; exact Int.le_refl _
  | k + 1, v, m, h => by
    obtain ⟨a, ha, ht, h2⟩ := h.prev
    have ih := Lev.bnd f0 fs h2
    have n1 : ¬ inK as I k a := fun ⟨j, hj, m', q⟩ => by have := q.uniq h2; omega
    have n2 : inK as I (k + 1) a := ⟨k, Nat.lt_succ_self _, _, h2⟩
    have := sumF_put (f := fun a => if inK as I k a then f a.g else 0) (g := fun a => if inK as I (k + 1) a then f a.g else 0) (x := f a.g) (as := as) (fun b _ => by
      by_cases c : inK as I k b
      · obtain ⟨j, hj, q⟩ := c
        have c2 : inK as I (k + 1) b := ⟨j, by omega, q⟩
        have c1 : inK as I k b := ⟨j, hj, q⟩
        simp only [if_pos c1, if_pos c2]
        exact Int.le_refl _
      · simp only [if_neg c]
        split
        · exact f0 _
        · exact Int.le_refl _) ha (by
      simp only [if_neg n1, if_pos n2]
      omega)
    have := fs a.g
    rw [Int.mul_sub] at ih
    omega
theorem Lev.hi {as : List Ar} {I : Nat → Prop} {k v : Nat} {m : Int} (h : Lev as I v k m) : m ≤ sumF (fun a => posI a.g) as := by
  have h1 := h.bnd (f := posI) (s := 1) posI_nn fun x => by rw [Int.one_mul]; exact posI_le x
  rw [Int.one_mul] at h1
  refine Int.le_trans h1 (sumF_le fun a _ => ?_)
  split
  · exact Int.le_refl _
  · exact posI_nn _
theorem Lev.lo {as : List Ar} {I : Nat → Prop} {k v : Nat} {m : Int} (h : Lev as I v k m) : -m ≤ sumF (fun a => if a.s = v then 0 else negI a.g) as := by
  have h1 := h.bnd (f := negI) (s := -1) negI_nn fun x => by rw [Int.neg_one_mul]; exact negI_le x
  rw [Int.neg_one_mul] at h1
  refine Int.le_trans h1 (sumF_le fun a _ => ?_)
  split
  · rename_i c
    obtain ⟨j, hj, m', q⟩ := c
    have : a.s ≠ v := fun z => by rw [z] at q; have := q.uniq h; omega
    rw [if_neg this]
    exact Int.le_refl _
  · split
    · exact Int.le_refl _
    · exact negI_nn _
end Sm

namespace Sm
open PySem
/-! potentials near a place -/
def Reach (as : List Ar) (src : Nat) (v : Nat) : Prop := ∃ k w, Wk as (fun u => u = src) k v w
theorem Reach.step {as : List Ar} {src : Nat} {a : Ar} (ha : a ∈ as) (h : Reach as src a.s) : Reach as src a.t := by
  obtain ⟨k, w, q⟩ := h
  exact ⟨k + 1, _, q.step ha⟩
open Classical in
theorem Wk.only {as : List Ar} {src : Nat} : ∀ {k v : Nat} {w : Int}, Wk as (fun u => u = src) k v w → Wk (as.filter fun a => decide (Reach as src a.s)) (fun u => u = src) k v w
  | 0, v, w, h => h
  | k + 1, v, w, ⟨a, ha, ht, h⟩ => ⟨a, List.mem_filter.mpr ⟨ha, decide_eq_true ⟨k, _, h⟩⟩, ht, Wk.only h⟩
theorem Wk.sub {as bs : List Ar} {I : Nat → Prop} (h : ∀ a ∈ bs, a ∈ as) : ∀ {k v : Nat} {w : Int}, Wk bs I k v w → Wk as I k v w
  | 0, v, w, q => q
  | k + 1, v, w, ⟨a, ha, ht, q⟩ => ⟨a, h a ha, ht, Wk.sub h q⟩
theorem Feas.sub {as bs : List Ar} {p : Nat → Int} (h : ∀ a ∈ bs, a ∈ as) (hp : Feas as p) : Feas bs p := fun a ha => hp a (h a ha)
/-- what the arcs but those out of a place can bring -/
def wide (v : Nat) (a : Ar) : Int := posI a.g + (if a.s = v then 0 else negI a.g)
open Classical in
theorem pot_near {as : List Ar} {n src : Nat} (hA : ∀ a ∈ as, a.s < n ∧ a.t < n) (hs : src < n) (hP : Pot as) :
    ∃ p, Feas as p ∧ (∀ v m, Att as (fun u => u = src) v m → p v - p src ≤ m) ∧ ∀ c ∈ as, p c.t - p c.s ≤ sumF (wide c.s) as := by
  let R : List Ar := as.filter fun a => decide (Reach as src a.s)
  let U : List Ar := as.filter fun a => decide (¬ Reach as src a.t)
  have hR : ∀ a ∈ R, a ∈ as := fun a ha => (List.mem_filter.mp ha).1
  have hU : ∀ a ∈ U, a ∈ as := fun a ha => (List.mem_filter.mp ha).1
  have mR : ∀ a ∈ as, Reach as src a.s → a ∈ R := fun a ha h => List.mem_filter.mpr ⟨ha, decide_eq_true h⟩
  have mU : ∀ a ∈ as, ¬ Reach as src a.t → a ∈ U := fun a ha h => List.mem_filter.mpr ⟨ha, decide_eq_true h⟩
  obtain ⟨p0, hp0⟩ := hP
  have exD : ∀ v, Reach as src v → ∃ m, Att R (fun u => u = src) v m := fun v ⟨k, w, h⟩ => Att.ex (n := n) ⟨p0, hp0.sub hR⟩ (fun u hu => by rw [hu]; exact hs) h.only
  have exH : ∀ v, v < n → ∃ m, Att U (fun u => u < n) v m := fun v h => Att.ex (n := n) (k := 0) (w := 0) ⟨p0, hp0.sub hU⟩ (fun u hu => hu) ⟨h, rfl⟩
  let D : Nat → Int := fun v => if h : Reach as src v then Classical.choose (exD v h) else 0
  let H : Nat → Int := fun v => if h : v < n then Classical.choose (exH v h) else 0
  have sD : ∀ v, Reach as src v → Att R (fun u => u = src) v (D v) := fun v h => by
    show Att R (fun u => u = src) v (if h : Reach as src v then Classical.choose (exD v h) else 0)
    rw [dif_pos h]; exact Classical.choose_spec (exD v h)
  have sH : ∀ v, v < n → Att U (fun u => u < n) v (H v) := fun v h => by
    show Att U (fun u => u < n) v (if h : v < n then Classical.choose (exH v h) else 0)
    rw [dif_pos h]; exact Classical.choose_spec (exH v h)
  have attA : ∀ v m, Reach as src v → Att as (fun u => u = src) v m → m = D v := fun v m h hm => by
    have h2 := sD v h
    have : Att as (fun u => u = src) v (D v) := ⟨by obtain ⟨k, q⟩ := h2.1; exact ⟨k, q.sub hR⟩, fun k w q => h2.2 k w q.only⟩
    exact hm.uniq this
  let X : List Ar := as.filter fun a => decide (¬ Reach as src a.s ∧ Reach as src a.t)
  let N : Int := sumF (fun a => negI a.g) R
  let C : Int := sumF (fun a => posI a.g) U + sumF (fun a => posI a.g) X + N
  let p : Nat → Int := fun v => if Reach as src v then D v else H v - C
  have pR : ∀ v, Reach as src v → p v = D v := fun v h => if_pos h
  have pU : ∀ v, ¬ Reach as src v → p v = H v - C := fun v h => if_neg h
  have dR : ∀ a ∈ as, Reach as src a.s → D a.s + a.g ≤ D a.t := fun a ha h => by
    obtain ⟨k, q⟩ := (sD a.s h).1
    exact (sD a.t (h.step ha)).2 _ _ (q.step (mR a ha h))
  have hUU : ∀ a ∈ as, ¬ Reach as src a.t → H a.s + a.g ≤ H a.t := fun a ha h => by
    obtain ⟨k, q⟩ := (sH a.s (hA a ha).1).1
    exact (sH a.t (hA a ha).2).2 _ _ (q.step (mU a ha h))
  have H0 : ∀ v, v < n → 0 ≤ H v := fun v h => (sH v h).2 0 0 ⟨h, rfl⟩
  have Hhi : ∀ v, v < n → H v ≤ sumF (fun a => posI a.g) U := fun v h => by
    obtain ⟨k, q⟩ := (sH v h).lev
    exact q.hi
  have Dhi : ∀ v, Reach as src v → D v ≤ sumF (fun a => posI a.g) R := fun v h => by
    obtain ⟨k, q⟩ := (sD v h).lev
    exact q.hi
  have Dlo : ∀ v, Reach as src v → -D v ≤ sumF (fun a => if a.s = v then 0 else negI a.g) R := fun v h => by
    obtain ⟨k, q⟩ := (sD v h).lev
    exact q.lo
  have DloN : ∀ v, Reach as src v → -D v ≤ N := fun v h => Int.le_trans (Dlo v h) (sumF_le fun a _ => by split; exact negI_nn _; exact Int.le_refl _)
  have r0 : Reach as src src := ⟨0, 0, rfl, rfl⟩
  have D0 : D src = 0 := by
    have h1 := (sD src r0).2 0 0 ⟨rfl, rfl⟩
    obtain ⟨k, q⟩ := (sD src r0).1
    obtain ⟨u, hu, h2⟩ := q.pot (hp0.sub hR)
    have hu' : u = src := hu
    subst hu'
    omega
  have N0 : 0 ≤ N := sumF_nn fun a _ => negI_nn _
  have PU0 : 0 ≤ sumF (fun a => posI a.g) U := sumF_nn fun a _ => posI_nn _
  have PX0 : 0 ≤ sumF (fun a => posI a.g) X := sumF_nn fun a _ => posI_nn _
  refine ⟨p, fun a ha => ?_, fun v m hm => ?_, fun c hc => ?_⟩
  · by_cases c1 : Reach as src a.s
    · rw [pR _ c1, pR _ (c1.step ha)]
      exact dR a ha c1
    · by_cases c2 : Reach as src a.t
      · rw [pU _ c1, pR _ c2]
        have h1 := Hhi a.s (hA a ha).1
        have h2 := DloN a.t c2
        have h3 : a.g ≤ sumF (fun a => posI a.g) X := by
          have := sumF_put (f := fun _ => 0) (g := fun a => posI a.g) (x := a.g) (as := X) (b := a) (fun b _ => posI_nn _) (List.mem_filter.mpr ⟨ha, decide_eq_true ⟨c1, c2⟩⟩) (by have := posI_le a.g; omega)
          have z : 0 ≤ sumF (fun _ => 0) X := sumF_nn fun _ _ => Int.le_refl _
          omega
        show H a.s - (sumF (fun a => posI a.g) U + sumF (fun a => posI a.g) X + N) + a.g ≤ D a.t
        omega
      · rw [pU _ c1, pU _ c2]
        have := hUU a ha c2
        omega
  · have hr : Reach as src v := by obtain ⟨k, q⟩ := hm.1; exact ⟨k, m, q⟩
    rw [pR _ hr, pR _ r0, D0, attA v m hr hm]
    omega
  · have hc1 := (hA c hc).1
    have hc2 := (hA c hc).2
    -- the sum, part by part
    have sp : sumF (wide c.s) as = sumF (fun a => posI a.g) as + sumF (fun a => if a.s = c.s then 0 else negI a.g) as := (sumF_add).symm
    have eP : sumF (fun a => posI a.g) R + sumF (fun a => posI a.g) U + sumF (fun a => posI a.g) X ≤ sumF (fun a => posI a.g) as := by
      have e1 := sumF_filter (f := fun a => posI a.g) (fun a => decide (Reach as src a.s)) (as := as)
      have e2 := sumF_filter (f := fun a => posI a.g) (fun a => decide (¬ Reach as src a.t)) (as := as)
      have e3 := sumF_filter (f := fun a => posI a.g) (fun a => decide (¬ Reach as src a.s ∧ Reach as src a.t)) (as := as)
      show sumF (fun a => posI a.g) (as.filter fun a => decide (Reach as src a.s)) + sumF (fun a => posI a.g) (as.filter fun a => decide (¬ Reach as src a.t)) + sumF (fun a => posI a.g) (as.filter fun a => decide (¬ Reach as src a.s ∧ Reach as src a.t)) ≤ _
      rw [e1, e2, e3, sumF_add, sumF_add]
      refine sumF_le fun a ha => ?_
      have p0 := posI_nn a.g
      by_cases c1 : Reach as src a.s
      · have c2 := c1.step ha
        simp only [decide_eq_true_eq, c1, c2, not_true_eq_false, false_and, if_true, if_false]
        omega
      · by_cases c2 : Reach as src a.t
        · simp only [decide_eq_true_eq, c1, c2, not_true_eq_false, not_false_eq_true, and_self, if_true, if_false]
          omega
        · simp only [decide_eq_true_eq, c1, c2, not_false_eq_true, and_false, if_true, if_false]
          omega
    have eN : sumF (fun a => if a.s = c.s then 0 else negI a.g) R ≤ sumF (fun a => if a.s = c.s then 0 else negI a.g) as := by
      show sumF _ (as.filter fun a => decide (Reach as src a.s)) ≤ _
      rw [sumF_filter]
      refine sumF_le fun a ha => ?_
      have p0 := negI_nn a.g
      split
      · exact Int.le_refl _
      · split
        · exact Int.le_refl _
        · exact p0
    have PR0 : 0 ≤ sumF (fun a => posI a.g) R := sumF_nn fun a _ => posI_nn _
    have NN0 : 0 ≤ sumF (fun a => if a.s = c.s then 0 else negI a.g) as := sumF_nn fun a _ => by split; exact Int.le_refl _; exact negI_nn _
    by_cases c1 : Reach as src c.s
    · have c2 := c1.step hc
      rw [pR _ c1, pR _ c2]
      have h1 := Dhi c.t c2
      have h2 := Dlo c.s c1
      omega
    · by_cases c2 : Reach as src c.t
      · rw [pU _ c1, pR _ c2]
        have h1 := Dhi c.t c2
        have h2 := H0 c.s hc1
        have h3 : N ≤ sumF (fun a => if a.s = c.s then 0 else negI a.g) as := by
          refine Int.le_trans ?_ eN
          refine sumF_le fun a ha => ?_
          have : a.s ≠ c.s := fun z => c1 (z ▸ (of_decide_eq_true (List.mem_filter.mp ha).2))
          rw [if_neg this]
          exact Int.le_refl _
        show D c.t - (H c.s - (sumF (fun a => posI a.g) U + sumF (fun a => posI a.g) X + N)) ≤ _
        omega
      · rw [pU _ c1, pU _ c2]
        have h1 := Hhi c.t hc2
        have h2 := H0 c.s hc1
        omega
end Sm

namespace Sm
open PySem
abbrev WAs (n : Nat) (as : List Ar) : Prop := ∀ a ∈ as, a.s < n ∧ a.t < n
/-! laps from nought, and potentials -/
theorem rx_up (b : BS) (a : Ar) (v : Nat) : b.h.getD v 0 ≤ (rx b a).h.getD v 0 := by
  unfold rx
  split
  · rename_i c
    show b.h.getD v 0 ≤ (b.h.set a.t (b.up a)).getD v 0
    by_cases z : a.t = v
    · subst z
      by_cases l : a.t < b.h.length
      · rw [getD_set_eq _ _ _ _ l]; omega
      · rw [List.set_eq_of_length_le (by omega)]; exact Int.le_refl _
    · rw [getD_set_ne _ _ _ z]; exact Int.le_refl _
  · exact Int.le_refl _
theorem fold_up : ∀ (as : List Ar) (b : BS) (v : Nat), b.h.getD v 0 ≤ (as.foldl rx b).h.getD v 0
  | [], b, v => Int.le_refl _
  | a :: as, b, v => Int.le_trans (rx_up b a v) (fold_up as (rx b a) v)
theorem fold_low : ∀ (as : List Ar) (b : BS), (∀ a ∈ as, a.t < b.h.length) → ∀ a ∈ as, b.h.getD a.s 0 + a.g ≤ (as.foldl rx b).h.getD a.t 0
  | [], _, _, a, ha => nomatch ha
  | x :: as, b, hl, a, ha => by
    rcases List.mem_cons.mp ha with rfl | ha
    · refine Int.le_trans ?_ (fold_up as (rx b a) a.t)
      unfold rx
      split
      · show _ ≤ (b.h.set a.t (b.up a)).getD a.t 0
        rw [getD_set_eq _ _ _ _ (hl a List.mem_cons_self)]
        exact Int.le_refl _
      · rename_i c
        unfold BS.up at c
        omega
    · have h1 := fold_low as (rx b x) (fun y hy => by rw [(rx_len b x).1]; exact hl y (List.mem_cons_of_mem _ hy)) a ha
      have h2 := rx_up b x a.s
      show _ ≤ (as.foldl rx (rx b x)).h.getD a.t 0
      omega
def inN (n : Nat) : Nat → Prop := fun u => u < n
theorem laps_low {as : List Ar} {n : Nat} (hA : WAs n as) : ∀ (k j v : Nat) (w : Int), j ≤ k → Wk as (inN n) j v w → w ≤ (laps as n k).h.getD v 0
  | 0, j, v, w, hj, h => by
    obtain rfl : j = 0 := by omega
    obtain ⟨hv, rfl⟩ := h
    show 0 ≤ (List.replicate n (0 : Int)).getD v 0
    rw [List.getD_eq_getElem?_getD, List.getElem?_replicate, if_pos (show v < n from hv)]
    exact Int.le_refl _
  | k + 1, j, v, w, hj, h => by
    by_cases c : j ≤ k
    · exact Int.le_trans (laps_low hA k j v w c h) (fold_up as { laps as n k with r := -1 } v)
    · obtain rfl : j = k + 1 := by omega
      obtain ⟨a, ha, ht, h2⟩ := h
      have h3 := laps_low hA k k a.s _ (Nat.le_refl _) h2
      have h4 := fold_low as { laps as n k with r := -1 } (fun x hx => by show x.t < (laps as n k).h.length; rw [(laps_len as n k).1]; exact (hA x hx).2) a ha
      rw [ht] at h4
      show w ≤ (as.foldl rx { laps as n k with r := -1 }).h.getD v 0
      have : (laps as n k).h.getD a.s 0 + a.g ≤ (as.foldl rx { laps as n k with r := -1 }).h.getD v 0 := h4
      omega
theorem fold_att {as : List Ar} {n : Nat} (hA : WAs n as) : ∀ (bs : List Ar) (b : BS), (∀ a ∈ bs, a ∈ as) → b.h.length = n → (∀ v, v < n → ∃ j, Wk as (inN n) j v (b.h.getD v 0)) → ∀ v, v < n → ∃ j, Wk as (inN n) j v ((bs.foldl rx b).h.getD v 0)
  | [], b, _, _, h => h
  | a :: bs, b, hs, hl, h => by
    refine fold_att hA bs (rx b a) (fun x hx => hs x (List.mem_cons_of_mem _ hx)) ((rx_len b a).1.trans hl) fun v hv => ?_
    have ha := hs a List.mem_cons_self
    unfold rx
    split
    · show ∃ j, Wk as (inN n) j v ((b.h.set a.t (b.up a)).getD v 0)
      by_cases z : a.t = v
      · subst z
        rw [getD_set_eq _ _ _ _ (by omega)]
        obtain ⟨j, hj⟩ := h a.s (hA a ha).1
        exact ⟨j + 1, hj.step ha⟩
      · rw [getD_set_ne _ _ _ z]; exact h v hv
    · exact h v hv
theorem laps_att {as : List Ar} {n : Nat} (hA : WAs n as) : ∀ (k v : Nat), v < n → ∃ j, Wk as (inN n) j v ((laps as n k).h.getD v 0)
  | 0, v, hv => by
    refine ⟨0, hv, ?_⟩
    show (List.replicate n (0 : Int)).getD v 0 = 0
    rw [List.getD_eq_getElem?_getD, List.getElem?_replicate, if_pos (show v < n from hv)]; rfl
  | k + 1, v, hv => fold_att hA as { laps as n k with r := -1 } (fun _ h => h) (laps_len as n k).1 (laps_att hA k) v hv
theorem fold_still : ∀ (as : List Ar) (b : BS), (∀ a ∈ as, b.h.getD a.s 0 + a.g ≤ b.h.getD a.t 0) → as.foldl rx b = b
  | [], b, _ => rfl
  | a :: as, b, h => by
    have e : rx b a = b := by
      unfold rx
      rw [if_neg (by have := h a List.mem_cons_self; unfold BS.up; omega)]
    show as.foldl rx (rx b a) = b
    rw [e]
    exact fold_still as b fun x hx => h x (List.mem_cons_of_mem _ hx)
/-- with a potential, behind n - 1 laps nothing rises -/
theorem pot_calm {as : List Ar} {n : Nat} (hA : WAs n as) (hP : Pot as) {k : Nat} (hk : n ≤ k + 1) : (laps as n (k + 1)).r = -1 := by
  have key : ∀ a ∈ as, (laps as n k).h.getD a.s 0 + a.g ≤ (laps as n k).h.getD a.t 0 := fun a ha => by
    obtain ⟨h1, h2⟩ := hA a ha
    obtain ⟨j, hj⟩ := laps_att hA k a.s h1
    obtain ⟨m, hm⟩ := Att.ex (n := n) hP (fun u hu => hu) (k := 0) (v := a.t) (w := 0) (as := as) (I := inN n) ⟨h2, rfl⟩
    obtain ⟨l, hl⟩ := hm.lev
    have h3 := hl.lt (n := n) (fun u hu => hu) fun x hx => (hA x hx).2
    have h4 := laps_low hA k l a.t m (by omega) hl.2.1
    have h5 := hm.2 _ _ (hj.step ha)
    omega
  have := fold_still as { laps as n k with r := -1 } key
  show (as.foldl rx { laps as n k with r := -1 }).r = -1
  rw [this]
theorem calm_pot {as : List Ar} {n k : Nat} (h : (laps as n (k + 1)).r = -1) : Pot as := by
  obtain ⟨_, h2⟩ := fold_calm as { laps as n k with r := -1 } h
  exact ⟨fun v => (laps as n k).h.getD v 0, h2⟩
/-! ways from one place -/
def relO (h : List (Option Int)) (a : Ar) : Bool := match h.getD a.s none with
  | none => false
  | some x => match h.getD a.t none with
    | none => true
    | some y => decide (y < x + a.g)
def upO (h : List (Option Int)) (a : Ar) : Option Int := (h.getD a.s none).map fun x => x + a.g
def rxO (h : List (Option Int)) (a : Ar) : List (Option Int) := if relO h a = true then h.set a.t (upO h a) else h
def way0 (n src : Nat) : List (Option Int) := (List.replicate n none).set src (some 0)
def ways (as : List Ar) (n src : Nat) : Nat → List (Option Int)
  | 0 => way0 n src
  | k + 1 => as.foldl rxO (ways as n src k)
theorem rxO_len (h : List (Option Int)) (a : Ar) : (rxO h a).length = h.length := by
  unfold rxO
  split
  · exact List.length_set
  · rfl
theorem foldO_len : ∀ (as : List Ar) (h : List (Option Int)), (as.foldl rxO h).length = h.length
  | [], h => rfl
  | a :: as, h => (foldO_len as (rxO h a)).trans (rxO_len h a)
theorem ways_len (as : List Ar) (n src : Nat) : ∀ k, (ways as n src k).length = n
  | 0 => by unfold ways way0; rw [List.length_set, List.length_replicate]
  | k + 1 => (foldO_len as _).trans (ways_len as n src k)
/-- at least so much -/
def geO (x : Option Int) (w : Int) : Prop := ∃ y, x = some y ∧ w ≤ y
theorem geO.mono {x : Option Int} {w w' : Int} (h : geO x w) (hw : w' ≤ w) : geO x w' := by
  obtain ⟨y, e, h2⟩ := h
  exact ⟨y, e, by omega⟩
theorem rxO_up {h : List (Option Int)} {a : Ar} {v : Nat} {w : Int} (q : geO (h.getD v none) w) : geO ((rxO h a).getD v none) w := by
  unfold rxO
  split
  · rename_i c
    by_cases z : a.t = v
    · subst z
      by_cases l : a.t < h.length
      · rw [getD_set_eq _ _ _ _ l]
        unfold relO at c
        unfold upO
        obtain ⟨y, e, h2⟩ := q
        cases e1 : h.getD a.s none with
        | none => rw [e1] at c; cases c
        | some x =>
          rw [e1, e] at c
          have c' := of_decide_eq_true c
          exact ⟨x + a.g, rfl, by omega⟩
      · rw [List.set_eq_of_length_le (by omega)]; exact q
    · rw [getD_set_ne _ _ _ z]; exact q
  · exact q
theorem foldO_up : ∀ (as : List Ar) {h : List (Option Int)} {v : Nat} {w : Int}, geO (h.getD v none) w → geO ((as.foldl rxO h).getD v none) w
  | [], _, _, _, q => q
  | a :: as, _, _, _, q => foldO_up as (rxO_up q)
theorem rxO_low {h : List (Option Int)} {a : Ar} {w : Int} (hl : a.t < h.length) (q : geO (h.getD a.s none) w) : geO ((rxO h a).getD a.t none) (w + a.g) := by
  obtain ⟨x, e, h2⟩ := q
  unfold rxO
  split
  · rw [getD_set_eq _ _ _ _ hl]
    unfold upO
    rw [e]
    exact ⟨x + a.g, rfl, by omega⟩
  · rename_i c
    unfold relO at c
    rw [e] at c
    cases e2 : h.getD a.t none with
    | none => rw [e2] at c; exact absurd rfl c
    | some y =>
      rw [e2] at c
      have c' : ¬ y < x + a.g := fun z => c (decide_eq_true z)
      exact ⟨y, rfl, by omega⟩
theorem foldO_low : ∀ (as : List Ar) {h : List (Option Int)} {w : Int}, (∀ a ∈ as, a.t < h.length) → ∀ a ∈ as, geO (h.getD a.s none) w → geO ((as.foldl rxO h).getD a.t none) (w + a.g)
  | [], _, _, _, a, ha, _ => nomatch ha
  | x :: as, h, w, hl, a, ha, q => by
    rcases List.mem_cons.mp ha with rfl | ha
    · exact foldO_up as (rxO_low (hl a List.mem_cons_self) q)
    · exact foldO_low as (fun y hy => by rw [rxO_len]; exact hl y (List.mem_cons_of_mem _ hy)) a ha (rxO_up q)
theorem way0_src {n src : Nat} (h : src < n) : (way0 n src).getD src none = some 0 := by
  unfold way0
  rw [getD_set_eq _ _ _ _ (by rw [List.length_replicate]; exact h)]
theorem way0_ne {n src v : Nat} (h : src ≠ v) : (way0 n src).getD v none = none := by
  unfold way0
  rw [getD_set_ne _ _ _ h, List.getD_eq_getElem?_getD, List.getElem?_replicate]
  split <;> rfl
def isS (src : Nat) : Nat → Prop := fun u => u = src
theorem ways_low {as : List Ar} {n src : Nat} (hA : WAs n as) (hs : src < n) : ∀ (k j v : Nat) (w : Int), j ≤ k → Wk as (isS src) j v w → geO ((ways as n src k).getD v none) w
  | 0, j, v, w, hj, h => by
    obtain rfl : j = 0 := by omega
    obtain ⟨hv, rfl⟩ := h
    have hv' : v = src := hv
    subst hv'
    exact ⟨0, way0_src hs, Int.le_refl _⟩
  | k + 1, j, v, w, hj, h => by
    by_cases c : j ≤ k
    · exact foldO_up as (ways_low hA hs k j v w c h)
    · obtain rfl : j = k + 1 := by omega
      obtain ⟨a, ha, ht, h2⟩ := h
      have h3 := ways_low hA hs k k a.s _ (Nat.le_refl _) h2
      have h4 := foldO_low as (h := ways as n src k) (fun x hx => by rw [ways_len]; exact (hA x hx).2) a ha h3
      rw [ht, show w - a.g + a.g = w by omega] at h4
      exact h4
def attO (as : List Ar) (src n : Nat) (h : List (Option Int)) : Prop := h.length = n ∧ ∀ v x, h.getD v none = some x → ∃ j, Wk as (isS src) j v x
theorem attO.rx {as : List Ar} {src n : Nat} {h : List (Option Int)} {a : Ar} (q : attO as src n h) (ha : a ∈ as) (ht : a.t < n) : attO as src n (rxO h a) := by
  refine ⟨(rxO_len h a).trans q.1, fun v x hx => ?_⟩
  unfold rxO at hx
  split at hx
  · rename_i c
    by_cases z : a.t = v
    · subst z
      rw [getD_set_eq _ _ _ _ (by rw [q.1]; exact ht)] at hx
      unfold upO at hx
      cases e : h.getD a.s none with
      | none => rw [e] at hx; cases hx
      | some y =>
        rw [e] at hx
        cases hx
        obtain ⟨j, hj⟩ := q.2 a.s y e
        exact ⟨j + 1, hj.step ha⟩
    · rw [getD_set_ne _ _ _ z] at hx
      exact q.2 v x hx
  · exact q.2 v x hx
theorem attO.fold {as : List Ar} {src n : Nat} (hA : WAs n as) : ∀ (bs : List Ar) {h : List (Option Int)}, (∀ a ∈ bs, a ∈ as) → attO as src n h → attO as src n (bs.foldl rxO h)
  | [], _, _, q => q
  | a :: bs, _, hs, q => attO.fold hA bs (fun x hx => hs x (List.mem_cons_of_mem _ hx)) (q.rx (hs a List.mem_cons_self) (hA a (hs a List.mem_cons_self)).2)
theorem ways_att {as : List Ar} {n src : Nat} (hA : WAs n as) (hs : src < n) : ∀ k, attO as src n (ways as n src k)
  | 0 => ⟨ways_len as n src 0, fun v x hx => by
    by_cases z : src = v
    · subst z
      have hx' : (way0 n src).getD src none = some x := hx
      rw [way0_src hs] at hx'
      cases hx'
      exact ⟨0, rfl, rfl⟩
    · have hx' : (way0 n src).getD v none = some x := hx
      rw [way0_ne z] at hx'
      cases hx'⟩
  | k + 1 => attO.fold hA as (fun _ h => h) (ways_att hA hs k)
/-- behind n - 1 laps each way is the longest -/
theorem ways_max {as : List Ar} {n src : Nat} (hA : WAs n as) (hs : src < n) (hP : Pot as) {k v : Nat} (hk : n ≤ k + 1) {m : Int} (hm : Att as (isS src) v m) : (ways as n src k).getD v none = some m := by
  obtain ⟨l, hl⟩ := hm.lev
  have h3 := hl.lt (n := n) (fun u hu => by rw [show u = src from hu]; exact hs) fun x hx => (hA x hx).2
  obtain ⟨y, e, hy⟩ := ways_low hA hs k l v m (by omega) hl.2.1
  obtain ⟨j, hj⟩ := (ways_att hA hs k).2 v y e
  have := hm.2 j y hj
  rw [e]
  congr 1
  omega
theorem ways_fix {as : List Ar} {n src : Nat} (hA : WAs n as) (hs : src < n) (hP : Pot as) {k : Nat} (hk : n ≤ k + 1) : ∀ a ∈ as, relO (ways as n src k) a = false := fun a ha => by
  have hI : ∀ u, isS src u → u < n := fun u hu => by rw [show u = src from hu]; exact hs
  unfold relO
  cases e : (ways as n src k).getD a.s none with
  | none => rfl
  | some x =>
    obtain ⟨j, hj⟩ := (ways_att hA hs k).2 a.s x e
    have hj2 := hj.step ha
    obtain ⟨m, hm⟩ := Att.ex hP hI hj2
    rw [ways_max hA hs hP hk hm]
    have := hm.2 _ _ hj2
    show decide (m < x + a.g) = false
    rw [decide_eq_false (by omega)]
theorem foldO_still : ∀ (as : List Ar) (h : List (Option Int)), (∀ a ∈ as, relO h a = false) → as.foldl rxO h = h
  | [], h, _ => rfl
  | a :: as, h, q => by
    have e : rxO h a = h := by unfold rxO; rw [if_neg (by rw [q a List.mem_cons_self]; exact Bool.false_ne_true)]
    show as.foldl rxO (rxO h a) = h
    rw [e]
    exact foldO_still as h fun x hx => q x (List.mem_cons_of_mem _ hx)
theorem ways_from {as : List Ar} {n src k : Nat} (h : ∀ a ∈ as, relO (ways as n src k) a = false) : ∀ j, ways as n src (k + j) = ways as n src k
  | 0 => rfl
  | j + 1 => by
    show as.foldl rxO (ways as n src (k + j)) = _
    rw [ways_from h j]
    exact foldO_still as _ h
/-- a lap with its flag -/
def rxF (q : List (Option Int) × Bool) (a : Ar) : List (Option Int) × Bool := (rxO q.1 a, q.2 || relO q.1 a)
theorem foldF_eq : ∀ (as : List Ar) (q : List (Option Int) × Bool), (as.foldl rxF q).1 = as.foldl rxO q.1
  | [], q => rfl
  | a :: as, q => foldF_eq as (rxF q a)
theorem foldF_true : ∀ (as : List Ar) (q : List (Option Int) × Bool), q.2 = true → (as.foldl rxF q).2 = true
  | [], q, h => h
  | a :: as, q, h => foldF_true as (rxF q a) (by show (q.2 || relO q.1 a) = true; rw [h]; rfl)
theorem foldF_false : ∀ (as : List Ar) (q : List (Option Int) × Bool), (as.foldl rxF q).2 = false → ∀ a ∈ as, relO q.1 a = false
  | [], _, _, a, ha => nomatch ha
  | x :: as, q, h, a, ha => by
    have h0 : (q.2 || relO q.1 x) = false := by
      cases e : (q.2 || relO q.1 x) with
      | false => rfl
      | true =>
        have := foldF_true as (rxF q x) e
        have h' : (as.foldl rxF (rxF q x)).2 = false := h
        rw [this] at h'; cases h'
    have h1 : relO q.1 x = false := by cases e : relO q.1 x with
      | false => rfl
      | true => rw [e, Bool.or_true] at h0; cases h0
    rcases List.mem_cons.mp ha with rfl | ha
    · exact h1
    · have e : rxO q.1 x = q.1 := by unfold rxO; rw [if_neg (by rw [h1]; exact Bool.false_ne_true)]
      have := foldF_false as (rxF q x) h a ha
      have e2 : (rxF q x).1 = q.1 := e
      rw [e2] at this
      exact this
theorem foldF_still : ∀ (as : List Ar) (h : List (Option Int)), (∀ a ∈ as, relO h a = false) → (as.foldl rxF (h, false)).2 = false
  | [], h, _ => rfl
  | a :: as, h, q => by
    have q1 := q a List.mem_cons_self
    have e : rxF (h, false) a = (h, false) := by
      unfold rxF rxO
      show (if relO h a = true then _ else h, (false || relO h a)) = _
      rw [q1]; rfl
    show (as.foldl rxF (rxF (h, false) a)).2 = false
    rw [e]
    exact foldF_still as h fun x hx => q x (List.mem_cons_of_mem _ hx)
end Sm

namespace Sm
open PySem
/-! rings -/
instance : Inhabited Ar := ⟨⟨"", 0, 0, 0, 0⟩⟩
def Pth : Nat → List Ar → Nat → Prop
  | x, [], y => x = y
  | x, a :: R, y => a.s = x ∧ Pth a.t R y
theorem Pth.app {x y z : Nat} : ∀ {R S : List Ar}, Pth x R y → Pth y S z → Pth x (R ++ S) z
  | [], S, h, h2 => by rw [show x = y from h]; exact h2
  | a :: R, S, ⟨h1, h⟩, h2 => ⟨h1, Pth.app h h2⟩
theorem Pth.feas {as : List Ar} {p : Nat → Int} (hp : Feas as p) : ∀ {R : List Ar} {x y : Nat}, (∀ a ∈ R, a ∈ as) → Pth x R y → p x + sumF (fun a => a.g) R ≤ p y
  | [], x, y, _, h => by rw [show x = y from h]; show p y + 0 ≤ p y; omega
  | a :: R, x, y, hm, ⟨h1, h⟩ => by
    have h2 := Pth.feas hp (fun b hb => hm b (List.mem_cons_of_mem _ hb)) h
    have h3 := hp a (hm a List.mem_cons_self)
    rw [h1] at h3
    show p x + (a.g + sumF (fun a => a.g) R) ≤ p y
    omega
theorem sumF_app (f : Ar → Int) : ∀ {as bs : List Ar}, sumF f (as ++ bs) = sumF f as + sumF f bs
  | [], bs => by show sumF f bs = 0 + sumF f bs; omega
  | a :: as, bs => by
    have := sumF_app f (as := as) (bs := bs)
    show f a + sumF f (as ++ bs) = f a + sumF f as + sumF f bs
    omega
theorem sumF_rev (f : Ar → Int) : ∀ {as : List Ar}, sumF f as.reverse = sumF f as
  | [] => rfl
  | a :: as => by
    rw [List.reverse_cons, sumF_app, sumF_rev f]
    show sumF f as + (f a + 0) = f a + sumF f as
    omega
structure Ring (as : List Ar) (R : List Ar) : Prop where
  ne : R ≠ []
  mem : ∀ a ∈ R, a ∈ as
  cl : ∃ x, Pth x R x
  nd : (R.map fun a => a.s).Nodup
theorem Ring.feas {as R : List Ar} {p : Nat → Int} (h : Ring as R) (hp : Feas as p) : sumF (fun a => a.g) R ≤ 0 := by
  obtain ⟨x, hx⟩ := h.cl
  have := Pth.feas hp h.mem hx
  omega
/-- when each height was set -/
structure Tk (b : BS) (T : Nat → Nat) (c : Nat) : Prop where
  le : ∀ v, T v ≤ c
  i : ∀ v a, b.l.getD v none = some a → b.h.getD v 0 ≤ b.h.getD a.s 0 + a.g ∧ (T v ≤ T a.s → b.h.getD v 0 < b.h.getD a.s 0 + a.g)
theorem Tk.step {b : BS} {T : Nat → Nat} {c : Nat} {a : Ar} (K : Tk b T c) (h1 : a.t < b.h.length) (h2 : a.t < b.l.length) : ∃ T', Tk (rx b a) T' (c + 1) := by
  by_cases z : b.h.getD a.t 0 < b.up a
  · have e : rx b a = { h := b.h.set a.t (b.up a), l := b.l.set a.t (some a), r := (a.t : Int) } := by unfold rx; rw [if_pos z]
    rw [e]
    refine ⟨fun v => if v = a.t then c + 1 else T v, fun v => ?_, fun v x hx => ?_⟩
    · show (if v = a.t then c + 1 else T v) ≤ c + 1
      have := K.le v
      split <;> omega
    · show (b.h.set a.t (b.up a)).getD v 0 ≤ (b.h.set a.t (b.up a)).getD x.s 0 + x.g ∧ ((if v = a.t then c + 1 else T v) ≤ (if x.s = a.t then c + 1 else T x.s) → (b.h.set a.t (b.up a)).getD v 0 < (b.h.set a.t (b.up a)).getD x.s 0 + x.g)
      by_cases hv : v = a.t
      · subst hv
        have hx' : (b.l.set a.t (some a)).getD a.t none = some x := hx
        rw [getD_set_eq _ _ _ _ h2] at hx'
        cases hx'
        rw [getD_set_eq _ _ _ _ h1, if_pos rfl]
        by_cases hs : a.s = a.t
        · rw [hs, getD_set_eq _ _ _ _ h1]
          have : b.up a = b.h.getD a.t 0 + a.g := by unfold BS.up; rw [hs]
          refine ⟨by omega, fun _ => by omega⟩
        · rw [getD_set_ne _ _ _ (Ne.symm hs), if_neg hs]
          refine ⟨Int.le_refl _, fun q => ?_⟩
          have := K.le a.s
          omega
      · have hx' : (b.l.set a.t (some a)).getD v none = some x := hx
        rw [getD_set_ne _ _ _ (Ne.symm hv)] at hx'
        obtain ⟨q1, q2⟩ := K.i v x hx'
        rw [getD_set_ne _ _ _ (Ne.symm hv), if_neg hv]
        by_cases hs : x.s = a.t
        · rw [hs, getD_set_eq _ _ _ _ h1, if_pos rfl]
          rw [hs] at q1
          refine ⟨by omega, fun _ => by omega⟩
        · rw [getD_set_ne _ _ _ (Ne.symm hs), if_neg hs]
          exact ⟨q1, q2⟩
  · have e : rx b a = b := by unfold rx; rw [if_neg z]
    rw [e]
    exact ⟨T, fun v => Nat.le_succ_of_le (K.le v), K.i⟩
theorem Tk.fold : ∀ (as : List Ar) {b : BS} {T : Nat → Nat} {c : Nat}, (∀ a ∈ as, a.t < b.h.length ∧ a.t < b.l.length) → Tk b T c → ∃ T' c', Tk (as.foldl rx b) T' c'
  | [], b, T, c, _, K => ⟨T, c, K⟩
  | a :: as, b, T, c, h, K => by
    obtain ⟨h1, h2⟩ := h a List.mem_cons_self
    obtain ⟨T1, K1⟩ := K.step h1 h2
    obtain ⟨l1, l2⟩ := rx_len b a
    exact Tk.fold as (fun x hx => by rw [l1, l2]; exact h x (List.mem_cons_of_mem _ hx)) K1
theorem Tk_laps {as : List Ar} {n : Nat} (hA : WAs n as) : ∀ k, ∃ T c, Tk (laps as n k) T c
  | 0 => ⟨fun _ => 0, 0, fun _ => Nat.le_refl _, fun v a h => repl_none (n := n) (v := v) (a := a) h⟩
  | k + 1 => by
    obtain ⟨T, c, K⟩ := Tk_laps hA k
    obtain ⟨l1, l2⟩ := laps_len as n k
    refine Tk.fold as (b := { laps as n k with r := -1 }) (T := T) (c := c) (fun a ha => ?_) ⟨K.le, K.i⟩
    exact ⟨by show a.t < (laps as n k).h.length; rw [l1]; exact (hA a ha).2, by show a.t < (laps as n k).l.length; rw [l2]; exact (hA a ha).2⟩
def arcAt (b : BS) (v m : Nat) : Ar := (b.l.getD (chn b v m) none).getD default
/-- the arcs back from a place, the last one ahead -/
def backL (b : BS) (v n d : Nat) : List Ar := (List.range d).map fun i => arcAt b v (n + i)
theorem backL_succ (b : BS) (v n d : Nat) : backL b v n (d + 1) = backL b v n d ++ [arcAt b v (n + d)] := by
  unfold backL
  rw [List.range_succ, List.map_append]; rfl
structure Chain (as : List Ar) (b : BS) (v : Nat) : Prop where
  all : ∀ m, ∃ a ∈ as, b.l.getD (chn b v m) none = some a ∧ a.t = chn b v m ∧ a.s = chn b v (m + 1)
theorem Chain.at {as : List Ar} {b : BS} {v : Nat} (C : Chain as b v) (m : Nat) : b.l.getD (chn b v m) none = some (arcAt b v m) ∧ arcAt b v m ∈ as ∧ (arcAt b v m).t = chn b v m ∧ (arcAt b v m).s = chn b v (m + 1) := by
  obtain ⟨a, h1, h2, h3, h4⟩ := C.all m
  have e : arcAt b v m = a := by unfold arcAt; rw [h2]; rfl
  rw [e]
  exact ⟨h2, h1, h3, h4⟩
theorem Chain.pth {as : List Ar} {b : BS} {v : Nat} (C : Chain as b v) (n : Nat) : ∀ d, Pth (chn b v (n + d)) (backL b v n d).reverse (chn b v n)
  | 0 => rfl
  | d + 1 => by
    obtain ⟨_, _, h3, h4⟩ := C.at (n + d)
    rw [backL_succ, List.reverse_append]
    refine ⟨h4, ?_⟩
    rw [h3]
    exact C.pth n d
theorem Chain.sum {as : List Ar} {b : BS} {v : Nat} (C : Chain as b v) {T : Nat → Nat} {c : Nat} (K : Tk b T c) (n : Nat) : ∀ d,
    b.h.getD (chn b v n) 0 < b.h.getD (chn b v (n + d)) 0 + sumF (fun a => a.g) (backL b v n d) ∨ (b.h.getD (chn b v n) 0 ≤ b.h.getD (chn b v (n + d)) 0 + sumF (fun a => a.g) (backL b v n d) ∧ T (chn b v (n + d)) + d ≤ T (chn b v n))
  | 0 => .inr ⟨by show _ ≤ _ + 0; rw [Nat.add_zero]; omega, Nat.le_refl _⟩
  | d + 1 => by
    have ih := C.sum K n d
    obtain ⟨h1, _, _, h4⟩ := C.at (n + d)
    obtain ⟨q1, q2⟩ := K.i _ _ h1
    rw [h4] at q1 q2
    rw [backL_succ, sumF_app]
    have es : sumF (fun a => a.g) [arcAt b v (n + d)] = (arcAt b v (n + d)).g := by show (arcAt b v (n + d)).g + 0 = _; omega
    rw [es, show n + (d + 1) = n + d + 1 by omega]
    rcases ih with ih | ⟨ih, it⟩
    · exact .inl (by omega)
    · by_cases z : T (chn b v (n + d)) ≤ T (chn b v (n + d + 1))
      · have := q2 z
        exact .inl (by omega)
      · exact .inr ⟨by omega, by omega⟩
/-- behind n + 1 laps that all rose: the ring that is told -/
theorem ring_pos {as : List Ar} {b : BS} {v n d : Nat} (C : Chain as b v) {T : Nat → Nat} {c : Nat} (K : Tk b T c) (hd : 1 ≤ d) (e : chn b v (n + d) = chn b v n) (hm : ∀ i, 1 ≤ i → i < d → chn b v (n + i) ≠ chn b v n) :
    Ring as (backL b v n d).reverse ∧ 0 < sumF (fun a => a.g) (backL b v n d).reverse := by
  have per : ∀ i m, chn b v (n + i) = chn b v n → chn b v (n + i + m) = chn b v (n + m) := fun i m h => by
    induction m with
    | zero => exact h
    | succ m ih => show Sm.pre b (chn b v (n + i + m)) = Sm.pre b (chn b v (n + m)); rw [ih]
  have sh : ∀ i j, chn b v (n + i) = chn b v (n + j) → ∀ m, chn b v (n + i + m) = chn b v (n + j + m) := fun i j h m => by
    induction m with
    | zero => exact h
    | succ m ih => show Sm.pre b (chn b v (n + i + m)) = Sm.pre b (chn b v (n + j + m)); rw [ih]
  refine ⟨⟨fun z => ?_, fun a ha => ?_, ⟨chn b v n, ?_⟩, ?_⟩, ?_⟩
  · have := congrArg List.length z
    rw [List.length_reverse] at this
    unfold backL at this
    rw [List.length_map, List.length_range] at this
    exact absurd this (by show d ≠ 0; omega)
  · rw [List.mem_reverse] at ha
    obtain ⟨i, _, rfl⟩ := List.mem_map.mp ha
    exact (C.at (n + i)).2.1
  · have := C.pth n d
    rw [e] at this
    exact this
  · rw [List.map_reverse]
    unfold backL
    rw [List.map_map]
    unfold List.Nodup
    rw [List.pairwise_reverse, List.pairwise_map]
    refine List.Pairwise.imp_of_mem ?_ (List.pairwise_lt_range (n := d))
    intro i j hi hj hij z
    have hi' := List.mem_range.mp hi
    have hj' := List.mem_range.mp hj
    have z' : (arcAt b v (n + i)).s = (arcAt b v (n + j)).s := z.symm
    rw [(C.at (n + i)).2.2.2, (C.at (n + j)).2.2.2] at z'
    -- go on to the end of the round
    have z2 := sh (i + 1) (j + 1) z' (d - (j + 1))
    rw [show n + (j + 1) + (d - (j + 1)) = n + d by omega, e] at z2
    exact hm (i + 1 + (d - (j + 1))) (by omega) (by omega) (by rw [← z2]; congr 1; omega)
  · rw [sumF_rev]
    rcases C.sum K n d with h | ⟨h, ht⟩
    · rw [e] at h; omega
    · rw [e] at ht; omega
end Sm

namespace Sm
open PySem
/-! rates: fractions -/
theorem gcd_step (x y : Nat) : Nat.gcd y (x % y) = Nat.gcd x y := by rw [Nat.gcd_comm x y, Nat.gcd_rec y x, Nat.gcd_comm]
theorem cop_eq {a b c d : Nat} (h1 : Nat.Coprime a b) (h2 : Nat.Coprime c d) (e : a * d = c * b) (hb : 0 < b) : a = c ∧ b = d := by
  have d1 : b ∣ d := (Nat.Coprime.dvd_of_dvd_mul_left (k := b) (m := a) (n := d) h1.symm (by rw [e]; exact Nat.dvd_mul_left _ _))
  have d2 : d ∣ b := (Nat.Coprime.dvd_of_dvd_mul_left (k := d) (m := c) (n := b) h2.symm (by rw [← e]; exact Nat.dvd_mul_left _ _))
  have e2 := Nat.dvd_antisymm d1 d2
  subst e2
  exact ⟨Nat.eq_of_mul_eq_mul_right hb e, rfl⟩
/-- a fraction's place on a fine scale -/
def mu (a b : Nat) : Nat := a * 10000000000 / b
theorem mu_lt {a b a' b' : Nat} (hb : 0 < b) (hb' : 0 < b') (l1 : b ≤ 100000) (l2 : b' ≤ 100000) (h : a' * b < a * b') : mu a' b' < mu a b := by
  unfold mu
  refine Nat.lt_of_lt_of_le (Nat.lt_succ_self _) ?_
  rw [Nat.le_div_iff_mul_le hb]
  have hx : a' * 10000000000 / b' * b' ≤ a' * 10000000000 := Nat.div_mul_le_self _ _
  generalize a' * 10000000000 / b' = x at hx ⊢
  refine Nat.le_of_mul_le_mul_right (c := b') ?_ hb'
  have h1 : x * b' * b ≤ a' * 10000000000 * b := Nat.mul_le_mul_right b hx
  have h2 : b * b' ≤ 10000000000 := Nat.le_trans (Nat.mul_le_mul l1 l2) (by decide)
  have h3 : (a' * b + 1) * 10000000000 ≤ a * b' * 10000000000 := Nat.mul_le_mul_right _ h
  have e1 : (x + 1) * b * b' = x * b' * b + b * b' := by
    rw [Nat.add_mul, Nat.one_mul, Nat.add_mul, Nat.mul_right_comm]
  have e2 : a' * 10000000000 * b = a' * b * 10000000000 := Nat.mul_right_comm _ _ _
  have e3 : a * 10000000000 * b' = a * b' * 10000000000 := Nat.mul_right_comm _ _ _
  rw [Nat.add_mul] at h3
  show (x + 1) * b * b' ≤ a * 10000000000 * b'
  rw [e1, e3]
  omega
def lowA (k d : Nat) : Nat := k / Nat.gcd k d
def lowB (k d : Nat) : Nat := d / Nat.gcd k d
theorem low_mul (k d : Nat) : lowA k d * Nat.gcd k d = k ∧ lowB k d * Nat.gcd k d = d := ⟨Nat.div_mul_cancel (Nat.gcd_dvd_left k d), Nat.div_mul_cancel (Nat.gcd_dvd_right k d)⟩
theorem low_cop {k d : Nat} (hd : 0 < d) : Nat.Coprime (lowA k d) (lowB k d) := Nat.coprime_div_gcd_div_gcd (Nat.gcd_pos_of_pos_right k hd)
theorem low_pos {k d : Nat} (hd : 0 < d) : 0 < lowB k d := by
  have h := (low_mul k d).2
  rcases Nat.eq_zero_or_pos (lowB k d) with z | z
  · rw [z, Nat.zero_mul] at h; omega
  · exact z
theorem low_le (k d : Nat) : lowB k d ≤ d ∧ lowA k d ≤ k := ⟨Nat.div_le_self _ _, Nat.div_le_self _ _⟩
theorem low_cross (k d : Nat) : k * lowB k d = d * lowA k d := by
  obtain ⟨h1, h2⟩ := low_mul k d
  generalize lowA k d = a at *
  generalize lowB k d = b at *
  generalize Nat.gcd k d = g at *
  rw [← h1, ← h2, Nat.mul_right_comm, Nat.mul_comm a b, ← Nat.mul_right_comm, Nat.mul_right_comm]
/-- from the cross products of a ring to those of its fraction -/
theorem low_lt {k d a b : Nat} (hd : 0 < d) (h : k * b < a * d) : lowA k d * b < a * lowB k d := by
  obtain ⟨h1, h2⟩ := low_mul k d
  have hg : 0 < Nat.gcd k d := Nat.gcd_pos_of_pos_right k hd
  refine Nat.lt_of_mul_lt_mul_right (a := Nat.gcd k d) ?_
  have e1 : lowA k d * b * Nat.gcd k d = k * b := by rw [Nat.mul_right_comm, h1]
  have e2 : a * lowB k d * Nat.gcd k d = a * d := by rw [Nat.mul_assoc, h2]
  rw [e1, e2]; exact h
end Sm

namespace Sm
namespace K13
open PySem L2 PyProof.Rows
def top (i : Nat) : Stmt := PySem.Challenge.pw_fullspeed_k13_arcs_rings_judged.main.body.getD i (.Pass ⟨0, 0, 0, 0⟩)
structure Txt (P : Program) (w : World) (K : PySem.W.Frag) (mg : Str → Option Value) (base : Heap) (aBadStep aSpeedError : Addr) : Prop where
  nlen : mg "len" = none
  nint : mg "int" = none
  nstr : mg "str" = none
  nbool : mg "bool" = none
  ntuple : mg "tuple" = none
  nlist : mg "list" = none
  nmax : mg "max" = none
  nmin : mg "min" = none
  nrange : mg "range" = none
  nisinstance : mg "isinstance" = none
  nsum : mg "sum" = none
  nabs : mg "abs" = none
  nset : mg "set" = none
  nsorted : mg "sorted" = none
theorem boot_tuple : bootBuiltins "tuple" = some (.type "tuple") := by decide +kernel
theorem boot_list : bootBuiltins "list" = some (.type "list") := by decide +kernel
theorem boot_bool : bootBuiltins "bool" = some (.type "bool") := by decide +kernel
theorem boot_str : bootBuiltins "str" = some (.type "str") := by decide +kernel
theorem boot_min : bootBuiltins "min" = some (.builtin "min") := by decide +kernel
theorem boot_max : bootBuiltins "max" = some (.builtin "max") := by decide +kernel
section
variable {P : Program} {w : World} {K : PySem.W.Frag} {mg : Str → Option Value} {base : Heap} {aBadStep aSpeedError : Addr}

/-! is_row -/
abbrev d_is_row : Stmt := top 1
def s_is_row : Fr → SO := (sRet (eAnd (eBu gIsi (aCons (eV 0) (aCons (eC (.ty "tuple")) aNil))) (eBin gEq (eB1 gLen (eV 0)) (eV 1))))
def g_is_row : List MV → FO := runB 2 s_is_row
theorem sc_is_row : FnScope ["thing", "many"] ["thing", "many"] (defScope d_is_row) := ⟨rfl, rfl, rfl, by decide +kernel, rfl, by decide +kernel, by decide +kernel⟩
theorem ok_is_row {f : Addr} {fd : FuncData} (T : Txt P w K mg base aBadStep aSpeedError) (F : Fun K "is_row" "is_row" d_is_row f fd) : FnSim P w K mg base (caB aBadStep) 1 f fd ["thing", "many"] g_is_row := by
  have nd := sc_is_row.nd
  exact FnSim.of F sc_is_row fun cdv A outer sh H E hr =>
  (sss_one (ss_ret (se_and (se_buB bu_isi (by rfl) T.nisinstance boot_isinstance (sa_cons (sv 0) (sa_cons (se_bty (by rfl) T.ntuple boot_tuple) sa_nil))) (se_one (se_cmp (ops_eq (hu hr)) (se_b1B (by rfl) T.nlen (hb := b1_len) (hv := boot_len) (ha := (sv 0))) (sv 1))))))

/-! along -/
abbrev d_along : Stmt := top 3
def s_along : Fr → SO := (sSeq (sPar 2 3 (aCons (eIx (eIx (eIx (eV 0) (eC (.int 1))) (eV 1)) (eC (.int 0))) (aCons (eIx (eIx (eIx (eV 0) (eC (.int 1))) (eV 1)) (eC (.int 1))) aNil)))
  (sRet (eTup (aCons (eC (.str "along")) (aCons (eV 1) (aCons (eV 2) (aCons (eV 3) aNil)))))))
def g_along : List MV → FO := runB 4 s_along
theorem sc_along : FnScope ["network", "channel", "source", "target"] ["network", "channel"] (defScope d_along) := ⟨rfl, rfl, rfl, by decide +kernel, rfl, by decide +kernel, by decide +kernel⟩
theorem ok_along {f : Addr} {fd : FuncData} (T : Txt P w K mg base aBadStep aSpeedError) (F : Fun K "along" "along" d_along f fd) : FnSim P w K mg base (caB aBadStep) 1 f fd ["network", "channel"] g_along := by
  have nd := sc_along.nd
  exact FnSim.of F sc_along fun cdv A outer sh H E hr =>
  (sss_cons (ss_par rfl nd rfl rfl (by decide) rfl rfl (sa_cons (se_ix (se_ix (se_ix (sv 0) se_int) (sv 1)) se_int) (sa_cons (se_ix (se_ix (se_ix (sv 0) se_int) (sv 1)) se_int) sa_nil)))
  (sss_one (ss_ret (se_tup (sa_cons se_str (sa_cons (sv 1) (sa_cons (sv 2) (sa_cons (sv 3) sa_nil))))))))

/-! against -/
abbrev d_against : Stmt := top 4
def s_against : Fr → SO := (sSeq (sPar 2 3 (aCons (eIx (eIx (eIx (eV 0) (eC (.int 1))) (eV 1)) (eC (.int 0))) (aCons (eIx (eIx (eIx (eV 0) (eC (.int 1))) (eV 1)) (eC (.int 1))) aNil)))
  (sRet (eTup (aCons (eC (.str "against")) (aCons (eV 1) (aCons (eV 3) (aCons (eV 2) aNil)))))))
def g_against : List MV → FO := runB 4 s_against
theorem sc_against : FnScope ["network", "channel", "source", "target"] ["network", "channel"] (defScope d_against) := ⟨rfl, rfl, rfl, by decide +kernel, rfl, by decide +kernel, by decide +kernel⟩
theorem ok_against {f : Addr} {fd : FuncData} (T : Txt P w K mg base aBadStep aSpeedError) (F : Fun K "against" "against" d_against f fd) : FnSim P w K mg base (caB aBadStep) 1 f fd ["network", "channel"] g_against := by
  have nd := sc_against.nd
  exact FnSim.of F sc_against fun cdv A outer sh H E hr =>
  (sss_cons (ss_par rfl nd rfl rfl (by decide) rfl rfl (sa_cons (se_ix (se_ix (se_ix (sv 0) se_int) (sv 1)) se_int) (sa_cons (se_ix (se_ix (se_ix (sv 0) se_int) (sv 1)) se_int) sa_nil)))
  (sss_one (ss_ret (se_tup (sa_cons se_str (sa_cons (sv 1) (sa_cons (sv 3) (sa_cons (sv 2) sa_nil))))))))

/-! all_arcs -/
abbrev d_all_arcs : Stmt := top 5
def s_all_arcs : Fr → SO := (sSeq (sSet 1 (eBu gRange (aCons (eB1 gLen (eIx (eV 0) (eC (.int 1)))) aNil)))
  (sRet (eFz (eCat (eLc true [2] (eV 1) (gtN 2) (fun fr => .ok true fr) (eCallP 2 g_against (aCons (eV 0) (aCons (eV 2) aNil)))) (eLc true [2] (eV 1) (gtN 2) (fun fr => .ok true fr) (eCallP 2 g_along (aCons (eV 0) (aCons (eV 2) aNil))))))))
def g_all_arcs : List MV → FO := runB 3 s_all_arcs
theorem sc_all_arcs : FnScope ["network", "many", "at"] ["network"] (defScope d_all_arcs) := ⟨rfl, rfl, rfl, by decide +kernel, rfl, by decide +kernel, by decide +kernel⟩
theorem ok_all_arcs {f_against f_along : Addr} {f : Addr} {fd : FuncData} (T : Txt P w K mg base aBadStep aSpeedError) (D_against : Df P w K mg base (caB aBadStep) 1 "against" f_against ["network", "channel"] g_against) (D_along : Df P w K mg base (caB aBadStep) 1 "along" f_along ["network", "channel"] g_along) (F : Fun K "all_arcs" "all_arcs" d_all_arcs f fd) : FnSim P w K mg base (caB aBadStep) 2 f fd ["network"] g_all_arcs := by
  have nd := sc_all_arcs.nd
  exact FnSim.of F sc_all_arcs fun cdv A outer sh H E hr =>
  (sss_cons (ss_set nd rfl (Or.inl rfl) (se_buT bu_range (by rfl) T.nrange boot_range (sa_cons (se_b1B (by rfl) T.nlen (hb := b1_len) (hv := boot_len) (ha := (se_ix (sv 0) se_int))) sa_nil)))
  (sss_one (ss_ret (se_fz (se_cat (se_lc (own := [("at", 2)]) rfl nd (sv 1) (blkOk_by (N := ["network", "many", "at"]) (sc := defScope d_all_arcs) (own := [("at", 2)]) (by decide +kernel)) (fun _ _ _ _ _ => (sg_name nd rfl (by first | exact Or.inl rfl | exact Or.inr rfl))) (fun _ _ _ _ _ => sts_nil) (fun _ _ _ _ _ => (se_dP D_against (hr.mono (by omega)) (by rfl) (sa_cons (sv 0) (sa_cons (sv 2) sa_nil))))) (se_lc (own := [("at", 2)]) rfl nd (sv 1) (blkOk_by (N := ["network", "many", "at"]) (sc := defScope d_all_arcs) (own := [("at", 2)]) (by decide +kernel)) (fun _ _ _ _ _ => (sg_name nd rfl (by first | exact Or.inl rfl | exact Or.inr rfl))) (fun _ _ _ _ _ => sts_nil) (fun _ _ _ _ _ => (se_dP D_along (hr.mono (by omega)) (by rfl) (sa_cons (sv 0) (sa_cons (sv 2) sa_nil))))))))))

/-! arcs_of -/
abbrev d_arcs_of : Stmt := top 6
def s_arcs_of : Fr → SO := (sRet (eB1 gTuple (eN1 gSortT (eCallP 1 g_all_arcs (aCons (eV 0) aNil)))))
def g_arcs_of : List MV → FO := runB 2 s_arcs_of
theorem sc_arcs_of : FnScope ["network", "slots"] ["network", "slots"] (defScope d_arcs_of) := ⟨rfl, rfl, rfl, by decide +kernel, rfl, by decide +kernel, by decide +kernel⟩
theorem ok_arcs_of {f_all_arcs : Addr} {f : Addr} {fd : FuncData} (T : Txt P w K mg base aBadStep aSpeedError) (D_all_arcs : Df P w K mg base (caB aBadStep) 2 "all_arcs" f_all_arcs ["network"] g_all_arcs) (F : Fun K "arcs_of" "arcs_of" d_arcs_of f fd) : FnSim P w K mg base (caB aBadStep) 3 f fd ["network", "slots"] g_arcs_of := by
  have nd := sc_arcs_of.nd
  exact FnSim.of F sc_arcs_of fun cdv A outer sh H E hr =>
  (sss_one (ss_ret (se_b1T (by rfl) T.ntuple (hb := b1_tuple) (hv := boot_tuple) (ha := (se_n1B (by rfl) T.nsorted (hb := n1_sortT) (hv := boot_sorted) (ha := (se_dP D_all_arcs (hr.mono (by omega)) (by rfl) (sa_cons (sv 0) sa_nil))))))))

/-! arc_delay -/
abbrev d_arc_delay : Stmt := top 7
def s_arc_delay : Fr → SO := (sRet (eIf (bCmp gEq (eIx (eV 1) (eC (.int 0))) (eC (.str "along"))) (eIx (eIx (eIx (eV 0) (eC (.int 1))) (eIx (eV 1) (eC (.int 1)))) (eC (.int 3))) (eC (.int 1))))
def g_arc_delay : List MV → FO := runB 2 s_arc_delay
theorem sc_arc_delay : FnScope ["network", "arc"] ["network", "arc"] (defScope d_arc_delay) := ⟨rfl, rfl, rfl, by decide +kernel, rfl, by decide +kernel, by decide +kernel⟩
theorem ok_arc_delay {f : Addr} {fd : FuncData} (T : Txt P w K mg base aBadStep aSpeedError) (F : Fun K "arc_delay" "arc_delay" d_arc_delay f fd) : FnSim P w K mg base (caB aBadStep) 1 f fd ["network", "arc"] g_arc_delay := by
  have nd := sc_arc_delay.nd
  exact FnSim.of F sc_arc_delay fun cdv A outer sh H E hr =>
  (sss_one (ss_ret (se_if (st_cmp (ops_eq (hu hr)) (se_ix (sv 1) se_int) se_str) (se_ix (se_ix (se_ix (sv 0) se_int) (se_ix (sv 1) se_int)) se_int) se_int)))

/-! arc_tokens -/
abbrev d_arc_tokens : Stmt := top 8
def s_arc_tokens : Fr → SO := (sSeq (sSet 3 (eB1 gLen (eIx (eIx (eIx (eV 0) (eC (.int 1))) (eIx (eV 2) (eC (.int 1)))) (eC (.int 4)))))
  (sRet (eIf (bCmp gEq (eIx (eV 2) (eC (.int 0))) (eC (.str "along"))) (eV 3) (eBin gSub (eIx (eV 1) (eIx (eV 2) (eC (.int 1)))) (eV 3)))))
def g_arc_tokens : List MV → FO := runB 4 s_arc_tokens
theorem sc_arc_tokens : FnScope ["network", "slots", "arc", "items"] ["network", "slots", "arc"] (defScope d_arc_tokens) := ⟨rfl, rfl, rfl, by decide +kernel, rfl, by decide +kernel, by decide +kernel⟩
theorem ok_arc_tokens {f : Addr} {fd : FuncData} (T : Txt P w K mg base aBadStep aSpeedError) (F : Fun K "arc_tokens" "arc_tokens" d_arc_tokens f fd) : FnSim P w K mg base (caB aBadStep) 1 f fd ["network", "slots", "arc"] g_arc_tokens := by
  have nd := sc_arc_tokens.nd
  exact FnSim.of F sc_arc_tokens fun cdv A outer sh H E hr =>
  (sss_cons (ss_set nd rfl (Or.inl rfl) (se_b1B (by rfl) T.nlen (hb := b1_len) (hv := boot_len) (ha := (se_ix (se_ix (se_ix (sv 0) se_int) (se_ix (sv 2) se_int)) se_int))))
  (sss_one (ss_ret (se_if (st_cmp (ops_eq (hu hr)) (se_ix (sv 2) se_int) se_str) (sv 3) (se_bin ops_sub (se_ix (sv 1) (se_ix (sv 2) se_int)) (sv 3))))))

/-! arc_weight -/
abbrev d_arc_weight : Stmt := top 9
def s_arc_weight : Fr → SO := (sRet (eTup (aCons (eCallP 2 g_arc_delay (aCons (eV 0) (aCons (eV 2) aNil))) (aCons (eCallP 3 g_arc_tokens (aCons (eV 0) (aCons (eV 1) (aCons (eV 2) aNil)))) aNil))))
def g_arc_weight : List MV → FO := runB 3 s_arc_weight
theorem sc_arc_weight : FnScope ["network", "slots", "arc"] ["network", "slots", "arc"] (defScope d_arc_weight) := ⟨rfl, rfl, rfl, by decide +kernel, rfl, by decide +kernel, by decide +kernel⟩
theorem ok_arc_weight {f_arc_delay f_arc_tokens : Addr} {f : Addr} {fd : FuncData} (T : Txt P w K mg base aBadStep aSpeedError) (D_arc_delay : Df P w K mg base (caB aBadStep) 1 "arc_delay" f_arc_delay ["network", "arc"] g_arc_delay) (D_arc_tokens : Df P w K mg base (caB aBadStep) 1 "arc_tokens" f_arc_tokens ["network", "slots", "arc"] g_arc_tokens) (F : Fun K "arc_weight" "arc_weight" d_arc_weight f fd) : FnSim P w K mg base (caB aBadStep) 2 f fd ["network", "slots", "arc"] g_arc_weight := by
  have nd := sc_arc_weight.nd
  exact FnSim.of F sc_arc_weight fun cdv A outer sh H E hr =>
  (sss_one (ss_ret (se_tup (sa_cons (se_dP D_arc_delay (hr.mono (by omega)) (by rfl) (sa_cons (sv 0) (sa_cons (sv 2) sa_nil))) (sa_cons (se_dP D_arc_tokens (hr.mono (by omega)) (by rfl) (sa_cons (sv 0) (sa_cons (sv 1) (sa_cons (sv 2) sa_nil)))) sa_nil)))))

/-! same_arc -/
abbrev d_same_arc : Stmt := top 10
def s_same_arc : Fr → SO := (sSeq (sIf (bNot (bTru (eCallP 2 g_is_row (aCons (eV 0) (aCons (eC (.int 4)) aNil))))) (sRet (eC (.bl false))) sNil)
  (sSeq (sForE (eBu gRange (aCons (eC (.int 4)) aNil)) (gtN 2) (sIf (bOr (bTru (eBu gIsi (aCons (eIx (eV 0) (eV 2)) (aCons (eC (.ty "bool")) aNil)))) (bOr (bNot (bTru (eIsi2 "int" "str" (eIx (eV 0) (eV 2))))) (bCmp gNe (eIx (eV 0) (eV 2)) (eIx (eV 1) (eV 2))))) (sRet (eC (.bl false))) sNil))
  (sRet (eC (.bl true)))))
def g_same_arc : List MV → FO := runB 3 s_same_arc
theorem sc_same_arc : FnScope ["one", "other", "at"] ["one", "other"] (defScope d_same_arc) := ⟨rfl, rfl, rfl, by decide +kernel, rfl, by decide +kernel, by decide +kernel⟩
theorem ok_same_arc {f_is_row : Addr} {f : Addr} {fd : FuncData} (T : Txt P w K mg base aBadStep aSpeedError) (D_is_row : Df P w K mg base (caB aBadStep) 1 "is_row" f_is_row ["thing", "many"] g_is_row) (F : Fun K "same_arc" "same_arc" d_same_arc f fd) : FnSim P w K mg base (caB aBadStep) 2 f fd ["one", "other"] g_same_arc := by
  have nd := sc_same_arc.nd
  exact FnSim.of F sc_same_arc fun cdv A outer sh H E hr =>
  (sss_cons (ss_if (st_not (st_tru (se_dP D_is_row (hr.mono (by omega)) (by rfl) (sa_cons (sv 0) (sa_cons se_int sa_nil))))) (sss_one (ss_ret se_bl)) sss_nil)
  (sss_cons (ss_for (passes_of rfl) rfl (se_buT bu_range (by rfl) T.nrange boot_range (sa_cons se_int sa_nil)) (sg_name nd rfl (Or.inl rfl)) (sss_one (ss_if (SW.st (sw_or (st_tru (se_buB bu_isi (by rfl) T.nisinstance boot_isinstance (sa_cons (se_ix (sv 0) (sv 2)) (sa_cons (se_bty (by rfl) T.nbool boot_bool) sa_nil)))) (sw_or (st_not (st_tru (se_isi2 (by rfl) T.nisinstance (se_ix (sv 0) (sv 2)) (pe_bltn (v := .ty "int") (by rfl) T.nint boot_int rfl (by decide) (by decide)) (pe_bltn (v := .ty "str") (by rfl) T.nstr boot_str rfl (by decide) (by decide))))) (sw_or1 (st_cmp (ops_ne (hu hr)) (se_ix (sv 0) (sv 2)) (se_ix (sv 1) (sv 2))))))) (sss_one (ss_ret se_bl)) sss_nil)))
  (sss_one (ss_ret se_bl))))

/-! is_arc -/
abbrev d_is_arc : Stmt := top 11
def s_is_arc : Fr → SO := (sRet (eBin gGt (eB1 gLen (eLc true [2] (eCallP 1 g_all_arcs (aCons (eV 0) aNil)) (gtN 2) (bTru (eCallP 2 g_same_arc (aCons (eV 1) (aCons (eV 2) aNil)))) (eV 2))) (eC (.int 0))))
def g_is_arc : List MV → FO := runB 3 s_is_arc
theorem sc_is_arc : FnScope ["network", "thing", "arc"] ["network", "thing"] (defScope d_is_arc) := ⟨rfl, rfl, rfl, by decide +kernel, rfl, by decide +kernel, by decide +kernel⟩
theorem ok_is_arc {f_all_arcs f_same_arc : Addr} {f : Addr} {fd : FuncData} (T : Txt P w K mg base aBadStep aSpeedError) (D_all_arcs : Df P w K mg base (caB aBadStep) 2 "all_arcs" f_all_arcs ["network"] g_all_arcs) (D_same_arc : Df P w K mg base (caB aBadStep) 2 "same_arc" f_same_arc ["one", "other"] g_same_arc) (F : Fun K "is_arc" "is_arc" d_is_arc f fd) : FnSim P w K mg base (caB aBadStep) 3 f fd ["network", "thing"] g_is_arc := by
  have nd := sc_is_arc.nd
  exact FnSim.of F sc_is_arc fun cdv A outer sh H E hr =>
  (sss_one (ss_ret (se_cmp ops_gt (se_b1B (by rfl) T.nlen (hb := b1_len) (hv := boot_len) (ha := (se_lc (own := [("arc", 2)]) rfl nd (se_dP D_all_arcs (hr.mono (by omega)) (by rfl) (sa_cons (sv 0) sa_nil)) (blkOk_by (N := ["network", "thing", "arc"]) (sc := defScope d_is_arc) (own := [("arc", 2)]) (by decide +kernel)) (fun _ _ _ _ _ => (sg_name nd rfl (by first | exact Or.inl rfl | exact Or.inr rfl))) (fun _ _ _ _ _ => (sts_one (st_tru (se_dP D_same_arc (hr.mono (by omega)) (by rfl) (sa_cons (sv 1) (sa_cons (sv 2) sa_nil)))))) (fun _ _ _ _ _ => (sv 2))))) se_int)))

/-! is_ring -/
abbrev d_is_ring : Stmt := top 12
def s_is_ring : Fr → SO := (sSeq (sIf (bOr (bNot (bTru (eBu gIsi (aCons (eV 1) (aCons (eC (.ty "tuple")) aNil))))) (bOr (bCmp gEq (eB1 gLen (eV 1)) (eC (.int 0))) (bCmp gGt (eB1 gLen (eV 1)) (eB1 gLen (eIx (eV 0) (eC (.int 0))))))) (sRet (eC (.bl false))) sNil)
  (sSeq (sForE (eV 1) (gtN 2) (sIf (bNot (bTru (eCallP 2 g_is_arc (aCons (eV 0) (aCons (eV 2) aNil))))) (sRet (eC (.bl false))) sNil))
  (sSeq (sForE (eBu gRange (aCons (eB1 gLen (eV 1)) aNil)) (gtN 3) (sIf (bCmp gNe (eIx (eIx (eV 1) (eBin gSub (eV 3) (eC (.int 1)))) (eC (.int 3))) (eIx (eIx (eV 1) (eV 3)) (eC (.int 2)))) (sRet (eC (.bl false))) sNil))
  (sRet (eBin gEq (eB1 gLenSet (eLc true [2] (eV 1) (gtN 2) (fun fr => .ok true fr) (eIx (eV 2) (eC (.int 2))))) (eB1 gLen (eV 1)))))))
def g_is_ring : List MV → FO := runB 4 s_is_ring
theorem sc_is_ring : FnScope ["network", "thing", "arc", "at"] ["network", "thing"] (defScope d_is_ring) := ⟨rfl, rfl, rfl, by decide +kernel, rfl, by decide +kernel, by decide +kernel⟩
theorem ok_is_ring {f_is_arc : Addr} {f : Addr} {fd : FuncData} (T : Txt P w K mg base aBadStep aSpeedError) (D_is_arc : Df P w K mg base (caB aBadStep) 3 "is_arc" f_is_arc ["network", "thing"] g_is_arc) (F : Fun K "is_ring" "is_ring" d_is_ring f fd) : FnSim P w K mg base (caB aBadStep) 4 f fd ["network", "thing"] g_is_ring := by
  have nd := sc_is_ring.nd
  exact FnSim.of F sc_is_ring fun cdv A outer sh H E hr =>
  (sss_cons (ss_if (SW.st (sw_or (st_not (st_tru (se_buB bu_isi (by rfl) T.nisinstance boot_isinstance (sa_cons (sv 1) (sa_cons (se_bty (by rfl) T.ntuple boot_tuple) sa_nil))))) (sw_or (st_cmp (ops_eq (hu hr)) (se_b1B (by rfl) T.nlen (hb := b1_len) (hv := boot_len) (ha := (sv 1))) se_int) (sw_or1 (st_cmp ops_gt (se_b1B (by rfl) T.nlen (hb := b1_len) (hv := boot_len) (ha := (sv 1))) (se_b1B (by rfl) T.nlen (hb := b1_len) (hv := boot_len) (ha := (se_ix (sv 0) se_int)))))))) (sss_one (ss_ret se_bl)) sss_nil)
  (sss_cons (ss_for (passes_of rfl) rfl (sv 1) (sg_name nd rfl (Or.inl rfl)) (sss_one (ss_if (st_not (st_tru (se_dP D_is_arc (hr.mono (by omega)) (by rfl) (sa_cons (sv 0) (sa_cons (sv 2) sa_nil))))) (sss_one (ss_ret se_bl)) sss_nil)))
  (sss_cons (ss_for (passes_of rfl) rfl (se_buT bu_range (by rfl) T.nrange boot_range (sa_cons (se_b1B (by rfl) T.nlen (hb := b1_len) (hv := boot_len) (ha := (sv 1))) sa_nil)) (sg_name nd rfl (Or.inl rfl)) (sss_one (ss_if (st_cmp (ops_ne (hu hr)) (se_ix (se_ix (sv 1) (se_bin ops_sub (sv 3) se_int)) se_int) (se_ix (se_ix (sv 1) (sv 3)) se_int)) (sss_one (ss_ret se_bl)) sss_nil)))
  (sss_one (ss_ret (se_cmp (ops_eq (hu hr)) (se_lenSet rfl (by rfl) T.nlen (by rfl) T.nset (se_lc (own := [("arc", 2)]) rfl nd (sv 1) (blkOk_by (N := ["network", "thing", "arc", "at"]) (sc := defScope d_is_ring) (own := [("arc", 2)]) (by decide +kernel)) (fun _ _ _ _ _ => (sg_name nd rfl (by first | exact Or.inl rfl | exact Or.inr rfl))) (fun _ _ _ _ _ => sts_nil) (fun _ _ _ _ _ => (se_ix (sv 2) se_int)))) (se_b1B (by rfl) T.nlen (hb := b1_len) (hv := boot_len) (ha := (sv 1)))))))))

/-! ring_delay -/
abbrev d_ring_delay : Stmt := top 13
def s_ring_delay : Fr → SO := (sRet (eB1 gSum (eLc true [2] (eV 1) (gtN 2) (fun fr => .ok true fr) (eCallP 2 g_arc_delay (aCons (eV 0) (aCons (eV 2) aNil))))))
def g_ring_delay : List MV → FO := runB 3 s_ring_delay
theorem sc_ring_delay : FnScope ["network", "ring", "arc"] ["network", "ring"] (defScope d_ring_delay) := ⟨rfl, rfl, rfl, by decide +kernel, rfl, by decide +kernel, by decide +kernel⟩
theorem ok_ring_delay {f_arc_delay : Addr} {f : Addr} {fd : FuncData} (T : Txt P w K mg base aBadStep aSpeedError) (D_arc_delay : Df P w K mg base (caB aBadStep) 1 "arc_delay" f_arc_delay ["network", "arc"] g_arc_delay) (F : Fun K "ring_delay" "ring_delay" d_ring_delay f fd) : FnSim P w K mg base (caB aBadStep) 2 f fd ["network", "ring"] g_ring_delay := by
  have nd := sc_ring_delay.nd
  exact FnSim.of F sc_ring_delay fun cdv A outer sh H E hr =>
  (sss_one (ss_ret (se_b1B (by rfl) T.nsum (hb := (b1_sum rfl)) (hv := boot_sum) (ha := (se_lc (own := [("arc", 2)]) rfl nd (sv 1) (blkOk_by (N := ["network", "ring", "arc"]) (sc := defScope d_ring_delay) (own := [("arc", 2)]) (by decide +kernel)) (fun _ _ _ _ _ => (sg_name nd rfl (by first | exact Or.inl rfl | exact Or.inr rfl))) (fun _ _ _ _ _ => sts_nil) (fun _ _ _ _ _ => (se_dP D_arc_delay (hr.mono (by omega)) (by rfl) (sa_cons (sv 0) (sa_cons (sv 2) sa_nil)))))))))

/-! ring_tokens -/
abbrev d_ring_tokens : Stmt := top 14
def s_ring_tokens : Fr → SO := (sRet (eB1 gSum (eLc true [3] (eV 2) (gtN 3) (fun fr => .ok true fr) (eCallP 3 g_arc_tokens (aCons (eV 0) (aCons (eV 1) (aCons (eV 3) aNil)))))))
def g_ring_tokens : List MV → FO := runB 4 s_ring_tokens
theorem sc_ring_tokens : FnScope ["network", "slots", "ring", "arc"] ["network", "slots", "ring"] (defScope d_ring_tokens) := ⟨rfl, rfl, rfl, by decide +kernel, rfl, by decide +kernel, by decide +kernel⟩
theorem ok_ring_tokens {f_arc_tokens : Addr} {f : Addr} {fd : FuncData} (T : Txt P w K mg base aBadStep aSpeedError) (D_arc_tokens : Df P w K mg base (caB aBadStep) 1 "arc_tokens" f_arc_tokens ["network", "slots", "arc"] g_arc_tokens) (F : Fun K "ring_tokens" "ring_tokens" d_ring_tokens f fd) : FnSim P w K mg base (caB aBadStep) 2 f fd ["network", "slots", "ring"] g_ring_tokens := by
  have nd := sc_ring_tokens.nd
  exact FnSim.of F sc_ring_tokens fun cdv A outer sh H E hr =>
  (sss_one (ss_ret (se_b1B (by rfl) T.nsum (hb := (b1_sum rfl)) (hv := boot_sum) (ha := (se_lc (own := [("arc", 3)]) rfl nd (sv 2) (blkOk_by (N := ["network", "slots", "ring", "arc"]) (sc := defScope d_ring_tokens) (own := [("arc", 3)]) (by decide +kernel)) (fun _ _ _ _ _ => (sg_name nd rfl (by first | exact Or.inl rfl | exact Or.inr rfl))) (fun _ _ _ _ _ => sts_nil) (fun _ _ _ _ _ => (se_dP D_arc_tokens (hr.mono (by omega)) (by rfl) (sa_cons (sv 0) (sa_cons (sv 1) (sa_cons (sv 3) sa_nil))))))))))

/-! _law_spin -/
abbrev d__law_spin : Stmt := top 16
def s__law_spin : Fr → SO := (sSeq (sSetIx 0 (eC (.int 4)) (eBin gAdd (eIxL 0 (eC (.int 4))) (eC (.int 1))))
  (sSeq (sIf (bAnd (bCmp gEq (eIxL 0 (eC (.int 2))) (eC (.int 0))) (bCmp gLt (eIxL 0 (eC (.int 1))) (eB1 gLen (eIxL 0 (eC (.int 0)))))) (sSeq (sSet 2 (eBin gMod (eBu gAbs (aCons (eBu gInt (aCons (eIx (eIxL 0 (eC (.int 0))) (eIxL 0 (eC (.int 1)))) aNil)) aNil)) (eBin gShl (eC (.int 1)) (eC (.int 2000)))))
  (sSeq (sSetIx 0 (eC (.int 1)) (eBin gAdd (eIxL 0 (eC (.int 1))) (eC (.int 1))))
  (sSeq (sSetIx 0 (eC (.int 3)) (eBin gMod (eBu gInt (aCons (eBin gAdd (eBin gAdd (eBin gMul (eIxL 0 (eC (.int 3))) (eC (.int 89))) (eBin gMod (eBu gInt (aCons (eV 2) aNil)) (eC (.int 1000003)))) (eC (.int 61))) aNil)) (eC (.int 200003))))
  (sIf (bCmp gGe (eV 2) (eBin gPow (eC (.int 10)) (eC (.int 18)))) (sSetIx 0 (eC (.int 2)) (eV 2)) sNil)))) sNil)
  (sSeq (sIf (bCmp gGt (eIxL 0 (eC (.int 2))) (eC (.int 0))) (sSeq (sSet 3 (eBin gMod (eBu gInt (aCons (eIxL 0 (eC (.int 2))) aNil)) (eV 1)))
  (sSeq (sSetIx 0 (eC (.int 2)) (eBin gDiv (eBu gInt (aCons (eIxL 0 (eC (.int 2))) aNil)) (eV 1)))
  (sRet (eV 3)))) sNil)
  (sSeq (sSet 4 (eBin gMod (eBu gInt (aCons (eBin gAdd (eBin gAdd (eBin gMul (eIxL 0 (eC (.int 3))) (eC (.int 30011))) (eBin gMul (eIxL 0 (eC (.int 4))) (eC (.int 947)))) (eC (.int 2371))) aNil)) (eC (.int 1299709))))
  (sSeq (sSet 4 (eBin gMod (eBu gInt (aCons (eBin gAdd (eBin gAdd (eBin gMul (eV 4) (eV 4)) (eBin gMul (eIxL 0 (eC (.int 4))) (eC (.int 83)))) (eBin gMul (eIxL 0 (eC (.int 3))) (eC (.int 61)))) aNil)) (eC (.int 1000249))))
  (sRet (eBin gMod (eBu gInt (aCons (eBin gDiv (eV 4) (eC (.int 67))) aNil)) (eV 1))))))))
def g__law_spin : List MV → FO := runB 5 s__law_spin
theorem sc__law_spin : FnScope ["wheel", "many", "cell", "told", "mixed"] ["wheel", "many"] (defScope d__law_spin) := ⟨rfl, rfl, rfl, by decide +kernel, rfl, by decide +kernel, by decide +kernel⟩
theorem ok__law_spin {f : Addr} {fd : FuncData} (T : Txt P w K mg base aBadStep aSpeedError) (F : Fun K "_law_spin" "_law_spin" d__law_spin f fd) : FnSim P w K mg base (caB aBadStep) 1 f fd ["wheel", "many"] g__law_spin := by
  have nd := sc__law_spin.nd
  exact FnSim.of F sc__law_spin fun cdv A outer sh H E hr =>
  (sss_cons (ss_setIx (pv 0) se_int (se_bin ops_add (se_ixL (pv 0) se_int) se_int))
  (sss_cons (ss_if (SW.st (sw_and (st_cmp (ops_eq (hu hr)) (se_ixL (pv 0) se_int) se_int) (sw_and1 (st_cmp ops_lt (se_ixL (pv 0) se_int) (se_b1B (by rfl) T.nlen (hb := b1_len) (hv := boot_len) (ha := (se_ixL (pv 0) se_int))))))) (sss_cons (ss_set nd rfl (Or.inl rfl) (se_bin ops_mod (se_buB bu_abs (by rfl) T.nabs boot_abs (sa_cons (se_buT bu_int (by rfl) T.nint boot_int (sa_cons (se_ix (se_ixL (pv 0) se_int) (se_ixL (pv 0) se_int)) sa_nil)) sa_nil)) (se_bin ops_shl se_int se_int)))
  (sss_cons (ss_setIx (pv 0) se_int (se_bin ops_add (se_ixL (pv 0) se_int) se_int))
  (sss_cons (ss_setIx (pv 0) se_int (se_bin ops_mod (se_buT bu_int (by rfl) T.nint boot_int (sa_cons (se_bin ops_add (se_bin ops_add (se_bin ops_mul (se_ixL (pv 0) se_int) se_int) (se_bin ops_mod (se_buT bu_int (by rfl) T.nint boot_int (sa_cons (sv 2) sa_nil)) se_int)) se_int) sa_nil)) se_int))
  (sss_one (ss_if (st_cmp ops_ge (sv 2) (se_bin ops_pow se_int se_int)) (sss_one (ss_setIx (pv 0) se_int (sv 2))) sss_nil))))) sss_nil)
  (sss_cons (ss_if (st_cmp ops_gt (se_ixL (pv 0) se_int) se_int) (sss_cons (ss_set nd rfl (Or.inl rfl) (se_bin ops_mod (se_buT bu_int (by rfl) T.nint boot_int (sa_cons (se_ixL (pv 0) se_int) sa_nil)) (sv 1)))
  (sss_cons (ss_setIx (pv 0) se_int (se_bin ops_div (se_buT bu_int (by rfl) T.nint boot_int (sa_cons (se_ixL (pv 0) se_int) sa_nil)) (sv 1)))
  (sss_one (ss_ret (sv 3))))) sss_nil)
  (sss_cons (ss_set nd rfl (Or.inl rfl) (se_bin ops_mod (se_buT bu_int (by rfl) T.nint boot_int (sa_cons (se_bin ops_add (se_bin ops_add (se_bin ops_mul (se_ixL (pv 0) se_int) se_int) (se_bin ops_mul (se_ixL (pv 0) se_int) se_int)) se_int) sa_nil)) se_int))
  (sss_cons (ss_set nd rfl (Or.inl rfl) (se_bin ops_mod (se_buT bu_int (by rfl) T.nint boot_int (sa_cons (se_bin ops_add (se_bin ops_add (se_bin ops_mul (sv 4) (sv 4)) (se_bin ops_mul (se_ixL (pv 0) se_int) se_int)) (se_bin ops_mul (se_ixL (pv 0) se_int) se_int)) sa_nil)) se_int))
  (sss_one (ss_ret (se_bin ops_mod (se_buT bu_int (by rfl) T.nint boot_int (sa_cons (se_bin ops_div (sv 4) se_int) sa_nil)) (sv 1)))))))))

/-! _law_same -/
abbrev d__law_same : Stmt := top 17
def s__law_same : Fr → SO := (sSeq (sSet 2 (eLst (aCons (eTup (aCons (eV 0) (aCons (eV 1) aNil))) aNil)))
  (sSeq (whileF (bCmp gGt (eB1S gLen 2) (eC (.int 0))) (sSeq (sAsg (gtT 2 (gsCons (gtN 3) (gsCons (gtN 4) gsNil))) (ePop 2))
  (sIf (bTru (eBu gIsi (aCons (eV 4) (aCons (eC (.ty "tuple")) aNil)))) (sSeq (sIf (bOr (bNot (bTru (eBu gIsi (aCons (eV 3) (aCons (eC (.ty "tuple")) aNil))))) (bCmp gNe (eB1 gLen (eV 3)) (eB1 gLen (eV 4)))) (sRet (eC (.bl false))) sNil)
  (sExpr (eExt 2 (eLc true [5] (eBu gRange (aCons (eB1 gLen (eV 4)) aNil)) (gtN 5) (fun fr => .ok true fr) (eTup (aCons (eIx (eV 3) (eV 5)) (aCons (eIx (eV 4) (eV 5)) aNil))))))) (sIf (bCmp gIs (eV 4) (eC .non)) (sIf (bCmp gIsNot (eV 3) (eC .non)) (sRet (eC (.bl false))) sNil) (sIf (bTru (eBu gIsi (aCons (eV 4) (aCons (eC (.ty "bool")) aNil)))) (sIf (bOr (bNot (bTru (eBu gIsi (aCons (eV 3) (aCons (eC (.ty "bool")) aNil))))) (bCmp gNe (eV 3) (eV 4))) (sRet (eC (.bl false))) sNil) (sIf (bTru (eBu gIsi (aCons (eV 4) (aCons (eC (.ty "int")) aNil)))) (sIf (bOr (bNot (bTru (eBu gIsi (aCons (eV 3) (aCons (eC (.ty "int")) aNil))))) (bOr (bTru (eBu gIsi (aCons (eV 3) (aCons (eC (.ty "bool")) aNil)))) (bCmp gNe (eV 3) (eV 4)))) (sRet (eC (.bl false))) sNil) (sIf (bOr (bNot (bTru (eBu gIsi (aCons (eV 3) (aCons (eC (.ty "str")) aNil))))) (bCmp gNe (eV 3) (eV 4))) (sRet (eC (.bl false))) sNil)))))) 4000)
  (sRet (eC (.bl true)))))
def g__law_same : List MV → FO := runB 6 s__law_same
theorem sc__law_same : FnScope ["told", "due", "rest", "one", "other", "at"] ["told", "due"] (defScope d__law_same) := ⟨rfl, rfl, rfl, by decide +kernel, rfl, by decide +kernel, by decide +kernel⟩
theorem ok__law_same {f : Addr} {fd : FuncData} (T : Txt P w K mg base aBadStep aSpeedError) (F : Fun K "_law_same" "_law_same" d__law_same f fd) : FnSim P w K mg base (caB aBadStep) 1 f fd ["told", "due"] g__law_same := by
  have nd := sc__law_same.nd
  exact FnSim.of F sc__law_same fun cdv A outer sh H E hr =>
  (sss_cons (ss_set nd rfl (Or.inl rfl) (se_lst (sa_cons (se_tup (sa_cons (sv 0) (sa_cons (sv 1) sa_nil))) sa_nil)))
  (sss_cons (ss_while 4000 (passes_of rfl) (st_cmp ops_gt (se_b1BS (by rfl) T.nlen (hb := b1_len) (hv := boot_len) (ha := pv 2)) se_int) (sss_cons (ss_asg (se_pop (pv 2)) (sg_tup rfl (sgs_cons (sg_name nd rfl (Or.inr rfl)) (sgs_cons (sg_name nd rfl (Or.inr rfl)) sgs_nil))))
  (sss_one (ss_if (st_tru (se_buB bu_isi (by rfl) T.nisinstance boot_isinstance (sa_cons (sv 4) (sa_cons (se_bty (by rfl) T.ntuple boot_tuple) sa_nil)))) (sss_cons (ss_if (SW.st (sw_or (st_not (st_tru (se_buB bu_isi (by rfl) T.nisinstance boot_isinstance (sa_cons (sv 3) (sa_cons (se_bty (by rfl) T.ntuple boot_tuple) sa_nil))))) (sw_or1 (st_cmp (ops_ne (hu hr)) (se_b1B (by rfl) T.nlen (hb := b1_len) (hv := boot_len) (ha := (sv 3))) (se_b1B (by rfl) T.nlen (hb := b1_len) (hv := boot_len) (ha := (sv 4))))))) (sss_one (ss_ret se_bl)) sss_nil)
  (sss_one (ss_expr (se_ext (pv 2) (se_lc (own := [("at", 5)]) rfl nd (se_buT bu_range (by rfl) T.nrange boot_range (sa_cons (se_b1B (by rfl) T.nlen (hb := b1_len) (hv := boot_len) (ha := (sv 4))) sa_nil)) (blkOk_by (N := ["told", "due", "rest", "one", "other", "at"]) (sc := defScope d__law_same) (own := [("at", 5)]) (by decide +kernel)) (fun _ _ _ _ _ => (sg_name nd rfl (by first | exact Or.inl rfl | exact Or.inr rfl))) (fun _ _ _ _ _ => sts_nil) (fun _ _ _ _ _ => (se_tup (sa_cons (se_ix (sv 3) (sv 5)) (sa_cons (se_ix (sv 4) (sv 5)) sa_nil))))))))) (sss_one (ss_if (st_cmp ops_is (sv 4) se_non) (sss_one (ss_if (st_cmp ops_isNot (sv 3) se_non) (sss_one (ss_ret se_bl)) sss_nil)) (sss_one (ss_if (st_tru (se_buB bu_isi (by rfl) T.nisinstance boot_isinstance (sa_cons (sv 4) (sa_cons (se_bty (by rfl) T.nbool boot_bool) sa_nil)))) (sss_one (ss_if (SW.st (sw_or (st_not (st_tru (se_buB bu_isi (by rfl) T.nisinstance boot_isinstance (sa_cons (sv 3) (sa_cons (se_bty (by rfl) T.nbool boot_bool) sa_nil))))) (sw_or1 (st_cmp (ops_ne (hu hr)) (sv 3) (sv 4))))) (sss_one (ss_ret se_bl)) sss_nil)) (sss_one (ss_if (st_tru (se_buB bu_isi (by rfl) T.nisinstance boot_isinstance (sa_cons (sv 4) (sa_cons (se_bty (by rfl) T.nint boot_int) sa_nil)))) (sss_one (ss_if (SW.st (sw_or (st_not (st_tru (se_buB bu_isi (by rfl) T.nisinstance boot_isinstance (sa_cons (sv 3) (sa_cons (se_bty (by rfl) T.nint boot_int) sa_nil))))) (sw_or (st_tru (se_buB bu_isi (by rfl) T.nisinstance boot_isinstance (sa_cons (sv 3) (sa_cons (se_bty (by rfl) T.nbool boot_bool) sa_nil)))) (sw_or1 (st_cmp (ops_ne (hu hr)) (sv 3) (sv 4)))))) (sss_one (ss_ret se_bl)) sss_nil)) (sss_one (ss_if (SW.st (sw_or (st_not (st_tru (se_buB bu_isi (by rfl) T.nisinstance boot_isinstance (sa_cons (sv 3) (sa_cons (se_bty (by rfl) T.nstr boot_str) sa_nil))))) (sw_or1 (st_cmp (ops_ne (hu hr)) (sv 3) (sv 4))))) (sss_one (ss_ret se_bl)) sss_nil))))))))))))
  (sss_one (ss_ret se_bl))))

/-! _law_item -/
abbrev d__law_item : Stmt := top 18
def s__law_item : Fr → SO := (sRet (eIx (eFz (eLst (aCons (eC (.int 0)) (aCons (eC (.int 1)) (aCons (eC (.int 999999)) (aCons (eC (.int 5)) (aCons (eCallB 2 g__law_spin (bName 0 (bVal (eC (.int 1000000)) bNil))) aNil))))))) (eCallB 2 g__law_spin (bName 0 (bVal (eC (.int 5)) bNil)))))
def g__law_item : List MV → FO := runB 1 s__law_item
theorem sc__law_item : FnScope ["wheel"] ["wheel"] (defScope d__law_item) := ⟨rfl, rfl, rfl, by decide +kernel, rfl, by decide +kernel, by decide +kernel⟩
theorem ok__law_item {f__law_spin : Addr} {f : Addr} {fd : FuncData} (T : Txt P w K mg base aBadStep aSpeedError) (D__law_spin : Df P w K mg base (caB aBadStep) 1 "_law_spin" f__law_spin ["wheel", "many"] g__law_spin) (F : Fun K "_law_item" "_law_item" d__law_item f fd) : FnSim P w K mg base (caB aBadStep) 2 f fd ["wheel"] g__law_item := by
  have nd := sc__law_item.nd
  exact FnSim.of F sc__law_item fun cdv A outer sh H E hr =>
  (sss_one (ss_ret (se_ix (se_fz (se_lst (sa_cons se_int (sa_cons se_int (sa_cons se_int (sa_cons se_int (sa_cons (se_dB D__law_spin (hr.mono (by omega)) (by rfl) (sb_name (pv 0) (sb_val se_int sb_nil))) sa_nil))))))) (se_dB D__law_spin (hr.mono (by omega)) (by rfl) (sb_name (pv 0) (sb_val se_int sb_nil))))))

/-! _law_net -/
abbrev d__law_net : Stmt := top 19
def s__law_net : Fr → SO := (sSeq (sSet 4 (eFz (eLst (aCons (eC (.str "add")) (aCons (eC (.str "sub")) (aCons (eC (.str "mul")) (aCons (eC (.str "less")) (aCons (eC (.str "same")) (aCons (eC (.str "pick")) (aCons (eC (.str "number")) (aCons (eC (.str "input")) (aCons (eC (.str "out")) (aCons (eC (.str "add")) aNil)))))))))))))
  (sSeq (sSet 5 (eLst aNil))
  (sSeq (sForE (eBu gRange (aCons (eV 1) aNil)) (gtN 6) (sSeq (sSet 7 (eIx (eV 4) (eIx (eFz (eLst (aCons (eCallB 2 g__law_spin (bName 0 (bVal (eC (.int 10)) bNil))) (aCons (eC (.int 7)) (aCons (eCallB 2 g__law_spin (bName 0 (bVal (eC (.int 6)) bNil))) aNil))))) (eCallB 2 g__law_spin (bName 0 (bVal (eC (.int 3)) bNil))))))
  (sSeq (sIf (bAnd (bCmp gEq (eV 6) (eC (.int 0))) (bOr (bCmp gEq (eV 7) (eC (.str "out"))) (bNot (bTru (eV 3))))) (sSet 7 (eIx (eFz (eLst (aCons (eC (.str "input")) (aCons (eC (.str "number")) aNil)))) (eCallB 2 g__law_spin (bName 0 (bVal (eC (.int 2)) bNil))))) sNil)
  (sSeq (sSet 8 (eDgt [("pick", 3), ("number", 1), ("out", 1), ("input", 0)] 2 (eV 7)))
  (sSeq (sSet 9 (eLst aNil))
  (sSeq (sForE (eBu gRange (aCons (eV 8) aNil)) (gtN 10) (sSeq (sSet 11 (eOr (eBin gEq (eV 7) (eC (.str "number"))) (eAnd (eBin gNe (eV 7) (eC (.str "out"))) (eBin gEq (eCallB 2 g__law_spin (bName 0 (bVal (eC (.int 4)) bNil))) (eC (.int 0))))))
  (sExpr (eApp 9 (eIf (bTru (eV 11)) (eCallB 1 g__law_item (bName 0 bNil)) (eC .non))))))
  (sExpr (eApp 5 (eTup (aCons (eV 7) (aCons (eB1S gTuple 9) aNil)))))))))))
  (sSeq (sSet 12 (eLst aNil))
  (sSeq (sSet 13 (eCallB 2 g__law_spin (bName 0 (bVal (eC (.int 4)) bNil))))
  (sSeq (sForE (eBu gRange (aCons (eV 1) aNil)) (gtN 14) (sSeq (sSetF 15 (eLc true [6] (eBu gRange (aCons (eV 1) aNil)) (gtN 6) (bAnd (bCmp gNe (eIx (eIxL 5 (eV 6)) (eC (.int 0))) (eC (.str "out"))) (bOr (bTru (eV 3)) (bCmp gLt (eV 6) (eV 14)))) (eV 6)))
  (sForE (eBu gRange (aCons (eB1 gLen (eIx (eIxL 5 (eV 14)) (eC (.int 1)))) aNil)) (gtN 10) (sIf (bCmp gIs (eIx (eIx (eIxL 5 (eV 14)) (eC (.int 1))) (eV 10)) (eC .non)) (sSeq (sSet 16 (eIx (eV 15) (eCallB 2 g__law_spin (bName 0 (bVal (eB1 gLen (eV 15)) bNil)))))
  (sSeq (sSet 17 (eIx (eFz (eLst (aCons (eC (.int 1)) (aCons (eBin gAdd (eC (.int 1)) (eCallB 2 g__law_spin (bName 0 (bVal (eC (.int 3)) bNil)))) (aCons (eBin gAdd (eC (.int 1)) (eCallB 2 g__law_spin (bName 0 (bVal (eC (.int 15)) bNil)))) (aCons (eC (.int 15)) aNil)))))) (eV 13)))
  (sSeq (sSetF 18 (eLc true [19] (eBu gRange (aCons (eBin gMul (eCallB 2 g__law_spin (bName 0 (bVal (eBin gAdd (eV 2) (eC (.int 1))) bNil))) (eBu gInt (aCons (eBin gEq (eCallB 2 g__law_spin (bName 0 (bVal (eC (.int 2)) bNil))) (eC (.int 0))) aNil))) aNil)) (gtN 19) (fun fr => .ok true fr) (eCallB 1 g__law_item (bName 0 bNil))))
  (sExpr (eApp 12 (eTup (aCons (eV 16) (aCons (eV 14) (aCons (eV 10) (aCons (eV 17) (aCons (eB1 gTuple (eV 18)) aNil))))))))))) sNil))))
  (sRet (eTup (aCons (eB1S gTuple 5) (aCons (eB1S gTuple 12) aNil))))))))))
def g__law_net : List MV → FO := runB 20 s__law_net
theorem sc__law_net : FnScope ["wheel", "many", "most", "back", "words", "modules", "at", "word", "size", "constants", "port", "item", "channels", "habit", "target", "sources", "source", "delay", "items", "lap"] ["wheel", "many", "most", "back"] (defScope d__law_net) := ⟨rfl, rfl, rfl, by decide +kernel, rfl, by decide +kernel, by decide +kernel⟩
theorem ok__law_net {f__law_spin f__law_item : Addr} {f : Addr} {fd : FuncData} (T : Txt P w K mg base aBadStep aSpeedError) (D__law_spin : Df P w K mg base (caB aBadStep) 1 "_law_spin" f__law_spin ["wheel", "many"] g__law_spin) (D__law_item : Df P w K mg base (caB aBadStep) 2 "_law_item" f__law_item ["wheel"] g__law_item) (F : Fun K "_law_net" "_law_net" d__law_net f fd) : FnSim P w K mg base (caB aBadStep) 3 f fd ["wheel", "many", "most", "back"] g__law_net := by
  have nd := sc__law_net.nd
  exact FnSim.of F sc__law_net fun cdv A outer sh H E hr =>
  (sss_cons (ss_set nd rfl (Or.inl rfl) (se_fz (se_lst (sa_cons se_str (sa_cons se_str (sa_cons se_str (sa_cons se_str (sa_cons se_str (sa_cons se_str (sa_cons se_str (sa_cons se_str (sa_cons se_str (sa_cons se_str sa_nil)))))))))))))
  (sss_cons (ss_set nd rfl (Or.inr rfl) (se_lst sa_nil))
  (sss_cons (ss_for (passes_of rfl) rfl (se_buT bu_range (by rfl) T.nrange boot_range (sa_cons (sv 1) sa_nil)) (sg_name nd rfl (Or.inl rfl)) (sss_cons (ss_set nd rfl (Or.inl rfl) (se_ix (sv 4) (se_ix (se_fz (se_lst (sa_cons (se_dB D__law_spin (hr.mono (by omega)) (by rfl) (sb_name (pv 0) (sb_val se_int sb_nil))) (sa_cons se_int (sa_cons (se_dB D__law_spin (hr.mono (by omega)) (by rfl) (sb_name (pv 0) (sb_val se_int sb_nil))) sa_nil))))) (se_dB D__law_spin (hr.mono (by omega)) (by rfl) (sb_name (pv 0) (sb_val se_int sb_nil))))))
  (sss_cons (ss_if (SW.st (sw_and (st_cmp (ops_eq (hu hr)) (sv 6) se_int) (sw_and1 (SW.st (sw_or (st_cmp (ops_eq (hu hr)) (sv 7) se_str) (sw_or1 (st_not (st_tru (sv 3))))))))) (sss_one (ss_set nd rfl (Or.inl rfl) (se_ix (se_fz (se_lst (sa_cons se_str (sa_cons se_str sa_nil)))) (se_dB D__law_spin (hr.mono (by omega)) (by rfl) (sb_name (pv 0) (sb_val se_int sb_nil)))))) sss_nil)
  (sss_cons (ss_set nd rfl (Or.inl rfl) (se_dgt (tab := [("pick", 3), ("number", 1), ("out", 1), ("input", 0)]) (hu1 hr) (pps_cons pe_str pe_int (pps_cons pe_str pe_int (pps_cons pe_str pe_int (pps_cons pe_str pe_int pps_nil)))) (sv 7)))
  (sss_cons (ss_set nd rfl (Or.inl rfl) (se_lst sa_nil))
  (sss_cons (ss_for (passes_of rfl) rfl (se_buT bu_range (by rfl) T.nrange boot_range (sa_cons (sv 8) sa_nil)) (sg_name nd rfl (Or.inl rfl)) (sss_cons (ss_set nd rfl (Or.inl rfl) (se_or (se_cmp (ops_eq (hu hr)) (sv 7) se_str) (se_one (se_and (se_cmp (ops_ne (hu hr)) (sv 7) se_str) (se_one (se_cmp (ops_eq (hu hr)) (se_dB D__law_spin (hr.mono (by omega)) (by rfl) (sb_name (pv 0) (sb_val se_int sb_nil))) se_int))))))
  (sss_one (ss_expr (se_app (pv 9) (se_if (st_tru (sv 11)) (se_dB D__law_item (hr.mono (by omega)) (by rfl) (sb_name (pv 0) sb_nil)) se_non))))))
  (sss_one (ss_expr (se_app (pv 5) (se_tup (sa_cons (sv 7) (sa_cons (se_b1TS (by rfl) T.ntuple (hb := b1_tuple) (hv := boot_tuple) (ha := pv 9)) sa_nil))))))))))))
  (sss_cons (ss_set nd rfl (Or.inl rfl) (se_lst sa_nil))
  (sss_cons (ss_set nd rfl (Or.inl rfl) (se_dB D__law_spin (hr.mono (by omega)) (by rfl) (sb_name (pv 0) (sb_val se_int sb_nil))))
  (sss_cons (ss_for (passes_of rfl) rfl (se_buT bu_range (by rfl) T.nrange boot_range (sa_cons (sv 1) sa_nil)) (sg_name nd rfl (Or.inr rfl)) (sss_cons (SS.frz (ss_setLc (i := 15) (own := [("at", 6)]) rfl nd rfl rfl (sw_true rfl rfl rfl (by decide +kernel)) (se_buT bu_range (by rfl) T.nrange boot_range (sa_cons (sv 1) sa_nil)) (blkOk_by (N := ["wheel", "many", "most", "back", "words", "modules", "at", "word", "size", "constants", "port", "item", "channels", "habit", "target", "sources", "source", "delay", "items", "lap"]) (sc := defScope d__law_net) (own := [("at", 6)]) (by decide +kernel)) (fun _ _ _ _ _ => (sg_name nd rfl (by first | exact Or.inl rfl | exact Or.inr rfl))) (fun _ _ _ _ _ => (sts_one (SW.st (sw_and (st_cmp (ops_ne (hu hr)) (se_ix (se_ixL (pv 5) (sv 6)) se_int) se_str) (sw_and1 (SW.st (sw_or (st_tru (sv 3)) (sw_or1 (st_cmp ops_lt (sv 6) (sv 14)))))))))) (fun _ _ _ _ _ => (sv 6))))
  (sss_one (ss_for (passes_of rfl) rfl (se_buT bu_range (by rfl) T.nrange boot_range (sa_cons (se_b1B (by rfl) T.nlen (hb := b1_len) (hv := boot_len) (ha := (se_ix (se_ixL (pv 5) (sv 14)) se_int))) sa_nil)) (sg_name nd rfl (Or.inl rfl)) (sss_one (ss_if (st_cmp ops_is (se_ix (se_ix (se_ixL (pv 5) (sv 14)) se_int) (sv 10)) se_non) (sss_cons (ss_set nd rfl (Or.inl rfl) (se_ix (sv 15) (se_dB D__law_spin (hr.mono (by omega)) (by rfl) (sb_name (pv 0) (sb_val (se_b1B (by rfl) T.nlen (hb := b1_len) (hv := boot_len) (ha := (sv 15))) sb_nil)))))
  (sss_cons (ss_set nd rfl (Or.inl rfl) (se_ix (se_fz (se_lst (sa_cons se_int (sa_cons (se_bin ops_add se_int (se_dB D__law_spin (hr.mono (by omega)) (by rfl) (sb_name (pv 0) (sb_val se_int sb_nil)))) (sa_cons (se_bin ops_add se_int (se_dB D__law_spin (hr.mono (by omega)) (by rfl) (sb_name (pv 0) (sb_val se_int sb_nil)))) (sa_cons se_int sa_nil)))))) (sv 13)))
  (sss_cons (SS.frz (ss_setLc (i := 18) (own := [("lap", 19)]) rfl nd rfl rfl (sw_true rfl rfl rfl (by decide +kernel)) (se_buT bu_range (by rfl) T.nrange boot_range (sa_cons (se_bin ops_mul (se_dB D__law_spin (hr.mono (by omega)) (by rfl) (sb_name (pv 0) (sb_val (se_bin ops_add (sv 2) se_int) sb_nil))) (se_buT bu_int (by rfl) T.nint boot_int (sa_cons (se_cmp (ops_eq (hu hr)) (se_dB D__law_spin (hr.mono (by omega)) (by rfl) (sb_name (pv 0) (sb_val se_int sb_nil))) se_int) sa_nil))) sa_nil)) (blkOk_by (N := ["wheel", "many", "most", "back", "words", "modules", "at", "word", "size", "constants", "port", "item", "channels", "habit", "target", "sources", "source", "delay", "items", "lap"]) (sc := defScope d__law_net) (own := [("lap", 19)]) (by decide +kernel)) (fun _ _ _ _ _ => (sg_name nd rfl (by first | exact Or.inl rfl | exact Or.inr rfl))) (fun _ _ _ _ _ => sts_nil) (fun _ _ _ _ _ => (se_dB D__law_item (hr.mono (by omega)) (by rfl) (sb_name (pv 0) sb_nil)))))
  (sss_one (ss_expr (se_app (pv 12) (se_tup (sa_cons (sv 16) (sa_cons (sv 14) (sa_cons (sv 10) (sa_cons (sv 17) (sa_cons (se_b1T (by rfl) T.ntuple (hb := b1_tuple) (hv := boot_tuple) (ha := (sv 18))) sa_nil)))))))))))) sss_nil))))))
  (sss_one (ss_ret (se_tup (sa_cons (se_b1TS (by rfl) T.ntuple (hb := b1_tuple) (hv := boot_tuple) (ha := pv 5)) (sa_cons (se_b1TS (by rfl) T.ntuple (hb := b1_tuple) (hv := boot_tuple) (ha := pv 12)) sa_nil)))))))))))

/-! _law_slots -/
abbrev d__law_slots : Stmt := top 20
def s__law_slots : Fr → SO := (sRet (eB1 gTuple (eLc true [2] (eIx (eV 1) (eC (.int 1))) (gtN 2) (fun fr => .ok true fr) (eBin gAdd (eBu gMax (aCons (eC (.int 1)) (aCons (eB1 gLen (eIx (eV 2) (eC (.int 4)))) aNil))) (eIx (eFz (eLst (aCons (eC (.int 0)) (aCons (eC (.int 0)) (aCons (eC (.int 1)) (aCons (eCallB 2 g__law_spin (bName 0 (bVal (eC (.int 4)) bNil))) (aCons (eCallB 2 g__law_spin (bName 0 (bVal (eC (.int 16)) bNil))) aNil))))))) (eCallB 2 g__law_spin (bName 0 (bVal (eC (.int 5)) bNil))))))))
def g__law_slots : List MV → FO := runB 3 s__law_slots
theorem sc__law_slots : FnScope ["wheel", "network", "channel"] ["wheel", "network"] (defScope d__law_slots) := ⟨rfl, rfl, rfl, by decide +kernel, rfl, by decide +kernel, by decide +kernel⟩
theorem ok__law_slots {f__law_spin : Addr} {f : Addr} {fd : FuncData} (T : Txt P w K mg base aBadStep aSpeedError) (D__law_spin : Df P w K mg base (caB aBadStep) 1 "_law_spin" f__law_spin ["wheel", "many"] g__law_spin) (F : Fun K "_law_slots" "_law_slots" d__law_slots f fd) : FnSim P w K mg base (caB aBadStep) 2 f fd ["wheel", "network"] g__law_slots := by
  have nd := sc__law_slots.nd
  exact FnSim.of F sc__law_slots fun cdv A outer sh H E hr =>
  (sss_one (ss_ret (se_b1T (by rfl) T.ntuple (hb := b1_tuple) (hv := boot_tuple) (ha := (se_lc (own := [("channel", 2)]) rfl nd (se_ix (sv 1) se_int) (blkOk_by (N := ["wheel", "network", "channel"]) (sc := defScope d__law_slots) (own := [("channel", 2)]) (by decide +kernel)) (fun _ _ _ _ _ => (sg_name nd rfl (by first | exact Or.inl rfl | exact Or.inr rfl))) (fun _ _ _ _ _ => sts_nil) (fun _ _ _ _ _ => (se_bin ops_add (se_buB (bu_max rfl) (by rfl) T.nmax boot_max (sa_cons se_int (sa_cons (se_b1B (by rfl) T.nlen (hb := b1_len) (hv := boot_len) (ha := (se_ix (sv 2) se_int))) sa_nil))) (se_ix (se_fz (se_lst (sa_cons se_int (sa_cons se_int (sa_cons se_int (sa_cons (se_dB D__law_spin (hr.mono (by omega)) (by rfl) (sb_name (pv 0) (sb_val se_int sb_nil))) (sa_cons (se_dB D__law_spin (hr.mono (by omega)) (by rfl) (sb_name (pv 0) (sb_val se_int sb_nil))) sa_nil))))))) (se_dB D__law_spin (hr.mono (by omega)) (by rfl) (sb_name (pv 0) (sb_val se_int sb_nil)))))))))))

/-! _law_arcs -/
abbrev d__law_arcs : Stmt := top 21
def s__law_arcs : Fr → SO := (sSeq (sSet 1 (eLst aNil))
  (sSeq (sForE (eBu gRange (aCons (eB1 gLen (eIx (eV 0) (eC (.int 1)))) aNil)) (gtN 2) (sSeq (sAsg (gtT 5 (gsCons (gtN 3) (gsCons (gtN 4) (gsCons (gtN 5) (gsCons (gtN 6) (gsCons (gtN 7) gsNil)))))) (eIx (eIx (eV 0) (eC (.int 1))) (eV 2)))
  (sSeq (sExpr (eApp 1 (eTup (aCons (eTup (aCons (eC (.str "along")) (aCons (eV 2) (aCons (eV 3) (aCons (eV 4) aNil))))) (aCons (eV 6) aNil)))))
  (sExpr (eApp 1 (eTup (aCons (eTup (aCons (eC (.str "against")) (aCons (eV 2) (aCons (eV 4) (aCons (eV 3) aNil))))) (aCons (eC (.int 1)) aNil))))))))
  (sRet (eFz (eMv 1)))))
def g__law_arcs : List MV → FO := runB 8 s__law_arcs
theorem sc__law_arcs : FnScope ["network", "told", "at", "source", "target", "port", "delay", "items"] ["network"] (defScope d__law_arcs) := ⟨rfl, rfl, rfl, by decide +kernel, rfl, by decide +kernel, by decide +kernel⟩
theorem ok__law_arcs {f : Addr} {fd : FuncData} (T : Txt P w K mg base aBadStep aSpeedError) (F : Fun K "_law_arcs" "_law_arcs" d__law_arcs f fd) : FnSim P w K mg base (caB aBadStep) 1 f fd ["network"] g__law_arcs := by
  have nd := sc__law_arcs.nd
  exact FnSim.of F sc__law_arcs fun cdv A outer sh H E hr =>
  (sss_cons (ss_set nd rfl (Or.inl rfl) (se_lst sa_nil))
  (sss_cons (ss_for (passes_of rfl) rfl (se_buT bu_range (by rfl) T.nrange boot_range (sa_cons (se_b1B (by rfl) T.nlen (hb := b1_len) (hv := boot_len) (ha := (se_ix (sv 0) se_int))) sa_nil)) (sg_name nd rfl (Or.inl rfl)) (sss_cons (ss_asg (se_ix (se_ix (sv 0) se_int) (sv 2)) (sg_tup rfl (sgs_cons (sg_name nd rfl (Or.inl rfl)) (sgs_cons (sg_name nd rfl (Or.inl rfl)) (sgs_cons (sg_name nd rfl (Or.inl rfl)) (sgs_cons (sg_name nd rfl (Or.inl rfl)) (sgs_cons (sg_name nd rfl (Or.inl rfl)) sgs_nil)))))))
  (sss_cons (ss_expr (se_app (pv 1) (se_tup (sa_cons (se_tup (sa_cons se_str (sa_cons (sv 2) (sa_cons (sv 3) (sa_cons (sv 4) sa_nil))))) (sa_cons (sv 6) sa_nil)))))
  (sss_one (ss_expr (se_app (pv 1) (se_tup (sa_cons (se_tup (sa_cons se_str (sa_cons (sv 2) (sa_cons (sv 4) (sa_cons (sv 3) sa_nil))))) (sa_cons se_int sa_nil)))))))))
  (sss_one (ss_ret (se_fz (se_move (pv 1)))))))

/-! _law_tokens -/
abbrev d__law_tokens : Stmt := top 22
def s__law_tokens : Fr → SO := (sSeq (sSet 3 (eB1 gLen (eIx (eIx (eIx (eV 0) (eC (.int 1))) (eIx (eV 2) (eC (.int 1)))) (eC (.int 4)))))
  (sRet (eIf (bCmp gEq (eIx (eV 2) (eC (.int 0))) (eC (.str "along"))) (eV 3) (eBin gSub (eIx (eV 1) (eIx (eV 2) (eC (.int 1)))) (eV 3)))))
def g__law_tokens : List MV → FO := runB 4 s__law_tokens
theorem sc__law_tokens : FnScope ["network", "slots", "arc", "many"] ["network", "slots", "arc"] (defScope d__law_tokens) := ⟨rfl, rfl, rfl, by decide +kernel, rfl, by decide +kernel, by decide +kernel⟩
theorem ok__law_tokens {f : Addr} {fd : FuncData} (T : Txt P w K mg base aBadStep aSpeedError) (F : Fun K "_law_tokens" "_law_tokens" d__law_tokens f fd) : FnSim P w K mg base (caB aBadStep) 1 f fd ["network", "slots", "arc"] g__law_tokens := by
  have nd := sc__law_tokens.nd
  exact FnSim.of F sc__law_tokens fun cdv A outer sh H E hr =>
  (sss_cons (ss_set nd rfl (Or.inl rfl) (se_b1B (by rfl) T.nlen (hb := b1_len) (hv := boot_len) (ha := (se_ix (se_ix (se_ix (sv 0) se_int) (se_ix (sv 2) se_int)) se_int))))
  (sss_one (ss_ret (se_if (st_cmp (ops_eq (hu hr)) (se_ix (sv 2) se_int) se_str) (sv 3) (se_bin ops_sub (se_ix (sv 1) (se_ix (sv 2) se_int)) (sv 3))))))

/-! _law_is_ring -/
abbrev d__law_is_ring : Stmt := top 23
def s__law_is_ring : Fr → SO := (sSeq (sIf (bOr (bNot (bTru (eBu gIsi (aCons (eV 1) (aCons (eC (.ty "tuple")) aNil))))) (bCmp gEq (eB1 gLen (eV 1)) (eC (.int 0)))) (sRet (eC (.bl false))) sNil)
  (sSeq (sForE (eV 1) (gtN 2) (sSeq (sIf (bOr (bNot (bTru (eBu gIsi (aCons (eV 2) (aCons (eC (.ty "tuple")) aNil))))) (bOr (bCmp gNe (eB1 gLen (eV 2)) (eC (.int 4))) (bNot (bTru (eBu gIsi (aCons (eIx (eV 2) (eC (.int 0))) (aCons (eC (.ty "str")) aNil))))))) (sRet (eC (.bl false))) sNil)
  (sSeq (sIf (bCmp gGt (eB1 gLen (eLc true [6] (eSl (eV 2) (some (eC (.int 1))) none) (gtN 6) (bOr (bNot (bTru (eBu gIsi (aCons (eV 6) (aCons (eC (.ty "int")) aNil))))) (bTru (eBu gIsi (aCons (eV 6) (aCons (eC (.ty "bool")) aNil))))) (eV 6))) (eC (.int 0))) (sRet (eC (.bl false))) sNil)
  (sSeq (sIf (bNot (bChain gLe gLt (eC (.int 0)) (eIx (eV 2) (eC (.int 1))) (eB1 gLen (eIx (eV 0) (eC (.int 1)))))) (sRet (eC (.bl false))) sNil)
  (sSeq (sAsg (gtT 2 (gsCons (gtN 3) (gsCons (gtN 4) gsNil))) (eSl (eIx (eIx (eV 0) (eC (.int 1))) (eIx (eV 2) (eC (.int 1)))) none (some (eC (.int 2)))))
  (sIf (bAnd (bCmp gNe (eV 2) (eTup (aCons (eC (.str "along")) (aCons (eIx (eV 2) (eC (.int 1))) (aCons (eV 3) (aCons (eV 4) aNil)))))) (bCmp gNe (eV 2) (eTup (aCons (eC (.str "against")) (aCons (eIx (eV 2) (eC (.int 1))) (aCons (eV 4) (aCons (eV 3) aNil))))))) (sRet (eC (.bl false))) sNil))))))
  (sSeq (sForE (eBu gRange (aCons (eB1 gLen (eV 1)) aNil)) (gtN 5) (sIf (bCmp gNe (eIx (eIx (eV 1) (eBin gSub (eV 5) (eC (.int 1)))) (eC (.int 3))) (eIx (eIx (eV 1) (eV 5)) (eC (.int 2)))) (sRet (eC (.bl false))) sNil))
  (sRet (eBin gEq (eB1 gLenSet (eLc true [2] (eV 1) (gtN 2) (fun fr => .ok true fr) (eIx (eV 2) (eC (.int 2))))) (eB1 gLen (eV 1)))))))
def g__law_is_ring : List MV → FO := runB 7 s__law_is_ring
theorem sc__law_is_ring : FnScope ["network", "thing", "arc", "source", "target", "at", "part"] ["network", "thing"] (defScope d__law_is_ring) := ⟨rfl, rfl, rfl, by decide +kernel, rfl, by decide +kernel, by decide +kernel⟩
theorem ok__law_is_ring {f : Addr} {fd : FuncData} (T : Txt P w K mg base aBadStep aSpeedError) (F : Fun K "_law_is_ring" "_law_is_ring" d__law_is_ring f fd) : FnSim P w K mg base (caB aBadStep) 1 f fd ["network", "thing"] g__law_is_ring := by
  have nd := sc__law_is_ring.nd
  exact FnSim.of F sc__law_is_ring fun cdv A outer sh H E hr =>
  (sss_cons (ss_if (SW.st (sw_or (st_not (st_tru (se_buB bu_isi (by rfl) T.nisinstance boot_isinstance (sa_cons (sv 1) (sa_cons (se_bty (by rfl) T.ntuple boot_tuple) sa_nil))))) (sw_or1 (st_cmp (ops_eq (hu hr)) (se_b1B (by rfl) T.nlen (hb := b1_len) (hv := boot_len) (ha := (sv 1))) se_int)))) (sss_one (ss_ret se_bl)) sss_nil)
  (sss_cons (ss_for (passes_of rfl) rfl (sv 1) (sg_name nd rfl (Or.inl rfl)) (sss_cons (ss_if (SW.st (sw_or (st_not (st_tru (se_buB bu_isi (by rfl) T.nisinstance boot_isinstance (sa_cons (sv 2) (sa_cons (se_bty (by rfl) T.ntuple boot_tuple) sa_nil))))) (sw_or (st_cmp (ops_ne (hu hr)) (se_b1B (by rfl) T.nlen (hb := b1_len) (hv := boot_len) (ha := (sv 2))) se_int) (sw_or1 (st_not (st_tru (se_buB bu_isi (by rfl) T.nisinstance boot_isinstance (sa_cons (se_ix (sv 2) se_int) (sa_cons (se_bty (by rfl) T.nstr boot_str) sa_nil))))))))) (sss_one (ss_ret se_bl)) sss_nil)
  (sss_cons (ss_if (st_cmp ops_gt (se_b1B (by rfl) T.nlen (hb := b1_len) (hv := boot_len) (ha := (se_lc (own := [("part", 6)]) rfl nd (se_sl (sv 2) (.some se_int) .none) (blkOk_by (N := ["network", "thing", "arc", "source", "target", "at", "part"]) (sc := defScope d__law_is_ring) (own := [("part", 6)]) (by decide +kernel)) (fun _ _ _ _ _ => (sg_name nd rfl (by first | exact Or.inl rfl | exact Or.inr rfl))) (fun _ _ _ _ _ => (sts_one (SW.st (sw_or (st_not (st_tru (se_buB bu_isi (by rfl) T.nisinstance boot_isinstance (sa_cons (sv 6) (sa_cons (se_bty (by rfl) T.nint boot_int) sa_nil))))) (sw_or1 (st_tru (se_buB bu_isi (by rfl) T.nisinstance boot_isinstance (sa_cons (sv 6) (sa_cons (se_bty (by rfl) T.nbool boot_bool) sa_nil))))))))) (fun _ _ _ _ _ => (sv 6))))) se_int) (sss_one (ss_ret se_bl)) sss_nil)
  (sss_cons (ss_if (st_not (st_chain ops_le ops_lt se_int (se_ix (sv 2) se_int) (se_b1B (by rfl) T.nlen (hb := b1_len) (hv := boot_len) (ha := (se_ix (sv 0) se_int))))) (sss_one (ss_ret se_bl)) sss_nil)
  (sss_cons (ss_asg (se_sl (se_ix (se_ix (sv 0) se_int) (se_ix (sv 2) se_int)) .none (.some se_int)) (sg_tup rfl (sgs_cons (sg_name nd rfl (Or.inl rfl)) (sgs_cons (sg_name nd rfl (Or.inl rfl)) sgs_nil))))
  (sss_one (ss_if (SW.st (sw_and (st_cmp (ops_ne (hu hr)) (sv 2) (se_tup (sa_cons se_str (sa_cons (se_ix (sv 2) se_int) (sa_cons (sv 3) (sa_cons (sv 4) sa_nil)))))) (sw_and1 (st_cmp (ops_ne (hu hr)) (sv 2) (se_tup (sa_cons se_str (sa_cons (se_ix (sv 2) se_int) (sa_cons (sv 4) (sa_cons (sv 3) sa_nil))))))))) (sss_one (ss_ret se_bl)) sss_nil)))))))
  (sss_cons (ss_for (passes_of rfl) rfl (se_buT bu_range (by rfl) T.nrange boot_range (sa_cons (se_b1B (by rfl) T.nlen (hb := b1_len) (hv := boot_len) (ha := (sv 1))) sa_nil)) (sg_name nd rfl (Or.inl rfl)) (sss_one (ss_if (st_cmp (ops_ne (hu hr)) (se_ix (se_ix (sv 1) (se_bin ops_sub (sv 5) se_int)) se_int) (se_ix (se_ix (sv 1) (sv 5)) se_int)) (sss_one (ss_ret se_bl)) sss_nil)))
  (sss_one (ss_ret (se_cmp (ops_eq (hu hr)) (se_lenSet rfl (by rfl) T.nlen (by rfl) T.nset (se_lc (own := [("arc", 2)]) rfl nd (sv 1) (blkOk_by (N := ["network", "thing", "arc", "source", "target", "at", "part"]) (sc := defScope d__law_is_ring) (own := [("arc", 2)]) (by decide +kernel)) (fun _ _ _ _ _ => (sg_name nd rfl (by first | exact Or.inl rfl | exact Or.inr rfl))) (fun _ _ _ _ _ => sts_nil) (fun _ _ _ _ _ => (se_ix (sv 2) se_int)))) (se_b1B (by rfl) T.nlen (hb := b1_len) (hv := boot_len) (ha := (sv 1)))))))))

/-! _law_drawn_ring -/
abbrev d__law_drawn_ring : Stmt := top 24
def s__law_drawn_ring : Fr → SO := (sSeq (sSetF 2 (eLc true [10, 11] (eCallP 1 g__law_arcs (aCons (eV 1) aNil)) (gtT 2 (gsCons (gtN 10) (gsCons (gtN 11) gsNil))) (fun fr => .ok true fr) (eV 10)))
  (sSeq (sIf (bCmp gEq (eB1 gLen (eV 2)) (eC (.int 0))) (sRet (eC .non)) sNil)
  (sSeq (sSet 3 (eLst (aCons (eIx (eV 2) (eCallB 2 g__law_spin (bName 0 (bVal (eB1 gLen (eV 2)) bNil)))) aNil)))
  (sSeq (sSet 4 (eCallB 2 g__law_spin (bName 0 (bVal (eC (.int 3)) bNil))))
  (sSeq (sForE (eBu gRange (aCons (eB1 gLen (eIx (eV 1) (eC (.int 0)))) aNil)) (gtN 5) (sSeq (sSetF 6 (eLcM true 3 [10] (gtN 10) (fun fr => .ok true fr) (eIx (eV 10) (eC (.int 2)))))
  (sSeq (sSet 7 (eIx (eIxL 3 (eBin gSub (eB1S gLen 3) (eC (.int 1)))) (eC (.int 3))))
  (sSeq (sIf (bCmp gIn (eV 7) (eV 6)) (sRet (eB1 gTuple (eSlL 3 (some (eIdxF (eV 6) (eV 7))) none))) sNil)
  (sSeq (sSetF 8 (eLc true [10] (eV 2) (gtN 10) (bCmp gEq (eIx (eV 10) (eC (.int 2))) (eV 7)) (eV 10)))
  (sSeq (sSetF 9 (eLc true [10] (eV 8) (gtN 10) (bAnd (bCmp gEq (eIx (eV 10) (eC (.int 0))) (eC (.str "along"))) (bCmp gNe (eIx (eV 10) (eC (.int 1))) (eIx (eIxL 3 (eBin gSub (eB1S gLen 3) (eC (.int 1)))) (eC (.int 1))))) (eV 10)))
  (sSeq (sIf (bAnd (bCmp gGt (eV 4) (eC (.int 0))) (bCmp gGt (eB1 gLen (eV 9)) (eC (.int 0)))) (sSet 8 (eV 9)) sNil)
  (sExpr (eApp 3 (eIx (eV 8) (eCallB 2 g__law_spin (bName 0 (bVal (eB1 gLen (eV 8)) bNil)))))))))))))
  (sRet (eC .non)))))))
def g__law_drawn_ring : List MV → FO := runB 12 s__law_drawn_ring
theorem sc__law_drawn_ring : FnScope ["wheel", "network", "arcs", "row", "habit", "lap", "begins", "here", "nexts", "on", "arc", "delay"] ["wheel", "network"] (defScope d__law_drawn_ring) := ⟨rfl, rfl, rfl, by decide +kernel, rfl, by decide +kernel, by decide +kernel⟩
theorem ok__law_drawn_ring {f__law_arcs f__law_spin : Addr} {f : Addr} {fd : FuncData} (T : Txt P w K mg base aBadStep aSpeedError) (D__law_arcs : Df P w K mg base (caB aBadStep) 1 "_law_arcs" f__law_arcs ["network"] g__law_arcs) (D__law_spin : Df P w K mg base (caB aBadStep) 1 "_law_spin" f__law_spin ["wheel", "many"] g__law_spin) (F : Fun K "_law_drawn_ring" "_law_drawn_ring" d__law_drawn_ring f fd) : FnSim P w K mg base (caB aBadStep) 2 f fd ["wheel", "network"] g__law_drawn_ring := by
  have nd := sc__law_drawn_ring.nd
  exact FnSim.of F sc__law_drawn_ring fun cdv A outer sh H E hr =>
  (sss_cons (SS.frz (ss_setLc (i := 2) (own := [("arc", 10), ("delay", 11)]) rfl nd rfl rfl (sw_true rfl rfl rfl (by decide +kernel)) (se_dP D__law_arcs (hr.mono (by omega)) (by rfl) (sa_cons (sv 1) sa_nil)) (blkOk_by (N := ["wheel", "network", "arcs", "row", "habit", "lap", "begins", "here", "nexts", "on", "arc", "delay"]) (sc := defScope d__law_drawn_ring) (own := [("arc", 10), ("delay", 11)]) (by decide +kernel)) (fun _ _ _ _ _ => (sg_tup rfl (sgs_cons (sg_name nd rfl (by first | exact Or.inl rfl | exact Or.inr rfl)) (sgs_cons (sg_name nd rfl (by first | exact Or.inl rfl | exact Or.inr rfl)) sgs_nil)))) (fun _ _ _ _ _ => sts_nil) (fun _ _ _ _ _ => (sv 10))))
  (sss_cons (ss_if (st_cmp (ops_eq (hu hr)) (se_b1B (by rfl) T.nlen (hb := b1_len) (hv := boot_len) (ha := (sv 2))) se_int) (sss_one (ss_ret se_non)) sss_nil)
  (sss_cons (ss_set nd rfl (Or.inr rfl) (se_lst (sa_cons (se_ix (sv 2) (se_dB D__law_spin (hr.mono (by omega)) (by rfl) (sb_name (pv 0) (sb_val (se_b1B (by rfl) T.nlen (hb := b1_len) (hv := boot_len) (ha := (sv 2))) sb_nil)))) sa_nil)))
  (sss_cons (ss_set nd rfl (Or.inl rfl) (se_dB D__law_spin (hr.mono (by omega)) (by rfl) (sb_name (pv 0) (sb_val se_int sb_nil))))
  (sss_cons (ss_for (passes_of rfl) rfl (se_buT bu_range (by rfl) T.nrange boot_range (sa_cons (se_b1B (by rfl) T.nlen (hb := b1_len) (hv := boot_len) (ha := (se_ix (sv 1) se_int))) sa_nil)) (sg_name nd rfl (Or.inl rfl)) (sss_cons (SS.frz (ss_setLcM (n := 6) (own := [("arc", 10)]) rfl nd rfl rfl (sw_true rfl rfl rfl (by decide +kernel)) (pv 3) (blkOk_by (N := ["wheel", "network", "arcs", "row", "habit", "lap", "begins", "here", "nexts", "on", "arc", "delay"]) (sc := defScope d__law_drawn_ring) (own := [("arc", 10)]) (by decide +kernel)) (fun _ _ _ _ _ => (sg_name nd rfl (by first | exact Or.inl rfl | exact Or.inr rfl))) (fun _ _ _ _ _ => sts_nil) (fun _ _ _ _ _ => (se_ix (sv 10) se_int))))
  (sss_cons (ss_set nd rfl (Or.inr rfl) (se_ix (se_ixL (pv 3) (se_bin ops_sub (se_b1BS (by rfl) T.nlen (hb := b1_len) (hv := boot_len) (ha := pv 3)) se_int)) se_int))
  (sss_cons (ss_if (st_cmp ops_in (sv 7) (sv 6)) (sss_one (ss_ret (se_b1T (by rfl) T.ntuple (hb := b1_tuple) (hv := boot_tuple) (ha := (se_slL (pv 3) (.some (se_idxF (sv 6) (sv 7))) .none))))) sss_nil)
  (sss_cons (SS.frz (ss_setLc (i := 8) (own := [("arc", 10)]) rfl nd rfl rfl (sw_true rfl rfl rfl (by decide +kernel)) (sv 2) (blkOk_by (N := ["wheel", "network", "arcs", "row", "habit", "lap", "begins", "here", "nexts", "on", "arc", "delay"]) (sc := defScope d__law_drawn_ring) (own := [("arc", 10)]) (by decide +kernel)) (fun _ _ _ _ _ => (sg_name nd rfl (by first | exact Or.inl rfl | exact Or.inr rfl))) (fun _ _ _ _ _ => (sts_one (st_cmp (ops_eq (hu hr)) (se_ix (sv 10) se_int) (sv 7)))) (fun _ _ _ _ _ => (sv 10))))
  (sss_cons (SS.frz (ss_setLc (i := 9) (own := [("arc", 10)]) rfl nd rfl rfl (sw_true rfl rfl rfl (by decide +kernel)) (sv 8) (blkOk_by (N := ["wheel", "network", "arcs", "row", "habit", "lap", "begins", "here", "nexts", "on", "arc", "delay"]) (sc := defScope d__law_drawn_ring) (own := [("arc", 10)]) (by decide +kernel)) (fun _ _ _ _ _ => (sg_name nd rfl (by first | exact Or.inl rfl | exact Or.inr rfl))) (fun _ _ _ _ _ => (sts_one (SW.st (sw_and (st_cmp (ops_eq (hu hr)) (se_ix (sv 10) se_int) se_str) (sw_and1 (st_cmp (ops_ne (hu hr)) (se_ix (sv 10) se_int) (se_ix (se_ixL (pv 3) (se_bin ops_sub (se_b1BS (by rfl) T.nlen (hb := b1_len) (hv := boot_len) (ha := pv 3)) se_int)) se_int))))))) (fun _ _ _ _ _ => (sv 10))))
  (sss_cons (ss_if (SW.st (sw_and (st_cmp ops_gt (sv 4) se_int) (sw_and1 (st_cmp ops_gt (se_b1B (by rfl) T.nlen (hb := b1_len) (hv := boot_len) (ha := (sv 9))) se_int)))) (sss_one (ss_set nd rfl (Or.inl rfl) (sv 9))) sss_nil)
  (sss_one (ss_expr (se_app (pv 3) (se_ix (sv 8) (se_dB D__law_spin (hr.mono (by omega)) (by rfl) (sb_name (pv 0) (sb_val (se_b1B (by rfl) T.nlen (hb := b1_len) (hv := boot_len) (ha := (sv 8))) sb_nil))))))))))))))
  (sss_one (ss_ret se_non)))))))

/-! _law_bent_ring -/
abbrev d__law_bent_ring : Stmt := top 25
def s__law_bent_ring : Fr → SO := (sSeq (sSet 3 (eCallB 2 g__law_spin (bName 0 (bVal (eB1 gLen (eV 2)) bNil))))
  (sSeq (sSet 4 (eIx (eV 2) (eV 3)))
  (sSeq (sSet 5 (eB1 gLen (eIx (eV 1) (eC (.int 1)))))
  (sSeq (sSet 6 (eFz (eLst (aCons (eC .non) (aCons (eC (.bl true)) (aCons (eNeg (eC (.int 1))) (aCons (eC (.int 0)) (aCons (eC (.int 1)) (aCons (eV 5) (aCons (eC (.str "0")) (aCons (eBin gPow (eC (.int 10)) (eC (.int 59))) (aCons (eIx (eV 4) (eC (.int 2))) (aCons (eIx (eV 4) (eC (.int 3))) aNil)))))))))))))
  (sSeq (sSetF 7 (eLc true [11, 12] (eCallP 1 g__law_arcs (aCons (eV 1) aNil)) (gtT 2 (gsCons (gtN 11) (gsCons (gtN 12) gsNil))) (fun fr => .ok true fr) (eV 11)))
  (sSeq (sSet 8 (eLst (aCons (eFz (eN1 gList (eV 4))) (aCons (eSl (eV 4) none (some (eC (.int 3)))) (aCons (eBin gAdd (eV 4) (eTup (aCons (eC (.int 0)) aNil))) (aCons (eBin gAdd (eTup (aCons (eB1 gUp (eIx (eV 4) (eC (.int 0)))) aNil)) (eSl (eV 4) (some (eC (.int 1))) none)) (aCons (eBin gAdd (eTup (aCons (eIx (eFz (eLst (aCons (eC (.str "along")) (aCons (eC (.str "against")) aNil)))) (eBu gInt (aCons (eBin gEq (eIx (eV 4) (eC (.int 0))) (eC (.str "along"))) aNil))) aNil)) (eSl (eV 4) (some (eC (.int 1))) none)) (aCons (eC .non) aNil))))))))
  (sSeq (sSet 8 (eCatL 8 (eLst (aCons (eBin gAdd (eSl (eV 4) none (some (eC (.int 2)))) (eTup (aCons (eIx (eV 4) (eC (.int 3))) (aCons (eIx (eV 4) (eC (.int 2))) aNil)))) (aCons (eIx (eV 7) (eCallB 2 g__law_spin (bName 0 (bVal (eB1 gLen (eV 7)) bNil)))) aNil)))))
  (sSeq (sSet 9 (eBin gAdd (eC (.int 1)) (eCallB 2 g__law_spin (bName 0 (bVal (eC (.int 3)) bNil)))))
  (sSeq (sSet 8 (eCatL 8 (eLc true [13] (eBu gRange (aCons (eC (.int 4)) aNil)) (gtN 13) (fun fr => .ok true fr) (eBin gAdd (eBin gAdd (eSl (eV 4) none (some (eV 9))) (eTup (aCons (eIx (eV 6) (eCallB 2 g__law_spin (bName 0 (bVal (eB1 gLen (eV 6)) bNil)))) aNil))) (eSl (eV 4) (some (eBin gAdd (eV 9) (eC (.int 1)))) none)))))
  (sSeq (sSet 10 (eLcM true 8 [14] (gtN 14) (fun fr => .ok true fr) (eBin gAdd (eBin gAdd (eSl (eV 2) none (some (eV 3))) (eTup (aCons (eV 14) aNil))) (eSl (eV 2) (some (eBin gAdd (eV 3) (eC (.int 1)))) none))))
  (sSeq (sSet 10 (eCatL 10 (eLst (aCons (eFz (eN1 gList (eV 2))) (aCons (eSl (eV 2) (some (eC (.int 1))) none) (aCons (eBin gAdd (eV 2) (eV 2)) (aCons (eBin gAdd (eSl (eV 2) (some (eV 3)) none) (eSl (eV 2) none (some (eV 3)))) (aCons (eRev (eV 2) (eNeg (eC (.int 1)))) (aCons (eTup aNil) (aCons (eC .non) (aCons (eV 4) (aCons (eBin gAdd (eBin gAdd (eSl (eV 2) none (some (eV 3))) (eTup (aCons (eV 4) aNil))) (eSl (eV 2) (some (eV 3)) none)) (aCons (eTup (aCons (eV 2) aNil)) (aCons (eC (.str "ring")) aNil))))))))))))))
  (sRet (eIxL 10 (eCallB 2 g__law_spin (bName 0 (bVal (eB1S gLen 10) bNil))))))))))))))))
def g__law_bent_ring : List MV → FO := runB 15 s__law_bent_ring
theorem sc__law_bent_ring : FnScope ["wheel", "network", "ring", "at", "arc", "many", "odds", "arcs", "others", "spot", "things", "one", "delay", "lap", "other"] ["wheel", "network", "ring"] (defScope d__law_bent_ring) := ⟨rfl, rfl, rfl, by decide +kernel, rfl, by decide +kernel, by decide +kernel⟩
theorem ok__law_bent_ring {f__law_spin f__law_arcs : Addr} {f : Addr} {fd : FuncData} (T : Txt P w K mg base aBadStep aSpeedError) (D__law_spin : Df P w K mg base (caB aBadStep) 1 "_law_spin" f__law_spin ["wheel", "many"] g__law_spin) (D__law_arcs : Df P w K mg base (caB aBadStep) 1 "_law_arcs" f__law_arcs ["network"] g__law_arcs) (F : Fun K "_law_bent_ring" "_law_bent_ring" d__law_bent_ring f fd) : FnSim P w K mg base (caB aBadStep) 2 f fd ["wheel", "network", "ring"] g__law_bent_ring := by
  have nd := sc__law_bent_ring.nd
  exact FnSim.of F sc__law_bent_ring fun cdv A outer sh H E hr =>
  (sss_cons (ss_set nd rfl (Or.inr rfl) (se_dB D__law_spin (hr.mono (by omega)) (by rfl) (sb_name (pv 0) (sb_val (se_b1B (by rfl) T.nlen (hb := b1_len) (hv := boot_len) (ha := (sv 2))) sb_nil))))
  (sss_cons (ss_set nd rfl (Or.inr rfl) (se_ix (sv 2) (sv 3)))
  (sss_cons (ss_set nd rfl (Or.inl rfl) (se_b1B (by rfl) T.nlen (hb := b1_len) (hv := boot_len) (ha := (se_ix (sv 1) se_int))))
  (sss_cons (ss_set nd rfl (Or.inr rfl) (se_fz (se_lst (sa_cons se_non (sa_cons se_bl (sa_cons (se_neg se_int) (sa_cons se_int (sa_cons se_int (sa_cons (sv 5) (sa_cons se_str (sa_cons (se_bin ops_pow se_int se_int) (sa_cons (se_ix (sv 4) se_int) (sa_cons (se_ix (sv 4) se_int) sa_nil)))))))))))))
  (sss_cons (SS.frz (ss_setLc (i := 7) (own := [("one", 11), ("delay", 12)]) rfl nd rfl rfl (sw_true rfl rfl rfl (by decide +kernel)) (se_dP D__law_arcs (hr.mono (by omega)) (by rfl) (sa_cons (sv 1) sa_nil)) (blkOk_by (N := ["wheel", "network", "ring", "at", "arc", "many", "odds", "arcs", "others", "spot", "things", "one", "delay", "lap", "other"]) (sc := defScope d__law_bent_ring) (own := [("one", 11), ("delay", 12)]) (by decide +kernel)) (fun _ _ _ _ _ => (sg_tup rfl (sgs_cons (sg_name nd rfl (by first | exact Or.inl rfl | exact Or.inr rfl)) (sgs_cons (sg_name nd rfl (by first | exact Or.inl rfl | exact Or.inr rfl)) sgs_nil)))) (fun _ _ _ _ _ => sts_nil) (fun _ _ _ _ _ => (sv 11))))
  (sss_cons (ss_set nd rfl (Or.inl rfl) (se_lst (sa_cons (se_fz (se_n1T (by rfl) T.nlist (hb := n1_list) (hv := boot_list) (ha := (sv 4)))) (sa_cons (se_sl (sv 4) .none (.some se_int)) (sa_cons (se_bin ops_add (sv 4) (se_tup (sa_cons se_int sa_nil))) (sa_cons (se_bin ops_add (se_tup (sa_cons (se_up (se_ix (sv 4) se_int)) sa_nil)) (se_sl (sv 4) (.some se_int) .none)) (sa_cons (se_bin ops_add (se_tup (sa_cons (se_ix (se_fz (se_lst (sa_cons se_str (sa_cons se_str sa_nil)))) (se_buT bu_int (by rfl) T.nint boot_int (sa_cons (se_cmp (ops_eq (hu hr)) (se_ix (sv 4) se_int) se_str) sa_nil))) sa_nil)) (se_sl (sv 4) (.some se_int) .none)) (sa_cons se_non sa_nil))))))))
  (sss_cons (ss_set nd rfl (Or.inl rfl) (se_catL (pv 8) (se_lst (sa_cons (se_bin ops_add (se_sl (sv 4) .none (.some se_int)) (se_tup (sa_cons (se_ix (sv 4) se_int) (sa_cons (se_ix (sv 4) se_int) sa_nil)))) (sa_cons (se_ix (sv 7) (se_dB D__law_spin (hr.mono (by omega)) (by rfl) (sb_name (pv 0) (sb_val (se_b1B (by rfl) T.nlen (hb := b1_len) (hv := boot_len) (ha := (sv 7))) sb_nil)))) sa_nil)))))
  (sss_cons (ss_set nd rfl (Or.inr rfl) (se_bin ops_add se_int (se_dB D__law_spin (hr.mono (by omega)) (by rfl) (sb_name (pv 0) (sb_val se_int sb_nil)))))
  (sss_cons (ss_set nd rfl (Or.inl rfl) (se_catL (pv 8) (se_lc (own := [("lap", 13)]) rfl nd (se_buT bu_range (by rfl) T.nrange boot_range (sa_cons se_int sa_nil)) (blkOk_by (N := ["wheel", "network", "ring", "at", "arc", "many", "odds", "arcs", "others", "spot", "things", "one", "delay", "lap", "other"]) (sc := defScope d__law_bent_ring) (own := [("lap", 13)]) (by decide +kernel)) (fun _ _ _ _ _ => (sg_name nd rfl (by first | exact Or.inl rfl | exact Or.inr rfl))) (fun _ _ _ _ _ => sts_nil) (fun _ _ _ _ _ => (se_bin ops_add (se_bin ops_add (se_sl (sv 4) .none (.some (sv 9))) (se_tup (sa_cons (se_ix (sv 6) (se_dB D__law_spin (hr.mono (by omega)) (by rfl) (sb_name (pv 0) (sb_val (se_b1B (by rfl) T.nlen (hb := b1_len) (hv := boot_len) (ha := (sv 6))) sb_nil)))) sa_nil))) (se_sl (sv 4) (.some (se_bin ops_add (sv 9) se_int)) .none))))))
  (sss_cons (ss_setLcM (n := 10) (own := [("other", 14)]) rfl nd rfl rfl (sw_true rfl rfl rfl (by decide +kernel)) (pv 8) (blkOk_by (N := ["wheel", "network", "ring", "at", "arc", "many", "odds", "arcs", "others", "spot", "things", "one", "delay", "lap", "other"]) (sc := defScope d__law_bent_ring) (own := [("other", 14)]) (by decide +kernel)) (fun _ _ _ _ _ => (sg_name nd rfl (by first | exact Or.inl rfl | exact Or.inr rfl))) (fun _ _ _ _ _ => sts_nil) (fun _ _ _ _ _ => (se_bin ops_add (se_bin ops_add (se_sl (sv 2) .none (.some (sv 3))) (se_tup (sa_cons (sv 14) sa_nil))) (se_sl (sv 2) (.some (se_bin ops_add (sv 3) se_int)) .none))))
  (sss_cons (ss_set nd rfl (Or.inl rfl) (se_catL (pv 10) (se_lst (sa_cons (se_fz (se_n1T (by rfl) T.nlist (hb := n1_list) (hv := boot_list) (ha := (sv 2)))) (sa_cons (se_sl (sv 2) (.some se_int) .none) (sa_cons (se_bin ops_add (sv 2) (sv 2)) (sa_cons (se_bin ops_add (se_sl (sv 2) (.some (sv 3)) .none) (se_sl (sv 2) .none (.some (sv 3)))) (sa_cons (se_rev (sv 2) (se_neg se_int)) (sa_cons (se_tup sa_nil) (sa_cons se_non (sa_cons (sv 4) (sa_cons (se_bin ops_add (se_bin ops_add (se_sl (sv 2) .none (.some (sv 3))) (se_tup (sa_cons (sv 4) sa_nil))) (se_sl (sv 2) (.some (sv 3)) .none)) (sa_cons (se_tup (sa_cons (sv 2) sa_nil)) (sa_cons se_str sa_nil))))))))))))))
  (sss_one (ss_ret (se_ixL (pv 10) (se_dB D__law_spin (hr.mono (by omega)) (by rfl) (sb_name (pv 0) (sb_val (se_b1BS (by rfl) T.nlen (hb := b1_len) (hv := boot_len) (ha := pv 10)) sb_nil)))))))))))))))))

/-! _law_asked -/
abbrev d__law_asked : Stmt := top 26
def s__law_asked : Fr → SO := (sSeq (sSet 3 (eCallB 2 g__law_slots (bName 0 (bVal (eV 1) bNil))))
  (sSeq (sSet 4 (eFz (eCallP 1 g__law_arcs (aCons (eV 1) aNil))))
  (sSeq (sIf (bNot (bTru (eCallP 2 g__law_same (aCons (eCallP 2 g_arcs_of (aCons (eV 1) (aCons (eV 3) aNil))) (aCons (eB1 gTuple (eN1 gSortT (eLc true [6, 7] (eV 4) (gtT 2 (gsCons (gtN 6) (gsCons (gtN 7) gsNil))) (fun fr => .ok true fr) (eV 6)))) aNil))))) (sRet (eC (.bl false))) sNil)
  (sSeq (sForE (eBu gRange (aCons (eBu gMin (aCons (eBin gMul (eC (.int 2)) (eV 2)) (aCons (eB1 gLen (eV 4)) aNil))) aNil)) (gtN 5) (sSeq (sAsg (gtT 2 (gsCons (gtN 6) (gsCons (gtN 7) gsNil))) (eIx (eV 4) (eCallB 2 g__law_spin (bName 0 (bVal (eB1 gLen (eV 4)) bNil)))))
  (sIf (bNot (bTru (eCallP 2 g__law_same (aCons (eCallP 3 g_arc_weight (aCons (eV 1) (aCons (eV 3) (aCons (eV 6) aNil)))) (aCons (eTup (aCons (eV 7) (aCons (eCallP 3 g__law_tokens (aCons (eV 1) (aCons (eV 3) (aCons (eV 6) aNil)))) aNil))) aNil))))) (sRet (eC (.bl false))) sNil)))
  (sSeq (sSet 8 eDnT)
  (sSeq (sForE (eV 4) (gtT 2 (gsCons (gtN 6) (gsCons (gtN 7) gsNil))) (sDputT 8 (eV 6) (eV 7)))
  (sSeq (sForE (eBu gRange (aCons (eV 2) aNil)) (gtN 5) (sSeq (sSet 9 (eCallB 2 g__law_drawn_ring (bName 0 (bVal (eV 1) bNil))))
  (sIf (bCmp gIsNot (eV 9) (eC .non)) (sSeq (sSet 10 (eTup (aCons (eC (.bl true)) (aCons (eB1 gSum (eLc true [6] (eV 9) (gtN 6) (fun fr => .ok true fr) (eDgetT 8 (eV 6)))) (aCons (eB1 gSum (eLc true [6] (eV 9) (gtN 6) (fun fr => .ok true fr) (eCallP 3 g__law_tokens (aCons (eV 1) (aCons (eV 3) (aCons (eV 6) aNil)))))) aNil)))))
  (sSeq (sSet 11 (eTup (aCons (eCallP 2 g_is_ring (aCons (eV 1) (aCons (eV 9) aNil))) (aCons (eCallP 2 g_ring_delay (aCons (eV 1) (aCons (eV 9) aNil))) (aCons (eCallP 3 g_ring_tokens (aCons (eV 1) (aCons (eV 3) (aCons (eV 9) aNil)))) aNil)))))
  (sSeq (sIf (bOr (bNot (bTru (eCallP 2 g__law_is_ring (aCons (eV 1) (aCons (eV 9) aNil))))) (bNot (bTru (eCallP 2 g__law_same (aCons (eV 11) (aCons (eV 10) aNil)))))) (sRet (eC (.bl false))) sNil)
  (sForE (eBu gRange (aCons (eC (.int 4)) aNil)) (gtN 12) (sSeq (sSet 13 (eCallB 3 g__law_bent_ring (bName 0 (bVal (eV 1) (bVal (eV 9) bNil)))))
  (sIf (bNot (bTru (eCallP 2 g__law_same (aCons (eCallP 2 g_is_ring (aCons (eV 1) (aCons (eV 13) aNil))) (aCons (eCallP 2 g__law_is_ring (aCons (eV 1) (aCons (eV 13) aNil))) aNil))))) (sRet (eC (.bl false))) sNil)))))) sNil)))
  (sRet (eAnd (eBin gIs (eCallP 2 g_is_ring (aCons (eV 1) (aCons (eTup aNil) aNil))) (eC (.bl false))) (eBin gIs (eCallP 2 g_is_ring (aCons (eV 1) (aCons (eC .non) aNil))) (eC (.bl false))))))))))))
def g__law_asked : List MV → FO := runB 14 s__law_asked
theorem sc__law_asked : FnScope ["wheel", "network", "laps", "slots", "arcs", "lap", "arc", "delay", "weights", "ring", "due", "told", "turn", "thing"] ["wheel", "network", "laps"] (defScope d__law_asked) := ⟨rfl, rfl, rfl, by decide +kernel, rfl, by decide +kernel, by decide +kernel⟩
theorem ok__law_asked {f__law_slots f__law_arcs f__law_same f_arcs_of f__law_spin f_arc_weight f__law_tokens f__law_drawn_ring f_is_ring f_ring_delay f_ring_tokens f__law_is_ring f__law_bent_ring : Addr} {f : Addr} {fd : FuncData} (T : Txt P w K mg base aBadStep aSpeedError) (D__law_slots : Df P w K mg base (caB aBadStep) 2 "_law_slots" f__law_slots ["wheel", "network"] g__law_slots) (D__law_arcs : Df P w K mg base (caB aBadStep) 1 "_law_arcs" f__law_arcs ["network"] g__law_arcs) (D__law_same : Df P w K mg base (caB aBadStep) 1 "_law_same" f__law_same ["told", "due"] g__law_same) (D_arcs_of : Df P w K mg base (caB aBadStep) 3 "arcs_of" f_arcs_of ["network", "slots"] g_arcs_of) (D__law_spin : Df P w K mg base (caB aBadStep) 1 "_law_spin" f__law_spin ["wheel", "many"] g__law_spin) (D_arc_weight : Df P w K mg base (caB aBadStep) 2 "arc_weight" f_arc_weight ["network", "slots", "arc"] g_arc_weight) (D__law_tokens : Df P w K mg base (caB aBadStep) 1 "_law_tokens" f__law_tokens ["network", "slots", "arc"] g__law_tokens) (D__law_drawn_ring : Df P w K mg base (caB aBadStep) 2 "_law_drawn_ring" f__law_drawn_ring ["wheel", "network"] g__law_drawn_ring) (D_is_ring : Df P w K mg base (caB aBadStep) 4 "is_ring" f_is_ring ["network", "thing"] g_is_ring) (D_ring_delay : Df P w K mg base (caB aBadStep) 2 "ring_delay" f_ring_delay ["network", "ring"] g_ring_delay) (D_ring_tokens : Df P w K mg base (caB aBadStep) 2 "ring_tokens" f_ring_tokens ["network", "slots", "ring"] g_ring_tokens) (D__law_is_ring : Df P w K mg base (caB aBadStep) 1 "_law_is_ring" f__law_is_ring ["network", "thing"] g__law_is_ring) (D__law_bent_ring : Df P w K mg base (caB aBadStep) 2 "_law_bent_ring" f__law_bent_ring ["wheel", "network", "ring"] g__law_bent_ring) (F : Fun K "_law_asked" "_law_asked" d__law_asked f fd) : FnSim P w K mg base (caB aBadStep) 5 f fd ["wheel", "network", "laps"] g__law_asked := by
  have nd := sc__law_asked.nd
  exact FnSim.of F sc__law_asked fun cdv A outer sh H E hr =>
  (sss_cons (ss_set nd rfl (Or.inr rfl) (se_dB D__law_slots (hr.mono (by omega)) (by rfl) (sb_name (pv 0) (sb_val (sv 1) sb_nil))))
  (sss_cons (ss_set nd rfl (Or.inl rfl) (se_fz (se_dP D__law_arcs (hr.mono (by omega)) (by rfl) (sa_cons (sv 1) sa_nil))))
  (sss_cons (ss_if (st_not (st_tru (se_dP D__law_same (hr.mono (by omega)) (by rfl) (sa_cons (se_dP D_arcs_of (hr.mono (by omega)) (by rfl) (sa_cons (sv 1) (sa_cons (sv 3) sa_nil))) (sa_cons (se_b1T (by rfl) T.ntuple (hb := b1_tuple) (hv := boot_tuple) (ha := (se_n1B (by rfl) T.nsorted (hb := n1_sortT) (hv := boot_sorted) (ha := (se_lc (own := [("arc", 6), ("delay", 7)]) rfl nd (sv 4) (blkOk_by (N := ["wheel", "network", "laps", "slots", "arcs", "lap", "arc", "delay", "weights", "ring", "due", "told", "turn", "thing"]) (sc := defScope d__law_asked) (own := [("arc", 6), ("delay", 7)]) (by decide +kernel)) (fun _ _ _ _ _ => (sg_tup rfl (sgs_cons (sg_name nd rfl (by first | exact Or.inl rfl | exact Or.inr rfl)) (sgs_cons (sg_name nd rfl (by first | exact Or.inl rfl | exact Or.inr rfl)) sgs_nil)))) (fun _ _ _ _ _ => sts_nil) (fun _ _ _ _ _ => (sv 6))))))) sa_nil))))) (sss_one (ss_ret se_bl)) sss_nil)
  (sss_cons (ss_for (passes_of rfl) rfl (se_buT bu_range (by rfl) T.nrange boot_range (sa_cons (se_buB (bu_min rfl) (by rfl) T.nmin boot_min (sa_cons (se_bin ops_mul se_int (sv 2)) (sa_cons (se_b1B (by rfl) T.nlen (hb := b1_len) (hv := boot_len) (ha := (sv 4))) sa_nil))) sa_nil)) (sg_name nd rfl (Or.inl rfl)) (sss_cons (ss_asg (se_ix (sv 4) (se_dB D__law_spin (hr.mono (by omega)) (by rfl) (sb_name (pv 0) (sb_val (se_b1B (by rfl) T.nlen (hb := b1_len) (hv := boot_len) (ha := (sv 4))) sb_nil)))) (sg_tup rfl (sgs_cons (sg_name nd rfl (Or.inl rfl)) (sgs_cons (sg_name nd rfl (Or.inl rfl)) sgs_nil))))
  (sss_one (ss_if (st_not (st_tru (se_dP D__law_same (hr.mono (by omega)) (by rfl) (sa_cons (se_dP D_arc_weight (hr.mono (by omega)) (by rfl) (sa_cons (sv 1) (sa_cons (sv 3) (sa_cons (sv 6) sa_nil)))) (sa_cons (se_tup (sa_cons (sv 7) (sa_cons (se_dP D__law_tokens (hr.mono (by omega)) (by rfl) (sa_cons (sv 1) (sa_cons (sv 3) (sa_cons (sv 6) sa_nil)))) sa_nil))) sa_nil))))) (sss_one (ss_ret se_bl)) sss_nil))))
  (sss_cons (ss_set nd rfl (Or.inr rfl) se_dnT)
  (sss_cons (ss_for (passes_of rfl) rfl (sv 4) (sg_tup rfl (sgs_cons (sg_name nd rfl (Or.inl rfl)) (sgs_cons (sg_name nd rfl (Or.inl rfl)) sgs_nil))) (sss_one (ss_dputT (hu1 hr) (pv 8) (sv 6) (sv 7))))
  (sss_cons (ss_for (passes_of rfl) rfl (se_buT bu_range (by rfl) T.nrange boot_range (sa_cons (sv 2) sa_nil)) (sg_name nd rfl (Or.inl rfl)) (sss_cons (ss_set nd rfl (Or.inl rfl) (se_dB D__law_drawn_ring (hr.mono (by omega)) (by rfl) (sb_name (pv 0) (sb_val (sv 1) sb_nil))))
  (sss_one (ss_if (st_cmp ops_isNot (sv 9) se_non) (sss_cons (ss_set nd rfl (Or.inl rfl) (se_tup (sa_cons se_bl (sa_cons (se_b1B (by rfl) T.nsum (hb := (b1_sum rfl)) (hv := boot_sum) (ha := (se_lc (own := [("arc", 6)]) rfl nd (sv 9) (blkOk_by (N := ["wheel", "network", "laps", "slots", "arcs", "lap", "arc", "delay", "weights", "ring", "due", "told", "turn", "thing"]) (sc := defScope d__law_asked) (own := [("arc", 6)]) (by decide +kernel)) (fun _ _ _ _ _ => (sg_name nd rfl (by first | exact Or.inl rfl | exact Or.inr rfl))) (fun _ _ _ _ _ => sts_nil) (fun _ _ _ _ _ => (se_dgetT (hu1 hr) (pv 8) (sv 6)))))) (sa_cons (se_b1B (by rfl) T.nsum (hb := (b1_sum rfl)) (hv := boot_sum) (ha := (se_lc (own := [("arc", 6)]) rfl nd (sv 9) (blkOk_by (N := ["wheel", "network", "laps", "slots", "arcs", "lap", "arc", "delay", "weights", "ring", "due", "told", "turn", "thing"]) (sc := defScope d__law_asked) (own := [("arc", 6)]) (by decide +kernel)) (fun _ _ _ _ _ => (sg_name nd rfl (by first | exact Or.inl rfl | exact Or.inr rfl))) (fun _ _ _ _ _ => sts_nil) (fun _ _ _ _ _ => (se_dP D__law_tokens (hr.mono (by omega)) (by rfl) (sa_cons (sv 1) (sa_cons (sv 3) (sa_cons (sv 6) sa_nil)))))))) sa_nil)))))
  (sss_cons (ss_set nd rfl (Or.inl rfl) (se_tup (sa_cons (se_dP D_is_ring (hr.mono (by omega)) (by rfl) (sa_cons (sv 1) (sa_cons (sv 9) sa_nil))) (sa_cons (se_dP D_ring_delay (hr.mono (by omega)) (by rfl) (sa_cons (sv 1) (sa_cons (sv 9) sa_nil))) (sa_cons (se_dP D_ring_tokens (hr.mono (by omega)) (by rfl) (sa_cons (sv 1) (sa_cons (sv 3) (sa_cons (sv 9) sa_nil)))) sa_nil)))))
  (sss_cons (ss_if (SW.st (sw_or (st_not (st_tru (se_dP D__law_is_ring (hr.mono (by omega)) (by rfl) (sa_cons (sv 1) (sa_cons (sv 9) sa_nil))))) (sw_or1 (st_not (st_tru (se_dP D__law_same (hr.mono (by omega)) (by rfl) (sa_cons (sv 11) (sa_cons (sv 10) sa_nil)))))))) (sss_one (ss_ret se_bl)) sss_nil)
  (sss_one (ss_for (passes_of rfl) rfl (se_buT bu_range (by rfl) T.nrange boot_range (sa_cons se_int sa_nil)) (sg_name nd rfl (Or.inl rfl)) (sss_cons (ss_set nd rfl (Or.inl rfl) (se_dB D__law_bent_ring (hr.mono (by omega)) (by rfl) (sb_name (pv 0) (sb_val (sv 1) (sb_val (sv 9) sb_nil)))))
  (sss_one (ss_if (st_not (st_tru (se_dP D__law_same (hr.mono (by omega)) (by rfl) (sa_cons (se_dP D_is_ring (hr.mono (by omega)) (by rfl) (sa_cons (sv 1) (sa_cons (sv 13) sa_nil))) (sa_cons (se_dP D__law_is_ring (hr.mono (by omega)) (by rfl) (sa_cons (sv 1) (sa_cons (sv 13) sa_nil))) sa_nil))))) (sss_one (ss_ret se_bl)) sss_nil)))))))) sss_nil))))
  (sss_one (ss_ret (se_and (se_cmp ops_is (se_dP D_is_ring (hr.mono (by omega)) (by rfl) (sa_cons (sv 1) (sa_cons (se_tup sa_nil) sa_nil))) se_bl) (se_one (se_cmp ops_is (se_dP D_is_ring (hr.mono (by omega)) (by rfl) (sa_cons (sv 1) (sa_cons se_non sa_nil))) se_bl))))))))))))

/-! law -/
abbrev d_law : Stmt := top 27
def s_law : Fr → SO := (sSeq (sSet 1 (eLst (aCons (eV 0) (aCons (eC (.int 0)) (aCons (eC (.int 0)) (aCons (eC (.int 0)) (aCons (eC (.int 0)) aNil)))))))
  (sSeq (sForE (eBu gRange (aCons (eC (.int 3)) aNil)) (gtN 2) (sSeq (sSet 3 (eCallB 4 g__law_net (bName 1 (bVal (eBin gAdd (eC (.int 1)) (eCallB 2 g__law_spin (bName 1 (bVal (eC (.int 8)) bNil)))) (bVal (eC (.int 4)) (bVal (eBin gGt (eCallB 2 g__law_spin (bName 1 (bVal (eC (.int 4)) bNil))) (eC (.int 0))) bNil))))))
  (sIf (bNot (bTru (eCallB 3 g__law_asked (bName 1 (bVal (eV 3) (bVal (eC (.int 3)) bNil)))))) (sRet (eC (.bl false))) sNil)))
  (sSeq (sSet 4 (eBin gAdd (eC (.int 1)) (eCallB 2 g__law_spin (bName 1 (bVal (eC (.int 8)) bNil)))))
  (sSeq (sSet 5 (eTup (aCons (eTup (aCons (eC (.str "add")) (aCons (eTup (aCons (eC .non) (aCons (eC .non) aNil))) aNil))) (aCons (eTup (aCons (eC (.str "mul")) (aCons (eTup (aCons (eC .non) (aCons (eC .non) aNil))) aNil))) (aCons (eTup (aCons (eC (.str "out")) (aCons (eTup (aCons (eC .non) aNil)) aNil))) aNil)))))
  (sSeq (sSet 3 (eTup (aCons (eV 5) (aCons (eTup (aCons (eTup (aCons (eC (.int 0)) (aCons (eC (.int 0)) (aCons (eC (.int 0)) (aCons (eC (.int 1)) (aCons (eBin gRep (eTup (aCons (eC (.int 4)) aNil)) (eV 4)) aNil)))))) (aCons (eTup (aCons (eC (.int 1)) (aCons (eC (.int 0)) (aCons (eC (.int 1)) (aCons (eC (.int 3)) (aCons (eTup (aCons (eC (.int 5)) aNil)) aNil)))))) (aCons (eTup (aCons (eC (.int 0)) (aCons (eC (.int 1)) (aCons (eC (.int 0)) (aCons (eC (.int 2)) (aCons (eTup aNil) aNil)))))) (aCons (eTup (aCons (eC (.int 0)) (aCons (eC (.int 1)) (aCons (eC (.int 1)) (aCons (eC (.int 7)) (aCons (eTup (aCons (eC (.int 6)) (aCons (eC (.int 6)) aNil))) aNil)))))) (aCons (eTup (aCons (eC (.int 1)) (aCons (eC (.int 2)) (aCons (eC (.int 0)) (aCons (eC (.int 3)) (aCons (eTup aNil) aNil)))))) aNil)))))) aNil))))
  (sSeq (sSet 6 (eTup (aCons (eV 4) (aCons (eC (.int 2)) (aCons (eC (.int 1)) (aCons (eC (.int 4)) (aCons (eC (.int 9)) aNil)))))))
  (sSeq (sSet 7 (eTup (aCons (eTup (aCons (eC (.str "against")) (aCons (eC (.int 0)) (aCons (eC (.int 0)) (aCons (eC (.int 0)) aNil))))) (aCons (eTup (aCons (eC (.str "against")) (aCons (eC (.int 1)) (aCons (eC (.int 0)) (aCons (eC (.int 1)) aNil))))) (aCons (eTup (aCons (eC (.str "against")) (aCons (eC (.int 2)) (aCons (eC (.int 1)) (aCons (eC (.int 0)) aNil))))) (aCons (eTup (aCons (eC (.str "against")) (aCons (eC (.int 3)) (aCons (eC (.int 1)) (aCons (eC (.int 0)) aNil))))) (aCons (eTup (aCons (eC (.str "against")) (aCons (eC (.int 4)) (aCons (eC (.int 2)) (aCons (eC (.int 1)) aNil))))) aNil)))))))
  (sSeq (sSet 7 (eBin gAdd (eV 7) (eTup (aCons (eTup (aCons (eC (.str "along")) (aCons (eC (.int 0)) (aCons (eC (.int 0)) (aCons (eC (.int 0)) aNil))))) (aCons (eTup (aCons (eC (.str "along")) (aCons (eC (.int 1)) (aCons (eC (.int 1)) (aCons (eC (.int 0)) aNil))))) (aCons (eTup (aCons (eC (.str "along")) (aCons (eC (.int 2)) (aCons (eC (.int 0)) (aCons (eC (.int 1)) aNil))))) (aCons (eTup (aCons (eC (.str "along")) (aCons (eC (.int 3)) (aCons (eC (.int 0)) (aCons (eC (.int 1)) aNil))))) (aCons (eTup (aCons (eC (.str "along")) (aCons (eC (.int 4)) (aCons (eC (.int 1)) (aCons (eC (.int 2)) aNil))))) aNil))))))))
  (sSeq (sIf (bNot (bTru (eCallP 2 g__law_same (aCons (eCallP 2 g_arcs_of (aPrm 2 [1, 0] (aCons (eV 6) (aCons (eV 3) aNil)))) (aCons (eV 7) aNil))))) (sRet (eC (.bl false))) sNil)
  (sSeq (sSet 8 (eFz (eLst (aCons (eTup (aCons (eTup (aCons (eIx (eV 7) (eC (.int 5))) aNil)) (aCons (eC (.int 1)) (aCons (eV 4) aNil)))) (aCons (eTup (aCons (eTup (aCons (eIx (eV 7) (eC (.int 0))) aNil)) (aCons (eC (.int 1)) (aCons (eC (.int 0)) aNil)))) (aCons (eTup (aCons (eTup (aCons (eIx (eV 7) (eC (.int 8))) (aCons (eIx (eV 7) (eC (.int 2))) aNil))) (aCons (eC (.int 8)) (aCons (eC (.int 3)) aNil)))) (aCons (eTup (aCons (eTup (aCons (eIx (eV 7) (eC (.int 6))) (aCons (eIx (eV 7) (eC (.int 7))) aNil))) (aCons (eC (.int 5)) (aCons (eC (.int 1)) aNil)))) (aCons (eTup (aCons (eTup (aCons (eIx (eV 7) (eC (.int 1))) (aCons (eIx (eV 7) (eC (.int 6))) aNil))) (aCons (eC (.int 4)) (aCons (eC (.int 2)) aNil)))) (aCons (eTup (aCons (eTup (aCons (eIx (eV 7) (eC (.int 9))) (aCons (eIx (eV 7) (eC (.int 4))) aNil))) (aCons (eC (.int 4)) (aCons (eC (.int 9)) aNil)))) aNil)))))))))
  (sSeq (sForE (eV 8) (gtT 3 (gsCons (gtN 9) (gsCons (gtN 10) (gsCons (gtN 11) gsNil)))) (sSeq (sSet 12 (eTup (aCons (eCallP 2 g_is_ring (aPrm 2 [1, 0] (aCons (eV 9) (aCons (eV 3) aNil)))) (aCons (eCallP 2 g_ring_delay (aPrm 2 [1, 0] (aCons (eV 9) (aCons (eV 3) aNil)))) (aCons (eCallP 3 g_ring_tokens (aPrm 3 [2, 1, 0] (aCons (eV 9) (aCons (eV 6) (aCons (eV 3) aNil))))) aNil)))))
  (sIf (bNot (bTru (eCallP 2 g__law_same (aCons (eV 12) (aCons (eTup (aCons (eC (.bl true)) (aCons (eV 10) (aCons (eV 11) aNil)))) aNil))))) (sRet (eC (.bl false))) sNil)))
  (sSeq (sForE (eLst (aCons (eBin gRep (eSl (eV 7) (some (eC (.int 5))) (some (eC (.int 6)))) (eC (.int 2))) (aCons (eTup (aCons (eIx (eV 7) (eC (.int 7))) aNil)) (aCons (eTup (aCons (eIx (eV 7) (eC (.int 7))) (aCons (eIx (eV 7) (eC (.int 9))) aNil))) (aCons (eTup (aCons (eIx (eV 7) (eC (.int 5))) (aCons (eIx (eV 7) (eC (.int 8))) (aCons (eIx (eV 7) (eC (.int 2))) aNil)))) (aCons (eTup (aCons (eIx (eV 7) (eC (.int 2))) (aCons (eIx (eV 7) (eC (.int 2))) aNil))) (aCons (eFz (eLst (aCons (eIx (eV 7) (eC (.int 5))) aNil))) (aCons (eTup (aCons (eTup (aCons (eC (.str "along")) (aCons (eC (.bl false)) (aCons (eC (.int 0)) (aCons (eC (.int 0)) aNil))))) aNil)) (aCons (eIx (eV 7) (eC (.int 5))) aNil))))))))) (gtN 13) (sIf (bCmp gIsNot (eCallP 2 g_is_ring (aCons (eV 3) (aCons (eV 13) aNil))) (eC (.bl false))) (sRet (eC (.bl false))) sNil))
  (sSeq (sIf (bNot (bTru (eCallP 2 g__law_same (aCons (eCallP 3 g_arc_weight (aPrm 3 [2, 1, 0] (aCons (eIx (eV 7) (eC (.int 3))) (aCons (eV 6) (aCons (eV 3) aNil))))) (aCons (eTup (aCons (eC (.int 1)) (aCons (eC (.int 2)) aNil))) aNil))))) (sRet (eC (.bl false))) sNil)
  (sRet (eOr (eBin gNe (eCallB 2 g__law_spin (bName 1 (bVal (eC (.int 13)) bNil))) (eC (.int 9))) (eCallB 3 g__law_asked (bName 1 (bVal (eCallB 4 g__law_net (bName 1 (bVal (eC (.int 40)) (bVal (eC (.int 8)) (bVal (eC (.bl true)) bNil))))) (bVal (eC (.int 4)) bNil)))))))))))))))))))
def g_law : List MV → FO := runB 14 s_law
theorem sc_law : FnScope ["script", "wheel", "lap", "network", "n", "modules", "slots", "due", "rings", "ring", "delay", "tokens", "told", "thing"] ["script"] (defScope d_law) := ⟨rfl, rfl, rfl, by decide +kernel, rfl, by decide +kernel, by decide +kernel⟩
theorem ok_law {f__law_net f__law_spin f__law_asked f__law_same f_is_ring f_arcs_of f_ring_delay f_ring_tokens f_arc_weight : Addr} {f : Addr} {fd : FuncData} (T : Txt P w K mg base aBadStep aSpeedError) (D__law_net : Df P w K mg base (caB aBadStep) 3 "_law_net" f__law_net ["wheel", "many", "most", "back"] g__law_net) (D__law_spin : Df P w K mg base (caB aBadStep) 1 "_law_spin" f__law_spin ["wheel", "many"] g__law_spin) (D__law_asked : Df P w K mg base (caB aBadStep) 5 "_law_asked" f__law_asked ["wheel", "network", "laps"] g__law_asked) (D__law_same : Df P w K mg base (caB aBadStep) 1 "_law_same" f__law_same ["told", "due"] g__law_same) (D_is_ring : Df P w K mg base (caB aBadStep) 4 "is_ring" f_is_ring ["network", "thing"] g_is_ring) (DK_0 : KDf P w K mg base (caB aBadStep) 3 "arcs_of" f_arcs_of ["network", "slots"] ["slots", "network"] [1, 0] g_arcs_of) (DK_1 : KDf P w K mg base (caB aBadStep) 4 "is_ring" f_is_ring ["network", "thing"] ["thing", "network"] [1, 0] g_is_ring) (DK_2 : KDf P w K mg base (caB aBadStep) 2 "ring_delay" f_ring_delay ["network", "ring"] ["ring", "network"] [1, 0] g_ring_delay) (DK_3 : KDf P w K mg base (caB aBadStep) 2 "ring_tokens" f_ring_tokens ["network", "slots", "ring"] ["ring", "slots", "network"] [2, 1, 0] g_ring_tokens) (DK_4 : KDf P w K mg base (caB aBadStep) 2 "arc_weight" f_arc_weight ["network", "slots", "arc"] ["arc", "slots", "network"] [2, 1, 0] g_arc_weight) (F : Fun K "law" "law" d_law f fd) : FnSim P w K mg base (caB aBadStep) 6 f fd ["script"] g_law := by
  have nd := sc_law.nd
  exact FnSim.of F sc_law fun cdv A outer sh H E hr =>
  (sss_cons (ss_set nd rfl (Or.inl rfl) (se_lst (sa_cons (sv 0) (sa_cons se_int (sa_cons se_int (sa_cons se_int (sa_cons se_int sa_nil)))))))
  (sss_cons (ss_for (passes_of rfl) rfl (se_buT bu_range (by rfl) T.nrange boot_range (sa_cons se_int sa_nil)) (sg_name nd rfl (Or.inl rfl)) (sss_cons (ss_set nd rfl (Or.inl rfl) (se_dB D__law_net (hr.mono (by omega)) (by rfl) (sb_name (pv 1) (sb_val (se_bin ops_add se_int (se_dB D__law_spin (hr.mono (by omega)) (by rfl) (sb_name (pv 1) (sb_val se_int sb_nil)))) (sb_val se_int (sb_val (se_cmp ops_gt (se_dB D__law_spin (hr.mono (by omega)) (by rfl) (sb_name (pv 1) (sb_val se_int sb_nil))) se_int) sb_nil))))))
  (sss_one (ss_if (st_not (st_tru (se_dB D__law_asked (hr.mono (by omega)) (by rfl) (sb_name (pv 1) (sb_val (sv 3) (sb_val se_int sb_nil)))))) (sss_one (ss_ret se_bl)) sss_nil))))
  (sss_cons (ss_set nd rfl (Or.inl rfl) (se_bin ops_add se_int (se_dB D__law_spin (hr.mono (by omega)) (by rfl) (sb_name (pv 1) (sb_val se_int sb_nil)))))
  (sss_cons (ss_set nd rfl (Or.inl rfl) (se_tup (sa_cons (se_tup (sa_cons se_str (sa_cons (se_tup (sa_cons se_non (sa_cons se_non sa_nil))) sa_nil))) (sa_cons (se_tup (sa_cons se_str (sa_cons (se_tup (sa_cons se_non (sa_cons se_non sa_nil))) sa_nil))) (sa_cons (se_tup (sa_cons se_str (sa_cons (se_tup (sa_cons se_non sa_nil)) sa_nil))) sa_nil)))))
  (sss_cons (ss_set nd rfl (Or.inl rfl) (se_tup (sa_cons (sv 5) (sa_cons (se_tup (sa_cons (se_tup (sa_cons se_int (sa_cons se_int (sa_cons se_int (sa_cons se_int (sa_cons (se_bin ops_rep (se_tup (sa_cons se_int sa_nil)) (sv 4)) sa_nil)))))) (sa_cons (se_tup (sa_cons se_int (sa_cons se_int (sa_cons se_int (sa_cons se_int (sa_cons (se_tup (sa_cons se_int sa_nil)) sa_nil)))))) (sa_cons (se_tup (sa_cons se_int (sa_cons se_int (sa_cons se_int (sa_cons se_int (sa_cons (se_tup sa_nil) sa_nil)))))) (sa_cons (se_tup (sa_cons se_int (sa_cons se_int (sa_cons se_int (sa_cons se_int (sa_cons (se_tup (sa_cons se_int (sa_cons se_int sa_nil))) sa_nil)))))) (sa_cons (se_tup (sa_cons se_int (sa_cons se_int (sa_cons se_int (sa_cons se_int (sa_cons (se_tup sa_nil) sa_nil)))))) sa_nil)))))) sa_nil))))
  (sss_cons (ss_set nd rfl (Or.inl rfl) (se_tup (sa_cons (sv 4) (sa_cons se_int (sa_cons se_int (sa_cons se_int (sa_cons se_int sa_nil)))))))
  (sss_cons (ss_set nd rfl (Or.inl rfl) (se_tup (sa_cons (se_tup (sa_cons se_str (sa_cons se_int (sa_cons se_int (sa_cons se_int sa_nil))))) (sa_cons (se_tup (sa_cons se_str (sa_cons se_int (sa_cons se_int (sa_cons se_int sa_nil))))) (sa_cons (se_tup (sa_cons se_str (sa_cons se_int (sa_cons se_int (sa_cons se_int sa_nil))))) (sa_cons (se_tup (sa_cons se_str (sa_cons se_int (sa_cons se_int (sa_cons se_int sa_nil))))) (sa_cons (se_tup (sa_cons se_str (sa_cons se_int (sa_cons se_int (sa_cons se_int sa_nil))))) sa_nil)))))))
  (sss_cons (ss_set nd rfl (Or.inl rfl) (se_bin ops_add (sv 7) (se_tup (sa_cons (se_tup (sa_cons se_str (sa_cons se_int (sa_cons se_int (sa_cons se_int sa_nil))))) (sa_cons (se_tup (sa_cons se_str (sa_cons se_int (sa_cons se_int (sa_cons se_int sa_nil))))) (sa_cons (se_tup (sa_cons se_str (sa_cons se_int (sa_cons se_int (sa_cons se_int sa_nil))))) (sa_cons (se_tup (sa_cons se_str (sa_cons se_int (sa_cons se_int (sa_cons se_int sa_nil))))) (sa_cons (se_tup (sa_cons se_str (sa_cons se_int (sa_cons se_int (sa_cons se_int sa_nil))))) sa_nil))))))))
  (sss_cons (ss_if (st_not (st_tru (se_dP D__law_same (hr.mono (by omega)) (by rfl) (sa_cons (se_dK DK_0 (hr.mono (by omega)) (by rfl) (sk_cons (sv 6) (sk_cons (sv 3) sk_nil))) (sa_cons (sv 7) sa_nil))))) (sss_one (ss_ret se_bl)) sss_nil)
  (sss_cons (ss_set nd rfl (Or.inl rfl) (se_fz (se_lst (sa_cons (se_tup (sa_cons (se_tup (sa_cons (se_ix (sv 7) se_int) sa_nil)) (sa_cons se_int (sa_cons (sv 4) sa_nil)))) (sa_cons (se_tup (sa_cons (se_tup (sa_cons (se_ix (sv 7) se_int) sa_nil)) (sa_cons se_int (sa_cons se_int sa_nil)))) (sa_cons (se_tup (sa_cons (se_tup (sa_cons (se_ix (sv 7) se_int) (sa_cons (se_ix (sv 7) se_int) sa_nil))) (sa_cons se_int (sa_cons se_int sa_nil)))) (sa_cons (se_tup (sa_cons (se_tup (sa_cons (se_ix (sv 7) se_int) (sa_cons (se_ix (sv 7) se_int) sa_nil))) (sa_cons se_int (sa_cons se_int sa_nil)))) (sa_cons (se_tup (sa_cons (se_tup (sa_cons (se_ix (sv 7) se_int) (sa_cons (se_ix (sv 7) se_int) sa_nil))) (sa_cons se_int (sa_cons se_int sa_nil)))) (sa_cons (se_tup (sa_cons (se_tup (sa_cons (se_ix (sv 7) se_int) (sa_cons (se_ix (sv 7) se_int) sa_nil))) (sa_cons se_int (sa_cons se_int sa_nil)))) sa_nil)))))))))
  (sss_cons (ss_for (passes_of rfl) rfl (sv 8) (sg_tup rfl (sgs_cons (sg_name nd rfl (Or.inl rfl)) (sgs_cons (sg_name nd rfl (Or.inl rfl)) (sgs_cons (sg_name nd rfl (Or.inl rfl)) sgs_nil)))) (sss_cons (ss_set nd rfl (Or.inl rfl) (se_tup (sa_cons (se_dK DK_1 (hr.mono (by omega)) (by rfl) (sk_cons (sv 9) (sk_cons (sv 3) sk_nil))) (sa_cons (se_dK DK_2 (hr.mono (by omega)) (by rfl) (sk_cons (sv 9) (sk_cons (sv 3) sk_nil))) (sa_cons (se_dK DK_3 (hr.mono (by omega)) (by rfl) (sk_cons (sv 9) (sk_cons (sv 6) (sk_cons (sv 3) sk_nil)))) sa_nil)))))
  (sss_one (ss_if (st_not (st_tru (se_dP D__law_same (hr.mono (by omega)) (by rfl) (sa_cons (sv 12) (sa_cons (se_tup (sa_cons se_bl (sa_cons (sv 10) (sa_cons (sv 11) sa_nil)))) sa_nil))))) (sss_one (ss_ret se_bl)) sss_nil))))
  (sss_cons (ss_for (passes_of rfl) rfl (se_lst (sa_cons (se_bin ops_rep (se_sl (sv 7) (.some se_int) (.some se_int)) se_int) (sa_cons (se_tup (sa_cons (se_ix (sv 7) se_int) sa_nil)) (sa_cons (se_tup (sa_cons (se_ix (sv 7) se_int) (sa_cons (se_ix (sv 7) se_int) sa_nil))) (sa_cons (se_tup (sa_cons (se_ix (sv 7) se_int) (sa_cons (se_ix (sv 7) se_int) (sa_cons (se_ix (sv 7) se_int) sa_nil)))) (sa_cons (se_tup (sa_cons (se_ix (sv 7) se_int) (sa_cons (se_ix (sv 7) se_int) sa_nil))) (sa_cons (se_fz (se_lst (sa_cons (se_ix (sv 7) se_int) sa_nil))) (sa_cons (se_tup (sa_cons (se_tup (sa_cons se_str (sa_cons se_bl (sa_cons se_int (sa_cons se_int sa_nil))))) sa_nil)) (sa_cons (se_ix (sv 7) se_int) sa_nil))))))))) (sg_name nd rfl (Or.inl rfl)) (sss_one (ss_if (st_cmp ops_isNot (se_dP D_is_ring (hr.mono (by omega)) (by rfl) (sa_cons (sv 3) (sa_cons (sv 13) sa_nil))) se_bl) (sss_one (ss_ret se_bl)) sss_nil)))
  (sss_cons (ss_if (st_not (st_tru (se_dP D__law_same (hr.mono (by omega)) (by rfl) (sa_cons (se_dK DK_4 (hr.mono (by omega)) (by rfl) (sk_cons (se_ix (sv 7) se_int) (sk_cons (sv 6) (sk_cons (sv 3) sk_nil)))) (sa_cons (se_tup (sa_cons se_int (sa_cons se_int sa_nil))) sa_nil))))) (sss_one (ss_ret se_bl)) sss_nil)
  (sss_one (ss_ret (se_or (se_cmp (ops_ne (hu hr)) (se_dB D__law_spin (hr.mono (by omega)) (by rfl) (sb_name (pv 1) (sb_val se_int sb_nil))) se_int) (se_one (se_dB D__law_asked (hr.mono (by omega)) (by rfl) (sb_name (pv 1) (sb_val (se_dB D__law_net (hr.mono (by omega)) (by rfl) (sb_name (pv 1) (sb_val se_int (sb_val se_int (sb_val se_bl sb_nil))))) (sb_val se_int sb_nil)))))))))))))))))))))

end
end K13
end Sm

namespace Sm
namespace K13
open PySem L2
variable {E : Ex → List MV → Prop} {Q : MV → List MV → Prop}
/-- the crank: the script, a place in it, three numbers -/
def CrL (P : List PV) : Prop := ∃ (S : List Int) (a : Nat) (b c d : Int), P = [.lst (S.map PV.int), .int (a : Int), .int b, .int c, .int d]
theorem cr0 (S : List Int) : CrL [.lst (S.map PV.int), .int 0, .int 0, .int 0, .int 0] := ⟨S, 0, 0, 0, 0, rfl⟩
def tuT : Fr → SO := (sSeq (sIf (bCmp gGt (eIxL 0 (eC (.int 2))) (eC (.int 0))) (sSeq (sSet 3 (eBin gMod (eBu gInt (aCons (eIxL 0 (eC (.int 2))) aNil)) (eV 1)))
  (sSeq (sSetIx 0 (eC (.int 2)) (eBin gDiv (eBu gInt (aCons (eIxL 0 (eC (.int 2))) aNil)) (eV 1)))
  (sRet (eV 3)))) sNil)
  (sSeq (sSet 4 (eBin gMod (eBu gInt (aCons (eBin gAdd (eBin gAdd (eBin gMul (eIxL 0 (eC (.int 3))) (eC (.int 30011))) (eBin gMul (eIxL 0 (eC (.int 4))) (eC (.int 947)))) (eC (.int 2371))) aNil)) (eC (.int 1299709))))
  (sSeq (sSet 4 (eBin gMod (eBu gInt (aCons (eBin gAdd (eBin gAdd (eBin gMul (eV 4) (eV 4)) (eBin gMul (eIxL 0 (eC (.int 4))) (eC (.int 83)))) (eBin gMul (eIxL 0 (eC (.int 3))) (eC (.int 61)))) aNil)) (eC (.int 1000249))))
  (sRet (eBin gMod (eBu gInt (aCons (eBin gDiv (eV 4) (eC (.int 67))) aNil)) (eV 1))))))
def tuC : Fr → SO := (sSeq (sSet 2 (eBin gMod (eBu gAbs (aCons (eBu gInt (aCons (eIx (eIxL 0 (eC (.int 0))) (eIxL 0 (eC (.int 1)))) aNil)) aNil)) (eBin gShl (eC (.int 1)) (eC (.int 2000)))))
  (sSeq (sSetIx 0 (eC (.int 1)) (eBin gAdd (eIxL 0 (eC (.int 1))) (eC (.int 1))))
  (sSeq (sSetIx 0 (eC (.int 3)) (eBin gMod (eBu gInt (aCons (eBin gAdd (eBin gAdd (eBin gMul (eIxL 0 (eC (.int 3))) (eC (.int 89))) (eBin gMod (eBu gInt (aCons (eV 2) aNil)) (eC (.int 1000003)))) (eC (.int 61))) aNil)) (eC (.int 200003))))
  (sIf (bCmp gGe (eV 2) (eBin gPow (eC (.int 10)) (eC (.int 18)))) (sSetIx 0 (eC (.int 2)) (eV 2)) sNil))))
theorem tu_eq : s__law_spin = (sSeq (sSetIx 0 (eC (.int 4)) (eBin gAdd (eIxL 0 (eC (.int 4))) (eC (.int 1))))
  (sSeq (sIf (bAnd (bCmp gEq (eIxL 0 (eC (.int 2))) (eC (.int 0))) (bCmp gLt (eIxL 0 (eC (.int 1))) (eB1 gLen (eIxL 0 (eC (.int 0)))))) tuC sNil) tuT)) := rfl
def tuP (S : List Int) (a : Nat) (b c d : Int) : List PV := [.lst (S.map PV.int), .int (a : Int), .int b, .int c, .int d]
theorem tuT_ok {o : Po} {S : List Int} {a : Nat} {b c d many : Int} {s2 : Sl} (hm : 0 < many) (hm2 : many ≤ 1000000) (h : ∀ v P' f, 0 ≤ v → v < many → CrL P' → o.rt (.pv (.int v)) (.pr (.pl P') :: .ow (.pv (.int many)) :: f)) :
    wS (tuT [.pr (.pl (tuP S a b c d)), .ow (.pv (.int many)), s2, .no, .no]) o := by
  have m0 : ∀ z : Int, 0 ≤ z % many := fun z => Int.emod_nonneg _ (by omega)
  have m1 : ∀ z : Int, z % many < many := fun z => Int.emod_lt_of_pos _ hm
  unfold tuT tuP
  top_name
  refine br_d (fun hz => ?_) fun hz => ?_
  · top_name
    refine w_mod hm ?_
    top_name
    refine w_div hm (by omega) ?_
    top_name
    exact h _ _ _ (m0 _) (m1 _) ⟨S, a, _, _, _, rfl⟩
  · top_name
    refine w_mul (.inr rfl) ?_
    top_name
    refine w_mul (.inr rfl) ?_
    top_name
    generalize hx : (c * 31013 + d * 953 + 2377) % 1299709 = x
    have hx0 : 0 ≤ x ∧ x < 1299709 := by rw [← hx]; exact ⟨Int.emod_nonneg _ (by decide), Int.emod_lt_of_pos _ (by decide)⟩
    refine w_mul (.inl (by unfold smallI; rw [decide_eq_true_eq]; omega)) ?_
    top_name
    refine w_mul (.inr rfl) ?_
    top_name
    refine w_mul (.inr rfl) ?_
    top_name
    refine w_mod hm ?_
    top_name
    exact h _ _ _ (m0 _) (m1 _) ⟨S, a, _, _, _, rfl⟩
theorem w_spin {P : List PV} (hP : CrL P) {many : Int} (hm : 0 < many) (hm2 : many ≤ 1000000) (h : ∀ v P', 0 ≤ v → v < many → CrL P' → Q (.pv (.int v)) [.pl P', .pv (.int many)]) : wF (g__law_spin [.pl P, .pv (.int many)]) E Q := by
  obtain ⟨S, a, b, c, d, rfl⟩ := hP
  refine w_runB ?_
  show wS (s__law_spin [.pr (.pl (tuP S a b c d)), .ow (.pv (.int many)), .no, .no, .no]) _
  rw [tu_eq]
  unfold tuP
  top_name
  refine br_d (fun hb => ?_) fun hb => ?_
  · top_name
    refine br_d (fun hl => ?_) fun hl => ?_
    · unfold tuC
      have hl2 : a < S.length := by rw [List.length_map] at hl; omega
      top_name
      refine w_ixL (r := .int S[a]) (atI_nat (by rw [List.getElem?_map, List.getElem?_eq_getElem hl2]; rfl)) ?_
      top_name
      generalize (if S[a] < 0 then -S[a] else S[a]) % (1 * 2 ^ Int.toNat 2000) = cell
      refine w_mul (.inr rfl) ?_
      top_name
      have fin : ∀ b' : Int, CrL (tuP S (a + 1) b' ((c * 89 + cell % 1000003 + 61) % 200003) (d + 1)) := fun b' => ⟨S, a + 1, _, _, _, rfl⟩
      refine br_d (fun hc => ?_) fun hc => ?_
      · top_name
        refine tuT_ok (S := S) (a := a + 1) (b := cell) (c := (c * 89 + cell % 1000003 + 61) % 200003) (d := d + 1) hm hm2 fun v P' f h0 h1 hP' => ?_
        exact ⟨_, rfl, h v P' h0 h1 hP'⟩
      · top_name
        refine tuT_ok (S := S) (a := a + 1) (b := b) (c := (c * 89 + cell % 1000003 + 61) % 200003) (d := d + 1) hm hm2 fun v P' f h0 h1 hP' => ?_
        exact ⟨_, rfl, h v P' h0 h1 hP'⟩
    · top_name
      refine tuT_ok (S := S) (a := a) (b := b) (c := c) (d := d + 1) hm hm2 fun v P' f h0 h1 hP' => ?_
      exact ⟨_, rfl, h v P' h0 h1 hP'⟩
  · top_name
    refine tuT_ok (S := S) (a := a) (b := b) (c := c) (d := d + 1) hm hm2 fun v P' f h0 h1 hP' => ?_
    exact ⟨_, rfl, h v P' h0 h1 hP'⟩
theorem item_at {v w : Int} (h0 : 0 ≤ w) (h1 : w < 5) (hv : 0 ≤ v ∧ v < 1000000) : ∃ r : Int, atI [PV.int 0, PV.int 1, PV.int 999999, PV.int 5, PV.int v] w = some (.int r) ∧ 0 ≤ r ∧ r ≤ 1000000 := by
  obtain ⟨n, rfl⟩ : ∃ n : Nat, w = (n : Int) := ⟨w.toNat, by omega⟩
  match n, h1 with
  | 0, _ => exact ⟨0, rfl, by decide, by decide⟩
  | 1, _ => exact ⟨1, rfl, by decide, by decide⟩
  | 2, _ => exact ⟨999999, rfl, by decide, by decide⟩
  | 3, _ => exact ⟨5, rfl, by decide, by decide⟩
  | 4, _ => exact ⟨v, rfl, hv.1, by omega⟩
  | n + 5, h => omega
theorem w_item {P : List PV} (hP : CrL P) (h : ∀ v P', 0 ≤ v → v ≤ 1000000 → CrL P' → Q (.pv (.int v)) [.pl P']) : wF (g__law_item [.pl P]) E Q := by
  refine w_runB ?_
  show wS (s__law_item [.pr (.pl P)]) _
  unfold s__law_item
  top_name
  refine w_spin hP (by decide) (by decide) fun v P1 a1 b1 hP1 => ?_
  top_name
  refine w_spin hP1 (by decide) (by decide) fun w P2 a2 b2 hP2 => ?_
  obtain ⟨r, er, h0, h1⟩ := item_at a2 b2 ⟨a1, b1⟩
  top_name
  refine w_ixL er ?_
  top_name
  exact h r P2 h0 h1 hP2
end K13
end Sm

namespace Sm
namespace K13
open PySem L2
variable {E : Ex → List MV → Prop} {Q : MV → List MV → Prop}
mutual
def dat : PV → Bool
  | .non => true
  | .bl _ => true
  | .int _ => true
  | .str _ => true
  | .tup ps => dats ps
  | _ => false
def dats : List PV → Bool
  | [] => true
  | p :: ps => dat p && dats ps
end
mutual
def nods : PV → Nat
  | .tup ps => 1 + nodss ps
  | _ => 1
def nodss : List PV → Nat
  | [] => 0
  | p :: ps => nods p + nodss ps
end
theorem dats_iff : ∀ {ps : List PV}, dats ps = true ↔ ∀ p ∈ ps, dat p = true
  | [] => ⟨fun _ _ h => (nomatch h), fun _ => rfl⟩
  | p :: ps => by
    show (dat p && dats ps) = true ↔ _
    rw [Bool.and_eq_true, dats_iff (ps := ps)]
    exact ⟨fun ⟨a, b⟩ q hq => (List.mem_cons.mp hq).elim (fun e => e ▸ a) (b q), fun h => ⟨h p List.mem_cons_self, fun q hq => h q (List.mem_cons_of_mem _ hq)⟩⟩
theorem nodss_app : ∀ (ps qs : List PV), nodss (ps ++ qs) = nodss ps + nodss qs
  | [], qs => by show nodss qs = 0 + nodss qs; omega
  | p :: ps, qs => by
    show nods p + nodss (ps ++ qs) = nods p + nodss ps + nodss qs
    rw [nodss_app ps qs]; omega
theorem nods_pos : ∀ p : PV, 1 ≤ nods p
  | .tup ps => by show 1 ≤ 1 + nodss ps; omega
  | .non => Nat.le_refl _
  | .bl _ => Nat.le_refl _
  | .int _ => Nat.le_refl _
  | .str _ => Nat.le_refl _
  | .adr _ => Nat.le_refl _
  | .ty _ => Nat.le_refl _
  | .rng _ _ => Nat.le_refl _
  | .lst _ => Nat.le_refl _
  | .tupz _ => Nat.le_refl _
  | .xcp _ _ _ _ _ => Nat.le_refl _
theorem nodss_len : ∀ ps : List PV, ps.length ≤ nodss ps
  | [] => Nat.le_refl _
  | p :: ps => by
    show ps.length + 1 ≤ nods p + nodss ps
    have := nods_pos p
    have := nodss_len ps
    omega
def pr2 (p : PV) : PV := .tup [p, p]
def ixG (ps : List PV) : PV → PV := fun z => match z with | .int i => pr2 ((atI ps i).getD .non) | _ => .non
theorem ixG_map (ps : List PV) : (((rgPs 0 ps.length).filter fun _ => true).map (ixG ps)) = ps.map pr2 := by
  rw [List.filter_eq_self.mpr fun _ _ => rfl]
  refine List.ext_getElem? fun i => ?_
  rw [List.getElem?_map, List.getElem?_map]
  by_cases hi : i < ps.length
  · rw [List.getElem?_eq_getElem hi]
    have e : (rgPs 0 ps.length)[i]? = some (.int i) := by
      unfold rgPs
      rw [List.getElem?_map, List.getElem?_range hi]
      show some (PV.int (0 + (i : Int))) = _
      rw [Int.zero_add]
    rw [e]
    show some (pr2 ((atI ps (i : Int)).getD .non)) = _
    rw [atI_nat (List.getElem?_eq_getElem hi)]; rfl
  · rw [List.getElem?_eq_none (by rw [rgPs_len]; omega), List.getElem?_eq_none (by omega)]; rfl
theorem gt2_at {f : Fr} {i j : Nat} {s s' : Sl} {p q : PV} (e1 : f[i]? = some s) (h1 : fre s) (e2 : (f.set i (.ow (.pv p)))[j]? = some s') (h2 : fre s') : gtT 2 (gsCons (gtN i) (gsCons (gtN j) gsNil)) (.tup [p, q]) f = some ((f.set i (.ow (.pv p))).set j (.ow (.pv q))) := by
  show (match gtN i p f with | some fr1 => (match gtN j q fr1 with | some fr1 => some fr1 | none => none) | none => none) = _
  rw [gtN_at e1 h1]
  show (match gtN j q (f.set i (.ow (.pv p))) with | some fr1 => some fr1 | none => none) = _
  rw [gtN_at e2 h2]
theorem same_ok {p : PV} (hd : dat p = true) (hn : nods p ≤ 3900) (h : Q (.pv (.bl true)) [.pv p, .pv p]) : wF (g__law_same [.pv p, .pv p]) E Q := by
  refine w_runB ?_
  show wS (s__law_same [.ow (.pv p), .ow (.pv p), .no, .no, .no, .no]) _
  unfold s__law_same
  top_name
  refine w_while (fun k f => ∃ (qs : List PV) (s3 s4 s5 : Sl), f = [.ow (.pv p), .ow (.pv p), .ow (.pl (qs.map pr2)), s3, s4, s5] ∧ fre s3 ∧ fre s4 ∧ fre s5 ∧ plainS (some s5) = true ∧ dats qs = true ∧ k = nodss qs ∧ nodss qs ≤ 3900) (fun k f ⟨qs, s3, s4, s5, hf, f3, f4, f5, p5, hq, hk, hk2⟩ => ?_) 4000 (nods p) _ ⟨[p], .no, .no, .no, rfl, fre_no, fre_no, fre_no, rfl, by show (dat p && true) = true; rw [hd]; rfl, by show nods p = nods p + 0; omega, by show nods p + 0 ≤ 3900; omega⟩ (by omega)
  subst hf hk
  have lq := nodss_len qs
  have el : (qs.map pr2).length = qs.length := List.length_map _
  top_name
  rw [el]
  refine br_d (fun hz => ?_) fun hz => ?_
  · obtain ⟨init, q, rfl⟩ : ∃ init q, qs = init ++ [q] := by
      have hne : qs ≠ [] := fun z => by subst z; simp at hz
      exact ⟨qs.dropLast, qs.getLast hne, (List.dropLast_concat_getLast hne).symm⟩
    have hda := dats_iff.mp hq
    have hdq : dat q = true := hda q (List.mem_append_right _ List.mem_cons_self)
    have hdi : dats init = true := dats_iff.mpr fun x hx => hda x (List.mem_append_left _ hx)
    have hnn : nodss (init ++ [q]) = nodss init + nods q := by rw [nodss_app]; rfl
    have hq1 := nods_pos q
    top_name
    refine w_pop (q := pr2 q) rfl ?_ ?_
    · rw [List.map_append, List.length_append, List.length_map]
      show (init.map pr2 ++ [pr2 q])[init.length + 1 - 1]? = _
      rw [Nat.add_sub_cancel, List.getElem?_append_right (by rw [List.length_map]; exact Nat.le_refl _), List.length_map, Nat.sub_self]; rfl
    · have ed : ((init ++ [q]).map pr2).dropLast = init.map pr2 := by
        rw [List.map_append]; exact List.dropLast_concat
      rw [ed]
      top_name
      refine ⟨_, gt2_at rfl f3 rfl f4, ?_⟩
      cases q with
      | non =>
        top_name
        exact ⟨_, by omega, init, _, _, _, rfl, fre_ow _, fre_ow _, f5, p5, hdi, rfl, by omega⟩
      | bl b =>
        top_name
        refine br_d (fun _ => ?_) fun z => absurd trivial (by simpa using z)
        top_name
        exact ⟨_, by omega, init, _, _, _, rfl, fre_ow _, fre_ow _, f5, p5, hdi, rfl, by omega⟩
      | int b =>
        top_name
        refine br_d (fun _ => ?_) fun z => absurd trivial (by simpa using z)
        top_name
        exact ⟨_, by omega, init, _, _, _, rfl, fre_ow _, fre_ow _, f5, p5, hdi, rfl, by omega⟩
      | str b =>
        top_name
        refine br_d (fun _ => ?_) fun z => absurd trivial (by simpa using z)
        top_name
        exact ⟨_, by omega, init, _, _, _, rfl, fre_ow _, fre_ow _, f5, p5, hdi, rfl, by omega⟩
      | tup ps =>
        have hnt : nods (.tup ps) = 1 + nodss ps := rfl
        have lp := nodss_len ps
        have li := nodss_len init
        top_name
        refine br_d (fun _ => ?_) fun z => absurd trivial (by simpa using z)
        top_name
        refine ⟨by show (plainS (some s5) && true) = true; rw [p5]; rfl, _, _, lcF_pure (fun _ => true) (ixG ps) _ (fun z hz => ?_), ?_, ?_⟩
        · obtain ⟨i, hi, rfl⟩ := rgPs_mem hz
          have hi' : i < ps.length := by omega
          have e := atI_nat (List.getElem?_eq_getElem hi')
          refine ⟨_, gtN_at rfl fre_no, rfl, fun _ => wE_val ?_, rfl, rfl⟩
          top_name
          refine w_ixT e ?_
          top_name
          refine w_ixT e ?_
          top_name
          refine ⟨?_, trivial⟩
          show MV.pv (.tup [ps[i], ps[i]]) = MV.pv (.tup [(atI ps (i : Int)).getD .non, (atI ps (i : Int)).getD .non])
          rw [e]; rfl
        · rw [ixG_map]
          exact le_sz (by rw [List.length_map]; omega)
        · rw [ixG_map]
          top_name
          rw [List.length_map, List.length_map]
          refine ⟨le_sz (by omega), ?_⟩
          top_name
          refine ⟨_, ?_, init ++ ps, _, _, _, by rw [List.map_append]; rfl, fre_ow _, fre_ow _, f5, p5, dats_iff.mpr fun x hx => ?_, rfl, ?_⟩
          · rw [nodss_app]; omega
          · rcases List.mem_append.mp hx with hx | hx
            · exact dats_iff.mp hdi x hx
            · exact dats_iff.mp hdq x hx
          · rw [nodss_app]; omega
      | _ => cases hdq
  · top_name
    exact h
end K13
end Sm

namespace Sm
namespace K13
open PySem L2
variable {E : Ex → List MV → Prop} {Q : MV → List MV → Prop}
def arP (a : Ar) : PV := .tup [.str a.w, .int a.e, .int a.s, .int a.t]
def oP : Option Ar → PV
  | none => .non
  | some a => arP a
def lwP (a : Ar) : PV := .tup [arP a, .int a.g]
theorem hAt {l : List Int} {k : Nat} (h : k < l.length) : atI (l.map PV.int) (k : Int) = some (.int (l.getD k 0)) := by
  refine atI_nat ?_
  rw [List.getElem?_map, List.getElem?_eq_getElem h, List.getD_eq_getElem?_getD, List.getElem?_eq_getElem h]; rfl
theorem lAt {l : List (Option Ar)} {k : Nat} {a : Ar} (h : l.getD k none = some a) : atI (l.map oP) (k : Int) = some (arP a) := by
  have hk : k < l.length := by
    by_cases c : k < l.length
    · exact c
    · rw [List.getD_eq_getElem?_getD, List.getElem?_eq_none (by omega)] at h; cases h
  refine atI_nat ?_
  rw [List.getD_eq_getElem?_getD, List.getElem?_eq_getElem hk] at h
  rw [List.getElem?_map, List.getElem?_eq_getElem hk]
  have h' : l[k] = some a := h
  rw [h']; rfl
theorem at_last (pr : List PV) (p : PV) : atI (pr ++ [p]) (-1) = some p := by
  have e : ixN (pr ++ [p]).length (-1) = some pr.length := by
    rw [List.length_append, List.length_singleton]
    unfold ixN
    rw [if_neg (by omega), if_pos (by omega)]
    congr 1
    omega
  unfold atI
  rw [e]
  show (pr ++ [p])[pr.length]? = _
  rw [List.getElem?_append_right (Nat.le_refl _), Nat.sub_self]; rfl
end K13
end Sm

namespace Sm
namespace K13
open PySem L2
variable {E : Ex → List MV → Prop} {Q : MV → List MV → Prop} {ms : List PV}
structure Ch where
  s : Nat
  t : Nat
  p : Nat
  d : Int
  it : List Int
  deriving Inhabited
variable {cs : List Ch} {sl : List Int}
def itP (l : List Int) : PV := .tup (l.map PV.int)
def chP (c : Ch) : PV := .tup [.int c.s, .int c.t, .int c.p, .int c.d, itP c.it]
def netP (ms : List PV) (cs : List Ch) : PV := .tup [.tup ms, .tup (cs.map chP)]
def slP (sl : List Int) : PV := .tup (sl.map PV.int)
structure WN (ms : List PV) (cs : List Ch) : Prop where
  m0 : 1 ≤ ms.length
  m1 : ms.length ≤ 100
  c0 : 0 ≤ cs.length
  c1 : cs.length ≤ 200
  st : ∀ c ∈ cs, c.s < ms.length ∧ c.t < ms.length
  it : ∀ c ∈ cs, c.it.length ≤ 20
  dl : ∀ c ∈ cs, 1 ≤ c.d ∧ c.d ≤ 1000
theorem chAt {e : Nat} {c : Ch} (h : cs[e]? = some c) : atI (cs.map chP) (e : Int) = some (chP c) := atI_nat (by rw [List.getElem?_map, h]; rfl)
theorem getD_get {e : Nat} (h : e < cs.length) : cs[e]? = some (cs.getD e default) := by
  rw [List.getD_eq_getElem?_getD, List.getElem?_eq_getElem h]; rfl
/-! arcs by number -/
abbrev Qd := Bool × Nat
def sQ (cs : List Ch) (q : Qd) : Nat := match q.1 with | true => (cs.getD q.2 default).s | false => (cs.getD q.2 default).t
def tQ (cs : List Ch) (q : Qd) : Nat := match q.1 with | true => (cs.getD q.2 default).t | false => (cs.getD q.2 default).s
def dQ (cs : List Ch) (q : Qd) : Int := match q.1 with | true => (cs.getD q.2 default).d | false => 1
def kQ (cs : List Ch) (sl : List Int) (q : Qd) : Int := match q.1 with | true => ((cs.getD q.2 default).it.length : Int) | false => sl.getD q.2 0 - ((cs.getD q.2 default).it.length : Int)
def nmQ (b : Bool) : Str := match b with | true => "along" | false => "against"
def idP (cs : List Ch) (q : Qd) : PV := .tup [.str (nmQ q.1), .int q.2, .int (sQ cs q), .int (tQ cs q)]
def arQ (cs : List Ch) (sl : List Int) (a b : Nat) (q : Qd) : Ar := ⟨nmQ q.1, q.2, sQ cs q, tQ cs q, dQ cs q * (a : Int) - kQ cs sl q * (b : Int)⟩
theorem arP_arQ (a b : Nat) (q : Qd) : arP (arQ cs sl a b q) = idP cs q := rfl
def OkQ (cs : List Ch) (qs : List Qd) : Prop := ∀ q ∈ qs, q.2 < cs.length
def allQ (cs : List Ch) : List Qd := (List.range cs.length).map (fun e => (false, e)) ++ (List.range cs.length).map (fun e => (true, e))
theorem allQ_mem {q : Qd} : q ∈ allQ cs ↔ q.2 < cs.length := by
  unfold allQ
  rw [List.mem_append]
  constructor
  · rintro (h | h)
    · obtain ⟨e, he, rfl⟩ := List.mem_map.mp h; exact List.mem_range.mp he
    · obtain ⟨e, he, rfl⟩ := List.mem_map.mp h; exact List.mem_range.mp he
  · intro h
    obtain ⟨b, e⟩ := q
    cases b with
    | false => exact .inl (List.mem_map.mpr ⟨e, List.mem_range.mpr h, rfl⟩)
    | true => exact .inr (List.mem_map.mpr ⟨e, List.mem_range.mpr h, rfl⟩)
theorem allQ_ok : OkQ cs (allQ cs) := fun q h => allQ_mem.mp h
theorem sQ_lt (W : WN ms cs) {q : Qd} (h : q.2 < cs.length) : sQ cs q < ms.length ∧ tQ cs q < ms.length := by
  have hst := W.st _ (List.mem_of_getElem? (getD_get h))
  obtain ⟨b, e⟩ := q
  cases b with
  | false => exact ⟨hst.2, hst.1⟩
  | true => exact hst
theorem dQ_b (W : WN ms cs) {q : Qd} (h : q.2 < cs.length) : 1 ≤ dQ cs q ∧ dQ cs q ≤ 1000 := by
  have hd := W.dl _ (List.mem_of_getElem? (getD_get h))
  obtain ⟨b, e⟩ := q
  cases b with
  | false => exact ⟨Int.le_refl _, (by decide : (1 : Int) ≤ 1000)⟩
  | true => exact hd
/-- slots: as many as the items at least -/
structure SW (cs : List Ch) (sl : List Int) : Prop where
  ln : sl.length = cs.length
  lo : ∀ e, e < cs.length → ((cs.getD e default).it.length : Int) ≤ sl.getD e 0
  hi : ∀ e, e < cs.length → sl.getD e 0 ≤ 1000000
theorem kQ_b (W : WN ms cs) (S : SW cs sl) {q : Qd} (h : q.2 < cs.length) : 0 ≤ kQ cs sl q ∧ kQ cs sl q ≤ 1000000 := by
  obtain ⟨b, e⟩ := q
  have hi := W.it _ (List.mem_of_getElem? (getD_get (e := e) h))
  have h1 := S.lo e h
  have h2 := S.hi e h
  cases b with
  | false => exact ⟨by show (0 : Int) ≤ sl.getD e 0 - ((cs.getD e default).it.length : Int); omega, by show sl.getD e 0 - ((cs.getD e default).it.length : Int) ≤ (1000000 : Int); omega⟩
  | true => exact ⟨by show (0 : Int) ≤ ((cs.getD e default).it.length : Int); omega, by show ((cs.getD e default).it.length : Int) ≤ 1000000; omega⟩
theorem arQ_WA (W : WN ms cs) {a b : Nat} {qs : List Qd} (h : OkQ cs qs) : WAs ms.length (qs.map (arQ cs sl a b)) := fun x hx => by
  obtain ⟨q, hq, rfl⟩ := List.mem_map.mp hx
  exact sQ_lt W (h q hq)
def dS (cs : List Ch) (R : List Qd) : Int := (R.map (dQ cs)).sum
def kS (cs : List Ch) (sl : List Int) (R : List Qd) : Int := (R.map (kQ cs sl)).sum
theorem dS_cons (q : Qd) (R : List Qd) : dS cs (q :: R) = dQ cs q + dS cs R := by unfold dS; rw [List.map_cons, List.sum_cons]
theorem kS_cons (q : Qd) (R : List Qd) : kS cs sl (q :: R) = kQ cs sl q + kS cs sl R := by unfold kS; rw [List.map_cons, List.sum_cons]
theorem gS (a b : Nat) : ∀ R : List Qd, sumF (fun x => x.g) (R.map (arQ cs sl a b)) = dS cs R * (a : Int) - kS cs sl R * (b : Int)
  | [] => by unfold dS kS; simp [sumF]
  | q :: R => by
    have ih := gS a b R
    rw [dS_cons, kS_cons, Int.add_mul, Int.add_mul]
    show (dQ cs q * (a : Int) - kQ cs sl q * (b : Int)) + sumF (fun x => x.g) (R.map (arQ cs sl a b)) = _
    omega
theorem dS_b (W : WN ms cs) : ∀ {R : List Qd}, OkQ cs R → (R.length : Int) ≤ dS cs R ∧ dS cs R ≤ 1000 * (R.length : Int)
  | [], _ => by unfold dS; simp
  | q :: R, h => by
    obtain ⟨h1, h2⟩ := dS_b W (R := R) fun x hx => h x (List.mem_cons_of_mem _ hx)
    obtain ⟨h3, h4⟩ := dQ_b W (h q List.mem_cons_self)
    rw [dS_cons, List.length_cons]
    omega
theorem kS_b (W : WN ms cs) (S : SW cs sl) : ∀ {R : List Qd}, OkQ cs R → 0 ≤ kS cs sl R ∧ kS cs sl R ≤ 1000000 * (R.length : Int)
  | [], _ => by unfold kS; simp
  | q :: R, h => by
    obtain ⟨h1, h2⟩ := kS_b W S (R := R) fun x hx => h x (List.mem_cons_of_mem _ hx)
    obtain ⟨h3, h4⟩ := kQ_b W S (h q List.mem_cons_self)
    rw [kS_cons, List.length_cons]
    omega
def PthQ (cs : List Ch) : Nat → List Qd → Nat → Prop
  | x, [], y => x = y
  | x, q :: R, y => sQ cs q = x ∧ PthQ cs (tQ cs q) R y
theorem PthQ.pth {a b : Nat} : ∀ {R : List Qd} {x y : Nat}, PthQ cs x R y ↔ Pth x (R.map (arQ cs sl a b)) y
  | [], x, y => Iff.rfl
  | q :: R, x, y => and_congr Iff.rfl (PthQ.pth (R := R))
structure RgQ (cs : List Ch) (R : List Qd) : Prop where
  ne : R ≠ []
  ok : OkQ cs R
  cl : ∃ x, PthQ cs x R x
  nd : (R.map (sQ cs)).Nodup
theorem unmap {α β : Type} {f : α → β} {qs : List α} : ∀ {R : List β}, (∀ a ∈ R, a ∈ qs.map f) → ∃ R' : List α, R = R'.map f ∧ ∀ q ∈ R', q ∈ qs
  | [], _ => ⟨[], rfl, fun _ h => nomatch h⟩
  | a :: R, h => by
    obtain ⟨q, hq, rfl⟩ := List.mem_map.mp (h a List.mem_cons_self)
    obtain ⟨R', e, hR⟩ := unmap (R := R) fun x hx => h x (List.mem_cons_of_mem _ hx)
    exact ⟨q :: R', by rw [e]; rfl, fun x hx => (List.mem_cons.mp hx).elim (fun z => z ▸ hq) (hR x)⟩
theorem ring_ids {a b : Nat} {qs : List Qd} (hq : OkQ cs qs) {R : List Ar} (h : Ring (qs.map (arQ cs sl a b)) R) : ∃ R' : List Qd, R = R'.map (arQ cs sl a b) ∧ RgQ cs R' := by
  obtain ⟨R', e, hR⟩ := unmap h.mem
  subst e
  refine ⟨R', rfl, ⟨fun z => h.ne (by rw [z]; rfl), fun q hx => hq q (hR q hx), ?_, ?_⟩⟩
  · obtain ⟨x, hx⟩ := h.cl
    exact ⟨x, PthQ.pth.mpr hx⟩
  · have := h.nd
    rw [List.map_map] at this
    exact this
theorem RgQ.ring {a b : Nat} {R : List Qd} (h : RgQ cs R) : Ring ((allQ cs).map (arQ cs sl a b)) (R.map (arQ cs sl a b)) := by
  refine ⟨fun z => h.ne (List.map_eq_nil_iff.mp z), fun x hx => ?_, ?_, ?_⟩
  · obtain ⟨q, hq, rfl⟩ := List.mem_map.mp hx
    exact List.mem_map.mpr ⟨q, allQ_mem.mpr (h.ok q hq), rfl⟩
  · obtain ⟨x, hx⟩ := h.cl
    exact ⟨x, PthQ.pth.mp hx⟩
  · rw [List.map_map]; exact h.nd
/-- closed ways along arcs, each any number of times -/
structure ClQ (cs : List Ch) (R : List Qd) : Prop where
  ne : R ≠ []
  ok : OkQ cs R
  cl : ∃ x, PthQ cs x R x
def PotR (cs : List Ch) (sl : List Int) (a b : Nat) : Prop := Pot ((allQ cs).map (arQ cs sl a b))
theorem PotR.ring {a b : Nat} (hP : PotR cs sl a b) {R : List Qd} (h : ClQ cs R) : dS cs R * (a : Int) ≤ kS cs sl R * (b : Int) := by
  obtain ⟨p, hp⟩ := hP
  obtain ⟨x, hx⟩ := h.cl
  have := Pth.feas hp (R := R.map (arQ cs sl a b)) (fun y hy => by
    obtain ⟨q, hq, rfl⟩ := List.mem_map.mp hy
    exact List.mem_map.mpr ⟨q, allQ_mem.mpr (h.ok q hq), rfl⟩) (PthQ.pth.mp hx)
  rw [gS] at this
  omega
theorem RgQ.cls {R : List Qd} (h : RgQ cs R) : ClQ cs R := ⟨h.ne, h.ok, h.cl⟩
theorem RgQ.len (W : WN ms cs) {R : List Qd} (h : RgQ cs R) : R.length ≤ ms.length := by
  have := php ms.length (R.map (sQ cs)) (fun x hx => by
    obtain ⟨q, hq, rfl⟩ := List.mem_map.mp hx
    exact (sQ_lt W (h.ok q hq)).1) h.nd
  rw [List.length_map] at this
  exact this
/-- the rate: a fraction in lowest terms that no ring goes below, and that is one, or a ring's -/
structure RateIs (cs : List Ch) (sl : List Int) (a b : Nat) : Prop where
  b0 : 0 < b
  ab : a ≤ b
  co : Nat.Coprime a b
  pot : PotR cs sl a b
  at_ : (a = 1 ∧ b = 1) ∨ ∃ R, ClQ cs R ∧ kS cs sl R * (b : Int) = dS cs R * (a : Int)
theorem rate_le (W : WN ms cs) {a b a' b' : Nat} (h : RateIs cs sl a b) (h' : RateIs cs sl a' b') : a' * b ≤ a * b' := by
  rcases h.at_ with ⟨rfl, rfl⟩ | ⟨R, hR, e⟩
  · have := h'.ab; omega
  · have hd : 0 < dS cs R := by
      have := (dS_b W hR.ok).1
      have : 0 < R.length := List.length_pos_iff.mpr hR.ne
      omega
    have hp := h'.pot.ring hR
    have h1 : ((a' * b : Nat) : Int) * dS cs R ≤ ((a * b' : Nat) : Int) * dS cs R := by
      have h2 : dS cs R * (a' : Int) * (b : Int) ≤ kS cs sl R * (b' : Int) * (b : Int) := Int.mul_le_mul_of_nonneg_right hp (by omega)
      have h3 : kS cs sl R * (b' : Int) * (b : Int) = dS cs R * (a : Int) * (b' : Int) := by
        rw [Int.mul_right_comm, e]
      rw [h3] at h2
      have e1 : ((a' * b : Nat) : Int) * dS cs R = dS cs R * (a' : Int) * (b : Int) := by
        rw [Int.natCast_mul, Int.mul_comm, Int.mul_assoc]
      have e2 : ((a * b' : Nat) : Int) * dS cs R = dS cs R * (a : Int) * (b' : Int) := by
        rw [Int.natCast_mul, Int.mul_comm, Int.mul_assoc]
      rw [e1, e2]; exact h2
    have := Int.le_of_mul_le_mul_right h1 hd
    omega
theorem rate_eq (W : WN ms cs) {a b a' b' : Nat} (h : RateIs cs sl a b) (h' : RateIs cs sl a' b') : a = a' ∧ b = b' := by
  have h1 := rate_le W h h'
  have h2 := rate_le W h' h
  exact cop_eq h.co h'.co (by omega) h.b0
end K13
end Sm

namespace Sm
namespace K13
open PySem L2
variable {E : Ex → List MV → Prop} {Q : MV → List MV → Prop} {ms : List PV} {cs : List Ch} {sl : List Int}
theorem br_dT {p : Prop} [Decidable p] {A B : Prop} (hp : p) (h : A) : br (decide p) A B := br_d (fun _ => h) fun z => absurd hp z
theorem br_dF {p : Prop} [Decidable p] {A B : Prop} (hp : ¬ p) (h : B) : br (decide p) A B := br_d (fun z => absurd z hp) fun _ => h
theorem along_ne : ¬ ((("against" : Str)) = (("along" : Str))) := by decide +kernel
theorem w_along {e : Nat} (he : e < cs.length) (q : Q (.pv (idP cs (true, e))) [.pv (netP ms cs), .pv (.int (e : Int))]) : wF (g_along [.pv (netP ms cs), .pv (.int (e : Int))]) E Q := by
  refine w_runB ?_
  show wS (s_along [.ow (.pv (netP ms cs)), .ow (.pv (.int (e : Int))), .no, .no]) _
  unfold s_along netP
  have e1 := chAt (getD_get he)
  top_name
  refine w_ixT e1 ?_
  unfold chP
  top_name
  refine w_ixT e1 ?_
  unfold chP
  top_name
  exact ⟨_, _, rfl, fre_at rfl fre_no, fre_at rfl fre_no, by top_name; exact q⟩
theorem w_against {e : Nat} (he : e < cs.length) (q : Q (.pv (idP cs (false, e))) [.pv (netP ms cs), .pv (.int (e : Int))]) : wF (g_against [.pv (netP ms cs), .pv (.int (e : Int))]) E Q := by
  refine w_runB ?_
  show wS (s_against [.ow (.pv (netP ms cs)), .ow (.pv (.int (e : Int))), .no, .no]) _
  unfold s_against netP
  have e1 := chAt (getD_get he)
  top_name
  refine w_ixT e1 ?_
  unfold chP
  top_name
  refine w_ixT e1 ?_
  unfold chP
  top_name
  exact ⟨_, _, rfl, fre_at rfl fre_no, fre_at rfl fre_no, by top_name; exact q⟩
def idF (cs : List Ch) (b : Bool) : PV → PV := fun z => match z with | .int i => idP cs (b, i.toNat) | _ => .non
theorem idF_map (b : Bool) : (((rgPs 0 cs.length).filter fun _ => true).map (idF cs b)) = ((List.range cs.length).map fun e => (b, e)).map (idP cs) := by
  rw [List.filter_eq_self.mpr fun _ _ => rfl]
  unfold rgPs
  rw [List.map_map, List.map_map]
  refine List.map_congr_left fun e _ => ?_
  show idF cs b (.int (0 + (e : Int))) = _
  rw [Int.zero_add]; rfl
theorem w_arcs (hc : cs.length ≤ 200) (q : Q (.pv (.lst ((allQ cs).map (idP cs)))) [.pv (netP ms cs)]) : wF (g_all_arcs [.pv (netP ms cs)]) E Q := by
  have el : (cs.map chP).length = cs.length := List.length_map _
  have rl : ∀ b : Bool, (((List.range cs.length).map fun e => (b, e)).map (idP cs)).length = cs.length := fun b => by rw [List.length_map, List.length_map, List.length_range]
  refine w_runB ?_
  show wS (s_all_arcs [.ow (.pv (netP ms cs)), .no, .no]) _
  unfold s_all_arcs
  have hn : netP ms cs = .tup [.tup ms, .tup (cs.map chP)] := rfl
  rw [hn]
  top_name
  rw [el]
  top_name
  refine ⟨_, _, lcF_pure (fun _ => true) (idF cs false) _ (fun z hz => ?_), ?_, ?_⟩
  · obtain ⟨e, he, rfl⟩ := rgPs_mem hz
    refine ⟨_, gtN_at rfl fre_no, rfl, fun _ => wE_val ?_, rfl, rfl⟩
    top_name
    refine w_against he ?_
    exact ⟨rfl, trivial⟩
  · rw [idF_map, rl]
    exact le_sz (by omega)
  · rw [idF_map]
    top_name
    refine ⟨_, _, lcF_pure (fun _ => true) (idF cs true) _ (fun z hz => ?_), ?_, ?_⟩
    · obtain ⟨e, he, rfl⟩ := rgPs_mem hz
      refine ⟨_, gtN_at rfl fre_no, rfl, fun _ => wE_val ?_, rfl, rfl⟩
      top_name
      refine w_along he ?_
      exact ⟨rfl, trivial⟩
    · rw [idF_map, rl]
      exact le_sz (by omega)
    · rw [idF_map]
      top_name
      refine ⟨le_sz (by rw [rl, rl]; omega), ?_⟩
      top_name
      unfold allQ at q
      rw [List.map_append] at q
      exact q
theorem hAtS {k : Nat} (h : k < sl.length) : atI (sl.map PV.int) (k : Int) = some (.int (sl.getD k 0)) := hAt h
theorem w_adelay {q : Qd} (hq : q.2 < cs.length) (h : Q (.pv (.int (dQ cs q))) [.pv (netP ms cs), .pv (idP cs q)]) : wF (g_arc_delay [.pv (netP ms cs), .pv (idP cs q)]) E Q := by
  have e1 := chAt (getD_get hq)
  refine w_runB ?_
  show wS (s_arc_delay [.ow (.pv (netP ms cs)), .ow (.pv (idP cs q))]) _
  have hn : netP ms cs = .tup [.tup ms, .tup (cs.map chP)] := rfl
  obtain ⟨b, e⟩ := q
  cases b with
  | true =>
    have hi : idP cs (true, e) = .tup [.str "along", .int e, .int (sQ cs (true, e)), .int (tQ cs (true, e))] := rfl
    rw [hn, hi]
    unfold s_arc_delay
    top_name
    refine br_dT (by trivial) ?_
    top_name
    refine w_ixT e1 ?_
    unfold chP
    top_name
    exact h
  | false =>
    have hi : idP cs (false, e) = .tup [.str "against", .int e, .int (sQ cs (false, e)), .int (tQ cs (false, e))] := rfl
    rw [hn, hi]
    unfold s_arc_delay
    top_name
    refine br_dF along_ne ?_
    top_name
    exact h
theorem w_atok {q : Qd} (hs : sl.length = cs.length) (hq : q.2 < cs.length) (h : Q (.pv (.int (kQ cs sl q))) [.pv (netP ms cs), .pv (slP sl), .pv (idP cs q)]) : wF (g_arc_tokens [.pv (netP ms cs), .pv (slP sl), .pv (idP cs q)]) E Q := by
  have e1 := chAt (getD_get hq)
  have e2 := hAtS (sl := sl) (k := q.2) (by omega)
  have e3 : ((cs.getD q.2 default).it.map PV.int).length = (cs.getD q.2 default).it.length := List.length_map _
  refine w_runB ?_
  show wS (s_arc_tokens [.ow (.pv (netP ms cs)), .ow (.pv (slP sl)), .ow (.pv (idP cs q)), .no]) _
  have hn : netP ms cs = .tup [.tup ms, .tup (cs.map chP)] := rfl
  have hn3 : slP sl = .tup (sl.map PV.int) := rfl
  obtain ⟨b, e⟩ := q
  cases b with
  | true =>
    have hi : idP cs (true, e) = .tup [.str "along", .int e, .int (sQ cs (true, e)), .int (tQ cs (true, e))] := rfl
    rw [hn, hi, hn3]
    unfold s_arc_tokens
    top_name
    refine w_ixT e1 ?_
    unfold chP itP
    top_name
    rw [e3]
    refine br_dT (by trivial) ?_
    top_name
    exact h
  | false =>
    have hi : idP cs (false, e) = .tup [.str "against", .int e, .int (sQ cs (false, e)), .int (tQ cs (false, e))] := rfl
    rw [hn, hi, hn3]
    unfold s_arc_tokens
    top_name
    refine w_ixT e1 ?_
    unfold chP itP
    top_name
    rw [e3]
    refine br_dF along_ne ?_
    top_name
    refine w_ixT e2 ?_
    top_name
    exact h
def dec (p : PV) : Qd := match p with
  | .tup [.str w, .int e, _, _] => (decide (w = "along"), e.toNat)
  | _ => (true, 0)
theorem dec_id (q : Qd) : dec (idP cs q) = q := by
  obtain ⟨b, e⟩ := q
  cases b with
  | true => show (decide (("along" : Str) = "along"), ((e : Int)).toNat) = _; rw [Int.toNat_natCast, decide_eq_true rfl]
  | false => show (decide (("against" : Str) = "along"), ((e : Int)).toNat) = _; rw [Int.toNat_natCast, decide_eq_false along_ne]
theorem sum_map (f : Qd → Int) (R : List Qd) : ((((R.map (idP cs)).filter fun _ => true).map fun p => PV.int (f (dec p)))) = (R.map f).map PV.int := by
  rw [List.filter_eq_self.mpr fun _ _ => rfl, List.map_map, List.map_map]
  refine List.map_congr_left fun q _ => ?_
  show PV.int (f (dec (idP cs q))) = _
  rw [dec_id]; rfl
theorem gSum_ints (l : List Int) : gSum (.pl (l.map PV.int)) = some (.int l.sum) := by
  show ((intsP (l.map PV.int)).map fun l => PV.int l.sum) = _
  rw [intsP_map]; rfl
def rgP (cs : List Ch) (R : List Qd) : PV := .tup (R.map (idP cs))
theorem w_rdelay {R : List Qd} (hR : OkQ cs R) (hl : R.length ≤ 1000) (h : Q (.pv (.int (dS cs R))) [.pv (netP ms cs), .pv (rgP cs R)]) : wF (g_ring_delay [.pv (netP ms cs), .pv (rgP cs R)]) E Q := by
  refine w_runB ?_
  show wS (s_ring_delay [.ow (.pv (netP ms cs)), .ow (.pv (rgP cs R)), .no]) _
  unfold s_ring_delay
  top_name
  refine ⟨_, _, lcF_pure (fr := [.ow (.pv (netP ms cs)), .ow (.pv (rgP cs R)), .no]) (fun _ => true) (fun p => .int (dQ cs (dec p))) (R.map (idP cs)) (fun z hz => ?_), ?_, ?_⟩
  · obtain ⟨q, hq, rfl⟩ := List.mem_map.mp hz
    refine ⟨_, gtN_at rfl fre_no, rfl, fun _ => wE_val ?_, rfl, rfl⟩
    top_name
    refine w_adelay (hR q hq) ?_
    rw [dec_id]
    exact ⟨rfl, trivial⟩
  · rw [sum_map]
    exact le_sz (by rw [List.length_map, List.length_map]; omega)
  · rw [sum_map]
    top_name
    refine w_opO (gSum_ints _) ?_
    top_name
    exact h
theorem w_rtok {R : List Qd} (hs : sl.length = cs.length) (hR : OkQ cs R) (hl : R.length ≤ 1000) (h : Q (.pv (.int (kS cs sl R))) [.pv (netP ms cs), .pv (slP sl), .pv (rgP cs R)]) : wF (g_ring_tokens [.pv (netP ms cs), .pv (slP sl), .pv (rgP cs R)]) E Q := by
  refine w_runB ?_
  show wS (s_ring_tokens [.ow (.pv (netP ms cs)), .ow (.pv (slP sl)), .ow (.pv (rgP cs R)), .no]) _
  unfold s_ring_tokens
  top_name
  refine ⟨_, _, lcF_pure (fr := [.ow (.pv (netP ms cs)), .ow (.pv (slP sl)), .ow (.pv (rgP cs R)), .no]) (fun _ => true) (fun p => .int (kQ cs sl (dec p))) (R.map (idP cs)) (fun z hz => ?_), ?_, ?_⟩
  · obtain ⟨q, hq, rfl⟩ := List.mem_map.mp hz
    refine ⟨_, gtN_at rfl fre_no, rfl, fun _ => wE_val ?_, rfl, rfl⟩
    top_name
    refine w_atok hs (hR q hq) ?_
    rw [dec_id]
    exact ⟨rfl, trivial⟩
  · rw [sum_map]
    exact le_sz (by rw [List.length_map, List.length_map]; omega)
  · rw [sum_map]
    top_name
    refine w_opO (gSum_ints _) ?_
    top_name
    exact h
end K13
end Sm

namespace Sm
namespace K13
open PySem L2
variable {E : Ex → List MV → Prop} {Q : MV → List MV → Prop}
mutual
/-- data, lists too -/
def da2 : PV → Bool
  | .non => true
  | .bl _ => true
  | .int _ => true
  | .str _ => true
  | .tup ps => da2s ps
  | .lst _ => true
  | _ => false
def da2s : List PV → Bool
  | [] => true
  | p :: ps => da2 p && da2s ps
end
theorem da2s_iff : ∀ {ps : List PV}, da2s ps = true ↔ ∀ p ∈ ps, da2 p = true
  | [] => ⟨fun _ _ h => (nomatch h), fun _ => rfl⟩
  | p :: ps => by
    show (da2 p && da2s ps) = true ↔ _
    rw [Bool.and_eq_true, da2s_iff (ps := ps)]
    exact ⟨fun ⟨a, b⟩ q hq => (List.mem_cons.mp hq).elim (fun e => e ▸ a) (b q), fun h => ⟨h p List.mem_cons_self, fun q hq => h q (List.mem_cons_of_mem _ hq)⟩⟩
open Classical in
noncomputable def eqB (p q : PV) : Bool := decide (p = q)
open Classical in
theorem eqB_t {p q : PV} (h : p = q) : eqB p q = true := decide_eq_true h
open Classical in
theorem eqB_f {p q : PV} (h : ¬ p = q) : eqB p q = false := decide_eq_false h
def ppP (x : PV × PV) : PV := .tup [x.1, x.2]
def ndS (prs : List (PV × PV)) : Nat := nodss (prs.map (·.2))
def PrOk (prs : List (PV × PV)) : Prop := ∀ x ∈ prs, da2 x.1 = true ∧ dat x.2 = true
theorem ndS_app (a b : List (PV × PV)) : ndS (a ++ b) = ndS a + ndS b := by unfold ndS; rw [List.map_append, nodss_app]
theorem ndS_len (prs : List (PV × PV)) : prs.length ≤ ndS prs := by
  have := nodss_len (prs.map (·.2))
  rw [List.length_map] at this
  exact this
theorem zip_all {ps qs : List PV} (h : ps.length = qs.length) : (∀ x ∈ ps.zip qs, x.1 = x.2) ↔ ps = qs := by
  induction ps generalizing qs with
  | nil =>
    cases qs with
    | nil => exact ⟨fun _ => rfl, fun _ x hx => (nomatch hx)⟩
    | cons q qs => cases h
  | cons p ps ih =>
    cases qs with
    | nil => cases h
    | cons q qs =>
      have hl : ps.length = qs.length := by simpa using h
      rw [List.zip_cons_cons]
      constructor
      · intro hx
        have e : p = q := hx (p, q) List.mem_cons_self
        rw [e, (ih hl).mp fun x hx' => hx x (List.mem_cons_of_mem _ hx')]
      · intro e x hx'
        cases e
        rcases List.mem_cons.mp hx' with rfl | hx'
        · rfl
        · exact (ih hl).mpr rfl x hx'
def zpG (ps qs : List PV) : PV → PV := fun z => match z with | .int i => .tup [(atI ps i).getD .non, (atI qs i).getD .non] | _ => .non
theorem zpG_map {ps qs : List PV} (h : ps.length = qs.length) : (((rgPs 0 qs.length).filter fun _ => true).map (zpG ps qs)) = (ps.zip qs).map ppP := by
  rw [List.filter_eq_self.mpr fun _ _ => rfl]
  refine List.ext_getElem? fun i => ?_
  rw [List.getElem?_map, List.getElem?_map]
  by_cases hi : i < qs.length
  · have hi' : i < ps.length := by omega
    have e : (rgPs 0 qs.length)[i]? = some (.int i) := by
      unfold rgPs
      rw [List.getElem?_map, List.getElem?_range hi]
      show some (PV.int (0 + (i : Int))) = _
      rw [Int.zero_add]
    have e2 : (ps.zip qs)[i]? = some (ps[i], qs[i]) := by
      rw [List.getElem?_eq_getElem (by rw [List.length_zip]; omega), List.getElem_zip]
    rw [e, e2]
    show some (PV.tup [(atI ps (i : Int)).getD .non, (atI qs (i : Int)).getD .non]) = _
    rw [atI_nat (List.getElem?_eq_getElem hi'), atI_nat (List.getElem?_eq_getElem hi)]; rfl
  · rw [List.getElem?_eq_none (by rw [rgPs_len]; omega), List.getElem?_eq_none (by rw [List.length_zip]; omega)]; rfl
end K13
end Sm

namespace Sm
namespace K13
open PySem L2
variable {E : Ex → List MV → Prop} {Q : MV → List MV → Prop} {ms : List PV} {cs : List Ch} {sl : List Int}
structure IsiIs (p r : PV) : Prop where
  eq : gIsi2 "int" "str" p = some r
theorem w_isi2 {ea : Fr → O MV} {E : Ex → Fr → Prop} {fr : Fr} {Q : MV → Fr → Prop} (h : wE (ea fr) E fun m f => wP m fun p => ∃ r, IsiIs p r ∧ Q (.pv r) f) : wE (eIsi2 "int" "str" ea fr) E Q := wE_bindP (wE_mono h (fun m f h => by
  cases m with
  | pv p =>
    obtain ⟨r, e, h⟩ := wP_out h
    have h' : wE (opO (gIsi2 "int" "str" p) f) E Q := w_opO e.eq h
    with_unfolding_all exact h'
  | _ => with_unfolding_all exact h.elim) fun _ _ h => h)
theorem isi2_of {p : PV} {t : String} {x y : Bool} (e : tyN p = some t) (h1 : isB t "int" = some x) (h2 : isB t "str" = some y) : IsiIs p (.bl (x || y)) := by
  refine ⟨?_⟩
  unfold gIsi2
  rw [e]
  show (match isB t "int", isB t "str" with | some x, some y => some (PV.bl (x || y)) | _, _ => none) = _
  rw [h1, h2]
theorem isi2_non : IsiIs .non (.bl false) := isi2_of (t := "NoneType") rfl (x := false) (y := false) (by decide +kernel) (by decide +kernel)
theorem isi2_int (i : Int) : IsiIs (.int i) (.bl true) := isi2_of (t := "int") rfl (x := true) (y := false) (by decide +kernel) (by decide +kernel)
theorem isi2_str (s : Str) : IsiIs (.str s) (.bl true) := isi2_of (t := "str") rfl (x := false) (y := true) (by decide +kernel) (by decide +kernel)
theorem isi2_tup (ps : List PV) : IsiIs (.tup ps) (.bl false) := isi2_of (t := "tuple") rfl (x := false) (y := false) (by decide +kernel) (by decide +kernel)
theorem isi2_lst (ps : List PV) : IsiIs (.lst ps) (.bl false) := isi2_of (t := "list") rfl (x := false) (y := false) (by decide +kernel) (by decide +kernel)
theorem ne_is (i : Int) (s : Str) (hs : PyData.strOk s = true) : gNe (.int i) (.str s) = some (.bl true) := by
  show (if okEq (.int i) (.str s) = true then some (PV.bl (!eqP (.int i) (.str s))) else none) = _
  have e1 : okEq (.int i) (.str s) = true := by simp [okEq, dataOk, depP, hs]
  have e2 : eqP (.int i) (.str s) = false := by show PyData.eqv (toD (.int i)) (toD (.str s)) = false; simp [toD, PyData.eqv]
  rw [if_pos e1, e2]; rfl
theorem ne_si (i : Int) (s : Str) (hs : PyData.strOk s = true) : gNe (.str s) (.int i) = some (.bl true) := by
  show (if okEq (.str s) (.int i) = true then some (PV.bl (!eqP (.str s) (.int i))) else none) = _
  have e1 : okEq (.str s) (.int i) = true := by simp [okEq, dataOk, depP, hs]
  have e2 : eqP (.str s) (.int i) = false := by show PyData.eqv (toD (.str s)) (toD (.int i)) = false; simp [toD, PyData.eqv]
  rw [if_pos e1, e2]; rfl
/-- tuple of so many -/
def isT (k : Int) : PV → Bool
  | .tup ps => decide ((ps.length : Int) = k)
  | _ => false
theorem w_isrow {x : PV} (k : Int) (hx : da2 x = true) (h : Q (.pv (.bl (isT k x))) [.pv x, .pv (.int k)]) : wF (g_is_row [.pv x, .pv (.int k)]) E Q := by
  refine w_runB ?_
  show wS (s_is_row [.ow (.pv x), .ow (.pv (.int k))]) _
  unfold s_is_row
  cases x with
  | tup ps => top_name; exact h
  | non => top_name; exact h
  | bl b => top_name; exact h
  | int i => top_name; exact h
  | str s => top_name; exact h
  | lst ps => top_name; exact h
  | _ => cases hx
def saB : Fr → SO := (sIf (bOr (bTru (eBu gIsi (aCons (eIx (eV 0) (eV 2)) (aCons (eC (.ty "bool")) aNil)))) (bOr (bNot (bTru (eIsi2 "int" "str" (eIx (eV 0) (eV 2))))) (bCmp gNe (eIx (eV 0) (eV 2)) (eIx (eV 1) (eV 2))))) (sRet (eC (.bl false))) sNil)
/-- an int or a text -/
def isF : PV → Bool
  | .int _ => true
  | .str s => PyData.strOk s
  | _ => false
theorem saB_ok {o : Po} {l y : List PV} {k : Nat} {a b : PV} (ha : l[k]? = some a) (hb : y[k]? = some b) (da : da2 a = true) (ok : ∀ s, a = .str s → PyData.strOk s = true) (db : isF b = true)
    (h1 : a = b → o.nx [.ow (.pv (.tup l)), .ow (.pv (.tup y)), .ow (.pv (.int (k : Int)))]) (h2 : a ≠ b → o.rt (.pv (.bl false)) [.ow (.pv (.tup l)), .ow (.pv (.tup y)), .ow (.pv (.int (k : Int)))]) :
    wS (saB [.ow (.pv (.tup l)), .ow (.pv (.tup y)), .ow (.pv (.int (k : Int)))]) o := by
  have ea : atI l (k : Int) = some a := atI_nat ha
  have eb : atI y (k : Int) = some b := atI_nat hb
  unfold saB
  top_name
  refine w_ixT ea ?_
  cases a with
  | bl v =>
    top_name
    exact h2 fun z => by subst z; cases db
  | non =>
    top_name
    refine w_isi2 ?_
    top_name
    refine w_ixT ea ?_
    top_name
    refine ⟨_, isi2_non, ?_⟩
    top_name
    exact h2 fun z => by subst z; cases db
  | tup ps =>
    top_name
    refine w_isi2 ?_
    top_name
    refine w_ixT ea ?_
    top_name
    refine ⟨_, isi2_tup ps, ?_⟩
    top_name
    exact h2 fun z => by subst z; cases db
  | lst ps =>
    top_name
    refine w_isi2 ?_
    top_name
    refine w_ixT ea ?_
    top_name
    refine ⟨_, isi2_lst ps, ?_⟩
    top_name
    exact h2 fun z => by subst z; cases db
  | int i =>
    top_name
    refine w_isi2 ?_
    top_name
    refine w_ixT ea ?_
    top_name
    refine ⟨_, isi2_int i, ?_⟩
    top_name
    refine w_ixT ea ?_
    top_name
    refine w_ixT eb ?_
    cases b with
    | int j =>
      top_name
      refine br_d (fun hz => ?_) fun hz => ?_
      · top_name
        exact h1 (by rw [hz])
      · top_name
        exact h2 fun z => hz (by cases z; rfl)
    | str s =>
      top_name
      refine ⟨_, ne_is i s db, ?_⟩
      top_name
      exact h2 fun z => nomatch z
    | _ => cases db
  | str s =>
    top_name
    refine w_isi2 ?_
    top_name
    refine w_ixT ea ?_
    top_name
    refine ⟨_, isi2_str s, ?_⟩
    top_name
    refine w_ixT ea ?_
    top_name
    refine w_ixT eb ?_
    cases b with
    | str j =>
      top_name
      refine br_d (fun hz => ?_) fun hz => ?_
      · top_name
        exact h1 (by rw [hz])
      · top_name
        exact h2 fun z => hz (by cases z; rfl)
    | int j =>
      top_name
      refine ⟨_, ne_si j s (ok s rfl), ?_⟩
      top_name
      exact h2 fun z => nomatch z
    | _ => cases db
  | _ => cases da
def sok : PV → Bool
  | .str s => PyData.strOk s
  | _ => true
theorem strOk_nm (b : Bool) : PyData.strOk (nmQ b) = true := by cases b <;> decide +kernel
def idL (cs : List Ch) (q : Qd) : List PV := [.str (nmQ q.1), .int q.2, .int (sQ cs q), .int (tQ cs q)]
theorem idP_L (q : Qd) : idP cs q = .tup (idL cs q) := rfl
theorem idL_at (q : Qd) {k : Nat} (hk : k < 4) : ∃ b, (idL cs q)[k]? = some b ∧ isF b = true := by
  match k, hk with
  | 0, _ => exact ⟨_, rfl, strOk_nm q.1⟩
  | 1, _ => exact ⟨_, rfl, rfl⟩
  | 2, _ => exact ⟨_, rfl, rfl⟩
  | 3, _ => exact ⟨_, rfl, rfl⟩
theorem sa_eq : s_same_arc = (sSeq (sIf (bNot (bTru (eCallP 2 g_is_row (aCons (eV 0) (aCons (eC (.int 4)) aNil))))) (sRet (eC (.bl false))) sNil)
  (sSeq (sForE (eBu gRange (aCons (eC (.int 4)) aNil)) (gtN 2) saB) (sRet (eC (.bl true))))) := rfl
def SokA (x : PV) : Prop := ∀ l, x = .tup l → ∀ a ∈ l, sok a = true
theorem isT_tup {x : PV} {k : Int} (h : isT k x = true) : ∃ l, x = .tup l ∧ (l.length : Int) = k := by
  cases x with
  | tup l => exact ⟨l, rfl, of_decide_eq_true h⟩
  | _ => cases h
theorem w_samearc {x : PV} {q : Qd} (hx : da2 x = true) (hs : SokA x) (h : Q (.pv (.bl (eqB x (idP cs q)))) [.pv x, .pv (idP cs q)]) : wF (g_same_arc [.pv x, .pv (idP cs q)]) E Q := by
  refine w_runB ?_
  show wS (s_same_arc [.ow (.pv x), .ow (.pv (idP cs q)), .no]) _
  rw [sa_eq]
  top_name
  refine w_isrow 4 hx ?_
  top_name
  cases e : isT 4 x with
  | false =>
    top_name
    have : eqB x (idP cs q) = false := eqB_f fun z => by rw [z] at e; cases e
    rw [this] at h
    exact h
  | true =>
    top_name
    obtain ⟨l, rfl, hl⟩ := isT_tup e
    have hda := da2s_iff.mp (show da2s l = true from hx)
    refine w_forL (b := saB) (fun k f => ∃ s2, fre s2 ∧ f = [.ow (.pv (.tup l)), .ow (.pv (.tup (idL cs q))), s2] ∧ ∀ i, i < k → l[i]? = (idL cs q)[i]?) _ 0 _ ⟨.no, fre_no, rfl, fun i hi => absurd hi (Nat.not_lt_zero _)⟩ (fun k p f hp ⟨s2, f2, hf, hi⟩ => ?_) fun f ⟨s2, f2, hf, hi⟩ => ?_
    · subst hf
      obtain ⟨hk, rfl⟩ := rgPs_get hp
      rw [Nat.zero_add] at *
      have hk4 : k < 4 := hk
      obtain ⟨b, hb, fb⟩ := idL_at (cs := cs) q hk4
      have hkl : k < l.length := by omega
      obtain ⟨a, ha⟩ : ∃ a, l[k]? = some a := ⟨_, List.getElem?_eq_getElem hkl⟩
      have hm := List.mem_of_getElem? ha
      refine ⟨_, gtN_at rfl f2, ?_⟩
      refine saB_ok ha hb (hda _ hm) (fun s e => by have := hs l rfl _ hm; rw [e] at this; exact this) fb (fun e => ?_) fun e => ?_
      · refine ⟨_, fre_ow (.pv (.int (k : Int))), rfl, fun i hi2 => ?_⟩
        by_cases c : i = k
        · rw [c, ha, hb, e]
        · exact hi i (by omega)
      · have : eqB (.tup l) (idP cs q) = false := eqB_f fun z => by
          rw [idP_L] at z
          injection z with z
          apply e
          rw [z] at ha
          rw [hb] at ha
          exact (Option.some.inj ha).symm
        rw [this] at h
        exact ⟨_, rfl, h⟩
    · subst hf
      rw [rgPs_len, Nat.zero_add] at hi
      top_name
      have : l = idL cs q := List.ext_getElem? fun i => by
        by_cases c : i < 4
        · exact hi i c
        · rw [List.getElem?_eq_none (by omega), List.getElem?_eq_none (by show 4 ≤ i; omega)]
      have e2 : eqB (.tup l) (idP cs q) = true := eqB_t (by rw [this]; rfl)
      rw [e2] at h
      exact h
open Classical in
noncomputable def ia (cs : List Ch) (x : PV) : Bool := decide (∃ q : Qd, q.2 < cs.length ∧ x = idP cs q)
open Classical in
theorem ia_t {x : PV} (h : ia cs x = true) : ∃ q : Qd, q.2 < cs.length ∧ x = idP cs q := of_decide_eq_true h
open Classical in
theorem ia_f {x : PV} (h : ia cs x = false) : ¬ ∃ q : Qd, q.2 < cs.length ∧ x = idP cs q := of_decide_eq_false h
open Classical in
theorem ia_len (x : PV) : decide ((((((allQ cs).map (idP cs)).filter fun p => eqB x p).map fun p => p).length : Int) > 0) = ia cs x := by
  unfold ia
  refine decide_eq_decide.mpr ?_
  rw [List.map_id']
  constructor
  · intro h
    have : 0 < (((allQ cs).map (idP cs)).filter fun p => eqB x p).length := by omega
    obtain ⟨p, hp⟩ := List.length_pos_iff_exists_mem.mp this
    obtain ⟨h1, h2⟩ := List.mem_filter.mp hp
    obtain ⟨q, hq, rfl⟩ := List.mem_map.mp h1
    exact ⟨q, allQ_mem.mp hq, of_decide_eq_true h2⟩
  · rintro ⟨q, hq, e⟩
    have : 0 < (((allQ cs).map (idP cs)).filter fun p => eqB x p).length := List.length_pos_of_mem (a := idP cs q) (List.mem_filter.mpr ⟨List.mem_map.mpr ⟨q, allQ_mem.mpr hq, rfl⟩, eqB_t e⟩)
    omega
theorem w_isarc {x : PV} (hc : cs.length ≤ 200) (hx : da2 x = true) (hs : SokA x) (h : Q (.pv (.bl (ia cs x))) [.pv (netP ms cs), .pv x]) : wF (g_is_arc [.pv (netP ms cs), .pv x]) E Q := by
  have al : ((allQ cs).map (idP cs)).length = 2 * cs.length := by
    unfold allQ; rw [List.length_map, List.length_append, List.length_map, List.length_map, List.length_range]; omega
  refine w_runB ?_
  show wS (s_is_arc [.ow (.pv (netP ms cs)), .ow (.pv x), .no]) _
  unfold s_is_arc
  top_name
  refine w_arcs hc ?_
  top_name
  refine ⟨_, _, lcF_pure (fr := [.ow (.pv (netP ms cs)), .ow (.pv x), .no]) (fun p => eqB x p) (fun p => p) ((allQ cs).map (idP cs)) (fun z hz => ?_), ?_, ?_⟩
  · obtain ⟨q, hq, rfl⟩ := List.mem_map.mp hz
    refine ⟨_, gtN_at rfl fre_no, wE_val ?_, fun _ => wE_val ?_, rfl, rfl⟩
    · top_name
      refine w_samearc hx hs ?_
      exact ⟨_, rfl, rfl, trivial⟩
    · top_name
  · exact le_sz (by rw [List.length_map]; have := List.length_filter_le (fun p => eqB x p) ((allQ cs).map (idP cs)); omega)
  · top_name
    rw [ia_len]
    exact h
end K13
end Sm

namespace Sm
namespace K13
open PySem L2 PyProof.Rows
variable {E : Ex → List MV → Prop} {Q : MV → List MV → Prop} {ms : List PV} {cs : List Ch} {sl : List Int}
/-! a ring is seen as one -/
theorem PthQ.link : ∀ {R : List Qd} {x y : Nat}, PthQ cs x R y → ∀ j (h : j + 1 < R.length), tQ cs R[j] = sQ cs R[j + 1]
  | [], _, _, _, j, h => absurd h (Nat.not_lt_zero _)
  | [q], _, _, _, j, h => by simp at h
  | q :: q' :: R, x, y, ⟨h1, h2, h3⟩, 0, h => h2.symm
  | q :: q' :: R, x, y, ⟨h1, h2⟩, j + 1, h => PthQ.link (R := q' :: R) h2 j (by simpa using h)
theorem PthQ.last : ∀ {R : List Qd} {x y : Nat}, PthQ cs x R y → ∀ (h : 0 < R.length), tQ cs (R[R.length - 1]'(by omega)) = y
  | [q], x, y, ⟨h1, h2⟩, h => h2
  | q :: q' :: R, x, y, ⟨h1, h2⟩, h => PthQ.last (R := q' :: R) h2 (Nat.succ_pos _)
theorem PthQ.first : ∀ {R : List Qd} {x y : Nat}, PthQ cs x R y → ∀ (h : 0 < R.length), sQ cs R[0] = x
  | q :: R, x, y, ⟨h1, h2⟩, h => h1
theorem ring_next {R : List Qd} (h : ClQ cs R) {k : Nat} (hk : k < R.length) : tQ cs R[k] = sQ cs (R[(k + 1) % R.length]'(Nat.mod_lt _ (by omega))) := by
  obtain ⟨x, hx⟩ := h.cl
  by_cases c : k + 1 < R.length
  · have e : (k + 1) % R.length = k + 1 := Nat.mod_eq_of_lt c
    have := hx.link k c
    simp only [e]
    exact this
  · have e0 : k = R.length - 1 := by omega
    subst e0
    have e : (R.length - 1 + 1) % R.length = 0 := by rw [show R.length - 1 + 1 = R.length by omega, Nat.mod_self]
    have h1 := hx.last (by omega)
    have h2 := hx.first (by omega)
    simp only [e]
    rw [h1, h2]
theorem inZ (S : List Int) (i : Int) : gIn (.int i) (.lst (S.map PV.int)) = some (.bl (decide (i ∈ S))) := by
  have hf : (S.map PV.int).all flatP = true := List.all_eq_true.mpr fun p hp => by
    obtain ⟨k, _, rfl⟩ := List.mem_map.mp hp
    rfl
  show (if flatP (.int i) = true ∧ (S.map PV.int).all flatP = true then some (PV.bl (inP (.int i) (S.map PV.int))) else none) = _
  rw [if_pos ⟨rfl, hf⟩]
  congr 2
  clear hf
  induction S with
  | nil => rfl
  | cons a l ih =>
    have e : inP (.int i) ((a :: l).map PV.int) = ((a == i) || inP (.int i) (l.map PV.int)) := rfl
    rw [e, ih]
    by_cases h : a = i
    · subst h; simp
    · have h2 : (a == i) = false := by rw [beq_eq_false_iff_ne]; exact h
      have h3 : ¬ i = a := fun z => h z.symm
      simp [h2, h3]
theorem idAt {R : List Qd} {k : Nat} (h : k < R.length) : atI (R.map (idP cs)) (k : Int) = some (idP cs R[k]) := atI_nat (by rw [List.getElem?_map, List.getElem?_eq_getElem h]; rfl)
def bgI (cs : List Ch) (R : List Qd) (k : Nat) : List Int := (R.take k).map fun q => (sQ cs q : Int)
theorem bgI_not {R : List Qd} (h : (R.map (sQ cs)).Nodup) {k : Nat} (hk : k < R.length) : ¬ ((sQ cs R[k] : Nat) : Int) ∈ bgI cs R k := fun hm => by
  unfold bgI at hm
  obtain ⟨q, hq, e⟩ := List.mem_map.mp hm
  obtain ⟨j, hj⟩ := List.getElem?_of_mem hq
  have hj2 := (List.getElem?_eq_some_iff.mp hj).1
  rw [List.length_take] at hj2
  rw [List.getElem?_take] at hj
  have hjk : j < k := by omega
  rw [if_pos hjk] at hj
  have hjl : j < R.length := by omega
  rw [List.getElem?_eq_getElem hjl] at hj
  have hq' : R[j] = q := Option.some.inj hj
  unfold List.Nodup at h
  rw [List.pairwise_map, List.pairwise_iff_getElem] at h
  refine h j k hjl hk hjk ?_
  rw [hq']
  omega
theorem firstMet_lt {val : Nat → Int} {j : Nat} (h : (firstMet val j).any (· == val j) = true) : ∀ d, (firstMet val (j + 1 + d)).length < j + 1 + d
  | 0 => by
    have := firstMet_length_le val j
    show (firstMet val (j + 1)).length < j + 1
    rw [firstMet_succ, step_length, if_pos h]
    omega
  | d + 1 => by
    have ih := firstMet_lt h d
    show (firstMet val (j + 1 + d + 1)).length < j + 1 + d + 1
    rw [firstMet_succ, step_length]
    split <;> omega
theorem firstMet_nd {val : Nat → Int} : ∀ n, (∀ i j, i < j → j < n → val i ≠ val j) → (firstMet val n).length = n
  | 0, _ => rfl
  | n + 1, h => by
    have ih := firstMet_nd n fun i j h1 h2 => h i j h1 (by omega)
    rw [firstMet_succ, step_length]
    have : ¬ (firstMet val n).any (· == val n) = true := fun z => by
      rw [firstMet_any] at z
      obtain ⟨x, hx, e⟩ := List.any_eq_true.mp z
      obtain ⟨i, hi, rfl⟩ := List.mem_map.mp hx
      exact h i n (List.mem_range.mp hi) (Nat.lt_succ_self _) (eq_of_beq e)
    rw [if_neg this, ih]
theorem dct_nodup (ns : List Int) : dct ns = ns.length ↔ ns.Nodup := by
  unfold dct
  constructor
  · intro h
    unfold List.Nodup
    rw [List.pairwise_iff_getElem]
    intro i j hi hj hij e
    have hany : (firstMet (fun i => ns.getD i 0) j).any (· == (fun i => ns.getD i 0) j) = true := by
      rw [firstMet_any]
      refine List.any_eq_true.mpr ⟨ns.getD i 0, List.mem_map.mpr ⟨i, List.mem_range.mpr hij, rfl⟩, ?_⟩
      show (ns.getD i 0 == ns.getD j 0) = true
      rw [List.getD_eq_getElem?_getD, List.getD_eq_getElem?_getD, List.getElem?_eq_getElem hi, List.getElem?_eq_getElem hj]
      exact beq_iff_eq.mpr e
    have := firstMet_lt hany (ns.length - (j + 1))
    rw [show j + 1 + (ns.length - (j + 1)) = ns.length by omega] at this
    omega
  · intro h
    refine firstMet_nd _ fun i j hij hj e => ?_
    have hi : i < ns.length := by omega
    rw [List.getD_eq_getElem?_getD, List.getD_eq_getElem?_getD, List.getElem?_eq_getElem hi, List.getElem?_eq_getElem hj] at e
    unfold List.Nodup at h
    rw [List.pairwise_iff_getElem] at h
    exact h i j hi hj hij e
theorem PthQ.of_link : ∀ {R : List Qd} {x y : Nat} (h0 : 0 < R.length), sQ cs R[0] = x → (∀ j (h : j + 1 < R.length), tQ cs R[j] = sQ cs R[j + 1]) → tQ cs (R[R.length - 1]'(by omega)) = y → PthQ cs x R y
  | [q], x, y, _, h1, _, h2 => ⟨h1, h2⟩
  | q :: q' :: R, x, y, _, h1, hl, h2 => ⟨h1, PthQ.of_link (R := q' :: R) (Nat.succ_pos _) (hl 0 (by simp)).symm (fun j h => hl (j + 1) (by simpa using h)) (by simpa using h2)⟩
theorem idP_inj {q q' : Qd} (h : idP cs q = idP cs q') : q = q' := by
  have := congrArg dec h
  rw [dec_id, dec_id] at this
  exact this
theorem map_inj : ∀ {R R' : List Qd}, R.map (idP cs) = R'.map (idP cs) → R = R'
  | [], [], _ => rfl
  | [], q :: R', h => nomatch h
  | q :: R, [], h => nomatch h
  | q :: R, q' :: R', h => by
    injection h with h1 h2
    rw [idP_inj h1, map_inj h2]
theorem rgP_inj {R R' : List Qd} (h : rgP cs R = rgP cs R') : R = R' := by
  injection h with h
  exact map_inj h
open Classical in
noncomputable def rgB (cs : List Ch) (p : PV) : Bool := decide (∃ R, p = rgP cs R ∧ RgQ cs R)
open Classical in
theorem rgB_t {p : PV} {R : List Qd} (e : p = rgP cs R) (h : RgQ cs R) : rgB cs p = true := decide_eq_true ⟨R, e, h⟩
open Classical in
theorem rgB_f {p : PV} (h : ∀ R, p = rgP cs R → RgQ cs R → False) : rgB cs p = false := decide_eq_false fun ⟨R, e, hR⟩ => h R e hR
open Classical in
theorem rgB_of {p : PV} (h : rgB cs p = true) : ∃ R, p = rgP cs R ∧ RgQ cs R := of_decide_eq_true h
theorem rgB_no {R : List Qd} (h : ¬ RgQ cs R) : rgB cs (rgP cs R) = false := rgB_f fun R' e hR => h (by rw [rgP_inj e]; exact hR)
structure OkP (p : PV) : Prop where
  da : da2 p = true
  so : ∀ l, p = .tup l → ∀ x ∈ l, SokA x
  ln : ∀ l, p = .tup l → l.length ≤ 900
end K13
end Sm

namespace Sm
namespace K13
open PySem L2
variable {E : Ex → List MV → Prop} {Q : MV → List MV → Prop} {ms : List PV} {cs : List Ch} {sl : List Int}
def irA : Fr → SO := (sSeq (sForE (eV 1) (gtN 2) (sIf (bNot (bTru (eCallP 2 g_is_arc (aCons (eV 0) (aCons (eV 2) aNil))))) (sRet (eC (.bl false))) sNil))
  (sSeq (sForE (eBu gRange (aCons (eB1 gLen (eV 1)) aNil)) (gtN 3) (sIf (bCmp gNe (eIx (eIx (eV 1) (eBin gSub (eV 3) (eC (.int 1)))) (eC (.int 3))) (eIx (eIx (eV 1) (eV 3)) (eC (.int 2)))) (sRet (eC (.bl false))) sNil))
  (sRet (eBin gEq (eB1 gLenSet (eLc true [2] (eV 1) (gtN 2) (fun fr => .ok true fr) (eIx (eV 2) (eC (.int 2))))) (eB1 gLen (eV 1))))))
theorem ir_eq : s_is_ring = (sSeq (sIf (bOr (bNot (bTru (eBu gIsi (aCons (eV 1) (aCons (eC (.ty "tuple")) aNil))))) (bOr (bCmp gEq (eB1 gLen (eV 1)) (eC (.int 0))) (bCmp gGt (eB1 gLen (eV 1)) (eB1 gLen (eIx (eV 0) (eC (.int 0))))))) (sRet (eC (.bl false))) sNil) irA) := rfl
def prv (n k : Nat) : Nat := if k = 0 then n - 1 else k - 1
theorem prv_lt {n k : Nat} (h : k < n) : prv n k < n := by unfold prv; split <;> omega
theorem prvAt {R : List Qd} {k : Nat} (h : k < R.length) : atI (R.map (idP cs)) ((k : Int) - 1) = some (idP cs (R[prv R.length k]'(prv_lt h))) := by
  unfold prv
  by_cases c : k = 0
  · subst c
    obtain ⟨R0, q, e⟩ : ∃ R0 q, R = R0 ++ [q] := ⟨R.dropLast, R.getLast (fun z => by rw [z] at h; exact absurd h (Nat.not_lt_zero _)), (List.dropLast_concat_getLast _).symm⟩
    subst e
    have e0 : ((0 : Nat) : Int) - 1 = -1 := by decide
    rw [e0, List.map_append]
    have := at_last (R0.map (idP cs)) (idP cs q)
    have e2 : (R0 ++ [q])[(R0 ++ [q]).length - 1]'(by rw [List.length_append, List.length_singleton]; omega) = q := by
      rw [List.getElem_append_right (by rw [List.length_append, List.length_singleton]; omega)]
      simp
    simp only [if_pos]
    rw [e2]
    exact this
  · have e0 : (k : Int) - 1 = ((k - 1 : Nat) : Int) := by omega
    rw [e0]
    simp only [if_neg c]
    exact idAt (by omega)
theorem prv_next {n k : Nat} (h : k < n) : (prv n k + 1) % n = k := by
  unfold prv
  by_cases c : k = 0
  · rw [if_pos c, show n - 1 + 1 = n by omega, Nat.mod_self, c]
  · rw [if_neg c, show k - 1 + 1 = k by omega, Nat.mod_eq_of_lt h]
theorem ring_prev {R : List Qd} (h : ClQ cs R) {k : Nat} (hk : k < R.length) : tQ cs (R[prv R.length k]'(prv_lt hk)) = sQ cs R[k] := by
  have := ring_next h (prv_lt hk)
  have e := prv_next hk
  simp only [e] at this
  exact this
theorem cl_of_prev {R : List Qd} (h0 : 0 < R.length) (h : ∀ k (hk : k < R.length), tQ cs (R[prv R.length k]'(prv_lt hk)) = sQ cs R[k]) : ∃ x, PthQ cs x R x := by
  refine ⟨sQ cs R[0], PthQ.of_link h0 rfl (fun j hj => ?_) ?_⟩
  · have := h (j + 1) hj
    have e : prv R.length (j + 1) = j := by unfold prv; rw [if_neg (by omega)]; omega
    simp only [e] at this
    exact this
  · have := h 0 h0
    have e : prv R.length 0 = R.length - 1 := by unfold prv; rw [if_pos rfl]
    simp only [e] at this
    exact this
theorem sInts (R : List Qd) : ((((R.map (idP cs)).filter fun _ => true).map fun p => PV.int (sQ cs (dec p)))) = (R.map fun q => (sQ cs q : Int)).map PV.int := by
  rw [List.filter_eq_self.mpr fun _ _ => rfl, List.map_map, List.map_map]
  refine List.map_congr_left fun q _ => ?_
  show PV.int (sQ cs (dec (idP cs q))) = _
  rw [dec_id]; rfl
theorem natInt_nodup {l : List Nat} : (l.map fun n : Nat => (n : Int)).Nodup ↔ l.Nodup := by
  unfold List.Nodup
  rw [List.pairwise_map]
  refine List.Pairwise.iff fun a b => ?_
  exact not_congr Int.ofNat_inj
theorem gLenSet_ints {ns : List Int} (h : ns.length < 1000) : gLenSet (.pl (ns.map PV.int)) = some (.int (dct ns : Nat)) := by
  show (match intsP (ns.map PV.int) with | some ns => if ns.length < 1000 then some (PV.int (dct ns : Nat)) else none | none => none) = _
  rw [intsP_map]
  show (if ns.length < 1000 then some (PV.int (dct ns : Nat)) else none) = _
  rw [if_pos h]
theorem irA_ok {o : Po} {l : List PV} (W : WN ms cs) (hp : OkP (.tup l)) (h0 : 0 < l.length) (h : ∀ f, o.rt (.pv (.bl (rgB cs (.tup l)))) (.ow (.pv (netP ms cs)) :: .ow (.pv (.tup l)) :: f)) :
    wS (irA [.ow (.pv (netP ms cs)), .ow (.pv (.tup l)), .no, .no]) o := by
  have hln := hp.ln l rfl
  have hda := da2s_iff.mp (show da2s l = true from hp.da)
  unfold irA
  top_name
  refine w_forL (fun k f => ∃ s2, fre s2 ∧ plainS (some s2) = true ∧ f = [.ow (.pv (netP ms cs)), .ow (.pv (.tup l)), s2, .no] ∧ ∀ x ∈ l.take k, ia cs x = true) l 0 _ ⟨.no, fre_no, rfl, rfl, fun x hx => (nomatch hx)⟩ (fun k x f hx ⟨s2, f2, p2, hf, hi⟩ => ?_) fun f ⟨s2, f2, p2, hf, hi⟩ => ?_
  · subst hf
    rw [Nat.zero_add] at *
    have hm := List.mem_of_getElem? hx
    refine ⟨_, gtN_at rfl f2, ?_⟩
    top_name
    refine w_isarc W.c1 (hda x hm) (hp.so l rfl x hm) ?_
    top_name
    cases e : ia cs x with
    | false =>
      top_name
      have : rgB cs (.tup l) = false := rgB_f fun R e2 hR => ia_f e (by
        injection e2 with e2
        rw [e2] at hm
        obtain ⟨q, hq, e3⟩ := List.mem_map.mp hm
        exact ⟨q, hR.ok q hq, e3.symm⟩)
      rw [this] at h
      exact h _
    | true =>
      top_name
      refine ⟨_, fre_ow (.pv x), rfl, rfl, fun y hy => ?_⟩
      rw [List.take_add_one, hx] at hy
      rcases List.mem_append.mp hy with z | z
      · exact hi y z
      · have : y = x := List.mem_singleton.mp z
        rw [this]; exact e
  · subst hf
    rw [Nat.zero_add, List.take_length] at hi
    obtain ⟨R, hR, hok⟩ : ∃ R : List Qd, l = R.map (idP cs) ∧ OkQ cs R := by
      obtain ⟨R, e, hm⟩ := unmap (f := idP cs) (qs := allQ cs) (R := l) fun x hx => by
        obtain ⟨q, hq, e⟩ := ia_t (hi x hx)
        exact List.mem_map.mpr ⟨q, allQ_mem.mpr hq, e.symm⟩
      exact ⟨R, e, fun q hq => allQ_mem.mp (hm q hq)⟩
    subst hR
    rw [List.length_map] at h0 hln
    have er : (R.map (idP cs)).length = R.length := List.length_map _
    have hrg : (.tup (R.map (idP cs)) : PV) = rgP cs R := rfl
    rw [hrg] at h
    top_name
    rw [er]
    top_name
    refine w_forL (fun k f => ∃ s3, fre s3 ∧ f = [.ow (.pv (netP ms cs)), .ow (.pv (.tup (R.map (idP cs)))), s2, s3] ∧ ∀ j (hj : j < R.length), j < k → tQ cs (R[prv R.length j]'(prv_lt hj)) = sQ cs R[j]) (rgPs 0 R.length) 0 _ ⟨.no, fre_no, rfl, fun j _ hj => absurd hj (Nat.not_lt_zero _)⟩ (fun k x f hx ⟨s3, f3, hf, hi⟩ => ?_) fun f ⟨s3, f3, hf, hi⟩ => ?_
    · subst hf
      obtain ⟨hk, rfl⟩ := rgPs_get hx
      rw [Nat.zero_add] at *
      refine ⟨_, gtN_at rfl f3, ?_⟩
      top_name
      refine w_ixT (prvAt hk) ?_
      unfold idP
      top_name
      refine w_ixT (idAt hk) ?_
      unfold idP
      top_name
      refine br_d (fun hz => ?_) fun hz => ?_
      · top_name
        refine ⟨_, fre_ow (.pv (.int (k : Int))), rfl, fun j hj hjk => ?_⟩
        by_cases c : j = k
        · subst c; omega
        · exact hi j hj (by omega)
      · top_name
        have : rgB cs (rgP cs R) = false := rgB_no fun z => hz (by rw [ring_prev z.cls hk])
        rw [this] at h
        exact h _
    · subst hf
      rw [rgPs_len, Nat.zero_add] at hi
      have hcl := cl_of_prev h0 fun k hk => hi k hk hk
      top_name
      refine ⟨by with_unfolding_all (show (plainS (some s2) && true) = true; rw [p2]; rfl), ?_⟩
      refine ⟨_, _, lcF_pure (fr := [.ow (.pv (netP ms cs)), .ow (.pv (.tup (R.map (idP cs)))), .no, s3]) (fun _ => true) (fun p => .int (sQ cs (dec p))) (R.map (idP cs)) (fun z hz => ?_), ?_, ?_⟩
      · obtain ⟨q, hq, rfl⟩ := List.mem_map.mp hz
        refine ⟨_, gtN_at rfl fre_no, rfl, fun _ => wE_val ?_, rfl, rfl⟩
        rw [dec_id]
        unfold idP
        top_name
      · rw [sInts]
        exact le_sz (by rw [List.length_map, List.length_map]; omega)
      · rw [sInts]
        refine w_opO (gLenSet_ints (by rw [List.length_map]; omega)) ?_
        top_name
        rw [er]
        have hn : (R.map fun q => (sQ cs q : Int)) = (R.map (sQ cs)).map fun n : Nat => (n : Int) := by rw [List.map_map]; rfl
        have hb : decide (((dct (R.map fun q => (sQ cs q : Int)) : Nat) : Int) = (R.length : Int)) = rgB cs (rgP cs R) := by
          have hd := dct_nodup (R.map fun q => (sQ cs q : Int))
          rw [List.length_map] at hd
          by_cases c : (R.map (sQ cs)).Nodup
          · have h1 : dct (R.map fun q => (sQ cs q : Int)) = R.length := hd.mpr (by rw [hn]; exact natInt_nodup.mpr c)
            rw [rgB_t rfl ⟨fun z => by rw [z] at h0; exact absurd h0 (Nat.lt_irrefl 0), hok, hcl, c⟩]
            exact decide_eq_true (by omega)
          · rw [rgB_no fun z => c z.nd]
            exact decide_eq_false fun z => c (natInt_nodup.mp (hn ▸ hd.mp (by omega)))
        rw [hb]
        exact h _
theorem w_isringP {p : PV} (W : WN ms cs) (hp : OkP p) (h : Q (.pv (.bl (rgB cs p))) [.pv (netP ms cs), .pv p]) : wF (g_is_ring [.pv (netP ms cs), .pv p]) E Q := by
  have hn : netP ms cs = .tup [.tup ms, .tup (cs.map chP)] := rfl
  have nt : (∀ l, p ≠ .tup l) → rgB cs p = false := fun z => rgB_f fun R e _ => z _ e
  refine w_runB ?_
  show wS (s_is_ring [.ow (.pv (netP ms cs)), .ow (.pv p), .no, .no]) _
  rw [ir_eq]
  cases p with
  | tup l =>
    top_name
    refine br_d (fun hz => ?_) fun hz => ?_
    · top_name
      have : rgB cs (.tup l) = false := rgB_f fun R e hR => hR.ne (by
        injection e with e
        have : R.length = 0 := by
          have := congrArg List.length e
          rw [List.length_map] at this
          omega
        exact List.length_eq_zero_iff.mp this)
      rw [this] at h
      exact h
    · rw [hn]
      top_name
      rw [← hn]
      refine br_d (fun hz2 => ?_) fun hz2 => ?_
      · top_name
        have : rgB cs (.tup l) = false := rgB_f fun R e hR => by
          injection e with e
          have h1 := congrArg List.length e
          rw [List.length_map] at h1
          have := hR.len W
          omega
        rw [this] at h
        exact h
      · top_name
        exact irA_ok W hp (by omega) fun f => ⟨_, rfl, h⟩
  | non => top_name; rw [nt fun l z => nomatch z] at h; exact h
  | bl b => top_name; rw [nt fun l z => nomatch z] at h; exact h
  | int i => top_name; rw [nt fun l z => nomatch z] at h; exact h
  | str s => top_name; rw [nt fun l z => nomatch z] at h; exact h
  | lst ps => top_name; rw [nt fun l z => nomatch z] at h; exact h
  | _ => cases hp.da
end K13
end Sm

namespace Sm
namespace K13
open PySem L2
variable {E : Ex → List MV → Prop} {Q : MV → List MV → Prop} {ms : List PV} {cs : List Ch} {sl : List Int}
def liE : Fr → SO := (sIf (bAnd (bCmp gNe (eV 2) (eTup (aCons (eC (.str "along")) (aCons (eIx (eV 2) (eC (.int 1))) (aCons (eV 3) (aCons (eV 4) aNil)))))) (bCmp gNe (eV 2) (eTup (aCons (eC (.str "against")) (aCons (eIx (eV 2) (eC (.int 1))) (aCons (eV 4) (aCons (eV 3) aNil))))))) (sRet (eC (.bl false))) sNil)
def liD : Fr → SO := (sSeq (sIf (bNot (bChain gLe gLt (eC (.int 0)) (eIx (eV 2) (eC (.int 1))) (eB1 gLen (eIx (eV 0) (eC (.int 1)))))) (sRet (eC (.bl false))) sNil)
  (sSeq (sAsg (gtT 2 (gsCons (gtN 3) (gsCons (gtN 4) gsNil))) (eSl (eIx (eIx (eV 0) (eC (.int 1))) (eIx (eV 2) (eC (.int 1)))) none (some (eC (.int 2))))) liE))
def liC : Fr → SO := (sSeq (sIf (bCmp gGt (eB1 gLen (eLc true [6] (eSl (eV 2) (some (eC (.int 1))) none) (gtN 6) (bOr (bNot (bTru (eBu gIsi (aCons (eV 6) (aCons (eC (.ty "int")) aNil))))) (bTru (eBu gIsi (aCons (eV 6) (aCons (eC (.ty "bool")) aNil))))) (eV 6))) (eC (.int 0))) (sRet (eC (.bl false))) sNil) liD)
def liB : Fr → SO := (sSeq (sIf (bOr (bNot (bTru (eBu gIsi (aCons (eV 2) (aCons (eC (.ty "tuple")) aNil))))) (bOr (bCmp gNe (eB1 gLen (eV 2)) (eC (.int 4))) (bNot (bTru (eBu gIsi (aCons (eIx (eV 2) (eC (.int 0))) (aCons (eC (.ty "str")) aNil))))))) (sRet (eC (.bl false))) sNil) liC)
def liZ : Fr → SO := (sSeq (sForE (eBu gRange (aCons (eB1 gLen (eV 1)) aNil)) (gtN 5) (sIf (bCmp gNe (eIx (eIx (eV 1) (eBin gSub (eV 5) (eC (.int 1)))) (eC (.int 3))) (eIx (eIx (eV 1) (eV 5)) (eC (.int 2)))) (sRet (eC (.bl false))) sNil))
  (sRet (eBin gEq (eB1 gLenSet (eLc true [2] (eV 1) (gtN 2) (fun fr => .ok true fr) (eIx (eV 2) (eC (.int 2))))) (eB1 gLen (eV 1)))))
theorem li_eq : s__law_is_ring = (sSeq (sIf (bOr (bNot (bTru (eBu gIsi (aCons (eV 1) (aCons (eC (.ty "tuple")) aNil))))) (bCmp gEq (eB1 gLen (eV 1)) (eC (.int 0)))) (sRet (eC (.bl false))) sNil)
  (sSeq (sForE (eV 1) (gtN 2) liB) liZ)) := rfl
def liF (ms : List PV) (cs : List Ch) (l : List PV) (x : PV) (s3 s4 : Sl) : Fr := [.ow (.pv (netP ms cs)), .ow (.pv (.tup l)), .ow (.pv x), s3, s4, .no, .no]
open Classical in
theorem ia_n {x : PV} (h : ∀ q : Qd, x ≠ idP cs q) : ia cs x = false := decide_eq_false fun ⟨q, _, e⟩ => h q e
def OutF (ms : List PV) (cs : List Ch) (l : List PV) (o : Po) : Prop := ∀ f, o.rt (.pv (.bl false)) (.ow (.pv (netP ms cs)) :: .ow (.pv (.tup l)) :: f)
theorem ne4 {s s' : Str} (hs : PyData.strOk s = true) (hs' : PyData.strOk s' = true) (e a b a' b' : Int) : gNe (.tup [.str s, .int e, .int a, .int b]) (.tup [.str s', .int e, .int a', .int b']) = some (.bl (!decide (s = s' ∧ a = a' ∧ b = b'))) := by
  show (if okEq (.tup [.str s, .int e, .int a, .int b]) (.tup [.str s', .int e, .int a', .int b']) = true then some (PV.bl (!eqP (.tup [.str s, .int e, .int a, .int b]) (.tup [.str s', .int e, .int a', .int b']))) else none) = _
  have e1 : okEq (.tup [.str s, .int e, .int a, .int b]) (.tup [.str s', .int e, .int a', .int b']) = true := by simp [okEq, dataOk, dataOks, depP, depPs, hs, hs']
  have e2 : eqP (.tup [.str s, .int e, .int a, .int b]) (.tup [.str s', .int e, .int a', .int b']) = decide (s = s' ∧ a = a' ∧ b = b') := by
    show PyData.eqv (toD (.tup [.str s, .int e, .int a, .int b])) (toD (.tup [.str s', .int e, .int a', .int b'])) = _
    rw [Bool.eq_iff_iff]
    simp [toD, toDs, PyData.eqv, PyData.eqvAll]
  rw [if_pos e1, e2]
theorem liE_ok {o : Po} {l : List PV} {e : Nat} {a b : Int} {s : Str} (he : e < cs.length) (hs : PyData.strOk s = true) (hf : ia cs (.tup [.str s, .int (e : Int), .int a, .int b]) = false → OutF ms cs l o)
    (hn : ia cs (.tup [.str s, .int (e : Int), .int a, .int b]) = true → o.nx (liF ms cs l (.tup [.str s, .int (e : Int), .int a, .int b]) (.ow (.pv (.int ((cs.getD e default).s : Int)))) (.ow (.pv (.int ((cs.getD e default).t : Int)))))) :
    wS (liE (liF ms cs l (.tup [.str s, .int (e : Int), .int a, .int b]) (.ow (.pv (.int ((cs.getD e default).s : Int)))) (.ow (.pv (.int ((cs.getD e default).t : Int)))))) o := by
  unfold liE liF
  top_name
  refine ⟨_, ne4 hs (strOk_nm true) _ _ _ _ _, ?_⟩
  by_cases h1 : s = ("along" : Str) ∧ a = ((cs.getD e default).s : Int) ∧ b = ((cs.getD e default).t : Int)
  · have hd : decide (s = nmQ true ∧ a = ((cs.getD e default).s : Int) ∧ b = ((cs.getD e default).t : Int)) = true := decide_eq_true h1
    rw [hd]
    top_name
    refine hn ?_
    cases ei : ia cs (.tup [.str s, .int (e : Int), .int a, .int b]) with
    | true => rfl
    | false => exact absurd ⟨(true, e), he, by rw [h1.1, h1.2.1, h1.2.2]; rfl⟩ (ia_f ei)
  · have hd : decide (s = nmQ true ∧ a = ((cs.getD e default).s : Int) ∧ b = ((cs.getD e default).t : Int)) = false := decide_eq_false h1
    rw [hd]
    top_name
    refine ⟨_, ne4 hs (strOk_nm false) _ _ _ _ _, ?_⟩
    by_cases h2 : s = ("against" : Str) ∧ a = ((cs.getD e default).t : Int) ∧ b = ((cs.getD e default).s : Int)
    · have hd : decide (s = nmQ false ∧ a = ((cs.getD e default).t : Int) ∧ b = ((cs.getD e default).s : Int)) = true := decide_eq_true h2
      rw [hd]
      top_name
      refine hn ?_
      cases ei : ia cs (.tup [.str s, .int (e : Int), .int a, .int b]) with
      | true => rfl
      | false => exact absurd ⟨(false, e), he, by rw [h2.1, h2.2.1, h2.2.2]; rfl⟩ (ia_f ei)
    · have hd : decide (s = nmQ false ∧ a = ((cs.getD e default).t : Int) ∧ b = ((cs.getD e default).s : Int)) = false := decide_eq_false h2
      rw [hd]
      top_name
      refine hf (ia_n fun q hq => ?_) _
      obtain ⟨b', e'⟩ := q
      injection hq with hq
      injection hq with q1 hq; injection hq with q2 hq; injection hq with q3 hq; injection hq with q4 hq
      injection q1 with q1; injection q2 with q2; injection q3 with q3; injection q4 with q4
      have e2 : e = e' := by exact Int.ofNat.inj q2
      subst e2
      cases b' with
      | true => exact h1 ⟨q1, q3, q4⟩
      | false => exact h2 ⟨q1, q3, q4⟩
end K13
end Sm

namespace Sm
namespace K13
open PySem L2
variable {E : Ex → List MV → Prop} {Q : MV → List MV → Prop} {ms : List PV} {cs : List Ch} {sl : List Int}
theorem len4 {l : List PV} (h : (l.length : Int) = 4) : ∃ a b c d, l = [a, b, c, d] := by
  match l, h with
  | [a, b, c, d], _ => exact ⟨a, b, c, d, rfl⟩
  | [], h => simp at h
  | [_], h => simp at h
  | [_, _], h => simp at h
  | [_, _, _], h => simp at h
  | _ :: _ :: _ :: _ :: _ :: r, h => simp only [List.length_cons] at h; omega
open Classical in
theorem ia_o {x : PV} (h : ∀ q : Qd, q.2 < cs.length → x ≠ idP cs q) : ia cs x = false := decide_eq_false fun ⟨q, hq, e⟩ => h q hq e
theorem cut2 (a b c d e : PV) : cutP [a, b, c, d, e] none (some 2) = [a, b] := cut_to [a, b, c, d, e] 2
theorem liD_ok {o : Po} {l : List PV} {i a b : Int} {s : Str} {s3 s4 : Sl} (f3 : fre s3) (f4 : fre s4) (hs : PyData.strOk s = true) (hf : ia cs (.tup [.str s, .int i, .int a, .int b]) = false → OutF ms cs l o)
    (hn : ia cs (.tup [.str s, .int i, .int a, .int b]) = true → ∀ s3 s4, fre s3 → fre s4 → plainS (some s3) = true → plainS (some s4) = true → o.nx (liF ms cs l (.tup [.str s, .int i, .int a, .int b]) s3 s4)) :
    wS (liD (liF ms cs l (.tup [.str s, .int i, .int a, .int b]) s3 s4)) o := by
  have hne : netP ms cs = .tup [.tup ms, .tup (cs.map chP)] := rfl
  have el : (cs.map chP).length = cs.length := List.length_map _
  unfold liD liF
  rw [hne]
  top_name
  refine br_d (fun hz => ?_) fun hz => ?_
  · top_name
    rw [el]
    refine br_d (fun hz2 => ?_) fun hz2 => ?_
    · obtain ⟨e, rfl⟩ : ∃ e : Nat, i = (e : Int) := ⟨i.toNat, by omega⟩
      have he : e < cs.length := by omega
      top_name
      refine w_ixT (chAt (getD_get he)) ?_
      have ep : chP (cs.getD e default) = .tup [.int (cs.getD e default).s, .int (cs.getD e default).t, .int (cs.getD e default).p, .int (cs.getD e default).d, itP (cs.getD e default).it] := rfl
      rw [ep]
      top_name
      rw [cut2]
      refine ⟨_, gt2_at rfl f3 rfl f4, ?_⟩
      exact liE_ok he hs hf fun h => hn h _ _ (fre_ow _) (fre_ow _) rfl rfl
    · top_name
      refine hf (ia_o fun q hq e => ?_) _
      injection e with e; injection e with _ e; injection e with e _; injection e with e
      omega
  · top_name
    refine hf (ia_o fun q hq e => ?_) _
    injection e with e; injection e with _ e; injection e with e _; injection e with e
    omega
def isI : PV → Bool
  | .int _ => true
  | _ => false
theorem isI_int {p : PV} (h : isI p = true) : ∃ i, p = .int i := by
  cases p with
  | int i => exact ⟨i, rfl⟩
  | _ => cases h
theorem liC_ok {o : Po} {l : List PV} {x1 x2 x3 : PV} {s : Str} {s3 s4 : Sl} (f3 : fre s3) (f4 : fre s4) (p3 : plainS (some s3) = true) (p4 : plainS (some s4) = true) (hs : PyData.strOk s = true) (hx : da2 x1 = true ∧ da2 x2 = true ∧ da2 x3 = true) (hf : ia cs (.tup [.str s, x1, x2, x3]) = false → OutF ms cs l o)
    (hn : ia cs (.tup [.str s, x1, x2, x3]) = true → ∀ s3 s4, fre s3 → fre s4 → plainS (some s3) = true → plainS (some s4) = true → o.nx (liF ms cs l (.tup [.str s, x1, x2, x3]) s3 s4)) :
    wS (liC (liF ms cs l (.tup [.str s, x1, x2, x3]) s3 s4)) o := by
  have hcut : cutP [.str s, x1, x2, x3] (some 1) none = [x1, x2, x3] := rfl
  unfold liC liF
  top_name
  have key : ∀ z ∈ [x1, x2, x3], da2 z = true := fun z hz => by
    simp only [List.mem_cons, List.not_mem_nil, or_false] at hz
    rcases hz with rfl | rfl | rfl
    · exact hx.1
    · exact hx.2.1
    · exact hx.2.2
  refine ⟨_, _, lcF_pure (fr := [.ow (.pv (netP ms cs)), .ow (.pv (.tup l)), .ow (.pv (.tup [.str s, x1, x2, x3])), s3, s4, .no, .no]) (fun p => !isI p) (fun p => p) [x1, x2, x3] (fun z hz => ?_), ?_, ?_⟩
  · have hd := key z hz
    refine ⟨_, gtN_at rfl fre_no, wE_val ?_, fun _ => wE_val ?_, rfl, rfl⟩
    · cases z with
      | int i => top_name
      | bl i => top_name
      | non => top_name
      | str i => top_name
      | tup i => top_name
      | lst i => top_name
      | _ => cases hd
    · top_name
  · exact le_sz (by rw [List.length_map]; have := List.length_filter_le (fun p => !isI p) [x1, x2, x3]; have : ([x1, x2, x3] : List PV).length = 3 := rfl; omega)
  · rw [List.map_id']
    by_cases hall : ∀ z ∈ [x1, x2, x3], isI z = true
    · have hfil : List.filter (fun p => !isI p) [x1, x2, x3] = [] := List.filter_eq_nil_iff.mpr fun z hz => by rw [hall z hz]; decide
      rw [hfil]
      obtain ⟨i, rfl⟩ : ∃ i, x1 = .int i := isI_int (hall x1 List.mem_cons_self)
      obtain ⟨a, rfl⟩ : ∃ i, x2 = .int i := isI_int (hall x2 (List.mem_cons_of_mem _ List.mem_cons_self))
      obtain ⟨b, rfl⟩ : ∃ i, x3 = .int i := isI_int (hall x3 (List.mem_cons_of_mem _ (List.mem_cons_of_mem _ List.mem_cons_self)))
      top_name
      refine br_d (fun hz => absurd hz (by decide)) fun _ => ?_
      top_name
      exact liD_ok f3 f4 hs hf hn
    · have hpos : 0 < (List.filter (fun p => !isI p) [x1, x2, x3]).length := by
        refine Nat.pos_of_ne_zero fun z => hall fun y hy => ?_
        have := List.filter_eq_nil_iff.mp (List.length_eq_zero_iff.mp z) y hy
        cases e : isI y with
        | true => rfl
        | false => rw [e] at this; exact absurd rfl this
      top_name
      refine br_d (fun hz => ?_) fun hz => absurd (show (0 : Int) < _ by omega) hz
      top_name
      refine hf (ia_n fun q hq => ?_) _
      injection hq with e; injection e with _ e; injection e with e1 e; injection e with e2 e; injection e with e3 e
      refine hall fun z hz => ?_
      simp only [List.mem_cons, List.not_mem_nil, or_false] at hz
      rcases hz with rfl | rfl | rfl
      · rw [e1]; rfl
      · rw [e2]; rfl
      · rw [e3]; rfl
theorem liB_ok {o : Po} {l : List PV} {x : PV} {s3 s4 : Sl} (f3 : fre s3) (f4 : fre s4) (p3 : plainS (some s3) = true) (p4 : plainS (some s4) = true) (hx : da2 x = true) (hso : SokA x) (hf : ia cs x = false → OutF ms cs l o)
    (hn : ia cs x = true → ∀ s3 s4, fre s3 → fre s4 → plainS (some s3) = true → plainS (some s4) = true → o.nx (liF ms cs l x s3 s4)) :
    wS (liB (liF ms cs l x s3 s4)) o := by
  unfold liB liF
  cases x with
  | tup l4 =>
    top_name
    refine br_d (fun hz => ?_) fun hz => ?_
    · obtain ⟨x0, x1, x2, x3, rfl⟩ := len4 (show (l4.length : Int) = 4 by omega)
      have hd := da2s_iff.mp (show da2s [x0, x1, x2, x3] = true from hx)
      have hd3 : da2 x1 = true ∧ da2 x2 = true ∧ da2 x3 = true := ⟨hd x1 (by simp), hd x2 (by simp), hd x3 (by simp)⟩
      have hd0 := hd x0 List.mem_cons_self
      have hs0 := hso [x0, x1, x2, x3] rfl x0 List.mem_cons_self
      cases x0 with
      | str s =>
        top_name
        exact liC_ok f3 f4 p3 p4 hs0 hd3 hf hn
      | int i => top_name; exact hf (ia_n fun q hq => by injection hq with hq; injection hq with hq; cases hq) _
      | bl i => top_name; exact hf (ia_n fun q hq => by injection hq with hq; injection hq with hq; cases hq) _
      | non => top_name; exact hf (ia_n fun q hq => by injection hq with hq; injection hq with hq; cases hq) _
      | tup i => top_name; exact hf (ia_n fun q hq => by injection hq with hq; injection hq with hq; cases hq) _
      | lst i => top_name; exact hf (ia_n fun q hq => by injection hq with hq; injection hq with hq; cases hq) _
      | _ => cases hd0
    · top_name
      refine hf (ia_n fun q hq => ?_) _
      injection hq with hq
      rw [hq] at hz
      exact hz rfl
  | int i => top_name; exact hf (ia_n fun q hq => nomatch hq) _
  | bl i => top_name; exact hf (ia_n fun q hq => nomatch hq) _
  | non => top_name; exact hf (ia_n fun q hq => nomatch hq) _
  | str i => top_name; exact hf (ia_n fun q hq => nomatch hq) _
  | lst i => top_name; exact hf (ia_n fun q hq => nomatch hq) _
  | _ => cases hx
end K13
end Sm

namespace Sm
namespace K13
open PySem L2
variable {E : Ex → List MV → Prop} {Q : MV → List MV → Prop} {ms : List PV} {cs : List Ch} {sl : List Int}
theorem liZ_ok {o : Po} {R : List Qd} {s2 s3 s4 : Sl} (W : WN ms cs) (p2 : plainS (some s2) = true) (h0 : 0 < R.length) (hln : R.length ≤ 900) (hok : OkQ cs R) (h : ∀ f, o.rt (.pv (.bl (rgB cs (rgP cs R)))) (.ow (.pv (netP ms cs)) :: .ow (.pv (rgP cs R)) :: f)) :
    wS (liZ [.ow (.pv (netP ms cs)), .ow (.pv (rgP cs R)), s2, s3, s4, .no, .no]) o := by
  have er : (R.map (idP cs)).length = R.length := List.length_map _
  have hrg : rgP cs R = .tup (R.map (idP cs)) := rfl
  unfold liZ
  rw [hrg]
  top_name
  rw [er]
  refine w_forL (fun k f => ∃ s5, fre s5 ∧ f = [.ow (.pv (netP ms cs)), .ow (.pv (.tup (R.map (idP cs)))), s2, s3, s4, s5, .no] ∧ ∀ j (hj : j < R.length), j < k → tQ cs (R[prv R.length j]'(prv_lt hj)) = sQ cs R[j]) (rgPs 0 R.length) 0 _ ⟨.no, fre_no, rfl, fun j _ hj => absurd hj (Nat.not_lt_zero _)⟩ (fun k x f hx ⟨s5, f5, hf, hi⟩ => ?_) fun f ⟨s5, f5, hf, hi⟩ => ?_
  · subst hf
    obtain ⟨hk, rfl⟩ := rgPs_get hx
    rw [Nat.zero_add] at *
    refine ⟨_, gtN_at rfl f5, ?_⟩
    top_name
    refine w_ixT (prvAt hk) ?_
    unfold idP
    top_name
    refine w_ixT (idAt hk) ?_
    unfold idP
    top_name
    refine br_d (fun hz => ?_) fun hz => ?_
    · top_name
      refine ⟨_, fre_ow (.pv (.int (k : Int))), rfl, fun j hj hjk => ?_⟩
      by_cases c : j = k
      · subst c; omega
      · exact hi j hj (by omega)
    · top_name
      have : rgB cs (rgP cs R) = false := rgB_no fun z => hz (by rw [ring_prev z.cls hk])
      rw [this] at h
      exact h _
  · subst hf
    rw [rgPs_len, Nat.zero_add] at hi
    have hcl := cl_of_prev h0 fun k hk => hi k hk hk
    top_name
    refine ⟨by with_unfolding_all (show (plainS (some s2) && true) = true; rw [p2]; rfl), ?_⟩
    refine ⟨_, _, lcF_pure (fr := [.ow (.pv (netP ms cs)), .ow (.pv (.tup (R.map (idP cs)))), .no, s3, s4, s5, .no]) (fun _ => true) (fun p => .int (sQ cs (dec p))) (R.map (idP cs)) (fun z hz => ?_), ?_, ?_⟩
    · obtain ⟨q, hq, rfl⟩ := List.mem_map.mp hz
      refine ⟨_, gtN_at rfl fre_no, rfl, fun _ => wE_val ?_, rfl, rfl⟩
      rw [dec_id]
      unfold idP
      top_name
    · rw [sInts]
      exact le_sz (by rw [List.length_map, List.length_map]; omega)
    · rw [sInts]
      refine w_opO (gLenSet_ints (by rw [List.length_map]; omega)) ?_
      top_name
      rw [er]
      have hn : (R.map fun q => (sQ cs q : Int)) = (R.map (sQ cs)).map fun n : Nat => (n : Int) := by rw [List.map_map]; rfl
      have hb : decide (((dct (R.map fun q => (sQ cs q : Int)) : Nat) : Int) = (R.length : Int)) = rgB cs (rgP cs R) := by
        have hd := dct_nodup (R.map fun q => (sQ cs q : Int))
        rw [List.length_map] at hd
        by_cases c : (R.map (sQ cs)).Nodup
        · have h1 : dct (R.map fun q => (sQ cs q : Int)) = R.length := hd.mpr (by rw [hn]; exact natInt_nodup.mpr c)
          rw [rgB_t rfl ⟨fun z => by rw [z] at h0; exact absurd h0 (Nat.lt_irrefl 0), hok, hcl, c⟩]
          exact decide_eq_true (by omega)
        · rw [rgB_no fun z => c z.nd]
          exact decide_eq_false fun z => c (natInt_nodup.mp (hn ▸ hd.mp (by omega)))
      rw [hb]
      exact h _
theorem w_lisring {p : PV} (W : WN ms cs) (hp : OkP p) (h : Q (.pv (.bl (rgB cs p))) [.pv (netP ms cs), .pv p]) : wF (g__law_is_ring [.pv (netP ms cs), .pv p]) E Q := by
  have nt : (∀ l, p ≠ .tup l) → rgB cs p = false := fun z => rgB_f fun R e _ => z _ e
  refine w_runB ?_
  show wS (s__law_is_ring [.ow (.pv (netP ms cs)), .ow (.pv p), .no, .no, .no, .no, .no]) _
  rw [li_eq]
  cases p with
  | tup l =>
    have hln := hp.ln l rfl
    have hda := da2s_iff.mp (show da2s l = true from hp.da)
    top_name
    refine br_d (fun hz => ?_) fun hz => ?_
    · top_name
      have : rgB cs (.tup l) = false := rgB_f fun R e hR => hR.ne (by
        injection e with e
        have : R.length = 0 := by
          have := congrArg List.length e
          rw [List.length_map] at this
          omega
        exact List.length_eq_zero_iff.mp this)
      rw [this] at h
      exact h
    · top_name
      refine w_forL (b := liB) (fun k f => ∃ s2 s3 s4, fre s2 ∧ fre s3 ∧ fre s4 ∧ plainS (some s2) = true ∧ plainS (some s3) = true ∧ plainS (some s4) = true ∧ f = [.ow (.pv (netP ms cs)), .ow (.pv (.tup l)), s2, s3, s4, .no, .no] ∧ ∀ x ∈ l.take k, ia cs x = true) l 0 _ ⟨.no, .no, .no, fre_no, fre_no, fre_no, rfl, rfl, rfl, rfl, fun x hx => (nomatch hx)⟩ (fun k x f hx ⟨s2, s3, s4, f2, f3, f4, p2, p3, p4, hf, hi⟩ => ?_) fun f ⟨s2, s3, s4, f2, f3, f4, p2, p3, p4, hf, hi⟩ => ?_
      · subst hf
        rw [Nat.zero_add] at *
        have hm := List.mem_of_getElem? hx
        refine ⟨_, gtN_at rfl f2, ?_⟩
        cases e : ia cs x with
        | false =>
          have : rgB cs (.tup l) = false := rgB_f fun R e2 hR => ia_f e (by
            injection e2 with e2
            rw [e2] at hm
            obtain ⟨q, hq, e3⟩ := List.mem_map.mp hm
            exact ⟨q, hR.ok q hq, e3.symm⟩)
          rw [this] at h
          refine liB_ok f3 f4 p3 p4 (hda x hm) (hp.so l rfl x hm) (fun _ f => ⟨_, rfl, h⟩) fun z => ?_
          rw [e] at z; cases z
        | true =>
          refine liB_ok f3 f4 p3 p4 (hda x hm) (hp.so l rfl x hm) (fun z => by rw [e] at z; cases z) fun _ s3 s4 f3 f4 p3 p4 => ?_
          · refine ⟨_, _, _, fre_ow (.pv x), f3, f4, rfl, p3, p4, rfl, fun y hy => ?_⟩
            rw [List.take_add_one, hx] at hy
            rcases List.mem_append.mp hy with z | z
            · exact hi y z
            · have : y = x := List.mem_singleton.mp z
              rw [this]; exact e
      · subst hf
        rw [Nat.zero_add, List.take_length] at hi
        obtain ⟨R, hR, hok⟩ : ∃ R : List Qd, l = R.map (idP cs) ∧ OkQ cs R := by
          obtain ⟨R, e, hm⟩ := unmap (f := idP cs) (qs := allQ cs) (R := l) fun x hx => by
            obtain ⟨q, hq, e⟩ := ia_t (hi x hx)
            exact List.mem_map.mpr ⟨q, allQ_mem.mpr hq, e.symm⟩
          exact ⟨R, e, fun q hq => allQ_mem.mp (hm q hq)⟩
        subst hR
        rw [List.length_map] at hln hz
        exact liZ_ok W p2 (by omega) hln hok fun f => ⟨_, rfl, h⟩
  | non => top_name; rw [nt fun l z => nomatch z] at h; exact h
  | bl b => top_name; rw [nt fun l z => nomatch z] at h; exact h
  | int i => top_name; rw [nt fun l z => nomatch z] at h; exact h
  | str s => top_name; rw [nt fun l z => nomatch z] at h; exact h
  | lst ps => top_name; rw [nt fun l z => nomatch z] at h; exact h
  | _ => cases hp.da
end K13
end Sm

namespace Sm
namespace K13
open PySem L2
variable {E : Ex → List MV → Prop} {Q : MV → List MV → Prop} {ms : List PV} {cs : List Ch} {sl : List Int}
theorem ints_mem (l : List Int) {i : Int} (h0 : 0 ≤ i) (h1 : i < l.length) : ∃ x, atI (l.map PV.int) i = some (.int x) ∧ x ∈ l := by
  obtain ⟨n, rfl⟩ : ∃ n : Nat, i = (n : Int) := ⟨i.toNat, by omega⟩
  have hn : n < l.length := by omega
  exact ⟨l[n], atI_nat (by rw [List.getElem?_map, List.getElem?_eq_getElem hn]; rfl), List.getElem_mem hn⟩
theorem strs_mem (l : List Str) {i : Int} (h0 : 0 ≤ i) (h1 : i < l.length) : ∃ x, atI (l.map PV.str) i = some (.str x) ∧ x ∈ l := by
  obtain ⟨n, rfl⟩ : ∃ n : Nat, i = (n : Int) := ⟨i.toNat, by omega⟩
  have hn : n < l.length := by omega
  exact ⟨l[n], atI_nat (by rw [List.getElem?_map, List.getElem?_eq_getElem hn]; rfl), List.getElem_mem hn⟩
def wds : List Str := ["add", "sub", "mul", "less", "same", "pick", "number", "input", "out", "add"]
def opP : Option Int → PV
  | none => .non
  | some i => .int i
structure Md where
  w : Str
  C : List (Option Int)
instance : Inhabited Md := ⟨⟨"", []⟩⟩
def mdP (m : Md) : PV := .tup [.str m.w, .tup (m.C.map opP)]
def szT (w : Str) : Int := (lookT [("pick", 3), ("number", 1), ("out", 1), ("input", 0)] w).getD 2
theorem szT_b (w : Str) : 0 ≤ szT w ∧ szT w ≤ 3 := by
  unfold szT lookT
  split
  · decide
  · unfold lookT
    split
    · decide
    · unfold lookT
      split
      · decide
      · unfold lookT
        split
        · decide
        · exact ⟨by show (0 : Int) ≤ 2; decide, by show (2 : Int) ≤ 3; decide⟩
theorem szT_input : szT "input" = 0 := by decide +kernel
def nlA : Fr → SO := (sSeq (sSet 11 (eOr (eBin gEq (eV 7) (eC (.str "number"))) (eAnd (eBin gNe (eV 7) (eC (.str "out"))) (eBin gEq (eCallB 2 g__law_spin (bName 0 (bVal (eC (.int 4)) bNil))) (eC (.int 0))))))
  (sExpr (eApp 9 (eIf (bTru (eV 11)) (eCallB 1 g__law_item (bName 0 bNil)) (eC .non)))))
def nlB : Fr → SO := (sSeq (sSet 8 (eDgt [("pick", 3), ("number", 1), ("out", 1), ("input", 0)] 2 (eV 7)))
  (sSeq (sSet 9 (eLst aNil))
  (sSeq (sForE (eBu gRange (aCons (eV 8) aNil)) (gtN 10) nlA)
  (sExpr (eApp 5 (eTup (aCons (eV 7) (aCons (eB1S gTuple 9) aNil))))))))
def nlC : Fr → SO := (sSeq (sSet 7 (eIx (eV 4) (eIx (eFz (eLst (aCons (eCallB 2 g__law_spin (bName 0 (bVal (eC (.int 10)) bNil))) (aCons (eC (.int 7)) (aCons (eCallB 2 g__law_spin (bName 0 (bVal (eC (.int 6)) bNil))) aNil))))) (eCallB 2 g__law_spin (bName 0 (bVal (eC (.int 3)) bNil))))))
  (sSeq (sIf (bAnd (bCmp gEq (eV 6) (eC (.int 0))) (bOr (bCmp gEq (eV 7) (eC (.str "out"))) (bNot (bTru (eV 3))))) (sSet 7 (eIx (eFz (eLst (aCons (eC (.str "input")) (aCons (eC (.str "number")) aNil)))) (eCallB 2 g__law_spin (bName 0 (bVal (eC (.int 2)) bNil))))) sNil) nlB))
def nF (P : List PV) (n : Nat) (mo : Int) (bk : Bool) (L : List Md) (s6 s7 s8 s9 s10 s11 : Sl) : Fr := [.pr (.pl P), .ow (.pv (.int (n : Int))), .ow (.pv (.int mo)), .ow (.pv (.bl bk)), .ow (.pv (.lst (wds.map PV.str))), .ow (.pl (L.map mdP)), s6, s7, s8, s9, s10, s11, .no, .no, .no, .no, .no, .no, .no, .no]
theorem nlA_ok {o : Po} {P : List PV} {n : Nat} {mo : Int} {bk : Bool} {L : List Md} {w : Str} {C : List (Option Int)} {s6 s8 s10 s11 : Sl} (hP : CrL P) (hC : C.length ≤ 100) (f11 : fre s11)
    (h : ∀ P' x s11, CrL P' → fre s11 → (w = "number" → x.isSome = true) → o.nx (nF P' n mo bk L s6 (.ow (.pv (.str w))) s8 (.ow (.pl ((C ++ [x]).map opP))) s10 s11)) :
    wS (nlA (nF P n mo bk L s6 (.ow (.pv (.str w))) s8 (.ow (.pl (C.map opP))) s10 s11)) o := by
  have el : (C.map opP).length = C.length := List.length_map _
  have fin : ∀ (P' : List PV) (v : Int), CrL P' → (o.nx (nF P' n mo bk L s6 (.ow (.pv (.str w))) s8 (.ow (.pl (C.map opP ++ [.int v]))) s10 (.ow (.pv (.bl true))))) := fun P' v hP' => by
    have := h P' (some v) (.ow (.pv (.bl true))) hP' (fre_ow _) fun _ => rfl
    rw [List.map_append] at this
    exact this
  unfold nlA nF
  have item : ∀ (P1 : List PV) (o' : Po), CrL P1 → (∀ P' v, CrL P' → o'.nx (nF P' n mo bk L s6 (.ow (.pv (.str w))) s8 (.ow (.pl (C.map opP ++ [.int v]))) s10 (.ow (.pv (.bl true))))) →
      wS (sExpr (eApp 9 (eIf (bTru (eV 11)) (eCallB 1 g__law_item (bName 0 bNil)) (eC .non))) (nF P1 n mo bk L s6 (.ow (.pv (.str w))) s8 (.ow (.pl (C.map opP))) s10 (.ow (.pv (.bl true))))) o' := fun P1 o' hP1 h' => by
    unfold nF
    top_name
    refine w_item hP1 fun v P2 v0 v1 hP2 => ?_
    top_name
    refine ⟨szlt (by rw [el]; omega), ?_⟩
    top_name
    exact h' P2 v hP2
  have none' : ∀ (P1 : List PV), CrL P1 → w ≠ "number" →
      wS (sExpr (eApp 9 (eIf (bTru (eV 11)) (eCallB 1 g__law_item (bName 0 bNil)) (eC .non))) (nF P1 n mo bk L s6 (.ow (.pv (.str w))) s8 (.ow (.pl (C.map opP))) s10 (.ow (.pv (.bl false))))) o := fun P1 hP1 hw => by
    unfold nF
    top_name
    refine ⟨szlt (by rw [el]; omega), ?_⟩
    top_name
    have := h P1 none (.ow (.pv (.bl false))) hP1 (fre_ow _) fun z => absurd z hw
    rw [List.map_append] at this
    exact this
  top_name
  refine br_d (fun hz => ?_) fun hz => ?_
  · refine ⟨fre_at rfl f11, ?_⟩
    exact item P o hP fun P' v hP' => fin P' v hP'
  · top_name
    refine br_d (fun hz2 => ?_) fun hz2 => ?_
    · refine ⟨fre_at rfl f11, ?_⟩
      exact none' P hP hz
    · top_name
      refine w_spin hP (by decide) (by decide) fun v P1 a1 b1 hP1 => ?_
      top_name
      refine br_d (fun hv => ?_) fun hv => ?_
      · top_name
        refine w_item hP1 fun u P2 v0 v1 hP2 => ?_
        top_name
        refine ⟨szlt (by rw [el]; omega), ?_⟩
        top_name
        have := h P2 (some u) _ hP2 (fre_ow (.pv (.bl (decide (v = 0))))) fun _ => rfl
        rw [List.map_append] at this
        exact this
      · top_name
        refine ⟨szlt (by rw [el]; omega), ?_⟩
        top_name
        have := h P1 none _ hP1 (fre_ow (.pv (.bl (decide (v = 0))))) fun z => absurd z hz
        rw [List.map_append] at this
        exact this
end K13
end Sm

namespace Sm
namespace K13
open PySem L2
variable {E : Ex → List MV → Prop} {Q : MV → List MV → Prop} {ms : List PV} {cs : List Ch} {sl : List Int}
theorem w_dgt {tab : List (Str × Int)} {d : Int} {ea : Fr → O MV} {E : Ex → Fr → Prop} {fr : Fr} {Q : MV → Fr → Prop} (h : wE (ea fr) E fun m f => wP m fun p => ∃ x, p = .str x ∧ Q (.pv (.int ((lookT tab x).getD d))) f) : wE (eDgt tab d ea fr) E Q := wE_bindP (wE_mono h (fun m f h => by
  cases m with
  | pv p =>
    obtain ⟨x, e, h2⟩ := wP_out h
    subst e
    have h' : wE (O.ok (.pv (.int ((lookT tab x).getD d))) f) E Q := by with_unfolding_all exact h2
    with_unfolding_all exact h'
  | _ => with_unfolding_all exact h.elim) fun _ _ h => h)
structure MdI (L : List Md) (bk : Bool) : Prop where
  ln : ∀ m ∈ L, m.C.length ≤ 3
  fs : ∀ m, L[0]? = some m → m.w ≠ ("out" : Str) ∧ (bk = false → ∀ c ∈ m.C, c.isSome = true)
theorem nlB_ok {o : Po} {P : List PV} {n : Nat} {mo : Int} {bk : Bool} {L : List Md} {w : Str} {s6 s8 s9 s10 s11 : Sl} (hP : CrL P) (hL : L.length ≤ 100) (f8 : fre s8) (f9 : fre s9) (f10 : fre s10) (f11 : fre s11)
    (h : ∀ P' C s8 s10 s11, CrL P' → fre s8 → fre s10 → fre s11 → C.length ≤ 3 → (w = "number" → ∀ c ∈ C, c.isSome = true) → (w = "input" → C = []) → o.nx (nF P' n mo bk (L ++ [⟨w, C⟩]) s6 (.ow (.pv (.str w))) s8 (.ow (.pl (C.map opP))) s10 s11)) :
    wS (nlB (nF P n mo bk L s6 (.ow (.pv (.str w))) s8 s9 s10 s11)) o := by
  have elm : (L.map mdP).length = L.length := List.length_map _
  unfold nlB nF
  top_name
  refine w_dgt ?_
  top_name
  obtain ⟨s0, s3⟩ := szT_b w
  obtain ⟨k, hk⟩ : ∃ k : Nat, szT w = (k : Int) := ⟨(szT w).toNat, by omega⟩
  have hk' : (lookT [("pick", 3), ("number", 1), ("out", 1), ("input", 0)] w).getD 2 = (k : Int) := hk
  rw [hk']
  refine ⟨rgPs 0 k, seqM2_rng (n := k) (by omega), ?_⟩
  refine w_forL (b := nlA) (fun i f => ∃ P' C s10 s11, CrL P' ∧ fre s10 ∧ fre s11 ∧ C.length = i ∧ (w = "number" → ∀ c ∈ C, c.isSome = true) ∧ f = nF P' n mo bk L s6 (.ow (.pv (.str w))) (.ow (.pv (.int (k : Int)))) (.ow (.pl (C.map opP))) s10 s11) (rgPs 0 k) 0 _ ⟨P, [], s10, s11, hP, f10, f11, rfl, fun _ c hc => (nomatch hc), rfl⟩ (fun i p f hp ⟨P', C, s10, s11, hP', f10, f11, hC, hn, hf⟩ => ?_) fun f ⟨P', C, s10, s11, hP', f10, f11, hC, hn, hf⟩ => ?_
  · subst hf
    obtain ⟨hi, rfl⟩ := rgPs_get hp
    rw [Nat.zero_add] at *
    refine ⟨_, gtN_at rfl f10, ?_⟩
    refine nlA_ok (C := C) hP' (by omega) f11 fun P2 x s11 hP2 f11 hx => ?_
    refine ⟨P2, C ++ [x], _, s11, hP2, fre_ow (.pv (.int (i : Int))), f11, by rw [List.length_append, hC]; rfl, fun hw c hc => ?_, rfl⟩
    rcases List.mem_append.mp hc with hc | hc
    · exact hn hw c hc
    · rw [List.mem_singleton.mp hc]; exact hx hw
  · subst hf
    rw [rgPs_len, Nat.zero_add] at hC
    unfold nF
    top_name
    refine ⟨szlt (by rw [elm]; omega), ?_⟩
    top_name
    have := h P' C (.ow (.pv (.int (k : Int)))) s10 s11 hP' (fre_ow _) f10 f11 (by omega) hn fun hw => by
      rw [hw, szT_input] at hk
      exact List.length_eq_zero_iff.mp (by omega)
    unfold nF at this
    rw [List.map_append] at this
    exact this
theorem nlC_ok {o : Po} {P : List PV} {n i : Nat} {mo : Int} {bk : Bool} {L : List Md} {s7 s8 s9 s10 s11 : Sl} (hP : CrL P) (hi : L.length = i) (hL : L.length ≤ 100) (f7 : fre s7) (f8 : fre s8) (f9 : fre s9) (f10 : fre s10) (f11 : fre s11) (hI : MdI L bk)
    (h : ∀ P' L' s7 s8 s9 s10 s11, CrL P' → L'.length = i + 1 → MdI L' bk → fre s7 → fre s8 → fre s9 → fre s10 → fre s11 → o.nx (nF P' n mo bk L' (.ow (.pv (.int (i : Int)))) s7 s8 s9 s10 s11)) :
    wS (nlC (nF P n mo bk L (.ow (.pv (.int (i : Int)))) s7 s8 s9 s10 s11)) o := by
  have fin : ∀ (P1 : List PV) (w : Str), CrL P1 → (i = 0 → w ≠ ("out" : Str) ∧ (bk = false → w = ("input" : Str) ∨ w = ("number" : Str))) →
      wS (nlB (nF P1 n mo bk L (.ow (.pv (.int (i : Int)))) (.ow (.pv (.str w))) s8 s9 s10 s11)) o := fun P1 w hP1 hw => by
    refine nlB_ok hP1 hL f8 f9 f10 f11 fun P' C s8 s10 s11 hP' f8 f10 f11 hC c1 c2 => ?_
    refine h P' _ _ _ _ _ _ hP' (by rw [List.length_append, hi]; rfl) ⟨fun m hm => ?_, fun m hm => ?_⟩ (fre_ow _) f8 (fre_ow _) f10 f11
    · rcases List.mem_append.mp hm with hm | hm
      · exact hI.ln m hm
      · rw [List.mem_singleton.mp hm]; exact hC
    · by_cases c : i = 0
      · have hL0 : L = [] := List.length_eq_zero_iff.mp (by omega)
        subst hL0
        have : m = ⟨w, C⟩ := (Option.some.inj hm).symm
        subst this
        obtain ⟨top_caught, w2⟩ := hw c
        refine ⟨top_caught, fun hb c hc => ?_⟩
        rcases w2 hb with e | e
        · rw [c2 e] at hc; cases hc
        · exact c1 e c hc
      · rw [List.getElem?_append_left (by omega)] at hm
        exact hI.fs m hm
  have hwl : (wds.length : Int) = 10 := rfl
  unfold nlC nF
  top_name
  refine w_spin hP (by decide) (by decide) fun v1 P1 a1 b1 hP1 => ?_
  top_name
  refine w_spin hP1 (by decide) (by decide) fun v2 P2 a2 b2 hP2 => ?_
  top_name
  refine w_spin hP2 (by decide) (by decide) fun v3 P3 a3 b3 hP3 => ?_
  top_name
  obtain ⟨x, ex, hx⟩ := ints_mem [v1, 7, v2] a3 b3
  have hx2 : 0 ≤ x ∧ x < 10 := by
    simp only [List.mem_cons, List.not_mem_nil, or_false] at hx
    rcases hx with rfl | rfl | rfl <;> omega
  refine w_ixL ex ?_
  top_name
  obtain ⟨w, ew, hw⟩ := strs_mem wds hx2.1 (by rw [hwl]; exact hx2.2)
  refine w_ixL ew ?_
  top_name
  have alt : ∀ (v : Int), 0 ≤ v → v < 2 → ∃ w' : Str, atI [PV.str "input", PV.str "number"] v = some (.str w') ∧ (w' = ("input" : Str) ∨ w' = ("number" : Str)) := fun v h0 h1 => by
    obtain ⟨k, rfl⟩ : ∃ k : Nat, v = (k : Int) := ⟨v.toNat, by omega⟩
    match k, h1 with
    | 0, _ => exact ⟨_, rfl, .inl rfl⟩
    | 1, _ => exact ⟨_, rfl, .inr rfl⟩
    | k + 2, h => omega
  have ne1 : ("input" : Str) ≠ ("out" : Str) := by decide +kernel
  have ne2 : ("number" : Str) ≠ ("out" : Str) := by decide +kernel
  have red : ∀ (P3 : List PV), CrL P3 → wS (sSet 7 (eIx (eFz (eLst (aCons (eC (.str "input")) (aCons (eC (.str "number")) aNil)))) (eCallB 2 g__law_spin (bName 0 (bVal (eC (.int 2)) bNil)))) (nF P3 n mo bk L (.ow (.pv (.int (i : Int)))) (.ow (.pv (.str w))) s8 s9 s10 s11)) { nx := fun f => wS (nlB f) o, rt := o.rt, bk := o.bk, ct := o.ct, ex := o.ex } := fun P3 hP3 => by
    unfold nF
    top_name
    refine w_spin hP3 (by decide) (by decide) fun v P4 a4 b4 hP4 => ?_
    obtain ⟨w', e', hw'⟩ := alt v a4 b4
    top_name
    refine w_ixL e' ?_
    top_name
    refine fin P4 w' hP4 fun _ => ⟨?_, fun _ => hw'⟩
    rcases hw' with rfl | rfl
    · exact ne1
    · exact ne2
  refine br_d (fun hz => ?_) fun hz => ?_
  · top_name
    refine br_d (fun hz2 => ?_) fun hz2 => ?_
    · exact br_t (red P3 hP3)
    · cases bk with
      | true =>
        top_name
        exact fin P3 w hP3 fun _ => ⟨hz2, fun z => nomatch z⟩
      | false =>
        top_name
        refine w_spin hP3 (by decide) (by decide) fun v P4 a4 b4 hP4 => ?_
        obtain ⟨w', e', hw'⟩ := alt v a4 b4
        top_name
        refine w_ixL e' ?_
        top_name
        refine fin P4 w' hP4 fun _ => ⟨?_, fun _ => hw'⟩
        rcases hw' with rfl | rfl
        · exact ne1
        · exact ne2
  · top_name
    exact fin P3 w hP3 fun z => absurd z (by omega)
end K13
end Sm

namespace Sm
namespace K13
open PySem L2
variable {E : Ex → List MV → Prop} {Q : MV → List MV → Prop} {ms : List PV} {cs : List Ch} {sl : List Int}
def mF (P : List PV) (n : Nat) (mo : Int) (bk : Bool) (L : List Md) (s6 s7 s8 s9 s10 s11 : Sl) (cs : List Ch) (hb : Int) (s14 s15 s16 s17 s18 : Sl) : Fr := [.pr (.pl P), .ow (.pv (.int (n : Int))), .ow (.pv (.int mo)), .ow (.pv (.bl bk)), .ow (.pv (.lst (wds.map PV.str))), .ow (.pl (L.map mdP)), s6, s7, s8, s9, s10, s11, .ow (.pl (cs.map chP)), .ow (.pv (.int hb)), s14, s15, s16, s17, s18, .no]
def nmD : Fr → SO := (sSeq (sSetF 18 (eLc true [19] (eBu gRange (aCons (eBin gMul (eCallB 2 g__law_spin (bName 0 (bVal (eBin gAdd (eV 2) (eC (.int 1))) bNil))) (eBu gInt (aCons (eBin gEq (eCallB 2 g__law_spin (bName 0 (bVal (eC (.int 2)) bNil))) (eC (.int 0))) aNil))) aNil)) (gtN 19) (fun fr => .ok true fr) (eCallB 1 g__law_item (bName 0 bNil))))
  (sExpr (eApp 12 (eTup (aCons (eV 16) (aCons (eV 14) (aCons (eV 10) (aCons (eV 17) (aCons (eB1 gTuple (eV 18)) aNil)))))))))
def nmC : Fr → SO := (sSeq (sSet 16 (eIx (eV 15) (eCallB 2 g__law_spin (bName 0 (bVal (eB1 gLen (eV 15)) bNil)))))
  (sSeq (sSet 17 (eIx (eFz (eLst (aCons (eC (.int 1)) (aCons (eBin gAdd (eC (.int 1)) (eCallB 2 g__law_spin (bName 0 (bVal (eC (.int 3)) bNil)))) (aCons (eBin gAdd (eC (.int 1)) (eCallB 2 g__law_spin (bName 0 (bVal (eC (.int 15)) bNil)))) (aCons (eC (.int 15)) aNil)))))) (eV 13))) nmD))
def nmB : Fr → SO := (sIf (bCmp gIs (eIx (eIx (eIxL 5 (eV 14)) (eC (.int 1))) (eV 10)) (eC .non)) nmC sNil)
def nmA : Fr → SO := (sSeq (sSetF 15 (eLc true [6] (eBu gRange (aCons (eV 1) aNil)) (gtN 6) (bAnd (bCmp gNe (eIx (eIxL 5 (eV 6)) (eC (.int 0))) (eC (.str "out"))) (bOr (bTru (eV 3)) (bCmp gLt (eV 6) (eV 14)))) (eV 6)))
  (sForE (eBu gRange (aCons (eB1 gLen (eIx (eIxL 5 (eV 14)) (eC (.int 1)))) aNil)) (gtN 10) nmB))
theorem nmD_ok {o : Po} {P : List PV} {n t p k : Nat} {mo hb d : Int} {bk : Bool} {L : List Md} {cs : List Ch} {S : List Int} {s6 s7 s8 s9 s11 s18 : Sl} (hP : CrL P) (h1 : 0 ≤ mo) (h2 : mo ≤ 1000) (hc : cs.length ≤ 1000) (f18 : fre s18)
    (h : ∀ P' l s18, CrL P' → fre s18 → (l.length : Int) ≤ mo → o.nx (mF P' n mo bk L s6 s7 s8 s9 (.ow (.pv (.int (p : Int)))) s11 (cs ++ [⟨k, t, p, d, l⟩]) hb (.ow (.pv (.int (t : Int)))) (.ow (.pv (.lst (S.map PV.int)))) (.ow (.pv (.int (k : Int)))) (.ow (.pv (.int d))) s18)) :
    wS (nmD (mF P n mo bk L s6 s7 s8 s9 (.ow (.pv (.int (p : Int)))) s11 cs hb (.ow (.pv (.int (t : Int)))) (.ow (.pv (.lst (S.map PV.int)))) (.ow (.pv (.int (k : Int)))) (.ow (.pv (.int d))) s18)) o := by
  have el : (cs.map chP).length = cs.length := List.length_map _
  unfold nmD mF
  top_name
  refine w_spin hP (by omega) (by omega) fun v P1 a1 b1 hP1 => ?_
  top_name
  refine w_spin hP1 (by decide) (by decide) fun u P2 a2 b2 hP2 => ?_
  top_name
  refine w_mul (.inl (by unfold smallI; rw [decide_eq_true_eq]; omega)) ?_
  top_name
  obtain ⟨z, hz, hz2⟩ : ∃ z : Nat, v * (if decide (u = 0) = true then (1 : Int) else 0) = (z : Int) ∧ (z : Int) ≤ mo := by
    split
    · exact ⟨v.toNat, by omega, by omega⟩
    · exact ⟨0, by omega, by omega⟩
  rw [hz]
  refine ⟨rgPs 0 z, seqM2_rng (n := z) (by omega), ?_⟩
  obtain ⟨qs, f', e, ⟨P', hP', hf, l, hl, hll⟩, hlen⟩ := w_lcF (vs := [19]) (t := gtN 19) (tst := fun fr => .ok true fr) (el := eCallB 1 g__law_item (bName 0 bNil)) (fun i pre f => ∃ P', CrL P' ∧ f = mF P' n mo bk L s6 s7 s8 s9 (.ow (.pv (.int (p : Int)))) s11 cs hb (.ow (.pv (.int (t : Int)))) (.ow (.pv (.lst (S.map PV.int)))) (.ow (.pv (.int (k : Int)))) (.ow (.pv (.int d))) s18 ∧ ∃ l : List Int, pre = l.map PV.int ∧ l.length = i)
    (rgPs 0 z) 0 [] (mF P2 n mo bk L s6 s7 s8 s9 (.ow (.pv (.int (p : Int)))) s11 cs hb (.ow (.pv (.int (t : Int)))) (.ow (.pv (.lst (S.map PV.int)))) (.ow (.pv (.int (k : Int)))) (.ow (.pv (.int d))) s18) ⟨P2, hP2, rfl, [], rfl, rfl⟩ (fun i q pre f hp ⟨P', hP', hf, l, hl, hll⟩ => by
      subst hf hl
      refine ⟨_, gtN_at rfl fre_no, ?_⟩
      unfold mF
      top_name
      refine w_item hP' fun y P3 y0 y1 hP3 => ?_
      top_name
      exact ⟨P3, hP3, rfl, l ++ [y], by rw [List.map_append]; rfl, by rw [List.length_append, List.length_singleton]; omega⟩)
  rw [rgPs_len] at hlen hll
  rw [List.nil_append] at hl
  rw [Nat.zero_add] at hll
  subst hf hl
  refine ⟨rfl, _, _, e, le_sz (by rw [List.length_map]; omega), ?_⟩
  unfold mF
  top_name
  refine ⟨szlt (by rw [el]; omega), ?_⟩
  top_name
  have := h P' l (.ow (.pv (.lst (l.map PV.int)))) hP' (fre_ow _) (by omega)
  unfold mF at this
  rw [List.map_append] at this
  exact this
end K13
end Sm

namespace Sm
namespace K13
open PySem L2
variable {E : Ex → List MV → Prop} {Q : MV → List MV → Prop} {ms : List PV} {cs : List Ch} {sl : List Int}
structure ChI (n : Nat) (mo : Int) (cs : List Ch) : Prop where
  st : ∀ c ∈ cs, c.s < n ∧ c.t < n
  it : ∀ c ∈ cs, (c.it.length : Int) ≤ mo
  dl : ∀ c ∈ cs, 1 ≤ c.d ∧ c.d ≤ 15
theorem ChI.app {n : Nat} {mo : Int} {cs : List Ch} (h : ChI n mo cs) {c : Ch} (h1 : c.s < n ∧ c.t < n) (h2 : (c.it.length : Int) ≤ mo) (h3 : 1 ≤ c.d ∧ c.d ≤ 15) : ChI n mo (cs ++ [c]) := by
  refine ⟨fun x hx => ?_, fun x hx => ?_, fun x hx => ?_⟩ <;> rcases List.mem_append.mp hx with hx | hx
  · exact h.st x hx
  · rw [List.mem_singleton.mp hx]; exact h1
  · exact h.it x hx
  · rw [List.mem_singleton.mp hx]; exact h2
  · exact h.dl x hx
  · rw [List.mem_singleton.mp hx]; exact h3
theorem nmC_ok {o : Po} {P : List PV} {n t p : Nat} {mo hb : Int} {bk : Bool} {L : List Md} {cs : List Ch} {S : List Int} {s6 s7 s8 s9 s11 s16 s17 s18 : Sl} (hP : CrL P) (h1 : 0 ≤ mo) (h2 : mo ≤ 1000) (hb1 : 0 ≤ hb) (hb2 : hb < 4) (hc : cs.length ≤ 1000) (hn : n ≤ 1000) (ht : t < n) (hS0 : 0 < S.length) (hSl : S.length ≤ 1000) (hS : ∀ x ∈ S, ∃ k : Nat, x = (k : Int) ∧ k < n) (f16 : fre s16) (f17 : fre s17) (f18 : fre s18) (hI : ChI n mo cs)
    (h : ∀ P' cs' s16 s17 s18, CrL P' → fre s16 → fre s17 → fre s18 → ChI n mo cs' → cs'.length = cs.length + 1 → o.nx (mF P' n mo bk L s6 s7 s8 s9 (.ow (.pv (.int (p : Int)))) s11 cs' hb (.ow (.pv (.int (t : Int)))) (.ow (.pv (.lst (S.map PV.int)))) s16 s17 s18)) :
    wS (nmC (mF P n mo bk L s6 s7 s8 s9 (.ow (.pv (.int (p : Int)))) s11 cs hb (.ow (.pv (.int (t : Int)))) (.ow (.pv (.lst (S.map PV.int)))) s16 s17 s18)) o := by
  have el : (S.map PV.int).length = S.length := List.length_map _
  unfold nmC mF
  top_name
  rw [el]
  refine w_spin hP (by omega) (by omega) fun v P1 a1 b1 hP1 => ?_
  top_name
  obtain ⟨x, ex, hx⟩ := ints_mem S a1 b1
  obtain ⟨k, rfl, hk⟩ := hS x hx
  refine w_ixL ex ?_
  top_name
  refine w_spin hP1 (by decide) (by decide) fun u P2 a2 b2 hP2 => ?_
  top_name
  refine w_spin hP2 (by decide) (by decide) fun w P3 a3 b3 hP3 => ?_
  top_name
  obtain ⟨d, ed, hd⟩ := ints_mem [1, 1 + u, 1 + w, 15] hb1 hb2
  have hd2 : 1 ≤ d ∧ d ≤ 15 := by
    simp only [List.mem_cons, List.not_mem_nil, or_false] at hd
    rcases hd with rfl | rfl | rfl | rfl <;> omega
  refine w_ixL ed ?_
  top_name
  refine nmD_ok hP3 h1 h2 hc f18 fun P' l s18 hP' f18 hl => ?_
  exact h P' _ _ _ s18 hP' (fre_ow _) (fre_ow _) f18 (hI.app ⟨hk, ht⟩ hl hd2) (by rw [List.length_append]; rfl)
def srcB (L : List Md) (bk : Bool) (t : Nat) : PV → Bool := fun p => match p with
  | .int i => (!decide ((L.getD i.toNat default).w = ("out" : Str))) && (bk || decide (i < (t : Int)))
  | _ => false
theorem mdAt {L : List Md} {e : Nat} (h : e < L.length) : atI (L.map mdP) (e : Int) = some (mdP (L.getD e default)) := atI_nat (by rw [List.getElem?_map, List.getD_eq_getElem?_getD, List.getElem?_eq_getElem h]; rfl)
theorem src_ints (L : List Md) (bk : Bool) (t n : Nat) : ∃ S : List Int, ((rgPs 0 n).filter (srcB L bk t)).map (fun p => p) = S.map PV.int ∧ S.length ≤ n ∧ (∀ x ∈ S, ∃ k : Nat, x = (k : Int) ∧ k < n) ∧ (0 < n → srcB L bk t (.int 0) = true → 0 < S.length) := by
  have key : ∀ p ∈ (rgPs 0 n).filter (srcB L bk t), ∃ k : Nat, p = .int (k : Int) ∧ k < n := fun p hp => by
    obtain ⟨h1, _⟩ := List.mem_filter.mp hp
    obtain ⟨i, hi, rfl⟩ := rgPs_mem h1
    exact ⟨i, rfl, by omega⟩
  refine ⟨((rgPs 0 n).filter (srcB L bk t)).map fun p => match p with | .int i => i | _ => 0, ?_, ?_, ?_, ?_⟩
  · rw [List.map_map]
    refine List.map_congr_left fun p hp => ?_
    obtain ⟨k, rfl, _⟩ := key p hp
    rfl
  · rw [List.length_map]
    have := List.length_filter_le (srcB L bk t) (rgPs 0 n)
    rw [rgPs_len] at this
    exact this
  · intro x hx
    obtain ⟨p, hp, rfl⟩ := List.mem_map.mp hx
    obtain ⟨k, rfl, hk⟩ := key p hp
    exact ⟨k, rfl, hk⟩
  · intro h0 h1
    rw [List.length_map]
    refine List.length_pos_of_mem (a := .int 0) (List.mem_filter.mpr ⟨?_, h1⟩)
    unfold rgPs
    exact List.mem_map.mpr ⟨0, List.mem_range.mpr h0, rfl⟩
end K13
end Sm

namespace Sm
namespace K13
open PySem L2
variable {E : Ex → List MV → Prop} {Q : MV → List MV → Prop} {ms : List PV} {cs : List Ch} {sl : List Int}
theorem nmA_ok {o : Po} {P : List PV} {n t : Nat} {mo hb : Int} {bk : Bool} {L : List Md} {cs : List Ch} {s6 s7 s8 s9 s10 s11 s15 s16 s17 s18 : Sl} (hP : CrL P) (h1 : 0 ≤ mo) (h2 : mo ≤ 1000) (hb1 : 0 ≤ hb) (hb2 : hb < 4) (hc : cs.length ≤ 900) (hn : n ≤ 1000) (ht : t < n) (hL : L.length = n) (hM : MdI L bk) (p6 : plainS (some s6) = true) (f10 : fre s10) (f15 : fre s15) (f16 : fre s16) (f17 : fre s17) (f18 : fre s18) (hI : ChI n mo cs)
    (h : ∀ P' cs' s6 s10 s15 s16 s17 s18, CrL P' → plainS (some s6) = true → fre s10 → fre s15 → fre s16 → fre s17 → fre s18 → ChI n mo cs' → cs'.length ≤ cs.length + 3 → o.nx (mF P' n mo bk L s6 s7 s8 s9 s10 s11 cs' hb (.ow (.pv (.int (t : Int)))) s15 s16 s17 s18)) :
    wS (nmA (mF P n mo bk L s6 s7 s8 s9 s10 s11 cs hb (.ow (.pv (.int (t : Int)))) s15 s16 s17 s18)) o := by
  have elm : (L.map mdP).length = L.length := List.length_map _
  obtain ⟨S, hS, hSl, hSn, hS0⟩ := src_ints L bk t n
  unfold nmA mF
  top_name
  refine ⟨by with_unfolding_all (show (plainS (some s6) && true) = true; rw [p6]; rfl), ?_⟩
  refine ⟨_, _, lcF_pure (fr := [.pr (.pl P), .ow (.pv (.int (n : Int))), .ow (.pv (.int mo)), .ow (.pv (.bl bk)), .ow (.pv (.lst (wds.map PV.str))), .ow (.pl (L.map mdP)), .no, s7, s8, s9, s10, s11, .ow (.pl (cs.map chP)), .ow (.pv (.int hb)), .ow (.pv (.int (t : Int))), s15, s16, s17, s18, .no]) (srcB L bk t) (fun p => p) (rgPs 0 n) (fun z hz => ?_), ?_, ?_⟩
  · obtain ⟨i, hi, rfl⟩ := rgPs_mem hz
    refine ⟨_, gtN_at rfl fre_no, wE_val ?_, fun _ => wE_val ?_, rfl, rfl⟩
    · top_name
      refine w_ixL (mdAt (by omega)) ?_
      have emd : mdP (L.getD i default) = .tup [.str (L.getD i default).w, .tup ((L.getD i default).C.map opP)] := rfl
      rw [emd]
      top_name
      refine br_d (fun hz => ?_) fun hz => ?_
      · refine ⟨?_, trivial⟩
        show false = ((!decide ((L.getD i default).w = ("out" : Str))) && (bk || decide ((i : Int) < (t : Int))))
        rw [decide_eq_true hz]; rfl
      · have hd : srcB L bk t (.int (i : Int)) = (bk || decide ((i : Int) < (t : Int))) := by
          show ((!decide ((L.getD i default).w = ("out" : Str))) && (bk || decide ((i : Int) < (t : Int)))) = _
          rw [decide_eq_false hz]; rfl
        rw [hd]
        cases bk with
        | true => top_name
        | false => top_name
    · top_name
  · rw [hS]
    exact le_sz (by rw [List.length_map]; omega)
  · rw [hS]
    refine ⟨_, rfl, fre_at (f := mF P n mo bk L s6 s7 s8 s9 s10 s11 cs hb (.ow (.pv (.int (t : Int)))) s15 s16 s17 s18) rfl f15, ?_⟩
    show wS (sForE (eBu gRange (aCons (eB1 gLen (eIx (eIxL 5 (eV 14)) (eC (.int 1)))) aNil)) (gtN 10) nmB (mF P n mo bk L s6 s7 s8 s9 s10 s11 cs hb (.ow (.pv (.int (t : Int)))) (.ow (.pv (.lst (S.map PV.int)))) s16 s17 s18)) o
    have htL : t < L.length := by omega
    have hC := hM.ln _ (List.mem_of_getElem? (show L[t]? = some (L.getD t default) by rw [List.getD_eq_getElem?_getD, List.getElem?_eq_getElem htL]; rfl))
    have emd : mdP (L.getD t default) = .tup [.str (L.getD t default).w, .tup ((L.getD t default).C.map opP)] := rfl
    have elc : ((L.getD t default).C.map opP).length = (L.getD t default).C.length := List.length_map _
    unfold mF
    top_name
    refine w_ixL (mdAt htL) ?_
    rw [emd]
    top_name
    rw [elc]
    refine w_forL (b := nmB) (fun i f => ∃ P' cs' s10 s16 s17 s18, CrL P' ∧ fre s10 ∧ fre s16 ∧ fre s17 ∧ fre s18 ∧ ChI n mo cs' ∧ cs'.length ≤ cs.length + i ∧ f = mF P' n mo bk L s6 s7 s8 s9 s10 s11 cs' hb (.ow (.pv (.int (t : Int)))) (.ow (.pv (.lst (S.map PV.int)))) s16 s17 s18) _ 0 _ ⟨P, cs, s10, s16, s17, s18, hP, f10, f16, f17, f18, hI, Nat.le_refl _, rfl⟩ (fun i p f hp ⟨P', cs', s10, s16, s17, s18, hP', f10, f16, f17, f18, hI', hl', hf⟩ => ?_) fun f ⟨P', cs', s10, s16, s17, s18, hP', f10, f16, f17, f18, hI', hl', hf⟩ => ?_
    · subst hf
      obtain ⟨hi, rfl⟩ := rgPs_get hp
      rw [Nat.zero_add] at *
      refine ⟨_, gtN_at rfl f10, ?_⟩
      have hx : (L.getD t default).C[i]? = some (L.getD t default).C[i] := List.getElem?_eq_getElem hi
      have ei : atI ((L.getD t default).C.map opP) (i : Int) = some (opP (L.getD t default).C[i]) := atI_nat (by rw [List.getElem?_map, hx]; rfl)
      unfold nmB mF
      top_name
      refine w_ixL (mdAt htL) ?_
      rw [emd]
      top_name
      refine w_ixT ei ?_
      cases hc0 : (L.getD t default).C[i] with
      | some v =>
        have eo : opP (some v) = .int v := rfl
        rw [eo]
        top_name
        exact ⟨P', cs', _, s16, s17, s18, hP', fre_ow (.pv (.int (i : Int))), f16, f17, f18, hI', by omega, rfl⟩
      | none =>
        have eo : opP none = .non := rfl
        rw [eo]
        top_name
        have hsrc : srcB L bk t (.int 0) = true := by
          have h0 : L[0]? = some (L.getD 0 default) := by rw [List.getD_eq_getElem?_getD, List.getElem?_eq_getElem (by omega)]; rfl
          obtain ⟨top_caught, w2⟩ := hM.fs _ h0
          show ((!decide ((L.getD 0 default).w = ("out" : Str))) && (bk || decide ((0 : Int) < (t : Int)))) = true
          rw [decide_eq_false top_caught]
          by_cases ct : t = 0
          · cases bk with
            | true => rfl
            | false =>
              subst ct
              have := w2 rfl none (by rw [← hc0]; exact List.getElem_mem hi)
              cases this
          · rw [decide_eq_true (by omega : (0 : Int) < (t : Int)), Bool.or_true]; rfl
        refine nmC_ok hP' h1 h2 hb1 hb2 (by omega) hn ht (hS0 (by omega) hsrc) (by omega) hSn f16 f17 f18 hI' fun P2 cs2 s16 s17 s18 hP2 f16 f17 f18 hI2 hl2 => ?_
        exact ⟨P2, cs2, _, s16, s17, s18, hP2, fre_ow (.pv (.int (i : Int))), f16, f17, f18, hI2, by omega, rfl⟩
    · subst hf
      rw [rgPs_len, Nat.zero_add] at hl'
      exact h P' cs' s6 s10 _ s16 s17 s18 hP' p6 f10 (fre_ow (.pv (.lst (S.map PV.int)))) f16 f17 f18 hI' (by omega)
end K13
end Sm

namespace Sm
namespace K13
open PySem L2
variable {E : Ex → List MV → Prop} {Q : MV → List MV → Prop} {ms : List PV} {cs : List Ch} {sl : List Int}
theorem net_eq : s__law_net = (sSeq (sSet 4 (eFz (eLst (aCons (eC (.str "add")) (aCons (eC (.str "sub")) (aCons (eC (.str "mul")) (aCons (eC (.str "less")) (aCons (eC (.str "same")) (aCons (eC (.str "pick")) (aCons (eC (.str "number")) (aCons (eC (.str "input")) (aCons (eC (.str "out")) (aCons (eC (.str "add")) aNil)))))))))))))
  (sSeq (sSet 5 (eLst aNil))
  (sSeq (sForE (eBu gRange (aCons (eV 1) aNil)) (gtN 6) nlC)
  (sSeq (sSet 12 (eLst aNil))
  (sSeq (sSet 13 (eCallB 2 g__law_spin (bName 0 (bVal (eC (.int 4)) bNil))))
  (sSeq (sForE (eBu gRange (aCons (eV 1) aNil)) (gtN 14) nmA)
  (sRet (eTup (aCons (eB1S gTuple 5) (aCons (eB1S gTuple 12) aNil)))))))))) := rfl
theorem w_net {P : List PV} {n : Nat} {mo : Int} {bk : Bool} (hP : CrL P) (n1 : 1 ≤ n) (n2 : n ≤ 60) (h1 : 0 ≤ mo) (h2 : mo ≤ 20) (h : ∀ P' ms cs, CrL P' → ms.length = n → WN ms cs → (∀ c ∈ cs, c.d ≤ 15) → Q (.pv (netP ms cs)) [.pl P', .pv (.int (n : Int)), .pv (.int mo), .pv (.bl bk)]) : wF (g__law_net [.pl P, .pv (.int (n : Int)), .pv (.int mo), .pv (.bl bk)]) E Q := by
  refine w_runB ?_
  show wS (s__law_net [.pr (.pl P), .ow (.pv (.int (n : Int))), .ow (.pv (.int mo)), .ow (.pv (.bl bk)), .no, .no, .no, .no, .no, .no, .no, .no, .no, .no, .no, .no, .no, .no, .no, .no]) _
  rw [net_eq]
  top_name
  refine w_forL (b := nlC) (fun i f => ∃ P' L s6 s7 s8 s9 s10 s11, CrL P' ∧ fre s6 ∧ plainS (some s6) = true ∧ fre s7 ∧ fre s8 ∧ fre s9 ∧ fre s10 ∧ fre s11 ∧ L.length = i ∧ MdI L bk ∧ f = nF P' n mo bk L s6 s7 s8 s9 s10 s11) (rgPs 0 n) 0 _ ⟨P, [], .no, .no, .no, .no, .no, .no, hP, fre_no, rfl, fre_no, fre_no, fre_no, fre_no, fre_no, rfl, ⟨fun m hm => (nomatch hm), fun m hm => (nomatch hm)⟩, rfl⟩ (fun i p f hp ⟨P', L, s6, s7, s8, s9, s10, s11, hP', f6, p6, f7, f8, f9, f10, f11, hL, hM, hf⟩ => ?_) fun f ⟨P', L, s6, s7, s8, s9, s10, s11, hP', f6, p6, f7, f8, f9, f10, f11, hL, hM, hf⟩ => ?_
  · subst hf
    obtain ⟨hi, rfl⟩ := rgPs_get hp
    rw [Nat.zero_add] at *
    refine ⟨_, gtN_at rfl f6, ?_⟩
    refine nlC_ok hP' hL (by omega) f7 f8 f9 f10 f11 hM fun P2 L2 s7 s8 s9 s10 s11 hP2 hL2 hM2 f7 f8 f9 f10 f11 => ?_
    exact ⟨P2, L2, _, s7, s8, s9, s10, s11, hP2, fre_ow (.pv (.int (i : Int))), rfl, f7, f8, f9, f10, f11, hL2, hM2, rfl⟩
  · subst hf
    rw [rgPs_len, Nat.zero_add] at hL
    unfold nF
    top_name
    refine w_spin hP' (by decide) (by decide) fun hb P2 a2 b2 hP2 => ?_
    top_name
    refine w_forL (b := nmA) (fun i f => ∃ P' cs' s6 s10 s14 s15 s16 s17 s18, CrL P' ∧ plainS (some s6) = true ∧ fre s10 ∧ fre s14 ∧ fre s15 ∧ fre s16 ∧ fre s17 ∧ fre s18 ∧ ChI n mo cs' ∧ cs'.length ≤ 3 * i ∧ f = mF P' n mo bk L s6 s7 s8 s9 s10 s11 cs' hb s14 s15 s16 s17 s18) (rgPs 0 n) 0 _ ⟨P2, [], s6, s10, .no, .no, .no, .no, .no, hP2, p6, f10, fre_no, fre_no, fre_no, fre_no, fre_no, ⟨fun c hc => (nomatch hc), fun c hc => (nomatch hc), fun c hc => (nomatch hc)⟩, Nat.le_refl _, rfl⟩ (fun i p f hp ⟨P', cs', s6, s10, s14, s15, s16, s17, s18, hP', p6, f10, f14, f15, f16, f17, f18, hI, hl, hf⟩ => ?_) fun f ⟨P', cs', s6, s10, s14, s15, s16, s17, s18, hP', p6, f10, f14, f15, f16, f17, f18, hI, hl, hf⟩ => ?_
    · subst hf
      obtain ⟨hi, rfl⟩ := rgPs_get hp
      rw [Nat.zero_add] at *
      refine ⟨_, gtN_at rfl f14, ?_⟩
      refine nmA_ok hP' h1 (by omega) a2 b2 (by omega) (by omega) hi hL hM p6 f10 f15 f16 f17 f18 hI fun P3 cs3 s6 s10 s15 s16 s17 s18 hP3 p6 f10 f15 f16 f17 f18 hI3 hl3 => ?_
      exact ⟨P3, cs3, s6, s10, _, s15, s16, s17, s18, hP3, p6, f10, fre_ow (.pv (.int (i : Int))), f15, f16, f17, f18, hI3, by omega, rfl⟩
    · subst hf
      rw [rgPs_len, Nat.zero_add] at hl
      have elm : (L.map mdP).length = n := by rw [List.length_map, hL]
      unfold mF
      top_name
      refine h P' (L.map mdP) cs' hP' elm ⟨by omega, by omega, Nat.zero_le _, by omega, fun c hc => by rw [elm]; exact hI.st c hc, fun c hc => by have := hI.it c hc; omega, fun c hc => by have := hI.dl c hc; omega⟩ fun c hc => (hI.dl c hc).2
end K13
end Sm

namespace Sm
namespace K13
open PySem L2
variable {E : Ex → List MV → Prop} {Q : MV → List MV → Prop} {ms : List PV} {cs : List Ch} {sl : List Int}
theorem gsC_at {f f' : Fr} {i : Nat} {s : Sl} {p : PV} {ps : List PV} {r : List PV → Fr → Option Fr} (e : f[i]? = some s) (h : fre s) (h2 : r ps (f.set i (.ow (.pv p))) = some f') : gsCons (gtN i) r (p :: ps) f = some f' := by
  show (match gtN i p f with | some fr1 => r ps fr1 | none => none) = _
  rw [gtN_at e h]; exact h2
theorem gt5_at {f f' : Fr} {i j k l m : Nat} {p q r s t : PV} (h : gsCons (gtN i) (gsCons (gtN j) (gsCons (gtN k) (gsCons (gtN l) (gsCons (gtN m) gsNil)))) [p, q, r, s, t] f = some f') : gtT 5 (gsCons (gtN i) (gsCons (gtN j) (gsCons (gtN k) (gsCons (gtN l) (gsCons (gtN m) gsNil))))) (.tup [p, q, r, s, t]) f = some f' := h
theorem gt3_at {f f' : Fr} {i j k : Nat} {p q r : PV} (h : gsCons (gtN i) (gsCons (gtN j) (gsCons (gtN k) gsNil)) [p, q, r] f = some f') : gtT 3 (gsCons (gtN i) (gsCons (gtN j) (gsCons (gtN k) gsNil))) (.tup [p, q, r]) f = some f' := h
def laK : Nat → List Qd
  | 0 => []
  | k + 1 => laK k ++ [(true, k), (false, k)]
theorem laK_len : ∀ k, (laK k).length = 2 * k
  | 0 => rfl
  | k + 1 => by
    show (laK k ++ [_, _]).length = _
    rw [List.length_append, laK_len k]
    show 2 * k + 2 = _
    omega
theorem laK_mem {q : Qd} : ∀ {k : Nat}, q ∈ laK k ↔ q.2 < k
  | 0 => ⟨fun h => (nomatch h), fun h => absurd h (Nat.not_lt_zero _)⟩
  | k + 1 => by
    show q ∈ laK k ++ [(true, k), (false, k)] ↔ _
    rw [List.mem_append, laK_mem (k := k)]
    constructor
    · rintro (h | h)
      · omega
      · simp only [List.mem_cons, List.not_mem_nil, or_false] at h
        rcases h with rfl | rfl <;> exact Nat.lt_succ_self _
    · intro h
      by_cases c : q.2 = k
      · right
        obtain ⟨b, e⟩ := q
        have c' : e = k := c
        subst c'
        cases b with
        | true => exact List.mem_cons_self
        | false => exact List.mem_cons_of_mem _ List.mem_cons_self
      · left; omega
theorem ltok_same : g__law_tokens = g_arc_tokens := rfl
/-- an arc with its delay -/
def adP (cs : List Ch) (q : Qd) : PV := .tup [idP cs q, .int (dQ cs q)]
theorem w_larcs (hc : cs.length ≤ 200) (h : Q (.pv (.lst ((laK cs.length).map (adP cs)))) [.pv (netP ms cs)]) : wF (g__law_arcs [.pv (netP ms cs)]) E Q := by
  have hn : netP ms cs = .tup [.tup ms, .tup (cs.map chP)] := rfl
  have el : (cs.map chP).length = cs.length := List.length_map _
  refine w_runB ?_
  show wS (s__law_arcs [.ow (.pv (netP ms cs)), .no, .no, .no, .no, .no, .no, .no]) _
  unfold s__law_arcs
  top_name
  rw [el]
  top_name
  refine w_forL (fun k f => ∃ s2 s3 s4 s5 s6 s7, fre s2 ∧ fre s3 ∧ fre s4 ∧ fre s5 ∧ fre s6 ∧ fre s7 ∧ f = [.ow (.pv (netP ms cs)), .ow (.pl ((laK k).map (adP cs))), s2, s3, s4, s5, s6, s7]) (rgPs 0 cs.length) 0 _ ⟨.no, .no, .no, .no, .no, .no, fre_no, fre_no, fre_no, fre_no, fre_no, fre_no, rfl⟩ (fun k p f hp ⟨s2, s3, s4, s5, s6, s7, f2, f3, f4, f5, f6, f7, hf⟩ => ?_) fun f ⟨s2, s3, s4, s5, s6, s7, f2, f3, f4, f5, f6, f7, hf⟩ => ?_
  · obtain ⟨hk, rfl⟩ := rgPs_get hp
    subst hf
    rw [Nat.zero_add]
    have e1 := chAt (getD_get hk)
    refine ⟨_, gtN_at rfl f2, ?_⟩
    rw [hn]
    top_name
    refine w_ixT e1 ?_
    top_name
    refine ⟨_, gt5_at (gsC_at rfl f3 (gsC_at rfl f4 (gsC_at rfl f5 (gsC_at rfl f6 (gsC_at rfl f7 rfl))))), ?_⟩
    top_name
    refine ⟨szlt (by rw [List.length_map, laK_len]; omega), ?_⟩
    top_name
    refine ⟨szlt (by rw [List.length_append, List.length_map, laK_len, List.length_singleton]; omega), ?_⟩
    top_name
    refine ⟨.ow (.pv (.int (k : Int))), .ow (.pv (.int (cs.getD k default).s)), .ow (.pv (.int (cs.getD k default).t)), .ow (.pv (.int (cs.getD k default).p)), .ow (.pv (.int (cs.getD k default).d)), .ow (.pv (itP (cs.getD k default).it)), fre_ow _, fre_ow _, fre_ow _, fre_ow _, fre_ow _, fre_ow _, ?_⟩
    have : (laK (k + 1)).map (adP cs) = ((laK k).map (adP cs) ++ [adP cs (true, k)]) ++ [adP cs (false, k)] := by
      show (laK k ++ [_, _]).map (adP cs) = _
      rw [List.map_append, List.append_assoc]; rfl
    rw [this]
    rfl
  · subst hf
    rw [rgPs_len, Nat.zero_add]
    top_name
    exact h
end K13
end Sm

namespace Sm
namespace K13
open PySem L2
variable {E : Ex → List MV → Prop} {Q : MV → List MV → Prop} {ms : List PV} {cs : List Ch} {sl : List Int}
def dq : Qd := (true, 0)
def adF : PV → PV := fun p => match p with | .tup [a, _] => a | _ => .non
theorem ad_map : ((((laK cs.length).map (adP cs)).filter fun _ => true).map adF) = (laK cs.length).map (idP cs) := by
  rw [List.filter_eq_self.mpr fun _ _ => rfl, List.map_map]; rfl
theorem id_filter (g : Qd → Bool) (f : Qd → PV) (R : List Qd) : (((R.map (idP cs)).filter fun p => g (dec p)).map fun p => f (dec p)) = (R.filter g).map f := by
  induction R with
  | nil => rfl
  | cons q R ih =>
    rw [List.map_cons, List.filter_cons, List.filter_cons, dec_id]
    cases g q with
    | true =>
      rw [if_pos rfl, if_pos rfl, List.map_cons, List.map_cons, dec_id, ih]
    | false =>
      rw [if_neg (fun z => Bool.noConfusion z), if_neg (fun z => Bool.noConfusion z), ih]
theorem rg_last {r : List Qd} (h : r ≠ []) : atI (r.map (idP cs)) ((r.length : Int) - 1) = some (idP cs (r.getD (r.length - 1) dq)) := by
  have h0 : 0 < r.length := List.length_pos_iff.mpr h
  have e : (r.length : Int) - 1 = ((r.length - 1 : Nat) : Int) := by omega
  rw [e]
  exact atI_nat (by rw [List.getElem?_map, List.getD_eq_getElem?_getD, List.getElem?_eq_getElem (by omega)]; rfl)
theorem getD_app_lt {sl : List Int} {x : Int} {e : Nat} (h : e < sl.length) : (sl ++ [x]).getD e 0 = sl.getD e 0 := by
  rw [List.getD_eq_getElem?_getD, List.getElem?_append_left h, ← List.getD_eq_getElem?_getD]
theorem getD_app_eq {sl : List Int} {x : Int} {e : Nat} (h : sl.length = e) : (sl ++ [x]).getD e 0 = x := by
  rw [List.getD_eq_getElem?_getD, List.getElem?_append_right (by omega), h, Nat.sub_self]; rfl
def slE : Fr → O MV := (eBin gAdd (eBu gMax (aCons (eC (.int 1)) (aCons (eB1 gLen (eIx (eV 2) (eC (.int 4)))) aNil))) (eIx (eFz (eLst (aCons (eC (.int 0)) (aCons (eC (.int 0)) (aCons (eC (.int 1)) (aCons (eCallB 2 g__law_spin (bName 0 (bVal (eC (.int 4)) bNil))) (aCons (eCallB 2 g__law_spin (bName 0 (bVal (eC (.int 16)) bNil))) aNil))))))) (eCallB 2 g__law_spin (bName 0 (bVal (eC (.int 5)) bNil)))))
theorem w_lslots {P : List PV} (W : WN ms cs) (hP : CrL P) (h : ∀ P' sl, CrL P' → SW cs sl → Q (.pv (slP sl)) [.pl P', .pv (netP ms cs)]) : wF (g__law_slots [.pl P, .pv (netP ms cs)]) E Q := by
  have hn : netP ms cs = .tup [.tup ms, .tup (cs.map chP)] := rfl
  have top_caught := W.c1
  refine w_runB ?_
  show wS (s__law_slots [.pr (.pl P), .ow (.pv (netP ms cs)), .no]) _
  have es : s__law_slots = (sRet (eB1 gTuple (eLc true [2] (eIx (eV 1) (eC (.int 1))) (gtN 2) (fun fr => .ok true fr) slE))) := rfl
  rw [es, hn]
  top_name
  rw [← hn]
  obtain ⟨qs, f', e, ⟨P', hP', hf, l, hl, hll, hb⟩, hlen⟩ := w_lcF (vs := [2]) (t := gtN 2) (tst := fun fr => .ok true fr) (el := slE) (fun i pre f => ∃ P', CrL P' ∧ f = [.pr (.pl P'), .ow (.pv (netP ms cs)), .no] ∧ ∃ l : List Int, pre = l.map PV.int ∧ l.length = i ∧ ∀ e, e < i → ((cs.getD e default).it.length : Int) ≤ l.getD e 0 ∧ l.getD e 0 ≤ 1000000)
    (cs.map chP) 0 [] [.pr (.pl P), .ow (.pv (netP ms cs)), .no] ⟨P, hP, rfl, [], rfl, rfl, fun e he => absurd he (Nat.not_lt_zero _)⟩ (fun i p pre f hp ⟨P', hP', hf, l, hl, hll, hb⟩ => by
      subst hf hl
      rw [List.getElem?_map] at hp
      cases hc : cs[i]? with
      | none => rw [Nat.zero_add] at *; rw [hc] at hp; cases hp
      | some c =>
        rw [Nat.zero_add] at *
        rw [hc] at hp
        cases hp
        have hi := W.it c (List.mem_of_getElem? hc)
        have ec : cs.getD i default = c := by rw [List.getD_eq_getElem?_getD, hc]; rfl
        have e3 : (c.it.map PV.int).length = c.it.length := List.length_map _
        refine ⟨_, gtN_at rfl fre_no, ?_⟩
        have ep : chP c = .tup [.int c.s, .int c.t, .int c.p, .int c.d, .tup (c.it.map PV.int)] := rfl
        rw [ep]
        unfold slE
        top_name
        rw [e3]
        refine w_spin hP' (by decide) (by decide) fun v P2 v0 v1 hP2 => ?_
        top_name
        refine w_spin hP2 (by decide) (by decide) fun u P3 u0 u1 hP3 => ?_
        top_name
        refine w_spin hP3 (by decide) (by decide) fun w P4 w0 top_caught hP4 => ?_
        top_name
        obtain ⟨x, ex, hx⟩ := ints_mem [0, 0, 1, v, u] w0 top_caught
        have hx2 : 0 ≤ x ∧ x ≤ 16 := by
          simp only [List.mem_cons, List.not_mem_nil, or_false] at hx
          rcases hx with rfl | rfl | rfl | rfl | rfl <;> omega
        refine w_ixL ex ?_
        top_name
        refine ⟨P4, hP4, rfl, l ++ [(if (c.it.length : Int) > 1 then (c.it.length : Int) else 1) + x], by rw [List.map_append]; rfl, by rw [List.length_append, List.length_singleton]; omega, fun e he => ?_⟩
        by_cases z : e < i
        · rw [getD_app_lt (by omega)]
          exact hb e z
        · obtain rfl : e = i := by omega
          rw [ec, getD_app_eq hll]
          split <;> omega)
  rw [List.length_map] at hlen hll
  rw [List.nil_append] at hl
  rw [Nat.zero_add] at hll
  subst hf hl
  refine ⟨_, _, e, le_sz (by rw [List.length_map]; omega), ?_⟩
  top_name
  exact h P' l hP' ⟨hll, fun e he => (hb e (by rw [Nat.zero_add, List.length_map]; exact he)).1, fun e he => (hb e (by rw [Nat.zero_add, List.length_map]; exact he)).2⟩
end K13
end Sm

namespace Sm
namespace K13
open PySem L2
variable {E : Ex → List MV → Prop} {Q : MV → List MV → Prop} {ms : List PV} {cs : List Ch} {sl : List Int}
def srcI (cs : List Ch) (R : List Qd) : List Int := R.map fun q => (sQ cs q : Int)
theorem src_map (R : List Qd) : (((R.map (idP cs)).filter fun _ => true).map fun p => PV.int (sQ cs (dec p))) = (srcI cs R).map PV.int := by
  rw [List.filter_eq_self.mpr fun _ _ => rfl]
  unfold srcI
  rw [List.map_map, List.map_map]
  refine List.map_congr_left fun q _ => ?_
  show PV.int (sQ cs (dec (idP cs q))) = _
  rw [dec_id]; rfl
theorem flip_src (q : Qd) : sQ cs (!q.1, q.2) = tQ cs q := by
  obtain ⟨b, e⟩ := q
  cases b <;> rfl
theorem w_slL {i : Nat} {lo hi : Option (Fr → O MV)} {E : Ex → Fr → Prop} {fr : Fr} {Q : MV → Fr → Prop} {ps0 : List PV} (e : rdL i fr = some ps0) (h : wE (pt lo fr) E fun l f2 => wE (pt hi f2) E fun h f3 => ∃ ps, rdL i f3 = some ps ∧ Q (.pl (cutP ps l h)) f3) : wE (eSlL i lo hi fr) E Q := by
  unfold eSlL
  rw [e]
  refine wE_bind (wE_mono h (fun l f2 h => wE_bind (wE_mono h (fun h f3 ⟨ps, e2, q⟩ => ?_) fun _ _ h => h)) fun _ _ h => h)
  rw [e2]
  exact wE_of rfl q
def ixZ (S : List Int) (i : Int) : Nat := (S.findIdx? fun j => j == i).getD 0
theorem ixZ_ok {S : List Int} {i : Int} (h : i ∈ S) : ixF (S.map PV.int) (.int i) = some (ixZ S i) := by
  have hf : (S.map PV.int).all flatP = true := List.all_eq_true.mpr fun p hp => by
    obtain ⟨k, _, rfl⟩ := List.mem_map.mp hp
    rfl
  unfold ixF ixZ
  rw [if_pos ⟨rfl, hf⟩, List.findIdx?_map]
  have e : ((fun p => eqV (toV p) (toV (PV.int i))) ∘ PV.int) = fun j => j == i := by
    funext j; rfl
  rw [e]
  cases c : S.findIdx? (fun j => j == i) with
  | some k => rfl
  | none =>
    have := List.findIdx?_eq_none_iff.mp c i h
    simp at this
theorem ixZ_lt {S : List Int} {i : Int} (h : i ∈ S) : ixZ S i < S.length := by
  unfold ixZ
  cases c : S.findIdx? fun j => j == i with
  | some k => exact (List.findIdx?_eq_some_iff_getElem.mp c).1
  | none =>
    have := List.findIdx?_eq_none_iff.mp c i h
    simp at this
def drD : Fr → SO := (sExpr (eApp 3 (eIx (eV 8) (eCallB 2 g__law_spin (bName 0 (bVal (eB1 gLen (eV 8)) bNil))))))
def drC : Fr → SO := (sSeq (sSetF 9 (eLc true [10] (eV 8) (gtN 10) (bAnd (bCmp gEq (eIx (eV 10) (eC (.int 0))) (eC (.str "along"))) (bCmp gNe (eIx (eV 10) (eC (.int 1))) (eIx (eIxL 3 (eBin gSub (eB1S gLen 3) (eC (.int 1)))) (eC (.int 1))))) (eV 10)))
  (sSeq (sIf (bAnd (bCmp gGt (eV 4) (eC (.int 0))) (bCmp gGt (eB1 gLen (eV 9)) (eC (.int 0)))) (sSet 8 (eV 9)) sNil)
  drD))
def drG : Fr → SO := (sSeq (sSet 7 (eIx (eIxL 3 (eBin gSub (eB1S gLen 3) (eC (.int 1)))) (eC (.int 3))))
  (sSeq (sIf (bCmp gIn (eV 7) (eV 6)) (sRet (eB1 gTuple (eSlL 3 (some (eIdxF (eV 6) (eV 7))) none))) sNil)
  (sSeq (sSetF 8 (eLc true [10] (eV 2) (gtN 10) (bCmp gEq (eIx (eV 10) (eC (.int 2))) (eV 7)) (eV 10))) drC)))
def drB : Fr → SO := (sSeq (sSetF 6 (eLcM true 3 [10] (gtN 10) (fun fr => .ok true fr) (eIx (eV 10) (eC (.int 2))))) drG)
def drE : Fr → SO := (sSeq (sIf (bCmp gEq (eB1 gLen (eV 2)) (eC (.int 0))) (sRet (eC .non)) sNil)
  (sSeq (sSet 3 (eLst (aCons (eIx (eV 2) (eCallB 2 g__law_spin (bName 0 (bVal (eB1 gLen (eV 2)) bNil)))) aNil)))
  (sSeq (sSet 4 (eCallB 2 g__law_spin (bName 0 (bVal (eC (.int 3)) bNil))))
  (sSeq (sForE (eBu gRange (aCons (eB1 gLen (eIx (eV 1) (eC (.int 0)))) aNil)) (gtN 5) drB)
  (sRet (eC .non))))))
theorem dr_eq : s__law_drawn_ring = (sSeq (sSetF 2 (eLc true [10, 11] (eCallP 1 g__law_arcs (aCons (eV 1) aNil)) (gtT 2 (gsCons (gtN 10) (gsCons (gtN 11) gsNil))) (fun fr => .ok true fr) (eV 10))) drE) := rfl
def drF (P ms : List PV) (cs : List Ch) (Wl : List Qd) (hb : Int) (s5 s6 s7 s8 s9 : Sl) : Fr := [.pr (.pl P), .ow (.pv (netP ms cs)), .ow (.pv (.lst ((laK cs.length).map (idP cs)))), .ow (.pl (Wl.map (idP cs))), .ow (.pv (.int hb)), s5, s6, s7, s8, s9, .no, .no]
theorem ids_mem {N : List Qd} {i : Int} (h0 : 0 ≤ i) (h1 : i < N.length) : ∃ q, atI (N.map (idP cs)) i = some (idP cs q) ∧ q ∈ N := by
  obtain ⟨n, rfl⟩ : ∃ n : Nat, i = (n : Int) := ⟨i.toNat, by omega⟩
  have hn : n < N.length := by omega
  exact ⟨N[n], idAt hn, List.getElem_mem hn⟩
theorem flt_map (f : Qd → Bool) (R : List Qd) : (((R.map (idP cs)).filter fun p => f (dec p)).map fun p => p) = (R.filter f).map (idP cs) := by
  have h := id_filter (cs := cs) f (idP cs) R
  rw [← h]
  refine List.map_congr_left fun p hp => ?_
  obtain ⟨h1, _⟩ := List.mem_filter.mp hp
  obtain ⟨q, _, rfl⟩ := List.mem_map.mp h1
  rw [dec_id]
theorem drC_ok {o : Po} {P : List PV} {Wl N : List Qd} {hb : Int} {s5 s6 s7 s9 : Sl} (hP : CrL P) (hne : Wl ≠ []) (hwl : Wl.length ≤ 900) (h0 : 0 < N.length) {G : Qd → Prop} (hN : ∀ q ∈ N, G q) (hNl : N.length ≤ 1000) (f9 : fre s9)
    (h : ∀ P' q s8 s9, CrL P' → G q → fre s8 → fre s9 → o.nx (drF P' ms cs (Wl ++ [q]) hb s5 s6 s7 s8 s9)) :
    wS (drC (drF P ms cs Wl hb s5 s6 s7 (.ow (.pv (.lst (N.map (idP cs))))) s9)) o := by
  have hid : ∀ q : Qd, idP cs q = .tup [.str (nmQ q.1), .int q.2, .int (sQ cs q), .int (tQ cs q)] := fun _ => rfl
  have elw : (Wl.map (idP cs)).length = Wl.length := List.length_map _
  obtain ⟨lq, hlq⟩ : ∃ lq, lq = Wl.getD (Wl.length - 1) dq := ⟨_, rfl⟩
  have fin : ∀ (M : List Qd) (s9 : Sl), 0 < M.length → (∀ q ∈ M, G q) → M.length ≤ 1000 → fre s9 → wS (drD (drF P ms cs Wl hb s5 s6 s7 (.ow (.pv (.lst (M.map (idP cs))))) s9)) o := fun M s9 m0 hM hMl f9 => by
    have elm : (M.map (idP cs)).length = M.length := List.length_map _
    unfold drD drF
    top_name
    rw [elm]
    refine w_spin hP (by omega) (by omega) fun v P2 a2 b2 hP2 => ?_
    top_name
    obtain ⟨q, eq, hq⟩ := ids_mem (cs := cs) (N := M) a2 b2
    refine w_ixL eq ?_
    top_name
    refine ⟨szlt (by rw [elw]; omega), ?_⟩
    top_name
    have := h P2 q (.ow (.pv (.lst (M.map (idP cs))))) s9 hP2 (hM q hq) (fre_ow _) f9
    unfold drF at this
    rw [List.map_append] at this
    exact this
  unfold drC drF
  top_name
  refine ⟨_, _, lcF_pure (fr := [.pr (.pl P), .ow (.pv (netP ms cs)), .ow (.pv (.lst ((laK cs.length).map (idP cs)))), .ow (.pl (Wl.map (idP cs))), .ow (.pv (.int hb)), s5, s6, s7, .ow (.pv (.lst (N.map (idP cs)))), s9, .no, .no]) (fun p => (dec p).1 && !decide (((dec p).2 : Int) = (lq.2 : Int))) (fun p => p) (N.map (idP cs)) (fun z hz => ?_), ?_, ?_⟩
  · obtain ⟨q, hq, rfl⟩ := List.mem_map.mp hz
    refine ⟨_, gtN_at rfl fre_no, wE_val ?_, fun _ => wE_val ?_, rfl, rfl⟩
    · rw [dec_id, hid]
      obtain ⟨b, e⟩ := q
      cases b with
      | true =>
        top_name
        refine br_dT (by trivial) ?_
        top_name
        rw [elw]
        refine w_ixL (rg_last hne) ?_
        rw [← hlq, hid]
        top_name
      | false =>
        top_name
        refine br_dF along_ne ?_
        exact ⟨rfl, trivial⟩
    · top_name
  · rw [flt_map (fun q => q.1 && !decide ((q.2 : Int) = (lq.2 : Int)))]
    have := List.length_filter_le (fun q : Qd => q.1 && !decide ((q.2 : Int) = (lq.2 : Int))) N
    exact le_sz (by rw [List.length_map]; omega)
  · rw [flt_map (fun q => q.1 && !decide ((q.2 : Int) = (lq.2 : Int)))]
    have hle := List.length_filter_le (fun q : Qd => q.1 && !decide ((q.2 : Int) = (lq.2 : Int))) N
    have hok : ∀ q ∈ (N.filter fun q => q.1 && !decide ((q.2 : Int) = (lq.2 : Int))), G q := fun q hq => hN q (List.mem_filter.mp hq).1
    generalize N.filter (fun q => q.1 && !decide ((q.2 : Int) = (lq.2 : Int))) = M at hle hok
    have elm : (M.map (idP cs)).length = M.length := List.length_map _
    top_name
    refine br_d (fun hz => ?_) fun hz => ?_
    · top_name
      rw [elm]
      refine br_d (fun hz2 => ?_) fun hz2 => ?_
      · top_name
        exact fin M _ (by omega) hok (by omega) (fre_ow _)
      · top_name
        exact fin N _ h0 hN hNl (fre_ow (.pv (.lst (M.map (idP cs)))))
    · top_name
      exact fin N _ h0 hN hNl (fre_ow (.pv (.lst (M.map (idP cs)))))
end K13
end Sm

namespace Sm
namespace K13
open PySem L2
variable {E : Ex → List MV → Prop} {Q : MV → List MV → Prop} {ms : List PV} {cs : List Ch} {sl : List Int}
theorem last_mem {Wl : List Qd} (hne : Wl ≠ []) : Wl.getD (Wl.length - 1) dq ∈ Wl := by
  have h0 : 0 < Wl.length := List.length_pos_iff.mpr hne
  rw [List.getD_eq_getElem?_getD, List.getElem?_eq_getElem (by omega)]
  exact List.getElem_mem _
def fsQ (cs : List Ch) (r : List Qd) : Nat := sQ cs (r.getD 0 dq)
def lsQ (cs : List Ch) (r : List Qd) : Nat := tQ cs (r.getD (r.length - 1) dq)
/-- a walk without a place twice -/
structure WkI (cs : List Ch) (R : List Qd) : Prop where
  ne : R ≠ []
  ok : OkQ cs R
  nd : (R.map (sQ cs)).Nodup
  lk : ∀ j (h : j + 1 < R.length), tQ cs R[j] = sQ cs R[j + 1]
theorem WkI.one {q : Qd} (h : q.2 < cs.length) : WkI cs [q] := ⟨fun z => (nomatch z), fun x hx => by rw [List.mem_singleton.mp hx]; exact h, by simp, fun j h => absurd h (by simp)⟩
theorem src_not {R : List Qd} {v : Nat} : (v : Int) ∈ srcI cs R ↔ v ∈ R.map (sQ cs) := by
  unfold srcI
  constructor
  · intro h
    obtain ⟨q, hq, e⟩ := List.mem_map.mp h
    exact List.mem_map.mpr ⟨q, hq, by omega⟩
  · intro h
    obtain ⟨q, hq, e⟩ := List.mem_map.mp h
    exact List.mem_map.mpr ⟨q, hq, by rw [e]⟩
theorem WkI.app {R : List Qd} {q : Qd} (h : WkI cs R) (hq : q.2 < cs.length) (e : sQ cs q = lsQ cs R) (hn : ¬ (lsQ cs R : Int) ∈ srcI cs R) : WkI cs (R ++ [q]) := by
  refine ⟨fun z => by have := congrArg List.length z; simp at this, fun x hx => ?_, ?_, fun j hj => ?_⟩
  · rcases List.mem_append.mp hx with hx | hx
    · exact h.ok x hx
    · rw [List.mem_singleton.mp hx]; exact hq
  · rw [List.map_append]
    refine List.nodup_append.mpr ⟨h.nd, by simp, fun a ha b hb => ?_⟩
    have hb' : b = sQ cs q := by simpa using hb
    subst hb'
    rw [e]
    intro z
    subst z
    exact hn (src_not.mpr ha)
  · rw [List.length_append, List.length_singleton] at hj
    have hpos := List.length_pos_iff.mpr h.ne
    by_cases c : j + 1 < R.length
    · rw [List.getElem_append_left (by omega), List.getElem_append_left c]
      exact h.lk j c
    · have ej : j = R.length - 1 := by omega
      subst ej
      rw [List.getElem_append_left (by omega), List.getElem_append_right (by omega)]
      have : (R[R.length - 1]'(by omega)) = R.getD (R.length - 1) dq := by
        rw [List.getD_eq_getElem?_getD, List.getElem?_eq_getElem (by omega)]; rfl
      rw [this]
      show lsQ cs R = _
      rw [← e]
      congr 1
      simp
theorem ixZ_at {S : List Int} {i : Int} (h : i ∈ S) : S[ixZ S i]'(ixZ_lt h) = i := by
  have hl := ixZ_lt h
  unfold ixZ at hl
  have key : ∀ k, (S.findIdx? fun j => j == i) = some k → ∃ hk : k < S.length, S[k] = i := fun k e => by
    obtain ⟨hk, e1, _⟩ := List.findIdx?_eq_some_iff_getElem.mp e
    exact ⟨hk, by simpa using e1⟩
  cases c : S.findIdx? (fun j => j == i) with
  | some k =>
    obtain ⟨hk, e⟩ := key k c
    have : ixZ S i = k := by unfold ixZ; rw [c]; rfl
    simp only [this]
    exact e
  | none =>
    have := List.findIdx?_eq_none_iff.mp c i h
    simp at this
theorem WkI.ring {R : List Qd} (h : WkI cs R) (hv : (lsQ cs R : Int) ∈ srcI cs R) : RgQ cs (R.drop (ixZ (srcI cs R) (lsQ cs R : Int))) := by
  obtain ⟨k, hk0⟩ : ∃ k, k = ixZ (srcI cs R) (lsQ cs R : Int) := ⟨_, rfl⟩
  have hl : k < (srcI cs R).length := by rw [hk0]; exact ixZ_lt hv
  have hat : (srcI cs R)[k] = (lsQ cs R : Int) := by
    have := ixZ_at hv
    subst hk0
    exact this
  rw [← hk0]
  have hk : k < R.length := by
    unfold srcI at hl
    rw [List.length_map] at hl; exact hl
  have e0 : sQ cs R[k] = lsQ cs R := by
    have : (srcI cs R)[k]? = some ((sQ cs R[k] : Nat) : Int) := by unfold srcI; rw [List.getElem?_map, List.getElem?_eq_getElem hk]; rfl
    rw [List.getElem?_eq_getElem hl, hat] at this
    have := Option.some.inj this
    omega
  have hlen : (R.drop k).length = R.length - k := List.length_drop ..
  have h0 : 0 < (R.drop k).length := by omega
  refine ⟨fun z => by rw [z] at h0; exact absurd h0 (Nat.lt_irrefl 0), fun q hq => h.ok q (List.mem_of_mem_drop hq), ?_, ?_⟩
  · refine ⟨lsQ cs R, PthQ.of_link h0 ?_ (fun j hj => ?_) ?_⟩
    · rw [List.getElem_drop]
      exact e0
    · rw [List.getElem_drop, List.getElem_drop]
      exact h.lk (k + j) (by omega)
    · rw [List.getElem_drop]
      have : (R[k + ((R.drop k).length - 1)]'(by omega)) = R.getD (R.length - 1) dq := by
        rw [List.getD_eq_getElem?_getD, List.getElem?_eq_getElem (by omega)]
        show _ = R[R.length - 1]
        congr 1
        omega
      rw [this]; rfl
  · rw [List.map_drop]
    exact h.nd.sublist (List.drop_sublist _ _)
theorem drB_ok {o : Po} {P : List PV} {Wl : List Qd} {hb : Int} {s5 s6 s7 s8 s9 : Sl} (W : WN ms cs) (hP : CrL P) (hI : WkI cs Wl) (hwl : Wl.length ≤ 200) (f6 : fre s6) (f7 : fre s7) (f8 : fre s8) (f9 : fre s9)
    (hr : ∀ P' R f, CrL P' → RgQ cs R → R.length ≤ 200 → o.rt (.pv (rgP cs R)) (.pr (.pl P') :: .ow (.pv (netP ms cs)) :: f))
    (h : ∀ P' q s6 s7 s8 s9, CrL P' → WkI cs (Wl ++ [q]) → fre s6 → fre s7 → fre s8 → fre s9 → o.nx (drF P' ms cs (Wl ++ [q]) hb s5 s6 s7 s8 s9)) :
    wS (drB (drF P ms cs Wl hb s5 s6 s7 s8 s9)) o := by
  have top_caught := W.c1
  have hO := hI.ok
  have hne := hI.ne
  have hid : ∀ q : Qd, idP cs q = .tup [.str (nmQ q.1), .int q.2, .int (sQ cs q), .int (tQ cs q)] := fun _ => rfl
  have elw : (Wl.map (idP cs)).length = Wl.length := List.length_map _
  have hlo : (Wl.getD (Wl.length - 1) dq).2 < cs.length := hO _ (last_mem hne)
  obtain ⟨v, hv⟩ : ∃ v, v = lsQ cs Wl := ⟨_, rfl⟩
  have ev : tQ cs (Wl.getD (Wl.length - 1) dq) = v := hv.symm
  unfold drB drF
  top_name
  refine ⟨_, _, lcF_pure (fr := [.pr (.pl P), .ow (.pv (netP ms cs)), .ow (.pv (.lst ((laK cs.length).map (idP cs)))), .no, .ow (.pv (.int hb)), s5, s6, s7, s8, s9, .no, .no]) (fun _ => true) (fun p => .int (sQ cs (dec p))) (Wl.map (idP cs)) (fun z hz => ?_), ?_, rfl, ?_⟩
  · obtain ⟨q, hq, rfl⟩ := List.mem_map.mp hz
    refine ⟨_, gtN_at rfl fre_no, rfl, fun _ => wE_val ?_, rfl, rfl⟩
    rw [dec_id, hid]
    top_name
  · rw [src_map]
    exact le_sz (by unfold srcI; rw [List.length_map, List.length_map]; omega)
  · rw [src_map]
    refine ⟨_, rfl, fre_at (f := [.pr (.pl P), .ow (.pv (netP ms cs)), .ow (.pv (.lst ((laK cs.length).map (idP cs)))), .ow (.pl (Wl.map (idP cs))), .ow (.pv (.int hb)), s5, s6, s7, s8, s9, .no, .no]) rfl f6, ?_⟩
    show wS (drG (drF P ms cs Wl hb s5 (.ow (.pv (.lst ((srcI cs Wl).map PV.int)))) s7 s8 s9)) o
    unfold drG drF
    top_name
    rw [elw]
    refine w_ixL (rg_last hne) ?_
    rw [hid, ev]
    top_name
    refine ⟨_, inZ _ _, ?_⟩
    by_cases hin : (v : Int) ∈ srcI cs Wl
    · rw [decide_eq_true hin]
      top_name
      refine w_slL rfl ?_
      top_name
      refine ⟨_, ixZ_ok hin, ?_⟩
      top_name
      have hlt := ixZ_lt hin
      unfold srcI at hlt
      rw [List.length_map] at hlt
      rw [cut_from, ← List.map_drop]
      exact hr P (Wl.drop (ixZ (srcI cs Wl) (v : Int))) _ hP (by subst hv; exact hI.ring hin) (by rw [List.length_drop]; omega)
    · rw [decide_eq_false hin]
      top_name
      refine ⟨_, _, lcF_pure (fr := [.pr (.pl P), .ow (.pv (netP ms cs)), .ow (.pv (.lst ((laK cs.length).map (idP cs)))), .ow (.pl (Wl.map (idP cs))), .ow (.pv (.int hb)), s5, .ow (.pv (.lst ((srcI cs Wl).map PV.int))), .ow (.pv (.int (v : Int))), s8, s9, .no, .no]) (fun p => decide (sQ cs (dec p) = v)) (fun p => p) ((laK cs.length).map (idP cs)) (fun z hz => ?_), ?_, ?_⟩
      · obtain ⟨q, hq, rfl⟩ := List.mem_map.mp hz
        refine ⟨_, gtN_at rfl fre_no, wE_val ?_, fun _ => wE_val ?_, rfl, rfl⟩
        · rw [dec_id, hid]
          top_name
          refine ⟨?_, trivial⟩
          exact decide_eq_decide.mpr (by omega)
        · top_name
      · rw [flt_map (fun q => decide (sQ cs q = v))]
        have := List.length_filter_le (fun q => decide (sQ cs q = v)) (laK cs.length)
        rw [laK_len] at this
        exact le_sz (by rw [List.length_map]; omega)
      · rw [flt_map (fun q => decide (sQ cs q = v))]
        refine ⟨_, rfl, fre_at (f := drF P ms cs Wl hb s5 (.ow (.pv (.lst ((srcI cs Wl).map PV.int)))) (.ow (.pv (.int (v : Int)))) s8 s9) rfl f8, ?_⟩
        have hfl := List.length_filter_le (fun q => decide (sQ cs q = v)) (laK cs.length)
        rw [laK_len] at hfl
        show wS (drC (drF P ms cs Wl hb s5 (.ow (.pv (.lst ((srcI cs Wl).map PV.int)))) (.ow (.pv (.int (v : Int)))) (.ow (.pv (.lst (((laK cs.length).filter fun q => decide (sQ cs q = v)).map (idP cs))))) s9)) o
        refine drC_ok (G := fun q => q.2 < cs.length ∧ sQ cs q = v) hP hne (by omega) ?_ (fun q hq => ⟨laK_mem.mp (List.mem_filter.mp hq).1, of_decide_eq_true (List.mem_filter.mp hq).2⟩) (by omega) f9 fun P' q s8 s9 hP' hq f8 f9 => ?_
        · refine List.length_pos_of_mem (a := (!(Wl.getD (Wl.length - 1) dq).1, (Wl.getD (Wl.length - 1) dq).2)) (List.mem_filter.mpr ⟨laK_mem.mpr hlo, decide_eq_true ?_⟩)
          rw [flip_src, ev]
        · exact h P' q _ _ s8 s9 hP' (hI.app hq.1 (hq.2.trans hv) (by rw [← hv]; exact hin)) (fre_ow (.pv (.lst ((srcI cs Wl).map PV.int)))) (fre_ow (.pv (.int (v : Int)))) f8 f9
theorem w_drawn {P : List PV} (W : WN ms cs) (hP : CrL P) (h1 : ∀ P', CrL P' → Q (.pv .non) [.pl P', .pv (netP ms cs)]) (h2 : ∀ P' R, CrL P' → RgQ cs R → R.length ≤ 200 → Q (.pv (rgP cs R)) [.pl P', .pv (netP ms cs)]) :
    wF (g__law_drawn_ring [.pl P, .pv (netP ms cs)]) E Q := by
  have hn : netP ms cs = .tup [.tup ms, .tup (cs.map chP)] := rfl
  have top_caught := W.c1
  have m1 := W.m1
  have ela : ((laK cs.length).map (idP cs)).length = (laK cs.length).length := List.length_map _
  have ela2 : (laK cs.length).length = 2 * cs.length := laK_len _
  refine w_runB ?_
  show wS (s__law_drawn_ring [.pr (.pl P), .ow (.pv (netP ms cs)), .no, .no, .no, .no, .no, .no, .no, .no, .no, .no]) _
  rw [dr_eq]
  top_name
  refine w_larcs W.c1 ?_
  top_name
  refine ⟨_, _, lcF_pure (fr := [.pr (.pl P), .ow (.pv (netP ms cs)), .no, .no, .no, .no, .no, .no, .no, .no, .no, .no]) (fun _ => true) adF ((laK cs.length).map (adP cs)) (fun z hz => ?_), ?_, ?_⟩
  · obtain ⟨q, hq, rfl⟩ := List.mem_map.mp hz
    refine ⟨_, gt2_at rfl fre_no rfl fre_no, rfl, fun _ => wE_val ?_, rfl, rfl⟩
    top_name
  · rw [ad_map]
    exact le_sz (by rw [ela]; omega)
  · rw [ad_map]
    refine ⟨_, rfl, rfl, ?_⟩
    show wS (drE [.pr (.pl P), .ow (.pv (netP ms cs)), .ow (.pv (.lst ((laK cs.length).map (idP cs)))), .no, .no, .no, .no, .no, .no, .no, .no, .no]) _
    unfold drE
    top_name
    rw [ela]
    refine br_d (fun hz => ?_) fun hz => ?_
    · top_name
      exact h1 P hP
    · top_name
      rw [ela]
      refine w_spin hP (by omega) (by omega) fun v P2 a2 b2 hP2 => ?_
      top_name
      obtain ⟨q, eq, hq⟩ := ids_mem (cs := cs) (N := laK cs.length) a2 b2
      refine w_ixL eq ?_
      top_name
      refine w_spin hP2 (by decide) (by decide) fun hb P3 a3 b3 hP3 => ?_
      rw [hn]
      top_name
      rw [← hn]
      refine w_forL (b := drB) (fun i f => ∃ P' Wl s5 s6 s7 s8 s9, CrL P' ∧ WkI cs Wl ∧ Wl.length = i + 1 ∧ fre s5 ∧ fre s6 ∧ fre s7 ∧ fre s8 ∧ fre s9 ∧ f = drF P' ms cs Wl hb s5 s6 s7 s8 s9) (rgPs 0 ms.length) 0 _ ⟨P3, [q], .no, .no, .no, .no, .no, hP3, WkI.one (laK_mem.mp hq), rfl, fre_no, fre_no, fre_no, fre_no, fre_no, rfl⟩ (fun i p f hp ⟨P', Wl, s5, s6, s7, s8, s9, hP', hO, hl, f5, f6, f7, f8, f9, hf⟩ => ?_) fun f ⟨P', Wl, s5, s6, s7, s8, s9, hP', hO, hl, f5, f6, f7, f8, f9, hf⟩ => ?_
      · subst hf
        obtain ⟨hi, rfl⟩ := rgPs_get hp
        rw [Nat.zero_add] at *
        refine ⟨_, gtN_at rfl f5, ?_⟩
        refine drB_ok W hP' hO (by omega) f6 f7 f8 f9 (fun P2 R f hP2 hR hl => ⟨_, rfl, h2 P2 R hP2 hR hl⟩) fun P2 q s6 s7 s8 s9 hP2 hq f6 f7 f8 f9 => ?_
        exact ⟨P2, Wl ++ [q], _, s6, s7, s8, s9, hP2, hq, by rw [List.length_append, hl]; rfl, fre_ow (.pv (.int (i : Int))), f6, f7, f8, f9, rfl⟩
      · subst hf
        unfold drF
        top_name
        exact h1 P' hP'
end K13
end Sm

namespace Sm
namespace K13
open PySem L2
variable {E : Ex → List MV → Prop} {Q : MV → List MV → Prop} {ms : List PV} {cs : List Ch} {sl : List Int}
theorem cutP_sub {ps : List PV} {l h : Option Int} {x : PV} (hx : x ∈ cutP ps l h) : x ∈ ps := by
  unfold cutP at hx
  exact List.mem_of_mem_drop (List.mem_of_mem_take hx)
theorem cutP_le (ps : List PV) (l h : Option Int) : (cutP ps l h).length ≤ ps.length := by
  unfold cutP
  rw [List.length_take, List.length_drop]
  omega
theorem w_revV {i : Nat} {ps : List PV} {E : Ex → Fr → Prop} {fr : Fr} {Q : MV → Fr → Prop} (e : eV i fr = .ok (.pv (.tup ps)) fr) (h : Q (.pv (.tup ps.reverse)) fr) : wE (eRev (eV i) (eNeg (eC (.int 1))) fr) E Q := by
  unfold eRev
  rw [e]
  with_unfolding_all exact h
def IG (x : PV) : Prop := da2 x = true ∧ SokA x
theorem OkP.of {l : List PV} (h : ∀ x ∈ l, IG x) (hl : l.length ≤ 900) : OkP (.tup l) := ⟨da2s_iff.mpr fun x hx => (h x hx).1, fun l' e x hx => by cases e; exact (h x hx).2, fun l' e => by cases e; exact hl⟩
theorem IG.tup {l : List PV} (h : ∀ x ∈ l, da2 x = true ∧ sok x = true) : IG (.tup l) := ⟨da2s_iff.mpr fun x hx => (h x hx).1, fun l' e x hx => by cases e; exact (h x hx).2⟩
theorem IG.id (q : Qd) : IG (idP cs q) := IG.tup fun x hx => by
  simp only [List.mem_cons, List.not_mem_nil, or_false] at hx
  rcases hx with rfl | rfl | rfl | rfl
  · exact ⟨rfl, strOk_nm q.1⟩
  all_goals exact ⟨rfl, rfl⟩
theorem IG.non : IG .non := ⟨rfl, fun l z => nomatch z⟩
theorem IG.lst (l : List PV) : IG (.lst l) := ⟨rfl, fun l z => nomatch z⟩
/-- the bent arcs' texts are texts -/
theorem up_ok (b : Bool) : PyData.strOk (Txt.upper (nmQ b)) = true := by cases b <;> decide +kernel
theorem up_len (b : Bool) : (nmQ b).length ≤ 5592405 := by cases b <;> decide +kernel
theorem gUp_nm (b : Bool) : gUp (.pv (.str (nmQ b))) = some (.str (Txt.upper (nmQ b))) := by
  show (if (nmQ b).length ≤ 5592405 then some (PV.str (Txt.upper (nmQ b))) else none) = _
  rw [if_pos (up_len b)]
theorem okp_rg {R : List Qd} (hl : R.length ≤ 200) : OkP (rgP cs R) := OkP.of (fun x hx => by
  obtain ⟨q, _, rfl⟩ := List.mem_map.mp hx
  exact IG.id q) (by rw [List.length_map]; omega)
def bnE : Fr → SO := (sSeq (sSet 10 (eCatL 10 (eLst (aCons (eFz (eN1 gList (eV 2))) (aCons (eSl (eV 2) (some (eC (.int 1))) none) (aCons (eBin gAdd (eV 2) (eV 2)) (aCons (eBin gAdd (eSl (eV 2) (some (eV 3)) none) (eSl (eV 2) none (some (eV 3)))) (aCons (eRev (eV 2) (eNeg (eC (.int 1)))) (aCons (eTup aNil) (aCons (eC .non) (aCons (eV 4) (aCons (eBin gAdd (eBin gAdd (eSl (eV 2) none (some (eV 3))) (eTup (aCons (eV 4) aNil))) (eSl (eV 2) (some (eV 3)) none)) (aCons (eTup (aCons (eV 2) aNil)) (aCons (eC (.str "ring")) aNil))))))))))))))
  (sRet (eIxL 10 (eCallB 2 g__law_spin (bName 0 (bVal (eB1S gLen 10) bNil))))))
def bnD : Fr → SO := (sSeq (sSet 10 (eLcM true 8 [14] (gtN 14) (fun fr => .ok true fr) (eBin gAdd (eBin gAdd (eSl (eV 2) none (some (eV 3))) (eTup (aCons (eV 14) aNil))) (eSl (eV 2) (some (eBin gAdd (eV 3) (eC (.int 1)))) none)))) bnE)
def bnL : Fr → O MV := (eBin gAdd (eBin gAdd (eSl (eV 4) none (some (eV 9))) (eTup (aCons (eIx (eV 6) (eCallB 2 g__law_spin (bName 0 (bVal (eB1 gLen (eV 6)) bNil)))) aNil))) (eSl (eV 4) (some (eBin gAdd (eV 9) (eC (.int 1)))) none))
def bnC : Fr → SO := (sSeq (sSet 9 (eBin gAdd (eC (.int 1)) (eCallB 2 g__law_spin (bName 0 (bVal (eC (.int 3)) bNil)))))
  (sSeq (sSet 8 (eCatL 8 (eLc true [13] (eBu gRange (aCons (eC (.int 4)) aNil)) (gtN 13) (fun fr => .ok true fr) bnL))) bnD))
def bnB : Fr → SO := (sSeq (sSet 8 (eCatL 8 (eLst (aCons (eBin gAdd (eSl (eV 4) none (some (eC (.int 2)))) (eTup (aCons (eIx (eV 4) (eC (.int 3))) (aCons (eIx (eV 4) (eC (.int 2))) aNil)))) (aCons (eIx (eV 7) (eCallB 2 g__law_spin (bName 0 (bVal (eB1 gLen (eV 7)) bNil)))) aNil))))) bnC)
def bnA : Fr → SO := (sSeq (sSet 8 (eLst (aCons (eFz (eN1 gList (eV 4))) (aCons (eSl (eV 4) none (some (eC (.int 3)))) (aCons (eBin gAdd (eV 4) (eTup (aCons (eC (.int 0)) aNil))) (aCons (eBin gAdd (eTup (aCons (eB1 gUp (eIx (eV 4) (eC (.int 0)))) aNil)) (eSl (eV 4) (some (eC (.int 1))) none)) (aCons (eBin gAdd (eTup (aCons (eIx (eFz (eLst (aCons (eC (.str "along")) (aCons (eC (.str "against")) aNil)))) (eBu gInt (aCons (eBin gEq (eIx (eV 4) (eC (.int 0))) (eC (.str "along"))) aNil))) aNil)) (eSl (eV 4) (some (eC (.int 1))) none)) (aCons (eC .non) aNil)))))))) bnB)
theorem bn_eq : s__law_bent_ring = (sSeq (sSet 3 (eCallB 2 g__law_spin (bName 0 (bVal (eB1 gLen (eV 2)) bNil))))
  (sSeq (sSet 4 (eIx (eV 2) (eV 3)))
  (sSeq (sSet 5 (eB1 gLen (eIx (eV 1) (eC (.int 1)))))
  (sSeq (sSet 6 (eFz (eLst (aCons (eC .non) (aCons (eC (.bl true)) (aCons (eNeg (eC (.int 1))) (aCons (eC (.int 0)) (aCons (eC (.int 1)) (aCons (eV 5) (aCons (eC (.str "0")) (aCons (eBin gPow (eC (.int 10)) (eC (.int 59))) (aCons (eIx (eV 4) (eC (.int 2))) (aCons (eIx (eV 4) (eC (.int 3))) aNil)))))))))))))
  (sSeq (sSetF 7 (eLc true [11, 12] (eCallP 1 g__law_arcs (aCons (eV 1) aNil)) (gtT 2 (gsCons (gtN 11) (gsCons (gtN 12) gsNil))) (fun fr => .ok true fr) (eV 11))) bnA))))) := rfl
def bnF (P : List PV) (ms : List PV) (cs : List Ch) (L : List PV) (k : Nat) (q : Qd) (D : List PV) (s8 s9 s10 : Sl) : Fr := [.pr (.pl P), .ow (.pv (netP ms cs)), .ow (.pv (.tup L)), .ow (.pv (.int (k : Int))), .ow (.pv (idP cs q)), .ow (.pv (.int (cs.length : Int))), .ow (.pv (.lst D)), .ow (.pv (.lst ((laK cs.length).map (idP cs)))), s8, s9, s10, .no, .no, .no, .no]
/-- what may stand in a row of arcs -/
def Fl (x : PV) : Prop := da2 x = true ∧ sok x = true
theorem Fl.id (q : Qd) : ∀ x ∈ idL cs q, Fl x := fun x hx => by
  simp only [idL, List.mem_cons, List.not_mem_nil, or_false] at hx
  rcases hx with rfl | rfl | rfl | rfl
  · exact ⟨rfl, strOk_nm q.1⟩
  all_goals exact ⟨rfl, rfl⟩
theorem IG.fl {l : List PV} (h : ∀ x ∈ l, Fl x) : IG (.tup l) := IG.tup h
theorem fl_app {a b : List PV} (ha : ∀ x ∈ a, Fl x) (hb : ∀ x ∈ b, Fl x) : ∀ x ∈ a ++ b, Fl x := fun x hx => (List.mem_append.mp hx).elim (ha x) (hb x)
theorem fl_cut {a : List PV} {lo hi : Option Int} (ha : ∀ x ∈ a, Fl x) : ∀ x ∈ cutP a lo hi, Fl x := fun x hx => ha x (cutP_sub hx)
theorem ig_app {a b : List PV} (ha : ∀ x ∈ a, IG x) (hb : ∀ x ∈ b, IG x) : ∀ x ∈ a ++ b, IG x := fun x hx => (List.mem_append.mp hx).elim (ha x) (hb x)
theorem ig_cut {a : List PV} {lo hi : Option Int} (ha : ∀ x ∈ a, IG x) : ∀ x ∈ cutP a lo hi, IG x := fun x hx => ha x (cutP_sub hx)
theorem pl_mem {X : List PV} {i : Int} (h0 : 0 ≤ i) (h1 : i < X.length) : ∃ p, atI X i = some p ∧ p ∈ X := by
  obtain ⟨n, rfl⟩ : ∃ n : Nat, i = (n : Int) := ⟨i.toNat, by omega⟩
  have hn : n < X.length := by omega
  exact ⟨X[n], atI_nat (List.getElem?_eq_getElem hn), List.getElem_mem hn⟩
theorem bnE_ok {o : Po} {P L T D : List PV} {k : Nat} {q : Qd} {s8 s9 : Sl} (hP : CrL P) (hL : ∀ x ∈ L, IG x) (hLs : ∀ x ∈ L, sok x = true) (hl : L.length ≤ 200) (hT : ∀ p ∈ T, OkP p) (hTl : T.length ≤ 100)
    (h : ∀ P' p f, CrL P' → OkP p → o.rt (.pv p) (.pr (.pl P') :: .ow (.pv (netP ms cs)) :: .ow (.pv (.tup L)) :: f)) :
    wS (bnE (bnF P ms cs L k q D s8 s9 (.ow (.pl T)))) o := by
  have c0 : ∀ a b, (cutP L a b).length ≤ L.length := fun a b => cutP_le L a b
  have q1 := c0 (some (k : Int)) none
  have q2 := c0 none (some (k : Int))
  have q3 := c0 (some 1) none
  have ok : ∀ l : List PV, (∀ x ∈ l, IG x) → l.length ≤ 900 → OkP (.tup l) := fun l h1 h2 => OkP.of h1 h2
  have okl : ∀ l : List PV, OkP (.lst l) := fun l => ⟨rfl, fun l z => (nomatch z), fun l z => (nomatch z)⟩
  unfold bnE bnF
  top_name
  refine w_addT (le_sz (by omega)) ?_
  top_name
  refine w_addT (le_sz (by omega)) ?_
  top_name
  refine w_revV rfl ?_
  top_name
  refine w_addT (le_sz (by show _ + 1 ≤ _; omega)) ?_
  top_name
  refine w_addT (le_sz (by rw [List.length_append]; show _ + 1 + _ ≤ _; omega)) ?_
  top_name
  have hU : ∀ p ∈ [PV.lst L, PV.tup (cutP L (some 1) none), PV.tup (L ++ L), PV.tup (cutP L (some (k : Int)) none ++ cutP L none (some (k : Int))), PV.tup L.reverse, PV.tup [], PV.non, idP cs q, PV.tup (cutP L none (some (k : Int)) ++ [idP cs q] ++ cutP L (some (k : Int)) none), PV.tup [PV.tup L], PV.str "ring"], OkP p := fun p hp => by
    simp only [List.mem_cons, List.not_mem_nil, or_false] at hp
    rcases hp with rfl | rfl | rfl | rfl | rfl | rfl | rfl | rfl | rfl | rfl | rfl
    · exact okl _
    · exact ok _ (ig_cut hL) (by omega)
    · exact ok _ (ig_app hL hL) (by rw [List.length_append]; omega)
    · exact ok _ (ig_app (ig_cut hL) (ig_cut hL)) (by rw [List.length_append]; omega)
    · exact ok _ (fun x hx => hL x (List.mem_reverse.mp hx)) (by rw [List.length_reverse]; omega)
    · exact ok _ (fun x hx => nomatch hx) (by decide)
    · exact ⟨rfl, fun l z => (nomatch z), fun l z => (nomatch z)⟩
    · exact ok (idL cs q) (fun x hx => ⟨(Fl.id q x hx).1, fun l e => by
        simp only [idL, List.mem_cons, List.not_mem_nil, or_false] at hx
        rcases hx with rfl | rfl | rfl | rfl <;> cases e⟩) (by show 4 ≤ 900; decide)
    · refine ok _ (ig_app (ig_app (ig_cut hL) fun x hx => ?_) (ig_cut hL)) (by rw [List.length_append, List.length_append, List.length_singleton]; omega)
      rw [List.mem_singleton.mp hx]; exact IG.id q
    · refine ok _ (fun x hx => ?_) (by show 1 ≤ 900; decide)
      rw [List.mem_singleton.mp hx]
      exact IG.tup fun x hx => ⟨(hL x hx).1, hLs x hx⟩
    · exact ⟨rfl, fun l z => (nomatch z), fun l z => (nomatch z)⟩
  refine ⟨le_sz (by show T.length + 11 ≤ _; omega), rfl, ?_⟩
  have hUl : ([PV.lst L, PV.tup (cutP L (some 1) none), PV.tup (L ++ L), PV.tup (cutP L (some (k : Int)) none ++ cutP L none (some (k : Int))), PV.tup L.reverse, PV.tup [], PV.non, idP cs q, PV.tup (cutP L none (some (k : Int)) ++ [idP cs q] ++ cutP L (some (k : Int)) none), PV.tup [PV.tup L], PV.str "ring"]).length = 11 := rfl
  generalize [PV.lst L, PV.tup (cutP L (some 1) none), PV.tup (L ++ L), PV.tup (cutP L (some (k : Int)) none ++ cutP L none (some (k : Int))), PV.tup L.reverse, PV.tup [], PV.non, idP cs q, PV.tup (cutP L none (some (k : Int)) ++ [idP cs q] ++ cutP L (some (k : Int)) none), PV.tup [PV.tup L], PV.str "ring"] = U at hU hUl
  have elu : (T ++ U).length = T.length + 11 := by rw [List.length_append, hUl]
  top_name
  rw [elu]
  refine w_spin hP (by omega) (by omega) fun v P2 a2 b2 hP2 => ?_
  obtain ⟨p, ep, hp⟩ := pl_mem (X := T ++ U) a2 (by rw [elu]; exact b2)
  top_name
  refine w_ixL ep ?_
  top_name
  exact h P2 p _ hP2 ((List.mem_append.mp hp).elim (hT p) (hU p))
theorem bnD_ok {o : Po} {P L O D : List PV} {k : Nat} {q : Qd} {s9 s10 : Sl} (hP : CrL P) (hL : ∀ x ∈ L, IG x) (hLs : ∀ x ∈ L, sok x = true) (hl : L.length ≤ 200) (hO : ∀ x ∈ O, IG x) (hOl : O.length ≤ 100) (f10 : fre s10)
    (h : ∀ P' p f, CrL P' → OkP p → o.rt (.pv p) (.pr (.pl P') :: .ow (.pv (netP ms cs)) :: .ow (.pv (.tup L)) :: f)) :
    wS (bnD (bnF P ms cs L k q D (.ow (.pl O)) s9 s10)) o := by
  have c0 : ∀ a b, (cutP L a b).length ≤ L.length := fun a b => cutP_le L a b
  have q1 := c0 (some ((k : Int) + 1)) none
  have q2 := c0 none (some (k : Int))
  unfold bnD bnF
  top_name
  refine ⟨_, _, lcF_pure (fr := [.pr (.pl P), .ow (.pv (netP ms cs)), .ow (.pv (.tup L)), .ow (.pv (.int (k : Int))), .ow (.pv (idP cs q)), .ow (.pv (.int (cs.length : Int))), .ow (.pv (.lst D)), .ow (.pv (.lst ((laK cs.length).map (idP cs)))), .no, s9, s10, .no, .no, .no, .no]) (fun _ => true) (fun p => PV.tup (cutP L none (some (k : Int)) ++ [p] ++ cutP L (some ((k : Int) + 1)) none)) O (fun z hz => ?_), ?_, rfl, ?_⟩
  · refine ⟨_, gtN_at rfl fre_no, rfl, fun _ => wE_val ?_, rfl, rfl⟩
    top_name
    refine w_addT (le_sz (by show _ + 1 ≤ _; omega)) ?_
    top_name
    refine w_addT (le_sz (by rw [List.length_append]; show _ + 1 + _ ≤ _; omega)) ?_
    top_name
  · rw [List.filter_eq_self.mpr fun _ _ => rfl]
    exact le_sz (by rw [List.length_map]; omega)
  · rw [List.filter_eq_self.mpr fun _ _ => rfl]
    refine ⟨fre_at (f := bnF P ms cs L k q D (.ow (.pl O)) s9 s10) rfl f10, ?_⟩
    show wS (bnE (bnF P ms cs L k q D (.ow (.pl O)) s9 (.ow (.pl (O.map fun p => PV.tup (cutP L none (some (k : Int)) ++ [p] ++ cutP L (some ((k : Int) + 1)) none)))))) o
    refine bnE_ok hP hL hLs hl (fun p hp => ?_) (by rw [List.length_map]; exact hOl) h
    obtain ⟨x, hx, rfl⟩ := List.mem_map.mp hp
    refine OkP.of (ig_app (ig_app (ig_cut hL) fun y hy => ?_) (ig_cut hL)) (by rw [List.length_append, List.length_append, List.length_singleton]; omega)
    rw [List.mem_singleton.mp hy]; exact hO x hx
end K13
end Sm

namespace Sm
namespace K13
open PySem L2
variable {E : Ex → List MV → Prop} {Q : MV → List MV → Prop} {ms : List PV} {cs : List Ch} {sl : List Int}
theorem bnC_ok {o : Po} {P L O D : List PV} {k : Nat} {q : Qd} (hP : CrL P) (hL : ∀ x ∈ L, IG x) (hLs : ∀ x ∈ L, sok x = true) (hl : L.length ≤ 200) (hO : ∀ x ∈ O, IG x) (hOl : O.length ≤ 50) (hD : ∀ x ∈ D, Fl x) (hD0 : 0 < D.length) (hDl : D.length ≤ 100)
    (h : ∀ P' p f, CrL P' → OkP p → o.rt (.pv p) (.pr (.pl P') :: .ow (.pv (netP ms cs)) :: .ow (.pv (.tup L)) :: f)) :
    wS (bnC (bnF P ms cs L k q D (.ow (.pl O)) .no .no)) o := by
  unfold bnC bnF
  top_name
  refine w_spin hP (by decide) (by decide) fun w P1 a1 b1 hP1 => ?_
  top_name
  obtain ⟨qs, f', e, ⟨P', hP', hf, hq, hql⟩, hlen⟩ := w_lcF (vs := [13]) (t := gtN 13) (tst := fun fr => .ok true fr) (el := bnL) (fun i pre f => ∃ P', CrL P' ∧ f = bnF P' ms cs L k q D (.ow (.pl O)) (.ow (.pv (.int (1 + w)))) .no ∧ (∀ x ∈ pre, IG x) ∧ pre.length = i)
    (rgPs 0 4) 0 [] (bnF P1 ms cs L k q D (.ow (.pl O)) (.ow (.pv (.int (1 + w)))) .no) ⟨P1, hP1, rfl, fun x hx => (nomatch hx), rfl⟩ (fun i p pre f hp ⟨P', hP', hf, hq, hql⟩ => by
      subst hf
      have hid : idP cs q = .tup (idL cs q) := rfl
      have c0 : ∀ a b, (cutP (idL cs q) a b).length ≤ 4 := fun a b => cutP_le (idL cs q) a b
      have q1 := c0 none (some (1 + w))
      have q2 := c0 (some (1 + w + 1)) none
      obtain ⟨_, rfl⟩ := rgPs_get hp
      refine ⟨_, gtN_at rfl fre_no, ?_⟩
      unfold bnL bnF
      rw [hid]
      top_name
      refine w_spin hP' (by omega) (by omega) fun v P2 a2 b2 hP2 => ?_
      top_name
      obtain ⟨d, ed, hd⟩ := pl_mem (X := D) a2 b2
      refine w_ixL ed ?_
      top_name
      refine w_addT (le_sz (by show _ + 1 ≤ _; omega)) ?_
      top_name
      refine w_addT (le_sz (by rw [List.length_append]; show _ + 1 + _ ≤ _; omega)) ?_
      top_name
      refine ⟨P2, hP2, rfl, fun x hx => ?_, by rw [List.length_append, hql]; rfl⟩
      rcases List.mem_append.mp hx with hx | hx
      · exact hq x hx
      · rw [List.mem_singleton.mp hx]
        refine IG.fl (fl_app (fl_app (fl_cut (Fl.id q)) fun y hy => ?_) (fl_cut (Fl.id q)))
        rw [List.mem_singleton.mp hy]; exact hD d hd)
  have h4 : (rgPs 0 4).length = 4 := rfl
  rw [h4] at hlen hql
  rw [List.nil_append] at hq hql
  subst hf
  refine ⟨qs, _, e, le_sz (by omega), ?_⟩
  top_name
  refine ⟨le_sz (by omega), rfl, ?_⟩
  show wS (bnD (bnF P' ms cs L k q D (.ow (.pl (O ++ qs))) (.ow (.pv (.int (1 + w)))) .no)) o
  exact bnD_ok hP' hL hLs hl (ig_app hO hq) (by rw [List.length_append]; omega) fre_no h
theorem bnB_ok {o : Po} {P L O D : List PV} {k : Nat} {q : Qd} (hc : cs.length ≤ 200) (hc0 : 0 < cs.length) (hP : CrL P) (hL : ∀ x ∈ L, IG x) (hLs : ∀ x ∈ L, sok x = true) (hl : L.length ≤ 200) (hO : ∀ x ∈ O, IG x) (hOl : O.length ≤ 40) (hD : ∀ x ∈ D, Fl x) (hD0 : 0 < D.length) (hDl : D.length ≤ 100)
    (h : ∀ P' p f, CrL P' → OkP p → o.rt (.pv p) (.pr (.pl P') :: .ow (.pv (netP ms cs)) :: .ow (.pv (.tup L)) :: f)) :
    wS (bnB (bnF P ms cs L k q D (.ow (.pl O)) .no .no)) o := by
  have hid : idP cs q = .tup (idL cs q) := rfl
  have ela : ((laK cs.length).map (idP cs)).length = 2 * cs.length := by rw [List.length_map, laK_len]
  have ela2 : (laK cs.length).length = 2 * cs.length := laK_len _
  have q1 := cutP_le (idL cs q) none (some 2)
  have q0 : (idL cs q).length = 4 := rfl
  unfold bnB bnF
  rw [hid]
  top_name
  have e3 : atI (idL cs q) 3 = some (.int (tQ cs q : Int)) := rfl
  have e2 : atI (idL cs q) 2 = some (.int (sQ cs q : Int)) := rfl
  rw [ela]
  refine w_spin hP (by omega) (by omega) fun v P2 a2 b2 hP2 => ?_
  top_name
  obtain ⟨q2, eq, hq⟩ := ids_mem (cs := cs) (N := laK cs.length) a2 (by rw [ela2]; exact b2)
  refine w_ixL eq ?_
  top_name
  refine ⟨le_sz (by show O.length + 2 ≤ _; omega), ?_⟩
  refine ⟨rfl, ?_⟩
  refine bnC_ok (k := k) (q := q) hP2 hL hLs hl (ig_app hO fun x hx => ?_) ?_ hD hD0 hDl h
  case refine_2 =>
    rw [List.length_append]
    show O.length + 2 ≤ 50
    omega
  simp only [List.mem_cons, List.not_mem_nil, or_false] at hx
  rcases hx with rfl | rfl
  · refine IG.fl (fl_app (fl_cut (Fl.id q)) fun y hy => ?_)
    simp only [List.mem_cons, List.not_mem_nil, or_false] at hy
    rcases hy with rfl | rfl <;> exact ⟨rfl, rfl⟩
  · exact IG.id q2
theorem bnA_ok {o : Po} {P L D : List PV} {k : Nat} {q : Qd} (hc : cs.length ≤ 200) (hc0 : 0 < cs.length) (hP : CrL P) (hL : ∀ x ∈ L, IG x) (hLs : ∀ x ∈ L, sok x = true) (hl : L.length ≤ 200) (hD : ∀ x ∈ D, Fl x) (hD0 : 0 < D.length) (hDl : D.length ≤ 100)
    (h : ∀ P' p f, CrL P' → OkP p → o.rt (.pv p) (.pr (.pl P') :: .ow (.pv (netP ms cs)) :: .ow (.pv (.tup L)) :: f)) :
    wS (bnA (bnF P ms cs L k q D .no .no .no)) o := by
  have hid : idP cs q = .tup (idL cs q) := rfl
  have q1 := cutP_le (idL cs q) (some 1) none
  have q0 : (idL cs q).length = 4 := rfl
  have e0 : atI (idL cs q) 0 = some (.str (nmQ q.1)) := rfl
  unfold bnA bnF
  rw [hid]
  top_name
  refine w_opO (gUp_nm q.1) ?_
  top_name
  obtain ⟨s, es, hs⟩ := strs_mem [("along" : Str), ("against" : Str)] (i := if decide (nmQ q.1 = ("along" : Str)) = true then 1 else 0) (by split <;> decide) (by split <;> decide)
  have hso : PyData.strOk s = true := by
    simp only [List.mem_cons, List.not_mem_nil, or_false] at hs
    rcases hs with rfl | rfl
    · exact strOk_nm true
    · exact strOk_nm false
  refine w_ixL es ?_
  top_name
  refine bnB_ok (k := k) (q := q) hc hc0 hP hL hLs hl (fun x hx => ?_) (by show 6 ≤ 40; decide) hD hD0 hDl h
  simp only [List.mem_cons, List.not_mem_nil, or_false] at hx
  rcases hx with rfl | rfl | rfl | rfl | rfl | rfl
  · exact IG.lst _
  · exact IG.fl (fl_cut (Fl.id q))
  · refine IG.fl (fl_app (Fl.id q) fun y hy => ?_)
    rw [List.mem_singleton.mp hy]; exact ⟨rfl, rfl⟩
  · refine IG.fl fun y hy => ?_
    rcases List.mem_cons.mp hy with rfl | hy
    · exact ⟨rfl, up_ok q.1⟩
    · exact fl_cut (Fl.id q) y hy
  · refine IG.fl fun y hy => ?_
    rcases List.mem_cons.mp hy with rfl | hy
    · exact ⟨rfl, hso⟩
    · exact fl_cut (Fl.id q) y hy
  · exact IG.non
theorem w_bent {P : List PV} {R : List Qd} (W : WN ms cs) (hP : CrL P) (hR : OkQ cs R) (h0 : 0 < R.length) (hl : R.length ≤ 200) (h : ∀ P' p, CrL P' → OkP p → Q (.pv p) [.pl P', .pv (netP ms cs), .pv (rgP cs R)]) :
    wF (g__law_bent_ring [.pl P, .pv (netP ms cs), .pv (rgP cs R)]) E Q := by
  have hn : netP ms cs = .tup [.tup ms, .tup (cs.map chP)] := rfl
  have el : (cs.map chP).length = cs.length := List.length_map _
  have hrg : rgP cs R = .tup (R.map (idP cs)) := rfl
  have er : (R.map (idP cs)).length = R.length := List.length_map _
  have top_caught := W.c1
  refine w_runB ?_
  show wS (s__law_bent_ring [.pr (.pl P), .ow (.pv (netP ms cs)), .ow (.pv (rgP cs R)), .no, .no, .no, .no, .no, .no, .no, .no, .no, .no, .no, .no]) _
  rw [bn_eq, hrg]
  top_name
  rw [er]
  refine w_spin hP (by omega) (by omega) fun v P1 a1 b1 hP1 => ?_
  top_name
  obtain ⟨k, rfl⟩ : ∃ k : Nat, v = (k : Int) := ⟨v.toNat, by omega⟩
  obtain ⟨q, eq, hq⟩ := ids_mem (cs := cs) (N := R) a1 b1
  have hqc := hR q hq
  refine w_ixT eq ?_
  rw [hn]
  top_name
  rw [el, ← hn]
  generalize (10 : Int) ^ Int.toNat 59 = big
  refine w_larcs W.c1 ?_
  top_name
  have hD : ∀ x ∈ [PV.non, PV.bl true, PV.int (-1), PV.int 0, PV.int 1, PV.int (cs.length : Int), PV.str "0", PV.int big, PV.int (sQ cs q : Int), PV.int (tQ cs q : Int)], Fl x := fun x hx => by
    simp only [List.mem_cons, List.not_mem_nil, or_false] at hx
    rcases hx with rfl | rfl | rfl | rfl | rfl | rfl | rfl | rfl | rfl | rfl
    case inr.inr.inr.inr.inr.inr.inl => exact ⟨rfl, by decide +kernel⟩
    all_goals exact ⟨rfl, rfl⟩
  refine ⟨_, _, lcF_pure (fr := [.pr (.pl P1), .ow (.pv (netP ms cs)), .ow (.pv (.tup (R.map (idP cs)))), .ow (.pv (.int (k : Int))), .ow (.pv (idP cs q)), .ow (.pv (.int (cs.length : Int))), .ow (.pv (.lst [PV.non, PV.bl true, PV.int (-1), PV.int 0, PV.int 1, PV.int (cs.length : Int), PV.str "0", PV.int big, PV.int (sQ cs q : Int), PV.int (tQ cs q : Int)])), .no, .no, .no, .no, .no, .no, .no, .no]) (fun _ => true) adF ((laK cs.length).map (adP cs)) (fun z hz => ?_), ?_, ?_⟩
  · obtain ⟨q, hq, rfl⟩ := List.mem_map.mp hz
    refine ⟨_, gt2_at rfl fre_no rfl fre_no, rfl, fun _ => wE_val ?_, rfl, rfl⟩
    top_name
  · rw [ad_map]
    exact le_sz (by rw [List.length_map, laK_len]; omega)
  · rw [ad_map]
    refine ⟨_, rfl, rfl, ?_⟩
    show wS (bnA (bnF P1 ms cs (R.map (idP cs)) k q [PV.non, PV.bl true, PV.int (-1), PV.int 0, PV.int 1, PV.int (cs.length : Int), PV.str "0", PV.int big, PV.int (sQ cs q : Int), PV.int (tQ cs q : Int)] .no .no .no)) _
    refine bnA_ok top_caught (by omega) hP1 (fun x hx => ?_) (fun x hx => ?_) (by rw [er]; exact hl) hD (by show 0 < 10; decide) (by show 10 ≤ 100; decide) fun P' p f hP' hp => ⟨_, rfl, h P' p hP' hp⟩
    · obtain ⟨q', _, rfl⟩ := List.mem_map.mp hx
      exact IG.id q'
    · obtain ⟨q', _, rfl⟩ := List.mem_map.mp hx
      rfl
end K13
end Sm

namespace Sm
namespace K13
open PySem L2 PyProof.Rows
variable {E : Ex → List MV → Prop} {Q : MV → List MV → Prop} {ms : List PV} {cs : List Ch} {sl : List Int}
/-! the arcs, ascending -/
def kqT (cs : List Ch) (q : Qd) : KeyT := [.inr (nmQ q.1).cps.toList, .inl (q.2 : Int), .inl (sQ cs q : Int), .inl (tQ cs q : Int)]
theorem shP_id {q : Qd} {r : List PV} : shP (idP cs q :: r) 0 = true ∧ shP (idP cs q :: r) 1 = false ∧ shP (idP cs q :: r) 2 = false ∧ shP (idP cs q :: r) 3 = false := ⟨rfl, rfl, rfl, rfl⟩
theorem keyTP_id {sh : Nat → Bool} (h : sh 0 = true ∧ sh 1 = false ∧ sh 2 = false ∧ sh 3 = false) (q : Qd) : keyTP sh (idP cs q) = some (kqT cs q) := by
  obtain ⟨h0, h1, h2, h3⟩ := h
  show itemsP sh 0 [.str (nmQ q.1), .int q.2, .int (sQ cs q), .int (tQ cs q)] = _
  simp [itemsP, h0, h1, h2, h3, kqT]
theorem lt_ag : strKind.blt (nmQ true).cps.toList (nmQ false).cps.toList = false := by decide +kernel
theorem gt_ag : strKind.blt (nmQ false).cps.toList (nmQ true).cps.toList = true := by decide +kernel
theorem le_q {a b : Qd} (h : (a.1 = false ∧ b.1 = true) ∨ (a.1 = b.1 ∧ a.2 < b.2)) : keyLe (kqT cs a) (kqT cs b) = true := by
  unfold keyLe
  have : lexLt itemOrd (kqT cs b) (kqT cs a) = false := by
    rcases h with ⟨h1, h2⟩ | ⟨h1, h2⟩
    · unfold kqT
      rw [h1, h2]
      refine lex_false.mpr ⟨lt_ag, .inl gt_ag⟩
    · unfold kqT
      rw [h1]
      rw [lex_self]
      refine lex_false.mpr ⟨?_, .inl ?_⟩
      · show decide ((b.2 : Int) < (a.2 : Int)) = false
        exact decide_eq_false (by omega)
      · show decide ((a.2 : Int) < (b.2 : Int)) = true
        exact decide_eq_true (by omega)
  rw [this]; rfl
theorem ids_sh {R : List Qd} (h : R ≠ []) : shP (R.map (idP cs)) 0 = true ∧ shP (R.map (idP cs)) 1 = false ∧ shP (R.map (idP cs)) 2 = false ∧ shP (R.map (idP cs)) 3 = false := by
  cases R with
  | nil => exact absurd rfl h
  | cons q r => exact ⟨rfl, rfl, rfl, rfl⟩
theorem ids_ok (R : List Qd) : tupsOk (R.map (idP cs)) = true := by
  by_cases h : R = []
  · subst h; rfl
  refine List.all_eq_true.mpr fun p hp => ?_
  obtain ⟨q, _, rfl⟩ := List.mem_map.mp hp
  rw [keyTP_id (ids_sh h)]; rfl
theorem srt_ids {R R' : List Qd} (hp : R'.Perm R) (hs : R'.Pairwise fun a b => (a.1 = false ∧ b.1 = true) ∨ (a.1 = b.1 ∧ a.2 < b.2)) : srtT (R.map (idP cs)) = R'.map (idP cs) := by
  by_cases h : R = []
  · subst h
    have : R' = [] := List.Perm.eq_nil hp
    subst this
    exact List.Perm.eq_nil (srtT_perm [])
  refine (srtT_uniq (ids_ok R) (hp.map _) ?_).symm
  rw [List.pairwise_map]
  refine hs.imp fun {a b} hab => ?_
  unfold keyD
  rw [keyTP_id (ids_sh h), keyTP_id (ids_sh h)]
  exact le_q hab
theorem allQ_asc (n : Nat) : ((List.range n).map (fun e => (false, e)) ++ (List.range n).map (fun e => (true, e)) : List Qd).Pairwise fun a b => (a.1 = false ∧ b.1 = true) ∨ (a.1 = b.1 ∧ a.2 < b.2) := by
  refine List.pairwise_append.mpr ⟨?_, ?_, fun a ha b hb => ?_⟩
  · rw [List.pairwise_map]
    exact (List.pairwise_lt_range).imp fun h => .inr ⟨rfl, h⟩
  · rw [List.pairwise_map]
    exact (List.pairwise_lt_range).imp fun h => .inr ⟨rfl, h⟩
  · obtain ⟨_, _, rfl⟩ := List.mem_map.mp ha
    obtain ⟨_, _, rfl⟩ := List.mem_map.mp hb
    exact .inl ⟨rfl, rfl⟩
theorem laK_perm : ∀ n, ((List.range n).map (fun e => (false, e)) ++ (List.range n).map (fun e => (true, e)) : List Qd).Perm (laK n)
  | 0 => .refl _
  | n + 1 => by
    show List.Perm _ (laK n ++ [(true, n), (false, n)])
    refine List.Perm.trans ?_ ((laK_perm n).append_right _)
    refine List.perm_iff_count.mpr fun a => ?_
    rw [List.range_succ]
    simp only [List.map_append, List.count_append, List.map_cons, List.map_nil, List.count_cons, List.count_nil]
    omega
theorem sort_all : gSortT (.pv (.lst ((allQ cs).map (idP cs)))) = some ((allQ cs).map (idP cs)) := by
  show (if tupsOk _ = true then some (srtT _) else none) = _
  rw [if_pos (ids_ok _), srt_ids (R := allQ cs) (R' := allQ cs) (.refl _) (allQ_asc _)]
theorem sort_la : gSortT (.pl ((laK cs.length).map (idP cs))) = some ((allQ cs).map (idP cs)) := by
  show (if tupsOk _ = true then some (srtT _) else none) = _
  rw [if_pos (ids_ok _), srt_ids (laK_perm _) (allQ_asc _)]; rfl
theorem w_arcsof {s : PV} (hc : cs.length ≤ 200) (q : Q (.pv (.tup ((allQ cs).map (idP cs)))) [.pv (netP ms cs), .pv s]) : wF (g_arcs_of [.pv (netP ms cs), .pv s]) E Q := by
  have hl : ((allQ cs).map (idP cs)).length = 2 * cs.length := by
    unfold allQ
    simp; omega
  refine w_runB ?_
  show wS (s_arcs_of [.ow (.pv (netP ms cs)), .ow (.pv s)]) _
  unfold s_arcs_of
  top_name
  refine w_arcs hc ?_
  top_name
  refine ⟨_, sort_all, ?_⟩
  top_name
  exact q
end K13
end Sm

namespace Sm
namespace K13
open PySem L2
variable {E : Ex → List MV → Prop} {Q : MV → List MV → Prop} {ms : List PV} {cs : List Ch} {sl : List Int}
def asB : Fr → SO := (sSeq (sAsg (gtT 2 (gsCons (gtN 6) (gsCons (gtN 7) gsNil))) (eIx (eV 4) (eCallB 2 g__law_spin (bName 0 (bVal (eB1 gLen (eV 4)) bNil)))))
  (sIf (bNot (bTru (eCallP 2 g__law_same (aCons (eCallP 3 g_arc_weight (aCons (eV 1) (aCons (eV 3) (aCons (eV 6) aNil)))) (aCons (eTup (aCons (eV 7) (aCons (eCallP 3 g__law_tokens (aCons (eV 1) (aCons (eV 3) (aCons (eV 6) aNil)))) aNil))) aNil))))) (sRet (eC (.bl false))) sNil))
def asT : Fr → SO := (sSeq (sSet 13 (eCallB 3 g__law_bent_ring (bName 0 (bVal (eV 1) (bVal (eV 9) bNil)))))
  (sIf (bNot (bTru (eCallP 2 g__law_same (aCons (eCallP 2 g_is_ring (aCons (eV 1) (aCons (eV 13) aNil))) (aCons (eCallP 2 g__law_is_ring (aCons (eV 1) (aCons (eV 13) aNil))) aNil))))) (sRet (eC (.bl false))) sNil))
def asQ : Fr → SO := (sSeq (sSet 10 (eTup (aCons (eC (.bl true)) (aCons (eB1 gSum (eLc true [6] (eV 9) (gtN 6) (fun fr => .ok true fr) (eDgetT 8 (eV 6)))) (aCons (eB1 gSum (eLc true [6] (eV 9) (gtN 6) (fun fr => .ok true fr) (eCallP 3 g__law_tokens (aCons (eV 1) (aCons (eV 3) (aCons (eV 6) aNil)))))) aNil)))))
  (sSeq (sSet 11 (eTup (aCons (eCallP 2 g_is_ring (aCons (eV 1) (aCons (eV 9) aNil))) (aCons (eCallP 2 g_ring_delay (aCons (eV 1) (aCons (eV 9) aNil))) (aCons (eCallP 3 g_ring_tokens (aCons (eV 1) (aCons (eV 3) (aCons (eV 9) aNil)))) aNil)))))
  (sSeq (sIf (bOr (bNot (bTru (eCallP 2 g__law_is_ring (aCons (eV 1) (aCons (eV 9) aNil))))) (bNot (bTru (eCallP 2 g__law_same (aCons (eV 11) (aCons (eV 10) aNil)))))) (sRet (eC (.bl false))) sNil)
  (sForE (eBu gRange (aCons (eC (.int 4)) aNil)) (gtN 12) asT))))
def asR : Fr → SO := (sSeq (sSet 9 (eCallB 2 g__law_drawn_ring (bName 0 (bVal (eV 1) bNil))))
  (sIf (bCmp gIsNot (eV 9) (eC .non)) asQ sNil))
def asG : Fr → SO := (sRet (eAnd (eBin gIs (eCallP 2 g_is_ring (aCons (eV 1) (aCons (eTup aNil) aNil))) (eC (.bl false))) (eBin gIs (eCallP 2 g_is_ring (aCons (eV 1) (aCons (eC .non) aNil))) (eC (.bl false)))))
def asE : Fr → SO := (sSeq (sForE (eBu gRange (aCons (eV 2) aNil)) (gtN 5)  asR) asG)
def asD : Fr → SO := (sSeq (sSet 8 eDnT) (sSeq (sForE (eV 4) (gtT 2 (gsCons (gtN 6) (gsCons (gtN 7) gsNil))) (sDputT 8 (eV 6) (eV 7))) asE))
def asC : Fr → SO := (sSeq (sForE (eBu gRange (aCons (eBu gMin (aCons (eBin gMul (eC (.int 2)) (eV 2)) (aCons (eB1 gLen (eV 4)) aNil))) aNil)) (gtN 5)  asB) asD)
def asZ : Fr → SO := (sSet 4 (eFz (eCallP 1 g__law_arcs (aCons (eV 1) aNil))))
theorem as_eq : s__law_asked = (sSeq (sSet 3 (eCallB 2 g__law_slots (bName 0 (bVal (eV 1) bNil))))
  (sSeq asZ
  (sSeq (sIf (bNot (bTru (eCallP 2 g__law_same (aCons (eCallP 2 g_arcs_of (aCons (eV 1) (aCons (eV 3) aNil))) (aCons (eB1 gTuple (eN1 gSortT (eLc true [6, 7] (eV 4) (gtT 2 (gsCons (gtN 6) (gsCons (gtN 7) gsNil))) (fun fr => .ok true fr) (eV 6)))) aNil))))) (sRet (eC (.bl false))) sNil) asC))) := rfl

theorem w_aw {q : Qd} (hs : sl.length = cs.length) (hq : q.2 < cs.length) (h : Q (.pv (.tup [.int (dQ cs q), .int (kQ cs sl q)])) [.pv (netP ms cs), .pv (slP sl), .pv (idP cs q)]) : wF (g_arc_weight [.pv (netP ms cs), .pv (slP sl), .pv (idP cs q)]) E Q := by
  refine w_runB ?_
  show wS (s_arc_weight [.ow (.pv (netP ms cs)), .ow (.pv (slP sl)), .ow (.pv (idP cs q))]) _
  unfold s_arc_weight
  top_name
  refine w_adelay hq ?_
  top_name
  refine w_atok hs hq ?_
  top_name
  exact h
def asF (P ms : List PV) (cs : List Ch) (sl : List Int) (la : Int) (s5 s6 s7 s8 s9 s10 s11 s12 s13 : Sl) : Fr := [.pr (.pl P), .ow (.pv (netP ms cs)), .ow (.pv (.int la)), .ow (.pv (slP sl)), .ow (.pv (.lst ((laK cs.length).map (adP cs)))), s5, s6, s7, s8, s9, s10, s11, s12, s13]
theorem ads_mem {i : Int} (h0 : 0 ≤ i) (h1 : i < 2 * cs.length) : ∃ q : Qd, atI ((laK cs.length).map (adP cs)) i = some (adP cs q) ∧ q.2 < cs.length := by
  obtain ⟨n, rfl⟩ : ∃ n : Nat, i = (n : Int) := ⟨i.toNat, by omega⟩
  have hn : n < (laK cs.length).length := by rw [laK_len]; omega
  exact ⟨(laK cs.length)[n], atI_nat (by rw [List.getElem?_map, List.getElem?_eq_getElem hn]; rfl), laK_mem.mp (List.getElem_mem hn)⟩
theorem asB_ok {o : Po} {P : List PV} {la : Int} {s5 s6 s7 s8 s9 s10 s11 s12 s13 : Sl} (W : WN ms cs) (S : SW cs sl) (hP : CrL P) (hc : 0 < cs.length) (f6 : fre s6) (f7 : fre s7)
    (h : ∀ P' (q : Qd), CrL P' → o.nx (asF P' ms cs sl la s5 (.ow (.pv (idP cs q))) (.ow (.pv (.int (dQ cs q)))) s8 s9 s10 s11 s12 s13)) :
    wS (asB (asF P ms cs sl la s5 s6 s7 s8 s9 s10 s11 s12 s13)) o := by
  have top_caught := W.c1
  have ela : ((laK cs.length).map (adP cs)).length = 2 * cs.length := by rw [List.length_map, laK_len]
  unfold asB asF
  top_name
  rw [ela]
  refine w_spin hP (by omega) (by omega) fun v P1 a1 b1 hP1 => ?_
  top_name
  obtain ⟨q, eq, hq⟩ := ads_mem (cs := cs) a1 (by omega)
  refine w_ixL eq ?_
  top_name
  refine ⟨_, gt2_at rfl f6 rfl f7, ?_⟩
  top_name
  refine w_aw S.1 hq ?_
  top_name
  refine w_atok (E := _) S.1 hq ?_
  top_name
  refine same_ok (by rfl) (Nat.le_of_ble_eq_true rfl) ?_
  top_name
  exact h P1 q hP1
theorem same_bl {b : Bool} (h : Q (.pv (.bl true)) [.pv (.bl b), .pv (.bl b)]) : wF (g__law_same [.pv (.bl b), .pv (.bl b)]) E Q := same_ok (p := .bl b) rfl (by show 1 ≤ 3900; decide) h
theorem okp_non : OkP .non := ⟨rfl, fun l z => (nomatch z), fun l z => (nomatch z)⟩
theorem asT_ok {o : Po} {P : List PV} {la : Int} {R : List Qd} {s5 s6 s7 s8 s10 s11 s12 s13 : Sl} (W : WN ms cs) (hP : CrL P) (hR : RgQ cs R) (hl : R.length ≤ 200) (f13 : fre s13)
    (h : ∀ P' s13, CrL P' → fre s13 → o.nx (asF P' ms cs sl la s5 s6 s7 s8 (.ow (.pv (rgP cs R))) s10 s11 s12 s13)) :
    wS (asT (asF P ms cs sl la s5 s6 s7 s8 (.ow (.pv (rgP cs R))) s10 s11 s12 s13)) o := by
  unfold asT asF
  top_name
  refine w_bent W hP hR.ok (List.length_pos_iff.mpr hR.ne) hl fun P1 p hP1 hp => ?_
  top_name
  refine w_isringP W hp ?_
  top_name
  refine w_lisring W hp ?_
  top_name
  refine same_bl ?_
  top_name
  exact h P1 _ hP1 (fre_ow _)
/-- the dict of delays -/
def kyQ (cs : List Ch) (q : Qd) : List Key := [.inr (nmQ q.1), .inl (q.2 : Int), .inl (sQ cs q : Int), .inl (tQ cs q : Int)]
theorem keyT_id (q : Qd) : keyT (idP cs q) = some (kyQ cs q) := rfl
theorem kyQ_inj {q q' : Qd} (h : kyQ cs q = kyQ cs q') : q = q' := by
  unfold kyQ at h
  injection h with h1 h2
  injection h2 with h2 h3
  injection h1 with h1
  injection h2 with h2
  have e2 : q.2 = q'.2 := by omega
  obtain ⟨b, e⟩ := q
  obtain ⟨b', e'⟩ := q'
  have e2' : e = e' := e2
  subst e2'
  have : b = b' := by
    cases b <;> cases b'
    · rfl
    · exact absurd (show nmQ false = nmQ true from h1) (by decide +kernel)
    · exact absurd (show nmQ true = nmQ false from h1) (by decide +kernel)
    · rfl
  rw [this]
def wdM (cs : List Ch) (l : List Qd) : MV := .pt (l.map (kyQ cs)) (l.map fun q => PV.int (dQ cs q))
theorem wd_get {l : List Qd} {q : Qd} (h : q ∈ l) : getPT (l.map (kyQ cs)) (l.map fun q => PV.int (dQ cs q)) (kyQ cs q) = some (.int (dQ cs q)) :=
  get_mem (kyQ cs) (fun q => PV.int (dQ cs q)) (fun a b h => by rw [kyQ_inj h]) h
theorem asQ_ok {o : Po} {P : List PV} {la : Int} {R : List Qd} {s5 s6 s7 s10 s11 s12 s13 : Sl} (W : WN ms cs) (S : SW cs sl) (hP : CrL P) (hR : RgQ cs R) (hl : R.length ≤ 200) (p6 : plainS (some s6) = true) (f10 : fre s10) (f11 : fre s11) (f12 : fre s12) (f13 : fre s13)
    (h : ∀ P' s10 s11 s12 s13, CrL P' → fre s10 → fre s11 → fre s12 → fre s13 → o.nx (asF P' ms cs sl la s5 s6 s7 (.ow (wdM cs (laK cs.length))) (.ow (.pv (rgP cs R))) s10 s11 s12 s13)) :
    wS (asQ (asF P ms cs sl la s5 s6 s7 (.ow (wdM cs (laK cs.length))) (.ow (.pv (rgP cs R))) s10 s11 s12 s13)) o := by
  have hrg : rgP cs R = .tup (R.map (idP cs)) := rfl
  unfold asQ asF
  top_name
  refine ⟨by show (plainS (some s6) && true) = true; rw [p6]; rfl, ?_⟩
  refine ⟨_, _, lcF_pure (fr := [.pr (.pl P), .ow (.pv (netP ms cs)), .ow (.pv (.int la)), .ow (.pv (slP sl)), .ow (.pv (.lst ((laK cs.length).map (adP cs)))), s5, .no, s7, .ow (wdM cs (laK cs.length)), .ow (.pv (rgP cs R)), s10, s11, s12, s13]) (fun _ => true) (fun p => .int (dQ cs (dec p))) (R.map (idP cs)) (fun z hz => ?_), ?_, ?_⟩
  · obtain ⟨q, hq, rfl⟩ := List.mem_map.mp hz
    refine ⟨_, gtN_at rfl fre_no, rfl, fun _ => wE_val ?_, rfl, rfl⟩
    refine w_dgetT rfl ?_
    top_name
    refine ⟨_, _, rfl, _, wd_get (laK_mem.mpr (hR.ok q hq)), ?_⟩
    rw [dec_id]
    exact ⟨rfl, trivial⟩
  · rw [sum_map]
    exact le_sz (by rw [List.length_map, List.length_map]; omega)
  · rw [sum_map]
    top_name
    refine w_opO (gSum_ints _) ?_
    top_name
    refine ⟨by show (plainS (some s6) && true) = true; rw [p6]; rfl, ?_⟩
    refine ⟨_, _, lcF_pure (fr := [.pr (.pl P), .ow (.pv (netP ms cs)), .ow (.pv (.int la)), .ow (.pv (slP sl)), .ow (.pv (.lst ((laK cs.length).map (adP cs)))), s5, .no, s7, .ow (wdM cs (laK cs.length)), .ow (.pv (rgP cs R)), s10, s11, s12, s13]) (fun _ => true) (fun p => .int (kQ cs sl (dec p))) (R.map (idP cs)) (fun z hz => ?_), ?_, ?_⟩
    · obtain ⟨q, hq, rfl⟩ := List.mem_map.mp hz
      refine ⟨_, gtN_at rfl fre_no, rfl, fun _ => wE_val ?_, rfl, rfl⟩
      top_name
      refine w_atok S.1 (hR.ok q hq) ?_
      rw [dec_id]
      exact ⟨rfl, trivial⟩
    · rw [sum_map]
      exact le_sz (by rw [List.length_map, List.length_map]; omega)
    · rw [sum_map]
      top_name
      refine w_opO (gSum_ints _) ?_
      top_name
      refine w_isringP W (okp_rg hl) ?_
      top_name
      refine w_rdelay hR.ok (by omega) ?_
      top_name
      refine w_rtok S.1 hR.ok (by omega) ?_
      top_name
      refine w_lisring W (okp_rg hl) ?_
      rw [rgB_t rfl hR]
      top_name
      refine same_ok (p := .tup [.bl true, .int (dS cs R), .int (kS cs sl R)]) rfl (Nat.le_of_ble_eq_true rfl) ?_
      top_name
      show wS (forL (gtN 12) asT (rgPs 0 4) (asF P ms cs sl la s5 s6 s7 (.ow (wdM cs (laK cs.length))) (.ow (.pv (rgP cs R))) (.ow (.pv (.tup [.bl true, .int (dS cs R), .int (kS cs sl R)]))) (.ow (.pv (.tup [.bl true, .int (dS cs R), .int (kS cs sl R)]))) s12 s13)) o
      refine w_forL (b := asT) (fun i f => ∃ P' s12 s13, CrL P' ∧ fre s12 ∧ fre s13 ∧ f = asF P' ms cs sl la s5 s6 s7 (.ow (wdM cs (laK cs.length))) (.ow (.pv (rgP cs R))) (.ow (.pv (.tup [.bl true, .int (dS cs R), .int (kS cs sl R)]))) (.ow (.pv (.tup [.bl true, .int (dS cs R), .int (kS cs sl R)]))) s12 s13) (rgPs 0 4) 0 _ ⟨P, s12, s13, hP, f12, f13, rfl⟩ (fun i p f hp ⟨P', s12, s13, hP', f12, f13, hf⟩ => ?_) fun f ⟨P', s12, s13, hP', f12, f13, hf⟩ => ?_
      · subst hf
        refine ⟨_, gtN_at rfl f12, ?_⟩
        exact asT_ok W hP' hR hl f13 fun P2 s13 hP2 f13 => ⟨P2, _, s13, hP2, fre_ow _, f13, rfl⟩
      · subst hf
        exact h P' _ _ s12 s13 hP' (fre_ow _) (fre_ow _) f12 f13
theorem asR_ok {o : Po} {P : List PV} {la : Int} {s5 s6 s7 s9 s10 s11 s12 s13 : Sl} (W : WN ms cs) (S : SW cs sl) (hP : CrL P) (p6 : plainS (some s6) = true) (f9 : fre s9) (f10 : fre s10) (f11 : fre s11) (f12 : fre s12) (f13 : fre s13)
    (h : ∀ P' s9 s10 s11 s12 s13, CrL P' → fre s9 → fre s10 → fre s11 → fre s12 → fre s13 → o.nx (asF P' ms cs sl la s5 s6 s7 (.ow (wdM cs (laK cs.length))) s9 s10 s11 s12 s13)) :
    wS (asR (asF P ms cs sl la s5 s6 s7 (.ow (wdM cs (laK cs.length))) s9 s10 s11 s12 s13)) o := by
  have hrg : ∀ R, rgP cs R = .tup (R.map (idP cs)) := fun _ => rfl
  unfold asR asF
  top_name
  refine w_drawn W hP (fun P1 hP1 => ?_) fun P1 R hP1 hR hl => ?_
  · top_name
    exact h P1 _ s10 s11 s12 s13 hP1 (fre_ow _) f10 f11 f12 f13
  · top_name
    rw [hrg]
    top_name
    rw [← hrg]
    exact asQ_ok W S hP1 hR hl p6 f10 f11 f12 f13 fun P2 s10 s11 s12 s13 hP2 f10 f11 f12 f13 => h P2 _ s10 s11 s12 s13 hP2 (fre_ow _) f10 f11 f12 f13
theorem rg_nil : rgB cs (.tup []) = false := rgB_f fun R e hR => hR.ne (by
  cases R with
  | nil => rfl
  | cons q r => cases e)
theorem rg_non : rgB cs .non = false := rgB_f fun R e hR => by cases e
theorem asE_ok {o : Po} {P : List PV} {la : Nat} {s5 s6 s7 : Sl} (W : WN ms cs) (S : SW cs sl) (hP : CrL P) (hla : la ≤ 1000) (f5 : fre s5) (p6 : plainS (some s6) = true)
    (h : ∀ P' f, CrL P' → o.rt (.pv (.bl true)) (.pr (.pl P') :: .ow (.pv (netP ms cs)) :: .ow (.pv (.int (la : Int))) :: f)) :
    wS (asE (asF P ms cs sl la s5 s6 s7 (.ow (wdM cs (laK cs.length))) .no .no .no .no .no)) o := by
  unfold asE asF
  top_name
  refine w_forL (b := asR) (fun i f => ∃ P' s5 s9 s10 s11 s12 s13, CrL P' ∧ fre s5 ∧ fre s9 ∧ fre s10 ∧ fre s11 ∧ fre s12 ∧ fre s13 ∧ f = asF P' ms cs sl la s5 s6 s7 (.ow (wdM cs (laK cs.length))) s9 s10 s11 s12 s13) (rgPs 0 ((la : Int) - 0).toNat) 0 _ ⟨P, s5, .no, .no, .no, .no, .no, hP, f5, fre_no, fre_no, fre_no, fre_no, fre_no, rfl⟩ (fun i p f hp ⟨P', s5, s9, s10, s11, s12, s13, hP', f5, f9, f10, f11, f12, f13, hf⟩ => ?_) fun f ⟨P', s5, s9, s10, s11, s12, s13, hP', f5, f9, f10, f11, f12, f13, hf⟩ => ?_
  · subst hf
    refine ⟨_, gtN_at rfl f5, ?_⟩
    exact asR_ok W S hP' p6 f9 f10 f11 f12 f13 fun P2 s9 s10 s11 s12 s13 hP2 f9 f10 f11 f12 f13 => ⟨P2, _, s9, s10, s11, s12, s13, hP2, fre_ow _, f9, f10, f11, f12, f13, rfl⟩
  · subst hf
    unfold asG asF
    top_name
    refine w_isringP W (OkP.of (fun x hx => nomatch hx) (by decide)) ?_
    rw [rg_nil]
    top_name
    change br true _ _
    top_name
    refine w_isringP W okp_non ?_
    rw [rg_non]
    top_name
    exact h P' _ hP'
end K13
end Sm

namespace Sm
namespace K13
open PySem L2
variable {E : Ex → List MV → Prop} {Q : MV → List MV → Prop} {ms : List PV} {cs : List Ch} {sl : List Int}
theorem laK_nd : ∀ n, (laK n).Nodup
  | n => (laK_perm n).nodup_iff.mp (by
      refine List.nodup_append.mpr ⟨?_, ?_, fun a ha b hb => ?_⟩
      · exact List.pairwise_map.mpr (List.nodup_range.imp fun h z => h (by injection z))
      · exact List.pairwise_map.mpr (List.nodup_range.imp fun h z => h (by injection z))
      · obtain ⟨_, _, rfl⟩ := List.mem_map.mp ha
        obtain ⟨_, _, rfl⟩ := List.mem_map.mp hb
        intro z
        injection z with z1 z2
        cases z1)
theorem asD_ok {o : Po} {P : List PV} {la : Nat} {s5 s6 s7 : Sl} (W : WN ms cs) (S : SW cs sl) (hP : CrL P) (hla : la ≤ 1000) (f5 : fre s5) (f6 : fre s6) (f7 : fre s7) (p6 : plainS (some s6) = true)
    (h : ∀ P' f, CrL P' → o.rt (.pv (.bl true)) (.pr (.pl P') :: .ow (.pv (netP ms cs)) :: .ow (.pv (.int (la : Int))) :: f)) :
    wS (asD (asF P ms cs sl la s5 s6 s7 .no .no .no .no .no .no)) o := by
  have top_caught := W.c1
  have ela : (laK cs.length).length = 2 * cs.length := laK_len _
  unfold asD asF
  top_name
  refine w_dnT ?_
  top_name
  refine w_forL (b := sDputT 8 (eV 6) (eV 7)) (fun i f => ∃ s6 s7, fre s6 ∧ fre s7 ∧ plainS (some s6) = true ∧ f = asF P ms cs sl la s5 s6 s7 (.ow (wdM cs ((laK cs.length).take i))) .no .no .no .no .no) ((laK cs.length).map (adP cs)) 0 _ ⟨s6, s7, f6, f7, p6, rfl⟩ (fun i p f hp ⟨s6, s7, f6, f7, p6, hf⟩ => ?_) fun f ⟨s6, s7, f6, f7, p6, hf⟩ => ?_
  · subst hf
    rw [List.getElem?_map] at hp
    obtain ⟨q, hq, rfl⟩ := Option.map_eq_some_iff.mp hp
    obtain ⟨hi, hq2⟩ := List.getElem?_eq_some_iff.mp hq
    refine ⟨_, gt2_at rfl f6 rfl f7, ?_⟩
    rw [Nat.zero_add]
    have hnot : ¬ kyQ cs q ∈ ((laK cs.length).take i).map (kyQ cs) := fun z => by
      obtain ⟨q', h1, h2⟩ := List.mem_map.mp z
      rw [kyQ_inj h2] at h1
      obtain ⟨j, hj, ej⟩ := List.getElem_of_mem h1
      rw [List.length_take] at hj
      rw [List.getElem_take] at ej
      exact (List.pairwise_iff_getElem.mp (laK_nd cs.length)) j i (by omega) hi (by omega) (ej.trans hq2.symm)
    have hn := put_new (ps := ((laK cs.length).take i).map fun q => PV.int (dQ cs q)) (q := .int (dQ cs q)) hnot
    refine w_dputT ?_
    unfold asF
    top_name
    refine ⟨_, _, rfl, szlt (by rw [List.length_map, List.length_take]; omega), ?_⟩
    refine ⟨_, _, fre_ow (.pv (idP cs q)), fre_ow (.pv (.int (dQ cs q))), rfl, ?_⟩
    have e1 : (laK cs.length).take (i + 1) = (laK cs.length).take i ++ [q] := by
      rw [List.take_add_one, hq]; rfl
    show ([.pr (.pl P), .ow (.pv (netP ms cs)), .ow (.pv (.int (la : Int))), .ow (.pv (slP sl)), .ow (.pv (.lst ((laK cs.length).map (adP cs)))), s5, .ow (.pv (idP cs q)), .ow (.pv (.int (dQ cs q))), .ow (.pt (putKsT (((laK cs.length).take i).map (kyQ cs)) (kyQ cs q)) (putPsT (((laK cs.length).take i).map (kyQ cs)) (((laK cs.length).take i).map fun q => PV.int (dQ cs q)) (kyQ cs q) (.int (dQ cs q)))), .no, .no, .no, .no, .no] : Fr) = _
    rw [hn.1, hn.2]
    unfold wdM
    rw [e1, List.map_append, List.map_append]; rfl
  · subst hf
    rw [Nat.zero_add, List.length_map, List.take_length]
    exact asE_ok W S hP hla f5 p6 h
theorem seq_rng {m : Nat} (h : m ≤ 1000000) : seqM2 (.pv (.rng 0 (m : Int))) = some (rgPs 0 m) := by
  have h1 : small62 0 = true := by decide
  have h2 : small62 (m : Int) = true := decide_eq_true (by omega)
  show (if small62 0 = true ∧ small62 (m : Int) = true then some (rgPs 0 ((m : Int) - 0).toNat) else none) = _
  rw [if_pos ⟨h1, h2⟩, Int.sub_zero, Int.toNat_natCast]
theorem dat_ids (R : List Qd) : dat (.tup (R.map (idP cs))) = true := dats_iff.mpr fun p hp => by
  obtain ⟨q, _, rfl⟩ := List.mem_map.mp hp
  show dats [.str (nmQ q.1), .int q.2, .int (sQ cs q), .int (tQ cs q)] = true
  rfl
theorem nods_ids : ∀ (R : List Qd), R.length ≤ 700 → nods (.tup (R.map (idP cs))) ≤ 3900 := fun R h => by
  have key : ∀ R : List Qd, nodss (R.map (idP cs)) = 5 * R.length := fun R => by
    induction R with
    | nil => rfl
    | cons q R ih =>
      show nods (idP cs q) + nodss (R.map (idP cs)) = 5 * (R.length + 1)
      rw [ih]
      have : nods (idP cs q) = 5 := rfl
      omega
  show 1 + nodss (R.map (idP cs)) ≤ 3900
  rw [key]; omega
theorem allQ_len : (allQ cs).length = 2 * cs.length := by
  unfold allQ
  simp; omega
theorem w_asked {P : List PV} {la : Nat} (W : WN ms cs) (hP : CrL P) (hla : la ≤ 1000) (h : ∀ P', CrL P' → Q (.pv (.bl true)) [.pl P', .pv (netP ms cs), .pv (.int (la : Int))]) : wF (g__law_asked [.pl P, .pv (netP ms cs), .pv (.int (la : Int))]) E Q := by
  have top_caught := W.c1
  have ela : ((laK cs.length).map (adP cs)).length = 2 * cs.length := by rw [List.length_map, laK_len]
  have eli : ((laK cs.length).map (idP cs)).length = 2 * cs.length := by rw [List.length_map, laK_len]
  refine w_runB ?_
  show wS (s__law_asked [.pr (.pl P), .ow (.pv (netP ms cs)), .ow (.pv (.int (la : Int))), .no, .no, .no, .no, .no, .no, .no, .no, .no, .no, .no]) _
  rw [as_eq]
  top_name
  refine w_lslots W hP fun P1 sl hP1 S => ?_
  top_name
  unfold asZ
  refine w_set (w_fzP ?_)
  top_name
  refine w_larcs W.c1 ?_
  top_name
  refine w_arcsof W.c1 ?_
  top_name
  refine ⟨_, _, lcF_pure (fr := [.pr (.pl P1), .ow (.pv (netP ms cs)), .ow (.pv (.int (la : Int))), .ow (.pv (slP sl)), .ow (.pv (.lst ((laK cs.length).map (adP cs)))), .no, .no, .no, .no, .no, .no, .no, .no, .no]) (fun _ => true) adF ((laK cs.length).map (adP cs)) (fun z hz => ?_), ?_, ?_⟩
  · obtain ⟨q, hq, rfl⟩ := List.mem_map.mp hz
    refine ⟨_, gt2_at rfl fre_no rfl fre_no, rfl, fun _ => wE_val ?_, rfl, rfl⟩
    top_name
  · rw [ad_map]
    exact le_sz (by rw [eli]; omega)
  · rw [ad_map]
    top_name
    refine ⟨_, sort_la, ?_⟩
    top_name
    refine same_ok (dat_ids _) (nods_ids _ (by rw [allQ_len]; omega)) ?_
    top_name
    show wS (asC (asF P1 ms cs sl la .no .no .no .no .no .no .no .no .no)) _
    unfold asC asF
    top_name
    rw [ela]
    have hmm : ∃ m : Nat, (if ((2 * cs.length : Nat) : Int) < 2 * (la : Int) then ((2 * cs.length : Nat) : Int) else 2 * (la : Int)) = (m : Int) ∧ m ≤ 2 * cs.length := by
      split
      · exact ⟨2 * cs.length, rfl, Nat.le_refl _⟩
      · exact ⟨2 * la, by omega, by omega⟩
    obtain ⟨m, em, hm⟩ := hmm
    rw [em]
    refine ⟨rgPs 0 m, seq_rng (by omega), ?_⟩
    refine w_forL (b := asB) (fun i f => ∃ P' s5 s6 s7, CrL P' ∧ fre s5 ∧ fre s6 ∧ fre s7 ∧ plainS (some s6) = true ∧ f = asF P' ms cs sl la s5 s6 s7 .no .no .no .no .no .no) (rgPs 0 m) 0 _ ⟨P1, .no, .no, .no, hP1, fre_no, fre_no, fre_no, rfl, rfl⟩ (fun i p f hp ⟨P', s5, s6, s7, hP', f5, f6, f7, p6, hf⟩ => ?_) fun f ⟨P', s5, s6, s7, hP', f5, f6, f7, p6, hf⟩ => ?_
    · subst hf
      obtain ⟨hi, rfl⟩ := rgPs_get hp
      refine ⟨_, gtN_at rfl f5, ?_⟩
      exact asB_ok W S hP' (by omega) f6 f7 fun P2 q hP2 => ⟨P2, _, _, _, hP2, fre_ow _, fre_ow _, fre_ow _, rfl, rfl⟩
    · subst hf
      exact asD_ok W S hP' hla f5 f6 f7 p6 fun P2 f hP2 => ⟨_, rfl, h P2 hP2⟩
end K13
end Sm

namespace Sm
namespace K13
open PySem L2
variable {E : Ex → List MV → Prop} {Q : MV → List MV → Prop} {ms : List PV} {cs : List Ch} {sl : List Int}
/-! by hand -/
def caM : List PV := [.tup [.str "add", .tup [.non, .non]], .tup [.str "mul", .tup [.non, .non]], .tup [.str "out", .tup [.non]]]
def caC (n : Nat) : List Ch := [⟨0, 0, 0, 1, List.replicate n 4⟩, ⟨1, 0, 1, 3, [5]⟩, ⟨0, 1, 0, 2, []⟩, ⟨0, 1, 1, 7, [6, 6]⟩, ⟨1, 2, 0, 3, []⟩]
def caS (n : Nat) : List Int := [(n : Int), 2, 1, 4, 9]
theorem ca_wn {n : Nat} (h : n ≤ 8) : WN caM (caC n) := by
  refine ⟨by decide, by decide, by exact Nat.zero_le _, by show 5 ≤ 200; decide, fun c hc => ?_, fun c hc => ?_, fun c hc => ?_⟩ <;>
  · simp only [caC, List.mem_cons, List.not_mem_nil, or_false] at hc
    rcases hc with rfl | rfl | rfl | rfl | rfl <;> first | decide | (show (List.replicate n (4 : Int)).length ≤ 20; rw [List.length_replicate]; omega) | (show 0 < 3 ∧ 0 < 3; decide) | (show (1 : Int) ≤ 1 ∧ (1 : Int) ≤ 1000; decide)
theorem ca_sl (n : Nat) : (caS n).length = (caC n).length := rfl
def rrP (n : Nat) (x : List Qd × Int × Int) : PV := .tup [rgP (caC n) x.1, .int x.2.1, .int x.2.2]
def rr (n : Nat) : List (List Qd × Int × Int) := [([(true, 0)], 1, (n : Int)), ([(false, 0)], 1, 0), ([(true, 3), (false, 2)], 8, 3), ([(true, 1), (true, 2)], 5, 1), ([(false, 1), (true, 1)], 4, 2), ([(true, 4), (false, 4)], 4, 9)]
theorem rr_ok (n : Nat) : ∀ x ∈ rr n, RgQ (caC n) x.1 ∧ dS (caC n) x.1 = x.2.1 ∧ kS (caC n) (caS n) x.1 = x.2.2 := by
  intro x hx
  have okq : ∀ R : List Qd, (∀ q ∈ R, q.2 < 5) → OkQ (caC n) R := fun R h => h
  simp only [rr, List.mem_cons, List.not_mem_nil, or_false] at hx
  have lr : ((List.replicate n (4 : Int)).length : Int) = (n : Int) := by rw [List.length_replicate]
  rcases hx with rfl | rfl | rfl | rfl | rfl | rfl
  · refine ⟨⟨fun z => (nomatch z), okq [(true, 0)] (by decide), ⟨0, rfl, rfl⟩, by show List.Nodup [0]; decide⟩, rfl, ?_⟩
    show ((List.replicate n (4 : Int)).length : Int) + 0 = (n : Int)
    omega
  · refine ⟨⟨fun z => (nomatch z), okq [(false, 0)] (by decide), ⟨0, rfl, rfl⟩, by show List.Nodup [0]; decide⟩, rfl, ?_⟩
    show (n : Int) - ((List.replicate n (4 : Int)).length : Int) + 0 = 0
    omega
  · exact ⟨⟨fun z => (nomatch z), okq [(true, 3), (false, 2)] (by decide), ⟨0, rfl, rfl, rfl⟩, by show List.Nodup [0, 1]; decide⟩, rfl, rfl⟩
  · exact ⟨⟨fun z => (nomatch z), okq [(true, 1), (true, 2)] (by decide), ⟨1, rfl, rfl, rfl⟩, by show List.Nodup [1, 0]; decide⟩, rfl, rfl⟩
  · exact ⟨⟨fun z => (nomatch z), okq [(false, 1), (true, 1)] (by decide), ⟨0, rfl, rfl, rfl⟩, by show List.Nodup [0, 1]; decide⟩, rfl, rfl⟩
  · exact ⟨⟨fun z => (nomatch z), okq [(true, 4), (false, 4)] (by decide), ⟨1, rfl, rfl, rfl⟩, by show List.Nodup [1, 2]; decide⟩, rfl, rfl⟩
def iP (n : Nat) (q : Qd) : PV := idP (caC n) q
def xx (n : Nat) : List PV := [.tup [iP n (true, 0), iP n (true, 0)], .tup [iP n (true, 2)], .tup [iP n (true, 2), iP n (true, 4)], .tup [iP n (true, 0), iP n (true, 3), iP n (false, 2)], .tup [iP n (false, 2), iP n (false, 2)], .lst [iP n (true, 0)], .tup [.tup [.str "along", .bl false, .int 0, .int 0]], iP n (true, 0)]
theorem xx_ok (n : Nat) : ∀ x ∈ xx n, OkP x ∧ rgB (caC n) x = false := by
  intro x hx
  have ids : ∀ R : List Qd, R.length ≤ 200 → OkP (rgP (caC n) R) := fun R h => okp_rg h
  simp only [xx, List.mem_cons, List.not_mem_nil, or_false] at hx
  rcases hx with rfl | rfl | rfl | rfl | rfl | rfl | rfl | rfl
  · refine ⟨ids [(true, 0), (true, 0)] (by decide), rgB_no (R := [(true, 0), (true, 0)]) fun h => ?_⟩
    have : List.Nodup [0, 0] := h.nd
    exact absurd this (by decide)
  · refine ⟨ids [(true, 2)] (by decide), rgB_no (R := [(true, 2)]) fun h => ?_⟩
    obtain ⟨x, h1, h2⟩ := h.cl
    have h1' : 0 = x := h1
    have h2' : 1 = x := h2
    omega
  · refine ⟨ids [(true, 2), (true, 4)] (by decide), rgB_no (R := [(true, 2), (true, 4)]) fun h => ?_⟩
    obtain ⟨x, h1, h2, h3⟩ := h.cl
    have h1' : 0 = x := h1
    have h2' : 2 = x := h3
    omega
  · refine ⟨ids [(true, 0), (true, 3), (false, 2)] (by decide), rgB_no (R := [(true, 0), (true, 3), (false, 2)]) fun h => ?_⟩
    have : List.Nodup [0, 0, 1] := h.nd
    exact absurd this (by decide)
  · refine ⟨ids [(false, 2), (false, 2)] (by decide), rgB_no (R := [(false, 2), (false, 2)]) fun h => ?_⟩
    have : List.Nodup [1, 1] := h.nd
    exact absurd this (by decide)
  · exact ⟨⟨rfl, fun l z => (nomatch z), fun l z => (nomatch z)⟩, rgB_f fun R e hR => by cases e⟩
  · refine ⟨OkP.of (fun x hx => ?_) (by decide), rgB_f fun R e hR => ?_⟩
    · rw [List.mem_singleton.mp hx]
      refine IG.tup fun y hy => ?_
      simp only [List.mem_cons, List.not_mem_nil, or_false] at hy
      rcases hy with rfl | rfl | rfl | rfl <;> exact ⟨by decide +kernel, by decide +kernel⟩
    · cases R with
      | nil => cases e
      | cons q r =>
        have e' : PV.tup [.tup [.str "along", .bl false, .int 0, .int 0]] = .tup (idP (caC n) q :: r.map (idP (caC n))) := e
        injection e' with e1
        injection e1 with e2 _
        unfold idP at e2
        injection e2 with e3
        injection e3 with _ e4
        injection e4 with e5 _
        cases e5
  · refine ⟨OkP.of (fun x hx => ?_) (by show 4 ≤ 900; decide), rgB_f fun R e hR => ?_⟩
    · have hx' : x ∈ [PV.str (nmQ true), .int 0, .int 0, .int 0] := hx
      simp only [List.mem_cons, List.not_mem_nil, or_false] at hx'
      rcases hx' with rfl | rfl | rfl | rfl <;> exact ⟨by decide +kernel, fun l z => nomatch z⟩
    · cases R with
      | nil => cases e
      | cons q r =>
        have e' : PV.tup [.str (nmQ true), .int 0, .int 0, .int 0] = .tup (idP (caC n) q :: r.map (idP (caC n))) := e
        injection e' with e1
        injection e1 with e2 _
        cases e2
end K13
end Sm

namespace Sm
namespace K13
open PySem L2
variable {E : Ex → List MV → Prop} {Q : MV → List MV → Prop} {ms : List PV} {cs : List Ch} {sl : List Int}
def lwB : Fr → SO := (sSeq (sSet 3 (eCallB 4 g__law_net (bName 1 (bVal (eBin gAdd (eC (.int 1)) (eCallB 2 g__law_spin (bName 1 (bVal (eC (.int 8)) bNil)))) (bVal (eC (.int 4)) (bVal (eBin gGt (eCallB 2 g__law_spin (bName 1 (bVal (eC (.int 4)) bNil))) (eC (.int 0))) bNil))))))
  (sIf (bNot (bTru (eCallB 3 g__law_asked (bName 1 (bVal (eV 3) (bVal (eC (.int 3)) bNil)))))) (sRet (eC (.bl false))) sNil))
def lwR : Fr → SO := (sSeq (sSet 12 (eTup (aCons (eCallP 2 g_is_ring (aPrm 2 [1, 0] (aCons (eV 9) (aCons (eV 3) aNil)))) (aCons (eCallP 2 g_ring_delay (aPrm 2 [1, 0] (aCons (eV 9) (aCons (eV 3) aNil)))) (aCons (eCallP 3 g_ring_tokens (aPrm 3 [2, 1, 0] (aCons (eV 9) (aCons (eV 6) (aCons (eV 3) aNil))))) aNil)))))
  (sIf (bNot (bTru (eCallP 2 g__law_same (aCons (eV 12) (aCons (eTup (aCons (eC (.bl true)) (aCons (eV 10) (aCons (eV 11) aNil)))) aNil))))) (sRet (eC (.bl false))) sNil))
def lwT : Fr → SO := (sIf (bCmp gIsNot (eCallP 2 g_is_ring (aCons (eV 3) (aCons (eV 13) aNil))) (eC (.bl false))) (sRet (eC (.bl false))) sNil)
def lwZ : Fr → SO := (sRet (eOr (eBin gNe (eCallB 2 g__law_spin (bName 1 (bVal (eC (.int 13)) bNil))) (eC (.int 9))) (eCallB 3 g__law_asked (bName 1 (bVal (eCallB 4 g__law_net (bName 1 (bVal (eC (.int 40)) (bVal (eC (.int 8)) (bVal (eC (.bl true)) bNil))))) (bVal (eC (.int 4)) bNil))))))
def lwY : Fr → SO := (sSeq (sIf (bNot (bTru (eCallP 2 g__law_same (aCons (eCallP 3 g_arc_weight (aPrm 3 [2, 1, 0] (aCons (eIx (eV 7) (eC (.int 3))) (aCons (eV 6) (aCons (eV 3) aNil))))) (aCons (eTup (aCons (eC (.int 1)) (aCons (eC (.int 2)) aNil))) aNil))))) (sRet (eC (.bl false))) sNil)
  lwZ)
def lwX : Fr → SO := (sSeq (sForE (eLst (aCons (eBin gRep (eSl (eV 7) (some (eC (.int 5))) (some (eC (.int 6)))) (eC (.int 2))) (aCons (eTup (aCons (eIx (eV 7) (eC (.int 7))) aNil)) (aCons (eTup (aCons (eIx (eV 7) (eC (.int 7))) (aCons (eIx (eV 7) (eC (.int 9))) aNil))) (aCons (eTup (aCons (eIx (eV 7) (eC (.int 5))) (aCons (eIx (eV 7) (eC (.int 8))) (aCons (eIx (eV 7) (eC (.int 2))) aNil)))) (aCons (eTup (aCons (eIx (eV 7) (eC (.int 2))) (aCons (eIx (eV 7) (eC (.int 2))) aNil))) (aCons (eFz (eLst (aCons (eIx (eV 7) (eC (.int 5))) aNil))) (aCons (eTup (aCons (eTup (aCons (eC (.str "along")) (aCons (eC (.bl false)) (aCons (eC (.int 0)) (aCons (eC (.int 0)) aNil))))) aNil)) (aCons (eIx (eV 7) (eC (.int 5))) aNil))))))))) (gtN 13)  lwT)
  lwY)
def lwW : Fr → SO := (sSeq (sSet 8 (eFz (eLst (aCons (eTup (aCons (eTup (aCons (eIx (eV 7) (eC (.int 5))) aNil)) (aCons (eC (.int 1)) (aCons (eV 4) aNil)))) (aCons (eTup (aCons (eTup (aCons (eIx (eV 7) (eC (.int 0))) aNil)) (aCons (eC (.int 1)) (aCons (eC (.int 0)) aNil)))) (aCons (eTup (aCons (eTup (aCons (eIx (eV 7) (eC (.int 8))) (aCons (eIx (eV 7) (eC (.int 2))) aNil))) (aCons (eC (.int 8)) (aCons (eC (.int 3)) aNil)))) (aCons (eTup (aCons (eTup (aCons (eIx (eV 7) (eC (.int 6))) (aCons (eIx (eV 7) (eC (.int 7))) aNil))) (aCons (eC (.int 5)) (aCons (eC (.int 1)) aNil)))) (aCons (eTup (aCons (eTup (aCons (eIx (eV 7) (eC (.int 1))) (aCons (eIx (eV 7) (eC (.int 6))) aNil))) (aCons (eC (.int 4)) (aCons (eC (.int 2)) aNil)))) (aCons (eTup (aCons (eTup (aCons (eIx (eV 7) (eC (.int 9))) (aCons (eIx (eV 7) (eC (.int 4))) aNil))) (aCons (eC (.int 4)) (aCons (eC (.int 9)) aNil)))) aNil)))))))))
  (sSeq (sForE (eV 8) (gtT 3 (gsCons (gtN 9) (gsCons (gtN 10) (gsCons (gtN 11) gsNil))))  lwR)
  lwX))
def lwV : Fr → SO := (sSeq (sIf (bNot (bTru (eCallP 2 g__law_same (aCons (eCallP 2 g_arcs_of (aPrm 2 [1, 0] (aCons (eV 6) (aCons (eV 3) aNil)))) (aCons (eV 7) aNil))))) (sRet (eC (.bl false))) sNil)
  lwW)
def lwU : Fr → SO := (sSeq (sSet 4 (eBin gAdd (eC (.int 1)) (eCallB 2 g__law_spin (bName 1 (bVal (eC (.int 8)) bNil)))))
  (sSeq (sSet 5 (eTup (aCons (eTup (aCons (eC (.str "add")) (aCons (eTup (aCons (eC .non) (aCons (eC .non) aNil))) aNil))) (aCons (eTup (aCons (eC (.str "mul")) (aCons (eTup (aCons (eC .non) (aCons (eC .non) aNil))) aNil))) (aCons (eTup (aCons (eC (.str "out")) (aCons (eTup (aCons (eC .non) aNil)) aNil))) aNil)))))
  (sSeq (sSet 3 (eTup (aCons (eV 5) (aCons (eTup (aCons (eTup (aCons (eC (.int 0)) (aCons (eC (.int 0)) (aCons (eC (.int 0)) (aCons (eC (.int 1)) (aCons (eBin gRep (eTup (aCons (eC (.int 4)) aNil)) (eV 4)) aNil)))))) (aCons (eTup (aCons (eC (.int 1)) (aCons (eC (.int 0)) (aCons (eC (.int 1)) (aCons (eC (.int 3)) (aCons (eTup (aCons (eC (.int 5)) aNil)) aNil)))))) (aCons (eTup (aCons (eC (.int 0)) (aCons (eC (.int 1)) (aCons (eC (.int 0)) (aCons (eC (.int 2)) (aCons (eTup aNil) aNil)))))) (aCons (eTup (aCons (eC (.int 0)) (aCons (eC (.int 1)) (aCons (eC (.int 1)) (aCons (eC (.int 7)) (aCons (eTup (aCons (eC (.int 6)) (aCons (eC (.int 6)) aNil))) aNil)))))) (aCons (eTup (aCons (eC (.int 1)) (aCons (eC (.int 2)) (aCons (eC (.int 0)) (aCons (eC (.int 3)) (aCons (eTup aNil) aNil)))))) aNil)))))) aNil))))
  (sSeq (sSet 6 (eTup (aCons (eV 4) (aCons (eC (.int 2)) (aCons (eC (.int 1)) (aCons (eC (.int 4)) (aCons (eC (.int 9)) aNil)))))))
  (sSeq (sSet 7 (eTup (aCons (eTup (aCons (eC (.str "against")) (aCons (eC (.int 0)) (aCons (eC (.int 0)) (aCons (eC (.int 0)) aNil))))) (aCons (eTup (aCons (eC (.str "against")) (aCons (eC (.int 1)) (aCons (eC (.int 0)) (aCons (eC (.int 1)) aNil))))) (aCons (eTup (aCons (eC (.str "against")) (aCons (eC (.int 2)) (aCons (eC (.int 1)) (aCons (eC (.int 0)) aNil))))) (aCons (eTup (aCons (eC (.str "against")) (aCons (eC (.int 3)) (aCons (eC (.int 1)) (aCons (eC (.int 0)) aNil))))) (aCons (eTup (aCons (eC (.str "against")) (aCons (eC (.int 4)) (aCons (eC (.int 2)) (aCons (eC (.int 1)) aNil))))) aNil)))))))
  (sSeq (sSet 7 (eBin gAdd (eV 7) (eTup (aCons (eTup (aCons (eC (.str "along")) (aCons (eC (.int 0)) (aCons (eC (.int 0)) (aCons (eC (.int 0)) aNil))))) (aCons (eTup (aCons (eC (.str "along")) (aCons (eC (.int 1)) (aCons (eC (.int 1)) (aCons (eC (.int 0)) aNil))))) (aCons (eTup (aCons (eC (.str "along")) (aCons (eC (.int 2)) (aCons (eC (.int 0)) (aCons (eC (.int 1)) aNil))))) (aCons (eTup (aCons (eC (.str "along")) (aCons (eC (.int 3)) (aCons (eC (.int 0)) (aCons (eC (.int 1)) aNil))))) (aCons (eTup (aCons (eC (.str "along")) (aCons (eC (.int 4)) (aCons (eC (.int 1)) (aCons (eC (.int 2)) aNil))))) aNil))))))))
  lwV))))))
theorem lw_eq : s_law = (sSeq (sSet 1 (eLst (aCons (eV 0) (aCons (eC (.int 0)) (aCons (eC (.int 0)) (aCons (eC (.int 0)) (aCons (eC (.int 0)) aNil)))))))
  (sSeq (sForE (eBu gRange (aCons (eC (.int 3)) aNil)) (gtN 2)  lwB)
  lwU)) := rfl

def lwF (s : PV) (P : List PV) (s2 s3 s4 s5 s6 s7 s8 s9 s10 s11 s12 s13 : Sl) : Fr := [.ow (.pv s), .ow (.pl P), s2, s3, s4, s5, s6, s7, s8, s9, s10, s11, s12, s13]
theorem lwB_ok {o : Po} {s : PV} {P : List PV} {s2 s3 s4 s5 s6 s7 s8 s9 s10 s11 s12 s13 : Sl} (hP : CrL P) (f3 : fre s3) (h : ∀ P' s3, CrL P' → fre s3 → o.nx (lwF s P' s2 s3 s4 s5 s6 s7 s8 s9 s10 s11 s12 s13)) : wS (lwB (lwF s P s2 s3 s4 s5 s6 s7 s8 s9 s10 s11 s12 s13)) o := by
  unfold lwB lwF
  top_name
  refine w_spin hP (by decide) (by decide) fun v P1 a1 b1 hP1 => ?_
  top_name
  refine w_spin hP1 (by decide) (by decide) fun u P2 a2 b2 hP2 => ?_
  top_name
  obtain ⟨n, en⟩ : ∃ n : Nat, 1 + v = (n : Int) := ⟨(1 + v).toNat, by omega⟩
  rw [en]
  refine w_net hP2 (by omega) (by omega) (by decide) (by decide) fun P3 ms cs hP3 _ W _ => ?_
  top_name
  refine w_asked (la := 3) W hP3 (by decide) fun P4 hP4 => ?_
  top_name
  exact h P4 _ hP4 (fre_ow _)
theorem lwZ_ok {o : Po} {s : PV} {P : List PV} {s2 s3 s4 s5 s6 s7 s8 s9 s10 s11 s12 s13 : Sl} (hP : CrL P) (q : ∀ f, f[0]? = some (.ow (.pv s)) → o.rt (.pv (.bl true)) f) : wS (lwZ (lwF s P s2 s3 s4 s5 s6 s7 s8 s9 s10 s11 s12 s13)) o := by
  unfold lwZ lwF
  top_name
  refine w_spin hP (by decide) (by decide) fun v P1 a1 b1 hP1 => ?_
  top_name
  refine br_i (fun hz => ?_) fun hz => ?_
  · top_name
    refine w_net (n := 40) (mo := 8) (bk := true) hP1 (by decide) (by decide) (by decide) (by decide) fun P2 ms cs hP2 _ W _ => ?_
    top_name
    refine w_asked (la := 4) W hP2 (by decide) fun P4 hP4 => ?_
    top_name
    exact q _ rfl
  · top_name
    exact q _ rfl
theorem lwY_ok {o : Po} {s : PV} {P : List PV} {n : Nat} {s2 s4 s5 s8 s9 s10 s11 s12 s13 : Sl} (h1 : 1 ≤ n) (h8 : n ≤ 8) (hP : CrL P) (q : ∀ f, f[0]? = some (.ow (.pv s)) → o.rt (.pv (.bl true)) f) :
    wS (lwY (lwF s P s2 (.ow (.pv (netP caM (caC n)))) s4 s5 (.ow (.pv (slP (caS n)))) (.ow (.pv (.tup ((allQ (caC n)).map (idP (caC n)))))) s8 s9 s10 s11 s12 s13)) o := by
  have hD : (allQ (caC n)).map (idP (caC n)) = [iP n (false, 0), iP n (false, 1), iP n (false, 2), iP n (false, 3), iP n (false, 4), iP n (true, 0), iP n (true, 1), iP n (true, 2), iP n (true, 3), iP n (true, 4)] := rfl
  unfold lwY lwF
  rw [hD]
  top_name
  refine w_aw (q := (false, 3)) (cs := caC n) (sl := caS n) rfl (by show 3 < 5; decide) ?_
  top_name
  refine same_ok (p := .tup [.int 1, .int 2]) rfl (Nat.le_of_ble_eq_true rfl) ?_
  top_name
  exact lwZ_ok hP q
theorem lwX_ok {o : Po} {s : PV} {P : List PV} {n : Nat} {s2 s4 s5 s8 s9 s10 s11 s12 : Sl} (h1 : 1 ≤ n) (h8 : n ≤ 8) (hP : CrL P) (q : ∀ f, f[0]? = some (.ow (.pv s)) → o.rt (.pv (.bl true)) f) :
    wS (lwX (lwF s P s2 (.ow (.pv (netP caM (caC n)))) s4 s5 (.ow (.pv (slP (caS n)))) (.ow (.pv (.tup ((allQ (caC n)).map (idP (caC n)))))) s8 s9 s10 s11 s12 .no)) o := by
  have hD : (allQ (caC n)).map (idP (caC n)) = [iP n (false, 0), iP n (false, 1), iP n (false, 2), iP n (false, 3), iP n (false, 4), iP n (true, 0), iP n (true, 1), iP n (true, 2), iP n (true, 3), iP n (true, 4)] := rfl
  unfold lwX lwF
  rw [hD]
  top_name
  have hx : (PV.tup (List.replicate (Int.toNat 2) (cutP [iP n (false, 0), iP n (false, 1), iP n (false, 2), iP n (false, 3), iP n (false, 4), iP n (true, 0), iP n (true, 1), iP n (true, 2), iP n (true, 3), iP n (true, 4)] (some 5) (some 6))).flatten) = .tup [iP n (true, 0), iP n (true, 0)] := rfl
  rw [hx]
  show wS (forL (gtN 13) lwT (xx n) (lwF s P s2 (.ow (.pv (netP caM (caC n)))) s4 s5 (.ow (.pv (slP (caS n)))) (.ow (.pv (.tup ((allQ (caC n)).map (idP (caC n)))))) s8 s9 s10 s11 s12 .no)) _
  refine w_forL (b := lwT) (fun i f => ∃ s13, fre s13 ∧ f = lwF s P s2 (.ow (.pv (netP caM (caC n)))) s4 s5 (.ow (.pv (slP (caS n)))) (.ow (.pv (.tup ((allQ (caC n)).map (idP (caC n)))))) s8 s9 s10 s11 s12 s13) (xx n) 0 _ ⟨.no, fre_no, rfl⟩ (fun i p f hp ⟨s13, f13, hf⟩ => ?_) fun f ⟨s13, f13, hf⟩ => ?_
  · subst hf
    obtain ⟨ok, hr⟩ := xx_ok n p (List.mem_of_getElem? hp)
    refine ⟨_, gtN_at rfl f13, ?_⟩
    unfold lwT lwF
    top_name
    refine w_isringP (ca_wn h8) ok ?_
    rw [hr]
    top_name
    change br true _ _
    top_name
    exact ⟨_, fre_ow (.pv p), rfl⟩
  · subst hf
    exact lwY_ok h1 h8 hP q
theorem lwW_ok {o : Po} {s : PV} {P : List PV} {n : Nat} {s2 s5 : Sl} (h1 : 1 ≤ n) (h8 : n ≤ 8) (hP : CrL P) (q : ∀ f, f[0]? = some (.ow (.pv s)) → o.rt (.pv (.bl true)) f) :
    wS (lwW (lwF s P s2 (.ow (.pv (netP caM (caC n)))) (.ow (.pv (.int (n : Int)))) s5 (.ow (.pv (slP (caS n)))) (.ow (.pv (.tup ((allQ (caC n)).map (idP (caC n)))))) .no .no .no .no .no .no)) o := by
  have hD : (allQ (caC n)).map (idP (caC n)) = [iP n (false, 0), iP n (false, 1), iP n (false, 2), iP n (false, 3), iP n (false, 4), iP n (true, 0), iP n (true, 1), iP n (true, 2), iP n (true, 3), iP n (true, 4)] := rfl
  unfold lwW lwF
  rw [hD]
  top_name
  show wS (forL (gtT 3 (gsCons (gtN 9) (gsCons (gtN 10) (gsCons (gtN 11) gsNil)))) lwR ((rr n).map (rrP n)) (lwF s P s2 (.ow (.pv (netP caM (caC n)))) (.ow (.pv (.int (n : Int)))) s5 (.ow (.pv (slP (caS n)))) (.ow (.pv (.tup ((allQ (caC n)).map (idP (caC n)))))) (.ow (.pv (.lst ((rr n).map (rrP n))))) .no .no .no .no .no)) _
  refine w_forL (b := lwR) (fun i f => ∃ s9 s10 s11 s12, fre s9 ∧ fre s10 ∧ fre s11 ∧ fre s12 ∧ f = lwF s P s2 (.ow (.pv (netP caM (caC n)))) (.ow (.pv (.int (n : Int)))) s5 (.ow (.pv (slP (caS n)))) (.ow (.pv (.tup ((allQ (caC n)).map (idP (caC n)))))) (.ow (.pv (.lst ((rr n).map (rrP n))))) s9 s10 s11 s12 .no) ((rr n).map (rrP n)) 0 _ ⟨.no, .no, .no, .no, fre_no, fre_no, fre_no, fre_no, rfl⟩ (fun i p f hp ⟨s9, s10, s11, s12, f9, f10, f11, f12, hf⟩ => ?_) fun f ⟨s9, s10, s11, s12, f9, f10, f11, f12, hf⟩ => ?_
  · subst hf
    rw [List.getElem?_map] at hp
    obtain ⟨x, hx, rfl⟩ := Option.map_eq_some_iff.mp hp
    obtain ⟨hR, hd, hk⟩ := rr_ok n x (List.mem_of_getElem? hx)
    have W := ca_wn h8
    have hl : x.1.length ≤ 200 := by
      have := hR.len W
      have e3 : caM.length = 3 := rfl
      omega
    refine ⟨_, gt3_at (gsC_at (s := s9) rfl f9 (gsC_at (s := s10) rfl f10 (gsC_at (s := s11) rfl f11 rfl))), ?_⟩
    unfold lwR lwF
    top_name
    refine w_isringP W (okp_rg hl) ?_
    rw [rgB_t rfl hR]
    top_name
    refine w_rdelay hR.ok (by omega) ?_
    rw [hd]
    top_name
    refine w_rtok (ca_sl n) hR.ok (by omega) ?_
    rw [hk]
    top_name
    refine same_ok (p := .tup [.bl true, .int x.2.1, .int x.2.2]) rfl (Nat.le_of_ble_eq_true rfl) ?_
    top_name
    exact ⟨_, _, _, _, fre_ow _, fre_ow _, fre_ow _, fre_ow _, rfl⟩
  · subst hf
    exact lwX_ok h1 h8 hP q
theorem lwV_ok {o : Po} {s : PV} {P : List PV} {n : Nat} {s2 s5 : Sl} (h1 : 1 ≤ n) (h8 : n ≤ 8) (hP : CrL P) (q : ∀ f, f[0]? = some (.ow (.pv s)) → o.rt (.pv (.bl true)) f) :
    wS (lwV (lwF s P s2 (.ow (.pv (netP caM (caC n)))) (.ow (.pv (.int (n : Int)))) s5 (.ow (.pv (slP (caS n)))) (.ow (.pv (.tup ((allQ (caC n)).map (idP (caC n)))))) .no .no .no .no .no .no)) o := by
  unfold lwV lwF
  top_name
  refine w_arcsof (ca_wn h8).c1 ?_
  top_name
  refine same_ok (dat_ids _) (nods_ids _ (by show 10 ≤ 700; decide)) ?_
  top_name
  exact lwW_ok h1 h8 hP q
theorem rep_it4 (k : Nat) (hk : k ≤ 900) : gRep (.tup [.int 4]) (.int (k : Int)) = some (itP (List.replicate k 4)) := by
  show (if [PV.int 4] ≠ [] ∧ 0 ≤ (k : Int) ∧ (k : Int) ≤ 1000 ∧ [PV.int 4].length ≤ 1000 then some (PV.tup (List.replicate ((k : Int)).toNat [PV.int 4]).flatten) else none) = _
  rw [if_pos ⟨fun z => (nomatch z), by omega, by omega, by decide⟩, rep_one, Int.toNat_natCast]
  unfold itP
  rw [List.map_replicate]
theorem lwU_ok {o : Po} {s : PV} {P : List PV} {s2 s3 : Sl} (hP : CrL P) (f3 : fre s3) (q : ∀ f, f[0]? = some (.ow (.pv s)) → o.rt (.pv (.bl true)) f) :
    wS (lwU (lwF s P s2 s3 .no .no .no .no .no .no .no .no .no .no)) o := by
  unfold lwU lwF
  top_name
  refine w_spin hP (by decide) (by decide) fun v P1 a1 b1 hP1 => ?_
  top_name
  obtain ⟨n, en⟩ : ∃ n : Nat, 1 + v = (n : Int) := ⟨(1 + v).toNat, by omega⟩
  rw [en]
  refine w_opO (rep_it4 n (by omega)) ?_
  top_name
  exact lwV_ok (P := P1) (n := n) (by omega) (by omega) hP1 q
theorem law_ok (ns : List Int) (hl : ns.length ≤ 63) : wF (g_law [.pv (.lst (ns.map PV.int))]) (fun _ _ => False) fun r os => r = .pv (.bl true) := by
  refine w_runB ?_
  show wS (s_law [.ow (.pv (.lst (ns.map PV.int))), .no, .no, .no, .no, .no, .no, .no, .no, .no, .no, .no, .no, .no]) _
  rw [lw_eq]
  top_name
  refine w_forL (b := lwB) (fun i f => ∃ P' s2 s3, CrL P' ∧ fre s2 ∧ fre s3 ∧ f = lwF (.lst (ns.map PV.int)) P' s2 s3 .no .no .no .no .no .no .no .no .no .no) (rgPs 0 3) 0 _ ⟨_, .no, .no, cr0 ns, fre_no, fre_no, rfl⟩ (fun i p f hp ⟨P', s2, s3, hP', f2, f3, hf⟩ => ?_) fun f ⟨P', s2, s3, hP', f2, f3, hf⟩ => ?_
  · subst hf
    refine ⟨_, gtN_at rfl f2, ?_⟩
    exact lwB_ok hP' f3 fun P2 s3 hP2 f3 => ⟨P2, _, s3, hP2, fre_ow _, f3, rfl⟩
  · subst hf
    refine lwU_ok (s := .lst (ns.map PV.int)) hP' f3 fun f hf => ?_
    match f, hf with
    | a :: f, hf =>
      cases hf
      exact ⟨_, rfl, rfl⟩
theorem plain (ns : List Int) (hl : ns.length ≤ 63) : ∃ os, g_law [.pv (.lst (ns.map PV.int))] = .ret (.pv (.bl true)) os := by
  obtain ⟨r, os, e, er⟩ := wF_ret (law_ok ns hl)
  subst er
  exact ⟨os, e⟩
end K13
end Sm


namespace Sm
namespace K13
open PySem L2 PyProof.Rows
def spLaw (K : PySem.W.Frag) : Sp := fun vs H Q _ => ∃ (a : Addr) (ns : List Int), vs = [.ref a] ∧ SqL K H a (ns.map V.int) ∧ ns.length ≤ 63 ∧ ∀ H', Q (.bl true) H'
theorem all_mk {l : PySem.W.OpenLaw} {w : World} {K : PySem.W.Frag} {h : Heap} {mg : Str → Option Value} {fa : Addr} {f0 f1 f2 f3 f4 f5 f6 f7 f8 f9 f10 f11 f12 f13 f14 f15 f16 f17 f18 f19 f20 f21 f22 f23 f24 : Addr} {od0 an0 od1 an1 od2 an2 od3 an3 od4 an4 od5 an5 od6 an6 od7 an7 od8 an8 od9 an9 od10 an10 od11 an11 od12 an12 od13 an13 od14 an14 od15 an15 od16 an16 od17 an17 od18 an18 od19 an19 od20 an20 od21 an21 od22 an22 od23 an23 od24 an24 : Option Addr} {sl0 sl1 sl2 sl3 sl4 sl5 sl6 sl7 sl8 sl9 sl10 sl11 sl12 sl13 sl14 sl15 sl16 sl17 sl18 sl19 sl20 sl21 sl22 sl23 sl24 : Array (Option Value)} {oc0 kV0 dc0 pm0 cd0 ct0 oc1 kV1 dc1 pm1 cd1 ct1 oc2 kV2 dc2 pm2 cd2 ct2 oc3 kV3 dc3 pm3 cd3 ct3 oc4 kV4 dc4 pm4 cd4 ct4 oc5 kV5 dc5 pm5 cd5 ct5 oc6 kV6 dc6 pm6 cd6 ct6 oc7 kV7 dc7 pm7 cd7 ct7 oc8 kV8 dc8 pm8 cd8 ct8 oc9 kV9 dc9 pm9 cd9 ct9 oc10 kV10 dc10 pm10 cd10 ct10 oc11 kV11 dc11 pm11 cd11 ct11 oc12 kV12 dc12 pm12 cd12 ct12 oc13 kV13 dc13 pm13 cd13 ct13 oc14 kV14 dc14 pm14 cd14 ct14 oc15 kV15 dc15 pm15 cd15 ct15 oc16 kV16 dc16 pm16 cd16 ct16 oc17 kV17 dc17 pm17 cd17 ct17 oc18 kV18 dc18 pm18 cd18 ct18 oc19 kV19 dc19 pm19 cd19 ct19 oc20 kV20 dc20 pm20 cd20 ct20 oc21 kV21 dc21 pm21 cd21 ct21 oc22 kV22 dc22 pm22 cd22 ct22 oc23 kV23 dc23 pm23 cd23 ct23 oc24 kV24 dc24 pm24 cd24 ct24 : Value} (X : K.In h) (G : h.Ns mainGlobals mg) (hfa : mg "law" = some (.ref fa))
    (a0 : PySem.W.nsIn K mainGlobals "is_row" = some (some (.ref f0)))
    (l0 : K.lookup f0 = some ⟨oc0, od0, .func (PySem.W.fnOf "is_row" "is_row" (defArgs d_is_row) (defBody d_is_row) (defScope d_is_row) .none kV0 dc0 pm0 an0 cd0 ct0), sl0⟩)
    (c0 : PySem.W.codeIn K cd0 "is_row" = true)
    (k0 : PySem.W.keepIn K (.ref f0) = true)
    (a1 : PySem.W.nsIn K mainGlobals "along" = some (some (.ref f1)))
    (l1 : K.lookup f1 = some ⟨oc1, od1, .func (PySem.W.fnOf "along" "along" (defArgs d_along) (defBody d_along) (defScope d_along) .none kV1 dc1 pm1 an1 cd1 ct1), sl1⟩)
    (c1 : PySem.W.codeIn K cd1 "along" = true)
    (k1 : PySem.W.keepIn K (.ref f1) = true)
    (a2 : PySem.W.nsIn K mainGlobals "against" = some (some (.ref f2)))
    (l2 : K.lookup f2 = some ⟨oc2, od2, .func (PySem.W.fnOf "against" "against" (defArgs d_against) (defBody d_against) (defScope d_against) .none kV2 dc2 pm2 an2 cd2 ct2), sl2⟩)
    (c2 : PySem.W.codeIn K cd2 "against" = true)
    (k2 : PySem.W.keepIn K (.ref f2) = true)
    (a3 : PySem.W.nsIn K mainGlobals "all_arcs" = some (some (.ref f3)))
    (l3 : K.lookup f3 = some ⟨oc3, od3, .func (PySem.W.fnOf "all_arcs" "all_arcs" (defArgs d_all_arcs) (defBody d_all_arcs) (defScope d_all_arcs) .none kV3 dc3 pm3 an3 cd3 ct3), sl3⟩)
    (c3 : PySem.W.codeIn K cd3 "all_arcs" = true)
    (k3 : PySem.W.keepIn K (.ref f3) = true)
    (a4 : PySem.W.nsIn K mainGlobals "arcs_of" = some (some (.ref f4)))
    (l4 : K.lookup f4 = some ⟨oc4, od4, .func (PySem.W.fnOf "arcs_of" "arcs_of" (defArgs d_arcs_of) (defBody d_arcs_of) (defScope d_arcs_of) .none kV4 dc4 pm4 an4 cd4 ct4), sl4⟩)
    (c4 : PySem.W.codeIn K cd4 "arcs_of" = true)
    (k4 : PySem.W.keepIn K (.ref f4) = true)
    (a5 : PySem.W.nsIn K mainGlobals "arc_delay" = some (some (.ref f5)))
    (l5 : K.lookup f5 = some ⟨oc5, od5, .func (PySem.W.fnOf "arc_delay" "arc_delay" (defArgs d_arc_delay) (defBody d_arc_delay) (defScope d_arc_delay) .none kV5 dc5 pm5 an5 cd5 ct5), sl5⟩)
    (c5 : PySem.W.codeIn K cd5 "arc_delay" = true)
    (k5 : PySem.W.keepIn K (.ref f5) = true)
    (a6 : PySem.W.nsIn K mainGlobals "arc_tokens" = some (some (.ref f6)))
    (l6 : K.lookup f6 = some ⟨oc6, od6, .func (PySem.W.fnOf "arc_tokens" "arc_tokens" (defArgs d_arc_tokens) (defBody d_arc_tokens) (defScope d_arc_tokens) .none kV6 dc6 pm6 an6 cd6 ct6), sl6⟩)
    (c6 : PySem.W.codeIn K cd6 "arc_tokens" = true)
    (k6 : PySem.W.keepIn K (.ref f6) = true)
    (a7 : PySem.W.nsIn K mainGlobals "arc_weight" = some (some (.ref f7)))
    (l7 : K.lookup f7 = some ⟨oc7, od7, .func (PySem.W.fnOf "arc_weight" "arc_weight" (defArgs d_arc_weight) (defBody d_arc_weight) (defScope d_arc_weight) .none kV7 dc7 pm7 an7 cd7 ct7), sl7⟩)
    (c7 : PySem.W.codeIn K cd7 "arc_weight" = true)
    (k7 : PySem.W.keepIn K (.ref f7) = true)
    (a8 : PySem.W.nsIn K mainGlobals "same_arc" = some (some (.ref f8)))
    (l8 : K.lookup f8 = some ⟨oc8, od8, .func (PySem.W.fnOf "same_arc" "same_arc" (defArgs d_same_arc) (defBody d_same_arc) (defScope d_same_arc) .none kV8 dc8 pm8 an8 cd8 ct8), sl8⟩)
    (c8 : PySem.W.codeIn K cd8 "same_arc" = true)
    (k8 : PySem.W.keepIn K (.ref f8) = true)
    (a9 : PySem.W.nsIn K mainGlobals "is_arc" = some (some (.ref f9)))
    (l9 : K.lookup f9 = some ⟨oc9, od9, .func (PySem.W.fnOf "is_arc" "is_arc" (defArgs d_is_arc) (defBody d_is_arc) (defScope d_is_arc) .none kV9 dc9 pm9 an9 cd9 ct9), sl9⟩)
    (c9 : PySem.W.codeIn K cd9 "is_arc" = true)
    (k9 : PySem.W.keepIn K (.ref f9) = true)
    (a10 : PySem.W.nsIn K mainGlobals "is_ring" = some (some (.ref f10)))
    (l10 : K.lookup f10 = some ⟨oc10, od10, .func (PySem.W.fnOf "is_ring" "is_ring" (defArgs d_is_ring) (defBody d_is_ring) (defScope d_is_ring) .none kV10 dc10 pm10 an10 cd10 ct10), sl10⟩)
    (c10 : PySem.W.codeIn K cd10 "is_ring" = true)
    (k10 : PySem.W.keepIn K (.ref f10) = true)
    (a11 : PySem.W.nsIn K mainGlobals "ring_delay" = some (some (.ref f11)))
    (l11 : K.lookup f11 = some ⟨oc11, od11, .func (PySem.W.fnOf "ring_delay" "ring_delay" (defArgs d_ring_delay) (defBody d_ring_delay) (defScope d_ring_delay) .none kV11 dc11 pm11 an11 cd11 ct11), sl11⟩)
    (c11 : PySem.W.codeIn K cd11 "ring_delay" = true)
    (k11 : PySem.W.keepIn K (.ref f11) = true)
    (a12 : PySem.W.nsIn K mainGlobals "ring_tokens" = some (some (.ref f12)))
    (l12 : K.lookup f12 = some ⟨oc12, od12, .func (PySem.W.fnOf "ring_tokens" "ring_tokens" (defArgs d_ring_tokens) (defBody d_ring_tokens) (defScope d_ring_tokens) .none kV12 dc12 pm12 an12 cd12 ct12), sl12⟩)
    (c12 : PySem.W.codeIn K cd12 "ring_tokens" = true)
    (k12 : PySem.W.keepIn K (.ref f12) = true)
    (a13 : PySem.W.nsIn K mainGlobals "_law_spin" = some (some (.ref f13)))
    (l13 : K.lookup f13 = some ⟨oc13, od13, .func (PySem.W.fnOf "_law_spin" "_law_spin" (defArgs d__law_spin) (defBody d__law_spin) (defScope d__law_spin) .none kV13 dc13 pm13 an13 cd13 ct13), sl13⟩)
    (c13 : PySem.W.codeIn K cd13 "_law_spin" = true)
    (k13 : PySem.W.keepIn K (.ref f13) = true)
    (a14 : PySem.W.nsIn K mainGlobals "_law_same" = some (some (.ref f14)))
    (l14 : K.lookup f14 = some ⟨oc14, od14, .func (PySem.W.fnOf "_law_same" "_law_same" (defArgs d__law_same) (defBody d__law_same) (defScope d__law_same) .none kV14 dc14 pm14 an14 cd14 ct14), sl14⟩)
    (c14 : PySem.W.codeIn K cd14 "_law_same" = true)
    (k14 : PySem.W.keepIn K (.ref f14) = true)
    (a15 : PySem.W.nsIn K mainGlobals "_law_item" = some (some (.ref f15)))
    (l15 : K.lookup f15 = some ⟨oc15, od15, .func (PySem.W.fnOf "_law_item" "_law_item" (defArgs d__law_item) (defBody d__law_item) (defScope d__law_item) .none kV15 dc15 pm15 an15 cd15 ct15), sl15⟩)
    (c15 : PySem.W.codeIn K cd15 "_law_item" = true)
    (k15 : PySem.W.keepIn K (.ref f15) = true)
    (a16 : PySem.W.nsIn K mainGlobals "_law_net" = some (some (.ref f16)))
    (l16 : K.lookup f16 = some ⟨oc16, od16, .func (PySem.W.fnOf "_law_net" "_law_net" (defArgs d__law_net) (defBody d__law_net) (defScope d__law_net) .none kV16 dc16 pm16 an16 cd16 ct16), sl16⟩)
    (c16 : PySem.W.codeIn K cd16 "_law_net" = true)
    (k16 : PySem.W.keepIn K (.ref f16) = true)
    (a17 : PySem.W.nsIn K mainGlobals "_law_slots" = some (some (.ref f17)))
    (l17 : K.lookup f17 = some ⟨oc17, od17, .func (PySem.W.fnOf "_law_slots" "_law_slots" (defArgs d__law_slots) (defBody d__law_slots) (defScope d__law_slots) .none kV17 dc17 pm17 an17 cd17 ct17), sl17⟩)
    (c17 : PySem.W.codeIn K cd17 "_law_slots" = true)
    (k17 : PySem.W.keepIn K (.ref f17) = true)
    (a18 : PySem.W.nsIn K mainGlobals "_law_arcs" = some (some (.ref f18)))
    (l18 : K.lookup f18 = some ⟨oc18, od18, .func (PySem.W.fnOf "_law_arcs" "_law_arcs" (defArgs d__law_arcs) (defBody d__law_arcs) (defScope d__law_arcs) .none kV18 dc18 pm18 an18 cd18 ct18), sl18⟩)
    (c18 : PySem.W.codeIn K cd18 "_law_arcs" = true)
    (k18 : PySem.W.keepIn K (.ref f18) = true)
    (a19 : PySem.W.nsIn K mainGlobals "_law_tokens" = some (some (.ref f19)))
    (l19 : K.lookup f19 = some ⟨oc19, od19, .func (PySem.W.fnOf "_law_tokens" "_law_tokens" (defArgs d__law_tokens) (defBody d__law_tokens) (defScope d__law_tokens) .none kV19 dc19 pm19 an19 cd19 ct19), sl19⟩)
    (c19 : PySem.W.codeIn K cd19 "_law_tokens" = true)
    (k19 : PySem.W.keepIn K (.ref f19) = true)
    (a20 : PySem.W.nsIn K mainGlobals "_law_is_ring" = some (some (.ref f20)))
    (l20 : K.lookup f20 = some ⟨oc20, od20, .func (PySem.W.fnOf "_law_is_ring" "_law_is_ring" (defArgs d__law_is_ring) (defBody d__law_is_ring) (defScope d__law_is_ring) .none kV20 dc20 pm20 an20 cd20 ct20), sl20⟩)
    (c20 : PySem.W.codeIn K cd20 "_law_is_ring" = true)
    (k20 : PySem.W.keepIn K (.ref f20) = true)
    (a21 : PySem.W.nsIn K mainGlobals "_law_drawn_ring" = some (some (.ref f21)))
    (l21 : K.lookup f21 = some ⟨oc21, od21, .func (PySem.W.fnOf "_law_drawn_ring" "_law_drawn_ring" (defArgs d__law_drawn_ring) (defBody d__law_drawn_ring) (defScope d__law_drawn_ring) .none kV21 dc21 pm21 an21 cd21 ct21), sl21⟩)
    (c21 : PySem.W.codeIn K cd21 "_law_drawn_ring" = true)
    (k21 : PySem.W.keepIn K (.ref f21) = true)
    (a22 : PySem.W.nsIn K mainGlobals "_law_bent_ring" = some (some (.ref f22)))
    (l22 : K.lookup f22 = some ⟨oc22, od22, .func (PySem.W.fnOf "_law_bent_ring" "_law_bent_ring" (defArgs d__law_bent_ring) (defBody d__law_bent_ring) (defScope d__law_bent_ring) .none kV22 dc22 pm22 an22 cd22 ct22), sl22⟩)
    (c22 : PySem.W.codeIn K cd22 "_law_bent_ring" = true)
    (k22 : PySem.W.keepIn K (.ref f22) = true)
    (a23 : PySem.W.nsIn K mainGlobals "_law_asked" = some (some (.ref f23)))
    (l23 : K.lookup f23 = some ⟨oc23, od23, .func (PySem.W.fnOf "_law_asked" "_law_asked" (defArgs d__law_asked) (defBody d__law_asked) (defScope d__law_asked) .none kV23 dc23 pm23 an23 cd23 ct23), sl23⟩)
    (c23 : PySem.W.codeIn K cd23 "_law_asked" = true)
    (k23 : PySem.W.keepIn K (.ref f23) = true)
    (a24 : PySem.W.nsIn K mainGlobals "law" = some (some (.ref f24)))
    (l24 : K.lookup f24 = some ⟨oc24, od24, .func (PySem.W.fnOf "law" "law" (defArgs d_law) (defBody d_law) (defScope d_law) .none kV24 dc24 pm24 an24 cd24 ct24), sl24⟩)
    (c24 : PySem.W.codeIn K cd24 "law" = true)
    (k24 : PySem.W.keepIn K (.ref f24) = true)
    (z_len : PySem.W.nsIn K mainGlobals "len" = some none)
    (z_int : PySem.W.nsIn K mainGlobals "int" = some none)
    (z_str : PySem.W.nsIn K mainGlobals "str" = some none)
    (z_bool : PySem.W.nsIn K mainGlobals "bool" = some none)
    (z_tuple : PySem.W.nsIn K mainGlobals "tuple" = some none)
    (z_list : PySem.W.nsIn K mainGlobals "list" = some none)
    (z_max : PySem.W.nsIn K mainGlobals "max" = some none)
    (z_min : PySem.W.nsIn K mainGlobals "min" = some none)
    (z_range : PySem.W.nsIn K mainGlobals "range" = some none)
    (z_isinstance : PySem.W.nsIn K mainGlobals "isinstance" = some none)
    (z_sum : PySem.W.nsIn K mainGlobals "sum" = some none)
    (z_abs : PySem.W.nsIn K mainGlobals "abs" = some none)
    (z_set : PySem.W.nsIn K mainGlobals "set" = some none)
    (z_sorted : PySem.W.nsIn K mainGlobals "sorted" = some none) :
    ∃ fd : FuncData, (∀ (s : Shared) (v : Value), BindsTo s fd ⟨[v], []⟩ [("script", v)]) ∧ ∀ base : Heap, K.In base → base.Ns mainGlobals mg → FnOk l.prog w K mg base (L2.CX l.prog w) 6 fa fd ["script"] (spLaw K) := by
  have e := hfa.symm.trans (PySem.W.mg_of X G a24)
  cases e
  have F0 := fun_mk (st := d_is_row) l0 c0 k0
  have b0 := F0.binds (ps := ["thing", "many"]) fun _ _ _ _ _ _ us hl => match us, hl with | [_, _], _ => rfl
  have F1 := fun_mk (st := d_along) l1 c1 k1
  have b1 := F1.binds (ps := ["network", "channel"]) fun _ _ _ _ _ _ us hl => match us, hl with | [_, _], _ => rfl
  have F2 := fun_mk (st := d_against) l2 c2 k2
  have b2 := F2.binds (ps := ["network", "channel"]) fun _ _ _ _ _ _ us hl => match us, hl with | [_, _], _ => rfl
  have F3 := fun_mk (st := d_all_arcs) l3 c3 k3
  have b3 := F3.binds (ps := ["network"]) fun _ _ _ _ _ _ us hl => match us, hl with | [_], _ => rfl
  have F4 := fun_mk (st := d_arcs_of) l4 c4 k4
  have b4 := F4.binds (ps := ["network", "slots"]) fun _ _ _ _ _ _ us hl => match us, hl with | [_, _], _ => rfl
  have F5 := fun_mk (st := d_arc_delay) l5 c5 k5
  have b5 := F5.binds (ps := ["network", "arc"]) fun _ _ _ _ _ _ us hl => match us, hl with | [_, _], _ => rfl
  have F6 := fun_mk (st := d_arc_tokens) l6 c6 k6
  have b6 := F6.binds (ps := ["network", "slots", "arc"]) fun _ _ _ _ _ _ us hl => match us, hl with | [_, _, _], _ => rfl
  have F7 := fun_mk (st := d_arc_weight) l7 c7 k7
  have b7 := F7.binds (ps := ["network", "slots", "arc"]) fun _ _ _ _ _ _ us hl => match us, hl with | [_, _, _], _ => rfl
  have F8 := fun_mk (st := d_same_arc) l8 c8 k8
  have b8 := F8.binds (ps := ["one", "other"]) fun _ _ _ _ _ _ us hl => match us, hl with | [_, _], _ => rfl
  have F9 := fun_mk (st := d_is_arc) l9 c9 k9
  have b9 := F9.binds (ps := ["network", "thing"]) fun _ _ _ _ _ _ us hl => match us, hl with | [_, _], _ => rfl
  have F10 := fun_mk (st := d_is_ring) l10 c10 k10
  have b10 := F10.binds (ps := ["network", "thing"]) fun _ _ _ _ _ _ us hl => match us, hl with | [_, _], _ => rfl
  have F11 := fun_mk (st := d_ring_delay) l11 c11 k11
  have b11 := F11.binds (ps := ["network", "ring"]) fun _ _ _ _ _ _ us hl => match us, hl with | [_, _], _ => rfl
  have F12 := fun_mk (st := d_ring_tokens) l12 c12 k12
  have b12 := F12.binds (ps := ["network", "slots", "ring"]) fun _ _ _ _ _ _ us hl => match us, hl with | [_, _, _], _ => rfl
  have F13 := fun_mk (st := d__law_spin) l13 c13 k13
  have b13 := F13.binds (ps := ["wheel", "many"]) fun _ _ _ _ _ _ us hl => match us, hl with | [_, _], _ => rfl
  have F14 := fun_mk (st := d__law_same) l14 c14 k14
  have b14 := F14.binds (ps := ["told", "due"]) fun _ _ _ _ _ _ us hl => match us, hl with | [_, _], _ => rfl
  have F15 := fun_mk (st := d__law_item) l15 c15 k15
  have b15 := F15.binds (ps := ["wheel"]) fun _ _ _ _ _ _ us hl => match us, hl with | [_], _ => rfl
  have F16 := fun_mk (st := d__law_net) l16 c16 k16
  have b16 := F16.binds (ps := ["wheel", "many", "most", "back"]) fun _ _ _ _ _ _ us hl => match us, hl with | [_, _, _, _], _ => rfl
  have F17 := fun_mk (st := d__law_slots) l17 c17 k17
  have b17 := F17.binds (ps := ["wheel", "network"]) fun _ _ _ _ _ _ us hl => match us, hl with | [_, _], _ => rfl
  have F18 := fun_mk (st := d__law_arcs) l18 c18 k18
  have b18 := F18.binds (ps := ["network"]) fun _ _ _ _ _ _ us hl => match us, hl with | [_], _ => rfl
  have F19 := fun_mk (st := d__law_tokens) l19 c19 k19
  have b19 := F19.binds (ps := ["network", "slots", "arc"]) fun _ _ _ _ _ _ us hl => match us, hl with | [_, _, _], _ => rfl
  have F20 := fun_mk (st := d__law_is_ring) l20 c20 k20
  have b20 := F20.binds (ps := ["network", "thing"]) fun _ _ _ _ _ _ us hl => match us, hl with | [_, _], _ => rfl
  have F21 := fun_mk (st := d__law_drawn_ring) l21 c21 k21
  have b21 := F21.binds (ps := ["wheel", "network"]) fun _ _ _ _ _ _ us hl => match us, hl with | [_, _], _ => rfl
  have F22 := fun_mk (st := d__law_bent_ring) l22 c22 k22
  have b22 := F22.binds (ps := ["wheel", "network", "ring"]) fun _ _ _ _ _ _ us hl => match us, hl with | [_, _, _], _ => rfl
  have F23 := fun_mk (st := d__law_asked) l23 c23 k23
  have b23 := F23.binds (ps := ["wheel", "network", "laps"]) fun _ _ _ _ _ _ us hl => match us, hl with | [_, _, _], _ => rfl
  have F24 := fun_mk (st := d_law) l24 c24 k24
  refine ⟨PySem.W.fnOf "law" "law" (defArgs d_law) (defBody d_law) (defScope d_law) .none kV24 dc24 pm24 an24 cd24 ct24, fun s v => .of_eq rfl, fun base _ _ => ?_⟩
  have T : Txt l.prog w K mg base fa fa := {
    nlen := PySem.W.mg_none_of X G z_len,
    nint := PySem.W.mg_none_of X G z_int,
    nstr := PySem.W.mg_none_of X G z_str,
    nbool := PySem.W.mg_none_of X G z_bool,
    ntuple := PySem.W.mg_none_of X G z_tuple,
    nlist := PySem.W.mg_none_of X G z_list,
    nmax := PySem.W.mg_none_of X G z_max,
    nmin := PySem.W.mg_none_of X G z_min,
    nrange := PySem.W.mg_none_of X G z_range,
    nisinstance := PySem.W.mg_none_of X G z_isinstance,
    nsum := PySem.W.mg_none_of X G z_sum,
    nabs := PySem.W.mg_none_of X G z_abs,
    nset := PySem.W.mg_none_of X G z_set,
    nsorted := PySem.W.mg_none_of X G z_sorted }
  have D_is_row : Df l.prog w K mg base (caB fa) 1 "is_row" f0 ["thing", "many"] g_is_row := ⟨PySem.W.mg_of X G a0, k0, _, ok_is_row T F0, b0⟩
  have D_along : Df l.prog w K mg base (caB fa) 1 "along" f1 ["network", "channel"] g_along := ⟨PySem.W.mg_of X G a1, k1, _, ok_along T F1, b1⟩
  have D_against : Df l.prog w K mg base (caB fa) 1 "against" f2 ["network", "channel"] g_against := ⟨PySem.W.mg_of X G a2, k2, _, ok_against T F2, b2⟩
  have D_all_arcs : Df l.prog w K mg base (caB fa) 2 "all_arcs" f3 ["network"] g_all_arcs := ⟨PySem.W.mg_of X G a3, k3, _, ok_all_arcs T D_against D_along F3, b3⟩
  have D_arcs_of : Df l.prog w K mg base (caB fa) 3 "arcs_of" f4 ["network", "slots"] g_arcs_of := ⟨PySem.W.mg_of X G a4, k4, _, ok_arcs_of T D_all_arcs F4, b4⟩
  have D_arc_delay : Df l.prog w K mg base (caB fa) 1 "arc_delay" f5 ["network", "arc"] g_arc_delay := ⟨PySem.W.mg_of X G a5, k5, _, ok_arc_delay T F5, b5⟩
  have D_arc_tokens : Df l.prog w K mg base (caB fa) 1 "arc_tokens" f6 ["network", "slots", "arc"] g_arc_tokens := ⟨PySem.W.mg_of X G a6, k6, _, ok_arc_tokens T F6, b6⟩
  have D_arc_weight : Df l.prog w K mg base (caB fa) 2 "arc_weight" f7 ["network", "slots", "arc"] g_arc_weight := ⟨PySem.W.mg_of X G a7, k7, _, ok_arc_weight T D_arc_delay D_arc_tokens F7, b7⟩
  have D_same_arc : Df l.prog w K mg base (caB fa) 2 "same_arc" f8 ["one", "other"] g_same_arc := ⟨PySem.W.mg_of X G a8, k8, _, ok_same_arc T D_is_row F8, b8⟩
  have D_is_arc : Df l.prog w K mg base (caB fa) 3 "is_arc" f9 ["network", "thing"] g_is_arc := ⟨PySem.W.mg_of X G a9, k9, _, ok_is_arc T D_all_arcs D_same_arc F9, b9⟩
  have D_is_ring : Df l.prog w K mg base (caB fa) 4 "is_ring" f10 ["network", "thing"] g_is_ring := ⟨PySem.W.mg_of X G a10, k10, _, ok_is_ring T D_is_arc F10, b10⟩
  have D_ring_delay : Df l.prog w K mg base (caB fa) 2 "ring_delay" f11 ["network", "ring"] g_ring_delay := ⟨PySem.W.mg_of X G a11, k11, _, ok_ring_delay T D_arc_delay F11, b11⟩
  have D_ring_tokens : Df l.prog w K mg base (caB fa) 2 "ring_tokens" f12 ["network", "slots", "ring"] g_ring_tokens := ⟨PySem.W.mg_of X G a12, k12, _, ok_ring_tokens T D_arc_tokens F12, b12⟩
  have D__law_spin : Df l.prog w K mg base (caB fa) 1 "_law_spin" f13 ["wheel", "many"] g__law_spin := ⟨PySem.W.mg_of X G a13, k13, _, ok__law_spin T F13, b13⟩
  have D__law_same : Df l.prog w K mg base (caB fa) 1 "_law_same" f14 ["told", "due"] g__law_same := ⟨PySem.W.mg_of X G a14, k14, _, ok__law_same T F14, b14⟩
  have D__law_item : Df l.prog w K mg base (caB fa) 2 "_law_item" f15 ["wheel"] g__law_item := ⟨PySem.W.mg_of X G a15, k15, _, ok__law_item T D__law_spin F15, b15⟩
  have D__law_net : Df l.prog w K mg base (caB fa) 3 "_law_net" f16 ["wheel", "many", "most", "back"] g__law_net := ⟨PySem.W.mg_of X G a16, k16, _, ok__law_net T D__law_spin D__law_item F16, b16⟩
  have D__law_slots : Df l.prog w K mg base (caB fa) 2 "_law_slots" f17 ["wheel", "network"] g__law_slots := ⟨PySem.W.mg_of X G a17, k17, _, ok__law_slots T D__law_spin F17, b17⟩
  have D__law_arcs : Df l.prog w K mg base (caB fa) 1 "_law_arcs" f18 ["network"] g__law_arcs := ⟨PySem.W.mg_of X G a18, k18, _, ok__law_arcs T F18, b18⟩
  have D__law_tokens : Df l.prog w K mg base (caB fa) 1 "_law_tokens" f19 ["network", "slots", "arc"] g__law_tokens := ⟨PySem.W.mg_of X G a19, k19, _, ok__law_tokens T F19, b19⟩
  have D__law_is_ring : Df l.prog w K mg base (caB fa) 1 "_law_is_ring" f20 ["network", "thing"] g__law_is_ring := ⟨PySem.W.mg_of X G a20, k20, _, ok__law_is_ring T F20, b20⟩
  have D__law_drawn_ring : Df l.prog w K mg base (caB fa) 2 "_law_drawn_ring" f21 ["wheel", "network"] g__law_drawn_ring := ⟨PySem.W.mg_of X G a21, k21, _, ok__law_drawn_ring T D__law_arcs D__law_spin F21, b21⟩
  have D__law_bent_ring : Df l.prog w K mg base (caB fa) 2 "_law_bent_ring" f22 ["wheel", "network", "ring"] g__law_bent_ring := ⟨PySem.W.mg_of X G a22, k22, _, ok__law_bent_ring T D__law_spin D__law_arcs F22, b22⟩
  have D__law_asked : Df l.prog w K mg base (caB fa) 5 "_law_asked" f23 ["wheel", "network", "laps"] g__law_asked := ⟨PySem.W.mg_of X G a23, k23, _, ok__law_asked T D__law_slots D__law_arcs D__law_same D_arcs_of D__law_spin D_arc_weight D__law_tokens D__law_drawn_ring D_is_ring D_ring_delay D_ring_tokens D__law_is_ring D__law_bent_ring F23, b23⟩
  have DK_0 : KDf l.prog w K mg base (caB fa) 3 "arcs_of" f4 ["network", "slots"] ["slots", "network"] [1, 0] g_arcs_of := ⟨PySem.W.mg_of X G a4, k4, _, (ok_arcs_of T D_all_arcs F4), kbinds F4 fun _ _ _ _ _ _ us hl => match us, hl with | [_, _], _ => rfl⟩
  have DK_1 : KDf l.prog w K mg base (caB fa) 4 "is_ring" f10 ["network", "thing"] ["thing", "network"] [1, 0] g_is_ring := ⟨PySem.W.mg_of X G a10, k10, _, (ok_is_ring T D_is_arc F10), kbinds F10 fun _ _ _ _ _ _ us hl => match us, hl with | [_, _], _ => rfl⟩
  have DK_2 : KDf l.prog w K mg base (caB fa) 2 "ring_delay" f11 ["network", "ring"] ["ring", "network"] [1, 0] g_ring_delay := ⟨PySem.W.mg_of X G a11, k11, _, (ok_ring_delay T D_arc_delay F11), kbinds F11 fun _ _ _ _ _ _ us hl => match us, hl with | [_, _], _ => rfl⟩
  have DK_3 : KDf l.prog w K mg base (caB fa) 2 "ring_tokens" f12 ["network", "slots", "ring"] ["ring", "slots", "network"] [2, 1, 0] g_ring_tokens := ⟨PySem.W.mg_of X G a12, k12, _, (ok_ring_tokens T D_arc_tokens F12), kbinds F12 fun _ _ _ _ _ _ us hl => match us, hl with | [_, _, _], _ => rfl⟩
  have DK_4 : KDf l.prog w K mg base (caB fa) 2 "arc_weight" f7 ["network", "slots", "arc"] ["arc", "slots", "network"] [2, 1, 0] g_arc_weight := ⟨PySem.W.mg_of X G a7, k7, _, (ok_arc_weight T D_arc_delay D_arc_tokens F7), kbinds F7 fun _ _ _ _ _ _ us hl => match us, hl with | [_, _, _], _ => rfl⟩
  have GL := ok_law T D__law_net D__law_spin D__law_asked D__law_same D_is_ring DK_0 DK_1 DK_2 DK_3 DK_4 F24
  refine GL.ok.imp fun vs H Q E ⟨a, ns, e, hS, hl, q⟩ => ?_
  subst e
  obtain ⟨os, hp⟩ := plain ns hl
  refine ⟨H, [.pv (.lst (ns.map PV.int))], [], Same.refl _, rfl, ⟨.ref a, [], [], [], rfl, rfl, ⟨rfl, a, _, rfl, hS, VRL.map PV.int V.int (fun i => (show VR K H (.int i) (.int i) from rfl)) ns⟩, rfl, rfl⟩, List.nodup_nil, ?_⟩
  rw [hp]
  intro S' H' v fp F' x ⟨_, ev⟩ _
  obtain rfl := ev
  exact q H'

theorem walk {l : PySem.W.OpenLaw} {q : Program} {loose : List Str} {XP : (Str → Option Value) → Heap → Prop} {YP : World → Heap → Prop} {d : DefRec} {K : Params → PySem.W.Frag} (hn : l.most = some 63) (hdf : d.params.defaults = [])
    (hY : ∀ (w : World) (h : Heap), YP w h → (K w.params).In h)
    (F : ∀ (w : World) (mg : Str → Option Value) (fa : Addr) (h : Heap), (K w.params).In h → h.Ns mainGlobals mg → mg d.name = some (.ref fa) →
      ∃ fd : FuncData, (∀ (s : Shared) (u : Value), BindsTo s fd ⟨[u], []⟩ [("script", u)]) ∧ ∀ base : Heap, (K w.params).In base → base.Ns mainGlobals mg → FnOk l.prog w (K w.params) mg base (L2.CX l.prog w) 6 fa fd ["script"] (spLaw (K w.params))) :
    PySem.W.WalkO q loose XP YP l.row.toRowW d [] (fun f vs => PySem.call f vs) :=
  L2.walk_of (n := 63) (k := 6) (x := "script") (CX := fun w => L2.CX l.prog w) (sp := fun w => spLaw (K w.params)) hn (by decide) hdf ⟨rfl, by decide, by decide⟩ hY F (fun _ _ a ns hl _ hS => ⟨a, ns, rfl, hS, hl, fun _ => rfl⟩) fun _ _ _ _ _ ⟨_, _, _, _, _, _, _, _, _, _, _, _, z⟩ => z

end K13
end Sm

open PySem PySem.W PyProof.Rows in
set_option maxRecDepth 100000 in
set_option maxHeartbeats 0 in
theorem PySem.Challenge.cw_fullspeed_k13_arcs_rings_judged_holds : PySem.Challenge.rw_fullspeed_k13_arcs_rings_judged.Holds := by
  w_on; o_law; k_head; (case hw => w_witness2)
  k_fill
  refine Sm.K13.walk (l := PySem.Challenge.rw_fullspeed_k13_arcs_rings_judged) rfl rfl (fun w h Y => PySem.W.kIn_of Y) ?F
  case F =>
    intro w mg fa h KX G hmg
    refine' Sm.K13.all_mk KX G hmg ?a0 ?l0 ?c0 ?k0 ?a1 ?l1 ?c1 ?k1 ?a2 ?l2 ?c2 ?k2 ?a3 ?l3 ?c3 ?k3 ?a4 ?l4 ?c4 ?k4 ?a5 ?l5 ?c5 ?k5 ?a6 ?l6 ?c6 ?k6 ?a7 ?l7 ?c7 ?k7 ?a8 ?l8 ?c8 ?k8 ?a9 ?l9 ?c9 ?k9 ?a10 ?l10 ?c10 ?k10 ?a11 ?l11 ?c11 ?k11 ?a12 ?l12 ?c12 ?k12 ?a13 ?l13 ?c13 ?k13 ?a14 ?l14 ?c14 ?k14 ?a15 ?l15 ?c15 ?k15 ?a16 ?l16 ?c16 ?k16 ?a17 ?l17 ?c17 ?k17 ?a18 ?l18 ?c18 ?k18 ?a19 ?l19 ?c19 ?k19 ?a20 ?l20 ?c20 ?k20 ?a21 ?l21 ?c21 ?k21 ?a22 ?l22 ?c22 ?k22 ?a23 ?l23 ?c23 ?k23 ?a24 ?l24 ?c24 ?k24 ?z_len ?z_int ?z_str ?z_bool ?z_tuple ?z_list ?z_max ?z_min ?z_range ?z_isinstance ?z_sum ?z_abs ?z_set ?z_sorted
    (case a0 => k_is)
    (case l0 => k_is)
    (case c0 => k_is)
    (case k0 => k_is)
    (case a1 => k_is)
    (case l1 => k_is)
    (case c1 => k_is)
    (case k1 => k_is)
    (case a2 => k_is)
    (case l2 => k_is)
    (case c2 => k_is)
    (case k2 => k_is)
    (case a3 => k_is)
    (case l3 => k_is)
    (case c3 => k_is)
    (case k3 => k_is)
    (case a4 => k_is)
    (case l4 => k_is)
    (case c4 => k_is)
    (case k4 => k_is)
    (case a5 => k_is)
    (case l5 => k_is)
    (case c5 => k_is)
    (case k5 => k_is)
    (case a6 => k_is)
    (case l6 => k_is)
    (case c6 => k_is)
    (case k6 => k_is)
    (case a7 => k_is)
    (case l7 => k_is)
    (case c7 => k_is)
    (case k7 => k_is)
    (case a8 => k_is)
    (case l8 => k_is)
    (case c8 => k_is)
    (case k8 => k_is)
    (case a9 => k_is)
    (case l9 => k_is)
    (case c9 => k_is)
    (case k9 => k_is)
    (case a10 => k_is)
    (case l10 => k_is)
    (case c10 => k_is)
    (case k10 => k_is)
    (case a11 => k_is)
    (case l11 => k_is)
    (case c11 => k_is)
    (case k11 => k_is)
    (case a12 => k_is)
    (case l12 => k_is)
    (case c12 => k_is)
    (case k12 => k_is)
    (case a13 => k_is)
    (case l13 => k_is)
    (case c13 => k_is)
    (case k13 => k_is)
    (case a14 => k_is)
    (case l14 => k_is)
    (case c14 => k_is)
    (case k14 => k_is)
    (case a15 => k_is)
    (case l15 => k_is)
    (case c15 => k_is)
    (case k15 => k_is)
    (case a16 => k_is)
    (case l16 => k_is)
    (case c16 => k_is)
    (case k16 => k_is)
    (case a17 => k_is)
    (case l17 => k_is)
    (case c17 => k_is)
    (case k17 => k_is)
    (case a18 => k_is)
    (case l18 => k_is)
    (case c18 => k_is)
    (case k18 => k_is)
    (case a19 => k_is)
    (case l19 => k_is)
    (case c19 => k_is)
    (case k19 => k_is)
    (case a20 => k_is)
    (case l20 => k_is)
    (case c20 => k_is)
    (case k20 => k_is)
    (case a21 => k_is)
    (case l21 => k_is)
    (case c21 => k_is)
    (case k21 => k_is)
    (case a22 => k_is)
    (case l22 => k_is)
    (case c22 => k_is)
    (case k22 => k_is)
    (case a23 => k_is)
    (case l23 => k_is)
    (case c23 => k_is)
    (case k23 => k_is)
    (case a24 => k_is)
    (case l24 => k_is)
    (case c24 => k_is)
    (case k24 => k_is)
    (case z_len => k_is)
    (case z_int => k_is)
    (case z_str => k_is)
    (case z_bool => k_is)
    (case z_tuple => k_is)
    (case z_list => k_is)
    (case z_max => k_is)
    (case z_min => k_is)
    (case z_range => k_is)
    (case z_isinstance => k_is)
    (case z_sum => k_is)
    (case z_abs => k_is)
    (case z_set => k_is)
    (case z_sorted => k_is)
