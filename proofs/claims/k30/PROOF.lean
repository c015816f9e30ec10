import PyProof.Rows.All
import HandS.ForMost
import HandS.Flow
import HandS.Gcd
import HandS.Deep
import HandS.Conv
import HandS.Zip
import HandS.Wide
import HandS.IsInst
import HandS.Style
import HandS.Rev
import HandS.NoneIn
import HandS.SortInts
import KE.GoesEnum
import PyProof.WalksMore
import HandS.WordsDict
import HandS.TupLen
import HandS.SortRule
import PySem.Challenge.RW_divisorhouse_k30_whole_numbers_of_bernou
section
set_option Elab.async false
set_option linter.all false
set_option maxRecDepth 100000
/-! VL1: values without a heap, over HandS: what a name holds (frozen, owned, locked), the relation to HandS's heap. -/
namespace VL
open PySem PySem.Spec PyProof.Rows L2

inductive W where
  | non
  | bl (b : Bool)
  | int (i : Int)
  | str (s : Str)
  | lst (xs : List W)
  | tup (xs : List W)
  | dK (ks : List Key) (xs : List W)
  | dT (ks : List (List Key)) (xs : List W)
  | set (xs : List Int)
  | tok
  | tk1
  | scr

inductive FO where
  | fz (o : HO)
  | tk (b : Addr)
  | tkin (a : Addr)
  | tk1

abbrev Fz := Addr → Option FO
def isTok : Option FO → Bool
  | some (.tk _) => true
  | some (.tkin _) => true
  | some .tk1 => true
  | _ => false
def Le (F F' : Fz) : Prop := ∀ a f, F a = some f → F' a = some f
theorem Le.refl (F : Fz) : Le F F := fun _ _ h => h
theorem Le.trans {F G J : Fz} (h : Le F G) (k : Le G J) : Le F J := fun a f e => k a f (h a f e)
def addF (F : Fz) (a : Addr) (f : FO) : Fz := fun c => if c = a then some f else F c
theorem addF_same {F : Fz} {a : Addr} {f : FO} : addF F a f a = some f := by unfold addF; rw [if_pos rfl]
theorem addF_ne {F : Fz} {a c : Addr} {f : FO} (h : c ≠ a) : addF F a f c = F c := by unfold addF; rw [if_neg h]
theorem le_addF {F : Fz} {a : Addr} {f : FO} (h : F a = none) : Le F (addF F a f) := fun c g e => by
  rw [addF_ne (fun z => by rw [z, h] at e; cases e)]; exact e

section
variable (K : PySem.W.Frag)
/-- the script: never read at this level -/
def ScrV (F : Fz) (v : V) : Prop := ∃ (a : Addr) (ns : List Int), v = .ref a ∧ ns.length ≤ 63 ∧
  ((∃ o, F a = some (.fz (.frz o (.lst (ns.map V.int))))) ∨ SqL K (fun _ => none) a (ns.map V.int))

mutual
def Rep (F : Fz) : W → V → Prop
  | .non, v => v = .non
  | .bl b, v => v = .bl b
  | .int i, v => v = .int i
  | .str s, v => v = .str s
  | .lst ws, v => ∃ a vs, v = .ref a ∧ F a = some (.fz (.lst vs)) ∧ Reps F ws vs
  | .tup ws, v => ∃ a vs, v = .ref a ∧ F a = some (.fz (.tup vs)) ∧ Reps F ws vs
  | .dK ks ws, v => ∃ a vs, v = .ref a ∧ F a = some (.fz (.dK (ks.zip vs))) ∧ ks.length = ws.length ∧ Reps F ws vs
  | .dT ks ws, v => ∃ a vs, v = .ref a ∧ F a = some (.fz (.dT (ks.zip vs))) ∧ ks.length = ws.length ∧ Reps F ws vs
  | .set xs, v => ∃ a, v = .ref a ∧ F a = some (.fz (.set (fun i => decide (i ∈ xs)) xs.length)) ∧ xs.Nodup
  | .tok, v => ∃ a b, v = .ref a ∧ F a = some (.tk b)
  | .tk1, v => ∃ a, v = .ref a ∧ F a = some .tk1
  | .scr, v => ScrV K F v
def Reps (F : Fz) : List W → List V → Prop
  | [], vs => vs = []
  | w :: ws, vs => ∃ v r, vs = v :: r ∧ Rep F w v ∧ Reps F ws r
end

def RepO (F : Fz) : W → HO → Prop
  | .lst ws, o => ∃ vs, o = .lst vs ∧ Reps K F ws vs
  | .tup ws, o => ∃ vs, o = .tup vs ∧ Reps K F ws vs
  | .dK ks ws, o => ∃ vs, o = .dK (ks.zip vs) ∧ ks.length = ws.length ∧ Reps K F ws vs
  | .dT ks ws, o => ∃ vs, o = .dT (ks.zip vs) ∧ ks.length = ws.length ∧ Reps K F ws vs
  | .set xs, o => o = .set (fun i => decide (i ∈ xs)) xs.length ∧ xs.Nodup
  | _, _ => False

mutual
theorem Rep.mono {F F' : Fz} (l : Le F F') : ∀ (w : W) (v : V), Rep K F w v → Rep K F' w v
  | .non, _, h => by unfold Rep at h ⊢; exact h
  | .bl _, _, h => by unfold Rep at h ⊢; exact h
  | .int _, _, h => by unfold Rep at h ⊢; exact h
  | .str _, _, h => by unfold Rep at h ⊢; exact h
  | .lst ws, _, h => by
    unfold Rep at h ⊢
    obtain ⟨a, vs, e, f, r⟩ := h
    exact ⟨a, vs, e, l _ _ f, Reps.mono l ws vs r⟩
  | .tup ws, _, h => by
    unfold Rep at h ⊢
    obtain ⟨a, vs, e, f, r⟩ := h
    exact ⟨a, vs, e, l _ _ f, Reps.mono l ws vs r⟩
  | .dK ks ws, _, h => by
    unfold Rep at h ⊢
    obtain ⟨a, vs, e, f, z, r⟩ := h
    exact ⟨a, vs, e, l _ _ f, z, Reps.mono l ws vs r⟩
  | .dT ks ws, _, h => by
    unfold Rep at h ⊢
    obtain ⟨a, vs, e, f, z, r⟩ := h
    exact ⟨a, vs, e, l _ _ f, z, Reps.mono l ws vs r⟩
  | .set xs, _, h => by
    unfold Rep at h ⊢
    obtain ⟨a, e, f, r⟩ := h
    exact ⟨a, e, l _ _ f, r⟩
  | .tok, _, h => by
    unfold Rep at h ⊢
    obtain ⟨a, b, e, f⟩ := h
    exact ⟨a, b, e, l _ _ f⟩
  | .tk1, _, h => by
    unfold Rep at h ⊢
    obtain ⟨a, e, f⟩ := h
    exact ⟨a, e, l _ _ f⟩
  | .scr, _, h => by
    unfold Rep at h ⊢
    obtain ⟨a, ns, e, z, f⟩ := h
    refine ⟨a, ns, e, z, ?_⟩
    rcases f with ⟨o, f⟩ | f
    · exact .inl ⟨o, l _ _ f⟩
    · exact .inr f
theorem Reps.mono {F F' : Fz} (l : Le F F') : ∀ (ws : List W) (vs : List V), Reps K F ws vs → Reps K F' ws vs
  | [], _, h => by unfold Reps at h ⊢; exact h
  | w :: ws, _, h => by
    unfold Reps at h ⊢
    obtain ⟨v, r, e, h1, h2⟩ := h
    exact ⟨v, r, e, Rep.mono l w v h1, Reps.mono l ws r h2⟩
end

theorem RepO.mono {F F' : Fz} (l : Le F F') : ∀ {w : W} {o : HO}, RepO K F w o → RepO K F' w o
  | .lst _, _, ⟨vs, e, r⟩ => ⟨vs, e, Reps.mono K l _ _ r⟩
  | .tup _, _, ⟨vs, e, r⟩ => ⟨vs, e, Reps.mono K l _ _ r⟩
  | .dK _ _, _, ⟨vs, e, z, r⟩ => ⟨vs, e, z, Reps.mono K l _ _ r⟩
  | .dT _ _, _, ⟨vs, e, z, r⟩ => ⟨vs, e, z, Reps.mono K l _ _ r⟩
  | .set _, _, h => h
  | .non, _, h => h
  | .bl _, _, h => h
  | .int _, _, h => h
  | .str _, _, h => h
  | .tok, _, h => h
  | .tk1, _, h => h
  | .scr, _, h => h

theorem rep_of {F : Fz} {a : Addr} : ∀ {w : W} {o : HO}, RepO K F w o → F a = some (.fz o) → Rep K F w (.ref a)
  | .lst _, _, ⟨vs, e, r⟩, f => by unfold Rep; exact ⟨a, vs, rfl, by rw [f, e], r⟩
  | .tup _, _, ⟨vs, e, r⟩, f => by unfold Rep; exact ⟨a, vs, rfl, by rw [f, e], r⟩
  | .dK _ _, _, ⟨vs, e, z, r⟩, f => by unfold Rep; exact ⟨a, vs, rfl, by rw [f, e], z, r⟩
  | .dT _ _, _, ⟨vs, e, z, r⟩, f => by unfold Rep; exact ⟨a, vs, rfl, by rw [f, e], z, r⟩
  | .set _, _, ⟨e, z⟩, f => by unfold Rep; exact ⟨a, rfl, by rw [f, e], z⟩
  | .non, _, h, _ => h.elim
  | .bl _, _, h, _ => h.elim
  | .int _, _, h, _ => h.elim
  | .str _, _, h, _ => h.elim
  | .tok, _, h, _ => h.elim
  | .tk1, _, h, _ => h.elim
  | .scr, _, h, _ => h.elim

/-- what a frozen place says of the heap -/
def FOk (F : Fz) (H : Hp) (a : Addr) : FO → Prop
  | .fz o => H a = some o
  | .tk b => F b = some (.tkin a) ∧ ∃ (s : Int) (cells : List Int), H a = some (.lst [.ref b, .int s]) ∧ H b = some (.lst (cells.map V.int)) ∧ 0 ≤ s ∧ s < 2 ^ 40 ∧ cells.length ≤ 63 ∧ ∀ c ∈ cells, 0 ≤ c
  | .tkin c => F c = some (.tk a)
  | .tk1 => ∃ k s : Int, H a = some (.lst [.int k, .int s]) ∧ 0 ≤ k ∧ 0 ≤ s
def Sub (F : Fz) (H : Hp) : Prop := ∀ a f, F a = some f → FOk F H a f
theorem Sub.there {F : Fz} {H : Hp} (s : Sub F H) {a : Addr} {f : FO} (e : F a = some f) : ∃ o, H a = some o := by
  have q := s a f e
  cases f with
  | fz o => exact ⟨o, q⟩
  | tk b => obtain ⟨_, _, _, h, _⟩ := q; exact ⟨_, h⟩
  | tkin c => obtain ⟨_, _, _, _, h, _⟩ := s c _ q; exact ⟨_, h⟩
  | tk1 => obtain ⟨_, _, h, _⟩ := q; exact ⟨_, h⟩
theorem Sub.free {F : Fz} {H : Hp} (s : Sub F H) {a : Addr} (e : H a = none) : F a = none := by
  cases q : F a with
  | none => rfl
  | some f => obtain ⟨o, h⟩ := s.there q; rw [e] at h; cases h
theorem Sub.fz {F : Fz} {H : Hp} (s : Sub F H) {a : Addr} {o : HO} (e : F a = some (.fz o)) : H a = some o := s a _ e
/-- the heap grew or changed outside F -/
theorem Sub.keep {F : Fz} {H H' : Hp} (s : Sub F H) (k : ∀ a f, F a = some f → H' a = H a) : Sub F H' := fun a f e => by
  have q := s a f e
  cases f with
  | fz o => exact (k a _ e).trans q
  | tk b =>
    obtain ⟨h1, x, c, h2, h3, r⟩ := q
    exact ⟨h1, x, c, (k a _ e).trans h2, (k b _ h1).trans h3, r⟩
  | tkin c => exact q
  | tk1 =>
    obtain ⟨x, y, h, r⟩ := q
    exact ⟨x, y, (k a _ e).trans h, r⟩
theorem Sub.add {F : Fz} {H : Hp} (s : Sub F H) {a : Addr} {o : HO} (h : F a = none) (e : H a = some o) : Sub (addF F a (.fz o)) H := fun c f q => by
  by_cases hc : c = a
  · subst hc; rw [addF_same] at q; cases q; exact e
  · rw [addF_ne hc] at q
    have z := s c f q
    cases f with
    | fz o => exact z
    | tk b =>
      obtain ⟨h1, r⟩ := z
      exact ⟨le_addF h _ _ h1, r⟩
    | tkin d => exact le_addF h _ _ (show F d = some (.tk c) from z)
    | tk1 => exact z

/-! ### names -/
inductive Sl where
  | no
  | fz (w : W)
  | ow (w : W)
  | lk (w : W)
abbrev Nv := List Sl
def gt : Nv → Nat → Sl
  | [], _ => .no
  | s :: _, 0 => s
  | _ :: r, n + 1 => gt r n
theorem gt_set_same : ∀ (η : Nv) (i : Nat) (s : Sl), i < η.length → gt (η.set i s) i = s
  | [], _, _, h => absurd h (Nat.not_lt_zero _)
  | _ :: _, 0, _, _ => rfl
  | _ :: r, i + 1, s, h => gt_set_same r i s (Nat.lt_of_succ_lt_succ h)
theorem gt_set_ne : ∀ (η : Nv) (i j : Nat) (s : Sl), i ≠ j → gt (η.set i s) j = gt η j
  | [], _, _, _, _ => rfl
  | _ :: _, 0, 0, _, h => absurd rfl h
  | _ :: _, 0, _ + 1, _, _ => rfl
  | _ :: _, _ + 1, 0, _, _ => rfl
  | _ :: r, i + 1, j + 1, s, h => gt_set_ne r i j s (fun e => h (by rw [e]))
theorem gt_out : ∀ (η : Nv) (i : Nat), η.length ≤ i → gt η i = .no
  | [], _, _ => rfl
  | _ :: _, 0, h => absurd h (by simp)
  | _ :: r, i + 1, h => gt_out r i (Nat.le_of_succ_le_succ h)
/-- i has an object of its own -/
def hold (η : Nv) (i : Nat) : Prop := ∃ w, gt η i = .ow w ∨ gt η i = .lk w

structure Rel (B : Hp) (F0 F : Fz) (η : Nv) (σ : L2.St) (H : Hp) : Prop where
  sub : Sub F H
  le : Le F0 F
  kp : ∀ c o, B c = some o → isTok (F0 c) = false → H c = some o
  nw : ∀ c f, F c = some f → (∃ g, F0 c = some g) ∨ B c = none
  fr : ∀ i w, gt η i = .fz w → ∃ v, σ[i]? = some (some v) ∧ Rep K F w v
  ow : ∀ i w, gt η i = .ow w → ∃ a o, σ[i]? = some (some (.ref a)) ∧ F a = none ∧ B a = none ∧ H a = some o ∧ RepO K F w o
  lk : ∀ i w, gt η i = .lk w → ∃ a o, σ[i]? = some (some (.ref a)) ∧ F a = none ∧ H a = some o ∧ RepO K F w o
  sep : ∀ i j a, hold η i → hold η j → σ[i]? = some (some (.ref a)) → σ[j]? = some (some (.ref a)) → i = j
  len : η.length = σ.length

variable {K} {B : Hp} {F0 F F' : Fz} {η : Nv} {σ : L2.St} {H H' : Hp} {p : Addr} {o : HO}

theorem Rel.freeB (R : Rel K B F0 F η σ H) (h : H p = none) : B p = none := by
  cases q : B p with
  | none => rfl
  | some o =>
    cases t : isTok (F0 p) with
    | false => have := R.kp p o q t; rw [h] at this; cases this
    | true =>
      cases z : F0 p with
      | none => rw [z] at t; cases t
      | some f => obtain ⟨o', e⟩ := R.sub.there (R.le _ _ z); rw [h] at e; cases e
theorem Rel.free (R : Rel K B F0 F η σ H) (h : H p = none) : F p = none := R.sub.free h
theorem Rel.holdNe (R : Rel K B F0 F η σ H) (h : H p = none) {i : Nat} (q : hold η i) : σ[i]? ≠ some (some (.ref p)) := fun e => by
  obtain ⟨w, q | q⟩ := q
  · obtain ⟨a, o, e1, _, _, e2, _⟩ := R.ow i w q
    rw [e] at e1; cases e1; rw [h] at e2; cases e2
  · obtain ⟨a, o, e1, _, e2, _⟩ := R.lk i w q
    rw [e] at e1; cases e1; rw [h] at e2; cases e2
/-- the heap changes at p alone, where p is nobody's -/
theorem Rel.keep (R : Rel K B F0 F η σ H) (k : ∀ a o, H a = some o → a ≠ p → H' a = some o) (hF : F p = none) (hB : B p = none) (hn : ∀ i, hold η i → σ[i]? ≠ some (some (.ref p))) : Rel K B F0 F η σ H' where
  sub := R.sub.keep fun a f e => by
    obtain ⟨o, q⟩ := R.sub.there e
    rw [q]
    exact k a o q (fun z => by rw [z, hF] at e; cases e)
  le := R.le
  kp := fun c o e t => k c o (R.kp c o e t) (fun z => by rw [z, hB] at e; cases e)
  nw := R.nw
  fr := R.fr
  ow := fun i w e => by
    obtain ⟨a, o, e1, e2, e3, e4, r⟩ := R.ow i w e
    exact ⟨a, o, e1, e2, e3, k a o e4 (fun z => hn i ⟨w, .inl e⟩ (z ▸ e1)), r⟩
  lk := fun i w e => by
    obtain ⟨a, o, e1, e2, e4, r⟩ := R.lk i w e
    exact ⟨a, o, e1, e2, k a o e4 (fun z => hn i ⟨w, .inr e⟩ (z ▸ e1)), r⟩
  sep := R.sep
  len := R.len
theorem Rel.alloc (R : Rel K B F0 F η σ H) (h : H p = none) : Rel K B F0 F η σ (upd H p o) :=
  R.keep (p := p) (fun a o' e n => by rw [upd_ne n]; exact e) (R.free h) (R.freeB h) fun i q => R.holdNe h q
/-- nobody's object becomes a frozen one -/
theorem Rel.freeze (R : Rel K B F0 F η σ H) (hF : F p = none) (hB : B p = none) (e : H p = some o) (hn : ∀ i, hold η i → σ[i]? ≠ some (some (.ref p))) : Rel K B F0 (addF F p (.fz o)) η σ H where
  sub := R.sub.add hF e
  le := R.le.trans (le_addF hF)
  kp := R.kp
  nw := fun c f q => by
    by_cases hc : c = p
    · subst hc; exact .inr hB
    · rw [addF_ne hc] at q; exact R.nw c f q
  fr := fun i w q => by
    obtain ⟨v, e1, r⟩ := R.fr i w q
    exact ⟨v, e1, Rep.mono K (le_addF hF) _ _ r⟩
  ow := fun i w q => by
    obtain ⟨a, o', e1, e2, e3, e4, r⟩ := R.ow i w q
    have ne : a ≠ p := fun z => hn i ⟨w, .inl q⟩ (z ▸ e1)
    exact ⟨a, o', e1, by rw [addF_ne ne]; exact e2, e3, e4, RepO.mono K (le_addF hF) r⟩
  lk := fun i w q => by
    obtain ⟨a, o', e1, e2, e4, r⟩ := R.lk i w q
    have ne : a ≠ p := fun z => hn i ⟨w, .inr q⟩ (z ▸ e1)
    exact ⟨a, o', e1, by rw [addF_ne ne]; exact e2, e4, RepO.mono K (le_addF hF) r⟩
  sep := R.sep
  len := R.len

/-- a value that came: frozen, or new and nobody's -/
def Val (K : PySem.W.Frag) (B : Hp) (F : Fz) (η : Nv) (σ : L2.St) (H : Hp) (r : W) : Bool → V → Prop
  | false, v => Rep K F r v
  | true, v => ∃ a o, v = .ref a ∧ F a = none ∧ B a = none ∧ H a = some o ∧ RepO K F r o ∧ ∀ i, hold η i → σ[i]? ≠ some (some (.ref a))
/-- a value that is looked at: frozen, or what a name holds -/
def VB (K : PySem.W.Frag) (F : Fz) (η : Nv) (σ : L2.St) (r : W) (b : Bool) (v : V) : Prop :=
  Rep K F r v ∨ (b = true ∧ ∃ i, σ[i]? = some (some v) ∧ (gt η i = .ow r ∨ gt η i = .lk r))
theorem VB.mono {r : W} {b : Bool} {v : V} (l : Le F F') (h : VB K F η σ r b v) : VB K F' η σ r b v := h.imp (Rep.mono K l _ _) id
/-- every value that came can be frozen -/
theorem Rel.cool (R : Rel K B F0 F η σ H) {r : W} {fr : Bool} {v : V} (h : Val K B F η σ H r fr v) : ∃ G, Le F G ∧ Rel K B F0 G η σ H ∧ Rep K G r v := by
  cases fr with
  | false => exact ⟨F, Le.refl _, R, h⟩
  | true =>
    obtain ⟨a, o, e, hF, hB, hH, r0, hn⟩ := h
    subst e
    exact ⟨_, le_addF hF, R.freeze hF hB hH hn, rep_of K (RepO.mono K (le_addF hF) r0) addF_same⟩

/-! what a value that is looked at says of the heap -/
theorem Rel.look (R : Rel K B F0 F η σ H) {r : W} {b : Bool} {v : V} (h : VB K F η σ r b v) : Rep K F r v ∨ ∃ a o, v = .ref a ∧ H a = some o ∧ RepO K F r o := by
  rcases h with h | ⟨_, i, e, q | q⟩
  · exact .inl h
  · obtain ⟨a, o, e1, _, _, e2, r0⟩ := R.ow i _ q
    rw [e] at e1; cases e1
    exact .inr ⟨a, o, rfl, e2, r0⟩
  · obtain ⟨a, o, e1, _, e2, r0⟩ := R.lk i _ q
    rw [e] at e1; cases e1
    exact .inr ⟨a, o, rfl, e2, r0⟩
theorem Rel.lst (R : Rel K B F0 F η σ H) {ws : List W} {b : Bool} {v : V} (h : VB K F η σ (.lst ws) b v) : ∃ a vs, v = .ref a ∧ H a = some (.lst vs) ∧ Reps K F ws vs := by
  rcases R.look h with h | ⟨a, o, e, q, vs, e2, r⟩
  · unfold Rep at h
    obtain ⟨a, vs, e, f, r⟩ := h
    exact ⟨a, vs, e, R.sub.fz f, r⟩
  · exact ⟨a, vs, e, e2 ▸ q, r⟩
theorem Rel.tup (R : Rel K B F0 F η σ H) {ws : List W} {b : Bool} {v : V} (h : VB K F η σ (.tup ws) b v) : ∃ a vs, v = .ref a ∧ H a = some (.tup vs) ∧ Reps K F ws vs := by
  rcases R.look h with h | ⟨a, o, e, q, vs, e2, r⟩
  · unfold Rep at h
    obtain ⟨a, vs, e, f, r⟩ := h
    exact ⟨a, vs, e, R.sub.fz f, r⟩
  · exact ⟨a, vs, e, e2 ▸ q, r⟩
theorem Rel.dK (R : Rel K B F0 F η σ H) {ks : List Key} {ws : List W} {b : Bool} {v : V} (h : VB K F η σ (.dK ks ws) b v) : ∃ a vs, v = .ref a ∧ H a = some (.dK (ks.zip vs)) ∧ ks.length = ws.length ∧ Reps K F ws vs := by
  rcases R.look h with h | ⟨a, o, e, q, vs, e2, z, r⟩
  · unfold Rep at h
    obtain ⟨a, vs, e, f, z, r⟩ := h
    exact ⟨a, vs, e, R.sub.fz f, z, r⟩
  · exact ⟨a, vs, e, e2 ▸ q, z, r⟩
theorem Rel.dT (R : Rel K B F0 F η σ H) {ks : List (List Key)} {ws : List W} {b : Bool} {v : V} (h : VB K F η σ (.dT ks ws) b v) : ∃ a vs, v = .ref a ∧ H a = some (.dT (ks.zip vs)) ∧ ks.length = ws.length ∧ Reps K F ws vs := by
  rcases R.look h with h | ⟨a, o, e, q, vs, e2, z, r⟩
  · unfold Rep at h
    obtain ⟨a, vs, e, f, z, r⟩ := h
    exact ⟨a, vs, e, R.sub.fz f, z, r⟩
  · exact ⟨a, vs, e, e2 ▸ q, z, r⟩
theorem Rel.set (R : Rel K B F0 F η σ H) {xs : List Int} {b : Bool} {v : V} (h : VB K F η σ (.set xs) b v) : ∃ a, v = .ref a ∧ H a = some (.set (fun i => decide (i ∈ xs)) xs.length) ∧ xs.Nodup := by
  rcases R.look h with h | ⟨a, o, e, q, e2, z⟩
  · unfold Rep at h
    obtain ⟨a, e, f, z⟩ := h
    exact ⟨a, e, R.sub.fz f, z⟩
  · exact ⟨a, e, e2 ▸ q, z⟩
theorem Rel.int (R : Rel K B F0 F η σ H) {i : Int} {b : Bool} {v : V} (h : VB K F η σ (.int i) b v) : v = .int i := by
  rcases R.look h with h | ⟨a, o, e, q, r⟩
  · unfold Rep at h; exact h
  · exact r.elim
theorem Rel.bl (R : Rel K B F0 F η σ H) {i : Bool} {b : Bool} {v : V} (h : VB K F η σ (.bl i) b v) : v = .bl i := by
  rcases R.look h with h | ⟨a, o, e, q, r⟩
  · unfold Rep at h; exact h
  · exact r.elim
theorem Rel.str (R : Rel K B F0 F η σ H) {i : Str} {b : Bool} {v : V} (h : VB K F η σ (.str i) b v) : v = .str i := by
  rcases R.look h with h | ⟨a, o, e, q, r⟩
  · unfold Rep at h; exact h
  · exact r.elim
theorem Rel.non (R : Rel K B F0 F η σ H) {b : Bool} {v : V} (h : VB K F η σ .non b v) : v = .non := by
  rcases R.look h with h | ⟨a, o, e, q, r⟩
  · unfold Rep at h; exact h
  · exact r.elim

theorem Reps.length : ∀ {ws : List W} {vs : List V}, Reps K F ws vs → ws.length = vs.length
  | [], _, h => by unfold Reps at h; rw [h]; rfl
  | _ :: _, _, h => by
    unfold Reps at h
    obtain ⟨v, r, e, _, h2⟩ := h
    rw [e, List.length_cons, List.length_cons, Reps.length h2]
theorem Reps.get : ∀ {ws : List W} {vs : List V} {i : Nat} {w : W}, Reps K F ws vs → ws[i]? = some w → ∃ v, vs[i]? = some v ∧ Rep K F w v
  | [], _, _, _, _, e => by simp at e
  | _ :: _, _, 0, _, h, e => by
    unfold Reps at h
    obtain ⟨v, r, e1, h1, _⟩ := h
    simp at e; subst e
    exact ⟨v, by rw [e1]; rfl, h1⟩
  | _ :: _, _, i + 1, _, h, e => by
    unfold Reps at h
    obtain ⟨v, r, e1, _, h2⟩ := h
    obtain ⟨u, q1, q2⟩ := Reps.get (i := i) h2 (by simpa using e)
    exact ⟨u, by rw [e1]; simpa using q1, q2⟩
theorem Reps.at : ∀ {ws : List W} {vs : List V} {i : Nat} {v : V}, Reps K F ws vs → vs[i]? = some v → ∃ w, ws[i]? = some w ∧ Rep K F w v
  | [], _, _, _, h, e => by unfold Reps at h; rw [h] at e; simp at e
  | w :: _, _, 0, _, h, e => by
    unfold Reps at h
    obtain ⟨v, r, e1, h1, _⟩ := h
    rw [e1] at e
    simp at e; subst e
    exact ⟨w, rfl, h1⟩
  | _ :: _, _, i + 1, _, h, e => by
    unfold Reps at h
    obtain ⟨v, r, e1, _, h2⟩ := h
    rw [e1] at e
    obtain ⟨u, q1, q2⟩ := Reps.at (i := i) h2 (by simpa using e)
    exact ⟨u, by simpa using q1, q2⟩
theorem reps_nil : Reps K F [] [] := by unfold Reps; rfl
theorem reps_cons {w : W} {ws : List W} {v : V} {vs : List V} (h : Rep K F w v) (t : Reps K F ws vs) : Reps K F (w :: ws) (v :: vs) := by unfold Reps; exact ⟨v, vs, rfl, h, t⟩
theorem Reps.append : ∀ {ws xs : List W} {vs us : List V}, Reps K F ws vs → Reps K F xs us → Reps K F (ws ++ xs) (vs ++ us)
  | [], _, _, _, h, k => by unfold Reps at h; subst h; exact k
  | _ :: _, _, _, _, h, k => by
    unfold Reps at h
    obtain ⟨v, r, e, h1, h2⟩ := h
    subst e
    exact reps_cons h1 (Reps.append h2 k)
theorem Reps.set : ∀ {ws : List W} {vs : List V} (i : Nat) {w : W} {v : V}, Reps K F ws vs → Rep K F w v → Reps K F (ws.set i w) (vs.set i v)
  | [], _, _, _, _, h, _ => by unfold Reps at h; subst h; exact reps_nil
  | _ :: _, _, 0, _, _, h, k => by
    unfold Reps at h
    obtain ⟨v, r, e, h1, h2⟩ := h
    subst e
    exact reps_cons k h2
  | _ :: _, _, i + 1, _, _, h, k => by
    unfold Reps at h
    obtain ⟨v, r, e, h1, h2⟩ := h
    subst e
    exact reps_cons h1 (Reps.set i h2 k)
theorem Reps.drop : ∀ {ws : List W} {vs : List V} (n : Nat), Reps K F ws vs → Reps K F (ws.drop n) (vs.drop n)
  | _, _, 0, h => h
  | [], _, _ + 1, h => by unfold Reps at h; subst h; exact reps_nil
  | _ :: _, _, n + 1, h => by
    unfold Reps at h
    obtain ⟨v, r, e, h1, h2⟩ := h
    subst e
    exact Reps.drop n h2
theorem Reps.take : ∀ {ws : List W} {vs : List V} (n : Nat), Reps K F ws vs → Reps K F (ws.take n) (vs.take n)
  | _, _, 0, _ => by simp; exact reps_nil
  | [], _, _ + 1, h => by unfold Reps at h; subst h; exact reps_nil
  | _ :: _, _, n + 1, h => by
    unfold Reps at h
    obtain ⟨v, r, e, h1, h2⟩ := h
    subst e
    exact reps_cons h1 (Reps.take n h2)
theorem Reps.of_get : ∀ {ws : List W} {vs : List V}, ws.length = vs.length → (∀ (i : Nat) w v, ws[i]? = some w → vs[i]? = some v → Rep K F w v) → Reps K F ws vs
  | [], [], _, _ => reps_nil
  | [], _ :: _, h, _ => by simp at h
  | _ :: _, [], h, _ => by simp at h
  | w :: ws, v :: vs, h, k => reps_cons (k 0 w v rfl rfl) (Reps.of_get (by simpa using h) fun i w' v' h1 h2 => k (i + 1) w' v' (by simpa using h1) (by simpa using h2))
theorem reps_ints : ∀ {ns : List Int} {vs : List V}, Reps K F (ns.map W.int) vs → vs = ns.map V.int
  | [], _, h => by unfold Reps at h; exact h
  | n :: ns, _, h => by
    rw [List.map_cons] at h
    unfold Reps at h
    obtain ⟨v, r, e, h1, h2⟩ := h
    unfold Rep at h1
    rw [e, h1, reps_ints h2]; rfl
theorem of_ints : ∀ (ns : List Int), Reps K F (ns.map W.int) (ns.map V.int)
  | [] => reps_nil
  | n :: ns => reps_cons (by unfold Rep; rfl) (of_ints ns)
end
end VL
end

section
set_option Elab.async false
set_option linter.all false
set_option maxRecDepth 100000
/-! VL2: expressions, tests, arguments. -/
namespace VL
open PySem PySem.Spec PyProof.Rows L2

abbrev TWE := Nv → (W → Bool → Prop) → Prop
abbrev TWA := Nv → (List W → Bool → Prop) → Prop
abbrev TWT := Nv → (Bool → Prop) → Prop
def VBs (K : PySem.W.Frag) (F : Fz) (η : Nv) (σ : L2.St) (rs : List W) (b : Bool) (vs : List V) : Prop := Paired (fun r v => VB K F η σ r b v) rs vs

def Kon (K : PySem.W.Frag) (B : Hp) (F0 F : Fz) (η : Nv) (σ : L2.St) (Q0 : W → Bool → Prop) (Q : VK) : Prop :=
  ∀ r fr, Q0 r fr → ∀ F' H' v, Le F F' → Rel K B F0 F' η σ H' → Val K B F' η σ H' r fr v → Q v H'
def KonO (K : PySem.W.Frag) (B : Hp) (F0 F : Fz) (η : Nv) (σ : L2.St) (Q0 : W → Bool → Prop) (Q : VK) : Prop :=
  ∀ r b, Q0 r b → ∀ F' H' v, Le F F' → Rel K B F0 F' η σ H' → VB K F' η σ r b v → Q v H'
def tE (K : PySem.W.Frag) (w : TWE) : TE := fun σ H Q => ∃ B F0 F η Q0, Rel K B F0 F η σ H ∧ w η Q0 ∧ Kon K B F0 F η σ Q0 Q
def tO (K : PySem.W.Frag) (w : TWE) : TE := fun σ H Q => ∃ B F0 F η Q0, Rel K B F0 F η σ H ∧ w η Q0 ∧ KonO K B F0 F η σ Q0 Q
def tA (K : PySem.W.Frag) (w : TWA) : TA := fun σ H Q => ∃ B F0 F η Q0, Rel K B F0 F η σ H ∧ w η Q0 ∧ ∀ rs b, Q0 rs b → ∀ F' H' vs, Le F F' → Rel K B F0 F' η σ H' → VBs K F' η σ rs b vs → Q vs H'
def tT (K : PySem.W.Frag) (w : TWT) : TT := fun σ H Q => ∃ B F0 F η Q0, Rel K B F0 F η σ H ∧ w η Q0 ∧ ∀ b, Q0 b → ∀ F' H', Le F F' → Rel K B F0 F' η σ H' → Q b H'

def RE (X : Cx) (e : Expr) (w : TWE) : Prop := PE X e (tE X.K w)
def RO (X : Cx) (e : Expr) (w : TWE) : Prop := PE X e (tO X.K w)
def RA (X : Cx) (es : List Expr) (w : TWA) : Prop := PA X es (tA X.K w)
def RT (X : Cx) (e : Expr) (w : TWT) : Prop := PT X e (tT X.K w)
def RW (X : Cx) (e : Expr) (w : TWT) : Prop := PW X e (tT X.K w)

theorem PE.imp {X : Cx} {e : Expr} {t t' : TE} (h : PE X e t) (k : ∀ σ H Q, t' σ H Q → t σ H Q) : PE X e t' := ⟨fun pins s σ H Q I q => h.run pins s σ H Q I (k σ H Q q)⟩
theorem PT.imp {X : Cx} {e : Expr} {t t' : TT} (h : PT X e t) (k : ∀ σ H Q, t' σ H Q → t σ H Q) : PT X e t' := ⟨fun pins s σ H Q I q => h.run pins s σ H Q I (k σ H Q q)⟩
theorem PW.imp {X : Cx} {e : Expr} {t t' : TT} (h : PW X e t) (k : ∀ σ H Q, t' σ H Q → t σ H Q) : PW X e t' := ⟨fun wh pins s σ H Q I q => h.run wh pins s σ H Q I (k σ H Q q)⟩
theorem PA.imp {X : Cx} {e : List Expr} {t t' : TA} (h : PA X e t) (k : ∀ σ H Q, t' σ H Q → t σ H Q) : PA X e t' := ⟨fun pos pins s σ H Q I q => h.run pos pins s σ H Q I (k σ H Q q)⟩

section
variable {X : Cx} {K : PySem.W.Frag} {B : Hp} {F0 F F' G : Fz} {η : Nv} {σ : L2.St} {H : Hp} {Q0 : W → Bool → Prop} {Q : VK} {e a b c : Expr} {es : List Expr} {pos : Pos} {wa wb wc : TWE} {u : TWA} {x : Str} {i : Nat}

theorem Kon.le (k : Kon K B F0 F η σ Q0 Q) (l : Le F F') : Kon K B F0 F' η σ Q0 Q := fun r fr q G H' v l' => k r fr q G H' v (l.trans l')
theorem Kon.val {r : W} {fr : Bool} {v : V} (k : Kon K B F0 F η σ Q0 Q) (R : Rel K B F0 F η σ H) (q : Q0 r fr) (h : Val K B F η σ H r fr v) : Q v H := k r fr q F H v (Le.refl _) R h
theorem Kon.sc {r : W} {v : V} (k : Kon K B F0 F η σ Q0 Q) (R : Rel K B F0 F η σ H) (q : Q0 r false) (h : Rep K F r v) : Q v H := k.val R q h
theorem Kon.int {i : Int} (k : Kon K B F0 F η σ Q0 Q) (R : Rel K B F0 F η σ H) (q : Q0 (.int i) false) : Q (.int i) H := k.sc R q (by unfold Rep; rfl)
theorem Kon.bl {i : Bool} (k : Kon K B F0 F η σ Q0 Q) (R : Rel K B F0 F η σ H) (q : Q0 (.bl i) false) : Q (.bl i) H := k.sc R q (by unfold Rep; rfl)
theorem Kon.new {r : W} {o : HO} {p : Addr} (k : Kon K B F0 F η σ Q0 Q) (R : Rel K B F0 F η σ H) (q : Q0 r true) (h : RepO K F r o) (hp : H p = none) : Q (.ref p) (upd H p o) :=
  k r true q F _ _ (Le.refl _) (R.alloc hp) ⟨p, o, rfl, R.free hp, R.freeB hp, upd_same, h, fun i hi => R.holdNe hp hi⟩
theorem val_lift {r : W} {fr : Bool} {v : V} (R : Rel K B F0 F η σ H) (h : VB K F η σ r false v) : Rep K F r v := h.elim id (fun z => by cases z.1)

/-! ### names, constants, operands -/
def oVar (i : Nat) : TWE := fun η Q => match gt η i with
  | .fz w => Q w false
  | .ow w => Q w true
  | .lk w => Q w true
  | .no => False
def eVar (i : Nat) : TWE := fun η Q => match gt η i with
  | .fz w => Q w false
  | _ => False
def eC (w : W) : TWE := fun _ Q => Q w false
def oE (w : TWE) : TWE := fun η Q => w η fun r _ => Q r false

theorem ro_var (hN : X.N[i]? = some x) (hv : Vis X.env.scope x) (hd : (x == ("__debug__" : Str)) = false := by decide) (hcd : (x == ("__classdict__" : Str)) = false := by decide) : RO X (.Name x pos) (oVar i) := by
  refine PE.imp (pe_var hN hv hd hcd) fun σ H Q h => ?_
  obtain ⟨B, F0, F, η, Q0, R, w, k⟩ := h
  unfold oVar at w
  split at w
  · rename_i r e
    obtain ⟨v, e1, h1⟩ := R.fr i r e
    exact ⟨v, e1, k _ _ w F H v (Le.refl _) R (.inl h1)⟩
  · rename_i r e
    obtain ⟨q, o, e1, _⟩ := R.ow i r e
    exact ⟨_, e1, k _ _ w F H _ (Le.refl _) R (.inr ⟨rfl, i, e1, .inl e⟩)⟩
  · rename_i r e
    obtain ⟨q, o, e1, _⟩ := R.lk i r e
    exact ⟨_, e1, k _ _ w F H _ (Le.refl _) R (.inr ⟨rfl, i, e1, .inr e⟩)⟩
  · exact w.elim
theorem re_var (hN : X.N[i]? = some x) (hv : Vis X.env.scope x) (hd : (x == ("__debug__" : Str)) = false := by decide) (hcd : (x == ("__classdict__" : Str)) = false := by decide) : RE X (.Name x pos) (eVar i) := by
  refine PE.imp (pe_var hN hv hd hcd) fun σ H Q h => ?_
  obtain ⟨B, F0, F, η, Q0, R, w, k⟩ := h
  unfold eVar at w
  split at w
  · rename_i r e
    obtain ⟨v, e1, h1⟩ := R.fr i r e
    exact ⟨v, e1, k.val R w h1⟩
  · exact w.elim
theorem re_c {w : W} {v : V} (h : PE X e (tC v)) (r : ∀ F, Rep X.K F w v) : RE X e (eC w) := PE.imp h fun σ H Q h => by
  obtain ⟨B, F0, F, η, Q0, R, q, k⟩ := h
  exact k.sc R q (r F)
theorem re_int {i : Int} {j pos} : RE X (.Constant (.int i) j pos) (eC (.int i)) := re_c pe_int fun F => by unfold Rep; rfl
theorem re_bl {b : Bool} {j pos} : RE X (.Constant (.bool b) j pos) (eC (.bl b)) := re_c pe_bl fun F => by unfold Rep; rfl
theorem re_non {j pos} : RE X (.Constant .none j pos) (eC .non) := re_c pe_non fun F => by unfold Rep; rfl
theorem re_str {s : Str} {j pos} : RE X (.Constant (.str s) j pos) (eC (.str s)) := re_c pe_str fun F => by unfold Rep; rfl

theorem ro_of (h : RE X e wa) : RO X e (oE wa) := PE.imp h fun σ H Q q => by
  obtain ⟨B, F0, F, η, Q0, R, w, k⟩ := q
  refine ⟨B, F0, F, η, _, R, w, fun r fr q F' H' v l R' hv => ?_⟩
  obtain ⟨G, l', R2, rep⟩ := R'.cool hv
  exact k r false q G H' v (l.trans l') R2 (.inl rep)
/-- .. as a value -/
theorem re_of (h : RO X e wa) : RE X e (fun η Q => wa η fun r b => b = false ∧ Q r false) := PE.imp h fun σ H Q q => by
  obtain ⟨B, F0, F, η, Q0, R, w, k⟩ := q
  refine ⟨B, F0, F, η, _, R, w, fun r b q F' H' v l R' hv => ?_⟩
  obtain ⟨rfl, q⟩ := q
  exact k r false q F' H' v l R' (val_lift (fr := false) R' hv)

/-! ### arguments -/
def aNil : TWA := fun _ Q => Q [] false
def aCons (w : TWE) (u : TWA) : TWA := fun η Q => w η fun r b => u η fun rs b' => Q (r :: rs) (b || b')
theorem VB.or {r : W} {b b' : Bool} {v : V} (h : VB K F η σ r b v) : VB K F η σ r (b || b') v := h.imp id fun z => ⟨by rw [z.1]; rfl, z.2⟩
theorem VB.or' {r : W} {b b' : Bool} {v : V} (h : VB K F η σ r b' v) : VB K F η σ r (b || b') v := h.imp id fun z => ⟨by rw [z.1]; simp, z.2⟩
theorem ra_nil : RA X [] aNil := PA.imp pa_nil fun σ H Q q => by
  obtain ⟨B, F0, F, η, Q0, R, w, k⟩ := q
  exact k _ _ w F H [] (Le.refl _) R .nil
theorem ra_cons (ha : RO X e wa) (hr : RA X es u) (hs : starEach (e :: es) X.env = (false, eval e X.env) :: starEach es X.env := by rfl) : RA X (e :: es) (aCons wa u) := PA.imp (pa_cons ha hr hs) fun σ H Q q => by
  obtain ⟨B, F0, F, η, Q0, R, w, k⟩ := q
  refine ⟨B, F0, F, η, _, R, w, fun r b q F1 H1 v l1 R1 hv => ⟨B, F0, F1, η, _, R1, q, fun rs b' q2 F2 H2 vs l2 R2 hvs => ?_⟩⟩
  exact k _ _ q2 F2 H2 _ (l1.trans l2) R2 (.cons (hv.mono l2).or (Paired.mapP hvs fun _ _ z => z.or'))
theorem VBs.reps {rs : List W} {vs : List V} (h : VBs K F η σ rs false vs) : Reps K F rs vs := by
  unfold VBs at h
  induction h with
  | nil => exact reps_nil
  | cons r _ ih => exact reps_cons (r.elim id fun z => by cases z.1) ih

def eTup (u : TWA) : TWE := fun η Q => u η fun rs b => b = false ∧ rs.length ≤ sizeLine ∧ Q (.tup rs) true
def eLst (u : TWA) : TWE := fun η Q => u η fun rs b => b = false ∧ rs.length ≤ sizeLine ∧ Q (.lst rs) true
theorem re_tup {x1} (h : RA X es u) : RE X (.Tuple es x1 pos) (eTup u) := PE.imp (pe_tup h) fun σ H Q q => by
  obtain ⟨B, F0, F, η, Q0, R, w, k⟩ := q
  refine ⟨B, F0, F, η, _, R, w, fun rs b q F1 H1 vs l1 R1 hv => ?_⟩
  obtain ⟨rfl, z, q⟩ := q
  have r := VBs.reps hv
  exact ⟨by rw [← r.length]; exact z, fun p hp => (k.le l1).new R1 q ⟨vs, rfl, r⟩ hp⟩
theorem re_lst (h : RA X es u) : RE X (.List es pos) (eLst u) := PE.imp (pe_lst h) fun σ H Q q => by
  obtain ⟨B, F0, F, η, Q0, R, w, k⟩ := q
  refine ⟨B, F0, F, η, _, R, w, fun rs b q F1 H1 vs l1 R1 hv => ?_⟩
  obtain ⟨rfl, z, q⟩ := q
  have r := VBs.reps hv
  exact ⟨by rw [← r.length]; exact z, fun p hp => (k.le l1).new R1 q ⟨vs, rfl, r⟩ hp⟩

/-! ### operations on two values -/
abbrev S2 := W → W → (W → Bool → Prop) → Prop
def OpW (X : Cx) (f : Value → Value → Sem Value) (s : S2) : Prop := ∃ r : R2, OpR X f r ∧
  ∀ (B : Hp) (F0 F : Fz) (η : Nv) (σ : L2.St) (H : Hp) (x y : W) (bx bY : Bool) (vx vy : V) (Q0 : W → Bool → Prop) (Q : VK), Rel X.K B F0 F η σ H → VB X.K F η σ x bx vx → VB X.K F η σ y bY vy → s x y Q0 → Kon X.K B F0 F η σ Q0 Q → r vx vy H Q
def eBin (s : S2) (wa wb : TWE) : TWE := fun η Q => wa η fun x _ => wb η fun y _ => s x y Q
theorem bin_run {s : S2} {r : R2} (hs : ∀ (B : Hp) (F0 F : Fz) (η : Nv) (σ : L2.St) (H : Hp) (x y : W) (bx bY : Bool) (vx vy : V) (Q0 : W → Bool → Prop) (Q : VK), Rel K B F0 F η σ H → VB K F η σ x bx vx → VB K F η σ y bY vy → s x y Q0 → Kon K B F0 F η σ Q0 Q → r vx vy H Q)
    (q : tE K (eBin s wa wb) σ H Q) : tOp r (tO K wa) (tO K wb) σ H Q := by
  obtain ⟨B, F0, F, η, Q0, R, w, k⟩ := q
  refine ⟨B, F0, F, η, _, R, w, fun x bx q F1 H1 vx l1 R1 hx => ⟨B, F0, F1, η, _, R1, q, fun y bY q2 F2 H2 vy l2 R2 hy => ?_⟩⟩
  exact hs B F0 F2 η σ H2 x y bx bY vx vy Q0 Q R2 (hx.mono l2) hy q2 (k.le (l1.trans l2))
theorem re_bin {op : Operator} {s : S2} (ho : OpW X (binaryOp op) s) (ha : RO X a wa) (hb : RO X b wb) : RE X (.BinOp a op b pos) (eBin s wa wb) := by
  obtain ⟨r, o, hs⟩ := ho
  exact PE.imp (pe_op o ha hb) fun σ H Q q => bin_run hs q
theorem re_cmp {op : CmpOp} {s : S2} (ho : OpW X (compareOp op) s) (ha : RO X a wa) (hb : RO X b wb) (hm : behindInMarks op b = false) : RE X (.Compare a [op] [b] pos) (eBin s wa wb) := by
  obtain ⟨r, o, hs⟩ := ho
  exact PE.imp (pe_cmpR o ha hb hm) fun σ H Q q => bin_run hs q
def bB (w : TWE) : TWT := fun η Q => w η fun r _ => match r with
  | .bl b => Q b
  | _ => False
/-- a comparison as a test -/
theorem rt_cmp {op : CmpOp} {s : S2} (ho : OpW X (compareOp op) s) (ha : RO X a wa) (hb : RO X b wb) (hm : behindInMarks op b = false) : RT X (.Compare a [op] [b] pos) (bB (eBin s wa wb)) := by
  obtain ⟨r, o, hs⟩ := ho
  refine PT.imp (pt_cmpR o ha hb hm) fun σ H Q q => ?_
  obtain ⟨B, F0, F, η, Q0, R, w, k⟩ := q
  refine bin_run hs ⟨B, F0, F, η, _, R, w, fun r fr q F1 H1 v l1 R1 hv => ?_⟩
  cases r with
  | bl b =>
    cases fr with
    | false => unfold Val Rep at hv; exact ⟨b, hv, k b q F1 H1 l1 R1⟩
    | true => obtain ⟨_, _, _, _, _, _, z, _⟩ := hv; exact z.elim
  | _ => exact q.elim

/-! integers -/
def SM (i : Int) : Prop := i.natAbs.log2 < 400000
theorem sm_of {i : Int} (h : i.natAbs < 2 ^ 256) : SM i := by
  unfold SM
  have z := PySem.Flt.log2_lt_of (k := 256) (by decide) h
  omega
def sArith (C : Int → Int → Prop) (g : Int → Int → Int) : S2 := fun x y Q => match x, y with
  | .int i, .int j => C i j ∧ Q (.int (g i j)) false
  | _, _ => False
theorem ow_arith {f : Value → Value → Sem Value} {C C' : Int → Int → Prop} {g : Int → Int → Int} (h : OpR X f (rI C fun i j => .int (g i j))) (hc : ∀ i j, C' i j → C i j) : OpW X f (sArith C' g) := by
  refine ⟨_, h, fun B F0 F η σ H x y bx bY vx vy Q0 Q R hx hy q k => ?_⟩
  cases x with
  | int i =>
    cases y with
    | int j =>
      obtain ⟨c, q⟩ := q
      exact ⟨i, j, R.int hx, R.int hy, hc _ _ c, k.int R q⟩
    | _ => exact q.elim
  | _ => exact q.elim
def sArith0 (g : Int → Int → Int) : S2 := fun x y Q => match x, y with
  | .int i, .int j => Q (.int (g i j)) false
  | _, _ => False
theorem ow_arith0 {f : Value → Value → Sem Value} {g : Int → Int → Int} (h : OpR X f (rI0 fun i j => .int (g i j))) : OpW X f (sArith0 g) := by
  refine ⟨_, h, fun B F0 F η σ H x y bx bY vx vy Q0 Q R hx hy q k => ?_⟩
  cases x with
  | int i =>
    cases y with
    | int j => exact ⟨i, j, R.int hx, R.int hy, k.int R q⟩
    | _ => exact q.elim
  | _ => exact q.elim
def sOrd (g : Int → Int → Bool) : S2 := fun x y Q => match x, y with
  | .int i, .int j => Q (.bl (g i j)) false
  | _, _ => False
theorem ow_ord {f : Value → Value → Sem Value} {g : Int → Int → Bool} (h : OpR X f (rI0 fun i j => .bl (g i j))) : OpW X f (sOrd g) := by
  refine ⟨_, h, fun B F0 F η σ H x y bx bY vx vy Q0 Q R hx hy q k => ?_⟩
  cases x with
  | int i =>
    cases y with
    | int j => exact ⟨i, j, R.int hx, R.int hy, k.bl R q⟩
    | _ => exact q.elim
  | _ => exact q.elim
abbrev sLt : S2 := sOrd fun i j => decide (i < j)
abbrev sLe : S2 := sOrd fun i j => decide (i ≤ j)
abbrev sGt : S2 := sOrd fun i j => decide (j < i)
abbrev sGe : S2 := sOrd fun i j => decide (j ≤ i)
theorem ow_lt : OpW X (compareOp .Lt) sLt := ow_ord op_lt
theorem ow_le : OpW X (compareOp .LtE) sLe := ow_ord op_le
theorem ow_gt : OpW X (compareOp .Gt) sGt := ow_ord op_gt
theorem ow_ge : OpW X (compareOp .GtE) sGe := ow_ord op_ge
abbrev sSub : S2 := sArith0 fun i j => i - j
theorem ow_sub : OpW X (binaryOp .Sub) sSub := ow_arith0 op_sub
def MulOk (i j : Int) : Prop := SM i ∧ SM j
def DivOk (_ j : Int) : Prop := 0 < j ∧ j < 2 ^ 256
abbrev sDiv : S2 := sArith DivOk fun i j => i / j
theorem ow_div : OpW X (binaryOp .FloorDiv) sDiv := ow_arith op_fdivW fun i j h => by
  refine ⟨h.1, ?_⟩
  have z := PySem.Flt.log2_lt_of (k := 256) (n := j.natAbs) (by decide) (by have := h.1; have := h.2; omega)
  omega
def DivNOk (_ j : Int) : Prop := j ≠ 0 ∧ -1073741824 < j ∧ j < 1073741824
abbrev sDivN : S2 := sArith DivNOk fun i j => i.fdiv j
theorem ow_divN : OpW X (binaryOp .FloorDiv) sDivN := ow_arith op_fdivN fun i j h => ⟨h.1, by have := h.2; omega⟩
abbrev sMod : S2 := sArith (fun _ j => 0 < j) fun i j => i % j
theorem ow_mod : OpW X (binaryOp .Mod) sMod := ow_arith op_mod fun _ _ h => h
def PowOk (i j : Int) : Prop := 0 ≤ j ∧ j ≤ 1000000 ∧ -18446744073709551616 < i ∧ i < 18446744073709551616
theorem powOk_c {i j : Int} (h : PowOk i j) : CPow i j := ⟨h.1, h.2.1, by have := h.2.2; omega⟩
abbrev sPow : S2 := sArith PowOk fun i j => i ^ j.toNat
theorem ow_pow : OpW X (binaryOp .Pow) sPow := ow_arith op_pow fun _ _ h => powOk_c h
abbrev sShl : S2 := sArith PowOk fun i j => i * 2 ^ j.toNat
theorem ow_shl : OpW X (binaryOp .LShift) sShl := ow_arith op_shl fun _ _ h => powOk_c h
abbrev sShr : S2 := sArith (fun _ j => 0 ≤ j) fun i j => i / 2 ^ j.toNat
theorem ow_shr : OpW X (binaryOp .RShift) sShr := ow_arith op_shr fun _ _ h => h
theorem ow_and : OpW X (binaryOp .BitAnd) (sArith0 Builtin.bitAnd) := ow_arith0 op_and
theorem ow_or : OpW X (binaryOp .BitOr) (sArith0 Builtin.bitOr) := ow_arith0 op_or
theorem ow_xor : OpW X (binaryOp .BitXor) (sArith0 Builtin.bitXor) := ow_arith0 op_xor

/-! + and * : numbers, lists, tuples -/
def sAdd : S2 := fun x y Q => match x, y with
  | .int i, .int j => Q (.int (i + j)) false
  | .int i, .bl k => Q (.int (i + b2i k)) false
  | .lst u, .lst v => u.length + v.length ≤ sizeLine ∧ Q (.lst (u ++ v)) true
  | .tup u, .tup v => u ≠ [] ∧ v ≠ [] ∧ u.length + v.length ≤ sizeLine ∧ Q (.tup (u ++ v)) true
  | _, _ => False
theorem ne_reps {ws : List W} {vs : List V} (r : Reps K F ws vs) (h : ws ≠ []) : vs ≠ [] := fun z => by
  subst z
  cases ws with
  | nil => exact h rfl
  | cons w ws => have := r.length; simp at this
theorem ow_add : OpW X (binaryOp .Add) sAdd := by
  refine ⟨_, op_add.or (op_add_ib.or (op_cat.or op_catT)), fun B F0 F η σ H x y bx bY vx vy Q0 Q R hx hy q k => ?_⟩
  cases x with
  | int i =>
    cases y with
    | int j => exact .inl ⟨i, j, R.int hx, R.int hy, k.int R q⟩
    | bl j => exact .inr (.inl ⟨i, j, R.int hx, R.bl hy, k.int R q⟩)
    | _ => exact q.elim
  | lst u =>
    cases y with
    | lst v =>
      obtain ⟨z, q⟩ := q
      obtain ⟨p1, v1, e1, h1, r1⟩ := R.lst hx
      obtain ⟨p2, v2, e2, h2, r2⟩ := R.lst hy
      exact .inr (.inr (.inl ⟨p1, p2, v1, v2, e1, e2, h1, h2, by rw [← r1.length, ← r2.length]; exact z, fun p hp => k.new R q ⟨_, rfl, r1.append r2⟩ hp⟩))
    | _ => exact q.elim
  | tup u =>
    cases y with
    | tup v =>
      obtain ⟨n1, n2, z, q⟩ := q
      obtain ⟨p1, v1, e1, h1, r1⟩ := R.tup hx
      obtain ⟨p2, v2, e2, h2, r2⟩ := R.tup hy
      refine .inr (.inr (.inr ⟨p1, p2, v1, v2, e1, e2, .of h1, .of h2, ne_reps r1 n1, by rw [← r1.length, ← r2.length]; exact z, fun z => absurd z (ne_reps r2 n2), fun _ p hp => k.new R q ⟨_, rfl, r1.append r2⟩ hp⟩))
    | _ => exact q.elim
  | _ => exact q.elim
theorem reps_rep {ws : List W} {vs : List V} (r : Reps K F ws vs) : ∀ n : Nat, Reps K F (List.replicate n ws).flatten (List.replicate n vs).flatten
  | 0 => reps_nil
  | n + 1 => by
    rw [List.replicate_succ, List.replicate_succ, List.flatten_cons, List.flatten_cons]
    exact r.append (reps_rep r n)
def sMul : S2 := fun x y Q => match x, y with
  | .int i, .int j => MulOk i j ∧ Q (.int (i * j)) false
  | .lst u, .int j => (j < 16777216 ∧ u.length * j.toNat ≤ sizeLine ∧ -16777216 < j) ∧ Q (.lst (List.replicate j.toNat u).flatten) true
  | _, _ => False
theorem ow_mul : OpW X (binaryOp .Mult) sMul := by
  refine ⟨_, op_mulW.or op_rep, fun B F0 F η σ H x y bx bY vx vy Q0 Q R hx hy q k => ?_⟩
  cases x with
  | int i =>
    cases y with
    | int j =>
      obtain ⟨⟨c1, c2⟩, q⟩ := q
      exact .inl ⟨i, j, R.int hx, R.int hy, by unfold CMulW; unfold SM at c1 c2; omega, k.int R q⟩
    | _ => exact q.elim
  | lst u =>
    cases y with
    | int j =>
      obtain ⟨⟨z1, z2, z3⟩, q⟩ := q
      obtain ⟨p1, v1, e1, h1, r1⟩ := R.lst hx
      exact .inr ⟨p1, j, v1, e1, R.int hy, h1, by omega, by omega, by rw [← r1.length]; exact z2, fun p hp => k.new R q ⟨_, rfl, reps_rep r1 _⟩ hp⟩
    | _ => exact q.elim
  | _ => exact q.elim

/-! == and != -/
mutual
def toD : W → PyData
  | .non => .none
  | .bl b => .bool b
  | .int i => .int i
  | .str s => .str s
  | .lst ws => .list (toDs ws)
  | .tup ws => .tuple (toDs ws)
  | _ => .none
def toDs : List W → List PyData
  | [] => []
  | w :: ws => toD w :: toDs ws
end
mutual
/-- a value of numbers, texts, lists, tuples, no deeper than n -/
def flat : Nat → W → Bool
  | _, .non => true
  | _, .bl _ => true
  | _, .int _ => true
  | _, .str _ => true
  | n + 1, .lst ws => flats n ws
  | n + 1, .tup ws => flats n ws
  | _, _ => false
def flats : Nat → List W → Bool
  | _, [] => true
  | n, w :: ws => flat n w && flats n ws
end
mutual
def weq : W → W → Bool
  | .non, .non => true
  | .bl a, .bl b => a == b
  | .bl a, .int j => (if a then 1 else 0) == j
  | .int i, .bl b => i == (if b then 1 else 0)
  | .int i, .int j => i == j
  | .str x, .str y => x == y
  | .lst xs, .lst ys => weqs xs ys
  | .tup xs, .tup ys => weqs xs ys
  | _, _ => false
def weqs : List W → List W → Bool
  | [], [] => true
  | x :: xs, y :: ys => weq x y && weqs xs ys
  | _, _ => false
end
end
end VL
end

section
set_option Elab.async false
set_option linter.all false
set_option maxRecDepth 100000
/-! VL3: ==, in, truth, conditions, subscripts, slices, calls of built-ins and of defs. -/
namespace VL
open PySem PySem.Spec PyProof.Rows L2
section
variable {X : Cx} {K : PySem.W.Frag} {B : Hp} {F0 F F' G : Fz} {η : Nv} {σ : L2.St} {H : Hp} {Q0 : W → Bool → Prop} {Q : VK} {e a b c : Expr} {es : List Expr} {pos : Pos} {wa wb wc : TWE} {u : TWA} {ta tb : TWT} {x : Str} {i : Nat}

/-! ### equality -/
mutual
theorem flat_ok : ∀ (n : Nat) (w : W), flat n w = true → PyData.depth (toD w) ≤ n
  | _, .non, _ => by unfold toD PyData.depth; exact Nat.zero_le _
  | _, .bl _, _ => by unfold toD PyData.depth; exact Nat.zero_le _
  | _, .int _, _ => by unfold toD PyData.depth; exact Nat.zero_le _
  | _, .str _, _ => by unfold toD PyData.depth; exact Nat.zero_le _
  | 0, .lst ws, h => by unfold flat at h; cases h
  | 0, .tup ws, h => by unfold flat at h; cases h
  | n + 1, .lst ws, h => by
    unfold flat at h
    have q := flats_ok n ws h
    unfold toD PyData.depth
    omega
  | n + 1, .tup ws, h => by
    unfold flat at h
    have q := flats_ok n ws h
    unfold toD PyData.depth
    omega
  | _, .dK _ _, h => by unfold flat at h; cases h
  | _, .dT _ _, h => by unfold flat at h; cases h
  | _, .set _, h => by unfold flat at h; cases h
  | _, .tok, h => by unfold flat at h; cases h
  | _, .tk1, h => by unfold flat at h; cases h
  | _, .scr, h => by unfold flat at h; cases h
theorem flats_ok : ∀ (n : Nat) (ws : List W), flats n ws = true → PyData.depthAll (toDs ws) ≤ n
  | _, [], _ => by unfold toDs PyData.depthAll; exact Nat.zero_le _
  | n, w :: ws, h => by
    unfold flats at h
    obtain ⟨h1, h2⟩ := Bool.and_eq_true_iff.mp h
    have q1 := flat_ok n w h1
    have q2 := flats_ok n ws h2
    unfold toDs PyData.depthAll
    omega
end
mutual
/-- the texts in a value are texts -/
def stOk : W → Bool
  | .str s => PyData.strOk s
  | .lst ws => stOks ws
  | .tup ws => stOks ws
  | _ => true
def stOks : List W → Bool
  | [] => true
  | w :: ws => stOk w && stOks ws
end
mutual
theorem lay_ok : ∀ (w : W), stOk w = true → PyData.canLay0 (toD w) = true
  | .non, _ => by unfold toD PyData.canLay0; rfl
  | .bl _, _ => by unfold toD PyData.canLay0; rfl
  | .int _, _ => by unfold toD PyData.canLay0; rfl
  | .str _, h => by unfold stOk at h; unfold toD PyData.canLay0; exact h
  | .lst ws, h => by unfold stOk at h; unfold toD PyData.canLay0; exact lays_ok ws h
  | .tup ws, h => by unfold stOk at h; unfold toD PyData.canLay0; exact lays_ok ws h
  | .dK _ _, _ => by unfold toD PyData.canLay0; rfl
  | .dT _ _, _ => by unfold toD PyData.canLay0; rfl
  | .set _, _ => by unfold toD PyData.canLay0; rfl
  | .tok, _ => by unfold toD PyData.canLay0; rfl
  | .tk1, _ => by unfold toD PyData.canLay0; rfl
  | .scr, _ => by unfold toD PyData.canLay0; rfl
theorem lays_ok : ∀ (ws : List W), stOks ws = true → PyData.canLayAll0 (toDs ws) = true
  | [], _ => by unfold toDs PyData.canLayAll0; rfl
  | w :: ws, h => by
    unfold stOks at h
    obtain ⟨h1, h2⟩ := Bool.and_eq_true_iff.mp h
    unfold toDs PyData.canLayAll0
    rw [lay_ok w h1, lays_ok ws h2]; rfl
end
mutual
theorem dp_of (s : Sub F H) : ∀ (n : Nat) (w : W) (v : V), flat n w = true → Rep K F w v → Dp K H v (toD w)
  | _, .non, _, _, h => by unfold Rep at h; unfold toD; rw [h]; exact .non
  | _, .bl _, _, _, h => by unfold Rep at h; unfold toD; rw [h]; exact .bl _
  | _, .int _, _, _, h => by unfold Rep at h; unfold toD; rw [h]; exact .int _
  | _, .str _, _, _, h => by unfold Rep at h; unfold toD; rw [h]; exact .str _
  | n + 1, .lst ws, _, f, h => by
    unfold flat at f
    unfold Rep at h
    obtain ⟨a, vs, e, fa, r⟩ := h
    unfold toD
    rw [e]
    exact .lst (.of (s.fz fa)) (dps_of s n ws vs f r)
  | n + 1, .tup ws, _, f, h => by
    unfold flat at f
    unfold Rep at h
    obtain ⟨a, vs, e, fa, r⟩ := h
    unfold toD
    rw [e]
    exact .tup (.of (s.fz fa)) (dps_of s n ws vs f r)
  | 0, .lst _, _, f, _ => by unfold flat at f; cases f
  | 0, .tup _, _, f, _ => by unfold flat at f; cases f
  | _, .dK _ _, _, f, _ => by unfold flat at f; cases f
  | _, .dT _ _, _, f, _ => by unfold flat at f; cases f
  | _, .set _, _, f, _ => by unfold flat at f; cases f
  | _, .tok, _, f, _ => by unfold flat at f; cases f
  | _, .tk1, _, f, _ => by unfold flat at f; cases f
  | _, .scr, _, f, _ => by unfold flat at f; cases f
theorem dps_of (s : Sub F H) : ∀ (n : Nat) (ws : List W) (vs : List V), flats n ws = true → Reps K F ws vs → DpAll K H vs (toDs ws)
  | _, [], _, _, h => by unfold Reps at h; subst h; unfold toDs; exact .nil
  | n, w :: ws, _, f, h => by
    unfold flats at f
    obtain ⟨f1, f2⟩ := Bool.and_eq_true_iff.mp f
    unfold Reps at h
    obtain ⟨v, r, e, h1, h2⟩ := h
    subst e
    unfold toDs
    exact .cons (dp_of s n w v f1 h1) (dps_of s n ws r f2 h2)
end
theorem Rel.dp (R : Rel K B F0 F η σ H) {n : Nat} {w : W} {b : Bool} {v : V} (f : flat n w = true) (h : VB K F η σ w b v) : Dp K H v (toD w) := by
  rcases R.look h with h | ⟨a, o, e, hH, r⟩
  · exact dp_of R.sub n w v f h
  · subst e
    cases w with
    | lst ws =>
      obtain ⟨vs, e, r⟩ := r
      subst e
      cases n with
      | zero => unfold flat at f; cases f
      | succ n => unfold flat at f; unfold toD; exact .lst (.of hH) (dps_of R.sub n ws vs f r)
    | tup ws =>
      obtain ⟨vs, e, r⟩ := r
      subst e
      cases n with
      | zero => unfold flat at f; cases f
      | succ n => unfold flat at f; unfold toD; exact .tup (.of hH) (dps_of R.sub n ws vs f r)
    | dK _ _ => unfold flat at f; cases f
    | dT _ _ => unfold flat at f; cases f
    | set _ => unfold flat at f; cases f
    | _ => exact r.elim
mutual
theorem weq_ok : ∀ (n : Nat) (x y : W), flat n x = true → flat n y = true → PyData.eqv (toD x) (toD y) = weq x y
  | _, .non, y, _, f => by cases y <;> first | (simp [flat] at f; done) | simp [toD, PyData.eqv, weq]
  | _, .bl _, y, _, f => by cases y <;> first | (simp [flat] at f; done) | simp [toD, PyData.eqv, weq]
  | _, .int _, y, _, f => by cases y <;> first | (simp [flat] at f; done) | simp [toD, PyData.eqv, weq]
  | _, .str _, y, _, f => by cases y <;> first | (simp [flat] at f; done) | simp [toD, PyData.eqv, weq]
  | n + 1, .lst xs, y, g, f => by
    cases y with
    | lst ys =>
      unfold flat at f g
      unfold toD PyData.eqv weq
      exact weqs_ok n xs ys g f
    | _ => first | (simp [flat] at f; done) | simp [toD, PyData.eqv, weq]
  | n + 1, .tup xs, y, g, f => by
    cases y with
    | tup ys =>
      unfold flat at f g
      unfold toD PyData.eqv weq
      exact weqs_ok n xs ys g f
    | _ => first | (simp [flat] at f; done) | simp [toD, PyData.eqv, weq]
  | 0, .lst _, _, f, _ => by unfold flat at f; cases f
  | 0, .tup _, _, f, _ => by unfold flat at f; cases f
  | _, .dK _ _, _, f, _ => by unfold flat at f; cases f
  | _, .dT _ _, _, f, _ => by unfold flat at f; cases f
  | _, .set _, _, f, _ => by unfold flat at f; cases f
  | _, .tok, _, f, _ => by unfold flat at f; cases f
  | _, .tk1, _, f, _ => by unfold flat at f; cases f
  | _, .scr, _, f, _ => by unfold flat at f; cases f
theorem weqs_ok : ∀ (n : Nat) (xs ys : List W), flats n xs = true → flats n ys = true → PyData.eqvAll (toDs xs) (toDs ys) = weqs xs ys
  | _, [], [], _, _ => by unfold toDs PyData.eqvAll weqs; rfl
  | _, [], _ :: _, _, _ => by unfold toDs PyData.eqvAll weqs; rfl
  | _, _ :: _, [], _, _ => by unfold toDs PyData.eqvAll weqs; rfl
  | n, x :: xs, y :: ys, f, g => by
    unfold flats at f g
    obtain ⟨f1, f2⟩ := Bool.and_eq_true_iff.mp f
    obtain ⟨g1, g2⟩ := Bool.and_eq_true_iff.mp g
    unfold toDs PyData.eqvAll weqs
    rw [weq_ok n x y f1 g1, weqs_ok n xs ys f2 g2]
end
/-- values that == compares here -/
def Fl (w : W) : Prop := flat 20 w = true ∧ stOk w = true
theorem Fl.shaped {w : W} (h : Fl w) : SeqAt.shaped (toD w) = true := by
  unfold SeqAt.shaped
  rw [lay_ok w h.2, Bool.true_and]
  exact decide_eq_true (Nat.le_trans (flat_ok 20 w h.1) (by decide))
def sEq : S2 := fun x y Q => Fl x ∧ Fl y ∧ Q (.bl (weq x y)) false
def sNe : S2 := fun x y Q => Fl x ∧ Fl y ∧ Q (.bl (!weq x y)) false
theorem ow_eq (hu : X.A.units + 64 < cLine) : OpW X (compareOp .Eq) sEq := by
  refine ⟨_, op_eqD hu, fun B F0 F η σ H x y bx bY vx vy Q0 Q R hx hy q k => ?_⟩
  obtain ⟨f, g, q⟩ := q
  refine ⟨_, _, R.dp f.1 hx, R.dp g.1 hy, f.shaped, g.shaped, ?_⟩
  rw [weq_ok 20 x y f.1 g.1]
  exact k.bl R q
theorem ow_ne (hu : X.A.units + 64 < cLine) : OpW X (compareOp .NotEq) sNe := by
  refine ⟨_, op_neD hu, fun B F0 F η σ H x y bx bY vx vy Q0 Q R hx hy q k => ?_⟩
  obtain ⟨f, g, q⟩ := q
  refine ⟨_, _, R.dp f.1 hx, R.dp g.1 hy, f.shaped, g.shaped, ?_⟩
  rw [weq_ok 20 x y f.1 g.1]
  exact k.bl R q
/-- x in a list -/
def sIn : S2 := fun x y Q => match y with
  | .lst ys => Fl x ∧ Fl (.lst ys) ∧ Q (.bl (ys.any fun z => weq z x)) false
  | _ => False
def sNotIn : S2 := fun x y Q => match y with
  | .lst ys => Fl x ∧ Fl (.lst ys) ∧ Q (.bl (!ys.any fun z => weq z x)) false
  | _ => False
theorem any_weq {n m : Nat} {x : W} (fx : flat n x = true) (h : m ≤ n) : ∀ ys : List W, (∀ (k : Nat) (w : W), k ≤ n → flat k w = true → flat n w = true) → flats m ys = true → (toDs ys).any (fun z => PyData.eqv z (toD x)) = ys.any fun z => weq z x
  | [], _, _ => by unfold toDs; rfl
  | y :: ys, mo, f => by
    unfold flats at f
    obtain ⟨f1, f2⟩ := Bool.and_eq_true_iff.mp f
    unfold toDs
    rw [List.any_cons, List.any_cons, any_weq fx h ys mo f2, weq_ok n y x (mo m y h f1) fx]
mutual
theorem flat_up : ∀ (n : Nat) (w : W), flat n w = true → flat (n + 1) w = true
  | _, .non, _ => by unfold flat; rfl
  | _, .bl _, _ => by unfold flat; rfl
  | _, .int _, _ => by unfold flat; rfl
  | _, .str _, _ => by unfold flat; rfl
  | 0, .lst ws, h => by unfold flat at h; cases h
  | 0, .tup ws, h => by unfold flat at h; cases h
  | n + 1, .lst ws, h => by unfold flat at h ⊢; exact flats_up n ws h
  | n + 1, .tup ws, h => by unfold flat at h ⊢; exact flats_up n ws h
  | _, .dK _ _, h => by unfold flat at h; cases h
  | _, .dT _ _, h => by unfold flat at h; cases h
  | _, .set _, h => by unfold flat at h; cases h
  | _, .tok, h => by unfold flat at h; cases h
  | _, .tk1, h => by unfold flat at h; cases h
  | _, .scr, h => by unfold flat at h; cases h
theorem flats_up : ∀ (n : Nat) (ws : List W), flats n ws = true → flats (n + 1) ws = true
  | _, [], _ => by unfold flats; rfl
  | n, w :: ws, h => by
    unfold flats at h ⊢
    obtain ⟨h1, h2⟩ := Bool.and_eq_true_iff.mp h
    rw [flat_up n w h1, flats_up n ws h2]; rfl
end
theorem flat_le {n : Nat} : ∀ {m : Nat} {w : W}, m ≤ n → flat m w = true → flat n w = true := by
  intro m w h f
  induction h with
  | refl => exact f
  | step _ ih => exact flat_up _ _ ih
theorem any_in {x : W} {ys : List W} (hx : Fl x) (hy : Fl (.lst ys)) : (toDs ys).any (fun z => PyData.eqv z (toD x)) = ys.any fun z => weq z x := by
  have f := hy.1
  unfold flat at f
  exact any_weq hx.1 (by decide : 19 ≤ 20) ys (fun k w hk hw => flat_le hk hw) f
theorem Fl.dl {ys : List W} : toD (.lst ys) = .list (toDs ys) := by unfold toD; rfl
theorem ow_in (hu : X.A.units + 65 < cLine) : OpW X (compareOp .In) sIn := by
  refine ⟨_, op_inD hu, fun B F0 F η σ H x y bx bY vx vy Q0 Q R hx hy q k => ?_⟩
  cases y with
  | lst ys =>
    obtain ⟨f, g, q⟩ := q
    have d2 := R.dp g.1 hy
    have s2 := g.shaped
    rw [Fl.dl] at d2 s2
    refine ⟨_, _, R.dp f.1 hx, d2, f.shaped, s2, ?_⟩
    rw [any_in f g]
    exact k.bl R q
  | _ => exact q.elim
theorem ow_notin (hu : X.A.units + 65 < cLine) : OpW X (compareOp .NotIn) sNotIn := by
  refine ⟨_, op_notInD hu, fun B F0 F η σ H x y bx bY vx vy Q0 Q R hx hy q k => ?_⟩
  cases y with
  | lst ys =>
    obtain ⟨f, g, q⟩ := q
    have d2 := R.dp g.1 hy
    have s2 := g.shaped
    rw [Fl.dl] at d2 s2
    refine ⟨_, _, R.dp f.1 hx, d2, f.shaped, s2, ?_⟩
    rw [any_in f g]
    exact k.bl R q
  | _ => exact q.elim

/-! is None -/
def isNon : W → Bool
  | .non => true
  | _ => false
theorem isNon_ok {w : W} {b : Bool} {v : V} (R : Rel K B F0 F η σ H) (h : VB K F η σ w b v) : decide (v = .non) = isNon w := by
  rcases R.look h with h | ⟨a, o, e, _, r⟩
  · cases w <;> unfold Rep at h <;> first
      | (rw [h]; rfl)
      | (obtain ⟨_, _, e, _⟩ := h; rw [e]; rfl)
      | (obtain ⟨_, e, _⟩ := h; rw [e]; rfl)
  · subst e
    cases w <;> first | rfl | exact r.elim
def eIs (wa : TWE) : TWE := fun η Q => wa η fun x _ => Q (.bl (isNon x)) false
def eIsNot (wa : TWE) : TWE := fun η Q => wa η fun x _ => Q (.bl (!isNon x)) false
theorem re_is {j pos'} (ha : RO X a wa) : RE X (.Compare a [.Is] [.Constant .none j pos'] pos) (eIs wa) := PE.imp (pe_cmp (pc_isN ha)) fun σ H Q q => by
  obtain ⟨B, F0, F, η, Q0, R, w, k⟩ := q
  refine ⟨B, F0, F, η, _, R, w, fun r b q F1 H1 v l1 R1 hv => ?_⟩
  show Q (V.bl (decide (v = .non))) H1
  rw [isNon_ok R1 hv]
  exact (k.le l1).bl R1 q
theorem re_isnot {j pos'} (ha : RO X a wa) : RE X (.Compare a [.IsNot] [.Constant .none j pos'] pos) (eIsNot wa) := PE.imp (pe_cmp (pc_notN ha)) fun σ H Q q => by
  obtain ⟨B, F0, F, η, Q0, R, w, k⟩ := q
  refine ⟨B, F0, F, η, _, R, w, fun r b q F1 H1 v l1 R1 hv => ?_⟩
  show Q (V.bl (!decide (v = .non))) H1
  rw [isNon_ok R1 hv]
  exact (k.le l1).bl R1 q

/-! ### truth -/
def truth : W → (Bool → Prop) → Prop
  | .non, Q => Q false
  | .bl b, Q => Q b
  | .int i, Q => Q (i != 0)
  | .lst xs, Q => Q (!xs.isEmpty)
  | .tup xs, Q => Q (!xs.isEmpty)
  | .dK ks _, Q => Q (!ks.isEmpty)
  | _, _ => False
theorem reps_empty {ws : List W} {vs : List V} (r : Reps K F ws vs) : ws.isEmpty = vs.isEmpty := by
  have := r.length
  cases ws <;> cases vs <;> first | rfl | simp at this
theorem truth_ok {w : W} {b : Bool} {v : V} {Q : Bool → Prop} (R : Rel K B F0 F η σ H) (h : VB K F η σ w b v) (q : truth w Q) : ∃ k, TruV K v H k ∧ Q k := by
  cases w with
  | non => rw [R.non h]; exact ⟨_, rfl, q⟩
  | bl b => rw [R.bl h]; exact ⟨_, rfl, q⟩
  | int i => rw [R.int h]; exact ⟨_, rfl, q⟩
  | lst xs =>
    obtain ⟨a, vs, e, hH, r⟩ := R.lst h
    subst e
    exact ⟨_, .inl ⟨vs, .of hH, rfl⟩, by rw [← reps_empty r]; exact q⟩
  | tup xs =>
    obtain ⟨a, vs, e, hH, r⟩ := R.tup h
    subst e
    exact ⟨_, .inr (.inl ⟨vs, .of hH, rfl⟩), by rw [← reps_empty r]; exact q⟩
  | dK ks xs =>
    obtain ⟨a, vs, e, hH, z, r⟩ := R.dK h
    subst e
    refine ⟨_, .inr (.inr ⟨_, hH, rfl⟩), ?_⟩
    have z2 := r.length
    cases ks with
    | nil => exact q
    | cons k ks =>
      cases vs with
      | nil => simp at z z2; rw [z2] at z; simp at z
      | cons v vs => exact q
  | _ => exact q.elim
def bT (w : TWE) : TWT := fun η Q => w η fun r _ => truth r Q
theorem rt_tru (ha : RO X a wa) (he : ∀ whole, isTrue a X.env whole = (do let v ← whole; standAt a.pos; holding [v] (truthy v)) := by intro _; rfl) : RT X a (bT wa) := PT.imp (pt_truth ha he) fun σ H Q q => by
  obtain ⟨B, F0, F, η, Q0, R, w, k⟩ := q
  refine ⟨B, F0, F, η, _, R, w, fun r b q F1 H1 v l1 R1 hv => ?_⟩
  obtain ⟨c, t, q2⟩ := truth_ok R1 hv q
  exact ⟨c, t, k _ q2 F1 H1 l1 R1⟩
def bNot (t : TWT) : TWT := fun η Q => t η fun c => Q (!c)
def bAnd (t u : TWT) : TWT := fun η Q => t η fun c => if c = true then u η Q else Q false
def bOr (t u : TWT) : TWT := fun η Q => t η fun c => if c = true then Q true else u η Q
theorem rt_not (ha : RT X a ta) : RT X (.UnaryOp .Not a pos) (bNot ta) := PT.imp (pt_not ha) fun σ H Q q => by
  obtain ⟨B, F0, F, η, Q0, R, w, k⟩ := q
  exact ⟨B, F0, F, η, _, R, w, fun c q F1 H1 l1 R1 => k _ q F1 H1 l1 R1⟩
theorem rw_and1 (ha : RT X a ta) : RW X (.BoolOp .And [a] pos) ta := pw_and1 ha
theorem rw_or1 (ha : RT X a ta) : RW X (.BoolOp .Or [a] pos) ta := pw_or1 ha
theorem rw_and {rest : List Expr} (ha : RT X a ta) (hb : RW X (.BoolOp .And (b :: rest) pos) tb) : RW X (.BoolOp .And (a :: b :: rest) pos) (bAnd ta tb) := PW.imp (pw_and ha hb) fun σ H Q q => by
  obtain ⟨B, F0, F, η, Q0, R, w, k⟩ := q
  refine ⟨B, F0, F, η, _, R, w, fun c q F1 H1 l1 R1 => ?_⟩
  cases c with
  | true => exact ⟨B, F0, F1, η, _, R1, q, fun d q2 F2 H2 l2 R2 => k _ q2 F2 H2 (l1.trans l2) R2⟩
  | false => exact k _ q F1 H1 l1 R1
theorem rw_or {rest : List Expr} (ha : RT X a ta) (hb : RW X (.BoolOp .Or (b :: rest) pos) tb) : RW X (.BoolOp .Or (a :: b :: rest) pos) (bOr ta tb) := PW.imp (pw_or ha hb) fun σ H Q q => by
  obtain ⟨B, F0, F, η, Q0, R, w, k⟩ := q
  refine ⟨B, F0, F, η, _, R, w, fun c q F1 H1 l1 R1 => ?_⟩
  cases c with
  | true => exact k _ q F1 H1 l1 R1
  | false => exact ⟨B, F0, F1, η, _, R1, q, fun d q2 F2 H2 l2 R2 => k _ q2 F2 H2 (l1.trans l2) R2⟩
theorem rt_of (h : RW X a ta) : RT X a ta := PW.pt h

/-! and, or, not, if as values -/
def eAnd (wa wb : TWE) : TWE := fun η Q => wa η fun x fr => truth x fun c => if c = true then wb η Q else Q x fr
def eOr (wa wb : TWE) : TWE := fun η Q => wa η fun x fr => truth x fun c => if c = true then Q x fr else wb η Q
def eNot (wa : TWE) : TWE := fun η Q => wa η fun x _ => truth x fun c => Q (.bl (!c)) false
def eIf (t : TWT) (wa wb : TWE) : TWE := fun η Q => t η fun c => if c = true then wa η Q else wb η Q
theorem re_one {op} (h : RE X a wa) : RE X (.BoolOp op [a] pos) wa := pe_one h
theorem val_truth {w : W} {fr : Bool} {v : V} {Q : Bool → Prop} (R : Rel K B F0 F η σ H) (h : Val K B F η σ H w fr v) (q : truth w Q) : ∃ k, TruV K v H k ∧ Q k := by
  cases fr with
  | false => exact truth_ok (b := false) R (.inl h) q
  | true =>
    obtain ⟨p, o, e, hF, hB, hH, r, hn⟩ := h
    subst e
    have R2 := R.freeze hF hB hH hn
    exact truth_ok (b := false) R2 (.inl (rep_of K (RepO.mono K (le_addF hF) r) addF_same)) q
theorem re_and {rest : List Expr} (ha : RE X a wa) (hb : RE X (.BoolOp .And (b :: rest) pos) wb) : RE X (.BoolOp .And (a :: b :: rest) pos) (eAnd wa wb) := PE.imp (pe_andT ha hb) fun σ H Q q => by
  obtain ⟨B, F0, F, η, Q0, R, w, k⟩ := q
  refine ⟨B, F0, F, η, _, R, w, fun r fr q F1 H1 v l1 R1 hv => ?_⟩
  obtain ⟨c, t, q2⟩ := val_truth R1 hv q
  refine ⟨c, t, ?_⟩
  cases c with
  | true => exact ⟨B, F0, F1, η, _, R1, q2, k.le l1⟩
  | false => exact (k.le l1).val R1 q2 hv
theorem re_or {rest : List Expr} (ha : RE X a wa) (hb : RE X (.BoolOp .Or (b :: rest) pos) wb) : RE X (.BoolOp .Or (a :: b :: rest) pos) (eOr wa wb) := PE.imp (pe_orT ha hb) fun σ H Q q => by
  obtain ⟨B, F0, F, η, Q0, R, w, k⟩ := q
  refine ⟨B, F0, F, η, _, R, w, fun r fr q F1 H1 v l1 R1 hv => ?_⟩
  obtain ⟨c, t, q2⟩ := val_truth R1 hv q
  refine ⟨c, t, ?_⟩
  cases c with
  | true => exact (k.le l1).val R1 q2 hv
  | false => exact ⟨B, F0, F1, η, _, R1, q2, k.le l1⟩
theorem re_not (ha : RO X a wa) : RE X (.UnaryOp .Not a pos) (eNot wa) := PE.imp (pe_notT ha) fun σ H Q q => by
  obtain ⟨B, F0, F, η, Q0, R, w, k⟩ := q
  refine ⟨B, F0, F, η, _, R, w, fun r b q F1 H1 v l1 R1 hv => ?_⟩
  obtain ⟨c, t, q2⟩ := truth_ok R1 hv q
  exact ⟨c, t, (k.le l1).bl R1 q2⟩
theorem re_if {c : Expr} (hc : RT X c ta) (ha : RE X a wa) (hb : RE X b wb) : RE X (.IfExp c a b pos) (eIf ta wa wb) := PE.imp (pe_ifExp hc ha hb) fun σ H Q q => by
  obtain ⟨B, F0, F, η, Q0, R, w, k⟩ := q
  refine ⟨B, F0, F, η, _, R, w, fun c q F1 H1 l1 R1 => ?_⟩
  cases c with
  | true => exact ⟨B, F0, F1, η, _, R1, q, k.le l1⟩
  | false => exact ⟨B, F0, F1, η, _, R1, q, k.le l1⟩
/-- -x -/
def eNeg (wa : TWE) : TWE := fun η Q => wa η fun x _ => match x with
  | .int i => Q (.int (-i)) false
  | _ => False
theorem re_neg (ha : RO X a wa) : RE X (.UnaryOp .USub a pos) (eNeg wa) := PE.imp (pe_un un_neg ha) fun σ H Q q => by
  obtain ⟨B, F0, F, η, Q0, R, w, k⟩ := q
  refine ⟨B, F0, F, η, _, R, w, fun r b q F1 H1 v l1 R1 hv => ?_⟩
  cases r with
  | int i => exact ⟨i, R1.int hv, (k.le l1).int R1 q⟩
  | _ => exact q.elim
/-- a < b <= c -/
def eChain (s s' : S2) (wa wb wc : TWE) : TWE := fun η Q => wa η fun x _ => wb η fun y _ => s x y fun z _ => match z with
  | .bl k => if k = true then wc η fun w' _ => s' y w' Q else Q (.bl false) false
  | _ => False

/-! ### subscripts, slices -/
def sIx : S2 := fun x y Q => match x, y with
  | .lst ws, .int i => match atI ws i with
    | some w => Q w false
    | none => False
  | .tup ws, .int i => match atI ws i with
    | some w => Q w false
    | none => False
  | _, _ => False
theorem Reps.ix {ws : List W} {vs : List V} {i : Int} {w : W} (r : Reps K F ws vs) (h : atI ws i = some w) : ∃ v, atI vs i = some v ∧ Rep K F w v := by
  unfold atI at h ⊢
  rw [← r.length]
  cases q : ixN ws.length i with
  | none => rw [q] at h; cases h
  | some j => rw [q] at h; exact r.get h
theorem re_ix (ha : RO X a wa) (hb : RO X b wb) (hs : PlainIx b) : RE X (.Subscript a b pos) (eBin sIx wa wb) := by
  refine PE.imp (pe_ix (ix_list.or ix_tup) ha hb hs) fun σ H Q q => bin_run (fun B F0 F η σ H x y bx bY vx vy Q0 Q R hx hy q k => ?_) q
  cases x with
  | lst ws =>
    cases y with
    | int i =>
      unfold sIx at q
      simp only at q
      split at q
      · rename_i w e
        obtain ⟨p, vs, ev, hH, r⟩ := R.lst hx
        obtain ⟨v, e1, r1⟩ := r.ix e
        exact .inl ⟨p, vs, i, v, ev, R.int hy, .of hH, e1, k.sc R q r1⟩
      · exact q.elim
    | _ => exact q.elim
  | tup ws =>
    cases y with
    | int i =>
      unfold sIx at q
      simp only at q
      split at q
      · rename_i w e
        obtain ⟨p, vs, ev, hH, r⟩ := R.tup hx
        obtain ⟨v, e1, r1⟩ := r.ix e
        exact .inr ⟨p, vs, i, v, ev, R.int hy, .of hH, e1, k.sc R q r1⟩
      · exact q.elim
    | _ => exact q.elim
  | _ => cases y <;> exact q.elim
/-- a slice's bound -/
abbrev TWP := Nv → (Option Int → Prop) → Prop
def tP (K : PySem.W.Frag) (w : TWP) : TO := fun σ H Q => ∃ B F0 F η Q0, Rel K B F0 F η σ H ∧ w η Q0 ∧ ∀ o, Q0 o → ∀ F' H', Le F F' → Rel K B F0 F' η σ H' → Q o H'
def RP (X : Cx) (e : Option Expr) (w : TWP) : Prop := PO X e (tP X.K w)
theorem PO.imp {e : Option Expr} {t t' : TO} (h : PO X e t) (k : ∀ σ H Q, t' σ H Q → t σ H Q) : PO X e t' := ⟨fun pins s σ H Q I q => h.run pins s σ H Q I (k σ H Q q)⟩
def pNone : TWP := fun _ Q => Q none
def pSome (w : TWE) : TWP := fun η Q => w η fun r _ => match r with
  | .int i => Q (some i)
  | _ => False
theorem rp_none : RP X none pNone := PO.imp po_none fun σ H Q q => by
  obtain ⟨B, F0, F, η, Q0, R, w, k⟩ := q
  exact k _ w F H (Le.refl _) R
theorem rp_some (h : RO X e wa) : RP X (some e) (pSome wa) := PO.imp (po_some h) fun σ H Q q => by
  obtain ⟨B, F0, F, η, Q0, R, w, k⟩ := q
  refine ⟨B, F0, F, η, _, R, w, fun r b q F1 H1 v l1 R1 hv => ?_⟩
  cases r with
  | int i => exact ⟨i, R1.int hv, k _ q F1 H1 l1 R1⟩
  | _ => exact q.elim
def cutW (xs : List W) (lo hi : Option Int) : List W := (xs.drop (HT.sIx xs.length 0 lo)).take (HT.sIx xs.length xs.length hi - HT.sIx xs.length 0 lo)
theorem Reps.cut {ws : List W} {vs : List V} {lo hi : Option Int} (r : Reps K F ws vs) : Reps K F (cutW ws lo hi) (cutV vs lo hi) := by
  unfold cutW cutV
  rw [r.length]
  exact (r.drop _).take _
def eCut (wa : TWE) (lo hi : TWP) : TWE := fun η Q => wa η fun x _ => lo η fun l => hi η fun h => match x with
  | .lst ws => Q (.lst (cutW ws l h)) true
  | _ => False
theorem re_cut {lo hi : Option Expr} {tl th : TWP} {p2 : Pos} (ha : RO X a wa) (hl : RP X lo tl) (hh : RP X hi th) : RE X (.Subscript a (.Slice lo hi none p2) pos) (eCut wa tl th) := by
  refine PE.imp (pe_slice sl_list ha hl hh) fun σ H Q q => ?_
  obtain ⟨B, F0, F, η, Q0, R, w, k⟩ := q
  refine ⟨B, F0, F, η, _, R, w, fun x bx q F1 H1 vx l1 R1 hx => ⟨B, F0, F1, η, _, R1, q, fun l q F2 H2 l2 R2 => ⟨B, F0, F2, η, _, R2, q, fun h q F3 H3 l3 R3 => ?_⟩⟩⟩
  cases x with
  | lst ws =>
    obtain ⟨p, vs, e, hH, r⟩ := R3.lst ((hx.mono l2).mono l3)
    exact ⟨p, vs, e, .of hH, fun p hp => (k.le ((l1.trans l2).trans l3)).new R3 q ⟨_, rfl, r.cut⟩ hp⟩
  | _ => exact q.elim
theorem Reps.reverse {ws : List W} {vs : List V} (r : Reps K F ws vs) : Reps K F ws.reverse vs.reverse := by
  refine Reps.of_get (by rw [List.length_reverse, List.length_reverse, r.length]) fun i w v h1 h2 => ?_
  have l := r.length
  have hi : i < ws.length := by
    have := (List.getElem?_eq_some_iff.mp h1).1
    rwa [List.length_reverse] at this
  rw [List.getElem?_reverse hi] at h1
  rw [List.getElem?_reverse (by omega), ← l] at h2
  obtain ⟨v', e, q⟩ := r.get h1
  rw [h2] at e
  cases e
  exact q
def eRev (wa : TWE) : TWE := fun η Q => wa η fun x _ => match x with
  | .lst ws => Q (.lst ws.reverse) true
  | _ => False
theorem re_rev {k : Nat} {p1 p2 p3 : Pos} (ha : RO X a wa) : RE X (.Subscript a (.Slice none none (some (.UnaryOp .USub (.Constant (.int 1) k p1) p2)) p3) pos) (eRev wa) := PE.imp (pe_revL ha) fun σ H Q q => by
  obtain ⟨B, F0, F, η, Q0, R, w, k⟩ := q
  refine ⟨B, F0, F, η, _, R, w, fun x bx q F1 H1 vx l1 R1 hx => ?_⟩
  cases x with
  | lst ws =>
    obtain ⟨p, vs, e, hH, r⟩ := R1.lst hx
    exact ⟨p, vs, e, .of hH, fun p hp => (k.le l1).new R1 q ⟨_, rfl, r.reverse⟩ hp⟩
  | _ => exact q.elim

/-! ### calls of what is built in -/
abbrev SC := List W → (W → Bool → Prop) → Prop
def CW (X : Cx) (f : Value) (s : SC) : Prop := ∃ r, CallR X f r ∧
  ∀ (B : Hp) (F0 F : Fz) (η : Nv) (σ : L2.St) (H : Hp) (ws : List W) (b : Bool) (vs : List V) (Q0 : W → Bool → Prop) (Q : VK), Rel X.K B F0 F η σ H → VBs X.K F η σ ws b vs → s ws Q0 → Kon X.K B F0 F η σ Q0 Q → r vs H Q
def eCall (s : SC) (u : TWA) : TWE := fun η Q => u η fun ws _ => s ws Q
theorem cb_run {s : SC} {r : List V → Hp → VK → Prop} (hs : ∀ (B : Hp) (F0 F : Fz) (η : Nv) (σ : L2.St) (H : Hp) (ws : List W) (b : Bool) (vs : List V) (Q0 : W → Bool → Prop) (Q : VK), Rel K B F0 F η σ H → VBs K F η σ ws b vs → s ws Q0 → Kon K B F0 F η σ Q0 Q → r vs H Q)
    (q : tE K (eCall s u) σ H Q) : tCB r (tA K u) σ H Q := by
  obtain ⟨B, F0, F, η, Q0, R, w, k⟩ := q
  exact ⟨B, F0, F, η, _, R, w, fun ws b q F1 H1 vs l1 R1 hv => hs B F0 F1 η σ H1 ws b vs Q0 Q R1 hv q (k.le l1)⟩
variable {p : Pos} {bid T : String} {s : SC}
theorem re_b (hc : CW X (.builtin bid) s) (hg : Gl X x) (hm : X.mg x = none) (hv : bootBuiltins x = some (.builtin bid)) (ha : RA X (e :: es) u) (hn : x ≠ "__name__" := by decide) (hdb : (x == ("__debug__" : Str)) = false := by decide)
    (he : starEach (e :: es) X.env = (false, eval e X.env) :: starEach es X.env := by rfl) (hpl : (backTo pos (starEach es X.env)).any (·.1) = false := by rfl) : RE X (.Call (.Name x p) (e :: es) [] pos) (eCall s u) := by
  obtain ⟨r, o, hs⟩ := hc
  exact PE.imp (pe_callB o hg hm hv ha hn hdb he hpl) fun σ H Q q => cb_run hs q
theorem re_t (hc : CW X (.type T) s) (hg : Gl X x) (hm : X.mg x = none) (hv : bootBuiltins x = some (.type T)) (ha : RA X (e :: es) u) (hn : x ≠ "__name__" := by decide) (hdb : (x == ("__debug__" : Str)) = false := by decide)
    (he : starEach (e :: es) X.env = (false, eval e X.env) :: starEach es X.env := by rfl) (hpl : (backTo pos (starEach es X.env)).any (·.1) = false := by rfl) : RE X (.Call (.Name x p) (e :: es) [] pos) (eCall s u) := by
  obtain ⟨r, o, hs⟩ := hc
  exact PE.imp (pe_callTy o hg hm hv ha hn hdb he hpl) fun σ H Q q => cb_run hs q
theorem re_g (hc : CW X (.builtin bid) s) (hg : Gl X x) (hm : X.mg x = some (.builtin bid)) (ha : RA X (e :: es) u) (hdb : (x == ("__debug__" : Str)) = false := by decide)
    (he : starEach (e :: es) X.env = (false, eval e X.env) :: starEach es X.env := by rfl) (hpl : (backTo pos (starEach es X.env)).any (·.1) = false := by rfl) : RE X (.Call (.Name x p) (e :: es) [] pos) (eCall s u) := by
  obtain ⟨r, o, hs⟩ := hc
  exact PE.imp (pe_callBfun o hg hm ha hdb he hpl) fun σ H Q q => cb_run hs q
theorem VBs.one {w : W} {b : Bool} {vs : List V} (h : VBs K F η σ [w] b vs) : ∃ v, vs = [v] ∧ VB K F η σ w b v := by
  unfold VBs at h
  cases h with
  | cons h t => cases t; exact ⟨_, rfl, h⟩
theorem VBs.two {w w' : W} {b : Bool} {vs : List V} (h : VBs K F η σ [w, w'] b vs) : ∃ v v', vs = [v, v'] ∧ VB K F η σ w b v ∧ VB K F η σ w' b v' := by
  unfold VBs at h
  cases h with
  | cons h t =>
    obtain ⟨v, e, q⟩ := VBs.one t
    exact ⟨_, v, by rw [e], h, q⟩
def cLen : SC := fun ws Q => match ws with
  | [.lst xs] => Q (.int xs.length) false
  | [.tup xs] => Q (.int xs.length) false
  | _ => False
theorem cw_len : CW X (.builtin "len") cLen := by
  refine ⟨_, call_len_seq, fun B F0 F η σ H ws b vs Q0 Q R hv q k => ?_⟩
  unfold cLen at q
  split at q
  · obtain ⟨v, e, h⟩ := hv.one
    obtain ⟨a, us, e1, hH, r⟩ := R.lst h
    exact ⟨a, us, by rw [e, e1], .inl (.of hH), by rw [← r.length]; exact k.int R q⟩
  · obtain ⟨v, e, h⟩ := hv.one
    obtain ⟨a, us, e1, hH, r⟩ := R.tup h
    exact ⟨a, us, by rw [e, e1], .inr (.of hH), by rw [← r.length]; exact k.int R q⟩
  · exact q.elim
def cAbs : SC := fun ws Q => match ws with
  | [.int i] => Q (.int (if i < 0 then -i else i)) false
  | _ => False
theorem cw_abs : CW X (.builtin "abs") cAbs := by
  refine ⟨_, call_abs, fun B F0 F η σ H ws b vs Q0 Q R hv q k => ?_⟩
  unfold cAbs at q
  split at q
  · obtain ⟨v, e, h⟩ := hv.one
    exact ⟨_, by rw [e, R.int h], k.int R q⟩
  · exact q.elim
def cInt : SC := fun ws Q => match ws with
  | [.int i] => Q (.int i) false
  | [.bl b] => Q (.int (if b = true then 1 else 0)) false
  | _ => False
theorem cw_int : CW X (.type "int") cInt := by
  refine ⟨_, call_int1, fun B F0 F η σ H ws b vs Q0 Q R hv q k => ?_⟩
  unfold cInt at q
  split at q
  · obtain ⟨v, e, h⟩ := hv.one
    exact .inl ⟨_, by rw [e, R.int h], k.int R q⟩
  · obtain ⟨v, e, h⟩ := hv.one
    exact .inr ⟨_, by rw [e, R.bl h], k.int R q⟩
  · exact q.elim
def cMax2 : SC := fun ws Q => match ws with
  | [.int i, .int j] => Q (.int (if j > i then j else i)) false
  | _ => False
def cMin2 : SC := fun ws Q => match ws with
  | [.int i, .int j] => Q (.int (if j < i then j else i)) false
  | _ => False
theorem cw_max2 (hc : X.calm = true) : CW X (.builtin "max") cMax2 := by
  refine ⟨_, call_max2 hc, fun B F0 F η σ H ws b vs Q0 Q R hv q k => ?_⟩
  unfold cMax2 at q
  split at q
  · obtain ⟨v, v', e, h, h'⟩ := hv.two
    exact ⟨_, _, by rw [e, R.int h, R.int h'], k.int R q⟩
  · exact q.elim
theorem cw_min2 (hc : X.calm = true) : CW X (.builtin "min") cMin2 := by
  refine ⟨_, call_min2 hc, fun B F0 F η σ H ws b vs Q0 Q R hv q k => ?_⟩
  unfold cMin2 at q
  split at q
  · obtain ⟨v, v', e, h, h'⟩ := hv.two
    exact ⟨_, _, by rw [e, R.int h, R.int h'], k.int R q⟩
  · exact q.elim
def cGcd : SC := fun ws Q => match ws with
  | [.int i, .int j] => Q (.int (Int.gcd i j)) false
  | _ => False
theorem cw_gcd : CW X (.builtin "math.gcd") cGcd := by
  refine ⟨_, cr_gcd, fun B F0 F η σ H ws b vs Q0 Q R hv q k => ?_⟩
  unfold cGcd at q
  split at q
  · obtain ⟨v, v', e, h, h'⟩ := hv.two
    exact ⟨_, _, by rw [e, R.int h, R.int h'], k.int R q⟩
  · exact q.elim
/-- a list of ints -/
def ints? : List W → Option (List Int)
  | [] => some []
  | .int i :: ws => (ints? ws).map (i :: ·)
  | _ => none
theorem ints?_map : ∀ ns : List Int, ints? (ns.map W.int) = some ns
  | [] => rfl
  | n :: ns => by
    rw [List.map_cons]
    show (ints? (ns.map W.int)).map (n :: ·) = _
    rw [ints?_map ns]; rfl
theorem ints?_eq : ∀ {ws : List W} {ns : List Int}, ints? ws = some ns → ws = ns.map W.int
  | [], ns, h => by cases (show some [] = some ns from h); rfl
  | .int i :: ws, ns, h => by
    have h : (ints? ws).map (i :: ·) = some ns := h
    cases q : ints? ws with
    | none => rw [q] at h; cases h
    | some ms => rw [q] at h; cases h; rw [ints?_eq q]; rfl
  | .non :: _, _, h => by cases (show none = some _ from h)
  | .bl _ :: _, _, h => by cases (show none = some _ from h)
  | .str _ :: _, _, h => by cases (show none = some _ from h)
  | .lst _ :: _, _, h => by cases (show none = some _ from h)
  | .tup _ :: _, _, h => by cases (show none = some _ from h)
  | .dK _ _ :: _, _, h => by cases (show none = some _ from h)
  | .dT _ _ :: _, _, h => by cases (show none = some _ from h)
  | .set _ :: _, _, h => by cases (show none = some _ from h)
  | .tok :: _, _, h => by cases (show none = some _ from h)
  | .tk1 :: _, _, h => by cases (show none = some _ from h)
  | .scr :: _, _, h => by cases (show none = some _ from h)
def cSum : SC := fun ws Q => match ws with
  | [.lst xs] => ∃ ns, ints? xs = some ns ∧ Q (.int ns.sum) false
  | _ => False
theorem Rel.ints (R : Rel K B F0 F η σ H) {ws : List W} {ns : List Int} {b : Bool} {v : V} (e : ints? ws = some ns) (h : VB K F η σ (.lst ws) b v) : ∃ a, v = .ref a ∧ SqL K H a (ns.map V.int) := by
  rw [ints?_eq e] at h
  obtain ⟨a, us, e1, hH, r⟩ := R.lst h
  exact ⟨a, e1, by rw [← reps_ints r]; exact .of hH⟩
theorem cw_sum (hc : X.calm = true) : CW X (.builtin "sum") cSum := by
  refine ⟨_, cr_sum hc, fun B F0 F η σ H ws b vs Q0 Q R hv q k => ?_⟩
  unfold cSum at q
  split at q
  · obtain ⟨ns, e, q⟩ := q
    obtain ⟨v, e1, h⟩ := hv.one
    obtain ⟨a, e2, h2⟩ := R.ints e h
    exact ⟨a, ns, by rw [e1, e2], h2, k.int R q⟩
  · exact q.elim
def cMax : SC := fun ws Q => match ws with
  | [.lst xs] => ∃ ns, ints? xs = some ns ∧ 0 < ns.length ∧ ∀ m, m ∈ ns → (∀ y, y ∈ ns → y ≤ m) → Q (.int m) false
  | _ => False
def cMin : SC := fun ws Q => match ws with
  | [.lst xs] => ∃ ns, ints? xs = some ns ∧ 0 < ns.length ∧ ∀ m, m ∈ ns → (∀ y, y ∈ ns → m ≤ y) → Q (.int m) false
  | _ => False
theorem cw_max (hc : X.calm = true) : CW X (.builtin "max") cMax := by
  refine ⟨_, cr_max hc, fun B F0 F η σ H ws b vs Q0 Q R hv q k => ?_⟩
  unfold cMax at q
  split at q
  · obtain ⟨ns, e, z, q⟩ := q
    obtain ⟨v, e1, h⟩ := hv.one
    obtain ⟨a, e2, h2⟩ := R.ints e h
    exact ⟨a, ns, by rw [e1, e2], h2, z, fun m h1 h2 => k.int R (q m h1 h2)⟩
  · exact q.elim
theorem cw_min (hc : X.calm = true) : CW X (.builtin "min") cMin := by
  refine ⟨_, cr_min hc, fun B F0 F η σ H ws b vs Q0 Q R hv q k => ?_⟩
  unfold cMin at q
  split at q
  · obtain ⟨ns, e, z, q⟩ := q
    obtain ⟨v, e1, h⟩ := hv.one
    obtain ⟨a, e2, h2⟩ := R.ints e h
    exact ⟨a, ns, by rw [e1, e2], h2, z, fun m h1 h2 => k.int R (q m h1 h2)⟩
  · exact q.elim
/-- sorted of few ints -/
def cSorted : SC := fun ws Q => match ws with
  | [.lst xs] => ∃ ns, ints? xs = some ns ∧ ns.length < 64 ∧ ∀ ns' : List Int, ns'.Perm ns → ns'.Pairwise (· ≤ ·) → Q (.lst (ns'.map W.int)) true
  | _ => False
theorem cw_sorted : CW X (.builtin "sorted") cSorted := by
  refine ⟨_, cr_sorted, fun B F0 F η σ H ws b vs Q0 Q R hv q k => ?_⟩
  unfold cSorted at q
  split at q
  · obtain ⟨ns, e, z, q⟩ := q
    obtain ⟨v, e1, h⟩ := hv.one
    obtain ⟨a, e2, h2⟩ := R.ints e h
    exact ⟨a, ns, by rw [e1, e2], h2, z, fun m p h1 h2 hp => k.new R (q m h1 h2) ⟨_, rfl, of_ints m⟩ hp⟩
  · exact q.elim
def cList : SC := fun ws Q => match ws with
  | [.lst xs] => Q (.lst xs) true
  | [.tup xs] => Q (.lst xs) true
  | _ => False
theorem cw_list : CW X (.type "list") cList := by
  refine ⟨_, call_list_of, fun B F0 F η σ H ws b vs Q0 Q R hv q k => ?_⟩
  unfold cList at q
  split at q
  · obtain ⟨v, e, h⟩ := hv.one
    obtain ⟨a, us, e1, hH, r⟩ := R.lst h
    exact ⟨a, us, by rw [e, e1], .inl (.of hH), fun p hp => k.new R q ⟨_, rfl, r⟩ hp⟩
  · obtain ⟨v, e, h⟩ := hv.one
    obtain ⟨a, us, e1, hH, r⟩ := R.tup h
    exact ⟨a, us, by rw [e, e1], .inr (.of hH), fun p hp => k.new R q ⟨_, rfl, r⟩ hp⟩
  · exact q.elim
def cTuple : SC := fun ws Q => match ws with
  | [.lst xs] => Q (.tup xs) true
  | _ => False
theorem cw_tuple : CW X (.type "tuple") cTuple := by
  refine ⟨_, call_tuple_of, fun B F0 F η σ H ws b vs Q0 Q R hv q k => ?_⟩
  unfold cTuple at q
  split at q
  · obtain ⟨v, e, h⟩ := hv.one
    obtain ⟨a, us, e1, hH, r⟩ := R.lst h
    exact ⟨a, us, by rw [e, e1], .inl ⟨.of hH, fun p hp => k.new R q ⟨_, rfl, r⟩ hp⟩⟩
  · exact q.elim
def bls? : List W → Option (List Bool)
  | [] => some []
  | .bl i :: ws => (bls? ws).map (i :: ·)
  | _ => none
theorem bls?_map : ∀ ns : List Bool, bls? (ns.map W.bl) = some ns
  | [] => rfl
  | n :: ns => by
    rw [List.map_cons]
    show (bls? (ns.map W.bl)).map (n :: ·) = _
    rw [bls?_map ns]; rfl
theorem reps_bls : ∀ {ws : List W} {ns : List Bool} {vs : List V}, bls? ws = some ns → Reps K F ws vs → vs = ns.map V.bl
  | [], ns, vs, h, r => by cases (show some [] = some ns from h); unfold Reps at r; exact r
  | .bl i :: ws, ns, vs, h, r => by
    have h : (bls? ws).map (i :: ·) = some ns := h
    cases q : bls? ws with
    | none => rw [q] at h; cases h
    | some ms =>
      rw [q] at h; cases h
      unfold Reps at r
      obtain ⟨v, t, e, h1, h2⟩ := r
      unfold Rep at h1
      rw [e, h1, reps_bls q h2]; rfl
  | .non :: _, _, _, h, _ => by cases (show none = some _ from h)
  | .int _ :: _, _, _, h, _ => by cases (show none = some _ from h)
  | .str _ :: _, _, _, h, _ => by cases (show none = some _ from h)
  | .lst _ :: _, _, _, h, _ => by cases (show none = some _ from h)
  | .tup _ :: _, _, _, h, _ => by cases (show none = some _ from h)
  | .dK _ _ :: _, _, _, h, _ => by cases (show none = some _ from h)
  | .dT _ _ :: _, _, _, h, _ => by cases (show none = some _ from h)
  | .set _ :: _, _, _, h, _ => by cases (show none = some _ from h)
  | .tok :: _, _, _, h, _ => by cases (show none = some _ from h)
  | .tk1 :: _, _, _, h, _ => by cases (show none = some _ from h)
  | .scr :: _, _, _, h, _ => by cases (show none = some _ from h)
def cAll : SC := fun ws Q => match ws with
  | [.lst xs] => ∃ ns, bls? xs = some ns ∧ Q (.bl (ns.all id)) false
  | _ => False
def cAny : SC := fun ws Q => match ws with
  | [.lst xs] => ∃ ns, bls? xs = some ns ∧ Q (.bl (ns.any id)) false
  | _ => False
theorem cw_all (hc : X.calm = true) : CW X (.builtin "all") cAll := by
  refine ⟨_, cr_all hc, fun B F0 F η σ H ws b vs Q0 Q R hv q k => ?_⟩
  unfold cAll at q
  split at q
  · obtain ⟨ns, e, q⟩ := q
    obtain ⟨v, e1, h⟩ := hv.one
    obtain ⟨a, us, e2, hH, r⟩ := R.lst h
    exact ⟨a, ns, by rw [e1, e2], by rw [← reps_bls e r]; exact .of hH, k.bl R q⟩
  · exact q.elim
theorem cw_any (hc : X.calm = true) : CW X (.builtin "any") cAny := by
  refine ⟨_, cr_any hc, fun B F0 F η σ H ws b vs Q0 Q R hv q k => ?_⟩
  unfold cAny at q
  split at q
  · obtain ⟨ns, e, q⟩ := q
    obtain ⟨v, e1, h⟩ := hv.one
    obtain ⟨a, us, e2, hH, r⟩ := R.lst h
    exact ⟨a, ns, by rw [e1, e2], by rw [← reps_bls e r]; exact .of hH, k.bl R q⟩
  · exact q.elim
end
end VL
end

section
set_option Elab.async false
set_option linter.all false
set_option maxRecDepth 100000
/-! VL4: calls of defs, statements, targets, loops. -/
namespace VL
open PySem PySem.Spec PyProof.Rows L2
section
variable {X : Cx} {K : PySem.W.Frag} {B : Hp} {F0 F F' G : Fz} {η η' : Nv} {σ σ' : L2.St} {H H' : Hp} {Q0 : W → Bool → Prop} {Q : VK} {e a b c : Expr} {es : List Expr} {pos : Pos} {wa wb wc : TWE} {u : TWA} {ta tb : TWT} {x : Str} {i : Nat} {p : Pos} {st : Stmt} {sts : List Stmt}

/-! ### what a call leaves -/
structure CPost (F : Fz) (H : Hp) (F' : Fz) (H' : Hp) : Prop where
  sub : Sub F' H'
  kp : ∀ c o, H c = some o → isTok (F c) = false → H' c = some o
  nw : ∀ c f, F' c = some f → (∃ g, F c = some g) ∨ H c = none
def RV (K : PySem.W.Frag) (H : Hp) (F' : Fz) (H' : Hp) (r : W) : Bool → V → Prop
  | false, v => Rep K F' r v
  | true, v => ∃ a o, v = .ref a ∧ F' a = none ∧ H a = none ∧ H' a = some o ∧ RepO K F' r o
/-- a def's promise by values -/
def tSp (K : PySem.W.Frag) (n : Nat) (sp : SC) : Sp := fun vs H Q _ => ∃ F ws Q0, Sub F H ∧ Reps K F ws vs ∧ ws.length = n ∧ sp ws Q0 ∧
  ∀ r fr, Q0 r fr → ∀ F' H' v, Le F F' → CPost F H F' H' → RV K H F' H' r fr v → Q v H'
theorem Rel.call (R : Rel K B F0 F η σ H) (l : Le F F') (c : CPost F H F' H') : Rel K B F0 F' η σ H' where
  sub := c.sub
  le := R.le.trans l
  kp := fun d o e t => c.kp d o (R.kp d o e t) (by
    cases q : F d with
    | none => rfl
    | some f =>
      rcases R.nw d f q with ⟨g, z⟩ | z
      · have := R.le d g z
        rw [q] at this
        cases this
        rw [z] at t
        exact t
      · rw [e] at z; cases z)
  nw := fun d f q => by
    rcases c.nw d f q with ⟨g, z⟩ | z
    · exact R.nw d g z
    · exact .inr (R.freeB z)
  fr := fun i w q => by
    obtain ⟨v, e, r⟩ := R.fr i w q
    exact ⟨v, e, Rep.mono K l _ _ r⟩
  ow := fun i w q => by
    obtain ⟨d, o, e, hF, hB, hH, r⟩ := R.ow i w q
    refine ⟨d, o, e, ?_, hB, c.kp d o hH (by rw [hF]; rfl), RepO.mono K l r⟩
    cases z : F' d with
    | none => rfl
    | some f =>
      rcases c.nw d f z with ⟨g, z⟩ | z
      · rw [hF] at z; cases z
      · rw [hH] at z; cases z
  lk := fun i w q => by
    obtain ⟨d, o, e, hF, hH, r⟩ := R.lk i w q
    refine ⟨d, o, e, ?_, c.kp d o hH (by rw [hF]; rfl), RepO.mono K l r⟩
    cases z : F' d with
    | none => rfl
    | some f =>
      rcases c.nw d f z with ⟨g, z⟩ | z
      · rw [hF] at z; cases z
      · rw [hH] at z; cases z
  sep := R.sep
  len := R.len
theorem Rel.rv (R : Rel K B F0 F η σ H) {r : W} {fr : Bool} {v : V} (h : RV K H F' H' r fr v) : Val K B F' η σ H' r fr v := by
  cases fr with
  | false => exact h
  | true =>
    obtain ⟨d, o, e, hF, hn, hH, r⟩ := h
    exact ⟨d, o, e, hF, R.freeB hn, hH, r, fun i hi => R.holdNe hn hi⟩

/-! arguments that a name holds: frozen for the call -/
open Classical in
noncomputable def lend (F : Fz) (η : Nv) (σ : L2.St) (H : Hp) : Fz := fun d => if (∃ i, hold η i ∧ σ[i]? = some (some (.ref d))) then (H d).map FO.fz else F d
theorem lend_hold {d : Addr} {o : HO} (h : ∃ i, hold η i ∧ σ[i]? = some (some (.ref d))) (e : H d = some o) : lend F η σ H d = some (.fz o) := by
  unfold lend; rw [if_pos h, e]; rfl
theorem lend_not {d : Addr} (h : ¬ ∃ i, hold η i ∧ σ[i]? = some (some (.ref d))) : lend F η σ H d = F d := by
  unfold lend; rw [if_neg h]
theorem Rel.held (R : Rel K B F0 F η σ H) {d : Addr} (h : ∃ i, hold η i ∧ σ[i]? = some (some (.ref d))) : F d = none ∧ ∃ o, H d = some o := by
  obtain ⟨i, ⟨w, q | q⟩, e⟩ := h
  · obtain ⟨d', o, e1, hF, _, hH, _⟩ := R.ow i w q
    rw [e] at e1; cases e1
    exact ⟨hF, o, hH⟩
  · obtain ⟨d', o, e1, hF, hH, _⟩ := R.lk i w q
    rw [e] at e1; cases e1
    exact ⟨hF, o, hH⟩
theorem Rel.le_lend (R : Rel K B F0 F η σ H) : Le F (lend F η σ H) := fun d f q => by
  rw [lend_not fun h => by rw [(R.held h).1] at q; cases q]
  exact q
theorem Rel.sub_lend (R : Rel K B F0 F η σ H) : Sub (lend F η σ H) H := fun d f q => by
  by_cases h : ∃ i, hold η i ∧ σ[i]? = some (some (.ref d))
  · obtain ⟨_, o, hH⟩ := R.held h
    rw [lend_hold h hH] at q
    cases q
    exact hH
  · rw [lend_not h] at q
    have z := R.sub d f q
    cases f with
    | fz o => exact z
    | tk b => exact ⟨R.le_lend _ _ z.1, z.2⟩
    | tkin c => exact R.le_lend _ _ (show F c = some (.tk d) from z)
    | tk1 => exact z
theorem Rel.vb_lend (R : Rel K B F0 F η σ H) {r : W} {b : Bool} {v : V} (h : VB K F η σ r b v) : Rep K (lend F η σ H) r v := by
  rcases h with h | ⟨_, i, e, q | q⟩
  · exact Rep.mono K R.le_lend _ _ h
  · obtain ⟨d, o, e1, hF, _, hH, r0⟩ := R.ow i _ q
    rw [e] at e1; cases e1
    exact rep_of K (RepO.mono K R.le_lend r0) (lend_hold ⟨i, ⟨_, .inl q⟩, e⟩ hH)
  · obtain ⟨d, o, e1, hF, hH, r0⟩ := R.lk i _ q
    rw [e] at e1; cases e1
    exact rep_of K (RepO.mono K R.le_lend r0) (lend_hold ⟨i, ⟨_, .inr q⟩, e⟩ hH)
theorem Rel.vbs_lend (R : Rel K B F0 F η σ H) {rs : List W} {b : Bool} {vs : List V} (h : VBs K F η σ rs b vs) : Reps K (lend F η σ H) rs vs := by
  unfold VBs at h
  induction h with
  | nil => exact reps_nil
  | cons r _ ih => exact reps_cons (R.vb_lend r) ih
/-- behind such a call nothing new is kept -/
theorem Rel.back (R : Rel K B F0 F η σ H) (l : Le (lend F η σ H) F') (c : CPost (lend F η σ H) H F' H') : Rel K B F0 F η σ H' where
  sub := fun d f q => by
    have z := R.sub d f q
    have y := c.sub d f (l _ _ (R.le_lend _ _ q))
    cases f with
    | fz o => exact y
    | tk b => exact ⟨z.1, y.2⟩
    | tkin c => exact z
    | tk1 => exact y
  le := R.le
  kp := fun d o e t => c.kp d o (R.kp d o e t) (by
    by_cases h : ∃ i, hold η i ∧ σ[i]? = some (some (.ref d))
    · obtain ⟨_, o', hH⟩ := R.held h
      rw [lend_hold h hH]; rfl
    · rw [lend_not h]
      cases q : F d with
      | none => rfl
      | some f =>
        rcases R.nw d f q with ⟨g, z⟩ | z
        · have := R.le d g z
          rw [q] at this
          cases this
          rw [z] at t
          exact t
        · rw [e] at z; cases z)
  nw := R.nw
  fr := R.fr
  ow := fun i w q => by
    obtain ⟨d, o, e, hF, hB, hH, r⟩ := R.ow i w q
    exact ⟨d, o, e, hF, hB, c.kp d o hH (by rw [lend_hold ⟨i, ⟨w, .inl q⟩, e⟩ hH]; rfl), r⟩
  lk := fun i w q => by
    obtain ⟨d, o, e, hF, hH, r⟩ := R.lk i w q
    exact ⟨d, o, e, hF, c.kp d o hH (by rw [lend_hold ⟨i, ⟨w, .inr q⟩, e⟩ hH]; rfl), r⟩
  sep := R.sep
  len := R.len
def scal : W → Bool
  | .non => true
  | .bl _ => true
  | .int _ => true
  | .str _ => true
  | _ => false
theorem rv_scal {r : W} {fr : Bool} {v : V} (s : scal r = true) (h : RV K H F' H' r fr v) : fr = false ∧ Rep K F r v := by
  cases fr with
  | false =>
    refine ⟨rfl, ?_⟩
    have h : Rep K F' r v := h
    cases r <;> first | (unfold Rep at h ⊢; exact h) | (cases s)
  | true =>
    obtain ⟨_, _, _, _, _, _, z⟩ := h
    cases r <;> first | exact z.elim | (cases s)
def eFn (n : Nat) (sp : SC) (u : TWA) : TWE := fun η Q => u η fun ws b => ws.length = n ∧ match b with
  | false => sp ws Q
  | true => sp ws fun r fr => scal r = true ∧ Q r fr
theorem re_fn {k : Nat} {f : Addr} {fd : FuncData} {ps : List Str} {sp : SC} (Fn : FnOk X.prog X.w X.K X.mg X.base L2.CX0 k f fd ps (tSp X.K ps.length sp)) (hr : Room k X.A) (hg : Gl X x) (hm : X.mg x = some (.ref f)) (hk : PySem.W.keepIn X.K (.ref f) = true)
    (hb : Binds X.K fd ps []) (ha : RA X (e :: es) u) (hdb : (x == ("__debug__" : Str)) = false := by decide)
    (he : starEach (e :: es) X.env = (false, eval e X.env) :: starEach es X.env := by rfl) (hpl : (backTo pos (starEach es X.env)).any (·.1) = false := by rfl) :
    RE X (.Call (.Name x p) (e :: es) [] pos) (eFn ps.length sp u) := by
  refine PE.imp (pe_call Fn hr hg hm hk hb .nil L2.pass0 ha hdb he hpl) fun σ H Q q => ?_
  obtain ⟨B, F0, F, η, Q0, R, w, k⟩ := q
  refine ⟨B, F0, F, η, _, R, w, fun ws b q F1 H1 vs l1 R1 hv => ?_⟩
  obtain ⟨hl, q⟩ := q
  show tSp _ _ _ (vs ++ []) H1 Q _
  rw [List.append_nil]
  cases b with
  | false =>
    refine ⟨F1, ws, _, R1.sub, hv.reps, hl, q, fun r fr q F' H' v l c h => ?_⟩
    exact k r fr q F' H' v (l1.trans l) (R1.call l c) (R1.rv h)
  | true =>
    refine ⟨_, ws, _, R1.sub_lend, R1.vbs_lend hv, hl, q, fun r fr q F' H' v l c h => ?_⟩
    obtain ⟨s, q⟩ := q
    obtain ⟨rfl, rep⟩ := rv_scal (F := F1) s h
    exact k r false q F1 H' v l1 (R1.back l c) rep

/-! ### statements -/
structure WEnds where
  nx : Nv → Prop
  rt : W → Bool → Prop
  bk : Nv → Prop := fun _ => False
  ct : Nv → Prop := fun _ => False
abbrev TWS := WEnds → Nv → Prop
/-- what is locked stays as it is -/
def Lk (η : Nv) (σ : L2.St) (η' : Nv) (σ' : L2.St) : Prop := ∀ i w, gt η i = .lk w → gt η' i = .lk w ∧ σ'[i]? = σ[i]?
theorem Lk.refl : Lk η σ η σ := fun _ _ h => ⟨h, rfl⟩
theorem Lk.trans {η2 : Nv} {σ2 : L2.St} (h : Lk η σ η' σ') (k : Lk η' σ' η2 σ2) : Lk η σ η2 σ2 := fun i w q => by
  obtain ⟨h1, h2⟩ := h i w q
  obtain ⟨k1, k2⟩ := k i w h1
  exact ⟨k1, k2.trans h2⟩
structure Fin (K : PySem.W.Frag) (B : Hp) (F0 F' : Fz) (H' : Hp) (r : W) (fr : Bool) (v : V) : Prop where
  sub : Sub F' H'
  le : Le F0 F'
  kp : ∀ c o, B c = some o → isTok (F0 c) = false → H' c = some o
  nw : ∀ c f, F' c = some f → (∃ g, F0 c = some g) ∨ B c = none
  rv : RV K B F' H' r fr v
theorem Rel.fin (R : Rel K B F0 F η σ H) {r : W} {fr : Bool} {v : V} (h : Val K B F η σ H r fr v) : Fin K B F0 F H r fr v :=
  ⟨R.sub, R.le, R.kp, R.nw, by
    cases fr with
    | false => exact h
    | true => obtain ⟨d, o, e, hF, hB, hH, r0, _⟩ := h; exact ⟨d, o, e, hF, hB, hH, r0⟩⟩
def On (K : PySem.W.Frag) (B : Hp) (F0 F : Fz) (η : Nv) (σ : L2.St) (P0 : Nv → Prop) (P : L2.St → Hp → Prop) : Prop :=
  ∀ η', P0 η' → ∀ F' σ' H', Le F F' → Lk η σ η' σ' → Rel K B F0 F' η' σ' H' → P σ' H'
structure EndsOk (K : PySem.W.Frag) (B : Hp) (F0 F : Fz) (η : Nv) (σ : L2.St) (D0 : WEnds) (D : Ends) : Prop where
  nx : On K B F0 F η σ D0.nx D.nx
  bk : On K B F0 F η σ D0.bk D.bk
  ct : On K B F0 F η σ D0.ct D.ct
  rt : ∀ r fr, D0.rt r fr → ∀ F' H' v, Le F F' → Fin K B F0 F' H' r fr v → D.rt v H'
theorem On.shift {P0 : Nv → Prop} {P : L2.St → Hp → Prop} (h : On K B F0 F η σ P0 P) (l : Le F F') (k : Lk η σ η' σ') : On K B F0 F' η' σ' P0 P :=
  fun η2 q F2 σ2 H2 l2 k2 R2 => h η2 q F2 σ2 H2 (l.trans l2) (k.trans k2) R2
theorem On.use {P0 : Nv → Prop} {P : L2.St → Hp → Prop} (h : On K B F0 F η σ P0 P) (q : P0 η) (R : Rel K B F0 F η σ H) : P σ H := h η q F σ H (Le.refl _) Lk.refl R
theorem EndsOk.shift {D0 : WEnds} {D : Ends} (h : EndsOk K B F0 F η σ D0 D) (l : Le F F') (k : Lk η σ η' σ') : EndsOk K B F0 F' η' σ' D0 D :=
  ⟨h.nx.shift l k, h.bk.shift l k, h.ct.shift l k, fun r fr q F2 H2 v l2 f => h.rt r fr q F2 H2 v (l.trans l2) f⟩
def tS (K : PySem.W.Frag) (w : TWS) : TS := fun D σ H => ∃ B F0 F η D0, Rel K B F0 F η σ H ∧ w D0 η ∧ EndsOk K B F0 F η σ D0 D
def RS (X : Cx) (s : Stmt) (w : TWS) : Prop := PS X s (tS X.K w)
def RSs (X : Cx) (s : List Stmt) (w : TWS) : Prop := PSs X s (tS X.K w)
theorem PS.imp {s : Stmt} {t t' : TS} (h : PS X s t) (k : ∀ D σ H, t' D σ H → t D σ H) : PS X s t' := ⟨fun pins s σ H D I q => h.run pins s σ H D I (k D σ H q)⟩
theorem PSs.imp {s : List Stmt} {t t' : TS} (h : PSs X s t) (k : ∀ D σ H, t' D σ H → t D σ H) : PSs X s t' := ⟨fun pins s σ H D I q => h.run pins s σ H D I (k D σ H q)⟩

def wNext : TWS := fun D η => D.nx η
def wSeq (w u : TWS) : TWS := fun D η => w { D with nx := u D } η
variable {w w' : TWS} {we : TWE}
theorem rss_nil : RSs X [] wNext := PSs.imp pss_nil fun D σ H q => by
  obtain ⟨B, F0, F, η, D0, R, w, k⟩ := q
  exact k.nx.use w R
theorem rss_cons (h1 : RS X st w) (h2 : RSs X sts w') : RSs X (st :: sts) (wSeq w w') := PSs.imp (pss_cons h1 h2) fun D σ H q => by
  obtain ⟨B, F0, F, η, D0, R, w, k⟩ := q
  refine ⟨B, F0, F, η, _, R, w, ⟨fun η' q F' σ' H' l lk R' => ?_, k.bk, k.ct, k.rt⟩⟩
  exact ⟨B, F0, F', η', D0, R', q, k.shift l lk⟩
theorem rss_one (h1 : RS X st w) : RSs X [st] w := pss_one h1
def wBreak : TWS := fun D η => D.bk η
def wCont : TWS := fun D η => D.ct η
theorem rs_pass : RS X (.Pass pos) wNext := PS.imp ps_pass fun D σ H q => by
  obtain ⟨B, F0, F, η, D0, R, w, k⟩ := q
  exact k.nx.use w R
theorem rs_break : RS X (.Break pos) wBreak := PS.imp ps_break fun D σ H q => by
  obtain ⟨B, F0, F, η, D0, R, w, k⟩ := q
  exact k.bk.use w R
theorem rs_continue : RS X (.Continue pos) wCont := PS.imp ps_continue fun D σ H q => by
  obtain ⟨B, F0, F, η, D0, R, w, k⟩ := q
  exact k.ct.use w R
def wRet (we : TWE) : TWS := fun D η => we η D.rt
theorem rs_ret (h : RE X e we) : RS X (.Return (some e) pos) (wRet we) := PS.imp (ps_ret h) fun D σ H q => by
  obtain ⟨B, F0, F, η, D0, R, w, k⟩ := q
  exact ⟨B, F0, F, η, _, R, w, fun r fr q F' H' v l R' hv => k.rt r fr q F' H' v l (R'.fin hv)⟩
def wRetN : TWS := fun D _ => D.rt .non false
theorem rs_retN : RS X (.Return none pos) wRetN := PS.imp ps_retN fun D σ H q => by
  obtain ⟨B, F0, F, η, D0, R, w, k⟩ := q
  exact k.rt _ _ w F H _ (Le.refl _) (R.fin (fr := false) (show Rep X.K F .non .non by unfold Rep; rfl))
/-- return x: what x holds goes out -/
def wRetV (i : Nat) : TWS := fun D η => match gt η i with
  | .ow w => D.rt w true
  | .fz w => D.rt w false
  | _ => False
theorem rs_retV (hN : X.N[i]? = some x) (hv : Vis X.env.scope x) (hd : (x == ("__debug__" : Str)) = false := by decide) (hcd : (x == ("__classdict__" : Str)) = false := by decide) : RS X (.Return (some (.Name x p)) pos) (wRetV i) := PS.imp (ps_ret (pe_var hN hv hd hcd)) fun D σ H q => by
  obtain ⟨B, F0, F, η, D0, R, w, k⟩ := q
  unfold wRetV at w
  split at w
  · rename_i r e
    obtain ⟨d, o, e1, hF, hB, hH, r0⟩ := R.ow i r e
    exact ⟨_, e1, k.rt _ _ w F H _ (Le.refl _) ⟨R.sub, R.le, R.kp, R.nw, d, o, rfl, hF, hB, hH, r0⟩⟩
  · rename_i r e
    obtain ⟨v, e1, h1⟩ := R.fr i r e
    exact ⟨v, e1, k.rt _ _ w F H _ (Le.refl _) (R.fin (fr := false) h1)⟩
  · exact w.elim
def wIf (t : TWT) (w w' : TWS) : TWS := fun D η => t η fun c => if c = true then w D η else w' D η
theorem rs_if {as bs : List Stmt} (hc : RT X c ta) (ha : RSs X as w) (hb : RSs X bs w') : RS X (.If c as bs pos) (wIf ta w w') := PS.imp (ps_if hc ha hb) fun D σ H q => by
  obtain ⟨B, F0, F, η, D0, R, w, k⟩ := q
  refine ⟨B, F0, F, η, _, R, w, fun c q F1 H1 l1 R1 => ?_⟩
  cases c with
  | true => exact ⟨B, F0, F1, η, D0, R1, q, k.shift l1 Lk.refl⟩
  | false => exact ⟨B, F0, F1, η, D0, R1, q, k.shift l1 Lk.refl⟩

/-! names are stored -/
def isLk : Sl → Bool
  | .lk _ => true
  | _ => false
def slOf (r : W) : Bool → Sl
  | true => .ow r
  | false => .fz r
def put (η : Nv) (i : Nat) (r : W) (fr : Bool) : Nv := η.set i (slOf r fr)
theorem gt_set {s : Sl} {j : Nat} : gt (η.set i s) j = if i = j ∧ i < η.length then s else gt η j := by
  by_cases h : i = j
  · subst h
    by_cases hl : i < η.length
    · rw [if_pos ⟨rfl, hl⟩, gt_set_same η i s hl]
    · rw [if_neg (fun z => hl z.2), List.set_eq_of_length_le (by omega)]
  · rw [if_neg (fun z => h z.1), gt_set_ne η i j s h]
theorem lk_set {s : Sl} {v : Option V} (h : isLk (gt η i) = false) : Lk η σ (η.set i s) (σ.set i v) := fun j w q => by
  have ne : i ≠ j := fun z => by subst z; rw [q] at h; cases h
  exact ⟨by rw [gt_set_ne η i j s ne]; exact q, by rw [List.getElem?_set_ne ne]⟩
theorem lk_set' {s : Sl} (h : isLk (gt η i) = false) : Lk η σ (η.set i s) σ := fun j w q => by
  have ne : i ≠ j := fun z => by subst z; rw [q] at h; cases h
  exact ⟨by rw [gt_set_ne η i j s ne]; exact q, rfl⟩
theorem Rel.drop (R : Rel K B F0 F η σ H) (i : Nat) (v : Option V) : Rel K B F0 F (η.set i .no) (σ.set i v) H := by
  have go : ∀ {j : Nat} {s : Sl}, gt (η.set i .no) j = s → s ≠ .no → gt η j = s ∧ i ≠ j := fun {j s} h n => by
    rw [gt_set] at h
    split at h
    · exact absurd h.symm n
    · rename_i q
      refine ⟨h, fun z => q ⟨z, ?_⟩⟩
      subst z
      by_cases hl : i < η.length
      · exact hl
      · rw [gt_out η i (by omega)] at h; exact absurd h.symm n
  have ho : ∀ {j : Nat}, hold (η.set i .no) j → hold η j ∧ i ≠ j := fun {j} h => by
    obtain ⟨w, q | q⟩ := h
    · obtain ⟨z, n⟩ := go q (by intro z; cases z)
      exact ⟨⟨w, .inl z⟩, n⟩
    · obtain ⟨z, n⟩ := go q (by intro z; cases z)
      exact ⟨⟨w, .inr z⟩, n⟩
  refine ⟨R.sub, R.le, R.kp, R.nw, fun j w q => ?_, fun j w q => ?_, fun j w q => ?_, fun j l d h1 h2 e1 e2 => ?_, by rw [List.length_set, List.length_set]; exact R.len⟩
  · obtain ⟨z, n⟩ := go q (by intro z; cases z)
    rw [List.getElem?_set_ne n]
    exact R.fr j w z
  · obtain ⟨z, n⟩ := go q (by intro z; cases z)
    rw [List.getElem?_set_ne n]
    exact R.ow j w z
  · obtain ⟨z, n⟩ := go q (by intro z; cases z)
    rw [List.getElem?_set_ne n]
    exact R.lk j w z
  · obtain ⟨z1, n1⟩ := ho h1
    obtain ⟨z2, n2⟩ := ho h2
    rw [List.getElem?_set_ne n1] at e1
    rw [List.getElem?_set_ne n2] at e2
    exact R.sep j l d z1 z2 e1 e2
theorem Rel.put (R : Rel K B F0 F η σ H) {r : W} {fr : Bool} {v : V} (h : Val K B F η σ H r fr v) : Rel K B F0 F (put η i r fr) (σ.set i (some v)) H := by
  have R0 := R.drop i (some v)
  have e2 : VL.put η i r fr = (η.set i .no).set i (slOf r fr) := by unfold VL.put; rw [List.set_set]
  have e3 : ∀ j, j ≠ i → gt (VL.put η i r fr) j = gt (η.set i .no) j := fun j n => by rw [e2, gt_set_ne _ i j _ (Ne.symm n)]
  have hs : ∀ {j : Nat}, j = i → gt (VL.put η i r fr) j ≠ .no → (σ.set i (some v))[j]? = some (some v) ∧ gt (VL.put η i r fr) j = slOf r fr := fun {j} e n => by
    subst e
    have hl : j < η.length := by
      by_cases hl : j < η.length
      · exact hl
      · exfalso
        apply n
        unfold VL.put
        rw [List.set_eq_of_length_le (by omega), gt_out η j (by omega)]
    refine ⟨?_, by unfold VL.put; exact gt_set_same η j _ hl⟩
    rw [List.getElem?_set_self (by rw [← R.len]; exact hl)]
  refine ⟨R.sub, R.le, R.kp, R.nw, fun j w q => ?_, fun j w q => ?_, fun j w q => ?_, fun j l d h1 h2 e1 e4 => ?_, by unfold VL.put; rw [List.length_set, List.length_set]; exact R.len⟩
  · by_cases hj : j = i
    · obtain ⟨s1, s2⟩ := hs hj (by rw [q]; intro z; cases z)
      rw [q] at s2
      cases fr with
      | true => cases s2
      | false => cases s2; exact ⟨v, s1, h⟩
    · rw [e3 j hj] at q
      exact R0.fr j w q
  · by_cases hj : j = i
    · obtain ⟨s1, s2⟩ := hs hj (by rw [q]; intro z; cases z)
      rw [q] at s2
      cases fr with
      | false => cases s2
      | true =>
        cases s2
        obtain ⟨d, o, e, hF, hB, hH, r0, hn⟩ := h
        subst e
        exact ⟨d, o, s1, hF, hB, hH, r0⟩
    · rw [e3 j hj] at q
      exact R0.ow j w q
  · by_cases hj : j = i
    · obtain ⟨s1, s2⟩ := hs hj (by rw [q]; intro z; cases z)
      rw [q] at s2
      cases fr <;> cases s2
    · rw [e3 j hj] at q
      exact R0.lk j w q
  · have ho : ∀ {j : Nat}, hold (VL.put η i r fr) j → j ≠ i → hold (η.set i .no) j := fun {j} h n => by
      obtain ⟨w, q⟩ := h
      rw [e3 j n] at q
      exact ⟨w, q⟩
    have new : ∀ {j : Nat}, hold (VL.put η i r fr) j → j = i → (σ.set i (some v))[j]? = some (some (.ref d)) → ∀ l, l ≠ i → hold (η.set i .no) l → (σ.set i (some v))[l]? = some (some (.ref d)) → False := fun {j} h1 e h2 l nl h3 h4 => by
      obtain ⟨w, q⟩ := h1
      obtain ⟨s1, s2⟩ := hs e (by rcases q with q | q <;> rw [q] <;> intro z <;> cases z)
      rw [h2] at s1
      have s1 : V.ref d = v := by injection s1 with s1; injection s1
      cases fr with
      | false => rw [s2] at q; rcases q with q | q <;> cases q
      | true =>
        obtain ⟨d', o, e', _, _, _, _, hn⟩ := h
        rw [e'] at s1
        cases s1
        rw [List.getElem?_set_ne (Ne.symm nl)] at h4
        obtain ⟨w2, q2⟩ := h3
        refine hn l ⟨w2, ?_⟩ h4
        rcases q2 with q2 | q2
        · rw [gt_set_ne _ _ _ _ (Ne.symm nl)] at q2; exact .inl q2
        · rw [gt_set_ne _ _ _ _ (Ne.symm nl)] at q2; exact .inr q2
    by_cases hj : j = i
    · by_cases hl : l = i
      · rw [hj, hl]
      · exact (new h1 hj e1 l hl (ho h2 hl) e4).elim
    · by_cases hl : l = i
      · exact (new h2 hl e4 j hj (ho h1 hj) e1).elim
      · exact R0.sep j l d (ho h1 hj) (ho h2 hl) e1 e4
theorem put_lk {r : W} {fr : Bool} {v : V} (h : isLk (gt η i) = false) : Lk η σ (put η i r fr) (σ.set i (some v)) := lk_set h
def wSet (i : Nat) (we : TWE) : TWS := fun D η => isLk (gt η i) = false ∧ we η fun r fr => D.nx (put η i r fr)
theorem rs_set {pos' : Pos} (hN : X.N.Nodup) (hi : X.N[i]? = some x) (hx : Loc X.env.scope x) (he : RE X e we) (hs : swapsWith e (some (.Name x pos')) pos.line X.env = pure false := by rfl)
    (hf : X.fn x = true ∨ X.env.scope.names.lookup x = some .local := by first | exact .inl rfl | exact .inr rfl | assumption) : RS X (.Assign [.Name x pos'] e pos) (wSet i we) := PS.imp (ps_set hN hi hx he hs hf) fun D σ H q => by
  obtain ⟨B, F0, F, η, D0, R, ⟨hl, w⟩, k⟩ := q
  exact ⟨B, F0, F, η, _, R, w, fun r fr q F' H' v l R' hv => k.nx _ q F' _ H' l (put_lk hl) (R'.put hv)⟩
/-- a name's object is frozen ahead of a statement -/
def wFz (i : Nat) (w : TWS) : TWS := fun D η => match gt η i with
  | .ow r => w D (η.set i (.fz r))
  | _ => w D η
theorem Rel.cold (R : Rel K B F0 F η σ H) {r : W} (q : gt η i = .ow r) : ∃ F', Le F F' ∧ Rel K B F0 F' (η.set i (.fz r)) σ H := by
  obtain ⟨d, o, e, hF, hB, hH, r0⟩ := R.ow i r q
  have hl : i < η.length := by
    by_cases hl : i < η.length
    · exact hl
    · rw [gt_out η i (by omega)] at q; cases q
  have R0 := R.drop i (some (.ref d))
  have es : σ.set i (some (.ref d)) = σ := by
    apply List.ext_getElem?
    intro j
    by_cases hj : i = j
    · subst hj
      rw [List.getElem?_set_self (by rw [← R.len]; exact hl), e]
    · rw [List.getElem?_set_ne hj]
  rw [es] at R0
  have hn : ∀ j, hold (η.set i .no) j → σ[j]? ≠ some (some (.ref d)) := fun j h z => by
    have nj : i ≠ j := fun z => by
      subst z
      obtain ⟨w, q | q⟩ := h <;> rw [gt_set_same _ _ _ hl] at q <;> cases q
    have hj : hold η j := by
      obtain ⟨w, q⟩ := h
      rw [gt_set_ne _ _ _ _ nj] at q
      exact ⟨w, q⟩
    exact nj (R.sep i j d ⟨r, .inl q⟩ hj e z)
  refine ⟨addF F d (.fz o), le_addF hF, ?_⟩
  have R1 := (R0.freeze hF hB hH hn).put (i := i) (r := r) (fr := false) (v := .ref d) (rep_of K (RepO.mono K (le_addF hF) r0) addF_same)
  rw [es] at R1
  unfold VL.put at R1
  rw [List.set_set] at R1
  exact R1
theorem rs_fz (i : Nat) (h : RS X st w) : RS X st (wFz i w) := PS.imp h fun D σ H q => by
  obtain ⟨B, F0, F, η, D0, R, w, k⟩ := q
  unfold wFz at w
  split at w
  · rename_i r e
    obtain ⟨F', l, R'⟩ := R.cold e
    exact ⟨B, F0, F', _, D0, R', w, k.shift l (lk_set' (by rw [e]; rfl))⟩
  · exact ⟨B, F0, F, η, D0, R, w, k⟩
/-- an owned object is changed -/
theorem Rel.mut (R : Rel K B F0 F η σ H) {r r' : W} {d : Addr} {o' : HO} (q : gt η i = .ow r) (e : σ[i]? = some (some (.ref d))) (h : RepO K F r' o') : Rel K B F0 F (η.set i (.ow r')) σ (upd H d o') := by
  obtain ⟨d0, o, e1, hF, hB, hH, r0⟩ := R.ow i r q
  rw [e] at e1; cases e1
  have hl : i < η.length := by
    by_cases hl : i < η.length
    · exact hl
    · rw [gt_out η i (by omega)] at q; cases q
  have R0 := R.drop i (some (.ref d))
  have es : σ.set i (some (.ref d)) = σ := by
    apply List.ext_getElem?
    intro j
    by_cases hj : i = j
    · subst hj
      rw [List.getElem?_set_self (by rw [← R.len]; exact hl), e]
    · rw [List.getElem?_set_ne hj]
  rw [es] at R0
  have hn : ∀ j, hold (η.set i .no) j → σ[j]? ≠ some (some (.ref d)) := fun j h z => by
    have nj : i ≠ j := fun z => by
      subst z
      obtain ⟨w, q | q⟩ := h <;> rw [gt_set_same _ _ _ hl] at q <;> cases q
    have hj : hold η j := by
      obtain ⟨w, q⟩ := h
      rw [gt_set_ne _ _ _ _ nj] at q
      exact ⟨w, q⟩
    exact nj (R.sep i j d ⟨r, .inl q⟩ hj e z)
  have R1 : Rel K B F0 F (η.set i .no) σ (upd H d o') := R0.keep (p := d) (fun a o h n => by rw [upd_ne n]; exact h) hF hB hn
  have R2 := R1.put (i := i) (r := r') (fr := true) (v := .ref d) ⟨d, o', rfl, hF, hB, upd_same, h, hn⟩
  rw [es] at R2
  unfold VL.put at R2
  rw [List.set_set] at R2
  exact R2
/-- x[k] = e -/
def wStore (i : Nat) (we wk : TWE) : TWS := fun D η => match gt η i with
  | .ow (.lst xs) => we η fun r b => b = false ∧ wk η fun k _ => match k with
    | .int j => match ixN xs.length j with
      | some n => D.nx (η.set i (.ow (.lst (xs.set n r))))
      | none => False
    | _ => False
  | _ => False
theorem rs_store {wk : TWE} {pn ps : Pos} (hN : X.N[i]? = some x) (hv : Vis X.env.scope x) (he : RO X e we) (hk : RO X a wk) (hd : (x == ("__debug__" : Str)) = false := by decide) (hcd : (x == ("__classdict__" : Str)) = false := by decide)
    (ha : ∀ v, assign (.Subscript (.Name x pn) a ps) X.env v = (do
      let ov ← holding [v] (eval (.Name x pn) X.env)
      let iv ← holding [v, ov] (eval a X.env)
      standAt ps
      holding [v, ov, iv] (setItem ov iv v)
      release [v, ov, iv] []) := by intro _; rfl)
    (hs : swapsWithSole [.Subscript (.Name x pn) a ps] e pos.line X.env = pure false := by rfl) (hw : swappedStores [.Subscript (.Name x pn) a ps] e X.env = pure none := by rfl)
    (h1 : (assignEach [.Subscript (.Name x pn) a ps] X.env).map (·.2) = [assign (.Subscript (.Name x pn) a ps) X.env] := by rfl) : RS X (.Assign [.Subscript (.Name x pn) a ps] e pos) (wStore i we wk) := by
  refine PS.imp (ps_asg he (pg_sub (pe_var hN hv hd hcd) hk set_list ha) hs hw h1) fun D σ H q => ?_
  obtain ⟨B, F0, F, η, D0, R, w, k⟩ := q
  unfold wStore at w
  split at w
  · rename_i xs z
    obtain ⟨d, _, hd, _⟩ := R.ow i _ z
    refine ⟨B, F0, F, η, _, R, w, fun r b q F1 H1 v l1 R1 hv => ?_⟩
    obtain ⟨rfl, q⟩ := q
    have rep : Rep X.K F1 r v := val_lift (fr := false) R1 hv
    refine ⟨_, hd, B, F0, F1, η, _, R1, q, fun kk bk q F2 H2 vk l2 R2 hk => ?_⟩
    split at q
    · rename_i j
      split at q
      · rename_i n en
        obtain ⟨d', o, e1, hF, hB, hH, vs, eo, r0⟩ := R2.ow i _ z
        rw [hd] at e1; cases e1
        subst eo
        refine ⟨d, vs, j, n, rfl, R2.int hk, hH, by rw [← r0.length]; exact en, ?_⟩
        refine k.nx _ q F2 σ _ (l1.trans l2) (lk_set' (by rw [z]; rfl)) ?_
        exact R2.mut z hd ⟨_, rfl, r0.set n (Rep.mono _ l2 _ _ rep)⟩
      · exact q.elim
    · exact q.elim
  · exact w.elim
end
end VL
end

section
set_option Elab.async false
set_option linter.all false
set_option maxRecDepth 100000
/-! VL5: targets, pairs, append, +=, loops, comprehensions, defs. -/
namespace VL
open PySem PySem.Spec PyProof.Rows L2
section
variable {X : Cx} {K : PySem.W.Frag} {B : Hp} {F0 F F' G : Fz} {η η' : Nv} {σ σ' : L2.St} {H H' : Hp} {Q0 : W → Bool → Prop} {Q : VK} {e a b c tg it : Expr} {es : List Expr} {pos : Pos} {wa wb wc we : TWE} {u : TWA} {ta tb : TWT} {x y : Str} {i j : Nat} {p : Pos} {st : Stmt} {sts : List Stmt} {w w' : TWS}

/-! ### two names at once: a new value of the first is kept while the second is reckoned -/
theorem Rel.pend (R : Rel K B F0 F η σ H) {d : Addr} {o : HO} (hF : F d = none) (hH : H d = some o) (hn : ∀ i, hold η i → σ[i]? ≠ some (some (.ref d))) : Rel K (upd B d o) F0 F η σ H where
  sub := R.sub
  le := R.le
  kp := fun c o' e t => by
    by_cases hc : c = d
    · subst hc; rw [upd_same] at e; cases e; exact hH
    · rw [upd_ne hc] at e; exact R.kp c o' e t
  nw := fun c f q => by
    by_cases hc : c = d
    · subst hc; rw [hF] at q; cases q
    · rcases R.nw c f q with z | z
      · exact .inl z
      · exact .inr (by rw [upd_ne hc]; exact z)
  fr := R.fr
  ow := fun i w q => by
    obtain ⟨d', o', e, h1, h2, h3, r⟩ := R.ow i w q
    have ne : d' ≠ d := fun z => hn i ⟨w, .inl q⟩ (z ▸ e)
    exact ⟨d', o', e, h1, by rw [upd_ne ne]; exact h2, h3, r⟩
  lk := R.lk
  sep := R.sep
  len := R.len
theorem Rel.unpend {d : Addr} {o : HO} (R : Rel K (upd B d o) F0 F η σ H) (hB : B d = none) : Rel K B F0 F η σ H where
  sub := R.sub
  le := R.le
  kp := fun c o' e t => by
    have hc : c ≠ d := fun z => by rw [z, hB] at e; cases e
    exact R.kp c o' (by rw [upd_ne hc]; exact e) t
  nw := fun c f q => by
    rcases R.nw c f q with z | z
    · exact .inl z
    · right
      by_cases hc : c = d
      · rw [hc]; exact hB
      · rw [upd_ne hc] at z; exact z
  fr := R.fr
  ow := fun i w q => by
    obtain ⟨d', o', e, h1, h2, h3, r⟩ := R.ow i w q
    refine ⟨d', o', e, h1, ?_, h3, r⟩
    by_cases hc : d' = d
    · rw [hc]; exact hB
    · rw [upd_ne hc] at h2; exact h2
  lk := R.lk
  sep := R.sep
  len := R.len
def wPar (i j : Nat) (wa wb : TWE) : TWS := fun D η => isLk (gt η i) = false ∧ isLk (gt η j) = false ∧ wa η fun r fr => wb η fun r' fr' => D.nx (put (put η i r fr) j r' fr')
theorem isLk_put {r : W} {fr : Bool} (h : isLk (gt η j) = false) : isLk (gt (put η i r fr) j) = false := by
  unfold VL.put
  rw [gt_set]
  split
  · cases fr <;> rfl
  · exact h
theorem rs_par {px py pt : Pos} {kt k2 pt2} (hc : X.calm = true) (hN : X.N.Nodup) (hi : X.N[i]? = some x) (hj : X.N[j]? = some y) (hij : i ≠ j)
    (hx : X.env.scope.names.lookup x = some .local) (hy : X.env.scope.names.lookup y = some .local) (ha : RE X a wa) (hb : RE X b wb)
    (hw : swappedStores [.Tuple [.Name x px, .Name y py] kt pt] (.Tuple [a, b] k2 pt2) X.env = pure (some [x, y]))
    (hs : swapsWithSole [.Tuple [.Name x px, .Name y py] kt pt] (.Tuple [a, b] k2 pt2) pos.line X.env = pure false := by rfl)
    (s1 : starEach [a, b] X.env = (false, eval a X.env) :: starEach [b] X.env := by rfl) (s2 : starEach [b] X.env = (false, eval b X.env) :: starEach [] X.env := by rfl) :
    RS X (.Assign [.Tuple [.Name x px, .Name y py] kt pt] (.Tuple [a, b] k2 pt2) pos) (wPar i j wa wb) := by
  refine PS.imp (ps_par hc hN hi hj hij hx hy (pa_cons ha (pa_cons hb pa_nil s2) s1) hw hs) fun D σ H q => ?_
  obtain ⟨B, F0, F, η, D0, R, ⟨l1, l2, w⟩, k⟩ := q
  refine ⟨B, F0, F, η, _, R, w, fun r fr q F1 H1 v le1 R1 hv => ?_⟩
  have fin : ∀ (r' : W) (fr' : Bool) (v' : V) (F2 : Fz) (H2 : Hp), D0.nx (put (put η i r fr) j r' fr') → Le F F2 → Rel X.K B F0 F2 η σ H2 → Val X.K B F2 η σ H2 r fr v → Val X.K B F2 η σ H2 r' fr' v' → (fr = true → fr' = true → v ≠ v') →
      D.nx ((σ.set i (some v)).set j (some v')) H2 := fun r' fr' v' F2 H2 q le2 R2 hv hv' ne => by
    have R3 := R2.put (i := i) hv
    refine k.nx _ q F2 _ H2 le2 ((put_lk l1).trans (put_lk (isLk_put l2))) (R3.put ?_)
    cases fr' with
    | false => exact hv'
    | true =>
      obtain ⟨d, o, e, hF, hB, hH, r0, hn⟩ := hv'
      refine ⟨d, o, e, hF, hB, hH, r0, fun l hl z => ?_⟩
      by_cases li : i = l
      · subst li
        by_cases hlt : i < σ.length
        · rw [List.getElem?_set_self hlt] at z
          have z : v = .ref d := by injection z with z; injection z
          obtain ⟨w3, q3⟩ := hl
          unfold VL.put at q3
          rw [gt_set_same _ _ _ (by rw [R2.len]; exact hlt)] at q3
          cases fr with
          | false => rcases q3 with q3 | q3 <;> cases q3
          | true => exact ne rfl rfl (by rw [z, e])
        · rw [List.getElem?_eq_none (by rw [List.length_set]; omega)] at z; cases z
      · rw [List.getElem?_set_ne li] at z
        obtain ⟨w3, q3⟩ := hl
        unfold VL.put at q3
        rw [gt_set_ne _ _ _ _ li] at q3
        exact hn l ⟨w3, q3⟩ z
  cases fr with
  | false =>
    refine ⟨B, F0, F1, η, _, R1, q, fun r' fr' q F2 H2 v' le2 R2 hv' => ⟨v, v', rfl, ?_⟩⟩
    exact fin r' fr' v' F2 H2 q (le1.trans le2) R2 (Rep.mono _ le2 _ _ hv) hv' (fun z => by cases z)
  | true =>
    obtain ⟨d, o, e, hF, hB, hH, r0, hn⟩ := hv
    subst e
    refine ⟨upd B d o, F0, F1, η, _, R1.pend hF hH hn, q, fun r' fr' q F2 H2 v' le2 R2 hv' => ⟨_, v', rfl, ?_⟩⟩
    have tk : isTok (F0 d) = false := by
      cases z : F0 d with
      | none => rfl
      | some f => rw [R1.le _ _ z] at hF; cases hF
    have hH2 := R2.kp d o upd_same tk
    have hF2 : F2 d = none := by
      cases z : F2 d with
      | none => rfl
      | some f =>
        rcases R2.nw d f z with ⟨g, z⟩ | z
        · rw [R1.le _ _ z] at hF; cases hF
        · rw [upd_same] at z; cases z
    have hv1 : Val X.K B F2 η σ H2 r true (.ref d) := ⟨d, o, rfl, hF2, hB, hH2, RepO.mono _ le2 r0, hn⟩
    cases fr' with
    | false => exact fin r' false v' F2 H2 q (le1.trans le2) (R2.unpend hB) hv1 hv' (fun _ z => by cases z)
    | true =>
      obtain ⟨d', o', e', hF', hB', hH', r0', hn'⟩ := hv'
      have nd : d' ≠ d := fun z => by rw [z, upd_same] at hB'; cases hB'
      rw [upd_ne nd] at hB'
      exact fin r' true v' F2 H2 q (le1.trans le2) (R2.unpend hB) hv1 ⟨d', o', e', hF', hB', hH', r0', hn'⟩ (fun _ _ z => nd (by rw [e'] at z; cases z; rfl))

/-! ### name op= e, x.append(e) -/
def wAug (i : Nat) (s : S2) (we : TWE) : TWS := fun D η => match gt η i with
  | .fz (.int n) => we η fun r _ => s (.int n) r fun z fr => D.nx (put η i z fr)
  | _ => False
theorem rs_aug {s : S2} {op : Operator} {pos' : Pos} (ho : OpW X (inplaceOp op) s) (hN : X.N.Nodup) (hi : X.N[i]? = some x) (hx : Loc X.env.scope x) (he : RO X e we)
    (hf : X.fn x = true ∨ X.env.scope.names.lookup x = some .local := by first | exact .inl rfl | exact .inr rfl | assumption) : RS X (.AugAssign (.Name x pos') op e pos) (wAug i s we) := by
  obtain ⟨r, o, hs⟩ := ho
  refine PS.imp (ps_aug hN hi hx he o hf) fun D σ H q => ?_
  obtain ⟨B, F0, F, η, D0, R, w, k⟩ := q
  unfold wAug at w
  split at w
  · rename_i n z
    obtain ⟨v, e1, h1⟩ := R.fr i _ z
    refine ⟨v, e1, B, F0, F, η, _, R, w, fun r b q F1 H1 v2 l1 R1 hv => ?_⟩
    refine hs B F0 F1 η σ H1 _ r false b v v2 _ _ R1 (.inl (Rep.mono _ l1 _ _ h1)) hv q fun r fr q F2 H2 v3 l2 R2 hv3 => ?_
    exact k.nx _ q F2 _ H2 (l1.trans l2) (put_lk (by rw [z]; rfl)) (R2.put hv3)
  · exact w.elim
theorem ow_iadd : OpW X (inplaceOp .Add) (sArith0 fun i j => i + j) := ow_arith0 iop_add
theorem ow_isub : OpW X (inplaceOp .Sub) (sArith0 fun i j => i - j) := ow_arith0 iop_sub
def wAppend (i : Nat) (we : TWE) : TWS := fun D η => match gt η i with
  | .ow (.lst xs) => we η fun r b => b = false ∧ xs.length < sizeLine ∧ D.nx (η.set i (.ow (.lst (xs ++ [r]))))
  | _ => False
theorem append_run (hN : X.N[i]? = some x) (D : Ends) (σ : L2.St) (H : Hp) (q : tS X.K (wAppend i we) D σ H) : tDrop (tBM X.K "list" rAppend (tVar i) (tCons (tO X.K we) tNil)) D σ H := by
  obtain ⟨B, F0, F, η, D0, R, w, k⟩ := q
  unfold wAppend at w
  split at w
  · rename_i xs z
    obtain ⟨d, o, hd, hF, hB, hH, vs, eo, r0⟩ := R.ow i _ z
    subst eo
    refine ⟨_, hd, .inl ⟨rfl, vs, .of hH⟩, B, F0, F, η, _, R, w, fun r b q F1 H1 v l1 R1 hv => ?_⟩
    obtain ⟨rfl, hz, q⟩ := q
    obtain ⟨d', o, e1, hF', hB', hH', vs', eo, r1⟩ := R1.ow i _ z
    rw [hd] at e1; cases e1
    subst eo
    refine ⟨d, vs', v, rfl, rfl, hH', by rw [← r1.length]; exact hz, ?_⟩
    refine k.nx _ q F1 σ _ l1 (lk_set' (by rw [z]; rfl)) (R1.mut z hd ⟨_, rfl, r1.append (reps_cons ?_ reps_nil)⟩)
    exact val_lift (fr := false) R1 hv
  · exact w.elim

/-! ### targets -/
abbrev TWG := W → Nv → (Nv → Prop) → Prop
abbrev TWGs := List W → Nv → (Nv → Prop) → Prop
def Off (vs : List Nat) (σ σ' : L2.St) : Prop := σ'.length = σ.length ∧ ∀ i, i ∉ vs → σ'[i]? = σ[i]?
def tG (K : PySem.W.Frag) (vs : List Nat) (g : TWG) : TG := fun v σ H Q => ∃ B F0 F η w Q0, Rel K B F0 F η σ H ∧ Rep K F w v ∧ g w η Q0 ∧
  ∀ η', Q0 η' → ∀ σ', Lk η σ η' σ' → Off vs σ σ' → Rel K B F0 F η' σ' H → Q σ' H
def tGs (K : PySem.W.Frag) (vs : List Nat) (g : TWGs) : TGs := fun v σ H Q => ∃ B F0 F η w Q0, Rel K B F0 F η σ H ∧ Reps K F w v ∧ g w η Q0 ∧
  ∀ η', Q0 η' → ∀ σ', Lk η σ η' σ' → Off vs σ σ' → Rel K B F0 F η' σ' H → Q σ' H
def RG (X : Cx) (tg : Expr) (vs : List Nat) (g : TWG) : Prop := PG X tg (tG X.K vs g)
def RGs (X : Cx) (tg : List Expr) (vs : List Nat) (g : TWGs) : Prop := PGs X tg (tGs X.K vs g)
theorem PG.imp {tg : Expr} {t t' : TG} (h : PG X tg t) (k : ∀ v σ H Q, t' v σ H Q → t v σ H Q) : PG X tg t' := ⟨fun pins s σ H v u Q I r q => h.run pins s σ H v u Q I r (k v σ H Q q)⟩
theorem PGs.imp {tg : List Expr} {t t' : TGs} (h : PGs X tg t) (k : ∀ v σ H Q, t' v σ H Q → t v σ H Q) : PGs X tg t' := ⟨fun pins s σ H v u Q I r q => h.run pins s σ H v u Q I r (k v σ H Q q)⟩
def gN (i : Nat) : TWG := fun w η Q => isLk (gt η i) = false ∧ Q (η.set i (.fz w))
theorem rg_name (hN : X.N.Nodup) (hi : X.N[i]? = some x) (hx : Loc X.env.scope x) (hf : X.fn x = true ∨ X.env.scope.names.lookup x = some .local := by first | exact .inl rfl | exact .inr rfl | assumption) : RG X (.Name x pos) [i] (gN i) :=
  PG.imp (pg_name hN hi hx hf) fun v σ H Q q => by
    obtain ⟨B, F0, F, η, w, Q0, R, rep, ⟨hl, q⟩, k⟩ := q
    refine k _ q _ (lk_set hl) ⟨List.length_set, fun l hl => ?_⟩ (R.put (fr := false) rep)
    rw [List.getElem?_set_ne (fun z => hl (by rw [z]; exact List.mem_cons_self))]
def gsNil : TWGs := fun ws η Q => ws = [] ∧ Q η
def gsCons (g : TWG) (gs : TWGs) : TWGs := fun ws η Q => match ws with
  | w :: r => g w η fun η' => gs r η' Q
  | [] => False
theorem rgs_nil : RGs X [] [] gsNil := PGs.imp pgs_nil fun v σ H Q q => by
  obtain ⟨B, F0, F, η, w, Q0, R, rep, ⟨rfl, q⟩, k⟩ := q
  unfold Reps at rep
  exact ⟨rep, k _ q σ Lk.refl ⟨rfl, fun _ _ => rfl⟩ R⟩
theorem rgs_cons {v1 v2 : List Nat} {g : TWG} {gs : TWGs} (h1 : RG X e v1 g) (h2 : RGs X es v2 gs) (hs : (assignEach (e :: es) X.env).map (·.2) = assign e X.env :: (assignEach es X.env).map (·.2) := by rfl) : RGs X (e :: es) (v1 ++ v2) (gsCons g gs) :=
  PGs.imp (pgs_cons h1 h2 hs) fun v σ H Q q => by
    obtain ⟨B, F0, F, η, w, Q0, R, rep, q, k⟩ := q
    cases w with
    | nil => exact q.elim
    | cons w r =>
      unfold Reps at rep
      obtain ⟨u, t, e, r1, r2⟩ := rep
      refine ⟨u, t, e, B, F0, F, η, w, _, R, r1, q, fun η1 q1 σ1 k1 s1 R1 => ⟨B, F0, F, η1, r, _, R1, r2, q1, fun η2 q2 σ2 k2 s2 R2 => ?_⟩⟩
      exact k _ q2 _ (k1.trans k2) ⟨s2.1.trans s1.1, fun l hl => (s2.2 l (fun z => hl (List.mem_append_right _ z))).trans (s1.2 l (fun z => hl (List.mem_append_left _ z)))⟩ R2
def gT (n : Nat) (gs : TWGs) : TWG := fun w η Q => match w with
  | .tup ws => ws.length = n ∧ gs ws η Q
  | _ => False
theorem rg_tup {vs : List Nat} {gs : TWGs} {k n : Nat} (hc : X.calm = true) (h : RGs X es vs gs) (hn : (assignEach es X.env).length = n := by rfl) (hst : (assignEach es X.env).findIdx? (·.1) = none := by rfl) : RG X (.Tuple es k pos) vs (gT n gs) :=
  PG.imp (pg_tup hc h hn hst) fun v σ H Q q => by
    obtain ⟨B, F0, F, η, w, Q0, R, rep, q, k⟩ := q
    unfold gT at q
    split at q
    · obtain ⟨hl, q⟩ := q
      have rep2 := rep
      unfold Rep at rep
      obtain ⟨d, us, e, f, r⟩ := rep
      exact ⟨d, us, e, .of (R.sub.fz f), by rw [← r.length]; exact hl, B, F0, F, η, _, _, R, r, q, k⟩
    · exact q.elim
/-- target = e -/
def wAsg (we : TWE) (g : TWG) : TWS := fun D η => we η fun r _ => g r η D.nx
theorem rs_asg {vs : List Nat} {g : TWG} (he : RE X e we) (hg : RG X tg vs g) (hs : swapsWithSole [tg] e pos.line X.env = pure false := by rfl) (hw : swappedStores [tg] e X.env = pure none := by rfl)
    (h1 : (assignEach [tg] X.env).map (·.2) = [assign tg X.env] := by rfl) : RS X (.Assign [tg] e pos) (wAsg we g) := PS.imp (ps_asg he hg hs hw h1) fun D σ H q => by
  obtain ⟨B, F0, F, η, D0, R, w, k⟩ := q
  refine ⟨B, F0, F, η, _, R, w, fun r fr q F1 H1 v l1 R1 hv => ?_⟩
  obtain ⟨G, l2, R2, rep⟩ := R1.cool hv
  exact ⟨B, F0, G, η, r, _, R2, rep, q, fun η' q' σ' kk _ R' => k.nx _ q' G σ' H1 (l1.trans l2) kk R'⟩

/-! ### what is walked -/
abbrev TWI := Nv → (List W → Prop) → Prop
def ItOk (K : PySem.W.Frag) (J : It) (ws : List W) (pl : Option Nat) (F : Fz) (η : Nv) (σ : L2.St) : Prop := ∀ (i : Nat) (B : Hp) (F0 F' : Fz) (η' : Nv) (σ' : L2.St) (H' : Hp), Le F F' →
  (∀ l w, pl = some l → gt η l = .lk w → gt η' l = .lk w ∧ σ'[l]? = σ[l]?) → Rel K B F0 F' η' σ' H' →
  (ws.length ≤ i → J.stop i H') ∧ (∀ w, ws[i]? = some w → J.go i H' ∧ ∀ x H2, J.yld i H' x H2 → ∃ F2, Le F' F2 ∧ Rel K B F0 F2 η' σ' H2 ∧ CPost F' H' F2 H2 ∧ Rep K F2 w x)
def tI (K : PySem.W.Frag) (pl : Option Nat) (w : TWI) : TI := fun σ H R => ∃ B F0 F η Q0, Rel K B F0 F η σ H ∧ w η Q0 ∧ ∀ ws, Q0 ws → ∀ F' H' J, Le F F' → Rel K B F0 F' η σ H' → ItOk K J ws pl F' η σ → R J H'
def RI (X : Cx) (tg it : Expr) (pl : Option Nat) (w : TWI) : Prop := PI X tg it (tI X.K pl w)
theorem PI.imp {t t' : TI} (h : PI X tg it t) (k : ∀ σ H R, t' σ H R → t σ H R) : PI X tg it t' := ⟨fun pins s σ H R I q => h.run pins s σ H R I (k σ H R q)⟩
theorem CPost.refl (s : Sub F H) : CPost F H F H := ⟨s, fun _ _ h _ => h, fun c f q => .inl ⟨f, q⟩⟩
theorem CPost.trans {F1 F2 : Fz} {H1 H2 : Hp} (l : Le F F1) (a : CPost F H F1 H1) (b : CPost F1 H1 F2 H2) : CPost F H F2 H2 where
  sub := b.sub
  kp := fun c o e t => b.kp c o (a.kp c o e t) (by
    cases q : F1 c with
    | none => rfl
    | some f =>
      rcases a.nw c f q with ⟨g, z⟩ | z
      · have := l _ _ z
        rw [q] at this
        cases this
        rw [z] at t; exact t
      · rw [e] at z; cases z)
  nw := fun c f q => by
    rcases b.nw c f q with ⟨g, z⟩ | z
    · exact a.nw c g z
    · cases y : H c with
      | none => exact .inr rfl
      | some o =>
        cases t : isTok (F c) with
        | false => rw [a.kp c o y t] at z; cases z
        | true =>
          cases v : F c with
          | none => rw [v] at t; cases t
          | some g => exact .inl ⟨g, rfl⟩
/-- a list or a tuple, by its place -/
theorem pi_seq {te : TE} (h : PE X e te) : PI X tg e (fun σ H R => te σ H fun x H1 => ∃ d, x = .ref d ∧ ((∃ xs, SqL X.K H1 d xs ∧ R (Itl X.K d) H1) ∨ ∃ xs, SqT X.K H1 d xs ∧ R (Itt X.K d) H1)) := by
  refine ⟨fun pins s σ H R I q => thn (h.run pins s σ H _ I q) fun v s1 q1 => ?_⟩
  obtain ⟨y, H1, I1, ry, d, ey, hd⟩ := q1
  subst ey
  obtain rfl : v = Value.ref d := ry
  have old : ∀ (b : Addr) (o : Obj), s1.heap.get? b = some o → ∀ z : Obj, (s1.heap.push z).get? b = some o := fun b o g z => Heap.get?_push_of_some _ g
  have foot : ∀ b ∈ [s1.heap.objs.size], FpOk X pins H1 b := fun b hb => by
    rcases List.mem_singleton.mp hb with rfl
    exact I1.fpOk (Nat.le_refl _) (I1.hok.fresh (Nat.le_refl _))
  rcases hd with ⟨xs, hs, hR⟩ | ⟨xs, hs, hR⟩
  · obtain ⟨us, _, pl, _⟩ := I1.list hs
    exact wpAny_pyIter_list pl.isList ⟨_, [s1.heap.objs.size], _, _, H1, rfl, I1.kept (t' := s1.toks) fun b o g => old b o g _, turn_list d _, ⟨_, Heap.get?_push_size _ rfl, rfl, rfl⟩, foot, hR⟩
  · obtain ⟨us, _, pl, _⟩ := I1.tuple hs
    exact wpAny_pyIter_tuple (show s1.heap.IsTuple d us.toArray from pl) ⟨_, [s1.heap.objs.size], _, _, H1, rfl, I1.kept (t' := s1.toks) fun b o g => old b o g _, turn_tuple d _, ⟨_, Heap.get?_push_size _ rfl, rfl, rfl⟩, foot, hR⟩
theorem itl_ok {d : Addr} {ws : List W} {pl : Option Nat} (h : ∀ (B : Hp) (F0 F' : Fz) (η' : Nv) (σ' : L2.St) (H' : Hp), Le F F' → (∀ l w, pl = some l → gt η l = .lk w → gt η' l = .lk w ∧ σ'[l]? = σ[l]?) → Rel K B F0 F' η' σ' H' → ∃ vs, H' d = some (.lst vs) ∧ Reps K F' ws vs) : ItOk K (Itl K d) ws pl F η σ := by
  intro i B F0 F' η' σ' H' l q R
  obtain ⟨vs, hH, r⟩ := h B F0 F' η' σ' H' l q R
  refine ⟨fun hi => ⟨vs, .of hH, by rw [← r.length]; exact hi⟩, fun w hw => ?_⟩
  obtain ⟨v, hv, rv⟩ := r.get hw
  refine ⟨⟨vs, v, .of hH, hv⟩, fun x H2 hy => ?_⟩
  obtain ⟨e, hx⟩ := hy
  subst e
  have z := hx vs (.of hH)
  rw [hv] at z
  cases z
  exact ⟨F', Le.refl _, R, .refl R.sub, rv⟩
theorem itt_ok {d : Addr} {ws : List W} {pl : Option Nat} (h : ∀ (B : Hp) (F0 F' : Fz) (η' : Nv) (σ' : L2.St) (H' : Hp), Le F F' → (∀ l w, pl = some l → gt η l = .lk w → gt η' l = .lk w ∧ σ'[l]? = σ[l]?) → Rel K B F0 F' η' σ' H' → ∃ vs, H' d = some (.tup vs) ∧ Reps K F' ws vs) : ItOk K (Itt K d) ws pl F η σ := by
  intro i B F0 F' η' σ' H' l q R
  obtain ⟨vs, hH, r⟩ := h B F0 F' η' σ' H' l q R
  refine ⟨fun hi => ⟨vs, .of hH, by rw [← r.length]; exact hi⟩, fun w hw => ?_⟩
  obtain ⟨v, hv, rv⟩ := r.get hw
  refine ⟨⟨vs, v, .of hH, hv⟩, fun x H2 hy => ?_⟩
  obtain ⟨e, hx⟩ := hy
  subst e
  have z := hx vs (.of hH)
  rw [hv] at z
  cases z
  exact ⟨F', Le.refl _, R, .refl R.sub, rv⟩
def iE (we : TWE) : TWI := fun η Q => we η fun r _ => match r with
  | .lst ws => Q ws
  | .tup ws => Q ws
  | _ => False
/-- a frozen list, a frozen tuple -/
theorem frozen_it {w : W} {v : V} (R : Rel K B F0 F η σ H) (rep : Rep K F w v) (pl : Option Nat) : (∀ ws, w = .lst ws → ∃ d vs, v = .ref d ∧ H d = some (.lst vs) ∧ ItOk K (Itl K d) ws pl F η σ) ∧ (∀ ws, w = .tup ws → ∃ d vs, v = .ref d ∧ H d = some (.tup vs) ∧ ItOk K (Itt K d) ws pl F η σ) := by
  refine ⟨fun ws e => ?_, fun ws e => ?_⟩
  · subst e
    unfold Rep at rep
    obtain ⟨d, vs, e, f, r⟩ := rep
    exact ⟨d, vs, e, R.sub.fz f, itl_ok fun B F0 F' η' σ' H' l _ R' => ⟨vs, R'.sub.fz (l _ _ f), Reps.mono K l _ _ r⟩⟩
  · subst e
    unfold Rep at rep
    obtain ⟨d, vs, e, f, r⟩ := rep
    exact ⟨d, vs, e, R.sub.fz f, itt_ok fun B F0 F' η' σ' H' l _ R' => ⟨vs, R'.sub.fz (l _ _ f), Reps.mono K l _ _ r⟩⟩
theorem ri_of (h : RE X e we) : RI X tg e none (iE we) := PI.imp (pi_seq h) fun σ H R q => by
  obtain ⟨B, F0, F, η, Q0, R0, w, k⟩ := q
  refine ⟨B, F0, F, η, _, R0, w, fun r fr q F1 H1 v l1 R1 hv => ?_⟩
  obtain ⟨G, l2, R2, rep⟩ := R1.cool hv
  obtain ⟨z1, z2⟩ := frozen_it R2 rep none
  split at q
  · obtain ⟨d, vs, e, hH, ok⟩ := z1 _ rfl
    exact ⟨d, e, .inl ⟨vs, .of hH, k _ q G H1 _ (l1.trans l2) R2 ok⟩⟩
  · obtain ⟨d, vs, e, hH, ok⟩ := z2 _ rfl
    exact ⟨d, e, .inr ⟨vs, .of hH, k _ q G H1 _ (l1.trans l2) R2 ok⟩⟩
  · exact q.elim
/-- a name's list (locked while it is walked), a name's tuple -/
def iV (i : Nat) : TWI := fun η Q => match gt η i with
  | .fz (.lst ws) => Q ws
  | .fz (.tup ws) => Q ws
  | .lk (.lst ws) => Q ws
  | .lk (.tup ws) => Q ws
  | _ => False
theorem ri_var (hN : X.N[i]? = some x) (hv : Vis X.env.scope x) (hd : (x == ("__debug__" : Str)) = false := by decide) (hcd : (x == ("__classdict__" : Str)) = false := by decide) : RI X tg (.Name x pos) (some i) (iV i) := PI.imp (pi_seq (pe_var hN hv hd hcd)) fun σ H R q => by
  obtain ⟨B, F0, F, η, Q0, R0, w, k⟩ := q
  unfold iV at w
  split at w
  · rename_i ws z
    obtain ⟨v, e1, rep⟩ := R0.fr i _ z
    obtain ⟨d, vs, e, hH, ok⟩ := (frozen_it R0 rep (some i)).1 _ rfl
    exact ⟨v, e1, d, e, .inl ⟨vs, .of hH, k _ w F H _ (Le.refl _) R0 ok⟩⟩
  · rename_i ws z
    obtain ⟨v, e1, rep⟩ := R0.fr i _ z
    obtain ⟨d, vs, e, hH, ok⟩ := (frozen_it R0 rep (some i)).2 _ rfl
    exact ⟨v, e1, d, e, .inr ⟨vs, .of hH, k _ w F H _ (Le.refl _) R0 ok⟩⟩
  · rename_i ws z
    obtain ⟨d, o, e1, hF, hH, vs, eo, r⟩ := R0.lk i _ z
    subst eo
    refine ⟨_, e1, d, rfl, .inl ⟨vs, .of hH, k _ w F H _ (Le.refl _) R0 (itl_ok fun B F0 F' η' σ' H' l q R' => ?_)⟩⟩
    obtain ⟨z1, z2⟩ := q i _ rfl z
    obtain ⟨d', o', e2, _, hH', vs', eo', r'⟩ := R'.lk i _ z1
    rw [z2, e1] at e2
    cases e2
    exact ⟨vs', eo' ▸ hH', r'⟩
  · rename_i ws z
    obtain ⟨d, o, e1, hF, hH, vs, eo, r⟩ := R0.lk i _ z
    subst eo
    refine ⟨_, e1, d, rfl, .inr ⟨vs, .of hH, k _ w F H _ (Le.refl _) R0 (itt_ok fun B F0 F' η' σ' H' l q R' => ?_)⟩⟩
    obtain ⟨z1, z2⟩ := q i _ rfl z
    obtain ⟨d', o', e2, _, hH', vs', eo', r'⟩ := R'.lk i _ z1
    rw [z2, e1] at e2
    cases e2
    exact ⟨vs', eo' ▸ hH', r'⟩
  · exact w.elim
/-- range -/
def rgW (lo : Int) (n : Nat) : List W := (List.range n).map fun k => .int (lo + (k : Nat))
theorem itr_ok {lo : Int} {n : Nat} {pl : Option Nat} : ItOk K (Itr lo n) (rgW lo n) pl F η σ := by
  intro i B F0 F' η' σ' H' l q R
  refine ⟨fun hi => by show n ≤ i; simpa [rgW] using hi, fun w hw => ?_⟩
  have hi : i < n := by
    have := (List.getElem?_eq_some_iff.mp hw).1
    simpa [rgW] using this
  have ew : w = .int (lo + (i : Nat)) := by
    unfold rgW at hw
    rw [List.getElem?_map, List.getElem?_range hi] at hw
    exact (Option.some.inj hw).symm
  refine ⟨hi, fun x H2 hy => ?_⟩
  obtain ⟨e1, e2⟩ := hy
  subst e1
  exact ⟨F', Le.refl _, R, .refl R.sub, by rw [ew]; unfold Rep; exact e2⟩
def Rg (n : Int) : Prop := -4611686018427387904 ≤ n ∧ n < 4611686018427387904
def iRange1 (u : TWA) : TWI := fun η Q => u η fun ws _ => match ws with
  | [.int n] => Rg n ∧ Q (rgW 0 n.toNat)
  | _ => False
def iRange2 (u : TWA) : TWI := fun η Q => u η fun ws _ => match ws with
  | [.int m, .int n] => (Rg m ∧ Rg n) ∧ Q (rgW m (n - m).toNat)
  | _ => False
theorem ri_range1 {p pos : Pos} (hg : Gl X "range") (hm : X.mg "range" = none) (ha : RA X [a] u) (hs : starEach [a] X.env = [(false, eval a X.env)] := by rfl) : RI X tg (.Call (.Name "range" p) [a] [] pos) none (iRange1 u) :=
  PI.imp (pi_range1 hg hm ha hs) fun σ H R q => by
    obtain ⟨B, F0, F, η, Q0, R0, w, k⟩ := q
    refine ⟨B, F0, F, η, _, R0, w, fun ws b q F1 H1 vs l1 R1 hv => ?_⟩
    split at q
    · rename_i n
      obtain ⟨⟨h1, h2⟩, q⟩ := q
      obtain ⟨v, e, h⟩ := hv.one
      exact ⟨n, by rw [e, R1.int h], by omega, by omega, k _ q F1 H1 _ l1 R1 itr_ok⟩
    · exact q.elim
theorem ri_range2 {p pos : Pos} (hg : Gl X "range") (hm : X.mg "range" = none) (ha : RA X [a, b] u) (hs : starEach [a, b] X.env = [(false, eval a X.env), (false, eval b X.env)] := by rfl) (hs2 : starEach [b] X.env = [(false, eval b X.env)] := by rfl) : RI X tg (.Call (.Name "range" p) [a, b] [] pos) none (iRange2 u) :=
  PI.imp (pi_range2 hg hm ha hs hs2) fun σ H R q => by
    obtain ⟨B, F0, F, η, Q0, R0, w, k⟩ := q
    refine ⟨B, F0, F, η, _, R0, w, fun ws b q F1 H1 vs l1 R1 hv => ?_⟩
    split at q
    · rename_i m n
      obtain ⟨⟨⟨h1, h2⟩, h3, h4⟩, q⟩ := q
      obtain ⟨v, v', e, h, h'⟩ := hv.two
      exact ⟨m, n, by rw [e, R1.int h, R1.int h'], ⟨by omega, by omega, by omega, by omega⟩, k _ q F1 H1 _ l1 R1 itr_ok⟩
    · exact q.elim
/-- enumerate -/
theorem new_tup {T : Addr} {vs : List V} {ws : List W} (R : Rel K B F0 F η σ H) (hT : H T = none) (r : Reps K F ws vs) : ∃ F2, Le F F2 ∧ Rel K B F0 F2 η σ (upd H T (.tup vs)) ∧ CPost F H F2 (upd H T (.tup vs)) ∧ Rep K F2 (.tup ws) (.ref T) := by
  have R1 := R.alloc (p := T) (o := .tup vs) hT
  have hF := R.free hT
  have R2 := R1.freeze hF (R.freeB hT) upd_same fun i hi => R.holdNe hT hi
  refine ⟨_, le_addF hF, R2, ⟨R2.sub, fun c o e _ => ?_, fun c f q => ?_⟩, rep_of K (o := .tup vs) ⟨vs, rfl, Reps.mono K (le_addF hF) _ _ r⟩ addF_same⟩
  · rw [upd_ne (ne_of_none e hT)]; exact e
  · by_cases hc : c = T
    · subst hc; exact .inr hT
    · rw [addF_ne hc] at q; exact .inl ⟨f, q⟩
def enW : Nat → List W → List W
  | _, [] => []
  | n, w :: ws => .tup [.int (n : Nat), w] :: enW (n + 1) ws
theorem enW_len : ∀ (n : Nat) (ws : List W), (enW n ws).length = ws.length
  | _, [] => rfl
  | n, _ :: ws => by unfold enW; rw [List.length_cons, List.length_cons, enW_len (n + 1) ws]
theorem enW_get : ∀ (n : Nat) (ws : List W) (i : Nat) (w : W), (enW n ws)[i]? = some w → ∃ z, ws[i]? = some z ∧ w = .tup [.int ((n + i : Nat) : Int), z]
  | _, [], i, w, h => by simp [enW] at h
  | n, z :: ws, 0, w, h => by
    unfold enW at h
    simp at h
    exact ⟨z, rfl, by rw [← h]; rfl⟩
  | n, _ :: ws, i + 1, w, h => by
    unfold enW at h
    obtain ⟨z, h1, h2⟩ := enW_get (n + 1) ws i w (by simpa using h)
    exact ⟨z, by simpa using h1, by rw [h2, show n + 1 + i = n + (i + 1) by omega]⟩
theorem ite_ok {d : Addr} {ws : List W} {pl : Option Nat} (h : ∀ (B : Hp) (F0 F' : Fz) (η' : Nv) (σ' : L2.St) (H' : Hp), Le F F' → (∀ l w, pl = some l → gt η l = .lk w → gt η' l = .lk w ∧ σ'[l]? = σ[l]?) → Rel K B F0 F' η' σ' H' → ∃ vs, H' d = some (.lst vs) ∧ Reps K F' ws vs) : ItOk K (Ite K d) (enW 0 ws) pl F η σ := by
  intro i B F0 F' η' σ' H' l q R
  obtain ⟨vs, hH, r⟩ := h B F0 F' η' σ' H' l q R
  refine ⟨fun hi => ⟨vs, .of hH, by rw [← r.length]; rw [enW_len] at hi; exact hi⟩, fun w hw => ?_⟩
  obtain ⟨z, hz, ew⟩ := enW_get 0 ws i w hw
  obtain ⟨v, hv, rv⟩ := r.get hz
  refine ⟨⟨vs, v, .of hH, hv⟩, fun x H2 hy => ?_⟩
  obtain ⟨T, u, e, hT, e2, hx⟩ := hy
  subst e
  subst e2
  have y := hx vs (.of hH)
  rw [hv] at y
  cases y
  rw [ew, show 0 + i = i by omega]
  exact new_tup R hT (reps_cons (by unfold Rep; rfl) (reps_cons rv reps_nil))
def iEn (we : TWE) : TWI := fun η Q => we η fun r _ => match r with
  | .lst ws => Q (enW 0 ws)
  | _ => False
theorem ri_enum {p pos tpos : Pos} {elts : List Expr} {kk : Nat} (hg : Gl X "enumerate") (hm : X.mg "enumerate" = none) (ha : RE X e we) (hs : starEach [e] X.env = [(false, eval e X.env)] := by rfl) (hs' : starEach [e] X.env = (false, eval e X.env) :: starEach [] X.env := by rfl) :
    RI X (.Tuple elts kk tpos) (.Call (.Name "enumerate" p) [e] [] pos) none (iEn we) := PI.imp (pi_enum hg hm (pa_cons ha pa_nil hs') hs) fun σ H R q => by
  obtain ⟨B, F0, F, η, Q0, R0, w, k⟩ := q
  refine ⟨B, F0, F, η, _, R0, w, fun r fr q F1 H1 v l1 R1 hv => ?_⟩
  obtain ⟨G, l2, R2, rep⟩ := R1.cool hv
  split at q
  · unfold Rep at rep
    obtain ⟨d, vs, e, f, r⟩ := rep
    exact ⟨d, vs, by rw [e], .of (R2.sub.fz f), k _ q G H1 _ (l1.trans l2) R2 (ite_ok fun B F0 F' η' σ' H' l _ R' => ⟨vs, R'.sub.fz (l _ _ f), Reps.mono _ l _ _ r⟩)⟩
  · exact q.elim

/-! ### for, while -/
def forGo (g : TWG) (tb : TWS) : List W → WEnds → Nv → Prop
  | [], D, η => D.nx η
  | w :: ws, D, η => ∃ N : Nv → Prop, (∀ η', N η' → forGo g tb ws D η') ∧ g w η fun η1 => tb { nx := N, ct := N, bk := D.nx, rt := D.rt } η1
theorem forGo_inv {g : TWG} {tb : TWS} {D : WEnds} : ∀ {ws : List W} {η : Nv} (P : Nat → Nv → Prop) (_ : P 0 η) (_ : ∀ i w η, ws[i]? = some w → P i η → g w η fun η1 => tb { nx := P (i + 1), ct := P (i + 1), bk := D.nx, rt := D.rt } η1) (_ : ∀ η, P ws.length η → D.nx η), forGo g tb ws D η
  | [], η, P, h0, _, hd => hd η h0
  | w :: ws, η, P, h0, hs, hd => ⟨P 1, fun η' p => forGo_inv (fun i => P (i + 1)) p (fun i w η e p => hs (i + 1) w η (by simpa using e) p) hd, hs 0 w η rfl h0⟩
def wFor (wi : TWI) (g : TWG) (tb : TWS) : TWS := fun D η => wi η fun ws => forGo g tb ws D η
theorem rs_for {wi : TWI} {g : TWG} {pl : Option Nat} {vs : List Nat} {body : List Stmt} {tb : TWS} (hp : PassesOwn (model X.prog X.w) X.A X.env X.xe) (hc : X.calm = true) (hi : RI X tg it pl wi) (hg : RG X tg vs g) (hb : RSs X body tb)
    (hs : ∀ x, foldedSetIterable it X.env x = pure x := by intro _; rfl) : RS X (.For tg it body [] pos) (wFor wi g tb) := PS.imp (ps_for hp hc hi hg hb hs) fun D σ H q => by
  obtain ⟨B, F0, F, η, D0, R, w, k⟩ := q
  refine ⟨B, F0, F, η, _, R, w, fun ws q F1 H1 J l1 R1 ok => ?_⟩
  refine ⟨fun i m σ' H' => ∃ F' η', m = ws.length - i ∧ i ≤ ws.length ∧ Le F1 F' ∧ Lk η σ η' σ' ∧ Rel X.K B F0 F' η' σ' H' ∧ forGo g tb (ws.drop i) D0 η', ⟨_, F1, η, rfl, Nat.zero_le _, Le.refl _, Lk.refl, R1, q⟩, ?_⟩
  rintro i m σ' H' ⟨F', η', rfl, hi, l2, lk, R', q⟩
  obtain ⟨st, go⟩ := ok i B F0 F' η' σ' H' l2 (fun l w _ h => lk l w h) R'
  by_cases h : i < ws.length
  · obtain ⟨hgo, hy⟩ := go ws[i] (List.getElem?_eq_getElem h)
    rw [List.drop_eq_getElem_cons h] at q
    refine .inr ⟨hgo, fun σ2 H2 => ∃ F2 η2, Le F1 F2 ∧ Lk η σ η2 σ2 ∧ Rel X.K B F0 F2 η2 σ2 H2 ∧ forGo g tb (ws.drop (i + 1)) D0 η2, fun σ2 H2 ⟨F2, η2, z⟩ => ⟨ws.length - (i + 1), by omega, F2, η2, rfl, h, z⟩, fun x H2 hx => ?_⟩
    obtain ⟨F2, l3, R2, _, rep⟩ := hy x H2 hx
    obtain ⟨Nn, hNn, q⟩ := q
    refine ⟨B, F0, F2, η', ws[i], _, R2, rep, q, fun η3 q3 σ3 lk3 _ R3 => ⟨B, F0, F2, η3, _, R3, q3, ?_⟩⟩
    have lk' := lk.trans lk3
    have le' := (l2.trans l3)
    exact ⟨fun η4 q4 F4 σ4 H4 l4 lk4 R4 => ⟨F4, η4, le'.trans l4, lk'.trans lk4, R4, hNn _ q4⟩, fun η4 q4 F4 σ4 H4 l4 lk4 R4 => k.nx _ q4 F4 σ4 H4 (l1.trans (le'.trans l4)) (lk'.trans lk4) R4,
      fun η4 q4 F4 σ4 H4 l4 lk4 R4 => ⟨F4, η4, le'.trans l4, lk'.trans lk4, R4, hNn _ q4⟩, fun r fr q4 F4 H4 v l4 f => k.rt r fr q4 F4 H4 v (l1.trans (le'.trans l4)) f⟩
  · refine .inl ⟨st (by omega), ?_⟩
    rw [List.drop_eq_nil_of_le (by omega)] at q
    exact k.nx _ q F' σ' H' (l1.trans l2) lk R'
/-- a name's list is locked while it is walked -/
def wLock (i : Nat) (w : TWS) : TWS := fun D η => match gt η i with
  | .ow r => w { nx := fun η' => D.nx (η'.set i (.ow r)), rt := D.rt, bk := fun η' => D.bk (η'.set i (.ow r)), ct := fun η' => D.ct (η'.set i (.ow r)) } (η.set i (.lk r))
  | _ => w D η
theorem Rel.lock (R : Rel K B F0 F η σ H) {r : W} (q : gt η i = .ow r) : Rel K B F0 F (η.set i (.lk r)) σ H := by
  have hl : i < η.length := by
    by_cases hl : i < η.length
    · exact hl
    · rw [gt_out η i (by omega)] at q; cases q
  have out : ∀ {j : Nat}, j ≠ i → gt (η.set i (.lk r)) j = gt η j := fun {j} n => gt_set_ne _ _ _ _ (Ne.symm n)
  have hin : ∀ {j : Nat}, hold (η.set i (.lk r)) j → hold η j := fun {j} h => by
    by_cases hj : j = i
    · rw [hj]; exact ⟨r, .inl q⟩
    · obtain ⟨w, z⟩ := h
      rw [out hj] at z
      exact ⟨w, z⟩
  refine ⟨R.sub, R.le, R.kp, R.nw, fun j w z => ?_, fun j w z => ?_, fun j w z => ?_, fun j l d h1 h2 e1 e2 => R.sep j l d (hin h1) (hin h2) e1 e2, by rw [List.length_set]; exact R.len⟩
  · by_cases hj : j = i
    · subst hj; rw [gt_set_same _ _ _ hl] at z; cases z
    · rw [out hj] at z; exact R.fr j w z
  · by_cases hj : j = i
    · subst hj; rw [gt_set_same _ _ _ hl] at z; cases z
    · rw [out hj] at z; exact R.ow j w z
  · by_cases hj : j = i
    · subst hj
      rw [gt_set_same _ _ _ hl] at z
      cases z
      obtain ⟨d, o, e, h1, _, h3, r0⟩ := R.ow j _ q
      exact ⟨d, o, e, h1, h3, r0⟩
    · rw [out hj] at z; exact R.lk j w z
theorem Rel.unlock (R : Rel K B F0 F η σ H) {r : W} {d : Addr} (q : gt η i = .lk r) (e : σ[i]? = some (some (.ref d))) (hB : B d = none) : Rel K B F0 F (η.set i (.ow r)) σ H := by
  have hl : i < η.length := by
    by_cases hl : i < η.length
    · exact hl
    · rw [gt_out η i (by omega)] at q; cases q
  have out : ∀ {j : Nat}, j ≠ i → gt (η.set i (.ow r)) j = gt η j := fun {j} n => gt_set_ne _ _ _ _ (Ne.symm n)
  have hin : ∀ {j : Nat}, hold (η.set i (.ow r)) j → hold η j := fun {j} h => by
    by_cases hj : j = i
    · rw [hj]; exact ⟨r, .inr q⟩
    · obtain ⟨w, z⟩ := h
      rw [out hj] at z
      exact ⟨w, z⟩
  refine ⟨R.sub, R.le, R.kp, R.nw, fun j w z => ?_, fun j w z => ?_, fun j w z => ?_, fun j l d h1 h2 e1 e2 => R.sep j l d (hin h1) (hin h2) e1 e2, by rw [List.length_set]; exact R.len⟩
  · by_cases hj : j = i
    · subst hj; rw [gt_set_same _ _ _ hl] at z; cases z
    · rw [out hj] at z; exact R.fr j w z
  · by_cases hj : j = i
    · subst hj
      rw [gt_set_same _ _ _ hl] at z
      cases z
      obtain ⟨d', o, e1, h1, h3, r0⟩ := R.lk j _ q
      rw [e] at e1; cases e1
      exact ⟨d, o, e, h1, hB, h3, r0⟩
    · rw [out hj] at z; exact R.ow j w z
  · by_cases hj : j = i
    · subst hj; rw [gt_set_same _ _ _ hl] at z; cases z
    · rw [out hj] at z; exact R.lk j w z
theorem rs_lock (i : Nat) (h : RS X st w) : RS X st (wLock i w) := PS.imp h fun D σ H q => by
  obtain ⟨B, F0, F, η, D0, R, w, k⟩ := q
  unfold wLock at w
  split at w
  · rename_i r z
    have hl : i < η.length := by
      by_cases hl : i < η.length
      · exact hl
      · rw [gt_out η i (by omega)] at z; cases z
    obtain ⟨d, o, e, _, hB, _⟩ := R.ow i r z
    have go : ∀ {P0 : Nv → Prop} {P : L2.St → Hp → Prop}, On X.K B F0 F η σ P0 P → On X.K B F0 F (η.set i (.lk r)) σ (fun η' => P0 (η'.set i (.ow r))) P := fun {P0 P} k η' q F' σ' H' l lk R' => by
      obtain ⟨z1, z2⟩ := lk i r (gt_set_same _ _ _ hl)
      refine k _ q F' σ' H' l (fun j w zj => ?_) (R'.unlock z1 (z2.trans e) hB)
      have ne : i ≠ j := fun y => by subst y; rw [z] at zj; cases zj
      obtain ⟨y1, y2⟩ := lk j w (by rw [gt_set_ne _ _ _ _ ne]; exact zj)
      exact ⟨by rw [gt_set_ne _ _ _ _ ne]; exact y1, y2⟩
    exact ⟨B, F0, F, _, _, R.lock z, w, go k.nx, go k.bk, go k.ct, fun r fr q F' H' v l f => k.rt r fr q F' H' v l f⟩
  · exact ⟨B, F0, F, η, D0, R, w, k⟩
def wWhile (t : TWT) (tb : TWS) : TWS := fun D η => ∃ P : Nat → Nv → Prop, (∃ m, P m η) ∧ ∀ m η, P m η → t η fun c => if c = true then tb { nx := fun η' => ∃ m', m' < m ∧ P m' η', ct := fun η' => ∃ m', m' < m ∧ P m' η', bk := D.nx, rt := D.rt } η else D.nx η
theorem rs_while {c : Expr} {body : List Stmt} {tb : TWS} (hp : PassesOwn (model X.prog X.w) X.A X.env X.xe) (hc : RT X c ta) (hb : RSs X body tb) : RS X (.While c body [] pos) (wWhile ta tb) := PS.imp (ps_while hp hc hb) fun D σ H q => by
  obtain ⟨B, F0, F, η, D0, R, ⟨P, ⟨m0, p0⟩, turn⟩, k⟩ := q
  refine ⟨fun m σ' H' => ∃ F' η', Le F F' ∧ Lk η σ η' σ' ∧ Rel X.K B F0 F' η' σ' H' ∧ P m η', ⟨m0, F, η, Le.refl _, Lk.refl, R, p0⟩, ?_⟩
  rintro m σ' H' ⟨F', η', l, lk, R', p⟩
  refine ⟨B, F0, F', η', _, R', turn m η' p, fun c q F1 H1 l1 R1 => ?_⟩
  cases c with
  | true =>
    refine ⟨fun σ2 H2 => ∃ m', m' < m ∧ ∃ F2 η2, Le F F2 ∧ Lk η σ η2 σ2 ∧ Rel X.K B F0 F2 η2 σ2 H2 ∧ P m' η2, fun σ2 H2 z => z, B, F0, F1, η', _, R1, q, ?_⟩
    exact ⟨fun η4 ⟨m', hm, q4⟩ F4 σ4 H4 l4 lk4 R4 => ⟨m', hm, F4, η4, (l.trans l1).trans l4, lk.trans lk4, R4, q4⟩, fun η4 q4 F4 σ4 H4 l4 lk4 R4 => k.nx _ q4 F4 σ4 H4 ((l.trans l1).trans l4) (lk.trans lk4) R4,
      fun η4 ⟨m', hm, q4⟩ F4 σ4 H4 l4 lk4 R4 => ⟨m', hm, F4, η4, (l.trans l1).trans l4, lk.trans lk4, R4, q4⟩, fun r fr q4 F4 H4 v l4 f => k.rt r fr q4 F4 H4 v ((l.trans l1).trans l4) f⟩
  | false => exact k.nx _ q F1 σ' H1 (l.trans l1) lk R1
end
end VL
end

section
set_option Elab.async false
set_option linter.all false
set_option maxRecDepth 100000
/-! VL6: comprehensions, defs, the law. -/
namespace VL
open PySem PySem.Spec PyProof.Rows L2
section
variable {X : Cx} {K : PySem.W.Frag} {B : Hp} {F0 F F' G : Fz} {η η' : Nv} {σ σ' : L2.St} {H H' : Hp} {Q0 : W → Bool → Prop} {Q : VK} {e a b c tg it elt : Expr} {es ifs : List Expr} {pos : Pos} {wa wb wc we : TWE} {u : TWA} {ta tb : TWT} {x y : Str} {i j : Nat} {p : Pos} {st : Stmt} {sts : List Stmt} {w w' : TWS}

/-! ### comprehensions -/
def lks : Nv → Nv
  | [] => []
  | .ow r :: η => .lk r :: lks η
  | .no :: η => .no :: lks η
  | .fz r :: η => .fz r :: lks η
  | .lk r :: η => .lk r :: lks η
theorem gt_lks : ∀ (η : Nv) (i : Nat), gt (lks η) i = (match gt η i with | .ow r => .lk r | s => s)
  | [], _ => rfl
  | .ow _ :: _, 0 => rfl
  | .no :: _, 0 => rfl
  | .fz _ :: _, 0 => rfl
  | .lk _ :: _, 0 => rfl
  | .ow _ :: η, i + 1 => gt_lks η i
  | .no :: η, i + 1 => gt_lks η i
  | .fz _ :: η, i + 1 => gt_lks η i
  | .lk _ :: η, i + 1 => gt_lks η i
theorem lks_len : ∀ η : Nv, (lks η).length = η.length
  | [] => rfl
  | .ow _ :: η => congrArg (· + 1) (lks_len η)
  | .no :: η => congrArg (· + 1) (lks_len η)
  | .fz _ :: η => congrArg (· + 1) (lks_len η)
  | .lk _ :: η => congrArg (· + 1) (lks_len η)
def wipeN (η : Nv) : List Nat → Nv
  | [] => η
  | v :: vs => (wipeN η vs).set v .no
theorem hold_lks (h : hold (lks η) i) : hold η i := by
  obtain ⟨w, q⟩ := h
  rw [gt_lks] at q
  cases z : gt η i with
  | ow r => exact ⟨r, .inl z⟩
  | lk r => exact ⟨r, .inr z⟩
  | no => rw [z] at q; rcases q with q | q <;> cases q
  | fz r => rw [z] at q; rcases q with q | q <;> cases q
/-- the names within a block: all that is there stays -/
theorem Rel.within (R : Rel K B F0 F η σ H) : Rel K H F F (lks η) σ H where
  sub := R.sub
  le := Le.refl _
  kp := fun c o e _ => e
  nw := fun c f q => .inl ⟨f, q⟩
  fr := fun i w q => by
    rw [gt_lks] at q
    cases z : gt η i with
    | fz r => rw [z] at q; cases q; exact R.fr i _ z
    | _ => rw [z] at q; cases q
  ow := fun i w q => by
    rw [gt_lks] at q
    cases z : gt η i with
    | _ => rw [z] at q; cases q
  lk := fun i w q => by
    rw [gt_lks] at q
    cases z : gt η i with
    | ow r =>
      rw [z] at q; cases q
      obtain ⟨d, o, e, h1, _, h3, r0⟩ := R.ow i _ z
      exact ⟨d, o, e, h1, h3, r0⟩
    | lk r => rw [z] at q; cases q; exact R.lk i _ z
    | _ => rw [z] at q; cases q
  sep := fun i j d h1 h2 e1 e2 => R.sep i j d (hold_lks h1) (hold_lks h2) e1 e2
  len := by rw [lks_len]; exact R.len
theorem Rel.wipe : ∀ (vs : List Nat), Rel K B F0 F η σ H → Rel K B F0 F (wipeN η vs) (wipe σ vs) H
  | [], R => R
  | v :: vs, R => (Rel.wipe vs R).drop v none
theorem wipe_eq {vs : List Nat} (hl : σ'.length = σ.length) (h : ∀ i, i ∉ vs → σ'[i]? = σ[i]?) : wipe σ' vs = wipe σ vs := by
  have go : ∀ (s : L2.St) (us : List Nat) (i : Nat), i ∈ us → i < s.length → (wipe s us)[i]? = some none := by
    intro s us
    induction us with
    | nil => intro i h; cases h
    | cons v us ih =>
      intro i h hi
      unfold wipe
      by_cases hv : v = i
      · subst hv
        rw [List.getElem?_set_self (by rw [wipe_length]; exact hi)]
      · rw [List.getElem?_set_ne hv]
        exact ih i ((List.mem_cons.mp h).resolve_left (Ne.symm hv)) hi
  have out : ∀ (s : L2.St) (us : List Nat) (i : Nat), i ∉ us → (wipe s us)[i]? = s[i]? := by
    intro s us
    induction us with
    | nil => intro i _; rfl
    | cons v us ih =>
      intro i h
      unfold wipe
      rw [List.getElem?_set_ne (fun z => h (by rw [z]; exact List.mem_cons_self))]
      exact ih i (fun z => h (List.mem_cons_of_mem _ z))
  apply List.ext_getElem?
  intro i
  by_cases hi : i ∈ vs
  · by_cases hlt : i < σ.length
    · rw [go σ' vs i hi (by rw [hl]; exact hlt), go σ vs i hi hlt]
    · rw [List.getElem?_eq_none (by rw [wipe_length]; omega), List.getElem?_eq_none (by rw [wipe_length]; omega)]
  · rw [out σ' vs i hi, out σ vs i hi, h i hi]
def lcGo (f : W → (Option W → Prop) → Prop) : List W → List W → (List W → Prop) → Prop
  | [], acc, Q => Q acc
  | w :: ws, acc, Q => ∃ N : Option W → Prop, (∀ o, N o → match o with
    | some r => acc.length < sizeLine ∧ lcGo f ws (acc ++ [r]) Q
    | none => lcGo f ws acc Q) ∧ f w N
/-- each item gives what h says -/
theorem lcGo_map {f : W → (Option W → Prop) → Prop} {Q : List W → Prop} (h : W → Option W) : ∀ {ws acc : List W} (_ : ∀ w, w ∈ ws → f w fun o => o = h w) (_ : acc.length + ws.length ≤ sizeLine) (_ : Q (acc ++ ws.filterMap h)), lcGo f ws acc Q
  | [], acc, _, _, q => by simpa [lcGo] using q
  | w :: ws, acc, hf, hl, q => by
    refine ⟨fun o => o = h w, fun o e => ?_, hf w List.mem_cons_self⟩
    subst e
    rw [List.length_cons] at hl
    cases z : h w with
    | none =>
      rw [List.filterMap_cons_none z] at q
      exact lcGo_map h (fun w' hw => hf w' (List.mem_cons_of_mem _ hw)) (by omega) q
    | some r =>
      rw [List.filterMap_cons_some z] at q
      refine ⟨by omega, lcGo_map h (fun w' hw => hf w' (List.mem_cons_of_mem _ hw)) (by rw [List.length_append, List.length_singleton]; omega) ?_⟩
      rw [List.append_assoc]; exact q
def lcEl (g : TWG) (tt : TWT) (te : TWE) (η : Nv) (w : W) (Q : Option W → Prop) : Prop := g w η fun η2 => tt η2 fun c => if c = true then te η2 fun r _ => Q (some r) else Q none
def eLc (wi : TWI) (g : TWG) (tt : TWT) (te : TWE) (vs : List Nat) : TWE := fun η Q => wi (lks η) fun ws => lcGo (lcEl g tt te (wipeN (lks η) vs)) ws [] fun out => Q (.lst out) true
def bYes : TWT := fun _ Q => Q true
def RTs (X : Cx) (es : List Expr) (t : TWT) : Prop := PTs X es (tT X.K t)
theorem PTs.imp {t t' : TT} (h : PTs X ifs t) (k : ∀ σ H Q, t' σ H Q → t σ H Q) : PTs X ifs t' := ⟨fun pins s σ H Q I q => h.run pins s σ H Q I (k σ H Q q)⟩
theorem rts_nil : RTs X [] bYes := PTs.imp pts_nil fun σ H Q q => by
  obtain ⟨B, F0, F, η, Q0, R, w, k⟩ := q
  exact k _ w F H (Le.refl _) R
theorem rts_one (h : RT X c ta) : RTs X [c] ta := pts_one h
/-- what a block keeps: the list at D grows, all else stays -/
structure Blk (K : PySem.W.Frag) (F1 : Fz) (H1 : Hp) (D : Addr) (F' : Fz) (H' : Hp) (out : List W) : Prop where
  le : Le F1 F'
  sub : Sub F' H'
  fD : F' D = none
  hD : ∃ acc, H' D = some (.lst acc) ∧ Reps K F' out acc
  kp : ∀ c o, H1 c = some o → isTok (F1 c) = false → H' c = some o
  nw : ∀ c f, F' c = some f → (∃ g, F1 c = some g) ∨ H1 c = none
theorem Blk.post {F1 : Fz} {H1 : Hp} {D : Addr} {out : List W} (b : Blk K F1 H1 D F' H' out) : CPost F1 H1 F' H' := ⟨b.sub, b.kp, b.nw⟩
theorem blk_run {F1 : Fz} {H1 : Hp} {D : Addr} {g : TWG} {tt : TWT} {te : TWE} {vs vg : List Nat} {J : It} {ws : List W} {pl : Option Nat} {Q0 : W → Bool → Prop} {Q : VK} (R1 : Rel K B F0 F1 η σ H1) (hD : H1 D = none) (ok : ItOk K J ws pl F1 (lks η) σ) (hp : ∀ l, pl = some l → l ∉ vs) (hv : ∀ i, i ∈ vg → i ∈ vs)
    (q : lcGo (lcEl g tt te (wipeN (lks η) vs)) ws [] fun out => Q0 (.lst out) true) (k : Kon K B F0 F1 η σ Q0 Q) :
    ∃ W : Nat → Nat → Hp → Prop, (∃ m, W 0 m (upd H1 D (.lst []))) ∧ ∀ i m H, W i m H →
      (J.stop i H ∧ Q (.ref D) H) ∨ (J.go i H ∧ ∃ Nx : Hp → Prop, (∀ H', Nx H' → ∃ m', m' < m ∧ W (i + 1) m' H') ∧ ∀ x H', J.yld i H x H' → tG K vg g x (wipe σ vs) H' fun σ2 H2 => wipe σ2 vs = wipe σ vs ∧ tT K tt σ2 H2 fun b H3 =>
        if b = true then tE K te σ2 H3 fun y H4 => ∃ acc, H4 D = some (.lst acc) ∧ acc.length < sizeLine ∧ Nx (upd H4 D (.lst (acc ++ [y]))) else Nx H3) := by
  have wipe_out : ∀ (us : List Nat) (l : Nat), l ∉ us → gt (wipeN (lks η) us) l = gt (lks η) l ∧ (wipe σ us)[l]? = σ[l]? := by
    intro us
    induction us with
    | nil => intro l _; exact ⟨rfl, rfl⟩
    | cons v us ih =>
      intro l h
      have ne : v ≠ l := fun z => h (by rw [z]; exact List.mem_cons_self)
      obtain ⟨z1, z2⟩ := ih l (fun z => h (List.mem_cons_of_mem _ z))
      exact ⟨by unfold wipeN; rw [gt_set_ne _ _ _ _ ne]; exact z1, by unfold wipe; rw [List.getElem?_set_ne ne]; exact z2⟩
  have relAt : ∀ {F' : Fz} {H' : Hp} {out : List W}, Blk K F1 H1 D F' H' out → Rel K H' F' F' (wipeN (lks η) vs) (wipe σ vs) H' := fun {F' H' out} b => ((R1.call b.le b.post).within).wipe vs
  refine ⟨fun i m H => ∃ F' out, m = ws.length - i ∧ i ≤ ws.length ∧ Blk K F1 H1 D F' H out ∧ lcGo (lcEl g tt te (wipeN (lks η) vs)) (ws.drop i) out fun out => Q0 (.lst out) true, ⟨_, F1, [], rfl, Nat.zero_le _, ⟨Le.refl _, (R1.alloc hD).sub, R1.free hD, ⟨[], upd_same, reps_nil⟩, fun c o e _ => ?_, fun c f q => .inl ⟨f, q⟩⟩, q⟩, ?_⟩
  · rw [upd_ne (ne_of_none e hD)]; exact e
  rintro i m H' ⟨F', out, rfl, hi, b, q⟩
  have R' := relAt b
  obtain ⟨st, go⟩ := ok i H' F' F' _ _ H' b.le (fun l w e z => by
    obtain ⟨z1, z2⟩ := wipe_out vs l (hp l e)
    exact ⟨z1.trans z, z2⟩) R'
  by_cases h : i < ws.length
  · obtain ⟨hgo, hy⟩ := go ws[i] (List.getElem?_eq_getElem h)
    rw [List.drop_eq_getElem_cons h] at q
    refine .inr ⟨hgo, fun H2 => ∃ F2 out2, Blk K F1 H1 D F2 H2 out2 ∧ lcGo (lcEl g tt te (wipeN (lks η) vs)) (ws.drop (i + 1)) out2 fun out => Q0 (.lst out) true, fun H2 ⟨F2, out2, z⟩ => ⟨ws.length - (i + 1), by omega, F2, out2, rfl, h, z⟩, fun x H2 hx => ?_⟩
    obtain ⟨F2, l3, R2, c2, rep⟩ := hy x H2 hx
    obtain ⟨Nn, hNn, q⟩ := q
    -- what stays through the rest of the turn
    have more : ∀ {F4 : Fz} {H4 : Hp}, Le F2 F4 → CPost F2 H2 F4 H4 → Blk K F1 H1 D F4 H4 out := fun {F4 H4} l4 c4 => by
      have c5 := CPost.trans l3 c2 c4
      obtain ⟨acc, hA, rA⟩ := b.hD
      have c6 := CPost.trans b.le b.post c5
      refine ⟨b.le.trans (l3.trans l4), c5.sub, ?_, ⟨acc, c5.kp D _ hA (by rw [b.fD]; rfl), Reps.mono K (l3.trans l4) _ _ rA⟩, c6.kp, c6.nw⟩
      cases z : F4 D with
      | none => rfl
      | some f =>
        rcases c5.nw D f z with ⟨g, y⟩ | y
        · rw [b.fD] at y; cases y
        · rw [hA] at y; cases y
    have R2' : Rel K H2 F2 F2 (wipeN (lks η) vs) (wipe σ vs) H2 := relAt (more (Le.refl _) (.refl c2.sub))
    have post : ∀ {F4 : Fz} {H4 : Hp} {η4 : Nv} {σ4 : L2.St}, Rel K H2 F2 F4 η4 σ4 H4 → CPost F2 H2 F4 H4 := fun {F4 H4 η4 σ4} R => ⟨R.sub, R.kp, R.nw⟩
    refine ⟨H2, F2, F2, _, ws[i], _, R2', rep, q, fun η3 q3 σ3 lk3 s3 R3 => ⟨?_, H2, F2, F2, η3, _, R3, q3, fun c q4 F4 H4 l4 R4 => ?_⟩⟩
    · have e1 : wipe σ3 vs = wipe (wipe σ vs) vs := wipe_eq s3.1 fun l hl => s3.2 l fun z => hl (hv l z)
      have e2 : wipe (wipe σ vs) vs = wipe σ vs := wipe_eq (wipe_length _ _) fun l hl => (wipe_out vs l hl).2
      rw [e1, e2]
    · cases c with
      | true =>
        refine ⟨H2, F2, F4, η3, fun r _ => Nn (some r), R4, ?_, fun r bb q5 F5 H5 v l5 R5 hv5 => ?_⟩
        · rw [if_pos rfl] at q4
          exact q4
        · obtain ⟨hz, q5⟩ := hNn _ q5
          obtain ⟨G5, l6, R6, hr⟩ := R5.cool hv5
          have b5 := more ((l4.trans l5).trans l6) (post R6)
          obtain ⟨acc, hA, rA⟩ := b5.hD
          refine ⟨acc, hA, by rw [← rA.length]; exact hz, G5, out ++ [r], ⟨b5.le, b5.sub.keep fun c f e => ?_, b5.fD, ⟨acc ++ [v], upd_same, rA.append (reps_cons hr reps_nil)⟩, fun c o e t => ?_, b5.nw⟩, q5⟩
          · rw [upd_ne (fun z => by rw [z, b5.fD] at e; cases e)]
          · rw [upd_ne (ne_of_none e hD)]; exact b5.kp c o e t
      | false => exact ⟨F4, out, more l4 (post R4), hNn _ q4⟩
  · refine .inl ⟨st (by omega), ?_⟩
    rw [List.drop_eq_nil_of_le (by omega)] at q
    obtain ⟨acc, hA, rA⟩ := b.hD
    refine k _ true q F' H' _ b.le (R1.call b.le b.post) ⟨D, _, rfl, b.fD, R1.freeB hD, hA, ⟨acc, rfl, rA⟩, fun l hl => R1.holdNe hD hl⟩
theorem Rel.locked (R : Rel K B F0 F η σ H) : Rel K B F0 F (lks η) σ H := by
  have W := R.within
  refine ⟨R.sub, R.le, R.kp, R.nw, W.fr, fun i w q => ?_, W.lk, W.sep, W.len⟩
  rw [gt_lks] at q
  cases z : gt η i with
  | _ => rw [z] at q; cases q
theorem Rel.relock {η2 : Nv} (R : Rel K B F0 F η σ H) {F2 : Fz} {H2 : Hp} (l : Le F F2) (R2 : Rel K B F0 F2 (lks η) σ H2) (keep : ∀ i w, gt η i = .ow w → ∃ d, σ[i]? = some (some (.ref d)) ∧ B d = none) : Rel K B F0 F2 η σ H2 := by
  have up : ∀ {i : Nat}, hold η i → hold (lks η) i := fun {i} h => by
    obtain ⟨w, q | q⟩ := h
    · exact ⟨w, .inr (by rw [gt_lks, q])⟩
    · exact ⟨w, .inr (by rw [gt_lks, q])⟩
  refine ⟨R2.sub, R2.le, R2.kp, R2.nw, fun i w q => R2.fr i w (by rw [gt_lks, q]), fun i w q => ?_, fun i w q => R2.lk i w (by rw [gt_lks, q]), fun i j d h1 h2 e1 e2 => R2.sep i j d (up h1) (up h2) e1 e2, R.len⟩
  obtain ⟨d, o, e, h1, h3, r⟩ := R2.lk i w (by rw [gt_lks, q])
  obtain ⟨d', e', hB⟩ := keep i w q
  rw [e] at e'; cases e'
  exact ⟨d, o, e, h1, hB, h3, r⟩
theorem lc_read {wi : TWI} {g : TWG} {tt : TWT} {te : TWE} {pl : Option Nat} {vg vs : List Nat} (R : Rel K B F0 F η σ H) (w : eLc wi g tt te vs η Q0) (k : Kon K B F0 F η σ Q0 Q) (hp : ∀ l, pl = some l → l ∉ vs) (hv : ∀ i, i ∈ vg → i ∈ vs) :
    tLc (tI K pl wi) (tG K vg g) (tT K tt) (tE K te) vs σ H Q := by
  refine ⟨B, F0, F, lks η, _, R.locked, w, fun ws q F1 H1 J l1 R1 ok D hD => ?_⟩
  have R1' : Rel K B F0 F1 η σ H1 := R.relock (η2 := η) l1 R1 fun i w q => by
    obtain ⟨d, o, e, _, hB, _⟩ := R.ow i w q
    exact ⟨d, e, hB⟩
  exact blk_run R1' hD ok hp hv q (k.le l1)
theorem re_lc {scope : Scope} {own : List (Str × Nat)} {wi : TWI} {g : TWG} {tt : TWT} {te : TWE} {pl : Option Nat} {vg : List Nat} (hc : X.calm = true) (hN : X.N.Nodup) (hi : RI X tg it pl wi) (ok : BlkOk X.N X.env.scope scope own)
    (hp : ∀ l, pl = some l → l ∉ own.map (·.2)) (hv : ∀ i, i ∈ vg → i ∈ own.map (·.2))
    (hg : ∀ (s : Shared) (H : Hp) (C : Addr) (cl : List (Str × Addr)) (fp : List Addr), RG (X.blk s H scope (compEnvC scope cl C X.env) fp) tg vg g) (ht : ∀ (s : Shared) (H : Hp) (C : Addr) (cl : List (Str × Addr)) (fp : List Addr), RTs (X.blk s H scope (compEnvC scope cl C X.env) fp) ifs tt)
    (he : ∀ (s : Shared) (H : Hp) (C : Addr) (cl : List (Str × Addr)) (fp : List Addr), RE (X.blk s H scope (compEnvC scope cl C X.env) fp) elt te) (hs : ∀ x, foldedSetIterable it X.env x = pure x := by intro _; rfl) :
    RE X (.ListComp elt [⟨tg, it, ifs, 0⟩] scope pos) (eLc wi g tt te (own.map (·.2))) := by
  refine PE.imp (pe_lc (g := tG X.K vg g) (tt := tT X.K tt) (te := tE X.K te) hc hN hi ok hg ht he hs) fun σ H Q q => ?_
  obtain ⟨B, F0, F, η, Q0, R, w, k⟩ := q
  exact lc_read R w k hp hv
theorem rs_setLc {pe spos : Pos} {scope : Scope} {own : List (Str × Nat)} {wi : TWI} {g : TWG} {tt : TWT} {te : TWE} {pl : Option Nat} {vg : List Nat} (hc : X.calm = true) (hN : X.N.Nodup) (hy : X.N[i]? = some y) (hyl : X.env.scope.names.lookup y = some .local)
    (hsw : swapsWith (.ListComp elt [⟨tg, it, ifs, 0⟩] scope pos) (some (.Name y pe)) spos.line X.env = pure true) (hi : RI X tg it pl wi) (ok : BlkOk X.N X.env.scope scope own)
    (hp : ∀ l, pl = some l → l ∉ own.map (·.2)) (hv : ∀ i, i ∈ vg → i ∈ own.map (·.2))
    (hg : ∀ (s : Shared) (H : Hp) (C : Addr) (cl : List (Str × Addr)) (fp : List Addr), RG (X.blk s H scope (compEnvC scope cl C X.env) fp) tg vg g) (ht : ∀ (s : Shared) (H : Hp) (C : Addr) (cl : List (Str × Addr)) (fp : List Addr), RTs (X.blk s H scope (compEnvC scope cl C X.env) fp) ifs tt)
    (he : ∀ (s : Shared) (H : Hp) (C : Addr) (cl : List (Str × Addr)) (fp : List Addr), RE (X.blk s H scope (compEnvC scope cl C X.env) fp) elt te) (hs : ∀ x, foldedSetIterable it X.env x = pure x := by intro _; rfl) :
    RS X (.Assign [.Name y pe] (.ListComp elt [⟨tg, it, ifs, 0⟩] scope pos) spos) (wSet i (eLc wi g tt te (own.map (·.2)))) := by
  refine PS.imp (ps_setLc (g := tG X.K vg g) (tt := tT X.K tt) (te := tE X.K te) hc hN hy hyl hsw hi ok hg ht he hs) fun D σ H q => ?_
  obtain ⟨B, F0, F, η, D0, R, ⟨hl, w⟩, k⟩ := q
  exact lc_read R w (fun r fr q F' H' v l R' hv => k.nx _ q F' _ H' l (put_lk hl) (R'.put hv)) hp hv

/-! ### a def, the law -/
def nv0 (ws : List W) (n : Nat) : Nv := ws.map Sl.fz ++ List.replicate n .no
theorem gt_nv0 : ∀ (ws : List W) (n i : Nat) (s : Sl), gt (nv0 ws n) i = s → s = .no ∨ ∃ w, s = .fz w ∧ ws[i]? = some w
  | [], n, i, s, h => by
    left
    unfold nv0 at h
    rw [List.map_nil, List.nil_append] at h
    subst h
    induction n generalizing i with
    | zero => rfl
    | succ n ih =>
      cases i with
      | zero => rfl
      | succ i => exact ih i
  | w :: ws, n, 0, s, h => by
    right
    exact ⟨w, h.symm, rfl⟩
  | w :: ws, n, i + 1, s, h => by
    rcases gt_nv0 ws n i s h with z | ⟨v, e, z⟩
    · exact .inl z
    · exact .inr ⟨v, e, by simpa using z⟩
theorem rel_start {N : List Str} {ws : List W} {vs : List V} (s : Sub F H) (r : Reps K F ws vs) (hl : ws.length ≤ N.length) : Rel K H F F (nv0 ws (N.length - ws.length)) (start N vs) H where
  sub := s
  le := Le.refl _
  kp := fun _ _ e _ => e
  nw := fun c f q => .inl ⟨f, q⟩
  fr := fun i w q => by
    rcases gt_nv0 _ _ _ _ q with z | ⟨v, e, z⟩
    · cases z
    · cases e
      obtain ⟨v, e1, r1⟩ := r.get z
      refine ⟨v, ?_, r1⟩
      have hi : i < vs.length := (List.getElem?_eq_some_iff.mp e1).1
      unfold L2.start
      rw [List.getElem?_append_left (by simpa using hi), List.getElem?_map, e1]; rfl
  ow := fun i w q => by
    rcases gt_nv0 _ _ _ _ q with z | ⟨v, e, z⟩
    · cases z
    · cases e
  lk := fun i w q => by
    rcases gt_nv0 _ _ _ _ q with z | ⟨v, e, z⟩
    · cases z
    · cases e
  sep := fun i j d h _ _ _ => by
    obtain ⟨w, q | q⟩ := h
    · rcases gt_nv0 _ _ _ _ q with z | ⟨v, e, z⟩
      · cases z
      · cases e
    · rcases gt_nv0 _ _ _ _ q with z | ⟨v, e, z⟩
      · cases z
      · cases e
  len := by
    unfold nv0 L2.start
    rw [List.length_append, List.length_append, List.length_map, List.length_map, List.length_replicate, List.length_replicate, r.length]
end
section
variable {P : Program} {w : World} {K : PySem.W.Frag} {mg : Str → Option Value} {base : Heap}
theorem fn_ok {x qual : Str} {st : Stmt} {f : Addr} {fd : FuncData} {N ps : List Str} {k : Nat} {sp : SC} {wb : TWS} (F : Fun K x qual st f fd) (S : FnScope N ps (defScope st))
    (hbody : ∀ (cdv : Value) (A : Around) (outer : List Env) (s : Shared) (H : Hp) (Q : VK) (E : XK), Room k (A.deeper (envOfC qual (defScope st) s.heap.objs.size f cdv)) →
      RSs (cxOf L2.CX0 P w K mg base N qual (defScope st) f cdv A outer s H E).nox (defBody st) wb)
    (hw : ∀ (ws : List W) (Q : W → Bool → Prop), ws.length = ps.length → sp ws Q → wb { nx := fun _ => Q .non false, rt := Q } (nv0 ws (N.length - ws.length))) : FnOk P w K mg base L2.CX0 (k + 1) f fd ps (tSp K ps.length sp) := by
  have hpl : ps.length ≤ N.length := by have := congrArg List.length S.pre; rw [List.length_take] at this; omega
  refine F.ok S (fun vs H Q E h => ?_) (fun cdv A outer s H vs Q E hr h => ?_)
  · obtain ⟨F, ws, Q0, _, r, hl, _⟩ := h
    rw [← r.length]; exact hl
  · obtain ⟨F, ws, Q0, hs, r, hl, q, k⟩ := h
    refine ⟨_, hbody cdv A outer s H Q E hr, H, F, F, _, _, rel_start hs r (by omega), hw ws Q0 hl q, ?_, ?_, ?_, ?_⟩
    · intro η' q' F' σ' H' l lk R'
      exact k _ _ q' F' H' _ l ⟨R'.sub, R'.kp, R'.nw⟩ (show Rep K F' .non .non by unfold Rep; rfl)
    · intro η' q' F' σ' H' l lk R'
      exact q'.elim
    · intro η' q' F' σ' H' l lk R'
      exact q'.elim
    · intro r' fr q' F' H' v l f
      exact k _ _ q' F' H' _ l ⟨f.sub, f.kp, f.nw⟩ f.rv
/-- the law answers True -/
def spLaw : SC := fun ws Q => ws = [.scr] ∧ Q (.bl true) false
theorem law_end (H : Hp) (a : Addr) (ns : List Int) (hl : ns.length ≤ 63) (hO : Only H) (hS : SqL K H a (ns.map V.int)) : tSp K 1 spLaw [.ref a] H (fun v _ => v = .bl true) fun _ _ _ => False := by
  rcases hS with h | h
  · rcases h with h | ⟨o, h⟩
    · rcases hO a with z | ⟨_, _, z⟩ <;> rw [h] at z <;> cases z
    · refine ⟨fun c => if c = a then some (.fz (.frz o (.lst (ns.map V.int)))) else none, [.scr], fun r _ => r = .bl true, fun c f q => ?_, reps_cons ?_ reps_nil, rfl, ⟨rfl, rfl⟩, fun r fr q F' H' v l c h => ?_⟩
      · by_cases hc : c = a
        · subst hc
          simp only [if_true] at q
          cases q
          exact h
        · simp only [if_neg hc] at q; cases q
      · unfold Rep
        exact ⟨a, ns, rfl, hl, .inl ⟨o, if_pos rfl⟩⟩
      · subst q
        obtain ⟨rfl, rep⟩ := rv_scal (F := F') rfl h
        unfold Rep at rep; exact rep
  · refine ⟨fun _ => none, [.scr], fun r _ => r = .bl true, fun c f q => by (cases q), reps_cons ?_ reps_nil, rfl, ⟨rfl, rfl⟩, fun r fr q F' H' v l c h => ?_⟩
    · unfold Rep
      exact ⟨a, ns, rfl, hl, .inr (.inr h)⟩
    · subst q
      obtain ⟨rfl, rep⟩ := rv_scal (F := F') rfl h
      unfold Rep at rep; exact rep
end
end VL
end

section
set_option Elab.async false
set_option linter.all false
set_option maxRecDepth 100000
/-! VL7: the short forms that the printer writes. -/
namespace VL
open PySem PySem.Spec PyProof.Rows L2
section
variable {X : Cx} {K : PySem.W.Frag} {e a b c tg it elt : Expr} {es ifs : List Expr} {pos p : Pos} {wa wb wc we : TWE} {u : TWA} {ta tb : TWT} {x y : Str} {st : Stmt} {sts : List Stmt} {w w' : TWS}

theorem rV (i : Nat) (hN : X.N[i]? = some x := by rfl) (hv : Vis X.env.scope x := by first | exact .inl rfl | exact .inr (.inl rfl) | exact .inr (.inr rfl)) (hd : (x == ("__debug__" : Str)) = false := by decide) (hcd : (x == ("__classdict__" : Str)) = false := by decide) : RO X (.Name x pos) (oVar i) := ro_var hN hv hd hcd
theorem eV (i : Nat) (hN : X.N[i]? = some x := by rfl) (hv : Vis X.env.scope x := by first | exact .inl rfl | exact .inr (.inl rfl) | exact .inr (.inr rfl)) (hd : (x == ("__debug__" : Str)) = false := by decide) (hcd : (x == ("__classdict__" : Str)) = false := by decide) : RE X (.Name x pos) (eVar i) := re_var hN hv hd hcd
theorem iVr (i : Nat) (hN : X.N[i]? = some x := by rfl) (hv : Vis X.env.scope x := by first | exact .inl rfl | exact .inr (.inl rfl) | exact .inr (.inr rfl)) (hd : (x == ("__debug__" : Str)) = false := by decide) (hcd : (x == ("__classdict__" : Str)) = false := by decide) : RI X tg (.Name x pos) (some i) (iV i) := ri_var hN hv hd hcd
theorem sRetV (i : Nat) (hN : X.N[i]? = some x := by rfl) (hv : Vis X.env.scope x := by first | exact .inl rfl | exact .inr (.inl rfl) | exact .inr (.inr rfl)) (hd : (x == ("__debug__" : Str)) = false := by decide) (hcd : (x == ("__classdict__" : Str)) = false := by decide) : RS X (.Return (some (.Name x p)) pos) (wRetV i) := rs_retV hN hv hd hcd
theorem gV (i : Nat) (hN : X.N.Nodup) (hi : X.N[i]? = some x := by rfl) (hx : Loc X.env.scope x := by first | exact .inl rfl | exact .inr rfl) (hf : X.fn x = true ∨ X.env.scope.names.lookup x = some .local := by first | exact .inl rfl | exact .inr rfl) : RG X (.Name x pos) [i] (gN i) := rg_name hN hi hx hf

/-- stored for good, or as one's own -/
def putM (m : Bool) (η : Nv) (i : Nat) (r : W) (fr : Bool) : Nv := match m with
  | true => put η i r fr
  | false => η.set i (.fz r)
def wSetM (m : Bool) (i : Nat) (we : TWE) : TWS := fun D η => isLk (gt η i) = false ∧ we η fun r fr => D.nx (putM m η i r fr)
theorem sSet (m : Bool) (i : Nat) {pos' : Pos} (he : RE X e we) (hN : X.N.Nodup) (hi : X.N[i]? = some x := by rfl) (hx : Loc X.env.scope x := by first | exact .inl rfl | exact .inr rfl) (hs : swapsWith e (some (.Name x pos')) pos.line X.env = pure false := by rfl)
    (hf : X.fn x = true ∨ X.env.scope.names.lookup x = some .local := by first | exact .inl rfl | exact .inr rfl) : RS X (.Assign [.Name x pos'] e pos) (wSetM m i we) := PS.imp (ps_set hN hi hx he hs hf) fun D σ H q => by
  obtain ⟨B, F0, F, η, D0, R, ⟨hl, w⟩, k⟩ := q
  refine ⟨B, F0, F, η, _, R, w, fun r fr q F' H' v l R' hv => ?_⟩
  cases m with
  | true => exact k.nx _ q F' _ H' l (put_lk hl) (R'.put hv)
  | false =>
    obtain ⟨G, l2, R2, rep⟩ := R'.cool hv
    exact k.nx _ q G _ H' (l.trans l2) (lk_set hl) (R2.put (fr := false) rep)
theorem sSetLc (m : Bool) (i : Nat) {pe spos : Pos} {scope : Scope} (own : List (Str × Nat)) {wi : TWI} {g : TWG} {tt : TWT} {te : TWE} {pl : Option Nat} {vg : List Nat} (hN : X.N.Nodup) (hi : RI X tg it pl wi)
    (hg : ∀ (s : Shared) (H : Hp) (C : Addr) (cl : List (Str × Addr)) (fp : List Addr), RG (X.blk s H scope (compEnvC scope cl C X.env) fp) tg vg g) (ht : ∀ (s : Shared) (H : Hp) (C : Addr) (cl : List (Str × Addr)) (fp : List Addr), RTs (X.blk s H scope (compEnvC scope cl C X.env) fp) ifs tt)
    (he : ∀ (s : Shared) (H : Hp) (C : Addr) (cl : List (Str × Addr)) (fp : List Addr), RE (X.blk s H scope (compEnvC scope cl C X.env) fp) elt te)
    (ok : BlkOk X.N X.env.scope scope own) (hp : ∀ l, pl = some l → l ∉ own.map (·.2)) (hv : ∀ i, i ∈ vg → i ∈ own.map (·.2))
    (hsw : swapsWith (.ListComp elt [⟨tg, it, ifs, 0⟩] scope pos) (some (.Name y pe)) spos.line X.env = pure true)
    (hc : X.calm = true := by rfl) (hy : X.N[i]? = some y := by rfl) (hyl : X.env.scope.names.lookup y = some .local := by rfl)
    (hs : ∀ x, foldedSetIterable it X.env x = pure x := by intro _; rfl) :
    RS X (.Assign [.Name y pe] (.ListComp elt [⟨tg, it, ifs, 0⟩] scope pos) spos) (wSetM m i (eLc wi g tt te (own.map (·.2)))) := by
  refine PS.imp (ps_setLc (g := tG X.K vg g) (tt := tT X.K tt) (te := tE X.K te) hc hN hy hyl hsw hi ok hg ht he hs) fun D σ H q => ?_
  obtain ⟨B, F0, F, η, D0, R, ⟨hl, w⟩, k⟩ := q
  refine lc_read R w (fun r fr q F' H' v l R' hv => ?_) hp hv
  cases m with
  | true => exact k.nx _ q F' _ H' l (put_lk hl) (R'.put hv)
  | false =>
    obtain ⟨G, l2, R2, rep⟩ := R'.cool hv
    exact k.nx _ q G _ H' (l.trans l2) (lk_set hl) (R2.put (fr := false) rep)
theorem eLcr {scope : Scope} (own : List (Str × Nat)) {wi : TWI} {g : TWG} {tt : TWT} {te : TWE} {pl : Option Nat} {vg : List Nat} (hN : X.N.Nodup) (hi : RI X tg it pl wi)
    (hg : ∀ (s : Shared) (H : Hp) (C : Addr) (cl : List (Str × Addr)) (fp : List Addr), RG (X.blk s H scope (compEnvC scope cl C X.env) fp) tg vg g) (ht : ∀ (s : Shared) (H : Hp) (C : Addr) (cl : List (Str × Addr)) (fp : List Addr), RTs (X.blk s H scope (compEnvC scope cl C X.env) fp) ifs tt)
    (he : ∀ (s : Shared) (H : Hp) (C : Addr) (cl : List (Str × Addr)) (fp : List Addr), RE (X.blk s H scope (compEnvC scope cl C X.env) fp) elt te)
    (ok : BlkOk X.N X.env.scope scope own) (hp : ∀ l, pl = some l → l ∉ own.map (·.2)) (hv : ∀ i, i ∈ vg → i ∈ own.map (·.2))
    (hc : X.calm = true := by rfl) (hs : ∀ x, foldedSetIterable it X.env x = pure x := by intro _; rfl) :
    RE X (.ListComp elt [⟨tg, it, ifs, 0⟩] scope pos) (eLc wi g tt te (own.map (·.2))) := re_lc hc hN hi ok hp hv hg ht he hs
def wParM (m m' : Bool) (i j : Nat) (wa wb : TWE) : TWS := fun D η => isLk (gt η i) = false ∧ isLk (gt η j) = false ∧ wa η fun r fr => wb η fun r' fr' => D.nx (putM m' (putM m η i r fr) j r' fr')
theorem cool_e (m : Bool) (h : RE X a wa) : RE X a (fun η Q => wa η fun r fr => Q r (m && fr)) := PE.imp h fun σ H Q q => by
  obtain ⟨B, F0, F, η, Q0, R, w, k⟩ := q
  refine ⟨B, F0, F, η, _, R, w, fun r fr q F' H' v l R' hv => ?_⟩
  cases m with
  | true => exact k r fr q F' H' v l R' hv
  | false =>
    obtain ⟨G, l2, R2, rep⟩ := R'.cool hv
    exact k r false q G H' v (l.trans l2) R2 rep
theorem putM_eq (m : Bool) (η : Nv) (i : Nat) (r : W) (fr : Bool) : put η i r (m && fr) = putM m η i r fr := by
  cases m <;> rfl
theorem sPar (m m' : Bool) (i j : Nat) {px py pt : Pos} {kt k2 pt2} (ha : RE X a wa) (hb : RE X b wb) (hN : X.N.Nodup) (hij : i ≠ j) (hw : swappedStores [.Tuple [.Name x px, .Name y py] kt pt] (.Tuple [a, b] k2 pt2) X.env = pure (some [x, y]))
    (hc : X.calm = true := by rfl) (hi : X.N[i]? = some x := by rfl) (hj : X.N[j]? = some y := by rfl)
    (hx : X.env.scope.names.lookup x = some .local := by rfl) (hy : X.env.scope.names.lookup y = some .local := by rfl)
    (hs : swapsWithSole [.Tuple [.Name x px, .Name y py] kt pt] (.Tuple [a, b] k2 pt2) pos.line X.env = pure false := by rfl)
    (s1 : starEach [a, b] X.env = (false, eval a X.env) :: starEach [b] X.env := by rfl) (s2 : starEach [b] X.env = (false, eval b X.env) :: starEach [] X.env := by rfl) :
    RS X (.Assign [.Tuple [.Name x px, .Name y py] kt pt] (.Tuple [a, b] k2 pt2) pos) (wParM m m' i j wa wb) := by
  have z := rs_par hc hN hi hj hij hx hy (cool_e m ha) (cool_e m' hb) hw hs s1 s2
  unfold wPar at z
  simp only [putM_eq] at z
  exact z

/-- a def of the text, as it stands -/
structure DefAt (K : PySem.W.Frag) (mg : Str → Option Value) (x : Str) (st : Stmt) (ps : List Str) : Prop where
  ex : ∃ f fd, Fun K x x st f fd ∧ mg x = some (.ref f) ∧ Binds K fd ps []
/-- a def with its promise -/
structure Cal (P : Program) (w : World) (K : PySem.W.Frag) (mg : Str → Option Value) (base : Heap) (k : Nat) (x : Str) (ps : List Str) (sp : SC) : Prop where
  ex : ∃ f fd, FnOk P w K mg base L2.CX0 k f fd ps (tSp K ps.length sp) ∧ mg x = some (.ref f) ∧ PySem.W.keepIn K (.ref f) = true ∧ Binds K fd ps []
theorem eF {P : Program} {w : World} {K : PySem.W.Frag} {mg : Str → Option Value} {base : Heap} {A : Around} {k k' : Nat} {ps : List Str} {sp : SC} (h : Cal P w K mg base k x ps sp) (hr : Room k' A) (ha : RA X (e :: es) u) (e1 : X.prog = P := by rfl) (e2 : X.w = w := by rfl) (e3 : X.K = K := by rfl) (e4 : X.mg = mg := by rfl) (e5 : X.base = base := by rfl) (e6 : X.A = A := by rfl)
    (hk : k ≤ k' := by decide) (hg : Gl X x := by rfl) (hdb : (x == ("__debug__" : Str)) = false := by decide)
    (he : starEach (e :: es) X.env = (false, eval e X.env) :: starEach es X.env := by rfl) (hpl : (backTo pos (starEach es X.env)).any (·.1) = false := by rfl) :
    RE X (.Call (.Name x p) (e :: es) [] pos) (eFn ps.length sp u) := by
  subst e1 e2 e3 e4 e5 e6
  obtain ⟨f, fd, F, hm, hkp, hb⟩ := h.ex
  exact re_fn F (hr.mono hk) hg hm hkp hb ha hdb he hpl
theorem cal_mk {P : Program} {w : World} {mg : Str → Option Value} {base : Heap} {x : Str} {st : Stmt} {N ps : List Str} {k : Nat} {sp : SC} {wb : TWS} (D : DefAt K mg x st ps) (S : FnScope N ps (defScope st))
    (hbody : ∀ (f : Addr) (cdv : Value) (A : Around) (outer : List Env) (s : Shared) (H : Hp) (E : XK), Room k (A.deeper (envOfC x (defScope st) s.heap.objs.size f cdv)) →
      RSs (cxOf L2.CX0 P w K mg base N x (defScope st) f cdv A outer s H E).nox (defBody st) wb)
    (hw : ∀ (ws : List W) (Q : W → Bool → Prop), ws.length = ps.length → sp ws Q → wb { nx := fun _ => Q .non false, rt := Q } (nv0 ws (N.length - ws.length))) : Cal P w K mg base (k + 1) x ps sp := by
  obtain ⟨f, fd, F, hm, hb⟩ := D.ex
  exact ⟨f, fd, fn_ok F S (fun cdv A outer s H Q E hr => hbody f cdv A outer s H E hr) hw, hm, F.kp, hb⟩
/-- .. and a def that is proved by hand -/
theorem cal_of {P : Program} {w : World} {mg : Str → Option Value} {base : Heap} {x : Str} {st : Stmt} {ps : List Str} {k : Nat} {sp : SC} (D : DefAt K mg x st ps)
    (h : ∀ f fd, Fun K x x st f fd → FnOk P w K mg base L2.CX0 k f fd ps (tSp K ps.length sp)) : Cal P w K mg base k x ps sp := by
  obtain ⟨f, fd, F, hm, hb⟩ := D.ex
  exact ⟨f, fd, h f fd F, hm, F.kp, hb⟩
theorem def_mk {mg : Str → Option Value} {h : Heap} {x : Str} {st : Stmt} {f : Addr} {ps : List Str} {od an : Option Addr} {sl : Array (Option Value)} {oc kV dc pm cd ct : Value} (X : K.In h) (G : h.Ns mainGlobals mg)
    (a : PySem.W.nsIn K mainGlobals x = some (some (.ref f))) (l : K.lookup f = some ⟨oc, od, .func (PySem.W.fnOf x x (defArgs st) (defBody st) (defScope st) .none kV dc pm an cd ct), sl⟩) (c : PySem.W.codeIn K cd x = true) (k : PySem.W.keepIn K (.ref f) = true)
    (hb : Binds K (PySem.W.fnOf x x (defArgs st) (defBody st) (defScope st) .none kV dc pm an cd ct) ps []) : DefAt K mg x st ps :=
  ⟨f, _, fun_mk l c k, PySem.W.mg_of X G a, hb⟩
end

/-! ### the drawn numbers: the state is a thing of its own -/
section
variable {K : PySem.W.Frag} {F : Fz} {H H' : Hp} {a b : Addr}
/-- the state at a (its cells at b) has turned -/
theorem tok_post (hs : Sub F H) (ha : F a = some (.tk b)) (k : ∀ c o, H c = some o → c ≠ a → c ≠ b → H' c = some o) (hb : FOk F H' a (.tk b)) : CPost F H F H' := by
  have hb0 : F b = some (.tkin a) := hb.1
  have ne : ∀ {c : Addr} {f : FO}, F c = some f → isTok (some f) = false → c ≠ a ∧ c ≠ b := fun {c f} e t => ⟨fun z => (by rw [z, ha] at e; cases e; cases t), fun z => (by rw [z, hb0] at e; cases e; cases t)⟩
  refine ⟨fun c f e => ?_, fun c o e t => ?_, fun c f q => .inl ⟨f, q⟩⟩
  · have z := hs c f e
    cases f with
    | fz o =>
      have n := ne e rfl
      exact k c o z n.1 n.2
    | tk d =>
      by_cases hc : c = a
      · subst hc
        rw [ha] at e
        cases e
        exact hb
      · obtain ⟨z1, s, cells, z2, z3, z4⟩ := z
        have n1 : c ≠ b := fun y => by rw [y, hb0] at e; cases e
        have n2 : d ≠ a := fun y => by rw [y, ha] at z1; cases z1
        have n3 : d ≠ b := fun y => by rw [y, hb0] at z1; cases z1; exact hc rfl
        exact ⟨z1, s, cells, k c _ z2 hc n1, k d _ z3 n2 n3, z4⟩
    | tkin d => exact z
    | tk1 =>
      obtain ⟨x, y, z1, z2⟩ := z
      have n1 : c ≠ a := fun y => by rw [y, ha] at e; cases e
      have n2 : c ≠ b := fun y => by rw [y, hb0] at e; cases e
      exact ⟨x, y, k c _ z1 n1 n2, z2⟩
  · exact k c o e (fun z => by rw [z, ha] at t; cases t) (fun z => by rw [z, hb0] at t; cases t)
theorem tok1_post (hs : Sub F H) (ha : F a = some .tk1) (k : ∀ c o, H c = some o → c ≠ a → H' c = some o) (hb : FOk F H' a .tk1) : CPost F H F H' := by
  refine ⟨fun c f e => ?_, fun c o e t => ?_, fun c f q => .inl ⟨f, q⟩⟩
  · have z := hs c f e
    have ne : f ≠ .tk1 → c ≠ a := fun n y => by rw [y, ha] at e; cases e; exact n rfl
    cases f with
    | fz o => exact k c o z (ne (by intro y; cases y))
    | tk d =>
      obtain ⟨z1, s, cells, z2, z3, z4⟩ := z
      have n2 : d ≠ a := fun y => by rw [y, ha] at z1; cases z1
      exact ⟨z1, s, cells, k c _ z2 (ne (by intro y; cases y)), k d _ z3 n2, z4⟩
    | tkin d => exact z
    | tk1 =>
      by_cases hc : c = a
      · rw [hc]; exact hb
      · obtain ⟨x, y, z1, z2⟩ := z
        exact ⟨x, y, k c _ z1 hc, z2⟩
  · exact k c o e (fun z => by rw [z, ha] at t; cases t)
def spState : SC := fun ws Q => ws = [.scr] ∧ Q .tok false
def spDraw : SC := fun ws Q => ∃ m : Int, ws = [.tok, .int m] ∧ 0 < m ∧ m < 2 ^ 256 ∧ ∀ r : Int, 0 ≤ r → r < m → Q (.int r) false
end
end VL
end

section
set_option Elab.async false
set_option linter.all false
set_option maxRecDepth 100000
/-! VL8: isinstance, in a tuple, sorted of any length, range by steps, reversed, zip, chains, is True, three names, append, lists unpacked, list(range). -/
namespace VL
open PySem PySem.Spec PyProof.Rows L2
theorem _root_.L2.Room.u65 {k : Nat} {A : Around} (r : Room k A) : A.units + 65 < cLine := by have := r.un; omega
section
variable {X : Cx} {K : PySem.W.Frag} {B : Hp} {F0 F F' G : Fz} {η η' : Nv} {σ σ' : L2.St} {H H' : Hp} {Q0 : W → Bool → Prop} {Q : VK} {e a b c tg it : Expr} {es : List Expr} {pos p : Pos} {wa wb wc we : TWE} {u : TWA} {ta tb : TWT} {x y z : Str} {i j : Nat} {st : Stmt} {sts : List Stmt} {w w' : TWS}

/-! isinstance -/
inductive Ty where
  | intT | boolT | strT | listT | tupleT
def Ty.nm : Ty → String
  | .intT => "int"
  | .boolT => "bool"
  | .strT => "str"
  | .listT => "list"
  | .tupleT => "tuple"
inductive Tn where
  | int | bool | str | none | list | tuple
def Tn.nm : Tn → String
  | .int => "int"
  | .bool => "bool"
  | .str => "str"
  | .none => "NoneType"
  | .list => "list"
  | .tuple => "tuple"
def isTn : Tn → Ty → Bool
  | .int, .intT => true
  | .bool, .intT => true
  | .bool, .boolT => true
  | .str, .strT => true
  | .list, .listT => true
  | .tuple, .tupleT => true
  | _, _ => false
def tnW : W → Option Tn
  | .int _ => some .int
  | .bl _ => some .bool
  | .str _ => some .str
  | .non => some .none
  | .lst _ => some .list
  | .tup _ => some .tuple
  | _ => none
theorem isTn_ok (n : Tn) (t : Ty) : PySem.W.kitOne K (.type n.nm) (.type t.nm) = some (isTn n t) := by
  have h : kitB n.nm t.nm = some (isTn n t) := by cases n <;> cases t <;> decide +kernel
  exact kit_ty h
theorem Rel.ty (R : Rel K B F0 F η σ H) {w : W} {n : Tn} {c : Bool} {v : V} (h : VB K F η σ w c v) (e : tnW w = some n) : TyX K H v (.type n.nm) := by
  cases w with
  | int i => cases e; rw [R.int h]; exact .base (.int _)
  | bl i => cases e; rw [R.bl h]; exact .base (.bl _)
  | str i => cases e; rw [R.str h]; exact .base (.str _)
  | non => cases e; rw [R.non h]; exact .base .non
  | lst ws => cases e; obtain ⟨d, vs, e1, hH, _⟩ := R.lst h; rw [e1]; exact .base (.lst hH)
  | tup ws => cases e; obtain ⟨d, vs, e1, hH, _⟩ := R.tup h; rw [e1]; exact .base (.tup hH)
  | _ => cases e
def eIsi (t : Ty) (wa : TWE) : TWE := fun η Q => wa η fun r _ => match tnW r with
  | some n => Q (.bl (isTn n t)) false
  | none => False
theorem boot_ty (t : Ty) : bootBuiltins (Str.ofString t.nm) = some (.type t.nm) := by cases t <;> decide +kernel
theorem re_isi (t : Ty) {tn : Str} {p1 : Pos} (hg : Gl X "isinstance") (hm : X.mg "isinstance" = none) (hgt : Gl X tn) (hmt : X.mg tn = none) (ha : RO X a wa) (ht : tn = Str.ofString t.nm := by rfl) (hn : tn ≠ "__name__" := by decide) (hd : (tn == ("__debug__" : Str)) = false := by decide)
    (he : starEach [a, .Name tn p1] X.env = (false, eval a X.env) :: starEach [.Name tn p1] X.env := by rfl) (he2 : starEach [.Name tn p1] X.env = (false, eval (.Name tn p1) X.env) :: starEach [] X.env := by rfl) (hpl : (backTo pos (starEach [.Name tn p1] X.env)).any (·.1) = false := by rfl) :
    RE X (.Call (.Name "isinstance" p) [a, .Name tn p1] [] pos) (eIsi t wa) := by
  subst ht
  refine PE.imp (pe_callB call_isi hg hm (by decide +kernel) (pa_cons ha (pa_cons (pe_bltn (v := .ty t.nm) hgt hmt (boot_ty t) rfl hn hd) pa_nil he2) he) (by decide) (by decide) he hpl) fun σ H Q q => ?_
  obtain ⟨B, F0, F, η, Q0, R, w, k⟩ := q
  refine ⟨B, F0, F, η, _, R, w, fun r b q F1 H1 v l1 R1 hv => ?_⟩
  split at q
  · rename_i n e
    exact ⟨v, .ty t.nm, .type n.nm, .type t.nm, _, rfl, .ty _, R1.ty hv e, isTn_ok n t, (k.le l1).bl R1 q⟩
  · exact q.elim
def eIsi2 (t t' : Ty) (wa : TWE) : TWE := fun η Q => wa η fun r _ => match tnW r with
  | some n => Q (.bl (isTn n t || isTn n t')) false
  | none => False
theorem re_isi2 (t t' : Ty) {tn tn' : Str} {p1 p2 p3 : Pos} {k0 : Nat} (hg : Gl X "isinstance") (hm : X.mg "isinstance" = none) (hgt : Gl X tn) (hmt : X.mg tn = none) (hgt' : Gl X tn') (hmt' : X.mg tn' = none) (ha : RO X a wa) (ht : tn = Str.ofString t.nm := by rfl) (ht' : tn' = Str.ofString t'.nm := by rfl)
    (hn : tn ≠ "__name__" := by decide) (hd : (tn == ("__debug__" : Str)) = false := by decide) (hn' : tn' ≠ "__name__" := by decide) (hd' : (tn' == ("__debug__" : Str)) = false := by decide)
    (he : starEach [a, .Tuple [.Name tn p1, .Name tn' p2] k0 p3] X.env = (false, eval a X.env) :: starEach [.Tuple [.Name tn p1, .Name tn' p2] k0 p3] X.env := by rfl)
    (he2 : starEach [.Tuple [.Name tn p1, .Name tn' p2] k0 p3] X.env = (false, eval (.Tuple [.Name tn p1, .Name tn' p2] k0 p3) X.env) :: starEach [] X.env := by rfl)
    (he3 : starEach [.Name tn p1, .Name tn' p2] X.env = (false, eval (.Name tn p1) X.env) :: starEach [.Name tn' p2] X.env := by rfl) (he4 : starEach [.Name tn' p2] X.env = (false, eval (.Name tn' p2) X.env) :: starEach [] X.env := by rfl)
    (hpl : (backTo pos (starEach [.Tuple [.Name tn p1, .Name tn' p2] k0 p3] X.env)).any (·.1) = false := by rfl) :
    RE X (.Call (.Name "isinstance" p) [a, .Tuple [.Name tn p1, .Name tn' p2] k0 p3] [] pos) (eIsi2 t t' wa) := by
  subst ht
  subst ht'
  refine PE.imp (pe_callB call_isiT hg hm (by decide +kernel) (pa_cons ha (pa_cons (pe_tup (pa_cons (pe_bltn (v := .ty t.nm) hgt hmt (boot_ty t) rfl hn hd) (pa_cons (pe_bltn (v := .ty t'.nm) hgt' hmt' (boot_ty t') rfl hn' hd') pa_nil he4) he3)) pa_nil he2) he) (by decide) (by decide) he hpl) fun σ H Q q => ?_
  obtain ⟨B, F0, F, η, Q0, R, w, k⟩ := q
  refine ⟨B, F0, F, η, _, R, w, fun r b q F1 H1 v l1 R1 hv => ⟨by show 2 ≤ sizeLine; decide, fun T hT => ?_⟩⟩
  split at q
  · rename_i n e1
    have R2 := R1.alloc (p := T) (o := .tup [.ty t.nm, .ty t'.nm]) hT
    refine ⟨v, T, _, .type n.nm, _, isTn n t || isTn n t', rfl, upd_same, .cons (.ty _) (.cons (.ty _) .nil), R2.ty hv e1, ?_, (k.le l1).bl R2 q⟩
    refine kitAny_cons (isTn_ok n t) (fun h => ?_) (fun h => by rw [h]; rfl)
    refine kitAny_cons (isTn_ok n t') (fun h2 => ?_) (fun h2 => by rw [h2, Bool.or_true])
    rw [h, h2]
    exact kitAny_nil
  · exact q.elim

/-! in a tuple of plain values -/
def plain : W → Bool
  | .non => true
  | .bl _ => true
  | .int _ => true
  | .str _ => true
  | _ => false
theorem rep_plain {w : W} {v : V} (h : Rep K F w v) (p : plain w = true) : flatV v = true ∧ ∀ w' v', Rep K F w' v' → plain w' = true → eqV v v' = weq w w' := by
  cases w <;> first | (cases p; done) | skip
  all_goals
    unfold Rep at h
    subst h
    refine ⟨rfl, fun w' v' h' p' => ?_⟩
    cases w' <;> first | (cases p'; done) | skip
    all_goals
      unfold Rep at h'
      subst h'
      simp [weq, eqV]
theorem in_plain {x : W} {vx : V} (hx : Rep K F x vx) (px : plain x = true) : ∀ {ys : List W} {vs : List V}, Reps K F ys vs → ys.all plain = true → vs.all flatV = true ∧ inV vx vs = ys.any fun z => weq z x
  | [], _, r, _ => by unfold Reps at r; subst r; exact ⟨rfl, rfl⟩
  | y :: ys, _, r, p => by
    unfold Reps at r
    obtain ⟨v, t, e, h1, h2⟩ := r
    subst e
    rw [List.all_cons, Bool.and_eq_true] at p
    obtain ⟨q1, q2⟩ := in_plain hx px h2 p.2
    obtain ⟨f1, f2⟩ := rep_plain h1 p.1
    refine ⟨by rw [List.all_cons, f1, q1]; rfl, ?_⟩
    show (eqV v vx || inV vx t) = (weq y x || _)
    rw [f2 x vx hx px, q2]
def sInT : S2 := fun x y Q => match y with
  | .tup ys => plain x = true ∧ ys.all plain = true ∧ Q (.bl (ys.any fun z => weq z x)) false
  | .lst ys => plain x = true ∧ ys.all plain = true ∧ Q (.bl (ys.any fun z => weq z x)) false
  | _ => False
def sNotInT : S2 := fun x y Q => match y with
  | .tup ys => plain x = true ∧ ys.all plain = true ∧ Q (.bl (!ys.any fun z => weq z x)) false
  | .lst ys => plain x = true ∧ ys.all plain = true ∧ Q (.bl (!ys.any fun z => weq z x)) false
  | _ => False
theorem vb_plain {w : W} {c : Bool} {v : V} (R : Rel K B F0 F η σ H) (h : VB K F η σ w c v) (p : plain w = true) : Rep K F w v := by
  rcases R.look h with h | ⟨d, o, _, _, r⟩
  · exact h
  · cases w <;> first | (cases p; done) | exact r.elim
theorem ow_inT : OpW X (compareOp .In) sInT := by
  refine ⟨_, op_in_seq, fun B F0 F η σ H x y bx bY vx vy Q0 Q R hx hy q k => ?_⟩
  cases y with
  | tup ys =>
    obtain ⟨px, py, q⟩ := q
    obtain ⟨d, vs, e, hH, r⟩ := R.tup hy
    have hx' := vb_plain R hx px
    obtain ⟨q1, q2⟩ := in_plain hx' px r py
    refine ⟨d, vs, e, .inr (.of hH), (rep_plain hx' px).1, q1, ?_⟩
    rw [if_neg (by decide), q2]
    exact k.bl R q
  | lst ys =>
    obtain ⟨px, py, q⟩ := q
    obtain ⟨d, vs, e, hH, r⟩ := R.lst hy
    have hx' := vb_plain R hx px
    obtain ⟨q1, q2⟩ := in_plain hx' px r py
    refine ⟨d, vs, e, .inl (.of hH), (rep_plain hx' px).1, q1, ?_⟩
    rw [if_neg (by decide), q2]
    exact k.bl R q
  | _ => exact q.elim
theorem ow_notinT : OpW X (compareOp .NotIn) sNotInT := by
  refine ⟨_, op_notIn_seq, fun B F0 F η σ H x y bx bY vx vy Q0 Q R hx hy q k => ?_⟩
  cases y with
  | tup ys =>
    obtain ⟨px, py, q⟩ := q
    obtain ⟨d, vs, e, hH, r⟩ := R.tup hy
    have hx' := vb_plain R hx px
    obtain ⟨q1, q2⟩ := in_plain hx' px r py
    refine ⟨d, vs, e, .inr (.of hH), (rep_plain hx' px).1, q1, ?_⟩
    rw [if_pos rfl, q2]
    exact k.bl R q
  | lst ys =>
    obtain ⟨px, py, q⟩ := q
    obtain ⟨d, vs, e, hH, r⟩ := R.lst hy
    have hx' := vb_plain R hx px
    obtain ⟨q1, q2⟩ := in_plain hx' px r py
    refine ⟨d, vs, e, .inl (.of hH), (rep_plain hx' px).1, q1, ?_⟩
    rw [if_pos rfl, q2]
    exact k.bl R q
  | _ => exact q.elim

/-! sorted of ints, any number of them -/
def cSortedI : SC := fun ws Q => match ws with
  | [.lst xs] => ∃ ns, ints? xs = some ns ∧ ∀ ns' : List Int, ns'.Perm ns → ns'.Pairwise (· ≤ ·) → Q (.lst (ns'.map W.int)) true
  | _ => False
theorem cw_sortedI : CW X (.builtin "sorted") cSortedI := by
  refine ⟨_, cr_sortedI, fun B F0 F η σ H ws b vs Q0 Q R hv q k => ?_⟩
  unfold cSortedI at q
  split at q
  · obtain ⟨ns, e, q⟩ := q
    obtain ⟨v, e1, h⟩ := hv.one
    obtain ⟨d, e2, h2⟩ := R.ints e h
    exact ⟨d, ns, by rw [e1, e2], h2, fun m p h1 h2 hp => k.new R (q m h1 h2) ⟨_, rfl, of_ints m⟩ hp⟩
  · exact q.elim

/-! is, is not with True, False -/
def eIsB (c : Bool) (wa : TWE) : TWE := fun η Q => wa η fun r _ => match r with
  | .bl b => Q (.bl (b == c)) false
  | _ => False
def eIsNotB (c : Bool) (wa : TWE) : TWE := fun η Q => wa η fun r _ => match r with
  | .bl b => Q (.bl (b != c)) false
  | _ => False
def sIsB : S2 := fun x y Q => match x, y with
  | .bl a, .bl b => Q (.bl (decide (a = b))) false
  | _, _ => False
def sIsNotB : S2 := fun x y Q => match x, y with
  | .bl a, .bl b => Q (.bl (!decide (a = b))) false
  | _, _ => False
theorem ow_isB : OpW X (compareOp .Is) sIsB := by
  refine ⟨_, op_isBl, fun B F0 F η σ H x y bx bY vx vy Q0 Q R hx hy q k => ?_⟩
  cases x <;> cases y <;> first | exact ⟨_, _, R.bl hx, R.bl hy, k.bl R q⟩ | exact q.elim
theorem ow_isNotB : OpW X (compareOp .IsNot) sIsNotB := by
  refine ⟨_, op_notBl, fun B F0 F η σ H x y bx bY vx vy Q0 Q R hx hy q k => ?_⟩
  cases x <;> cases y <;> first | exact ⟨_, _, R.bl hx, R.bl hy, k.bl R q⟩ | exact q.elim
/-- is None as a test -/
theorem tB_of {t : TE} {w : TWE} (h : ∀ σ H Q, tE K w σ H Q → t σ H Q) (σ : L2.St) (H : Hp) (Q : Bool → Hp → Prop) (q : tT K (bB w) σ H Q) : tB t σ H Q := by
  obtain ⟨B, F0, F, η, Q0, R, w, k⟩ := q
  refine h σ H _ ⟨B, F0, F, η, _, R, w, fun r fr q F1 H1 v l1 R1 hv => ?_⟩
  cases r with
  | bl b =>
    cases fr with
    | false => unfold Val Rep at hv; exact ⟨b, hv, k b q F1 H1 l1 R1⟩
    | true => obtain ⟨_, _, _, _, _, _, z, _⟩ := hv; exact z.elim
  | _ => exact q.elim
theorem rt_is {j pos'} (ha : RO X a wa) : RT X (.Compare a [.Is] [.Constant .none j pos'] pos) (bB (eIs wa)) := PT.imp (pt_cmp (pc_isN ha)) fun σ H Q q => tB_of (fun σ H Q q => by
  obtain ⟨B, F0, F, η, Q0, R, w, k⟩ := q
  refine ⟨B, F0, F, η, _, R, w, fun r b q F1 H1 v l1 R1 hv => ?_⟩
  show Q (V.bl (decide (v = .non))) H1
  rw [isNon_ok R1 hv]
  exact (k.le l1).bl R1 q) σ H Q q
theorem rt_isnot {j pos'} (ha : RO X a wa) : RT X (.Compare a [.IsNot] [.Constant .none j pos'] pos) (bB (eIsNot wa)) := PT.imp (pt_cmp (pc_notN ha)) fun σ H Q q => tB_of (fun σ H Q q => by
  obtain ⟨B, F0, F, η, Q0, R, w, k⟩ := q
  refine ⟨B, F0, F, η, _, R, w, fun r b q F1 H1 v l1 R1 hv => ?_⟩
  show Q (V.bl (!decide (v = .non))) H1
  rw [isNon_ok R1 hv]
  exact (k.le l1).bl R1 q) σ H Q q

/-! a < b <= c -/
theorem chain_run {s s' : S2} {r r' : R2} (hs : ∀ (B : Hp) (F0 F : Fz) (η : Nv) (σ : L2.St) (H : Hp) (x y : W) (bx bY : Bool) (vx vy : V) (Q0 : W → Bool → Prop) (Q : VK), Rel K B F0 F η σ H → VB K F η σ x bx vx → VB K F η σ y bY vy → s x y Q0 → Kon K B F0 F η σ Q0 Q → r vx vy H Q)
    (hs' : ∀ (B : Hp) (F0 F : Fz) (η : Nv) (σ : L2.St) (H : Hp) (x y : W) (bx bY : Bool) (vx vy : V) (Q0 : W → Bool → Prop) (Q : VK), Rel K B F0 F η σ H → VB K F η σ x bx vx → VB K F η σ y bY vy → s' x y Q0 → Kon K B F0 F η σ Q0 Q → r' vx vy H Q)
    (q : tE K (eChain s s' wa wb wc) σ H Q) : tChain r r' (tO K wa) (tO K wb) (tO K wc) σ H Q := by
  obtain ⟨B, F0, F, η, Q0, R, w, k⟩ := q
  refine ⟨B, F0, F, η, _, R, w, fun x bx q F1 H1 vx l1 R1 hx => ⟨B, F0, F1, η, _, R1, q, fun y bY q2 F2 H2 vy l2 R2 hy => ?_⟩⟩
  refine hs B F0 F2 η σ H2 x y bx bY vx vy _ _ R2 (hx.mono l2) hy q2 fun z fr q3 F3 H3 vz l3 R3 hz => ?_
  cases z with
  | bl kk =>
    have ez : vz = .bl kk := by
      cases fr with
      | false => unfold Val Rep at hz; exact hz
      | true => obtain ⟨_, _, _, _, _, _, z, _⟩ := hz; exact z.elim
    refine ⟨kk, ez, ?_⟩
    cases kk with
    | true => exact ⟨B, F0, F3, η, _, R3, q3, fun v4 b4 q4 F4 H4 vv l4 R4 h4 => hs' B F0 F4 η σ H4 y v4 bY b4 vy vv Q0 Q R4 ((hy.mono l3).mono l4) h4 q4 (k.le (((l1.trans l2).trans l3).trans l4))⟩
    | false => exact (k.le ((l1.trans l2).trans l3)).bl R3 q3
  | _ => exact q3.elim
theorem re_chain {op op' : CmpOp} {s s' : S2} (ho : OpW X (compareOp op) s) (ho' : OpW X (compareOp op') s') (ha : RO X a wa) (hb : RO X b wb) (hc : RO X c wc) (_ : behindInMarks op b = false) (_ : behindInMarks op' c = false)
    (hm : lastMarks [op, op'] [b, c] = false := by with_unfolding_all rfl) : RE X (.Compare a [op, op'] [b, c] pos) (eChain s s' wa wb wc) := by
  obtain ⟨r, o, hs⟩ := ho
  obtain ⟨r', o', hs'⟩ := ho'
  exact PE.imp (pe_chain o o' ha hb hc hm) fun σ H Q q => chain_run hs hs' q
theorem rt_chain {op op' : CmpOp} {s s' : S2} (ho : OpW X (compareOp op) s) (ho' : OpW X (compareOp op') s') (ha : RO X a wa) (hb : RO X b wb) (hc : RO X c wc) (_ : behindInMarks op b = false) (_ : behindInMarks op' c = false)
    (hm : lastMarks [op, op'] [b, c] = false := by with_unfolding_all rfl) : RT X (.Compare a [op, op'] [b, c] pos) (bB (eChain s s' wa wb wc)) := by
  obtain ⟨r, o, hs⟩ := ho
  obtain ⟨r', o', hs'⟩ := ho'
  exact PT.imp (pt_chain o o' ha hb hc hm) fun σ H Q q => tB_of (fun σ H Q q => chain_run hs hs' q) σ H Q q

/-! three names -/
def wPar3 (i j l : Nat) (wa wb wc : TWE) : TWS := fun D η => isLk (gt η i) = false ∧ isLk (gt η j) = false ∧ isLk (gt η l) = false ∧ wa η fun r _ => wb η fun r' _ => wc η fun r'' _ => D.nx (((η.set i (.fz r)).set j (.fz r')).set l (.fz r''))
theorem isLk_set {r : W} (h : isLk (gt η j) = false) : isLk (gt (η.set i (.fz r)) j) = false := by
  rw [gt_set]
  split
  · rfl
  · exact h
theorem cool_o (h : RE X a wa) : RE X a (fun η Q => wa η fun r _ => Q r false) := cool_e false h
theorem sPar3 (i j l : Nat) {px py pz pt : Pos} {kt k2 pt2} (ha : RE X a wa) (hb : RE X b wb) (hcc : RE X c wc) (hN : X.N.Nodup) (hij : i ≠ j) (hil : i ≠ l) (hjl : j ≠ l) (hw : swappedStores [.Tuple [.Name x px, .Name y py, .Name z pz] kt pt] (.Tuple [a, b, c] k2 pt2) X.env = pure (some [x, y, z]))
    (hc : X.calm = true := by rfl) (hi : X.N[i]? = some x := by rfl) (hj : X.N[j]? = some y := by rfl) (hl : X.N[l]? = some z := by rfl)
    (hx : X.env.scope.names.lookup x = some .local := by rfl) (hy : X.env.scope.names.lookup y = some .local := by rfl) (hz : X.env.scope.names.lookup z = some .local := by rfl)
    (hs : swapsWithSole [.Tuple [.Name x px, .Name y py, .Name z pz] kt pt] (.Tuple [a, b, c] k2 pt2) pos.line X.env = pure false := by rfl)
    (s1 : starEach [a, b, c] X.env = (false, eval a X.env) :: starEach [b, c] X.env := by rfl) (s2 : starEach [b, c] X.env = (false, eval b X.env) :: starEach [c] X.env := by rfl) (s3 : starEach [c] X.env = (false, eval c X.env) :: starEach [] X.env := by rfl) :
    RS X (.Assign [.Tuple [.Name x px, .Name y py, .Name z pz] kt pt] (.Tuple [a, b, c] k2 pt2) pos) (wPar3 i j l wa wb wc) := by
  refine PS.imp (ps_par3 hc hN hi hj hl hij hil hjl hx hy hz (pa_cons ha (pa_cons hb (pa_cons hcc pa_nil s3) s2) s1) hw hs) fun D σ H q => ?_
  obtain ⟨B, F0, F, η, D0, R, ⟨l1, l2, l3, w⟩, k⟩ := q
  refine ⟨B, F0, F, η, _, R, w, fun r fr q F1 H1 v le1 R1 hv => ?_⟩
  obtain ⟨G1, g1, R1, rep1⟩ := R1.cool hv
  refine ⟨B, F0, G1, η, _, R1, q, fun r' fr' q F2 H2 v' le2 R2 hv' => ?_⟩
  obtain ⟨G2, g2, R2, rep2⟩ := R2.cool hv'
  refine ⟨B, F0, G2, η, _, R2, q, fun r'' fr'' q F3 H3 v'' le3 R3 hv'' => ?_⟩
  obtain ⟨G3, g3, R3, rep3⟩ := R3.cool hv''
  refine ⟨v, v', v'', rfl, ?_⟩
  have m3 := le3.trans g3
  have m2 := (le2.trans g2).trans m3
  have m1 := (le1.trans g1).trans m2
  refine k.nx _ q G3 _ H3 m1 (((lk_set l1).trans (lk_set (isLk_set l2))).trans (lk_set (isLk_set (isLk_set l3)))) ?_
  exact ((R3.put (fr := false) (Rep.mono _ m2 _ _ rep1)).put (fr := false) (Rep.mono _ m3 _ _ rep2)).put (fr := false) rep3

/-! append -/
theorem rs_append (i : Nat) {pa p1 p2 : Pos} (he : RO X e we) (hN : X.N[i]? = some x := by rfl) (hv : Vis X.env.scope x := by first | exact .inl rfl | exact .inr (.inl rfl) | exact .inr (.inr rfl)) (hd : (x == ("__debug__" : Str)) = false := by decide) (hcd : (x == ("__classdict__" : Str)) = false := by decide)
    (hb : attributeBase (.Name x pa) "append" X.env (eval (.Name x pa) X.env) = eval (.Name x pa) X.env := by rfl) (hl : (p1.endLine == p2.line) = true := by rfl) (hs : starEach [e] X.env = (false, eval e X.env) :: starEach [] X.env := by rfl)
    (hsw : swapsWith (.Call (.Attribute (.Name x pa) "append" p1) [e] [] p2) none pos.line X.env = pure false := by rfl) (hM : ∀ (_ : PE X (.Name x pa) (tVar i)) (_ : PA X [e] (tCons (tO X.K we) tNil)), PE X (.Call (.Attribute (.Name x pa) "append" p1) [e] [] p2) (tBM X.K "list" rAppend (tVar i) (tCons (tO X.K we) tNil)) := by
      intro h1 h2; exact pe_bm PySem.F.plainAttrs_list PySem.F.slot_list_append PySem.F.type_list_append mt_append h1 h2) : RS X (.Expr (.Call (.Attribute (.Name x pa) "append" p1) [e] [] p2) pos) (wAppend i we) :=
  PS.imp (ps_expr (hM (pe_var hN hv hd hcd) (pa_cons he pa_nil hs)) hsw) fun D σ H q => append_run hN D σ H q

/-! what is walked, more -/
def rgcW (lo c : Int) (n : Nat) : List W := (List.range n).map fun k => .int (lo + (k : Nat) * c)
theorem itc_ok {lo c : Int} {n : Nat} {pl : Option Nat} : ItOk K (Itc lo c n) (rgcW lo c n) pl F η σ := by
  intro i B F0 F' η' σ' H' l q R
  refine ⟨fun hi => by show n ≤ i; simpa [rgcW] using hi, fun w hw => ?_⟩
  have hi : i < n := by
    have := (List.getElem?_eq_some_iff.mp hw).1
    simpa [rgcW] using this
  have ew : w = .int (lo + (i : Nat) * c) := by
    unfold rgcW at hw
    rw [List.getElem?_map, List.getElem?_range hi] at hw
    exact (Option.some.inj hw).symm
  refine ⟨hi, fun x H2 hy => ?_⟩
  obtain ⟨e1, e2⟩ := hy
  subst e1
  exact ⟨F', Le.refl _, R, .refl R.sub, by rw [ew]; unfold Rep; exact e2⟩
/-- range(a, b, -1) alone -/
def iRange3 (u : TWA) : TWI := fun η Q => u η fun ws _ => match ws with
  | [.int m, .int n, .int c] => (Rg m ∧ Rg n) ∧ c = -1 ∧ Q (rgcW m (-1) (m - n).toNat)
  | _ => False
theorem VBs.three {w w' w'' : W} {b : Bool} {vs : List V} (h : VBs K F η σ [w, w', w''] b vs) : ∃ v v' v'', vs = [v, v', v''] ∧ VB K F η σ w b v ∧ VB K F η σ w' b v' ∧ VB K F η σ w'' b v'' := by
  unfold VBs at h
  cases h with
  | cons h t =>
    obtain ⟨v, v', e, q, q'⟩ := VBs.two t
    exact ⟨_, v, v', by rw [e], h, q, q'⟩
theorem ri_range3 {p pos : Pos} (hg : Gl X "range") (hm : X.mg "range" = none) (ha : RA X [a, b, c] u)
    (hs : starEach [a, b, c] X.env = (false, eval a X.env) :: starEach [b, c] X.env := by rfl) (hs2 : (backTo pos (starEach [b, c] X.env)).any (·.1) = false := by rfl) : RI X tg (.Call (.Name "range" p) [a, b, c] [] pos) none (iRange3 u) :=
  PI.imp (pi_range3 hg hm ha hs hs2) fun σ H R q => by
    obtain ⟨B, F0, F, η, Q0, R0, w, k⟩ := q
    refine ⟨B, F0, F, η, _, R0, w, fun ws b q F1 H1 vs l1 R1 hv => ?_⟩
    split at q
    · rename_i m n c
      obtain ⟨⟨⟨h1, h2⟩, h3, h4⟩, hc, q⟩ := q
      subst hc
      obtain ⟨v, v', v'', e, h, h', h''⟩ := hv.three
      exact ⟨m, n, -1, _, by rw [e, R1.int h, R1.int h', R1.int h''], RgC.neg (by omega) (by omega) (by omega) (by omega), k _ q F1 H1 _ l1 R1 itc_ok⟩
    · exact q.elim
def iRv (we : TWE) : TWI := fun η Q => we η fun r _ => match r with
  | .lst ws => Q ws.reverse
  | .tup ws => Q ws.reverse
  | _ => False
theorem rev_at {α : Type} {xs : List α} {i : Nat} (h : i < xs.length) : xs.reverse[i]? = xs[xs.length - 1 - i]? := List.getElem?_reverse h
theorem ri_rev {p pos : Pos} (hg : Gl X "reversed") (hm : X.mg "reversed" = none) (he : RE X e we) (hs : starEach [e] X.env = (false, eval e X.env) :: starEach [] X.env := by rfl) : RI X tg (.Call (.Name "reversed" p) [e] [] pos) none (iRv we) :=
  PI.imp (RT.pi_revA hg hm he hs) fun σ H R q => by
    obtain ⟨B, F0, F, η, Q0, R0, w, k⟩ := q
    refine ⟨B, F0, F, η, _, R0, w, fun r fr q F1 H1 v l1 R1 hv => ?_⟩
    obtain ⟨G, l2, R2, rep⟩ := R1.cool hv
    split at q
    · rename_i ws
      unfold Rep at rep
      obtain ⟨d, vs, e, f, r⟩ := rep
      refine ⟨d, vs, e, .inl ⟨.of (R2.sub.fz f), k _ q G H1 _ (l1.trans l2) R2 ?_⟩⟩
      intro i B F0 F' η' σ' H' l _ R'
      have hH := R'.sub.fz (l _ _ f)
      have r' := Reps.mono _ l _ _ r
      have hl := r.length
      refine ⟨fun hi => by show vs.length ≤ i; rw [List.length_reverse] at hi; omega, fun w hw => ?_⟩
      have hi : i < ws.length := by
        have := (List.getElem?_eq_some_iff.mp hw).1
        rwa [List.length_reverse] at this
      rw [rev_at hi] at hw
      obtain ⟨v', hv', rv⟩ := r'.get hw
      rw [hl] at hv'
      refine ⟨⟨by omega, vs, v', .of hH, hv'⟩, fun x H2 hy => ?_⟩
      obtain ⟨e1, hx⟩ := hy
      subst e1
      have z := hx vs (.of hH)
      rw [hv'] at z; cases z
      exact ⟨F', Le.refl _, R', .refl R'.sub, rv⟩
    · rename_i ws
      unfold Rep at rep
      obtain ⟨d, vs, e, f, r⟩ := rep
      refine ⟨d, vs, e, .inr ⟨.of (R2.sub.fz f), k _ q G H1 _ (l1.trans l2) R2 ?_⟩⟩
      intro i B F0 F' η' σ' H' l _ R'
      have hH := R'.sub.fz (l _ _ f)
      have r' := Reps.mono _ l _ _ r
      have hl := r.length
      refine ⟨fun hi => by show vs.length ≤ i; rw [List.length_reverse] at hi; omega, fun w hw => ?_⟩
      have hi : i < ws.length := by
        have := (List.getElem?_eq_some_iff.mp hw).1
        rwa [List.length_reverse] at this
      rw [rev_at hi] at hw
      obtain ⟨v', hv', rv⟩ := r'.get hw
      rw [hl] at hv'
      refine ⟨⟨by omega, vs, v', .of hH, hv'⟩, fun x H2 hy => ?_⟩
      obtain ⟨e1, hx⟩ := hy
      subst e1
      have z := hx vs (.of hH)
      rw [hv'] at z; cases z
      exact ⟨F', Le.refl _, R', .refl R'.sub, rv⟩
    · exact q.elim

/-! a, b = a list -/
def gL (n : Nat) (gs : TWGs) : TWG := fun w η Q => match w with
  | .lst ws => ws.length = n ∧ gs ws η Q
  | _ => False
theorem rg_lst {vs : List Nat} {gs : TWGs} {k n : Nat} (hc : X.calm = true) (h : RGs X es vs gs) (hn : (assignEach es X.env).length = n := by rfl) (hst : (assignEach es X.env).findIdx? (·.1) = none := by rfl) : RG X (.Tuple es k pos) vs (gL n gs) :=
  PG.imp (pg_unl hc h hn hst) fun v σ H Q q => by
    obtain ⟨B, F0, F, η, w, Q0, R, rep, q, k⟩ := q
    unfold gL at q
    split at q
    · obtain ⟨hl, q⟩ := q
      unfold Rep at rep
      obtain ⟨d, us, e, f, r⟩ := rep
      exact ⟨d, us, e, .of (R.sub.fz f), by rw [← r.length]; exact hl, B, F0, F, η, _, _, R, r, q, k⟩
    · exact q.elim

/-! list(range(..)), tuple(range(..)) -/
theorem reps_rg (a b : Int) : Reps K F (rgW a (b - a).toNat) (rgV a b) := by
  have e : ∀ l : List Nat, Reps K F (l.map fun k => W.int (a + (k : Nat))) (l.map fun i => V.int (a + (i : Nat))) := by
    intro l
    induction l with
    | nil => exact reps_nil
    | cons x l ih => exact reps_cons (by unfold Rep; rfl) ih
  exact e _
def LRg (a b : Int) : Prop := 0 ≤ a ∧ a ≤ 16777216 ∧ -16777216 ≤ b ∧ b ≤ 16777216
theorem LRg.ok {a b : Int} (h : LRg a b) : RgOk a b := by obtain ⟨h1, h2, h3, h4⟩ := h; exact ⟨by omega, by omega, by omega, by omega, by omega⟩
def eLRg1 (wa : TWE) : TWE := fun η Q => wa η fun r _ => match r with
  | .int n => LRg 0 n ∧ Q (.lst (rgW 0 (n - 0).toNat)) true
  | _ => False
def eLRg2 (wa wb : TWE) : TWE := fun η Q => wa η fun r _ => wb η fun r' _ => match r, r' with
  | .int m, .int n => LRg m n ∧ Q (.lst (rgW m (n - m).toNat)) true
  | _, _ => False
theorem re_lrg1 {p1 p2 q1 q2 : Pos} (hg : Gl X "list") (hm : X.mg "list" = none) (hg2 : Gl X "range") (hm2 : X.mg "range" = none) (ha : RO X a wa) (hc : X.calm = true := by rfl) (na : starEach [a] X.env = (false, eval a X.env) :: starEach [] X.env := by rfl)
    (nb : starEach [.Call (.Name "range" p1) [a] [] p2] X.env = (false, eval (.Call (.Name "range" p1) [a] [] p2) X.env) :: starEach [] X.env := by rfl) : RE X (.Call (.Name "list" q1) [.Call (.Name "range" p1) [a] [] p2] [] q2) (eLRg1 wa) :=
  PE.imp (pe_listRg hc hg hm (prg_1 hg2 hm2 ha na) nb) fun σ H Q q => by
    obtain ⟨B, F0, F, η, Q0, R, w, k⟩ := q
    refine ⟨B, F0, F, η, _, R, w, fun r b q F1 H1 v l1 R1 hv => ?_⟩
    cases r with
    | int n =>
      obtain ⟨h, q⟩ := q
      exact ⟨n, R1.int hv, h.ok, fun p hp => (k.le l1).new R1 q ⟨_, rfl, reps_rg 0 n⟩ hp⟩
    | _ => exact q.elim
theorem re_lrg2 {p1 p2 q1 q2 : Pos} (hg : Gl X "list") (hm : X.mg "list" = none) (hg2 : Gl X "range") (hm2 : X.mg "range" = none) (ha : RO X a wa) (hb : RO X b wb) (hc : X.calm = true := by rfl) (na : starEach [a, b] X.env = (false, eval a X.env) :: starEach [b] X.env := by rfl) (nc : starEach [b] X.env = (false, eval b X.env) :: starEach [] X.env := by rfl) (nh : (backTo p2 (starEach [b] X.env)).any (·.1) = false := by rfl)
    (nb : starEach [.Call (.Name "range" p1) [a, b] [] p2] X.env = (false, eval (.Call (.Name "range" p1) [a, b] [] p2) X.env) :: starEach [] X.env := by rfl) : RE X (.Call (.Name "list" q1) [.Call (.Name "range" p1) [a, b] [] p2] [] q2) (eLRg2 wa wb) :=
  PE.imp (pe_listRg hc hg hm (prg_2 hg2 hm2 ha hb na nc nh) nb) fun σ H Q q => by
    obtain ⟨B, F0, F, η, Q0, R, w, k⟩ := q
    refine ⟨B, F0, F, η, _, R, w, fun r b q F1 H1 v l1 R1 hv => ⟨B, F0, F1, η, _, R1, q, fun r' b' q F2 H2 v' l2 R2 hv' => ?_⟩⟩
    cases r with
    | int m =>
      cases r' with
      | int n =>
        obtain ⟨h, q⟩ := q
        exact ⟨m, n, R2.int (hv.mono l2), R2.int hv', h.ok, fun p hp => (k.le (l1.trans l2)).new R2 q ⟨_, rfl, reps_rg m n⟩ hp⟩
      | _ => exact q.elim
    | _ => exact q.elim
end
end VL
end

section
set_option Elab.async false
set_option linter.all false
set_option exponentiation.threshold 20000
set_option maxRecDepth 100000
/-! VL9: lemmas for reading. -/
namespace VL
open PySem PySem.Spec PyProof.Rows L2
theorem fl_int (i : Int) : Fl (.int i) = True := eq_true ⟨by unfold flat; rfl, by unfold stOk; rfl⟩
theorem fl_bl (i : Bool) : Fl (.bl i) = True := eq_true ⟨by unfold flat; rfl, by unfold stOk; rfl⟩
theorem fl_non : Fl .non = True := eq_true ⟨by unfold flat; rfl, by unfold stOk; rfl⟩
theorem weq_int (i j : Int) : weq (.int i) (.int j) = (i == j) := by unfold weq; rfl
theorem weq_bl (i j : Bool) : weq (.bl i) (.bl j) = (i == j) := by unfold weq; rfl
theorem weq_non : weq .non .non = true := by unfold weq; rfl
/-- a while by a word and a number that falls -/
theorem while_intro {t : TWT} {tb : TWS} {dn : Nv → Prop} {dr : W → Bool → Prop} {db dc : Nv → Prop} {η : Nv} (P : Nat → Nv → Prop) (m : Nat) (h0 : P m η) (hs : ∀ m η, P m η → t η fun c => if c = true then tb { nx := fun η' => ∃ m', m' < m ∧ P m' η', ct := fun η' => ∃ m', m' < m ∧ P m' η', bk := dn, rt := dr } η else dn η) : wWhile t tb ⟨dn, dr, db, dc⟩ η := ⟨P, ⟨m, h0⟩, hs⟩
theorem if_tt {p q : Prop} {c : Bool} (h : c = true) (hp : p) : if c = true then p else q := by rw [if_pos h]; exact hp
theorem if_ff {p q : Prop} {c : Bool} (h : c = false) (hq : q) : if c = true then p else q := by rw [if_neg (by rw [h]; decide)]; exact hq
/-- numbers that a product may have -/
theorem sm_nat {n : Nat} (k : Nat) (h : n < 2 ^ k) (hk : k ≤ 400000) : SM (n : Int) := by
  unfold SM
  rw [Int.natAbs_natCast]
  by_cases z : k = 0
  · subst z
    have : n = 0 := by simpa using h
    subst this
    decide
  · have := PySem.Flt.log2_lt_of (k := k) (by omega) h
    omega
theorem sm_int {i : Int} (h1 : -(2 ^ 128) < i) (h2 : i < 2 ^ 128) : SM i := sm_of (by omega)
/-- a for over a mapped list: P speaks of the items seen so far -/
theorem forGo_pre {α : Type} {g : TWG} {tb : TWS} {dn : Nv → Prop} {dr : W → Bool → Prop} {db dc : Nv → Prop} {f : α → W} {η : Nv} {L : List α} (P : List α → Nv → Prop) (h0 : P [] η)
    (hs : ∀ (A B : List α) (x : α) (η : Nv), L = A ++ x :: B → P A η → g (f x) η fun η1 => tb { nx := P (A ++ [x]), ct := P (A ++ [x]), bk := dn, rt := dr } η1) (hd : ∀ η, P L η → dn η) : forGo g tb (L.map f) ⟨dn, dr, db, dc⟩ η := by
  have go : ∀ (B A : List α) (η : Nv), L = A ++ B → P A η → forGo g tb (B.map f) ⟨dn, dr, db, dc⟩ η := by
    intro B
    induction B with
    | nil => intro A η e p; rw [List.append_nil] at e; subst e; exact hd η p
    | cons x B ih =>
      intro A η e p
      exact ⟨P (A ++ [x]), fun η' p' => ih (A ++ [x]) η' (by rw [e, List.append_assoc]; rfl) p', hs A B x η e p⟩
  exact go L [] η rfl h0
/-- a comprehension over a mapped list -/
theorem lcGo_pre {α : Type} {h : W → (Option W → Prop) → Prop} {Q : List W → Prop} {f : α → W} {L : List α} (P : List α → List W → Prop) (h0 : P [] [])
    (hs : ∀ (A B : List α) (x : α) (acc : List W), L = A ++ x :: B → P A acc → h (f x) fun o => match o with | some r => acc.length < sizeLine ∧ P (A ++ [x]) (acc ++ [r]) | none => P (A ++ [x]) acc) (hd : ∀ acc, P L acc → Q acc) : lcGo h (L.map f) [] Q := by
  have go : ∀ (B A : List α) (acc : List W), L = A ++ B → P A acc → lcGo h (B.map f) acc Q := by
    intro B
    induction B with
    | nil => intro A acc e p; rw [List.append_nil] at e; subst e; exact hd acc p
    | cons x B ih =>
      intro A acc e p
      refine ⟨_, fun o q => ?_, hs A B x acc e p⟩
      cases o with
      | some r => exact ⟨q.1, ih (A ++ [x]) _ (by rw [e, List.append_assoc]; rfl) q.2⟩
      | none => exact ih (A ++ [x]) _ (by rw [e, List.append_assoc]; rfl) q
  exact go L [] [] rfl h0
/-- each item of a mapped list gives k of it -/
theorem lcGo_all {α : Type} {h : W → (Option W → Prop) → Prop} {Q : List W → Prop} {f k : α → W} {L : List α} (hl : L.length ≤ sizeLine)
    (hs : ∀ x, x ∈ L → h (f x) fun o => o = some (k x)) (hd : Q (L.map k)) : lcGo h (L.map f) [] Q := by
  have go : ∀ (B : List α) (acc : List W), acc.length + B.length ≤ sizeLine → (∀ x, x ∈ B → h (f x) fun o => o = some (k x)) → Q (acc ++ B.map k) → lcGo h (B.map f) acc Q := by
    intro B
    induction B with
    | nil => intro acc _ _ q; simpa [lcGo] using q
    | cons x B ih =>
      intro acc e p q
      refine ⟨_, fun o z => ?_, p x List.mem_cons_self⟩
      subst z
      rw [List.length_cons] at e
      exact ⟨by omega, ih _ (by rw [List.length_append, List.length_singleton]; omega) (fun y hy => p y (List.mem_cons_of_mem _ hy)) (by rw [List.append_assoc]; exact q)⟩
  exact go L [] (by simpa using hl) hs hd
/-- each item of a mapped list is kept or not -/
theorem lcGo_filter {α : Type} {h : W → (Option W → Prop) → Prop} {Q : List W → Prop} {f k : α → W} {t : α → Bool} {L : List α} (hl : L.length ≤ sizeLine)
    (hs : ∀ x, x ∈ L → h (f x) fun o => o = if t x = true then some (k x) else none) (hd : Q ((L.filter t).map k)) : lcGo h (L.map f) [] Q := by
  have go : ∀ (B : List α) (acc : List W), acc.length + B.length ≤ sizeLine → (∀ x, x ∈ B → h (f x) fun o => o = if t x = true then some (k x) else none) → Q (acc ++ (B.filter t).map k) → lcGo h (B.map f) acc Q := by
    intro B
    induction B with
    | nil => intro acc _ _ q; simpa [lcGo] using q
    | cons x B ih =>
      intro acc e p q
      refine ⟨_, fun o z => ?_, p x List.mem_cons_self⟩
      rw [List.length_cons] at e
      cases c : t x with
      | true =>
        rw [c, if_pos rfl] at z
        subst z
        rw [List.filter_cons_of_pos c] at q
        exact ⟨by omega, ih _ (by rw [List.length_append, List.length_singleton]; omega) (fun y hy => p y (List.mem_cons_of_mem _ hy)) (by rw [List.append_assoc]; exact q)⟩
      | false =>
        rw [c, if_neg (by decide)] at z
        subst z
        rw [List.filter_cons_of_neg (by rw [c]; decide)] at q
        exact ih _ (by omega) (fun y hy => p y (List.mem_cons_of_mem _ hy)) q
  exact go L [] (by simpa using hl) hs hd
theorem rgW_map (m : Int) : ∀ n, rgW m n = (List.range n).map fun i => .int (m + (i : Nat)) := fun _ => rfl
theorem lcGo_rg {h : W → (Option W → Prop) → Prop} {Q : List W → Prop} {k : Nat → W} {m : Int} {n : Nat} (hl : n ≤ sizeLine)
    (hs : ∀ i, i < n → h (.int (m + (i : Nat))) fun o => o = some (k i)) (hd : Q ((List.range n).map k)) : lcGo h (rgW m n) [] Q :=
  lcGo_all (L := List.range n) (by rw [List.length_range]; exact hl) (fun i hi => hs i (List.mem_range.mp hi)) hd
theorem forGo_rg {g : TWG} {tb : TWS} {dn : Nv → Prop} {dr : W → Bool → Prop} {db dc : Nv → Prop} {η : Nv} {m : Int} {n : Nat} (P : Nat → Nv → Prop) (h0 : P 0 η)
    (hs : ∀ i η, i < n → P i η → g (.int (m + (i : Nat))) η fun η1 => tb { nx := P (i + 1), ct := P (i + 1), bk := dn, rt := dr } η1) (hd : ∀ η, P n η → dn η) : forGo g tb (rgW m n) ⟨dn, dr, db, dc⟩ η := by
  rw [rgW_map]
  refine forGo_inv P h0 (fun i w η e p => ?_) (by rw [List.length_map, List.length_range]; exact hd)
  rw [List.getElem?_map] at e
  by_cases hi : i < n
  · rw [List.getElem?_range hi] at e
    cases e
    exact hs i η hi p
  · rw [List.getElem?_eq_none (by rw [List.length_range]; omega)] at e
    cases e
theorem pl_int (i : Int) : plain (.int i) = true := rfl
theorem pl_bl (i : Bool) : plain (.bl i) = true := rfl
theorem pl_non : plain .non = true := rfl
/-- any place of a list -/
theorem ix_any {ws : List W} {i : Int} {Q : W → Bool → Prop} (h0 : 0 ≤ i) (h1 : i < ws.length) (h : ∀ w ∈ ws, Q w false) : sIx (.lst ws) (.int i) Q := by
  unfold sIx
  have e : atI ws i = ws[i.toNat]? := by
    have n : ixN ws.length i = some i.toNat := by
      unfold ixN
      simp only [show ¬ i < 0 by omega, if_false, if_true, decide_true, show 0 ≤ i ∧ i < (ws.length : Int) from ⟨h0, h1⟩, Bool.and_true, h0, h1, and_self]
    unfold atI
    rw [n]; rfl
  simp only [e]
  have : i.toNat < ws.length := by omega
  rw [List.getElem?_eq_getElem this]
  exact h _ (List.getElem_mem this)
theorem sm_of2 {i : Int} (h1 : -(2 ^ 4000) < i) (h2 : i < 2 ^ 4000) : SM i := by
  unfold SM
  by_cases z : i.natAbs = 0
  · rw [z]; decide
  · have := PySem.Flt.log2_lt_of (k := 4000) (n := i.natAbs) (by decide) (by omega)
    omega
theorem ix_lst {ws : List W} {i : Int} {w : W} {Q : W → Bool → Prop} (h : atI ws i = some w) (q : Q w false) : sIx (.lst ws) (.int i) Q := by
  unfold sIx
  simp only [h]
  exact q
theorem ix_tup' {ws : List W} {i : Int} {w : W} {Q : W → Bool → Prop} (h : atI ws i = some w) (q : Q w false) : sIx (.tup ws) (.int i) Q := by
  unfold sIx
  simp only [h]
  exact q
theorem ix_last {ws : List W} {w : W} {Q : W → Bool → Prop} (q : Q w false) : sIx (.lst (ws ++ [w])) (.int (-1)) Q := ix_lst (atI_last _ _) q
theorem at_nat {ws : List W} {i : Nat} {w : W} (h : ws[i]? = some w) : atI ws (i : Nat) = some w := atI_nat h
theorem isLk_fz (w : W) : isLk (.fz w) = false := rfl
theorem isLk_ow (w : W) : isLk (.ow w) = false := rfl
theorem isLk_no : isLk .no = false := rfl
end VL
end

section
set_option Elab.async false
set_option linter.all false
set_option maxRecDepth 100000
/-! VL10: the same readings, made so that simp walks them from the head and does not look into what is to come. -/
namespace VL
open PySem PySem.Spec PyProof.Rows L2
/-- a mark that keeps simp out of its thing -/
inductive Dm {α : Type} (a : α) : Type where
  | mk : Dm a
/-- a call whose rest is not looked into by simp -/
def Call (sp : SC) (ws : List W) (Q : W → Bool → Prop) (_ : Dm Q) : Prop := sp ws Q
theorem eFn_call (n : Nat) (sp : SC) (u : TWA) (η : Nv) (Q : W → Bool → Prop) : eFn n sp u η Q = u η fun ws b => ws.length = n ∧ match b with
  | false => Call sp ws Q .mk
  | true => Call sp ws (fun r fr => scal r = true ∧ Q r fr) .mk := rfl
/-- a name's state is read first -/
def At (s : Sl) (K : Sl → Prop) (_ : Dm K) : Prop := K s
theorem At_fz (w : W) (K : Sl → Prop) (d : Dm K) : At (.fz w) K d = K (.fz w) := rfl
theorem At_ow (w : W) (K : Sl → Prop) (d : Dm K) : At (.ow w) K d = K (.ow w) := rfl
theorem At_lk (w : W) (K : Sl → Prop) (d : Dm K) : At (.lk w) K d = K (.lk w) := rfl
theorem At_no (K : Sl → Prop) (d : Dm K) : At .no K d = K .no := rfl
/-- the names are laid out first -/
def Go (η : Nv) (K : Nv → Prop) (_ : Dm K) : Prop := K η
theorem Go_cons (s : Sl) (η : Nv) (K : Nv → Prop) (d : Dm K) : Go (s :: η) K d = K (s :: η) := rfl
theorem Go_nil (K : Nv → Prop) (d : Dm K) : Go [] K d = K [] := rfl
/-- a subscript whose rest is not looked into -/
def SIx (x y : W) (Q : W → Bool → Prop) (_ : Dm Q) : Prop := sIx x y Q
theorem sIx_b (x y : W) (Q : W → Bool → Prop) : sIx x y Q = SIx x y Q .mk := rfl
theorem SIx_tup {ws : List W} {i : Nat} {w : W} {Q : W → Bool → Prop} (d : Dm Q) (h : ws[i]? = some w) : SIx (.tup ws) (.int (i : Nat)) Q d = Q w false := by
  unfold SIx sIx
  simp only [at_nat h]
theorem SIx_lst {ws : List W} {i : Nat} {w : W} {Q : W → Bool → Prop} (d : Dm Q) (h : ws[i]? = some w) : SIx (.lst ws) (.int (i : Nat)) Q d = Q w false := by
  unfold SIx sIx
  simp only [at_nat h]
theorem SIx_tup0 (a0 : W) (l : List W) (Q : W → Bool → Prop) (d : Dm Q) : SIx (.tup (a0 :: l)) (.int 0) Q d = Q a0 false := SIx_tup (i := 0) d rfl
theorem SIx_tup1 (a0 a1 : W) (l : List W) (Q : W → Bool → Prop) (d : Dm Q) : SIx (.tup (a0 :: a1 :: l)) (.int 1) Q d = Q a1 false := SIx_tup (i := 1) d rfl
theorem SIx_tup2 (a0 a1 a2 : W) (l : List W) (Q : W → Bool → Prop) (d : Dm Q) : SIx (.tup (a0 :: a1 :: a2 :: l)) (.int 2) Q d = Q a2 false := SIx_tup (i := 2) d rfl
theorem SIx_tup3 (a0 a1 a2 a3 : W) (l : List W) (Q : W → Bool → Prop) (d : Dm Q) : SIx (.tup (a0 :: a1 :: a2 :: a3 :: l)) (.int 3) Q d = Q a3 false := SIx_tup (i := 3) d rfl
theorem SIx_tup4 (a0 a1 a2 a3 a4 : W) (l : List W) (Q : W → Bool → Prop) (d : Dm Q) : SIx (.tup (a0 :: a1 :: a2 :: a3 :: a4 :: l)) (.int 4) Q d = Q a4 false := SIx_tup (i := 4) d rfl
theorem SIx_lst0 (a0 : W) (l : List W) (Q : W → Bool → Prop) (d : Dm Q) : SIx (.lst (a0 :: l)) (.int 0) Q d = Q a0 false := SIx_lst (i := 0) d rfl
theorem SIx_lst1 (a0 a1 : W) (l : List W) (Q : W → Bool → Prop) (d : Dm Q) : SIx (.lst (a0 :: a1 :: l)) (.int 1) Q d = Q a1 false := SIx_lst (i := 1) d rfl
theorem SIx_lst2 (a0 a1 a2 : W) (l : List W) (Q : W → Bool → Prop) (d : Dm Q) : SIx (.lst (a0 :: a1 :: a2 :: l)) (.int 2) Q d = Q a2 false := SIx_lst (i := 2) d rfl
theorem SIx_lst3 (a0 a1 a2 a3 : W) (l : List W) (Q : W → Bool → Prop) (d : Dm Q) : SIx (.lst (a0 :: a1 :: a2 :: a3 :: l)) (.int 3) Q d = Q a3 false := SIx_lst (i := 3) d rfl
theorem SIx_lst4 (a0 a1 a2 a3 a4 : W) (l : List W) (Q : W → Bool → Prop) (d : Dm Q) : SIx (.lst (a0 :: a1 :: a2 :: a3 :: a4 :: l)) (.int 4) Q d = Q a4 false := SIx_lst (i := 4) d rfl
/-- a fork -/
def Br (p : Prop) [Decidable p] (A B : Prop) (_ : Dm A) (_ : Dm B) : Prop := if p then A else B
theorem br_pos {p : Prop} [Decidable p] {A B : Prop} {a : Dm A} {b : Dm B} (h : p) (q : A) : Br p A B a b := by unfold Br; rw [if_pos h]; exact q
theorem br_neg {p : Prop} [Decidable p] {A B : Prop} {a : Dm A} {b : Dm B} (h : ¬ p) (q : B) : Br p A B a b := by unfold Br; rw [if_neg h]; exact q
theorem br_both {p : Prop} [Decidable p] {A B : Prop} {a : Dm A} {b : Dm B} (h : p → A) (q : ¬ p → B) : Br p A B a b := by
  unfold Br
  by_cases c : p
  · rw [if_pos c]; exact h c
  · rw [if_neg c]; exact q c
theorem Br_T {i : Decidable True} {A B : Prop} {a : Dm A} {b : Dm B} : @Br True i A B a b = A := if_pos trivial
theorem Br_F {i : Decidable False} {A B : Prop} {a : Dm A} {b : Dm B} : @Br False i A B a b = B := if_neg (fun h => h)
theorem oVar_b (i : Nat) (η : Nv) (Q : W → Bool → Prop) : oVar i η Q = At (gt η i) (fun s => match s with
  | .fz w => Q w false
  | .ow w => Q w true
  | .lk w => Q w true
  | .no => False) .mk := rfl
theorem eVar_b (i : Nat) (η : Nv) (Q : W → Bool → Prop) : eVar i η Q = At (gt η i) (fun s => match s with
  | .fz w => Q w false
  | _ => False) .mk := rfl
theorem wRetV_b (i : Nat) (dn : Nv → Prop) (dr : W → Bool → Prop) (db dc : Nv → Prop) (η : Nv) : wRetV i ⟨dn, dr, db, dc⟩ η = At (gt η i) (fun s => match s with
  | .ow w => dr w true
  | .fz w => dr w false
  | _ => False) .mk := rfl
theorem bAnd_b (t u : TWT) (η : Nv) (Q : Bool → Prop) : bAnd t u η Q = t η fun c => Br (c = true) (u η Q) (Q false) .mk .mk := rfl
theorem bOr_b (t u : TWT) (η : Nv) (Q : Bool → Prop) : bOr t u η Q = t η fun c => Br (c = true) (Q true) (u η Q) .mk .mk := rfl
theorem eAnd_b (wa wb : TWE) (η : Nv) (Q : W → Bool → Prop) : eAnd wa wb η Q = wa η fun x fr => truth x fun c => Br (c = true) (wb η Q) (Q x fr) .mk .mk := rfl
theorem eOr_b (wa wb : TWE) (η : Nv) (Q : W → Bool → Prop) : eOr wa wb η Q = wa η fun x fr => truth x fun c => Br (c = true) (Q x fr) (wb η Q) .mk .mk := rfl
theorem eIf_b (t : TWT) (wa wb : TWE) (η : Nv) (Q : W → Bool → Prop) : eIf t wa wb η Q = t η fun c => Br (c = true) (wa η Q) (wb η Q) .mk .mk := rfl
theorem wIf_b (t : TWT) (w w' : TWS) (dn : Nv → Prop) (dr : W → Bool → Prop) (db dc : Nv → Prop) (η : Nv) : wIf t w w' ⟨dn, dr, db, dc⟩ η = t η fun c => Br (c = true) (w ⟨dn, dr, db, dc⟩ η) (w' ⟨dn, dr, db, dc⟩ η) .mk .mk := rfl
theorem wSetM_b (m : Bool) (i : Nat) (we : TWE) (dn : Nv → Prop) (dr : W → Bool → Prop) (db dc : Nv → Prop) (η : Nv) : wSetM m i we ⟨dn, dr, db, dc⟩ η = (isLk (gt η i) = false ∧ we η fun r fr => Go (putM m η i r fr) dn .mk) := rfl
theorem wFz_b (i : Nat) (w : TWS) (dn : Nv → Prop) (dr : W → Bool → Prop) (db dc : Nv → Prop) (η : Nv) : wFz i w ⟨dn, dr, db, dc⟩ η = At (gt η i) (fun s => match s with
  | .ow r => Go (η.set i (.fz r)) (w ⟨dn, dr, db, dc⟩) .mk
  | _ => w ⟨dn, dr, db, dc⟩ η) .mk := rfl
theorem wStore_b (i : Nat) (we wk : TWE) (dn : Nv → Prop) (dr : W → Bool → Prop) (db dc : Nv → Prop) (η : Nv) : wStore i we wk ⟨dn, dr, db, dc⟩ η = At (gt η i) (fun s => match s with
  | .ow (.lst xs) => we η fun r b => b = false ∧ wk η fun k _ => match k with
    | .int j => match ixN xs.length j with
      | some n => Go (η.set i (.ow (.lst (xs.set n r)))) dn .mk
      | none => False
    | _ => False
  | _ => False) .mk := rfl
theorem wAug_b (i : Nat) (s : S2) (we : TWE) (dn : Nv → Prop) (dr : W → Bool → Prop) (db dc : Nv → Prop) (η : Nv) : wAug i s we ⟨dn, dr, db, dc⟩ η = At (gt η i) (fun z => match z with
  | .fz (.int n) => we η fun r _ => s (.int n) r fun z fr => Go (put η i z fr) dn .mk
  | _ => False) .mk := rfl
theorem wAppend_b (i : Nat) (we : TWE) (dn : Nv → Prop) (dr : W → Bool → Prop) (db dc : Nv → Prop) (η : Nv) : wAppend i we ⟨dn, dr, db, dc⟩ η = At (gt η i) (fun s => match s with
  | .ow (.lst xs) => we η fun r b => b = false ∧ xs.length < sizeLine ∧ Go (η.set i (.ow (.lst (xs ++ [r])))) dn .mk
  | _ => False) .mk := rfl
theorem wParM_b (m m' : Bool) (i j : Nat) (wa wb : TWE) (dn : Nv → Prop) (dr : W → Bool → Prop) (db dc : Nv → Prop) (η : Nv) : wParM m m' i j wa wb ⟨dn, dr, db, dc⟩ η = (isLk (gt η i) = false ∧ isLk (gt η j) = false ∧ wa η fun r fr => wb η fun r' fr' => Go (putM m' (putM m η i r fr) j r' fr') dn .mk) := rfl
theorem wPar3_b (i j l : Nat) (wa wb wc : TWE) (dn : Nv → Prop) (dr : W → Bool → Prop) (db dc : Nv → Prop) (η : Nv) : wPar3 i j l wa wb wc ⟨dn, dr, db, dc⟩ η = (isLk (gt η i) = false ∧ isLk (gt η j) = false ∧ isLk (gt η l) = false ∧ wa η fun r _ => wb η fun r' _ => wc η fun r'' _ => Go (((η.set i (.fz r)).set j (.fz r')).set l (.fz r'')) dn .mk) := rfl
theorem wLock_b (i : Nat) (w : TWS) (dn : Nv → Prop) (dr : W → Bool → Prop) (db dc : Nv → Prop) (η : Nv) : wLock i w ⟨dn, dr, db, dc⟩ η = At (gt η i) (fun s => match s with
  | .ow r => Go (η.set i (.lk r)) (w { nx := fun η' => Go (η'.set i (.ow r)) dn .mk, rt := dr, bk := fun η' => Go (η'.set i (.ow r)) db .mk, ct := fun η' => Go (η'.set i (.ow r)) dc .mk }) .mk
  | _ => w ⟨dn, dr, db, dc⟩ η) .mk := rfl
theorem gN_b (i : Nat) (w : W) (η : Nv) (Q : Nv → Prop) : gN i w η Q = (isLk (gt η i) = false ∧ Go (η.set i (.fz w)) Q .mk) := rfl
theorem iV_b (i : Nat) (η : Nv) (Q : List W → Prop) : iV i η Q = At (gt η i) (fun s => match s with
  | .fz (.lst ws) => Q ws
  | .fz (.tup ws) => Q ws
  | .lk (.lst ws) => Q ws
  | .lk (.tup ws) => Q ws
  | _ => False) .mk := rfl
theorem eLc_b (wi : TWI) (g : TWG) (tt : TWT) (te : TWE) (vs : List Nat) (η : Nv) (Q : W → Bool → Prop) : eLc wi g tt te vs η Q = Go (lks η) (fun η1 => wi η1 fun ws => lcGo (lcEl g tt te (wipeN η1 vs)) ws [] fun out => Q (.lst out) true) .mk := rfl
theorem lcEl_b (g : TWG) (tt : TWT) (te : TWE) (η : Nv) (w : W) (Q : Option W → Prop) : lcEl g tt te η w Q = Go η (fun η1 => g w η1 fun η2 => tt η2 fun c => Br (c = true) (te η2 fun r _ => Q (some r)) (Q none) .mk .mk) .mk := rfl
theorem wSeq_b (a b : TWS) (dn : Nv → Prop) (dr : W → Bool → Prop) (db dc : Nv → Prop) (η : Nv) : wSeq a b ⟨dn, dr, db, dc⟩ η = a ⟨b ⟨dn, dr, db, dc⟩, dr, db, dc⟩ η := rfl
theorem wRet_b (we : TWE) (dn : Nv → Prop) (dr : W → Bool → Prop) (db dc : Nv → Prop) (η : Nv) : wRet we ⟨dn, dr, db, dc⟩ η = we η dr := rfl
theorem wNext_b (dn : Nv → Prop) (dr : W → Bool → Prop) (db dc : Nv → Prop) (η : Nv) : wNext ⟨dn, dr, db, dc⟩ η = dn η := rfl
theorem wBreak_b (dn : Nv → Prop) (dr : W → Bool → Prop) (db dc : Nv → Prop) (η : Nv) : wBreak ⟨dn, dr, db, dc⟩ η = db η := rfl
theorem wCont_b (dn : Nv → Prop) (dr : W → Bool → Prop) (db dc : Nv → Prop) (η : Nv) : wCont ⟨dn, dr, db, dc⟩ η = dc η := rfl
theorem wAsg_b (we : TWE) (g : TWG) (dn : Nv → Prop) (dr : W → Bool → Prop) (db dc : Nv → Prop) (η : Nv) : wAsg we g ⟨dn, dr, db, dc⟩ η = we η fun r _ => g r η dn := rfl
theorem while_introB {t : TWT} {tb : TWS} {dn : Nv → Prop} {dr : W → Bool → Prop} {db dc : Nv → Prop} {η : Nv} (P : Nat → Nv → Prop) (m : Nat) (h0 : P m η) (hs : ∀ m η, P m η → t η fun c => Br (c = true) (tb { nx := fun η' => ∃ m', m' < m ∧ P m' η', ct := fun η' => ∃ m', m' < m ∧ P m' η', bk := dn, rt := dr } η) (dn η) .mk .mk) : wWhile t tb ⟨dn, dr, db, dc⟩ η := ⟨P, ⟨m, h0⟩, hs⟩
/-- what comes next gets a name -/
theorem seq_hide {a b : TWS} {dn : Nv → Prop} {dr : W → Bool → Prop} {db dc : Nv → Prop} {η : Nv} (h : ∀ R, R = b ⟨dn, dr, db, dc⟩ → a ⟨R, dr, db, dc⟩ η) : wSeq a b ⟨dn, dr, db, dc⟩ η := h _ rfl
theorem isLk_lk (w : W) : isLk (.lk w) = true := rfl
end VL
end

section
set_option Elab.async false
set_option linter.all false
set_option exponentiation.threshold 20000
set_option maxRecDepth 100000
/-! VL11: the script, the drawn numbers. -/
namespace VL
open PySem PySem.Spec PyProof.Rows L2
section
variable {X : Cx} {K : PySem.W.Frag} {B : Hp} {F0 F F' : Fz} {η η' : Nv} {σ : L2.St} {H H' : Hp} {Q0 : W → Bool → Prop} {Q : VK} {e a b tg it elt : Expr} {es : List Expr} {pos : Pos} {wa wb : TWE} {x : Str} {i : Nat} {p : Pos}
/-! ### the script as a thing that is walked -/
def iS (i : Nat) : TWI := fun η Q => gt η i = .fz .scr ∧ ∀ ns : List Int, ns.length ≤ 63 → Q (ns.map W.int)
theorem ScrV.sq {v : V} (h : ScrV K F v) : ∃ (a : Addr) (ns : List Int), v = .ref a ∧ ns.length ≤ 63 ∧ ∀ (F' : Fz) (H' : Hp), Le F F' → Sub F' H' → SqL K H' a (ns.map V.int) := by
  obtain ⟨a, ns, e, hl, h⟩ := h
  refine ⟨a, ns, e, hl, fun F' H' l s => ?_⟩
  rcases h with ⟨o, q⟩ | q
  · exact .inl (.inr ⟨o, s.fz (l _ _ q)⟩)
  · rcases q with (q | ⟨o, q⟩) | q
    · cases q
    · cases q
    · exact .inr q
theorem itl_sq {d : Addr} {ws : List W} {vs : List V} {pl : Option Nat} (h : ∀ (F' : Fz) (H' : Hp), Le F F' → Sub F' H' → SqL K H' d vs) (r : Reps K F ws vs) : ItOk K (Itl K d) ws pl F η σ := by
  intro i B F0 F' η' σ' H' l q R
  have hs := h F' H' l R.sub
  have r := Reps.mono K l _ _ r
  refine ⟨fun hi => ⟨vs, hs, by rw [← r.length]; exact hi⟩, fun w hw => ?_⟩
  obtain ⟨v, hv, rv⟩ := r.get hw
  refine ⟨⟨vs, v, hs, hv⟩, fun x H2 hy => ?_⟩
  obtain ⟨e, hx⟩ := hy
  subst e
  have z := hx vs hs
  rw [hv] at z
  cases z
  exact ⟨F', Le.refl _, R, .refl R.sub, rv⟩
theorem ri_scr (hN : X.N[i]? = some x) (hv : Vis X.env.scope x) (hd : (x == ("__debug__" : Str)) = false := by decide) (hcd : (x == ("__classdict__" : Str)) = false := by decide) : RI X tg (.Name x pos) none (iS i) := PI.imp (pi_seq (pe_var hN hv hd hcd)) fun σ H R q => by
  obtain ⟨B, F0, F, η, Q0, R0, ⟨z, w⟩, k⟩ := q
  obtain ⟨v, e1, rep⟩ := R0.fr i _ z
  unfold Rep at rep
  obtain ⟨d, ns, e, hl, hs⟩ := rep.sq
  exact ⟨v, e1, d, e, .inl ⟨_, hs F H (Le.refl _) R0.sub, k _ (w ns hl) F H _ (Le.refl _) R0 (itl_sq hs (of_ints ns))⟩⟩
/-! ### a state is made: [cells, seed + 1] -/
def eTokS (i : Nat) (wa : TWE) : TWE := fun η Q => wa η fun r fr => fr = true ∧ ∃ cells : List Int, r = .lst (cells.map W.int) ∧ cells.length ≤ 63 ∧ (∀ c ∈ cells, 0 ≤ c) ∧ ∃ s : Int, gt η i = .fz (.int s) ∧ 0 ≤ s ∧ s + 1 < 2 ^ 40 ∧ Q .tok false
theorem Rel.grow {F2 : Fz} (R : Rel K B F0 F η σ H) (l : Le F F2) (s : Sub F2 H) (n : ∀ c f, F2 c = some f → F c = some f ∨ (B c = none ∧ ∀ i, hold η i → σ[i]? ≠ some (some (.ref c)))) : Rel K B F0 F2 η σ H where
  sub := s
  le := R.le.trans l
  kp := R.kp
  nw := fun c f q => by
    rcases n c f q with z | z
    · exact R.nw c f z
    · exact .inr z.1
  fr := fun i w q => by
    obtain ⟨v, e1, r⟩ := R.fr i w q
    exact ⟨v, e1, Rep.mono K l _ _ r⟩
  ow := fun i w q => by
    obtain ⟨a, o', e1, e2, e3, e4, r⟩ := R.ow i w q
    refine ⟨a, o', e1, ?_, e3, e4, RepO.mono K l r⟩
    cases z : F2 a with
    | none => rfl
    | some f =>
      rcases n a f z with y | y
      · rw [e2] at y; cases y
      · exact absurd e1 (y.2 i ⟨w, .inl q⟩)
  lk := fun i w q => by
    obtain ⟨a, o', e1, e2, e4, r⟩ := R.lk i w q
    refine ⟨a, o', e1, ?_, e4, RepO.mono K l r⟩
    cases z : F2 a with
    | none => rfl
    | some f =>
      rcases n a f z with y | y
      · rw [e2] at y; cases y
      · exact absurd e1 (y.2 i ⟨w, .inr q⟩)
  sep := R.sep
  len := R.len
theorem Sub.addTok {d l : Addr} {s : Int} {cells : List Int} (S : Sub F H) (hd : F d = none) (hl : H l = none) (eH : H d = some (.lst (cells.map V.int))) (h0 : 0 ≤ s) (h1 : s < 2 ^ 40) (hc : cells.length ≤ 63) (hp : ∀ c ∈ cells, 0 ≤ c) :
    Le F (addF (addF F d (.tkin l)) l (.tk d)) ∧ Sub (addF (addF F d (.tkin l)) l (.tk d)) (upd H l (.lst [.ref d, .int s])) := by
  have ne : d ≠ l := ne_of_none eH hl
  have fl : F l = none := S.free hl
  have fl2 : (addF F d (.tkin l)) l = none := by rw [addF_ne ne.symm]; exact fl
  have le : Le F (addF (addF F d (.tkin l)) l (.tk d)) := (le_addF hd).trans (le_addF fl2)
  refine ⟨le, fun c f q => ?_⟩
  by_cases hcl : c = l
  · subst hcl
    rw [addF_same] at q
    cases q
    exact ⟨by rw [addF_ne ne, addF_same], s, cells, upd_same, by rw [upd_ne ne]; exact eH, h0, h1, hc, hp⟩
  · rw [addF_ne hcl] at q
    by_cases hcd : c = d
    · subst hcd
      rw [addF_same] at q
      cases q
      exact addF_same
    · rw [addF_ne hcd] at q
      have z := S c f q
      cases f with
      | fz o => show upd H l _ c = some o; rw [upd_ne hcl]; exact z
      | tk b =>
        obtain ⟨z1, s', cs, z2, z3, z4⟩ := z
        have nb : b ≠ l := ne_of_none z3 hl
        exact ⟨le _ _ z1, s', cs, by rw [upd_ne hcl]; exact z2, by rw [upd_ne nb]; exact z3, z4⟩
      | tkin b => exact le _ _ (show F b = some (.tk c) from z)
      | tk1 =>
        obtain ⟨k, s', z1, z2⟩ := z
        exact ⟨k, s', by rw [upd_ne hcl]; exact z1, z2⟩
theorem re_tokS {k : Nat} {p0 p1 p2 : Pos} (ha : RE X a wa) (hN : X.N[i]? = some x := by rfl) (hv : Vis X.env.scope x := by first | exact .inl rfl | exact .inr (.inl rfl) | exact .inr (.inr rfl)) (hd : (x == ("__debug__" : Str)) = false := by decide) (hcd : (x == ("__classdict__" : Str)) = false := by decide)
    (hs1 : starEach [a, .BinOp (.Name x p0) .Add (.Constant (.int 1) k p1) p2] X.env = (false, eval a X.env) :: starEach [.BinOp (.Name x p0) .Add (.Constant (.int 1) k p1) p2] X.env := by rfl) (hs2 : starEach [.BinOp (.Name x p0) .Add (.Constant (.int 1) k p1) p2] X.env = (false, eval (.BinOp (.Name x p0) .Add (.Constant (.int 1) k p1) p2) X.env) :: starEach [] X.env := by rfl) :
    RE X (.List [a, .BinOp (.Name x p0) .Add (.Constant (.int 1) k p1) p2] pos) (eTokS i wa) := by
  refine PE.imp (pe_lst (pa_cons ha (pa_cons (pe_op op_add (pe_var hN hv hd hcd) pe_int) pa_nil hs2) hs1)) fun σ H Q q => ?_
  obtain ⟨B, F0, F, η, Q0, R, w, k⟩ := q
  refine ⟨B, F0, F, η, _, R, w, fun r fr q F1 H1 v l1 R1 hv => ?_⟩
  obtain ⟨rfl, cells, rfl, hc, hp, s, hs, h0, h1, q⟩ := q
  obtain ⟨v', e1, r1⟩ := R1.fr i _ hs
  unfold Rep at r1
  subst r1
  obtain ⟨d, o, e2, hF, hB, hH, ⟨vs, e3, r3⟩, hn⟩ := hv
  subst e2 e3
  have e4 := reps_ints r3
  subst e4
  refine ⟨_, e1, s, 1, rfl, rfl, ?_⟩
  refine ⟨by rw [sizeLine_eq]; show 2 ≤ _; decide, fun l hl => ?_⟩
  obtain ⟨le2, sub2⟩ := Sub.addTok (s := s + 1) R1.sub hF hl hH (by omega) h1 hc hp
  have nl : ∀ c f, addF (addF F1 d (.tkin l)) l (.tk d) c = some f → F1 c = some f ∨ (B c = none ∧ ∀ i, hold η i → σ[i]? ≠ some (some (.ref c))) := fun c f z => by
    by_cases hcl : c = l
    · subst hcl; exact .inr ⟨R1.freeB hl, fun i y => R1.holdNe hl y⟩
    · rw [addF_ne hcl] at z
      by_cases hcd : c = d
      · subst hcd; exact .inr ⟨hB, hn⟩
      · rw [addF_ne hcd] at z; exact .inl z
  refine k _ _ q _ _ _ (l1.trans le2) ((R1.alloc hl).grow le2 sub2 nl) ?_
  show Rep X.K _ .tok (.ref l)
  unfold Rep
  exact ⟨l, d, rfl, addF_same⟩
theorem ixN_zero (n : Nat) : ixN (n + 1) 0 = some 0 := by
  unfold ixN
  simp only [show ¬ (0 : Int) < 0 by omega, if_false, Int.le_refl, true_and, show (0 : Int) < ((n + 1 : Nat) : Int) by omega, if_true, decide_true, Bool.and_true, and_self, Int.toNat_zero]
theorem iScr (i : Nat) (hN : X.N[i]? = some x := by rfl) (hv : Vis X.env.scope x := by first | exact .inl rfl | exact .inr (.inl rfl) | exact .inr (.inr rfl)) (hd : (x == ("__debug__" : Str)) = false := by decide) (hcd : (x == ("__classdict__" : Str)) = false := by decide) : RI X tg (.Name x pos) none (iS i) := ri_scr hN hv hd hcd
/-- a def of which nothing is promised -/
theorem cal_none {P : Program} {w : World} {mg : Str → Option Value} {base : Heap} {x : Str} {st : Stmt} {N ps : List Str} {k : Nat} (D : DefAt K mg x st ps) (S : FnScope N ps (defScope st)) : Cal P w K mg base (k + 1) x ps (fun _ _ => False) :=
  cal_of D fun f fd F => F.ok S (fun vs H Q E h => by obtain ⟨_, _, _, _, _, _, z, _⟩ := h; exact z.elim) (fun cdv A outer s H vs Q E hr h => by obtain ⟨_, _, _, _, _, _, z, _⟩ := h; exact z.elim)
/-! // by great numbers -/
def DivOkW (_ j : Int) : Prop := 0 < j ∧ j.natAbs.log2 < 9000
abbrev sDivW : S2 := sArith DivOkW fun i j => i / j
theorem ow_divW : OpW X (binaryOp .FloorDiv) sDivW := ow_arith op_fdivW fun i j h => h
theorem divW_of {i j : Int} (h : 0 < j) (k : j < 2 ^ 8000) : DivOkW i j := ⟨h, Nat.lt_trans (PySem.Flt.log2_lt_of (k := 8000) (by decide) (by omega)) (by decide)⟩
theorem sm_abs {i : Int} (k : Nat) (h : i.natAbs < 2 ^ k) (hk : k ≤ 400000) : SM i := by
  unfold SM
  by_cases z : k = 0
  · subst z
    have : i.natAbs = 0 := by simpa using h
    rw [this]; decide
  · have := PySem.Flt.log2_lt_of (k := k) (by omega) h
    omega
end
end VL
end

section
set_option Elab.async false
set_option linter.all false
set_option maxRecDepth 100000
/-! VL12: t[::-1] and t[a:b] of tuples and lists. -/
namespace VL
open PySem PySem.Spec PyProof.Rows L2
section
variable {X : Cx} {K : PySem.W.Frag} {B : Hp} {F0 F F' G : Fz} {η η' : Nv} {σ σ' : L2.St} {H H' : Hp} {Q0 : W → Bool → Prop} {Q : VK} {e a b c : Expr} {es : List Expr} {pos : Pos} {wa wb wc we : TWE} {u : TWA} {ta tb : TWT} {x : Str} {i : Nat} {p : Pos}
theorem adjust_rev (n : Nat) : Builtin.Slice.sliceAdjust none none (-1) (n : Int) = ((n : Int) - 1, -1) := rfl
theorem places_rev (n : Nat) : Builtin.Slice.slicePlaces ((n : Int) - 1) (-1) (-1) = n := by
  unfold Builtin.Slice.slicePlaces
  rw [if_neg (by decide)]
  by_cases h : n = 0
  · subst h; rfl
  · rw [if_pos (by omega)]
    show (((n : Int) - 1 - -1 - 1) / 1 + 1).toNat = n
    rw [Int.ediv_one]
    omega
theorem fm_congr {α β : Type} {f g : α → Option β} : ∀ {l : List α}, (∀ x ∈ l, f x = g x) → l.filterMap f = l.filterMap g
  | [], _ => rfl
  | a :: l, h => by
    rw [List.filterMap_cons, List.filterMap_cons, h a List.mem_cons_self, fm_congr fun x hx => h x (List.mem_cons_of_mem _ hx)]
theorem pick_rev (xs : Array Value) : ((List.range xs.size).filterMap fun (m : Nat) => xs[((xs.size : Int) - 1 + (m : Int) * -1).toNat]?).toArray = xs.toList.reverse.toArray := by
  congr 1
  have h : ∀ m ∈ List.range xs.size, (fun (m : Nat) => xs[((xs.size : Int) - 1 + (m : Int) * -1).toNat]?) m = (some ∘ fun m => xs.toList.reverse.getD m default) m := fun m hm => by
    have hm := List.mem_range.mp hm
    show xs[((xs.size : Int) - 1 + (m : Int) * -1).toNat]? = some (xs.toList.reverse.getD m default)
    rw [show ((xs.size : Int) - 1 + (m : Int) * -1).toNat = xs.size - 1 - m by omega, List.getD_eq_getElem?_getD, List.getElem?_reverse (by simpa using hm), Array.length_toList, Array.getElem?_toList, Array.getElem?_eq_getElem (by omega)]
    rfl
  rw [fm_congr h, List.filterMap_eq_map]
  refine List.ext_getElem? fun i => ?_
  rw [List.getElem?_map]
  by_cases hi : i < xs.size
  · rw [List.getElem?_range hi, List.getElem?_eq_getElem (by simpa using hi)]
    simp [List.getD_eq_getElem?_getD, hi]
  · rw [List.getElem?_eq_none (by simpa using hi), List.getElem?_eq_none (by simpa using hi)]
    rfl
theorem sliceApplied_rev {prog : Program} {w : World} {A : Around} {E : Value → Shared → Prop} {s : Shared} {sl : Addr} {vl vu vs : Value} {n : Nat} {Q : Int × Int × Nat → Shared → Prop} (hs : s.heap.IsSliceOf sl vl vu vs) (pl : IsPart vl none) (pu : IsPart vu none) (ps : IsPart vs (some (-1)))
    (h : Q ((n : Int) - 1, -1, n) s) : wpAny (model prog w) A (Builtin.Slice.sliceApplied (.ref sl) (pure (n : Int))) Q E s := by
  obtain ⟨os, hos, hcs, hds⟩ := id hs
  unfold Builtin.Slice.sliceApplied Builtin.Slice.sliceFields
  refine wpAny_bind (wpAny_bind (wpAny_field hos hds (x := vl) rfl (wpAny_bind (wpAny_field hos hds (x := vu) rfl (wpAny_bind (wpAny_field hos hds (x := vs) rfl (wpAny_pure ?_)))))))
  refine wpAny_bind (HT.slicePart_ ps ?_)
  show wpAny _ _ (if ((-1 : Int) == 0) = true then _ else _) _ _ s
  rw [if_neg (by decide)]
  refine wpAny_bind (HT.slicePart_ pl (wpAny_bind (HT.slicePart_ pu (wpAny_bind (wpAny_pure ?_)))))
  show wpAny _ _ (match Builtin.Slice.sliceAdjust none none (-1) (n : Int) with | (lo, hi) => pure (lo, (-1 : Int), Builtin.Slice.slicePlaces lo hi (-1))) _ _ s
  rw [adjust_rev]
  show wpAny _ _ (pure ((n : Int) - 1, (-1 : Int), Builtin.Slice.slicePlaces ((n : Int) - 1) (-1) (-1))) _ _ s
  rw [places_rev]
  exact wpAny_pure h
theorem getItem_tuple_rev {prog : Program} {w : World} {A : Around} {E : Value → Shared → Prop} {s : Shared} {t sl : Addr} {items : Array Value} {vl vu vs : Value} {Q : Value → Shared → Prop} (ht : IsTup s.heap t items) (hs : s.heap.IsSliceOf sl vl vu vs) (pl : IsPart vl none) (pu : IsPart vu none) (ps : IsPart vs (some (-1)))
    (h : Q (.ref s.heap.objs.size) { s with heap := s.heap.push { cls := .type "tuple", data := .seq items.toList.reverse.toArray } })
    (hsz : items.size ≤ sizeLine) : wpAny (model prog w) A (getItem (.ref t) (.ref sl)) Q E s := by
  have htake : sizeOk (.seq items.toList.reverse.toArray) := by
    show items.toList.reverse.toArray.size ≤ sizeLine
    rw [List.size_toArray, List.length_reverse, Array.length_toList]
    exact hsz
  obtain ⟨os, hos, hcs, hds⟩ := id hs
  have hTs : s.TypeIs (.ref sl) "slice" := ⟨os, hos, hcs⟩
  unfold getItem
  try with_reducible refine wpAny_holding ?_
  first | refine wpAny_bind (wpAny_pure ?_) | skip
  refine wpAny_bind (wpAny_sequenceKey ht.typeIs (by decide) ?_)
  refine wpAny_bind (wpAny_callSpecial?_slot (name := Str.ofString "__getitem__") ht.typeIs PyProof.Rows.slot_tuple_getitem
    (wpAny_call_entry PyProof.Rows.slot_tuple_getitem ht.typeIs entry_tuple_getitem ?_ (args_tuple_getitem _ _)))
  show wpAny _ _ (Builtin.Tuple.tupleItemsOf (.ref t) >>= _) _ _ s
  refine wpAny_bind (tupleItemsOf_ ht ?_)
  refine wpAny_bind (wpAny_typeOf hTs ?_)
  rw [if_pos (by decide)]
  refine wpAny_bind (sliceApplied_rev hs pl pu ps ?_)
  have hno : ¬ ((((items.size : Int) - 1) == 0 && (-1 : Int) == 1 && items.size == items.size) = true) := by
    intro q
    rw [Bool.and_eq_true, Bool.and_eq_true] at q
    exact absurd (eq_of_beq q.1.2) (by decide)
  show wpAny _ _ (if (((items.size : Int) - 1) == 0 && (-1 : Int) == 1 && items.size == items.size) = true then _ else _) _ _ s
  rw [if_neg hno, pick_rev]
  first
    | exact wpAny_bind (m := Builtin.Tuple.tupleExact _) (wpAny_newObj_type (wpAny_pure ⟨_, rfl, wpAny_pure h⟩) htake)
    | exact wpAny_bind (m := Builtin.Tuple.tupleExact _) (wpAny_newObj_type (wpAny_bind (wpAny_pure (wpAny_pure ⟨_, rfl, wpAny_pure h⟩))) htake)
    | exact wpAny_bind (wpAny_bind (m := Builtin.Tuple.tupleExact _) (wpAny_newObj_type (wpAny_pure (wpAny_pure ⟨_, rfl, wpAny_pure h⟩)) htake))
    | exact wpAny_bind (wpAny_bind (m := Builtin.Tuple.tupleExact _) (wpAny_newObj_type (wpAny_pure ⟨_, rfl, wpAny_pure h⟩) htake))
def tRevB (K : PySem.W.Frag) (te : TE) : TE := fun σ H Q => te σ H fun x H1 => (∃ a xs, x = .ref a ∧ SqL K H1 a xs ∧ ∀ p, H1 p = none → Q (.ref p) (upd H1 p (.lst xs.reverse))) ∨ (∃ a xs, x = .ref a ∧ SqT K H1 a xs ∧ ∀ p, H1 p = none → Q (.ref p) (upd H1 p (.tup xs.reverse)))
theorem pe_revB {e : Expr} {te : TE} {k : Nat} {p1 p2 p3 pos : Pos} (he : PE X e te) : PE X (.Subscript e (.Slice none none (some (.UnaryOp .USub (.Constant (.int 1) k p1) p2)) p3) pos) (tRevB X.K te) := by
  refine ⟨fun pins s σ H Q I h => ?_⟩
  refine Subscript_ (thn (he.run pins s σ H _ I h) fun v s1 ⟨x, H1, I1, r1, q1⟩ => ?_)
  have hst : PO X (some (.UnaryOp .USub (.Constant (.int 1) k p1) p2)) (tPart (tUn (rU fun i => .int (-i)) (tC (.int 1)))) := po_some (pe_un un_neg pe_int)
  refine wpAny_Slice (thn (po_none.run pins s1 σ H1 (fun o H2 => o = none ∧ H2 = H1) I1 ⟨rfl, rfl⟩) fun vl s2 ⟨l, H2, I2, pl, el, e2⟩ => ?_)
  subst el e2
  refine thn (po_none.run pins s2 σ H2 (fun o H3 => o = none ∧ H3 = H2) I2 ⟨rfl, rfl⟩) fun vu s3 ⟨u, H3, I3, pu, eu, e3⟩ => ?_
  subst eu e3
  refine thn (hst.run pins s3 σ H3 (fun o H4 => o = some (-1) ∧ H4 = H3) I3 ⟨1, rfl, -1, rfl, rfl, rfl⟩) fun vs s4 ⟨o, H4, I4, ps, eo, e4⟩ => ?_
  subst eo e4
  have I5 : Inv X pins σ H4 { s4 with heap := s4.heap.push { cls := .type "slice", data := .fields #[vl, vu, vs] } } := I4.kept (t' := s4.toks) fun b ob q => Heap.get?_push_of_some _ q
  rcases q1 with ⟨a, xs, ex, hx, q⟩ | ⟨a, xs, ex, hx, q⟩
  · subst ex
    cases r1
    obtain ⟨its, r, ht, hz⟩ := I5.list hx
    have hlen := r.length
    show wpAny (model X.prog X.w) X.A (subscriptTail e (.Slice none none (some (.UnaryOp .USub (.Constant (.int 1) k p1) p2)) p3) (.ref a) (.ref s4.heap.objs.size)) (EP X pins σ Q) X.xe { s4 with heap := s4.heap.push { cls := .type "slice", data := .fields #[vl, vu, vs] } }
    refine tail_any (ops := [.ref a, .ref s4.heap.objs.size]) ht.isList.typeIs (PySem.slot_list_getitem.lookup) ?_ (by with_unfolding_all rfl)
    refine wpAny_getItem_list_slice ht.isList (Heap.IsSliceOf.new _ vl vu vs) pl pu ps (by decide) ?_ (by rw [List.size_toArray]; omega)
    rw [PySem.W.krv_pick]
    refine ⟨.ref _, _, I5.laid (t' := s4.toks) (o := .lst xs.reverse) (fun b ob q => Heap.get?_push_of_some _ q) (Nat.le_refl _) ?_, rfl, q _ (I5.hok.fresh (Nat.le_refl _))⟩
    exact ⟨by rw [List.length_reverse]; exact hz, _, 0, r.reverse, Heap.get?_push_size _ rfl⟩
  · subst ex
    cases r1
    obtain ⟨its, r, ht, hz⟩ := I5.tuple hx
    have hlen := r.length
    show wpAny (model X.prog X.w) X.A (subscriptTail e (.Slice none none (some (.UnaryOp .USub (.Constant (.int 1) k p1) p2)) p3) (.ref a) (.ref s4.heap.objs.size)) (EP X pins σ Q) X.xe { s4 with heap := s4.heap.push { cls := .type "slice", data := .fields #[vl, vu, vs] } }
    refine tail_any (ops := [.ref a, .ref s4.heap.objs.size]) ht.typeIs (PyProof.Rows.slot_tuple_getitem.lookup) ?_ (by with_unfolding_all rfl)
    refine getItem_tuple_rev ht (Heap.IsSliceOf.new _ vl vu vs) pl pu ps ?_ (by rw [List.size_toArray]; omega)
    refine ⟨.ref _, _, I5.laid (t' := s4.toks) (o := .tup xs.reverse) (fun b ob q => Heap.get?_push_of_some _ q) (Nat.le_refl _) ?_, rfl, q _ (I5.hok.fresh (Nat.le_refl _))⟩
    exact ⟨by rw [List.length_reverse]; exact hz, _, r.reverse, IsTup.new _ _⟩
def eRevB (wa : TWE) : TWE := fun η Q => wa η fun x _ => match x with
  | .lst ws => Q (.lst ws.reverse) true
  | .tup ws => Q (.tup ws.reverse) true
  | _ => False
theorem re_revB {k : Nat} {p1 p2 p3 : Pos} (ha : RO X a wa) : RE X (.Subscript a (.Slice none none (some (.UnaryOp .USub (.Constant (.int 1) k p1) p2)) p3) pos) (eRevB wa) := PE.imp (pe_revB ha) fun σ H Q q => by
  obtain ⟨B, F0, F, η, Q0, R, w, k⟩ := q
  refine ⟨B, F0, F, η, _, R, w, fun x bx q F1 H1 vx l1 R1 hx => ?_⟩
  cases x with
  | lst ws =>
    obtain ⟨p, vs, e, hH, r⟩ := R1.lst hx
    exact .inl ⟨p, vs, e, .of hH, fun p hp => (k.le l1).new R1 q ⟨_, rfl, r.reverse⟩ hp⟩
  | tup ws =>
    obtain ⟨p, vs, e, hH, r⟩ := R1.tup hx
    exact .inr ⟨p, vs, e, .of hH, fun p hp => (k.le l1).new R1 q ⟨_, rfl, r.reverse⟩ hp⟩
  | _ => exact q.elim
/-- a slice of a list, or of a tuple, of which not the whole -/
def eCutB (wa : TWE) (lo hi : TWP) : TWE := fun η Q => wa η fun x _ => lo η fun l => hi η fun h => match x with
  | .lst ws => Q (.lst (cutW ws l h)) true
  | .tup ws => ¬ (HT.sIx ws.length 0 l = 0 ∧ HT.sIx ws.length ws.length h = ws.length) ∧ Q (.tup (cutW ws l h)) true
  | _ => False
theorem re_cutB {lo hi : Option Expr} {tl th : TWP} {p2 : Pos} (ha : RO X a wa) (hl : RP X lo tl) (hh : RP X hi th) : RE X (.Subscript a (.Slice lo hi none p2) pos) (eCutB wa tl th) := by
  refine PE.imp (pe_slice (sl_list.or sl_tup) ha hl hh) fun σ H Q q => ?_
  obtain ⟨B, F0, F, η, Q0, R, w, k⟩ := q
  refine ⟨B, F0, F, η, _, R, w, fun x bx q F1 H1 vx l1 R1 hx => ⟨B, F0, F1, η, _, R1, q, fun l q F2 H2 l2 R2 => ⟨B, F0, F2, η, _, R2, q, fun h q F3 H3 l3 R3 => ?_⟩⟩⟩
  cases x with
  | lst ws =>
    obtain ⟨p, vs, e, hH, r⟩ := R3.lst ((hx.mono l2).mono l3)
    exact .inl ⟨p, vs, e, .of hH, fun p hp => (k.le ((l1.trans l2).trans l3)).new R3 q ⟨_, rfl, r.cut⟩ hp⟩
  | tup ws =>
    obtain ⟨n, q⟩ := q
    obtain ⟨p, vs, e, hH, r⟩ := R3.tup ((hx.mono l2).mono l3)
    exact .inr ⟨p, vs, e, .of hH, by rw [← r.length]; exact n, fun p hp => (k.le ((l1.trans l2).trans l3)).new R3 q ⟨_, rfl, r.cut⟩ hp⟩
  | _ => exact q.elim
def lk1 : Sl → Sl
  | .ow r => .lk r
  | s => s
theorem lks_c (s : Sl) (η : Nv) : lks (s :: η) = lk1 s :: lks η := by cases s <;> rfl
theorem lks_n : lks [] = [] := rfl
theorem lk1_f (w : W) : lk1 (.fz w) = .fz w := rfl
theorem lk1_o (w : W) : lk1 (.ow w) = .lk w := rfl
theorem lk1_l (w : W) : lk1 (.lk w) = .lk w := rfl
theorem lk1_n : lk1 .no = .no := rfl
theorem lks_ex (s : Sl) (η : Nv) : ∃ r, lks (s :: η) = r :: lks η := by cases s <;> exact ⟨_, rfl⟩
theorem rg_any {a : Int} (h : -(2 ^ 62) ≤ a) (k : a < 2 ^ 62) : Rg a := ⟨by omega, by omega⟩
end
end VL
end

section
set_option Elab.async false
set_option linter.all false
set_option maxRecDepth 100000
/-! VL13: enumerate over tuples too. -/
namespace VL
open PySem PySem.Spec PyProof.Rows L2
open Sem (wp)
theorem meets_enumT {v : Value} {o : Obj} {H : Heap → Prop} (B : Begins v o H) :
    Meets (Builtin.«enumerate.__new__» ⟨[.type "enumerate", v], []⟩) (fun _ R s => H s.heap ∧
      R (.ok (.ret (.ref (s.heap.push o).objs.size))) { s with heap := (s.heap.push o).push { cls := .type "enumerate", data := .fields #[.none, .bool false, .ref s.heap.objs.size, rawInt 0, .none, .none] } }) :=
  .of_wp fun prog w A R s h => by
    obtain ⟨hp, g, d, tk, os⟩ := s; obtain ⟨h1, h⟩ := h
    have hsub := sub_enumerate
    have q1 : ∀ {A' : Around} {E : Value → Shared → Prop} {Q : Value → Shared → Prop}, Q (.ref hp.objs.size) ⟨hp.push o, g, d, tk, os⟩ → wpAny (model prog w) A' (pyIter v) Q E ⟨hp, g, d, tk, os⟩ :=
      fun q => B.iter prog w _ _ ⟨hp, g, d, tk, os⟩ _ h1 q
    wp_walk using q1
    refine wpAny_stack_any fun st => wpAny_pure ?_
    split
    · rename_i c _ _ _ _ _
      cases (c == Value.type "enumerate")
      · wp_walk using q1
        exact ⟨_, rfl, h⟩
      · wp_walk using q1
        exact ⟨_, rfl, h⟩
    · wp_walk using q1
      exact ⟨_, rfl, h⟩
theorem call_enumT {prog : Program} {w : World} {A : Around} {E : Value → Shared → Prop} {s : Shared} {v : Value} {o : Obj} {H : Heap → Prop} {Q : Value → Shared → Prop} (B : Begins v o H) (h1 : H s.heap)
    (h : ∀ h', IsEnum h' (s.heap.objs.size + 1) s.heap.objs.size 0 .none → h'.get? s.heap.objs.size = some o → h'.objs.size = s.heap.objs.size + 2 →
      (∀ b o, s.heap.get? b = some o → h'.get? b = some o) → Q (.ref (s.heap.objs.size + 1)) { s with heap := h' }) :
    wpAny (model prog w) A (call (.type "enumerate") [v]) Q E s := by
  refine callType_new F.called_enumerate (by decide) (F.typeCall_enumerate_1 _) (F.newCall_enumerate_1 _) (fun obj => F.args_object_init_2 obj _) F.entry_enumerate_new
    (meets_enumT B) ⟨h1, ?_⟩
  have hz : (s.heap.push o).objs.size = s.heap.objs.size + 1 := Heap.size_push ..
  show _ ∧ _
  rw [hz]
  have he : IsEnum ((s.heap.push o).push { cls := .type "enumerate", data := .fields #[.none, .bool false, .ref s.heap.objs.size, rawInt 0, .none, .none] }) (s.heap.objs.size + 1) s.heap.objs.size 0 .none := by
    have := Heap.get?_push_size (s.heap.push o) (o := { cls := .type "enumerate", data := .fields #[.none, .bool false, .ref s.heap.objs.size, rawInt 0, .none, .none] }) rfl
    rw [hz] at this; exact this
  refine ⟨⟨_, he, rfl⟩, h _ he (Heap.get?_push_of_some _ (Heap.get?_push_size _ B.free)) (by rw [Heap.size_push, hz]) fun b o x => Heap.get?_push_of_some _ (Heap.get?_push_of_some _ x)⟩
section
variable {X : Cx} {K : PySem.W.Frag} {B : Hp} {F0 F F' G : Fz} {η η' : Nv} {σ σ' : L2.St} {H H' : Hp} {Q0 : W → Bool → Prop} {Q : VK} {e a b c tg : Expr} {es : List Expr} {pos : Pos} {wa wb wc we : TWE} {u : TWA} {ta tb : TWT} {x : Str} {i : Nat} {p : Pos}
/-- the tuple at a as it stands at each turn, each item in a new pair -/
def IteT (K : PySem.W.Frag) (a : Addr) : It :=
  ⟨fun i H => ∃ (xs : List V) (x : V), SqT K H a xs ∧ xs[i]? = some x, fun i H v H' => ∃ T x, v = .ref T ∧ H T = none ∧ H' = upd H T (.tup [.int (i : Nat), x]) ∧ ∀ xs, SqT K H a xs → xs[i]? = some x, fun i H => ∃ xs : List V, SqT K H a xs ∧ xs.length ≤ i⟩
theorem turn_enumT {P : Program} {w : World} {K : PySem.W.Frag} {elts : List Expr} {kk : Nat} {tpos : Pos} (a e it : Addr) :
    Turn P w K (.Tuple elts kk tpos) (IteT K a) [e, it] e (fun i h => (∃ old, IsEnum h e it ((i : Nat) : Int) old) ∧ h.IsTupleIter it a i ∧ e ≠ it ∧ a ≠ it ∧ a ≠ e) where
  mem := by simp
  obj := fun i h st b hb => by
    obtain ⟨⟨old, he⟩, ⟨o, ho, hc, hd⟩, _⟩ := st
    have e' : b = e ∨ b = it := by simpa using hb
    rcases e' with z | z
    · rw [z]; exact ⟨_, he, fun v q => nomatch q⟩
    · rw [z]; exact ⟨o, ho, fun v q => by rw [hd] at q; cases q⟩
  keep := fun i h h' st k => let ⟨⟨old, he⟩, hi, hne⟩ := st; ⟨⟨old, k e (by simp) _ he⟩, hi.at fun o q => k it (by simp) o q, hne⟩
  item := by
    intro X hP hw hK hc i pins s σ H E I hf st hg
    subst hP hw hK
    obtain ⟨⟨old, he⟩, hit, hne, hai, hae⟩ := st
    obtain ⟨xs, x, hq, hx⟩ := hg
    obtain ⟨its, rv, p, hz⟩ := I.tuple hq
    obtain ⟨u, hu, ru⟩ := rv.get hx
    have hel : e < s.heap.objs.size := Heap.lt_size he
    have hil : it < s.heap.objs.size := by obtain ⟨_, q, _⟩ := hit; exact Heap.lt_size q
    have hui : its.toArray[i]? = some u := by simpa using hu
    have hlt : i < its.toArray.size := by
      have := (Array.getElem?_eq_some_iff.mp hui).1
      exact this
    refine wpAny_pyNext_enum_itemD (Draws.tuple (A := X.A.in1) (I.ok.hd hc) it a hai its.toArray) he ⟨hit, p⟩ hlt hne (by simp [hne, Ne.symm hae]) fun x2 h' tk hx2 ho hst' hT hsz hk => ?_
    have hxe : x2 = u := by rw [hui] at hx2; cases hx2; rfl
    subst hxe
    obtain ⟨hit', _⟩ := hst'
    refine ⟨_, rfl, wpAny_letOwnedTupleGo_enum (s := { s with heap := h', toks := tk + 1 }) ho fun h'' he' sb => ?_⟩
    have hT2 : h''.get? s.heap.objs.size = some { cls := .type "tuple", data := .seq #[.int i tk, x2] } := (sb.2 _ (Nat.ne_of_gt hel)).trans hT
    have new : ObjOk X.prog X.w (upd H s.heap.objs.size (.tup [.int (i : Nat), x])) h'' s.heap.objs.size (.tup [.int (i : Nat), x]) :=
      ⟨by show 2 ≤ sizeLine; decide, [.int i tk, x2], .cons ⟨_, rfl⟩ (.cons ru .nil), ⟨_, hT2, rfl, _, rfl⟩⟩
    have I1 : Inv X pins σ (upd H s.heap.objs.size (.tup [.int (i : Nat), x])) { s with heap := h'', toks := tk + 1 } :=
      I.turnedNew (ch := [e, it]) (fun b ob hb q => (sb.2 b (fun z => hb (by simp [z]))).trans (hk b ob (fun z => hb (by simp [z])) (fun z => hb (by simp [z])) q)) hf (Nat.le_refl _) new
    refine ⟨.ref s.heap.objs.size, _, I1, rfl, ⟨_, x, rfl, I.hok.fresh (Nat.le_refl _), rfl, fun ys hy => by rw [I.tuple_inj hy hq]; exact hx⟩, ⟨⟨x2, ?_⟩, hit'.at fun o q => (sb.2 it (Ne.symm hne)).trans q, hne, hai, hae⟩, fun b hb => ?_⟩
    · have e1 : ((i + 1 : Nat) : Int) = (i : Int) + 1 := by omega
      rw [e1]; exact he'
    · have hb' : b < s.heap.objs.size := by
        have e' : b = e ∨ b = it := by simpa using hb
        rcases e' with z | z
        · rw [z]; exact hel
        · rw [z]; exact hil
      rw [upd_ne (Nat.ne_of_lt hb')]
      exact (hf b hb).1
  done := by
    intro X hP hw hK hc i pins s σ H E I hf st hg
    subst hP hw hK
    obtain ⟨⟨old, he⟩, hit, hne, hai, hae⟩ := st
    obtain ⟨xs, hq, hx⟩ := hg
    obtain ⟨its, rv, p, hz⟩ := I.tuple hq
    obtain ⟨f0, f1, f2, f3, f4, f5⟩ := hf it (by simp)
    have hl := rv.length
    have hT : s.TypeIs (.ref e) "enumerate" := ⟨_, he, rfl⟩
    unfold pyNext
    refine wpAny_bind (wpAny_attempt (wpAny_callSpecial?_slot (name := Str.ofString "__next__") hT F.slot_enumerate_next
      (wpAny_call_entry F.slot_enumerate_next hT F.entry_enumerate_next ?_ (F.args_enumerate_next_1 _))))
    show wpAny _ _ (field (.ref e) 2 >>= _) _ _ _
    refine wpAny_bind (wpAny_field he rfl (x := .ref it) rfl ?_)
    refine wpAny_bind (wpAny_nextOf_tuple_end (A := X.A.in1) (I.ok.hd hc) hit p (by simp; omega) fun h' x he' hx' => ?_)
    obtain ⟨o, ho, hc'⟩ := hx'
    refine wpAny_bind (wpAny_isInstance (T := "StopIteration") (b := true) ⟨o, ho, hc'⟩ isSubtype_stop ?_)
    exact wpAny_pure ⟨rfl, I.turned (t' := s.toks) (fun b o hb q => he' b o hb q) f0 f1 f3 f4 f5⟩
  self := fun A i s Q E st h => let ⟨⟨_, he⟩, _⟩ := st; wpAny_pyIter_enum he h
def iEnumB (K : PySem.W.Frag) (ta : TA) : TI := fun σ H R => ta σ H fun vs H1 => ∃ a xs, vs = [.ref a] ∧ ((SqL K H1 a xs ∧ R (Ite K a) H1) ∨ (SqT K H1 a xs ∧ R (IteT K a) H1))
theorem pi_enumB {X : Cx} {e : Expr} {ta : TA} {p pos tpos : Pos} {elts : List Expr} {kk : Nat} (hg : Gl X "enumerate") (hm : X.mg "enumerate" = none) (ha : PA X [e] ta) (hs : starEach [e] X.env = [(false, eval e X.env)] := by rfl) :
    PI X (.Tuple elts kk tpos) (.Call (.Name "enumerate" p) [e] [] pos) (iEnumB X.K ta) := by
  refine ⟨fun pins s σ H R I h => ?_⟩
  refine Call_ (ld_blt I hg hm boot_enumerate (PyProof.Rows.callWith_type1 (thn (ha.run pos pins s σ H _ I h) fun us s1 ⟨vs, H1, I1, r1, q1⟩ => ?_) hs rfl))
  obtain ⟨a, xs, ex, hq⟩ := q1
  subst ex
  cases r1 with
  | cons r rr =>
    cases rr
    cases r
    have foot : ∀ b ∈ [s1.heap.objs.size + 1, s1.heap.objs.size], FpOk X pins H1 b := fun b hb => by
      have e' : b = s1.heap.objs.size + 1 ∨ b = s1.heap.objs.size := by simpa using hb
      have hle : s1.heap.objs.size ≤ b := by
        rcases e' with z | z
        · rw [z]; exact Nat.le_add_right _ _
        · rw [z]; exact Nat.le_refl _
      exact I1.fpOk hle (I1.hok.fresh hle)
    rcases hq with ⟨hq, q⟩ | ⟨hq, q⟩
    · obtain ⟨its, rv, p', hz⟩ := I1.list hq
      refine call_enumerate_list p'.isList fun h' he hit hsz hk => wpAny_pyIter_enum he ?_
      have I2 : Inv X pins σ H1 { s1 with heap := h' } := I1.kept (t' := s1.toks) hk
      exact ⟨s1.heap.objs.size + 1, [s1.heap.objs.size + 1, s1.heap.objs.size], _, _, H1, rfl, I2, turn_enum a (s1.heap.objs.size + 1) s1.heap.objs.size, ⟨⟨.none, he⟩, hit, Nat.succ_ne_self _⟩, foot, q⟩
    · obtain ⟨its, rv, p', hz⟩ := I1.tuple hq
      have hal : a < s1.heap.objs.size := by obtain ⟨_, q, _⟩ := p'; exact Heap.lt_size q
      refine call_enumT (begins_tuple a its.toArray) p' fun h' he hit hsz hk => wpAny_pyIter_enum he ?_
      have I2 : Inv X pins σ H1 { s1 with heap := h' } := I1.kept (t' := s1.toks) hk
      exact ⟨s1.heap.objs.size + 1, [s1.heap.objs.size + 1, s1.heap.objs.size], _, _, H1, rfl, I2, turn_enumT a (s1.heap.objs.size + 1) s1.heap.objs.size, ⟨⟨.none, he⟩, ⟨_, hit, rfl, rfl⟩, Nat.succ_ne_self _, Nat.ne_of_lt hal, Nat.ne_of_lt (Nat.lt_succ_of_lt hal)⟩, foot, q⟩
theorem iteT_ok {d : Addr} {ws : List W} {pl : Option Nat} (h : ∀ (B : Hp) (F0 F' : Fz) (η' : Nv) (σ' : L2.St) (H' : Hp), Le F F' → (∀ l w, pl = some l → gt η l = .lk w → gt η' l = .lk w ∧ σ'[l]? = σ[l]?) → Rel K B F0 F' η' σ' H' → ∃ vs, H' d = some (.tup vs) ∧ Reps K F' ws vs) : ItOk K (IteT K d) (enW 0 ws) pl F η σ := by
  intro i B F0 F' η' σ' H' l q R
  obtain ⟨vs, hH, r⟩ := h B F0 F' η' σ' H' l q R
  refine ⟨fun hi => ⟨vs, .of hH, by rw [← r.length]; rw [enW_len] at hi; exact hi⟩, fun w hw => ?_⟩
  obtain ⟨z, hz, ew⟩ := enW_get 0 ws i w hw
  obtain ⟨v, hv, rv⟩ := r.get hz
  refine ⟨⟨vs, v, .of hH, hv⟩, fun x H2 hy => ?_⟩
  obtain ⟨T, u, e, hT, e2, hx⟩ := hy
  subst e
  subst e2
  have y := hx vs (.of hH)
  rw [hv] at y
  cases y
  rw [ew, show 0 + i = i by omega]
  exact new_tup R hT (reps_cons (by unfold Rep; rfl) (reps_cons rv reps_nil))
def iEnB (we : TWE) : TWI := fun η Q => we η fun r _ => match r with
  | .lst ws => Q (enW 0 ws)
  | .tup ws => Q (enW 0 ws)
  | _ => False
theorem ri_enumB {p pos tpos : Pos} {elts : List Expr} {kk : Nat} (hg : Gl X "enumerate") (hm : X.mg "enumerate" = none) (ha : RE X e we) (hs : starEach [e] X.env = [(false, eval e X.env)] := by rfl) (hs' : starEach [e] X.env = (false, eval e X.env) :: starEach [] X.env := by rfl) :
    RI X (.Tuple elts kk tpos) (.Call (.Name "enumerate" p) [e] [] pos) none (iEnB we) := PI.imp (pi_enumB hg hm (pa_cons ha pa_nil hs') hs) fun σ H R q => by
  obtain ⟨B, F0, F, η, Q0, R0, w, k⟩ := q
  refine ⟨B, F0, F, η, _, R0, w, fun r fr q F1 H1 v l1 R1 hv => ?_⟩
  obtain ⟨G, l2, R2, rep⟩ := R1.cool hv
  split at q
  · unfold Rep at rep
    obtain ⟨d, vs, e, f, r⟩ := rep
    exact ⟨d, vs, by rw [e], .inl ⟨.of (R2.sub.fz f), k _ q G H1 _ (l1.trans l2) R2 (ite_ok fun B F0 F' η' σ' H' l _ R' => ⟨vs, R'.sub.fz (l _ _ f), Reps.mono _ l _ _ r⟩)⟩⟩
  · unfold Rep at rep
    obtain ⟨d, vs, e, f, r⟩ := rep
    exact ⟨d, vs, by rw [e], .inr ⟨.of (R2.sub.fz f), k _ q G H1 _ (l1.trans l2) R2 (iteT_ok fun B F0 F' η' σ' H' l _ R' => ⟨vs, R'.sub.fz (l _ _ f), Reps.mono _ l _ _ r⟩)⟩⟩
  · exact q.elim
theorem enW_gen {α : Type} (f : α → W) (d : α) : ∀ (n : Nat) (l : List α), enW n (l.map f) = (List.range l.length).map fun k => .tup [.int ((n + k : Nat) : Int), f (l.getD k d)]
  | _, [] => rfl
  | n, a :: l => by
    rw [List.length_cons, List.range_succ_eq_map, List.map_cons, List.map_cons, List.map_map]
    show .tup [.int (n : Nat), f a] :: enW (n + 1) (l.map f) = _
    rw [enW_gen f d (n + 1) l]
    congr 1
    refine List.map_congr_left fun k _ => ?_
    show W.tup [.int ((n + 1 + k : Nat) : Int), f (l.getD k d)] = .tup [.int ((n + (k + 1) : Nat) : Int), f (l.getD k d)]
    rw [show n + 1 + k = n + (k + 1) by omega]
theorem enW_map {α : Type} (f : α → W) (d : α) (l : List α) : enW 0 (l.map f) = (List.range l.length).map fun k => .tup [.int (k : Nat), f (l.getD k d)] := by
  rw [enW_gen f d 0 l]
  refine List.map_congr_left fun k _ => ?_
  show W.tup [.int ((0 + k : Nat) : Int), f (l.getD k d)] = _
  rw [Nat.zero_add]
end
end VL
end

section
set_option Elab.async false
set_option linter.all false
set_option maxRecDepth 100000
/-! VL14: sum of tuples too. -/
namespace VL
open PySem PySem.Spec PyProof.Rows L2
theorem sum_tup {prog : Program} {w : World} {A : Around} {E : Value → Shared → Prop} {s : Shared} {l : Addr} {its : List Value} {ns : List Int} {Q : Value → Shared → Prop} (hh : A.handled = none) (hl : s.heap.IsTuple l its.toArray) (hi : IntsAre its ns)
    (h : ∀ h' tk t', (∀ b o, s.heap.get? b = some o → h'.get? b = some o) → Q (.int ns.sum t') { s with heap := h', toks := tk }) : wpAny (model prog w) A (call (.builtin "sum") [.ref l]) Q E s := by
  obtain ⟨xs, e⟩ := hi.allInts.items
  have hn : numsOf (intItems xs).toList = ns := by rw [← e]; exact hi.numsOf
  rw [nums_intItems] at hn
  rw [e] at hl
  have hlt : l < s.heap.objs.size := by obtain ⟨_, q, _⟩ := hl; exact Heap.lt_size q
  refine call_sum_walkG (wpAny_pyIter_tuple hl ?_)
  refine ⟨s.heap.objs.size, _, _, _, _, _, numAt xs, rfl, Walks.tuple (A := A.in1) hh _ l (Nat.ne_of_lt hlt) (intItems xs), ⟨⟨_, Heap.get?_push_size _ rfl, rfl, rfl⟩, ?_⟩, ?_, (fun _ _ => intItems_at), fun h' tk t' hk => ?_⟩
  · exact hl.at fun o e => Heap.get?_push_of_some _ e
  · intro b hb
    show b < (s.heap.push _).objs.size
    rw [Heap.size_push]
    have : b = s.heap.objs.size ∨ b = l := by simpa using hb
    rcases this with z | z
    · rw [z]; exact Nat.lt_succ_self _
    · rw [z]; exact Nat.lt_succ_of_lt hlt
  · have q := h h' tk t' fun b o hb => hk b o (fun z => by
      rcases List.mem_singleton.mp z with rfl
      exact Nat.lt_irrefl _ (Heap.lt_size hb)) (Heap.get?_push_of_some _ hb)
    rw [preSum_eq, List.take_of_length_le (by simp [intItems]), hn]; exact q
section
variable {X : Cx} {K : PySem.W.Frag} {B : Hp} {F0 F F' G : Fz} {η η' : Nv} {σ σ' : L2.St} {H H' : Hp} {Q0 : W → Bool → Prop} {Q : VK}
def rSumB (K : PySem.W.Frag) : List V → Hp → VK → Prop := fun vs H Q => ∃ (a : Addr) (ns : List Int), vs = [V.ref a] ∧ (SqL K H a (ns.map V.int) ∨ SqT K H a (ns.map V.int)) ∧ Q (.int ns.sum) H
theorem cr_sumB (hc : X.calm = true) : CallR X (.builtin "sum") (rSumB X.K) := by
  intro pins s σ H vs us Q I r h
  obtain ⟨a, ns, rfl, hs, q⟩ := h
  rcases hs with hs | hs
  · obtain ⟨its, rv, hl, _⟩ := I.list hs
    rw [Vals.ref1 r]
    exact sum_raw (I.ok.hd hc) hl.isList rv.ints fun h' tk t' hk => ⟨.int _, H, I.kept hk, ⟨_, rfl⟩, q⟩
  · obtain ⟨its, rv, hl, _⟩ := I.tuple hs
    rw [Vals.ref1 r]
    exact sum_tup (I.ok.hd hc) hl rv.ints fun h' tk t' hk => ⟨.int _, H, I.kept hk, ⟨_, rfl⟩, q⟩
theorem Rel.intsT (R : Rel K B F0 F η σ H) {ws : List W} {ns : List Int} {b : Bool} {v : V} (e : ints? ws = some ns) (h : VB K F η σ (.tup ws) b v) : ∃ a, v = .ref a ∧ SqT K H a (ns.map V.int) := by
  rw [ints?_eq e] at h
  obtain ⟨a, us, e1, hH, r⟩ := R.tup h
  exact ⟨a, e1, by rw [← reps_ints r]; exact .of hH⟩
def cSumB : SC := fun ws Q => match ws with
  | [.lst xs] => ∃ ns, ints? xs = some ns ∧ Q (.int ns.sum) false
  | [.tup xs] => ∃ ns, ints? xs = some ns ∧ Q (.int ns.sum) false
  | _ => False
theorem cw_sumB (hc : X.calm = true) : CW X (.builtin "sum") cSumB := by
  refine ⟨_, cr_sumB hc, fun B F0 F η σ H ws b vs Q0 Q R hv q k => ?_⟩
  unfold cSumB at q
  split at q
  · obtain ⟨ns, e, q⟩ := q
    obtain ⟨v, e1, h⟩ := hv.one
    obtain ⟨a, e2, h2⟩ := R.ints e h
    exact ⟨a, ns, by rw [e1, e2], .inl h2, k.int R q⟩
  · obtain ⟨ns, e, q⟩ := q
    obtain ⟨v, e1, h⟩ := hv.one
    obtain ⟨a, e2, h2⟩ := R.intsT e h
    exact ⟨a, ns, by rw [e1, e2], .inr h2, k.int R q⟩
  · exact q.elim
/-- a test whose two ways are not looked at yet -/
theorem tst_hide {t : TWT} {A E : Prop} {η : Nv} (h : ∀ A' E' : Prop, A' = A → E' = E → t η fun c => Br (c = true) A' E' .mk .mk) : t η fun c => Br (c = true) A E .mk .mk := h _ _ rfl rfl
end
end VL
end

section
set_option Elab.async false
set_option linter.all false
set_option maxRecDepth 100000
/-! VL15: the second kind of draws: a state [k, rest]. -/
namespace VL
open PySem PySem.Spec PyProof.Rows L2
section
variable {X : Cx} {K : PySem.W.Frag} {B : Hp} {F0 F F' G : Fz} {η η' : Nv} {σ σ' : L2.St} {H H' : Hp} {Q0 : W → Bool → Prop} {Q : VK} {pos p1 p2 : Pos} {k1 k2 : Nat}
def eTok1 : TWE := fun η Q => Q .tk1 false
theorem Sub.addTk1 {l : Addr} {x y : Int} (S : Sub F H) (hl : H l = none) (h0 : 0 ≤ x) (h1 : 0 ≤ y) : Le F (addF F l .tk1) ∧ Sub (addF F l .tk1) (upd H l (.lst [.int x, .int y])) := by
  have fl : F l = none := S.free hl
  refine ⟨le_addF fl, fun c f q => ?_⟩
  by_cases hcl : c = l
  · subst hcl
    rw [addF_same] at q
    cases q
    exact ⟨x, y, upd_same, h0, h1⟩
  · rw [addF_ne hcl] at q
    have z := S c f q
    cases f with
    | fz o => show upd H l _ c = some o; rw [upd_ne hcl]; exact z
    | tk b =>
      obtain ⟨z1, s', cs, z2, z3, z4⟩ := z
      have nb : b ≠ l := ne_of_none z3 hl
      exact ⟨le_addF fl _ _ z1, s', cs, by rw [upd_ne hcl]; exact z2, by rw [upd_ne nb]; exact z3, z4⟩
    | tkin b => exact le_addF fl _ _ (show F b = some (.tk c) from z)
    | tk1 =>
      obtain ⟨k, s', z1, z2⟩ := z
      exact ⟨k, s', by rw [upd_ne hcl]; exact z1, z2⟩
theorem re_tok1 (hs1 : starEach [.Constant (.int 0) k1 p1, .Constant (.int 0) k2 p2] X.env = (false, eval (.Constant (.int 0) k1 p1) X.env) :: starEach [.Constant (.int 0) k2 p2] X.env := by rfl) (hs2 : starEach [.Constant (.int 0) k2 p2] X.env = (false, eval (.Constant (.int 0) k2 p2) X.env) :: starEach [] X.env := by rfl) :
    RE X (.List [.Constant (.int 0) k1 p1, .Constant (.int 0) k2 p2] pos) eTok1 := by
  refine PE.imp (pe_lst (pa_cons pe_int (pa_cons pe_int pa_nil hs2) hs1)) fun σ H Q q => ?_
  obtain ⟨B, F0, F, η, Q0, R, w, k⟩ := q
  refine ⟨by rw [sizeLine_eq]; show 2 ≤ _; decide, fun l hl => ?_⟩
  obtain ⟨le2, sub2⟩ := Sub.addTk1 (x := 0) (y := 0) R.sub hl (by decide) (by decide)
  have nl : ∀ c f, addF F l .tk1 c = some f → F c = some f ∨ (B c = none ∧ ∀ i, hold η i → σ[i]? ≠ some (some (.ref c))) := fun c f z => by
    by_cases hcl : c = l
    · subst hcl; exact .inr ⟨R.freeB hl, fun i y => R.holdNe hl y⟩
    · rw [addF_ne hcl] at z
      exact .inl z
  refine k _ _ w _ _ _ le2 ((R.alloc hl).grow le2 sub2 nl) ?_
  show Rep X.K _ .tk1 (.ref l)
  unfold Rep
  exact ⟨l, rfl, addF_same⟩
def spRefill : SC := fun ws Q => ∃ k : Int, ws = [.scr, .int k] ∧ 0 ≤ k ∧ ∀ r : Int, 0 ≤ r → Q (.int r) false
def spDraw1 : SC := fun ws Q => ∃ m : Int, ws = [.tk1, .scr, .int m] ∧ 0 < m ∧ m < 2 ^ 256 ∧ ∀ r : Int, 0 ≤ r → r < m → Q (.int r) false
end
end VL
end

section
set_option Elab.async false
set_option linter.all false
set_option maxRecDepth 100000
/-! VL16: comprehensions with two generators. -/
namespace VL
open PySem PySem.Spec PyProof.Rows L2
section
variable {X : Cx} {K : PySem.W.Frag} {B : Hp} {F0 F F' G : Fz} {η η' : Nv} {σ σ' : L2.St} {H H' : Hp} {Q0 : W → Bool → Prop} {Q : VK} {e a b c tg it tg1 it1 elt : Expr} {es ifs ifs1 : List Expr} {pos : Pos} {wa wb wc we : TWE} {u : TWA} {ta tb : TWT} {x y : Str} {i j : Nat} {p : Pos} {st : Stmt} {sts : List Stmt} {w w' : TWS}
/-- a target keeps what stands off it, and freezes its own -/
def GO (vg : List Nat) (η η' : Nv) : Prop := (∀ l, l ∉ vg → gt η' l = gt η l) ∧ ∀ l, l ∈ vg → ¬ hold η' l
def GG (vg : List Nat) (g : TWG) : Prop := ∀ (w : W) (η : Nv) (Q Q' : Nv → Prop), (∀ η', GO vg η η' → Q η' → Q' η') → g w η Q → g w η Q'
def GGs (vg : List Nat) (g : TWGs) : Prop := ∀ (w : List W) (η : Nv) (Q Q' : Nv → Prop), (∀ η', GO vg η η' → Q η' → Q' η') → g w η Q → g w η Q'
theorem gt_ge : ∀ (η : Nv) (i : Nat), η.length ≤ i → gt η i = .no
  | [], _, _ => rfl
  | _ :: _, 0, h => absurd h (by simp)
  | _ :: η, i + 1, h => gt_ge η i (by simpa using h)
theorem gg_n (i : Nat) : GG [i] (gN i) := fun w η Q Q' k ⟨hl, q⟩ => ⟨hl, k _ ⟨fun l h => gt_set_ne _ _ _ _ fun z => h (by rw [z]; exact List.mem_cons_self), fun l h hh => by
  have : l = i := List.mem_singleton.mp h
  subst this
  obtain ⟨w', z⟩ := hh
  rw [gt_set] at z
  by_cases c : l < η.length
  · rw [if_pos ⟨rfl, c⟩] at z
    rcases z with z | z <;> cases z
  · rw [if_neg (fun h => c h.2), gt_ge η l (by omega)] at z
    rcases z with z | z <;> cases z⟩ q⟩
theorem ggs_nil : GGs [] gsNil := fun w η Q Q' k ⟨e, q⟩ => ⟨e, k _ ⟨fun _ _ => rfl, fun _ h => by cases h⟩ q⟩
theorem hold_eq {η η' : Nv} {l : Nat} (h : gt η' l = gt η l) (k : hold η' l) : hold η l := by
  obtain ⟨w, z⟩ := k
  rw [h] at z
  exact ⟨w, z⟩
theorem GO.trans {v1 v2 : List Nat} {η η1 η2 : Nv} (a : GO v1 η η1) (b : GO v2 η1 η2) : GO (v1 ++ v2) η η2 := by
  refine ⟨fun l h => (b.1 l fun z => h (List.mem_append_right _ z)).trans (a.1 l fun z => h (List.mem_append_left _ z)), fun l h k => ?_⟩
  by_cases c : l ∈ v2
  · exact b.2 l c k
  · exact a.2 l ((List.mem_append.mp h).resolve_right c) (hold_eq (b.1 l c) k)
theorem ggs_cons {vg vgs : List Nat} {g : TWG} {gs : TWGs} (h : GG vg g) (hs : GGs vgs gs) : GGs (vg ++ vgs) (gsCons g gs) := fun ws η Q Q' k q => by
  cases ws with
  | nil => exact q.elim
  | cons w r => exact h w η _ _ (fun η1 g1 q1 => hs r η1 _ _ (fun η2 g2 q2 => k η2 (g1.trans g2) q2) q1) q
theorem gg_t {vg : List Nat} {n : Nat} {gs : TWGs} (hs : GGs vg gs) : GG vg (gT n gs) := fun w η Q Q' k q => by
  cases w with
  | tup ws => exact ⟨q.1, hs ws η _ _ k q.2⟩
  | _ => exact q.elim
theorem Rel.after {B3 : Hp} {F03 F2 : Fz} {H2 : Hp} {ηw η3 : Nv} {σw σ3 : L2.St} {vg : List Nat} (R : Rel K H' F' F' ηw σw H') (R3 : Rel K B3 F03 F2 η3 σ3 H2) (l : Le F2 F') (go : GO vg ηw η3) (of : Off vg σw σ3) : Rel K H' F' F' η3 σ3 H' where
  sub := R.sub
  le := Le.refl _
  kp := fun _ _ e _ => e
  nw := fun c f q => .inl ⟨f, q⟩
  fr := fun i w q => by
    by_cases c : i ∈ vg
    · obtain ⟨v, e, r⟩ := R3.fr i w q
      exact ⟨v, e, Rep.mono K l _ _ r⟩
    · obtain ⟨v, e, r⟩ := R.fr i w ((go.1 i c).symm.trans q)
      exact ⟨v, (of.2 i c).trans e, r⟩
  ow := fun i w q => by
    by_cases c : i ∈ vg
    · exact absurd ⟨w, .inl q⟩ (go.2 i c)
    · obtain ⟨a, o, e, r⟩ := R.ow i w ((go.1 i c).symm.trans q)
      exact ⟨a, o, (of.2 i c).trans e, r⟩
  lk := fun i w q => by
    by_cases c : i ∈ vg
    · exact absurd ⟨w, .inr q⟩ (go.2 i c)
    · obtain ⟨a, o, e, r⟩ := R.lk i w ((go.1 i c).symm.trans q)
      exact ⟨a, o, (of.2 i c).trans e, r⟩
  sep := fun i j a h1 h2 e1 e2 => by
    have c1 : i ∉ vg := fun c => go.2 i c h1
    have c2 : j ∉ vg := fun c => go.2 j c h2
    exact R.sep i j a (hold_eq (go.1 i c1) h1) (hold_eq (go.1 j c2) h2) ((of.2 i c1).symm.trans e1) ((of.2 j c2).symm.trans e2)
  len := R3.len
def lcGo2 (f : W → List W → (List W → Prop) → Prop) : List W → List W → (List W → Prop) → Prop
  | [], acc, Q => Q acc
  | w :: ws, acc, Q => ∃ N : List W → Prop, (∀ a, N a → lcGo2 f ws a Q) ∧ f w acc N
def lcEl2 (g : TWG) (tt : TWT) (wi1 : TWI) (g1 : TWG) (tt1 : TWT) (te : TWE) (vs1 : List Nat) (η : Nv) (w : W) (acc : List W) (N : List W → Prop) : Prop :=
  g w η fun η2 => tt η2 fun c => if c = true then wi1 η2 fun ws1 => lcGo (lcEl g1 tt1 te (wipeN η2 vs1)) ws1 acc N else N acc
def eLc2 (wi : TWI) (g : TWG) (tt : TWT) (wi1 : TWI) (g1 : TWG) (tt1 : TWT) (te : TWE) (vs vs1 : List Nat) : TWE := fun η Q => wi (lks η) fun ws => lcGo2 (lcEl2 g tt wi1 g1 tt1 te vs1 (wipeN (lks η) vs)) ws [] fun out => Q (.lst out) true
theorem wipe_off (η : Nv) (σ : L2.St) : ∀ (us : List Nat) (l : Nat), l ∉ us → gt (wipeN η us) l = gt η l ∧ (wipe σ us)[l]? = σ[l]? := by
  intro us
  induction us with
  | nil => intro l _; exact ⟨rfl, rfl⟩
  | cons v us ih =>
    intro l h
    have ne : v ≠ l := fun z => h (by rw [z]; exact List.mem_cons_self)
    obtain ⟨z1, z2⟩ := ih l (fun z => h (List.mem_cons_of_mem _ z))
    exact ⟨by unfold wipeN; rw [gt_set_ne _ _ _ _ ne]; exact z1, by unfold wipe; rw [List.getElem?_set_ne ne]; exact z2⟩
/-- what a turn leaves, with what is kept -/
theorem Blk.more {F1 F' F2 F4 : Fz} {H1 H' H2 H4 : Hp} {D : Addr} {out : List W} (b : Blk K F1 H1 D F' H' out) (l3 : Le F' F2) (c2 : CPost F' H' F2 H2) (l4 : Le F2 F4) (c4 : CPost F2 H2 F4 H4) : Blk K F1 H1 D F4 H4 out := by
  have c5 := CPost.trans l3 c2 c4
  obtain ⟨acc, hA, rA⟩ := b.hD
  have c6 := CPost.trans b.le b.post c5
  refine ⟨b.le.trans (l3.trans l4), c5.sub, ?_, ⟨acc, c5.kp D _ hA (by rw [b.fD]; rfl), Reps.mono K (l3.trans l4) _ _ rA⟩, c6.kp, c6.nw⟩
  cases z : F4 D with
  | none => rfl
  | some f =>
    rcases c5.nw D f z with ⟨g, y⟩ | y
    · rw [b.fD] at y; cases y
    · rw [hA] at y; cases y
theorem blk_run2 {F1 : Fz} {H1 : Hp} {D : Addr} {g g1 : TWG} {tt tt1 : TWT} {wi1 : TWI} {te : TWE} {vs vg vs1 vg1 : List Nat} {J : It} {ws : List W} {pl pl1 : Option Nat} {Q0 : W → Bool → Prop} {Q : VK} (R1 : Rel K B F0 F1 η σ H1) (hD : H1 D = none) (ok : ItOk K J ws pl F1 (lks η) σ) (hp : ∀ l, pl = some l → l ∉ vs) (hv : ∀ i, i ∈ vg → i ∈ vs)
    (hp1 : ∀ l, pl1 = some l → l ∉ vs1) (hv1 : ∀ i, i ∈ vg1 → i ∈ vs1) (gg : GG vg g)
    (q : lcGo2 (lcEl2 g tt wi1 g1 tt1 te vs1 (wipeN (lks η) vs)) ws [] fun out => Q0 (.lst out) true) (k : Kon K B F0 F1 η σ Q0 Q) :
    ∃ W : Nat → Nat → Hp → Prop, (∃ m, W 0 m (upd H1 D (.lst []))) ∧ ∀ i m H, W i m H →
      (J.stop i H ∧ Q (.ref D) H) ∨ (J.go i H ∧ ∃ Nx : Hp → Prop, (∀ H', Nx H' → ∃ m', m' < m ∧ W (i + 1) m' H') ∧ ∀ x H', J.yld i H x H' → tG K vg g x (wipe σ vs) H' fun σ2 H2 => wipe σ2 vs = wipe σ vs ∧ tT K tt σ2 H2 fun b H3 =>
        if b = true then tI K pl1 wi1 σ2 H3 fun J1 H4 => ∃ W1 : Nat → Nat → Hp → Prop, (∃ m, W1 0 m H4) ∧ ∀ j k H, W1 j k H →
          (J1.stop j H ∧ Nx H) ∨ (J1.go j H ∧ ∃ Nx1 : Hp → Prop, (∀ H', Nx1 H' → ∃ k', k' < k ∧ W1 (j + 1) k' H') ∧ ∀ x H', J1.yld j H x H' → tG K vg1 g1 x (wipe σ2 vs1) H' fun σ3 H5 => wipe σ3 vs1 = wipe σ2 vs1 ∧ tT K tt1 σ3 H5 fun b H6 =>
            if b = true then tE K te σ3 H6 fun y H7 => ∃ acc, H7 D = some (.lst acc) ∧ acc.length < sizeLine ∧ Nx1 (upd H7 D (.lst (acc ++ [y]))) else Nx1 H6)
        else Nx H3) := by
  have relAt : ∀ {F' : Fz} {H' : Hp} {out : List W}, Blk K F1 H1 D F' H' out → Rel K H' F' F' (wipeN (lks η) vs) (wipe σ vs) H' := fun {F' H' out} b => ((R1.call b.le b.post).within).wipe vs
  have post : ∀ {F2 F4 : Fz} {H2 H4 : Hp} {η4 : Nv} {σ4 : L2.St}, Rel K H2 F2 F4 η4 σ4 H4 → CPost F2 H2 F4 H4 := fun {F2 F4 H2 H4 η4 σ4} R => ⟨R.sub, R.kp, R.nw⟩
  have grow : ∀ {F5 : Fz} {H5 : Hp} {out : List W} {v : V} {r : W} {acc : List V}, Blk K F1 H1 D F5 H5 out → H5 D = some (.lst acc) → Reps K F5 out acc → Rep K F5 r v → Blk K F1 H1 D F5 (upd H5 D (.lst (acc ++ [v]))) (out ++ [r]) := fun {F5 H5 out v r acc} b5 hA rA hr => by
    refine ⟨b5.le, b5.sub.keep fun c f e => ?_, b5.fD, ⟨acc ++ [v], upd_same, rA.append (reps_cons hr reps_nil)⟩, fun c o e t => ?_, b5.nw⟩
    · rw [upd_ne (fun z => by rw [z, b5.fD] at e; cases e)]
    · rw [upd_ne (ne_of_none e hD)]; exact b5.kp c o e t
  refine ⟨fun i m H => ∃ F' out, m = ws.length - i ∧ i ≤ ws.length ∧ Blk K F1 H1 D F' H out ∧ lcGo2 (lcEl2 g tt wi1 g1 tt1 te vs1 (wipeN (lks η) vs)) (ws.drop i) out fun out => Q0 (.lst out) true, ⟨_, F1, [], rfl, Nat.zero_le _, ⟨Le.refl _, (R1.alloc hD).sub, R1.free hD, ⟨[], upd_same, reps_nil⟩, fun c o e _ => ?_, fun c f q => .inl ⟨f, q⟩⟩, q⟩, ?_⟩
  · rw [upd_ne (ne_of_none e hD)]; exact e
  rintro i m H' ⟨F', out, rfl, hi, b, q⟩
  have R' := relAt b
  obtain ⟨st, go⟩ := ok i H' F' F' _ _ H' b.le (fun l w e z => by
    obtain ⟨z1, z2⟩ := wipe_off (lks η) σ vs l (hp l e)
    exact ⟨z1.trans z, z2⟩) R'
  by_cases h : i < ws.length
  · obtain ⟨hgo, hy⟩ := go ws[i] (List.getElem?_eq_getElem h)
    rw [List.drop_eq_getElem_cons h] at q
    refine .inr ⟨hgo, fun H2 => ∃ F2 out2, Blk K F1 H1 D F2 H2 out2 ∧ lcGo2 (lcEl2 g tt wi1 g1 tt1 te vs1 (wipeN (lks η) vs)) (ws.drop (i + 1)) out2 fun out => Q0 (.lst out) true, fun H2 ⟨F2, out2, z⟩ => ⟨ws.length - (i + 1), by omega, F2, out2, rfl, h, z⟩, fun x H2 hx => ?_⟩
    obtain ⟨F2, l3, R2, c2, rep⟩ := hy x H2 hx
    obtain ⟨Nn, hNn, q⟩ := q
    have b2 : Blk K F1 H1 D F2 H2 out := b.more l3 c2 (Le.refl _) (.refl c2.sub)
    have R2' : Rel K H2 F2 F2 (wipeN (lks η) vs) (wipe σ vs) H2 := relAt b2
    refine ⟨H2, F2, F2, _, ws[i], _, R2', rep, gg _ _ _ (fun η' => (tt η' fun c => if c = true then wi1 η' fun ws1 => lcGo (lcEl g1 tt1 te (wipeN η' vs1)) ws1 out Nn else Nn out) ∧ GO vg (wipeN (lks η) vs) η') (fun η' go q => ⟨q, go⟩) q, fun η3 q3 σ3 lk3 s3 R3 => ⟨?_, H2, F2, F2, η3, _, R3, q3.1, fun c q4 F4 H4 l4 R4 => ?_⟩⟩
    · have e1 : wipe σ3 vs = wipe (wipe σ vs) vs := wipe_eq s3.1 fun l hl => s3.2 l fun z => hl (hv l z)
      have e2 : wipe (wipe σ vs) vs = wipe σ vs := wipe_eq (wipe_length _ _) fun l hl => (wipe_off η σ vs l hl).2
      rw [e1, e2]
    · have b4 : Blk K F1 H1 D F4 H4 out := b2.more (Le.refl _) (.refl b2.sub) l4 (post R4)
      cases c with
      | false => exact ⟨F4, out, b4, hNn _ q4⟩
      | true =>
        refine ⟨H2, F2, F4, η3, _, R4, (by rw [if_pos rfl] at q4; exact q4), fun ws1 q5 F5 H5 J1 l5 R5 ok1 => ?_⟩
        have l25 : Le F2 F5 := l4.trans l5
        have b5 : Blk K F1 H1 D F5 H5 out := b2.more (Le.refl _) (.refl b2.sub) l25 (post R5)
        have relIn : ∀ {F' : Fz} {H' : Hp} {out : List W}, Blk K F1 H1 D F' H' out → Le F5 F' → Rel K H' F' F' (wipeN η3 vs1) (wipe σ3 vs1) H' := fun {F' H' out} b l => ((relAt b).after R3 (l25.trans l) q3.2 s3).wipe vs1
        refine ⟨fun j k H => ∃ F' out, k = ws1.length - j ∧ j ≤ ws1.length ∧ Blk K F1 H1 D F' H out ∧ Le F5 F' ∧ lcGo (lcEl g1 tt1 te (wipeN η3 vs1)) (ws1.drop j) out Nn, ⟨_, F5, out, rfl, Nat.zero_le _, b5, Le.refl _, q5⟩, ?_⟩
        rintro j k H6 ⟨F6, out6, rfl, hj, b6, l6, q6⟩
        have R6 := relIn b6 l6
        obtain ⟨st1, go1⟩ := ok1 j H6 F6 F6 _ _ H6 l6 (fun l w e z => by
          obtain ⟨z1, z2⟩ := wipe_off η3 σ3 vs1 l (hp1 l e)
          exact ⟨z1.trans z, z2⟩) R6
        by_cases h1 : j < ws1.length
        · obtain ⟨hgo1, hy1⟩ := go1 ws1[j] (List.getElem?_eq_getElem h1)
          rw [List.drop_eq_getElem_cons h1] at q6
          refine .inr ⟨hgo1, fun H2 => ∃ F2 out2, Blk K F1 H1 D F2 H2 out2 ∧ Le F5 F2 ∧ lcGo (lcEl g1 tt1 te (wipeN η3 vs1)) (ws1.drop (j + 1)) out2 Nn, fun H2 ⟨F2, out2, z⟩ => ⟨ws1.length - (j + 1), by omega, F2, out2, rfl, h1, z⟩, fun x1 H7 hx1 => ?_⟩
          obtain ⟨F7, l7, R7, c7, rep1⟩ := hy1 x1 H7 hx1
          obtain ⟨Nm, hNm, q6⟩ := q6
          have b7 : Blk K F1 H1 D F7 H7 out6 := b6.more l7 c7 (Le.refl _) (.refl c7.sub)
          have l57 : Le F5 F7 := l6.trans l7
          have R7' := relIn b7 l57
          refine ⟨H7, F7, F7, _, ws1[j], _, R7', rep1, q6, fun η8 q8 σ8 lk8 s8 R8 => ⟨?_, H7, F7, F7, η8, _, R8, q8, fun c q9 F9 H9 l9 R9 => ?_⟩⟩
          · have e1 : wipe σ8 vs1 = wipe (wipe σ3 vs1) vs1 := wipe_eq s8.1 fun l hl => s8.2 l fun z => hl (hv1 l z)
            have e2 : wipe (wipe σ3 vs1) vs1 = wipe σ3 vs1 := wipe_eq (wipe_length _ _) fun l hl => (wipe_off η3 σ3 vs1 l hl).2
            rw [e1, e2]
          · cases c with
            | true =>
              refine ⟨H7, F7, F9, η8, fun r _ => Nm (some r), R9, ?_, fun r bb q10 F10 H10 v l10 R10 hv10 => ?_⟩
              · rw [if_pos rfl] at q9
                exact q9
              · obtain ⟨hz, q10⟩ := hNm _ q10
                obtain ⟨G11, l11, R11, hr⟩ := R10.cool hv10
                have l711 : Le F7 G11 := (l9.trans l10).trans l11
                have b11 : Blk K F1 H1 D G11 H10 out6 := b7.more (Le.refl _) (.refl b7.sub) l711 (post R11)
                obtain ⟨acc, hA, rA⟩ := b11.hD
                exact ⟨acc, hA, by rw [← rA.length]; exact hz, G11, out6 ++ [r], grow b11 hA rA hr, l57.trans l711, q10⟩
            | false => exact ⟨F9, out6, b7.more (Le.refl _) (.refl b7.sub) l9 (post R9), l57.trans l9, hNm _ q9⟩
        · refine .inl ⟨st1 (by omega), ?_⟩
          rw [List.drop_eq_nil_of_le (by omega)] at q6
          exact ⟨F6, out6, b6, hNn _ q6⟩
  · refine .inl ⟨st (by omega), ?_⟩
    rw [List.drop_eq_nil_of_le (by omega)] at q
    obtain ⟨acc, hA, rA⟩ := b.hD
    refine k _ true q F' H' _ b.le (R1.call b.le b.post) ⟨D, _, rfl, b.fD, R1.freeB hD, hA, ⟨acc, rfl, rA⟩, fun l hl => R1.holdNe hD hl⟩
theorem lc2_read {wi wi1 : TWI} {g g1 : TWG} {tt tt1 : TWT} {te : TWE} {pl pl1 : Option Nat} {vg vs vg1 vs1 : List Nat} (R : Rel K B F0 F η σ H) (w : eLc2 wi g tt wi1 g1 tt1 te vs vs1 η Q0) (k : Kon K B F0 F η σ Q0 Q) (hp : ∀ l, pl = some l → l ∉ vs) (hv : ∀ i, i ∈ vg → i ∈ vs)
    (hp1 : ∀ l, pl1 = some l → l ∉ vs1) (hv1 : ∀ i, i ∈ vg1 → i ∈ vs1) (gg : GG vg g) :
    tLc2 (tI K pl wi) (tG K vg g) (tT K tt) (tI K pl1 wi1) (tG K vg1 g1) (tT K tt1) (tE K te) vs vs1 σ H Q := by
  refine ⟨B, F0, F, lks η, _, R.locked, w, fun ws q F1 H1 J l1 R1 ok D hD => ?_⟩
  have R1' : Rel K B F0 F1 η σ H1 := R.relock (η2 := η) l1 R1 fun i w q => by
    obtain ⟨d, o, e, _, hB, _⟩ := R.ow i w q
    exact ⟨d, e, hB⟩
  exact blk_run2 R1' hD ok hp hv hp1 hv1 gg q (k.le l1)
theorem sSetLc2 (m : Bool) (i : Nat) {pe spos : Pos} {scope : Scope} (own : List (Str × Nat)) (vs1 : List Nat) {wi wi1 : TWI} {g g1 : TWG} {tt tt1 : TWT} {te : TWE} {pl pl1 : Option Nat} {vg vg1 : List Nat} (hN : X.N.Nodup) (hi : RI X tg it pl wi)
    (hg : ∀ (s : Shared) (H : Hp) (C : Addr) (cl : List (Str × Addr)) (fp : List Addr), RG (X.blk s H scope (compEnvC scope cl C X.env) fp) tg vg g) (gg : GG vg g) (ht : ∀ (s : Shared) (H : Hp) (C : Addr) (cl : List (Str × Addr)) (fp : List Addr), RTs (X.blk s H scope (compEnvC scope cl C X.env) fp) ifs tt)
    (hi1 : ∀ (s : Shared) (H : Hp) (C : Addr) (cl : List (Str × Addr)) (fp : List Addr), RI (X.blk s H scope (compEnvC scope cl C X.env) fp) tg1 it1 pl1 wi1)
    (hg1 : ∀ (s : Shared) (H : Hp) (C : Addr) (cl : List (Str × Addr)) (fp : List Addr), RG (X.blk s H scope (compEnvC scope cl C X.env) fp) tg1 vg1 g1) (ht1 : ∀ (s : Shared) (H : Hp) (C : Addr) (cl : List (Str × Addr)) (fp : List Addr), RTs (X.blk s H scope (compEnvC scope cl C X.env) fp) ifs1 tt1)
    (he : ∀ (s : Shared) (H : Hp) (C : Addr) (cl : List (Str × Addr)) (fp : List Addr), RE (X.blk s H scope (compEnvC scope cl C X.env) fp) elt te)
    (ok : BlkOk X.N X.env.scope scope own) (hp : ∀ l, pl = some l → l ∉ own.map (·.2)) (hv : ∀ i, i ∈ vg → i ∈ own.map (·.2))
    (hp1 : ∀ l, pl1 = some l → l ∉ vs1) (hv1 : ∀ i, i ∈ vg1 → i ∈ vs1) (hvv : ∀ i ∈ vs1, i ∈ own.map (·.2))
    (hsw : swapsWith (.ListComp elt [⟨tg, it, ifs, 0⟩, ⟨tg1, it1, ifs1, 0⟩] scope pos) (some (.Name y pe)) spos.line X.env = pure true)
    (hc : X.calm = true := by rfl) (hy : X.N[i]? = some y := by rfl) (hyl : X.env.scope.names.lookup y = some .local := by rfl)
    (hs : ∀ x, foldedSetIterable it X.env x = pure x := by intro _; rfl) (hs1 : ∀ env x, foldedSetIterable it1 env x = pure x := by intro _ _; rfl) :
    RS X (.Assign [.Name y pe] (.ListComp elt [⟨tg, it, ifs, 0⟩, ⟨tg1, it1, ifs1, 0⟩] scope pos) spos) (wSetM m i (eLc2 wi g tt wi1 g1 tt1 te (own.map (·.2)) vs1)) := by
  refine PS.imp (ps_setLc2 (wi1 := tI X.K pl1 wi1) (g := tG X.K vg g) (tt := tT X.K tt) (g1 := tG X.K vg1 g1) (tt1 := tT X.K tt1) (te := tE X.K te) hc hN hy hyl hsw hi ok hvv hg ht hi1 hg1 ht1 he hs hs1) fun D σ H q => ?_
  obtain ⟨B, F0, F, η, D0, R, ⟨hl, w⟩, k⟩ := q
  refine lc2_read R w (fun r fr q F' H' v l R' hv => ?_) hp hv hp1 hv1 gg
  cases m with
  | true => exact k.nx _ q F' _ H' l (put_lk hl) (R'.put hv)
  | false =>
    obtain ⟨G, l2, R2, rep⟩ := R'.cool hv
    exact k.nx _ q G _ H' (l.trans l2) (lk_set hl) (R2.put (fr := false) rep)
theorem eLc2r {scope : Scope} (own : List (Str × Nat)) (vs1 : List Nat) {wi wi1 : TWI} {g g1 : TWG} {tt tt1 : TWT} {te : TWE} {pl pl1 : Option Nat} {vg vg1 : List Nat} (hN : X.N.Nodup) (hi : RI X tg it pl wi)
    (hg : ∀ (s : Shared) (H : Hp) (C : Addr) (cl : List (Str × Addr)) (fp : List Addr), RG (X.blk s H scope (compEnvC scope cl C X.env) fp) tg vg g) (gg : GG vg g) (ht : ∀ (s : Shared) (H : Hp) (C : Addr) (cl : List (Str × Addr)) (fp : List Addr), RTs (X.blk s H scope (compEnvC scope cl C X.env) fp) ifs tt)
    (hi1 : ∀ (s : Shared) (H : Hp) (C : Addr) (cl : List (Str × Addr)) (fp : List Addr), RI (X.blk s H scope (compEnvC scope cl C X.env) fp) tg1 it1 pl1 wi1)
    (hg1 : ∀ (s : Shared) (H : Hp) (C : Addr) (cl : List (Str × Addr)) (fp : List Addr), RG (X.blk s H scope (compEnvC scope cl C X.env) fp) tg1 vg1 g1) (ht1 : ∀ (s : Shared) (H : Hp) (C : Addr) (cl : List (Str × Addr)) (fp : List Addr), RTs (X.blk s H scope (compEnvC scope cl C X.env) fp) ifs1 tt1)
    (he : ∀ (s : Shared) (H : Hp) (C : Addr) (cl : List (Str × Addr)) (fp : List Addr), RE (X.blk s H scope (compEnvC scope cl C X.env) fp) elt te)
    (ok : BlkOk X.N X.env.scope scope own) (hp : ∀ l, pl = some l → l ∉ own.map (·.2)) (hv : ∀ i, i ∈ vg → i ∈ own.map (·.2))
    (hp1 : ∀ l, pl1 = some l → l ∉ vs1) (hv1 : ∀ i, i ∈ vg1 → i ∈ vs1) (hvv : ∀ i ∈ vs1, i ∈ own.map (·.2))
    (hc : X.calm = true := by rfl) (hs : ∀ x, foldedSetIterable it X.env x = pure x := by intro _; rfl) (hs1 : ∀ env x, foldedSetIterable it1 env x = pure x := by intro _ _; rfl) :
    RE X (.ListComp elt [⟨tg, it, ifs, 0⟩, ⟨tg1, it1, ifs1, 0⟩] scope pos) (eLc2 wi g tt wi1 g1 tt1 te (own.map (·.2)) vs1) := by
  refine PE.imp (pe_lc2 (wi1 := tI X.K pl1 wi1) (g := tG X.K vg g) (tt := tT X.K tt) (g1 := tG X.K vg1 g1) (tt1 := tT X.K tt1) (te := tE X.K te) hc hN hi ok hvv hg ht hi1 hg1 ht1 he hs hs1) fun σ H Q q => ?_
  obtain ⟨B, F0, F, η, Q0, R, w, k⟩ := q
  exact lc2_read R w k hp hv hp1 hv1 gg
theorem eLc2_b (wi : TWI) (g : TWG) (tt : TWT) (wi1 : TWI) (g1 : TWG) (tt1 : TWT) (te : TWE) (vs vs1 : List Nat) (η : Nv) (Q : W → Bool → Prop) : eLc2 wi g tt wi1 g1 tt1 te vs vs1 η Q = wi (lks η) fun ws => lcGo2 (lcEl2 g tt wi1 g1 tt1 te vs1 (wipeN (lks η) vs)) ws [] fun out => Q (.lst out) true := rfl
theorem lcEl2_b (g : TWG) (tt : TWT) (wi1 : TWI) (g1 : TWG) (tt1 : TWT) (te : TWE) (vs1 : List Nat) (η : Nv) (w : W) (acc : List W) (N : List W → Prop) : lcEl2 g tt wi1 g1 tt1 te vs1 η w acc N = Go η (fun η1 => g w η1 fun η2 => tt η2 fun c => Br (c = true) (wi1 η2 fun ws1 => lcGo (lcEl g1 tt1 te (wipeN η2 vs1)) ws1 acc N) (N acc) .mk .mk) .mk := rfl
theorem lcGo2_b (f : W → List W → (List W → Prop) → Prop) (acc : List W) (Q : List W → Prop) : lcGo2 f [] acc Q = Q acc := rfl
/-- each item of a mapped list adds k of it -/
theorem lcGo2_pre {α : Type} {h : W → List W → (List W → Prop) → Prop} {Q : List W → Prop} {f : α → W} {L : List α} (P : List α → List W → Prop) (h0 : P [] [])
    (hs : ∀ (A B : List α) (x : α) (acc : List W), L = A ++ x :: B → P A acc → h (f x) acc fun a => P (A ++ [x]) a) (hd : ∀ acc, P L acc → Q acc) : lcGo2 h (L.map f) [] Q := by
  have go : ∀ (B A : List α) (acc : List W), L = A ++ B → P A acc → lcGo2 h (B.map f) acc Q := by
    intro B
    induction B with
    | nil => intro A acc e p; rw [List.append_nil] at e; subst e; exact hd acc p
    | cons x B ih =>
      intro A acc e p
      exact ⟨_, fun a q => ih (A ++ [x]) a (by rw [e, List.append_assoc]; rfl) q, hs A B x acc e p⟩
  exact go L [] [] rfl h0
/-- the inner list, from what is there -/
theorem lcGo_on {α : Type} {h : W → (Option W → Prop) → Prop} {Q : List W → Prop} {f k : α → W} {L : List α} {acc : List W} (hl : acc.length + L.length ≤ sizeLine)
    (hs : ∀ x, x ∈ L → h (f x) fun o => o = some (k x)) (hd : Q (acc ++ L.map k)) : lcGo h (L.map f) acc Q := by
  have go : ∀ (B : List α) (acc : List W), acc.length + B.length ≤ sizeLine → (∀ x, x ∈ B → h (f x) fun o => o = some (k x)) → Q (acc ++ B.map k) → lcGo h (B.map f) acc Q := by
    intro B
    induction B with
    | nil => intro acc _ _ q; simpa [lcGo] using q
    | cons x B ih =>
      intro acc e p q
      rw [List.length_cons] at e
      refine ⟨fun o => o = some (k x), fun o z => ?_, p x List.mem_cons_self⟩
      subst z
      refine ⟨by omega, ih (acc ++ [k x]) (by rw [List.length_append, List.length_singleton]; omega) (fun y hy => p y (List.mem_cons_of_mem _ hy)) ?_⟩
      rw [List.append_assoc]; exact q
  exact go L acc hl hs hd
end
end VL
end

section
set_option Elab.async false
set_option linter.all false
set_option maxRecDepth 100000
/-! VL17: ranges with a step up. -/
namespace VL
open PySem PySem.Spec PyProof.Rows L2
section
variable {X : Cx} {K : PySem.W.Frag} {B : Hp} {F0 F F' G : Fz} {η η' : Nv} {σ σ' : L2.St} {H H' : Hp} {a b c tg : Expr} {u : TWA} {p pos : Pos}
/-- how many of range(m, n, c) -/
def stp (m n c : Int) : Nat := if m < n then ((n - m - 1) / c + 1).toNat else 0
theorem rgc_up {i j c : Int} (hc : 1 ≤ c) (hc2 : c < 1000000) (ha : -(2 ^ 62) ≤ i) (ha' : i < 2 ^ 62) (hb : -(2 ^ 62) ≤ j) (hb' : j < 2 ^ 62) : RgC i j c (stp i j c) := by
  have sz : Builtin.Range.rangeSize i j c = (stp i j c : Nat) := by
    unfold Builtin.Range.rangeSize stp
    rw [if_pos (by omega)]
    split
    · have := Int.ediv_nonneg (a := j - i - 1) (b := c) (by omega) (by omega)
      omega
    · rfl
  refine ⟨by omega, by omega, ?_, sz⟩
  unfold Builtin.Range.small
  have le : i < j → (j - i - 1) / c ≤ j - i - 1 := fun h => Int.ediv_le_self c (by omega)
  have le0 : i < j → 0 ≤ (j - i - 1) / c := fun h => Int.ediv_nonneg (by omega) (by omega)
  have lm : i < j → (j - i - 1) / c * c ≤ j - i - 1 := fun h => Int.ediv_mul_le _ (by omega)
  unfold Builtin.Range.rangeSize
  simp only [Builtin.Range.rangeFitsLong, Bool.and_eq_true, Bool.or_eq_true, decide_eq_true_eq, beq_iff_eq, show c > 0 by omega, if_true]
  refine ⟨⟨⟨⟨⟨by omega, by omega⟩, by omega, by omega⟩, by omega, by omega⟩, ?_⟩, .inr ⟨by omega, by omega⟩⟩
  split
  · rename_i h
    have := le h
    have := le0 h
    generalize (j - i - 1) / c = z at *
    omega
  · omega
def iRangeC (u : TWA) : TWI := fun η Q => u η fun ws _ => match ws with
  | [.int m, .int n, .int c] => (Rg m ∧ Rg n) ∧ (1 ≤ c ∧ c < 1000000) ∧ Q (rgcW m c (stp m n c))
  | _ => False
theorem ri_rangeC (hg : Gl X "range") (hm : X.mg "range" = none) (ha : RA X [a, b, c] u)
    (hs : starEach [a, b, c] X.env = (false, eval a X.env) :: starEach [b, c] X.env := by rfl) (hs2 : (backTo pos (starEach [b, c] X.env)).any (·.1) = false := by rfl) : RI X tg (.Call (.Name "range" p) [a, b, c] [] pos) none (iRangeC u) :=
  PI.imp (pi_range3 hg hm ha hs hs2) fun σ H R q => by
    obtain ⟨B, F0, F, η, Q0, R0, w, k⟩ := q
    refine ⟨B, F0, F, η, _, R0, w, fun ws b q F1 H1 vs l1 R1 hv => ?_⟩
    split at q
    · rename_i m n c
      obtain ⟨⟨⟨h1, h2⟩, h3, h4⟩, ⟨c1, c2⟩, q⟩ := q
      obtain ⟨v, v', v'', e, h, h', h''⟩ := hv.three
      exact ⟨m, n, c, _, by rw [e, R1.int h, R1.int h', R1.int h''], rgc_up c1 c2 (by omega) (by omega) (by omega) (by omega), k _ q F1 H1 _ l1 R1 itc_ok⟩
    · exact q.elim
end
end VL
end

section
set_option Elab.async false
set_option linter.all false
set_option maxRecDepth 100000
/-! VL18: dicts: keys whole numbers (dI), tuples of whole numbers (dP). -/
namespace VL
open PySem PySem.Spec PyProof.Rows L2

theorem _root_.L2.Room.u1 {k : Nat} {A : Around} (r : Room k A) : A.units + 1 < cLine := by have := r.un; omega
/-! ### tables by keys and worths -/
section
variable {κ : Type} [DecidableEq κ] {α : Type}
def atK : List κ → List α → κ → Option α
  | k :: ks, x :: xs, j => if k = j then some x else atK ks xs j
  | _, _, _ => none
def putKs (ks : List κ) (k : κ) : List κ := if k ∈ ks then ks else ks ++ [k]
def putXs (ks : List κ) (xs : List α) (k : κ) (r : α) : List α := if k ∈ ks then List.zipWith (fun a x => if a = k then r else x) ks xs else xs ++ [r]
def kIn (ks : List κ) (k : κ) : Bool := decide (k ∈ ks)
theorem valV_zip (j : κ) : ∀ (ks : List κ) (vs : List V), valV (ks.zip vs) j = atK ks vs j
  | [], _ => by unfold valV atK; simp
  | _ :: _, [] => by unfold valV atK; simp
  | k :: ks, v :: vs => by
    show valV ((k, v) :: ks.zip vs) j = if k = j then some v else atK ks vs j
    by_cases h : k = j
    · rw [if_pos h]; exact valV_pos (p := (k, v)) h
    · rw [if_neg h, valV_neg (p := (k, v)) h, valV_zip j ks vs]
theorem any_zip (k : κ) : ∀ (ks : List κ) (vs : List V), ks.length = vs.length → ((ks.zip vs).any fun kv => decide (kv.1 = k)) = decide (k ∈ ks)
  | [], [], _ => by simp
  | [], _ :: _, h => by simp at h
  | _ :: _, [], h => by simp at h
  | a :: ks, v :: vs, h => by
    show (decide (a = k) || ((ks.zip vs).any fun kv => decide (kv.1 = k))) = _
    rw [any_zip k ks vs (by simpa using h)]
    by_cases e : a = k
    · subst e; simp
    · have e' : ¬ k = a := fun z => e z.symm
      simp [e, e']
theorem map_zip (k : κ) (v : V) : ∀ (ks : List κ) (vs : List V), ((ks.zip vs).map fun kv => if kv.1 = k then (kv.1, v) else kv) = ks.zip (List.zipWith (fun a x => if a = k then v else x) ks vs)
  | [], _ => by simp
  | _ :: _, [] => by simp
  | a :: ks, u :: vs => by
    simp only [List.zip_cons_cons, List.map_cons, List.zipWith_cons_cons]
    rw [map_zip k v ks vs]
    by_cases e : a = k <;> simp [e]
theorem put_zip {ks : List κ} {vs : List V} (h : ks.length = vs.length) (k : κ) (v : V) : putK (ks.zip vs) k v = (putKs ks k).zip (putXs ks vs k v) := by
  unfold putK putKs putXs
  rw [any_zip k ks vs h]
  by_cases e : k ∈ ks
  · simp only [decide_eq_true e, if_true, if_pos e]
    exact map_zip k v ks vs
  · simp only [decide_eq_false e, if_neg e]
    rw [if_neg (by decide), List.zip_append h]
    rfl
theorem put_len {ks : List κ} {xs : List α} (h : ks.length = xs.length) (k : κ) (r : α) : (putKs ks k).length = (putXs ks xs k r).length := by
  unfold putKs putXs
  by_cases e : k ∈ ks
  · rw [if_pos e, if_pos e, List.length_zipWith]; omega
  · rw [if_neg e, if_neg e, List.length_append, List.length_append]; simp [h]
theorem atK_in : ∀ {ks : List κ} {xs : List α} {k : κ}, ks.length = xs.length → (atK ks xs k).isSome = kIn ks k
  | [], _, _, _ => by unfold atK kIn; simp
  | _ :: _, [], _, h => by simp at h
  | a :: ks, x :: xs, k, h => by
    show (if a = k then some x else atK ks xs k).isSome = _
    unfold kIn
    by_cases e : a = k
    · subst e; simp
    · have e' : ¬ k = a := fun z => e z.symm
      rw [if_neg e, atK_in (by simpa using h)]
      unfold kIn
      simp [e']
end
section
variable {κ : Type} [DecidableEq κ] {K : PySem.W.Frag} {F : Fz}
theorem Reps.atK : ∀ {ks : List κ} {ws : List W} {vs : List V} {k : κ} {w : W}, Reps K F ws vs → atK ks ws k = some w → ∃ v, VL.atK ks vs k = some v ∧ Rep K F w v
  | [], _, _, _, _, _, h => by unfold VL.atK at h; cases h
  | _ :: _, [], _, _, _, _, h => by unfold VL.atK at h; cases h
  | a :: ks, x :: ws, _, k, w, r, h => by
    unfold Reps at r
    obtain ⟨v, t, e, h1, h2⟩ := r
    subst e
    replace h : (if a = k then some x else VL.atK ks ws k) = some w := h
    show ∃ v_1, (if a = k then some v else VL.atK ks t k) = some v_1 ∧ _
    by_cases c : a = k
    · rw [if_pos c] at h ⊢
      cases h
      exact ⟨v, rfl, h1⟩
    · rw [if_neg c] at h ⊢
      exact Reps.atK h2 h
theorem Reps.atK_no : ∀ {ks : List κ} {ws : List W} {vs : List V} {k : κ}, Reps K F ws vs → VL.atK ks ws k = none → VL.atK ks vs k = none
  | [], _, _, _, _, _ => by unfold VL.atK; rfl
  | _ :: _, [], _, _, r, _ => by unfold Reps at r; subst r; unfold VL.atK; rfl
  | a :: ks, x :: ws, _, k, r, h => by
    unfold Reps at r
    obtain ⟨v, t, e, h1, h2⟩ := r
    subst e
    replace h : (if a = k then some x else VL.atK ks ws k) = none := h
    show (if a = k then some v else VL.atK ks t k) = none
    by_cases c : a = k
    · rw [if_pos c] at h; cases h
    · rw [if_neg c] at h ⊢
      exact Reps.atK_no h2 h
theorem Reps.zw (k : κ) {r : W} {v : V} (hr : Rep K F r v) : ∀ {ks : List κ} {ws : List W} {vs : List V}, Reps K F ws vs → Reps K F (List.zipWith (fun a x => if a = k then r else x) ks ws) (List.zipWith (fun a x => if a = k then v else x) ks vs)
  | [], _, _, _ => by simp; exact reps_nil
  | _ :: _, [], _, h => by unfold Reps at h; subst h; simp; exact reps_nil
  | a :: ks, x :: ws, _, h => by
    unfold Reps at h
    obtain ⟨u, t, e, h1, h2⟩ := h
    subst e
    rw [List.zipWith_cons_cons, List.zipWith_cons_cons]
    refine reps_cons ?_ (Reps.zw k hr h2)
    by_cases c : a = k
    · rw [if_pos c, if_pos c]; exact hr
    · rw [if_neg c, if_neg c]; exact h1
theorem Reps.putXs {ks : List κ} {ws : List W} {vs : List V} (k : κ) {r : W} {v : V} (h : Reps K F ws vs) (hr : Rep K F r v) : Reps K F (VL.putXs ks ws k r) (VL.putXs ks vs k v) := by
  unfold VL.putXs
  by_cases e : k ∈ ks
  · rw [if_pos e, if_pos e]; exact h.zw k hr
  · rw [if_neg e, if_neg e]; exact h.append (reps_cons hr reps_nil)
end

/-! ### keys -/
def keyK : W → Option Key
  | .int i => some (.inl i)
  | .str s => some (.inr s)
  | _ => none
def keyT : W → Option (List Key)
  | .tup ws => (ints? ws).map fun ns => ns.map Sum.inl
  | _ => none
def dAt : W → W → Option W
  | .dK ks xs, k => (keyK k).bind fun k => atK ks xs k
  | .dT ks xs, k => (keyT k).bind fun k => atK ks xs k
  | _, _ => none
def dIn : W → W → Option Bool
  | .dK ks _, k => (keyK k).map fun k => kIn ks k
  | .dT ks _, k => (keyT k).map fun k => kIn ks k
  | _, _ => none
def dPut : W → W → W → Option W
  | .dK ks xs, k, r => (keyK k).map fun k => .dK (putKs ks k) (putXs ks xs k r)
  | .dT ks xs, k, r => (keyT k).map fun k => .dT (putKs ks k) (putXs ks xs k r)
  | _, _, _ => none
def dLen : W → Nat
  | .dK ks _ => ks.length
  | .dT ks _ => ks.length
  | _ => 0
section
variable {X : Cx} {K : PySem.W.Frag} {B : Hp} {F0 F F' G : Fz} {η η' : Nv} {σ σ' : L2.St} {H H' : Hp} {Q0 : W → Bool → Prop} {Q : VK} {e a b c tg it : Expr} {es : List Expr} {pos p : Pos} {wa wb wc wd wk we : TWE} {u : TWA} {ta tb : TWT} {x y z : Str} {i j : Nat} {st : Stmt} {sts : List Stmt} {w w' : TWS}
theorem Rel.keyK (R : Rel K B F0 F η σ H) {k : W} {b : Bool} {v : V} {kk : Key} (h : VB K F η σ k b v) (e : VL.keyK k = some kk) : v = kV kk := by
  cases k <;> first | (cases e; done) | skip
  · cases e; exact R.int h
  · cases e; exact R.str h
theorem Rel.keyT (R : Rel K B F0 F η σ H) {k : W} {b : Bool} {v : V} {kk : List Key} (h : VB K F η σ k b v) (e : VL.keyT k = some kk) : ∃ d, v = .ref d ∧ H d = some (.tup (kk.map kV)) := by
  cases k <;> first | (cases e; done) | skip
  rename_i ws
  unfold VL.keyT at e
  obtain ⟨ns, e1, e2⟩ := Option.map_eq_some_iff.mp e
  subst e2
  obtain ⟨d, vs, ev, hH, r⟩ := R.tup h
  have := ints?_eq e1
  subst this
  refine ⟨d, ev, ?_⟩
  rw [hH, reps_ints r, List.map_map]
  rfl
/-- what stands at a key -/
theorem Rel.dget (R : Rel K B F0 F η σ H) {d k r : W} {bd bk : Bool} {vd vk : V} (hd : VB K F η σ d bd vd) (hk : VB K F η σ k bk vk) (e : dAt d k = some r) : ∃ q v, vd = .ref q ∧ DGet H q vk (some v) ∧ Rep K F r v := by
  cases d <;> first | (cases e; done) | skip
  · rename_i ks xs
    unfold dAt at e
    obtain ⟨kk, e1, e2⟩ := Option.bind_eq_some_iff.mp e
    obtain ⟨q, vs, ev, hH, hl, rr⟩ := R.dK hd
    obtain ⟨v, h1, h2⟩ := rr.atK e2
    refine ⟨q, v, ev, ?_, h2⟩
    rw [R.keyK hk e1, ← h1, ← valV_zip]
    exact DGet.k hH
  · rename_i ks xs
    unfold dAt at e
    obtain ⟨kk, e1, e2⟩ := Option.bind_eq_some_iff.mp e
    obtain ⟨q, vs, ev, hH, hl, rr⟩ := R.dT hd
    obtain ⟨v, h1, h2⟩ := rr.atK e2
    obtain ⟨t, et, hT⟩ := R.keyT hk e1
    refine ⟨q, v, ev, ?_, h2⟩
    rw [et, ← h1, ← valV_zip]
    exact DGet.t hH hT
theorem Rel.din (R : Rel K B F0 F η σ H) {d k : W} {r : Bool} {bd bk : Bool} {vd vk : V} (hd : VB K F η σ d bd vd) (hk : VB K F η σ k bk vk) (e : dIn d k = some r) : ∃ q o, vd = .ref q ∧ DGet H q vk o ∧ o.isSome = r := by
  cases d <;> first | (cases e; done) | skip
  · rename_i ks xs
    unfold dIn at e
    obtain ⟨kk, e1, e2⟩ := Option.map_eq_some_iff.mp e
    obtain ⟨q, vs, ev, hH, hl, rr⟩ := R.dK hd
    refine ⟨q, _, ev, by rw [R.keyK hk e1]; exact DGet.k hH, ?_⟩
    rw [valV_zip, atK_in (by rw [hl, rr.length])]
    exact e2
  · rename_i ks xs
    unfold dIn at e
    obtain ⟨kk, e1, e2⟩ := Option.map_eq_some_iff.mp e
    obtain ⟨q, vs, ev, hH, hl, rr⟩ := R.dT hd
    obtain ⟨t, et, hT⟩ := R.keyT hk e1
    refine ⟨q, _, ev, by rw [et]; exact DGet.t hH hT, ?_⟩
    rw [valV_zip, atK_in (by rw [hl, rr.length])]
    exact e2

/-! ### readings -/
def LkC (o : Option W) (Q : W → Bool → Prop) (_ : Dm Q) : Prop := ∃ r, o = some r ∧ Q r false
def InC (o : Option Bool) (K : Bool → Prop) (_ : Dm K) : Prop := ∃ r, o = some r ∧ K r
def eDget (wd wk : TWE) : TWE := fun η Q => wd η fun d _ => wk η fun k _ => LkC (dAt d k) Q .mk
def eDin (n : Bool) (wk wd : TWE) : TWE := fun η Q => wk η fun k _ => wd η fun d _ => InC (dIn d k) (fun r => Q (.bl (r != n)) false) .mk
theorem re_dget (hu : X.A.units + 1 < cLine) (ha : RO X a wd) (hb : RO X b wk) (hs : NoSl b) : RE X (.Subscript a b pos) (eDget wd wk) := PE.imp (pe_dget hu ha hb hs) fun σ H Q q => by
  obtain ⟨B, F0, F, η, Q0, R, w, k⟩ := q
  refine ⟨B, F0, F, η, _, R, w, fun r b q F1 H1 vd l1 R1 hd => ⟨B, F0, F1, η, _, R1, q, fun r2 b2 q2 F2 H2 vk l2 R2 hk => ?_⟩⟩
  obtain ⟨o, e, q2⟩ := q2
  obtain ⟨q, v, ev, g, rep⟩ := R2.dget (hd.mono l2) hk e
  exact ⟨q, v, ev, g, (k.le (l1.trans l2)).sc R2 q2 rep⟩
theorem din_run (n : Bool) (w : tE K (eDin n wk wd) σ H Q) : (tO K wk) σ H fun vk H1 => (tO K wd) σ H1 fun vd H2 => ∃ q o, vd = .ref q ∧ DGet H2 q vk o ∧ Q (.bl (o.isSome != n)) H2 := by
  obtain ⟨B, F0, F, η, Q0, R, w, k⟩ := w
  refine ⟨B, F0, F, η, _, R, w, fun r b q F1 H1 vk l1 R1 hk => ⟨B, F0, F1, η, _, R1, q, fun r2 b2 q2 F2 H2 vd l2 R2 hd => ?_⟩⟩
  obtain ⟨o, e, q2⟩ := q2
  obtain ⟨q, v, ev, g, rep⟩ := R2.din hd (hk.mono l2) e
  exact ⟨q, v, ev, g, by rw [rep]; exact (k.le (l1.trans l2)).bl R2 q2⟩
theorem tO_imp {w : TWE} {Q Q' : VK} (h : ∀ v H, Q v H → Q' v H) (q : tO K w σ H Q) : tO K w σ H Q' := by
  obtain ⟨B, F0, F, η, Q0, R, w, k⟩ := q
  exact ⟨B, F0, F, η, Q0, R, w, fun r b q F1 H1 v l R1 hv => h _ _ (k r b q F1 H1 v l R1 hv)⟩
theorem din_t (w : tE K (eDin false wk wd) σ H Q) : tDIn (tO K wk) (tO K wd) σ H Q := tO_imp (fun v H h => tO_imp (fun v' H' h => by
  obtain ⟨q, o, e, g, k⟩ := h
  exact ⟨q, o, e, g, by simpa using k⟩) h) (din_run false w)
theorem din_f (w : tE K (eDin true wk wd) σ H Q) : tDNotIn (tO K wk) (tO K wd) σ H Q := tO_imp (fun v H h => tO_imp (fun v' H' h => by
  obtain ⟨q, o, e, g, k⟩ := h
  exact ⟨q, o, e, g, by simpa using k⟩) h) (din_run true w)
theorem re_din (hu : X.A.units + 1 < cLine) (hb : RO X b wk) (ha : RO X a wd) (hm : behindInMarks .In a = false) : RE X (.Compare b [.In] [a] pos) (eDin false wk wd) := PE.imp (pe_cmp (pc_din hu hb ha) hm) fun σ H Q q => din_t q
theorem re_dnotin (hu : X.A.units + 1 < cLine) (hb : RO X b wk) (ha : RO X a wd) (hm : behindInMarks .NotIn a = false) : RE X (.Compare b [.NotIn] [a] pos) (eDin true wk wd) := PE.imp (pe_cmp (pc_dnotin hu hb ha) hm) fun σ H Q q => din_f q
theorem rt_din (hu : X.A.units + 1 < cLine) (hb : RO X b wk) (ha : RO X a wd) (hm : behindInMarks .In a = false) : RT X (.Compare b [.In] [a] pos) (bB (eDin false wk wd)) := PT.imp (pt_cmp (pc_din hu hb ha) hm) fun σ H Q q => tB_of (fun σ H Q q => din_t q) σ H Q q
theorem rt_dnotin (hu : X.A.units + 1 < cLine) (hb : RO X b wk) (ha : RO X a wd) (hm : behindInMarks .NotIn a = false) : RT X (.Compare b [.NotIn] [a] pos) (bB (eDin true wk wd)) := PT.imp (pt_cmp (pc_dnotin hu hb ha) hm) fun σ H Q q => tB_of (fun σ H Q q => din_f q) σ H Q q
/-- d[k] = e -/
def PutC (o : Option W) (K : W → Prop) (_ : Dm K) : Prop := ∃ d, o = some d ∧ K d
def wPutD (i : Nat) (we wk : TWE) : TWS := fun D η => match gt η i with
  | .ow d => we η fun r b => b = false ∧ wk η fun k _ => dLen d < sizeLine ∧ PutC (dPut d k r) (fun d' => D.nx (η.set i (.ow d'))) .mk
  | _ => False
theorem Rel.dput (R : Rel K B F0 F η σ H) {d d' k r : W} {bk : Bool} {vd vk vr : V} (q : gt η i = .ow d) (hd : σ[i]? = some (some vd)) (hk : VB K F η σ k bk vk) (hr : Rep K F r vr) (hl : dLen d < sizeLine) (e : dPut d k r = some d') :
    ∃ t H', vd = .ref t ∧ DPut H t vk vr H' ∧ Rel K B F0 F (η.set i (.ow d')) σ H' := by
  obtain ⟨t, o, e1, hF, hB, hH, r0⟩ := R.ow i _ q
  rw [hd] at e1; cases e1
  cases d <;> first | (cases e; done) | skip
  · rename_i ks xs
    unfold dPut at e
    obtain ⟨kk, e1, e2⟩ := Option.map_eq_some_iff.mp e
    subst e2
    obtain ⟨vs, eo, z, rr⟩ := r0
    subst eo
    refine ⟨t, _, rfl, by rw [R.keyK hk e1]; exact DPut.k hH (by rw [List.length_zip, ← rr.length, ← z, Nat.min_self]; exact hl), ?_⟩
    rw [put_zip (by rw [z, rr.length])]
    exact R.mut q hd ⟨_, rfl, put_len z _ _, rr.putXs kk hr⟩
  · rename_i ks xs
    unfold dPut at e
    obtain ⟨kk, e1, e2⟩ := Option.map_eq_some_iff.mp e
    subst e2
    obtain ⟨vs, eo, z, rr⟩ := r0
    subst eo
    obtain ⟨b, eb, hb⟩ := R.keyT hk e1
    refine ⟨t, _, rfl, by rw [eb]; exact DPut.t hH hb (by rw [List.length_zip, ← rr.length, ← z, Nat.min_self]; exact hl), ?_⟩
    rw [put_zip (by rw [z, rr.length])]
    exact R.mut q hd ⟨_, rfl, put_len z _ _, rr.putXs kk hr⟩
theorem rs_dput (i : Nat) {pn ps : Pos} (hu : X.A.units + 1 < cLine) (he : RO X e we) (hk : RO X a wk) (hN : X.N[i]? = some x := by rfl) (hv : Vis X.env.scope x := by first | exact .inl rfl | exact .inr (.inl rfl) | exact .inr (.inr rfl)) (hd : (x == ("__debug__" : Str)) = false := by decide) (hcd : (x == ("__classdict__" : Str)) = false := by decide)
    (hs : swapsWith e (some (.Subscript (.Name x pn) a ps)) pos.line X.env = pure false := by rfl) : RS X (.Assign [.Subscript (.Name x pn) a ps] e pos) (wPutD i we wk) := by
  refine PS.imp (ps_dput hu (pe_var hN hv hd hcd) hk he hs) fun D σ H q => ?_
  obtain ⟨B, F0, F, η, D0, R, w, k⟩ := q
  unfold wPutD at w
  split at w
  · rename_i d z
    obtain ⟨t, _, hd, _⟩ := R.ow i _ z
    refine ⟨B, F0, F, η, _, R, w, fun r b q F1 H1 v l1 R1 hv => ?_⟩
    obtain ⟨rfl, q⟩ := q
    have rep : Rep X.K F1 r v := val_lift (fr := false) R1 hv
    refine ⟨_, hd, B, F0, F1, η, _, R1, q, fun kk bk q F2 H2 vk l2 R2 hk => ?_⟩
    obtain ⟨hl, d', e, q⟩ := q
    obtain ⟨t', H', e2, hp, R3⟩ := R2.dput z hd hk (Rep.mono _ l2 _ _ rep) hl e
    exact ⟨t', H', e2, hp, k.nx _ q F2 σ _ (l1.trans l2) (lk_set' (by rw [z]; rfl)) R3⟩
  · exact w.elim
/-! {} and {k: v} -/
def dI (m : List (Int × W)) : W := .dK (m.map fun p => Sum.inl p.1) (m.map (·.2))
def dP (m : List (List Int × W)) : W := .dT (m.map fun p => p.1.map Sum.inl) (m.map (·.2))
def eDnew : TWE := fun _ Q => Q (dI []) true
def eDnewT : TWE := fun _ Q => Q (dP []) true
theorem re_dnew : RE X (.Dict [] [] pos) eDnew := PE.imp pe_dnewK fun σ H Q q => by
  obtain ⟨B, F0, F, η, Q0, R, w, k⟩ := q
  exact fun p hp => k.new R w ⟨[], rfl, rfl, reps_nil⟩ hp
theorem re_dnewT : RE X (.Dict [] [] pos) eDnewT := PE.imp pe_dnewT fun σ H Q q => by
  obtain ⟨B, F0, F, η, Q0, R, w, k⟩ := q
  exact fun p hp => k.new R w ⟨[], rfl, rfl, reps_nil⟩ hp
def eDone (wk we : TWE) : TWE := fun η Q => wk η fun k _ => match k with
  | .int i => we η fun r b => b = false ∧ Q (dI [(i, r)]) true
  | _ => False
theorem re_done (hk : RO X a wk) (he : RO X e we) : RE X (.Dict [some a] [e] pos) (eDone wk we) := PE.imp (pe_disp (pps_cons hk he pps_nil) (by rfl) (by rfl) (by simp) (by simp)) fun σ H Q q => by
  obtain ⟨B, F0, F, η, Q0, R, w, k⟩ := q
  intro p hp
  have R1 := R.alloc (p := p) (o := .dK []) hp
  have hF := R.free hp
  have hB := R.freeB hp
  have hn : ∀ i, hold η i → σ[i]? ≠ some (some (.ref p)) := fun i hi => R.holdNe hp hi
  have R2 : Rel X.K (upd B p (.dK [])) F0 F η σ (upd H p (.dK [])) := R1.pend hF upd_same hn
  refine ⟨_, F0, F, η, _, R2, w, fun r b q F1 H1 v l1 R3 hv => ?_⟩
  cases r with
  | int i =>
    refine ⟨_, F0, F1, η, _, R3, q, fun r2 b2 q2 F2 H2 v2 l2 R4 hv2 => ?_⟩
    obtain ⟨rfl, q2⟩ := q2
    have tk : isTok (F0 p) = false := by
      cases z : F0 p with
      | none => rfl
      | some f => rw [R.le _ _ z] at hF; cases hF
    have hH2 : H2 p = some (.dK []) := R4.kp p _ upd_same tk
    have hF2 : F2 p = none := by
      cases z : F2 p with
      | none => rfl
      | some f =>
        rcases R4.nw p f z with ⟨g, z⟩ | z
        · rw [R.le _ _ z] at hF; cases hF
        · rw [upd_same] at z; cases z
    have rep : Rep X.K F2 r2 v2 := val_lift (fr := false) R4 hv2
    refine ⟨hH2, [(Sum.inl i, v2)], ?_, by simp, ?_⟩
    · rw [R3.int hv]; rfl
    · have R5 := R4.unpend hB
      have R6 : Rel X.K B F0 F2 η σ (upd H2 p (.dK (mergeK [] [(Sum.inl i, v2)]))) := R5.keep (p := p) (fun a o h n => by rw [upd_ne n]; exact h) hF2 hB hn
      exact k _ true q2 F2 _ _ (l1.trans l2) R6 ⟨p, _, rfl, hF2, hB, upd_same, ⟨[v2], rfl, rfl, reps_cons rep reps_nil⟩, hn⟩
  | _ => exact q.elim
/-! len -/
def cLenD : SC := fun ws Q => match ws with
  | [.dK ks _] => Q (.int ks.length) false
  | [.dT ks _] => Q (.int ks.length) false
  | _ => False
theorem cw_lenD : CW X (.builtin "len") cLenD := by
  refine ⟨_, call_lenD.or call_len_dT, fun B F0 F η σ H ws b vs Q0 Q R hv q k => ?_⟩
  unfold cLenD at q
  split at q
  · obtain ⟨v, e, h⟩ := hv.one
    obtain ⟨d, us, e2, hH, z, r⟩ := R.dK h
    exact .inl ⟨d, _, by rw [e, e2], hH, by rw [List.length_zip, ← r.length, ← z]; simpa using k.int R q⟩
  · obtain ⟨v, e, h⟩ := hv.one
    obtain ⟨d, us, e2, hH, z, r⟩ := R.dT h
    exact .inr ⟨d, _, by rw [e, e2], hH, by rw [List.length_zip, ← r.length, ← z]; simpa using k.int R q⟩
  · exact q.elim
end

/-! ### tables of pairs -/
section
variable {κ : Type} [DecidableEq κ] {α : Type}
def lkI : List (κ × α) → κ → Option α
  | p :: m, k => if p.1 = k then some p.2 else lkI m k
  | [], _ => none
def putI (m : List (κ × α)) (k : κ) (r : α) : List (κ × α) := if k ∈ m.map (·.1) then m.map (fun p => if p.1 = k then (p.1, r) else p) else m ++ [(k, r)]
theorem lkI_map (k j : κ) (r : α) : ∀ m : List (κ × α), lkI (m.map fun p => if p.1 = k then (p.1, r) else p) j = if j = k then (if k ∈ m.map (·.1) then some r else none) else lkI m j
  | [] => by unfold lkI; by_cases h : j = k <;> simp [h]
  | p :: m => by
    rw [List.map_cons]
    show (if (if p.1 = k then (p.1, r) else p).1 = j then some (if p.1 = k then (p.1, r) else p).2 else lkI _ j) = _
    rw [lkI_map k j r m]
    show _ = if j = k then _ else (if p.1 = j then some p.2 else lkI m j)
    by_cases h : p.1 = k
    · rw [if_pos h]
      by_cases e : j = k
      · subst e; simp [h]
      · have : ¬ p.1 = j := fun z => e (z.symm.trans h)
        simp [this, e]
    · rw [if_neg h]
      by_cases e : j = k
      · subst e
        have h' : ¬ j = p.1 := fun z => h z.symm
        rw [if_pos rfl, if_pos rfl, if_neg h]
        by_cases c : j ∈ m.map (·.1)
        · rw [if_pos c, if_pos (by rw [List.map_cons]; exact List.mem_cons_of_mem _ c)]
        · rw [if_neg c, if_neg (by rw [List.map_cons, List.mem_cons]; exact fun z => z.elim h' c)]
      · rw [if_neg e, if_neg e]
theorem lkI_snoc (j : κ) (q : κ × α) : ∀ m : List (κ × α), lkI (m ++ [q]) j = match lkI m j with | some r => some r | none => if q.1 = j then some q.2 else none
  | [] => rfl
  | p :: m => by
    show (if p.1 = j then some p.2 else lkI (m ++ [q]) j) = match (if p.1 = j then some p.2 else lkI m j) with | some r => some r | none => _
    by_cases h : p.1 = j
    · rw [if_pos h, if_pos h]
    · rw [if_neg h, if_neg h, lkI_snoc j q m]
theorem lkI_none : ∀ {m : List (κ × α)} {k : κ}, lkI m k = none ↔ k ∉ m.map (·.1)
  | [], k => by unfold lkI; simp
  | p :: m, k => by
    show (if p.1 = k then some p.2 else lkI m k) = none ↔ _
    by_cases h : p.1 = k
    · rw [if_pos h]; subst h; simp
    · have h' : ¬ k = p.1 := fun z => h z.symm
      rw [if_neg h, lkI_none]; simp [h']
theorem lkI_put (m : List (κ × α)) (k j : κ) (r : α) : lkI (putI m k r) j = if j = k then some r else lkI m j := by
  unfold putI
  by_cases h : k ∈ m.map (·.1)
  · rw [if_pos h, lkI_map, if_pos h]
  · rw [if_neg h, lkI_snoc]
    by_cases e : j = k
    · subst e
      rw [lkI_none.mpr h, if_pos rfl]
    · have e' : ¬ k = j := fun z => e z.symm
      rw [if_neg e]
      cases lkI m j <;> simp [e']
theorem put_keys (m : List (κ × α)) (k : κ) (r : α) : (putI m k r).map (·.1) = if k ∈ m.map (·.1) then m.map (·.1) else m.map (·.1) ++ [k] := by
  unfold putI
  by_cases h : k ∈ m.map (·.1)
  · rw [if_pos h, if_pos h, List.map_map]
    refine List.map_congr_left fun p _ => ?_
    show (if p.1 = k then (p.1, r) else p).1 = p.1
    split <;> rfl
  · rw [if_neg h, if_neg h, List.map_append]; rfl
theorem put_le (m : List (κ × α)) (k : κ) (r : α) : (putI m k r).length ≤ m.length + 1 := by
  unfold putI
  split
  · rw [List.length_map]; omega
  · rw [List.length_append]; exact Nat.le_refl _
end
def hasI {κ : Type} [DecidableEq κ] (m : List (κ × W)) (k : κ) : Bool := (lkI m k).isSome
theorem hasI_put {κ : Type} [DecidableEq κ] (m : List (κ × W)) (k j : κ) (r : W) : hasI (putI m k r) j = (decide (j = k) || hasI m j) := by
  unfold hasI
  rw [lkI_put]
  by_cases h : j = k
  · rw [if_pos h, decide_eq_true h]; rfl
  · rw [if_neg h, decide_eq_false h]; rfl
theorem hasI_nil {κ : Type} [DecidableEq κ] (k : κ) : hasI ([] : List (κ × W)) k = false := rfl
theorem atK_lk {κ κ' : Type} [DecidableEq κ] [DecidableEq κ'] (f : κ' → κ) (hf : ∀ a b, f a = f b → a = b) (k : κ') : ∀ m : List (κ' × W), atK (m.map fun p => f p.1) (m.map (·.2)) (f k) = lkI m k
  | [] => rfl
  | p :: m => by
    show (if f p.1 = f k then some p.2 else atK _ _ _) = if p.1 = k then some p.2 else lkI m k
    rw [atK_lk f hf k m]
    by_cases h : p.1 = k
    · rw [if_pos h, if_pos (by rw [h])]
    · rw [if_neg h, if_neg (fun z => h (hf _ _ z))]
theorem mem_lk {κ κ' : Type} [DecidableEq κ] [DecidableEq κ'] (f : κ' → κ) (hf : ∀ a b, f a = f b → a = b) (k : κ') (m : List (κ' × W)) : f k ∈ m.map (fun p => f p.1) ↔ k ∈ m.map (·.1) := by
  rw [List.mem_map, List.mem_map]
  constructor
  · rintro ⟨p, hp, e⟩; exact ⟨p, hp, hf _ _ e⟩
  · rintro ⟨p, hp, e⟩; exact ⟨p, hp, by rw [e]⟩
theorem hasI_mem {κ : Type} [DecidableEq κ] (m : List (κ × W)) (k : κ) : hasI m k = decide (k ∈ m.map (·.1)) := by
  unfold hasI
  by_cases c : k ∈ m.map (·.1)
  · rw [decide_eq_true c]
    cases h : lkI m k with
    | none => exact absurd c (lkI_none.mp h)
    | some r => rfl
  · rw [decide_eq_false c, lkI_none.mpr c]; rfl
theorem put_lk2 {κ κ' : Type} [DecidableEq κ] [DecidableEq κ'] (f : κ' → κ) (hf : ∀ a b, f a = f b → a = b) (k : κ') (r : W) (m : List (κ' × W)) :
    putKs (m.map fun p => f p.1) (f k) = (putI m k r).map (fun p => f p.1) ∧ putXs (m.map fun p => f p.1) (m.map (·.2)) (f k) r = (putI m k r).map (·.2) := by
  unfold putKs putXs putI
  by_cases h : k ∈ m.map (·.1)
  · rw [if_pos ((mem_lk f hf k m).mpr h), if_pos ((mem_lk f hf k m).mpr h), if_pos h, List.map_map, List.map_map]
    refine ⟨List.map_congr_left fun p _ => ?_, ?_⟩
    · show f p.1 = f (if p.1 = k then (p.1, r) else p).1
      split <;> rfl
    · rw [List.zipWith_map, List.zipWith_self]
      refine List.map_congr_left fun p _ => ?_
      show (if f p.1 = f k then r else p.2) = (if p.1 = k then (p.1, r) else p).2
      by_cases e : p.1 = k
      · rw [if_pos (by rw [e]), if_pos e]
      · rw [if_neg (fun z => e (hf _ _ z)), if_neg e]
  · rw [if_neg (fun z => h ((mem_lk f hf k m).mp z)), if_neg (fun z => h ((mem_lk f hf k m).mp z)), if_neg h, List.map_append, List.map_append]
    exact ⟨rfl, rfl⟩
theorem inl_inj (a b : Int) (h : (Sum.inl a : Key) = Sum.inl b) : a = b := by injection h
theorem inls_inj : ∀ (a b : List Int), a.map (Sum.inl : Int → Key) = b.map Sum.inl → a = b
  | [], [], _ => rfl
  | [], _ :: _, h => by cases h
  | _ :: _, [], h => by cases h
  | x :: a, y :: b, h => by
    rw [List.map_cons, List.map_cons] at h
    injection h with h1 h2
    rw [inl_inj _ _ h1, inls_inj a b h2]
theorem dAt_I (m : List (Int × W)) (k : Int) : dAt (dI m) (.int k) = lkI m k := atK_lk Sum.inl inl_inj k m
theorem kIn_lk {κ κ' : Type} [DecidableEq κ] [DecidableEq κ'] (f : κ' → κ) (hf : ∀ a b, f a = f b → a = b) (k : κ') (m : List (κ' × W)) : kIn (m.map fun p => f p.1) (f k) = hasI m k := by
  rw [hasI_mem]
  unfold kIn
  rw [decide_eq_decide.mpr (mem_lk f hf k m)]
theorem dIn_I (m : List (Int × W)) (k : Int) : dIn (dI m) (.int k) = some (hasI m k) := congrArg some (kIn_lk (Sum.inl : Int → Key) inl_inj k m)
theorem dPut_I (m : List (Int × W)) (k : Int) (r : W) : dPut (dI m) (.int k) r = some (dI (putI m k r)) := by
  obtain ⟨h1, h2⟩ := put_lk2 (Sum.inl : Int → Key) inl_inj k r m
  show some (W.dK (putKs _ _) (putXs _ _ _ _)) = _
  rw [h1, h2]; rfl
theorem dLen_I (m : List (Int × W)) : dLen (dI m) = m.length := List.length_map ..
theorem keyT_two (a b : Int) : keyT (.tup [.int a, .int b]) = some ([a, b].map Sum.inl) := rfl
theorem dAt_P (m : List (List Int × W)) (a b : Int) : dAt (dP m) (.tup [.int a, .int b]) = lkI m [a, b] := atK_lk (List.map (Sum.inl : Int → Key)) inls_inj [a, b] m
theorem dIn_P (m : List (List Int × W)) (a b : Int) : dIn (dP m) (.tup [.int a, .int b]) = some (hasI m [a, b]) := congrArg some (kIn_lk (List.map (Sum.inl : Int → Key)) inls_inj [a, b] m)
theorem dPut_P (m : List (List Int × W)) (a b : Int) (r : W) : dPut (dP m) (.tup [.int a, .int b]) r = some (dP (putI m [a, b] r)) := by
  obtain ⟨h1, h2⟩ := put_lk2 (List.map (Sum.inl : Int → Key)) inls_inj [a, b] r m
  show some (W.dT (putKs _ (List.map Sum.inl [a, b])) (putXs _ _ (List.map Sum.inl [a, b]) _)) = _
  rw [h1, h2]; rfl
theorem dLen_P (m : List (List Int × W)) : dLen (dP m) = m.length := List.length_map ..
theorem LkC_some (r : W) (Q : W → Bool → Prop) (d : Dm Q) : LkC (some r) Q d = Q r false := by
  unfold LkC
  exact propext ⟨fun ⟨_, e, q⟩ => by cases e; exact q, fun q => ⟨r, rfl, q⟩⟩
theorem InC_some (r : Bool) (Q : Bool → Prop) (d : Dm Q) : InC (some r) Q d = Q r := by
  unfold InC
  exact propext ⟨fun ⟨_, e, q⟩ => by cases e; exact q, fun q => ⟨r, rfl, q⟩⟩
theorem PutC_some (r : W) (Q : W → Prop) (d : Dm Q) : PutC (some r) Q d = Q r := by
  unfold PutC
  exact propext ⟨fun ⟨_, e, q⟩ => by cases e; exact q, fun q => ⟨r, rfl, q⟩⟩
theorem lkC {o : Option W} {r : W} {Q : W → Bool → Prop} {d : Dm Q} (h : o = some r) (q : Q r false) : LkC o Q d := ⟨r, h, q⟩
theorem cLenD_I (m : List (Int × W)) (Q : W → Bool → Prop) : cLenD [dI m] Q = Q (.int (m.length : Nat)) false := by
  show Q (.int ((m.map _).length : Nat)) false = _
  rw [List.length_map]
theorem cLenD_P (m : List (List Int × W)) (Q : W → Bool → Prop) : cLenD [dP m] Q = Q (.int (m.length : Nat)) false := by
  show Q (.int ((m.map _).length : Nat)) false = _
  rw [List.length_map]
theorem wPutD_b (i : Nat) (we wk : TWE) (dn : Nv → Prop) (dr : W → Bool → Prop) (db dc : Nv → Prop) (η : Nv) : wPutD i we wk ⟨dn, dr, db, dc⟩ η = At (gt η i) (fun s => match s with
  | .ow d => we η fun r b => b = false ∧ wk η fun k _ => dLen d < sizeLine ∧ PutC (dPut d k r) (fun d' => Go (η.set i (.ow d')) dn .mk) .mk
  | _ => False) .mk := by
  unfold wPutD At
  cases gt η i <;> rfl
end VL
end

section
set_option Elab.async false
set_option linter.all false
set_option maxRecDepth 100000
/-! VL19: sorted of pairs of whole numbers. -/
namespace VL
open PySem PySem.Spec PyProof.Rows L2
abbrev IP := Int × Int
def prW (p : IP) : W := .tup [.int p.1, .int p.2]
def prs? : List W → Option (List IP)
  | [] => some []
  | .tup [.int a, .int b] :: r => (prs? r).map fun l => (a, b) :: l
  | _ => none
theorem prs?_map : ∀ l : List IP, prs? (l.map prW) = some l
  | [] => rfl
  | (a, b) :: l => by
    show (prs? (l.map prW)).map _ = _
    rw [prs?_map l]; rfl
theorem prs?_eq : ∀ {ws : List W} {l : List IP}, prs? ws = some l → ws = l.map prW
  | [], l, h => by unfold prs? at h; cases h; rfl
  | w :: ws, l, h => by
    unfold prs? at h
    split at h
    · rename_i z; cases z
    · rename_i a b r e
      cases e
      obtain ⟨m, h1, h2⟩ := Option.map_eq_some_iff.mp h
      subst h2
      rw [prs?_eq h1]; rfl
    · cases h
/-- in order -/
def LeP (p q : IP) : Prop := p.1 < q.1 ∨ (p.1 = q.1 ∧ p.2 ≤ q.2)
instance (p q : IP) : Decidable (LeP p q) := inferInstanceAs (Decidable (_ ∨ _))
def cSortedP : SC := fun ws Q => match ws with
  | [.lst xs] => ∃ l, prs? xs = some l ∧ ∀ l' : List IP, l'.Perm l → l'.Pairwise LeP → Q (.lst (l'.map prW)) true
  | _ => False
section
variable {X : Cx} {K : PySem.W.Frag} {B : Hp} {F0 F : Fz} {η : Nv} {σ : L2.St} {H : Hp}
theorem reps_prs (s : Sub F H) : ∀ {l : List IP} {vs : List V}, Reps K F (l.map prW) vs → ∀ v ∈ vs, ∃ t p, v = V.ref t ∧ H t = some (.tup [.int p.1, .int p.2]) ∧ Rep K F (prW p) v
  | [], vs, h => by
    rw [List.map_nil] at h
    unfold Reps at h
    subst h
    intro v hv; cases hv
  | p :: l, vs, h => by
    rw [List.map_cons] at h
    unfold Reps at h
    obtain ⟨v, r, e, h1, h2⟩ := h
    subst e
    intro u hu
    rcases List.mem_cons.mp hu with e | e
    · subst e
      have h1' := h1
      unfold prW at h1
      unfold Rep at h1
      obtain ⟨a, us, e1, f, rr⟩ := h1
      have z : us = [V.int p.1, V.int p.2] := reps_ints (ns := [p.1, p.2]) rr
      subst z
      exact ⟨a, p, e1, s.fz f, h1'⟩
    · exact reps_prs s h2 u e
def kOf (H : Hp) : V → IP
  | .ref t => match H t with
    | some (.tup [.int a, .int b]) => (a, b)
    | _ => (0, 0)
  | _ => (0, 0)
theorem kOf_eq {t : Addr} {p : IP} (h : H t = some (.tup [.int p.1, .int p.2])) : kOf H (.ref t) = p := by unfold kOf; simp only [h]
theorem reps_map (s : Sub F H) : ∀ {l : List IP} {vs : List V}, Reps K F (l.map prW) vs → vs.map (kOf H) = l
  | [], vs, h => by
    rw [List.map_nil] at h
    unfold Reps at h
    subst h; rfl
  | p :: l, vs, h => by
    rw [List.map_cons] at h
    unfold Reps at h
    obtain ⟨v, r, e, h1, h2⟩ := h
    subst e
    rw [List.map_cons, reps_map s h2]
    unfold prW at h1
    unfold Rep at h1
    obtain ⟨a, us, e1, f, rr⟩ := h1
    have z : us = [V.int p.1, V.int p.2] := reps_ints (ns := [p.1, p.2]) rr
    subst z
    rw [e1, kOf_eq (p := p) (s.fz f)]
theorem reps_of (s : Sub F H) : ∀ {ys : List V}, (∀ v ∈ ys, Rep K F (prW (kOf H v)) v) → Reps K F ((ys.map (kOf H)).map prW) ys
  | [], _ => reps_nil
  | y :: ys, h => reps_cons (h y List.mem_cons_self) (reps_of s fun v hv => h v (List.mem_cons_of_mem _ hv))
theorem cw_sortedP : CW X (.builtin "sorted") cSortedP := by
  refine ⟨_, cr_sortedPO, fun B F0 F η σ H ws b vs Q0 Q R hv q k => ?_⟩
  unfold cSortedP at q
  split at q
  · rename_i xs
    obtain ⟨l, e, q⟩ := q
    obtain ⟨v, e1, h⟩ := hv.one
    obtain ⟨d, us, e2, hH, r⟩ := R.lst h
    have := prs?_eq e
    subst this
    have mem := reps_prs R.sub r
    have kk := reps_map R.sub r
    refine ⟨d, us, kOf H, by rw [e1, e2], .of hH, fun x hx => ?_, fun ys p hs hb hp => ?_⟩
    · obtain ⟨t, pr, e3, h3, _⟩ := mem x hx
      exact ⟨t, e3, by rw [e3, kOf_eq h3]; exact h3⟩
    · have pm := hb.perm
      refine k.new R (q (ys.map (kOf H)) ?_ ?_) ⟨ys, rfl, reps_of R.sub fun u hu => ?_⟩ hp
      · rw [← kk]; exact pm.map _
      · rw [List.pairwise_map]
        refine List.Pairwise.imp ?_ hs
        intro a b hab
        have := SrtO.lexB_no.mp hab
        unfold LeP
        omega
      · obtain ⟨t, pr, e3, h3, h4⟩ := mem u (pm.mem_iff.mp hu)
        rw [e3, kOf_eq h3, ← e3]; exact h4
  · exact q.elim
end
/-- there is one such list -/
theorem leP_antisymm {p q : IP} (h : LeP p q) (k : LeP q p) : p = q := by
  unfold LeP at h k
  obtain ⟨a, b⟩ := p
  obtain ⟨c, d⟩ := q
  simp only at h k
  have h1 : a = c := by omega
  have h2 : b = d := by omega
  rw [h1, h2]
def insP (p : IP) : List IP → List IP
  | [] => [p]
  | q :: l => if LeP p q then p :: q :: l else q :: insP p l
def srtP : List IP → List IP
  | [] => []
  | p :: l => insP p (srtP l)
theorem insP_perm (p : IP) : ∀ l, (insP p l).Perm (p :: l)
  | [] => List.Perm.refl _
  | q :: l => by
    unfold insP
    split
    · exact List.Perm.refl _
    · exact ((insP_perm p l).cons q).trans (List.Perm.swap p q l)
theorem srtP_perm : ∀ l, (srtP l).Perm l
  | [] => List.Perm.refl _
  | p :: l => (insP_perm p _).trans ((srtP_perm l).cons p)
theorem leP_trans {p q r : IP} (h : LeP p q) (k : LeP q r) : LeP p r := by unfold LeP at *; omega
theorem leP_total {p q : IP} (h : ¬ LeP p q) : LeP q p := by unfold LeP at *; omega
theorem insP_pw (p : IP) : ∀ l, l.Pairwise LeP → (insP p l).Pairwise LeP
  | [], _ => by unfold insP; simp
  | q :: l, h => by
    unfold insP
    have h' := List.pairwise_cons.mp h
    split
    · rename_i c
      refine List.pairwise_cons.mpr ⟨fun x hx => ?_, h⟩
      rcases List.mem_cons.mp hx with e | e
      · rw [e]; exact c
      · exact leP_trans c (h'.1 x e)
    · rename_i c
      refine List.pairwise_cons.mpr ⟨fun x hx => ?_, insP_pw p l h'.2⟩
      rcases List.mem_cons.mp ((insP_perm p l).mem_iff.mp hx) with e | e
      · rw [e]; exact leP_total c
      · exact h'.1 x e
theorem srtP_pw : ∀ l, (srtP l).Pairwise LeP
  | [] => List.Pairwise.nil
  | p :: l => insP_pw p _ (srtP_pw l)
theorem pw_uniq : ∀ {l m : List IP}, l.Perm m → l.Pairwise LeP → m.Pairwise LeP → l = m
  | [], m, h, _, _ => (List.Perm.nil_eq h)
  | p :: l, m, h, hl, hm => by
    cases m with
    | nil => exact absurd h.length_eq (by simp)
    | cons q m =>
      have hl' := List.pairwise_cons.mp hl
      have hm' := List.pairwise_cons.mp hm
      have e : p = q := by
        rcases List.mem_cons.mp (h.mem_iff.mp (List.mem_cons_self (a := p))) with e | e
        · exact e
        · rcases List.mem_cons.mp (h.mem_iff.mpr (List.mem_cons_self (a := q))) with e2 | e2
          · exact e2.symm
          · exact leP_antisymm (hl'.1 q e2) (hm'.1 p e)
      subst e
      rw [pw_uniq h.cons_inv hl'.2 hm'.2]
theorem srtP_eq {l l' : List IP} (h : l'.Perm l) (k : l'.Pairwise LeP) : l' = srtP l := pw_uniq (h.trans (srtP_perm l).symm) k (srtP_pw l)
end VL
end

section
set_option Elab.async false
set_option linter.all false
set_option maxRecDepth 100000
/-! VL20: two, three names at once, kept as one's own, also where a block reads them. -/
namespace VL
open PySem PySem.Spec PyProof.Rows L2
section
variable {X : Cx} {K : PySem.W.Frag} {B : Hp} {F0 F F' G : Fz} {η η' : Nv} {σ σ' : L2.St} {H H' : Hp} {Q0 : W → Bool → Prop} {Q : VK} {e a b c : Expr} {pos p : Pos} {wa wb wc : TWE} {x y z : Str} {i j l : Nat}
/-- a value that waits while others are reckoned -/
theorem Rel.wait (R : Rel K B F0 F η σ H) {r : W} {fr : Bool} {v : V} (h : Val K B F η σ H r fr v) : ∃ B', Rel K B' F0 F η σ H ∧
    (∀ F2 H2, Le F F2 → Rel K B' F0 F2 η σ H2 → Rel K B F0 F2 η σ H2 ∧ Val K B F2 η σ H2 r fr v) ∧
    (∀ F2 H2 r' fr' v', Val K B' F2 η σ H2 r' fr' v' → Val K B F2 η σ H2 r' fr' v' ∧ (fr = true → fr' = true → v' ≠ v)) := by
  cases fr with
  | false => exact ⟨B, R, fun F2 H2 le R2 => ⟨R2, Rep.mono K le _ _ h⟩, fun F2 H2 r' fr' v' hv => ⟨hv, fun z => by cases z⟩⟩
  | true =>
    obtain ⟨d, o, e, hF, hB, hH, r0, hn⟩ := h
    subst e
    have tk : isTok (F0 d) = false := by
      cases z : F0 d with
      | none => rfl
      | some f => rw [R.le _ _ z] at hF; cases hF
    refine ⟨upd B d o, R.pend hF hH hn, fun F2 H2 le R2 => ⟨R2.unpend hB, ?_⟩, fun F2 H2 r' fr' v' hv => ?_⟩
    · have hH2 := R2.kp d o upd_same tk
      have hF2 : F2 d = none := by
        cases z : F2 d with
        | none => rfl
        | some f =>
          rcases R2.nw d f z with ⟨g, z⟩ | z
          · rw [R.le _ _ z] at hF; cases hF
          · rw [upd_same] at z; cases z
      exact ⟨d, o, rfl, hF2, hB, hH2, RepO.mono K le r0, hn⟩
    · cases fr' with
      | false => exact ⟨hv, fun _ z => by cases z⟩
      | true =>
        obtain ⟨d', o', e', hF', hB', hH', r0', hn'⟩ := hv
        have nd : d' ≠ d := fun z => by rw [z, upd_same] at hB'; cases hB'
        rw [upd_ne nd] at hB'
        exact ⟨⟨d', o', e', hF', hB', hH', r0', hn'⟩, fun _ _ z => nd (by rw [e'] at z; cases z; rfl)⟩
/-- .. stays one's own behind a store of another one -/
theorem Rel.after_put (R : Rel K B F0 F η σ H) {r r' : W} {fr fr' : Bool} {v v' : V} (h' : Val K B F η σ H r' fr' v') (ne : fr = true → fr' = true → v' ≠ v) : Val K B F (VL.put η i r fr) (σ.set i (some v)) H r' fr' v' := by
  cases fr' with
  | false => exact h'
  | true =>
    obtain ⟨d, o, e, hF, hB, hH, r0, hn⟩ := h'
    refine ⟨d, o, e, hF, hB, hH, r0, fun l hl z => ?_⟩
    by_cases li : i = l
    · subst li
      by_cases hlt : i < σ.length
      · rw [List.getElem?_set_self hlt] at z
        have z : v = .ref d := by injection z with z; injection z
        obtain ⟨w3, q3⟩ := hl
        unfold VL.put at q3
        rw [gt_set_same _ _ _ (by rw [R.len]; exact hlt)] at q3
        cases fr with
        | false => rcases q3 with q3 | q3 <;> cases q3
        | true => exact ne rfl rfl (by rw [z, e])
      · rw [List.getElem?_eq_none (by rw [List.length_set]; omega)] at z; cases z
    · rw [List.getElem?_set_ne li] at z
      obtain ⟨w3, q3⟩ := hl
      unfold VL.put at q3
      rw [gt_set_ne _ _ _ _ li] at q3
      exact hn l ⟨w3, q3⟩ z
theorem Val.alloc (R : Rel K B F0 F η σ H) {r : W} {fr : Bool} {v : V} {q : Addr} {o : HO} (hq : H q = none) (h : Val K B F η σ H r fr v) : Val K B F η σ (upd H q o) r fr v := by
  cases fr with
  | false => exact h
  | true =>
    obtain ⟨d, o', e, hF, hB, hH, r0, hn⟩ := h
    exact ⟨d, o', e, hF, hB, by rw [upd_ne (fun z => by rw [z, hq] at hH; cases hH)]; exact hH, r0, hn⟩
theorem sParC0 (i j : Nat) {px py pt : Pos} {kt k2 pt2} (ha : RE X a wa) (hb : RE X b wb) (hN : X.N.Nodup) (hc : X.calm = true) (hi : X.N[i]? = some x) (hj : X.N[j]? = some y)
    (hx : Loc X.env.scope x) (hy : Loc X.env.scope y)
    (hfx : X.fn x = true ∨ X.env.scope.names.lookup x = some .local) (hfy : X.fn y = true ∨ X.env.scope.names.lookup y = some .local)
    (hw : swappedStores [.Tuple [.Name x px, .Name y py] kt pt] (.Tuple [a, b] k2 pt2) X.env = pure none)
    (hs : swapsWithSole [.Tuple [.Name x px, .Name y py] kt pt] (.Tuple [a, b] k2 pt2) pos.line X.env = pure false)
    (h1 : (assignEach [.Tuple [.Name x px, .Name y py] kt pt] X.env).map (·.2) = [assign (.Tuple [.Name x px, .Name y py] kt pt) X.env])
    (s1 : starEach [a, b] X.env = (false, eval a X.env) :: starEach [b] X.env) (s2 : starEach [b] X.env = (false, eval b X.env) :: starEach [] X.env) :
    RS X (.Assign [.Tuple [.Name x px, .Name y py] kt pt] (.Tuple [a, b] k2 pt2) pos) (wPar i j wa wb) := by
  refine PS.imp (ps_asg (pe_tup (pa_cons ha (pa_cons hb pa_nil s2) s1)) (pg_tup hc (pgs_cons (pg_name hN hi hx hfx) (pgs_cons (pg_name hN hj hy hfy) pgs_nil))) hs hw h1) fun D σ H q => ?_
  obtain ⟨B, F0, F, η, D0, R, ⟨l1, l2, w⟩, k⟩ := q
  refine ⟨B, F0, F, η, _, R, w, fun r fr q F1 H1 v le1 R1 hv => ?_⟩
  obtain ⟨B', R1', back, other⟩ := R1.wait hv
  refine ⟨B', F0, F1, η, _, R1', q, fun r' fr' q F2 H2 v' le2 R2 hv' => ⟨by show 2 ≤ sizeLine; decide, fun T hT => ?_⟩⟩
  obtain ⟨R2b, hvb⟩ := back F2 H2 le2 R2
  obtain ⟨hv'b, ne⟩ := other _ _ _ _ _ hv'
  refine ⟨T, _, rfl, .of upd_same, rfl, v, _, rfl, v', _, rfl, rfl, ?_⟩
  have R3 := R2b.alloc (o := .tup [v, v']) hT
  have va := Val.alloc (o := .tup [v, v']) R2b hT hvb
  have vb := Val.alloc (o := .tup [v, v']) R2b hT hv'b
  exact k.nx _ q F2 _ _ (le1.trans le2) ((put_lk l1).trans (put_lk (isLk_put l2))) ((R3.put va).put (R3.after_put vb ne))
theorem sParC (m m' : Bool) (i j : Nat) {px py pt : Pos} {kt k2 pt2} (ha : RE X a wa) (hb : RE X b wb) (hN : X.N.Nodup) (hc : X.calm = true := by rfl) (hi : X.N[i]? = some x := by rfl) (hj : X.N[j]? = some y := by rfl)
    (hx : Loc X.env.scope x := by first | exact .inl rfl | exact .inr rfl) (hy : Loc X.env.scope y := by first | exact .inl rfl | exact .inr rfl)
    (hfx : X.fn x = true ∨ X.env.scope.names.lookup x = some .local := by first | exact .inl rfl | exact .inr rfl) (hfy : X.fn y = true ∨ X.env.scope.names.lookup y = some .local := by first | exact .inl rfl | exact .inr rfl)
    (hw : swappedStores [.Tuple [.Name x px, .Name y py] kt pt] (.Tuple [a, b] k2 pt2) X.env = pure none := by rfl)
    (hs : swapsWithSole [.Tuple [.Name x px, .Name y py] kt pt] (.Tuple [a, b] k2 pt2) pos.line X.env = pure false := by rfl)
    (h1 : (assignEach [.Tuple [.Name x px, .Name y py] kt pt] X.env).map (·.2) = [assign (.Tuple [.Name x px, .Name y py] kt pt) X.env] := by rfl)
    (s1 : starEach [a, b] X.env = (false, eval a X.env) :: starEach [b] X.env := by rfl) (s2 : starEach [b] X.env = (false, eval b X.env) :: starEach [] X.env := by rfl) :
    RS X (.Assign [.Tuple [.Name x px, .Name y py] kt pt] (.Tuple [a, b] k2 pt2) pos) (wParM m m' i j wa wb) := by
  have z := sParC0 i j (cool_e m ha) (cool_e m' hb) hN hc hi hj hx hy hfx hfy hw hs h1 s1 s2
  unfold wPar at z
  simp only [putM_eq] at z
  exact z
def wPar3o (i j l : Nat) (wa wb wc : TWE) : TWS := fun D η => isLk (gt η i) = false ∧ isLk (gt η j) = false ∧ isLk (gt η l) = false ∧ wa η fun r fr => wb η fun r' fr' => wc η fun r2 fr2 => D.nx (put (put (put η i r fr) j r' fr') l r2 fr2)
def wPar3M (m m' m2 : Bool) (i j l : Nat) (wa wb wc : TWE) : TWS := fun D η => isLk (gt η i) = false ∧ isLk (gt η j) = false ∧ isLk (gt η l) = false ∧ wa η fun r fr => wb η fun r' fr' => wc η fun r2 fr2 => D.nx (putM m2 (putM m' (putM m η i r fr) j r' fr') l r2 fr2)
theorem sPar3C0 (i j l : Nat) {px py pz pt : Pos} {kt k2 pt2} (ha : RE X a wa) (hb : RE X b wb) (hcc : RE X c wc) (hN : X.N.Nodup) (hc : X.calm = true) (hi : X.N[i]? = some x) (hj : X.N[j]? = some y) (hl : X.N[l]? = some z)
    (hx : Loc X.env.scope x) (hy : Loc X.env.scope y) (hz : Loc X.env.scope z)
    (hfx : X.fn x = true ∨ X.env.scope.names.lookup x = some .local) (hfy : X.fn y = true ∨ X.env.scope.names.lookup y = some .local) (hfz : X.fn z = true ∨ X.env.scope.names.lookup z = some .local)
    (hw : swappedStores [.Tuple [.Name x px, .Name y py, .Name z pz] kt pt] (.Tuple [a, b, c] k2 pt2) X.env = pure none)
    (hs : swapsWithSole [.Tuple [.Name x px, .Name y py, .Name z pz] kt pt] (.Tuple [a, b, c] k2 pt2) pos.line X.env = pure false)
    (h1 : (assignEach [.Tuple [.Name x px, .Name y py, .Name z pz] kt pt] X.env).map (·.2) = [assign (.Tuple [.Name x px, .Name y py, .Name z pz] kt pt) X.env])
    (s1 : starEach [a, b, c] X.env = (false, eval a X.env) :: starEach [b, c] X.env) (s2 : starEach [b, c] X.env = (false, eval b X.env) :: starEach [c] X.env) (s3 : starEach [c] X.env = (false, eval c X.env) :: starEach [] X.env) :
    RS X (.Assign [.Tuple [.Name x px, .Name y py, .Name z pz] kt pt] (.Tuple [a, b, c] k2 pt2) pos) (wPar3o i j l wa wb wc) := by
  refine PS.imp (ps_asg (pe_tup (pa_cons ha (pa_cons hb (pa_cons hcc pa_nil s3) s2) s1)) (pg_tup hc (pgs_cons (pg_name hN hi hx hfx) (pgs_cons (pg_name hN hj hy hfy) (pgs_cons (pg_name hN hl hz hfz) pgs_nil)))) hs hw h1) fun D σ H q => ?_
  obtain ⟨B, F0, F, η, D0, R, ⟨l1, l2, l3, w⟩, k⟩ := q
  refine ⟨B, F0, F, η, _, R, w, fun r fr q F1 H1 v le1 R1 hv => ?_⟩
  obtain ⟨B', R1', back, other⟩ := R1.wait hv
  refine ⟨B', F0, F1, η, _, R1', q, fun r' fr' q F2 H2 v' le2 R2 hv' => ?_⟩
  obtain ⟨B2, R2', back2, other2⟩ := R2.wait hv'
  refine ⟨B2, F0, F2, η, _, R2', q, fun r2 fr2 q F3 H3 v2 le3 R3 hv2 => ⟨by show 3 ≤ sizeLine; decide, fun T hT => ?_⟩⟩
  obtain ⟨R3b, hv3⟩ := back2 F3 H3 le3 R3
  obtain ⟨hv2b, ne2⟩ := other2 _ _ _ _ _ hv2
  obtain ⟨R3c, hv1⟩ := back F3 H3 (le2.trans le3) R3b
  obtain ⟨hv3c, ne1⟩ := other _ _ _ _ _ hv3
  obtain ⟨hv2c, ne0⟩ := other _ _ _ _ _ hv2b
  refine ⟨T, _, rfl, .of upd_same, rfl, v, _, rfl, v', _, rfl, v2, _, rfl, rfl, ?_⟩
  have R4 := R3c.alloc (o := .tup [v, v', v2]) hT
  have va := Val.alloc (o := .tup [v, v', v2]) R3c hT hv1
  have vb := Val.alloc (o := .tup [v, v', v2]) R3c hT hv3c
  have vc := Val.alloc (o := .tup [v, v', v2]) R3c hT hv2c
  have vb' := R4.after_put (i := i) (r := r) vb ne1
  have vc' := R4.after_put (i := i) (r := r) vc ne0
  have R5 := R4.put (i := i) va
  have vc2 := R5.after_put (i := j) (r := r') vc' ne2
  exact k.nx _ q F3 _ _ ((le1.trans le2).trans le3) (((put_lk l1).trans (put_lk (isLk_put l2))).trans (put_lk (isLk_put (isLk_put l3)))) ((R5.put vb').put vc2)
theorem sPar3C (m m' m2 : Bool) (i j l : Nat) {px py pz pt : Pos} {kt k2 pt2} (ha : RE X a wa) (hb : RE X b wb) (hcc : RE X c wc) (hN : X.N.Nodup) (hc : X.calm = true := by rfl) (hi : X.N[i]? = some x := by rfl) (hj : X.N[j]? = some y := by rfl) (hl : X.N[l]? = some z := by rfl)
    (hx : Loc X.env.scope x := by first | exact .inl rfl | exact .inr rfl) (hy : Loc X.env.scope y := by first | exact .inl rfl | exact .inr rfl) (hz : Loc X.env.scope z := by first | exact .inl rfl | exact .inr rfl)
    (hfx : X.fn x = true ∨ X.env.scope.names.lookup x = some .local := by first | exact .inl rfl | exact .inr rfl) (hfy : X.fn y = true ∨ X.env.scope.names.lookup y = some .local := by first | exact .inl rfl | exact .inr rfl) (hfz : X.fn z = true ∨ X.env.scope.names.lookup z = some .local := by first | exact .inl rfl | exact .inr rfl)
    (hw : swappedStores [.Tuple [.Name x px, .Name y py, .Name z pz] kt pt] (.Tuple [a, b, c] k2 pt2) X.env = pure none := by rfl)
    (hs : swapsWithSole [.Tuple [.Name x px, .Name y py, .Name z pz] kt pt] (.Tuple [a, b, c] k2 pt2) pos.line X.env = pure false := by rfl)
    (h1 : (assignEach [.Tuple [.Name x px, .Name y py, .Name z pz] kt pt] X.env).map (·.2) = [assign (.Tuple [.Name x px, .Name y py, .Name z pz] kt pt) X.env] := by rfl)
    (s1 : starEach [a, b, c] X.env = (false, eval a X.env) :: starEach [b, c] X.env := by rfl) (s2 : starEach [b, c] X.env = (false, eval b X.env) :: starEach [c] X.env := by rfl) (s3 : starEach [c] X.env = (false, eval c X.env) :: starEach [] X.env := by rfl) :
    RS X (.Assign [.Tuple [.Name x px, .Name y py, .Name z pz] kt pt] (.Tuple [a, b, c] k2 pt2) pos) (wPar3M m m' m2 i j l wa wb wc) := by
  have q := sPar3C0 i j l (cool_e m ha) (cool_e m' hb) (cool_e m2 hcc) hN hc hi hj hl hx hy hz hfx hfy hfz hw hs h1 s1 s2 s3
  unfold wPar3o at q
  simp only [putM_eq] at q
  exact q
theorem wPar3M_b (m m' m2 : Bool) (i j l : Nat) (wa wb wc : TWE) (dn : Nv → Prop) (dr : W → Bool → Prop) (db dc : Nv → Prop) (η : Nv) : wPar3M m m' m2 i j l wa wb wc ⟨dn, dr, db, dc⟩ η = (isLk (gt η i) = false ∧ isLk (gt η j) = false ∧ isLk (gt η l) = false ∧ wa η fun r fr => wb η fun r' fr' => wc η fun r2 fr2 => Go (putM m2 (putM m' (putM m η i r fr) j r' fr') l r2 fr2) dn .mk) := rfl
end
end VL
end

section
set_option Elab.async false
set_option linter.all false
set_option maxRecDepth 100000
/-! VL21: enumerate of a name's own list. -/
namespace VL
open PySem PySem.Spec PyProof.Rows L2
section
variable {X : Cx} {tg : Expr} {x : Str} {wa : TWE}
def iEnV (i : Nat) : TWI := fun η Q => match gt η i with
  | .fz (.lst ws) => Q (enW 0 ws)
  | .fz (.tup ws) => Q (enW 0 ws)
  | .lk (.lst ws) => Q (enW 0 ws)
  | _ => False
theorem ri_enumV (i : Nat) {p pos tpos vp : Pos} {elts : List Expr} {kk : Nat} (hg : Gl X "enumerate") (hm : X.mg "enumerate" = none) (hN : X.N[i]? = some x := by rfl) (hv : Vis X.env.scope x := by first | exact .inl rfl | exact .inr (.inl rfl) | exact .inr (.inr rfl)) (hd : (x == ("__debug__" : Str)) = false := by decide) (hcd : (x == ("__classdict__" : Str)) = false := by decide)
    (hs : starEach [.Name x vp] X.env = [(false, eval (.Name x vp) X.env)] := by rfl) (hs' : starEach [.Name x vp] X.env = (false, eval (.Name x vp) X.env) :: starEach [] X.env := by rfl) :
    RI X (.Tuple elts kk tpos) (.Call (.Name "enumerate" p) [.Name x vp] [] pos) (some i) (iEnV i) := PI.imp (pi_enumB hg hm (pa_cons (pe_var hN hv hd hcd) pa_nil hs') hs) fun σ H R q => by
  obtain ⟨B, F0, F, η, Q0, R0, w, k⟩ := q
  unfold iEnV at w
  split at w
  · rename_i ws z
    obtain ⟨v, e1, rep⟩ := R0.fr i _ z
    unfold Rep at rep
    obtain ⟨d, vs, e, f, r⟩ := rep
    exact ⟨v, e1, d, vs, by rw [e], .inl ⟨.of (R0.sub.fz f), k _ w F H _ (Le.refl _) R0 (ite_ok fun B F0 F' η' σ' H' l _ R' => ⟨vs, R'.sub.fz (l _ _ f), Reps.mono _ l _ _ r⟩)⟩⟩
  · rename_i ws z
    obtain ⟨v, e1, rep⟩ := R0.fr i _ z
    unfold Rep at rep
    obtain ⟨d, vs, e, f, r⟩ := rep
    exact ⟨v, e1, d, vs, by rw [e], .inr ⟨.of (R0.sub.fz f), k _ w F H _ (Le.refl _) R0 (iteT_ok fun B F0 F' η' σ' H' l _ R' => ⟨vs, R'.sub.fz (l _ _ f), Reps.mono _ l _ _ r⟩)⟩⟩
  · rename_i ws z
    obtain ⟨d, o, e1, hF, hH, vs, eo, r⟩ := R0.lk i _ z
    subst eo
    refine ⟨_, e1, d, vs, rfl, .inl ⟨.of hH, k _ w F H _ (Le.refl _) R0 (ite_ok fun B F0 F' η' σ' H' l q R' => ?_)⟩⟩
    obtain ⟨z1, z2⟩ := q i _ rfl z
    obtain ⟨d', o', e2, _, hH', vs', eo', r'⟩ := R'.lk i _ z1
    rw [z2, e1] at e2
    cases e2
    exact ⟨vs', eo' ▸ hH', r'⟩
  · exact w.elim
theorem iEnV_b (i : Nat) (η : Nv) (Q : List W → Prop) : iEnV i η Q = At (gt η i) (fun s => match s with
  | .fz (.lst ws) => Q (enW 0 ws)
  | .fz (.tup ws) => Q (enW 0 ws)
  | .lk (.lst ws) => Q (enW 0 ws)
  | _ => False) .mk := rfl
end
end VL
end

section
set_option linter.all false
/-! NT: primes, books, divisors, in plain numbers. -/
namespace NT

/-! ### primes -/
def Pr (p : Nat) : Prop := 2 ≤ p ∧ ∀ d, d ∣ p → d = 1 ∨ d = p
theorem Pr.two_le {p : Nat} (h : Pr p) : 2 ≤ p := h.1
theorem Pr.pos {p : Nat} (h : Pr p) : 0 < p := by have := h.1; omega
theorem Pr.cop {p a : Nat} (h : Pr p) (n : ¬ p ∣ a) : Nat.Coprime p a := by
  rcases h.2 (Nat.gcd p a) (Nat.gcd_dvd_left p a) with e | e
  · exact e
  · exact absurd (e ▸ Nat.gcd_dvd_right p a) n
theorem Pr.dvd_mul {p a b : Nat} (h : Pr p) (d : p ∣ a * b) : p ∣ a ∨ p ∣ b := by
  by_cases n : p ∣ a
  · exact .inl n
  · exact .inr ((h.cop n).dvd_of_dvd_mul_left d)
theorem Pr.dvd_pow {p a : Nat} (h : Pr p) : ∀ {k : Nat}, p ∣ a ^ k → p ∣ a
  | 0, d => by
    rw [Nat.pow_zero] at d
    have := Nat.le_of_dvd (by decide) d
    have := h.1
    omega
  | k + 1, d => by
    rw [Nat.pow_succ] at d
    rcases h.dvd_mul d with z | z
    · exact h.dvd_pow z
    · exact z
theorem Pr.eq {p q : Nat} (h : Pr p) (k : Pr q) (d : p ∣ q) : p = q := by
  rcases k.2 p d with e | e
  · have := h.1; omega
  · exact e
theorem exists_pr : ∀ n : Nat, 2 ≤ n → ∃ p, Pr p ∧ p ∣ n := by
  intro n
  induction n using Nat.strongRecOn with
  | _ n ih =>
    intro h
    by_cases hp : ∀ d, d ∣ n → d = 1 ∨ d = n
    · exact ⟨n, ⟨h, hp⟩, Nat.dvd_refl n⟩
    · simp only [Classical.not_forall, not_or] at hp
      obtain ⟨d, hd, h1, h2⟩ := hp
      have hle := Nat.le_of_dvd (by omega) hd
      have h0 : d ≠ 0 := fun z => by subst z; have := Nat.eq_zero_of_zero_dvd hd; omega
      obtain ⟨p, pp, pd⟩ := ih d (by omega) (by omega)
      exact ⟨p, pp, Nat.dvd_trans pd hd⟩
/-- no divisor from 2 on below d -/
def Rough (d n : Nat) : Prop := ∀ k, 2 ≤ k → k < d → ¬ k ∣ n
theorem Rough.pr {d n : Nat} (h : Rough d n) (h1 : 2 ≤ n) (h2 : n < d * d) : Pr n := by
  refine ⟨h1, fun k hk => ?_⟩
  obtain ⟨m, hm⟩ := hk
  have k0 : k ≠ 0 := fun z => by rw [z, Nat.zero_mul] at hm; omega
  have m0 : m ≠ 0 := fun z => by rw [z, Nat.mul_zero] at hm; omega
  by_cases k1 : k = 1
  · exact .inl k1
  · right
    have kd : d ≤ k := by
      by_cases q : k < d
      · exact absurd ⟨m, hm⟩ (h k (by omega) q)
      · omega
    by_cases m1 : m = 1
    · rw [hm, m1, Nat.mul_one]
    · have md : d ≤ m := by
        by_cases q : m < d
        · exact absurd ⟨k, by rw [hm, Nat.mul_comm]⟩ (h m (by omega) q)
        · omega
      have := Nat.mul_le_mul kd md
      omega
theorem Rough.pr_dvd {d n : Nat} (h : Rough d n) (h1 : 2 ≤ d) (h2 : d ∣ n) : Pr d := by
  refine ⟨h1, fun k hk => ?_⟩
  have h0 : k ≠ 0 := fun z => by subst z; have := Nat.eq_zero_of_zero_dvd hk; omega
  have hle := Nat.le_of_dvd (by omega) hk
  by_cases k1 : k = 1
  · exact .inl k1
  · right
    by_cases q : k < d
    · exact absurd (Nat.dvd_trans hk h2) (h k (by omega) q)
    · omega
theorem Rough.mono {d n m : Nat} (h : Rough d n) (k : m ∣ n) : Rough d m := fun j h1 h2 h3 => h j h1 h2 (Nat.dvd_trans h3 k)
theorem Rough.succ {d n : Nat} (h : Rough d n) (k : ¬ d ∣ n) : Rough (d + 1) n := fun j h1 h2 h3 => by
  by_cases e : j = d
  · subst e; exact k h3
  · exact h j h1 (by omega) h3
theorem rough2 (n : Nat) : Rough 2 n := fun k h1 h2 _ => by omega
theorem Pr.cop_pow {p q : Nat} (h : Pr p) (k : Pr q) (n : p ≠ q) (i j : Nat) : Nat.Coprime (p ^ i) (q ^ j) := Nat.Coprime.pow i j (h.cop fun d => n (h.eq k d))

/-! ### books -/
def bprod : List (Nat × Nat) → Nat
  | [] => 1
  | (p, h) :: L => p ^ h * bprod L
theorem bprod_append : ∀ L M : List (Nat × Nat), bprod (L ++ M) = bprod L * bprod M
  | [], M => by simp [bprod]
  | (p, h) :: L, M => by
    show p ^ h * bprod (L ++ M) = p ^ h * bprod L * bprod M
    rw [bprod_append L M, Nat.mul_assoc]
structure Bk (n : Nat) (L : List (Nat × Nat)) : Prop where
  prod : bprod L = n
  asc : L.Pairwise fun x y => x.1 < y.1
  pr : ∀ x ∈ L, Pr x.1 ∧ 1 ≤ x.2
theorem bprod_pos : ∀ {L : List (Nat × Nat)}, (∀ x ∈ L, Pr x.1 ∧ 1 ≤ x.2) → 0 < bprod L
  | [], _ => by decide
  | (p, h) :: L, k => Nat.mul_pos (Nat.pow_pos (k _ List.mem_cons_self).1.pos) (bprod_pos fun x hx => k x (List.mem_cons_of_mem _ hx))
theorem Bk.pos {n : Nat} {L : List (Nat × Nat)} (b : Bk n L) : 0 < n := b.prod ▸ bprod_pos b.pr
theorem bk_nil : Bk 1 [] := ⟨rfl, List.Pairwise.nil, fun x h => by cases h⟩
/-- a prime that divides the product stands in the book -/
theorem pr_bprod {p : Nat} (hp : Pr p) : ∀ {L : List (Nat × Nat)}, (∀ x ∈ L, Pr x.1 ∧ 1 ≤ x.2) → p ∣ bprod L → ∃ h, (p, h) ∈ L
  | [], _, d => by
    have d : p ∣ 1 := d
    have := Nat.le_of_dvd (by decide) d
    have := hp.1
    omega
  | (q, h) :: L, k, d => by
    rcases hp.dvd_mul (show p ∣ q ^ h * bprod L from d) with z | z
    · have := hp.eq (k _ List.mem_cons_self).1 (hp.dvd_pow z)
      subst this
      exact ⟨h, List.mem_cons_self⟩
    · obtain ⟨h', m⟩ := pr_bprod hp (fun x hx => k x (List.mem_cons_of_mem _ hx)) z
      exact ⟨h', List.mem_cons_of_mem _ m⟩
theorem cop_bprod {p i : Nat} (hp : Pr p) {L : List (Nat × Nat)} (k : ∀ x ∈ L, Pr x.1 ∧ 1 ≤ x.2) (n : ∀ h, (p, h) ∉ L) : Nat.Coprime (p ^ i) (bprod L) :=
  Nat.Coprime.pow_left i (hp.cop fun d => by obtain ⟨h, m⟩ := pr_bprod hp k d; exact n h m)
theorem Bk.tail {n p h : Nat} {L : List (Nat × Nat)} (b : Bk n ((p, h) :: L)) : Bk (bprod L) L := ⟨rfl, (List.pairwise_cons.mp b.asc).2, fun x hx => b.pr x (List.mem_cons_of_mem _ hx)⟩
theorem Bk.cop {n p h : Nat} {L : List (Nat × Nat)} (b : Bk n ((p, h) :: L)) : Nat.Coprime (p ^ h) (bprod L) :=
  cop_bprod (b.pr _ List.mem_cons_self).1 (fun x hx => b.pr x (List.mem_cons_of_mem _ hx)) fun h' m => by
    have z := (List.pairwise_cons.mp b.asc).1 _ m
    exact Nat.lt_irrefl _ z
/-- what stands in the book of n -/
theorem Bk.mem {n p h : Nat} {L : List (Nat × Nat)} (b : Bk n L) : (p, h) ∈ L ↔ Pr p ∧ 1 ≤ h ∧ p ^ h ∣ n ∧ ¬ p ^ (h + 1) ∣ n := by
  induction L generalizing n with
  | nil =>
    have e := b.prod
    constructor
    · intro z; cases z
    · rintro ⟨hp, h1, d, _⟩
      have e : 1 = n := e
      subst e
      have := Nat.le_of_dvd (by decide) d
      have : p ^ 1 ≤ p ^ h := Nat.pow_le_pow_right hp.pos h1
      have := hp.1
      rw [Nat.pow_one] at *
      omega
  | cons x L ih =>
    obtain ⟨q, k⟩ := x
    have bt := b.tail
    have hq := b.pr _ List.mem_cons_self
    have e : q ^ k * bprod L = n := b.prod
    have cop := b.cop
    have lt := (List.pairwise_cons.mp b.asc).1
    by_cases hpq : p = q
    · subst hpq
      have notin : ¬ p ∣ bprod L := fun d => by
        obtain ⟨h', m⟩ := pr_bprod hq.1 bt.pr d
        have z := lt _ m
        exact Nat.lt_irrefl _ z
      constructor
      · intro m
        rcases List.mem_cons.mp m with z | z
        · cases z
          refine ⟨hq.1, hq.2, e ▸ Nat.dvd_mul_right _ _, fun d => ?_⟩
          rw [← e, Nat.pow_succ] at d
          exact notin (Nat.dvd_of_mul_dvd_mul_left (Nat.pow_pos hq.1.pos) d)
        · have z := lt _ z
          exact absurd z (Nat.lt_irrefl _)
      · rintro ⟨_, h1, d1, d2⟩
        have : h = k := by
          rcases Nat.lt_trichotomy h k with z | z | z
          · exfalso
            apply d2
            rw [← e]
            exact Nat.dvd_trans (Nat.pow_dvd_pow p z) (Nat.dvd_mul_right _ _)
          · exact z
          · exfalso
            have : p ^ (k + 1) ∣ p ^ k * bprod L := e ▸ Nat.dvd_trans (Nat.pow_dvd_pow p z) d1
            rw [Nat.pow_succ] at this
            exact notin (Nat.dvd_of_mul_dvd_mul_left (Nat.pow_pos hq.1.pos) this)
        rw [this]
        exact List.mem_cons_self
    · have go : ∀ {i : Nat}, Pr p → (p ^ i ∣ n ↔ p ^ i ∣ bprod L) := fun {i} hp => by
        rw [← e]
        constructor
        · exact fun d => (hp.cop_pow hq.1 hpq i k).dvd_of_dvd_mul_left d
        · exact fun d => Nat.dvd_trans d (Nat.dvd_mul_left _ _)
      have z := ih bt
      constructor
      · intro m
        rcases List.mem_cons.mp m with y | y
        · cases y; exact absurd rfl hpq
        · obtain ⟨a1, a2, a3, a4⟩ := z.mp y
          exact ⟨a1, a2, (go a1).mpr a3, fun d => a4 ((go a1).mp d)⟩
      · rintro ⟨a1, a2, a3, a4⟩
        exact List.mem_cons_of_mem _ (z.mpr ⟨a1, a2, (go a1).mp a3, fun d => a4 ((go a1).mpr d)⟩)
theorem pw_irr {L : List (Nat × Nat)} (h : L.Pairwise fun x y => x.1 < y.1) : L.Nodup := h.imp fun {a b} z e => by rw [e] at z; exact Nat.lt_irrefl _ z
/-- there is just one book -/
theorem Bk.uniq {n : Nat} {L M : List (Nat × Nat)} (b : Bk n L) (c : Bk n M) : L = M := by
  have mem : ∀ x, x ∈ L ↔ x ∈ M := fun ⟨p, h⟩ => b.mem.trans c.mem.symm
  have perm : L.Perm M := (List.perm_ext_iff_of_nodup (pw_irr b.asc) (pw_irr c.asc)).mpr mem
  exact perm.eq_of_pairwise (fun x y _ _ h1 h2 => absurd (Nat.lt_trans h1 h2) (Nat.lt_irrefl _)) b.asc c.asc
/-- one more prime behind -/
theorem Bk.snoc {n p h : Nat} {L : List (Nat × Nat)} (b : Bk n L) (hp : Pr p) (h1 : 1 ≤ h) (lt : ∀ x ∈ L, x.1 < p) : Bk (n * p ^ h) (L ++ [(p, h)]) := by
  refine ⟨?_, ?_, fun x hx => ?_⟩
  · rw [bprod_append, b.prod]
    show n * (p ^ h * 1) = _
    rw [Nat.mul_one]
  · rw [List.pairwise_append]
    refine ⟨b.asc, List.pairwise_singleton _ _, fun x hx y hy => ?_⟩
    rw [List.mem_singleton.mp hy]
    exact lt x hx
  · rcases List.mem_append.mp hx with z | z
    · exact b.pr x z
    · rw [List.mem_singleton.mp z]; exact ⟨hp, h1⟩

/-! ### divisors -/
/-- all divisors, rising -/
def Dv (n : Nat) (l : List Nat) : Prop := l.Pairwise (· < ·) ∧ ∀ d, d ∈ l ↔ d ∣ n
theorem lt_nodup {l : List Nat} (h : l.Pairwise (· < ·)) : l.Nodup := h.imp fun z e => by rw [e] at z; exact Nat.lt_irrefl _ z
theorem lt_uniq {l m : List Nat} (h : l.Pairwise (· < ·)) (k : m.Pairwise (· < ·)) (e : ∀ d, d ∈ l ↔ d ∈ m) : l = m :=
  ((List.perm_ext_iff_of_nodup (lt_nodup h) (lt_nodup k)).mpr e).eq_of_pairwise (fun x y _ _ h1 h2 => absurd (Nat.lt_trans h1 h2) (Nat.lt_irrefl _)) h k
theorem Dv.uniq {n : Nat} {l m : List Nat} (h : Dv n l) (k : Dv n m) : l = m := lt_uniq h.1 k.1 fun d => (h.2 d).trans (k.2 d).symm
theorem lt_of_le_nodup {l : List Nat} (h : l.Pairwise (· ≤ ·)) (n : l.Nodup) : l.Pairwise (· < ·) := by
  induction l with
  | nil => exact List.Pairwise.nil
  | cons a l ih =>
    rw [List.pairwise_cons] at h
    rw [List.nodup_cons] at n
    rw [List.pairwise_cons]
    refine ⟨fun b hb => ?_, ih h.2 n.2⟩
    have h1 := h.1 b hb
    have h2 : a ≠ b := fun e => n.1 (e ▸ hb)
    omega
theorem sum_map_mul (q : Nat) : ∀ l : List Nat, (l.map (· * q)).sum = l.sum * q
  | [] => by simp
  | a :: l => by rw [List.map_cons, List.sum_cons, List.sum_cons, sum_map_mul q l, Nat.add_mul]
/-- d is an own divisor -/
def OwnD (n d : Nat) : Prop := ∃ e, d * e = n ∧ Nat.Coprime d e
theorem ownD_iff {n d : Nat} (hn : 0 < n) : OwnD n d ↔ d ∣ n ∧ Nat.gcd d (n / d) = 1 := by
  constructor
  · rintro ⟨e, h, c⟩
    have hd : 0 < d := by
      rcases Nat.eq_zero_or_pos d with z | z
      · rw [z, Nat.zero_mul] at h; omega
      · exact z
    refine ⟨⟨e, h.symm⟩, ?_⟩
    rw [← h, Nat.mul_div_cancel_left e hd]
    exact c
  · rintro ⟨h, c⟩
    exact ⟨n / d, Nat.mul_div_cancel' h, c⟩
structure Own (m : Nat) (S : List Nat) : Prop where
  nd : S.Nodup
  mem : ∀ d, d ∈ S ↔ OwnD m d
theorem own_one : Own 1 [1] := ⟨by simp, fun d => by
  constructor
  · intro h
    rw [List.mem_singleton.mp h]
    exact ⟨1, rfl, by decide⟩
  · rintro ⟨e, h, _⟩
    rw [List.mem_singleton]
    exact Nat.eq_one_of_mul_eq_one_right h⟩
theorem Own.step {m p h : Nat} {S : List Nat} (o : Own m S) (hm : 0 < m) (hp : Pr p) (h1 : 1 ≤ h) (c : Nat.Coprime (p ^ h) m) : Own (m * p ^ h) (S ++ S.map (· * p ^ h)) := by
  have qpos : 0 < p ^ h := Nat.pow_pos hp.pos
  have pq : p ∣ p ^ h := by have := Nat.pow_dvd_pow p h1; rwa [Nat.pow_one] at this
  have pm : ¬ p ∣ m := fun d => by
    have : p ∣ Nat.gcd (p ^ h) m := Nat.dvd_gcd pq d
    rw [c] at this
    have := Nat.le_of_dvd (by decide) this
    have := hp.1
    omega
  have dv : ∀ d ∈ S, d ∣ m := fun d hd => by
    obtain ⟨e, he, _⟩ := (o.mem d).mp hd
    exact ⟨e, he.symm⟩
  refine ⟨?_, fun d => ?_⟩
  · rw [List.nodup_append]
    refine ⟨o.nd, ?_, fun a ha b hb e => ?_⟩
    · rw [List.nodup_iff_pairwise_ne, List.pairwise_map]
      refine (List.nodup_iff_pairwise_ne.mp o.nd).imp fun {a b} n e => n ?_
      exact Nat.eq_of_mul_eq_mul_right qpos e
    · obtain ⟨x, hx, rfl⟩ := List.mem_map.mp hb
      exact pm (Nat.dvd_trans (Nat.dvd_trans pq ⟨x, by rw [Nat.mul_comm]⟩) (e ▸ dv a ha))
  · rw [List.mem_append, List.mem_map]
    constructor
    · rintro (hd | ⟨x, hx, rfl⟩)
      · obtain ⟨e, he, ce⟩ := (o.mem d).mp hd
        refine ⟨e * p ^ h, by rw [← Nat.mul_assoc, he], ?_⟩
        exact Nat.Coprime.mul_right ce (Nat.Coprime.symm (Nat.Coprime.coprime_dvd_right (dv d hd) c))
      · obtain ⟨e, he, ce⟩ := (o.mem x).mp hx
        refine ⟨e, by rw [Nat.mul_right_comm, he], ?_⟩
        exact Nat.Coprime.mul_left ce (Nat.Coprime.coprime_dvd_right ⟨x, by rw [Nat.mul_comm]; exact he.symm⟩ c)
    · rintro ⟨e, he, ce⟩
      by_cases hd : p ∣ d
      · have ne : ¬ p ∣ e := fun z => by
          have : p ∣ Nat.gcd d e := Nat.dvd_gcd hd z
          rw [ce] at this
          have := Nat.le_of_dvd (by decide) this
          have := hp.1
          omega
        have ceq : Nat.Coprime (p ^ h) e := Nat.Coprime.pow_left h (hp.cop ne)
        have qd : p ^ h ∣ d := ceq.dvd_of_dvd_mul_right (he ▸ Nat.dvd_mul_left _ _)
        obtain ⟨x, hx⟩ := qd
        right
        refine ⟨x, (o.mem x).mpr ⟨e, ?_, ?_⟩, by rw [hx, Nat.mul_comm]⟩
        · rw [hx] at he
          have : p ^ h * (x * e) = p ^ h * m := by rw [← Nat.mul_assoc, he, Nat.mul_comm]
          exact Nat.eq_of_mul_eq_mul_left qpos this
        · exact Nat.Coprime.coprime_dvd_left ⟨p ^ h, by rw [hx, Nat.mul_comm]⟩ ce
      · have cd : Nat.Coprime (p ^ h) d := Nat.Coprime.pow_left h (hp.cop hd)
        have qe : p ^ h ∣ e := cd.dvd_of_dvd_mul_left (he ▸ Nat.dvd_mul_left _ _)
        obtain ⟨x, hx⟩ := qe
        left
        refine (o.mem d).mpr ⟨x, ?_, Nat.Coprime.coprime_dvd_right ⟨p ^ h, by rw [hx, Nat.mul_comm]⟩ ce⟩
        rw [hx] at he
        have : p ^ h * (d * x) = p ^ h * m := by rw [Nat.mul_left_comm, he, Nat.mul_comm]
        exact Nat.eq_of_mul_eq_mul_left qpos this
/-- all divisors, in any order -/
structure All (m : Nat) (S : List Nat) : Prop where
  nd : S.Nodup
  mem : ∀ d, d ∈ S ↔ d ∣ m
theorem all_one : All 1 [1] := ⟨by simp, fun d => by rw [List.mem_singleton, Nat.dvd_one]⟩
def pows (p : Nat) : Nat → List Nat
  | 0 => [1]
  | k + 1 => pows p k ++ [p ^ (k + 1)]
theorem mem_pows {p : Nat} (hp : Pr p) : ∀ {k d : Nat}, d ∈ pows p k ↔ ∃ j, j ≤ k ∧ d = p ^ j
  | 0, d => by
    rw [pows, List.mem_singleton]
    constructor
    · intro e; exact ⟨0, Nat.le_refl _, by rw [e]; rfl⟩
    · rintro ⟨j, hj, e⟩; have : j = 0 := by omega
      subst this; exact e
  | k + 1, d => by
    rw [pows, List.mem_append, List.mem_singleton, mem_pows hp]
    constructor
    · rintro (⟨j, hj, e⟩ | e)
      · exact ⟨j, by omega, e⟩
      · exact ⟨k + 1, Nat.le_refl _, e⟩
    · rintro ⟨j, hj, e⟩
      by_cases z : j = k + 1
      · subst z; exact .inr e
      · exact .inl ⟨j, by omega, e⟩
theorem pow_inj {p i j : Nat} (hp : Pr p) (h : p ^ i = p ^ j) : i = j := by
  rcases Nat.lt_trichotomy i j with z | z | z
  · have := Nat.pow_lt_pow_right (a := p) (by have := hp.1; omega) z; omega
  · exact z
  · have := Nat.pow_lt_pow_right (a := p) (by have := hp.1; omega) z; omega
/-- d divides m p^h: a divisor of m times a power -/
theorem dvd_split {m p h d : Nat} (hp : Pr p) (hm : ¬ p ∣ m) : d ∣ m * p ^ h ↔ ∃ x j, x ∣ m ∧ j ≤ h ∧ d = x * p ^ j := by
  constructor
  · intro hd
    induction h generalizing d with
    | zero => exact ⟨d, 0, by simpa using hd, Nat.le_refl _, by simp⟩
    | succ h ih =>
      by_cases q : p ∣ d
      · obtain ⟨e, he⟩ := q
        subst he
        have : e ∣ m * p ^ h := by
          have e3 : m * p ^ (h + 1) = p * (m * p ^ h) := by rw [Nat.pow_succ]; simp only [Nat.mul_comm, Nat.mul_left_comm]
          have z : p * e ∣ p * (m * p ^ h) := e3 ▸ hd
          exact Nat.dvd_of_mul_dvd_mul_left hp.pos z
        obtain ⟨x, j, h1, h2, h3⟩ := ih this
        exact ⟨x, j + 1, h1, by omega, by rw [h3, Nat.pow_succ]; simp only [Nat.mul_assoc, Nat.mul_comm, Nat.mul_left_comm]⟩
      · have c : Nat.Coprime d (p ^ (h + 1)) := Nat.Coprime.pow_right _ (Nat.Coprime.symm (hp.cop q))
        exact ⟨d, 0, c.dvd_of_dvd_mul_right hd, Nat.zero_le _, by simp⟩
  · rintro ⟨x, j, h1, h2, h3⟩
    rw [h3]
    exact Nat.mul_dvd_mul h1 (Nat.pow_dvd_pow p h2)
theorem split_uniq {m p x y i j : Nat} (hp : Pr p) (hm : ¬ p ∣ m) (m0 : 0 < m) (hx : x ∣ m) (hy : y ∣ m) (e : x * p ^ i = y * p ^ j) : x = y ∧ i = j := by
  have x0 : 0 < x := Nat.pos_of_dvd_of_pos hx m0
  have y0 : 0 < y := Nat.pos_of_dvd_of_pos hy m0
  have nx : ¬ p ∣ x := fun z => hm (Nat.dvd_trans z hx)
  have ny : ¬ p ∣ y := fun z => hm (Nat.dvd_trans z hy)
  have cx : Nat.Coprime (p ^ j) x := Nat.Coprime.pow_left _ (hp.cop nx)
  have cy : Nat.Coprime (p ^ i) y := Nat.Coprime.pow_left _ (hp.cop ny)
  have h1 : p ^ j ∣ p ^ i := cx.dvd_of_dvd_mul_left (e ▸ Nat.dvd_mul_left _ _)
  have h2 : p ^ i ∣ p ^ j := cy.dvd_of_dvd_mul_left (e ▸ Nat.dvd_mul_left _ _)
  have e2 : p ^ i = p ^ j := Nat.dvd_antisymm h2 h1
  refine ⟨?_, pow_inj hp e2⟩
  rw [e2] at e
  exact Nat.eq_of_mul_eq_mul_right (Nat.pow_pos hp.pos) e
/-- the sum of all divisors, prime by prime -/
theorem nodup_map_mul {S : List Nat} {q : Nat} (h : S.Nodup) (q0 : 0 < q) : (S.map (· * q)).Nodup := by
  rw [List.nodup_iff_pairwise_ne, List.pairwise_map]
  exact (List.nodup_iff_pairwise_ne.mp h).imp fun {a b} n e => n (Nat.eq_of_mul_eq_mul_right q0 e)
/-- the list of x p^j, j rising outside -/
def mulPows (S : List Nat) (p : Nat) : Nat → List Nat
  | 0 => S
  | k + 1 => mulPows S p k ++ S.map (· * p ^ (k + 1))
def psum (p : Nat) : Nat → Nat
  | 0 => 1
  | k + 1 => psum p k + p ^ (k + 1)
theorem sum_mulPows (S : List Nat) (p : Nat) : ∀ k, (mulPows S p k).sum = S.sum * psum p k
  | 0 => by simp [mulPows, psum]
  | k + 1 => by rw [mulPows, psum, List.sum_append, sum_mulPows S p k, sum_map_mul, Nat.mul_add]
theorem mem_mulPows {S : List Nat} {p d : Nat} : ∀ {k : Nat}, d ∈ mulPows S p k ↔ ∃ x j, x ∈ S ∧ j ≤ k ∧ d = x * p ^ j
  | 0 => by
    rw [mulPows]
    constructor
    · intro h; exact ⟨d, 0, h, Nat.le_refl _, by simp⟩
    · rintro ⟨x, j, h1, h2, h3⟩
      have : j = 0 := by omega
      subst this
      rw [Nat.pow_zero, Nat.mul_one] at h3
      rw [h3]; exact h1
  | k + 1 => by
    rw [mulPows, List.mem_append, mem_mulPows, List.mem_map]
    constructor
    · rintro (⟨x, j, h1, h2, h3⟩ | ⟨x, h1, h2⟩)
      · exact ⟨x, j, h1, by omega, h3⟩
      · exact ⟨x, k + 1, h1, Nat.le_refl _, h2.symm⟩
    · rintro ⟨x, j, h1, h2, h3⟩
      by_cases z : j = k + 1
      · subst z; exact .inr ⟨x, h1, h3.symm⟩
      · exact .inl ⟨x, j, h1, by omega, h3⟩
theorem All.step {m p h : Nat} {S : List Nat} (o : All m S) (hm : 0 < m) (hp : Pr p) (n : ¬ p ∣ m) : All (m * p ^ h) (mulPows S p h) := by
  refine ⟨?_, fun d => ?_⟩
  · induction h with
    | zero => exact o.nd
    | succ k ih =>
      rw [mulPows, List.nodup_append]
      refine ⟨ih, nodup_map_mul o.nd (Nat.pow_pos hp.pos), fun a ha b hb e => ?_⟩
      obtain ⟨x, j, h1, h2, h3⟩ := mem_mulPows.mp ha
      obtain ⟨y, hy, rfl⟩ := List.mem_map.mp hb
      have := split_uniq hp n hm ((o.mem x).mp h1) ((o.mem y).mp hy) (h3.symm.trans e)
      omega
  · rw [mem_mulPows, dvd_split hp n]
    constructor
    · rintro ⟨x, j, h1, h2, h3⟩; exact ⟨x, j, (o.mem x).mp h1, h2, h3⟩
    · rintro ⟨x, j, h1, h2, h3⟩; exact ⟨x, j, (o.mem x).mpr h1, h2, h3⟩
theorem All.perm {m : Nat} {S T : List Nat} (a : All m S) (b : All m T) : S.Perm T := (List.perm_ext_iff_of_nodup a.nd b.nd).mpr fun d => (a.mem d).trans (b.mem d).symm
theorem Dv.all {m : Nat} {l : List Nat} (h : Dv m l) : All m l := ⟨lt_nodup h.1, h.2⟩
/-- by the book: the product of 1 + p + .. + p^h -/
def sig : List (Nat × Nat) → Nat
  | [] => 1
  | (p, h) :: L => psum p h * sig L
theorem all_book : ∀ {L : List (Nat × Nat)}, (∀ x ∈ L, Pr x.1 ∧ 1 ≤ x.2) → L.Pairwise (fun x y => x.1 < y.1) → ∃ S, All (bprod L) S ∧ S.sum = sig L
  | [], _, _ => ⟨[1], all_one, rfl⟩
  | (p, h) :: L, k, a => by
    have k' : ∀ x ∈ L, Pr x.1 ∧ 1 ≤ x.2 := fun x hx => k x (List.mem_cons_of_mem _ hx)
    obtain ⟨S, hS, e⟩ := all_book k' (List.pairwise_cons.mp a).2
    have hp : Pr p := (k _ List.mem_cons_self).1
    have n : ¬ p ∣ bprod L := fun d => by
      obtain ⟨h', m⟩ := pr_bprod hp k' d
      have z := (List.pairwise_cons.mp a).1 _ m
      exact Nat.lt_irrefl _ z
    refine ⟨mulPows S p h, ?_, ?_⟩
    · have z := hS.step (h := h) (bprod_pos k') hp n
      rw [Nat.mul_comm] at z
      exact z
    · rw [sum_mulPows, e, Nat.mul_comm]; rfl
theorem Bk.sig {n : Nat} {L : List (Nat × Nat)} {l : List Nat} (b : Bk n L) (d : Dv n l) : sig L = l.sum := by
  obtain ⟨S, hS, e⟩ := all_book b.pr b.asc
  rw [b.prod] at hS
  rw [← e]
  exact (hS.perm d.all).sum_nat
theorem sum_le_all {l : List Nat} {n : Nat} (h : ∀ d ∈ l, d ≤ n) : l.sum ≤ l.length * n := by
  induction l with
  | nil => simp
  | cons a l ih =>
    rw [List.sum_cons, List.length_cons, Nat.add_mul, Nat.one_mul]
    have := h a List.mem_cons_self
    have := ih fun d hd => h d (List.mem_cons_of_mem _ hd)
    omega
/-- unlike numbers from 1 to n: at most n of them -/
theorem len_le_of_nodup {l : List Nat} {n : Nat} (nd : l.Nodup) (h : ∀ d ∈ l, 1 ≤ d ∧ d ≤ n) : l.length ≤ n := by
  induction n generalizing l with
  | zero =>
    cases l with
    | nil => exact Nat.le_refl _
    | cons a l => have := h a List.mem_cons_self; omega
  | succ n ih =>
    by_cases m : n + 1 ∈ l
    · have e := List.length_erase_of_mem m
      have z := ih (l := l.erase (n + 1)) (nd.erase _) fun d hd => by
        have h1 := (List.Nodup.mem_erase_iff nd).mp hd
        have := h d h1.2
        omega
      omega
    · have z := ih nd fun d hd => by
        have h1 := h d hd
        have h2 : d ≠ n + 1 := fun e => m (e ▸ hd)
        omega
      omega
end NT
namespace NT
theorem two_pow_le_bprod : ∀ {L : List (Nat × Nat)}, (∀ x ∈ L, Pr x.1 ∧ 1 ≤ x.2) → 2 ^ L.length ≤ bprod L
  | [], _ => Nat.le_refl _
  | (p, h) :: L, k => by
    have h1 := two_pow_le_bprod (L := L) fun x hx => k x (List.mem_cons_of_mem _ hx)
    have h2 := (k _ List.mem_cons_self)
    have h3 : 2 ≤ p ^ h := by
      have : p ^ 1 ≤ p ^ h := Nat.pow_le_pow_right h2.1.pos h2.2
      have := h2.1.1
      rw [Nat.pow_one] at *
      omega
    rw [List.length_cons, Nat.pow_succ, Nat.mul_comm]
    exact Nat.mul_le_mul h3 h1
theorem Bk.len {n k : Nat} {L : List (Nat × Nat)} (b : Bk n L) (h : n < 2 ^ k) : L.length < k := by
  have z := two_pow_le_bprod b.pr
  rw [b.prod] at z
  exact (Nat.pow_lt_pow_iff_right (by decide)).mp (Nat.lt_of_le_of_lt z h)
theorem Bk.height {n k : Nat} {L : List (Nat × Nat)} (b : Bk n L) (h : n < 2 ^ k) {x : Nat × Nat} (m : x ∈ L) : x.2 < k ∧ x.1 ≤ n ∧ 2 ≤ x.1 ∧ 1 ≤ x.2 ∧ x.1 ^ x.2 ≤ n ∧ Pr x.1 := by
  obtain ⟨p, i⟩ := x
  obtain ⟨h1, h2, h3, _⟩ := b.mem.mp m
  have hle := Nat.le_of_dvd b.pos h3
  have : 2 ^ i ≤ p ^ i := Nat.pow_le_pow_left h1.1 i
  have l2 : p ^ 1 ≤ p ^ i := Nat.pow_le_pow_right h1.pos h2
  rw [Nat.pow_one] at l2
  refine ⟨(Nat.pow_lt_pow_iff_right (by decide : 1 < 2)).mp (Nat.lt_of_le_of_lt (Nat.le_trans this hle) h), Nat.le_trans l2 hle, h1.1, h2, hle, h1⟩
/-- the odd numbers are enough -/
theorem Rough.odd {p n : Nat} (h : Rough p n) (h3 : 3 ≤ p) (odd : p % 2 = 1) (k : ¬ p ∣ n) : Rough (p + 2) n := fun j h1 h2 h4 => by
  by_cases e : j = p
  · subst e; exact k h4
  · by_cases e2 : j = p + 1
    · have : 2 ∣ j := ⟨j / 2, by omega⟩
      exact h 2 (Nat.le_refl _) (by omega) (Nat.dvd_trans this h4)
    · exact h j h1 (by omega) h4
end NT
end

section
set_option Elab.async false
set_option linter.all false
/-! NT2: the rows of divisors as plain lists. -/
namespace NT
/-- all divisors, rising -/
def divs (n : Nat) : List Nat := (List.range (n + 1)).filter fun d => decide (d ∣ n)
def sg (n : Nat) : Nat := (divs n).sum
def owns (n : Nat) : List Nat := (divs n).filter fun d => decide (Nat.gcd d (n / d) = 1)
def os (n : Nat) : Nat := (owns n).sum
theorem range_lt (n : Nat) : (List.range n).Pairwise (· < ·) := List.pairwise_lt_range
theorem mem_divs {n d : Nat} (h : 0 < n) : d ∈ divs n ↔ d ∣ n := by
  unfold divs
  rw [List.mem_filter, List.mem_range, decide_eq_true_eq]
  exact ⟨fun z => z.2, fun z => ⟨Nat.lt_succ_of_le (Nat.le_of_dvd h z), z⟩⟩
theorem divs_lt (n : Nat) : (divs n).Pairwise (· < ·) := (range_lt _).filter _
theorem divs_dv {n : Nat} (h : 0 < n) : Dv n (divs n) := ⟨divs_lt n, fun _ => mem_divs h⟩
theorem divs_pos {n d : Nat} (h : 0 < n) (k : d ∈ divs n) : 0 < d := Nat.pos_of_dvd_of_pos ((mem_divs h).mp k) h
theorem Bk.sg {n : Nat} {L : List (Nat × Nat)} (b : Bk n L) : NT.sig L = NT.sg n := Bk.sig b (divs_dv b.pos)
theorem mem_owns {n d : Nat} (h : 0 < n) : d ∈ owns n ↔ OwnD n d := by
  unfold owns
  rw [List.mem_filter, mem_divs h, decide_eq_true_eq, ownD_iff h]
theorem owns_lt (n : Nat) : (owns n).Pairwise (· < ·) := (divs_lt n).filter _
theorem owns_own {n : Nat} (h : 0 < n) : Own n (owns n) := ⟨lt_nodup (owns_lt n), fun _ => mem_owns h⟩
theorem Own.perm {m : Nat} {S T : List Nat} (a : Own m S) (b : Own m T) : S.Perm T := (List.perm_ext_iff_of_nodup a.nd b.nd).mpr fun d => (a.mem d).trans (b.mem d).symm
/-- by the book: the product of 1 + p^h -/
def osum : List (Nat × Nat) → Nat
  | [] => 1
  | (p, h) :: L => (1 + p ^ h) * osum L
theorem osum_snoc (p h : Nat) : ∀ L : List (Nat × Nat), osum (L ++ [(p, h)]) = osum L * (1 + p ^ h)
  | [] => by simp [osum]
  | (q, i) :: L => by
    show (1 + q ^ i) * osum (L ++ [(p, h)]) = (1 + q ^ i) * osum L * (1 + p ^ h)
    rw [osum_snoc p h L, Nat.mul_assoc]
theorem sig_snoc (p h : Nat) : ∀ L : List (Nat × Nat), sig (L ++ [(p, h)]) = sig L * psum p h
  | [] => by simp [sig]
  | (q, i) :: L => by
    show psum q i * sig (L ++ [(p, h)]) = psum q i * sig L * psum p h
    rw [sig_snoc p h L, Nat.mul_assoc]
theorem bk_pre {n : Nat} {A B : List (Nat × Nat)} (b : Bk n (A ++ B)) : Bk (bprod A) A := ⟨rfl, (List.pairwise_append.mp b.asc).1, fun x hx => b.pr x (List.mem_append_left _ hx)⟩
/-- own divisors step by step along the book -/
theorem own_snoc {n p h : Nat} {A B : List (Nat × Nat)} (b : Bk n (A ++ (p, h) :: B)) {S : List Nat} (o : Own (bprod A) S) : Own (bprod (A ++ [(p, h)])) (S ++ S.map (· * p ^ h)) := by
  have e : A ++ (p, h) :: B = (A ++ [(p, h)]) ++ B := by simp
  rw [e] at b
  have c := bk_pre b
  have pr := c.pr (p, h) (by simp)
  have := o.step (h := h) (bk_pre c).pos pr.1 pr.2 (cop_bprod pr.1 (bk_pre c).pr fun k m => by
    have := (List.pairwise_append.mp c.asc).2.2 _ m _ (List.mem_singleton.mpr rfl)
    exact Nat.lt_irrefl _ this)
  have e2 : bprod (A ++ [(p, h)]) = bprod A * p ^ h := by rw [bprod_append]; simp [bprod]
  rw [e2]; exact this
theorem own_book {n : Nat} {L : List (Nat × Nat)} (b : Bk n L) : ∃ S, Own n S ∧ S.length = 2 ^ L.length ∧ S.sum = osum L := by
  have go : ∀ (B A : List (Nat × Nat)), L = A ++ B → (∃ S, Own (bprod A) S ∧ S.length = 2 ^ A.length ∧ S.sum = osum A) → ∃ S, Own (bprod L) S ∧ S.length = 2 ^ L.length ∧ S.sum = osum L := by
    intro B
    induction B with
    | nil => intro A e q; rw [List.append_nil] at e; subst e; exact q
    | cons x B ih =>
      obtain ⟨p, h⟩ := x
      intro A e ⟨S, o, l, s⟩
      refine ih (A ++ [(p, h)]) (by rw [e]; simp) ⟨_, own_snoc (e ▸ b) o, ?_, ?_⟩
      · simp only [List.length_append, List.length_map, List.length_singleton, l, Nat.pow_succ]; omega
      · rw [List.sum_append, sum_map_mul, s, osum_snoc, Nat.mul_add, Nat.mul_one]
  obtain ⟨S, o, l, s⟩ := go L [] rfl ⟨[1], own_one, rfl, rfl⟩
  exact ⟨S, b.prod ▸ o, l, s⟩
theorem Bk.owns {n : Nat} {L : List (Nat × Nat)} (b : Bk n L) : (NT.owns n).length = 2 ^ L.length ∧ os n = osum L := by
  obtain ⟨S, o, l, s⟩ := own_book b
  have p := (owns_own b.pos).perm o
  exact ⟨p.length_eq.trans l, p.sum_nat.trans s⟩
/-! by pairs: low and high -/
def lowD (n d : Nat) : List Nat := (List.range d).filter fun x => decide (x ∣ n)
theorem lowD_succ (n d : Nat) : lowD n (d + 1) = lowD n d ++ (if d ∣ n then [d] else []) := by
  unfold lowD
  rw [List.range_succ, List.filter_append]
  by_cases h : d ∣ n
  · simp [h]
  · simp [h]
theorem lowD_len (n d : Nat) : (lowD n d).length ≤ d := by
  have := List.length_filter_le (fun x => decide (x ∣ n)) (List.range d)
  rwa [List.length_range] at this
theorem mem_lowD {n d x : Nat} : x ∈ lowD n d ↔ x < d ∧ x ∣ n := by unfold lowD; rw [List.mem_filter, List.mem_range, decide_eq_true_eq]
def highD (n d : Nat) : List Nat := ((lowD n d).reverse.filter fun x => decide (x * x < n)).map fun x => n / x
theorem low_high {n d : Nat} (h : 0 < n) (k : n < d * d) (l : ∀ x, x < d → x * x ≤ n) : lowD n d ++ highD n d = divs n := by
  have low_lt : (lowD n d).Pairwise (· < ·) := (range_lt _).filter _
  have mem_high : ∀ y, y ∈ highD n d ↔ ∃ x, x < d ∧ x ∣ n ∧ x * x < n ∧ y = n / x := by
    intro y
    unfold highD
    rw [List.mem_map]
    constructor
    · rintro ⟨x, hx, e⟩
      rw [List.mem_filter, List.mem_reverse, mem_lowD, decide_eq_true_eq] at hx
      exact ⟨x, hx.1.1, hx.1.2, hx.2, e.symm⟩
    · rintro ⟨x, h1, h2, h3, e⟩
      exact ⟨x, by rw [List.mem_filter, List.mem_reverse, mem_lowD, decide_eq_true_eq]; exact ⟨⟨h1, h2⟩, h3⟩, e.symm⟩
  have facts : ∀ x, x ∣ n → x * x < n → 0 < x ∧ x * (n / x) = n ∧ x < n / x ∧ n < (n / x) * (n / x) := by
    intro x hx hxx
    have x0 : 0 < x := Nat.pos_of_dvd_of_pos hx h
    have e := Nat.mul_div_cancel' hx
    have lt : x < n / x := Nat.lt_of_mul_lt_mul_left (a := x) (by rw [e]; exact hxx)
    refine ⟨x0, e, lt, ?_⟩
    have := Nat.mul_lt_mul_of_pos_right lt (Nat.lt_trans x0 lt)
    rwa [e] at this
  refine lt_uniq ?_ (divs_lt n) fun y => ?_
  · rw [List.pairwise_append]
    refine ⟨low_lt, ?_, fun a ha b hb => ?_⟩
    · unfold highD
      rw [List.pairwise_map]
      have r : (lowD n d).reverse.Pairwise fun x y => y < x := List.pairwise_reverse.mpr low_lt
      refine (r.filter _).imp_of_mem fun {a b} ha hb lt => ?_
      rw [List.mem_filter, List.mem_reverse, mem_lowD, decide_eq_true_eq] at ha hb
      obtain ⟨a0, ea, _, _⟩ := facts a ha.1.2 ha.2
      obtain ⟨b0, eb, _, _⟩ := facts b hb.1.2 hb.2
      refine Nat.lt_of_not_le fun z => ?_
      have h1 : b * (n / b) ≤ b * (n / a) := Nat.mul_le_mul_left b z
      have h2 : b * (n / a) < a * (n / a) := Nat.mul_lt_mul_of_pos_right lt (by
        rcases Nat.eq_zero_or_pos (n / a) with q | q
        · rw [q, Nat.mul_zero] at ea; omega
        · exact q)
      omega
    · obtain ⟨x, _, h2, h3, e⟩ := (mem_high b).mp hb
      obtain ⟨_, _, _, f⟩ := facts x h2 h3
      have := l a (mem_lowD.mp ha).1
      subst e
      exact Nat.lt_of_not_le fun z => absurd (Nat.mul_le_mul z z) (by omega)
  · rw [List.mem_append, mem_lowD, mem_high, mem_divs h]
    constructor
    · rintro (⟨_, z⟩ | ⟨x, h1, h2, h3, rfl⟩)
      · exact z
      · exact Nat.div_dvd_of_dvd h2
    · intro hy
      by_cases z : y < d
      · exact .inl ⟨z, hy⟩
      · have e := Nat.mul_div_cancel' hy
        have y0 := Nat.pos_of_dvd_of_pos hy h
        have q : n / y < d := Nat.lt_of_not_le fun w => by
          have := Nat.mul_le_mul (Nat.le_of_not_lt z) w
          omega
        refine .inr ⟨n / y, q, Nat.div_dvd_of_dvd hy, ?_, ?_⟩
        · have : n / y < y := by omega
          calc n / y * (n / y) < y * (n / y) := Nat.mul_lt_mul_of_pos_right this (by
                rcases Nat.eq_zero_or_pos (n / y) with q | q
                · rw [q, Nat.mul_zero] at e; omega
                · exact q)
            _ = n := e
        · exact (Nat.div_div_self hy (by omega)).symm
theorem root_ex (n : Nat) : ∀ D, n < D * D → ∃ d, d ≤ D ∧ n < d * d ∧ ∀ x, x < d → x * x ≤ n
  | 0, h => by simp at h
  | D + 1, h => by
    by_cases z : n < D * D
    · obtain ⟨d, h1, h2, h3⟩ := root_ex n D z
      exact ⟨d, by omega, h2, h3⟩
    · exact ⟨D + 1, Nat.le_refl _, h, fun x hx => Nat.le_trans (Nat.mul_le_mul (Nat.le_of_lt_succ hx) (Nat.le_of_lt_succ hx)) (Nat.le_of_not_lt z)⟩
theorem divs_len {n D : Nat} (h : 0 < n) (k : n < D * D) : (divs n).length ≤ 2 * D := by
  obtain ⟨d, h1, h2, h3⟩ := root_ex n D k
  rw [← low_high h h2 h3, List.length_append]
  have a := lowD_len n d
  have b : (highD n d).length ≤ (lowD n d).length := by
    unfold highD
    rw [List.length_map]
    exact Nat.le_trans (List.length_filter_le _ _) (by rw [List.length_reverse]; exact Nat.le_refl _)
  omega
theorem sg_le {n D : Nat} (h : 0 < n) (k : n < D * D) : sg n ≤ 2 * D * n := Nat.le_trans (sum_le_all fun d hd => Nat.le_of_dvd h ((mem_divs h).mp hd)) (Nat.mul_le_mul_right n (divs_len h k))
theorem os_le_sg (n : Nat) : os n ≤ sg n := by
  unfold os sg owns
  generalize divs n = l
  induction l with
  | nil => simp
  | cons a l ih =>
    by_cases c : Nat.gcd a (n / a) = 1
    · simp [c]; omega
    · simp [c]; omega
theorem le_sum_mem {a : Nat} : ∀ {l : List Nat}, a ∈ l → a ≤ l.sum
  | b :: l, h => by
    rw [List.sum_cons]
    rcases List.mem_cons.mp h with z | z
    · omega
    · have := le_sum_mem z; omega
theorem n_le_os {n : Nat} (h : 0 < n) : n ≤ os n := by
  have : n ∈ owns n := (mem_owns h).mpr ⟨1, Nat.mul_one n, by rw [Nat.Coprime, Nat.gcd_one_right]⟩
  exact le_sum_mem this
theorem n_le_sg {n : Nat} (h : 0 < n) : n ≤ sg n := Nat.le_trans (n_le_os h) (os_le_sg n)
theorem owns_len_le (n : Nat) : (owns n).length ≤ (divs n).length := List.length_filter_le _ _
/-- few primes -/
theorem three_pow {n : Nat} {L : List (Nat × Nat)} (b : Bk n L) : 2 * 3 ^ L.length ≤ 3 * n := by
  have go : ∀ (M : List (Nat × Nat)), (∀ x ∈ M, 3 ≤ x.1 ∧ 1 ≤ x.2) → 3 ^ M.length ≤ bprod M := by
    intro M
    induction M with
    | nil => intro _; exact Nat.le_refl _
    | cons x M ih =>
      obtain ⟨p, h⟩ := x
      intro k
      have q := k _ List.mem_cons_self
      have r := ih fun y hy => k y (List.mem_cons_of_mem _ hy)
      have : 3 ≤ p ^ h := Nat.le_trans q.1 (Nat.le_self_pow (by have := q.2; simp at this; omega) p)
      show 3 ^ (M.length + 1) ≤ p ^ h * bprod M
      rw [Nat.pow_succ, Nat.mul_comm]
      exact Nat.mul_le_mul this r
  rw [← b.prod]
  cases L with
  | nil => decide
  | cons x M =>
    obtain ⟨p, h⟩ := x
    have q := b.pr _ List.mem_cons_self
    have r := go M fun y hy => by
      have a := (List.pairwise_cons.mp b.asc).1 y hy
      have c := b.pr y (List.mem_cons_of_mem _ hy)
      have d := q.1.1
      simp at a d
      exact ⟨by omega, c.2⟩
    have : 2 ≤ p ^ h := Nat.le_trans q.1.1 (Nat.le_self_pow (by have := q.2; simp at this; omega) p)
    show 2 * 3 ^ (M.length + 1) ≤ 3 * (p ^ h * bprod M)
    have := Nat.mul_le_mul this r
    rw [Nat.pow_succ]
    omega
end NT
end

section
set_option Elab.async false
set_option linter.all false
/-! NT3: rests of powers, least prime divisors. -/
namespace NT
theorem emod_pow (a n : Int) : ∀ k : Nat, (a % n) ^ k % n = a ^ k % n
  | 0 => by rw [Int.pow_zero, Int.pow_zero]
  | k + 1 => by rw [Int.pow_succ, Int.pow_succ, Int.mul_emod, emod_pow a n k, Int.emod_emod, ← Int.mul_emod]
theorem mulmod_l (a b n : Int) : (a % n * b) % n = (a * b) % n := by rw [Int.mul_emod, Int.emod_emod, ← Int.mul_emod]
theorem mulmod_r (a b n : Int) : (a * (b % n)) % n = (a * b) % n := by rw [Int.mul_emod, Int.emod_emod, ← Int.mul_emod]
theorem sq_pow (b : Int) : ∀ j : Nat, (b * b) ^ j = b ^ (2 * j)
  | 0 => by rw [Int.pow_zero, Int.pow_zero]
  | j + 1 => by rw [Int.pow_succ, sq_pow b j, show 2 * (j + 1) = 2 * j + 1 + 1 from rfl, Int.pow_succ, Int.pow_succ, Int.mul_assoc]
/-- a turn of the quick power -/
theorem rest_even {t b n : Int} {m : Nat} (z : m % 2 = 0) : t * (b * b % n) ^ (m / 2) % n = t * b ^ m % n := by
  have e : m = 2 * (m / 2) := by omega
  rw [← mulmod_r, emod_pow, mulmod_r, sq_pow, ← e]
theorem rest_odd {t b n : Int} {m : Nat} (z : m % 2 = 1) : (t * b % n) * (b * b % n) ^ (m / 2) % n = t * b ^ m % n := by
  have e : m = 2 * (m / 2) + 1 := by omega
  rw [mulmod_l, ← mulmod_r, emod_pow, mulmod_r, sq_pow, Int.mul_assoc]
  conv => rhs; rw [e, Int.pow_succ, Int.mul_comm (b ^ (2 * (m / 2))) b]
theorem pow_abs (o : Int) (n : Nat) (h : o.natAbs ≤ n) (j : Nat) : (o ^ j).natAbs ≤ n ^ j := by
  rw [Int.natAbs_pow]; exact Nat.pow_le_pow_left h j
/-- the least divisor over 1 -/
def LP (N r : Nat) : Prop := 2 ≤ r ∧ r ∣ N ∧ Rough r N
theorem LP.uniq {N r s : Nat} (h : LP N r) (k : LP N s) : r = s := by
  rcases Nat.lt_trichotomy r s with z | z | z
  · exact absurd h.2.1 (k.2.2 r h.1 z)
  · exact z
  · exact absurd k.2.1 (h.2.2 s k.1 z)
theorem LP.pr {N r : Nat} (h : LP N r) : Pr r := h.2.2.pr_dvd h.1 h.2.1
theorem lp_of_bk {N : Nat} {L : List (Nat × Nat)} (b : Bk N L) (h : 2 ≤ N) : ∃ r k M, L = (r, k) :: M ∧ LP N r := by
  cases L with
  | nil => have := b.prod; simp [bprod] at this; omega
  | cons x M =>
    obtain ⟨r, k⟩ := x
    refine ⟨r, k, M, rfl, ?_⟩
    have pr := (b.pr (r, k) List.mem_cons_self)
    have m := (b.mem (p := r) (h := k)).mp List.mem_cons_self
    refine ⟨pr.1.1, Nat.dvd_trans (Nat.dvd_trans ⟨r ^ (k - 1), by rw [← Nat.pow_succ', show (k - 1).succ = k from by have := m.2.1; omega]⟩ m.2.2.1) (Nat.dvd_refl N), fun j h1 h2 h3 => ?_⟩
    obtain ⟨q, hq, hd⟩ := exists_pr j h1
    have qn : q ∣ N := Nat.dvd_trans hd h3
    rw [← b.prod] at qn
    obtain ⟨i, hi⟩ := pr_bprod hq b.pr qn
    have le := Nat.le_of_dvd (by omega) hd
    rcases List.mem_cons.mp hi with e | e
    · cases e; omega
    · have := (List.pairwise_cons.mp b.asc).1 _ e
      simp at this; omega
theorem rough_of {N r : Nat} (h : ((List.range r).all fun d => decide (d < 2) || !decide (N % d = 0)) = true) : Rough r N := fun j h1 h2 h3 => by
  have := List.all_eq_true.mp h j (List.mem_range.mpr h2)
  simp only [Bool.or_eq_true, decide_eq_true_eq, Bool.not_eq_true', decide_eq_false_iff_not] at this
  rcases this with z | z
  · omega
  · exact z (Nat.mod_eq_zero_of_dvd h3)
theorem pr_by {N : Nat} (D : Nat) (h : 2 ≤ N) (k : N < D * D) (c : ((List.range D).all fun d => decide (d < 2) || !decide (N % d = 0)) = true) : Pr N := (rough_of c).pr h k
theorem Pr.rough {N : Nat} (h : Pr N) : Rough N N := fun j h1 h2 h3 => by rcases h.2 j h3 with e | e <;> omega
theorem Pr.lp {N : Nat} (h : Pr N) : LP N N := ⟨h.1, Nat.dvd_refl N, h.rough⟩
end NT
end

section
set_option Elab.async false
set_option linter.all false
/-! NT4: counting, rests by coprime numbers, polynomials by a prime. -/
namespace NT
theorem sub_len {α : Type} [DecidableEq α] : ∀ (l m : List α), l.Nodup → (∀ x ∈ l, x ∈ m) → l.length ≤ m.length
  | [], _, _, _ => Nat.zero_le _
  | a :: l, m, nd, h => by
    have am := h a (List.mem_cons_self)
    have nd' := List.nodup_cons.mp nd
    have := sub_len l (m.erase a) nd'.2 fun x hx => (List.mem_erase_of_ne (fun e : x = a => nd'.1 (by rw [← e]; exact hx))).mpr (h x (List.mem_cons_of_mem _ hx))
    rw [List.length_erase_of_mem am] at this
    have p : 0 < m.length := List.length_pos_of_mem am
    simp only [List.length_cons]
    omega
theorem perm_of {α : Type} [DecidableEq α] {l m : List α} (nl : l.Nodup) (nm : m.Nodup) (h : ∀ x ∈ l, x ∈ m) (k : m.length ≤ l.length) : l.Perm m :=
  (List.perm_ext_iff_of_nodup nl nm).mpr fun y => ⟨h y, fun hy => Classical.byContradiction fun n => by
    have := sub_len (y :: l) m (List.nodup_cons.mpr ⟨n, nl⟩) (fun x hx => by
      rcases List.mem_cons.mp hx with e | e
      · rw [e]; exact hy
      · exact h x e)
    simp only [List.length_cons] at this
    omega⟩
/-- a one to one map of the numbers below n into themselves -/
theorem perm_range {n : Nat} {f : Nat → Nat} (h : ∀ x, x < n → f x < n) (inj : ∀ x y, x < n → y < n → f x = f y → x = y) : ((List.range n).map f).Perm (List.range n) := by
  refine perm_of ?_ List.nodup_range (fun x hx => ?_) (by rw [List.length_map]; exact Nat.le_refl _)
  · refine List.pairwise_map.mpr ?_
    refine List.Pairwise.imp_of_mem (R := fun x y => x ≠ y) (fun {x y} hx hy n e => n (inj x y (List.mem_range.mp hx) (List.mem_range.mp hy) e)) List.nodup_range
  · obtain ⟨y, hy, rfl⟩ := List.mem_map.mp hx
    exact List.mem_range.mpr (h y (List.mem_range.mp hy))
def cnt (P : Nat → Bool) (n : Nat) : Nat := ((List.range n).filter P).length
def prs (A B : Nat) : List (Nat × Nat) := (List.range A).flatMap fun a => (List.range B).map fun b => (a, b)
theorem mem_prs {A B : Nat} {x : Nat × Nat} : x ∈ prs A B ↔ x.1 < A ∧ x.2 < B := by
  unfold prs
  rw [List.mem_flatMap]
  constructor
  · rintro ⟨a, ha, h⟩
    obtain ⟨b, hb, rfl⟩ := List.mem_map.mp h
    exact ⟨List.mem_range.mp ha, List.mem_range.mp hb⟩
  · rintro ⟨h1, h2⟩
    exact ⟨x.1, List.mem_range.mpr h1, List.mem_map.mpr ⟨x.2, List.mem_range.mpr h2, rfl⟩⟩
theorem fm_len {β : Type} (Q : Nat → Bool) (B : Nat) (P : Nat → Bool) (f : Nat → Nat → β) (R : β → Bool) (hR : ∀ a b, R (f a b) = (P a && Q b)) : ∀ l : List Nat, ((l.flatMap fun a => (List.range B).map (f a)).filter R).length = (l.filter P).length * cnt Q B
  | [] => by simp
  | a :: l => by
    rw [List.flatMap_cons, List.filter_append, List.length_append, fm_len Q B P f R hR l, List.filter_map, List.length_map]
    have e : (R ∘ f a) = fun b => (P a && Q b) := funext fun b => hR a b
    rw [e]
    cases h : P a with
    | true =>
      rw [List.filter_cons_of_pos h, List.length_cons, Nat.succ_mul, Nat.add_comm]
      congr 1
    | false =>
      rw [List.filter_cons_of_neg (by rw [h]; decide)]
      simp
theorem prs_len (A B : Nat) : (prs A B).length = A * B := by
  have h := fm_len (fun _ => true) B (fun _ => true) (fun a b => (a, b)) (fun _ => true) (fun _ _ => rfl) (List.range A)
  unfold cnt at h
  have t : ∀ {β : Type} (l : List β), l.filter (fun _ => true) = l := fun l => List.filter_eq_self.mpr fun _ _ => rfl
  rw [t, t, t, List.length_range, List.length_range] at h
  exact h
theorem crt_inj {A B x y : Nat} (c : Nat.Coprime A B) (hx : x < A * B) (hy : y < A * B) (h1 : x % A = y % A) (h2 : x % B = y % B) : x = y := by
  have key : ∀ x y, x < A * B → y < A * B → y ≤ x → x % A = y % A → x % B = y % B → x = y := by
    intro x y hx hy le h1 h2
    have d1 : A ∣ x - y := Nat.dvd_of_mod_eq_zero (Nat.sub_mod_eq_zero_of_mod_eq h1)
    have d2 : B ∣ x - y := Nat.dvd_of_mod_eq_zero (Nat.sub_mod_eq_zero_of_mod_eq h2)
    have d := Nat.Coprime.mul_dvd_of_dvd_of_dvd c d1 d2
    rcases Nat.eq_zero_or_pos (x - y) with z | z
    · omega
    · have := Nat.le_of_dvd z d; omega
  rcases Nat.le_total y x with l | l
  · exact key x y hx hy l h1 h2
  · exact (key y x hy hx l h1.symm h2.symm).symm
theorem cnt_mul {A B : Nat} (c : Nat.Coprime A B) (P Q : Nat → Bool) : cnt (fun x => P (x % A) && Q (x % B)) (A * B) = cnt P A * cnt Q B := by
  rcases Nat.eq_zero_or_pos A with z | a0
  · subst z; simp [cnt]
  rcases Nat.eq_zero_or_pos B with z | b0
  · subst z; simp [cnt]
  have nl : ((List.range (A * B)).map fun x => (x % A, x % B)).Nodup := by
    refine List.pairwise_map.mpr ?_
    refine List.Pairwise.imp_of_mem (R := fun x y => x ≠ y) (fun {x y} hx hy n e => n ?_) List.nodup_range
    have e1 := congrArg Prod.fst e
    have e2 := congrArg Prod.snd e
    exact crt_inj c (List.mem_range.mp hx) (List.mem_range.mp hy) e1 e2
  have nm : (prs A B).Nodup := by
    unfold prs
    refine List.pairwise_flatMap.mpr ⟨fun a _ => ?_, ?_⟩
    · refine List.pairwise_map.mpr ?_
      exact List.nodup_range.imp fun n e => n (congrArg Prod.snd e)
    · refine List.nodup_range.imp fun {a a'} n => ?_
      intro x hx y hy e
      obtain ⟨_, _, rfl⟩ := List.mem_map.mp hx
      obtain ⟨_, _, rfl⟩ := List.mem_map.mp hy
      exact n (congrArg Prod.fst e)
  have p := perm_of nl nm (fun x hx => by
    obtain ⟨y, hy, rfl⟩ := List.mem_map.mp hx
    exact mem_prs.mpr ⟨Nat.mod_lt _ a0, Nat.mod_lt _ b0⟩) (by rw [prs_len, List.length_map, List.length_range]; exact Nat.le_refl _)
  have q := (p.filter fun x => P x.1 && Q x.2).length_eq
  rw [List.filter_map, List.length_map] at q
  have r := fm_len Q B P (fun a b => (a, b)) (fun x => P x.1 && Q x.2) (fun _ _ => rfl) (List.range A)
  exact q.trans r
theorem inv_ex {h k : Nat} (k1 : 1 ≤ k) (g : Nat.gcd h k = 1) : ∃ m, m < k ∧ h * m % k = 1 % k := by
  have p := perm_range (n := k) (f := fun x => h * x % k) (fun x _ => Nat.mod_lt _ (by omega)) (fun x y hx hy e => by
    have key : ∀ x y, x < k → y ≤ x → h * x % k = h * y % k → x = y := by
      intro x y hx le e
      have d := Nat.dvd_of_mod_eq_zero (Nat.sub_mod_eq_zero_of_mod_eq e)
      rw [← Nat.mul_sub] at d
      have d2 := Nat.Coprime.dvd_of_dvd_mul_left (show Nat.Coprime k h by rw [Nat.Coprime, Nat.gcd_comm]; exact g) d
      rcases Nat.eq_zero_or_pos (x - y) with z | z
      · omega
      · have := Nat.le_of_dvd z d2; omega
    rcases Nat.le_total y x with l | l
    · exact key x y hx l e
    · exact (key y x hy l e.symm).symm)
  have m := (p.mem_iff (a := 1 % k)).mpr (List.mem_range.mpr (Nat.mod_lt _ (by omega)))
  obtain ⟨x, hx, e⟩ := List.mem_map.mp m
  exact ⟨x, List.mem_range.mp hx, e⟩
/-- .. of an integer -/
theorem inv_exI {a : Int} {k : Nat} (k1 : 1 ≤ k) (g : Int.gcd a k = 1) : ∃ m : Nat, m < k ∧ (k : Int) ∣ a * m - 1 := by
  have k0 : (0 : Int) < k := by omega
  have n0 := Int.emod_nonneg a (show (k : Int) ≠ 0 by omega)
  obtain ⟨h, hh⟩ : ∃ h : Nat, a % k = h := ⟨(a % k).toNat, by omega⟩
  have gh : Nat.gcd h k = 1 := by
    refine Nat.eq_one_of_dvd_one ?_
    rw [← g]
    refine Int.ofNat_dvd.mp (Int.dvd_coe_gcd ?_ (Int.ofNat_dvd.mpr (Nat.gcd_dvd_right h k)))
    have d1 : ((Nat.gcd h k : Nat) : Int) ∣ a % k := by rw [hh]; exact Int.ofNat_dvd.mpr (Nat.gcd_dvd_left h k)
    have d2 : ((Nat.gcd h k : Nat) : Int) ∣ (k : Int) * (a / k) := Int.dvd_mul_of_dvd_left (Int.ofNat_dvd.mpr (Nat.gcd_dvd_right h k))
    have d3 := Int.dvd_add d1 d2
    rwa [Int.emod_add_mul_ediv] at d3
  obtain ⟨m, hm, e⟩ := inv_ex k1 gh
  refine ⟨m, hm, ?_⟩
  refine Int.dvd_of_emod_eq_zero (Int.emod_eq_emod_iff_emod_sub_eq_zero.mp ?_)
  rw [← mulmod_l, hh]
  exact_mod_cast e
/-! ### polynomials: the worth, least coefficient first -/
def ev (x : Int) : List Int → Int
  | [] => 0
  | a :: t => a + x * ev x t
def qt (r : Int) : List Int → List Int
  | [] => []
  | [_] => []
  | _ :: b :: t => ev r (b :: t) :: qt r (b :: t)
theorem qt_ev (x r : Int) : ∀ c, ev x c - ev r c = (x - r) * ev x (qt r c)
  | [] => by simp [ev, qt]
  | [a] => by simp [ev, qt]
  | a :: b :: t => by
    have ih := qt_ev x r (b :: t)
    show a + x * ev x (b :: t) - (a + r * ev r (b :: t)) = (x - r) * (ev r (b :: t) + x * ev x (qt r (b :: t)))
    generalize ev x (b :: t) = u at *
    generalize ev r (b :: t) = v at *
    generalize ev x (qt r (b :: t)) = w at *
    grind
theorem qt_len (r : Int) : ∀ c, (qt r c).length = c.length - 1
  | [] => rfl
  | [_] => rfl
  | _ :: b :: t => by simp [qt, qt_len r (b :: t)]
theorem qt_last (r : Int) : ∀ c a, 2 ≤ c.length → c.getLast? = some a → (qt r c).getLast? = some a
  | [], _, h, _ => by simp at h
  | [_], _, h, _ => by simp at h
  | [_, b], a, _, e => by simp [qt, ev] at e ⊢; exact e
  | _ :: b :: b' :: t, a, _, e => by
    have ih := qt_last r (b :: b' :: t) a (by simp) (by rw [List.getLast?_cons_cons] at e; exact e)
    show (ev r (b :: b' :: t) :: ev r (b' :: t) :: qt r (b' :: t)).getLast? = _
    rw [List.getLast?_cons_cons]
    exact ih
theorem Pr.dvd_mulI {p : Nat} (h : Pr p) {a b : Int} (d : (p : Int) ∣ a * b) : (p : Int) ∣ a ∨ (p : Int) ∣ b := by
  rw [Int.ofNat_dvd_left, Int.natAbs_mul] at d
  rw [Int.ofNat_dvd_left, Int.ofNat_dvd_left]
  exact h.dvd_mul d
theorem lagrange {p : Nat} (hp : Pr p) : ∀ (d : Nat) (c : List Int) (a : Int), c.length = d + 1 → c.getLast? = some a → ¬ (p : Int) ∣ a → ∀ l : List Nat, l.Nodup → (∀ x ∈ l, x < p ∧ (p : Int) ∣ ev x c) → l.length ≤ d
  | 0, c, a, hl, ha, na, l, nd, h => by
    match c, hl with
    | [b], _ =>
      match l with
      | [] => simp
      | x :: _ =>
        have := (h x List.mem_cons_self).2
        simp [ev] at this ha
        exact absurd (ha ▸ this) na
  | d + 1, c, a, hl, ha, na, [], nd, h => Nat.zero_le _
  | d + 1, c, a, hl, ha, na, r :: l, nd, h => by
    have nd' := List.nodup_cons.mp nd
    have := lagrange hp d (qt r c) a (by rw [qt_len, hl]; rfl) (qt_last r c a (by omega) ha) na l nd'.2 fun x hx => by
      have h1 := h x (List.mem_cons_of_mem _ hx)
      have h2 := h r List.mem_cons_self
      refine ⟨h1.1, ?_⟩
      have e := qt_ev x r c
      have d := Int.dvd_sub h1.2 h2.2
      rw [e] at d
      rcases hp.dvd_mulI d with z | z
      · exfalso
        have ne : x ≠ r := fun e => nd'.1 (e ▸ hx)
        obtain ⟨k, hk⟩ := z
        have k0 : k ≠ 0 := by rintro rfl; omega
        have : (p : Int).natAbs ≤ ((p : Int) * k).natAbs := by
          rw [Int.natAbs_mul]
          exact Nat.le_mul_of_pos_right _ (by omega)
        rw [← hk] at this
        omega
      · exact z
    simp only [List.length_cons]
    omega
theorem ev_append (x : Int) (B : List Int) : ∀ A : List Int, ev x (A ++ B) = ev x A + x ^ A.length * ev x B
  | [] => by simp [ev]
  | a :: A => by
    show a + x * ev x (A ++ B) = a + x * ev x A + x ^ (A.length + 1) * ev x B
    rw [ev_append x B A, Int.pow_succ]
    grind
theorem ev_zero {p : Nat} (x : Int) : ∀ B : List Int, (∀ b ∈ B, (p : Int) ∣ b) → (p : Int) ∣ ev x B
  | [], _ => ⟨0, by simp [ev]⟩
  | b :: B, h => Int.dvd_add (h b List.mem_cons_self) (Int.dvd_mul_of_dvd_right (ev_zero x B fun c hc => h c (List.mem_cons_of_mem _ hc)))
theorem ev_emod (x : Int) (n : Int) : ∀ c : List Int, ev (x % n) c % n = ev x c % n
  | [] => rfl
  | a :: c => by
    show (a + x % n * ev (x % n) c) % n = (a + x * ev x c) % n
    rw [Int.add_emod, Int.mul_emod, ev_emod x n c, Int.emod_emod, ← Int.mul_emod, ← Int.add_emod]
/-- the roots by n -/
def rts (c : List Int) (n : Nat) : List Nat := (List.range n).filter fun x => decide (ev (x : Nat) c % (n : Int) = 0)
theorem rts_mul {A B : Nat} (cp : Nat.Coprime A B) (c : List Int) : (rts c (A * B)).length = (rts c A).length * (rts c B).length := by
  have h := cnt_mul cp (fun x => decide (ev (x : Nat) c % (A : Int) = 0)) (fun x => decide (ev (x : Nat) c % (B : Int) = 0))
  unfold cnt at h
  unfold rts
  rw [← h]
  congr 1
  refine List.filter_congr fun x _ => ?_
  have eA : ev (((x % A : Nat) : Nat) : Int) c % (A : Int) = ev (x : Nat) c % (A : Int) := by rw [Int.natCast_emod]; exact ev_emod _ _ c
  have eB : ev (((x % B : Nat) : Nat) : Int) c % (B : Int) = ev (x : Nat) c % (B : Int) := by rw [Int.natCast_emod]; exact ev_emod _ _ c
  rw [eA, eB, ← Bool.decide_and, decide_eq_decide]
  generalize ev (x : Nat) c = v
  rw [← Int.dvd_iff_emod_eq_zero, ← Int.dvd_iff_emod_eq_zero, ← Int.dvd_iff_emod_eq_zero, Int.ofNat_dvd_left, Int.ofNat_dvd_left, Int.ofNat_dvd_left]
  exact ⟨fun d => ⟨Nat.dvd_trans (Nat.dvd_mul_right A B) d, Nat.dvd_trans (Nat.dvd_mul_left B A) d⟩, fun d => Nat.Coprime.mul_dvd_of_dvd_of_dvd cp d.1 d.2⟩
/-- the number of roots, prime power by prime power -/
def rprod (c : List Int) : List (Nat × Nat) → Nat
  | [] => 1
  | x :: L => (rts c (x.1 ^ x.2)).length * rprod c L
theorem rprod_snoc (c : List Int) (x : Nat × Nat) : ∀ L, rprod c (L ++ [x]) = rprod c L * (rts c (x.1 ^ x.2)).length
  | [] => by simp [rprod]
  | y :: L => by
    show _ * rprod c (L ++ [x]) = _ * rprod c L * _
    rw [rprod_snoc c x L, Nat.mul_assoc]
theorem rts_book (c : List Int) : ∀ {n : Nat} {L : List (Nat × Nat)}, Bk n L → (rts c n).length = rprod c L
  | n, [], b => by
    have : n = 1 := b.prod.symm
    subst this
    unfold rts rprod
    simp [List.range_succ]
  | n, (p, h) :: L, b => by
    have e : n = p ^ h * bprod L := b.prod.symm
    rw [e, rts_mul b.cop, rts_book c b.tail]
    rfl
/-! ### lines -/
def lroots (a b : Int) (n : Nat) : List Nat := (List.range n).filter fun x => decide ((a * (x : Nat) - b) % (n : Int) = 0)
theorem mem_lroots {a b : Int} {n x : Nat} : x ∈ lroots a b n ↔ x < n ∧ (n : Int) ∣ a * (x : Nat) - b := by
  unfold lroots
  rw [List.mem_filter, List.mem_range, decide_eq_true_eq, Int.dvd_iff_emod_eq_zero]
theorem lroots_nil {a b : Int} {n : Nat} (h : ¬ ((Int.gcd a n : Nat) : Int) ∣ b) : lroots a b n = [] := by
  refine List.eq_nil_iff_forall_not_mem.mpr fun x hx => h ?_
  have d := (mem_lroots.mp hx).2
  have d1 : ((Int.gcd a n : Nat) : Int) ∣ a := Int.gcd_dvd_left ..
  have d2 : ((Int.gcd a n : Nat) : Int) ∣ (n : Int) := Int.gcd_dvd_right ..
  have d3 := Int.dvd_sub (Int.dvd_mul_of_dvd_left (c := (x : Int)) d1) (Int.dvd_trans d2 d)
  rwa [show a * (x : Int) - (a * (x : Int) - b) = b by omega] at d3
theorem lin_iff {a b r : Int} {m x f : Nat} (hr : (m : Int) ∣ a * r - 1) (hf : ((f : Nat) : Int) = b * r % m) (m0 : 0 < m) : (m : Int) ∣ a * (x : Nat) - b ↔ x % m = f := by
  have e1 : (m : Int) ∣ a * (x : Nat) - b ↔ (m : Int) ∣ (x : Int) - b * r := by
    constructor
    · intro d
      have z := Int.dvd_sub (Int.dvd_mul_of_dvd_right (b := r) d) (Int.dvd_mul_of_dvd_left (c := (x : Int)) hr)
      have e : r * (a * (x : Int) - b) - (a * r - 1) * (x : Int) = (x : Int) - b * r := by grind
      rwa [e] at z
    · intro d
      have z := Int.dvd_add (Int.dvd_mul_of_dvd_right (b := a) d) (Int.dvd_mul_of_dvd_left (c := b) hr)
      have e : a * ((x : Int) - b * r) + (a * r - 1) * b = a * (x : Int) - b := by grind
      rwa [e] at z
  rw [e1, ← Int.emod_eq_emod_iff_emod_sub_eq_zero.trans Int.dvd_iff_emod_eq_zero.symm, ← hf, ← Int.natCast_emod]
  exact ⟨fun h => by exact_mod_cast h, fun h => by exact_mod_cast h⟩
theorem map_lt (f m g : Nat) (m0 : 0 < m) : ((List.range g).map fun k => f + m * k).Pairwise (· < ·) := by
  rw [List.pairwise_map]
  refine List.pairwise_lt_range.imp fun {a b} h => ?_
  have := Nat.mul_lt_mul_of_pos_left h m0
  omega
theorem lroots_map {a b : Int} {f m g n : Nat} (e : n = g * m) (g0 : 0 < g) (m0 : 0 < m) (hf : f < m) (h : ∀ x : Nat, (n : Int) ∣ a * (x : Nat) - b ↔ x % m = f) : ((List.range g).map fun k => f + m * k) = lroots a b n := by
  refine lt_uniq (map_lt f m g m0) ((range_lt n).filter _) fun x => ?_
  rw [mem_lroots, h x, List.mem_map]
  constructor
  · rintro ⟨k, hk, rfl⟩
    have hk := List.mem_range.mp hk
    refine ⟨?_, by rw [Nat.add_mul_mod_self_left, Nat.mod_eq_of_lt hf]⟩
    have : m * (k + 1) ≤ m * g := Nat.mul_le_mul_left m hk
    rw [Nat.mul_succ] at this
    rw [e, Nat.mul_comm g m]
    omega
  · rintro ⟨hx, rfl⟩
    refine ⟨x / m, List.mem_range.mpr ?_, Nat.mod_add_div x m⟩
    rw [Nat.div_lt_iff_lt_mul m0, ← e]
    exact hx
theorem lroots_eq {a b r : Int} {n m g f : Nat} (n1 : 1 ≤ n) (hg : g = Int.gcd a n) (hm : m = n / g) (hb : ((g : Nat) : Int) ∣ b) (hr : (m : Int) ∣ a / (g : Nat) * r - 1) (hf : ((f : Nat) : Int) = b / (g : Nat) * r % m) : ((List.range g).map fun k => f + m * k) = lroots a b n := by
  have ga : ((g : Nat) : Int) ∣ a := by rw [hg]; exact Int.gcd_dvd_left ..
  have gn : g ∣ n := by
    have : ((g : Nat) : Int) ∣ (n : Int) := by rw [hg]; exact Int.gcd_dvd_right ..
    exact Int.ofNat_dvd.mp this
  have g0 : 0 < g := Nat.pos_of_dvd_of_pos gn n1
  have e : n = g * m := by rw [hm]; exact (Nat.mul_div_cancel' gn).symm
  have m0 : 0 < m := Nat.pos_of_ne_zero fun z => by rw [z] at e; omega
  have fm : f < m := by
    have := Int.emod_lt_of_pos (b / (g : Nat) * r) (show (0 : Int) < m by omega)
    omega
  refine lroots_map e g0 m0 fm fun x => ?_
  rw [← lin_iff hr hf m0]
  obtain ⟨a', rfl⟩ := ga
  obtain ⟨b', rfl⟩ := hb
  have gz : ((g : Nat) : Int) ≠ 0 := by omega
  rw [Int.mul_ediv_cancel_left _ gz, Int.mul_ediv_cancel_left _ gz, e, Int.natCast_mul, show ((g : Nat) : Int) * a' * (x : Nat) - g * b' = g * (a' * (x : Nat) - b') by grind]
  exact Int.mul_dvd_mul_iff_left gz
theorem lroots_len {a b : Int} {n : Nat} (n1 : 1 ≤ n) : (lroots a b n).length = 0 ∨ (lroots a b n).length = Int.gcd a n := by
  by_cases h : ((Int.gcd a n : Nat) : Int) ∣ b
  · right
    have gn : Int.gcd a n ∣ n := Int.ofNat_dvd.mp (Int.gcd_dvd_right ..)
    have g0 : 0 < Int.gcd a n := Nat.pos_of_dvd_of_pos gn n1
    have m0 : 0 < n / Int.gcd a n := Nat.div_pos (Nat.le_of_dvd n1 gn) g0
    have c : Int.gcd (a / (Int.gcd a n : Nat)) ((n / Int.gcd a n : Nat) : Int) = 1 := by
      rw [Int.natCast_ediv]
      exact Int.gcd_ediv_gcd_ediv_gcd g0
    obtain ⟨r, _, hr⟩ := inv_exI m0 c
    have m0' : ((n / Int.gcd a n : Nat) : Int) ≠ 0 := by omega
    rw [← lroots_eq (f := (b / (Int.gcd a n : Nat) * (r : Nat) % ((n / Int.gcd a n : Nat) : Int)).toNat) n1 rfl rfl h hr (Int.toNat_of_nonneg (Int.emod_nonneg _ m0')), List.length_map, List.length_range]
  · left
    rw [lroots_nil h]; rfl
end NT
end

section
set_option Elab.async false
set_option linter.all false
/-! NT5: the sign of a number, square free numbers. -/
namespace NT
/-- the least d from k on, below the fuel, that divides -/
def lf : Nat → Nat → Nat → Nat
  | 0, _, n => n
  | f + 1, k, n => if n % k = 0 then k else lf f (k + 1) n
def mf (n : Nat) : Nat := lf n 2 n
theorem lf_ok {n : Nat} (h : 2 ≤ n) : ∀ f k, 2 ≤ k → n ≤ f + k → Rough k n → LP n (lf f k n)
  | 0, k, k2, hk, r => by
    have : k = n := by
      refine Nat.le_antisymm ?_ (by omega)
      refine Nat.le_of_not_lt fun z => r n h z (Nat.dvd_refl n)
    subst this
    exact ⟨h, Nat.dvd_refl _, r⟩
  | f + 1, k, k2, hk, r => by
    unfold lf
    by_cases z : n % k = 0
    · rw [if_pos z]
      exact ⟨k2, Nat.dvd_of_mod_eq_zero z, r⟩
    · rw [if_neg z]
      exact lf_ok h f (k + 1) (by omega) (by omega) (r.succ fun d => z (Nat.mod_eq_zero_of_dvd d))
theorem mf_lp {n : Nat} (h : 2 ≤ n) : LP n (mf n) := lf_ok h n 2 (by decide) (by omega) (rough2 n)
theorem lp_div {n r : Nat} (h : LP n r) (h2 : 2 ≤ n) : n / r < n ∧ 0 < n / r := ⟨Nat.div_lt_self (by omega) h.1, Nat.div_pos (Nat.le_of_dvd (by omega) h.2.1) (by have := h.1; omega)⟩
def muF : Nat → Nat → Int
  | 0, _ => 1
  | f + 1, n => if n ≤ 1 then 1 else if n / mf n % mf n = 0 then 0 else - muF f (n / mf n)
theorem muF_fuel : ∀ f g n : Nat, n ≤ f → n ≤ g → muF f n = muF g n
  | 0, 0, _, _, _ => rfl
  | 0, g + 1, n, h, _ => by
    have : n = 0 := by omega
    subst this; rfl
  | f + 1, 0, n, _, h => by
    have : n = 0 := by omega
    subst this; rfl
  | f + 1, g + 1, n, h1, h2 => by
    unfold muF
    by_cases z : n ≤ 1
    · rw [if_pos z, if_pos z]
    · have := (lp_div (mf_lp (show 2 ≤ n by omega)) (by omega)).1
      rw [if_neg z, if_neg z, muF_fuel f g (n / mf n) (by omega) (by omega)]
/-- the sign -/
def mu (n : Nat) : Int := muF n n
theorem mu_one : mu 1 = 1 := rfl
theorem mu_eq {n : Nat} (h : 2 ≤ n) : mu n = if n / mf n % mf n = 0 then 0 else - mu (n / mf n) := by
  unfold mu
  obtain ⟨m, rfl⟩ : ∃ m, n = m + 1 := ⟨n - 1, by omega⟩
  have := (lp_div (mf_lp h) h).1
  conv => lhs; unfold muF
  rw [if_neg (by omega), muF_fuel m ((m + 1) / mf (m + 1)) _ (by omega) (Nat.le_refl _)]
theorem mu_lp {n r : Nat} (h : 2 ≤ n) (l : LP n r) : mu n = if r ∣ n / r then 0 else - mu (n / r) := by
  rw [mu_eq h, (mf_lp h).uniq l]
  by_cases z : r ∣ n / r
  · rw [if_pos z, if_pos (Nat.mod_eq_zero_of_dvd z)]
  · rw [if_neg z, if_neg (fun y => z (Nat.dvd_of_mod_eq_zero y))]
/-- .. by any prime -/
theorem mu_pmul {q : Nat} (hq : Pr q) : ∀ m : Nat, 0 < m → mu (q * m) = if q ∣ m then 0 else - mu m := by
  intro m
  induction m using Nat.strongRecOn with
  | ind m ih =>
    intro m0
    have q2 := hq.two_le
    have h2 : 2 ≤ q * m := Nat.le_trans q2 (Nat.le_mul_of_pos_right q m0)
    have l := mf_lp h2
    generalize mf (q * m) = r at l
    rw [mu_lp h2 l]
    by_cases e : r = q
    · subst e
      rw [Nat.mul_div_cancel_left m (by omega)]
    · have hr := l.pr
      have d : r ∣ m := (hr.dvd_mul l.2.1).resolve_left fun z => e (hr.eq hq z)
      obtain ⟨k, rfl⟩ := d
      have k0 : 0 < k := Nat.pos_of_ne_zero fun z => by subst z; simp at m0
      have r2 := hr.two_le
      have e1 : q * (r * k) / r = q * k := by
        rw [show q * (r * k) = r * (q * k) by ac_rfl]; exact Nat.mul_div_cancel_left _ (by omega)
      have lt : k < r * k := by
        have := Nat.mul_le_mul_right k r2; omega
      have lm : LP (r * k) r := ⟨r2, ⟨k, rfl⟩, l.2.2.mono ⟨q, Nat.mul_comm _ _⟩⟩
      have h3 : 2 ≤ r * k := Nat.le_trans r2 (Nat.le_mul_of_pos_right r k0)
      have e2 : mu (r * k) = if r ∣ k then 0 else - mu k := by
        rw [mu_lp h3 lm, Nat.mul_div_cancel_left k (by omega)]
      have c1 : r ∣ q * k ↔ r ∣ k := ⟨fun z => (hr.dvd_mul z).resolve_left fun z => e (hr.eq hq z), fun z => Nat.dvd_mul_left_of_dvd z q⟩
      have c2 : q ∣ r * k ↔ q ∣ k := ⟨fun z => (hq.dvd_mul z).resolve_left fun z => e (hq.eq hr z).symm, fun z => Nat.dvd_mul_left_of_dvd z r⟩
      rw [e1, e2, ih k lt k0]
      by_cases z1 : r ∣ k <;> by_cases z2 : q ∣ k
      · rw [if_pos (c1.mpr z1), if_pos (c2.mpr z2)]
      · rw [if_pos (c1.mpr z1), if_neg (fun z => z2 (c2.mp z)), if_pos z1]; rfl
      · rw [if_neg (fun z => z1 (c1.mp z)), if_pos z2, if_pos (c2.mpr z2)]; rfl
      · rw [if_neg (fun z => z1 (c1.mp z)), if_neg z2, if_neg (fun z => z2 (c2.mp z)), if_neg z1]
theorem muF_abs : ∀ f n : Nat, (muF f n).natAbs ≤ 1
  | 0, _ => Nat.le_refl _
  | f + 1, n => by
    unfold muF
    have := muF_abs f (n / mf n)
    split
    · decide
    · split
      · decide
      · rw [Int.natAbs_neg]; exact this
theorem mu_abs (n : Nat) : (mu n).natAbs ≤ 1 := muF_abs n n
/-- the sign of a book -/
def sgnL : List (Nat × Nat) → Int
  | [] => 1
  | x :: L => if x.2 = 1 then - sgnL L else 0
theorem sgnL_snoc (p h : Nat) : ∀ L, sgnL (L ++ [(p, h)]) = if h = 1 then - sgnL L else 0
  | [] => rfl
  | x :: L => by
    show (if x.2 = 1 then - sgnL (L ++ [(p, h)]) else 0) = if h = 1 then - (if x.2 = 1 then - sgnL L else 0) else 0
    rw [sgnL_snoc p h L]
    by_cases a : x.2 = 1 <;> by_cases b : h = 1 <;> simp [a, b]
theorem mu_book : ∀ {L : List (Nat × Nat)} {n : Nat}, Bk n L → mu n = sgnL L
  | [], n, b => by rw [← b.prod]; rfl
  | (p, h) :: L, n, b => by
    have ih := mu_book b.tail
    have hp := (b.pr _ List.mem_cons_self).1
    have h1 := (b.pr _ List.mem_cons_self).2
    have e : n = p ^ h * bprod L := b.prod.symm
    have m0 : 0 < bprod L := b.tail.pos
    have nd : ¬ p ∣ bprod L := fun z => by
      have c := b.cop
      have : p ∣ Nat.gcd (p ^ h) (bprod L) := Nat.dvd_gcd (by rw [show h = (h - 1) + 1 by simp at h1; omega, Nat.pow_succ]; exact Nat.dvd_mul_left _ _) z
      rw [c] at this
      have := Nat.le_of_dvd (by decide) this
      have := hp.two_le
      omega
    show mu n = if h = 1 then - sgnL L else 0
    rw [← ih, e]
    by_cases z : h = 1
    · subst z
      rw [if_pos rfl, Nat.pow_one, mu_pmul hp _ m0, if_neg nd]
    · have z : 2 ≤ h := by simp at h1; omega
      obtain ⟨k, rfl⟩ : ∃ k, h = k + 1 + 1 := ⟨h - 2, by omega⟩
      rw [if_neg (by omega), show p ^ (k + 1 + 1) * bprod L = p * (p ^ (k + 1) * bprod L) by rw [Nat.pow_succ]; ac_rfl, mu_pmul hp _ (Nat.mul_pos (Nat.pow_pos hp.pos) m0),
        if_pos (Nat.dvd_mul_right_of_dvd (by rw [Nat.pow_succ]; exact Nat.dvd_mul_left _ _) _)]
/-- square free -/
def sqf (n : Nat) : Bool := !decide (mu n = 0)
theorem sgnL_zero : ∀ L, sgnL L = 0 ↔ ∃ x ∈ L, x.2 ≠ 1
  | [] => by unfold sgnL; simp
  | x :: L => by
    show (if x.2 = 1 then - sgnL L else 0) = 0 ↔ _
    by_cases h : x.2 = 1
    · rw [if_pos h]
      have := sgnL_zero L
      constructor
      · intro z
        obtain ⟨y, hy, k⟩ := this.mp (by omega)
        exact ⟨y, List.mem_cons_of_mem _ hy, k⟩
      · rintro ⟨y, hy, k⟩
        rcases List.mem_cons.mp hy with e | e
        · subst e; exact absurd h k
        · have := this.mpr ⟨y, e, k⟩; omega
    · rw [if_neg h]
      exact ⟨fun _ => ⟨x, List.mem_cons_self, h⟩, fun _ => rfl⟩
/-- all whose square divides -/
structure SqA (m : Nat) (S : List Nat) : Prop where
  nd : S.Nodup
  mem : ∀ d, d ∈ S ↔ d * d ∣ m
theorem pw_split {p : Nat} (hp : Pr p) : ∀ d : Nat, 0 < d → ∃ x j, d = x * p ^ j ∧ ¬ p ∣ x := by
  intro d
  induction d using Nat.strongRecOn with
  | ind d ih =>
    intro d0
    by_cases c : p ∣ d
    · obtain ⟨k, rfl⟩ := c
      have k0 : 0 < k := Nat.pos_of_ne_zero fun z => by subst z; simp at d0
      have lt : k < p * k := by have := Nat.mul_le_mul_right k hp.two_le; omega
      obtain ⟨x, j, e, n⟩ := ih k lt k0
      exact ⟨x, j + 1, by rw [e, Nat.pow_succ]; ac_rfl, n⟩
    · exact ⟨d, 0, by simp, c⟩
theorem pw_cancel {p : Nat} (hp : Pr p) : ∀ {i j a b : Nat}, ¬ p ∣ a → ¬ p ∣ b → a * p ^ i = b * p ^ j → i = j ∧ a = b := by
  intro i
  induction i with
  | zero =>
    intro j a b ha hb e
    cases j with
    | zero => simpa using e
    | succ j => exact absurd ⟨b * p ^ j, by rw [Nat.pow_zero, Nat.mul_one] at e; rw [e, Nat.pow_succ]; ac_rfl⟩ ha
  | succ i ih =>
    intro j a b ha hb e
    cases j with
    | zero => exact absurd ⟨a * p ^ i, by rw [Nat.pow_zero, Nat.mul_one] at e; rw [← e, Nat.pow_succ]; ac_rfl⟩ hb
    | succ j =>
      rw [Nat.pow_succ, Nat.pow_succ, ← Nat.mul_assoc, ← Nat.mul_assoc] at e
      obtain ⟨h1, h2⟩ := ih ha hb (Nat.eq_of_mul_eq_mul_right hp.pos e)
      exact ⟨by omega, h2⟩
theorem sq_split {p m h d : Nat} (hp : Pr p) (hm : ¬ p ∣ m) (m0 : 0 < m) : d * d ∣ m * p ^ h ↔ ∃ x j, x * x ∣ m ∧ j ≤ h / 2 ∧ d = x * p ^ j := by
  constructor
  · intro z
    have d0 : 0 < d := Nat.pos_of_ne_zero fun y => by
      subst y
      have := Nat.eq_zero_of_zero_dvd z
      have := Nat.mul_pos m0 (Nat.pow_pos (n := h) hp.pos)
      omega
    obtain ⟨x, j, e, nx⟩ := pw_split hp d d0
    obtain ⟨y, i, hy, hi, e2⟩ := (dvd_split hp hm).mp z
    have ny : ¬ p ∣ y := fun w => hm (Nat.dvd_trans w hy)
    have nxx : ¬ p ∣ x * x := fun w => (hp.dvd_mul w).elim nx nx
    have e3 : x * x * p ^ (2 * j) = y * p ^ i := by
      rw [← e2, e, Nat.two_mul, Nat.pow_add]; ac_rfl
    obtain ⟨h1, h2⟩ := pw_cancel hp nxx ny e3
    exact ⟨x, j, h2 ▸ hy, by omega, e⟩
  · rintro ⟨x, j, h1, h2, rfl⟩
    obtain ⟨k, hk⟩ := h1
    refine ⟨k * p ^ (h - 2 * j), ?_⟩
    have : p ^ h = p ^ (2 * j) * p ^ (h - 2 * j) := by rw [← Nat.pow_add]; congr 1; omega
    rw [hk, this, Nat.two_mul, Nat.pow_add]; ac_rfl
theorem nodup_mulPows {p : Nat} (hp : Pr p) {S : List Nat} (nd : S.Nodup) (np : ∀ x ∈ S, ¬ p ∣ x) : ∀ k, (mulPows S p k).Nodup
  | 0 => nd
  | k + 1 => by
    show (mulPows S p k ++ S.map (· * p ^ (k + 1))).Nodup
    refine List.nodup_append.mpr ⟨nodup_mulPows hp nd np k, nodup_map_mul nd (Nat.pow_pos hp.pos), fun a ha b hb e => ?_⟩
    obtain ⟨x, j, hx, hj, rfl⟩ := mem_mulPows.mp ha
    obtain ⟨y, hy, rfl⟩ := List.mem_map.mp hb
    have := (pw_cancel hp (np x hx) (np y hy) e).1
    omega
def isum (f : Nat → Int) (S : List Nat) : Int := (S.map f).sum
theorem isum_app (f : Nat → Int) (S T : List Nat) : isum f (S ++ T) = isum f S + isum f T := by unfold isum; rw [List.map_append, List.sum_append]
theorem mu_pw {p x j : Nat} (hp : Pr p) (x0 : 0 < x) (n : ¬ p ∣ x) : mu (x * p ^ (j + 1)) = if j = 0 then - mu x else 0 := by
  rw [show x * p ^ (j + 1) = p * (x * p ^ j) by rw [Nat.pow_succ]; ac_rfl, mu_pmul hp _ (Nat.mul_pos x0 (Nat.pow_pos hp.pos))]
  cases j with
  | zero => rw [Nat.pow_zero, Nat.mul_one, if_neg n, if_pos rfl]
  | succ j => rw [if_pos (Nat.dvd_mul_left_of_dvd (by rw [Nat.pow_succ]; exact Nat.dvd_mul_left _ _) _), if_neg (by omega)]
theorem isum_neg {p j : Nat} (hp : Pr p) : ∀ S : List Nat, (∀ x ∈ S, 0 < x ∧ ¬ p ∣ x) → isum mu (S.map (· * p ^ (j + 1))) = if j = 0 then - isum mu S else 0
  | [], _ => by by_cases h : j = 0 <;> simp [h, isum]
  | x :: S, h => by
    have ih := isum_neg (j := j) hp S fun y hy => h y (List.mem_cons_of_mem _ hy)
    have hx := h x List.mem_cons_self
    unfold isum at ih ⊢
    simp only [List.map_cons, List.sum_cons]
    rw [ih, mu_pw hp hx.1 hx.2]
    by_cases c : j = 0
    · simp only [c, if_true]; omega
    · simp only [c, if_false]; omega
theorem isum_mulPows {p : Nat} (hp : Pr p) {S : List Nat} (h : ∀ x ∈ S, 0 < x ∧ ¬ p ∣ x) : ∀ k, isum mu (mulPows S p k) = if k = 0 then isum mu S else 0
  | 0 => rfl
  | k + 1 => by
    show isum mu (mulPows S p k ++ S.map (· * p ^ (k + 1))) = _
    rw [isum_app, isum_mulPows hp h k, isum_neg hp S h]
    by_cases c : k = 0
    · simp only [c, if_true]; rw [if_neg (by omega)]; omega
    · simp only [c, if_false]; rw [if_neg (by omega)]; omega
theorem sq_book : ∀ {L : List (Nat × Nat)} {n : Nat}, Bk n L → ∃ S, SqA n S ∧ isum mu S = if (∃ x ∈ L, x.2 ≠ 1) then 0 else 1
  | [], n, b => by
    have : n = 1 := b.prod.symm
    subst this
    refine ⟨[1], ⟨by simp, fun d => ?_⟩, by rw [if_neg (by simp)]; rfl⟩
    rw [List.mem_singleton]
    constructor
    · rintro rfl; exact Nat.dvd_refl 1
    · intro z
      exact Nat.eq_one_of_mul_eq_one_left (Nat.dvd_one.mp z)
  | (p, h) :: L, n, b => by
    obtain ⟨S, s, e⟩ := sq_book b.tail
    have hp := (b.pr _ List.mem_cons_self).1
    have h1 : 1 ≤ h := (b.pr _ List.mem_cons_self).2
    have en : n = bprod L * p ^ h := by rw [Nat.mul_comm]; exact b.prod.symm
    have m0 : 0 < bprod L := b.tail.pos
    have nd : ¬ p ∣ bprod L := fun z => by
      have c := b.cop
      have : p ∣ Nat.gcd (p ^ h) (bprod L) := Nat.dvd_gcd (by rw [show h = (h - 1) + 1 by omega, Nat.pow_succ]; exact Nat.dvd_mul_left _ _) z
      rw [c] at this
      have := Nat.le_of_dvd (by decide) this
      have := hp.two_le
      omega
    have hS : ∀ x ∈ S, 0 < x ∧ ¬ p ∣ x := fun x hx => by
      have := (s.mem x).mp hx
      refine ⟨Nat.pos_of_ne_zero fun z => ?_, fun z => nd (Nat.dvd_trans (Nat.dvd_mul_right_of_dvd z x) this)⟩
      subst z
      have := Nat.eq_zero_of_zero_dvd this
      omega
    refine ⟨mulPows S p (h / 2), ⟨nodup_mulPows hp s.nd (fun x hx => (hS x hx).2) _, fun d => ?_⟩, ?_⟩
    · rw [mem_mulPows, en, sq_split hp nd m0]
      constructor
      · rintro ⟨x, j, hx, r⟩; exact ⟨x, j, (s.mem x).mp hx, r⟩
      · rintro ⟨x, j, hx, r⟩; exact ⟨x, j, (s.mem x).mpr hx, r⟩
    · rw [isum_mulPows hp hS, e]
      by_cases c : h = 1
      · subst c
        rw [if_pos rfl]
        by_cases d : ∃ x ∈ L, x.2 ≠ 1
        · rw [if_pos d, if_pos (let ⟨x, hx, k⟩ := d; ⟨x, List.mem_cons_of_mem _ hx, k⟩)]
        · rw [if_neg d, if_neg]
          rintro ⟨x, hx, k⟩
          rcases List.mem_cons.mp hx with z | z
          · subst z; exact k rfl
          · exact d ⟨x, z, k⟩
      · rw [if_neg (by omega), if_pos ⟨_, List.mem_cons_self, c⟩]
theorem Bk.cons {p h m : Nat} {M : List (Nat × Nat)} (b : Bk m M) (hp : Pr p) (h1 : 1 ≤ h) (lt : ∀ x ∈ M, p < x.1) : Bk (p ^ h * m) ((p, h) :: M) :=
  ⟨by show p ^ h * bprod M = _; rw [b.prod], List.pairwise_cons.mpr ⟨lt, b.asc⟩, fun x hx => by
    rcases List.mem_cons.mp hx with e | e
    · subst e; exact ⟨hp, h1⟩
    · exact b.pr x e⟩
theorem bk_ex : ∀ n : Nat, 0 < n → ∃ L, Bk n L := by
  intro n
  induction n using Nat.strongRecOn with
  | ind n ih =>
    intro n0
    by_cases h1 : n = 1
    · subst h1; exact ⟨[], bk_nil⟩
    · have h2 : 2 ≤ n := by omega
      have l := mf_lp h2
      generalize mf n = r at l
      have hr := l.pr
      obtain ⟨x, j, e, nx⟩ := pw_split hr n n0
      have j1 : 1 ≤ j := Nat.pos_of_ne_zero fun z => by
        subst z
        rw [Nat.pow_zero, Nat.mul_one] at e
        subst e
        exact nx l.2.1
      have x0 : 0 < x := Nat.pos_of_ne_zero fun z => by subst z; omega
      have lt : x < n := by
        rw [e]
        have a : 2 ≤ r ^ j := Nat.le_trans hr.two_le (Nat.le_of_dvd (Nat.pow_pos hr.pos) (by rw [show j = (j - 1) + 1 by omega, Nat.pow_succ]; exact Nat.dvd_mul_left _ _))
        have := Nat.mul_le_mul_left x a
        omega
      obtain ⟨M, b⟩ := ih x lt x0
      refine ⟨(r, j) :: M, ?_⟩
      have := b.cons hr j1 fun y hy => by
        have hy2 := b.pr y hy
        have d : y.1 ∣ x := by
          obtain ⟨i, hi⟩ : ∃ i, (y.1, i) ∈ M := ⟨y.2, hy⟩
          have := (b.mem (p := y.1) (h := y.2)).mp hy
          exact Nat.dvd_trans (by rw [show y.2 = (y.2 - 1) + 1 by omega, Nat.pow_succ]; exact Nat.dvd_mul_left _ _) this.2.2.1
        have h3 : ¬ y.1 < r := fun z => l.2.2 y.1 hy2.1.two_le z (by rw [e]; exact Nat.dvd_mul_right_of_dvd d _)
        have h4 : y.1 ≠ r := fun z => nx (z ▸ d)
        omega
      rw [Nat.mul_comm] at this
      rw [e]; exact this
/-- the sum of the signs over the square divisors -/
theorem sq_sum {n : Nat} (n0 : 0 < n) : ∃ S, SqA n S ∧ isum mu S = if sqf n = true then 1 else 0 := by
  obtain ⟨L, b⟩ := bk_ex n n0
  obtain ⟨S, s, e⟩ := sq_book b
  refine ⟨S, s, ?_⟩
  rw [e]
  have z : sqf n = true ↔ ¬ ∃ x ∈ L, x.2 ≠ 1 := by
    unfold sqf
    rw [Bool.not_eq_true', decide_eq_false_iff_not, mu_book b, sgnL_zero]
  by_cases c : ∃ x ∈ L, x.2 ≠ 1
  · rw [if_pos c, if_neg (fun y => z.mp y c)]
  · rw [if_neg c, if_pos (z.mpr c)]
theorem sqf_book {n : Nat} {L : List (Nat × Nat)} (b : Bk n L) : sqf n = true ↔ ∀ x ∈ L, x.2 = 1 := by
  unfold sqf
  rw [Bool.not_eq_true', decide_eq_false_iff_not, mu_book b, sgnL_zero]
  constructor
  · intro h x hx
    by_cases c : x.2 = 1
    · exact c
    · exact absurd ⟨x, hx, c⟩ h
  · rintro h ⟨x, hx, k⟩; exact k (h x hx)
/-- how many are square free -/
def sqc (n : Nat) : Nat := ((List.range n).filter fun i => sqf (i + 1)).length
def csS (D n : Nat) : Int := isum (fun i => mu (i + 1) * ((n / ((i + 1) * (i + 1)) : Nat) : Int)) (List.range D)
theorem csS_succ (D n : Nat) : csS (D + 1) n = csS D n + mu (D + 1) * ((n / ((D + 1) * (D + 1)) : Nat) : Int) := by
  unfold csS
  rw [List.range_succ, isum_app]
  show _ + ([_].sum) = _
  rw [List.sum_cons, List.sum_nil, Int.add_zero]
theorem csS_zero : ∀ D, csS D 0 = 0
  | 0 => rfl
  | D + 1 => by rw [csS_succ, csS_zero D, Nat.zero_div]; simp
theorem csS_next (D n : Nat) : csS D (n + 1) = csS D n + isum (fun i => if (i + 1) * (i + 1) ∣ n + 1 then mu (i + 1) else 0) (List.range D) := by
  induction D with
  | zero => rfl
  | succ D ih =>
    rw [csS_succ, csS_succ, ih, List.range_succ, isum_app]
    have e : isum (fun i => if (i + 1) * (i + 1) ∣ n + 1 then mu (i + 1) else 0) [D] = if (D + 1) * (D + 1) ∣ n + 1 then mu (D + 1) else 0 := by
      show [_].sum = _
      rw [List.sum_cons, List.sum_nil, Int.add_zero]
    rw [e, Nat.succ_div]
    by_cases c : (D + 1) * (D + 1) ∣ n + 1
    · rw [if_pos c, if_pos c, Int.natCast_add]
      have : (((1 : Nat)) : Int) = 1 := rfl
      rw [this, Int.mul_add, Int.mul_one]; omega
    · rw [if_neg c, if_neg c]; simp only [Nat.add_zero, Int.add_zero]; omega
theorem isum_if (f : Nat → Int) (p : Nat → Prop) [DecidablePred p] : ∀ l : List Nat, isum (fun i => if p i then f i else 0) l = isum f (l.filter fun i => decide (p i))
  | [] => rfl
  | a :: l => by
    have ih := isum_if f p l
    unfold isum at ih ⊢
    rw [List.map_cons, List.sum_cons, ih]
    by_cases c : p a
    · rw [if_pos c, List.filter_cons_of_pos (by rw [decide_eq_true c]), List.map_cons, List.sum_cons]
    · rw [if_neg c, List.filter_cons_of_neg (by rw [decide_eq_false c]; decide)]; omega
theorem isum_perm {f : Nat → Int} {l m : List Nat} (h : l.Perm m) : isum f l = isum f m := by
  unfold isum
  induction h with
  | nil => rfl
  | cons x _ ih => simp only [List.map_cons, List.sum_cons, ih]
  | swap x y l => simp only [List.map_cons, List.sum_cons]; omega
  | trans _ _ a b => exact a.trans b
theorem csq {D : Nat} : ∀ n, n < (D + 1) * (D + 1) → csS D n = (sqc n : Nat)
  | 0, _ => by rw [csS_zero]; rfl
  | n + 1, h => by
    rw [csS_next, csq n (by omega), isum_if (fun i => mu (i + 1))]
    obtain ⟨S, s, e⟩ := sq_sum (n := n + 1) (by omega)
    have hp : (((List.range D).filter fun i => decide ((i + 1) * (i + 1) ∣ n + 1)).map (· + 1)).Perm S := by
      refine (List.perm_ext_iff_of_nodup ?_ s.nd).mpr fun d => ?_
      · rw [List.nodup_iff_pairwise_ne, List.pairwise_map]
        exact (List.nodup_iff_pairwise_ne.mp (List.nodup_range.filter _)).imp fun {a b} n e => n (by omega)
      · rw [List.mem_map, s.mem]
        constructor
        · rintro ⟨i, hi, rfl⟩
          exact of_decide_eq_true (List.mem_filter.mp hi).2
        · intro z
          have d0 : 0 < d := Nat.pos_of_ne_zero fun y => by subst y; have := Nat.eq_zero_of_zero_dvd z; omega
          have lt : d < D + 1 := Nat.lt_of_not_le fun y => by
            have := Nat.mul_le_mul y y
            have := Nat.le_of_dvd (by omega) z
            omega
          refine ⟨d - 1, List.mem_filter.mpr ⟨List.mem_range.mpr (by omega), ?_⟩, by omega⟩
          rw [show d - 1 + 1 = d by omega]
          exact decide_eq_true z
    have e2 : isum (fun i => mu (i + 1)) ((List.range D).filter fun i => decide ((i + 1) * (i + 1) ∣ n + 1)) = isum mu S := by
      rw [← isum_perm hp]
      unfold isum
      rw [List.map_map]; rfl
    rw [e2, e]
    unfold sqc
    rw [List.range_succ, List.filter_append, List.length_append]
    by_cases c : sqf (n + 1) = true
    · rw [if_pos c, List.filter_cons_of_pos (p := fun i => sqf (i + 1)) c]; simp
    · rw [if_neg c, List.filter_cons_of_neg (p := fun i => sqf (i + 1)) c]; simp
/-! ### the book, reckoned -/
def strF : Nat → Nat → Nat → Nat × Nat
  | 0, _, n => (0, n)
  | f + 1, r, n => if n % r = 0 then (let x := strF f r (n / r); (x.1 + 1, x.2)) else (0, n)
theorem strF_ok {r : Nat} (hr : 2 ≤ r) : ∀ f n : Nat, 0 < n → n ≤ f → n = r ^ (strF f r n).1 * (strF f r n).2 ∧ ¬ r ∣ (strF f r n).2
  | 0, n, h, k => by omega
  | f + 1, n, h, k => by
    unfold strF
    by_cases c : n % r = 0
    · rw [if_pos c]
      obtain ⟨m, rfl⟩ := Nat.dvd_of_mod_eq_zero c
      have m0 : 0 < m := Nat.pos_of_ne_zero fun z => by subst z; simp at h
      have lt : m < r * m := by have := Nat.mul_le_mul_right m hr; omega
      rw [Nat.mul_div_cancel_left m (by omega)]
      obtain ⟨h1, h2⟩ := strF_ok hr f m m0 (by omega)
      refine ⟨?_, h2⟩
      show r * m = r ^ ((strF f r m).1 + 1) * (strF f r m).2
      conv => lhs; rw [h1]
      rw [Nat.pow_succ]; ac_rfl
    · rw [if_neg c]
      exact ⟨by simp, fun d => c (Nat.mod_eq_zero_of_dvd d)⟩
def bkF : Nat → Nat → List (Nat × Nat)
  | 0, _ => []
  | f + 1, n => if n ≤ 1 then [] else (let r := mf n; let x := strF n r n; (r, x.1) :: bkF f x.2)
theorem bkF_ok : ∀ f n : Nat, 0 < n → n ≤ f → Bk n (bkF f n)
  | 0, n, h, k => by omega
  | f + 1, n, h, k => by
    unfold bkF
    by_cases c : n ≤ 1
    · rw [if_pos c]
      have : n = 1 := by omega
      subst this
      exact bk_nil
    · rw [if_neg c]
      have h2 : 2 ≤ n := by omega
      have l := mf_lp h2
      generalize mf n = r at l
      have hr := l.pr
      obtain ⟨e, nx⟩ := strF_ok hr.two_le n n h (Nat.le_refl _)
      show Bk n ((r, (strF n r n).1) :: bkF f (strF n r n).2)
      generalize strF n r n = x at e nx
      obtain ⟨j, m⟩ := x
      have j1 : 1 ≤ j := Nat.pos_of_ne_zero fun z => by
        subst z
        have e : n = m := by simpa using e
        exact nx (by show r ∣ m; rw [← e]; exact l.2.1)
      have m0 : 0 < m := Nat.pos_of_ne_zero fun z => by subst z; simp at e; omega
      have lt : m < n := by
        have e : n = r ^ j * m := e
        rw [e]
        have a : 2 ≤ r ^ j := Nat.le_trans hr.two_le (Nat.le_of_dvd (Nat.pow_pos hr.pos) (by rw [show j = (j - 1) + 1 by omega, Nat.pow_succ]; exact Nat.dvd_mul_left _ _))
        have := Nat.mul_le_mul_right m a
        omega
      have b := bkF_ok f m m0 (by omega)
      have := b.cons hr j1 fun y hy => by
        have hy2 := b.pr y hy
        have d : y.1 ∣ m := by
          have := (b.mem (p := y.1) (h := y.2)).mp hy
          exact Nat.dvd_trans (by rw [show y.2 = (y.2 - 1) + 1 by omega, Nat.pow_succ]; exact Nat.dvd_mul_left _ _) this.2.2.1
        have h3 : ¬ y.1 < r := fun z => l.2.2 y.1 hy2.1.two_le z (by rw [show n = r ^ j * m from e]; exact Nat.dvd_mul_left_of_dvd d _)
        have h4 : y.1 ≠ r := fun z => nx (z ▸ d)
        omega
      rw [← (show n = r ^ j * m from e)] at this
      exact this
def bkN (n : Nat) : List (Nat × Nat) := bkF n n
theorem bkN_ok {n : Nat} (h : 0 < n) : Bk n (bkN n) := bkF_ok n n h (Nat.le_refl _)
theorem Bk.eqN {n : Nat} {L : List (Nat × Nat)} (b : Bk n L) : L = bkN n := b.uniq (bkN_ok b.pos)
/-! ### divisors, one prime after the other, the powers inside -/
def fmul (S : List Nat) (p h : Nat) : List Nat := S.flatMap fun x => (List.range (h + 1)).map fun j => x * p ^ j
theorem flat_snoc (b : Nat → Nat) (A : Nat → List Nat) : ∀ S : List Nat, (S.flatMap fun x => A x ++ [b x]).Perm (S.flatMap A ++ S.map b)
  | [] => by simp
  | x :: S => by
    have ih := flat_snoc b A S
    rw [List.flatMap_cons, List.flatMap_cons, List.map_cons]
    have h1 : (A x ++ [b x] ++ S.flatMap fun x => A x ++ [b x]).Perm (A x ++ [b x] ++ (S.flatMap A ++ S.map b)) := List.Perm.append_left _ ih
    refine h1.trans ?_
    have h2 : (A x ++ [b x] ++ (S.flatMap A ++ S.map b)) = A x ++ ([b x] ++ S.flatMap A) ++ S.map b := by simp
    have h3 : (A x ++ S.flatMap A ++ b x :: S.map b) = A x ++ (S.flatMap A ++ [b x]) ++ S.map b := by simp
    rw [h2, h3]
    exact (List.Perm.append_left _ List.perm_append_comm).append_right _
theorem fmul_perm (S : List Nat) (p : Nat) : ∀ h, (fmul S p h).Perm (mulPows S p h)
  | 0 => by
    have : fmul S p 0 = S := by
      unfold fmul
      simp
    rw [this]; exact List.Perm.refl _
  | h + 1 => by
    have e : fmul S p (h + 1) = S.flatMap fun x => ((List.range (h + 1)).map fun j => x * p ^ j) ++ [x * p ^ (h + 1)] := by
      unfold fmul
      congr 1
      funext x
      rw [List.range_succ, List.map_append]; rfl
    rw [e]
    refine (flat_snoc (fun x => x * p ^ (h + 1)) _ S).trans ?_
    show (fmul S p h ++ S.map (· * p ^ (h + 1))).Perm (mulPows S p h ++ S.map (· * p ^ (h + 1)))
    exact (fmul_perm S p h).append_right _
theorem All.of_perm {m : Nat} {S T : List Nat} (a : All m T) (h : S.Perm T) : All m S := ⟨h.nodup_iff.mpr a.nd, fun d => h.mem_iff.trans (a.mem d)⟩
end NT
end

section
set_option Elab.async false
set_option linter.all false
set_option exponentiation.threshold 20000
set_option maxRecDepth 100000
/-! SPc: what the functions that many laws share say. -/
namespace SPc
open PySem PySem.Spec PyProof.Rows L2 VL NT
def pairsW (L : List (Nat × Nat)) : List W := L.map fun x => .tup [.int x.1, .int x.2]
def bookW (L : List (Nat × Nat)) : W := .tup (pairsW L)
def natsW (l : List Nat) : List W := l.map fun d => .int (d : Nat)
abbrev TOP : Nat := 2 ^ 60
def sp_book_of : SC := fun ws Q => ∃ n : Nat, ws = [.int n] ∧ 1 ≤ n ∧ n < TOP ∧ ∀ L, Bk n L → Q (bookW L) true
def sp_power : SC := fun ws Q => ∃ b n : Nat, ws = [.int b, .int n] ∧ 1 ≤ b ∧ b < TOP ∧ n ≤ 200 ∧ Q (.int ((b ^ n : Nat) : Int)) false
def sp_rest_power : SC := fun ws Q => ∃ (a : Int) (k n : Nat), ws = [.int a, .int k, .int n] ∧ 1 ≤ n ∧ n < 2 ^ 200 ∧ Q (.int (a ^ k % (n : Int))) false
def sp_l_law_prime : SC := fun ws Q => ∃ n : Nat, ws = [.int n] ∧ n < TOP ∧ ∀ b, (b = true ↔ Pr n) → Q (.bl b) false
def sp_l_law_gcd : SC := fun ws Q => ∃ a b : Nat, ws = [.int a, .int b] ∧ a < TOP ∧ b < TOP ∧ Q (.int (Nat.gcd a b : Nat)) false
def sp_l_law_book : SC := fun ws Q => ∃ n : Nat, ws = [.int n] ∧ 1 ≤ n ∧ n < TOP ∧ ∀ L, Bk n L → Q (bookW L) true
def sp_l_law_divisors : SC := fun ws Q => ∃ n : Nat, ws = [.int n] ∧ 1 ≤ n ∧ n < 2 ^ 44 ∧ Q (.lst (natsW (divs n))) true
def sp_divisors : SC := fun ws Q => ∃ n : Nat, ws = [.int n] ∧ 1 ≤ n ∧ n < 2 ^ 26 ∧ Q (.lst (natsW (divs n))) true
def sp_sum_divisors : SC := fun ws Q => ∃ n : Nat, ws = [.int n, .int 1] ∧ 1 ≤ n ∧ n < TOP ∧ Q (.int (sg n : Nat)) false
def sp_proper_sum : SC := fun ws Q => ∃ n : Nat, ws = [.int n] ∧ 1 ≤ n ∧ n < TOP ∧ Q (.int ((sg n : Nat) - (n : Int))) false
def sp_l_law_number : SC := fun ws Q => ws = [.tok] ∧ ∀ n : Nat, 1 ≤ n → n < 2 ^ 26 → Q (.int (n : Nat)) false
def sp_sign : SC := fun ws Q => ∃ n : Nat, ws = [.int n] ∧ 1 ≤ n ∧ n < TOP ∧ Q (.int (mu n)) false
def sp_l_law_state : SC := spState
def sp_l_law_draw : SC := spDraw
theorem sz {n : Nat} (h : n ≤ 16777216) : n ≤ sizeLine := by rw [sizeLine_eq]; exact h
theorem sz' {n : Nat} (h : n < 16777216) : n < sizeLine := by rw [sizeLine_eq]; exact h
theorem lt_sq {p n a : Nat} (h : p * p ≤ n) (k : n < a * a) : p < a := Nat.lt_of_not_le fun z => absurd (Nat.mul_le_mul z z) (by omega)
theorem pairsW_snoc (L : List (Nat × Nat)) (p h : Nat) : pairsW L ++ [W.tup [W.int p, W.int h]] = pairsW (L ++ [(p, h)]) := by simp [pairsW]
theorem pairsW_len (L : List (Nat × Nat)) : (pairsW L).length = L.length := List.length_map ..
theorem natsW_len (L : List Nat) : (natsW L).length = L.length := List.length_map ..
theorem natsW_snoc (L : List Nat) (p : Nat) : natsW L ++ [W.int p] = natsW (L ++ [p]) := by simp [natsW]
theorem natsW_rev (L : List Nat) : (natsW L).reverse = natsW L.reverse := by simp [natsW]
theorem natsW_app (L M : List Nat) : natsW L ++ natsW M = natsW (L ++ M) := by simp [natsW]
theorem pow_top {b n : Nat} (h : b < TOP) (k : n ≤ 200) : b ^ n < 2 ^ 12100 := Nat.lt_of_le_of_lt (Nat.pow_le_pow_left (Nat.le_of_lt h) n) (by rw [← Nat.pow_mul]; exact Nat.pow_lt_pow_right (by decide) (by omega))
theorem ints_nat (f : α → Nat) : ∀ l : List α, ints? (l.map fun i => W.int (f i : Nat)) = some (l.map fun i => ((f i : Nat) : Int))
  | [] => rfl
  | a :: l => by
    have := ints_nat f l
    simp only [List.map_cons]
    unfold ints?
    rw [this]; rfl
theorem sum_nat (f : α → Nat) : ∀ l : List α, (l.map fun i => ((f i : Nat) : Int)).sum = (((l.map f).sum : Nat) : Int)
  | [] => rfl
  | a :: l => by simp only [List.map_cons, List.sum_cons, sum_nat f l]; exact (Int.natCast_add _ _).symm
theorem psum_range (p : Nat) : ∀ h, ((List.range (h + 1)).map fun i => p ^ i).sum = psum p h
  | 0 => rfl
  | h + 1 => by rw [List.range_succ, List.map_append, List.sum_append, psum_range p h]; rfl
/-- a sorted row of whole numbers -/
theorem nat_of_perm {S : List Nat} {ns : List Int} (p : ns.Perm (S.map fun d : Nat => (d : Int))) : ∃ l : List Nat, l.Perm S ∧ ns = l.map fun d : Nat => (d : Int) := by
  refine ⟨ns.map Int.toNat, ?_, ?_⟩
  · have := p.map Int.toNat
    rw [List.map_map, show (Int.toNat ∘ fun d : Nat => (d : Int)) = id from rfl, List.map_id] at this
    exact this
  · rw [List.map_map]
    symm
    conv => rhs; rw [← List.map_id ns]
    refine List.map_congr_left fun a ha => ?_
    obtain ⟨d, _, rfl⟩ := List.mem_map.mp (p.subset ha)
    rfl
theorem weqs_ints : ∀ xs ys : List Int, weqs (xs.map W.int) (ys.map W.int) = decide (xs = ys)
  | [], [] => rfl
  | [], _ :: _ => rfl
  | _ :: _, [] => rfl
  | x :: xs, y :: ys => by
    simp only [List.map_cons]
    unfold weqs
    rw [weqs_ints xs ys, weq_int]
    by_cases h : x = y <;> simp [h]
theorem natsW_int (l : List Nat) : natsW l = (l.map fun d : Nat => (d : Int)).map W.int := by rw [List.map_map]; rfl
theorem int_inj : ∀ {l m : List Nat}, (l.map fun d : Nat => (d : Int)) = (m.map fun d : Nat => (d : Int)) → l = m
  | [], [], _ => rfl
  | [], _ :: _, h => by cases h
  | _ :: _, [], h => by cases h
  | a :: l, b :: m, h => by
    simp only [List.map_cons, List.cons.injEq] at h
    rw [int_inj h.2, Int.ofNat_inj.mp h.1]
theorem weq_nats (l m : List Nat) : weq (.lst (natsW l)) (.lst (natsW m)) = decide (l = m) := by
  unfold weq
  rw [natsW_int, natsW_int, weqs_ints]
  by_cases h : l = m
  · subst h; simp
  · rw [decide_eq_false h, decide_eq_false]; exact fun e => h (int_inj e)
theorem flats_map {α : Type} {n : Nat} {f : α → W} (h : ∀ a, flat n (f a) = true) : ∀ l : List α, flats n (l.map f) = true
  | [] => by simp only [List.map_nil]; unfold flats; rfl
  | a :: l => by simp only [List.map_cons]; unfold flats; rw [h a, flats_map h l]; rfl
theorem stOks_map {α : Type} {f : α → W} (h : ∀ a, stOk (f a) = true) : ∀ l : List α, stOks (l.map f) = true
  | [] => by simp only [List.map_nil]; unfold stOks; rfl
  | a :: l => by simp only [List.map_cons]; unfold stOks; rw [h a, stOks_map h l]; rfl
theorem fl_lmap {α : Type} {f : α → W} (h : ∀ a, flat 19 (f a) = true) (k : ∀ a, stOk (f a) = true) (l : List α) : Fl (.lst (l.map f)) = True :=
  eq_true ⟨by unfold flat; exact flats_map h l, by unfold stOk; exact stOks_map k l⟩
theorem fl_tmap {α : Type} {f : α → W} (h : ∀ a, flat 19 (f a) = true) (k : ∀ a, stOk (f a) = true) (l : List α) : Fl (.tup (l.map f)) = True :=
  eq_true ⟨by unfold flat; exact flats_map h l, by unfold stOk; exact stOks_map k l⟩
theorem fl_nats (l : List Nat) : Fl (.lst (natsW l)) = True := fl_lmap (fun _ => by unfold flat; rfl) (fun _ => by unfold stOk; rfl) l
theorem fl_book (l : List (Nat × Nat)) : Fl (bookW l) = True := fl_tmap (fun _ => rfl) (fun _ => rfl) l
/-- plain values of a depth -/
def okW : Nat → W → Bool
  | _, .non => true
  | _, .bl _ => true
  | _, .int _ => true
  | _, .str x => PyData.strOk x
  | n + 1, .lst xs => decide (xs.length ≤ 16777216) && xs.all (okW n)
  | n + 1, .tup xs => decide (xs.length ≤ 16777216) && xs.all (okW n)
  | _, _ => false
def sq_l_law_eq (d : Nat) : SC := fun ws Q => ∃ w, ws = [w, w] ∧ okW d w = true ∧ Q (.bl true) false
def sp_l_law_eq : SC := sq_l_law_eq 4
end SPc
end

section
set_option Elab.async false
set_option linter.all false
/-! RO: rows of integers as functions of the place. -/
namespace VL
open PySem PySem.Spec PyProof.Rows L2 SPc
def rowW (n : Nat) (f : Nat → Int) : List W := (List.range n).map fun k => W.int (f k)
theorem rowW_len (n : Nat) (f : Nat → Int) : (rowW n f).length = n := by unfold rowW; rw [List.length_map, List.length_range]
theorem rowW_get {n k : Nat} (f : Nat → Int) (h : k < n) : (rowW n f)[k]? = some (.int (f k)) := by
  unfold rowW
  rw [List.getElem?_map, List.getElem?_range h]; rfl
theorem rowW_ext {n : Nat} {f g : Nat → Int} (h : ∀ k, k < n → f k = g k) : rowW n f = rowW n g :=
  List.map_congr_left fun k hk => by rw [h k (List.mem_range.mp hk)]
theorem rowW_set {n k : Nat} (f : Nat → Int) (v : Int) : (rowW n f).set k (.int v) = rowW n fun j => if j = k then v else f j := by
  refine List.ext_getElem? fun i => ?_
  rw [List.getElem?_set]
  unfold rowW
  rw [List.getElem?_map, List.getElem?_map, List.length_map, List.length_range]
  by_cases hi : i < n
  · rw [List.getElem?_range hi]
    by_cases e : k = i
    · subst e
      rw [if_pos rfl, if_pos hi]
      simp
    · rw [if_neg e]
      simp [show ¬ i = k from fun z => e z.symm]
  · rw [List.getElem?_eq_none (by simpa using hi)]
    by_cases e : k = i
    · subst e; rw [if_pos rfl, if_neg hi]; rfl
    · rw [if_neg e]; rfl
theorem rowW_snoc (n : Nat) (f : Nat → Int) : rowW n f ++ [.int (f n)] = rowW (n + 1) f := by
  unfold rowW
  rw [List.range_succ, List.map_append]; rfl
theorem rowW_cons (n : Nat) (v : Int) (f : Nat → Int) : W.int v :: rowW n f = rowW (n + 1) fun k => if k = 0 then v else f (k - 1) := by
  refine List.ext_getElem? fun i => ?_
  cases i with
  | zero => unfold rowW; simp [List.range_succ_eq_map]
  | succ i =>
    unfold rowW
    simp only [List.getElem?_cons_succ, List.getElem?_map]
    by_cases hi : i < n
    · rw [List.getElem?_range hi, List.getElem?_range (show i + 1 < n + 1 by omega)]; simp
    · rw [List.getElem?_eq_none (by simpa using hi), List.getElem?_eq_none (by simp; omega)]; rfl
theorem rowW_rep (n : Nat) (v : Int) : (List.replicate n [W.int v]).flatten = rowW n fun _ => v := by
  induction n with
  | zero => rfl
  | succ n ih =>
    rw [List.replicate_succ, List.flatten_cons, ih, List.singleton_append, rowW_cons]
    exact rowW_ext fun k _ => by split <;> rfl
/-- [1] + [0] * n -/
def del (k : Nat) : Int := if k = 0 then 1 else 0
theorem rowW_one (n : Nat) : W.int 1 :: rowW n (fun _ => 0) = rowW (n + 1) del := by rw [rowW_cons]; rfl
theorem rowW_take (n m : Nat) (f : Nat → Int) : (rowW n f).take m = rowW (min n m) f := by
  unfold rowW
  rw [← List.map_take, List.take_range, Nat.min_comm]
theorem rowW_drop1 (n : Nat) (f : Nat → Int) : (rowW n f).drop 1 = rowW (n - 1) fun k => f (k + 1) := by
  refine List.ext_getElem? fun i => ?_
  rw [List.getElem?_drop]
  unfold rowW
  rw [List.getElem?_map, List.getElem?_map]
  by_cases hi : i < n - 1
  · rw [List.getElem?_range hi, List.getElem?_range (show 1 + i < n by omega), Nat.add_comm 1 i]; rfl
  · rw [List.getElem?_eq_none (by simp; omega), List.getElem?_eq_none (by simp; omega)]; rfl
theorem cut_to (xs : List W) (e : Int) (h : 0 ≤ e) : cutW xs none (some e) = xs.take e.toNat := by
  obtain ⟨k, rfl⟩ : ∃ k : Nat, e = k := ⟨e.toNat, by omega⟩
  unfold cutW
  rw [HT.sIx_none, HT.sIx_nat, Int.toNat_natCast, List.drop_zero, Nat.sub_zero]
  rcases Nat.le_total k xs.length with c | c
  · rw [Nat.min_eq_left c]
  · rw [Nat.min_eq_right c, List.take_of_length_le c, List.take_of_length_le (Nat.le_refl _)]
theorem cut_from1 (xs : List W) : cutW xs (some 1) none = xs.drop 1 := by
  unfold cutW
  rw [HT.sIx_none, show (1 : Int) = ((1 : Nat) : Int) from rfl, HT.sIx_nat]
  cases xs with
  | nil => rfl
  | cons x xs =>
    rw [Nat.min_eq_left (by simp)]
    refine List.take_of_length_le (by simp)
theorem enW_row (n : Nat) (f : Nat → Int) : enW 0 (rowW n f) = (List.range n).map fun k => W.tup [.int (k : Nat), .int (f k)] := by
  have := enW_map (fun k : Nat => W.int (f k)) 0 (List.range n)
  unfold rowW
  rw [this, List.length_range]
  refine List.map_congr_left fun k hk => ?_
  rw [show (List.range n).getD k 0 = k by simp [List.getD, List.getElem?_range (List.mem_range.mp hk)]]
theorem ixN_nat {n k : Nat} (h : k < n) : ixN n (k : Int) = some k := by
  unfold ixN
  rw [if_pos (by omega), if_pos (by omega)]; rfl
theorem row_ints (n : Nat) (f : Nat → Int) : ints? (rowW n f) = some ((List.range n).map f) := by
  have : rowW n f = ((List.range n).map f).map W.int := by unfold rowW; rw [List.map_map]; rfl
  rw [this]; exact ints?_map _
theorem forGo_ix {g : TWG} {tb : TWS} {dn : Nv → Prop} {dr : W → Bool → Prop} {db dc : Nv → Prop} {η : Nv} {F : Nat → W} {n : Nat} (P : Nat → Nv → Prop) (h0 : P 0 η)
    (hs : ∀ i η, i < n → P i η → g (F i) η fun η1 => tb { nx := P (i + 1), ct := P (i + 1), bk := dn, rt := dr } η1) (hd : ∀ η, P n η → dn η) : forGo g tb ((List.range n).map F) ⟨dn, dr, db, dc⟩ η := by
  refine forGo_inv P h0 (fun i w η e p => ?_) (by rw [List.length_map, List.length_range]; exact hd)
  rw [List.getElem?_map] at e
  by_cases hi : i < n
  · rw [List.getElem?_range hi] at e
    cases e
    exact hs i η hi p
  · rw [List.getElem?_eq_none (by simpa using hi)] at e
    cases e
theorem row_ow {n : Nat} {f g : Nat → Int} (h : ∀ k, k < n → f k = g k) : Sl.ow (.lst (rowW n f)) = Sl.ow (.lst (rowW n g)) := by rw [rowW_ext h]
theorem row_fz {n : Nat} {f g : Nat → Int} (h : ∀ k, k < n → f k = g k) : Sl.fz (.lst (rowW n f)) = Sl.fz (.lst (rowW n g)) := by rw [rowW_ext h]
theorem fl_row (n : Nat) (f : Nat → Int) : Fl (.lst (rowW n f)) = True := fl_lmap (f := fun k => W.int (f k)) (fun _ => by unfold flat; rfl) (fun _ => by unfold stOk; rfl) (List.range n)
theorem weq_row (n : Nat) (f : Nat → Int) : weq (.lst (rowW n f)) (.lst (rowW n f)) = true := by
  have e : rowW n f = ((List.range n).map f).map W.int := by unfold rowW; rw [List.map_map]; rfl
  unfold weq
  rw [e, weqs_ints]; simp
theorem ok_row (d n : Nat) (f : Nat → Int) (h : n ≤ 16777216) : okW (d + 2) (.lst (rowW n f)) = true := by
  show (decide ((rowW n f).length ≤ 16777216) && (rowW n f).all (okW (d + 1))) = true
  rw [rowW_len, decide_eq_true h, Bool.true_and, List.all_eq_true]
  intro w hw
  obtain ⟨d, _, rfl⟩ := List.mem_map.mp hw
  rfl
theorem ok_cons {d : Nat} {w : W} {l : List W} (h : okW d w = true) (t : okW (d + 1) (.lst l) = true) (hl : l.length < 16777216) : okW (d + 1) (.lst (w :: l)) = true := by
  have t : (decide (l.length ≤ 16777216) && l.all (okW d)) = true := t
  rw [Bool.and_eq_true] at t
  show (decide ((w :: l).length ≤ 16777216) && (w :: l).all (okW d)) = true
  rw [List.all_cons, h, t.2, decide_eq_true (by rw [List.length_cons]; omega)]; rfl
theorem ok_nil (d : Nat) : okW (d + 1) (.lst []) = true := rfl
theorem lcGo_two {h : W → (Option W → Prop) → Prop} {Q : List W → Prop} {a b : W} (P : W → Prop) (h1 : h a fun o => ∃ w, o = some w ∧ P w) (h2 : h b fun o => ∃ w, o = some w ∧ P w) (q : ∀ v w, P v → P w → Q [v, w]) : lcGo h [a, b] [] Q := by
  refine ⟨_, ?_, h1⟩
  rintro o ⟨v, rfl, pv⟩
  refine ⟨by simp [sizeLine], _, ?_, h2⟩
  rintro o ⟨w, rfl, pw⟩
  exact ⟨by simp [sizeLine], q v w pv pw⟩
/-- a row of drawn numbers -/
theorem lcGo_row {h : W → (Option W → Prop) → Prop} {Q : List W → Prop} {m : Int} {n : Nat} (p : Int → Prop) (hl : n ≤ sizeLine)
    (hs : ∀ i, i < n → h (.int (m + (i : Nat))) fun o => ∃ v, o = some (.int v) ∧ p v) (hd : ∀ f : Nat → Int, (∀ k, k < n → p (f k)) → Q (rowW n f)) : lcGo h (rgW m n) [] Q := by
  have go : ∀ (B A : List Nat) (f : Nat → Int), List.range n = A ++ B → (∀ k, k < A.length → p (f k)) → lcGo h (B.map fun i : Nat => W.int (m + (i : Nat))) (rowW A.length f) Q := by
    intro B
    induction B with
    | nil =>
      intro A f e hf
      have : A.length = n := by have := congrArg List.length e; simpa using this.symm
      rw [this] at hf ⊢
      exact hd f hf
    | cons x B ih =>
      intro A f e hf
      have hx : x < n := by
        have : x ∈ List.range n := by rw [e]; simp
        exact List.mem_range.mp this
      have lA : A.length < n := by
        have := congrArg List.length e
        rw [List.length_range, List.length_append, List.length_cons] at this
        omega
      refine ⟨fun o => ∃ v, o = some (.int v) ∧ p v, ?_, hs x hx⟩
      rintro o ⟨v, rfl, pv⟩
      refine ⟨by rw [rowW_len]; omega, ?_⟩
      have := ih (A ++ [x]) (fun j => if j = A.length then v else f j) (by rw [e, List.append_assoc]; rfl) (fun k hk => by
        rw [List.length_append, List.length_singleton] at hk
        by_cases c : k = A.length
        · rw [if_pos c]; exact pv
        · rw [if_neg c]; exact hf k (by omega))
      rw [List.length_append, List.length_singleton, ← rowW_snoc, if_pos rfl] at this
      rw [rowW_ext (f := f) (g := fun j => if j = A.length then v else f j) fun k hk => (if_neg (by omega)).symm]
      exact this
  have := go (List.range n) [] (fun _ => 0) rfl fun k hk => absurd hk (Nat.not_lt_zero _)
  exact this
/-- sums -/
def sm : Nat → (Nat → Int) → Int
  | 0, _ => 0
  | n + 1, h => sm n h + h n
theorem sm_ext {n : Nat} {f g : Nat → Int} (h : ∀ k, k < n → f k = g k) : sm n f = sm n g := by
  induction n with
  | zero => rfl
  | succ n ih => unfold sm; rw [ih fun k hk => h k (by omega), h n (by omega)]
theorem sm_zero {n : Nat} {f : Nat → Int} (h : ∀ k, k < n → f k = 0) : sm n f = 0 := by
  induction n with
  | zero => rfl
  | succ n ih => unfold sm; rw [ih fun k hk => h k (by omega), h n (by omega)]; rfl
theorem sm_tail {f : Nat → Int} {n : Nat} : ∀ t, (∀ k, n ≤ k → k < n + t → f k = 0) → sm (n + t) f = sm n f
  | 0, _ => rfl
  | t + 1, h => by
    show sm (n + t) f + f (n + t) = _
    rw [sm_tail t fun k a b => h k a (by omega), h (n + t) (by omega) (by omega), Int.add_zero]
theorem sm_le {f : Nat → Int} {n m : Nat} (nm : n ≤ m) (h : ∀ k, n ≤ k → k < m → f k = 0) : sm m f = sm n f := by
  obtain ⟨t, rfl⟩ : ∃ t, m = n + t := ⟨m - n, by omega⟩
  exact sm_tail t h
theorem sm_sum (n : Nat) (f : Nat → Int) : ((List.range n).map f).sum = sm n f := by
  induction n with
  | zero => rfl
  | succ n ih => rw [List.range_succ, List.map_append, List.sum_append, ih]; simp [sm]
theorem sm_abs_le {n : Nat} {f : Nat → Int} {B : Nat} (h : ∀ k, k < n → (f k).natAbs ≤ B) : (sm n f).natAbs ≤ n * B := by
  induction n with
  | zero => simp [sm]
  | succ n ih =>
    have a := ih fun k hk => h k (by omega)
    have b := h n (by omega)
    have := Int.natAbs_add_le (sm n f) (f n)
    unfold sm
    rw [Nat.succ_mul]; omega
theorem sm_first (n : Nat) (f : Nat → Int) : sm (n + 1) f = f 0 + sm n fun k => f (k + 1) := by
  induction n with
  | zero => simp [sm]
  | succ n ih =>
    show sm (n + 1) f + f (n + 1) = _
    rw [ih]
    show _ = f 0 + (sm n (fun k => f (k + 1)) + f (n + 1))
    omega
theorem sm_mul (c : Int) (n : Nat) (f : Nat → Int) : c * sm n f = sm n fun k => c * f k := by
  induction n with
  | zero => simp [sm]
  | succ n ih => unfold sm; rw [Int.mul_add, ih]
theorem sm_add (n : Nat) (f g : Nat → Int) : sm n f + sm n g = sm n fun k => f k + g k := by
  induction n with
  | zero => rfl
  | succ n ih =>
    show sm n f + f n + (sm n g + g n) = sm n (fun k => f k + g k) + (f n + g n)
    rw [← ih]; omega
/-- the product of two rows -/
def conv (f g : Nat → Int) (k : Nat) : Int := sm (k + 1) fun i => f i * g (k - i)
theorem conv_ext {f f' g g' : Nat → Int} {k : Nat} (h1 : ∀ j, j ≤ k → f j = f' j) (h2 : ∀ j, j ≤ k → g j = g' j) : conv f g k = conv f' g' k :=
  sm_ext fun i hi => by rw [h1 i (by omega), h2 (k - i) (by omega)]
theorem conv_le {f g : Nat → Int} {A B k : Nat} (h1 : ∀ j, j ≤ k → (f j).natAbs ≤ A) (h2 : ∀ j, j ≤ k → (g j).natAbs ≤ B) : (conv f g k).natAbs ≤ (k + 1) * (A * B) :=
  sm_abs_le fun i hi => by rw [Int.natAbs_mul]; exact Nat.mul_le_mul (h1 i (by omega)) (h2 _ (by omega))
/-- a row, 0 behind its end -/
def cu (n : Nat) (f : Nat → Int) (k : Nat) : Int := if k < n then f k else 0
theorem cu_in {n k : Nat} {f : Nat → Int} (h : k < n) : cu n f k = f k := if_pos h
theorem cu_out {n k : Nat} {f : Nat → Int} (h : n ≤ k) : cu n f k = 0 := if_neg (by omega)
theorem cu_le {n k B : Nat} {f : Nat → Int} (h : ∀ j, j < n → (f j).natAbs ≤ B) : (cu n f k).natAbs ≤ B := by
  unfold cu
  split
  · exact h k ‹_›
  · simp
/-- the first i rows of the product -/
def cvr (F G : Nat → Int) (i k : Nat) : Int := sm i fun j => if j ≤ k then F j * G (k - j) else 0
theorem cvr_succ (F G : Nat → Int) (i k : Nat) : cvr F G (i + 1) k = cvr F G i k + if i ≤ k then F i * G (k - i) else 0 := rfl
theorem cvr_end {F G : Nat → Int} {i k : Nat} (h : ∀ j, i ≤ j → j ≤ k → F j = 0) : cvr F G i k = conv F G k := by
  unfold cvr conv
  have e : sm (k + 1) (fun i => F i * G (k - i)) = sm (k + 1) fun j => if j ≤ k then F j * G (k - j) else 0 := sm_ext fun j hj => by rw [if_pos (by omega)]
  rw [e]
  rcases Nat.le_total i (k + 1) with c | c
  · refine (sm_le c fun j a b => ?_).symm
    rw [if_pos (by omega), h j a (by omega), Int.zero_mul]
  · exact sm_le c fun j a b => if_neg (by omega)
end VL
end

section
set_option Elab.async false
set_option linter.all false
set_option maxRecDepth 100000
set_option exponentiation.threshold 50000
namespace VL
abbrev Fr := Int × Int
/-- lowest terms -/
def lo (p q : Int) : Fr := (p / (Int.gcd p q : Nat), q / (Int.gcd p q : Nat))
def wys (n : Nat) : Nat → Nat
  | 0 => 1
  | i + 1 => wys n i * (n - i) / (i + 1)
/-- the inner sum, over the first entries -/
def bsum' (n : Nat) : Nat → Fr → List Fr → Fr
  | _, s, [] => s
  | k, s, x :: L => bsum' n (k + 1) (lo (s.1 * x.2 + (wys (n + 1) k : Nat) * x.1 * s.2) (s.2 * x.2)) L
def bnx (n : Nat) (L : List Fr) : Fr := let s := bsum' n 0 (0, 1) L; lo (-s.1) (s.2 * ((n : Int) + 1))
def bl : Nat → List Fr
  | 0 => [(1, 1)]
  | n + 1 => bl n ++ [bnx (n + 1) (bl n)]
/-- the law's own -/
def arow (m : Nat) : List Fr := (List.range (m + 1)).map fun k : Nat => (1, (k : Int) + 1)
def astep : Nat → List Fr → List Fr
  | k, x :: y :: L => lo (((k : Int) + 1) * (x.1 * y.2 - y.1 * x.2)) (x.2 * y.2) :: astep (k + 1) (y :: L)
  | _, _ => []
def atold : Nat → List Fr → List Fr
  | 0, _ => []
  | n + 1, [] => []
  | n + 1, x :: L => x :: atold n (astep 0 (x :: L))
def lawB (m : Nat) : List Fr := match atold (m + 1) (arow m) with
  | [] => []
  | x :: L => x :: (match L with
    | [] => []
    | _ :: M => (-1, 2) :: M)
theorem b_tab : ((List.range 41).all fun m => decide (lawB m = bl m)) = true := by decide +kernel
/-- sizes within the inner sums -/
def fin (s : Fr) : Bool := decide (s.1.natAbs < 2 ^ 400) && decide (0 < s.2) && decide (s.2 < 2 ^ 400)
def scan (n : Nat) : Nat → Fr → List Fr → Bool
  | _, s, [] => fin s
  | k, s, x :: L => fin s && scan n (k + 1) (lo (s.1 * x.2 + (wys (n + 1) k : Nat) * x.1 * s.2) (s.2 * x.2)) L
theorem scan_tab : ((List.range 68).all fun n => scan (n + 1) 0 (0, 1) (bl n)) = true := by decide +kernel
theorem fin_tab : ((bl 68).all fin) = true := by decide +kernel
theorem wys_tab : ((List.range 71).all fun n => (List.range (n + 1)).all fun k => decide (wys n k < 2 ^ 80)) = true := by decide +kernel
theorem odd_tab : ((List.range 41).all fun k => decide (k < 3) || decide (k % 2 = 0) || decide ((bl 40)[k]? = some (0, 1))) = true := by decide +kernel
def isPb (n : Nat) : Bool := decide (2 ≤ n) && (List.range (n - 2)).all fun d => !decide (n % (d + 2) = 0)
def spr' (n : Nat) : List Nat := (((List.range n).map (1 + ·)).filter fun d => decide (n % d = 0) && isPb (d + 1)).map (· + 1)
def adFr (x y : Fr) : Fr := lo (x.1 * y.2 + y.1 * x.2) (x.2 * y.2)
def stau (x : Fr) : List Nat → Nat × Fr
  | [] => (1, x)
  | p :: L => let r := stau x L; (r.1 * p, adFr r.2 (1, (p : Int)))
theorem st_tab : ((List.range 20).all fun k => let n := 2 + 2 * k; let r := stau ((bl 40).getD n (0, 1)) (spr' n).reverse; decide (((bl 40).getD n (0, 1)).2 = (r.1 : Nat)) && decide (r.2.2 = 1)) = true := by decide +kernel
def rgl (p : Nat) : Bool := (List.range ((p - 3) / 2)).all fun i => !decide (((bl (p - 3)).getD (2 + 2 * i) (0, 1)).1 % (p : Int) = 0)
theorem rg_tab : (([3, 5, 7, 11, 13, 17, 19, 23, 29, 31, 37, 41, 43, 47, 53, 59, 61, 67, 71] : List Nat).all fun p => decide (rgl p = !(p == 37 || p == 59 || p == 67))) = true := by decide +kernel
end VL
end

section
set_option Elab.async false
set_option linter.all false
set_option maxRecDepth 100000
set_option exponentiation.threshold 50000
namespace VL
/-- the row of the sums of powers -/
def pwE (k j : Nat) : Fr := let x := if j = 1 then (1, 2) else (bl k).getD j (0, 1); lo ((wys (k + 1) j : Nat) * x.1) (x.2 * ((k : Int) + 1))
def pwR (k : Nat) : List Fr := (0, 1) :: ((List.range (k + 1)).map fun i => pwE k (k - i))
def evl : List Int → Int → Int
  | [], _ => 0
  | a :: A, x => a + x * evl A x
def adl : List Int → List Int → List Int
  | [], m => m
  | l, [] => l
  | a :: l, b :: m => (a + b) :: adl l m
def shl : List Int → List Int
  | [] => []
  | a :: A => adl [a] (adl (shl A) (0 :: shl A))
theorem evl_adl : ∀ (l m : List Int) (x : Int), evl (adl l m) x = evl l x + evl m x
  | [], m, x => by rw [show adl [] m = m by cases m <;> rfl]; show _ = 0 + _; omega
  | a :: l, [], x => by rw [show adl (a :: l) [] = a :: l from rfl]; show _ = _ + 0; omega
  | a :: l, b :: m, x => by
    show (a + b) + x * evl (adl l m) x = (a + x * evl l x) + (b + x * evl m x)
    rw [evl_adl l m x]; grind
theorem evl_shl : ∀ (l : List Int) (x : Int), evl (shl l) x = evl l (x + 1)
  | [], _ => rfl
  | a :: l, x => by
    show evl (adl [a] (adl (shl l) (0 :: shl l))) x = a + (x + 1) * evl l (x + 1)
    rw [evl_adl, evl_adl]
    show (a + x * 0) + (evl (shl l) x + (0 + x * evl (shl l) x)) = _
    rw [evl_shl l x]; grind
theorem evl_smul (c : Int) : ∀ (l : List Int) (x : Int), evl (l.map (c * ·)) x = c * evl l x
  | [], _ => by show (0 : Int) = c * 0; omega
  | a :: l, x => by
    show c * a + x * evl (l.map (c * ·)) x = c * (a + x * evl l x)
    rw [evl_smul c l x]; grind
theorem evl_zero : ∀ (l : List Int) (x : Int), (l.all fun a => decide (a = 0)) = true → evl l x = 0
  | [], _, _ => rfl
  | a :: l, x, h => by
    rw [List.all_cons, Bool.and_eq_true, decide_eq_true_eq] at h
    show a + x * evl l x = 0
    rw [evl_zero l x h.2, h.1]; omega
def mon : Nat → List Int
  | 0 => [1]
  | k + 1 => 0 :: mon k
theorem evl_mon : ∀ (k : Nat) (x : Int), evl (mon k) x = x ^ k
  | 0, x => by show 1 + x * 0 = _; rw [Int.pow_zero]; omega
  | k + 1, x => by
    show 0 + x * evl (mon k) x = _
    rw [evl_mon k x, Int.pow_succ]; grind
def dn (k : Nat) : Nat := (pwR k).foldl (fun d x => Nat.lcm d x.2.natAbs) 1
def cf (k : Nat) : List Int := (pwR k).map fun x => x.1 * ((dn k : Int) / x.2)
theorem cf_tab : ((List.range 20).all fun k => ((pwR k).all fun x => decide (0 < x.2) && decide ((dn k : Int) / x.2 * x.2 = (dn k : Nat)) && decide (x.1.natAbs < 2 ^ 60) && decide (x.2 < 2 ^ 60)) && decide (0 < dn k) && decide (dn k < 2 ^ 60) && ((adl (shl (cf k)) ((adl (cf k) ((shl (mon k)).map ((dn k : Int) * ·))).map (-1 * ·))).all fun a => decide (a = 0))) = true := by decide +kernel
/-- the sum of the powers -/
def psm (k : Nat) : Nat → Nat
  | 0 => 0
  | n + 1 => psm k n + (n + 1) ^ k
theorem cf_sum {k : Nat} (hk : k < 20) : ∀ n : Nat, evl (cf k) n = (dn k : Int) * (psm k n : Nat)
  | 0 => by
    show evl (cf k) 0 = (dn k : Int) * 0
    have : cf k = 0 :: (cf k).tail := by unfold cf pwR; rw [List.map_cons]; simp
    rw [this]
    show 0 + 0 * _ = _
    omega
  | n + 1 => by
    have t := List.all_eq_true.mp cf_tab k (List.mem_range.mpr hk)
    rw [Bool.and_eq_true] at t
    have z := evl_zero _ (n : Int) t.2
    rw [evl_adl, evl_smul, evl_adl, evl_smul, evl_shl, evl_shl, evl_mon, cf_sum hk n] at z
    show evl (cf k) ((n + 1 : Nat) : Int) = (dn k : Int) * ((psm k n + (n + 1) ^ k : Nat) : Int)
    rw [Int.natCast_add, Int.natCast_add, Int.natCast_pow, Int.natCast_add]
    generalize ((psm k n : Nat) : Int) = S at z ⊢
    generalize evl (cf k) ((n : Int) + 1) = E at z ⊢
    have e1 : ((1 : Nat) : Int) = 1 := rfl
    rw [e1]
    grind
end VL
end

section
set_option Elab.async false
set_option linter.all false
namespace K30
open PySem PySem.Spec PyProof.Rows L2 VL NT SPc
/-- a fraction, a row of fractions -/
def frP (x : Fr) : W := .tup [.int x.1, .int x.2]
def frL (l : List Fr) : List W := l.map frP
def sp_prime_powers : SC := fun ws Q => ∃ n : Nat, ws = [.int n] ∧ 1 ≤ n ∧ n < 2 ^ 44 ∧ ∀ L, Bk n L → Q (.lst (pairsW L)) true
def sp_l_law_powers : SC := fun ws Q => ∃ n : Nat, ws = [.int n] ∧ 1 ≤ n ∧ n < 2 ^ 44 ∧ ∀ L, Bk n L → Q (.lst (pairsW L)) true
def sp_lowest : SC := fun ws Q => ∃ p q : Int, ws = [.int p, .int q] ∧ 0 < q ∧ q < 2 ^ 8000 ∧ Q (frP (lo p q)) true
def sp_l_law_frac : SC := sp_lowest
def sp_l_law_add : SC := fun ws Q => ∃ x y : Fr, ws = [frP x, frP y] ∧ 0 < x.2 ∧ 0 < y.2 ∧ x.2 < 2 ^ 3000 ∧ y.2 < 2 ^ 3000 ∧ x.1.natAbs < 2 ^ 3000 ∧ y.1.natAbs < 2 ^ 3000 ∧ Q (frP (adFr x y)) true
def sp_ways : SC := fun ws Q => ∃ n k : Nat, ws = [.int n, .int k] ∧ n ≤ 70 ∧ k ≤ n ∧ Q (.int (wys n k : Nat)) false
def sp_bernoulli : SC := fun ws Q => ∃ m : Nat, ws = [.int m] ∧ m ≤ 68 ∧ Q (.lst (frL (bl m))) true
def sp_divisors : SC := fun ws Q => ∃ n : Nat, ws = [.int n] ∧ 1 ≤ n ∧ n < 2 ^ 20 ∧ ∀ l, All n l → Q (.lst (natsW l)) false
def sp_staudt_primes : SC := fun ws Q => ∃ n : Nat, ws = [.int n] ∧ 1 ≤ n ∧ n < 2 ^ 20 ∧ Q (.tup (natsW (spr' n))) true
def sp_power_row : SC := fun ws Q => ∃ k : Nat, ws = [.int k] ∧ k < 20 ∧ Q (.tup (frL (pwR k))) true
def sp_power_sum : SC := fun ws Q => ∃ k n : Nat, ws = [.int k, .int n] ∧ k < 20 ∧ n < 2 ^ 31 ∧ Q (.int (psm k n : Nat)) false
def sp_is_regular : SC := fun ws Q => ∃ p : Nat, ws = [.int p] ∧ 3 ≤ p ∧ p ≤ 71 ∧ p % 2 = 1 ∧ Q (.bl (rgl p)) false
def sp_l_law_is_prime : SC := fun ws Q => ∃ n : Nat, ws = [.int n] ∧ 1 ≤ n ∧ n < 2 ^ 44 ∧ Q (.bl (isPb n)) false
def sp_l_law_bernoulli : SC := fun ws Q => ∃ m : Nat, ws = [.int m] ∧ m ≤ 40 ∧ Q (.lst (frL (lawB m))) true
def sp_l_law_pick : SC := fun ws Q => ∃ xs : List W, ws = [.tok, .lst xs] ∧ 0 < xs.length ∧ xs.length < 2 ^ 20 ∧ ∀ w ∈ xs, Q w false
end K30
end

section
set_option Elab.async false
set_option linter.all false
set_option maxRecDepth 100000
namespace K30
open PySem PySem.Spec PyProof.Rows L2 VL NT SPc

def topS (i : Nat) : Stmt := PySem.Challenge.pw_divisorhouse_k30_whole_numbers_of_bernou.main.body.getD i (.Pass ⟨0, 0, 0, 0⟩)
/-- the names that are built in -/
structure Mb (mg : Str → Option Value) : Prop where
  m_abs : mg "abs" = none
  m_all : mg "all" = none
  m_bool : mg "bool" = none
  m_enumerate : mg "enumerate" = none
  m_gcd : mg "gcd" = some (.builtin "math.gcd")
  m_int : mg "int" = none
  m_isinstance : mg "isinstance" = none
  m_len : mg "len" = none
  m_list : mg "list" = none
  m_max : mg "max" = none
  m_range : mg "range" = none
  m_sorted : mg "sorted" = none
  m_str : mg "str" = none
  m_tuple : mg "tuple" = none
abbrev st_power : Stmt := topS 2
abbrev nm_power : List Str := ["base", "n", "told"]
theorem sc_power : FnScope nm_power ["base", "n"] (defScope st_power) := ⟨rfl, rfl, rfl, by decide +kernel, rfl, by decide +kernel, by decide +kernel⟩
def w_power : TWS :=
  (wSeq (wSetM false 2 (eC (.int 1)))
  (wSeq (wWhile (bB (eBin sGt (oVar 1) (oE (eC (.int 0))))) (wSeq (wIf (bB (eBin sEq (oE (eBin sMod (oVar 1) (oE (eC (.int 2))))) (oE (eC (.int 1))))) (wSetM false 2 (eBin sMul (oVar 2) (oVar 0))) wNext)
  (wSeq (wSetM false 0 (eBin sMul (oVar 0) (oVar 0)))
  (wSetM false 1 (eBin sDiv (oVar 1) (oE (eC (.int 2))))))))
  (wRet (eVar 2))))
structure C_power (P : Program) (w : World) (K : PySem.W.Frag) (mg : Str → Option Value) (base : Heap) : Prop where
  mk ::

theorem b_power {P : Program} {w : World} {K : PySem.W.Frag} {mg : Str → Option Value} {base : Heap} (M : Mb mg) (C : C_power P w K mg base) (f : Addr) (cdv : Value) (A : Around) (outer : List Env) (s : Shared) (H : Hp) (E : XK) (hr : Room 0 (A.deeper (envOfC "power" (defScope st_power) s.heap.objs.size f cdv))) :
    RSs (cxOf L2.CX0 P w K mg base nm_power "power" (defScope st_power) f cdv A outer s H E).nox (defBody st_power) (w_power) :=
  (rss_cons (sSet false 2 re_int sc_power.nd)
    (rss_cons (rs_while PassesOwn.never (rt_cmp ow_gt (rV 1) (ro_of re_int) (nomark _)) (rss_cons (rs_if (rt_cmp (ow_eq hr.units) (ro_of (re_bin ow_mod (rV 1) (ro_of re_int))) (ro_of re_int) (nomark _)) (rss_one (sSet false 2 (re_bin ow_mul (rV 2) (rV 0)) sc_power.nd)) rss_nil)
    (rss_cons (sSet false 0 (re_bin ow_mul (rV 0) (rV 0)) sc_power.nd)
    (rss_one (sSet false 1 (re_bin ow_div (rV 1) (ro_of re_int)) sc_power.nd)))))
    (rss_one (rs_ret (eV 2)))))
theorem ok_power {P : Program} {w : World} {K : PySem.W.Frag} {mg : Str → Option Value} {base : Heap} (M : Mb mg) (C : C_power P w K mg base) (D : DefAt K mg "power" st_power ["base", "n"]) {sp : SC}
    (h : ∀ (ws : List W) (Q : W → Bool → Prop), ws.length = 2 → sp ws Q → w_power { nx := fun _ => Q .non false, rt := Q } (nv0 ws 1) ) : Cal P w K mg base (1) "power" ["base", "n"] sp :=
  cal_mk D sc_power (fun f cdv A outer s H E hr => b_power M C f cdv A outer s H E hr) fun ws Q hl q => by
    have z := h ws Q hl q
    have e : nm_power.length - ws.length = 1 := by rw [hl]; rfl
    rw [e]; exact z
abbrev st_prime_powers : Stmt := topS 4
abbrev nm_prime_powers : List Str := ["n", "told", "p", "k"]
theorem sc_prime_powers : FnScope nm_prime_powers ["n"] (defScope st_prime_powers) := ⟨rfl, rfl, rfl, by decide +kernel, rfl, by decide +kernel, by decide +kernel⟩
def w_prime_powers : TWS :=
  (wSeq (wSetM true 1 (eLst aNil))
  (wSeq (wSetM false 2 (eC (.int 2)))
  (wSeq (wWhile (bB (eBin sLe (oE (eBin sMul (oVar 2) (oVar 2))) (oVar 0))) (wSeq (wSetM false 3 (eC (.int 0)))
  (wSeq (wWhile (bB (eBin sEq (oE (eBin sMod (oVar 0) (oVar 2))) (oE (eC (.int 0))))) (wParM false false 0 3 (eBin sDiv (oVar 0) (oVar 2)) (eBin sAdd (oVar 3) (oE (eC (.int 1))))))
  (wSeq (wIf (bB (eBin sGt (oVar 3) (oE (eC (.int 0))))) (wAppend 1 (oE (eTup (aCons (oVar 2) (aCons (oVar 3) aNil))))) wNext)
  (wAug 2 (sArith0 fun i j => i + j) (oE (eIf (bB (eBin sEq (oVar 2) (oE (eC (.int 2))))) (eC (.int 1)) (eC (.int 2)))))))))
  (wRet (eBin sAdd (oVar 1) (oE (eIf (bB (eBin sGt (oVar 0) (oE (eC (.int 1))))) (eLst (aCons (oE (eTup (aCons (oVar 0) (aCons (oE (eC (.int 1))) aNil)))) aNil)) (eLst aNil))))))))
structure C_prime_powers (P : Program) (w : World) (K : PySem.W.Frag) (mg : Str → Option Value) (base : Heap) : Prop where
  mk ::

theorem b_prime_powers {P : Program} {w : World} {K : PySem.W.Frag} {mg : Str → Option Value} {base : Heap} (M : Mb mg) (C : C_prime_powers P w K mg base) (f : Addr) (cdv : Value) (A : Around) (outer : List Env) (s : Shared) (H : Hp) (E : XK) (hr : Room 0 (A.deeper (envOfC "prime_powers" (defScope st_prime_powers) s.heap.objs.size f cdv))) :
    RSs (cxOf L2.CX0 P w K mg base nm_prime_powers "prime_powers" (defScope st_prime_powers) f cdv A outer s H E).nox (defBody st_prime_powers) (w_prime_powers) :=
  (rss_cons (sSet true 1 (re_lst ra_nil) sc_prime_powers.nd)
    (rss_cons (sSet false 2 re_int sc_prime_powers.nd)
    (rss_cons (rs_while PassesOwn.never (rt_cmp ow_le (ro_of (re_bin ow_mul (rV 2) (rV 2))) (rV 0) (nomark _)) (rss_cons (sSet false 3 re_int sc_prime_powers.nd)
    (rss_cons (rs_while PassesOwn.never (rt_cmp (ow_eq hr.units) (ro_of (re_bin ow_mod (rV 0) (rV 2))) (ro_of re_int) (nomark _)) (rss_one (sPar false false 0 3 (re_bin ow_div (rV 0) (rV 2)) (re_bin ow_add (rV 3) (ro_of re_int)) sc_prime_powers.nd (by decide) (by rfl))))
    (rss_cons (rs_if (rt_cmp ow_gt (rV 3) (ro_of re_int) (nomark _)) (rss_one (rs_append 1 (ro_of (re_tup (ra_cons (rV 2) (ra_cons (rV 3) ra_nil)))))) rss_nil)
    (rss_one (rs_aug (i := 2) ow_iadd sc_prime_powers.nd rfl (by first | exact .inl rfl | exact .inr rfl) (ro_of (re_if (rt_cmp (ow_eq hr.units) (rV 2) (ro_of re_int) (nomark _)) re_int re_int)) (by first | exact .inl rfl | exact .inr rfl)))))))
    (rss_one (rs_ret (re_bin ow_add (rV 1) (ro_of (re_if (rt_cmp ow_gt (rV 0) (ro_of re_int) (nomark _)) (re_lst (ra_cons (ro_of (re_tup (ra_cons (rV 0) (ra_cons (ro_of re_int) ra_nil)))) ra_nil)) (re_lst ra_nil)))))))))
theorem ok_prime_powers {P : Program} {w : World} {K : PySem.W.Frag} {mg : Str → Option Value} {base : Heap} (M : Mb mg) (C : C_prime_powers P w K mg base) (D : DefAt K mg "prime_powers" st_prime_powers ["n"]) {sp : SC}
    (h : ∀ (ws : List W) (Q : W → Bool → Prop), ws.length = 1 → sp ws Q → w_prime_powers { nx := fun _ => Q .non false, rt := Q } (nv0 ws 3) ) : Cal P w K mg base (1) "prime_powers" ["n"] sp :=
  cal_mk D sc_prime_powers (fun f cdv A outer s H E hr => b_prime_powers M C f cdv A outer s H E hr) fun ws Q hl q => by
    have z := h ws Q hl q
    have e : nm_prime_powers.length - ws.length = 3 := by rw [hl]; rfl
    rw [e]; exact z
abbrev st_lowest : Stmt := topS 6
abbrev nm_lowest : List Str := ["p", "q", "both"]
theorem sc_lowest : FnScope nm_lowest ["p", "q"] (defScope st_lowest) := ⟨rfl, rfl, rfl, by decide +kernel, rfl, by decide +kernel, by decide +kernel⟩
def w_lowest : TWS :=
  (wSeq (wSetM false 2 (eIf (bB (eBin sGt (oVar 1) (oE (eC (.int 0))))) (eCall cGcd (aCons (oVar 0) (aCons (oVar 1) aNil))) (eNeg (oE (eCall cGcd (aCons (oVar 0) (aCons (oVar 1) aNil)))))))
  (wRet (eTup (aCons (oE (eBin sDivW (oVar 0) (oVar 2))) (aCons (oE (eBin sDivW (oVar 1) (oVar 2))) aNil)))))
structure C_lowest (P : Program) (w : World) (K : PySem.W.Frag) (mg : Str → Option Value) (base : Heap) : Prop where
  mk ::

theorem b_lowest {P : Program} {w : World} {K : PySem.W.Frag} {mg : Str → Option Value} {base : Heap} (M : Mb mg) (C : C_lowest P w K mg base) (f : Addr) (cdv : Value) (A : Around) (outer : List Env) (s : Shared) (H : Hp) (E : XK) (hr : Room 0 (A.deeper (envOfC "lowest" (defScope st_lowest) s.heap.objs.size f cdv))) :
    RSs (cxOf L2.CX0 P w K mg base nm_lowest "lowest" (defScope st_lowest) f cdv A outer s H E).nox (defBody st_lowest) (w_lowest) :=
  (rss_cons (sSet false 2 (re_if (rt_cmp ow_gt (rV 1) (ro_of re_int) (nomark _)) (re_g cw_gcd (by rfl) M.m_gcd (ra_cons (rV 0) (ra_cons (rV 1) ra_nil))) (re_neg (ro_of (re_g cw_gcd (by rfl) M.m_gcd (ra_cons (rV 0) (ra_cons (rV 1) ra_nil)))))) sc_lowest.nd)
    (rss_one (rs_ret (re_tup (ra_cons (ro_of (re_bin ow_divW (rV 0) (rV 2))) (ra_cons (ro_of (re_bin ow_divW (rV 1) (rV 2))) ra_nil))))))
theorem ok_lowest {P : Program} {w : World} {K : PySem.W.Frag} {mg : Str → Option Value} {base : Heap} (M : Mb mg) (C : C_lowest P w K mg base) (D : DefAt K mg "lowest" st_lowest ["p", "q"]) {sp : SC}
    (h : ∀ (ws : List W) (Q : W → Bool → Prop), ws.length = 2 → sp ws Q → w_lowest { nx := fun _ => Q .non false, rt := Q } (nv0 ws 1) ) : Cal P w K mg base (1) "lowest" ["p", "q"] sp :=
  cal_mk D sc_lowest (fun f cdv A outer s H E hr => b_lowest M C f cdv A outer s H E hr) fun ws Q hl q => by
    have z := h ws Q hl q
    have e : nm_lowest.length - ws.length = 1 := by rw [hl]; rfl
    rw [e]; exact z
abbrev st_ways : Stmt := topS 7
abbrev nm_ways : List Str := ["n", "k", "told", "i"]
theorem sc_ways : FnScope nm_ways ["n", "k"] (defScope st_ways) := ⟨rfl, rfl, rfl, by decide +kernel, rfl, by decide +kernel, by decide +kernel⟩
def w_ways : TWS :=
  (wSeq (wSetM false 2 (eC (.int 1)))
  (wSeq (wFor (iRange1 (aCons (oVar 1) aNil)) (gN 3) (wSetM false 2 (eBin sDiv (oE (eBin sMul (oVar 2) (oE (eBin sSub (oVar 0) (oVar 3))))) (oE (eBin sAdd (oVar 3) (oE (eC (.int 1))))))))
  (wRet (eVar 2))))
structure C_ways (P : Program) (w : World) (K : PySem.W.Frag) (mg : Str → Option Value) (base : Heap) : Prop where
  mk ::

theorem b_ways {P : Program} {w : World} {K : PySem.W.Frag} {mg : Str → Option Value} {base : Heap} (M : Mb mg) (C : C_ways P w K mg base) (f : Addr) (cdv : Value) (A : Around) (outer : List Env) (s : Shared) (H : Hp) (E : XK) (hr : Room 0 (A.deeper (envOfC "ways" (defScope st_ways) s.heap.objs.size f cdv))) :
    RSs (cxOf L2.CX0 P w K mg base nm_ways "ways" (defScope st_ways) f cdv A outer s H E).nox (defBody st_ways) (w_ways) :=
  (rss_cons (sSet false 2 re_int sc_ways.nd)
    (rss_cons (rs_for PassesOwn.never rfl (ri_range1 (by rfl) M.m_range (ra_cons (rV 1) ra_nil)) (gV 3 sc_ways.nd) (rss_one (sSet false 2 (re_bin ow_div (ro_of (re_bin ow_mul (rV 2) (ro_of (re_bin ow_sub (rV 0) (rV 3))))) (ro_of (re_bin ow_add (rV 3) (ro_of re_int)))) sc_ways.nd)))
    (rss_one (rs_ret (eV 2)))))
theorem ok_ways {P : Program} {w : World} {K : PySem.W.Frag} {mg : Str → Option Value} {base : Heap} (M : Mb mg) (C : C_ways P w K mg base) (D : DefAt K mg "ways" st_ways ["n", "k"]) {sp : SC}
    (h : ∀ (ws : List W) (Q : W → Bool → Prop), ws.length = 2 → sp ws Q → w_ways { nx := fun _ => Q .non false, rt := Q } (nv0 ws 2) ) : Cal P w K mg base (1) "ways" ["n", "k"] sp :=
  cal_mk D sc_ways (fun f cdv A outer s H E hr => b_ways M C f cdv A outer s H E hr) fun ws Q hl q => by
    have z := h ws Q hl q
    have e : nm_ways.length - ws.length = 2 := by rw [hl]; rfl
    rw [e]; exact z
abbrev st_bernoulli : Stmt := topS 8
abbrev nm_bernoulli : List Str := ["most", "told", "n", "p", "q", "k", "a", "b"]
theorem sc_bernoulli : FnScope nm_bernoulli ["most"] (defScope st_bernoulli) := ⟨rfl, rfl, rfl, by decide +kernel, rfl, by decide +kernel, by decide +kernel⟩
def w_bernoulli : TWS :=
  (wSeq (wSetM true 1 (eLst (aCons (oE (eTup (aCons (oE (eC (.int 1))) (aCons (oE (eC (.int 1))) aNil)))) aNil)))
  (wSeq (wFor (iRange2 (aCons (oE (eC (.int 1))) (aCons (oE (eBin sAdd (oVar 0) (oE (eC (.int 1))))) aNil))) (gN 2) (wSeq (wAsg (eTup (aCons (oE (eC (.int 0))) (aCons (oE (eC (.int 1))) aNil))) (gT 2 (gsCons (gN 3) (gsCons (gN 4) gsNil))))
  (wSeq (wLock 1 (wFor (iEnV 1) (gT 2 (gsCons (gN 5) (gsCons (gT 2 (gsCons (gN 6) (gsCons (gN 7) gsNil))) gsNil))) (wAsg (eFn 2 sp_lowest (aCons (oE (eBin sAdd (oE (eBin sMul (oVar 3) (oVar 7))) (oE (eBin sMul (oE (eBin sMul (oE (eFn 2 sp_ways (aCons (oE (eBin sAdd (oVar 2) (oE (eC (.int 1))))) (aCons (oVar 5) aNil)))) (oVar 6))) (oVar 4))))) (aCons (oE (eBin sMul (oVar 4) (oVar 7))) aNil))) (gT 2 (gsCons (gN 3) (gsCons (gN 4) gsNil))))))
  (wAppend 1 (oE (eFn 2 sp_lowest (aCons (oE (eNeg (oVar 3))) (aCons (oE (eBin sMul (oVar 4) (oE (eBin sAdd (oVar 2) (oE (eC (.int 1))))))) aNil))))))))
  (wRetV 1)))
structure C_bernoulli (P : Program) (w : World) (K : PySem.W.Frag) (mg : Str → Option Value) (base : Heap) : Prop where
  mk ::
  c_lowest : Cal P w K mg base 1 "lowest" ["p", "q"] sp_lowest
  c_ways : Cal P w K mg base 1 "ways" ["n", "k"] sp_ways
theorem b_bernoulli {P : Program} {w : World} {K : PySem.W.Frag} {mg : Str → Option Value} {base : Heap} (M : Mb mg) (C : C_bernoulli P w K mg base) (f : Addr) (cdv : Value) (A : Around) (outer : List Env) (s : Shared) (H : Hp) (E : XK) (hr : Room 1 (A.deeper (envOfC "bernoulli" (defScope st_bernoulli) s.heap.objs.size f cdv))) :
    RSs (cxOf L2.CX0 P w K mg base nm_bernoulli "bernoulli" (defScope st_bernoulli) f cdv A outer s H E).nox (defBody st_bernoulli) (w_bernoulli) :=
  (rss_cons (sSet true 1 (re_lst (ra_cons (ro_of (re_tup (ra_cons (ro_of re_int) (ra_cons (ro_of re_int) ra_nil)))) ra_nil)) sc_bernoulli.nd)
    (rss_cons (rs_for PassesOwn.never rfl (ri_range2 (by rfl) M.m_range (ra_cons (ro_of re_int) (ra_cons (ro_of (re_bin ow_add (rV 0) (ro_of re_int))) ra_nil))) (gV 2 sc_bernoulli.nd) (rss_cons (rs_asg (re_tup (ra_cons (ro_of re_int) (ra_cons (ro_of re_int) ra_nil))) (rg_tup rfl (rgs_cons (gV 3 sc_bernoulli.nd) (rgs_cons (gV 4 sc_bernoulli.nd) rgs_nil))))
    (rss_cons (rs_lock 1 (rs_for PassesOwn.never rfl (ri_enumV 1 (by rfl) M.m_enumerate) (rg_tup rfl (rgs_cons (gV 5 sc_bernoulli.nd) (rgs_cons (rg_tup rfl (rgs_cons (gV 6 sc_bernoulli.nd) (rgs_cons (gV 7 sc_bernoulli.nd) rgs_nil))) rgs_nil))) (rss_one (rs_asg (eF C.c_lowest hr (ra_cons (ro_of (re_bin ow_add (ro_of (re_bin ow_mul (rV 3) (rV 7))) (ro_of (re_bin ow_mul (ro_of (re_bin ow_mul (ro_of (eF C.c_ways hr (ra_cons (ro_of (re_bin ow_add (rV 2) (ro_of re_int))) (ra_cons (rV 5) ra_nil)))) (rV 6))) (rV 4))))) (ra_cons (ro_of (re_bin ow_mul (rV 4) (rV 7))) ra_nil))) (rg_tup rfl (rgs_cons (gV 3 sc_bernoulli.nd) (rgs_cons (gV 4 sc_bernoulli.nd) rgs_nil)))))))
    (rss_one (rs_append 1 (ro_of (eF C.c_lowest hr (ra_cons (ro_of (re_neg (rV 3))) (ra_cons (ro_of (re_bin ow_mul (rV 4) (ro_of (re_bin ow_add (rV 2) (ro_of re_int))))) ra_nil)))))))))
    (rss_one (sRetV 1))))
theorem ok_bernoulli {P : Program} {w : World} {K : PySem.W.Frag} {mg : Str → Option Value} {base : Heap} (M : Mb mg) (C : C_bernoulli P w K mg base) (D : DefAt K mg "bernoulli" st_bernoulli ["most"]) {sp : SC}
    (h : ∀ (ws : List W) (Q : W → Bool → Prop), ws.length = 1 → sp ws Q → w_bernoulli { nx := fun _ => Q .non false, rt := Q } (nv0 ws 7) ) : Cal P w K mg base (2) "bernoulli" ["most"] sp :=
  cal_mk D sc_bernoulli (fun f cdv A outer s H E hr => b_bernoulli M C f cdv A outer s H E hr) fun ws Q hl q => by
    have z := h ws Q hl q
    have e : nm_bernoulli.length - ws.length = 7 := by rw [hl]; rfl
    rw [e]; exact z
abbrev st_divisors : Stmt := topS 9
abbrev nm_divisors : List Str := ["n", "told", "p", "k", "x", "j"]
theorem sc_divisors : FnScope nm_divisors ["n"] (defScope st_divisors) := ⟨rfl, rfl, rfl, by decide +kernel, rfl, by decide +kernel, by decide +kernel⟩
def w_divisors : TWS :=
  (wSeq (wSetM false 1 (eLst (aCons (oE (eC (.int 1))) aNil)))
  (wSeq (wFor (iE (eFn 1 sp_prime_powers (aCons (oVar 0) aNil))) (gT 2 (gsCons (gN 2) (gsCons (gN 3) gsNil))) (wSetM false 1 (eLc2 (iV 1) (gN 4) bYes (iRange1 (aCons (oE (eBin sAdd (oVar 3) (oE (eC (.int 1))))) aNil)) (gN 5) bYes (eBin sMul (oVar 4) (oE (eFn 2 sp_power (aCons (oVar 2) (aCons (oVar 5) aNil))))) [4, 5] [5])))
  (wRet (eVar 1))))
structure C_divisors (P : Program) (w : World) (K : PySem.W.Frag) (mg : Str → Option Value) (base : Heap) : Prop where
  mk ::
  c_power : Cal P w K mg base 1 "power" ["base", "n"] sp_power
  c_prime_powers : Cal P w K mg base 1 "prime_powers" ["n"] sp_prime_powers
theorem b_divisors {P : Program} {w : World} {K : PySem.W.Frag} {mg : Str → Option Value} {base : Heap} (M : Mb mg) (C : C_divisors P w K mg base) (f : Addr) (cdv : Value) (A : Around) (outer : List Env) (s : Shared) (H : Hp) (E : XK) (hr : Room 1 (A.deeper (envOfC "divisors" (defScope st_divisors) s.heap.objs.size f cdv))) :
    RSs (cxOf L2.CX0 P w K mg base nm_divisors "divisors" (defScope st_divisors) f cdv A outer s H E).nox (defBody st_divisors) (w_divisors) :=
  (rss_cons (sSet false 1 (re_lst (ra_cons (ro_of re_int) ra_nil)) sc_divisors.nd)
    (rss_cons (rs_for PassesOwn.never rfl (ri_of (eF C.c_prime_powers hr (ra_cons (rV 0) ra_nil))) (rg_tup rfl (rgs_cons (gV 2 sc_divisors.nd) (rgs_cons (gV 3 sc_divisors.nd) rgs_nil))) (rss_one (sSetLc2 false 1 [("x", 4), ("j", 5)] [5] sc_divisors.nd (iVr 1) (fun _ _ _ _ _ => (gV 4 sc_divisors.nd)) (gg_n 4) (fun _ _ _ _ _ => rts_nil) (fun _ _ _ _ _ => (ri_range1 (by rfl) M.m_range (ra_cons (ro_of (re_bin ow_add (rV 3) (ro_of re_int))) ra_nil))) (fun _ _ _ _ _ => (gV 5 sc_divisors.nd)) (fun _ _ _ _ _ => rts_nil) (fun _ _ _ _ _ => (re_bin ow_mul (rV 4) (ro_of (eF C.c_power hr (ra_cons (rV 2) (ra_cons (rV 5) ra_nil)))))) (blkOk_by (N := nm_divisors) (sc := (defScope st_divisors)) (by decide +kernel)) (by first | (intro l h; cases h; done) | (intro l h; cases h; decide)) (by decide) (by first | (intro l h; cases h; done) | (intro l h; cases h; decide)) (by decide) (by decide) (sw_true rfl rfl rfl (by decide +kernel)))))
    (rss_one (rs_ret (eV 1)))))
theorem ok_divisors {P : Program} {w : World} {K : PySem.W.Frag} {mg : Str → Option Value} {base : Heap} (M : Mb mg) (C : C_divisors P w K mg base) (D : DefAt K mg "divisors" st_divisors ["n"]) {sp : SC}
    (h : ∀ (ws : List W) (Q : W → Bool → Prop), ws.length = 1 → sp ws Q → w_divisors { nx := fun _ => Q .non false, rt := Q } (nv0 ws 5) ) : Cal P w K mg base (2) "divisors" ["n"] sp :=
  cal_mk D sc_divisors (fun f cdv A outer s H E hr => b_divisors M C f cdv A outer s H E hr) fun ws Q hl q => by
    have z := h ws Q hl q
    have e : nm_divisors.length - ws.length = 5 := by rw [hl]; rfl
    rw [e]; exact z
abbrev st_staudt_primes : Stmt := topS 10
abbrev nm_staudt_primes : List Str := ["n", "d"]
theorem sc_staudt_primes : FnScope nm_staudt_primes ["n"] (defScope st_staudt_primes) := ⟨rfl, rfl, rfl, by decide +kernel, rfl, by decide +kernel, by decide +kernel⟩
def w_staudt_primes : TWS :=
  (wRet (eCall cTuple (aCons (oE (eCall cSortedI (aCons (oE (eLc (iE (eFn 1 sp_divisors (aCons (oVar 0) aNil))) (gN 1) (bB (eBin sEq (oE (eFn 1 sp_prime_powers (aCons (oE (eBin sAdd (oVar 1) (oE (eC (.int 1))))) aNil))) (oE (eLst (aCons (oE (eTup (aCons (oE (eBin sAdd (oVar 1) (oE (eC (.int 1))))) (aCons (oE (eC (.int 1))) aNil)))) aNil))))) (eBin sAdd (oVar 1) (oE (eC (.int 1)))) [1])) aNil))) aNil)))
structure C_staudt_primes (P : Program) (w : World) (K : PySem.W.Frag) (mg : Str → Option Value) (base : Heap) : Prop where
  mk ::
  c_divisors : Cal P w K mg base 2 "divisors" ["n"] sp_divisors
  c_prime_powers : Cal P w K mg base 1 "prime_powers" ["n"] sp_prime_powers
theorem b_staudt_primes {P : Program} {w : World} {K : PySem.W.Frag} {mg : Str → Option Value} {base : Heap} (M : Mb mg) (C : C_staudt_primes P w K mg base) (f : Addr) (cdv : Value) (A : Around) (outer : List Env) (s : Shared) (H : Hp) (E : XK) (hr : Room 2 (A.deeper (envOfC "staudt_primes" (defScope st_staudt_primes) s.heap.objs.size f cdv))) :
    RSs (cxOf L2.CX0 P w K mg base nm_staudt_primes "staudt_primes" (defScope st_staudt_primes) f cdv A outer s H E).nox (defBody st_staudt_primes) (w_staudt_primes) :=
  (rss_one (rs_ret (re_t cw_tuple (by rfl) M.m_tuple (by decide +kernel) (ra_cons (ro_of (re_b cw_sortedI (by rfl) M.m_sorted (by decide +kernel) (ra_cons (ro_of (eLcr [("d", 1)] sc_staudt_primes.nd (ri_of (eF C.c_divisors hr (ra_cons (rV 0) ra_nil))) (fun _ _ _ _ _ => (gV 1 sc_staudt_primes.nd)) (fun _ _ _ _ _ => (rts_one (rt_cmp (ow_eq hr.units) (ro_of (eF C.c_prime_powers hr (ra_cons (ro_of (re_bin ow_add (rV 1) (ro_of re_int))) ra_nil))) (ro_of (re_lst (ra_cons (ro_of (re_tup (ra_cons (ro_of (re_bin ow_add (rV 1) (ro_of re_int))) (ra_cons (ro_of re_int) ra_nil)))) ra_nil))) (nomark _)))) (fun _ _ _ _ _ => (re_bin ow_add (rV 1) (ro_of re_int))) (blkOk_by (N := nm_staudt_primes) (sc := (defScope st_staudt_primes)) (by decide +kernel)) (by first | (intro l h; cases h; done) | (intro l h; cases h; decide)) (by decide))) ra_nil))) ra_nil))))
theorem ok_staudt_primes {P : Program} {w : World} {K : PySem.W.Frag} {mg : Str → Option Value} {base : Heap} (M : Mb mg) (C : C_staudt_primes P w K mg base) (D : DefAt K mg "staudt_primes" st_staudt_primes ["n"]) {sp : SC}
    (h : ∀ (ws : List W) (Q : W → Bool → Prop), ws.length = 1 → sp ws Q → w_staudt_primes { nx := fun _ => Q .non false, rt := Q } (nv0 ws 1) ) : Cal P w K mg base (3) "staudt_primes" ["n"] sp :=
  cal_mk D sc_staudt_primes (fun f cdv A outer s H E hr => b_staudt_primes M C f cdv A outer s H E hr) fun ws Q hl q => by
    have z := h ws Q hl q
    have e : nm_staudt_primes.length - ws.length = 1 := by rw [hl]; rfl
    rw [e]; exact z
abbrev st_power_row : Stmt := topS 11
abbrev nm_power_row : List Str := ["k", "numbers", "told", "j", "p", "q"]
theorem sc_power_row : FnScope nm_power_row ["k"] (defScope st_power_row) := ⟨rfl, rfl, rfl, by decide +kernel, rfl, by decide +kernel, by decide +kernel⟩
def w_power_row : TWS :=
  (wSeq (wSetM false 1 (eFn 1 sp_bernoulli (aCons (oVar 0) aNil)))
  (wSeq (wSetM true 2 (eBin sMul (oE (eLst (aCons (oE (eTup (aCons (oE (eC (.int 0))) (aCons (oE (eC (.int 1))) aNil)))) aNil))) (oE (eBin sAdd (oVar 0) (oE (eC (.int 2)))))))
  (wSeq (wFor (iRange1 (aCons (oE (eBin sAdd (oVar 0) (oE (eC (.int 1))))) aNil)) (gN 3) (wSeq (wAsg (eIf (bB (eBin sEq (oVar 3) (oE (eC (.int 1))))) (eTup (aCons (oE (eC (.int 1))) (aCons (oE (eC (.int 2))) aNil))) (eBin sIx (oVar 1) (oVar 3))) (gT 2 (gsCons (gN 4) (gsCons (gN 5) gsNil))))
  (wStore 2 (oE (eFn 2 sp_lowest (aCons (oE (eBin sMul (oE (eFn 2 sp_ways (aCons (oE (eBin sAdd (oVar 0) (oE (eC (.int 1))))) (aCons (oVar 3) aNil)))) (oVar 4))) (aCons (oE (eBin sMul (oVar 5) (oE (eBin sAdd (oVar 0) (oE (eC (.int 1))))))) aNil)))) (oE (eBin sSub (oE (eBin sAdd (oVar 0) (oE (eC (.int 1))))) (oVar 3))))))
  (wRet (eCall cTuple (aCons (oVar 2) aNil))))))
structure C_power_row (P : Program) (w : World) (K : PySem.W.Frag) (mg : Str → Option Value) (base : Heap) : Prop where
  mk ::
  c_bernoulli : Cal P w K mg base 2 "bernoulli" ["most"] sp_bernoulli
  c_lowest : Cal P w K mg base 1 "lowest" ["p", "q"] sp_lowest
  c_ways : Cal P w K mg base 1 "ways" ["n", "k"] sp_ways
theorem b_power_row {P : Program} {w : World} {K : PySem.W.Frag} {mg : Str → Option Value} {base : Heap} (M : Mb mg) (C : C_power_row P w K mg base) (f : Addr) (cdv : Value) (A : Around) (outer : List Env) (s : Shared) (H : Hp) (E : XK) (hr : Room 2 (A.deeper (envOfC "power_row" (defScope st_power_row) s.heap.objs.size f cdv))) :
    RSs (cxOf L2.CX0 P w K mg base nm_power_row "power_row" (defScope st_power_row) f cdv A outer s H E).nox (defBody st_power_row) (w_power_row) :=
  (rss_cons (sSet false 1 (eF C.c_bernoulli hr (ra_cons (rV 0) ra_nil)) sc_power_row.nd)
    (rss_cons (sSet true 2 (re_bin ow_mul (ro_of (re_lst (ra_cons (ro_of (re_tup (ra_cons (ro_of re_int) (ra_cons (ro_of re_int) ra_nil)))) ra_nil))) (ro_of (re_bin ow_add (rV 0) (ro_of re_int)))) sc_power_row.nd)
    (rss_cons (rs_for PassesOwn.never rfl (ri_range1 (by rfl) M.m_range (ra_cons (ro_of (re_bin ow_add (rV 0) (ro_of re_int))) ra_nil)) (gV 3 sc_power_row.nd) (rss_cons (rs_asg (re_if (rt_cmp (ow_eq hr.units) (rV 3) (ro_of re_int) (nomark _)) (re_tup (ra_cons (ro_of re_int) (ra_cons (ro_of re_int) ra_nil))) (re_ix (rV 1) (rV 3) (fun _ _ => rfl))) (rg_tup rfl (rgs_cons (gV 4 sc_power_row.nd) (rgs_cons (gV 5 sc_power_row.nd) rgs_nil))))
    (rss_one (rs_store (i := 2) rfl (by first | exact .inl rfl | exact .inr (.inl rfl)) (ro_of (eF C.c_lowest hr (ra_cons (ro_of (re_bin ow_mul (ro_of (eF C.c_ways hr (ra_cons (ro_of (re_bin ow_add (rV 0) (ro_of re_int))) (ra_cons (rV 3) ra_nil)))) (rV 4))) (ra_cons (ro_of (re_bin ow_mul (rV 5) (ro_of (re_bin ow_add (rV 0) (ro_of re_int))))) ra_nil)))) (ro_of (re_bin ow_sub (ro_of (re_bin ow_add (rV 0) (ro_of re_int))) (rV 3)))))))
    (rss_one (rs_ret (re_t cw_tuple (by rfl) M.m_tuple (by decide +kernel) (ra_cons (rV 2) ra_nil)))))))
theorem ok_power_row {P : Program} {w : World} {K : PySem.W.Frag} {mg : Str → Option Value} {base : Heap} (M : Mb mg) (C : C_power_row P w K mg base) (D : DefAt K mg "power_row" st_power_row ["k"]) {sp : SC}
    (h : ∀ (ws : List W) (Q : W → Bool → Prop), ws.length = 1 → sp ws Q → w_power_row { nx := fun _ => Q .non false, rt := Q } (nv0 ws 5) ) : Cal P w K mg base (3) "power_row" ["k"] sp :=
  cal_mk D sc_power_row (fun f cdv A outer s H E hr => b_power_row M C f cdv A outer s H E hr) fun ws Q hl q => by
    have z := h ws Q hl q
    have e : nm_power_row.length - ws.length = 5 := by rw [hl]; rfl
    rw [e]; exact z
abbrev st_power_sum : Stmt := topS 12
abbrev nm_power_sum : List Str := ["k", "n", "p", "q", "a", "b"]
theorem sc_power_sum : FnScope nm_power_sum ["k", "n"] (defScope st_power_sum) := ⟨rfl, rfl, rfl, by decide +kernel, rfl, by decide +kernel, by decide +kernel⟩
def w_power_sum : TWS :=
  (wSeq (wAsg (eTup (aCons (oE (eC (.int 0))) (aCons (oE (eC (.int 1))) aNil))) (gT 2 (gsCons (gN 2) (gsCons (gN 3) gsNil))))
  (wSeq (wFor (iE (eRevB (oE (eFn 1 sp_power_row (aCons (oVar 0) aNil))))) (gT 2 (gsCons (gN 4) (gsCons (gN 5) gsNil))) (wAsg (eFn 2 sp_lowest (aCons (oE (eBin sAdd (oE (eBin sMul (oE (eBin sMul (oVar 2) (oVar 1))) (oVar 5))) (oE (eBin sMul (oVar 4) (oVar 3))))) (aCons (oE (eBin sMul (oVar 3) (oVar 5))) aNil))) (gT 2 (gsCons (gN 2) (gsCons (gN 3) gsNil)))))
  (wRet (eVar 2))))
structure C_power_sum (P : Program) (w : World) (K : PySem.W.Frag) (mg : Str → Option Value) (base : Heap) : Prop where
  mk ::
  c_lowest : Cal P w K mg base 1 "lowest" ["p", "q"] sp_lowest
  c_power_row : Cal P w K mg base 3 "power_row" ["k"] sp_power_row
theorem b_power_sum {P : Program} {w : World} {K : PySem.W.Frag} {mg : Str → Option Value} {base : Heap} (M : Mb mg) (C : C_power_sum P w K mg base) (f : Addr) (cdv : Value) (A : Around) (outer : List Env) (s : Shared) (H : Hp) (E : XK) (hr : Room 3 (A.deeper (envOfC "power_sum" (defScope st_power_sum) s.heap.objs.size f cdv))) :
    RSs (cxOf L2.CX0 P w K mg base nm_power_sum "power_sum" (defScope st_power_sum) f cdv A outer s H E).nox (defBody st_power_sum) (w_power_sum) :=
  (rss_cons (rs_asg (re_tup (ra_cons (ro_of re_int) (ra_cons (ro_of re_int) ra_nil))) (rg_tup rfl (rgs_cons (gV 2 sc_power_sum.nd) (rgs_cons (gV 3 sc_power_sum.nd) rgs_nil))))
    (rss_cons (rs_for PassesOwn.never rfl (ri_of (re_revB (ro_of (eF C.c_power_row hr (ra_cons (rV 0) ra_nil))))) (rg_tup rfl (rgs_cons (gV 4 sc_power_sum.nd) (rgs_cons (gV 5 sc_power_sum.nd) rgs_nil))) (rss_one (rs_asg (eF C.c_lowest hr (ra_cons (ro_of (re_bin ow_add (ro_of (re_bin ow_mul (ro_of (re_bin ow_mul (rV 2) (rV 1))) (rV 5))) (ro_of (re_bin ow_mul (rV 4) (rV 3))))) (ra_cons (ro_of (re_bin ow_mul (rV 3) (rV 5))) ra_nil))) (rg_tup rfl (rgs_cons (gV 2 sc_power_sum.nd) (rgs_cons (gV 3 sc_power_sum.nd) rgs_nil))))))
    (rss_one (rs_ret (eV 2)))))
theorem ok_power_sum {P : Program} {w : World} {K : PySem.W.Frag} {mg : Str → Option Value} {base : Heap} (M : Mb mg) (C : C_power_sum P w K mg base) (D : DefAt K mg "power_sum" st_power_sum ["k", "n"]) {sp : SC}
    (h : ∀ (ws : List W) (Q : W → Bool → Prop), ws.length = 2 → sp ws Q → w_power_sum { nx := fun _ => Q .non false, rt := Q } (nv0 ws 4) ) : Cal P w K mg base (4) "power_sum" ["k", "n"] sp :=
  cal_mk D sc_power_sum (fun f cdv A outer s H E hr => b_power_sum M C f cdv A outer s H E hr) fun ws Q hl q => by
    have z := h ws Q hl q
    have e : nm_power_sum.length - ws.length = 4 := by rw [hl]; rfl
    rw [e]; exact z
abbrev st_is_regular : Stmt := topS 13
abbrev nm_is_regular : List Str := ["p", "numbers", "n"]
theorem sc_is_regular : FnScope nm_is_regular ["p"] (defScope st_is_regular) := ⟨rfl, rfl, rfl, by decide +kernel, rfl, by decide +kernel, by decide +kernel⟩
def w_is_regular : TWS :=
  (wSeq (wSetM false 1 (eFn 1 sp_bernoulli (aCons (oE (eCall cMax2 (aCons (oE (eBin sSub (oVar 0) (oE (eC (.int 3))))) (aCons (oE (eC (.int 0))) aNil)))) aNil)))
  (wRet (eCall cAll (aCons (oE (eLc (iRangeC (aCons (oE (eC (.int 2))) (aCons (oE (eBin sSub (oVar 0) (oE (eC (.int 2))))) (aCons (oE (eC (.int 2))) aNil)))) (gN 2) bYes (eBin sNe (oE (eBin sMod (oE (eBin sIx (oE (eBin sIx (oVar 1) (oVar 2))) (oE (eC (.int 0))))) (oVar 0))) (oE (eC (.int 0)))) [2])) aNil))))
structure C_is_regular (P : Program) (w : World) (K : PySem.W.Frag) (mg : Str → Option Value) (base : Heap) : Prop where
  mk ::
  c_bernoulli : Cal P w K mg base 2 "bernoulli" ["most"] sp_bernoulli
theorem b_is_regular {P : Program} {w : World} {K : PySem.W.Frag} {mg : Str → Option Value} {base : Heap} (M : Mb mg) (C : C_is_regular P w K mg base) (f : Addr) (cdv : Value) (A : Around) (outer : List Env) (s : Shared) (H : Hp) (E : XK) (hr : Room 2 (A.deeper (envOfC "is_regular" (defScope st_is_regular) s.heap.objs.size f cdv))) :
    RSs (cxOf L2.CX0 P w K mg base nm_is_regular "is_regular" (defScope st_is_regular) f cdv A outer s H E).nox (defBody st_is_regular) (w_is_regular) :=
  (rss_cons (sSet false 1 (eF C.c_bernoulli hr (ra_cons (ro_of (re_b (cw_max2 rfl) (by rfl) M.m_max (by decide +kernel) (ra_cons (ro_of (re_bin ow_sub (rV 0) (ro_of re_int))) (ra_cons (ro_of re_int) ra_nil)))) ra_nil)) sc_is_regular.nd)
    (rss_one (rs_ret (re_b (cw_all rfl) (by rfl) M.m_all (by decide +kernel) (ra_cons (ro_of (eLcr [("n", 2)] sc_is_regular.nd (ri_rangeC (by rfl) M.m_range (ra_cons (ro_of re_int) (ra_cons (ro_of (re_bin ow_sub (rV 0) (ro_of re_int))) (ra_cons (ro_of re_int) ra_nil)))) (fun _ _ _ _ _ => (gV 2 sc_is_regular.nd)) (fun _ _ _ _ _ => rts_nil) (fun _ _ _ _ _ => (re_cmp (ow_ne hr.units) (ro_of (re_bin ow_mod (ro_of (re_ix (ro_of (re_ix (rV 1) (rV 2) (fun _ _ => rfl))) (ro_of re_int) (fun _ _ => rfl))) (rV 0))) (ro_of re_int) (nomark _))) (blkOk_by (N := nm_is_regular) (sc := (defScope st_is_regular)) (by decide +kernel)) (by first | (intro l h; cases h; done) | (intro l h; cases h; decide)) (by decide))) ra_nil)))))
theorem ok_is_regular {P : Program} {w : World} {K : PySem.W.Frag} {mg : Str → Option Value} {base : Heap} (M : Mb mg) (C : C_is_regular P w K mg base) (D : DefAt K mg "is_regular" st_is_regular ["p"]) {sp : SC}
    (h : ∀ (ws : List W) (Q : W → Bool → Prop), ws.length = 1 → sp ws Q → w_is_regular { nx := fun _ => Q .non false, rt := Q } (nv0 ws 2) ) : Cal P w K mg base (3) "is_regular" ["p"] sp :=
  cal_mk D sc_is_regular (fun f cdv A outer s H E hr => b_is_regular M C f cdv A outer s H E hr) fun ws Q hl q => by
    have z := h ws Q hl q
    have e : nm_is_regular.length - ws.length = 2 := by rw [hl]; rfl
    rw [e]; exact z
abbrev st_l_law_state : Stmt := topS 15
abbrev nm_l_law_state : List Str := ["script", "seed", "cell"]
theorem sc_l_law_state : FnScope nm_l_law_state ["script"] (defScope st_l_law_state) := ⟨rfl, rfl, rfl, by decide +kernel, rfl, by decide +kernel, by decide +kernel⟩
def w_l_law_state : TWS :=
  (wSeq (wSetM false 1 (eC (.int 7)))
  (wSeq (wFor (iS 0) (gN 2) (wSetM false 1 (eBin sMod (oE (eCall cInt (aCons (oE (eBin sAdd (oE (eBin sMul (oVar 1) (oE (eC (.int 31))))) (oVar 2))) aNil))) (oE (eC (.int 1000003))))))
  (wRet (eTokS 1 (eLc (iS 0) (gN 2) bYes (eCall cAbs (aCons (oVar 2) aNil)) [2])))))
structure C_l_law_state (P : Program) (w : World) (K : PySem.W.Frag) (mg : Str → Option Value) (base : Heap) : Prop where
  mk ::

theorem b_l_law_state {P : Program} {w : World} {K : PySem.W.Frag} {mg : Str → Option Value} {base : Heap} (M : Mb mg) (C : C_l_law_state P w K mg base) (f : Addr) (cdv : Value) (A : Around) (outer : List Env) (s : Shared) (H : Hp) (E : XK) (hr : Room 0 (A.deeper (envOfC "_law_state" (defScope st_l_law_state) s.heap.objs.size f cdv))) :
    RSs (cxOf L2.CX0 P w K mg base nm_l_law_state "_law_state" (defScope st_l_law_state) f cdv A outer s H E).nox (defBody st_l_law_state) (w_l_law_state) :=
  (rss_cons (sSet false 1 re_int sc_l_law_state.nd)
    (rss_cons (rs_for PassesOwn.never rfl (iScr 0) (gV 2 sc_l_law_state.nd) (rss_one (sSet false 1 (re_bin ow_mod (ro_of (re_t cw_int (by rfl) M.m_int (by decide +kernel) (ra_cons (ro_of (re_bin ow_add (ro_of (re_bin ow_mul (rV 1) (ro_of re_int))) (rV 2))) ra_nil))) (ro_of re_int)) sc_l_law_state.nd)))
    (rss_one (rs_ret (re_tokS (i := 1) (eLcr [("cell", 2)] sc_l_law_state.nd (iScr 0) (fun _ _ _ _ _ => (gV 2 sc_l_law_state.nd)) (fun _ _ _ _ _ => rts_nil) (fun _ _ _ _ _ => (re_b cw_abs (by rfl) M.m_abs (by decide +kernel) (ra_cons (rV 2) ra_nil))) (blkOk_by (N := nm_l_law_state) (sc := (defScope st_l_law_state)) (by decide +kernel)) (by first | (intro l h; cases h; done) | (intro l h; cases h; decide)) (by decide)))))))
theorem ok_l_law_state {P : Program} {w : World} {K : PySem.W.Frag} {mg : Str → Option Value} {base : Heap} (M : Mb mg) (C : C_l_law_state P w K mg base) (D : DefAt K mg "_law_state" st_l_law_state ["script"]) {sp : SC}
    (h : ∀ (ws : List W) (Q : W → Bool → Prop), ws.length = 1 → sp ws Q → w_l_law_state { nx := fun _ => Q .non false, rt := Q } (nv0 ws 2) ) : Cal P w K mg base (1) "_law_state" ["script"] sp :=
  cal_mk D sc_l_law_state (fun f cdv A outer s H E hr => b_l_law_state M C f cdv A outer s H E hr) fun ws Q hl q => by
    have z := h ws Q hl q
    have e : nm_l_law_state.length - ws.length = 2 := by rw [hl]; rfl
    rw [e]; exact z
abbrev st_l_law_draw : Stmt := topS 16
abbrev nm_l_law_draw : List Str := ["state", "many", "cells", "value", "mixed"]
theorem sc_l_law_draw : FnScope nm_l_law_draw ["state", "many"] (defScope st_l_law_draw) := ⟨rfl, rfl, rfl, by decide +kernel, rfl, by decide +kernel, by decide +kernel⟩
abbrev st_l_law_pick : Stmt := topS 17
abbrev nm_l_law_pick : List Str := ["state", "row"]
theorem sc_l_law_pick : FnScope nm_l_law_pick ["state", "row"] (defScope st_l_law_pick) := ⟨rfl, rfl, rfl, by decide +kernel, rfl, by decide +kernel, by decide +kernel⟩
def w_l_law_pick : TWS :=
  (wRet (eBin sIx (oVar 1) (oE (eFn 2 sp_l_law_draw (aCons (oVar 0) (aCons (oE (eCall cLen (aCons (oVar 1) aNil))) aNil))))))
structure C_l_law_pick (P : Program) (w : World) (K : PySem.W.Frag) (mg : Str → Option Value) (base : Heap) : Prop where
  mk ::
  c__law_draw : Cal P w K mg base 1 "_law_draw" ["state", "many"] sp_l_law_draw
theorem b_l_law_pick {P : Program} {w : World} {K : PySem.W.Frag} {mg : Str → Option Value} {base : Heap} (M : Mb mg) (C : C_l_law_pick P w K mg base) (f : Addr) (cdv : Value) (A : Around) (outer : List Env) (s : Shared) (H : Hp) (E : XK) (hr : Room 1 (A.deeper (envOfC "_law_pick" (defScope st_l_law_pick) s.heap.objs.size f cdv))) :
    RSs (cxOf L2.CX0 P w K mg base nm_l_law_pick "_law_pick" (defScope st_l_law_pick) f cdv A outer s H E).nox (defBody st_l_law_pick) (w_l_law_pick) :=
  (rss_one (rs_ret (re_ix (rV 1) (ro_of (eF C.c__law_draw hr (ra_cons (rV 0) (ra_cons (ro_of (re_b cw_len (by rfl) M.m_len (by decide +kernel) (ra_cons (rV 1) ra_nil))) ra_nil)))) (fun _ _ => rfl))))
theorem ok_l_law_pick {P : Program} {w : World} {K : PySem.W.Frag} {mg : Str → Option Value} {base : Heap} (M : Mb mg) (C : C_l_law_pick P w K mg base) (D : DefAt K mg "_law_pick" st_l_law_pick ["state", "row"]) {sp : SC}
    (h : ∀ (ws : List W) (Q : W → Bool → Prop), ws.length = 2 → sp ws Q → w_l_law_pick { nx := fun _ => Q .non false, rt := Q } (nv0 ws 0) ) : Cal P w K mg base (2) "_law_pick" ["state", "row"] sp :=
  cal_mk D sc_l_law_pick (fun f cdv A outer s H E hr => b_l_law_pick M C f cdv A outer s H E hr) fun ws Q hl q => by
    have z := h ws Q hl q
    have e : nm_l_law_pick.length - ws.length = 0 := by rw [hl]; rfl
    rw [e]; exact z
abbrev st_l_law_eq : Stmt := topS 18
abbrev nm_l_law_eq : List Str := ["told", "due", "k"]
theorem sc_l_law_eq : FnScope nm_l_law_eq ["told", "due"] (defScope st_l_law_eq) := ⟨rfl, rfl, rfl, by decide +kernel, rfl, by decide +kernel, by decide +kernel⟩
def w_l_law_eq (spS : SC) : TWS :=
  (wSeq (wIf (bOr (bT (oE (eIsi .listT (oVar 1)))) (bT (oE (eIsi .tupleT (oVar 1))))) (wSeq (wIf (bOr (bB (eBin sNe (oE (eIsi .listT (oVar 0))) (oE (eIsi .listT (oVar 1))))) (bB (eBin sNe (oE (eIsi .tupleT (oVar 0))) (oE (eIsi .tupleT (oVar 1)))))) (wRet (eC (.bl false))) wNext)
  (wSeq (wIf (bB (eBin sNe (oE (eCall cLen (aCons (oVar 0) aNil))) (oE (eCall cLen (aCons (oVar 1) aNil))))) (wRet (eC (.bl false))) wNext)
  (wRet (eBin sEq (oE (eLc (iRange1 (aCons (oE (eCall cLen (aCons (oVar 1) aNil))) aNil)) (gN 2) (bNot (bT (oE (eFn 2 spS (aCons (oE (eBin sIx (oVar 0) (oVar 2))) (aCons (oE (eBin sIx (oVar 1) (oVar 2))) aNil)))))) (eVar 2) [2])) (oE (eLst aNil)))))) wNext)
  (wSeq (wIf (bB (eIs (oVar 1))) (wRet (eIs (oVar 0))) wNext)
  (wSeq (wIf (bT (oE (eIsi .strT (oVar 1)))) (wRet (eAnd (eIsi .strT (oVar 0)) (eBin sEq (oVar 0) (oVar 1)))) wNext)
  (wSeq (wIf (bT (oE (eIsi .boolT (oVar 1)))) (wRet (eAnd (eIsi .boolT (oVar 0)) (eBin sEq (oVar 0) (oVar 1)))) wNext)
  (wRet (eAnd (eIsi .intT (oVar 0)) (eAnd (eNot (oE (eIsi .boolT (oVar 0)))) (eBin sEq (oVar 0) (oVar 1)))))))))
structure C_l_law_eq (P : Program) (w : World) (K : PySem.W.Frag) (mg : Str → Option Value) (base : Heap) (lv : Nat) (spS : SC) : Prop where
  mk ::
  c__law_eq : Cal P w K mg base lv "_law_eq" ["told", "due"] spS
theorem b_l_law_eq {P : Program} {w : World} {K : PySem.W.Frag} {mg : Str → Option Value} {base : Heap} {lv : Nat} {spS : SC} (hlv : 0 ≤ lv) (M : Mb mg) (C : C_l_law_eq P w K mg base lv spS) (f : Addr) (cdv : Value) (A : Around) (outer : List Env) (s : Shared) (H : Hp) (E : XK) (hr : Room lv (A.deeper (envOfC "_law_eq" (defScope st_l_law_eq) s.heap.objs.size f cdv))) :
    RSs (cxOf L2.CX0 P w K mg base nm_l_law_eq "_law_eq" (defScope st_l_law_eq) f cdv A outer s H E).nox (defBody st_l_law_eq) (w_l_law_eq spS) :=
  (rss_cons (rs_if (rt_of (rw_or (rt_tru (ro_of (re_isi .listT (by rfl) M.m_isinstance (by rfl) M.m_list (rV 1)))) (rw_or1 (rt_tru (ro_of (re_isi .tupleT (by rfl) M.m_isinstance (by rfl) M.m_tuple (rV 1))))))) (rss_cons (rs_if (rt_of (rw_or (rt_cmp (ow_ne hr.units) (ro_of (re_isi .listT (by rfl) M.m_isinstance (by rfl) M.m_list (rV 0))) (ro_of (re_isi .listT (by rfl) M.m_isinstance (by rfl) M.m_list (rV 1))) (nomark _)) (rw_or1 (rt_cmp (ow_ne hr.units) (ro_of (re_isi .tupleT (by rfl) M.m_isinstance (by rfl) M.m_tuple (rV 0))) (ro_of (re_isi .tupleT (by rfl) M.m_isinstance (by rfl) M.m_tuple (rV 1))) (nomark _))))) (rss_one (rs_ret re_bl)) rss_nil)
    (rss_cons (rs_if (rt_cmp (ow_ne hr.units) (ro_of (re_b cw_len (by rfl) M.m_len (by decide +kernel) (ra_cons (rV 0) ra_nil))) (ro_of (re_b cw_len (by rfl) M.m_len (by decide +kernel) (ra_cons (rV 1) ra_nil))) (nomark _)) (rss_one (rs_ret re_bl)) rss_nil)
    (rss_one (rs_ret (re_cmp (ow_eq hr.units) (ro_of (eLcr [("k", 2)] sc_l_law_eq.nd (ri_range1 (by rfl) M.m_range (ra_cons (ro_of (re_b cw_len (by rfl) M.m_len (by decide +kernel) (ra_cons (rV 1) ra_nil))) ra_nil)) (fun _ _ _ _ _ => (gV 2 sc_l_law_eq.nd)) (fun _ _ _ _ _ => (rts_one (rt_not (rt_tru (ro_of (eF C.c__law_eq hr (ra_cons (ro_of (re_ix (rV 0) (rV 2) (fun _ _ => rfl))) (ra_cons (ro_of (re_ix (rV 1) (rV 2) (fun _ _ => rfl))) ra_nil)) (hk := Nat.le_refl _))))))) (fun _ _ _ _ _ => (eV 2)) (blkOk_by (N := nm_l_law_eq) (sc := (defScope st_l_law_eq)) (by decide +kernel)) (by first | (intro l h; cases h; done) | (intro l h; cases h; decide)) (by decide))) (ro_of (re_lst ra_nil)) (nomark _)))))) rss_nil)
    (rss_cons (rs_if (rt_is (rV 1)) (rss_one (rs_ret (re_is (rV 0)))) rss_nil)
    (rss_cons (rs_if (rt_tru (ro_of (re_isi .strT (by rfl) M.m_isinstance (by rfl) M.m_str (rV 1)))) (rss_one (rs_ret (re_and (re_isi .strT (by rfl) M.m_isinstance (by rfl) M.m_str (rV 0)) (re_one (re_cmp (ow_eq hr.units) (rV 0) (rV 1) (nomark _)))))) rss_nil)
    (rss_cons (rs_if (rt_tru (ro_of (re_isi .boolT (by rfl) M.m_isinstance (by rfl) M.m_bool (rV 1)))) (rss_one (rs_ret (re_and (re_isi .boolT (by rfl) M.m_isinstance (by rfl) M.m_bool (rV 0)) (re_one (re_cmp (ow_eq hr.units) (rV 0) (rV 1) (nomark _)))))) rss_nil)
    (rss_one (rs_ret (re_and (re_isi .intT (by rfl) M.m_isinstance (by rfl) M.m_int (rV 0)) (re_and (re_not (ro_of (re_isi .boolT (by rfl) M.m_isinstance (by rfl) M.m_bool (rV 0)))) (re_one (re_cmp (ow_eq hr.units) (rV 0) (rV 1) (nomark _)))))))))))
theorem ok_l_law_eq {P : Program} {w : World} {K : PySem.W.Frag} {mg : Str → Option Value} {base : Heap} {lv : Nat} {spS : SC} (hlv : 0 ≤ lv) (M : Mb mg) (C : C_l_law_eq P w K mg base lv spS) (D : DefAt K mg "_law_eq" st_l_law_eq ["told", "due"]) {sp : SC}
    (h : ∀ (ws : List W) (Q : W → Bool → Prop), ws.length = 2 → sp ws Q → w_l_law_eq spS { nx := fun _ => Q .non false, rt := Q } (nv0 ws 1) ) : Cal P w K mg base (lv + 1) "_law_eq" ["told", "due"] sp :=
  cal_mk D sc_l_law_eq (fun f cdv A outer s H E hr => b_l_law_eq hlv M C f cdv A outer s H E hr) fun ws Q hl q => by
    have z := h ws Q hl q
    have e : nm_l_law_eq.length - ws.length = 1 := by rw [hl]; rfl
    rw [e]; exact z
abbrev st_l_law_frac : Stmt := topS 19
abbrev nm_l_law_frac : List Str := ["p", "q", "a", "b"]
theorem sc_l_law_frac : FnScope nm_l_law_frac ["p", "q"] (defScope st_l_law_frac) := ⟨rfl, rfl, rfl, by decide +kernel, rfl, by decide +kernel, by decide +kernel⟩
def w_l_law_frac : TWS :=
  (wSeq (wParM false false 2 3 (eCall cAbs (aCons (oVar 0) aNil)) (eCall cAbs (aCons (oVar 1) aNil)))
  (wSeq (wWhile (bB (eBin sGt (oVar 3) (oE (eC (.int 0))))) (wParM false false 2 3 (eVar 3) (eBin sMod (oE (eCall cInt (aCons (oVar 2) aNil))) (oVar 3))))
  (wRet (eIf (bB (eBin sGt (oVar 1) (oE (eC (.int 0))))) (eTup (aCons (oE (eBin sDivW (oVar 0) (oVar 2))) (aCons (oE (eBin sDivW (oVar 1) (oVar 2))) aNil))) (eTup (aCons (oE (eBin sDivW (oE (eNeg (oVar 0))) (oVar 2))) (aCons (oE (eBin sDivW (oE (eNeg (oVar 1))) (oVar 2))) aNil)))))))
structure C_l_law_frac (P : Program) (w : World) (K : PySem.W.Frag) (mg : Str → Option Value) (base : Heap) : Prop where
  mk ::

theorem b_l_law_frac {P : Program} {w : World} {K : PySem.W.Frag} {mg : Str → Option Value} {base : Heap} (M : Mb mg) (C : C_l_law_frac P w K mg base) (f : Addr) (cdv : Value) (A : Around) (outer : List Env) (s : Shared) (H : Hp) (E : XK) (hr : Room 0 (A.deeper (envOfC "_law_frac" (defScope st_l_law_frac) s.heap.objs.size f cdv))) :
    RSs (cxOf L2.CX0 P w K mg base nm_l_law_frac "_law_frac" (defScope st_l_law_frac) f cdv A outer s H E).nox (defBody st_l_law_frac) (w_l_law_frac) :=
  (rss_cons (sPar false false 2 3 (re_b cw_abs (by rfl) M.m_abs (by decide +kernel) (ra_cons (rV 0) ra_nil)) (re_b cw_abs (by rfl) M.m_abs (by decide +kernel) (ra_cons (rV 1) ra_nil)) sc_l_law_frac.nd (by decide) (by rfl))
    (rss_cons (rs_while PassesOwn.never (rt_cmp ow_gt (rV 3) (ro_of re_int) (nomark _)) (rss_one (sPar false false 2 3 (eV 3) (re_bin ow_mod (ro_of (re_t cw_int (by rfl) M.m_int (by decide +kernel) (ra_cons (rV 2) ra_nil))) (rV 3)) sc_l_law_frac.nd (by decide) (by rfl))))
    (rss_one (rs_ret (re_if (rt_cmp ow_gt (rV 1) (ro_of re_int) (nomark _)) (re_tup (ra_cons (ro_of (re_bin ow_divW (rV 0) (rV 2))) (ra_cons (ro_of (re_bin ow_divW (rV 1) (rV 2))) ra_nil))) (re_tup (ra_cons (ro_of (re_bin ow_divW (ro_of (re_neg (rV 0))) (rV 2))) (ra_cons (ro_of (re_bin ow_divW (ro_of (re_neg (rV 1))) (rV 2))) ra_nil))))))))
theorem ok_l_law_frac {P : Program} {w : World} {K : PySem.W.Frag} {mg : Str → Option Value} {base : Heap} (M : Mb mg) (C : C_l_law_frac P w K mg base) (D : DefAt K mg "_law_frac" st_l_law_frac ["p", "q"]) {sp : SC}
    (h : ∀ (ws : List W) (Q : W → Bool → Prop), ws.length = 2 → sp ws Q → w_l_law_frac { nx := fun _ => Q .non false, rt := Q } (nv0 ws 2) ) : Cal P w K mg base (1) "_law_frac" ["p", "q"] sp :=
  cal_mk D sc_l_law_frac (fun f cdv A outer s H E hr => b_l_law_frac M C f cdv A outer s H E hr) fun ws Q hl q => by
    have z := h ws Q hl q
    have e : nm_l_law_frac.length - ws.length = 2 := by rw [hl]; rfl
    rw [e]; exact z
abbrev st_l_law_add : Stmt := topS 20
abbrev nm_l_law_add : List Str := ["one", "other"]
theorem sc_l_law_add : FnScope nm_l_law_add ["one", "other"] (defScope st_l_law_add) := ⟨rfl, rfl, rfl, by decide +kernel, rfl, by decide +kernel, by decide +kernel⟩
def w_l_law_add : TWS :=
  (wRet (eFn 2 sp_l_law_frac (aCons (oE (eBin sAdd (oE (eBin sMul (oE (eBin sIx (oVar 0) (oE (eC (.int 0))))) (oE (eBin sIx (oVar 1) (oE (eC (.int 1))))))) (oE (eBin sMul (oE (eBin sIx (oVar 1) (oE (eC (.int 0))))) (oE (eBin sIx (oVar 0) (oE (eC (.int 1))))))))) (aCons (oE (eBin sMul (oE (eBin sIx (oVar 0) (oE (eC (.int 1))))) (oE (eBin sIx (oVar 1) (oE (eC (.int 1))))))) aNil))))
structure C_l_law_add (P : Program) (w : World) (K : PySem.W.Frag) (mg : Str → Option Value) (base : Heap) : Prop where
  mk ::
  c__law_frac : Cal P w K mg base 1 "_law_frac" ["p", "q"] sp_l_law_frac
theorem b_l_law_add {P : Program} {w : World} {K : PySem.W.Frag} {mg : Str → Option Value} {base : Heap} (M : Mb mg) (C : C_l_law_add P w K mg base) (f : Addr) (cdv : Value) (A : Around) (outer : List Env) (s : Shared) (H : Hp) (E : XK) (hr : Room 1 (A.deeper (envOfC "_law_add" (defScope st_l_law_add) s.heap.objs.size f cdv))) :
    RSs (cxOf L2.CX0 P w K mg base nm_l_law_add "_law_add" (defScope st_l_law_add) f cdv A outer s H E).nox (defBody st_l_law_add) (w_l_law_add) :=
  (rss_one (rs_ret (eF C.c__law_frac hr (ra_cons (ro_of (re_bin ow_add (ro_of (re_bin ow_mul (ro_of (re_ix (rV 0) (ro_of re_int) (fun _ _ => rfl))) (ro_of (re_ix (rV 1) (ro_of re_int) (fun _ _ => rfl))))) (ro_of (re_bin ow_mul (ro_of (re_ix (rV 1) (ro_of re_int) (fun _ _ => rfl))) (ro_of (re_ix (rV 0) (ro_of re_int) (fun _ _ => rfl))))))) (ra_cons (ro_of (re_bin ow_mul (ro_of (re_ix (rV 0) (ro_of re_int) (fun _ _ => rfl))) (ro_of (re_ix (rV 1) (ro_of re_int) (fun _ _ => rfl))))) ra_nil)))))
theorem ok_l_law_add {P : Program} {w : World} {K : PySem.W.Frag} {mg : Str → Option Value} {base : Heap} (M : Mb mg) (C : C_l_law_add P w K mg base) (D : DefAt K mg "_law_add" st_l_law_add ["one", "other"]) {sp : SC}
    (h : ∀ (ws : List W) (Q : W → Bool → Prop), ws.length = 2 → sp ws Q → w_l_law_add { nx := fun _ => Q .non false, rt := Q } (nv0 ws 0) ) : Cal P w K mg base (2) "_law_add" ["one", "other"] sp :=
  cal_mk D sc_l_law_add (fun f cdv A outer s H E hr => b_l_law_add M C f cdv A outer s H E hr) fun ws Q hl q => by
    have z := h ws Q hl q
    have e : nm_l_law_add.length - ws.length = 0 := by rw [hl]; rfl
    rw [e]; exact z
abbrev st_l_law_powers : Stmt := topS 21
abbrev nm_l_law_powers : List Str := ["n", "told", "p", "k"]
theorem sc_l_law_powers : FnScope nm_l_law_powers ["n"] (defScope st_l_law_powers) := ⟨rfl, rfl, rfl, by decide +kernel, rfl, by decide +kernel, by decide +kernel⟩
def w_l_law_powers : TWS :=
  (wSeq (wParM false false 1 2 (eLst aNil) (eC (.int 2)))
  (wSeq (wWhile (bB (eBin sLe (oE (eBin sMul (oVar 2) (oVar 2))) (oVar 0))) (wSeq (wSetM false 3 (eC (.int 0)))
  (wSeq (wWhile (bB (eBin sEq (oE (eBin sMod (oE (eCall cInt (aCons (oVar 0) aNil))) (oVar 2))) (oE (eC (.int 0))))) (wParM false false 0 3 (eBin sDiv (oVar 0) (oVar 2)) (eBin sAdd (oVar 3) (oE (eC (.int 1))))))
  (wSeq (wSetM false 1 (eBin sAdd (oVar 1) (oE (eIf (bB (eBin sGt (oVar 3) (oE (eC (.int 0))))) (eLst (aCons (oE (eTup (aCons (oVar 2) (aCons (oVar 3) aNil)))) aNil)) (eLst aNil)))))
  (wSetM false 2 (eBin sAdd (oVar 2) (oE (eC (.int 1)))))))))
  (wRet (eBin sAdd (oVar 1) (oE (eIf (bB (eBin sGt (oVar 0) (oE (eC (.int 1))))) (eLst (aCons (oE (eTup (aCons (oVar 0) (aCons (oE (eC (.int 1))) aNil)))) aNil)) (eLst aNil)))))))
structure C_l_law_powers (P : Program) (w : World) (K : PySem.W.Frag) (mg : Str → Option Value) (base : Heap) : Prop where
  mk ::

theorem b_l_law_powers {P : Program} {w : World} {K : PySem.W.Frag} {mg : Str → Option Value} {base : Heap} (M : Mb mg) (C : C_l_law_powers P w K mg base) (f : Addr) (cdv : Value) (A : Around) (outer : List Env) (s : Shared) (H : Hp) (E : XK) (hr : Room 0 (A.deeper (envOfC "_law_powers" (defScope st_l_law_powers) s.heap.objs.size f cdv))) :
    RSs (cxOf L2.CX0 P w K mg base nm_l_law_powers "_law_powers" (defScope st_l_law_powers) f cdv A outer s H E).nox (defBody st_l_law_powers) (w_l_law_powers) :=
  (rss_cons (sPar false false 1 2 (re_lst ra_nil) re_int sc_l_law_powers.nd (by decide) (by rfl))
    (rss_cons (rs_while PassesOwn.never (rt_cmp ow_le (ro_of (re_bin ow_mul (rV 2) (rV 2))) (rV 0) (nomark _)) (rss_cons (sSet false 3 re_int sc_l_law_powers.nd)
    (rss_cons (rs_while PassesOwn.never (rt_cmp (ow_eq hr.units) (ro_of (re_bin ow_mod (ro_of (re_t cw_int (by rfl) M.m_int (by decide +kernel) (ra_cons (rV 0) ra_nil))) (rV 2))) (ro_of re_int) (nomark _)) (rss_one (sPar false false 0 3 (re_bin ow_div (rV 0) (rV 2)) (re_bin ow_add (rV 3) (ro_of re_int)) sc_l_law_powers.nd (by decide) (by rfl))))
    (rss_cons (sSet false 1 (re_bin ow_add (rV 1) (ro_of (re_if (rt_cmp ow_gt (rV 3) (ro_of re_int) (nomark _)) (re_lst (ra_cons (ro_of (re_tup (ra_cons (rV 2) (ra_cons (rV 3) ra_nil)))) ra_nil)) (re_lst ra_nil)))) sc_l_law_powers.nd)
    (rss_one (sSet false 2 (re_bin ow_add (rV 2) (ro_of re_int)) sc_l_law_powers.nd))))))
    (rss_one (rs_ret (re_bin ow_add (rV 1) (ro_of (re_if (rt_cmp ow_gt (rV 0) (ro_of re_int) (nomark _)) (re_lst (ra_cons (ro_of (re_tup (ra_cons (rV 0) (ra_cons (ro_of re_int) ra_nil)))) ra_nil)) (re_lst ra_nil))))))))
theorem ok_l_law_powers {P : Program} {w : World} {K : PySem.W.Frag} {mg : Str → Option Value} {base : Heap} (M : Mb mg) (C : C_l_law_powers P w K mg base) (D : DefAt K mg "_law_powers" st_l_law_powers ["n"]) {sp : SC}
    (h : ∀ (ws : List W) (Q : W → Bool → Prop), ws.length = 1 → sp ws Q → w_l_law_powers { nx := fun _ => Q .non false, rt := Q } (nv0 ws 3) ) : Cal P w K mg base (1) "_law_powers" ["n"] sp :=
  cal_mk D sc_l_law_powers (fun f cdv A outer s H E hr => b_l_law_powers M C f cdv A outer s H E hr) fun ws Q hl q => by
    have z := h ws Q hl q
    have e : nm_l_law_powers.length - ws.length = 3 := by rw [hl]; rfl
    rw [e]; exact z
abbrev st_l_law_is_prime : Stmt := topS 22
abbrev nm_l_law_is_prime : List Str := ["n"]
theorem sc_l_law_is_prime : FnScope nm_l_law_is_prime ["n"] (defScope st_l_law_is_prime) := ⟨rfl, rfl, rfl, by decide +kernel, rfl, by decide +kernel, by decide +kernel⟩
def w_l_law_is_prime : TWS :=
  (wRet (eAnd (eBin sEq (oE (eCall cLen (aCons (oE (eFn 1 sp_l_law_powers (aCons (oVar 0) aNil))) aNil))) (oE (eC (.int 1)))) (eBin sEq (oE (eBin sIx (oE (eBin sIx (oE (eFn 1 sp_l_law_powers (aCons (oVar 0) aNil))) (oE (eC (.int 0))))) (oE (eC (.int 1))))) (oE (eC (.int 1))))))
structure C_l_law_is_prime (P : Program) (w : World) (K : PySem.W.Frag) (mg : Str → Option Value) (base : Heap) : Prop where
  mk ::
  c__law_powers : Cal P w K mg base 1 "_law_powers" ["n"] sp_l_law_powers
theorem b_l_law_is_prime {P : Program} {w : World} {K : PySem.W.Frag} {mg : Str → Option Value} {base : Heap} (M : Mb mg) (C : C_l_law_is_prime P w K mg base) (f : Addr) (cdv : Value) (A : Around) (outer : List Env) (s : Shared) (H : Hp) (E : XK) (hr : Room 1 (A.deeper (envOfC "_law_is_prime" (defScope st_l_law_is_prime) s.heap.objs.size f cdv))) :
    RSs (cxOf L2.CX0 P w K mg base nm_l_law_is_prime "_law_is_prime" (defScope st_l_law_is_prime) f cdv A outer s H E).nox (defBody st_l_law_is_prime) (w_l_law_is_prime) :=
  (rss_one (rs_ret (re_and (re_cmp (ow_eq hr.units) (ro_of (re_b cw_len (by rfl) M.m_len (by decide +kernel) (ra_cons (ro_of (eF C.c__law_powers hr (ra_cons (rV 0) ra_nil))) ra_nil))) (ro_of re_int) (nomark _)) (re_one (re_cmp (ow_eq hr.units) (ro_of (re_ix (ro_of (re_ix (ro_of (eF C.c__law_powers hr (ra_cons (rV 0) ra_nil))) (ro_of re_int) (fun _ _ => rfl))) (ro_of re_int) (fun _ _ => rfl))) (ro_of re_int) (nomark _))))))
theorem ok_l_law_is_prime {P : Program} {w : World} {K : PySem.W.Frag} {mg : Str → Option Value} {base : Heap} (M : Mb mg) (C : C_l_law_is_prime P w K mg base) (D : DefAt K mg "_law_is_prime" st_l_law_is_prime ["n"]) {sp : SC}
    (h : ∀ (ws : List W) (Q : W → Bool → Prop), ws.length = 1 → sp ws Q → w_l_law_is_prime { nx := fun _ => Q .non false, rt := Q } (nv0 ws 0) ) : Cal P w K mg base (2) "_law_is_prime" ["n"] sp :=
  cal_mk D sc_l_law_is_prime (fun f cdv A outer s H E hr => b_l_law_is_prime M C f cdv A outer s H E hr) fun ws Q hl q => by
    have z := h ws Q hl q
    have e : nm_l_law_is_prime.length - ws.length = 0 := by rw [hl]; rfl
    rw [e]; exact z
abbrev st_l_law_bernoulli : Stmt := topS 23
abbrev nm_l_law_bernoulli : List Str := ["most", "told", "row", "k", "n"]
theorem sc_l_law_bernoulli : FnScope nm_l_law_bernoulli ["most"] (defScope st_l_law_bernoulli) := ⟨rfl, rfl, rfl, by decide +kernel, rfl, by decide +kernel, by decide +kernel⟩
def w_l_law_bernoulli : TWS :=
  (wSeq (wSetM true 1 (eLst aNil))
  (wSeq (wSetM false 2 (eLc (iRange1 (aCons (oE (eBin sAdd (oVar 0) (oE (eC (.int 1))))) aNil)) (gN 3) bYes (eTup (aCons (oE (eC (.int 1))) (aCons (oE (eBin sAdd (oVar 3) (oE (eC (.int 1))))) aNil))) [3]))
  (wSeq (wFor (iRange1 (aCons (oE (eBin sAdd (oVar 0) (oE (eC (.int 1))))) aNil)) (gN 4) (wSeq (wAppend 1 (oE (eBin sIx (oVar 2) (oE (eC (.int 0))))))
  (wSetM false 2 (eLc (iRange1 (aCons (oE (eBin sSub (oE (eCall cLen (aCons (oVar 2) aNil))) (oE (eC (.int 1))))) aNil)) (gN 3) bYes (eFn 2 sp_l_law_frac (aCons (oE (eBin sMul (oE (eBin sAdd (oVar 3) (oE (eC (.int 1))))) (oE (eBin sSub (oE (eBin sMul (oE (eBin sIx (oE (eBin sIx (oVar 2) (oVar 3))) (oE (eC (.int 0))))) (oE (eBin sIx (oE (eBin sIx (oVar 2) (oE (eBin sAdd (oVar 3) (oE (eC (.int 1))))))) (oE (eC (.int 1))))))) (oE (eBin sMul (oE (eBin sIx (oE (eBin sIx (oVar 2) (oE (eBin sAdd (oVar 3) (oE (eC (.int 1))))))) (oE (eC (.int 0))))) (oE (eBin sIx (oE (eBin sIx (oVar 2) (oVar 3))) (oE (eC (.int 1))))))))))) (aCons (oE (eBin sMul (oE (eBin sIx (oE (eBin sIx (oVar 2) (oVar 3))) (oE (eC (.int 1))))) (oE (eBin sIx (oE (eBin sIx (oVar 2) (oE (eBin sAdd (oVar 3) (oE (eC (.int 1))))))) (oE (eC (.int 1))))))) aNil))) [3]))))
  (wRet (eBin sAdd (oE (eLst (aCons (oE (eBin sIx (oVar 1) (oE (eC (.int 0))))) aNil))) (oE (eLc (iRange2 (aCons (oE (eC (.int 1))) (aCons (oE (eBin sAdd (oVar 0) (oE (eC (.int 1))))) aNil))) (gN 3) bYes (eIf (bB (eBin sEq (oVar 3) (oE (eC (.int 1))))) (eTup (aCons (oE (eNeg (oE (eC (.int 1))))) (aCons (oE (eC (.int 2))) aNil))) (eBin sIx (oVar 1) (oVar 3))) [3])))))))
structure C_l_law_bernoulli (P : Program) (w : World) (K : PySem.W.Frag) (mg : Str → Option Value) (base : Heap) : Prop where
  mk ::
  c__law_frac : Cal P w K mg base 1 "_law_frac" ["p", "q"] sp_l_law_frac
theorem b_l_law_bernoulli {P : Program} {w : World} {K : PySem.W.Frag} {mg : Str → Option Value} {base : Heap} (M : Mb mg) (C : C_l_law_bernoulli P w K mg base) (f : Addr) (cdv : Value) (A : Around) (outer : List Env) (s : Shared) (H : Hp) (E : XK) (hr : Room 1 (A.deeper (envOfC "_law_bernoulli" (defScope st_l_law_bernoulli) s.heap.objs.size f cdv))) :
    RSs (cxOf L2.CX0 P w K mg base nm_l_law_bernoulli "_law_bernoulli" (defScope st_l_law_bernoulli) f cdv A outer s H E).nox (defBody st_l_law_bernoulli) (w_l_law_bernoulli) :=
  (rss_cons (sSet true 1 (re_lst ra_nil) sc_l_law_bernoulli.nd)
    (rss_cons (sSet false 2 (eLcr [("k", 3)] sc_l_law_bernoulli.nd (ri_range1 (by rfl) M.m_range (ra_cons (ro_of (re_bin ow_add (rV 0) (ro_of re_int))) ra_nil)) (fun _ _ _ _ _ => (gV 3 sc_l_law_bernoulli.nd)) (fun _ _ _ _ _ => rts_nil) (fun _ _ _ _ _ => (re_tup (ra_cons (ro_of re_int) (ra_cons (ro_of (re_bin ow_add (rV 3) (ro_of re_int))) ra_nil)))) (blkOk_by (N := nm_l_law_bernoulli) (sc := (defScope st_l_law_bernoulli)) (by decide +kernel)) (by first | (intro l h; cases h; done) | (intro l h; cases h; decide)) (by decide)) sc_l_law_bernoulli.nd)
    (rss_cons (rs_for PassesOwn.never rfl (ri_range1 (by rfl) M.m_range (ra_cons (ro_of (re_bin ow_add (rV 0) (ro_of re_int))) ra_nil)) (gV 4 sc_l_law_bernoulli.nd) (rss_cons (rs_append 1 (ro_of (re_ix (rV 2) (ro_of re_int) (fun _ _ => rfl))))
    (rss_one (sSet false 2 (eLcr [("k", 3)] sc_l_law_bernoulli.nd (ri_range1 (by rfl) M.m_range (ra_cons (ro_of (re_bin ow_sub (ro_of (re_b cw_len (by rfl) M.m_len (by decide +kernel) (ra_cons (rV 2) ra_nil))) (ro_of re_int))) ra_nil)) (fun _ _ _ _ _ => (gV 3 sc_l_law_bernoulli.nd)) (fun _ _ _ _ _ => rts_nil) (fun _ _ _ _ _ => (eF C.c__law_frac hr (ra_cons (ro_of (re_bin ow_mul (ro_of (re_bin ow_add (rV 3) (ro_of re_int))) (ro_of (re_bin ow_sub (ro_of (re_bin ow_mul (ro_of (re_ix (ro_of (re_ix (rV 2) (rV 3) (fun _ _ => rfl))) (ro_of re_int) (fun _ _ => rfl))) (ro_of (re_ix (ro_of (re_ix (rV 2) (ro_of (re_bin ow_add (rV 3) (ro_of re_int))) (fun _ _ => rfl))) (ro_of re_int) (fun _ _ => rfl))))) (ro_of (re_bin ow_mul (ro_of (re_ix (ro_of (re_ix (rV 2) (ro_of (re_bin ow_add (rV 3) (ro_of re_int))) (fun _ _ => rfl))) (ro_of re_int) (fun _ _ => rfl))) (ro_of (re_ix (ro_of (re_ix (rV 2) (rV 3) (fun _ _ => rfl))) (ro_of re_int) (fun _ _ => rfl))))))))) (ra_cons (ro_of (re_bin ow_mul (ro_of (re_ix (ro_of (re_ix (rV 2) (rV 3) (fun _ _ => rfl))) (ro_of re_int) (fun _ _ => rfl))) (ro_of (re_ix (ro_of (re_ix (rV 2) (ro_of (re_bin ow_add (rV 3) (ro_of re_int))) (fun _ _ => rfl))) (ro_of re_int) (fun _ _ => rfl))))) ra_nil)))) (blkOk_by (N := nm_l_law_bernoulli) (sc := (defScope st_l_law_bernoulli)) (by decide +kernel)) (by first | (intro l h; cases h; done) | (intro l h; cases h; decide)) (by decide)) sc_l_law_bernoulli.nd))))
    (rss_one (rs_ret (re_bin ow_add (ro_of (re_lst (ra_cons (ro_of (re_ix (rV 1) (ro_of re_int) (fun _ _ => rfl))) ra_nil))) (ro_of (eLcr [("k", 3)] sc_l_law_bernoulli.nd (ri_range2 (by rfl) M.m_range (ra_cons (ro_of re_int) (ra_cons (ro_of (re_bin ow_add (rV 0) (ro_of re_int))) ra_nil))) (fun _ _ _ _ _ => (gV 3 sc_l_law_bernoulli.nd)) (fun _ _ _ _ _ => rts_nil) (fun _ _ _ _ _ => (re_if (rt_cmp (ow_eq hr.units) (rV 3) (ro_of re_int) (nomark _)) (re_tup (ra_cons (ro_of (re_neg (ro_of re_int))) (ra_cons (ro_of re_int) ra_nil))) (re_ix (rV 1) (rV 3) (fun _ _ => rfl)))) (blkOk_by (N := nm_l_law_bernoulli) (sc := (defScope st_l_law_bernoulli)) (by decide +kernel)) (by first | (intro l h; cases h; done) | (intro l h; cases h; decide)) (by decide)))))))))
theorem ok_l_law_bernoulli {P : Program} {w : World} {K : PySem.W.Frag} {mg : Str → Option Value} {base : Heap} (M : Mb mg) (C : C_l_law_bernoulli P w K mg base) (D : DefAt K mg "_law_bernoulli" st_l_law_bernoulli ["most"]) {sp : SC}
    (h : ∀ (ws : List W) (Q : W → Bool → Prop), ws.length = 1 → sp ws Q → w_l_law_bernoulli { nx := fun _ => Q .non false, rt := Q } (nv0 ws 4) ) : Cal P w K mg base (2) "_law_bernoulli" ["most"] sp :=
  cal_mk D sc_l_law_bernoulli (fun f cdv A outer s H E hr => b_l_law_bernoulli M C f cdv A outer s H E hr) fun ws Q hl q => by
    have z := h ws Q hl q
    have e : nm_l_law_bernoulli.length - ws.length = 4 := by rw [hl]; rfl
    rw [e]; exact z
abbrev st_law : Stmt := topS 24
abbrev nm_law : List Str := ["script", "state", "most", "due", "k", "turn", "n", "primes", "d", "low", "total", "p", "whole", "i", "here", "j", "row", "part", "far"]
theorem sc_law : FnScope nm_law ["script"] (defScope st_law) := ⟨rfl, rfl, rfl, by decide +kernel, rfl, by decide +kernel, by decide +kernel⟩
def w_law : TWS :=
  (wSeq (wSetM false 1 (eFn 1 sp_l_law_state (aCons (oVar 0) aNil)))
  (wSeq (wSetM false 2 (eFn 2 sp_l_law_draw (aCons (oVar 1) (aCons (oE (eC (.int 41))) aNil))))
  (wSeq (wSetM false 3 (eFn 1 sp_l_law_bernoulli (aCons (oVar 2) aNil)))
  (wSeq (wIf (bOr (bNot (bT (oE (eFn 2 sp_l_law_eq (aCons (oE (eFn 1 sp_bernoulli (aCons (oVar 2) aNil))) (aCons (oVar 3) aNil)))))) (bB (eBin sNe (oE (eLc (iRange2 (aCons (oE (eC (.int 3))) (aCons (oE (eBin sAdd (oVar 2) (oE (eC (.int 1))))) aNil))) (gN 4) (bAnd (bB (eBin sEq (oE (eBin sMod (oE (eCall cInt (aCons (oVar 4) aNil))) (oE (eC (.int 2))))) (oE (eC (.int 1))))) (bB (eBin sNe (oE (eBin sIx (oVar 3) (oVar 4))) (oE (eTup (aCons (oE (eC (.int 0))) (aCons (oE (eC (.int 1))) aNil))))))) (eVar 4) [4])) (oE (eLst aNil))))) (wRet (eC (.bl false))) wNext)
  (wSeq (wFor (iRange1 (aCons (oE (eC (.int 3))) aNil)) (gN 5) (wSeq (wSetM false 6 (eBin sAdd (oE (eC (.int 2))) (oE (eBin sMul (oE (eC (.int 2))) (oE (eFn 2 sp_l_law_draw (aCons (oVar 1) (aCons (oE (eFn 2 sp_l_law_pick (aCons (oVar 1) (aCons (oE (eLst (aCons (oE (eC (.int 20))) (aCons (oE (eC (.int 1000))) aNil)))) aNil)))) aNil))))))))
  (wSeq (wSetM false 7 (eLc (iRange2 (aCons (oE (eC (.int 1))) (aCons (oE (eBin sAdd (oVar 6) (oE (eC (.int 1))))) aNil))) (gN 8) (bAnd (bB (eBin sEq (oE (eBin sMod (oE (eCall cInt (aCons (oVar 6) aNil))) (oVar 8))) (oE (eC (.int 0))))) (bT (oE (eFn 1 sp_l_law_is_prime (aCons (oE (eBin sAdd (oVar 8) (oE (eC (.int 1))))) aNil))))) (eBin sAdd (oVar 8) (oE (eC (.int 1)))) [8]))
  (wSeq (wIf (bNot (bT (oE (eFn 2 sp_l_law_eq (aCons (oE (eFn 1 sp_staudt_primes (aCons (oVar 6) aNil))) (aCons (oE (eCall cTuple (aCons (oE (eCall cSortedI (aCons (oVar 7) aNil))) aNil))) aNil)))))) (wRet (eC (.bl false))) wNext)
  (wSeq (wIf (bB (eBin sLe (oVar 6) (oVar 2))) (wSeq (wSetM false 9 (eC (.int 1)))
  (wSeq (wSetM false 10 (eBin sIx (oVar 3) (oVar 6)))
  (wSeq (wFor (iV 7) (gN 11) (wParM false false 9 10 (eBin sMul (oVar 9) (oVar 11)) (eFn 2 sp_l_law_add (aCons (oVar 10) (aCons (oE (eTup (aCons (oE (eC (.int 1))) (aCons (oVar 11) aNil)))) aNil)))))
  (wIf (bOr (bB (eBin sNe (oE (eBin sIx (oE (eBin sIx (oVar 3) (oVar 6))) (oE (eC (.int 1))))) (oVar 9))) (bB (eBin sNe (oE (eBin sIx (oVar 10) (oE (eC (.int 1))))) (oE (eC (.int 1)))))) (wRet (eC (.bl false))) wNext)))) wNext)
  (wSeq (wAsg (eTup (aCons (oE (eFn 2 sp_l_law_draw (aCons (oVar 1) (aCons (oE (eC (.int 20))) aNil)))) (aCons (oE (eFn 2 sp_l_law_draw (aCons (oVar 1) (aCons (oE (eC (.int 60))) aNil)))) aNil))) (gT 2 (gsCons (gN 4) (gsCons (gN 6) gsNil))))
  (wSeq (wSetM false 12 (eC (.int 0)))
  (wSeq (wFor (iRange2 (aCons (oE (eC (.int 1))) (aCons (oE (eBin sAdd (oVar 6) (oE (eC (.int 1))))) aNil))) (gN 13) (wSeq (wSetM false 14 (eC (.int 1)))
  (wSeq (wFor (iRange1 (aCons (oVar 4) aNil)) (gN 15) (wSetM false 14 (eBin sMul (oVar 14) (oVar 13))))
  (wSetM false 12 (eBin sAdd (oVar 12) (oVar 14))))))
  (wSeq (wIf (bNot (bT (oE (eFn 2 sp_l_law_eq (aCons (oE (eFn 2 sp_power_sum (aCons (oVar 4) (aCons (oVar 6) aNil)))) (aCons (oVar 12) aNil)))))) (wRet (eC (.bl false))) wNext)
  (wSeq (wSetM false 16 (eFn 1 sp_power_row (aCons (oVar 4) aNil)))
  (wSeq (wAsg (eTup (aCons (oE (eTup (aCons (oE (eC (.int 0))) (aCons (oE (eC (.int 1))) aNil)))) (aCons (oE (eC (.int 1))) aNil))) (gT 2 (gsCons (gN 10) (gsCons (gN 14) gsNil))))
  (wSeq (wFor (iV 16) (gN 17) (wParM false false 10 14 (eFn 2 sp_l_law_add (aCons (oVar 10) (aCons (oE (eFn 2 sp_l_law_frac (aCons (oE (eBin sMul (oE (eBin sIx (oVar 17) (oE (eC (.int 0))))) (oVar 14))) (aCons (oE (eBin sIx (oVar 17) (oE (eC (.int 1))))) aNil)))) aNil))) (eBin sMul (oVar 14) (oVar 6))))
  (wSeq (wIf (bOr (bNot (bT (oE (eIsi .tupleT (oVar 16))))) (bOr (bB (eBin sNe (oE (eCall cLen (aCons (oVar 16) aNil))) (oE (eBin sAdd (oVar 4) (oE (eC (.int 2))))))) (bOr (bB (eBin sNe (oVar 10) (oE (eTup (aCons (oVar 12) (aCons (oE (eC (.int 1))) aNil)))))) (bOr (bB (eBin sNe (oE (eBin sIx (oVar 16) (oE (eC (.int 0))))) (oE (eTup (aCons (oE (eC (.int 0))) (aCons (oE (eC (.int 1))) aNil)))))) (bB (eBin sNe (oE (eBin sIx (oVar 16) (oE (eBin sAdd (oVar 4) (oE (eC (.int 1))))))) (oE (eFn 2 sp_l_law_frac (aCons (oE (eC (.int 1))) (aCons (oE (eBin sAdd (oVar 4) (oE (eC (.int 1))))) aNil)))))))))) (wRet (eC (.bl false))) wNext)
  (wSeq (wSetM false 18 (eFn 2 sp_l_law_draw (aCons (oVar 1) (aCons (oE (eBin sPow (oE (eC (.int 10))) (oE (eC (.int 9))))) aNil))))
  (wSeq (wSetM false 14 (eC (.int 1)))
  (wSeq (wFor (iRange1 (aCons (oVar 4) aNil)) (gN 15) (wSetM false 14 (eBin sMul (oVar 14) (oE (eBin sAdd (oVar 18) (oE (eC (.int 1))))))))
  (wIf (bAnd (bB (eBin sLe (oE (eBin sAdd (oVar 18) (oE (eC (.int 1))))) (oE (eBin sPow (oE (eC (.int 10))) (oE (eC (.int 9))))))) (bB (eBin sNe (oE (eBin sSub (oE (eFn 2 sp_power_sum (aCons (oVar 4) (aCons (oE (eBin sAdd (oVar 18) (oE (eC (.int 1))))) aNil)))) (oE (eFn 2 sp_power_sum (aCons (oVar 4) (aCons (oVar 18) aNil)))))) (oVar 14)))) (wRet (eC (.bl false))) wNext)))))))))))))))))
  (wSeq (wSetM false 7 (eLst (aCons (oE (eC (.int 3))) (aCons (oE (eC (.int 5))) (aCons (oE (eC (.int 7))) (aCons (oE (eC (.int 11))) (aCons (oE (eC (.int 13))) (aCons (oE (eC (.int 17))) (aCons (oE (eC (.int 19))) (aCons (oE (eC (.int 23))) (aCons (oE (eC (.int 29))) (aCons (oE (eC (.int 31))) (aCons (oE (eC (.int 37))) (aCons (oE (eC (.int 41))) (aCons (oE (eC (.int 43))) (aCons (oE (eC (.int 47))) (aCons (oE (eC (.int 53))) (aCons (oE (eC (.int 59))) (aCons (oE (eC (.int 61))) (aCons (oE (eC (.int 67))) (aCons (oE (eC (.int 71))) aNil)))))))))))))))))))))
  (wSeq (wSetM false 11 (eFn 2 sp_l_law_pick (aCons (oVar 1) (aCons (oVar 7) aNil))))
  (wRet (eAnd (eFn 2 sp_l_law_eq (aCons (oE (eFn 1 sp_is_regular (aCons (oVar 11) aNil))) (aCons (oE (eBin sNotIn (oVar 11) (oE (eLst (aCons (oE (eC (.int 37))) (aCons (oE (eC (.int 59))) (aCons (oE (eC (.int 67))) aNil))))))) aNil))) (eAnd (eBin sEq (oE (eFn 2 sp_power_sum (aCons (oE (eC (.int 1))) (aCons (oE (eC (.int 100))) aNil)))) (oE (eC (.int 5050)))) (eBin sEq (oE (eFn 2 sp_power_sum (aCons (oE (eC (.int 3))) (aCons (oE (eC (.int 10))) aNil)))) (oE (eC (.int 3025))))))))))))))
structure C_law (P : Program) (w : World) (K : PySem.W.Frag) (mg : Str → Option Value) (base : Heap) : Prop where
  mk ::
  c__law_add : Cal P w K mg base 2 "_law_add" ["one", "other"] sp_l_law_add
  c__law_bernoulli : Cal P w K mg base 2 "_law_bernoulli" ["most"] sp_l_law_bernoulli
  c__law_draw : Cal P w K mg base 1 "_law_draw" ["state", "many"] sp_l_law_draw
  c__law_eq : Cal P w K mg base 6 "_law_eq" ["told", "due"] sp_l_law_eq
  c__law_frac : Cal P w K mg base 1 "_law_frac" ["p", "q"] sp_l_law_frac
  c__law_is_prime : Cal P w K mg base 2 "_law_is_prime" ["n"] sp_l_law_is_prime
  c__law_pick : Cal P w K mg base 2 "_law_pick" ["state", "row"] sp_l_law_pick
  c__law_state : Cal P w K mg base 1 "_law_state" ["script"] sp_l_law_state
  c_bernoulli : Cal P w K mg base 2 "bernoulli" ["most"] sp_bernoulli
  c_is_regular : Cal P w K mg base 3 "is_regular" ["p"] sp_is_regular
  c_power_row : Cal P w K mg base 3 "power_row" ["k"] sp_power_row
  c_power_sum : Cal P w K mg base 4 "power_sum" ["k", "n"] sp_power_sum
  c_staudt_primes : Cal P w K mg base 3 "staudt_primes" ["n"] sp_staudt_primes
theorem b_law {P : Program} {w : World} {K : PySem.W.Frag} {mg : Str → Option Value} {base : Heap} (M : Mb mg) (C : C_law P w K mg base) (f : Addr) (cdv : Value) (A : Around) (outer : List Env) (s : Shared) (H : Hp) (E : XK) (hr : Room 6 (A.deeper (envOfC "law" (defScope st_law) s.heap.objs.size f cdv))) :
    RSs (cxOf L2.CX0 P w K mg base nm_law "law" (defScope st_law) f cdv A outer s H E).nox (defBody st_law) (w_law) :=
  (rss_cons (sSet false 1 (eF C.c__law_state hr (ra_cons (rV 0) ra_nil)) sc_law.nd)
    (rss_cons (sSet false 2 (eF C.c__law_draw hr (ra_cons (rV 1) (ra_cons (ro_of re_int) ra_nil))) sc_law.nd)
    (rss_cons (sSet false 3 (eF C.c__law_bernoulli hr (ra_cons (rV 2) ra_nil)) sc_law.nd)
    (rss_cons (rs_if (rt_of (rw_or (rt_not (rt_tru (ro_of (eF C.c__law_eq hr (ra_cons (ro_of (eF C.c_bernoulli hr (ra_cons (rV 2) ra_nil))) (ra_cons (rV 3) ra_nil)))))) (rw_or1 (rt_cmp (ow_ne hr.units) (ro_of (eLcr [("k", 4)] sc_law.nd (ri_range2 (by rfl) M.m_range (ra_cons (ro_of re_int) (ra_cons (ro_of (re_bin ow_add (rV 2) (ro_of re_int))) ra_nil))) (fun _ _ _ _ _ => (gV 4 sc_law.nd)) (fun _ _ _ _ _ => (rts_one (rt_of (rw_and (rt_cmp (ow_eq hr.units) (ro_of (re_bin ow_mod (ro_of (re_t cw_int (by rfl) M.m_int (by decide +kernel) (ra_cons (rV 4) ra_nil))) (ro_of re_int))) (ro_of re_int) (nomark _)) (rw_and1 (rt_cmp (ow_ne hr.units) (ro_of (re_ix (rV 3) (rV 4) (fun _ _ => rfl))) (ro_of (re_tup (ra_cons (ro_of re_int) (ra_cons (ro_of re_int) ra_nil)))) (nomark _))))))) (fun _ _ _ _ _ => (eV 4)) (blkOk_by (N := nm_law) (sc := (defScope st_law)) (by decide +kernel)) (by first | (intro l h; cases h; done) | (intro l h; cases h; decide)) (by decide))) (ro_of (re_lst ra_nil)) (nomark _))))) (rss_one (rs_ret re_bl)) rss_nil)
    (rss_cons (rs_for PassesOwn.never rfl (ri_range1 (by rfl) M.m_range (ra_cons (ro_of re_int) ra_nil)) (gV 5 sc_law.nd) (rss_cons (sSet false 6 (re_bin ow_add (ro_of re_int) (ro_of (re_bin ow_mul (ro_of re_int) (ro_of (eF C.c__law_draw hr (ra_cons (rV 1) (ra_cons (ro_of (eF C.c__law_pick hr (ra_cons (rV 1) (ra_cons (ro_of (re_lst (ra_cons (ro_of re_int) (ra_cons (ro_of re_int) ra_nil)))) ra_nil)))) ra_nil))))))) sc_law.nd)
    (rss_cons (sSetLc false 7 [("d", 8)] sc_law.nd (ri_range2 (by rfl) M.m_range (ra_cons (ro_of re_int) (ra_cons (ro_of (re_bin ow_add (rV 6) (ro_of re_int))) ra_nil))) (fun _ _ _ _ _ => (gV 8 sc_law.nd)) (fun _ _ _ _ _ => (rts_one (rt_of (rw_and (rt_cmp (ow_eq hr.units) (ro_of (re_bin ow_mod (ro_of (re_t cw_int (by rfl) M.m_int (by decide +kernel) (ra_cons (rV 6) ra_nil))) (rV 8))) (ro_of re_int) (nomark _)) (rw_and1 (rt_tru (ro_of (eF C.c__law_is_prime hr (ra_cons (ro_of (re_bin ow_add (rV 8) (ro_of re_int))) ra_nil))))))))) (fun _ _ _ _ _ => (re_bin ow_add (rV 8) (ro_of re_int))) (blkOk_by (N := nm_law) (sc := (defScope st_law)) (by decide +kernel)) (by first | (intro l h; cases h; done) | (intro l h; cases h; decide)) (by decide) (sw_true rfl rfl rfl (by decide +kernel)))
    (rss_cons (rs_if (rt_not (rt_tru (ro_of (eF C.c__law_eq hr (ra_cons (ro_of (eF C.c_staudt_primes hr (ra_cons (rV 6) ra_nil))) (ra_cons (ro_of (re_t cw_tuple (by rfl) M.m_tuple (by decide +kernel) (ra_cons (ro_of (re_b cw_sortedI (by rfl) M.m_sorted (by decide +kernel) (ra_cons (rV 7) ra_nil))) ra_nil))) ra_nil)))))) (rss_one (rs_ret re_bl)) rss_nil)
    (rss_cons (rs_if (rt_cmp ow_le (rV 6) (rV 2) (nomark _)) (rss_cons (sSet false 9 re_int sc_law.nd)
    (rss_cons (sSet false 10 (re_ix (rV 3) (rV 6) (fun _ _ => rfl)) sc_law.nd)
    (rss_cons (rs_for PassesOwn.never rfl (iVr 7) (gV 11 sc_law.nd) (rss_one (sPar false false 9 10 (re_bin ow_mul (rV 9) (rV 11)) (eF C.c__law_add hr (ra_cons (rV 10) (ra_cons (ro_of (re_tup (ra_cons (ro_of re_int) (ra_cons (rV 11) ra_nil)))) ra_nil))) sc_law.nd (by decide) (by rfl))))
    (rss_one (rs_if (rt_of (rw_or (rt_cmp (ow_ne hr.units) (ro_of (re_ix (ro_of (re_ix (rV 3) (rV 6) (fun _ _ => rfl))) (ro_of re_int) (fun _ _ => rfl))) (rV 9) (nomark _)) (rw_or1 (rt_cmp (ow_ne hr.units) (ro_of (re_ix (rV 10) (ro_of re_int) (fun _ _ => rfl))) (ro_of re_int) (nomark _))))) (rss_one (rs_ret re_bl)) rss_nil))))) rss_nil)
    (rss_cons (rs_asg (re_tup (ra_cons (ro_of (eF C.c__law_draw hr (ra_cons (rV 1) (ra_cons (ro_of re_int) ra_nil)))) (ra_cons (ro_of (eF C.c__law_draw hr (ra_cons (rV 1) (ra_cons (ro_of re_int) ra_nil)))) ra_nil))) (rg_tup rfl (rgs_cons (gV 4 sc_law.nd) (rgs_cons (gV 6 sc_law.nd) rgs_nil))))
    (rss_cons (sSet false 12 re_int sc_law.nd)
    (rss_cons (rs_for PassesOwn.never rfl (ri_range2 (by rfl) M.m_range (ra_cons (ro_of re_int) (ra_cons (ro_of (re_bin ow_add (rV 6) (ro_of re_int))) ra_nil))) (gV 13 sc_law.nd) (rss_cons (sSet false 14 re_int sc_law.nd)
    (rss_cons (rs_for PassesOwn.never rfl (ri_range1 (by rfl) M.m_range (ra_cons (rV 4) ra_nil)) (gV 15 sc_law.nd) (rss_one (sSet false 14 (re_bin ow_mul (rV 14) (rV 13)) sc_law.nd)))
    (rss_one (sSet false 12 (re_bin ow_add (rV 12) (rV 14)) sc_law.nd)))))
    (rss_cons (rs_if (rt_not (rt_tru (ro_of (eF C.c__law_eq hr (ra_cons (ro_of (eF C.c_power_sum hr (ra_cons (rV 4) (ra_cons (rV 6) ra_nil)))) (ra_cons (rV 12) ra_nil)))))) (rss_one (rs_ret re_bl)) rss_nil)
    (rss_cons (sSet false 16 (eF C.c_power_row hr (ra_cons (rV 4) ra_nil)) sc_law.nd)
    (rss_cons (rs_asg (re_tup (ra_cons (ro_of (re_tup (ra_cons (ro_of re_int) (ra_cons (ro_of re_int) ra_nil)))) (ra_cons (ro_of re_int) ra_nil))) (rg_tup rfl (rgs_cons (gV 10 sc_law.nd) (rgs_cons (gV 14 sc_law.nd) rgs_nil))))
    (rss_cons (rs_for PassesOwn.never rfl (iVr 16) (gV 17 sc_law.nd) (rss_one (sPar false false 10 14 (eF C.c__law_add hr (ra_cons (rV 10) (ra_cons (ro_of (eF C.c__law_frac hr (ra_cons (ro_of (re_bin ow_mul (ro_of (re_ix (rV 17) (ro_of re_int) (fun _ _ => rfl))) (rV 14))) (ra_cons (ro_of (re_ix (rV 17) (ro_of re_int) (fun _ _ => rfl))) ra_nil)))) ra_nil))) (re_bin ow_mul (rV 14) (rV 6)) sc_law.nd (by decide) (by rfl))))
    (rss_cons (rs_if (rt_of (rw_or (rt_not (rt_tru (ro_of (re_isi .tupleT (by rfl) M.m_isinstance (by rfl) M.m_tuple (rV 16))))) (rw_or (rt_cmp (ow_ne hr.units) (ro_of (re_b cw_len (by rfl) M.m_len (by decide +kernel) (ra_cons (rV 16) ra_nil))) (ro_of (re_bin ow_add (rV 4) (ro_of re_int))) (nomark _)) (rw_or (rt_cmp (ow_ne hr.units) (rV 10) (ro_of (re_tup (ra_cons (rV 12) (ra_cons (ro_of re_int) ra_nil)))) (nomark _)) (rw_or (rt_cmp (ow_ne hr.units) (ro_of (re_ix (rV 16) (ro_of re_int) (fun _ _ => rfl))) (ro_of (re_tup (ra_cons (ro_of re_int) (ra_cons (ro_of re_int) ra_nil)))) (nomark _)) (rw_or1 (rt_cmp (ow_ne hr.units) (ro_of (re_ix (rV 16) (ro_of (re_bin ow_add (rV 4) (ro_of re_int))) (fun _ _ => rfl))) (ro_of (eF C.c__law_frac hr (ra_cons (ro_of re_int) (ra_cons (ro_of (re_bin ow_add (rV 4) (ro_of re_int))) ra_nil)))) (nomark _)))))))) (rss_one (rs_ret re_bl)) rss_nil)
    (rss_cons (sSet false 18 (eF C.c__law_draw hr (ra_cons (rV 1) (ra_cons (ro_of (re_bin ow_pow (ro_of re_int) (ro_of re_int))) ra_nil))) sc_law.nd)
    (rss_cons (sSet false 14 re_int sc_law.nd)
    (rss_cons (rs_for PassesOwn.never rfl (ri_range1 (by rfl) M.m_range (ra_cons (rV 4) ra_nil)) (gV 15 sc_law.nd) (rss_one (sSet false 14 (re_bin ow_mul (rV 14) (ro_of (re_bin ow_add (rV 18) (ro_of re_int)))) sc_law.nd)))
    (rss_one (rs_if (rt_of (rw_and (rt_cmp ow_le (ro_of (re_bin ow_add (rV 18) (ro_of re_int))) (ro_of (re_bin ow_pow (ro_of re_int) (ro_of re_int))) (nomark _)) (rw_and1 (rt_cmp (ow_ne hr.units) (ro_of (re_bin ow_sub (ro_of (eF C.c_power_sum hr (ra_cons (rV 4) (ra_cons (ro_of (re_bin ow_add (rV 18) (ro_of re_int))) ra_nil)))) (ro_of (eF C.c_power_sum hr (ra_cons (rV 4) (ra_cons (rV 18) ra_nil)))))) (rV 14) (nomark _))))) (rss_one (rs_ret re_bl)) rss_nil))))))))))))))))))
    (rss_cons (sSet false 7 (re_lst (ra_cons (ro_of re_int) (ra_cons (ro_of re_int) (ra_cons (ro_of re_int) (ra_cons (ro_of re_int) (ra_cons (ro_of re_int) (ra_cons (ro_of re_int) (ra_cons (ro_of re_int) (ra_cons (ro_of re_int) (ra_cons (ro_of re_int) (ra_cons (ro_of re_int) (ra_cons (ro_of re_int) (ra_cons (ro_of re_int) (ra_cons (ro_of re_int) (ra_cons (ro_of re_int) (ra_cons (ro_of re_int) (ra_cons (ro_of re_int) (ra_cons (ro_of re_int) (ra_cons (ro_of re_int) (ra_cons (ro_of re_int) ra_nil)))))))))))))))))))) sc_law.nd)
    (rss_cons (sSet false 11 (eF C.c__law_pick hr (ra_cons (rV 1) (ra_cons (rV 7) ra_nil))) sc_law.nd)
    (rss_one (rs_ret (re_and (eF C.c__law_eq hr (ra_cons (ro_of (eF C.c_is_regular hr (ra_cons (rV 11) ra_nil))) (ra_cons (ro_of (re_cmp (ow_notin hr.u65) (rV 11) (ro_of (re_lst (ra_cons (ro_of re_int) (ra_cons (ro_of re_int) (ra_cons (ro_of re_int) ra_nil))))) (by rfl))) ra_nil))) (re_and (re_cmp (ow_eq hr.units) (ro_of (eF C.c_power_sum hr (ra_cons (ro_of re_int) (ra_cons (ro_of re_int) ra_nil)))) (ro_of re_int) (nomark _)) (re_one (re_cmp (ow_eq hr.units) (ro_of (eF C.c_power_sum hr (ra_cons (ro_of re_int) (ra_cons (ro_of re_int) ra_nil)))) (ro_of re_int) (nomark _))))))))))))))
theorem ok_law {P : Program} {w : World} {K : PySem.W.Frag} {mg : Str → Option Value} {base : Heap} (M : Mb mg) (C : C_law P w K mg base) (D : DefAt K mg "law" st_law ["script"]) {sp : SC}
    (h : ∀ (ws : List W) (Q : W → Bool → Prop), ws.length = 1 → sp ws Q → w_law { nx := fun _ => Q .non false, rt := Q } (nv0 ws 18) ) : Cal P w K mg base (7) "law" ["script"] sp :=
  cal_mk D sc_law (fun f cdv A outer s H E hr => b_law M C f cdv A outer s H E hr) fun ws Q hl q => by
    have z := h ws Q hl q
    have e : nm_law.length - ws.length = 18 := by rw [hl]; rfl
    rw [e]; exact z
end K30
end

section
set_option Elab.async false
set_option linter.all false
set_option maxRecDepth 100000
set_option exponentiation.threshold 50000
set_option pp.maxSteps 2000
set_option pp.deepTerms false
namespace K30
open PySem PySem.Spec PyProof.Rows L2 VL NT SPc
local macro_rules | `(tactic| walk_at "vl") => `(tactic| try simp only [wSeq, wSetM, wIf, wRet, wRetV, wRetN, wNext, wAppend, wParM, wAug, wAsg, wStore, wFz, wLock, wFor, wBreak, wCont, eLst, eTup, eC, eVar, oVar, oE, eBin, eNeg, eIs, eIsNot, aNil, aCons, sAdd, sArith0, sArith, sMul, sOrd, sEq, sNe, bB, bT, truth, bNot, bAnd, bOr, eIf, eAnd, eOr, eNot, eFn, eCall, cInt, cLen, cAbs, cMax2, cMin2, cTuple, cList, gt, putM, put, slOf, isLk_fz, isLk_ow, isLk_no, List.set, nv0, List.map_cons, List.map_nil, List.replicate, List.cons_append, List.nil_append, List.length_cons, List.length_nil, gT, gN, gsCons, gsNil, eLc, lcEl, eRev, eRevB, eCutB, pNone, pSome, iS, eTokS, eTok1, eLc2, lcEl2, bYes, wipeN, lks_c, lks_n, lk1_f, lk1_o, lk1_l, lk1_n, cSum, cSumB, cSortedI, sInT, sIn, sNotIn, sNotInT, pl_int, pl_bl, pl_non, List.all_cons, List.all_nil, List.any_cons, List.any_nil, iE, iRv, iEnB, iV, iRange1, iRange2, fl_int, fl_bl, fl_non, weq_int, weq_bl, weq_non, Bool.or_false, Bool.false_or, Bool.or_true, true_and, and_true, beq_iff_eq, decide_eq_true_eq, Bool.not_eq_true', beq_eq_false_iff_ne, decide_eq_false_iff_not, Bool.and_eq_true, Bool.or_eq_true, Bool.not_not, if_true, Bool.false_eq_true, if_false, Nat.reduceAdd])
local macro_rules | `(tactic| walk_at "vs") => `(tactic| try simp -dsimp only [↓wSeq_b, ↓eDget, ↓eDin, ↓wPutD_b, ↓eDnew, ↓eDnewT, ↓eDone, dAt_I, dIn_I, dPut_I, dLen_I, dAt_P, dIn_P, dPut_P, dLen_P, LkC_some, InC_some, PutC_some, ↓cLenD_I, ↓cLenD_P, Bool.bne_false, Bool.bne_true, ↓wSetM_b, ↓wIf_b, ↓wRet_b, ↓wRetV_b, ↓wRetN, ↓wNext_b, ↓wAppend_b, ↓wParM_b, ↓wPar3_b, ↓wPar3M_b, ↓wAug_b, ↓wAsg_b, ↓wStore_b, ↓wFz_b, ↓wLock_b, ↓wFor, ↓wBreak_b, ↓wCont_b, ↓eLst, ↓eTup, ↓eC, ↓eVar_b, ↓oVar_b, ↓oE, ↓eBin, ↓eNeg, ↓eIs, ↓eIsNot, ↓aNil, ↓aCons, ↓sAdd, ↓sArith0, ↓sArith, ↓sMul, ↓sOrd, ↓sEq, ↓sNe, ↓bB, ↓bT, ↓truth, ↓bNot, ↓bAnd_b, ↓bOr_b, ↓eIf_b, ↓eAnd_b, ↓eOr_b, ↓eNot, ↓eFn_call, ↓eCall, ↓cInt, ↓cLen, ↓cAbs, ↓cMax2, ↓cMin2, ↓cTuple, ↓cList, ↓gT, ↓gN_b, ↓gsCons, ↓gsNil, ↓eLc_b, ↓lcEl_b, ↓eLc2_b, ↓lcEl2_b, ↓eRev, ↓eRevB, ↓eCutB, ↓pNone, ↓pSome, ↓iS, ↓eTokS, ↓eTok1, ↓bYes, ↓cSum, ↓cSumB, ↓cSortedI, ↓sInT, ↓sIn, ↓sNotIn, ↓sNotInT, ↓sIsB, ↓sIsNotB, ↓sIx_b, ↓cGcd, cGcd, ↓iE, ↓iRv, ↓iEnB, ↓iEnV_b, ↓iV_b, ↓iRange1, ↓iRange2, ↓eIsi, ↓eIsi2, eq_self, SIx_tup0, SIx_tup1, SIx_tup2, SIx_tup3, SIx_tup4, SIx_lst0, SIx_lst1, SIx_lst2, SIx_lst3, SIx_lst4, ne_eq, not_true_eq_false, not_false_eq_true, isNon, decide_true, decide_false, List.isEmpty_cons, List.isEmpty_nil, At_fz, At_ow, At_lk, At_no, Go_cons, Go_nil, Br_T, Br_F, gt, putM, put, slOf, wipeN, lks_c, lks_n, lk1_f, lk1_o, lk1_l, lk1_n, tnW, isTn, isLk_fz, isLk_ow, isLk_no, isLk_lk, List.set, nv0, List.map_cons, List.map_nil, List.replicate, List.cons_append, List.nil_append, List.length_cons, List.length_nil, pl_int, pl_bl, pl_non, List.all_cons, List.all_nil, List.any_cons, List.any_nil, fl_int, fl_bl, fl_non, fl_nats, fl_book, weq_int, weq_bl, weq_non, weq_nats, Bool.or_false, Bool.false_or, Bool.or_true, true_and, and_true, beq_iff_eq, decide_eq_true_eq, Bool.not_eq_true', Bool.not_true, Bool.not_false, Bool.true_eq_false, beq_eq_false_iff_ne, decide_eq_false_iff_not, Bool.and_eq_true, Bool.or_eq_true, Bool.not_not, if_true, Bool.false_eq_true, if_false, Nat.reduceAdd])
local macro_rules | `(tactic| walk_at "vt") => `(tactic| try simp -dsimp only [↓eDget, ↓eDin, ↓wPutD_b, ↓eDnew, ↓eDnewT, ↓eDone, dAt_I, dIn_I, dPut_I, dLen_I, dAt_P, dIn_P, dPut_P, dLen_P, LkC_some, InC_some, PutC_some, ↓cLenD_I, ↓cLenD_P, Bool.bne_false, Bool.bne_true, ↓wSetM_b, ↓wIf_b, ↓wRet_b, ↓wRetV_b, ↓wRetN, ↓wNext_b, ↓wAppend_b, ↓wParM_b, ↓wPar3_b, ↓wPar3M_b, ↓wAug_b, ↓wAsg_b, ↓wStore_b, ↓wFz_b, ↓wLock_b, ↓wFor, ↓wBreak_b, ↓wCont_b, ↓eLst, ↓eTup, ↓eC, ↓eVar_b, ↓oVar_b, ↓oE, ↓eBin, ↓eNeg, ↓eIs, ↓eIsNot, ↓aNil, ↓aCons, ↓sAdd, ↓sArith0, ↓sArith, ↓sMul, ↓sOrd, ↓sEq, ↓sNe, ↓bB, ↓bT, ↓truth, ↓bNot, ↓bAnd_b, ↓bOr_b, ↓eIf_b, ↓eAnd_b, ↓eOr_b, ↓eNot, ↓eFn_call, ↓eCall, ↓cInt, ↓cLen, ↓cAbs, ↓cMax2, ↓cMin2, ↓cTuple, ↓cList, ↓gT, ↓gN_b, ↓gsCons, ↓gsNil, ↓eLc_b, ↓lcEl_b, ↓eLc2_b, ↓lcEl2_b, ↓eRev, ↓eRevB, ↓eCutB, ↓pNone, ↓pSome, ↓iS, ↓eTokS, ↓eTok1, ↓bYes, ↓cSum, ↓cSumB, ↓cSortedI, ↓sInT, ↓sIn, ↓sNotIn, ↓sNotInT, ↓sIsB, ↓sIsNotB, ↓sIx_b, ↓cGcd, cGcd, ↓iE, ↓iRv, ↓iEnB, ↓iEnV_b, ↓iV_b, ↓iRange1, ↓iRange2, ↓eIsi, ↓eIsi2, eq_self, SIx_tup0, SIx_tup1, SIx_tup2, SIx_tup3, SIx_tup4, SIx_lst0, SIx_lst1, SIx_lst2, SIx_lst3, SIx_lst4, ne_eq, not_true_eq_false, not_false_eq_true, isNon, decide_true, decide_false, List.isEmpty_cons, List.isEmpty_nil, At_fz, At_ow, At_lk, At_no, Go_cons, Go_nil, Br_T, Br_F, gt, putM, put, slOf, wipeN, lks_c, lks_n, lk1_f, lk1_o, lk1_l, lk1_n, tnW, isTn, isLk_fz, isLk_ow, isLk_no, isLk_lk, List.set, nv0, List.map_cons, List.map_nil, List.replicate, List.cons_append, List.nil_append, List.length_cons, List.length_nil, pl_int, pl_bl, pl_non, List.all_cons, List.all_nil, List.any_cons, List.any_nil, fl_int, fl_bl, fl_non, fl_nats, fl_book, weq_int, weq_bl, weq_non, weq_nats, Bool.or_false, Bool.false_or, Bool.or_true, true_and, and_true, beq_iff_eq, decide_eq_true_eq, Bool.not_eq_true', Bool.not_true, Bool.not_false, Bool.true_eq_false, beq_eq_false_iff_ne, decide_eq_false_iff_not, Bool.and_eq_true, Bool.or_eq_true, Bool.not_not, if_true, Bool.false_eq_true, if_false, Nat.reduceAdd])
local macro_rules | `(tactic| walk_at "env") => `(tactic| repeat' (first | with_reducible rfl | apply congr (congrArg List.cons _) _))
local macro_rules | `(tactic| walk_at "ifp") => `(tactic| first | rw [if_pos (by assumption)] | rw [if_pos (decide_eq_true (by omega))] | rw [if_pos (by omega)] | rw [if_pos (by simp only [decide_eq_true_eq]; omega)] | rw [if_pos (by simp_all)])
local macro_rules | `(tactic| walk_at "ifn") => `(tactic| first | rw [if_neg (by assumption)] | rw [if_neg (by simp only [decide_eq_true_eq]; omega)] | rw [if_neg (by omega)] | rw [if_neg (by simp_all)])
theorem fl_str {x : Str} (h : PyData.strOk x = true) : Fl (.str x) := ⟨by unfold flat; rfl, by unfold stOk; exact h⟩
theorem v_l_law_eq_0 (ws : List W) (Q : W → Bool → Prop) (_ : ws.length = 2) (h : sq_l_law_eq 0 ws Q) : w_l_law_eq (fun _ _ => False) { nx := fun _ => Q .non false, rt := Q } (nv0 ws 1) := by
  obtain ⟨w, rfl, h, q⟩ := h
  unfold w_l_law_eq
  cases w <;> first | (unfold okW at h; cases h; done) | skip
  all_goals walk_at "vs"
  all_goals first
    | exact q
    | (rw [beq_self_eq_true]; exact q)
    | exact ⟨fl_str h, fl_str h, by unfold weq; rw [beq_self_eq_true]; exact q⟩
theorem v_l_law_eq_s (d : Nat) (ws : List W) (Q : W → Bool → Prop) (_ : ws.length = 2) (h : sq_l_law_eq (d + 1) ws Q) : w_l_law_eq (sq_l_law_eq d) { nx := fun _ => Q .non false, rt := Q } (nv0 ws 1) := by
  obtain ⟨w, rfl, h, q⟩ := h
  have go : ∀ (xs : List W) (s : Sl) (t : W), (t = .lst xs ∨ t = .tup xs) → xs.length ≤ 16777216 → xs.all (okW d) = true → ∀ i, i < xs.length →
      lcEl (gN 2) (bNot (bT (oE (eFn 2 (sq_l_law_eq d) (aCons (oE (eBin sIx (oVar 0) (oVar 2))) (aCons (oE (eBin sIx (oVar 1) (oVar 2))) aNil)))))) (eVar 2) [.fz t, .fz t, .no] (.int (0 + (i : Nat))) (fun o => o = if false = true then some (.int (i : Nat)) else none) := by
    intro xs s t ht hl ha i hi
    have ok : okW d xs[i] = true := List.all_eq_true.mp ha _ (List.getElem_mem hi)
    have at' : atI xs (0 + (i : Int)) = some xs[i] := by rw [Int.zero_add]; exact at_nat (List.getElem?_eq_getElem hi)
    walk_at "vs"
    rcases ht with rfl | rfl
    · refine ix_lst at' ?_
      walk_at "vs"
      refine ix_lst at' ?_
      walk_at "vs"
      refine ⟨_, rfl, ok, ?_⟩
      walk_at "vs"
    · refine ix_tup' at' ?_
      walk_at "vs"
      refine ix_tup' at' ?_
      walk_at "vs"
      refine ⟨_, rfl, ok, ?_⟩
      walk_at "vs"
  unfold w_l_law_eq
  cases w <;> first | (unfold okW at h; cases h; done) | skip
  case lst xs hx0 =>
    unfold okW at h
    rw [Bool.and_eq_true, decide_eq_true_eq] at h
    walk_at "vs"
    refine ⟨⟨by omega, by omega⟩, ?_⟩
    refine lcGo_filter (L := List.range (xs.length : Int).toNat) (f := fun i => .int (0 + (i : Nat))) (k := fun i => .int (i : Nat)) (t := fun _ => false) (by rw [List.length_range]; exact sz (by omega)) (fun i hi => go xs .no _ (.inl rfl) h.1 h.2 i (by rw [List.mem_range] at hi; omega)) ?_
    walk_at "vs"
    have e : (List.range (xs.length : Int).toNat).filter (fun _ => false) = [] := by simp
    rw [e, List.map_nil]
    exact ⟨Nat.zero_le _, of_eq_true (fl_nats []), of_eq_true (fl_nats []), by rw [show weq (.lst []) (.lst []) = true from weq_nats [] []]; exact q⟩
  case tup xs hx0 =>
    unfold okW at h
    rw [Bool.and_eq_true, decide_eq_true_eq] at h
    walk_at "vs"
    refine ⟨⟨by omega, by omega⟩, ?_⟩
    refine lcGo_filter (L := List.range (xs.length : Int).toNat) (f := fun i => .int (0 + (i : Nat))) (k := fun i => .int (i : Nat)) (t := fun _ => false) (by rw [List.length_range]; exact sz (by omega)) (fun i hi => go xs .no _ (.inr rfl) h.1 h.2 i (by rw [List.mem_range] at hi; omega)) ?_
    walk_at "vs"
    have e : (List.range (xs.length : Int).toNat).filter (fun _ => false) = [] := by simp
    rw [e, List.map_nil]
    exact ⟨Nat.zero_le _, of_eq_true (fl_nats []), of_eq_true (fl_nats []), by rw [show weq (.lst []) (.lst []) = true from weq_nats [] []]; exact q⟩
  all_goals walk_at "vs"
  all_goals first
    | exact q
    | (rw [beq_self_eq_true]; exact q)
    | (unfold okW at h; exact ⟨fl_str h, fl_str h, by unfold weq; rw [beq_self_eq_true]; exact q⟩)
theorem ok_l_law_draw {P : Program} {w : World} {K : PySem.W.Frag} {mg : Str → Option Value} {base : Heap} (M : Mb mg) (D : DefAt K mg "_law_draw" st_l_law_draw ["state", "many"]) : Cal P w K mg base 1 "_law_draw" ["state", "many"] spDraw := by
  refine cal_of D fun f fd F => F.ok sc_l_law_draw (fun vs H Q E h => ?_) (fun cdv A outer s H vs Q E hr h => ?_)
  · obtain ⟨F, ws, Q0, _, r, hl, _⟩ := h
    rw [← r.length]; exact hl
  obtain ⟨F, ws, Q0, hs, r, hl, ⟨m, rfl, m0, m1, q0⟩, k⟩ := h
  have nd := sc_l_law_draw.nd
  refine ⟨_, pss_cons (ps_set (i := 2) nd rfl (.inl rfl) (pe_ix ix_list (pv 0) pe_int (fun _ _ => rfl)))
    (pss_cons (ps_while PassesOwn.never (PW.pt (pw_and (pt_cmp (pc_gt (pe_callB call_len_seq (by rfl) M.m_len PySem.boot_len (pa_cons (pv 2) pa_nil)) pe_int)) (pw_and1 (pt_cmpR op_eq (pe_ix ix_list (pv 2) pe_int (fun _ _ => rfl)) pe_int (nomark _)))))
      (pss_one (ps_expr (pe_bm PySem.F.plainAttrs_list PySem.F.slot_list_pop PySem.F.type_list_pop mt_popAt (pv 2) (pa_cons pe_int pa_nil)))))
    (pss_cons (ps_if (pt_cmp (pc_gt (pe_callB call_len_seq (by rfl) M.m_len PySem.boot_len (pa_cons (pv 2) pa_nil)) pe_int))
      (pss_cons (ps_set (i := 3) nd rfl (.inl rfl) (pe_ix ix_list (pv 2) pe_int (fun _ _ => rfl)))
      (pss_cons (ps_asg (pe_op op_fdivW (pv 3) (pv 1)) (pg_sub (pv 2) pe_int set_list))
      (pss_one (ps_ret (pe_op op_mod (pe_callTy call_int1 (by rfl) M.m_int (by decide +kernel) (pa_cons (pv 3) pa_nil)) (pv 1)))))) pss_nil)
    (pss_cons (ps_set (i := 4) nd rfl (.inl rfl) (pe_op op_mod (pe_callTy call_int1 (by rfl) M.m_int (by decide +kernel) (pa_cons (pe_op op_add (pe_op op_mulW (pe_ix ix_list (pv 0) pe_int (fun _ _ => rfl)) pe_int) pe_int) pa_nil)) pe_int))
    (pss_cons (ps_asg (pv 4) (pg_sub (pv 0) pe_int set_list))
    (pss_one (ps_ret (pe_op op_mod (pe_callTy call_int1 (by rfl) M.m_int (by decide +kernel) (pa_cons (pe_op op_fdivW (pv 4) pe_int) pa_nil)) (pv 1)))))))), ?_⟩
  have rr := r
  unfold Reps at rr
  obtain ⟨v1, r1, rfl, h1, rr⟩ := rr
  unfold Reps at rr
  obtain ⟨v2, r2, rfl, h2, rr⟩ := rr
  unfold Reps at rr
  subst rr
  unfold Rep at h1 h2
  subst h2
  obtain ⟨a, b, rfl, hF⟩ := h1
  obtain ⟨hFb, sd, cells, hA, hB, s0, s1, cl, cp⟩ := hs a _ hF
  have nab : a ≠ b := fun z => by rw [z, hFb] at hF; cases hF
  have fin : ∀ (H' : Hp) (sd' : Int) (cells' : List Int) (v : Int), (∀ c o, H c = some o → c ≠ a → c ≠ b → H' c = some o) → H' a = some (.lst [.ref b, .int sd']) → H' b = some (.lst (cells'.map V.int)) → 0 ≤ sd' → sd' < 2 ^ 40 → cells'.length ≤ 63 → (∀ c ∈ cells', 0 ≤ c) → Q (.int (v % m)) H' := by
    intro H' sd' cells' v k1 k2 k3 k4 k5 k6 k7
    refine k _ _ (q0 (v % m) (Int.emod_nonneg _ (by omega)) (Int.emod_lt_of_pos _ m0)) F H' _ (Le.refl F) (tok_post hs hF k1 ⟨hFb, sd', cells', k2, k3, k4, k5, k6, k7⟩) ?_
    show Rep K F (.int (v % m)) _
    unfold Rep; rfl
  -- cells = state[0]
  refine ⟨_, rfl, a, _, 0, .ref b, rfl, rfl, .inl (.inl hA), rfl, ?_⟩
  -- the leading zeros go
  refine ⟨fun n σ H' => ∃ cs : List Int, n = cs.length ∧ σ = [some (.ref a), some (.int m), some (.ref b), none, none] ∧ (∀ c o, H c = some o → c ≠ b → H' c = some o) ∧ H' b = some (.lst (cs.map V.int)) ∧ cs.length ≤ 63 ∧ (∀ c ∈ cs, 0 ≤ c), ⟨_, cells, rfl, rfl, fun c o e _ => e, hB, cl, cp⟩, ?_⟩
  rintro n σ H' ⟨cs, rfl, rfl, kk, hb, cl', cp'⟩
  have ha : H' a = some (.lst [.ref b, .int sd]) := kk _ _ hA nab
  cases cs with
  | nil =>
    refine ⟨_, rfl, b, _, rfl, .inl (.inl (.inl hb)), _, _, rfl, rfl, _, rfl, ?_⟩
    refine ⟨_, rfl, b, _, rfl, .inl (.inl (.inl hb)), _, _, rfl, rfl, _, rfl, ?_⟩
    -- the next of the mixed numbers
    refine ⟨_, rfl, a, _, 1, .int sd, rfl, rfl, .inl (.inl ha), rfl, _, _, rfl, rfl, wide_mul (a := 41) (b := 20) (by omega) (by decide) (by decide) (by decide) (by decide), _, _, rfl, rfl, .inl ⟨_, rfl, _, _, rfl, rfl, (by show (0 : Int) < 2147483647; decide), ?_⟩⟩
    have hm0 : 0 ≤ (sd * 48271 + 12345) % 2147483647 := Int.emod_nonneg _ (by decide)
    have hm1 : (sd * 48271 + 12345) % 2147483647 < 2147483647 := Int.emod_lt_of_pos _ (by decide)
    refine ⟨_, rfl, _, rfl, a, _, 1, 1, rfl, rfl, ha, rfl, ?_⟩
    refine ⟨_, rfl, _, _, rfl, rfl, wide_div (b := 7) (by decide) (by decide) (by decide) (by decide), .inl ⟨_, rfl, _, rfl, _, _, rfl, rfl, m0, ?_⟩⟩
    refine fin _ ((sd * 48271 + 12345) % 2147483647) [] _ (fun c o e n1 n2 => ?_) upd_same ?_ hm0 (by omega) (by decide) (fun c hc => by cases hc)
    · rw [upd_ne n1]; exact kk c o e n2
    · rw [upd_ne (Ne.symm nab)]; exact hb
  | cons c0 rest =>
    refine ⟨_, rfl, b, _, rfl, .inl (.inl (.inl hb)), _, _, rfl, rfl, _, rfl, ?_⟩
    refine if_tt (decide_eq_true (by rw [List.length_map, List.length_cons]; omega)) ?_
    have at0 : atI ((c0 :: rest).map V.int) 0 = some (.int c0) := atI_nat (j := 0) rfl
    refine ⟨_, rfl, b, _, 0, .int c0, rfl, rfl, .inl (.inl hb), at0, rfl, ?_⟩
    refine ⟨_, rfl, ?_⟩
    have hp : 0 ≤ c0 := cp' c0 List.mem_cons_self
    by_cases hc0 : c0 = 0
    · refine if_tt (decide_eq_true (by rw [hc0])) ?_
      refine ⟨_, fun σ' H2 n => n, _, rfl, .inl ⟨rfl, _, .inl (.inl hb)⟩, b, _, 0, 0, .int c0, rfl, rfl, hb, by decide, by decide, ?_, rfl, ?_⟩
      · rw [List.length_map, List.length_cons]
        unfold seqIndex?
        simp only [show ¬ (0 : Int) < 0 by omega, if_false, Int.le_refl, decide_true, Bool.true_and, show (0 : Int) < ((rest.length + 1 : Nat) : Int) by omega, if_true, Int.toNat_zero]
      · refine ⟨rest.length, Nat.lt_succ_self _, rest, rfl, rfl, fun c o e n => by rw [upd_ne n]; exact kk c o e n, by rw [upd_same]; rfl, by rw [List.length_cons] at cl'; omega, fun c hc => cp' c (List.mem_cons_of_mem _ hc)⟩
    · refine if_ff (decide_eq_false (fun e => hc0 (V.int.inj e))) ?_
      refine ⟨_, rfl, b, _, rfl, .inl (.inl (.inl hb)), _, _, rfl, rfl, _, rfl, ?_⟩
      refine if_tt (decide_eq_true (by rw [List.length_map, List.length_cons]; omega)) ?_
      refine ⟨_, rfl, b, _, 0, .int c0, rfl, rfl, .inl (.inl hb), at0, ?_⟩
      refine ⟨_, rfl, _, rfl, _, _, rfl, rfl, wide_div (b := 256) m0 (by omega) (by decide) (by decide), _, rfl, b, _, 0, 0, rfl, rfl, hb, ?_, ?_⟩
      · rw [List.length_map, List.length_cons]; exact ixN_zero _
      refine ⟨_, rfl, .inl ⟨_, rfl, _, rfl, _, _, rfl, rfl, m0, ?_⟩⟩
      refine fin _ sd ((c0 / m) :: rest) _ (fun c o e n1 n2 => ?_) ?_ ?_ s0 s1 cl' (fun c hc => ?_)
      · rw [upd_ne n2]; exact kk c o e n2
      · rw [upd_ne nab]; exact ha
      · rw [upd_same]; rfl
      · rcases List.mem_cons.mp hc with z | z
        · subst z; exact Int.ediv_nonneg hp (by omega)
        · exact cp' c (List.mem_cons_of_mem _ z)
theorem v_l_law_state (ws : List W) (Q : W → Bool → Prop) (_ : ws.length = 1) (h : sp_l_law_state ws Q) : w_l_law_state { nx := fun _ => Q .non false, rt := Q } (nv0 ws 2) := by
  obtain ⟨rfl, q⟩ := h
  unfold w_l_law_state
  walk_at "vl"
  intro ns hn
  refine forGo_pre (fun A η => ∃ (s : Int) (z : Sl), η = [.fz .scr, .fz (.int s), z] ∧ isLk z = false ∧ 0 ≤ s ∧ s < 1000003) ⟨7, .no, rfl, rfl, by decide, by decide⟩ ?_ ?_
  · rintro A B' x η e ⟨s, z, rfl, l2, s0, s1⟩
    walk_at "vl"
    refine ⟨l2, ⟨sm_int (by omega) (by omega), sm_int (by decide) (by decide)⟩, by decide, _, _, rfl, rfl, Int.emod_nonneg _ (by decide), Int.emod_lt_of_pos _ (by decide)⟩
  · rintro η ⟨s, z, rfl, l2, s0, s1⟩
    cases z with
    | lk _ => cases l2
    | _ =>
    walk_at "vl"
    intro ns hn
    refine lcGo_all (k := fun c : Int => .int (if c < 0 then -c else c)) (Nat.le_trans hn (sz (by decide))) (fun c hc => ?_) ?_
    · walk_at "vl"
    · refine ⟨ns.map fun c => if c < 0 then -c else c, by rw [List.map_map]; rfl, by rw [List.length_map]; exact hn, fun c hc => ?_, s, rfl, s0, by omega, q⟩
      obtain ⟨d, _, rfl⟩ := List.mem_map.mp hc
      show 0 ≤ if d < 0 then -d else d
      split <;> omega
theorem v_l_law_pick (ws : List W) (Q : W → Bool → Prop) (_ : ws.length = 2) (h : sp_l_law_pick ws Q) : w_l_law_pick { nx := fun _ => Q .non false, rt := Q } (nv0 ws 0) := by
  obtain ⟨xs, rfl, h1, h2, q⟩ := h
  unfold w_l_law_pick
  walk_at "vs"
  refine ⟨_, rfl, by omega, by omega, fun r r0 r1 => ?_⟩
  exact ix_any r0 r1 q
theorem v_l_law_powers (ws : List W) (Q : W → Bool → Prop) (_ : ws.length = 1) (h : sp_l_law_powers ws Q) : w_l_law_powers { nx := fun _ => Q .non false, rt := Q } (nv0 ws 3) := by
  obtain ⟨n, rfl, h1, h2, q⟩ := h
  unfold w_l_law_powers
  walk_at "vs"
  refine ⟨sz (by decide), ?_⟩
  refine while_introB (fun m η => ∃ (L : List (Nat × Nat)) (left d : Nat) (hi : Sl), η = [.fz (.int left), .fz (.lst (pairsW L)), .fz (.int d), hi] ∧ isLk hi = false ∧ Bk (bprod L) L ∧ bprod L * left = n ∧ (∀ x ∈ L, x.1 < d) ∧ Rough d left ∧ 2 ≤ d ∧ 1 ≤ left ∧ d ≤ n + 2 ∧ m = n + 2 - d) _ ⟨[], n, 2, .no, rfl, rfl, bk_nil, by simp [bprod], (fun x hx => by cases hx), rough2 n, by decide, h1, by omega, rfl⟩ ?_
  rintro m η ⟨L, left, d, hi, rfl, hlk, bk, hprod, hlt, rough, d2, l1, db, rfl⟩
  have lb : left ≤ n := by rw [← hprod]; exact Nat.le_mul_of_pos_left _ bk.pos
  have Lb : L.length < 44 := bk.len (Nat.lt_of_le_of_lt (Nat.le_trans (Nat.le_mul_of_pos_right _ l1) (Nat.le_of_eq hprod)) h2)
  walk_at "vs"
  refine ⟨⟨sm_nat 60 (by omega) (by decide), sm_nat 60 (by omega) (by decide)⟩, br_both (fun c => ?_) (fun c => ?_)⟩
  · have c : d * d ≤ left := by exact_mod_cast c
    have dl : d ≤ left := Nat.le_trans (Nat.le_mul_of_pos_right _ (by omega)) c
    walk_at "vs"
    refine ⟨hlk, while_introB (fun m η => ∃ l' h : Nat, η = [.fz (.int l'), .fz (.lst (pairsW L)), .fz (.int d), .fz (.int h)] ∧ l' * d ^ h = left ∧ 1 ≤ l' ∧ m = l') left ⟨left, 0, rfl, by simp, l1, rfl⟩ ?_⟩
    rintro m η ⟨l', h, rfl, hl', l1', rfl⟩
    walk_at "vs"
    refine ⟨by omega, br_both (fun z => ?_) (fun z => ?_)⟩
    · have z : m % d = 0 := by exact_mod_cast z
      obtain ⟨k, hk⟩ := Nat.dvd_of_mod_eq_zero z
      have k1 : 1 ≤ k := by
        rcases Nat.eq_zero_or_pos k with z | z
        · subst z; omega
        · exact z
      walk_at "vs"
      have e : ((m : Int) / (d : Int)) = ((k : Nat) : Int) := by rw [hk]; exact_mod_cast Nat.mul_div_cancel_left k (by omega)
      refine ⟨⟨by omega, by omega⟩, k, by rw [hk]; have := Nat.mul_le_mul_right k d2; omega, k, h + 1, ?_, ?_, k1, rfl⟩
      · rw [e]; rfl
      · rw [← hl', hk, Nat.pow_succ]; ac_rfl
    · have z : ¬ d ∣ m := fun w => z (by exact_mod_cast Nat.mod_eq_zero_of_dvd w)
      have rough' : Rough (d + 1) m := (rough.mono ⟨d ^ h, hl'.symm⟩).succ z
      have le' : m ≤ left := by rw [← hl']; exact Nat.le_mul_of_pos_right _ (Nat.pow_pos (by omega))
      walk_at "vs"
      refine br_both (fun hh => ?_) (fun hh => ?_)
      · have hh : 0 < h := by omega
        walk_at "vs"
        have pp : Pr d := rough.pr_dvd d2 ⟨m * d ^ (h - 1), by rw [← hl', show d ^ h = d ^ (h - 1) * d from by rw [← Nat.pow_succ, show (h - 1).succ = h from by omega]]; ac_rfl⟩
        have bk2 := bk.snoc pp hh hlt
        have e2 : bprod (L ++ [(d, h)]) = bprod L * d ^ h := bk2.prod
        refine ⟨sz (by decide), sz (by decide), sz (by rw [pairsW_len]; omega), n + 2 - (d + 1), by omega, L ++ [(d, h)], m, d + 1, .fz (.int h), ?_, rfl, e2 ▸ bk2, by rw [e2, ← hprod, ← hl']; ac_rfl, fun x hx => ?_, rough', by omega, l1', by omega, rfl⟩
        · rw [pairsW_snoc]; rfl
        · rcases List.mem_append.mp hx with z | z
          · have := hlt x z; omega
          · rw [List.mem_singleton] at z; subst z; exact Nat.lt_succ_self _
      · have h0 : h = 0 := by omega
        subst h0
        have hml : m = left := by simpa using hl'
        subst hml
        walk_at "vs"
        refine ⟨sz (by decide), sz (by rw [pairsW_len]; omega), n + 2 - (d + 1), by omega, L, m, d + 1, .fz (.int ((0 : Nat) : Int)), ?_, rfl, bk, hprod, fun x hx => by have := hlt x hx; omega, rough', by omega, l1, by omega, rfl⟩
        rw [List.append_nil]; rfl
  · have c : ¬ d * d ≤ left := fun z => c (by exact_mod_cast z)
    walk_at "vs"
    refine br_both (fun z => ?_) (fun z => ?_)
    · have z : 2 ≤ left := by omega
      have pr : Pr left := rough.pr z (by omega)
      have dl : d ≤ left := Nat.le_of_not_lt fun w => rough left z w ⟨1, by omega⟩
      walk_at "vs"
      have bk2 := bk.snoc pr (Nat.le_refl 1) fun x hx => Nat.lt_of_lt_of_le (hlt x hx) dl
      rw [Nat.pow_one, hprod] at bk2
      refine ⟨sz (by decide), sz (by decide), sz (by rw [pairsW_len]; omega), ?_⟩
      have := q _ bk2
      rw [← pairsW_snoc] at this
      exact this
    · have h0 : left = 1 := by omega
      subst h0
      walk_at "vs"
      rw [Nat.mul_one] at hprod
      refine ⟨sz (by decide), sz (by rw [pairsW_len]; omega), ?_⟩
      rw [List.append_nil]
      exact q _ (hprod ▸ bk)
theorem v_power (ws : List W) (Q : W → Bool → Prop) (_ : ws.length = 2) (h : sp_power ws Q) : w_power { nx := fun _ => Q .non false, rt := Q } (nv0 ws 1) := by
  obtain ⟨b, n, rfl, hb0, hb, hn, q⟩ := h
  have top := pow_top hb hn
  unfold w_power
  walk_at "vl"
  refine while_intro (fun m η => ∃ B t : Nat, η = [.fz (.int B), .fz (.int m), .fz (.int t)] ∧ t * B ^ m = b ^ n ∧ 1 ≤ t ∧ 1 ≤ B) n ⟨b, 1, rfl, by simp, by decide, hb0⟩ ?_
  rintro m η ⟨B, t, rfl, e, t1, B1⟩
  have tb : t ≤ b ^ n := by rw [← e]; exact Nat.le_mul_of_pos_right _ (Nat.pow_pos B1)
  have ht : SM (t : Int) := sm_nat 12100 (by omega) (by decide)
  walk_at "vl"
  by_cases hm : 0 < m
  · have Bb : B ≤ b ^ n := by
      rw [← e]
      refine Nat.le_trans ?_ (Nat.le_mul_of_pos_left _ t1)
      exact Nat.le_self_pow (by omega) B
    have hB : SM (B : Int) := sm_nat 12100 (by omega) (by decide)
    have half : ((m : Int) / 2) = ((m / 2 : Nat) : Int) := rfl
    rw [if_pos (by exact_mod_cast hm)]
    refine ⟨by decide, ?_⟩
    have mo : m % 2 = 0 ∨ m % 2 = 1 := by omega
    rcases mo with z | z
    · rw [if_neg (by omega)]
      refine ⟨⟨hB, hB⟩, ⟨by decide, by decide⟩, m / 2, by omega, B * B, t, by simp, ?_, t1, Nat.mul_pos B1 B1⟩
      rw [← e, ← Nat.pow_two, ← Nat.pow_mul, show 2 * (m / 2) = m from by omega]
    · rw [if_pos (by omega)]
      refine ⟨⟨ht, hB⟩, ⟨hB, hB⟩, ⟨by decide, by decide⟩, m / 2, by omega, B * B, t * B, by simp, ?_, Nat.mul_pos t1 B1, Nat.mul_pos B1 B1⟩
      rw [← e, ← Nat.pow_two, ← Nat.pow_mul, Nat.mul_assoc, ← Nat.pow_succ', show (2 * (m / 2)).succ = m from by omega]
  · have m0 : m = 0 := by omega
    subst m0
    rw [if_neg (by omega)]
    rw [Nat.pow_zero, Nat.mul_one] at e
    subst e
    exact q
theorem nb_mul {x y : Int} {a b : Nat} (h : x.natAbs < 2 ^ a) (k : y.natAbs < 2 ^ b) : (x * y).natAbs < 2 ^ (a + b) := by
  rw [Int.natAbs_mul, Nat.pow_add]
  exact Nat.mul_lt_mul'' h k
theorem mk_ok {x y : Int} {a b : Nat} (h : x.natAbs < 2 ^ a) (k : y.natAbs < 2 ^ b) (ha : a ≤ 400000) (hb : b ≤ 400000) : VL.MulOk x y := ⟨sm_abs a h ha, sm_abs b k hb⟩
theorem gcd_pos {p q : Int} (hq : 0 < q) (h2 : q < 2 ^ 8000) : (0 : Int) < (Int.gcd p q : Nat) ∧ ((Int.gcd p q : Nat) : Int) < 2 ^ 8000 := by
  have h1 : 0 < Int.gcd p q := Int.gcd_pos_of_ne_zero_right p (by omega)
  have h3 : Int.gcd p q ≤ q.natAbs := Int.gcd_le_natAbs_right p (by omega)
  omega
theorem v_lowest (ws : List W) (Q : W → Bool → Prop) (_ : ws.length = 2) (h : sp_lowest ws Q) : w_lowest { nx := fun _ => Q .non false, rt := Q } (nv0 ws 1) := by
  obtain ⟨p, q, rfl, h1, h2, z⟩ := h
  have g := gcd_pos (p := p) h1 h2
  unfold w_lowest
  walk_at "vs"
  refine br_pos h1 ?_
  walk_at "vs"
  exact ⟨divW_of g.1 g.2, divW_of g.1 g.2, sz (by decide), z⟩
theorem v_l_law_frac (ws : List W) (Q : W → Bool → Prop) (_ : ws.length = 2) (h : sp_l_law_frac ws Q) : w_l_law_frac { nx := fun _ => Q .non false, rt := Q } (nv0 ws 2) := by
  obtain ⟨p, q, rfl, h1, h2, z⟩ := h
  have g := gcd_pos (p := p) h1 h2
  have ab : ∀ i : Int, (if i < 0 then -i else i) = (i.natAbs : Nat) := fun i => by split <;> omega
  unfold w_l_law_frac
  walk_at "vs"
  rw [ab, ab]
  refine while_introB (fun m η => ∃ a : Nat, η = [.fz (.int p), .fz (.int q), .fz (.int a), .fz (.int m)] ∧ Nat.gcd a m = Int.gcd p q) q.natAbs ⟨p.natAbs, rfl, rfl⟩ ?_
  rintro m η ⟨a, rfl, e⟩
  walk_at "vs"
  by_cases hm : 0 < m
  · refine br_pos (by omega) ?_
    walk_at "vs"
    refine ⟨by omega, a % m, Nat.mod_lt _ hm, m, by rfl, ?_⟩
    rw [← e, Nat.gcd_comm m, ← Nat.gcd_rec, Nat.gcd_comm]
  · refine br_neg (by omega) ?_
    have m0 : m = 0 := by omega
    subst m0
    rw [Nat.gcd_zero_right] at e
    subst e
    walk_at "vs"
    refine br_pos h1 ?_
    walk_at "vs"
    exact ⟨divW_of g.1 g.2, divW_of g.1 g.2, sz (by decide), z⟩
theorem v_ways (ws : List W) (Q : W → Bool → Prop) (_ : ws.length = 2) (h : sp_ways ws Q) : w_ways { nx := fun _ => Q .non false, rt := Q } (nv0 ws 2) := by
  obtain ⟨n, k, rfl, hn, hk, q⟩ := h
  unfold w_ways
  walk_at "vs"
  rw [Int.toNat_natCast]
  refine ⟨⟨by omega, by omega⟩, ?_⟩
  refine forGo_rg (fun i η => ∃ s : Sl, η = [.fz (.int n), .fz (.int k), .fz (.int (wys n i : Nat)), s] ∧ isLk s = false) ⟨.no, rfl, rfl⟩ ?_ ?_
  · rintro i η hi ⟨s, rfl, l⟩
    have wb : wys n i < 2 ^ 80 := by
      have t := List.all_eq_true.mp wys_tab n (List.mem_range.mpr (by omega))
      exact of_decide_eq_true (List.all_eq_true.mp t i (List.mem_range.mpr (by omega)))
    walk_at "vs"
    refine ⟨l, ⟨sm_nat 80 wb (by decide), sm_int (by omega) (by omega)⟩, ⟨by omega, by omega⟩, .fz (.int (0 + (i : Nat))), ?_, rfl⟩
    rw [show ((n : Int) - (0 + (i : Nat))) = ((n - i : Nat) : Int) by omega, show (0 : Int) + (i : Nat) + 1 = ((i + 1 : Nat) : Int) by omega, ← Int.natCast_mul, ← Int.natCast_ediv]
    rfl
  · rintro η ⟨s, rfl, l⟩
    walk_at "vs"
    exact q
theorem v_l_law_add (ws : List W) (Q : W → Bool → Prop) (_ : ws.length = 2) (h : sp_l_law_add ws Q) : w_l_law_add { nx := fun _ => Q .non false, rt := Q } (nv0 ws 0) := by
  obtain ⟨x, y, rfl, x0, y0, x2, y2, x1, y1, q⟩ := h
  unfold w_l_law_add frP
  walk_at "vs"
  have x2' : x.2.natAbs < 2 ^ 3000 := by omega
  have y2' : y.2.natAbs < 2 ^ 3000 := by omega
  have m := nb_mul x2' y2'
  have p0 := Int.mul_pos x0 y0
  refine ⟨mk_ok x1 y2' (by decide) (by decide), mk_ok y1 x2' (by decide) (by decide), mk_ok x2' y2' (by decide) (by decide), _, _, rfl, p0, ?_, q⟩
  have : (2 : Nat) ^ (3000 + 3000) < 2 ^ 8000 := Nat.pow_lt_pow_right (by decide) (by decide)
  omega
theorem rough_nx {d n : Nat} (h : Rough d n) (d2 : 2 ≤ d) (o : d = 2 ∨ d % 2 = 1) (k : ¬ d ∣ n) : Rough (if d = 2 then d + 1 else d + 2) n := by
  by_cases c : d = 2
  · rw [if_pos c]; exact h.succ k
  · rw [if_neg c]; exact h.odd (by omega) (o.resolve_left c) k
theorem v_prime_powers (ws : List W) (Q : W → Bool → Prop) (_ : ws.length = 1) (h : sp_prime_powers ws Q) : w_prime_powers { nx := fun _ => Q .non false, rt := Q } (nv0 ws 3) := by
  obtain ⟨n, rfl, h1, h2, q⟩ := h
  unfold w_prime_powers
  walk_at "vs"
  refine ⟨sz (by decide), ?_⟩
  refine while_introB (fun m η => ∃ (L : List (Nat × Nat)) (left d : Nat) (hi : Sl), η = [.fz (.int left), .ow (.lst (pairsW L)), .fz (.int d), hi] ∧ isLk hi = false ∧ Bk (bprod L) L ∧ bprod L * left = n ∧ (∀ x ∈ L, x.1 < d) ∧ Rough d left ∧ 2 ≤ d ∧ (d = 2 ∨ d % 2 = 1) ∧ 1 ≤ left ∧ d ≤ n + 3 ∧ m = n + 3 - d) _ ⟨[], n, 2, .no, rfl, rfl, bk_nil, by simp [bprod], (fun x hx => by cases hx), rough2 n, by decide, .inl rfl, h1, by omega, rfl⟩ ?_
  rintro m η ⟨L, left, d, hi, rfl, hlk, bk, hprod, hlt, rough, d2, dodd, l1, db, rfl⟩
  have lb : left ≤ n := by rw [← hprod]; exact Nat.le_mul_of_pos_left _ bk.pos
  have Lb : L.length < 44 := bk.len (Nat.lt_of_le_of_lt (Nat.le_trans (Nat.le_mul_of_pos_right _ l1) (Nat.le_of_eq hprod)) h2)
  walk_at "vs"
  refine ⟨⟨sm_nat 60 (by omega) (by decide), sm_nat 60 (by omega) (by decide)⟩, br_both (fun c => ?_) (fun c => ?_)⟩
  · have c : d * d ≤ left := by exact_mod_cast c
    have dl : d ≤ left := Nat.le_trans (Nat.le_mul_of_pos_right _ (by omega)) c
    walk_at "vs"
    refine ⟨hlk, while_introB (fun m η => ∃ l' h : Nat, η = [.fz (.int l'), .ow (.lst (pairsW L)), .fz (.int d), .fz (.int h)] ∧ l' * d ^ h = left ∧ 1 ≤ l' ∧ m = l') left ⟨left, 0, rfl, by simp, l1, rfl⟩ ?_⟩
    rintro m η ⟨l', h, rfl, hl', l1', rfl⟩
    walk_at "vs"
    refine ⟨by omega, br_both (fun z => ?_) (fun z => ?_)⟩
    · have z : m % d = 0 := by exact_mod_cast z
      obtain ⟨k, hk⟩ := Nat.dvd_of_mod_eq_zero z
      have k1 : 1 ≤ k := by
        rcases Nat.eq_zero_or_pos k with z | z
        · subst z; omega
        · exact z
      walk_at "vs"
      have e : ((m : Int) / (d : Int)) = ((k : Nat) : Int) := by rw [hk]; exact_mod_cast Nat.mul_div_cancel_left k (by omega)
      refine ⟨⟨by omega, by omega⟩, k, by rw [hk]; have := Nat.mul_le_mul_right k d2; omega, k, h + 1, ?_, ?_, k1, rfl⟩
      · rw [e]; rfl
      · rw [← hl', hk, Nat.pow_succ]; ac_rfl
    · have z : ¬ d ∣ m := fun w => z (by exact_mod_cast Nat.mod_eq_zero_of_dvd w)
      have rough' := rough_nx (rough.mono ⟨d ^ h, hl'.symm⟩) d2 dodd z
      have le' : m ≤ left := by rw [← hl']; exact Nat.le_mul_of_pos_right _ (Nat.pow_pos (by omega))
      have fin : ∀ (L2 : List (Nat × Nat)), Bk (bprod L2) L2 → bprod L2 * m = n → (∀ x ∈ L2, x.1 ≤ d) → ∃ m', m' < n + 3 - d ∧ ∃ L left d_1 hi, [Sl.fz (.int m), Sl.ow (.lst (pairsW L2)), Sl.fz (.int ((if d = 2 then d + 1 else d + 2 : Nat) : Int)), Sl.fz (.int h)] = [Sl.fz (.int (left : Nat)), Sl.ow (.lst (pairsW L)), Sl.fz (.int (d_1 : Nat)), hi] ∧ isLk hi = false ∧ Bk (bprod L) L ∧ bprod L * left = n ∧ (∀ x : Nat × Nat, x ∈ L → x.1 < d_1) ∧ Rough d_1 left ∧ 2 ≤ d_1 ∧ (d_1 = 2 ∨ d_1 % 2 = 1) ∧ 1 ≤ left ∧ d_1 ≤ n + 3 ∧ m' = n + 3 - d_1 := by
        intro L2 b2 e2 lt2
        refine ⟨_, ?_, L2, m, (if d = 2 then d + 1 else d + 2), .fz (.int h), rfl, rfl, b2, e2, fun x hx => ?_, rough', ?_, ?_, l1', ?_, rfl⟩
        · split <;> omega
        · have := lt2 x hx; split <;> omega
        · split <;> omega
        · split <;> omega
        · split <;> omega
      refine seq_hide fun R hR => ?_
      have key : ∀ L2 : List (Nat × Nat), Bk (bprod L2) L2 → bprod L2 * m = n → (∀ x ∈ L2, x.1 ≤ d) → R [.fz (.int m), .ow (.lst (pairsW L2)), .fz (.int d), .fz (.int h)] := by
        intro L2 b2 e2 lt2
        have f := fin L2 b2 e2 lt2
        rw [hR]
        walk_at "vs"
        refine br_both (fun y => ?_) (fun y => ?_)
        · have y : d = 2 := by omega
          walk_at "vs"
          rw [if_pos y] at f
          exact f
        · have y : ¬ d = 2 := by omega
          walk_at "vs"
          rw [if_neg y] at f
          exact f
      clear hR
      walk_at "vs"
      refine br_both (fun hh => ?_) (fun hh => ?_)
      · have hh : 0 < h := by omega
        walk_at "vs"
        have pp : Pr d := rough.pr_dvd d2 ⟨m * d ^ (h - 1), by rw [← hl', show d ^ h = d ^ (h - 1) * d from by rw [← Nat.pow_succ, show (h - 1).succ = h from by omega]]; ac_rfl⟩
        have bk2 := bk.snoc pp hh hlt
        have e2 : bprod (L ++ [(d, h)]) = bprod L * d ^ h := bk2.prod
        have kk := key (L ++ [(d, h)]) (e2 ▸ bk2) (by rw [e2, ← hprod, ← hl']; ac_rfl) (fun x hx => by
          rcases List.mem_append.mp hx with z | z
          · exact Nat.le_of_lt (hlt x z)
          · rw [List.mem_singleton] at z; subst z; exact Nat.le_refl _)
        rw [← pairsW_snoc] at kk
        exact ⟨sz (by decide), sz' (by rw [pairsW_len]; omega), kk⟩
      · have h0 : h = 0 := by omega
        subst h0
        have hml : m = left := by simpa using hl'
        subst hml
        walk_at "vs"
        exact key L bk hprod fun x hx => Nat.le_of_lt (hlt x hx)
  · have c : ¬ d * d ≤ left := fun z => c (by exact_mod_cast z)
    walk_at "vs"
    refine br_both (fun z => ?_) (fun z => ?_)
    · have z : 2 ≤ left := by omega
      have pr : Pr left := rough.pr z (by omega)
      have dl : d ≤ left := Nat.le_of_not_lt fun w => rough left z w ⟨1, by omega⟩
      walk_at "vs"
      have bk2 := bk.snoc pr (Nat.le_refl 1) fun x hx => Nat.lt_of_lt_of_le (hlt x hx) dl
      rw [Nat.pow_one, hprod] at bk2
      refine ⟨sz (by decide), sz (by decide), sz (by rw [pairsW_len]; omega), ?_⟩
      have := q _ bk2
      rw [← pairsW_snoc] at this
      exact this
    · have h0 : left = 1 := by omega
      subst h0
      walk_at "vs"
      rw [Nat.mul_one] at hprod
      refine ⟨sz (by decide), sz (by rw [pairsW_len]; omega), ?_⟩
      rw [List.append_nil]
      exact q _ (hprod ▸ bk)
theorem divs_lt11 {n : Nat} (h : 0 < n) (k : n < 2 ^ 20) {S : List Nat} (a : All n S) : S.length ≤ 2 ^ 11 := by
  rw [(a.perm (divs_dv h).all).length_eq]
  exact divs_len (D := 2 ^ 10) h (by omega)
theorem bk_ge' {n : Nat} {A B : List (Nat × Nat)} (b : Bk n (A ++ B)) : bprod A ≤ n := by
  have := b.prod
  rw [bprod_append] at this
  rw [← this]
  exact Nat.le_mul_of_pos_right _ (bprod_pos fun x hx => b.pr x (List.mem_append_right _ hx))
theorem v_divisors (ws : List W) (Q : W → Bool → Prop) (_ : ws.length = 1) (h : sp_divisors ws Q) : w_divisors { nx := fun _ => Q .non false, rt := Q } (nv0 ws 5) := by
  obtain ⟨n, rfl, h1, h2, q⟩ := h
  unfold w_divisors
  walk_at "vs"
  refine ⟨sz (by decide), n, rfl, h1, by omega, fun L bL => ?_⟩
  walk_at "vs"
  refine forGo_pre (f := fun x : Nat × Nat => W.tup [.int (x.1 : Nat), .int (x.2 : Nat)]) (L := L) (fun A η => ∃ (S : List Nat) (s2 s3 : Sl), η = [.fz (.int n), .fz (.lst (natsW S)), s2, s3, .no, .no] ∧ isLk s2 = false ∧ isLk s3 = false ∧ All (bprod A) S) ⟨[1], .no, .no, rfl, rfl, rfl, all_one⟩ ?_ ?_
  · rintro A B x η eL ⟨S, s2, s3, rfl, l2, l3, aS⟩
    obtain ⟨p, h⟩ := x
    walk_at "vs"
    have bh := (bL.height (show n < 2 ^ 60 by omega) (x := (p, h)) (by rw [eL]; simp))
    simp at bh
    have c := bk_pre (A := A ++ [(p, h)]) (B := B) (by rw [show A ++ [(p, h)] ++ B = L by rw [eL]; simp]; exact bL)
    have le := bk_ge' (A := A ++ [(p, h)]) (B := B) (by rw [show A ++ [(p, h)] ++ B = L by rw [eL]; simp]; exact bL)
    have hp : Pr p := (c.pr (p, h) (by simp)).1
    have bA := bk_pre c
    have e2 : bprod (A ++ [(p, h)]) = bprod A * p ^ h := by rw [bprod_append]; simp [bprod]
    have nd : ¬ p ∣ bprod A := fun z => by
      obtain ⟨k, m⟩ := pr_bprod hp bA.pr z
      have := (List.pairwise_append.mp c.asc).2.2 _ m _ (List.mem_singleton.mpr rfl)
      exact Nat.lt_irrefl _ this
    have aF : All (bprod (A ++ [(p, h)])) (fmul S p h) := by
      rw [e2]
      exact (aS.step bA.pos hp nd).of_perm (fmul_perm S p h)
    have flen : ∀ T : List Nat, (fmul T p h).length = T.length * (h + 1) := fun T => by
      unfold fmul
      induction T with
      | nil => simp
      | cons t T ih => rw [List.flatMap_cons, List.length_append, ih, List.length_map, List.length_range, List.length_cons, Nat.add_mul]; omega
    have fb := divs_lt11 c.pos (by omega) aF
    rw [flen] at fb
    refine ⟨l2, l3, lcGo2_pre (f := fun d : Nat => W.int (d : Nat)) (L := S) (fun C acc => acc = natsW (fmul C p h)) rfl ?_ ?_⟩
    · rintro C D x acc eS rfl
      have xm : x ∈ S := by rw [eS]; simp
      have xb : x ≤ n := Nat.le_trans (Nat.le_of_dvd bA.pos ((aS.mem x).mp xm)) (Nat.le_trans (by rw [e2]; exact Nat.le_mul_of_pos_right _ (Nat.pow_pos hp.pos)) le)
      have cl : C.length * (h + 1) + (h + 1) ≤ 2 ^ 11 := by
        have : S.length = C.length + (D.length + 1) := by rw [eS, List.length_append, List.length_cons]
        rw [this, Nat.add_mul, Nat.add_mul] at fb
        omega
      walk_at "vs"
      refine ⟨⟨by omega, by omega⟩, ?_⟩
      rw [show ((h : Int) + 1).toNat = h + 1 by omega, rgW_map]
      refine lcGo_on (k := fun j => W.int ((x * p ^ j : Nat) : Int)) (by rw [natsW_len, flen, List.length_range]; exact sz (by omega)) (fun j hj => ?_) ?_
      · have hj := List.mem_range.mp hj
        have pj : p ^ j ≤ p ^ h := Nat.pow_le_pow_right hp.pos (by omega)
        walk_at "vs"
        refine ⟨p, j, by simp, by omega, by show p < 2 ^ 60; omega, by omega, ?_⟩
        walk_at "vs"
        refine ⟨⟨sm_nat 30 (by omega) (by decide), sm_nat 30 (by omega) (by decide)⟩, ?_⟩
        rw [← Int.natCast_mul]
      · have : fmul (C ++ [x]) p h = fmul C p h ++ (List.range (h + 1)).map fun j => x * p ^ j := by
          unfold fmul; rw [List.flatMap_append]; simp
        rw [this, ← natsW_app]
        unfold natsW
        rw [List.map_map]; rfl
    · rintro acc rfl
      exact ⟨_, _, _, rfl, rfl, rfl, aF⟩
  · rintro η ⟨S, s2, s3, rfl, l2, l3, aS⟩
    walk_at "vs"
    rw [bL.prod] at aS
    exact q S aS
theorem bk_one {n : Nat} {L : List (Nat × Nat)} (b : Bk n L) (h2 : 2 ≤ n) : L = [(n, 1)] ↔ Pr n := by
  constructor
  · intro e
    subst e
    exact (b.pr (n, 1) (by simp)).1
  · intro hp
    have c : Bk n [(n, 1)] := by
      have := bk_nil.cons (p := n) (h := 1) hp (Nat.le_refl _) (fun x hx => by cases hx)
      rw [Nat.pow_one, Nat.mul_one] at this
      exact this
    exact b.uniq c
theorem isPb_pr {n : Nat} : isPb n = true ↔ Pr n := by
  unfold isPb
  rw [Bool.and_eq_true, decide_eq_true_eq, List.all_eq_true]
  constructor
  · rintro ⟨h2, h⟩
    refine ⟨h2, fun d hd => ?_⟩
    have le := Nat.le_of_dvd (by omega) hd
    have d0 := Nat.pos_of_dvd_of_pos hd (by omega)
    by_cases e : d = n
    · exact .inr e
    · by_cases e1 : d = 1
      · exact .inl e1
      · have := h (d - 2) (List.mem_range.mpr (by omega))
        rw [show d - 2 + 2 = d by omega, decide_eq_true (Nat.mod_eq_zero_of_dvd hd)] at this
        cases this
  · intro hp
    refine ⟨hp.two_le, fun d hd => ?_⟩
    have hd := List.mem_range.mp hd
    rw [Bool.not_eq_true', decide_eq_false_iff_not]
    intro z
    rcases hp.2 (d + 2) (Nat.dvd_of_mod_eq_zero z) with e | e <;> omega
theorem weq_pairs1 (L : List (Nat × Nat)) (n : Nat) : weq (.lst (pairsW L)) (.lst [.tup [.int (n : Nat), .int 1]]) = decide (L = [(n, 1)]) := by
  cases L with
  | nil => unfold pairsW weq weqs; rfl
  | cons x L =>
    obtain ⟨p, h⟩ := x
    cases L with
    | nil =>
      unfold pairsW weq
      simp only [List.map_cons, List.map_nil]
      unfold weqs weqs weq weqs weqs weqs
      simp only [weq_int, Bool.and_true]
      by_cases c : p = n ∧ h = 1
      · obtain ⟨rfl, rfl⟩ := c; simp
      · rw [decide_eq_false (by simpa using c)]
        rw [Bool.and_eq_false_iff]
        by_cases d : p = n
        · right
          have : h ≠ 1 := fun z => c ⟨d, z⟩
          rw [beq_eq_false_iff_ne]; omega
        · left
          rw [beq_eq_false_iff_ne]; omega
    | cons y L =>
      unfold pairsW weq
      simp only [List.map_cons]
      unfold weqs weqs
      simp
theorem fl_pairs (L : List (Nat × Nat)) : Fl (.lst (pairsW L)) := of_eq_true (fl_lmap (fun _ => rfl) (fun _ => rfl) L)
theorem fl_pair1 (n : Int) : Fl (.lst [.tup [.int n, .int 1]]) := ⟨by unfold flat flats flat flats flats flats flat; rfl, by unfold stOk stOks stOk stOks stOks stOks stOk; rfl⟩
theorem v_l_law_is_prime (ws : List W) (Q : W → Bool → Prop) (_ : ws.length = 1) (h : sp_l_law_is_prime ws Q) : w_l_law_is_prime { nx := fun _ => Q .non false, rt := Q } (nv0 ws 0) := by
  obtain ⟨n, rfl, h1, h2, q⟩ := h
  unfold w_l_law_is_prime
  walk_at "vs"
  refine ⟨n, rfl, h1, h2, fun L bL => ?_⟩
  walk_at "vs"
  refine br_both (fun c => ?_) (fun c => ?_)
  · walk_at "vs"
    refine ⟨n, rfl, h1, h2, fun L' bL' => ?_⟩
    have := bL'.uniq bL
    subst this
    rw [pairsW_len] at c
    obtain ⟨x, rfl⟩ : ∃ x, L' = [x] := List.length_eq_one_iff.mp (by omega)
    obtain ⟨p, h⟩ := x
    unfold pairsW
    walk_at "vs"
    have pn : p ^ h = n := by have := bL.prod; simpa [bprod] using this
    have hp := (bL.pr (p, h) (by simp)).1
    have h0 : 1 ≤ h := (bL.pr (p, h) (by simp)).2
    have e : isPb n = decide (h = 1) := by
      rw [Bool.eq_iff_iff, decide_eq_true_eq, isPb_pr]
      constructor
      · intro hn
        have n2 := hn.two_le
        have := (bk_one bL n2).mpr hn
        simp at this
        exact this.2
      · intro e
        subst e
        rw [Nat.pow_one] at pn
        exact pn ▸ hp
    have e2 : weq (.int ((h : Nat) : Int)) (.int 1) = isPb n := by
      rw [weq_int, e]
      by_cases c : h = 1
      · subst c; rfl
      · rw [decide_eq_false c, beq_eq_false_iff_ne]; omega
    rw [weq_int] at e2
    all_goals (rw [e2]; exact q)
  · rw [pairsW_len] at c
    have e : isPb n = false := by
      rw [Bool.eq_false_iff]
      intro z
      have hn := isPb_pr.mp z
      have := (bk_one bL hn.two_le).mpr hn
      rw [this] at c
      exact c rfl
    have e2 : weq (.int (((pairsW L).length : Nat) : Int)) (.int 1) = isPb n := by
      rw [weq_int, e, pairsW_len, beq_eq_false_iff_ne]; exact c
    rw [e2]
    exact q
theorem v_staudt_primes (ws : List W) (Q : W → Bool → Prop) (_ : ws.length = 1) (h : sp_staudt_primes ws Q) : w_staudt_primes { nx := fun _ => Q .non false, rt := Q } (nv0 ws 1) := by
  obtain ⟨n, rfl, h1, h2, q⟩ := h
  unfold w_staudt_primes
  walk_at "vs"
  refine ⟨n, rfl, h1, h2, fun l al => ?_⟩
  walk_at "vs"
  have ll := divs_lt11 h1 h2 al
  refine lcGo_filter (f := fun d : Nat => W.int (d : Nat)) (L := l) (k := fun d : Nat => W.int ((d : Nat) + 1)) (t := fun d => isPb (d + 1)) (sz (by omega)) (fun d hd => ?_) ?_
  · have dv := (al.mem d).mp hd
    have d0 := Nat.pos_of_dvd_of_pos dv h1
    have dl := Nat.le_of_dvd h1 dv
    walk_at "vs"
    refine ⟨d + 1, by rfl, by omega, by omega, fun L bL => ?_⟩
    walk_at "vs"
    refine ⟨sz (by decide), sz (by decide), fl_pairs L, fl_pair1 _, ?_⟩
    have e : weq (.lst (pairsW L)) (.lst [.tup [.int ((d : Int) + 1), .int 1]]) = isPb (d + 1) := by
      have := weq_pairs1 L (d + 1)
      rw [Int.natCast_add] at this
      rw [show ((d : Int) + 1) = (d : Int) + ((1 : Nat) : Int) from rfl, this, Bool.eq_iff_iff, decide_eq_true_eq, bk_one bL (by omega), isPb_pr]
    rw [e]
    refine br_both (fun c => ?_) (fun c => ?_)
    · walk_at "vs"
      rw [if_pos c]
    · rw [if_neg c]
  · have e : ((l.filter fun d => isPb (d + 1)).map fun d : Nat => W.int ((d : Nat) + 1)) = natsW ((l.filter fun d => isPb (d + 1)).map (· + 1)) := by
      unfold natsW; rw [List.map_map]; rfl
    rw [e]
    refine ⟨_, (by rw [natsW_int]; exact ints?_map _), fun ns' hp hs => ?_⟩
    obtain ⟨m, hm, rfl⟩ := nat_of_perm hp
    have e2 : m = spr' n := by
      refine lt_uniq (lt_of_le_nodup ?_ (hm.nodup_iff.mpr ?_)) ?_ fun x => ?_
      · rw [List.pairwise_map] at hs
        exact hs.imp fun {a b} z => by omega
      · rw [List.nodup_iff_pairwise_ne, List.pairwise_map]
        exact (List.nodup_iff_pairwise_ne.mp (al.nd.filter _)).imp fun {a b} n e => n (by omega)
      · unfold spr'
        rw [List.pairwise_map]
        refine (List.Pairwise.filter _ ?_).imp (fun {a b} z => Nat.add_lt_add_right z 1)
        rw [List.pairwise_map]
        exact List.pairwise_lt_range.imp fun {a b} z => by omega
      · rw [hm.mem_iff, List.mem_map]
        unfold spr'
        rw [List.mem_map]
        constructor
        · rintro ⟨d, hd, rfl⟩
          have hd := List.mem_filter.mp hd
          have dv := (al.mem d).mp hd.1
          have d0 := Nat.pos_of_dvd_of_pos dv h1
          have dl := Nat.le_of_dvd h1 dv
          refine ⟨d, List.mem_filter.mpr ⟨List.mem_map.mpr ⟨d - 1, List.mem_range.mpr (by omega), by omega⟩, ?_⟩, rfl⟩
          rw [hd.2, decide_eq_true (Nat.mod_eq_zero_of_dvd dv)]; rfl
        · rintro ⟨d, hd, rfl⟩
          have hd := List.mem_filter.mp hd
          have h3 := hd.2
          rw [Bool.and_eq_true, decide_eq_true_eq] at h3
          exact ⟨d, List.mem_filter.mpr ⟨(al.mem d).mpr (Nat.dvd_of_mod_eq_zero h3.1), h3.2⟩, rfl⟩
    subst e2
    rw [← natsW_int]
    walk_at "vs"
    exact q
theorem bsum_snoc (n : Nat) (x : Fr) : ∀ (A : List Fr) (k : Nat) (s : Fr), bsum' n k s (A ++ [x]) = lo ((bsum' n k s A).1 * x.2 + (wys (n + 1) (k + A.length) : Nat) * x.1 * (bsum' n k s A).2) ((bsum' n k s A).2 * x.2)
  | [], k, s => rfl
  | y :: A, k, s => by
    show bsum' n (k + 1) _ (A ++ [x]) = _
    rw [bsum_snoc n x A (k + 1) _, List.length_cons, show k + 1 + A.length = k + (A.length + 1) by omega]
    rfl
theorem scan_pre (n : Nat) : ∀ (L : List Fr) (k : Nat) (s : Fr), VL.scan n k s L = true → ∀ i, i ≤ L.length → fin (bsum' n k s (L.take i)) = true
  | [], k, s, h, i, _ => by rw [List.take_nil]; exact h
  | x :: L, k, s, h, 0, _ => by
    unfold VL.scan at h
    rw [Bool.and_eq_true] at h
    exact h.1
  | x :: L, k, s, h, i + 1, hi => by
    unfold VL.scan at h
    rw [Bool.and_eq_true] at h
    rw [List.take_succ_cons]
    exact scan_pre n L (k + 1) _ h.2 i (by simpa using hi)
theorem bl_len : ∀ m, (bl m).length = m + 1
  | 0 => rfl
  | m + 1 => by show (bl m ++ [_]).length = _; rw [List.length_append, bl_len m]; rfl
theorem bl_pre : ∀ {m M : Nat}, m ≤ M → ∃ R, bl M = bl m ++ R
  | m, 0, h => by have : m = 0 := by omega
                  subst this; exact ⟨[], by simp⟩
  | m, M + 1, h => by
    by_cases e : m = M + 1
    · subst e; exact ⟨[], by simp⟩
    · obtain ⟨R, hR⟩ := bl_pre (m := m) (M := M) (by omega)
      exact ⟨R ++ [bnx (M + 1) (bl M)], by show bl M ++ _ = _; rw [hR, List.append_assoc]⟩
theorem fin_of {s : Fr} (h : fin s = true) : s.1.natAbs < 2 ^ 400 ∧ 0 < s.2 ∧ s.2 < 2 ^ 400 := by
  unfold fin at h
  simp only [Bool.and_eq_true, decide_eq_true_eq] at h
  exact ⟨h.1.1, h.1.2, h.2⟩
theorem bl_fin {m : Nat} (h : m ≤ 68) {x : Fr} (hx : x ∈ bl m) : fin x = true := by
  obtain ⟨R, hR⟩ := bl_pre h
  exact List.all_eq_true.mp fin_tab x (by rw [hR]; exact List.mem_append_left _ hx)
theorem v_bernoulli (ws : List W) (Q : W → Bool → Prop) (_ : ws.length = 1) (h : sp_bernoulli ws Q) : w_bernoulli { nx := fun _ => Q .non false, rt := Q } (nv0 ws 7) := by
  obtain ⟨m, rfl, hm, q⟩ := h
  unfold w_bernoulli
  walk_at "vs"
  refine ⟨sz (by decide), sz (by decide), ⟨⟨by decide, by decide⟩, by omega, by omega⟩, ?_⟩
  rw [show ((m : Int) + 1 - 1).toNat = m by omega]
  refine forGo_rg (fun i η => ∃ (s2 s3 s4 s5 s6 s7 : Sl) (b : Bool), η = [.fz (.int m), slOf (.lst (frL (bl i))) true, s2, s3, s4, s5, s6, s7] ∧ isLk s2 = false ∧ isLk s3 = false ∧ isLk s4 = false ∧ isLk s5 = false ∧ isLk s6 = false ∧ isLk s7 = false) ⟨.no, .no, .no, .no, .no, .no, true, rfl, rfl, rfl, rfl, rfl, rfl, rfl⟩ ?_ ?_
  · rintro i η hi ⟨s2, s3, s4, s5, s6, s7, b, rfl, l2, l3, l4, l5, l6, l7⟩
    walk_at "vs"
    have sc := List.all_eq_true.mp scan_tab i (List.mem_range.mpr (by omega))
    have pre := scan_pre (i + 1) (bl i) 0 (0, 1) sc
    have len : (frL (bl i)).length = i + 1 := by unfold frL; rw [List.length_map, bl_len]
    refine ⟨l2, sz (by decide), l3, l4, ?_⟩
    have ee : enW 0 (frL (bl i)) = (List.range (i + 1)).map fun k => W.tup [.int (k : Nat), frP ((bl i).getD k (0, 1))] := by
      unfold frL
      rw [enW_map frP (0, 1), bl_len]
    rw [ee]
    refine forGo_ix (F := fun k => W.tup [.int (k : Nat), frP ((bl i).getD k (0, 1))]) (fun k η => ∃ s5 s6 s7 : Sl, η = [.fz (.int m), .lk (.lst (frL (bl i))), .fz (.int (1 + (i : Nat))), .fz (.int (bsum' (i + 1) 0 (0, 1) ((bl i).take k)).1), .fz (.int (bsum' (i + 1) 0 (0, 1) ((bl i).take k)).2), s5, s6, s7] ∧ isLk s5 = false ∧ isLk s6 = false ∧ isLk s7 = false) ⟨s5, s6, s7, rfl, l5, l6, l7⟩ ?_ ?_
    · rintro k η hk ⟨s5, s6, s7, rfl, l5, l6, l7⟩
      unfold frP
      walk_at "vs"
      have kl : k < (bl i).length := by rw [bl_len]; exact hk
      have xe : (bl i).getD k (0, 1) = (bl i)[k] := by rw [List.getD_eq_getElem?_getD, List.getElem?_eq_getElem kl]; rfl
      obtain ⟨x1, x2, x3⟩ := fin_of (bl_fin (by omega) (xe ▸ List.getElem_mem kl : (bl i).getD k (0, 1) ∈ bl i))
      obtain ⟨s1, s2', s3'⟩ := fin_of (pre k (by omega))
      have wb : wys (i + 1 + 1) k < 2 ^ 80 := by
        have t := List.all_eq_true.mp wys_tab (i + 1 + 1) (List.mem_range.mpr (by omega))
        exact of_decide_eq_true (List.all_eq_true.mp t k (List.mem_range.mpr (by omega)))
      have nx : bsum' (i + 1) 0 (0, 1) ((bl i).take (k + 1)) = lo ((bsum' (i + 1) 0 (0, 1) ((bl i).take k)).1 * ((bl i).getD k (0, 1)).2 + (wys (i + 1 + 1) k : Nat) * ((bl i).getD k (0, 1)).1 * (bsum' (i + 1) 0 (0, 1) ((bl i).take k)).2) ((bsum' (i + 1) 0 (0, 1) ((bl i).take k)).2 * ((bl i).getD k (0, 1)).2) := by
        rw [List.take_succ, List.getElem?_eq_getElem kl, xe]
        show bsum' (i + 1) 0 (0, 1) ((bl i).take k ++ [(bl i)[k]]) = _
        rw [bsum_snoc, List.length_take, Nat.min_eq_left (by omega), Nat.zero_add]
      generalize (bl i).getD k (0, 1) = x at x1 x2 x3 nx
      generalize bsum' (i + 1) 0 (0, 1) ((bl i).take k) = s at s1 s2' s3' nx
      have x3' : x.2.natAbs < 2 ^ 400 := by omega
      have s3'' : s.2.natAbs < 2 ^ 400 := by omega
      have wb' : (((wys (i + 1 + 1) k : Nat)) : Int).natAbs < 2 ^ 80 := by omega
      have wx := nb_mul wb' x1
      have p0 := Int.mul_pos s2' x2
      have qb := nb_mul s3'' x3'
      refine ⟨l5, l6, l7, mk_ok s1 x3' (by decide) (by decide), i + 1 + 1, k, by congr 2; omega, by omega, by omega, ?_⟩
      walk_at "vs"
      refine ⟨mk_ok wb' x1 (by decide) (by decide), mk_ok wx s3'' (by decide) (by decide), mk_ok s3'' x3' (by decide) (by decide), _, _, rfl, p0, ?_, ?_⟩
      · have : (2 : Nat) ^ (400 + 400) < 2 ^ 8000 := Nat.pow_lt_pow_right (by decide) (by decide)
        omega
      · unfold frP
        walk_at "vs"
        refine ⟨.fz (.int k), .fz (.int x.1), .fz (.int x.2), ?_, rfl, rfl, rfl⟩
        rw [nx]
    · rintro η ⟨s5, s6, s7, rfl, l5, l6, l7⟩
      walk_at "vs"
      have tk : (bl i).take (i + 1) = bl i := List.take_of_length_le (by rw [bl_len]; exact Nat.le_refl _)
      rw [tk]
      obtain ⟨s1, s2', s3'⟩ := fin_of (tk ▸ pre (i + 1) (by rw [bl_len]; exact Nat.le_refl _))
      have nx : bl (i + 1) = bl i ++ [lo (-(bsum' (i + 1) 0 (0, 1) (bl i)).1) ((bsum' (i + 1) 0 (0, 1) (bl i)).2 * (((i + 1 : Nat) : Int) + 1))] := rfl
      generalize bsum' (i + 1) 0 (0, 1) (bl i) = s at s1 s2' s3' nx
      have s3'' : s.2.natAbs < 2 ^ 400 := by omega
      have n2 : (1 + (i : Int) + 1).natAbs < 2 ^ 10 := by omega
      have p0 : 0 < s.2 * (1 + (i : Int) + 1) := Int.mul_pos s2' (by omega)
      have qb := nb_mul s3'' n2
      refine ⟨mk_ok s3'' n2 (by decide) (by decide), _, _, rfl, p0, ?_, ?_⟩
      · have : (2 : Nat) ^ (400 + 10) < 2 ^ 8000 := Nat.pow_lt_pow_right (by decide) (by decide)
        omega
      · walk_at "vs"
        refine ⟨sz' (by rw [len]; omega), .fz (.int (1 + (i : Nat))), .fz (.int s.1), .fz (.int s.2), s5, s6, s7, true, ?_, rfl, rfl, rfl, l5, l6, l7⟩
        rw [nx]
        have e : (((i + 1 : Nat) : Int) + 1) = 1 + (i : Int) + 1 := by omega
        rw [e]
        unfold frL
        rw [List.map_append]
        rfl
  · rintro η ⟨s2, s3, s4, s5, s6, s7, b, rfl, l2, l3, l4, l5, l6, l7⟩
    walk_at "vs"
    exact q
end K30
end

section
set_option Elab.async false
set_option linter.all false
set_option maxRecDepth 100000
set_option exponentiation.threshold 50000
set_option pp.maxSteps 800
set_option pp.deepTerms false
namespace K30
open PySem PySem.Spec PyProof.Rows L2 VL NT SPc
local macro_rules | `(tactic| walk_at "vl") => `(tactic| try simp only [wSeq, wSetM, wIf, wRet, wRetV, wRetN, wNext, wAppend, wParM, wAug, wAsg, wStore, wFz, wLock, wFor, wBreak, wCont, eLst, eTup, eC, eVar, oVar, oE, eBin, eNeg, eIs, eIsNot, aNil, aCons, sAdd, sArith0, sArith, sMul, sOrd, sEq, sNe, bB, bT, truth, bNot, bAnd, bOr, eIf, eAnd, eOr, eNot, eFn, eCall, cInt, cLen, cAbs, cMax2, cMin2, cTuple, cList, gt, putM, put, slOf, isLk_fz, isLk_ow, isLk_no, List.set, nv0, List.map_cons, List.map_nil, List.replicate, List.cons_append, List.nil_append, List.length_cons, List.length_nil, gT, gN, gsCons, gsNil, eLc, lcEl, eRev, eRevB, eCutB, pNone, pSome, iS, eTokS, eTok1, eLc2, lcEl2, bYes, wipeN, lks_c, lks_n, lk1_f, lk1_o, lk1_l, lk1_n, cSum, cSumB, cSortedI, sInT, sIn, sNotIn, sNotInT, pl_int, pl_bl, pl_non, List.all_cons, List.all_nil, List.any_cons, List.any_nil, iE, iRv, iEnB, iV, iRange1, iRange2, fl_int, fl_bl, fl_non, weq_int, weq_bl, weq_non, Bool.or_false, Bool.false_or, Bool.or_true, true_and, and_true, beq_iff_eq, decide_eq_true_eq, Bool.not_eq_true', beq_eq_false_iff_ne, decide_eq_false_iff_not, Bool.and_eq_true, Bool.or_eq_true, Bool.not_not, if_true, Bool.false_eq_true, if_false, Nat.reduceAdd])
local macro_rules | `(tactic| walk_at "vs") => `(tactic| try simp -dsimp only [↓wSeq_b, ↓eDget, ↓eDin, ↓wPutD_b, ↓eDnew, ↓eDnewT, ↓eDone, dAt_I, dIn_I, dPut_I, dLen_I, dAt_P, dIn_P, dPut_P, dLen_P, LkC_some, InC_some, PutC_some, ↓cLenD_I, ↓cLenD_P, Bool.bne_false, Bool.bne_true, ↓wSetM_b, ↓wIf_b, ↓wRet_b, ↓wRetV_b, ↓wRetN, ↓wNext_b, ↓wAppend_b, ↓wParM_b, ↓wPar3_b, ↓wPar3M_b, ↓wAug_b, ↓wAsg_b, ↓wStore_b, ↓wFz_b, ↓wLock_b, ↓wFor, ↓wBreak_b, ↓wCont_b, ↓eLst, ↓eTup, ↓eC, ↓eVar_b, ↓oVar_b, ↓oE, ↓eBin, ↓eNeg, ↓eIs, ↓eIsNot, ↓aNil, ↓aCons, ↓sAdd, ↓sArith0, ↓sArith, ↓sMul, ↓sOrd, ↓sEq, ↓sNe, ↓bB, ↓bT, ↓truth, ↓bNot, ↓bAnd_b, ↓bOr_b, ↓eIf_b, ↓eAnd_b, ↓eOr_b, ↓eNot, ↓eFn_call, ↓eCall, ↓cInt, ↓cLen, ↓cAbs, ↓cMax2, ↓cMin2, ↓cTuple, ↓cList, ↓gT, ↓gN_b, ↓gsCons, ↓gsNil, ↓eLc_b, ↓lcEl_b, ↓eLc2_b, ↓lcEl2_b, ↓eRev, ↓eRevB, ↓eCutB, ↓pNone, ↓pSome, ↓iS, ↓eTokS, ↓eTok1, ↓bYes, ↓cSum, ↓cSumB, ↓cSortedI, ↓sInT, ↓sIn, ↓sNotIn, ↓sNotInT, ↓sIsB, ↓sIsNotB, ↓sIx_b, ↓cGcd, cGcd, ↓iE, ↓iRv, ↓iEnB, ↓iEnV_b, ↓iV_b, ↓iRange1, ↓iRange2, ↓eIsi, ↓eIsi2, eq_self, SIx_tup0, SIx_tup1, SIx_tup2, SIx_tup3, SIx_tup4, SIx_lst0, SIx_lst1, SIx_lst2, SIx_lst3, SIx_lst4, ne_eq, not_true_eq_false, not_false_eq_true, isNon, decide_true, decide_false, List.isEmpty_cons, List.isEmpty_nil, At_fz, At_ow, At_lk, At_no, Go_cons, Go_nil, Br_T, Br_F, gt, putM, put, slOf, wipeN, lks_c, lks_n, lk1_f, lk1_o, lk1_l, lk1_n, tnW, isTn, isLk_fz, isLk_ow, isLk_no, isLk_lk, List.set, nv0, List.map_cons, List.map_nil, List.replicate, List.cons_append, List.nil_append, List.length_cons, List.length_nil, pl_int, pl_bl, pl_non, List.all_cons, List.all_nil, List.any_cons, List.any_nil, fl_int, fl_bl, fl_non, fl_nats, fl_book, weq_int, weq_bl, weq_non, weq_nats, Bool.or_false, Bool.false_or, Bool.or_true, true_and, and_true, beq_iff_eq, decide_eq_true_eq, Bool.not_eq_true', Bool.not_true, Bool.not_false, Bool.true_eq_false, beq_eq_false_iff_ne, decide_eq_false_iff_not, Bool.and_eq_true, Bool.or_eq_true, Bool.not_not, if_true, Bool.false_eq_true, if_false, Nat.reduceAdd])
local macro_rules | `(tactic| walk_at "vt") => `(tactic| try simp -dsimp only [↓eDget, ↓eDin, ↓wPutD_b, ↓eDnew, ↓eDnewT, ↓eDone, dAt_I, dIn_I, dPut_I, dLen_I, dAt_P, dIn_P, dPut_P, dLen_P, LkC_some, InC_some, PutC_some, ↓cLenD_I, ↓cLenD_P, Bool.bne_false, Bool.bne_true, ↓wSetM_b, ↓wIf_b, ↓wRet_b, ↓wRetV_b, ↓wRetN, ↓wNext_b, ↓wAppend_b, ↓wParM_b, ↓wPar3_b, ↓wPar3M_b, ↓wAug_b, ↓wAsg_b, ↓wStore_b, ↓wFz_b, ↓wLock_b, ↓wFor, ↓wBreak_b, ↓wCont_b, ↓eLst, ↓eTup, ↓eC, ↓eVar_b, ↓oVar_b, ↓oE, ↓eBin, ↓eNeg, ↓eIs, ↓eIsNot, ↓aNil, ↓aCons, ↓sAdd, ↓sArith0, ↓sArith, ↓sMul, ↓sOrd, ↓sEq, ↓sNe, ↓bB, ↓bT, ↓truth, ↓bNot, ↓bAnd_b, ↓bOr_b, ↓eIf_b, ↓eAnd_b, ↓eOr_b, ↓eNot, ↓eFn_call, ↓eCall, ↓cInt, ↓cLen, ↓cAbs, ↓cMax2, ↓cMin2, ↓cTuple, ↓cList, ↓gT, ↓gN_b, ↓gsCons, ↓gsNil, ↓eLc_b, ↓lcEl_b, ↓eLc2_b, ↓lcEl2_b, ↓eRev, ↓eRevB, ↓eCutB, ↓pNone, ↓pSome, ↓iS, ↓eTokS, ↓eTok1, ↓bYes, ↓cSum, ↓cSumB, ↓cSortedI, ↓sInT, ↓sIn, ↓sNotIn, ↓sNotInT, ↓sIsB, ↓sIsNotB, ↓sIx_b, ↓cGcd, cGcd, ↓iE, ↓iRv, ↓iEnB, ↓iEnV_b, ↓iV_b, ↓iRange1, ↓iRange2, ↓eIsi, ↓eIsi2, eq_self, SIx_tup0, SIx_tup1, SIx_tup2, SIx_tup3, SIx_tup4, SIx_lst0, SIx_lst1, SIx_lst2, SIx_lst3, SIx_lst4, ne_eq, not_true_eq_false, not_false_eq_true, isNon, decide_true, decide_false, List.isEmpty_cons, List.isEmpty_nil, At_fz, At_ow, At_lk, At_no, Go_cons, Go_nil, Br_T, Br_F, gt, putM, put, slOf, wipeN, lks_c, lks_n, lk1_f, lk1_o, lk1_l, lk1_n, tnW, isTn, isLk_fz, isLk_ow, isLk_no, isLk_lk, List.set, nv0, List.map_cons, List.map_nil, List.replicate, List.cons_append, List.nil_append, List.length_cons, List.length_nil, pl_int, pl_bl, pl_non, List.all_cons, List.all_nil, List.any_cons, List.any_nil, fl_int, fl_bl, fl_non, fl_nats, fl_book, weq_int, weq_bl, weq_non, weq_nats, Bool.or_false, Bool.false_or, Bool.or_true, true_and, and_true, beq_iff_eq, decide_eq_true_eq, Bool.not_eq_true', Bool.not_true, Bool.not_false, Bool.true_eq_false, beq_eq_false_iff_ne, decide_eq_false_iff_not, Bool.and_eq_true, Bool.or_eq_true, Bool.not_not, if_true, Bool.false_eq_true, if_false, Nat.reduceAdd])
local macro_rules | `(tactic| walk_at "env") => `(tactic| repeat' (first | with_reducible rfl | apply congr (congrArg List.cons _) _))
local macro_rules | `(tactic| walk_at "ifp") => `(tactic| first | rw [if_pos (by assumption)] | rw [if_pos (decide_eq_true (by omega))] | rw [if_pos (by omega)] | rw [if_pos (by simp only [decide_eq_true_eq]; omega)] | rw [if_pos (by simp_all)])
local macro_rules | `(tactic| walk_at "ifn") => `(tactic| first | rw [if_neg (by assumption)] | rw [if_neg (by simp only [decide_eq_true_eq]; omega)] | rw [if_neg (by omega)] | rw [if_neg (by simp_all)])
theorem lo_gcd0 {p q : Int} (h : 0 < q) : 0 < ((Int.gcd p q : Nat) : Int) := by
  have : 0 < Int.gcd p q := Int.gcd_pos_of_ne_zero_right p (by omega)
  omega
theorem lo_eq {p q : Int} (h : 0 < q) : (lo p q).1 * q = p * (lo p q).2 := by
  have g0 := lo_gcd0 (p := p) h
  have h1 : ((Int.gcd p q : Nat) : Int) ∣ p := Int.gcd_dvd_left _ _
  have h2 : ((Int.gcd p q : Nat) : Int) ∣ q := Int.gcd_dvd_right _ _
  unfold VL.lo
  simp only
  generalize ((Int.gcd p q : Nat) : Int) = g at g0 h1 h2
  obtain ⟨a, rfl⟩ := h1
  obtain ⟨b, rfl⟩ := h2
  rw [Int.mul_ediv_cancel_left _ (by omega), Int.mul_ediv_cancel_left _ (by omega)]
  grind
theorem lo_pos {p q : Int} (h : 0 < q) : 0 < (lo p q).2 := by
  have g0 := lo_gcd0 (p := p) h
  have h2 : ((Int.gcd p q : Nat) : Int) ∣ q := Int.gcd_dvd_right _ _
  unfold VL.lo
  simp only
  generalize ((Int.gcd p q : Nat) : Int) = g at g0 h2
  obtain ⟨b, rfl⟩ := h2
  rw [Int.mul_ediv_cancel_left _ (by omega)]
  rcases Int.lt_trichotomy b 0 with z | z | z
  · have := Int.mul_neg_of_pos_of_neg g0 z; omega
  · subst z; simp at h
  · exact z
theorem lo_cop {p q : Int} (h : 0 < q) : Int.gcd (lo p q).1 (lo p q).2 = 1 := by
  unfold VL.lo
  exact Int.gcd_ediv_gcd_ediv_gcd (Int.gcd_pos_of_ne_zero_right p (by omega))
theorem ediv_abs (p : Int) {g : Int} (h : 0 < g) (d : g ∣ p) : (p / g).natAbs ≤ p.natAbs := by
  obtain ⟨a, rfl⟩ := d
  rw [Int.mul_ediv_cancel_left _ (by omega), Int.natAbs_mul]
  exact Nat.le_mul_of_pos_left _ (by omega)
theorem lo_abs {p q : Int} (h : 0 < q) : (lo p q).1.natAbs ≤ p.natAbs ∧ (lo p q).2.natAbs ≤ q.natAbs :=
  ⟨ediv_abs p (lo_gcd0 h) (Int.gcd_dvd_left _ _), ediv_abs q (lo_gcd0 h) (Int.gcd_dvd_right _ _)⟩
def rowF (k j t : Nat) : Fr := if k + 2 ≤ t + j then pwE k (k + 1 - t) else (0, 1)
theorem rowF_end (k : Nat) : (List.range (k + 2)).map (rowF k (k + 1)) = pwR k := by
  unfold pwR
  rw [show k + 2 = (k + 1) + 1 from rfl, List.range_succ_eq_map, List.map_cons, List.map_map]
  have z : rowF k (k + 1) 0 = (0, 1) := by unfold rowF; rw [if_neg (by omega)]
  rw [z]
  congr 1
  refine List.map_congr_left fun i hi => ?_
  have hi := List.mem_range.mp hi
  show rowF k (k + 1) (i + 1) = _
  unfold rowF
  rw [if_pos (by omega), show k + 1 - (i + 1) = k - i by omega]
theorem rowF_set (k j : Nat) (hj : j ≤ k) : (frL ((List.range (k + 2)).map (rowF k j))).set (k + 1 - j) (frP (pwE k j)) = frL ((List.range (k + 2)).map (rowF k (j + 1))) := by
  unfold frL
  apply List.ext_getElem?
  intro t
  rw [List.getElem?_set]
  simp only [List.length_map, List.length_range, List.getElem?_map]
  by_cases e : k + 1 - j = t
  · rw [if_pos e, if_pos (by omega), List.getElem?_range (by omega)]
    subst e
    show some _ = some (frP (rowF k (j + 1) (k + 1 - j)))
    unfold rowF
    rw [if_pos (by omega), show k + 1 - (k + 1 - j) = j by omega]
  · rw [if_neg e]
    by_cases h : t < k + 2
    · rw [List.getElem?_range h]
      show some (frP (rowF k j t)) = some (frP (rowF k (j + 1) t))
      unfold rowF
      by_cases c : k + 2 ≤ t + j
      · rw [if_pos c, if_pos (by omega)]
      · rw [if_neg c, if_neg (by omega)]
    · rw [List.getElem?_eq_none (by simp; omega)]; rfl
theorem v_power_row (ws : List W) (Q : W → Bool → Prop) (_ : ws.length = 1) (h : sp_power_row ws Q) : w_power_row { nx := fun _ => Q .non false, rt := Q } (nv0 ws 5) := by
  obtain ⟨k, rfl, hk, q⟩ := h
  unfold w_power_row
  walk_at "vs"
  refine ⟨k, rfl, by omega, ?_⟩
  walk_at "vs"
  have re : (List.replicate ((k : Int) + 2).toNat [W.tup [W.int 0, W.int 1]]).flatten = frL ((List.range (k + 2)).map (rowF k 0)) := by
    rw [show ((k : Int) + 2).toNat = k + 2 by omega]
    have : ∀ n, (List.replicate n [W.tup [W.int 0, W.int 1]]).flatten = List.replicate n (W.tup [W.int 0, W.int 1]) := fun n => by
      induction n with
      | zero => rfl
      | succ n ih => rw [List.replicate_succ, List.flatten_cons, ih, List.replicate_succ]; rfl
    rw [this]
    unfold frL
    rw [List.map_map]
    symm
    apply List.eq_replicate_iff.mpr
    refine ⟨by simp, fun b hb => ?_⟩
    obtain ⟨t, ht, rfl⟩ := List.mem_map.mp hb
    have ht := List.mem_range.mp ht
    show frP (rowF k 0 t) = _
    unfold rowF
    rw [if_neg (by omega)]
    rfl
  rw [re, show ((k : Int) + 1).toNat = k + 1 by omega]
  refine ⟨sz (by decide), sz (by decide), ⟨by omega, sz (by omega), by omega⟩, ⟨by omega, by omega⟩, ?_⟩
  refine forGo_rg (fun j η => ∃ (s3 s4 s5 : Sl), η = [.fz (.int k), .fz (.lst (frL (bl k))), .ow (.lst (frL ((List.range (k + 2)).map (rowF k j)))), s3, s4, s5] ∧ isLk s3 = false ∧ isLk s4 = false ∧ isLk s5 = false) ⟨.no, .no, .no, rfl, rfl, rfl, rfl⟩ ?_ ?_
  · rintro j η hj ⟨s3, s4, s5, rfl, l3, l4, l5⟩
    walk_at "vs"
    have kl : j < (bl k).length := by rw [bl_len]; exact hj
    have wb : wys (k + 1) j < 2 ^ 80 := by
      have t := List.all_eq_true.mp wys_tab (k + 1) (List.mem_range.mpr (by omega))
      exact of_decide_eq_true (List.all_eq_true.mp t j (List.mem_range.mpr (by omega)))
    have wb' : (((wys (k + 1) j : Nat)) : Int).natAbs < 2 ^ 80 := by omega
    have n2 : ((k : Int) + 1).natAbs < 2 ^ 10 := by omega
    have fb : fin ((bl k).getD j (0, 1)) = true := by
      rw [List.getD_eq_getElem?_getD, List.getElem?_eq_getElem kl]
      exact bl_fin (by omega) (List.getElem_mem kl)
    refine ⟨l3, br_both (fun c => ?_) (fun c => ?_)⟩
    · have c : j = 1 := by omega
      have e : pwE k j = lo ((wys (k + 1) j : Nat) * 1) (2 * ((k : Int) + 1)) := by unfold pwE; rw [if_pos c]
      walk_at "vs"
      refine ⟨sz (by decide), l4, l5, k + 1, j, by rw [Int.zero_add]; rfl, by omega, by omega, ?_⟩
      walk_at "vs"
      have p0 : 0 < 2 * ((k : Int) + 1) := by omega
      refine ⟨mk_ok wb' (by decide : (1 : Int).natAbs < 2 ^ 2) (by decide) (by decide), mk_ok (by decide : (2 : Int).natAbs < 2 ^ 2) n2 (by decide) (by decide), _, _, rfl, p0, by have : (2 : Nat) ^ 12 < 2 ^ 8000 := Nat.pow_lt_pow_right (by decide) (by decide); omega, ?_⟩
      walk_at "vs"
      rw [show ((k : Int) + 1 - (0 + (j : Int))) = ((k + 1 - j : Nat) : Int) by omega, ixN_nat (by unfold frL; rw [List.length_map, List.length_map, List.length_range]; omega)]
      walk_at "vs"
      rw [← e, rowF_set k j (by omega)]
      exact ⟨_, _, _, rfl, rfl, rfl, rfl⟩
    · have c : ¬ j = 1 := by omega
      have e : pwE k j = lo ((wys (k + 1) j : Nat) * ((bl k).getD j (0, 1)).1) (((bl k).getD j (0, 1)).2 * ((k : Int) + 1)) := by unfold pwE; rw [if_neg c]
      have xe : (frL (bl k))[j]? = some (frP ((bl k).getD j (0, 1))) := by
        unfold frL
        rw [List.getElem?_map, List.getD_eq_getElem?_getD, List.getElem?_eq_getElem kl]; rfl
      obtain ⟨x1, x2, x3⟩ := fin_of fb
      generalize (bl k).getD j (0, 1) = x at x1 x2 x3 e xe
      walk_at "vs"
      rw [show (0 : Int) + (j : Nat) = ((j : Nat) : Int) by omega, SIx_lst _ xe]
      unfold frP
      walk_at "vs"
      refine ⟨l4, l5, k + 1, j, by rfl, by omega, by omega, ?_⟩
      have x3' : x.2.natAbs < 2 ^ 400 := by omega
      have p0 : 0 < x.2 * ((k : Int) + 1) := Int.mul_pos x2 (by omega)
      have qb := nb_mul x3' n2
      walk_at "vs"
      refine ⟨mk_ok wb' x1 (by decide) (by decide), mk_ok x3' n2 (by decide) (by decide), _, _, rfl, p0, by have : (2 : Nat) ^ (400 + 10) < 2 ^ 8000 := Nat.pow_lt_pow_right (by decide) (by decide); omega, ?_⟩
      walk_at "vs"
      rw [show ((k : Int) + 1 - (j : Int)) = ((k + 1 - j : Nat) : Int) by omega, ixN_nat (by unfold frL; rw [List.length_map, List.length_map, List.length_range]; omega)]
      walk_at "vs"
      rw [← e, rowF_set k j (by omega)]
      exact ⟨_, _, _, rfl, rfl, rfl, rfl⟩
  · rintro η ⟨s3, s4, s5, rfl, l3, l4, l5⟩
    walk_at "vs"
    rw [rowF_end]
    exact q
theorem pw_step {P Q D E n b c a p q p' q' : Int} (hP : P = p * n * b + a * q) (hQ : Q = q * b) (q0 : 0 < Q) (e : p' * Q = P * q') (hc : c * b = a * D) (h : p * D = q * E) : p' * D = q' * (c + n * E) := by
  apply Int.eq_of_mul_eq_mul_right (show Q ≠ 0 by omega)
  have e1 : p' * D * Q = D * (p' * Q) := by grind
  rw [e1, e, hP]
  have e2 : D * ((p * n * b + a * q) * q') = q' * (n * b * (p * D) + q * (a * D)) := by grind
  rw [e2, h, ← hc, hQ]
  grind
theorem nb_add {x y : Int} {b : Nat} (h1 : x.natAbs < 2 ^ b) (h2 : y.natAbs < 2 ^ b) : (x + y).natAbs < 2 ^ (b + 1) := by
  rw [Nat.pow_succ]; omega
theorem nb_le {x : Int} {b c : Nat} (h1 : x.natAbs < 2 ^ b) (h : b ≤ c) : x.natAbs < 2 ^ c := Nat.lt_of_lt_of_le h1 (Nat.pow_le_pow_right (by decide) h)
theorem v_power_sum (ws : List W) (Q : W → Bool → Prop) (_ : ws.length = 2) (h : sp_power_sum ws Q) : w_power_sum { nx := fun _ => Q .non false, rt := Q } (nv0 ws 4) := by
  obtain ⟨k, n, rfl, hk, hn, q⟩ := h
  unfold w_power_sum
  walk_at "vs"
  refine ⟨sz (by decide), k, rfl, hk, ?_⟩
  walk_at "vs"
  have t := List.all_eq_true.mp cf_tab k (List.mem_range.mpr hk)
  simp only [Bool.and_eq_true, decide_eq_true_eq] at t
  obtain ⟨⟨⟨tp, d0⟩, d1⟩, -⟩ := t
  have ev : ∀ A : List Fr, (frL A) = A.map frP := fun _ => rfl
  rw [ev, ← List.map_reverse]
  have D : ∃ c : Fr → Int, cf k = (pwR k).map c ∧ c = fun x => x.1 * ((dn k : Int) / x.2) := ⟨_, rfl, rfl⟩
  obtain ⟨c, hc, hc'⟩ := D
  refine forGo_pre (f := frP) (L := (pwR k).reverse) (fun A η => ∃ (s : Fr) (s4 s5 : Sl), η = [.fz (.int k), .fz (.int n), .fz (.int s.1), .fz (.int s.2), s4, s5] ∧ isLk s4 = false ∧ isLk s5 = false ∧ 0 < s.2 ∧ s.1.natAbs < 2 ^ (100 * (A.length + 1)) ∧ s.2.natAbs < 2 ^ (100 * (A.length + 1)) ∧ Int.gcd s.1 s.2 = 1 ∧ s.1 * (dn k : Int) = s.2 * evl (A.reverse.map c) n) ⟨(0, 1), .no, .no, rfl, rfl, rfl, by decide, by decide, by decide, by decide, by show 0 * _ = 1 * (0 : Int); omega⟩ ?_ ?_
  · rintro A B x η eL ⟨s, s4, s5, rfl, l4, l5, s0, b1, b2, -, se⟩
    have al : A.length + 1 ≤ 21 := by
      have := congrArg List.length eL
      unfold pwR at this
      simp at this
      omega
    have xm : x ∈ pwR k := by rw [← List.mem_reverse, eL]; simp
    have tx := List.all_eq_true.mp tp x xm
    simp only [Bool.and_eq_true, decide_eq_true_eq] at tx
    obtain ⟨⟨⟨x0, xd⟩, xa⟩, xb⟩ := tx
    unfold frP
    walk_at "vs"
    have an : (n : Int).natAbs < 2 ^ 31 := by omega
    have xb' : x.2.natAbs < 2 ^ 60 := by omega
    have hB : 100 * (A.length + 1) ≤ 2100 := by omega
    have c1 := nb_mul b1 an
    have c2 := nb_mul c1 xb'
    have c3 := nb_mul xa b2
    have c4 := nb_mul b2 xb'
    have p0 := Int.mul_pos s0 x0
    refine ⟨l4, l5, mk_ok b1 an (by omega) (by decide), mk_ok c1 xb' (by omega) (by decide), mk_ok xa b2 (by decide) (by omega), mk_ok b2 xb' (by omega) (by decide), _, _, rfl, p0, ?_, ?_⟩
    · have : (2 : Nat) ^ (100 * (A.length + 1) + 60) < 2 ^ 8000 := Nat.pow_lt_pow_right (by decide) (by omega)
      omega
    · have hc1 : c x * x.2 = x.1 * (dn k : Int) := by
        rw [hc']
        show x.1 * ((dn k : Int) / x.2) * x.2 = _
        rw [Int.mul_assoc, xd]
      have st := pw_step rfl rfl p0 (lo_eq (p := s.1 * n * x.2 + x.1 * s.2) p0) hc1 se
      have q1 := lo_pos (p := s.1 * n * x.2 + x.1 * s.2) p0
      have q2 := lo_cop (p := s.1 * n * x.2 + x.1 * s.2) p0
      obtain ⟨q3, q4⟩ := lo_abs (p := s.1 * n * x.2 + x.1 * s.2) p0
      have c5 := nb_add (nb_le c2 (show _ ≤ 100 * (A.length + 1) + 91 by omega)) (nb_le c3 (show _ ≤ 100 * (A.length + 1) + 91 by omega))
      have eA : (A ++ [x]).length + 1 = A.length + 1 + 1 := by simp
      have eR : (A ++ [x]).reverse.map c = c x :: A.reverse.map c := by simp
      rw [eA, eR]
      unfold frP
      walk_at "vs"
      exact ⟨_, _, _, rfl, rfl, rfl, q1, nb_le (Nat.lt_of_le_of_lt q3 c5) (by omega), nb_le (Nat.lt_of_le_of_lt q4 c4) (by omega), q2, st⟩
  · rintro η ⟨s, s4, s5, rfl, l4, l5, s0, b1, b2, g1, se⟩
    rw [List.reverse_reverse, ← hc, cf_sum hk] at se
    have e1 : s.1 = s.2 * (psm k n : Nat) := by
      apply Int.eq_of_mul_eq_mul_right (show ((dn k : Nat) : Int) ≠ 0 by omega)
      rw [se]; grind
    have dv : s.2 ∣ (Int.gcd s.1 s.2 : Int) := Int.dvd_coe_gcd ⟨_, e1⟩ (Int.dvd_refl _)
    rw [g1] at dv
    have o : s.2 = 1 := Int.eq_one_of_dvd_one (by omega) dv
    rw [o, Int.one_mul] at e1
    walk_at "vs"
    rw [e1]
    exact q
theorem v_is_regular (ws : List W) (Q : W → Bool → Prop) (_ : ws.length = 1) (h : sp_is_regular ws Q) : w_is_regular { nx := fun _ => Q .non false, rt := Q } (nv0 ws 2) := by
  obtain ⟨p, rfl, h1, h2, h3, q⟩ := h
  unfold w_is_regular
  walk_at "vs"
  rw [show (if (0 : Int) > (p : Int) - 3 then 0 else (p : Int) - 3) = ((p - 3 : Nat) : Int) by split <;> omega]
  refine ⟨p - 3, rfl, by omega, ?_⟩
  walk_at "vs"
  unfold iRangeC
  walk_at "vs"
  have es : stp 2 ((p : Int) - 2) 2 = (p - 3) / 2 := by unfold stp; split <;> omega
  rw [es]
  refine ⟨⟨⟨by decide, by decide⟩, by omega, by omega⟩, by decide, ?_⟩
  show lcGo _ ((List.range ((p - 3) / 2)).map fun k : Nat => W.int (2 + (k : Nat) * 2)) [] _
  refine lcGo_all (k := fun i : Nat => W.bl (!decide (((bl (p - 3)).getD (2 + 2 * i) (0, 1)).1 % (p : Int) = 0))) (by rw [List.length_range]; exact sz (by omega)) (fun i hi => ?_) ?_
  · have hi := List.mem_range.mp hi
    have kl : 2 + 2 * i < (bl (p - 3)).length := by rw [bl_len]; omega
    have xe : (frL (bl (p - 3)))[2 + 2 * i]? = some (frP ((bl (p - 3)).getD (2 + 2 * i) (0, 1))) := by
      unfold frL
      rw [List.getElem?_map, List.getD_eq_getElem?_getD, List.getElem?_eq_getElem kl]; rfl
    generalize (bl (p - 3)).getD (2 + 2 * i) (0, 1) = x at xe
    walk_at "vs"
    rw [show (2 : Int) + (i : Nat) * 2 = ((2 + 2 * i : Nat) : Int) by omega, SIx_lst _ xe]
    unfold frP
    walk_at "vs"
    refine ⟨by omega, ?_⟩
    rfl
  · unfold cAll
    refine ⟨_, (by rw [← bls?_map]; congr 1; rw [List.map_map]; rfl), ?_⟩
    have : ((List.range ((p - 3) / 2)).map fun i : Nat => (!decide (((bl (p - 3)).getD (2 + 2 * i) (0, 1)).1 % (p : Int) = 0))).all id = rgl p := by
      unfold rgl; rw [List.all_map]; rfl
    rw [this]
    exact q
theorem frL_ix {l : List Fr} {k : Nat} (h : k < l.length) : (frL l)[k]? = some (frP (l.getD k (0, 1))) := by
  unfold frL
  rw [List.getElem?_map, List.getD_eq_getElem?_getD, List.getElem?_eq_getElem h]; rfl
theorem SIx_fr {l : List Fr} {k : Nat} {j : Int} {Q : W → Bool → Prop} (d : Dm Q) (h : k < l.length) (e : j = (k : Nat)) : SIx (.lst (frL l)) (.int j) Q d = Q (frP (l.getD k (0, 1))) false := by
  rw [e, SIx_lst _ (frL_ix h)]
theorem frL_len (l : List Fr) : (frL l).length = l.length := List.length_map _
/-- the law's rows -/
def art (m : Nat) : Nat → List Fr
  | 0 => arow m
  | i + 1 => astep 0 (art m i)
def arows : Nat → List Fr → Bool
  | 0, r => r.all fin
  | n + 1, r => r.all fin && arows n (astep 0 r)
theorem arows_tab : ((List.range 41).all fun m => arows m (arow m)) = true := by decide +kernel
def stF (k : Nat) (x y : Fr) : Fr := VL.lo (((k : Int) + 1) * (x.1 * y.2 - y.1 * x.2)) (x.2 * y.2)
theorem astep_ix : ∀ (r : List Fr) (j : Nat), astep j r = (List.range (r.length - 1)).map fun k => stF (j + k) (r.getD k (0, 1)) (r.getD (k + 1) (0, 1))
  | [], _ => rfl
  | [_], _ => rfl
  | x :: y :: L, j => by
    show VL.lo _ _ :: astep (j + 1) (y :: L) = _
    rw [astep_ix (y :: L) (j + 1), show (x :: y :: L).length - 1 = ((y :: L).length - 1) + 1 by simp, List.range_succ_eq_map, List.map_cons, List.map_map]
    congr 1
    refine List.map_congr_left fun k _ => ?_
    show stF (j + 1 + k) _ _ = stF (j + (k + 1)) _ _
    rw [show j + 1 + k = j + (k + 1) by omega]; rfl
theorem art_len (m : Nat) : ∀ i, (art m i).length = m + 1 - i
  | 0 => by unfold art arow; simp
  | i + 1 => by unfold art; rw [astep_ix, List.length_map, List.length_range, art_len m i]; omega
theorem art_fin {m i : Nat} (hm : m < 41) (hi : i ≤ m) : ∀ x ∈ art m i, fin x = true := by
  have t := List.all_eq_true.mp arows_tab m (List.mem_range.mpr hm)
  have go : ∀ n j, n + j = m → arows n (art m j) = true → j ≤ i → (art m i).all fin = true := by
    intro n
    induction n with
    | zero =>
      intro j e h k
      have : j = i := by omega
      subst this
      exact h
    | succ n ih =>
      intro j e h k
      unfold arows at h
      rw [Bool.and_eq_true] at h
      rcases Nat.lt_or_ge j i with z | z
      · exact ih (j + 1) (by omega) h.2 z
      · have : j = i := by omega
        subst this
        exact h.1
  exact List.all_eq_true.mp (go m 0 (by omega) t (by omega))
theorem atold_ix (m : Nat) : ∀ n i, n + i = m + 1 → atold n (art m i) = (List.range n).map fun t => (art m (i + t)).headD (0, 1)
  | 0, _, _ => by unfold atold; rfl
  | n + 1, i, h => by
    have l := art_len m i
    rw [List.range_succ_eq_map, List.map_cons, List.map_map]
    have ih := atold_ix m n (i + 1) (by omega)
    have e : art m (i + 1) = astep 0 (art m i) := rfl
    rw [e] at ih
    show _ = (art m i).headD (0, 1) :: _
    cases c : art m i with
    | nil => rw [c] at l; simp at l; omega
    | cons x L =>
      rw [c] at ih
      show x :: atold n (astep 0 (x :: L)) = x :: _
      rw [ih]
      congr 1
      refine List.map_congr_left fun t _ => ?_
      show (art m (i + 1 + t)).headD (0, 1) = (art m (i + (t + 1))).headD (0, 1)
      rw [show i + 1 + t = i + (t + 1) by omega]
theorem lawB_ix (m : Nat) : lawB m = (art m 0).headD (0, 1) :: ((List.range m).map fun i => if i = 0 then (-1, 2) else (art m (i + 1)).headD (0, 1)) := by
  unfold lawB
  rw [show arow m = art m 0 from rfl, atold_ix m (m + 1) 0 (by omega), List.range_succ_eq_map, List.map_cons, List.map_map]
  show _ :: _ = _
  congr 1
  cases m with
  | zero => rfl
  | succ m =>
    rw [List.range_succ_eq_map, List.map_cons, List.map_cons]
    show (-1, 2) :: _ = (-1, 2) :: _
    congr 1
    rw [List.map_map, List.map_map]
    refine List.map_congr_left fun t _ => ?_
    show (art (m + 1) (0 + (t + 1 + 1))).headD (0, 1) = if t + 1 = 0 then (-1, 2) else (art (m + 1) (t + 1 + 1)).headD (0, 1)
    rw [if_neg (by omega), Nat.zero_add]
theorem v_l_law_bernoulli (ws : List W) (Q : W → Bool → Prop) (_ : ws.length = 1) (h : sp_l_law_bernoulli ws Q) : w_l_law_bernoulli { nx := fun _ => Q .non false, rt := Q } (nv0 ws 4) := by
  obtain ⟨m, rfl, hm, q⟩ := h
  unfold w_l_law_bernoulli
  walk_at "vs"
  refine ⟨sz (by decide), ⟨by omega, by omega⟩, ?_⟩
  rw [show ((m : Int) + 1).toNat = m + 1 by omega]
  refine lcGo_rg (k := fun i : Nat => frP (1, (i : Int) + 1)) (sz (by omega)) (fun i hi => ?_) ?_
  · walk_at "vs"
    exact ⟨sz (by decide), by rw [Int.zero_add]; rfl⟩
  have ea : ((List.range (m + 1)).map fun i : Nat => frP (1, (i : Int) + 1)) = frL (arow m) := by
    unfold frL arow; rw [List.map_map]; rfl
  rw [ea]
  refine ⟨⟨by omega, by omega⟩, ?_⟩
  refine forGo_rg (fun i η => ∃ (s3 s4 : Sl), η = [.fz (.int m), .ow (.lst (frL ((List.range i).map fun t => (art m t).headD (0, 1)))), .fz (.lst (frL (art m i))), s3, s4] ∧ isLk s3 = false ∧ isLk s4 = false) ⟨.no, .no, rfl, rfl, rfl⟩ ?_ ?_
  · rintro i η hi ⟨s3, s4, rfl, l3, l4⟩
    have fi := art_fin (m := m) (i := i) (by omega) (by omega)
    have li := art_len m i
    walk_at "vs"
    have e0 : (art m i).getD 0 (0, 1) = (art m i).headD (0, 1) := by cases art m i <;> rfl
    refine ⟨l4, ?_⟩
    rw [SIx_fr (k := 0) _ (by omega) (by rfl), e0]
    walk_at "vs"
    refine ⟨by rw [frL_len, List.length_map, List.length_range]; exact sz' (by omega), ?_⟩
    rw [frL_len, li]
    refine ⟨⟨by omega, by omega⟩, ?_⟩
    rw [show (((m + 1 - i : Nat) : Int) - 1).toNat = m - i by omega]
    refine lcGo_rg (k := fun k : Nat => frP (stF k ((art m i).getD k (0, 1)) ((art m i).getD (k + 1) (0, 1)))) (sz (by omega)) (fun k hk => ?_) ?_
    · have k1 : k < (art m i).length := by omega
      have k2 : k + 1 < (art m i).length := by omega
      have hx : ∀ (Q : W → Bool → Prop) (d : Dm Q), SIx (.lst (frL (art m i))) (.int (0 + (k : Int))) Q d = Q (frP ((art m i).getD k (0, 1))) false := fun Q d => SIx_fr d k1 (by omega)
      have hy : ∀ (Q : W → Bool → Prop) (d : Dm Q), SIx (.lst (frL (art m i))) (.int (0 + (k : Int) + 1)) Q d = Q (frP ((art m i).getD (k + 1) (0, 1))) false := fun Q d => SIx_fr d k2 (by omega)
      have fx := fi ((art m i).getD k (0, 1)) (by rw [List.getD_eq_getElem?_getD, List.getElem?_eq_getElem k1]; exact List.getElem_mem k1)
      have fy := fi ((art m i).getD (k + 1) (0, 1)) (by rw [List.getD_eq_getElem?_getD, List.getElem?_eq_getElem k2]; exact List.getElem_mem k2)
      generalize (art m i).getD k (0, 1) = x at hx fx
      generalize (art m i).getD (k + 1) (0, 1) = y at hy fy
      obtain ⟨x1, x2, x3⟩ := fin_of fx
      obtain ⟨y1, y2, y3⟩ := fin_of fy
      walk_at "vs"
      have x3' : x.2.natAbs < 2 ^ 400 := by omega
      have y3' : y.2.natAbs < 2 ^ 400 := by omega
      have kb : (0 + (k : Int) + 1).natAbs < 2 ^ 10 := by omega
      have c1 := nb_mul x1 y3'
      have c2 := nb_mul y1 x3'
      have c3 : (x.1 * y.2 - y.1 * x.2).natAbs < 2 ^ (400 + 400 + 1) := by
        rw [Int.sub_eq_add_neg]
        exact nb_add c1 (by rw [Int.natAbs_neg]; exact c2)
      have c4 := nb_mul x3' y3'
      have p0 := Int.mul_pos x2 y2
      have st : stF k x y = VL.lo ((0 + (k : Int) + 1) * (x.1 * y.2 - y.1 * x.2)) (x.2 * y.2) := by unfold stF; rw [Int.zero_add]
      walk_at "vs"
      rw [hx]
      unfold frP
      walk_at "vs"
      rw [hy]
      unfold frP
      walk_at "vs"
      refine ⟨mk_ok x1 y3' (by decide) (by decide), ?_⟩
      rw [hy]
      unfold frP
      walk_at "vs"
      rw [hx]
      unfold frP
      walk_at "vs"
      refine ⟨mk_ok y1 x3' (by decide) (by decide), mk_ok kb c3 (by decide) (by decide), ?_⟩
      rw [hx]
      unfold frP
      walk_at "vs"
      rw [hy]
      unfold frP
      walk_at "vs"
      refine ⟨mk_ok x3' y3' (by decide) (by decide), _, _, rfl, p0, by have : (2 : Nat) ^ (400 + 400) < 2 ^ 8000 := Nat.pow_lt_pow_right (by decide) (by decide); omega, ?_⟩
      rw [st]
      rfl
    · walk_at "vs"
      refine ⟨s3, .fz (.int (0 + (i : Int))), ?_, l3, rfl⟩
      have e1 : frL ((List.range i).map fun t => (art m t).headD (0, 1)) ++ [frP ((art m i).headD (0, 1))] = frL ((List.range (i + 1)).map fun t => (art m t).headD (0, 1)) := by
        unfold frL; rw [List.range_succ, List.map_append, List.map_append]; rfl
      have e2 : ((List.range (m - i)).map fun k => frP (stF k ((art m i).getD k (0, 1)) ((art m i).getD (k + 1) (0, 1)))) = frL (art m (i + 1)) := by
        show _ = frL (astep 0 (art m i))
        rw [astep_ix, li]
        unfold frL
        rw [List.map_map, show m + 1 - i - 1 = m - i by omega]
        refine List.map_congr_left fun k _ => ?_
        show _ = frP (stF (0 + k) _ _)
        rw [Nat.zero_add]
      rw [e1, e2]
  · rintro η ⟨s3, s4, rfl, l3, l4⟩
    walk_at "vs"
    have gt : ∀ k, k < m + 1 → ((List.range (m + 1)).map fun t => (art m t).headD (0, 1)).getD k (0, 1) = (art m k).headD (0, 1) := fun k h => by
      rw [List.getD_eq_getElem?_getD, List.getElem?_map, List.getElem?_range h]; rfl
    rw [SIx_fr (k := 0) _ (by simp) (by rfl), gt 0 (by omega)]
    walk_at "vs"
    refine ⟨sz (by decide), ⟨⟨by decide, by decide⟩, by omega, by omega⟩, ?_⟩
    rw [show ((m : Int) + 1 - 1).toNat = m by omega]
    refine lcGo_rg (k := fun i : Nat => frP (if i = 0 then (-1, 2) else (art m (i + 1)).headD (0, 1))) (sz (by omega)) (fun i hi => ?_) ?_
    · walk_at "vs"
      refine br_both (fun c => ?_) (fun c => ?_)
      · have c : i = 0 := by omega
        walk_at "vs"
        refine ⟨sz (by decide), ?_⟩
        rw [if_pos c]; rfl
      · have c : ¬ i = 0 := by omega
        walk_at "vs"
        rw [SIx_fr (k := i + 1) _ (by simp; omega) (by omega), gt _ (by omega), if_neg c]
    · refine ⟨by rw [List.length_map, List.length_range]; exact sz (by omega), ?_⟩
      have := lawB_ix m
      have e : frP ((art m 0).headD (0, 1)) :: ((List.range m).map fun i : Nat => frP (if i = 0 then (-1, 2) else (art m (i + 1)).headD (0, 1))) = frL (lawB m) := by
        rw [this]; unfold frL; rw [List.map_cons, List.map_map]; rfl
      rw [e]
      exact q
end K30
end

section
set_option Elab.async false
set_option linter.all false
set_option maxRecDepth 100000
set_option exponentiation.threshold 50000
set_option pp.maxSteps 400
set_option pp.deepTerms false
namespace K30
open PySem PySem.Spec PyProof.Rows L2 VL NT SPc
local macro_rules | `(tactic| walk_at "vl") => `(tactic| try simp only [wSeq, wSetM, wIf, wRet, wRetV, wRetN, wNext, wAppend, wParM, wAug, wAsg, wStore, wFz, wLock, wFor, wBreak, wCont, eLst, eTup, eC, eVar, oVar, oE, eBin, eNeg, eIs, eIsNot, aNil, aCons, sAdd, sArith0, sArith, sMul, sOrd, sEq, sNe, bB, bT, truth, bNot, bAnd, bOr, eIf, eAnd, eOr, eNot, eFn, eCall, cInt, cLen, cAbs, cMax2, cMin2, cTuple, cList, gt, putM, put, slOf, isLk_fz, isLk_ow, isLk_no, List.set, nv0, List.map_cons, List.map_nil, List.replicate, List.cons_append, List.nil_append, List.length_cons, List.length_nil, gT, gN, gsCons, gsNil, eLc, lcEl, eRev, eRevB, eCutB, pNone, pSome, iS, eTokS, eTok1, eLc2, lcEl2, bYes, wipeN, lks_c, lks_n, lk1_f, lk1_o, lk1_l, lk1_n, cSum, cSumB, cSortedI, sInT, sIn, sNotIn, sNotInT, pl_int, pl_bl, pl_non, List.all_cons, List.all_nil, List.any_cons, List.any_nil, iE, iRv, iEnB, iV, iRange1, iRange2, fl_int, fl_bl, fl_non, weq_int, weq_bl, weq_non, Bool.or_false, Bool.false_or, Bool.or_true, true_and, and_true, beq_iff_eq, decide_eq_true_eq, Bool.not_eq_true', beq_eq_false_iff_ne, decide_eq_false_iff_not, Bool.and_eq_true, Bool.or_eq_true, Bool.not_not, if_true, Bool.false_eq_true, if_false, Nat.reduceAdd])
local macro_rules | `(tactic| walk_at "vs") => `(tactic| try simp -dsimp only [↓wSeq_b, ↓eDget, ↓eDin, ↓wPutD_b, ↓eDnew, ↓eDnewT, ↓eDone, dAt_I, dIn_I, dPut_I, dLen_I, dAt_P, dIn_P, dPut_P, dLen_P, LkC_some, InC_some, PutC_some, ↓cLenD_I, ↓cLenD_P, Bool.bne_false, Bool.bne_true, ↓wSetM_b, ↓wIf_b, ↓wRet_b, ↓wRetV_b, ↓wRetN, ↓wNext_b, ↓wAppend_b, ↓wParM_b, ↓wPar3_b, ↓wPar3M_b, ↓wAug_b, ↓wAsg_b, ↓wStore_b, ↓wFz_b, ↓wLock_b, ↓wFor, ↓wBreak_b, ↓wCont_b, ↓eLst, ↓eTup, ↓eC, ↓eVar_b, ↓oVar_b, ↓oE, ↓eBin, ↓eNeg, ↓eIs, ↓eIsNot, ↓aNil, ↓aCons, ↓sAdd, ↓sArith0, ↓sArith, ↓sMul, ↓sOrd, ↓sEq, ↓sNe, ↓bB, ↓bT, ↓truth, ↓bNot, ↓bAnd_b, ↓bOr_b, ↓eIf_b, ↓eAnd_b, ↓eOr_b, ↓eNot, ↓eFn_call, ↓eCall, ↓cInt, ↓cLen, ↓cAbs, ↓cMax2, ↓cMin2, ↓cTuple, ↓cList, ↓gT, ↓gN_b, ↓gsCons, ↓gsNil, ↓eLc_b, ↓lcEl_b, ↓eLc2_b, ↓lcEl2_b, ↓eRev, ↓eRevB, ↓eCutB, ↓pNone, ↓pSome, ↓iS, ↓eTokS, ↓eTok1, ↓bYes, ↓cSum, ↓cSumB, ↓cSortedI, ↓sInT, ↓sIn, ↓sNotIn, ↓sNotInT, ↓sIsB, ↓sIsNotB, ↓sIx_b, ↓cGcd, cGcd, ↓iE, ↓iRv, ↓iEnB, ↓iEnV_b, ↓iV_b, ↓iRange1, ↓iRange2, ↓eIsi, ↓eIsi2, eq_self, SIx_tup0, SIx_tup1, SIx_tup2, SIx_tup3, SIx_tup4, SIx_lst0, SIx_lst1, SIx_lst2, SIx_lst3, SIx_lst4, ne_eq, not_true_eq_false, not_false_eq_true, isNon, decide_true, decide_false, List.isEmpty_cons, List.isEmpty_nil, At_fz, At_ow, At_lk, At_no, Go_cons, Go_nil, Br_T, Br_F, gt, putM, put, slOf, wipeN, lks_c, lks_n, lk1_f, lk1_o, lk1_l, lk1_n, tnW, isTn, isLk_fz, isLk_ow, isLk_no, isLk_lk, List.set, nv0, List.map_cons, List.map_nil, List.replicate, List.cons_append, List.nil_append, List.length_cons, List.length_nil, pl_int, pl_bl, pl_non, List.all_cons, List.all_nil, List.any_cons, List.any_nil, fl_int, fl_bl, fl_non, fl_nats, fl_book, weq_int, weq_bl, weq_non, weq_nats, Bool.or_false, Bool.false_or, Bool.or_true, true_and, and_true, beq_iff_eq, decide_eq_true_eq, Bool.not_eq_true', Bool.not_true, Bool.not_false, Bool.true_eq_false, beq_eq_false_iff_ne, decide_eq_false_iff_not, Bool.and_eq_true, Bool.or_eq_true, Bool.not_not, if_true, Bool.false_eq_true, if_false, Nat.reduceAdd])
local macro_rules | `(tactic| walk_at "vt") => `(tactic| try simp -dsimp only [↓eDget, ↓eDin, ↓wPutD_b, ↓eDnew, ↓eDnewT, ↓eDone, dAt_I, dIn_I, dPut_I, dLen_I, dAt_P, dIn_P, dPut_P, dLen_P, LkC_some, InC_some, PutC_some, ↓cLenD_I, ↓cLenD_P, Bool.bne_false, Bool.bne_true, ↓wSetM_b, ↓wIf_b, ↓wRet_b, ↓wRetV_b, ↓wRetN, ↓wNext_b, ↓wAppend_b, ↓wParM_b, ↓wPar3_b, ↓wPar3M_b, ↓wAug_b, ↓wAsg_b, ↓wStore_b, ↓wFz_b, ↓wLock_b, ↓wFor, ↓wBreak_b, ↓wCont_b, ↓eLst, ↓eTup, ↓eC, ↓eVar_b, ↓oVar_b, ↓oE, ↓eBin, ↓eNeg, ↓eIs, ↓eIsNot, ↓aNil, ↓aCons, ↓sAdd, ↓sArith0, ↓sArith, ↓sMul, ↓sOrd, ↓sEq, ↓sNe, ↓bB, ↓bT, ↓truth, ↓bNot, ↓bAnd_b, ↓bOr_b, ↓eIf_b, ↓eAnd_b, ↓eOr_b, ↓eNot, ↓eFn_call, ↓eCall, ↓cInt, ↓cLen, ↓cAbs, ↓cMax2, ↓cMin2, ↓cTuple, ↓cList, ↓gT, ↓gN_b, ↓gsCons, ↓gsNil, ↓eLc_b, ↓lcEl_b, ↓eLc2_b, ↓lcEl2_b, ↓eRev, ↓eRevB, ↓eCutB, ↓pNone, ↓pSome, ↓iS, ↓eTokS, ↓eTok1, ↓bYes, ↓cSum, ↓cSumB, ↓cSortedI, ↓sInT, ↓sIn, ↓sNotIn, ↓sNotInT, ↓sIsB, ↓sIsNotB, ↓sIx_b, ↓cGcd, cGcd, ↓iE, ↓iRv, ↓iEnB, ↓iEnV_b, ↓iV_b, ↓iRange1, ↓iRange2, ↓eIsi, ↓eIsi2, eq_self, SIx_tup0, SIx_tup1, SIx_tup2, SIx_tup3, SIx_tup4, SIx_lst0, SIx_lst1, SIx_lst2, SIx_lst3, SIx_lst4, ne_eq, not_true_eq_false, not_false_eq_true, isNon, decide_true, decide_false, List.isEmpty_cons, List.isEmpty_nil, At_fz, At_ow, At_lk, At_no, Go_cons, Go_nil, Br_T, Br_F, gt, putM, put, slOf, wipeN, lks_c, lks_n, lk1_f, lk1_o, lk1_l, lk1_n, tnW, isTn, isLk_fz, isLk_ow, isLk_no, isLk_lk, List.set, nv0, List.map_cons, List.map_nil, List.replicate, List.cons_append, List.nil_append, List.length_cons, List.length_nil, pl_int, pl_bl, pl_non, List.all_cons, List.all_nil, List.any_cons, List.any_nil, fl_int, fl_bl, fl_non, fl_nats, fl_book, weq_int, weq_bl, weq_non, weq_nats, Bool.or_false, Bool.false_or, Bool.or_true, true_and, and_true, beq_iff_eq, decide_eq_true_eq, Bool.not_eq_true', Bool.not_true, Bool.not_false, Bool.true_eq_false, beq_eq_false_iff_ne, decide_eq_false_iff_not, Bool.and_eq_true, Bool.or_eq_true, Bool.not_not, if_true, Bool.false_eq_true, if_false, Nat.reduceAdd])
local macro_rules | `(tactic| walk_at "env") => `(tactic| repeat' (first | with_reducible rfl | apply congr (congrArg List.cons _) _))
local macro_rules | `(tactic| walk_at "ifp") => `(tactic| first | rw [if_pos (by assumption)] | rw [if_pos (decide_eq_true (by omega))] | rw [if_pos (by omega)] | rw [if_pos (by simp only [decide_eq_true_eq]; omega)] | rw [if_pos (by simp_all)])
local macro_rules | `(tactic| walk_at "ifn") => `(tactic| first | rw [if_neg (by assumption)] | rw [if_neg (by simp only [decide_eq_true_eq]; omega)] | rw [if_neg (by omega)] | rw [if_neg (by simp_all)])
theorem weq_fr (x y : Fr) : weq (frP x) (frP y) = decide (x = y) := by
  obtain ⟨a, b⟩ := x
  obtain ⟨c, d⟩ := y
  unfold frP weq weqs weqs weqs
  simp only [weq_int, Bool.and_true]
  rw [Bool.eq_iff_iff]
  simp
theorem weq_frs : ∀ l : List Fr, weq (.lst (frL l)) (.lst (frL l)) = true := by
  intro l
  unfold weq frL
  induction l with
  | nil => unfold weqs; rfl
  | cons p l ih =>
    rw [List.map_cons]
    unfold weqs
    rw [ih, weq_fr]; simp
theorem fl_fr (p : Fr) : Fl (frP p) := ⟨by unfold frP flat flats flats flats flat; rfl, by unfold frP stOk stOks stOks stOks stOk; rfl⟩
theorem fl_frs (l : List Fr) : Fl (.lst (frL l)) := of_eq_true (fl_lmap (fun p => by unfold frP flat flats flats flats flat; rfl) (fun p => by unfold frP stOk stOks stOks stOks stOk; rfl) l)
theorem ok_fr (n : Nat) (x : Fr) : okW (n + 1) (frP x) = true := by
  unfold frP
  show (decide (2 ≤ 16777216) && [W.int x.1, W.int x.2].all (okW n)) = true
  have : ∀ i : Int, okW n (.int i) = true := fun i => by unfold okW; cases n <;> rfl
  simp [this]
theorem ok_frs {l : List Fr} (h : l.length ≤ 16777216) : okW 4 (.lst (frL l)) = true := by
  show (decide ((frL l).length ≤ 16777216) && (frL l).all (okW 3)) = true
  rw [Bool.and_eq_true, decide_eq_true_eq, frL_len]
  refine ⟨h, List.all_eq_true.mpr fun w hw => ?_⟩
  unfold frL at hw
  obtain ⟨x, _, rfl⟩ := List.mem_map.mp hw
  exact ok_fr 2 x
theorem spr_lt (n : Nat) : (spr' n).Pairwise (· < ·) := by
  unfold spr'
  rw [List.pairwise_map]
  refine (List.Pairwise.filter _ ?_).imp (fun {a b} z => Nat.add_lt_add_right z 1)
  rw [List.pairwise_map]
  exact List.pairwise_lt_range.imp fun {a b} z => by omega
theorem spr_sorted {n : Nat} {ns : List Int} (hp : ns.Perm ((spr' n).map fun d : Nat => (d : Int))) (hs : ns.Pairwise (· ≤ ·)) : ns.map W.int = natsW (spr' n) := by
  obtain ⟨m, hm, rfl⟩ := nat_of_perm hp
  have e2 : m = spr' n := by
    refine lt_uniq (lt_of_le_nodup ?_ (hm.nodup_iff.mpr (lt_nodup (spr_lt n)))) (spr_lt n) fun x => hm.mem_iff
    rw [List.pairwise_map] at hs
    exact hs.imp fun {a b} z => by omega
  subst e2
  rw [← natsW_int]
theorem bl_ix {m k : Nat} (hm : m ≤ 40) (hk : k ≤ m) : (bl m).getD k (0, 1) = (bl 40).getD k (0, 1) := by
  obtain ⟨R, hR⟩ := bl_pre (show m ≤ 68 by omega)
  obtain ⟨S, hS⟩ := bl_pre (show 40 ≤ 68 by omega)
  have e : (bl m ++ R).getD k (0, 1) = (bl 40 ++ S).getD k (0, 1) := by rw [← hR, hS]
  rw [List.getD_eq_getElem?_getD, List.getD_eq_getElem?_getD] at e ⊢
  rw [List.getElem?_append_left (by rw [bl_len]; omega), List.getElem?_append_left (by rw [bl_len]; omega)] at e
  exact e
theorem ok_tnats {l : List Nat} (h : l.length ≤ 16777216) : okW 4 (.tup (natsW l)) = true := by
  show (decide ((natsW l).length ≤ 16777216) && (natsW l).all (okW 3)) = true
  rw [Bool.and_eq_true, decide_eq_true_eq, natsW_len]
  refine ⟨h, List.all_eq_true.mpr fun w hw => ?_⟩
  unfold natsW at hw
  obtain ⟨x, _, rfl⟩ := List.mem_map.mp hw
  unfold okW; rfl
theorem spr_len (n : Nat) : (spr' n).length ≤ n := by
  unfold spr'
  rw [List.length_map]
  exact Nat.le_trans (List.length_filter_le _ _) (by simp)
theorem spr_mem {n p : Nat} (h : p ∈ spr' n) : 2 ≤ p ∧ p ≤ n + 1 := by
  unfold spr' at h
  obtain ⟨d, hd, rfl⟩ := List.mem_map.mp h
  obtain ⟨i, hi, rfl⟩ := List.mem_map.mp (List.mem_filter.mp hd).1
  have := List.mem_range.mp hi
  omega
theorem stau_ok {x : Fr} (hx : fin x = true) : ∀ L : List Nat, (∀ p ∈ L, 2 ≤ p ∧ p < 2 ^ 12) → 0 < (stau x L).2.2 ∧ (stau x L).2.1.natAbs < 2 ^ (400 + 20 * L.length) ∧ (stau x L).2.2.natAbs < 2 ^ (400 + 20 * L.length) ∧ (stau x L).1 < 2 ^ (20 * L.length + 1)
  | [], _ => by
    obtain ⟨h1, h2, h3⟩ := fin_of hx
    exact ⟨h2, h1, by show x.2.natAbs < 2 ^ 400; omega, by show 1 < 2 ^ 1; decide⟩
  | p :: L, h => by
    obtain ⟨h1, h2, h3, h4⟩ := stau_ok hx L fun q hq => h q (List.mem_cons_of_mem _ hq)
    obtain ⟨p2, p3⟩ := h p List.mem_cons_self
    have e : stau x (p :: L) = ((stau x L).1 * p, adFr (stau x L).2 (1, (p : Int))) := rfl
    rw [e]
    generalize stau x L = r at h1 h2 h3 h4
    have pb : (p : Int).natAbs < 2 ^ 12 := by omega
    have c1 := nb_mul h2 pb
    have c2 := nb_mul h3 pb
    have o : (1 : Int).natAbs < 2 ^ 12 := by decide
    have c3 := nb_mul o h3
    have c4 := nb_add c1 (nb_le c3 (show _ ≤ 400 + 20 * L.length + 12 by omega))
    have p0 : 0 < r.2.2 * (p : Int) := Int.mul_pos h1 (by omega)
    obtain ⟨q3, q4⟩ := lo_abs (p := r.2.1 * (p : Int) + 1 * r.2.2) p0
    have q1 := lo_pos (p := r.2.1 * (p : Int) + 1 * r.2.2) p0
    rw [List.length_cons]
    refine ⟨q1, nb_le (Nat.lt_of_le_of_lt q3 c4) (by omega), nb_le (Nat.lt_of_le_of_lt q4 c2) (by omega), ?_⟩
    show r.1 * p < _
    have := Nat.mul_lt_mul'' h4 p3
    rw [← Nat.pow_add] at this
    exact Nat.lt_of_lt_of_le this (Nat.pow_le_pow_right (by decide) (by omega))
theorem evl_snoc : ∀ (l : List Int) (a x : Int), evl (l ++ [a]) x = evl l x + x ^ l.length * a
  | [], a, x => by show a + x * 0 = 0 + x ^ 0 * a; rw [Int.pow_zero]; omega
  | b :: l, a, x => by
    show b + x * evl (l ++ [a]) x = b + x * evl l x + x ^ (l.length + 1) * a
    rw [evl_snoc l a x, Int.pow_succ]; grind
theorem tt_step {t1 t2 y1 y2 z1 z2 x1 x2 P D E c : Int} (t0 : 0 < t2) (y0 : 0 < y2) (x0 : 0 < x2) (hy : y1 * x2 = x1 * P * y2) (hz : z1 * (t2 * y2) = (t1 * y2 + y1 * t2) * z2) (hc : c * x2 = x1 * D) (h : t1 * D = t2 * E) : z1 * D = z2 * (E + P * c) := by
  have p0 : 0 < t2 * y2 * x2 := Int.mul_pos (Int.mul_pos t0 y0) x0
  apply Int.eq_of_mul_eq_mul_right (show t2 * y2 * x2 ≠ 0 by omega)
  have e1 : z1 * D * (t2 * y2 * x2) = z1 * (t2 * y2) * (D * x2) := by grind
  rw [e1, hz]
  have e2 : (t1 * y2 + y1 * t2) * z2 * (D * x2) = z2 * (y2 * x2 * (t1 * D) + t2 * D * (y1 * x2)) := by grind
  rw [e2, h, hy]
  have e3 : z2 * (y2 * x2 * (t2 * E) + t2 * D * (x1 * P * y2)) = z2 * (t2 * y2) * (x2 * E + P * (x1 * D)) := by grind
  rw [e3, ← hc]
  grind
theorem last_tab : ((List.range 20).all fun k => decide (pwE k 0 = VL.lo 1 ((k : Int) + 1))) = true := by decide +kernel
theorem pwR_len (k : Nat) : (pwR k).length = k + 2 := by unfold pwR; simp
theorem fl_tfrs (l : List Fr) : Fl (.tup (frL l)) := of_eq_true (fl_tmap (fun p => by unfold frP flat flats flats flats flat; rfl) (fun p => by unfold frP stOk stOks stOks stOks stOk; rfl) l)
theorem SIx_tfr {l : List Fr} {k : Nat} {j : Int} {Q : W → Bool → Prop} (d : Dm Q) (h : k < l.length) (e : j = (k : Nat)) : SIx (.tup (frL l)) (.int j) Q d = Q (frP (l.getD k (0, 1))) false := by
  rw [e, SIx_tup _ (frL_ix h)]
theorem pwR_last (k : Nat) : (pwR k).getD (k + 1) (0, 1) = pwE k 0 := by
  unfold pwR
  rw [List.getD_eq_getElem?_getD, List.getElem?_cons_succ, List.getElem?_map, List.getElem?_range (by omega)]
  show pwE k (k - k) = _
  rw [Nat.sub_self]
theorem psm_s (k n : Nat) : psm k (n + 1) = psm k n + (n + 1) ^ k := rfl
theorem psm_d (k f : Nat) : (((psm k (f + 1) : Nat) : Int) - ((psm k f : Nat) : Int)) = (((f + 1) ^ k : Nat) : Int) := by
  rw [psm_s k f, Int.natCast_add]; omega
theorem ten9 : (10 : Int) ^ Int.toNat 9 = ((1000000000 : Nat) : Int) := by decide
theorem le9 {f : Nat} (h : f < 1000000000) : (f : Int) + 1 ≤ 10 ^ Int.toNat 9 := by rw [ten9]; omega
theorem v_law (ws : List W) (Q : W → Bool → Prop) (_ : ws.length = 1) (h : spLaw ws Q) : w_law { nx := fun _ => Q .non false, rt := Q } (nv0 ws 18) := by
  obtain ⟨rfl, q⟩ := h
  unfold w_law
  walk_at "vs"
  refine ⟨rfl, ?_⟩
  walk_at "vs"
  refine ⟨41, rfl, by decide, by decide, fun r r0 r4 => ?_⟩
  obtain ⟨m, rfl, hm⟩ : ∃ m : Nat, r = (m : Nat) ∧ m ≤ 40 := ⟨r.toNat, by omega, by omega⟩
  clear r0 r4
  walk_at "vs"
  refine ⟨m, rfl, hm, ?_⟩
  have bt := of_decide_eq_true (List.all_eq_true.mp b_tab m (List.mem_range.mpr (by omega)))
  rw [bt]
  walk_at "vt"
  refine seq_hide fun R hR => ?_
  have key : R [.fz .scr, .fz .tok, .fz (.int (m : Nat)), .fz (.lst (frL (bl m))), .no, .no, .no, .no, .no, .no, .no, .no, .no, .no, .no, .no, .no, .no, .no] := by
    rw [hR]
    clear hR R
    walk_at "vt"
    refine seq_hide fun R hR => ?_
    have key : ∀ s4 s5 s6 s7 s8 s9 s10 s11 s12 s13 s14 s15 s16 s17 s18 : Sl, isLk s7 = false → isLk s11 = false → R [.fz .scr, .fz .tok, .fz (.int (m : Nat)), .fz (.lst (frL (bl m))), s4, s5, s6, s7, s8, s9, s10, s11, s12, s13, s14, s15, s16, s17, s18] := by
      intro s4 s5 s6 s7 s8 s9 s10 s11 s12 s13 s14 s15 s16 s17 s18 l7 l11
      rw [hR]
      clear hR R
      walk_at "vs"
      refine ⟨l7, sz (by decide), l11, _, rfl, by decide, by decide, fun w hw => ?_⟩
      obtain ⟨p, rfl, hp⟩ : ∃ p : Nat, w = .int (p : Nat) ∧ p ∈ ([3, 5, 7, 11, 13, 17, 19, 23, 29, 31, 37, 41, 43, 47, 53, 59, 61, 67, 71] : List Nat) := by
        have : ([3, 5, 7, 11, 13, 17, 19, 23, 29, 31, 37, 41, 43, 47, 53, 59, 61, 67, 71] : List Nat).map (fun p : Nat => W.int (p : Nat)) = [W.int 3, W.int 5, W.int 7, W.int 11, W.int 13, W.int 17, W.int 19, W.int 23, W.int 29, W.int 31, W.int 37, W.int 41, W.int 43, W.int 47, W.int 53, W.int 59, W.int 61, W.int 67, W.int 71] := rfl
        rw [← this] at hw
        obtain ⟨p, h1, h2⟩ := List.mem_map.mp hw
        exact ⟨p, h2.symm, h1⟩
      have rt := of_decide_eq_true (List.all_eq_true.mp rg_tab p hp)
      have pb : 3 ≤ p ∧ p ≤ 71 ∧ p % 2 = 1 := by
        have := of_decide_eq_true (List.all_eq_true.mp (show (([3, 5, 7, 11, 13, 17, 19, 23, 29, 31, 37, 41, 43, 47, 53, 59, 61, 67, 71] : List Nat).all fun p => decide (3 ≤ p ∧ p ≤ 71 ∧ p % 2 = 1)) = true by decide) p hp)
        exact this
      clear hp hw
      walk_at "vs"
      refine ⟨p, rfl, pb.1, pb.2.1, pb.2.2, ?_⟩
      rw [rt]
      walk_at "vs"
      have ee : (!(37 == (p : Int) || (59 == (p : Int) || 67 == (p : Int)))) = !(p == 37 || p == 59 || p == 67) := by
        rw [Bool.eq_iff_iff]
        simp only [Bool.not_eq_true', Bool.or_eq_false_iff, beq_eq_false_iff_ne]
        omega
      rw [ee]
      refine ⟨sz (by decide), ⟨by decide, by decide⟩, _, rfl, by unfold okW; rfl, ?_⟩
      walk_at "vs"
      refine ⟨1, 100, rfl, by decide, by decide, ?_⟩
      rw [show psm 1 100 = 5050 by decide +kernel]
      walk_at "vs"
      refine br_pos (by rfl) ?_
      walk_at "vs"
      refine ⟨3, 10, rfl, by decide, by decide, ?_⟩
      rw [show psm 3 10 = 3025 by decide +kernel]
      walk_at "vs"
      exact q
    clear hR
    walk_at "vt"
    refine ⟨⟨by decide, by decide⟩, ?_⟩
    refine forGo_rg (fun i η => ∃ s4 s5 s6 s7 s8 s9 s10 s11 s12 s13 s14 s15 s16 s17 s18 : Sl, η = [.fz .scr, .fz .tok, .fz (.int (m : Nat)), .fz (.lst (frL (bl m))), s4, s5, s6, s7, s8, s9, s10, s11, s12, s13, s14, s15, s16, s17, s18] ∧ isLk s4 = false ∧ isLk s5 = false ∧ isLk s6 = false ∧ isLk s7 = false ∧ isLk s8 = false ∧ isLk s9 = false ∧ isLk s10 = false ∧ isLk s11 = false ∧ isLk s12 = false ∧ isLk s13 = false ∧ isLk s14 = false ∧ isLk s15 = false ∧ isLk s16 = false ∧ isLk s17 = false ∧ isLk s18 = false) ⟨_, _, _, _, _, _, _, _, _, _, _, _, _, _, _, rfl, rfl, rfl, rfl, rfl, rfl, rfl, rfl, rfl, rfl, rfl, rfl, rfl, rfl, rfl, rfl⟩ ?_ ?_
    · rintro i η hi ⟨s4, s5, s6, s7, s8, s9, s10, s11, s12, s13, s14, s15, s16, s17, s18, rfl, l4, l5, l6, l7, l8, l9, l10, l11, l12, l13, l14, l15, l16, l17, l18⟩
      clear key
      walk_at "vs"
      refine ⟨l5, l6, sz (by decide), _, rfl, by decide, by decide, fun w hw => ?_⟩
      obtain ⟨M, rfl, hM⟩ : ∃ M : Nat, w = .int (M : Nat) ∧ (M = 20 ∨ M = 1000) := by
        rcases List.mem_cons.mp hw with e | hw
        · exact ⟨20, e, .inl rfl⟩
        · rcases List.mem_cons.mp hw with e | hw
          · exact ⟨1000, e, .inr rfl⟩
          · cases hw
      clear hw
      walk_at "vs"
      refine ⟨M, rfl, by omega, by omega, fun r r0 r4 => ?_⟩
      obtain ⟨t, rfl, ht⟩ : ∃ t : Nat, r = (t : Nat) ∧ t < 1000 := ⟨r.toNat, by omega, by omega⟩
      clear r0 r4
      walk_at "vs"
      obtain ⟨n, hn⟩ : ∃ n : Nat, n = 2 + 2 * t := ⟨_, rfl⟩
      rw [show (2 : Int) + 2 * (t : Nat) = (n : Nat) by omega]
      have n2 : 2 ≤ n := by omega
      have n3 : n ≤ 2000 := by omega
      have n4 : n % 2 = 0 := by omega
      refine ⟨⟨sm_nat 30 (by decide) (by decide), sm_nat 30 (by omega) (by decide)⟩, l7, ⟨⟨by decide, by decide⟩, by omega, by omega⟩, ?_⟩
      rw [show ((n : Int) + 1 - 1).toNat = n by omega, rgW_map]
      refine lcGo_filter (k := fun i : Nat => W.int (((1 + i + 1 : Nat)) : Int)) (t := fun i => decide (n % (1 + i) = 0) && isPb (1 + i + 1)) (by rw [List.length_range]; exact sz (by omega)) (fun d hd => ?_) ?_
      · have hd := List.mem_range.mp hd
        walk_at "vs"
        have em : ((n : Int) % (1 + (d : Nat)) = 0) ↔ n % (1 + d) = 0 := by
          rw [show (n : Int) % (1 + (d : Nat)) = ((n % (1 + d) : Nat) : Int) by rw [Int.natCast_emod, Int.natCast_add]; rfl]
          omega
        refine ⟨by omega, br_both (fun c => ?_) (fun c => ?_)⟩
        · have c := em.mp c
          walk_at "vs"
          refine ⟨1 + d + 1, by rfl, by omega, by omega, ?_⟩
          walk_at "vs"
          cases z : isPb (1 + d + 1) with
          | true =>
            walk_at "vs"
            rw [if_pos c]
            rfl
          | false =>
            walk_at "vs"
            rw [if_neg (by simp)]
        · have c : ¬ n % (1 + d) = 0 := fun z => c (em.mpr z)
          walk_at "vs"
          rw [if_neg (fun z => c z.1)]
      · have es : (((List.range n).filter fun i => decide (n % (1 + i) = 0) && isPb (1 + i + 1)).map fun i : Nat => W.int (((1 + i + 1 : Nat)) : Int)) = natsW (spr' n) := by
          unfold natsW spr'
          rw [List.map_map, List.filter_map, List.map_map]; rfl
        rw [es]
        walk_at "vs"
        refine ⟨n, rfl, by omega, by omega, ?_⟩
        walk_at "vs"
        refine ⟨_, (by rw [natsW_int]; exact ints?_map _), fun ns' hp hs => ?_⟩
        rw [spr_sorted hp hs]
        walk_at "vs"
        have sl := spr_len n
        refine ⟨_, rfl, ok_tnats (by omega), ?_⟩
        clear es hp hs ns'
        walk_at "vt"
        refine seq_hide fun R' hR' => ?_
        have key' : ∀ s9 s10 s11 : Sl, isLk s9 = false → isLk s10 = false → isLk s11 = false → R' [.fz .scr, .fz .tok, .fz (.int (m : Nat)), .fz (.lst (frL (bl m))), s4, .fz (.int (0 + (i : Nat))), .fz (.int (n : Nat)), .fz (.lst (natsW (spr' n))), s8, s9, s10, s11, s12, s13, s14, s15, s16, s17, s18] := by
          intro s9 s10 s11 l9 l10 l11
          rw [hR']
          clear hR' R'
          clear hn n2 n3 n4 sl t ht M hM
          walk_at "vs"
          refine ⟨20, rfl, by decide, by decide, fun r r0 r4 => ?_⟩
          obtain ⟨k, rfl, hk⟩ : ∃ k : Nat, r = (k : Nat) ∧ k < 20 := ⟨r.toNat, by omega, by omega⟩
          clear r0 r4
          walk_at "vs"
          refine ⟨60, rfl, by decide, by decide, fun r r0 r4 => ?_⟩
          obtain ⟨u, rfl, hu⟩ : ∃ u : Nat, r = (u : Nat) ∧ u < 60 := ⟨r.toNat, by omega, by omega⟩
          clear r0 r4
          walk_at "vt"
          refine ⟨sz (by decide), l4, ?_⟩
          walk_at "vs"
          refine ⟨l12, ⟨⟨by decide, by decide⟩, by omega, by omega⟩, ?_⟩
          rw [show ((u : Int) + 1 - 1).toNat = u by omega]
          refine forGo_rg (fun t η => ∃ s13 s14 s15 : Sl, η = [.fz .scr, .fz .tok, .fz (.int (m : Nat)), .fz (.lst (frL (bl m))), .fz (.int (k : Nat)), .fz (.int (0 + (i : Nat))), .fz (.int (u : Nat)), .fz (.lst (natsW (spr' n))), s8, s9, s10, s11, .fz (.int (psm k t : Nat)), s13, s14, s15, s16, s17, s18] ∧ isLk s13 = false ∧ isLk s14 = false ∧ isLk s15 = false) ⟨s13, s14, s15, rfl, l13, l14, l15⟩ ?_ ?_
          · rintro t η ht ⟨s13, s14, s15, rfl, l13, l14, l15⟩
            walk_at "vs"
            refine ⟨l13, l14, ⟨by omega, by omega⟩, ?_⟩
            rw [show ((k : Nat) : Int).toNat = k by omega]
            refine forGo_rg (fun j η => ∃ s15 : Sl, η = [.fz .scr, .fz .tok, .fz (.int (m : Nat)), .fz (.lst (frL (bl m))), .fz (.int (k : Nat)), .fz (.int (0 + (i : Nat))), .fz (.int (u : Nat)), .fz (.lst (natsW (spr' n))), s8, s9, s10, s11, .fz (.int (psm k t : Nat)), .fz (.int (1 + (t : Nat))), .fz (.int (((t + 1) ^ j : Nat) : Int)), s15, s16, s17, s18] ∧ isLk s15 = false) ⟨s15, rfl, l15⟩ ?_ ?_
            · rintro j η hj ⟨s15, rfl, l15⟩
              have pb : (t + 1) ^ j < 2 ^ 130 := by
                have h1 : (t + 1) ^ j ≤ 64 ^ j := Nat.pow_le_pow_left (by omega) j
                have h2 : 64 ^ j ≤ 64 ^ 20 := Nat.pow_le_pow_right (by decide) (by omega)
                have h3 : (64 : Nat) ^ 20 < 2 ^ 130 := by decide
                omega
              walk_at "vs"
              refine ⟨l15, mk_ok (a := 130) (b := 20) (by omega) (by omega) (by decide) (by decide), .fz (.int (0 + (j : Nat))), ?_, rfl⟩
              rw [Nat.pow_succ, Int.natCast_mul, show ((t + 1 : Nat) : Int) = 1 + (t : Nat) by omega]
            · rintro η ⟨s15, rfl, l15⟩
              walk_at "vs"
              refine ⟨.fz (.int (1 + (t : Nat))), .fz (.int (((t + 1) ^ k : Nat) : Int)), s15, ?_, rfl, rfl, l15⟩
              rw [show psm k (t + 1) = psm k t + (t + 1) ^ k from rfl, Int.natCast_add]
          · rintro η ⟨s13, s14, s15, rfl, l13, l14, l15⟩
            walk_at "vt"
            walk_at "vs"
            refine ⟨k, u, rfl, hk, by omega, ?_⟩
            walk_at "vs"
            refine ⟨_, rfl, by unfold okW; rfl, ?_⟩
            walk_at "vs"
            refine ⟨l16, k, rfl, hk, ?_⟩
            walk_at "vs"
            refine ⟨sz (by decide), sz (by decide), l10, l14, ?_⟩
            have t := List.all_eq_true.mp cf_tab k (List.mem_range.mpr hk)
            simp only [Bool.and_eq_true, decide_eq_true_eq] at t
            obtain ⟨⟨⟨tp, d0⟩, d1⟩, -⟩ := t
            have D : ∃ c : Fr → Int, cf k = (pwR k).map c ∧ c = fun x => x.1 * ((dn k : Int) / x.2) := ⟨_, rfl, rfl⟩
            obtain ⟨c, hc, hc'⟩ := D
            change forGo _ _ ((pwR k).map frP) _ _
            refine forGo_pre (f := frP) (L := pwR k) (fun A η => ∃ (T : Fr) (s17 : Sl), η = [.fz .scr, .fz .tok, .fz (.int (m : Nat)), .fz (.lst (frL (bl m))), .fz (.int (k : Nat)), .fz (.int (0 + (i : Nat))), .fz (.int (u : Nat)), .fz (.lst (natsW (spr' n))), s8, s9, .fz (frP T), s11, .fz (.int (psm k u : Nat)), s13, .fz (.int ((u ^ A.length : Nat) : Int)), s15, .fz (.tup (frL (pwR k))), s17, s18] ∧ isLk s17 = false ∧ 0 < T.2 ∧ T.1.natAbs < 2 ^ (70 * A.length + 1) ∧ T.2.natAbs < 2 ^ (60 * A.length + 1) ∧ Int.gcd T.1 T.2 = 1 ∧ T.1 * (dn k : Int) = T.2 * evl (A.map c) u) ⟨(0, 1), s17, rfl, l17, by decide, by decide, by decide, by decide, by show 0 * _ = 1 * (0 : Int); omega⟩ ?_ ?_
            · rintro A B x η eL ⟨T, s17, rfl, l17, t0, b1, b2, -, te⟩
              have al : A.length ≤ 20 := by
                have := congrArg List.length eL
                rw [pwR_len] at this
                simp at this
                omega
              have xm : x ∈ pwR k := by rw [eL]; simp
              have tx := List.all_eq_true.mp tp x xm
              simp only [Bool.and_eq_true, decide_eq_true_eq] at tx
              obtain ⟨⟨⟨x0, xd⟩, xa⟩, xb⟩ := tx
              have ub : u ^ A.length < 2 ^ (6 * A.length + 1) := by
                have h1 : u ^ A.length ≤ 64 ^ A.length := Nat.pow_le_pow_left (by omega) _
                rw [show (64 : Nat) = 2 ^ 6 from rfl, ← Nat.pow_mul] at h1
                rw [Nat.pow_succ]
                have := Nat.pow_pos (n := 6 * A.length) (show 0 < 2 by decide)
                omega
              have eA : (A ++ [x]).map c = A.map c ++ [c x] := by simp
              rw [eA, evl_snoc, List.length_append, List.length_singleton, List.length_map]
              walk_at "vs"
              have ub' : ((u ^ A.length : Nat) : Int).natAbs < 2 ^ (6 * A.length + 1) := by omega
              have un : (u : Int).natAbs < 2 ^ 6 := by omega
              have xb' : x.2.natAbs < 2 ^ 60 := by omega
              have c1 := nb_mul xa ub'
              have y1 := lo_pos (p := x.1 * ((u ^ A.length : Nat) : Int)) x0
              obtain ⟨y2, y3⟩ := lo_abs (p := x.1 * ((u ^ A.length : Nat) : Int)) x0
              have y4 := lo_eq (p := x.1 * ((u ^ A.length : Nat) : Int)) x0
              have hc1 : c x * x.2 = x.1 * (dn k : Int) := by
                rw [hc']
                show x.1 * ((dn k : Int) / x.2) * x.2 = _
                rw [Int.mul_assoc, xd]
              refine ⟨l17, ?_⟩
              unfold frP
              walk_at "vs"
              refine ⟨mk_ok xa ub' (by decide) (by omega), _, _, rfl, x0, ?_, ?_⟩
              · have : (2 : Nat) ^ 60 < 2 ^ 8000 := Nat.pow_lt_pow_right (by decide) (by decide)
                omega
              have y2' := Nat.lt_of_le_of_lt y2 c1
              have y3' := Nat.lt_of_le_of_lt y3 xb'
              generalize VL.lo (x.1 * ((u ^ A.length : Nat) : Int)) x.2 = y at y1 y2' y3' y4
              clear y2 y3
              unfold frP
              walk_at "vs"
              have z0 : 0 < T.2 * y.2 := Int.mul_pos t0 y1
              have d1 := nb_mul b1 y3'
              have d2 := nb_mul y2' b2
              have d3 := nb_add (nb_le d1 (show _ ≤ 70 * A.length + 62 by omega)) (nb_le d2 (show _ ≤ 70 * A.length + 62 by omega))
              have d4 := nb_mul b2 y3'
              have z1 := lo_pos (p := T.1 * y.2 + y.1 * T.2) z0
              have z2 := lo_eq (p := T.1 * y.2 + y.1 * T.2) z0
              have z3 := lo_cop (p := T.1 * y.2 + y.1 * T.2) z0
              obtain ⟨z4, z5⟩ := lo_abs (p := T.1 * y.2 + y.1 * T.2) z0
              have st := tt_step t0 y1 x0 y4 z2 hc1 te
              refine ⟨T, y, rfl, t0, y1, ?_, ?_, nb_le b1 (by omega), nb_le y2' (by omega), ?_⟩
              · have := nb_le b2 (show _ ≤ 3000 by omega); omega
              · have := nb_le y3' (show _ ≤ 3000 by omega); omega
              · have e : adFr T y = VL.lo (T.1 * y.2 + y.1 * T.2) (T.2 * y.2) := rfl
                rw [e]
                generalize VL.lo (T.1 * y.2 + y.1 * T.2) (T.2 * y.2) = z at z1 z2 z3 z4 z5 st
                walk_at "vs"
                refine ⟨mk_ok ub' un (by omega) (by decide), z, .fz (W.tup [W.int x.1, W.int x.2]), ?_, rfl, z1, nb_le (Nat.lt_of_le_of_lt z4 d3) (by omega), nb_le (Nat.lt_of_le_of_lt z5 d4) (by omega), z3, by rw [← Int.natCast_pow]; exact st⟩
                rw [Nat.pow_succ, Int.natCast_mul]
                rfl
            · rintro η ⟨T, s17, rfl, l17, t0, b1, b2, g1, te⟩
              rw [← hc, cf_sum hk] at te
              have e1 : T.1 = T.2 * (psm k u : Nat) := by
                apply Int.eq_of_mul_eq_mul_right (show ((dn k : Nat) : Int) ≠ 0 by omega)
                rw [te]; grind
              have dv : T.2 ∣ (Int.gcd T.1 T.2 : Int) := Int.dvd_coe_gcd ⟨_, e1⟩ (Int.dvd_refl _)
              rw [g1] at dv
              have o : T.2 = 1 := Int.eq_one_of_dvd_one (by omega) dv
              rw [o, Int.one_mul] at e1
              have eT : T = (((psm k u : Nat) : Int), (1 : Int)) := Prod.ext e1 o
              clear e1 dv o te
              subst eT
              rw [pwR_len]
              generalize hU : u ^ (k + 2) = U
              clear tp d0 d1 hc hc' c t0 b1 b2 g1
              walk_at "vt"
              refine seq_hide fun R' hR' => ?_
              have key' : ∀ s11 s17 : Sl, isLk s11 = false → isLk s17 = false → R' [.fz .scr, .fz .tok, .fz (.int (m : Nat)), .fz (.lst (frL (bl m))), .fz (.int (k : Nat)), .fz (.int (0 + (i : Nat))), .fz (.int (u : Nat)), .fz (.lst (natsW (spr' n))), s8, s9, .fz (frP (((psm k u : Nat) : Int), (1 : Int))), s11, .fz (.int (psm k u : Nat)), s13, .fz (.int ((U : Nat) : Int)), s15, .fz (.tup (frL (pwR k))), s17, s18] := by
                intro s11 s17 l11 l17
                rw [hR']
                clear hR' R'
                walk_at "vs"
                refine ⟨l18, ⟨by decide, by decide, by decide, by decide⟩, 1000000000, by rw [ten9]; rfl, by decide, by decide, fun r r0 r4 => ?_⟩
                obtain ⟨f, rfl, hf⟩ : ∃ f : Nat, r = (f : Nat) ∧ f < 1000000000 := ⟨r.toNat, by omega, by omega⟩
                clear r0 r4
                walk_at "vs"
                refine ⟨⟨by omega, by omega⟩, ?_⟩
                rw [show ((k : Nat) : Int).toNat = k by omega]
                generalize frP (((psm k u : Nat) : Int), (1 : Int)) = TT
                refine forGo_rg (fun j η => ∃ s15 : Sl, η = [.fz .scr, .fz .tok, .fz (.int (m : Nat)), .fz (.lst (frL (bl m))), .fz (.int (k : Nat)), .fz (.int (0 + (i : Nat))), .fz (.int (u : Nat)), .fz (.lst (natsW (spr' n))), s8, s9, .fz TT, s11, .fz (.int (psm k u : Nat)), s13, .fz (.int (((f + 1) ^ j : Nat) : Int)), s15, .fz (.tup (frL (pwR k))), s17, .fz (.int (f : Nat))] ∧ isLk s15 = false) ⟨s15, rfl, l15⟩ ?_ ?_
                · rintro j η hj ⟨s15, rfl, l15⟩
                  have pb : (f + 1) ^ j < 2 ^ 601 := by
                    have h1 : (f + 1) ^ j ≤ (2 ^ 30) ^ j := Nat.pow_le_pow_left (by omega) j
                    rw [← Nat.pow_mul] at h1
                    have h2 : 2 ^ (30 * j) < 2 ^ 601 := Nat.pow_lt_pow_right (by decide) (by omega)
                    omega
                  walk_at "vs"
                  refine ⟨l15, mk_ok (a := 601) (b := 40) (by omega) (by omega) (by decide) (by decide), .fz (.int (0 + (j : Nat))), ?_, rfl⟩
                  rw [Nat.pow_succ, Int.natCast_mul, Int.natCast_add]
                  rfl
                · rintro η ⟨s15, rfl, l15⟩
                  walk_at "vs"
                  refine ⟨⟨by decide, by decide, by decide, by decide⟩, ?_⟩
                  have hle := le9 hf
                  generalize (10 : Int) ^ Int.toNat 9 = ten at hle
                  refine br_pos hle ?_
                  walk_at "vs"
                  refine ⟨k, f + 1, by rw [Int.natCast_add]; rfl, hk, by omega, ?_⟩
                  walk_at "vs"
                  refine ⟨k, f, rfl, hk, by omega, ?_⟩
                  walk_at "vs"
                  rw [psm_d k f]
                  refine br_neg (by simp) ?_
                  walk_at "vs"
                  have lf : ∀ w : W, isLk (.fz w) = false := fun _ => rfl
                  exact ⟨.fz (.int (k : Nat)), .fz (.int (0 + (i : Nat))), .fz (.int (u : Nat)), .fz (.lst (natsW (spr' n))), s8, s9, .fz TT, s11, .fz (.int (psm k u : Nat)), s13, .fz (.int (((f + 1) ^ k : Nat) : Int)), s15, .fz (.tup (frL (pwR k))), s17, .fz (.int (f : Nat)), rfl, lf _, lf _, lf _, lf _, l8, l9, lf _, l11, lf _, l13, lf _, l15, lf _, l17, lf _⟩
              clear hR'
              walk_at "vs"
              refine br_neg (fun z => z (by rw [frL_len, pwR_len]; omega)) ?_
              walk_at "vs"
              refine ⟨sz (by decide), fl_fr _, fl_fr (_, 1), br_neg (by rw [show W.tup [W.int ((psm k u : Nat) : Int), W.int 1] = frP (((psm k u : Nat) : Int), 1) from rfl, weq_fr]; simp) ?_⟩
              walk_at "vs"
              rw [SIx_tfr (k := 0) _ (by rw [pwR_len]; omega) (by rfl)]
              walk_at "vs"
              refine ⟨sz (by decide), fl_fr _, fl_fr (0, 1), br_neg (by rw [show W.tup [W.int 0, W.int 1] = frP (0, 1) from rfl, weq_fr, show (pwR k).getD 0 (0, 1) = (0, 1) from rfl]; decide) ?_⟩
              walk_at "vs"
              rw [SIx_tfr (k := k + 1) _ (by rw [pwR_len]; omega) (by rfl), pwR_last, of_decide_eq_true (List.all_eq_true.mp last_tab k (List.mem_range.mpr hk))]
              walk_at "vs"
              refine ⟨1, (k : Int) + 1, rfl, by omega, by have := Nat.one_lt_two_pow (n := 8000) (by decide); omega, ?_⟩
              walk_at "vs"
              refine ⟨fl_fr _, fl_fr _, br_neg (by rw [weq_fr]; simp) ?_⟩
              walk_at "vs"
              exact key' _ _ l11 l17
        clear hR'
        walk_at "vt"
        refine br_both (fun c => ?_) (fun c => ?_)
        · have c : n ≤ m := by omega
          walk_at "vs"
          have nl : n < (bl m).length := by rw [bl_len]; omega
          have fx : fin ((bl m).getD n (0, 1)) = true := by
            rw [List.getD_eq_getElem?_getD, List.getElem?_eq_getElem nl]
            exact bl_fin (by omega) (List.getElem_mem nl)
          have st : (((bl m).getD n (0, 1)).2 = ((stau ((bl m).getD n (0, 1)) (spr' n).reverse).1 : Nat)) ∧ (stau ((bl m).getD n (0, 1)) (spr' n).reverse).2.2 = 1 := by
            have := List.all_eq_true.mp st_tab t (List.mem_range.mpr (by omega))
            simp only [Bool.and_eq_true, decide_eq_true_eq] at this
            rw [← hn, ← bl_ix hm c] at this
            exact this
          refine ⟨l9, l10, ?_⟩
          have sx : ∀ (Q : W → Bool → Prop) (d : Dm Q), SIx (.lst (frL (bl m))) (.int (n : Nat)) Q d = Q (frP ((bl m).getD n (0, 1))) false := fun Q d => SIx_fr d nl rfl
          generalize (bl m).getD n (0, 1) = x at fx st sx
          rw [sx]
          walk_at "vs"
          have ll : (spr' n).length ≤ 40 := by omega
          change forGo _ _ ((spr' n).map fun d : Nat => W.int (d : Nat)) _ _
          refine forGo_pre (f := fun d : Nat => W.int (d : Nat)) (L := spr' n) (fun A η => ∃ s11 : Sl, η = [.fz .scr, .fz .tok, .fz (.int (m : Nat)), .fz (.lst (frL (bl m))), s4, .fz (.int (0 + (i : Nat))), .fz (.int (n : Nat)), .fz (.lst (natsW (spr' n))), s8, .fz (.int ((stau x A.reverse).1 : Nat)), .fz (frP (stau x A.reverse).2), s11, s12, s13, s14, s15, s16, s17, s18] ∧ isLk s11 = false) ⟨s11, rfl, l11⟩ ?_ ?_
          · rintro A B p η eL ⟨s11, rfl, l11⟩
            obtain ⟨h1, h2, h3, h4⟩ := stau_ok fx A.reverse fun q hq => by
              have := spr_mem (n := n) (p := q) (by rw [eL]; exact List.mem_append_left _ (List.mem_reverse.mp hq))
              omega
            have al : A.length ≤ 40 := by
              have := congrArg List.length eL
              simp at this
              omega
            have pm := spr_mem (n := n) (p := p) (by rw [eL]; simp)
            rw [List.length_reverse] at h2 h3 h4
            have e : stau x (A ++ [p]).reverse = ((stau x A.reverse).1 * p, adFr (stau x A.reverse).2 (1, (p : Int))) := by rw [List.reverse_append]; rfl
            rw [e]
            generalize stau x A.reverse = r at h1 h2 h3 h4
            have h4' : ((r.1 : Nat) : Int).natAbs < 2 ^ (20 * A.length + 1) := by omega
            have pb : (p : Int).natAbs < 2 ^ 12 := by omega
            walk_at "vs"
            have c1 := nb_mul h4' pb
            refine ⟨l11, mk_ok h4' pb (by omega) (by decide), sz (by decide), r.2, (1, (p : Int)), rfl, h1, by show 0 < (p : Int); omega, ?_, ?_, nb_le h2 (by omega), by show (1 : Int).natAbs < 2 ^ 3000; exact Nat.one_lt_two_pow (by decide), ?_⟩
            · have := Nat.pow_le_pow_right (n := 2) (by decide) (show 400 + 20 * A.length ≤ 3000 by omega)
              omega
            · show (p : Int) < 2 ^ 3000
              have := Nat.pow_le_pow_right (n := 2) (by decide) (show 12 ≤ 3000 by omega)
              omega
            · walk_at "vs"
              refine ⟨.fz (.int (p : Nat)), ?_, rfl⟩
              rw [Int.natCast_mul]
          · rintro η ⟨s11, rfl, l11⟩
            walk_at "vs"
            rw [sx]
            generalize stau x (spr' n).reverse = r at st
            unfold frP
            walk_at "vs"
            refine br_neg (fun z => z st.1) ?_
            walk_at "vs"
            refine br_neg (fun z => z st.2) ?_
            walk_at "vs"
            exact key' _ _ _ rfl rfl l11
        · walk_at "vs"
          exact key' _ _ _ l9 l10 l11
    · rintro η ⟨s4, s5, s6, s7, s8, s9, s10, s11, s12, s13, s14, s15, s16, s17, s18, rfl, l4, l5, l6, l7, l8, l9, l10, l11, l12, l13, l14, l15, l16, l17, l18⟩
      exact key _ _ _ _ _ _ _ _ _ _ _ _ _ _ _ l7 l11
  clear hR
  walk_at "vs"
  refine ⟨m, rfl, by omega, ?_⟩
  walk_at "vs"
  refine ⟨_, rfl, ok_frs (by rw [bl_len]; omega), ?_⟩
  walk_at "vs"
  have ot := fun k (h : k < 41) => List.all_eq_true.mp odd_tab k (List.mem_range.mpr h)
  refine ⟨⟨⟨by decide, by decide⟩, by omega, by omega⟩, ?_⟩
  rw [rgW_map]
  refine lcGo_filter (k := fun _ : Nat => W.int 0) (t := fun _ => false) (by rw [List.length_range]; exact sz (by omega)) (fun d hd => ?_) ?_
  · have hd := List.mem_range.mp hd
    walk_at "vs"
    refine ⟨by decide, br_both (fun c => ?_) (fun c => ?_)⟩
    · walk_at "vs"
      have k1 : 3 + d < (bl m).length := by rw [bl_len]; omega
      have z : (bl 40)[3 + d]? = some (0, 1) := by
        have := ot (3 + d) (by omega)
        rw [decide_eq_false (by omega : ¬ 3 + d < 3), decide_eq_false (by omega : ¬ (3 + d) % 2 = 0)] at this
        exact of_decide_eq_true this
      have z2 : (bl m).getD (3 + d) (0, 1) = (0, 1) := by
        rw [bl_ix hm (by omega), List.getD_eq_getElem?_getD, z]; rfl
      rw [SIx_fr (k := 3 + d) _ k1 (by omega), z2]
      walk_at "vs"
      exact ⟨sz (by decide), fl_fr _, fl_fr (0, 1), br_neg (by rw [show W.tup [W.int 0, W.int 1] = frP (0, 1) from rfl, weq_fr]; decide) (by rfl)⟩
    · walk_at "vs"
  · rw [show ((List.range ((m : Int) + 1 - 3).toNat).filter fun _ => false) = [] by simp]
    refine ⟨sz (by decide), ⟨by decide, by decide⟩, ⟨by decide, by decide⟩, br_neg (by decide) ?_⟩
    walk_at "vs"
    exact key
end K30
end

section
set_option Elab.async false
set_option linter.all false
set_option maxRecDepth 100000
namespace K30
open PySem PySem.Spec PyProof.Rows L2 VL NT SPc
section
theorem all_mk {l : PySem.W.OpenLaw} {w : World} {K : PySem.W.Frag} {h : Heap} {mg : Str → Option Value} {fa : Addr} (X : K.In h) (G : h.Ns mainGlobals mg) (hfa : mg "law" = some (.ref fa))
    {od_power an_power : Option Addr} {sl_power : Array (Option Value)} {oc_power kV_power dc_power pm_power cd_power ct_power : Value} {f_power : Addr}
    (a_power : PySem.W.nsIn K mainGlobals "power" = some (some (.ref f_power))) (l_power : K.lookup f_power = some ⟨oc_power, od_power, .func (PySem.W.fnOf "power" "power" (defArgs st_power) (defBody st_power) (defScope st_power) .none kV_power dc_power pm_power an_power cd_power ct_power), sl_power⟩) (c_power : PySem.W.codeIn K cd_power "power" = true) (k_power : PySem.W.keepIn K (.ref f_power) = true)
    {od_prime_powers an_prime_powers : Option Addr} {sl_prime_powers : Array (Option Value)} {oc_prime_powers kV_prime_powers dc_prime_powers pm_prime_powers cd_prime_powers ct_prime_powers : Value} {f_prime_powers : Addr}
    (a_prime_powers : PySem.W.nsIn K mainGlobals "prime_powers" = some (some (.ref f_prime_powers))) (l_prime_powers : K.lookup f_prime_powers = some ⟨oc_prime_powers, od_prime_powers, .func (PySem.W.fnOf "prime_powers" "prime_powers" (defArgs st_prime_powers) (defBody st_prime_powers) (defScope st_prime_powers) .none kV_prime_powers dc_prime_powers pm_prime_powers an_prime_powers cd_prime_powers ct_prime_powers), sl_prime_powers⟩) (c_prime_powers : PySem.W.codeIn K cd_prime_powers "prime_powers" = true) (k_prime_powers : PySem.W.keepIn K (.ref f_prime_powers) = true)
    {od_lowest an_lowest : Option Addr} {sl_lowest : Array (Option Value)} {oc_lowest kV_lowest dc_lowest pm_lowest cd_lowest ct_lowest : Value} {f_lowest : Addr}
    (a_lowest : PySem.W.nsIn K mainGlobals "lowest" = some (some (.ref f_lowest))) (l_lowest : K.lookup f_lowest = some ⟨oc_lowest, od_lowest, .func (PySem.W.fnOf "lowest" "lowest" (defArgs st_lowest) (defBody st_lowest) (defScope st_lowest) .none kV_lowest dc_lowest pm_lowest an_lowest cd_lowest ct_lowest), sl_lowest⟩) (c_lowest : PySem.W.codeIn K cd_lowest "lowest" = true) (k_lowest : PySem.W.keepIn K (.ref f_lowest) = true)
    {od_ways an_ways : Option Addr} {sl_ways : Array (Option Value)} {oc_ways kV_ways dc_ways pm_ways cd_ways ct_ways : Value} {f_ways : Addr}
    (a_ways : PySem.W.nsIn K mainGlobals "ways" = some (some (.ref f_ways))) (l_ways : K.lookup f_ways = some ⟨oc_ways, od_ways, .func (PySem.W.fnOf "ways" "ways" (defArgs st_ways) (defBody st_ways) (defScope st_ways) .none kV_ways dc_ways pm_ways an_ways cd_ways ct_ways), sl_ways⟩) (c_ways : PySem.W.codeIn K cd_ways "ways" = true) (k_ways : PySem.W.keepIn K (.ref f_ways) = true)
    {od_bernoulli an_bernoulli : Option Addr} {sl_bernoulli : Array (Option Value)} {oc_bernoulli kV_bernoulli dc_bernoulli pm_bernoulli cd_bernoulli ct_bernoulli : Value} {f_bernoulli : Addr}
    (a_bernoulli : PySem.W.nsIn K mainGlobals "bernoulli" = some (some (.ref f_bernoulli))) (l_bernoulli : K.lookup f_bernoulli = some ⟨oc_bernoulli, od_bernoulli, .func (PySem.W.fnOf "bernoulli" "bernoulli" (defArgs st_bernoulli) (defBody st_bernoulli) (defScope st_bernoulli) .none kV_bernoulli dc_bernoulli pm_bernoulli an_bernoulli cd_bernoulli ct_bernoulli), sl_bernoulli⟩) (c_bernoulli : PySem.W.codeIn K cd_bernoulli "bernoulli" = true) (k_bernoulli : PySem.W.keepIn K (.ref f_bernoulli) = true)
    {od_divisors an_divisors : Option Addr} {sl_divisors : Array (Option Value)} {oc_divisors kV_divisors dc_divisors pm_divisors cd_divisors ct_divisors : Value} {f_divisors : Addr}
    (a_divisors : PySem.W.nsIn K mainGlobals "divisors" = some (some (.ref f_divisors))) (l_divisors : K.lookup f_divisors = some ⟨oc_divisors, od_divisors, .func (PySem.W.fnOf "divisors" "divisors" (defArgs st_divisors) (defBody st_divisors) (defScope st_divisors) .none kV_divisors dc_divisors pm_divisors an_divisors cd_divisors ct_divisors), sl_divisors⟩) (c_divisors : PySem.W.codeIn K cd_divisors "divisors" = true) (k_divisors : PySem.W.keepIn K (.ref f_divisors) = true)
    {od_staudt_primes an_staudt_primes : Option Addr} {sl_staudt_primes : Array (Option Value)} {oc_staudt_primes kV_staudt_primes dc_staudt_primes pm_staudt_primes cd_staudt_primes ct_staudt_primes : Value} {f_staudt_primes : Addr}
    (a_staudt_primes : PySem.W.nsIn K mainGlobals "staudt_primes" = some (some (.ref f_staudt_primes))) (l_staudt_primes : K.lookup f_staudt_primes = some ⟨oc_staudt_primes, od_staudt_primes, .func (PySem.W.fnOf "staudt_primes" "staudt_primes" (defArgs st_staudt_primes) (defBody st_staudt_primes) (defScope st_staudt_primes) .none kV_staudt_primes dc_staudt_primes pm_staudt_primes an_staudt_primes cd_staudt_primes ct_staudt_primes), sl_staudt_primes⟩) (c_staudt_primes : PySem.W.codeIn K cd_staudt_primes "staudt_primes" = true) (k_staudt_primes : PySem.W.keepIn K (.ref f_staudt_primes) = true)
    {od_power_row an_power_row : Option Addr} {sl_power_row : Array (Option Value)} {oc_power_row kV_power_row dc_power_row pm_power_row cd_power_row ct_power_row : Value} {f_power_row : Addr}
    (a_power_row : PySem.W.nsIn K mainGlobals "power_row" = some (some (.ref f_power_row))) (l_power_row : K.lookup f_power_row = some ⟨oc_power_row, od_power_row, .func (PySem.W.fnOf "power_row" "power_row" (defArgs st_power_row) (defBody st_power_row) (defScope st_power_row) .none kV_power_row dc_power_row pm_power_row an_power_row cd_power_row ct_power_row), sl_power_row⟩) (c_power_row : PySem.W.codeIn K cd_power_row "power_row" = true) (k_power_row : PySem.W.keepIn K (.ref f_power_row) = true)
    {od_power_sum an_power_sum : Option Addr} {sl_power_sum : Array (Option Value)} {oc_power_sum kV_power_sum dc_power_sum pm_power_sum cd_power_sum ct_power_sum : Value} {f_power_sum : Addr}
    (a_power_sum : PySem.W.nsIn K mainGlobals "power_sum" = some (some (.ref f_power_sum))) (l_power_sum : K.lookup f_power_sum = some ⟨oc_power_sum, od_power_sum, .func (PySem.W.fnOf "power_sum" "power_sum" (defArgs st_power_sum) (defBody st_power_sum) (defScope st_power_sum) .none kV_power_sum dc_power_sum pm_power_sum an_power_sum cd_power_sum ct_power_sum), sl_power_sum⟩) (c_power_sum : PySem.W.codeIn K cd_power_sum "power_sum" = true) (k_power_sum : PySem.W.keepIn K (.ref f_power_sum) = true)
    {od_is_regular an_is_regular : Option Addr} {sl_is_regular : Array (Option Value)} {oc_is_regular kV_is_regular dc_is_regular pm_is_regular cd_is_regular ct_is_regular : Value} {f_is_regular : Addr}
    (a_is_regular : PySem.W.nsIn K mainGlobals "is_regular" = some (some (.ref f_is_regular))) (l_is_regular : K.lookup f_is_regular = some ⟨oc_is_regular, od_is_regular, .func (PySem.W.fnOf "is_regular" "is_regular" (defArgs st_is_regular) (defBody st_is_regular) (defScope st_is_regular) .none kV_is_regular dc_is_regular pm_is_regular an_is_regular cd_is_regular ct_is_regular), sl_is_regular⟩) (c_is_regular : PySem.W.codeIn K cd_is_regular "is_regular" = true) (k_is_regular : PySem.W.keepIn K (.ref f_is_regular) = true)
    {od_l_law_state an_l_law_state : Option Addr} {sl_l_law_state : Array (Option Value)} {oc_l_law_state kV_l_law_state dc_l_law_state pm_l_law_state cd_l_law_state ct_l_law_state : Value} {f_l_law_state : Addr}
    (a_l_law_state : PySem.W.nsIn K mainGlobals "_law_state" = some (some (.ref f_l_law_state))) (l_l_law_state : K.lookup f_l_law_state = some ⟨oc_l_law_state, od_l_law_state, .func (PySem.W.fnOf "_law_state" "_law_state" (defArgs st_l_law_state) (defBody st_l_law_state) (defScope st_l_law_state) .none kV_l_law_state dc_l_law_state pm_l_law_state an_l_law_state cd_l_law_state ct_l_law_state), sl_l_law_state⟩) (c_l_law_state : PySem.W.codeIn K cd_l_law_state "_law_state" = true) (k_l_law_state : PySem.W.keepIn K (.ref f_l_law_state) = true)
    {od_l_law_draw an_l_law_draw : Option Addr} {sl_l_law_draw : Array (Option Value)} {oc_l_law_draw kV_l_law_draw dc_l_law_draw pm_l_law_draw cd_l_law_draw ct_l_law_draw : Value} {f_l_law_draw : Addr}
    (a_l_law_draw : PySem.W.nsIn K mainGlobals "_law_draw" = some (some (.ref f_l_law_draw))) (l_l_law_draw : K.lookup f_l_law_draw = some ⟨oc_l_law_draw, od_l_law_draw, .func (PySem.W.fnOf "_law_draw" "_law_draw" (defArgs st_l_law_draw) (defBody st_l_law_draw) (defScope st_l_law_draw) .none kV_l_law_draw dc_l_law_draw pm_l_law_draw an_l_law_draw cd_l_law_draw ct_l_law_draw), sl_l_law_draw⟩) (c_l_law_draw : PySem.W.codeIn K cd_l_law_draw "_law_draw" = true) (k_l_law_draw : PySem.W.keepIn K (.ref f_l_law_draw) = true)
    {od_l_law_pick an_l_law_pick : Option Addr} {sl_l_law_pick : Array (Option Value)} {oc_l_law_pick kV_l_law_pick dc_l_law_pick pm_l_law_pick cd_l_law_pick ct_l_law_pick : Value} {f_l_law_pick : Addr}
    (a_l_law_pick : PySem.W.nsIn K mainGlobals "_law_pick" = some (some (.ref f_l_law_pick))) (l_l_law_pick : K.lookup f_l_law_pick = some ⟨oc_l_law_pick, od_l_law_pick, .func (PySem.W.fnOf "_law_pick" "_law_pick" (defArgs st_l_law_pick) (defBody st_l_law_pick) (defScope st_l_law_pick) .none kV_l_law_pick dc_l_law_pick pm_l_law_pick an_l_law_pick cd_l_law_pick ct_l_law_pick), sl_l_law_pick⟩) (c_l_law_pick : PySem.W.codeIn K cd_l_law_pick "_law_pick" = true) (k_l_law_pick : PySem.W.keepIn K (.ref f_l_law_pick) = true)
    {od_l_law_eq an_l_law_eq : Option Addr} {sl_l_law_eq : Array (Option Value)} {oc_l_law_eq kV_l_law_eq dc_l_law_eq pm_l_law_eq cd_l_law_eq ct_l_law_eq : Value} {f_l_law_eq : Addr}
    (a_l_law_eq : PySem.W.nsIn K mainGlobals "_law_eq" = some (some (.ref f_l_law_eq))) (l_l_law_eq : K.lookup f_l_law_eq = some ⟨oc_l_law_eq, od_l_law_eq, .func (PySem.W.fnOf "_law_eq" "_law_eq" (defArgs st_l_law_eq) (defBody st_l_law_eq) (defScope st_l_law_eq) .none kV_l_law_eq dc_l_law_eq pm_l_law_eq an_l_law_eq cd_l_law_eq ct_l_law_eq), sl_l_law_eq⟩) (c_l_law_eq : PySem.W.codeIn K cd_l_law_eq "_law_eq" = true) (k_l_law_eq : PySem.W.keepIn K (.ref f_l_law_eq) = true)
    {od_l_law_frac an_l_law_frac : Option Addr} {sl_l_law_frac : Array (Option Value)} {oc_l_law_frac kV_l_law_frac dc_l_law_frac pm_l_law_frac cd_l_law_frac ct_l_law_frac : Value} {f_l_law_frac : Addr}
    (a_l_law_frac : PySem.W.nsIn K mainGlobals "_law_frac" = some (some (.ref f_l_law_frac))) (l_l_law_frac : K.lookup f_l_law_frac = some ⟨oc_l_law_frac, od_l_law_frac, .func (PySem.W.fnOf "_law_frac" "_law_frac" (defArgs st_l_law_frac) (defBody st_l_law_frac) (defScope st_l_law_frac) .none kV_l_law_frac dc_l_law_frac pm_l_law_frac an_l_law_frac cd_l_law_frac ct_l_law_frac), sl_l_law_frac⟩) (c_l_law_frac : PySem.W.codeIn K cd_l_law_frac "_law_frac" = true) (k_l_law_frac : PySem.W.keepIn K (.ref f_l_law_frac) = true)
    {od_l_law_add an_l_law_add : Option Addr} {sl_l_law_add : Array (Option Value)} {oc_l_law_add kV_l_law_add dc_l_law_add pm_l_law_add cd_l_law_add ct_l_law_add : Value} {f_l_law_add : Addr}
    (a_l_law_add : PySem.W.nsIn K mainGlobals "_law_add" = some (some (.ref f_l_law_add))) (l_l_law_add : K.lookup f_l_law_add = some ⟨oc_l_law_add, od_l_law_add, .func (PySem.W.fnOf "_law_add" "_law_add" (defArgs st_l_law_add) (defBody st_l_law_add) (defScope st_l_law_add) .none kV_l_law_add dc_l_law_add pm_l_law_add an_l_law_add cd_l_law_add ct_l_law_add), sl_l_law_add⟩) (c_l_law_add : PySem.W.codeIn K cd_l_law_add "_law_add" = true) (k_l_law_add : PySem.W.keepIn K (.ref f_l_law_add) = true)
    {od_l_law_powers an_l_law_powers : Option Addr} {sl_l_law_powers : Array (Option Value)} {oc_l_law_powers kV_l_law_powers dc_l_law_powers pm_l_law_powers cd_l_law_powers ct_l_law_powers : Value} {f_l_law_powers : Addr}
    (a_l_law_powers : PySem.W.nsIn K mainGlobals "_law_powers" = some (some (.ref f_l_law_powers))) (l_l_law_powers : K.lookup f_l_law_powers = some ⟨oc_l_law_powers, od_l_law_powers, .func (PySem.W.fnOf "_law_powers" "_law_powers" (defArgs st_l_law_powers) (defBody st_l_law_powers) (defScope st_l_law_powers) .none kV_l_law_powers dc_l_law_powers pm_l_law_powers an_l_law_powers cd_l_law_powers ct_l_law_powers), sl_l_law_powers⟩) (c_l_law_powers : PySem.W.codeIn K cd_l_law_powers "_law_powers" = true) (k_l_law_powers : PySem.W.keepIn K (.ref f_l_law_powers) = true)
    {od_l_law_is_prime an_l_law_is_prime : Option Addr} {sl_l_law_is_prime : Array (Option Value)} {oc_l_law_is_prime kV_l_law_is_prime dc_l_law_is_prime pm_l_law_is_prime cd_l_law_is_prime ct_l_law_is_prime : Value} {f_l_law_is_prime : Addr}
    (a_l_law_is_prime : PySem.W.nsIn K mainGlobals "_law_is_prime" = some (some (.ref f_l_law_is_prime))) (l_l_law_is_prime : K.lookup f_l_law_is_prime = some ⟨oc_l_law_is_prime, od_l_law_is_prime, .func (PySem.W.fnOf "_law_is_prime" "_law_is_prime" (defArgs st_l_law_is_prime) (defBody st_l_law_is_prime) (defScope st_l_law_is_prime) .none kV_l_law_is_prime dc_l_law_is_prime pm_l_law_is_prime an_l_law_is_prime cd_l_law_is_prime ct_l_law_is_prime), sl_l_law_is_prime⟩) (c_l_law_is_prime : PySem.W.codeIn K cd_l_law_is_prime "_law_is_prime" = true) (k_l_law_is_prime : PySem.W.keepIn K (.ref f_l_law_is_prime) = true)
    {od_l_law_bernoulli an_l_law_bernoulli : Option Addr} {sl_l_law_bernoulli : Array (Option Value)} {oc_l_law_bernoulli kV_l_law_bernoulli dc_l_law_bernoulli pm_l_law_bernoulli cd_l_law_bernoulli ct_l_law_bernoulli : Value} {f_l_law_bernoulli : Addr}
    (a_l_law_bernoulli : PySem.W.nsIn K mainGlobals "_law_bernoulli" = some (some (.ref f_l_law_bernoulli))) (l_l_law_bernoulli : K.lookup f_l_law_bernoulli = some ⟨oc_l_law_bernoulli, od_l_law_bernoulli, .func (PySem.W.fnOf "_law_bernoulli" "_law_bernoulli" (defArgs st_l_law_bernoulli) (defBody st_l_law_bernoulli) (defScope st_l_law_bernoulli) .none kV_l_law_bernoulli dc_l_law_bernoulli pm_l_law_bernoulli an_l_law_bernoulli cd_l_law_bernoulli ct_l_law_bernoulli), sl_l_law_bernoulli⟩) (c_l_law_bernoulli : PySem.W.codeIn K cd_l_law_bernoulli "_law_bernoulli" = true) (k_l_law_bernoulli : PySem.W.keepIn K (.ref f_l_law_bernoulli) = true)
    {od_law an_law : Option Addr} {sl_law : Array (Option Value)} {oc_law kV_law dc_law pm_law cd_law ct_law : Value} {f_law : Addr}
    (a_law : PySem.W.nsIn K mainGlobals "law" = some (some (.ref f_law))) (l_law : K.lookup f_law = some ⟨oc_law, od_law, .func (PySem.W.fnOf "law" "law" (defArgs st_law) (defBody st_law) (defScope st_law) .none kV_law dc_law pm_law an_law cd_law ct_law), sl_law⟩) (c_law : PySem.W.codeIn K cd_law "law" = true) (k_law : PySem.W.keepIn K (.ref f_law) = true)
    (z_abs : PySem.W.nsIn K mainGlobals "abs" = some none) (z_all : PySem.W.nsIn K mainGlobals "all" = some none) (z_bool : PySem.W.nsIn K mainGlobals "bool" = some none) (z_enumerate : PySem.W.nsIn K mainGlobals "enumerate" = some none) (z_gcd : PySem.W.nsIn K mainGlobals "gcd" = some (some (.builtin "math.gcd"))) (z_int : PySem.W.nsIn K mainGlobals "int" = some none) (z_isinstance : PySem.W.nsIn K mainGlobals "isinstance" = some none) (z_len : PySem.W.nsIn K mainGlobals "len" = some none) (z_list : PySem.W.nsIn K mainGlobals "list" = some none) (z_max : PySem.W.nsIn K mainGlobals "max" = some none) (z_range : PySem.W.nsIn K mainGlobals "range" = some none) (z_sorted : PySem.W.nsIn K mainGlobals "sorted" = some none) (z_str : PySem.W.nsIn K mainGlobals "str" = some none) (z_tuple : PySem.W.nsIn K mainGlobals "tuple" = some none) :
    ∃ fd : FuncData, (∀ (s : Shared) (v : Value), BindsTo s fd ⟨[v], []⟩ [("script", v)]) ∧ ∀ base : Heap, K.In base → base.Ns mainGlobals mg → FnOk l.prog w K mg base L2.CX0 7 fa fd ["script"] (tSp K 1 spLaw) := by
  have e := hfa.symm.trans (PySem.W.mg_of X G a_law)
  cases e
  have M : Mb mg := ⟨PySem.W.mg_none_of X G z_abs, PySem.W.mg_none_of X G z_all, PySem.W.mg_none_of X G z_bool, PySem.W.mg_none_of X G z_enumerate, PySem.W.mg_of X G z_gcd, PySem.W.mg_none_of X G z_int, PySem.W.mg_none_of X G z_isinstance, PySem.W.mg_none_of X G z_len, PySem.W.mg_none_of X G z_list, PySem.W.mg_none_of X G z_max, PySem.W.mg_none_of X G z_range, PySem.W.mg_none_of X G z_sorted, PySem.W.mg_none_of X G z_str, PySem.W.mg_none_of X G z_tuple⟩
  have F_power := fun_mk (st := st_power) l_power c_power k_power
  have D_power : DefAt K mg "power" st_power ["base", "n"] := def_mk X G a_power l_power c_power k_power (F_power.binds (ps := ["base", "n"]) fun _ _ _ _ _ _ us hl => match us, hl with | [_, _], _ => rfl)
  have F_prime_powers := fun_mk (st := st_prime_powers) l_prime_powers c_prime_powers k_prime_powers
  have D_prime_powers : DefAt K mg "prime_powers" st_prime_powers ["n"] := def_mk X G a_prime_powers l_prime_powers c_prime_powers k_prime_powers (F_prime_powers.binds (ps := ["n"]) fun _ _ _ _ _ _ us hl => match us, hl with | [_], _ => rfl)
  have F_lowest := fun_mk (st := st_lowest) l_lowest c_lowest k_lowest
  have D_lowest : DefAt K mg "lowest" st_lowest ["p", "q"] := def_mk X G a_lowest l_lowest c_lowest k_lowest (F_lowest.binds (ps := ["p", "q"]) fun _ _ _ _ _ _ us hl => match us, hl with | [_, _], _ => rfl)
  have F_ways := fun_mk (st := st_ways) l_ways c_ways k_ways
  have D_ways : DefAt K mg "ways" st_ways ["n", "k"] := def_mk X G a_ways l_ways c_ways k_ways (F_ways.binds (ps := ["n", "k"]) fun _ _ _ _ _ _ us hl => match us, hl with | [_, _], _ => rfl)
  have F_bernoulli := fun_mk (st := st_bernoulli) l_bernoulli c_bernoulli k_bernoulli
  have D_bernoulli : DefAt K mg "bernoulli" st_bernoulli ["most"] := def_mk X G a_bernoulli l_bernoulli c_bernoulli k_bernoulli (F_bernoulli.binds (ps := ["most"]) fun _ _ _ _ _ _ us hl => match us, hl with | [_], _ => rfl)
  have F_divisors := fun_mk (st := st_divisors) l_divisors c_divisors k_divisors
  have D_divisors : DefAt K mg "divisors" st_divisors ["n"] := def_mk X G a_divisors l_divisors c_divisors k_divisors (F_divisors.binds (ps := ["n"]) fun _ _ _ _ _ _ us hl => match us, hl with | [_], _ => rfl)
  have F_staudt_primes := fun_mk (st := st_staudt_primes) l_staudt_primes c_staudt_primes k_staudt_primes
  have D_staudt_primes : DefAt K mg "staudt_primes" st_staudt_primes ["n"] := def_mk X G a_staudt_primes l_staudt_primes c_staudt_primes k_staudt_primes (F_staudt_primes.binds (ps := ["n"]) fun _ _ _ _ _ _ us hl => match us, hl with | [_], _ => rfl)
  have F_power_row := fun_mk (st := st_power_row) l_power_row c_power_row k_power_row
  have D_power_row : DefAt K mg "power_row" st_power_row ["k"] := def_mk X G a_power_row l_power_row c_power_row k_power_row (F_power_row.binds (ps := ["k"]) fun _ _ _ _ _ _ us hl => match us, hl with | [_], _ => rfl)
  have F_power_sum := fun_mk (st := st_power_sum) l_power_sum c_power_sum k_power_sum
  have D_power_sum : DefAt K mg "power_sum" st_power_sum ["k", "n"] := def_mk X G a_power_sum l_power_sum c_power_sum k_power_sum (F_power_sum.binds (ps := ["k", "n"]) fun _ _ _ _ _ _ us hl => match us, hl with | [_, _], _ => rfl)
  have F_is_regular := fun_mk (st := st_is_regular) l_is_regular c_is_regular k_is_regular
  have D_is_regular : DefAt K mg "is_regular" st_is_regular ["p"] := def_mk X G a_is_regular l_is_regular c_is_regular k_is_regular (F_is_regular.binds (ps := ["p"]) fun _ _ _ _ _ _ us hl => match us, hl with | [_], _ => rfl)
  have F_l_law_state := fun_mk (st := st_l_law_state) l_l_law_state c_l_law_state k_l_law_state
  have D_l_law_state : DefAt K mg "_law_state" st_l_law_state ["script"] := def_mk X G a_l_law_state l_l_law_state c_l_law_state k_l_law_state (F_l_law_state.binds (ps := ["script"]) fun _ _ _ _ _ _ us hl => match us, hl with | [_], _ => rfl)
  have F_l_law_draw := fun_mk (st := st_l_law_draw) l_l_law_draw c_l_law_draw k_l_law_draw
  have D_l_law_draw : DefAt K mg "_law_draw" st_l_law_draw ["state", "many"] := def_mk X G a_l_law_draw l_l_law_draw c_l_law_draw k_l_law_draw (F_l_law_draw.binds (ps := ["state", "many"]) fun _ _ _ _ _ _ us hl => match us, hl with | [_, _], _ => rfl)
  have F_l_law_pick := fun_mk (st := st_l_law_pick) l_l_law_pick c_l_law_pick k_l_law_pick
  have D_l_law_pick : DefAt K mg "_law_pick" st_l_law_pick ["state", "row"] := def_mk X G a_l_law_pick l_l_law_pick c_l_law_pick k_l_law_pick (F_l_law_pick.binds (ps := ["state", "row"]) fun _ _ _ _ _ _ us hl => match us, hl with | [_, _], _ => rfl)
  have F_l_law_eq := fun_mk (st := st_l_law_eq) l_l_law_eq c_l_law_eq k_l_law_eq
  have D_l_law_eq : DefAt K mg "_law_eq" st_l_law_eq ["told", "due"] := def_mk X G a_l_law_eq l_l_law_eq c_l_law_eq k_l_law_eq (F_l_law_eq.binds (ps := ["told", "due"]) fun _ _ _ _ _ _ us hl => match us, hl with | [_, _], _ => rfl)
  have F_l_law_frac := fun_mk (st := st_l_law_frac) l_l_law_frac c_l_law_frac k_l_law_frac
  have D_l_law_frac : DefAt K mg "_law_frac" st_l_law_frac ["p", "q"] := def_mk X G a_l_law_frac l_l_law_frac c_l_law_frac k_l_law_frac (F_l_law_frac.binds (ps := ["p", "q"]) fun _ _ _ _ _ _ us hl => match us, hl with | [_, _], _ => rfl)
  have F_l_law_add := fun_mk (st := st_l_law_add) l_l_law_add c_l_law_add k_l_law_add
  have D_l_law_add : DefAt K mg "_law_add" st_l_law_add ["one", "other"] := def_mk X G a_l_law_add l_l_law_add c_l_law_add k_l_law_add (F_l_law_add.binds (ps := ["one", "other"]) fun _ _ _ _ _ _ us hl => match us, hl with | [_, _], _ => rfl)
  have F_l_law_powers := fun_mk (st := st_l_law_powers) l_l_law_powers c_l_law_powers k_l_law_powers
  have D_l_law_powers : DefAt K mg "_law_powers" st_l_law_powers ["n"] := def_mk X G a_l_law_powers l_l_law_powers c_l_law_powers k_l_law_powers (F_l_law_powers.binds (ps := ["n"]) fun _ _ _ _ _ _ us hl => match us, hl with | [_], _ => rfl)
  have F_l_law_is_prime := fun_mk (st := st_l_law_is_prime) l_l_law_is_prime c_l_law_is_prime k_l_law_is_prime
  have D_l_law_is_prime : DefAt K mg "_law_is_prime" st_l_law_is_prime ["n"] := def_mk X G a_l_law_is_prime l_l_law_is_prime c_l_law_is_prime k_l_law_is_prime (F_l_law_is_prime.binds (ps := ["n"]) fun _ _ _ _ _ _ us hl => match us, hl with | [_], _ => rfl)
  have F_l_law_bernoulli := fun_mk (st := st_l_law_bernoulli) l_l_law_bernoulli c_l_law_bernoulli k_l_law_bernoulli
  have D_l_law_bernoulli : DefAt K mg "_law_bernoulli" st_l_law_bernoulli ["most"] := def_mk X G a_l_law_bernoulli l_l_law_bernoulli c_l_law_bernoulli k_l_law_bernoulli (F_l_law_bernoulli.binds (ps := ["most"]) fun _ _ _ _ _ _ us hl => match us, hl with | [_], _ => rfl)
  have F_law := fun_mk (st := st_law) l_law c_law k_law
  have D_law : DefAt K mg "law" st_law ["script"] := def_mk X G a_law l_law c_law k_law (F_law.binds (ps := ["script"]) fun _ _ _ _ _ _ us hl => match us, hl with | [_], _ => rfl)
  refine ⟨PySem.W.fnOf "law" "law" (defArgs st_law) (defBody st_law) (defScope st_law) .none kV_law dc_law pm_law an_law cd_law ct_law, fun s v => .of_eq rfl, fun base _ _ => ?_⟩
  have K_power : Cal l.prog w K mg base 1 "power" _ sp_power := ok_power M ⟨⟩ D_power v_power
  have K_prime_powers : Cal l.prog w K mg base 1 "prime_powers" _ sp_prime_powers := ok_prime_powers M ⟨⟩ D_prime_powers v_prime_powers
  have K_lowest : Cal l.prog w K mg base 1 "lowest" _ sp_lowest := ok_lowest M ⟨⟩ D_lowest v_lowest
  have K_ways : Cal l.prog w K mg base 1 "ways" _ sp_ways := ok_ways M ⟨⟩ D_ways v_ways
  have K_l_law_state : Cal l.prog w K mg base 1 "_law_state" _ sp_l_law_state := ok_l_law_state M ⟨⟩ D_l_law_state v_l_law_state
  have K_l_law_draw := ok_l_law_draw (P := l.prog) (w := w) (base := base) M D_l_law_draw
  have K_l_law_frac : Cal l.prog w K mg base 1 "_law_frac" _ sp_l_law_frac := ok_l_law_frac M ⟨⟩ D_l_law_frac v_l_law_frac
  have K_l_law_powers : Cal l.prog w K mg base 1 "_law_powers" _ sp_l_law_powers := ok_l_law_powers M ⟨⟩ D_l_law_powers v_l_law_powers
  have K_bernoulli : Cal l.prog w K mg base 2 "bernoulli" _ sp_bernoulli := ok_bernoulli M ⟨K_lowest, K_ways⟩ D_bernoulli v_bernoulli
  have K_divisors : Cal l.prog w K mg base 2 "divisors" _ sp_divisors := ok_divisors M ⟨K_power, K_prime_powers⟩ D_divisors v_divisors
  have K_l_law_pick : Cal l.prog w K mg base 2 "_law_pick" _ sp_l_law_pick := ok_l_law_pick M ⟨K_l_law_draw⟩ D_l_law_pick v_l_law_pick
  have K_l_law_add : Cal l.prog w K mg base 2 "_law_add" _ sp_l_law_add := ok_l_law_add M ⟨K_l_law_frac⟩ D_l_law_add v_l_law_add
  have K_l_law_is_prime : Cal l.prog w K mg base 2 "_law_is_prime" _ sp_l_law_is_prime := ok_l_law_is_prime M ⟨K_l_law_powers⟩ D_l_law_is_prime v_l_law_is_prime
  have K_l_law_bernoulli : Cal l.prog w K mg base 2 "_law_bernoulli" _ sp_l_law_bernoulli := ok_l_law_bernoulli M ⟨K_l_law_frac⟩ D_l_law_bernoulli v_l_law_bernoulli
  have K_staudt_primes : Cal l.prog w K mg base 3 "staudt_primes" _ sp_staudt_primes := ok_staudt_primes M ⟨K_divisors, K_prime_powers⟩ D_staudt_primes v_staudt_primes
  have K_power_row : Cal l.prog w K mg base 3 "power_row" _ sp_power_row := ok_power_row M ⟨K_bernoulli, K_lowest, K_ways⟩ D_power_row v_power_row
  have K_is_regular : Cal l.prog w K mg base 3 "is_regular" _ sp_is_regular := ok_is_regular M ⟨K_bernoulli⟩ D_is_regular v_is_regular
  have K_power_sum : Cal l.prog w K mg base 4 "power_sum" _ sp_power_sum := ok_power_sum M ⟨K_lowest, K_power_row⟩ D_power_sum v_power_sum
  have K_l_law_eq_b : Cal l.prog w K mg base 1 "_law_eq" ["told", "due"] (fun _ _ => False) := cal_none D_l_law_eq sc_l_law_eq
  have K_l_law_eq_0 : Cal l.prog w K mg base 2 "_law_eq" ["told", "due"] (sq_l_law_eq 0) := ok_l_law_eq (lv := 1) (spS := (fun _ _ => False)) (by decide) M ⟨K_l_law_eq_b⟩ D_l_law_eq (v_l_law_eq_0)
  have K_l_law_eq_1 : Cal l.prog w K mg base 3 "_law_eq" ["told", "due"] (sq_l_law_eq 1) := ok_l_law_eq (lv := 2) (spS := (sq_l_law_eq 0)) (by decide) M ⟨K_l_law_eq_0⟩ D_l_law_eq (v_l_law_eq_s 0)
  have K_l_law_eq_2 : Cal l.prog w K mg base 4 "_law_eq" ["told", "due"] (sq_l_law_eq 2) := ok_l_law_eq (lv := 3) (spS := (sq_l_law_eq 1)) (by decide) M ⟨K_l_law_eq_1⟩ D_l_law_eq (v_l_law_eq_s 1)
  have K_l_law_eq_3 : Cal l.prog w K mg base 5 "_law_eq" ["told", "due"] (sq_l_law_eq 3) := ok_l_law_eq (lv := 4) (spS := (sq_l_law_eq 2)) (by decide) M ⟨K_l_law_eq_2⟩ D_l_law_eq (v_l_law_eq_s 2)
  have K_l_law_eq : Cal l.prog w K mg base 6 "_law_eq" ["told", "due"] (sq_l_law_eq 4) := ok_l_law_eq (lv := 5) (spS := (sq_l_law_eq 3)) (by decide) M ⟨K_l_law_eq_3⟩ D_l_law_eq (v_l_law_eq_s 3)
  refine fn_ok F_law sc_law (fun cdv A outer s H Q E hr => b_law M ⟨K_l_law_add, K_l_law_bernoulli, K_l_law_draw, K_l_law_eq, K_l_law_frac, K_l_law_is_prime, K_l_law_pick, K_l_law_state, K_bernoulli, K_is_regular, K_power_row, K_power_sum, K_staudt_primes⟩ _ cdv A outer s H E hr) fun ws Q hl q => ?_
  have z := v_law ws Q hl q
  have e : nm_law.length - ws.length = 18 := by rw [hl]; rfl
  rw [e]; exact z
end
end K30
open PySem PySem.W PyProof.Rows
set_option maxHeartbeats 0 in
theorem PySem.Challenge.cw_divisorhouse_k30_whole_numbers_of_bernou_holds : PySem.Challenge.rw_divisorhouse_k30_whole_numbers_of_bernou.Holds := by
  w_on; o_law; k_head; (case hw => w_witness2)
  k_fill
  refine L2.walk_of (l := PySem.Challenge.rw_divisorhouse_k30_whole_numbers_of_bernou) (n := 63) (k := 7) (x := "script") (CX := fun _ => L2.CX0) (sp := fun w => VL.tSp _ 1 VL.spLaw) rfl (by decide) rfl ⟨rfl, by decide, by decide⟩ (fun w h Y => PySem.W.kIn_of Y) ?F (fun _ H a ns hl hO hS => VL.law_end H a ns hl hO hS) (fun _ _ _ _ _ h => h)
  case F =>
    intro w mg fa h KX G hmg
    refine' K30.all_mk KX G hmg ?a_power ?l_power ?c_power ?k_power ?a_prime_powers ?l_prime_powers ?c_prime_powers ?k_prime_powers ?a_lowest ?l_lowest ?c_lowest ?k_lowest ?a_ways ?l_ways ?c_ways ?k_ways ?a_bernoulli ?l_bernoulli ?c_bernoulli ?k_bernoulli ?a_divisors ?l_divisors ?c_divisors ?k_divisors ?a_staudt_primes ?l_staudt_primes ?c_staudt_primes ?k_staudt_primes ?a_power_row ?l_power_row ?c_power_row ?k_power_row ?a_power_sum ?l_power_sum ?c_power_sum ?k_power_sum ?a_is_regular ?l_is_regular ?c_is_regular ?k_is_regular ?a_l_law_state ?l_l_law_state ?c_l_law_state ?k_l_law_state ?a_l_law_draw ?l_l_law_draw ?c_l_law_draw ?k_l_law_draw ?a_l_law_pick ?l_l_law_pick ?c_l_law_pick ?k_l_law_pick ?a_l_law_eq ?l_l_law_eq ?c_l_law_eq ?k_l_law_eq ?a_l_law_frac ?l_l_law_frac ?c_l_law_frac ?k_l_law_frac ?a_l_law_add ?l_l_law_add ?c_l_law_add ?k_l_law_add ?a_l_law_powers ?l_l_law_powers ?c_l_law_powers ?k_l_law_powers ?a_l_law_is_prime ?l_l_law_is_prime ?c_l_law_is_prime ?k_l_law_is_prime ?a_l_law_bernoulli ?l_l_law_bernoulli ?c_l_law_bernoulli ?k_l_law_bernoulli ?a_law ?l_law ?c_law ?k_law ?z_abs ?z_all ?z_bool ?z_enumerate ?z_gcd ?z_int ?z_isinstance ?z_len ?z_list ?z_max ?z_range ?z_sorted ?z_str ?z_tuple
    (case a_power => k_is); (case l_power => k_is); (case c_power => k_is); (case k_power => k_is); (case a_prime_powers => k_is); (case l_prime_powers => k_is); (case c_prime_powers => k_is); (case k_prime_powers => k_is); (case a_lowest => k_is); (case l_lowest => k_is); (case c_lowest => k_is); (case k_lowest => k_is); (case a_ways => k_is); (case l_ways => k_is); (case c_ways => k_is); (case k_ways => k_is); (case a_bernoulli => k_is); (case l_bernoulli => k_is); (case c_bernoulli => k_is); (case k_bernoulli => k_is); (case a_divisors => k_is); (case l_divisors => k_is); (case c_divisors => k_is); (case k_divisors => k_is); (case a_staudt_primes => k_is); (case l_staudt_primes => k_is); (case c_staudt_primes => k_is); (case k_staudt_primes => k_is); (case a_power_row => k_is); (case l_power_row => k_is); (case c_power_row => k_is); (case k_power_row => k_is); (case a_power_sum => k_is); (case l_power_sum => k_is); (case c_power_sum => k_is); (case k_power_sum => k_is); (case a_is_regular => k_is); (case l_is_regular => k_is); (case c_is_regular => k_is); (case k_is_regular => k_is); (case a_l_law_state => k_is); (case l_l_law_state => k_is); (case c_l_law_state => k_is); (case k_l_law_state => k_is); (case a_l_law_draw => k_is); (case l_l_law_draw => k_is); (case c_l_law_draw => k_is); (case k_l_law_draw => k_is); (case a_l_law_pick => k_is); (case l_l_law_pick => k_is); (case c_l_law_pick => k_is); (case k_l_law_pick => k_is); (case a_l_law_eq => k_is); (case l_l_law_eq => k_is); (case c_l_law_eq => k_is); (case k_l_law_eq => k_is); (case a_l_law_frac => k_is); (case l_l_law_frac => k_is); (case c_l_law_frac => k_is); (case k_l_law_frac => k_is); (case a_l_law_add => k_is); (case l_l_law_add => k_is); (case c_l_law_add => k_is); (case k_l_law_add => k_is); (case a_l_law_powers => k_is); (case l_l_law_powers => k_is); (case c_l_law_powers => k_is); (case k_l_law_powers => k_is); (case a_l_law_is_prime => k_is); (case l_l_law_is_prime => k_is); (case c_l_law_is_prime => k_is); (case k_l_law_is_prime => k_is); (case a_l_law_bernoulli => k_is); (case l_l_law_bernoulli => k_is); (case c_l_law_bernoulli => k_is); (case k_l_law_bernoulli => k_is); (case a_law => k_is); (case l_law => k_is); (case c_law => k_is); (case k_law => k_is); (case z_abs => k_is); (case z_all => k_is); (case z_bool => k_is); (case z_enumerate => k_is); (case z_gcd => k_is); (case z_int => k_is); (case z_isinstance => k_is); (case z_len => k_is); (case z_list => k_is); (case z_max => k_is); (case z_range => k_is); (case z_sorted => k_is); (case z_str => k_is); (case z_tuple => k_is)
end
