import PyProof.Rows.All
import Wide.All
import OpenK.AllK
import Wide.FinOn
import HandS.ForMost
import HandS.ForExc
import HandS.CallSlots
import HandS.SortInts
import HandS.IsInst
import HandS.ExcIs
import HandS.RaiseMore
import HandS.Defaults
import HandS.Conv
import HandS.Flow
import HandS.TryMany
import HandS.ExcCtx
import HandS.HotCalls
import HandS.Ends
import HandS.Rev
import HandS.SetBool
import HandS.SetKeys
import HandS.Deep
import HandS.More
import HandS.RevTup
import HandS.Text
import PyProof.StrOps2
import KE.SortData
import KE.DataMinMax
import HandS.Set
import PySem.Challenge.RW_plotrents_k57_ways_to_draw
set_option Elab.async false
set_option linter.all false
set_option maxRecDepth 100000
set_option maxHeartbeats 4000000
namespace DL
open PySem PySem.Spec L2

/-! ## data -/
inductive Kd where
  | lst | ro | tup | dK (ks : List Key) | dT (ks : List (List Key)) | ins (C : Str) (fs : List Str) | exn (c : Str)
  deriving DecidableEq
inductive D where
  | non | bl (b : Bool) | int (i : Int) | str (s : Str) | exn (c : Str)
  | node (o : Bool) (k : Kd) (ds : List D)
abbrev D.L (ds : List D) : D := .node false .lst ds
abbrev D.O (ds : List D) : D := .node true .lst ds
abbrev D.T (ds : List D) : D := .node false .tup ds
abbrev D.U (ds : List D) : D := .node true .tup ds
def D.sv : D → Option V
  | .non => some .non
  | .bl b => some (.bl b)
  | .int i => some (.int i)
  | .str s => some (.str s)
  | _ => none
mutual
def D.fz : D → Bool
  | .node o _ ds => !o && D.fzs ds
  | .exn _ => false
  | _ => true
def D.fzs : List D → Bool
  | [] => true
  | d :: ds => D.fz d && D.fzs ds
end
mutual
def D.frz : D → D
  | .node _ k ds => .node false k (D.frzs ds)
  | d => d
def D.frzs : List D → List D
  | [] => []
  | d :: ds => D.frz d :: D.frzs ds
end
theorem D.frzs_map : ∀ ds : List D, D.frzs ds = ds.map D.frz
  | [] => rfl
  | d :: ds => by rw [D.frzs, List.map_cons, D.frzs_map ds]
theorem D.fzs_all : ∀ ds : List D, D.fzs ds = ds.all D.fz
  | [] => rfl
  | d :: ds => by rw [D.fzs, List.all_cons, D.fzs_all ds]
mutual
theorem D.frz_fz : ∀ d : D, d.fz = true → d.frz = d
  | .node o k ds, h => by
    rw [D.fz] at h
    simp only [Bool.and_eq_true, Bool.not_eq_true'] at h
    rw [D.frz, D.frzs_fzs ds h.2, h.1]
  | .non, _ => by rw [D.frz]; intro _ _ _ h; cases h
  | .bl _, _ => by rw [D.frz]; intro _ _ _ h; cases h
  | .int _, _ => by rw [D.frz]; intro _ _ _ h; cases h
  | .str _, _ => by rw [D.frz]; intro _ _ _ h; cases h
  | .exn _, _ => by rw [D.frz]; intro _ _ _ h; cases h
theorem D.frzs_fzs : ∀ ds : List D, D.fzs ds = true → D.frzs ds = ds
  | [], _ => rfl
  | d :: ds, h => by
    rw [D.fzs] at h
    simp only [Bool.and_eq_true] at h
    rw [D.frzs, D.frz_fz d h.1, D.frzs_fzs ds h.2]
end

/-! ## what stands for data -/
mutual
def Rg (N : List Nat → Bool → Kd → Addr → List V → Prop) (p : List Nat) (v : V) : D → Prop
  | .non => v = .non
  | .bl b => v = .bl b
  | .int i => v = .int i
  | .str s => v = .str s
  | .exn _ => False
  | .node o k ds => ∃ a vs, v = .ref a ∧ N p o k a vs ∧ RgL N p 0 vs ds
def RgL (N : List Nat → Bool → Kd → Addr → List V → Prop) (p : List Nat) (n : Nat) (vs : List V) : List D → Prop
  | [] => vs = []
  | d :: ds => ∃ v r, vs = v :: r ∧ Rg N (p ++ [n]) v d ∧ RgL N p (n + 1) r ds
end
section
variable {N N' : List Nat → Bool → Kd → Addr → List V → Prop}
mutual
theorem Rg.shift : ∀ (d : D) {p q : List Nat} {v : V}, (∀ s o k a vs, N (p ++ s) o k a vs → N' (q ++ s) o k a vs) → Rg N p v d → Rg N' q v d
  | .non, _, _, _, _, h => h
  | .bl _, _, _, _, _, h => h
  | .int _, _, _, _, _, h => h
  | .str _, _, _, _, _, h => h
  | .exn _, _, _, _, _, h => h
  | .node o k ds, p, q, v, hN, h => by
    rw [Rg] at h ⊢
    obtain ⟨a, vs, e, hn, hl⟩ := h
    refine ⟨a, vs, e, ?_, RgL.shift ds (fun s o k a vs z => hN s o k a vs z) hl⟩
    have := hN [] o k a vs
    simp only [List.append_nil] at this
    exact this hn
theorem RgL.shift : ∀ (ds : List D) {p q : List Nat} {n : Nat} {vs : List V}, (∀ s o k a vs, N (p ++ s) o k a vs → N' (q ++ s) o k a vs) → RgL N p n vs ds → RgL N' q n vs ds
  | [], _, _, _, _, _, h => h
  | d :: ds, p, q, n, vs, hN, h => by
    rw [RgL] at h ⊢
    obtain ⟨v, r, e, h1, h2⟩ := h
    refine ⟨v, r, e, Rg.shift d (fun s o k a vs z => ?_) h1, RgL.shift ds hN h2⟩
    rw [List.append_assoc] at z ⊢
    exact hN _ o k a vs z
end
mutual
theorem Rg.freeze : ∀ (d : D) {p q : List Nat} {v : V}, (∀ s t o k a vs, N (p ++ s) o k a vs → N' (q ++ t) false k a vs) → Rg N p v d → Rg N' q v d.frz
  | .non, _, _, _, _, h => by rw [D.frz]; exact h; intro _ _ _ h; cases h
  | .bl _, _, _, _, _, h => by rw [D.frz]; exact h; intro _ _ _ h; cases h
  | .int _, _, _, _, _, h => by rw [D.frz]; exact h; intro _ _ _ h; cases h
  | .str _, _, _, _, _, h => by rw [D.frz]; exact h; intro _ _ _ h; cases h
  | .exn _, _, _, _, _, h => by rw [D.frz]; exact h; intro _ _ _ h; cases h
  | .node o k ds, p, q, v, hN, h => by
    rw [Rg] at h
    rw [D.frz, Rg]
    obtain ⟨a, vs, e, hn, hl⟩ := h
    refine ⟨a, vs, e, ?_, RgL.freeze ds (fun s t o k a vs z => hN s t o k a vs z) hl⟩
    have := hN [] [] o k a vs
    simp only [List.append_nil] at this
    exact this hn
theorem RgL.freeze : ∀ (ds : List D) {p q : List Nat} {n : Nat} {vs : List V}, (∀ s t o k a vs, N (p ++ s) o k a vs → N' (q ++ t) false k a vs) → RgL N p n vs ds → RgL N' q n vs (D.frzs ds)
  | [], _, _, _, _, _, h => h
  | d :: ds, p, q, n, vs, hN, h => by
    rw [RgL] at h
    rw [D.frzs, RgL]
    obtain ⟨v, r, e, h1, h2⟩ := h
    refine ⟨v, r, e, Rg.freeze d (fun s t o k a vs z => ?_) h1, RgL.freeze ds hN h2⟩
    rw [List.append_assoc] at z ⊢
    exact hN _ _ o k a vs z
end
mutual
/-- nothing owned in it -/
theorem Rg.ofFz : ∀ (d : D) {p q : List Nat} {v : V}, d.fz = true → (∀ s t k a vs, N s false k a vs → N' t false k a vs) → Rg N p v d → Rg N' q v d
  | .non, _, _, _, _, _, h => h
  | .bl _, _, _, _, _, _, h => h
  | .int _, _, _, _, _, _, h => h
  | .str _, _, _, _, _, _, h => h
  | .exn _, _, _, _, _, _, h => h
  | .node o k ds, p, q, v, hz, hN, h => by
    rw [D.fz] at hz
    simp only [Bool.and_eq_true, Bool.not_eq_true'] at hz
    obtain ⟨rfl, hz⟩ := hz
    rw [Rg] at h ⊢
    obtain ⟨a, vs, e, hn, hl⟩ := h
    exact ⟨a, vs, e, hN _ _ k a vs hn, RgL.ofFz ds hz hN hl⟩
theorem RgL.ofFz : ∀ (ds : List D) {p q : List Nat} {n m : Nat} {vs : List V}, D.fzs ds = true → (∀ s t k a vs, N s false k a vs → N' t false k a vs) → RgL N p n vs ds → RgL N' q m vs ds
  | [], _, _, _, _, _, _, _, h => h
  | d :: ds, p, q, n, m, vs, hz, hN, h => by
    rw [D.fzs] at hz
    simp only [Bool.and_eq_true] at hz
    rw [RgL] at h ⊢
    obtain ⟨v, r, e, h1, h2⟩ := h
    exact ⟨v, r, e, Rg.ofFz d hz.1 hN h1, RgL.ofFz ds hz.2 hN h2⟩
end
mutual
/-- read without flags -/
theorem Rg.plain : ∀ (d : D) {p q : List Nat} {v : V}, (∀ s t o k a vs, N s o k a vs → N' t o k a vs) → Rg N p v d → Rg N' q v d
  | .non, _, _, _, _, h => h
  | .bl _, _, _, _, _, h => h
  | .int _, _, _, _, _, h => h
  | .str _, _, _, _, _, h => h
  | .exn _, _, _, _, _, h => h
  | .node o k ds, p, q, v, hN, h => by
    rw [Rg] at h ⊢
    obtain ⟨a, vs, e, hn, hl⟩ := h
    exact ⟨a, vs, e, hN _ _ o k a vs hn, RgL.plain ds hN hl⟩
theorem RgL.plain : ∀ (ds : List D) {p q : List Nat} {n m : Nat} {vs : List V}, (∀ s t o k a vs, N s o k a vs → N' t o k a vs) → RgL N p n vs ds → RgL N' q m vs ds
  | [], _, _, _, _, _, _, h => h
  | d :: ds, p, q, n, m, vs, hN, h => by
    rw [RgL] at h ⊢
    obtain ⟨v, r, e, h1, h2⟩ := h
    exact ⟨v, r, e, Rg.plain d hN h1, RgL.plain ds hN h2⟩
end
theorem RgL.length : ∀ {ds : List D} {p : List Nat} {n : Nat} {vs : List V}, RgL N p n vs ds → vs.length = ds.length
  | [], _, _, _, h => by rw [RgL] at h; rw [h]; rfl
  | d :: ds, _, _, _, h => by
    rw [RgL] at h
    obtain ⟨v, r, rfl, _, h2⟩ := h
    rw [List.length_cons, List.length_cons, RgL.length h2]
theorem RgL.get : ∀ {ds : List D} {p : List Nat} {n i : Nat} {vs : List V} {d : D}, RgL N p n vs ds → ds[i]? = some d → ∃ v, vs[i]? = some v ∧ Rg N (p ++ [n + i]) v d
  | [], _, _, _, _, _, _, e => by simp at e
  | d :: ds, _, n, 0, _, _, h, e => by
    rw [RgL] at h
    obtain ⟨v, r, rfl, h1, _⟩ := h
    cases e
    exact ⟨v, rfl, h1⟩
  | d :: ds, p, n, i + 1, _, _, h, e => by
    rw [RgL] at h
    obtain ⟨v, r, rfl, _, h2⟩ := h
    obtain ⟨w, hw, q⟩ := RgL.get (i := i) h2 (by simpa using e)
    refine ⟨w, by simpa using hw, ?_⟩
    have : n + 1 + i = n + (i + 1) := by omega
    rw [this] at q
    exact q
theorem RgL.append : ∀ {ds es : List D} {p : List Nat} {n : Nat} {vs ws : List V}, RgL N p n vs ds → RgL N p (n + ds.length) ws es → RgL N p n (vs ++ ws) (ds ++ es)
  | [], _, _, _, _, _, h, g => by
    rw [RgL] at h
    subst h
    exact g
  | d :: ds, es, p, n, _, _, h, g => by
    rw [RgL] at h
    obtain ⟨v, r, rfl, h1, h2⟩ := h
    show RgL N p n (v :: (r ++ _)) (d :: (ds ++ es))
    rw [RgL]
    refine ⟨v, _, rfl, h1, RgL.append h2 ?_⟩
    have : n + 1 + ds.length = n + (d :: ds).length := by rw [List.length_cons]; omega
    rw [this]
    exact g
theorem RgL.sv : ∀ {ds : List D} {vs : List V} {p : List Nat} {n : Nat}, ds.map D.sv = vs.map some → RgL N p n vs ds
  | [], vs, _, _, h => by
    cases vs with
    | nil => rfl
    | cons => cases h
  | d :: ds, vs, p, n, h => by
    cases vs with
    | nil => cases h
    | cons v r =>
      simp only [List.map_cons, List.cons.injEq] at h
      rw [RgL]
      refine ⟨v, r, rfl, ?_, RgL.sv h.2⟩
      cases d <;> simp [D.sv] at h <;> exact h.1.symm
theorem Rg.ofSv {d : D} {v : V} {p : List Nat} (h : d.sv = some v) : Rg N p v d := by
  cases d <;> simp [D.sv] at h <;> exact h.symm
theorem Rg.toSv {d : D} {v w : V} {p : List Nat} (h : Rg N p w d) (e : d.sv = some v) : w = v := by
  cases d <;> simp [D.sv] at e <;> rw [← e] <;> exact h
end
theorem D.fz_sv {d : D} {v : V} (h : d.sv = some v) : d.fz = true := by
  cases d <;> simp [D.sv] at h <;> rfl
theorem D.frz_sv {d : D} {v : V} (h : d.sv = some v) : d.frz = d := D.frz_fz d (D.fz_sv h)
end DL

namespace DL
open PySem PySem.Spec L2

/-- what does not change within a def's body -/
structure Cfg where
  K : PySem.W.Frag
  mg : Str → Option Value
  fx : List (Nat × V)
  xa : Option (Addr × Str)

abbrev Lab := Nat × List Nat
abbrev Ow := Addr → Option Lab
/-- what is read at a -/
def HoB (G : Cfg) (B : Hp) : Kd → Addr → List V → Prop
  | .lst, a, vs => B a = some (.lst vs)
  | .ro, a, vs => SqL G.K B a vs
  | .tup, a, vs => SqT G.K B a vs
  | .dK ks, a, vs => ks.length = vs.length ∧ B a = some (.dK (ks.zip vs))
  | .dT ks, a, vs => ks.length = vs.length ∧ B a = some (.dT (ks.zip vs))
  | .ins C fs, a, vs => fs.length = vs.length ∧ ∃ c dx, G.mg C = some (.ref c) ∧ B a = some (.ins c dx (fs.zip vs))
  | .exn c, a, vs => G.xa = some (a, c) ∧ vs = []
/-- what is owned at a -/
def HoO (G : Cfg) (H : Hp) : Kd → Addr → List V → Prop
  | .lst, a, vs => H a = some (.lst vs)
  | .ro, a, vs => False
  | .tup, a, vs => H a = some (.tup vs)
  | .dK ks, a, vs => ks.length = vs.length ∧ H a = some (.dK (ks.zip vs))
  | .dT ks, a, vs => ks.length = vs.length ∧ H a = some (.dT (ks.zip vs))
  | .ins C fs, a, vs => fs.length = vs.length ∧ ∃ c dx, G.mg C = some (.ref c) ∧ H a = some (.ins c dx (fs.zip vs))
  | .exn _, _, _ => False
theorem HoO.toB {G : Cfg} {H : Hp} {k : Kd} {a : Addr} {vs : List V} (h : HoO G H k a vs) : HoB G H k a vs := by
  cases k with
  | lst => exact h
  | ro => exact h.elim
  | tup => exact SqT.of h
  | dK ks => exact h
  | dT ks => exact h
  | ins C fs => exact h
  | exn c => exact h.elim
theorem Same.seqT {K : PySem.W.Frag} {H H' : Hp} {a : Addr} {xs : List V} (e : Same H H') (h : SqT K H a xs) : SqT K H' a xs := by
  rcases h with (h | ⟨o, h⟩) | h
  · exact .inl (.inl (e _ _ h))
  · exact .inl (.inr ⟨o, e _ _ h⟩)
  · exact .inr h
theorem HoB.same {G : Cfg} {H H' : Hp} {k : Kd} {a : Addr} {vs : List V} (e : Same H H') (h : HoB G H k a vs) : HoB G H' k a vs := by
  cases k with
  | lst => exact e _ _ h
  | ro => exact e.seq h
  | tup => exact Same.seqT e h
  | dK ks => exact ⟨h.1, e _ _ h.2⟩
  | dT ks => exact ⟨h.1, e _ _ h.2⟩
  | ins C fs =>
    obtain ⟨h1, c, dx, h2, h3⟩ := h
    exact ⟨h1, c, dx, h2, e _ _ h3⟩
  | exn c => exact h
theorem HoO.some {G : Cfg} {H : Hp} {k : Kd} {a : Addr} {vs : List V} (h : HoO G H k a vs) : ∃ o, H a = some o := by
  cases k with
  | lst => exact ⟨_, h⟩
  | ro => exact h.elim
  | tup => exact ⟨_, h⟩
  | dK ks => exact ⟨_, h.2⟩
  | dT ks => exact ⟨_, h.2⟩
  | ins C fs =>
    obtain ⟨h1, c, dx, h2, h3⟩ := h
    exact ⟨_, h3⟩
  | exn c => exact h.elim
theorem HoO.at {G : Cfg} {H H' : Hp} {k : Kd} {a : Addr} {vs : List V} (e : H' a = H a) (h : HoO G H k a vs) : HoO G H' k a vs := by
  cases k with
  | lst => exact e.trans h
  | ro => exact h.elim
  | tup => exact e.trans h
  | dK ks => exact ⟨h.1, e.trans h.2⟩
  | dT ks => exact ⟨h.1, e.trans h.2⟩
  | ins C fs =>
    obtain ⟨h1, c, dx, h2, h3⟩ := h
    exact ⟨h1, c, dx, h2, e.trans h3⟩
  | exn c => exact h.elim

/-- frozen in B -/
def Fz (G : Cfg) (B : Hp) (v : V) (d : D) : Prop := d.fz = true ∧ Rg (fun _ _ k a vs => HoB G B k a vs) [] v d
def FzL (G : Cfg) (B : Hp) (vs : List V) (ds : List D) : Prop := D.fzs ds = true ∧ RgL (fun _ _ k a vs => HoB G B k a vs) [] 0 vs ds
/-- read in H, flags apart -/
def Rr (G : Cfg) (H : Hp) (v : V) (d : D) : Prop := Rg (fun _ _ k a vs => HoB G H k a vs) [] v d
def RrL (G : Cfg) (H : Hp) (vs : List V) (ds : List D) : Prop := RgL (fun _ _ k a vs => HoB G H k a vs) [] 0 vs ds
/-- the note of root r -/
def RpN (G : Cfg) (B H : Hp) (ow : Ow) (r : Nat) : List Nat → Bool → Kd → Addr → List V → Prop :=
  fun p o k a vs => if o = true then ow a = some (r, p) ∧ HoO G H k a vs else HoB G B k a vs
def Rp (G : Cfg) (B H : Hp) (ow : Ow) (r : Nat) (v : V) (d : D) : Prop := Rg (RpN G B H ow r) [] v d

section
variable {G : Cfg} {B B' H H' : Hp} {ow ow' : Ow} {r : Nat} {v : V} {d : D}
theorem Fz.same (e : Same B B') (h : Fz G B v d) : Fz G B' v d := ⟨h.1, h.2.plain d fun _ _ _ _ _ _ z => z.same e⟩
theorem FzL.same {vs : List V} {ds : List D} (e : Same B B') (h : FzL G B vs ds) : FzL G B' vs ds := ⟨h.1, h.2.plain ds fun _ _ _ _ _ _ z => z.same e⟩
theorem Fz.rr (e : Same B H) (h : Fz G B v d) : Rr G H v d := h.2.plain d fun _ _ _ _ _ _ z => z.same e
theorem FzL.rr {vs : List V} {ds : List D} (e : Same B H) (h : FzL G B vs ds) : RrL G H vs ds := h.2.plain ds fun _ _ _ _ _ _ z => z.same e
theorem Rp.rr (e : Same B H) (h : Rp G B H ow r v d) : Rr G H v d := h.plain d fun _ _ o _ _ _ z => by
  unfold RpN at z
  split at z
  · exact z.2.toB
  · exact z.same e
theorem Rp.fz (h : Rp G B H ow r v d) (z : d.fz = true) : Fz G B v d := ⟨z, h.ofFz d z fun _ _ _ _ _ z => by
  simp only [RpN, Bool.false_eq_true, if_false] at z
  exact z⟩
theorem Fz.rp (h : Fz G B v d) : Rp G B H ow r v d := Rg.ofFz d h.1 (fun _ _ _ _ _ z => by
  simp only [RpN, Bool.false_eq_true, if_false]
  exact z) h.2
theorem Fz.sv (h : d.sv = some v) : Fz G B v d := ⟨D.fz_sv h, Rg.ofSv h⟩
theorem FzL.nil : FzL G B [] [] := ⟨rfl, rfl⟩
theorem FzL.cons {vs : List V} {ds : List D} (h : Fz G B v d) (g : FzL G B vs ds) : FzL G B (v :: vs) (d :: ds) := by
  refine ⟨by rw [D.fzs, h.1, g.1]; rfl, ?_⟩
  rw [RgL]
  exact ⟨v, vs, rfl, h.2.plain d fun _ _ _ _ _ _ z => z, g.2.plain ds fun _ _ _ _ _ _ z => z⟩
theorem FzL.uncons {vs : List V} {ds : List D} (h : FzL G B vs (d :: ds)) : ∃ v r, vs = v :: r ∧ Fz G B v d ∧ FzL G B r ds := by
  obtain ⟨h1, h2⟩ := h
  rw [D.fzs] at h1
  simp only [Bool.and_eq_true] at h1
  rw [RgL] at h2
  obtain ⟨v, r, e, a, b⟩ := h2
  exact ⟨v, r, e, ⟨h1.1, a.plain d fun _ _ _ _ _ _ z => z⟩, h1.2, b.plain ds fun _ _ _ _ _ _ z => z⟩
theorem FzL.length {vs : List V} {ds : List D} (h : FzL G B vs ds) : vs.length = ds.length := h.2.length
theorem FzL.get {vs : List V} {ds : List D} {i : Nat} (h : FzL G B vs ds) (e : ds[i]? = some d) : ∃ v, vs[i]? = some v ∧ Fz G B v d := by
  obtain ⟨v, h1, h2⟩ := h.2.get e
  refine ⟨v, h1, ?_, h2.plain d fun _ _ _ _ _ _ z => z⟩
  have hz := h.1
  rw [D.fzs_all, List.all_eq_true] at hz
  exact hz d (List.mem_of_getElem? e)
theorem FzL.append {vs ws : List V} {ds es : List D} (h : FzL G B vs ds) (g : FzL G B ws es) : FzL G B (vs ++ ws) (ds ++ es) := by
  refine ⟨?_, h.2.append (g.2.plain es fun _ _ _ _ _ _ z => z)⟩
  have h1 := h.1
  have h2 := g.1
  rw [D.fzs_all] at h1 h2 ⊢
  rw [List.all_append, h1, h2]
  rfl
end

/-! ## the state -/
structure Sim (G : Cfg) (B H : Hp) (ow : Ow) (σ : St) (ρ : List (Option D)) : Prop where
  same : Same B H
  lab : ∀ a l, ow a = some l → B a = none ∧ ∃ o, H a = some o
  len : σ.length = ρ.length
  slot : ∀ (i : Nat) d, ρ[i]? = some (some d) → ∃ v, σ[i]? = some (some v) ∧ Rp G B H ow i v d
  fix : ∀ q ∈ G.fx, σ[q.1]? = some (some q.2)
abbrev Env := List (Option D)
def Bd (ow : Ow) (t : Nat) : Prop := ∀ a i p, ow a = some (i, p) → i < t
/-- from one state to a later one: what is pending (roots from n on) stays, what is not owned stays -/
structure Stp (n : Nat) (B H : Hp) (ow : Ow) (B' H' : Hp) (ow' : Ow) : Prop where
  sb : Same B B'
  keepU : ∀ a o, H a = some o → ow a = none → H' a = some o
  keepP : ∀ a i p, ow a = some (i, p) → n ≤ i → ow' a = some (i, p) ∧ H' a = H a
  newB : ∀ a o, B' a = some o → B a = some o ∨ H a = none ∨ ∃ i p, i < n ∧ ow a = some (i, p)
  newO : ∀ a l, ow' a = some l → H a = none ∨ ∃ l0, ow a = some l0
  old : ∀ a, H a ≠ none → H' a ≠ none
theorem Stp.refl {n : Nat} {B H : Hp} {ow : Ow} : Stp n B H ow B H ow :=
  ⟨Same.refl B, fun _ _ h _ => h, fun _ _ _ h _ => ⟨h, rfl⟩, fun _ _ h => .inl h, fun _ l h => .inr ⟨l, h⟩, fun _ h => h⟩
section
variable {G : Cfg} {n m : Nat} {B H B1 H1 B2 H2 : Hp} {ow ow1 ow2 : Ow} {σ : St} {ρ : Env}
theorem Stp.trans (a : Stp n B H ow B1 H1 ow1) (b : Stp n B1 H1 ow1 B2 H2 ow2) : Stp n B H ow B2 H2 ow2 where
  sb := a.sb.trans b.sb
  keepU := fun x o h z => by
    have h1 := a.keepU x o h z
    refine b.keepU x o h1 ?_
    cases e : ow1 x with
    | none => rfl
    | some l =>
      rcases a.newO x l e with q | ⟨l0, q⟩
      · rw [h] at q; cases q
      · rw [z] at q; cases q
  keepP := fun x i p h hn => by
    obtain ⟨h1, e1⟩ := a.keepP x i p h hn
    obtain ⟨h2, e2⟩ := b.keepP x i p h1 hn
    exact ⟨h2, e2.trans e1⟩
  newB := fun x o h => by
    rcases b.newB x o h with q | q | ⟨i, p, hi, q⟩
    · exact a.newB x o q
    · right; left
      cases e : H x with
      | none => rfl
      | some u => exact absurd q (a.old x (by rw [e]; exact nofun))
    · rcases a.newO x _ q with z | ⟨⟨j, p'⟩, z⟩
      · exact .inr (.inl z)
      · right; right
        refine ⟨j, p', ?_, z⟩
        by_cases hj : n ≤ j
        · obtain ⟨e, _⟩ := a.keepP x j p' z hj
          rw [q] at e
          cases e
          exact hi
        · omega
  newO := fun x l h => by
    rcases b.newO x l h with q | ⟨l0, q⟩
    · left
      cases e : H x with
      | none => rfl
      | some u => exact absurd q (a.old x (by rw [e]; exact nofun))
    · exact a.newO x l0 q
  old := fun x h => b.old x (a.old x h)
/-- a pending root's data stays -/
theorem Stp.rp {r : Nat} {v : V} {d : D} (s : Stp n B H ow B1 H1 ow1) (hr : n ≤ r) (h : Rp G B H ow r v d) : Rp G B1 H1 ow1 r v d := h.shift d fun p o k a vs z => by
  unfold RpN at z ⊢
  split
  · rename_i ho
    rw [if_pos ho] at z
    obtain ⟨e1, e2⟩ := s.keepP a r _ z.1 hr
    exact ⟨e1, z.2.at e2⟩
  · rename_i ho
    rw [if_neg ho] at z
    exact z.same s.sb
theorem Sim.rr (s : Sim G B H ow σ ρ) {i : Nat} {d : D} (h : ρ[i]? = some (some d)) : ∃ v, σ[i]? = some (some v) ∧ Rr G H v d := by
  obtain ⟨v, e, r⟩ := s.slot i d h
  exact ⟨v, e, r.rr s.same⟩
/-- the roots of P are frozen -/
def frzB (B H : Hp) (ow : Ow) (P : Nat → Bool) : Hp := fun a => match ow a with
  | some (i, _) => if P i = true then H a else B a
  | none => B a
def cutO (ow : Ow) (P : Nat → Bool) : Ow := fun a => match ow a with
  | some (i, p) => if P i = true then none else some (i, p)
  | none => none
variable {P : Nat → Bool}
theorem cutO_some {a : Addr} {i : Nat} {p : List Nat} (h : cutO ow P a = some (i, p)) : ow a = some (i, p) ∧ P i = false := by
  unfold cutO at h
  cases e : ow a with
  | none => rw [e] at h; cases h
  | some l =>
    obtain ⟨j, q⟩ := l
    rw [e] at h
    simp only at h
    split at h
    · cases h
    · rename_i hj
      cases h
      exact ⟨rfl, by simpa using hj⟩
theorem cutO_of {a : Addr} {i : Nat} {p : List Nat} (h : ow a = some (i, p)) (hi : P i = false) : cutO ow P a = some (i, p) := by
  unfold cutO
  rw [h]
  simp only
  rw [if_neg (by rw [hi]; exact Bool.false_ne_true)]
theorem frzB_same (hl : ∀ a l, ow a = some l → B a = none ∧ ∃ o, H a = some o) : Same B (frzB B H ow P) := fun a o h => by
  unfold frzB
  cases e : ow a with
  | none => exact h
  | some l =>
    have := (hl a l e).1
    rw [h] at this
    cases this
theorem frzB_sub (hs : Same B H) : Same (frzB B H ow P) H := fun a o h => by
  unfold frzB at h
  cases e : ow a with
  | none => rw [e] at h; exact hs a o h
  | some l =>
    rw [e] at h
    obtain ⟨i, p⟩ := l
    simp only at h
    split at h
    · exact h
    · exact hs a o h
theorem frzB_low {a : Addr} {i : Nat} {p : List Nat} (h : ow a = some (i, p)) (hi : P i = false) : frzB B H ow P a = B a := by
  unfold frzB
  rw [h]
  simp only
  rw [if_neg (by rw [hi]; exact Bool.false_ne_true)]
theorem frzB_high {a : Addr} {i : Nat} {p : List Nat} (h : ow a = some (i, p)) (hi : P i = true) : frzB B H ow P a = H a := by
  unfold frzB
  rw [h]
  simp only
  rw [if_pos hi]
theorem frz_is (N : List Nat → Bool → Kd → Addr → List V → Prop) (p : List Nat) (v : V) (d : D) (h : Rg N p v d) : d.frz.fz = true :=
  D.rec (motive_1 := fun d => ∀ (N : List Nat → Bool → Kd → Addr → List V → Prop) p v, Rg N p v d → d.frz.fz = true)
    (motive_2 := fun ds => ∀ (N : List Nat → Bool → Kd → Addr → List V → Prop) p n vs, RgL N p n vs ds → D.fzs (D.frzs ds) = true)
    (fun _ _ _ _ => by rw [D.frz]; rfl; intro _ _ _ h; cases h) (fun _ _ _ _ _ => by rw [D.frz]; rfl; intro _ _ _ h; cases h) (fun _ _ _ _ _ => by rw [D.frz]; rfl; intro _ _ _ h; cases h) (fun _ _ _ _ _ => by rw [D.frz]; rfl; intro _ _ _ h; cases h)
    (fun _ _ _ _ h => by cases h)
    (fun o k ds ih N p v h => by
      rw [Rg] at h
      obtain ⟨a, vs, _, _, hl⟩ := h
      rw [D.frz, D.fz, ih N p 0 vs hl]
      rfl)
    (fun _ _ _ _ _ => rfl)
    (fun d ds i1 i2 N p n vs h => by
      rw [RgL] at h
      obtain ⟨v, r, _, h1, h2⟩ := h
      rw [D.frzs, D.fzs, i1 N _ v h1, i2 N p _ r h2]
      rfl) d N p v h
/-- a frozen root -/
theorem Rp.freeze {r : Nat} {v : V} {d : D} (hs : Same B (frzB B H ow P)) (hr : P r = true) (h : Rp G B H ow r v d) : Fz G (frzB B H ow P) v d.frz := by
  refine ⟨frz_is _ _ _ d h, Rg.freeze d (fun s q o k a vs z => ?_) h⟩
  unfold RpN at z
  split at z
  · exact (z.2.at (frzB_high z.1 hr)).toB
  · exact z.same hs
/-- other roots stay -/
theorem Rp.low {r : Nat} {v : V} {d : D} (hs : Same B (frzB B H ow P)) (hr : P r = false) (h : Rp G B H ow r v d) : Rp G (frzB B H ow P) H (cutO ow P) r v d := h.shift d fun p o k a vs z => by
  unfold RpN at z ⊢
  split
  · rename_i ho
    rw [if_pos ho] at z
    exact ⟨cutO_of z.1 hr, z.2⟩
  · rename_i ho
    rw [if_neg ho] at z
    exact z.same hs
/-- the slots of P frozen -/
def frzE (P : Nat → Bool) : Nat → Env → Env
  | _, [] => []
  | i, o :: r => (if P i = true then o.map D.frz else o) :: frzE P (i + 1) r
theorem frzE_length : ∀ (ρ : Env) (i : Nat), (frzE P i ρ).length = ρ.length
  | [], _ => rfl
  | o :: r, i => by rw [frzE, List.length_cons, List.length_cons, frzE_length r]
theorem frzE_get : ∀ (ρ : Env) (i j : Nat), (frzE P i ρ)[j]? = (ρ[j]?).map fun o => if P (i + j) = true then o.map D.frz else o
  | [], i, j => by simp [frzE]
  | o :: r, i, 0 => by simp [frzE]
  | o :: r, i, j + 1 => by
    rw [frzE, List.getElem?_cons_succ, List.getElem?_cons_succ, frzE_get r]
    have : i + 1 + j = i + (j + 1) := by omega
    rw [this]
/-- THE FREEZE -/
theorem Sim.frz (s : Sim G B H ow σ ρ) : Sim G (frzB B H ow P) H (cutO ow P) σ (frzE P 0 ρ) where
  same := frzB_sub s.same
  lab := fun a ⟨i, p⟩ h => by
    obtain ⟨h1, h2⟩ := cutO_some h
    obtain ⟨q1, q2⟩ := s.lab a _ h1
    exact ⟨by rw [frzB_low h1 h2]; exact q1, q2⟩
  len := by rw [frzE_length]; exact s.len
  slot := fun i d h => by
    rw [frzE_get, Nat.zero_add] at h
    cases e : ρ[i]? with
    | none => rw [e] at h; cases h
    | some o =>
      rw [e] at h
      simp only [Option.map_some, Option.some.injEq] at h
      by_cases hp : P i = true
      · rw [if_pos hp] at h
        cases o with
        | none => cases h
        | some d0 =>
          cases h
          obtain ⟨v, e1, r⟩ := s.slot i d0 e
          exact ⟨v, e1, (r.freeze (frzB_same s.lab) hp).rp⟩
      · rw [if_neg hp] at h
        subst h
        obtain ⟨v, e1, r⟩ := s.slot i d e
        exact ⟨v, e1, r.low (frzB_same s.lab) (by simpa using hp)⟩
  fix := s.fix
theorem frzE_none : ∀ (ρ : Env) (i : Nat), (∀ j, i ≤ j → j < i + ρ.length → P j = false) → frzE P i ρ = ρ
  | [], _, _ => rfl
  | o :: r, i, h => by
    rw [frzE, if_neg (by rw [h i (Nat.le_refl _) (by rw [List.length_cons]; omega)]; exact Bool.false_ne_true), frzE_none r (i + 1) fun j h1 h2 => h j (by omega) (by rw [List.length_cons]; omega)]
/-- roots from t on -/
def from_ (t : Nat) : Nat → Bool := fun i => decide (t ≤ i)
theorem from_hi {t r : Nat} (h : t ≤ r) : from_ t r = true := decide_eq_true h
theorem from_lo {t r : Nat} (h : r < t) : from_ t r = false := decide_eq_false (by omega)
theorem cutO_bd {t : Nat} : Bd (cutO ow (from_ t)) t := fun a i p h => by
  have := (cutO_some h).2
  unfold from_ at this
  simp at this
  exact this
theorem Bd.cut {t : Nat} (h : Bd ow t) : Bd (cutO ow P) t := fun a i p e => h a i p (cutO_some e).1
/-- temporary things frozen -/
theorem Sim.frzT (s : Sim G B H ow σ ρ) {t : Nat} (ht : ρ.length ≤ t) : Sim G (frzB B H ow (from_ t)) H (cutO ow (from_ t)) σ ρ := by
  have h := s.frz (P := from_ t)
  rw [frzE_none ρ 0 fun j _ hj => from_lo (by omega)] at h
  exact h
/-- a step, then the roots of P are frozen: slots, or roots that were free before -/
theorem Stp.frz {t : Nat} (s' : Sim G B1 H1 ow1 σ ρ) (a : Stp n B H ow B1 H1 ow1) (hb : Bd ow t) (hP : ∀ i, P i = true → i < n ∨ t ≤ i) : Stp n B H ow (frzB B1 H1 ow1 P) H1 (cutO ow1 P) where
  sb := a.sb.trans (frzB_same s'.lab)
  keepU := a.keepU
  keepP := fun x i p h hn => by
    obtain ⟨h1, e1⟩ := a.keepP x i p h hn
    refine ⟨cutO_of h1 ?_, e1⟩
    cases e : P i with
    | false => rfl
    | true =>
      have := hb x i p h
      have := hP i e
      omega
  newB := fun x o h => by
    unfold frzB at h
    cases e : ow1 x with
    | none => rw [e] at h; exact a.newB x o h
    | some l =>
      obtain ⟨i, p⟩ := l
      rw [e] at h
      simp only at h
      split at h
      · rename_i hi
        rcases a.newO x _ e with q | ⟨⟨j, p'⟩, q⟩
        · exact .inr (.inl q)
        · right; right
          refine ⟨j, p', ?_, q⟩
          by_cases hj : n ≤ j
          · obtain ⟨e', _⟩ := a.keepP x j p' q hj
            rw [e] at e'
            cases e'
            have := hb x i p q
            have := hP i hi
            omega
          · omega
      · exact a.newB x o h
  newO := fun x ⟨i, p⟩ h => a.newO x _ (cutO_some h).1
  old := a.old
/-- slots frozen -/
theorem Stp.frz0 (s : Sim G B H ow σ ρ) (hP : ∀ i, P i = true → i < n) : Stp n B H ow (frzB B H ow P) H (cutO ow P) where
  sb := frzB_same s.lab
  keepU := fun _ _ h _ => h
  keepP := fun x i p h hn => ⟨cutO_of h (by
    cases e : P i with
    | false => rfl
    | true => have := hP i e; omega), rfl⟩
  newB := fun x o h => by
    unfold frzB at h
    cases e : ow x with
    | none => rw [e] at h; exact .inl h
    | some l =>
      obtain ⟨i, p⟩ := l
      rw [e] at h
      simp only at h
      split at h
      · rename_i hi
        exact .inr (.inr ⟨i, p, hP i hi, rfl⟩)
      · exact .inl h
  newO := fun x ⟨i, p⟩ h => .inr ⟨_, (cutO_some h).1⟩
  old := fun _ h => h
end
end DL

namespace DL
open PySem PySem.Spec L2

/-! ## results -/
inductive Rs (α : Type) where
  | ok (a : α) (ρ : Env) | ex (c : Str) (ρ : Env) | bad
def Rs.bind {α β : Type} : Rs α → (α → Env → Rs β) → Rs β
  | .ok a ρ, f => f a ρ
  | .ex c ρ, _ => .ex c ρ
  | .bad, _ => .bad
theorem Rs.bind_ok {α β : Type} {a : α} {ρ : Env} {f : α → Env → Rs β} : (Rs.ok a ρ).bind f = f a ρ := rfl
theorem Rs.bind_ex {α β : Type} {c : Str} {ρ : Env} {f : α → Env → Rs β} : (Rs.ex c ρ).bind f = .ex c ρ := rfl
theorem Rs.bind_bad {α β : Type} {f : α → Env → Rs β} : (Rs.bad : Rs α).bind f = .bad := rfl
inductive Opn where
  | val (d : D) | slot (i : Nat)
def slotOf (ρ : Env) (i : Nat) : Option D := ρ[i]?.join
theorem slotOf_some {ρ : Env} {i : Nat} {d : D} (h : slotOf ρ i = some d) : ρ[i]? = some (some d) := by
  unfold slotOf at h
  cases e : ρ[i]? with
  | none => rw [e] at h; cases h
  | some o => rw [e] at h; exact congrArg some h
/-- what an operand shows; what is new is frozen -/
def Opn.vw (ρ : Env) : Opn → Option D
  | .val d => some d.frz
  | .slot i => slotOf ρ i
def vws (ρ : Env) : List Opn → Option (List D)
  | [] => some []
  | o :: os => match o.vw ρ with
    | none => none
    | some d => match vws ρ os with
      | none => none
      | some ds => some (d :: ds)
abbrev ME := Env → Rs Opn
abbrev MA := Env → Rs (List Opn)
abbrev MT := Env → Rs Bool

def OpnR (G : Cfg) (B H : Hp) (ow : Ow) (σ : L2.St) (t : Nat) (v : V) : Opn → Prop
  | .val d => Rp G B H ow t v d
  | .slot i => σ[i]? = some (some v)
def OpnsR (G : Cfg) (B H : Hp) (ow : Ow) (σ : L2.St) : Nat → List V → List Opn → Prop
  | _, vs, [] => vs = []
  | t, vs, o :: os => ∃ v r, vs = v :: r ∧ OpnR G B H ow σ t v o ∧ OpnsR G B H ow σ (t + 1) r os

/-- an exception of the class named c, as it lies -/
def ExV (mg : Str → Option Value) (c : Str) (x : Value) (d : Option Addr) (H : Hp) : Prop := mg c = some x ∧ d = none
section
variable (G : Cfg) (W : WX)
def PostX (n : Nat) (B H : Hp) (ow : Ow) (σ : L2.St) (c : Str) (ρ' : Env) : Prop :=
  ∀ x d B' H' ow', Stp n B H ow B' H' ow' → Sim G B' H' ow' σ ρ' → ExV G.mg c x d H' → W x d σ H'
def PostE (n t : Nat) (B H : Hp) (ow : Ow) (σ : L2.St) (r : Rs Opn) (Q : VK) : Prop := match r with
  | .ok o ρ' => ∀ v B' H' ow', Stp n B H ow B' H' ow' → Sim G B' H' ow' σ ρ' → Bd ow' (t + 1) → OpnR G B' H' ow' σ t v o → Q v H'
  | .ex c ρ' => PostX G W n B H ow σ c ρ'
  | .bad => False
def PostA (n t : Nat) (B H : Hp) (ow : Ow) (σ : L2.St) (r : Rs (List Opn)) (Q : List V → Hp → Prop) : Prop := match r with
  | .ok os ρ' => ∀ vs B' H' ow', Stp n B H ow B' H' ow' → Sim G B' H' ow' σ ρ' → Bd ow' (t + os.length) → OpnsR G B' H' ow' σ t vs os → Q vs H'
  | .ex c ρ' => PostX G W n B H ow σ c ρ'
  | .bad => False
def PostT (n t : Nat) (B H : Hp) (ow : Ow) (σ : L2.St) (r : Rs Bool) (Q : Bool → Hp → Prop) : Prop := match r with
  | .ok b ρ' => ∀ B' H' ow', Stp n B H ow B' H' ow' → Sim G B' H' ow' σ ρ' → Bd ow' t → Q b H'
  | .ex c ρ' => PostX G W n B H ow σ c ρ'
  | .bad => False
def tD (m : ME) : TE := fun σ H Q => ∃ B ow ρ t, Sim G B H ow σ ρ ∧ Bd ow t ∧ ρ.length ≤ t ∧ PostE G W ρ.length t B H ow σ (m ρ) Q
def tDA (m : MA) : TA := fun σ H Q => ∃ B ow ρ t, Sim G B H ow σ ρ ∧ Bd ow t ∧ ρ.length ≤ t ∧ PostA G W ρ.length t B H ow σ (m ρ) Q
def tDT (m : MT) : TT := fun σ H Q => ∃ B ow ρ t, Sim G B H ow σ ρ ∧ Bd ow t ∧ ρ.length ≤ t ∧ PostT G W ρ.length t B H ow σ (m ρ) Q
end

section
variable {G : Cfg} {W : WX} {n t : Nat} {B H B' H' : Hp} {ow ow' : Ow} {σ : L2.St} {ρ ρ' : Env} {v : V}
theorem Sim.len2 (a : Sim G B H ow σ ρ) (b : Sim G B' H' ow' σ ρ') : ρ'.length = ρ.length := by rw [← a.len, ← b.len]
theorem Bd.up {a b : Nat} (h : Bd ow a) (k : a ≤ b) : Bd ow b := fun x i p e => Nat.lt_of_lt_of_le (h x i p e) k
theorem PostX.step {c : Str} (s : Stp n B H ow B' H' ow') (h : PostX G W n B H ow σ c ρ) : PostX G W n B' H' ow' σ c ρ :=
  fun x d B2 H2 ow2 s2 S2 e => h x d B2 H2 ow2 (s.trans s2) S2 e
theorem _root_.L2.PE.up {X : Cx} {e : Expr} {t t' : TE} (h : PE X e t) (k : ∀ σ H Q, t' σ H Q → t σ H Q) : PE X e t' := ⟨fun pins s σ H Q I q => h.run pins s σ H Q I (k σ H Q q)⟩
theorem _root_.L2.PT.up {X : Cx} {e : Expr} {t t' : TT} (h : PT X e t) (k : ∀ σ H Q, t' σ H Q → t σ H Q) : PT X e t' := ⟨fun pins s σ H Q I q => h.run pins s σ H Q I (k σ H Q q)⟩
theorem _root_.L2.PA.up {X : Cx} {e : List Expr} {t t' : TA} (h : PA X e t) (k : ∀ σ H Q, t' σ H Q → t σ H Q) : PA X e t' := ⟨fun pos pins s σ H Q I q => h.run pos pins s σ H Q I (k σ H Q q)⟩
theorem _root_.L2.PS.up {X : Cx} {e : Stmt} {t t' : TS} (h : PS X e t) (k : ∀ D σ H, t' D σ H → t D σ H) : PS X e t' := ⟨fun pins s σ H D I q => h.run pins s σ H D I (k D σ H q)⟩
theorem _root_.L2.PSs.up {X : Cx} {e : List Stmt} {t t' : TS} (h : PSs X e t) (k : ∀ D σ H, t' D σ H → t D σ H) : PSs X e t' := ⟨fun pins s σ H D I q => h.run pins s σ H D I (k D σ H q)⟩
theorem OpnR.step {o : Opn} {r : Nat} (s : Stp n B H ow B' H' ow') (hr : n ≤ r) (h : OpnR G B H ow σ r v o) : OpnR G B' H' ow' σ r v o := by
  cases o with
  | val d => exact s.rp hr h
  | slot i => exact h
theorem OpnsR.length : ∀ {os : List Opn} {t : Nat} {vs : List V}, OpnsR G B H ow σ t vs os → vs.length = os.length
  | [], _, _, h => by cases h; rfl
  | o :: os, _, _, h => by
    obtain ⟨v, r, rfl, _, h⟩ := h
    rw [List.length_cons, List.length_cons, OpnsR.length h]

/-! ## constants, names -/
def mC (d : D) : ME := fun ρ => match d.sv with
  | some _ => .ok (.val d) ρ
  | none => .bad
def mVar (i : Nat) : ME := fun ρ => match slotOf ρ i with
  | none => .bad
  | some d => match d.sv with
    | some _ => .ok (.val d) ρ
    | none => .ok (.slot i) ρ
theorem d_c {X : Cx} {e : Expr} {d : D} {v : V} (hv : d.sv = some v) (h : PE X e (tC v)) : PE X e (tD G W (mC d)) := h.up fun σ H Q q => by
  obtain ⟨B, ow, ρ, t, S, hb, hn, P⟩ := q
  unfold mC at P
  rw [hv] at P
  exact P v B H ow Stp.refl S (hb.up (by omega)) (Rg.ofSv hv)
theorem d_int {X : Cx} {i : Int} {j : Nat} {pos : Pos} : PE X (.Constant (.int i) j pos) (tD G W (mC (.int i))) := d_c rfl pe_int
theorem d_str {X : Cx} {i : Str} {j : Nat} {pos : Pos} : PE X (.Constant (.str i) j pos) (tD G W (mC (.str i))) := d_c rfl pe_str
theorem d_bl {X : Cx} {i : Bool} {j : Nat} {pos : Pos} : PE X (.Constant (.bool i) j pos) (tD G W (mC (.bl i))) := d_c rfl pe_bl
theorem d_non {X : Cx} {j : Nat} {pos : Pos} : PE X (.Constant .none j pos) (tD G W (mC .non)) := d_c rfl pe_non
theorem d_var {X : Cx} {i : Nat} {e : Expr} (h : PE X e (tVar i)) : PE X e (tD G W (mVar i)) := h.up fun σ H Q q => by
  obtain ⟨B, ow, ρ, t, S, hb, hn, P⟩ := q
  unfold mVar at P
  cases e : slotOf ρ i with
  | none => rw [e] at P; exact P.elim
  | some d =>
    rw [e] at P
    obtain ⟨v, hv, r⟩ := S.slot i d (slotOf_some e)
    refine ⟨v, hv, ?_⟩
    cases e2 : d.sv with
    | none =>
      simp only [e2] at P
      exact P v B H ow Stp.refl S (hb.up (by omega)) hv
    | some w =>
      simp only [e2] at P
      refine P v B H ow Stp.refl S (hb.up (by omega)) ?_
      rw [r.toSv e2]
      exact Rg.ofSv e2

/-! ## argument lists -/
def mNil : MA := fun ρ => .ok [] ρ
def mCons (m : ME) (ms : MA) : MA := fun ρ => (m ρ).bind fun o ρ1 => (ms ρ1).bind fun os ρ2 => .ok (o :: os) ρ2
theorem da_nil {X : Cx} : PA X [] (tDA G W mNil) := pa_nil.up fun σ H Q q => by
  obtain ⟨B, ow, ρ, t, S, hb, hn, P⟩ := q
  exact P [] B H ow Stp.refl S hb rfl
/-- one more argument, by values -/
theorem post_cons {m : ME} {ms : MA} {Q : List V → Hp → Prop} (S : Sim G B H ow σ ρ) (hn : ρ.length ≤ t) (P : PostA G W ρ.length t B H ow σ (mCons m ms ρ) Q) :
    PostE G W ρ.length t B H ow σ (m ρ) fun x H1 => tDA G W ms σ H1 fun xs H2 => Q (x :: xs) H2 := by
  unfold mCons at P
  cases e : m ρ with
  | bad => rw [e] at P; exact P
  | ex c ρ1 => rw [e] at P; exact P
  | ok o ρ1 =>
    rw [e, Rs.bind_ok] at P
    intro v B1 H1 ow1 s1 S1 b1 r1
    have hl := S.len2 S1
    refine ⟨B1, ow1, ρ1, t + 1, S1, b1, by omega, ?_⟩
    cases e2 : ms ρ1 with
    | bad => rw [e2] at P; exact P
    | ex c ρ2 => rw [e2] at P; rw [hl]; exact PostX.step s1 P
    | ok os ρ2 =>
      rw [e2, Rs.bind_ok] at P
      intro vs B2 H2 ow2 s2 S2 b2 r2
      rw [hl] at s2
      refine P (v :: vs) B2 H2 ow2 (s1.trans s2) S2 (b2.up (by rw [List.length_cons]; omega)) ⟨v, vs, rfl, r1.step s2 hn, r2⟩
theorem da_cons {X : Cx} {e : Expr} {es : List Expr} {m : ME} {ms : MA} (he : PE X e (tD G W m)) (hs : PA X es (tDA G W ms)) (h : starEach (e :: es) X.env = (false, eval e X.env) :: starEach es X.env := by rfl) :
    PA X (e :: es) (tDA G W (mCons m ms)) := (pa_cons he hs h).up fun σ H Q q => by
  obtain ⟨B, ow, ρ, t, S, hb, hn, P⟩ := q
  exact ⟨B, ow, ρ, t, S, hb, hn, post_cons S hn P⟩

/-! ## operations that read, and give a scalar, a frozen thing, or one new thing -/
/-- each stands for what it shows -/
def Rps (G : Cfg) (B H : Hp) (ow : Ow) : List V → List D → Prop
  | vs, [] => vs = []
  | vs, d :: ds => ∃ v r, vs = v :: r ∧ (∃ u, Rp G B H ow u v d) ∧ Rps G B H ow r ds
def hoOf : Kd → List V → HO
  | .lst, vs => .lst vs
  | .ro, vs => .lst vs
  | .tup, vs => .tup vs
  | .dK ks, vs => .dK (ks.zip vs)
  | .dT ks, vs => .dT (ks.zip vs)
  | .ins _ fs, vs => .ins 0 0 (fs.zip vs)
  | .exn _, vs => .lst vs
def newK : Kd → List V → Prop
  | .lst, _ => True
  | .tup, _ => True
  | .dK ks, vs => ks.length = vs.length
  | .dT ks, vs => ks.length = vs.length
  | _, _ => False
/-- what an operation hands on -/
structure Hand (G : Cfg) (B H : Hp) (d : D) (Q : VK) : Prop where
  old : ∀ v, Fz G B v d → Q v H
  new : ∀ k es ws p, d = .node true k es → newK k ws → FzL G B ws es → H p = none → Q (.ref p) (upd H p (hoOf k ws))
structure Two (G : Cfg) (B H : Hp) (ow : Ow) : Prop where
  same : Same B H
  lab : ∀ a l, ow a = some l → B a = none ∧ ∃ o, H a = some o
def OpOk (G : Cfg) (r : List V → Hp → VK → Prop) (g : List D → Option D) : Prop :=
  ∀ B H ow vs ds d Q, Two G B H ow → Rps G B H ow vs ds → g ds = some d → Hand G B H d Q → r vs H Q
def putO (ow : Ow) (p : Addr) (l : Lab) : Ow := fun a => if a = p then some l else ow a
theorem putO_same {p : Addr} {l : Lab}  : putO ow p l p = some l := if_pos rfl
theorem putO_ne {p a : Addr} {l : Lab} (h : a ≠ p)  : putO ow p l a = ow a := if_neg h
theorem Sim.newv {p : Addr} {o : HO} {l : Lab} (S : Sim G B H ow σ ρ) (hp : H p = none) : Sim G B (upd H p o) (putO ow p l) σ ρ := by
  have ne : ∀ a l, ow a = some l → a ≠ p := fun a l h => by
    obtain ⟨_, u, hu⟩ := S.lab a l h
    exact ne_of_none hu hp
  refine ⟨fun a u h => ?_, fun a l2 h => ?_, S.len, fun i d h => ?_, S.fix⟩
  · rw [upd_ne (ne_of_none (S.same a u h) hp)]
    exact S.same a u h
  · by_cases e : a = p
    · subst e
      refine ⟨?_, _, upd_same⟩
      cases q : B a with
      | none => rfl
      | some u => rw [S.same a u q] at hp; cases hp
    · rw [putO_ne e] at h
      obtain ⟨h1, u, h2⟩ := S.lab a l2 h
      exact ⟨h1, u, by rw [upd_ne e]; exact h2⟩
  · obtain ⟨v, e, r⟩ := S.slot i d h
    refine ⟨v, e, r.shift d fun s o k a vs z => ?_⟩
    unfold RpN at z ⊢
    split
    · rename_i ho
      rw [if_pos ho] at z
      have hne := ne a _ z.1
      exact ⟨by rw [putO_ne hne]; exact z.1, z.2.at (upd_ne hne)⟩
    · rename_i ho
      rw [if_neg ho] at z
      exact z
theorem Stp.newv {p : Addr} {o : HO} {l : Lab} (S : Sim G B H ow σ ρ) (hp : H p = none) : Stp n B H ow B (upd H p o) (putO ow p l) := by
  have ne : ∀ a l, ow a = some l → a ≠ p := fun a l h => by
    obtain ⟨_, u, hu⟩ := S.lab a l h
    exact ne_of_none hu hp
  refine ⟨Same.refl B, fun a u h z => ?_, fun a i q h hn => ?_, fun a u h => .inl h, fun a l2 h => ?_, fun a h => ?_⟩
  · rw [upd_ne (ne_of_none h hp)]
    exact h
  · have hne := ne a _ h
    exact ⟨by rw [putO_ne hne]; exact h, upd_ne hne⟩
  · by_cases e : a = p
    · subst e; exact .inl hp
    · rw [putO_ne e] at h
      exact .inr ⟨l2, h⟩
  · by_cases e : a = p
    · subst e; rw [upd_same]; exact nofun
    · rw [upd_ne e]; exact h
theorem HoO.new {p : Addr} {k : Kd} {ws : List V} (h : newK k ws) : HoO G (upd H p (hoOf k ws)) k p ws := by
  cases k with
  | lst => exact upd_same
  | tup => exact upd_same
  | ro => exact h.elim
  | dK ks => exact ⟨h, upd_same⟩
  | dT ks => exact ⟨h, upd_same⟩
  | ins C fs => exact h.elim
  | exn c => exact h.elim
theorem FzL.kids {ws : List V} {es : List D} {p : List Nat} {i r : Nat} (h : FzL G B ws es) : RgL (RpN G B H ow r) p i ws es := h.2.ofFz es h.1 fun s t k a vs z => by
  simp only [RpN, Bool.false_eq_true, if_false]
  exact z
/-- what is wanted of a value, handed on -/
theorem PostE.hand {d : D} {Q : VK} (S : Sim G B H ow σ ρ) (hb : Bd ow t) (P : PostE G W n t B H ow σ (.ok (.val d) ρ) Q) : Hand G B H d Q where
  old := fun v h => P v B H ow Stp.refl S (hb.up (by omega)) h.rp
  new := fun k es ws p e hk h hp => by
    subst e
    refine P (.ref p) B _ (putO ow p (t, [])) (Stp.newv S hp) (S.newv hp) (fun a i q h => ?_) ?_
    · by_cases e : a = p
      · subst e; rw [putO_same] at h; cases h; omega
      · rw [putO_ne e] at h; have := hb a i q h; omega
    · show Rg _ _ _ _
      rw [Rg]
      refine ⟨p, ws, rfl, ?_, h.kids⟩
      unfold RpN
      rw [if_pos rfl]
      exact ⟨putO_same, HoO.new hk⟩
def mOp (ms : MA) (g : List D → Option D) : ME := fun ρ => (ms ρ).bind fun os ρ1 => match vws ρ1 os with
  | none => .bad
  | some ds => match g ds with
    | none => .bad
    | some d => .ok (.val d) ρ1
theorem vws_rps {os : List Opn} : ∀ {t u : Nat} {vs : List V} {ds : List D}, Sim G B H ow σ ρ → u ≤ t → ρ.length ≤ u → OpnsR G B H ow σ t vs os → vws ρ os = some ds → Rps G (frzB B H ow (from_ u)) H (cutO ow (from_ u)) vs ds := by
  induction os with
  | nil => intro t u vs ds S hu hn h e; cases h; cases e; rfl
  | cons o os ih =>
    intro t u vs ds S hu hn h e
    obtain ⟨v, r, rfl, h1, h2⟩ := h
    unfold vws at e
    cases e1 : o.vw ρ with
    | none => rw [e1] at e; cases e
    | some d =>
      simp only [e1] at e
      cases e2 : vws ρ os with
      | none => rw [e2] at e; cases e
      | some es =>
        simp only [e2] at e
        cases e
        refine ⟨v, r, rfl, ?_, ih S (by omega) hn h2 e2⟩
        cases o with
        | val d0 =>
          cases e1
          exact ⟨0, ((show Rp G B H ow t v d0 from h1).freeze (frzB_same S.lab) (from_hi hu)).rp⟩
        | slot i =>
          have e3 := slotOf_some e1
          obtain ⟨w, hw, hr⟩ := S.slot i d e3
          have : σ[i]? = some (some v) := h1
          rw [this] at hw
          cases hw
          have hi : i < ρ.length := (List.getElem?_eq_some_iff.mp e3).1
          exact ⟨i, hr.low (frzB_same S.lab) (from_lo (by omega))⟩
/-- behind the arguments -/
theorem post_op {ms : MA} {g : List D → Option D} {r : List V → Hp → VK → Prop} {Q : VK} (hr : OpOk G r g) (S : Sim G B H ow σ ρ) (hb : Bd ow t) (hn : ρ.length ≤ t) (P : PostE G W ρ.length t B H ow σ (mOp ms g ρ) Q) :
    PostA G W ρ.length t B H ow σ (ms ρ) fun vs H1 => r vs H1 Q := by
  unfold mOp at P
  cases e : ms ρ with
  | bad => rw [e] at P; exact P
  | ex c ρ1 => rw [e] at P; exact P
  | ok os ρ1 =>
    rw [e, Rs.bind_ok] at P
    intro vs B1 H1 ow1 s1 S1 b1 r1
    have hl := S.len2 S1
    cases e1 : vws ρ1 os with
    | none => simp only [e1] at P; exact P.elim
    | some ds =>
      simp only [e1] at P
      cases e2 : g ds with
      | none => simp only [e2] at P; exact P.elim
      | some d =>
        simp only [e2] at P
        have S2 := S1.frzT (t := t) (by omega)
        have s2 : Stp ρ.length B H ow (frzB B1 H1 ow1 (from_ t)) H1 (cutO ow1 (from_ t)) := Stp.frz S1 s1 hb fun i h => .inr (of_decide_eq_true h)
        have P2 : PostE G W ρ.length t (frzB B1 H1 ow1 (from_ t)) H1 (cutO ow1 (from_ t)) σ (.ok (.val d) ρ1) Q := fun v B' H' ow' s S' b' o' => P v B' H' ow' (s2.trans s) S' b' o'
        exact hr _ _ _ vs ds d Q ⟨S2.same, S2.lab⟩ (vws_rps S1 (Nat.le_refl _) (by omega) r1 e1) e2 (P2.hand S2 cutO_bd)
theorem d_call {X : Cx} {e : Expr} {ms : MA} {g : List D → Option D} {r : List V → Hp → VK → Prop} {es : List Expr} (hr : OpOk G r g) (ha : PA X es (tDA G W ms)) (h : ∀ ta, PA X es ta → PE X e (tCB r ta)) : PE X e (tD G W (mOp ms g)) :=
  (h _ ha).up fun σ H Q q => by
    obtain ⟨B, ow, ρ, t, S, hb, hn, P⟩ := q
    exact ⟨B, ow, ρ, t, S, hb, hn, post_op hr S hb hn P⟩
def r2L (r : R2) : List V → Hp → VK → Prop := fun vs H Q => ∃ x y, vs = [x, y] ∧ r x y H Q
theorem cons2 {m1 m2 : ME} {Q : List V → Hp → Prop} (S : Sim G B H ow σ ρ) (hn : ρ.length ≤ t) (P : PostA G W ρ.length t B H ow σ (mCons m1 (mCons m2 mNil) ρ) Q) :
    PostE G W ρ.length t B H ow σ (m1 ρ) fun x H1 => tD G W m2 σ H1 fun y H2 => Q [x, y] H2 := by
  have h := post_cons S hn P
  cases e : m1 ρ with
  | bad => rw [e] at h; exact h
  | ex c ρ1 => rw [e] at h; exact h
  | ok o ρ1 =>
    rw [e] at h
    intro v B1 H1 ow1 s1 S1 b1 r1
    obtain ⟨B, ow, ρ, t, S, hb, hn, P⟩ := h v B1 H1 ow1 s1 S1 b1 r1
    refine ⟨B, ow, ρ, t, S, hb, hn, ?_⟩
    have h2 := post_cons S hn P
    cases e2 : m2 ρ with
    | bad => rw [e2] at h2; exact h2
    | ex c ρ1 => rw [e2] at h2; exact h2
    | ok o2 ρ2 =>
      rw [e2] at h2
      intro w B2 H2 ow2 s2 S2 b2 r2
      obtain ⟨B3, ow3, ρ3, t3, S3, hb3, hn3, P3⟩ := h2 w B2 H2 ow2 s2 S2 b2 r2
      exact P3 [] B3 H2 ow3 Stp.refl S3 hb3 rfl
theorem d_op {X : Cx} {e a b : Expr} {m1 m2 : ME} {g : List D → Option D} {r : R2} (hr : OpOk G (r2L r) g) (ha : PE X a (tD G W m1)) (hb : PE X b (tD G W m2)) (h : ∀ ta tb, PE X a ta → PE X b tb → PE X e (tOp r ta tb)) :
    PE X e (tD G W (mOp (mCons m1 (mCons m2 mNil)) g)) := (h _ _ ha hb).up fun σ H Q q => by
  obtain ⟨B, ow, ρ, t, S, hb, hn, P⟩ := q
  refine ⟨B, ow, ρ, t, S, hb, hn, ?_⟩
  have P1 := cons2 S hn (post_op hr S hb hn P)
  cases e : m1 ρ with
  | bad => rw [e] at P1; exact P1
  | ex c ρ1 => rw [e] at P1; exact P1
  | ok o ρ1 =>
    rw [e] at P1
    intro v B1 H1 ow1 s1 S1 b1 r1
    obtain ⟨B, ow, ρ, t, S, hb, hn, P⟩ := P1 v B1 H1 ow1 s1 S1 b1 r1
    refine ⟨B, ow, ρ, t, S, hb, hn, ?_⟩
    cases e2 : m2 ρ with
    | bad => rw [e2] at P; exact P
    | ex c ρ1 => rw [e2] at P; exact P
    | ok o2 ρ2 =>
      rw [e2] at P
      intro w B2 H2 ow2 s2 S2 b2 r2
      obtain ⟨x, y, exy, q⟩ := P w B2 H2 ow2 s2 S2 b2 r2
      cases exy
      exact q
end
end DL

namespace DL
open PySem PySem.Spec L2

/-! ## reading operands -/
section
variable {G : Cfg} {B H : Hp} {ow : Ow} {v : V} {vs : List V} {ds : List D}
theorem Rps.one {d : D} (h : Rps G B H ow vs [d]) : ∃ v u, vs = [v] ∧ Rp G B H ow u v d := by
  obtain ⟨v, r, rfl, ⟨u, h⟩, h2⟩ := h
  cases h2
  exact ⟨v, u, rfl, h⟩
theorem Rps.two {d e : D} (h : Rps G B H ow vs [d, e]) : ∃ v w u z, vs = [v, w] ∧ Rp G B H ow u v d ∧ Rp G B H ow z w e := by
  obtain ⟨v, r, rfl, ⟨u, h⟩, h2⟩ := h
  obtain ⟨w, z, rfl, h3⟩ := Rps.one h2
  exact ⟨v, w, u, z, rfl, h, h3⟩
theorem Rps.three {d e f : D} (h : Rps G B H ow vs [d, e, f]) : ∃ v w x u z y, vs = [v, w, x] ∧ Rp G B H ow u v d ∧ Rp G B H ow z w e ∧ Rp G B H ow y x f := by
  obtain ⟨v, r, rfl, ⟨u, h⟩, h2⟩ := h
  obtain ⟨w, x, z, y, rfl, h3, h4⟩ := Rps.two h2
  exact ⟨v, w, x, u, z, y, rfl, h, h3, h4⟩
theorem Rp.node {o : Bool} {k : Kd} {u : Nat} (S : Two G B H ow) (h : Rp G B H ow u v (.node o k ds)) : ∃ a vs, v = .ref a ∧ HoB G H k a vs ∧ RgL (RpN G B H ow u) [] 0 vs ds := by
  unfold Rp at h
  rw [Rg] at h
  obtain ⟨a, vs, e, hn, hl⟩ := h
  refine ⟨a, vs, e, ?_, hl⟩
  unfold RpN at hn
  split at hn
  · exact hn.2.toB
  · exact hn.same S.same
theorem kidsFz {u p n : _} (h : RgL (RpN G B H ow u) p n vs ds) (z : D.fzs ds = true) : FzL G B vs ds := ⟨z, h.ofFz ds z fun _ _ _ _ _ z => by
  simp only [RpN, Bool.false_eq_true, if_false] at z
  exact z⟩
theorem seqB {k : Kd} {a : Addr} (h : HoB G H k a vs) (hk : k = .lst ∨ k = .ro ∨ k = .tup) : SqL G.K H a vs ∨ SqT G.K H a vs := by
  rcases hk with rfl | rfl | rfl
  · exact .inl (SqL.of h)
  · exact .inl h
  · exact .inr h
end
def Kd.seq : Kd → Bool
  | .lst => true
  | .ro => true
  | .tup => true
  | _ => false
theorem Kd.seq_or {k : Kd} (h : k.seq = true) : k = .lst ∨ k = .ro ∨ k = .tup := by
  cases k <;> simp [Kd.seq] at h ⊢
def D.ints? : List D → Option (List Int)
  | [] => some []
  | .int i :: r => (D.ints? r).map (i :: ·)
  | _ => none
def D.strs? : List D → Option (List Str)
  | [] => some []
  | .str i :: r => (D.strs? r).map (i :: ·)
  | _ => none
theorem D.ints?_map : ∀ ns : List Int, D.ints? (ns.map D.int) = some ns
  | [] => rfl
  | n :: ns => by rw [List.map_cons, D.ints?, D.ints?_map ns]; rfl
theorem D.strs?_map : ∀ ns : List Str, D.strs? (ns.map D.str) = some ns
  | [] => rfl
  | n :: ns => by rw [List.map_cons, D.strs?, D.strs?_map ns]; rfl
theorem D.ints?_some : ∀ {ds : List D} {ns : List Int}, D.ints? ds = some ns → ds = ns.map D.int
  | [], _, h => by cases h; rfl
  | .int i :: r, ns, h => by
    rw [D.ints?] at h
    cases e : D.ints? r with
    | none => rw [e] at h; cases h
    | some ms => rw [e] at h; cases h; rw [List.map_cons, ← D.ints?_some e]
  | .non :: r, ns, h => by cases h
  | .bl _ :: r, ns, h => by cases h
  | .str _ :: r, ns, h => by cases h
  | .exn _ :: r, ns, h => by cases h
  | .node _ _ _ :: r, ns, h => by cases h
theorem D.strs?_some : ∀ {ds : List D} {ns : List Str}, D.strs? ds = some ns → ds = ns.map D.str
  | [], _, h => by cases h; rfl
  | .str i :: r, ns, h => by
    rw [D.strs?] at h
    cases e : D.strs? r with
    | none => rw [e] at h; cases h
    | some ms => rw [e] at h; cases h; rw [List.map_cons, ← D.strs?_some e]
  | .non :: r, ns, h => by cases h
  | .bl _ :: r, ns, h => by cases h
  | .int _ :: r, ns, h => by cases h
  | .exn _ :: r, ns, h => by cases h
  | .node _ _ _ :: r, ns, h => by cases h
theorem kidsI {N p n} : ∀ {ns : List Int} {vs : List V}, RgL N p n vs (ns.map D.int) → vs = ns.map V.int
  | [], _, h => h
  | i :: ns, _, h => by
    rw [List.map_cons, RgL] at h
    obtain ⟨v, r, rfl, h1, h2⟩ := h
    rw [show v = V.int i from h1, kidsI h2]
    rfl
theorem kidsS {N p n} : ∀ {ns : List Str} {vs : List V}, RgL N p n vs (ns.map D.str) → vs = ns.map V.str
  | [], _, h => h
  | i :: ns, _, h => by
    rw [List.map_cons, RgL] at h
    obtain ⟨v, r, rfl, h1, h2⟩ := h
    rw [show v = V.str i from h1, kidsS h2]
    rfl
theorem FzL.ints {G : Cfg} {B : Hp} : ∀ (ns : List Int), FzL G B (ns.map V.int) (ns.map D.int)
  | [] => .nil
  | _ :: ns => .cons (Fz.sv rfl) (FzL.ints ns)
theorem FzL.strs {G : Cfg} {B : Hp} : ∀ (ns : List Str), FzL G B (ns.map V.str) (ns.map D.str)
  | [] => .nil
  | _ :: ns => .cons (Fz.sv rfl) (FzL.strs ns)

/-! ## int operators -/
def gI2 (f : Int → Int → Option D) : List D → Option D
  | [.int i, .int j] => f i j
  | _ => none
theorem gI2_some {f : Int → Int → Option D} {ds : List D} {d : D} (h : gI2 f ds = some d) : ∃ i j, ds = [.int i, .int j] ∧ f i j = some d := by
  unfold gI2 at h
  split at h
  · exact ⟨_, _, rfl, h⟩
  · cases h
theorem ok_i2 {G : Cfg} {r : R2} {f : Int → Int → Option D} (h : ∀ i j d, f i j = some d → ∃ v, d.sv = some v ∧ ∀ H (Q : VK), Q v H → r (.int i) (.int j) H Q) : OpOk G (r2L r) (gI2 f) := by
  intro B H ow vs ds d Q S R e K
  obtain ⟨i, j, rfl, e2⟩ := gI2_some e
  obtain ⟨v, w, u, z, rfl, h1, h2⟩ := R.two
  obtain rfl : v = V.int i := h1
  obtain rfl : w = V.int j := h2
  obtain ⟨x, hx, hr⟩ := h i j d e2
  exact ⟨_, _, rfl, hr H Q (K.old _ (Fz.sv hx))⟩
def gSub := gI2 fun i j => some (.int (i - j))
def gMod := gI2 fun i j => if 0 < j then some (.int (i % j)) else none
def gDiv := gI2 fun i j => if 0 < j ∧ j < 1073741824 then some (.int (i / j)) else none
def gPow := gI2 fun i j => if 0 ≤ j ∧ j ≤ 1000000 ∧ i.natAbs < 2 ^ 64 then some (.int (i ^ j.toNat)) else none
def gXor := gI2 fun i j => some (.int (Builtin.bitXor i j))
theorem ok_sub {G : Cfg} : OpOk G (r2L (rI0 fun i j => .int (i - j))) gSub := ok_i2 fun i j d h => by cases h; exact ⟨_, rfl, fun H Q q => ⟨i, j, rfl, rfl, q⟩⟩
theorem ok_xor {G : Cfg} : OpOk G (r2L (rI0 fun i j => .int (Builtin.bitXor i j))) gXor := ok_i2 fun i j d h => by cases h; exact ⟨_, rfl, fun H Q q => ⟨i, j, rfl, rfl, q⟩⟩
theorem ok_mod {G : Cfg} : OpOk G (r2L (rI (fun _ j => 0 < j) fun i j => .int (i % j))) gMod := ok_i2 fun i j d h => by
  split at h
  · cases h; rename_i c; exact ⟨_, rfl, fun H Q q => ⟨i, j, rfl, rfl, c, q⟩⟩
  · cases h
theorem ok_div {G : Cfg} : OpOk G (r2L (rI CDiv fun i j => .int (i / j))) gDiv := ok_i2 fun i j d h => by
  split at h
  · cases h; rename_i c; exact ⟨_, rfl, fun H Q q => ⟨i, j, rfl, rfl, c, q⟩⟩
  · cases h
theorem ok_pow {G : Cfg} : OpOk G (r2L (rI CPow fun i j => .int (i ^ j.toNat))) gPow := ok_i2 fun i j d h => by
  split at h
  · cases h; rename_i c; exact ⟨_, rfl, fun H Q q => ⟨i, j, rfl, rfl, c, q⟩⟩
  · cases h
/-! ## + and * -/
def gAdd : List D → Option D
  | [.int i, .int j] => some (.int (i + j))
  | [.str x, .str y] => if x.length + y.length ≤ 16777216 then some (.str (x ++ y)) else none
  | [.node _ .lst ds, .node _ .lst es] => if (D.fzs ds && D.fzs es) = true ∧ ds.length + es.length ≤ 16777216 then some (.node true .lst (ds ++ es)) else none
  | _ => none
abbrev rAddS : R2 := fun x y H Q => ∃ i j, x = .str i ∧ y = .str j ∧ i.length + j.length ≤ sizeLine ∧ Q (.str (i ++ j)) H
abbrev rAddA : R2 := fun x y H Q => rI0 (fun i j => .int (i + j)) x y H Q ∨ (rAddS x y H Q ∨ rCat x y H Q)
theorem op_addA {X : Cx} : OpR X (binaryOp .Add) rAddA := op_add.or (op_add_str.or op_cat)
theorem line_le {n : Nat} (h : n ≤ 16777216) : n ≤ sizeLine := by rw [PySem.sizeLine_eq]; exact h
theorem line_lt {n : Nat} (h : n < 16777216) : n < sizeLine := by rw [PySem.sizeLine_eq]; exact h
theorem ok_add {G : Cfg} : OpOk G (r2L rAddA) gAdd := by
  intro B H ow vs ds d Q S R e K
  unfold gAdd at e
  split at e
  · obtain ⟨v, w, u, z, rfl, h1, h2⟩ := R.two
    cases h1; cases h2; cases e
    exact ⟨_, _, rfl, .inl ⟨_, _, rfl, rfl, K.old _ (Fz.sv rfl)⟩⟩
  · obtain ⟨v, w, u, z, rfl, h1, h2⟩ := R.two
    cases h1; cases h2
    split at e
    · rename_i c
      cases e
      exact ⟨_, _, rfl, .inr (.inl ⟨_, _, rfl, rfl, line_le c, K.old _ (Fz.sv rfl)⟩)⟩
    · cases e
  · rename_i ds es
    obtain ⟨v, w, u, z, rfl, h1, h2⟩ := R.two
    split at e
    · rename_i c
      cases e
      obtain ⟨a, xs, rfl, ha, ka⟩ := Rp.node S h1
      obtain ⟨b, ys, rfl, hb, kb⟩ := Rp.node S h2
      obtain ⟨c1, c2⟩ := c
      simp only [Bool.and_eq_true] at c1
      refine ⟨_, _, rfl, .inr (.inr ⟨a, b, xs, ys, rfl, rfl, ha, hb, ?_, fun p hp => ?_⟩)⟩
      · rw [ka.length, kb.length]; exact line_le c2
      · exact K.new .lst _ (xs ++ ys) p rfl trivial ((kidsFz ka c1.1).append (kidsFz kb c1.2)) hp
    · cases e
  · cases e
def gMul : List D → Option D
  | [.int i, .int j] => if (-(2 ^ 64) < i ∧ i < 2 ^ 64) ∨ (-(2 ^ 64) < j ∧ j < 2 ^ 64) then some (.int (i * j)) else none
  | [.node _ .lst ds, .int j] => if D.fzs ds = true ∧ -(2 ^ 63) ≤ j ∧ j < 2 ^ 63 ∧ ds.length * j.toNat ≤ 16777216 then some (.node true .lst (List.replicate j.toNat ds).flatten) else none
  | _ => none
abbrev rMulA : R2 := fun x y H Q => rI CMul (fun i j => .int (i * j)) x y H Q ∨ rRep x y H Q
theorem op_mulA {X : Cx} : OpR X (binaryOp .Mult) rMulA := op_mul.or op_rep
theorem FzL.rep {G : Cfg} {B : Hp} {vs : List V} {ds : List D} (h : FzL G B vs ds) : ∀ n : Nat, FzL G B (List.replicate n vs).flatten (List.replicate n ds).flatten
  | 0 => .nil
  | n + 1 => by
    rw [List.replicate_succ, List.replicate_succ, List.flatten_cons, List.flatten_cons]
    exact h.append (FzL.rep h n)
theorem ok_mul {G : Cfg} : OpOk G (r2L rMulA) gMul := by
  intro B H ow vs ds d Q S R e K
  unfold gMul at e
  split at e
  · obtain ⟨v, w, u, z, rfl, h1, h2⟩ := R.two
    cases h1; cases h2
    split at e
    · rename_i c
      cases e
      exact ⟨_, _, rfl, .inl ⟨_, _, rfl, rfl, c, K.old _ (Fz.sv rfl)⟩⟩
    · cases e
  · rename_i ds j
    obtain ⟨v, w, u, z, rfl, h1, h2⟩ := R.two
    cases h2
    split at e
    · rename_i c
      cases e
      obtain ⟨a, xs, rfl, ha, ka⟩ := Rp.node S h1
      obtain ⟨c1, c2, c3, c4⟩ := c
      refine ⟨_, _, rfl, .inr ⟨a, j, xs, rfl, rfl, ha, c2, c3, ?_, fun p hp => ?_⟩⟩
      · rw [ka.length]; exact line_le c4
      · exact K.new .lst _ _ p rfl trivial ((kidsFz ka c1).rep _) hp
    · cases e
  · cases e
def gNeg : List D → Option D
  | [.int i] => some (.int (-i))
  | _ => none
/-! ## comparisons -/
mutual
def D.py : D → Option PyData
  | .non => some .none
  | .bl b => some (.bool b)
  | .int i => some (.int i)
  | .str s => some (.str s)
  | .exn _ => none
  | .node _ k ds => match k with
    | .lst => (D.pys ds).map .list
    | .ro => (D.pys ds).map .list
    | .tup => (D.pys ds).map .tuple
    | _ => none
def D.pys : List D → Option (List PyData)
  | [] => some []
  | d :: ds => match D.py d with
    | none => none
    | some e => (D.pys ds).map (e :: ·)
end
mutual
theorem D.py_dp {G : Cfg} {H : Hp} : ∀ (d : D) {p : List Nat} {v : V} {e : PyData}, Rg (fun _ _ k a vs => HoB G H k a vs) p v d → d.py = some e → Dp G.K H v e
  | .non, _, _, _, h, e => by cases e; cases h; exact .non
  | .bl b, _, _, _, h, e => by cases e; cases h; exact .bl b
  | .int b, _, _, _, h, e => by cases e; cases h; exact .int b
  | .str b, _, _, _, h, e => by cases e; cases h; exact .str b
  | .exn _, _, _, _, h, _ => by cases h
  | .node o k ds, p, v, e, h, q => by
    rw [Rg] at h
    obtain ⟨a, vs, rfl, hn, hl⟩ := h
    cases e2 : D.pys ds with
    | none => cases k <;> simp [D.py, e2] at q
    | some es =>
      have all := D.pys_dp ds hl e2
      cases k with
      | lst => simp [D.py, e2] at q; subst q; exact .lst (SqL.of hn) all
      | ro => simp [D.py, e2] at q; subst q; exact .lst hn all
      | tup => simp [D.py, e2] at q; subst q; exact .tup hn all
      | _ => simp [D.py] at q
theorem D.pys_dp {G : Cfg} {H : Hp} : ∀ (ds : List D) {p : List Nat} {n : Nat} {vs : List V} {es : List PyData}, RgL (fun _ _ k a vs => HoB G H k a vs) p n vs ds → D.pys ds = some es → DpAll G.K H vs es
  | [], _, _, _, _, h, e => by cases h; cases e; exact .nil
  | d :: ds, _, _, _, _, h, q => by
    rw [RgL] at h
    obtain ⟨v, r, rfl, h1, h2⟩ := h
    rw [D.pys] at q
    cases e1 : D.py d with
    | none => rw [e1] at q; cases q
    | some e =>
      simp only [e1] at q
      cases e2 : D.pys ds with
      | none => rw [e2] at q; cases q
      | some es =>
        rw [e2] at q
        cases q
        exact .cons (D.py_dp d h1 e1) (D.pys_dp ds h2 e2)
end
/-- == of data -/
def D.eq (d e : D) : Option Bool := match d.py, e.py with
  | some x, some y => if SeqAt.shaped x = true ∧ SeqAt.shaped y = true then some (PyData.eqv x y) else none
  | _, _ => none
def gEq : List D → Option D
  | [.int i, .int j] => some (.bl (decide (i = j)))
  | [.str i, .str j] => some (.bl (decide (i = j)))
  | [.bl i, .bl j] => some (.bl (decide (i = j)))
  | [d, e] => (D.eq d e).map .bl
  | _ => none
def gNe : List D → Option D
  | [.int i, .int j] => some (.bl (!decide (i = j)))
  | [.str i, .str j] => some (.bl (!decide (i = j)))
  | [.bl i, .bl j] => some (.bl (!decide (i = j)))
  | [d, e] => (D.eq d e).map fun b => .bl (!b)
  | _ => none
abbrev rEqA (K : PySem.W.Frag) : R2 := fun x y H Q => rEq x y H Q ∨ rEqD K x y H Q
abbrev rNeA (K : PySem.W.Frag) : R2 := fun x y H Q => rNe x y H Q ∨ rNeD K x y H Q
theorem op_eqA {X : Cx} (hu : X.A.units + 64 < cLine) : OpR X (compareOp .Eq) (rEqA X.K) := op_eq.or (op_eqD hu)
theorem op_neA {X : Cx} (hu : X.A.units + 64 < cLine) : OpR X (compareOp .NotEq) (rNeA X.K) := op_ne.or (op_neD hu)
theorem D.eq_some {d e : D} {b : Bool} (h : D.eq d e = some b) : ∃ x y, d.py = some x ∧ e.py = some y ∧ SeqAt.shaped x = true ∧ SeqAt.shaped y = true ∧ b = PyData.eqv x y := by
  unfold D.eq at h
  cases e1 : d.py with
  | none => rw [e1] at h; cases h
  | some x =>
    cases e2 : e.py with
    | none => rw [e1, e2] at h; cases h
    | some y =>
      simp only [e1, e2] at h
      split at h
      · rename_i c
        cases h
        exact ⟨x, y, rfl, rfl, c.1, c.2, rfl⟩
      · cases h
theorem vdec {i j : Int} : decide (V.int i = V.int j) = decide (i = j) := by
  rw [Bool.eq_iff_iff]; simp
theorem vdecS {i j : Str} : decide (V.str i = V.str j) = decide (i = j) := by
  rw [Bool.eq_iff_iff]; simp
theorem vdecB {i j : Bool} : decide (V.bl i = V.bl j) = decide (i = j) := by
  rw [Bool.eq_iff_iff]; simp
theorem ok_eq {G : Cfg} : OpOk G (r2L (rEqA G.K)) gEq := by
  intro B H ow vs ds d Q S R e K
  unfold gEq at e
  split at e
  · obtain ⟨v, w, u, z, rfl, h1, h2⟩ := R.two
    cases h1; cases h2; cases e
    exact ⟨_, _, rfl, .inl ⟨rfl, by rw [vdec]; exact K.old _ (Fz.sv rfl)⟩⟩
  · obtain ⟨v, w, u, z, rfl, h1, h2⟩ := R.two
    cases h1; cases h2; cases e
    exact ⟨_, _, rfl, .inl ⟨rfl, by rw [vdecS]; exact K.old _ (Fz.sv rfl)⟩⟩
  · obtain ⟨v, w, u, z, rfl, h1, h2⟩ := R.two
    cases h1; cases h2; cases e
    exact ⟨_, _, rfl, .inl ⟨rfl, by rw [vdecB]; exact K.old _ (Fz.sv rfl)⟩⟩
  · rename_i d1 d2 _ _ _
    obtain ⟨v, w, u, z, rfl, h1, h2⟩ := R.two
    cases e2 : D.eq d1 d2 with
    | none => rw [e2] at e; cases e
    | some b =>
      rw [e2] at e
      cases e
      obtain ⟨x, y, p1, p2, s1, s2, rfl⟩ := D.eq_some e2
      exact ⟨_, _, rfl, .inr ⟨x, y, D.py_dp d1 (h1.rr S.same) p1, D.py_dp d2 (h2.rr S.same) p2, s1, s2, K.old _ (Fz.sv rfl)⟩⟩
  · cases e
theorem ok_ne {G : Cfg} : OpOk G (r2L (rNeA G.K)) gNe := by
  intro B H ow vs ds d Q S R e K
  unfold gNe at e
  split at e
  · obtain ⟨v, w, u, z, rfl, h1, h2⟩ := R.two
    cases h1; cases h2; cases e
    exact ⟨_, _, rfl, .inl ⟨rfl, by rw [vdec]; exact K.old _ (Fz.sv rfl)⟩⟩
  · obtain ⟨v, w, u, z, rfl, h1, h2⟩ := R.two
    cases h1; cases h2; cases e
    exact ⟨_, _, rfl, .inl ⟨rfl, by rw [vdecS]; exact K.old _ (Fz.sv rfl)⟩⟩
  · obtain ⟨v, w, u, z, rfl, h1, h2⟩ := R.two
    cases h1; cases h2; cases e
    exact ⟨_, _, rfl, .inl ⟨rfl, by rw [vdecB]; exact K.old _ (Fz.sv rfl)⟩⟩
  · rename_i d1 d2 _ _ _
    obtain ⟨v, w, u, z, rfl, h1, h2⟩ := R.two
    cases e2 : D.eq d1 d2 with
    | none => rw [e2] at e; cases e
    | some b =>
      rw [e2] at e
      cases e
      obtain ⟨x, y, p1, p2, s1, s2, rfl⟩ := D.eq_some e2
      exact ⟨_, _, rfl, .inr ⟨x, y, D.py_dp d1 (h1.rr S.same) p1, D.py_dp d2 (h2.rr S.same) p2, s1, s2, K.old _ (Fz.sv rfl)⟩⟩
  · cases e
def gLt := gI2 fun i j => some (.bl (decide (i < j)))
def gLe := gI2 fun i j => some (.bl (decide (i ≤ j)))
def gGt := gI2 fun i j => some (.bl (decide (j < i)))
def gGe := gI2 fun i j => some (.bl (decide (j ≤ i)))
theorem ok_cI {G : Cfg} {p : Int → Int → Bool} : OpOk G (r2L (rI0 fun i j => .bl (p i j))) (gI2 fun i j => some (.bl (p i j))) := ok_i2 fun i j d h => by cases h; exact ⟨_, rfl, fun H Q q => ⟨i, j, rfl, rfl, q⟩⟩
def D.isN : D → Bool
  | .non => true
  | _ => false
def gIsN : List D → Option D
  | [d, .non] => some (.bl d.isN)
  | _ => none
def gNotN : List D → Option D
  | [d, .non] => some (.bl !d.isN)
  | _ => none
theorem isN_v {N p} {v : V} {d : D} (h : Rg N p v d) : decide (v = .non) = d.isN := by
  cases d with
  | non => cases h; rfl
  | node o k ds => rw [Rg] at h; obtain ⟨a, vs, rfl, _⟩ := h; rfl
  | exn => cases h
  | _ => cases h; rfl
theorem ok_isN {G : Cfg} : OpOk G (r2L (fun x y H Q => y = .non ∧ Q (.bl (decide (x = .non))) H)) gIsN := by
  intro B H ow vs ds d Q S R e K
  unfold gIsN at e
  split at e
  · obtain ⟨v, w, u, z, rfl, h1, h2⟩ := R.two
    cases h2; cases e
    exact ⟨_, _, rfl, rfl, by rw [isN_v h1]; exact K.old _ (Fz.sv rfl)⟩
  · cases e
theorem ok_notN {G : Cfg} : OpOk G (r2L (fun x y H Q => y = .non ∧ Q (.bl (!decide (x = .non))) H)) gNotN := by
  intro B H ow vs ds d Q S R e K
  unfold gNotN at e
  split at e
  · obtain ⟨v, w, u, z, rfl, h1, h2⟩ := R.two
    cases h2; cases e
    exact ⟨_, _, rfl, rfl, by rw [isN_v h1]; exact K.old _ (Fz.sv rfl)⟩
  · cases e
/-! ## in -/
def D.flat : D → Bool
  | .non => true
  | .bl _ => true
  | .int _ => true
  | .str _ => true
  | _ => false
def D.eqF : D → D → Bool
  | .int i, .int j => i == j
  | .str i, .str j => i == j
  | .bl i, .bl j => i == j
  | .non, .non => true
  | .bl i, .int j => (if i then 1 else 0) == j
  | .int i, .bl j => i == (if j then 1 else 0)
  | _, _ => false
theorem eqF_v {N N' p q} {v w : V} {d e : D} (h : Rg N p v d) (g : Rg N' q w e) (f : d.flat = true) (f' : e.flat = true) : eqV v w = D.eqF d e := by
  cases d <;> simp [D.flat] at f <;> cases e <;> simp [D.flat] at f' <;> cases h <;> cases g <;> rfl
theorem flat_v {N p} {v : V} {d : D} (h : Rg N p v d) (f : d.flat = true) : flatV v = true := by
  cases d <;> simp [D.flat] at f <;> cases h <;> rfl
def D.inF (x : D) (xs : List D) : Bool := xs.any fun y => D.eqF y x
theorem inF_v {N N' p} {v : V} {x : D} (h : Rg N p v x) (f : x.flat = true) : ∀ {xs : List D} {vs : List V} {q : List Nat} {n : Nat}, RgL N' q n vs xs → xs.all D.flat = true → vs.all flatV = true ∧ inV v vs = D.inF x xs
  | [], _, _, _, g, _ => by cases g; exact ⟨rfl, rfl⟩
  | d :: xs, _, _, _, g, fa => by
    rw [RgL] at g
    obtain ⟨w, r, rfl, g1, g2⟩ := g
    rw [List.all_cons, Bool.and_eq_true] at fa
    obtain ⟨a1, a2⟩ := inF_v h f g2 fa.2
    refine ⟨by rw [List.all_cons, flat_v g1 fa.1, a1]; rfl, ?_⟩
    unfold inV D.inF at a2 ⊢
    rw [List.any_cons, List.any_cons, eqF_v g1 h fa.1 f, a2]
/-- a text within a text -/
def Sin (x y : Str) : Bool := !(Builtin.Str.occurrences y x 0 y.length 1).isEmpty
def gIn : List D → Option D
  | [.str x, .str y] => some (.bl (Sin x y))
  | [x, .node _ k ds] => if k.seq = true ∧ x.flat = true ∧ ds.all D.flat = true then some (.bl (D.inF x ds)) else none
  | _ => none
def gNotIn (l : List D) : Option D := match gIn l with
  | some (.bl b) => some (.bl !b)
  | _ => none
abbrev rInS : R2 := fun x y H Q => ∃ i j, x = .str i ∧ y = .str j ∧ Q (.bl (!(Builtin.Str.occurrences j i 0 j.length 1).isEmpty)) H
abbrev rNotInS : R2 := fun x y H Q => ∃ i j, x = .str i ∧ y = .str j ∧ Q (.bl (!(!(Builtin.Str.occurrences j i 0 j.length 1).isEmpty))) H
abbrev rInA (K : PySem.W.Frag) : R2 := fun x y H Q => rInS x y H Q ∨ rIn K false x y H Q
abbrev rNotInA (K : PySem.W.Frag) : R2 := fun x y H Q => rNotInS x y H Q ∨ rIn K true x y H Q
theorem op_inA {X : Cx} : OpR X (compareOp .In) (rInA X.K) := op_in_str.or op_in_seq
theorem op_notInA {X : Cx} : OpR X (compareOp .NotIn) (rNotInA X.K) := op_notin_str.or op_notIn_seq
theorem gIn_ok {G : Cfg} {B H : Hp} {ow : Ow} {vs : List V} {ds : List D} {d : D} (S : Two G B H ow) (R : Rps G B H ow vs ds) (e : gIn ds = some d) :
    ∃ x y b, vs = [x, y] ∧ d = .bl b ∧ ((∃ i j, x = .str i ∧ y = .str j ∧ b = Sin i j) ∨ ∃ p xs, y = .ref p ∧ (SqL G.K H p xs ∨ SqT G.K H p xs) ∧ flatV x = true ∧ xs.all flatV = true ∧ b = inV x xs) := by
  unfold gIn at e
  split at e
  · obtain ⟨v, w, u, z, rfl, h1, h2⟩ := R.two
    cases h1; cases h2; cases e
    exact ⟨_, _, _, rfl, rfl, .inl ⟨_, _, rfl, rfl, rfl⟩⟩
  · obtain ⟨v, w, u, z, rfl, h1, h2⟩ := R.two
    split at e
    · rename_i c
      cases e
      obtain ⟨a, xs, rfl, ha, ka⟩ := Rp.node S h2
      obtain ⟨f1, f2⟩ := inF_v h1 c.2.1 ka c.2.2
      exact ⟨_, _, _, rfl, rfl, .inr ⟨a, xs, rfl, seqB ha (Kd.seq_or c.1), flat_v h1 c.2.1, f1, f2.symm⟩⟩
    · cases e
  · cases e
theorem ok_in {G : Cfg} : OpOk G (r2L (rInA G.K)) gIn := by
  intro B H ow vs ds d Q S R e K
  obtain ⟨x, y, b, rfl, rfl, h⟩ := gIn_ok S R e
  refine ⟨x, y, rfl, ?_⟩
  have q := K.old _ (Fz.sv rfl)
  rcases h with ⟨i, j, rfl, rfl, rfl⟩ | ⟨p, xs, rfl, hs, f1, f2, rfl⟩
  · exact .inl ⟨i, j, rfl, rfl, q⟩
  · exact .inr ⟨p, xs, rfl, hs, f1, f2, q⟩
theorem ok_notIn {G : Cfg} : OpOk G (r2L (rNotInA G.K)) gNotIn := by
  intro B H ow vs ds d Q S R e K
  unfold gNotIn at e
  cases e2 : gIn ds with
  | none => rw [e2] at e; cases e
  | some d2 =>
    obtain ⟨x, y, b, rfl, rfl, h⟩ := gIn_ok S R e2
    rw [e2] at e
    cases e
    refine ⟨x, y, rfl, ?_⟩
    have q := K.old _ (Fz.sv rfl)
    rcases h with ⟨i, j, rfl, rfl, rfl⟩ | ⟨p, xs, rfl, hs, f1, f2, rfl⟩
    · exact .inl ⟨i, j, rfl, rfl, q⟩
    · exact .inr ⟨p, xs, rfl, hs, f1, f2, q⟩
end DL

namespace DL
open PySem PySem.Spec L2

/-! ## built-ins of one argument -/
def gLen : List D → Option D
  | [.str s] => if s.length ≤ 16777216 then some (.int s.length) else none
  | [.node _ k ds] => match k with
    | .lst => some (.int ds.length)
    | .ro => some (.int ds.length)
    | .tup => some (.int ds.length)
    | .dK _ => some (.int ds.length)
    | _ => none
  | _ => none
def rLenA (K : PySem.W.Frag) : List V → Hp → VK → Prop := fun xs H Q => (∃ p ys, xs = [.ref p] ∧ (SqL K H p ys ∨ SqT K H p ys) ∧ Q (.int ys.length) H) ∨
  ((∃ z, xs = [.str z] ∧ z.length ≤ sizeLine ∧ Q (.int z.length) H) ∨ (∃ a kvs, xs = [V.ref a] ∧ H a = some (.dK kvs) ∧ Q (.int kvs.length) H))
theorem call_lenA {X : Cx} : CallR X (.builtin "len") (rLenA X.K) := call_len_seq.or (call_len_str.or call_lenD)
theorem ok_len {G : Cfg} : OpOk G (rLenA G.K) gLen := by
  intro B H ow vs ds d Q S R e K
  unfold gLen at e
  split at e
  · obtain ⟨v, u, rfl, h1⟩ := R.one
    cases h1
    split at e
    · rename_i c
      cases e
      exact .inr (.inl ⟨_, rfl, line_le c, K.old _ (Fz.sv rfl)⟩)
    · cases e
  · rename_i o k ds
    obtain ⟨v, u, rfl, h1⟩ := R.one
    obtain ⟨a, xs, rfl, ha, ka⟩ := Rp.node S h1
    have hl := ka.length
    cases k with
    | lst => cases e; exact .inl ⟨a, xs, rfl, seqB ha (.inl rfl), by rw [hl]; exact K.old _ (Fz.sv rfl)⟩
    | ro => cases e; exact .inl ⟨a, xs, rfl, seqB ha (.inr (.inl rfl)), by rw [hl]; exact K.old _ (Fz.sv rfl)⟩
    | tup => cases e; exact .inl ⟨a, xs, rfl, seqB ha (.inr (.inr rfl)), by rw [hl]; exact K.old _ (Fz.sv rfl)⟩
    | dK ks =>
      cases e
      refine .inr (.inr ⟨a, _, rfl, ha.2, ?_⟩)
      have hz : (ks.zip xs).length = ds.length := by rw [List.length_zip, ha.1, hl]; omega
      rw [hz]
      exact K.old _ (Fz.sv rfl)
    | _ => cases e
  · cases e
def gAbs : List D → Option D
  | [.int i] => some (.int (if i < 0 then -i else i))
  | _ => none
theorem ok_abs {G : Cfg} : OpOk G (fun xs H Q => ∃ i, xs = [.int i] ∧ Q (.int (if i < 0 then -i else i)) H) gAbs := by
  intro B H ow vs ds d Q S R e K
  unfold gAbs at e
  split at e
  · obtain ⟨v, u, rfl, h1⟩ := R.one
    cases h1; cases e
    exact ⟨_, rfl, K.old _ (Fz.sv rfl)⟩
  · cases e
theorem ok_neg {G : Cfg} : OpOk G (fun xs H Q => ∃ x, xs = [x] ∧ rU (fun i => .int (-i)) x H Q) gNeg := by
  intro B H ow vs ds d Q S R e K
  unfold gNeg at e
  split at e
  · obtain ⟨v, u, rfl, h1⟩ := R.one
    cases h1; cases e
    exact ⟨_, rfl, _, rfl, K.old _ (Fz.sv rfl)⟩
  · cases e
def gInt : List D → Option D
  | [.int i] => some (.int i)
  | [.bl b] => some (.int (if b then 1 else 0))
  | [.str s] => if s.length ≤ 640 then (PySem.intText? s).map .int else none
  | _ => none
def rIntA : List V → Hp → VK → Prop := fun xs H Q => ((∃ i, xs = [.int i] ∧ Q (.int i) H) ∨ ∃ k, xs = [.bl k] ∧ Q (.int (if k then 1 else 0)) H) ∨ (∃ a n, xs = [.str a] ∧ PySem.intText? a = some n ∧ a.length ≤ 640 ∧ Q (.int n) H)
theorem call_intA {X : Cx} : CallR X (.type "int") rIntA := call_int1.or call_int_str
theorem ok_int {G : Cfg} : OpOk G rIntA gInt := by
  intro B H ow vs ds d Q S R e K
  unfold gInt at e
  split at e
  · obtain ⟨v, u, rfl, h1⟩ := R.one
    cases h1; cases e
    exact .inl (.inl ⟨_, rfl, K.old _ (Fz.sv rfl)⟩)
  · obtain ⟨v, u, rfl, h1⟩ := R.one
    cases h1; cases e
    exact .inl (.inr ⟨_, rfl, K.old _ (Fz.sv rfl)⟩)
  · obtain ⟨v, u, rfl, h1⟩ := R.one
    cases h1
    split at e
    · rename_i s c
      cases e2 : PySem.intText? s with
      | none => rw [e2] at e; cases e
      | some n =>
        rw [e2] at e
        cases e
        exact .inr ⟨_, n, rfl, e2, c, K.old _ (Fz.sv rfl)⟩
    · cases e
  · cases e
def gStr : List D → Option D
  | [.int i] => if i.natAbs.log2 < 1920 then some (.str (toString i)) else none
  | [.str s] => some (.str s)
  | _ => none
def rStrA : List V → Hp → VK → Prop := fun xs H Q => (∃ i, xs = [.int i] ∧ i.natAbs.log2 < 1920 ∧ Q (.str (toString i)) H) ∨ (∃ a, xs = [.str a] ∧ Q (.str a) H)
theorem call_strA {X : Cx} : CallR X (.type "str") rStrA := call_str_int.or SkE.call_str_str
theorem ok_str {G : Cfg} : OpOk G rStrA gStr := by
  intro B H ow vs ds d Q S R e K
  unfold gStr at e
  split at e
  · obtain ⟨v, u, rfl, h1⟩ := R.one
    cases h1
    split at e
    · rename_i c
      cases e
      exact .inl ⟨_, rfl, c, K.old _ (Fz.sv rfl)⟩
    · cases e
  · obtain ⟨v, u, rfl, h1⟩ := R.one
    cases h1; cases e
    exact .inr ⟨_, rfl, K.old _ (Fz.sv rfl)⟩
  · cases e
def gList : List D → Option D
  | [.node _ k ds] => if k.seq = true ∧ D.fzs ds = true then some (.node true .lst ds) else none
  | _ => none
theorem ok_list {G : Cfg} : OpOk G (fun xs H Q => ∃ p ys, xs = [.ref p] ∧ (SqL G.K H p ys ∨ SqT G.K H p ys) ∧ ∀ l, H l = none → Q (.ref l) (upd H l (.lst ys))) gList := by
  intro B H ow vs ds d Q S R e K
  unfold gList at e
  split at e
  · obtain ⟨v, u, rfl, h1⟩ := R.one
    split at e
    · rename_i c
      cases e
      obtain ⟨a, xs, rfl, ha, ka⟩ := Rp.node S h1
      exact ⟨a, xs, rfl, seqB ha (Kd.seq_or c.1), fun l hl => K.new .lst _ xs l rfl trivial (kidsFz ka c.2) hl⟩
    · cases e
  · cases e
def gTuple : List D → Option D
  | [.node o k ds] => if k = .lst ∨ k = .ro then (if D.fzs ds = true then some (.node true .tup ds) else none) else if k = .tup ∧ o = false ∧ D.fzs ds = true then some (.node o k ds) else none
  | _ => none
theorem ok_tuple {G : Cfg} : OpOk G (fun xs H Q => ∃ p ys, xs = [.ref p] ∧ ((SqL G.K H p ys ∧ ∀ l, H l = none → Q (.ref l) (upd H l (.tup ys))) ∨ (SqT G.K H p ys ∧ Q (.ref p) H))) gTuple := by
  intro B H ow vs ds d Q S R e K
  unfold gTuple at e
  split at e
  · rename_i o k ds
    obtain ⟨v, u, rfl, h1⟩ := R.one
    have h1' := h1
    obtain ⟨a, xs, rfl, ha, ka⟩ := Rp.node S h1
    split at e
    · rename_i c
      split at e
      · rename_i c2
        cases e
        refine ⟨a, xs, rfl, .inl ⟨?_, fun l hl => K.new .tup _ xs l rfl trivial (kidsFz ka c2) hl⟩⟩
        rcases c with rfl | rfl
        · exact SqL.of ha
        · exact ha
      · cases e
    · split at e
      · rename_i c2
        cases e
        obtain ⟨rfl, rfl, c3⟩ := c2
        exact ⟨a, xs, rfl, .inr ⟨ha, K.old _ (h1'.fz (by rw [D.fz, c3]; rfl))⟩⟩
      · cases e
  · cases e
def gSum : List D → Option D
  | [.node _ k ds] => if k = .lst ∨ k = .ro then (D.ints? ds).map fun ns => .int ns.sum else none
  | _ => none
theorem lstRo {G : Cfg} {H : Hp} {k : Kd} {a : Addr} {xs : List V} (h : HoB G H k a xs) (c : k = .lst ∨ k = .ro) : SqL G.K H a xs := by
  rcases c with rfl | rfl
  · exact SqL.of h
  · exact h
theorem ok_sum {G : Cfg} : OpOk G (rSum G.K) gSum := by
  intro B H ow vs ds d Q S R e K
  unfold gSum at e
  split at e
  · rename_i o k ds
    obtain ⟨v, u, rfl, h1⟩ := R.one
    split at e
    · rename_i c
      cases e2 : D.ints? ds with
      | none => rw [e2] at e; cases e
      | some ns =>
        rw [e2] at e
        cases e
        obtain ⟨a, xs, rfl, ha, ka⟩ := Rp.node S h1
        have := D.ints?_some e2
        subst this
        rw [kidsI ka] at ha
        exact ⟨a, ns, rfl, lstRo ha c, K.old _ (Fz.sv rfl)⟩
    · cases e
  · cases e
/-! ### the greatest, the least -/
def maxI : List Int → Option Int
  | [] => none
  | [x] => some x
  | x :: y :: r => (maxI (y :: r)).map fun m => if x ≤ m then m else x
def minI : List Int → Option Int
  | [] => none
  | [x] => some x
  | x :: y :: r => (minI (y :: r)).map fun m => if m ≤ x then m else x
theorem maxI_spec : ∀ {ns : List Int} {m : Int}, maxI ns = some m → m ∈ ns ∧ ∀ y, y ∈ ns → y ≤ m
  | [], _, h => by cases h
  | [x], m, h => by cases h; simp
  | x :: y :: r, m, h => by
    rw [maxI] at h
    cases e : maxI (y :: r) with
    | none => rw [e] at h; cases h
    | some k =>
      rw [e] at h
      obtain ⟨h1, h2⟩ := maxI_spec e
      simp only [Option.map_some, Option.some.injEq] at h
      subst h
      split
      · rename_i c
        refine ⟨List.mem_cons_of_mem _ h1, fun z hz => ?_⟩
        rcases List.mem_cons.mp hz with rfl | hz
        · exact c
        · exact h2 z hz
      · rename_i c
        refine ⟨List.mem_cons_self, fun z hz => ?_⟩
        rcases List.mem_cons.mp hz with rfl | hz
        · omega
        · have := h2 z hz; omega
theorem minI_spec : ∀ {ns : List Int} {m : Int}, minI ns = some m → m ∈ ns ∧ ∀ y, y ∈ ns → m ≤ y
  | [], _, h => by cases h
  | [x], m, h => by cases h; simp
  | x :: y :: r, m, h => by
    rw [minI] at h
    cases e : minI (y :: r) with
    | none => rw [e] at h; cases h
    | some k =>
      rw [e] at h
      obtain ⟨h1, h2⟩ := minI_spec e
      simp only [Option.map_some, Option.some.injEq] at h
      subst h
      split
      · rename_i c
        refine ⟨List.mem_cons_of_mem _ h1, fun z hz => ?_⟩
        rcases List.mem_cons.mp hz with rfl | hz
        · exact c
        · exact h2 z hz
      · rename_i c
        refine ⟨List.mem_cons_self, fun z hz => ?_⟩
        rcases List.mem_cons.mp hz with rfl | hz
        · omega
        · have := h2 z hz; omega
theorem maxI_some : ∀ {ns : List Int}, ns ≠ [] → ∃ m, maxI ns = some m
  | [], h => absurd rfl h
  | [x], _ => ⟨x, rfl⟩
  | x :: y :: r, _ => by
    obtain ⟨m, e⟩ := maxI_some (ns := y :: r) (by simp)
    rw [maxI, e]
    exact ⟨_, rfl⟩
theorem minI_some : ∀ {ns : List Int}, ns ≠ [] → ∃ m, minI ns = some m
  | [], h => absurd rfl h
  | [x], _ => ⟨x, rfl⟩
  | x :: y :: r, _ => by
    obtain ⟨m, e⟩ := minI_some (ns := y :: r) (by simp)
    rw [minI, e]
    exact ⟨_, rfl⟩
def gMax : List D → Option D
  | [.node _ k ds] => if k = .lst ∨ k = .ro then (D.ints? ds).bind fun ns => (maxI ns).map .int else none
  | [.int i, .int j] => some (.int (if j > i then j else i))
  | _ => none
def gMin : List D → Option D
  | [.node _ k ds] => if k = .lst ∨ k = .ro then (D.ints? ds).bind fun ns => (minI ns).map .int else none
  | [.int i, .int j] => some (.int (if j < i then j else i))
  | _ => none
def rMaxA (K : PySem.W.Frag) : List V → Hp → VK → Prop := fun xs H Q => rMax K xs H Q ∨ (∃ i j, xs = [.int i, .int j] ∧ Q (.int (if j > i then j else i)) H)
def rMinA (K : PySem.W.Frag) : List V → Hp → VK → Prop := fun xs H Q => rMin K xs H Q ∨ (∃ i j, xs = [.int i, .int j] ∧ Q (.int (if j < i then j else i)) H)
theorem call_maxA {X : Cx} (hc : X.calm = true) : CallR X (.builtin "max") (rMaxA X.K) := (cr_max hc).or (call_max2 hc)
theorem call_minA {X : Cx} (hc : X.calm = true) : CallR X (.builtin "min") (rMinA X.K) := (cr_min hc).or (call_min2 hc)
theorem len_pos_of_mem {α : Type} {x : α} {l : List α} (h : x ∈ l) : 0 < l.length := by
  cases l with
  | nil => cases h
  | cons => exact Nat.succ_pos _
theorem ok_max {G : Cfg} : OpOk G (rMaxA G.K) gMax := by
  intro B H ow vs ds d Q S R e K
  unfold gMax at e
  split at e
  · rename_i o k ds
    obtain ⟨v, u, rfl, h1⟩ := R.one
    split at e
    · rename_i c
      cases e2 : D.ints? ds with
      | none => rw [e2] at e; cases e
      | some ns =>
        rw [e2] at e
        cases e3 : maxI ns with
        | none => simp [e3] at e
        | some m =>
          simp [e3] at e
          subst e
          obtain ⟨a, xs, rfl, ha, ka⟩ := Rp.node S h1
          have := D.ints?_some e2
          subst this
          rw [kidsI ka] at ha
          obtain ⟨m1, m2⟩ := maxI_spec e3
          refine .inl ⟨a, ns, rfl, lstRo ha c, len_pos_of_mem m1, fun m' h1 h2 => ?_⟩
          have := m2 m' h1
          have := h2 m m1
          obtain rfl : m' = m := by omega
          exact K.old _ (Fz.sv rfl)
    · cases e
  · obtain ⟨v, w, u, z, rfl, h1, h2⟩ := R.two
    cases h1; cases h2; cases e
    exact .inr ⟨_, _, rfl, K.old _ (Fz.sv rfl)⟩
  · cases e
theorem ok_min {G : Cfg} : OpOk G (rMinA G.K) gMin := by
  intro B H ow vs ds d Q S R e K
  unfold gMin at e
  split at e
  · rename_i o k ds
    obtain ⟨v, u, rfl, h1⟩ := R.one
    split at e
    · rename_i c
      cases e2 : D.ints? ds with
      | none => rw [e2] at e; cases e
      | some ns =>
        rw [e2] at e
        cases e3 : minI ns with
        | none => simp [e3] at e
        | some m =>
          simp [e3] at e
          subst e
          obtain ⟨a, xs, rfl, ha, ka⟩ := Rp.node S h1
          have := D.ints?_some e2
          subst this
          rw [kidsI ka] at ha
          obtain ⟨m1, m2⟩ := minI_spec e3
          refine .inl ⟨a, ns, rfl, lstRo ha c, len_pos_of_mem m1, fun m' h1 h2 => ?_⟩
          have := m2 m' h1
          have := h2 m m1
          obtain rfl : m' = m := by omega
          exact K.old _ (Fz.sv rfl)
    · cases e
  · obtain ⟨v, w, u, z, rfl, h1, h2⟩ := R.two
    cases h1; cases h2; cases e
    exact .inr ⟨_, _, rfl, K.old _ (Fz.sv rfl)⟩
  · cases e
/-! ### sorted -/
section sort
variable {α : Type} (le : α → α → Bool)
def ins (x : α) : List α → List α
  | [] => [x]
  | y :: r => if le x y = true then x :: y :: r else y :: ins x r
def isort : List α → List α
  | [] => []
  | x :: r => ins le x (isort r)
theorem ins_perm (x : α) : ∀ l : List α, (ins le x l).Perm (x :: l)
  | [] => .refl _
  | y :: r => by
    rw [ins]
    split
    · exact .refl _
    · exact ((ins_perm x r).cons y).trans (.swap x y r)
theorem isort_perm : ∀ l : List α, (isort le l).Perm l
  | [] => .refl _
  | x :: r => (ins_perm le x _).trans ((isort_perm r).cons x)
variable (tr : ∀ a b c, le a b = true → le b c = true → le a c = true) (tot : ∀ a b, le a b = true ∨ le b a = true)
include tr tot in
theorem ins_pw (x : α) : ∀ l : List α, l.Pairwise (fun a b => le a b = true) → (ins le x l).Pairwise (fun a b => le a b = true)
  | [], _ => by simp [ins]
  | y :: r, h => by
    rw [ins]
    rw [List.pairwise_cons] at h
    split
    · rename_i c
      rw [List.pairwise_cons]
      refine ⟨fun z hz => ?_, List.pairwise_cons.mpr h⟩
      rcases List.mem_cons.mp hz with rfl | hz
      · exact c
      · exact tr _ _ _ c (h.1 z hz)
    · rename_i c
      rw [List.pairwise_cons]
      refine ⟨fun z hz => ?_, ins_pw x r h.2⟩
      rcases List.mem_cons.mp ((ins_perm le x r).mem_iff.mp hz) with rfl | hz
      · exact (tot y z).resolve_right c
      · exact h.1 z hz
include tr tot in
theorem isort_pw : ∀ l : List α, (isort le l).Pairwise (fun a b => le a b = true)
  | [] => .nil
  | x :: r => ins_pw le tr tot x _ (isort_pw r)
/-- two sorted ones of the same items are one -/
theorem sorted_one (anti : ∀ a b, le a b = true → le b a = true → a = b) : ∀ {l m : List α}, l.Perm m → l.Pairwise (fun a b => le a b = true) → m.Pairwise (fun a b => le a b = true) → l = m
  | [], m, p, _, _ => by rw [List.nil_perm] at p; exact p.symm
  | x :: l, [], p, _, _ => by simp at p
  | x :: l, y :: m, p, h1, h2 => by
    rw [List.pairwise_cons] at h1 h2
    have e : x = y := by
      have a : x ∈ y :: m := p.mem_iff.mp List.mem_cons_self
      have b : y ∈ x :: l := p.mem_iff.mpr List.mem_cons_self
      rcases List.mem_cons.mp a with q | a
      · exact q
      · rcases List.mem_cons.mp b with q | b
        · exact q.symm
        · exact anti _ _ (h1.1 y b) (h2.1 x a)
    subst e
    rw [sorted_one anti ((List.perm_cons x).mp p) h1.2 h2.2]
end sort
def leI : Int → Int → Bool := fun a b => decide (a ≤ b)
abbrev sortI : List Int → List Int := isort leI
theorem sortI_perm (l : List Int) : (sortI l).Perm l := isort_perm _ l
theorem leI_pw {l : List Int} : l.Pairwise (fun a b => leI a b = true) ↔ l.Pairwise (· ≤ ·) := by
  constructor <;> intro h <;> exact h.imp fun q => by simpa [leI] using q
theorem sortI_pw (l : List Int) : (sortI l).Pairwise (· ≤ ·) := leI_pw.mp (isort_pw leI (fun a b c h1 h2 => by simp [leI] at *; omega) (fun a b => by simp [leI]; omega) l)
theorem sortI_one {l m : List Int} (p : m.Perm l) (h : m.Pairwise (· ≤ ·)) : m = sortI l :=
  sorted_one leI (fun a b h1 h2 => by simp [leI] at *; omega) (p.trans (sortI_perm l).symm) (leI_pw.mpr h) (leI_pw.mpr (sortI_pw l))
def gSorted : List D → Option D
  | [.node _ k ds] => if k = .lst ∨ k = .ro then (match D.ints? ds with
    | some ns => some (.node true .lst ((sortI ns).map .int))
    | none => none) else none
  | _ => none
theorem ok_sorted {G : Cfg} : OpOk G (rSortedI G.K) gSorted := by
  intro B H ow vs ds d Q S R e K
  unfold gSorted at e
  split at e
  · rename_i o k ds
    obtain ⟨v, u, rfl, h1⟩ := R.one
    split at e
    · rename_i c
      split at e
      · rename_i ns e2
        cases e
        obtain ⟨a, xs, rfl, ha, ka⟩ := Rp.node S h1
        have := D.ints?_some e2
        subst this
        rw [kidsI ka] at ha
        refine ⟨a, ns, rfl, lstRo ha c, fun ns' p hp hs hn => ?_⟩
        rw [sortI_one hp hs]
        exact K.new .lst _ _ p rfl trivial (FzL.ints _) hn
      · cases e
    · cases e
  · cases e
/-! ## subscripts -/
def gIx : List D → Option D
  | [.node _ k ds, .int i] => if k.seq = true then (atI ds i).bind fun d => if d.fz = true then some d else none else none
  | [.str s, .int i] => if s.length ≤ 16777216 then (atI s.cps.toList i).map fun c => .str ⟨#[c]⟩ else none
  | _ => none
theorem atI_kids {N p n} {vs : List V} {ds : List D} {i : Int} {d : D} (h : RgL N p n vs ds) (e : atI ds i = some d) : ∃ (v : V) (j : Nat), atI vs i = some v ∧ vs[j]? = some v ∧ ds[j]? = some d := by
  unfold atI at e ⊢
  rw [h.length]
  cases e1 : ixN ds.length i with
  | none => rw [e1] at e; cases e
  | some j =>
    rw [e1] at e
    obtain ⟨v, h1, _⟩ := h.get e
    exact ⟨v, j, h1, h1, e⟩
theorem ok_ix {G : Cfg} : OpOk G (r2L (rIx G.K)) gIx := by
  intro B H ow vs ds d Q S R e K
  unfold gIx at e
  split at e
  · rename_i o k ds i
    obtain ⟨v, w, u, z, rfl, h1, h2⟩ := R.two
    cases h2
    split at e
    · rename_i c
      cases e1 : atI ds i with
      | none => rw [e1] at e; cases e
      | some x =>
        rw [e1] at e
        simp only [Option.bind_some] at e
        split at e
        · rename_i c2
          cases e
          obtain ⟨a, xs, rfl, ha, ka⟩ := Rp.node S h1
          obtain ⟨y, j, y1, y2, y3⟩ := atI_kids ka e1
          obtain ⟨y', q1, q2⟩ := ka.get y3
          rw [y2] at q1
          cases q1
          have q := K.old y (show Fz G B y d from ⟨c2, q2.ofFz d c2 fun _ _ _ _ _ z => by
            simp only [RpN, Bool.false_eq_true, if_false] at z
            exact z⟩)
          refine ⟨_, _, rfl, ?_⟩
          rcases seqB ha (Kd.seq_or c) with hs | hs
          · exact .inl ⟨a, xs, i, y, rfl, rfl, hs, y1, q⟩
          · exact .inr (.inl ⟨a, xs, i, y, rfl, rfl, hs, y1, q⟩)
        · cases e
    · cases e
  · rename_i s i
    obtain ⟨v, w, u, z, rfl, h1, h2⟩ := R.two
    cases h1; cases h2
    split at e
    · rename_i c
      cases e1 : atI s.cps.toList i with
      | none => rw [e1] at e; cases e
      | some x =>
        rw [e1] at e
        cases e
        exact ⟨_, _, rfl, .inr (.inr ⟨s, i, x, rfl, rfl, line_le c, e1, K.old _ (Fz.sv rfl)⟩)⟩
    · cases e
  · cases e
def cutD (ds : List D) (lo hi : Option Int) : List D := (ds.drop (HT.sIx ds.length 0 lo)).take (HT.sIx ds.length ds.length hi - HT.sIx ds.length 0 lo)
theorem FzL.drop {G : Cfg} {B : Hp} : ∀ (n : Nat) {vs : List V} {ds : List D}, FzL G B vs ds → FzL G B (vs.drop n) (ds.drop n)
  | 0, _, _, h => h
  | n + 1, _, [], h => by cases h.2; exact .nil
  | n + 1, _, d :: ds, h => by
    obtain ⟨v, r, rfl, _, h2⟩ := h.uncons
    exact FzL.drop n h2
theorem FzL.take {G : Cfg} {B : Hp} : ∀ (n : Nat) {vs : List V} {ds : List D}, FzL G B vs ds → FzL G B (vs.take n) (ds.take n)
  | 0, _, _, h => .nil
  | n + 1, _, [], h => by cases h.2; exact .nil
  | n + 1, _, d :: ds, h => by
    obtain ⟨v, r, rfl, h1, h2⟩ := h.uncons
    exact .cons h1 (FzL.take n h2)
theorem FzL.cut {G : Cfg} {B : Hp} {vs : List V} {ds : List D} (h : FzL G B vs ds) (lo hi : Option Int) : FzL G B (cutV vs lo hi) (cutD ds lo hi) := by
  unfold cutV cutD
  rw [h.length]
  exact (h.drop _).take _
/-- a slice by its parts -/
def gSl (lo hi : Option Int) : D → Option D
  | .node _ k ds => if D.fzs ds = true then (match k with
    | .lst => some (.node true .lst (cutD ds lo hi))
    | .ro => some (.node true .lst (cutD ds lo hi))
    | .tup => if HT.sIx ds.length 0 lo = 0 ∧ HT.sIx ds.length ds.length hi = ds.length then none else some (.node true .tup (cutD ds lo hi))
    | _ => none) else none
  | .str s => if s.length ≤ 16777216 then some (.str (cutS s lo hi)) else none
  | _ => none
def rSlA (K : PySem.W.Frag) : V → Option Int → Option Int → Hp → VK → Prop := fun x lo hi H Q => rSlL K x lo hi H Q ∨ (rSlT K x lo hi H Q ∨ rSlS x lo hi H Q)
theorem sl_A {X : Cx} : SlR X (rSlA X.K) := sl_list.or (sl_tup.or sl_str)
theorem gSl_ok {G : Cfg} {B H : Hp} {ow : Ow} {u : Nat} {v : V} {d0 d : D} {Q : VK} {lo hi : Option Int} (S : Two G B H ow) (h1 : Rp G B H ow u v d0) (e : gSl lo hi d0 = some d) (K : Hand G B H d Q) : rSlA G.K v lo hi H Q := by
  unfold gSl at e
  split at e
  · rename_i o k ds
    split at e
    · rename_i c
      obtain ⟨a, xs, rfl, ha, ka⟩ := Rp.node S h1
      have hk := kidsFz ka c
      split at e
      · cases e
        exact .inl ⟨a, xs, rfl, SqL.of ha, fun p hp => K.new .lst _ _ p rfl trivial (hk.cut lo hi) hp⟩
      · cases e
        exact .inl ⟨a, xs, rfl, ha, fun p hp => K.new .lst _ _ p rfl trivial (hk.cut lo hi) hp⟩
      · split at e
        · cases e
        · rename_i c2
          cases e
          exact .inr (.inl ⟨a, xs, rfl, ha, by rw [hk.length]; exact c2, fun p hp => K.new .tup _ _ p rfl trivial (hk.cut lo hi) hp⟩)
      · cases e
    · cases e
  · rename_i s
    cases h1
    split at e
    · rename_i c
      cases e
      exact .inr (.inr ⟨_, rfl, line_le c, K.old _ (Fz.sv rfl)⟩)
    · cases e
  · cases e
def gSl0 : List D → Option D
  | [d] => gSl none none d
  | _ => none
def gSlL : List D → Option D
  | [d, .int i] => gSl (some i) none d
  | _ => none
def gSlH : List D → Option D
  | [d, .int i] => gSl none (some i) d
  | _ => none
def gSlB : List D → Option D
  | [d, .int i, .int j] => gSl (some i) (some j) d
  | _ => none
theorem ok_sl0 {G : Cfg} : OpOk G (fun vs H Q => ∃ x, vs = [x] ∧ rSlA G.K x none none H Q) gSl0 := by
  intro B H ow vs ds d Q S R e K
  unfold gSl0 at e
  split at e
  · obtain ⟨v, u, rfl, h1⟩ := R.one
    exact ⟨_, rfl, gSl_ok S h1 e K⟩
  · cases e
theorem ok_slL {G : Cfg} : OpOk G (fun vs H Q => ∃ x i, vs = [x, .int i] ∧ rSlA G.K x (some i) none H Q) gSlL := by
  intro B H ow vs ds d Q S R e K
  unfold gSlL at e
  split at e
  · obtain ⟨v, w, u, z, rfl, h1, h2⟩ := R.two
    cases h2
    exact ⟨_, _, rfl, gSl_ok S h1 e K⟩
  · cases e
theorem ok_slH {G : Cfg} : OpOk G (fun vs H Q => ∃ x i, vs = [x, .int i] ∧ rSlA G.K x none (some i) H Q) gSlH := by
  intro B H ow vs ds d Q S R e K
  unfold gSlH at e
  split at e
  · obtain ⟨v, w, u, z, rfl, h1, h2⟩ := R.two
    cases h2
    exact ⟨_, _, rfl, gSl_ok S h1 e K⟩
  · cases e
theorem ok_slB {G : Cfg} : OpOk G (fun vs H Q => ∃ x i j, vs = [x, .int i, .int j] ∧ rSlA G.K x (some i) (some j) H Q) gSlB := by
  intro B H ow vs ds d Q S R e K
  unfold gSlB at e
  split at e
  · obtain ⟨v, w, x, u, z, y, rfl, h1, h2, h3⟩ := R.three
    cases h2; cases h3
    exact ⟨_, _, _, rfl, gSl_ok S h1 e K⟩
  · cases e
end DL

namespace DL
open PySem PySem.Spec L2

section
variable {G : Cfg} {W : WX} {n t : Nat} {B H B' H' B1 H1 : Hp} {ow ow' ow1 : Ow} {σ : L2.St} {ρ ρ' ρ1 : Env} {v : V} {X : Cx}
/-! ## one value, then more -/
/-- a value's end: what is temporary is frozen -/
theorem PostE.then_ {m : ME} {Q : VK} {f : Opn → Env → Prop} (S : Sim G B H ow σ ρ)
    (h : match m ρ with
      | .bad => False
      | .ex c ρ1 => PostX G W ρ.length B H ow σ c ρ1
      | .ok o ρ1 => ∀ v B1 H1 ow1, Stp ρ.length B H ow B1 H1 ow1 → Sim G B1 H1 ow1 σ ρ1 → Bd ow1 (t + 1) → OpnR G B1 H1 ow1 σ t v o → Q v H1) : PostE G W ρ.length t B H ow σ (m ρ) Q := by
  cases e : m ρ with
  | bad => rw [e] at h; exact h
  | ex c ρ1 => rw [e] at h; exact h
  | ok o ρ1 => rw [e] at h; exact h
theorem pe_ix2 {a b : Expr} {pos : Pos} {r : R2} (hr : IxR X r) (hs : PlainIx b) : ∀ ta tb, PE X a ta → PE X b tb → PE X (.Subscript a b pos) (tOp r ta tb) := fun ta tb ha hb => pe_ix hr ha hb hs
theorem d_bin {a b : Expr} {pos : Pos} {op : Operator} {m1 m2 : ME} {g : List D → Option D} {r : R2} (ho : OpR X (binaryOp op) r) (hr : OpOk G (r2L r) g) (ha : PE X a (tD G W m1)) (hb : PE X b (tD G W m2)) :
    PE X (.BinOp a op b pos) (tD G W (mOp (mCons m1 (mCons m2 mNil)) g)) := d_op hr ha hb fun _ _ h1 h2 => pe_op ho h1 h2
theorem d_cmp {a b : Expr} {pos : Pos} {op : CmpOp} {m1 m2 : ME} {g : List D → Option D} {r : R2} (ho : OpR X (compareOp op) r) (hr : OpOk G (r2L r) g) (hm : behindInMarks op b = false) (ha : PE X a (tD G W m1)) (hb : PE X b (tD G W m2)) :
    PE X (.Compare a [op] [b] pos) (tD G W (mOp (mCons m1 (mCons m2 mNil)) g)) := d_op hr ha hb fun _ _ h1 h2 => pe_cmpR ho h1 h2 hm
theorem d_ix {a b : Expr} {pos : Pos} {m1 m2 : ME} (hK : G.K = X.K) (hs : PlainIx b) (ha : PE X a (tD G W m1)) (hb : PE X b (tD G W m2)) :
    PE X (.Subscript a b pos) (tD G W (mOp (mCons m1 (mCons m2 mNil)) gIx)) := d_op ok_ix ha hb fun _ _ h1 h2 => pe_ix (by rw [hK]; exact ix_seq) h1 h2 hs
/-- a test by a value that is a bool -/
def mB (m : ME) : MT := fun ρ => (m ρ).bind fun o ρ1 => match o with
  | .val (.bl b) => .ok b ρ1
  | _ => .bad
theorem post_b {m : ME} {Q : Bool → Hp → Prop} (S : Sim G B H ow σ ρ) (hb : Bd ow t) (hn : ρ.length ≤ t) (P : PostT G W ρ.length t B H ow σ (mB m ρ) Q) : PostE G W ρ.length t B H ow σ (m ρ) fun x H' => ∃ k, x = .bl k ∧ Q k H' := by
  unfold mB at P
  cases e : m ρ with
  | bad => rw [e] at P; exact P
  | ex c ρ1 => rw [e] at P; exact P
  | ok o ρ1 =>
    rw [e, Rs.bind_ok] at P
    intro v B1 H1 ow1 s1 S1 b1 r1
    split at P
    · rename_i b
      cases (show v = .bl b from r1)
      have hl := S.len2 S1
      refine ⟨b, rfl, P _ _ _ (Stp.frz S1 s1 hb fun i h => .inr (of_decide_eq_true h)) (S1.frzT (t := t) (by omega)) cutO_bd⟩
    · exact P.elim
theorem dt_cmp {a b : Expr} {pos : Pos} {op : CmpOp} {m1 m2 : ME} {g : List D → Option D} {r : R2} (ho : OpR X (compareOp op) r) (hr : OpOk G (r2L r) g) (hm : behindInMarks op b = false) (ha : PE X a (tD G W m1)) (hb : PE X b (tD G W m2)) :
    PT X (.Compare a [op] [b] pos) (tDT G W (mB (mOp (mCons m1 (mCons m2 mNil)) g))) := (pt_cmpR ho ha hb hm).up fun σ H Q q => by
  obtain ⟨B, ow, ρ, t, S, hb, hn, P⟩ := q
  have P0 := post_b S hb hn P
  have P1 := cons2 S hn (post_op hr S hb hn P0)
  refine ⟨B, ow, ρ, t, S, hb, hn, ?_⟩
  cases e : m1 ρ with
  | bad => rw [e] at P1; exact P1
  | ex c ρ1 => rw [e] at P1; exact P1
  | ok o ρ1 =>
    rw [e] at P1
    intro v B1 H1 ow1 s1 S1 b1 r1
    obtain ⟨B, ow, ρ, t, S, hb, hn, P⟩ := P1 v B1 H1 ow1 s1 S1 b1 r1
    refine ⟨B, ow, ρ, t, S, hb, hn, ?_⟩
    cases e2 : m2 ρ with
    | bad => rw [e2] at P; exact P
    | ex c ρ1 => rw [e2] at P; exact P
    | ok o2 ρ2 =>
      rw [e2] at P
      intro w B2 H2 ow2 s2 S2 b2 r2
      obtain ⟨x, y, exy, q⟩ := P w B2 H2 ow2 s2 S2 b2 r2
      cases exy
      exact q
/-! ## truth -/
def D.truth : D → Option Bool
  | .non => some false
  | .bl b => some b
  | .int i => some (i != 0)
  | .str s => if s.length ≤ 16777216 then some ((s.length : Int) != 0) else none
  | .node _ k ds => match k with
    | .lst => some !ds.isEmpty
    | .ro => some !ds.isEmpty
    | .tup => some !ds.isEmpty
    | .dK _ => some !ds.isEmpty
    | _ => none
  | .exn _ => none
theorem len_isEmpty {α β : Type} {xs : List α} {ys : List β} (h : xs.length = ys.length) : xs.isEmpty = ys.isEmpty := by
  cases xs <;> cases ys <;> simp at h ⊢
theorem truth_v {u : Nat} {d : D} {b : Bool} (S : Two G B H ow) (h : Rp G B H ow u v d) (e : d.truth = some b) : TruV G.K v H b := by
  cases d with
  | non => cases h; cases e; rfl
  | bl c => cases h; cases e; rfl
  | int i => cases h; cases e; rfl
  | str s =>
    cases h
    have e : (if s.length ≤ 16777216 then some ((s.length : Int) != 0) else none) = some b := e
    split at e
    · rename_i c
      cases e
      exact ⟨line_le c, rfl⟩
    · cases e
  | exn c => cases e
  | node o k ds =>
    obtain ⟨a, xs, rfl, ha, ka⟩ := Rp.node S h
    have hl := len_isEmpty ka.length
    cases k with
    | lst => cases e; exact .inl ⟨xs, SqL.of ha, by rw [hl]⟩
    | ro => cases e; exact .inl ⟨xs, ha, by rw [hl]⟩
    | tup => cases e; exact .inr (.inl ⟨xs, ha, by rw [hl]⟩)
    | dK ks =>
      cases e
      refine .inr (.inr ⟨_, ha.2, ?_⟩)
      rw [len_isEmpty (show (ks.zip xs).length = ds.length by rw [List.length_zip, ha.1, ka.length]; omega)]
    | _ => cases e
def mTru (m : ME) : MT := fun ρ => (m ρ).bind fun o ρ1 => match o.vw ρ1 with
  | none => .bad
  | some d => match d.truth with
    | none => .bad
    | some b => .ok b ρ1
/-- what an operand stands for, once all that is temporary is frozen -/
theorem vw_rp {o : Opn} {d : D} (S : Sim G B H ow σ ρ) (hn : ρ.length ≤ t) (h : OpnR G B H ow σ t v o) (e : o.vw ρ = some d) : ∃ u, Rp G (frzB B H ow (from_ t)) H (cutO ow (from_ t)) u v d := by
  have h1 : OpnsR G B H ow σ t [v] [o] := ⟨v, [], rfl, h, rfl⟩
  have h2 := vws_rps S (Nat.le_refl t) hn h1 (ds := [d]) (by unfold vws; rw [e]; rfl)
  obtain ⟨w, r, ew, hu, _⟩ := h2
  cases ew
  exact hu
theorem post_tru {m : ME} {Q : Bool → Hp → Prop} (S : Sim G B H ow σ ρ) (hb : Bd ow t) (hn : ρ.length ≤ t) (P : PostT G W ρ.length t B H ow σ (mTru m ρ) Q) : PostE G W ρ.length t B H ow σ (m ρ) fun x H' => ∃ k, TruV G.K x H' k ∧ Q k H' := by
  unfold mTru at P
  cases e : m ρ with
  | bad => rw [e] at P; exact P
  | ex c ρ1 => rw [e] at P; exact P
  | ok o ρ1 =>
    rw [e, Rs.bind_ok] at P
    intro v B1 H1 ow1 s1 S1 b1 r1
    have hl := S.len2 S1
    cases e1 : o.vw ρ1 with
    | none => simp only [e1] at P; exact P.elim
    | some d =>
      simp only [e1] at P
      cases e2 : d.truth with
      | none => simp only [e2] at P; exact P.elim
      | some b =>
        simp only [e2] at P
        have S2 := S1.frzT (t := t) (by omega)
        obtain ⟨u, hu⟩ := vw_rp S1 (by omega) r1 e1
        exact ⟨b, truth_v ⟨S2.same, S2.lab⟩ hu e2, P _ _ _ (Stp.frz S1 s1 hb fun i h => .inr (of_decide_eq_true h)) S2 cutO_bd⟩
theorem dt_tru {e : Expr} {m : ME} (hK : G.K = X.K) (h : PE X e (tD G W m)) (he : ∀ whole, isTrue e X.env whole = (do let v ← whole; standAt e.pos; holding [v] (truthy v)) := by intro _; rfl) : PT X e (tDT G W (mTru m)) :=
  (pt_truth h he).up fun σ H Q q => by
    obtain ⟨B, ow, ρ, t, S, hb, hn, P⟩ := q
    refine ⟨B, ow, ρ, t, S, hb, hn, ?_⟩
    rw [← hK]
    exact post_tru S hb hn P
/-! ## and, or, not as tests -/
def mNotT (m : MT) : MT := fun ρ => (m ρ).bind fun b ρ1 => .ok (!b) ρ1
def mAndT (m1 m2 : MT) : MT := fun ρ => (m1 ρ).bind fun b ρ1 => if b = true then m2 ρ1 else .ok false ρ1
def mOrT (m1 m2 : MT) : MT := fun ρ => (m1 ρ).bind fun b ρ1 => if b = true then .ok true ρ1 else m2 ρ1
/-- a test, then a test -/
theorem PostT.bind {m : MT} {f : Bool → MT} {Q : Bool → Hp → Prop} (S : Sim G B H ow σ ρ) (hn : ρ.length ≤ t) (P : PostT G W ρ.length t B H ow σ ((m ρ).bind f) Q) :
    PostT G W ρ.length t B H ow σ (m ρ) fun b H1 => tDT G W (f b) σ H1 Q := by
  cases e : m ρ with
  | bad => rw [e] at P; exact P
  | ex c ρ1 => rw [e] at P; exact P
  | ok b ρ1 =>
    rw [e, Rs.bind_ok] at P
    intro B1 H1 ow1 s1 S1 b1
    have hl := S.len2 S1
    refine ⟨B1, ow1, ρ1, t, S1, b1, by omega, ?_⟩
    cases e2 : f b ρ1 with
    | bad => rw [e2] at P; exact P
    | ex c ρ2 => rw [e2] at P; rw [hl]; exact PostX.step s1 P
    | ok b2 ρ2 =>
      rw [e2] at P
      intro B2 H2 ow2 s2 S2 b2'
      rw [hl] at s2
      exact P B2 H2 ow2 (s1.trans s2) S2 b2'
theorem tDT.done {b : Bool} {Q : Bool → Hp → Prop} (h : tDT G W (fun ρ => .ok b ρ) σ H Q) : Q b H := by
  obtain ⟨B, ow, ρ, t, S, hb, hn, P⟩ := h
  exact P B H ow Stp.refl S hb
theorem dt_not {a : Expr} {pos : Pos} {m : MT} (h : PT X a (tDT G W m)) : PT X (.UnaryOp .Not a pos) (tDT G W (mNotT m)) := (pt_not h).up fun σ H Q q => by
  obtain ⟨B, ow, ρ, t, S, hb, hn, P⟩ := q
  have P1 := PostT.bind S hn P
  refine ⟨B, ow, ρ, t, S, hb, hn, ?_⟩
  cases e : m ρ with
  | bad => rw [e] at P1; exact P1
  | ex c ρ1 => rw [e] at P1; exact P1
  | ok b ρ1 =>
    rw [e] at P1
    exact fun B1 H1 ow1 s1 S1 b1 => tDT.done (P1 B1 H1 ow1 s1 S1 b1)
theorem PostT.imp {r : Rs Bool} {Q Q' : Bool → Hp → Prop} (h : PostT G W n t B H ow σ r Q) (k : ∀ b H, Q b H → Q' b H) : PostT G W n t B H ow σ r Q' := by
  cases r with
  | bad => exact h
  | ex c ρ1 => exact h
  | ok b ρ1 => exact fun B1 H1 ow1 s1 S1 b1 => k _ _ (h B1 H1 ow1 s1 S1 b1)
theorem PostE.imp {r : Rs Opn} {Q Q' : VK} (h : PostE G W n t B H ow σ r Q) (k : ∀ b H, Q b H → Q' b H) : PostE G W n t B H ow σ r Q' := by
  cases r with
  | bad => exact h
  | ex c ρ1 => exact h
  | ok b ρ1 => exact fun v B1 H1 ow1 s1 S1 b1 r1 => k _ _ (h v B1 H1 ow1 s1 S1 b1 r1)
theorem dt_and1 {a : Expr} {pos : Pos} {m : MT} (h : PT X a (tDT G W m)) : PW X (.BoolOp .And [a] pos) (tDT G W m) := pw_and1 h
theorem dt_or1 {a : Expr} {pos : Pos} {m : MT} (h : PT X a (tDT G W m)) : PW X (.BoolOp .Or [a] pos) (tDT G W m) := pw_or1 h
theorem _root_.L2.PW.up {X : Cx} {e : Expr} {t t' : TT} (h : PW X e t) (k : ∀ σ H Q, t' σ H Q → t σ H Q) : PW X e t' := ⟨fun w pins s σ H Q I q => h.run w pins s σ H Q I (k σ H Q q)⟩
theorem dt_and {a b : Expr} {rest : List Expr} {pos : Pos} {m1 m2 : MT} (h1 : PT X a (tDT G W m1)) (h2 : PW X (.BoolOp .And (b :: rest) pos) (tDT G W m2)) : PW X (.BoolOp .And (a :: b :: rest) pos) (tDT G W (mAndT m1 m2)) := (pw_and h1 h2).up fun σ H Q q => by
  obtain ⟨B, ow, ρ, t, S, hb, hn, P⟩ := q
  refine ⟨B, ow, ρ, t, S, hb, hn, (PostT.bind (f := fun b ρ1 => if b = true then m2 ρ1 else .ok false ρ1) S hn P).imp fun b H1 q => ?_⟩
  cases b with
  | true => rw [if_pos rfl]; exact q
  | false => rw [if_neg Bool.false_ne_true]; exact tDT.done q
theorem dt_or {a b : Expr} {rest : List Expr} {pos : Pos} {m1 m2 : MT} (h1 : PT X a (tDT G W m1)) (h2 : PW X (.BoolOp .Or (b :: rest) pos) (tDT G W m2)) : PW X (.BoolOp .Or (a :: b :: rest) pos) (tDT G W (mOrT m1 m2)) := (pw_or h1 h2).up fun σ H Q q => by
  obtain ⟨B, ow, ρ, t, S, hb, hn, P⟩ := q
  refine ⟨B, ow, ρ, t, S, hb, hn, (PostT.bind (f := fun b ρ1 => if b = true then .ok true ρ1 else m2 ρ1) S hn P).imp fun b H1 q => ?_⟩
  cases b with
  | true => rw [if_pos rfl]; exact tDT.done q
  | false => rw [if_neg Bool.false_ne_true]; exact q
/-! ## if as an expression; a test as a value -/
theorem PostT.bindE {m : MT} {f : Bool → ME} {Q : VK} (S : Sim G B H ow σ ρ) (hn : ρ.length ≤ t) (P : PostE G W ρ.length t B H ow σ ((m ρ).bind f) Q) :
    PostT G W ρ.length t B H ow σ (m ρ) fun b H1 => tD G W (f b) σ H1 Q := by
  cases e : m ρ with
  | bad => rw [e] at P; exact P
  | ex c ρ1 => rw [e] at P; exact P
  | ok b ρ1 =>
    rw [e, Rs.bind_ok] at P
    intro B1 H1 ow1 s1 S1 b1
    have hl := S.len2 S1
    refine ⟨B1, ow1, ρ1, t, S1, b1, by omega, ?_⟩
    cases e2 : f b ρ1 with
    | bad => rw [e2] at P; exact P
    | ex c ρ2 => rw [e2] at P; rw [hl]; exact PostX.step s1 P
    | ok b2 ρ2 =>
      rw [e2] at P
      intro v B2 H2 ow2 s2 S2 b2' r2
      rw [hl] at s2
      exact P v B2 H2 ow2 (s1.trans s2) S2 b2' r2
def mIf (c : MT) (m1 m2 : ME) : ME := fun ρ => (c ρ).bind fun b ρ1 => if b = true then m1 ρ1 else m2 ρ1
theorem d_if {c a b : Expr} {pos : Pos} {mc : MT} {m1 m2 : ME} (hc : PT X c (tDT G W mc)) (ha : PE X a (tD G W m1)) (hb : PE X b (tD G W m2)) : PE X (.IfExp c a b pos) (tD G W (mIf mc m1 m2)) := (pe_ifExp hc ha hb).up fun σ H Q q => by
  obtain ⟨B, ow, ρ, t, S, hb, hn, P⟩ := q
  refine ⟨B, ow, ρ, t, S, hb, hn, (PostT.bindE (f := fun b ρ1 => if b = true then m1 ρ1 else m2 ρ1) S hn P).imp fun b H1 q => ?_⟩
  cases b with
  | true => rw [if_pos rfl]; exact q
  | false => rw [if_neg Bool.false_ne_true]; exact q
def mAndV (m1 m2 : ME) : ME := fun ρ => (m1 ρ).bind fun o ρ1 => match o.vw ρ1 with
  | none => .bad
  | some d => match d.truth with
    | none => .bad
    | some b => if b = true then m2 ρ1 else .ok o ρ1
def mOrV (m1 m2 : ME) : ME := fun ρ => (m1 ρ).bind fun o ρ1 => match o.vw ρ1 with
  | none => .bad
  | some d => match d.truth with
    | none => .bad
    | some b => if b = true then .ok o ρ1 else m2 ρ1
theorem truth_raw {o : Opn} {d : D} {b : Bool} (S : Sim G B H ow σ ρ) (hn : ρ.length ≤ t) (h : OpnR G B H ow σ t v o) (e : o.vw ρ = some d) (e2 : d.truth = some b) : TruV G.K v H b := by
  have S2 := S.frzT (t := t) hn
  obtain ⟨u, hu⟩ := vw_rp S hn h e
  exact truth_v ⟨S2.same, S2.lab⟩ hu e2
theorem go2 {m2 : ME} {Q : VK} (S : Sim G B H ow σ ρ) (hb : Bd ow t) (hn : ρ.length ≤ t) (s1 : Stp ρ.length B H ow B1 H1 ow1) (S1 : Sim G B1 H1 ow1 σ ρ1) (P : PostE G W ρ.length t B H ow σ (m2 ρ1) Q) : tD G W m2 σ H1 Q := by
  have hl := S.len2 S1
  refine ⟨_, _, ρ1, t, S1.frzT (t := t) (by omega), cutO_bd, by omega, ?_⟩
  have s2 : Stp ρ.length B H ow (frzB B1 H1 ow1 (from_ t)) H1 (cutO ow1 (from_ t)) := Stp.frz S1 s1 hb fun i h => .inr (of_decide_eq_true h)
  cases e : m2 ρ1 with
  | bad => rw [e] at P; exact P
  | ex c ρ2 => rw [e] at P; rw [hl]; exact PostX.step s2 P
  | ok o ρ2 =>
    rw [e] at P
    intro v B2 H2 ow2 s3 S3 b3 r3
    rw [hl] at s3
    exact P v B2 H2 ow2 (s2.trans s3) S3 b3 r3
theorem d_and {a b : Expr} {rest : List Expr} {pos : Pos} {m1 m2 : ME} (hK : G.K = X.K) (h1 : PE X a (tD G W m1)) (h2 : PE X (.BoolOp .And (b :: rest) pos) (tD G W m2)) : PE X (.BoolOp .And (a :: b :: rest) pos) (tD G W (mAndV m1 m2)) := (pe_andT h1 h2).up fun σ H Q q => by
  obtain ⟨B, ow, ρ, t, S, hb, hn, P⟩ := q
  refine ⟨B, ow, ρ, t, S, hb, hn, ?_⟩
  unfold mAndV at P
  cases e : m1 ρ with
  | bad => rw [e] at P; exact P
  | ex c ρ1 => rw [e] at P; exact P
  | ok o ρ1 =>
    rw [e, Rs.bind_ok] at P
    intro v B1 H1 ow1 s1 S1 b1 r1
    have hl := S.len2 S1
    cases e1 : o.vw ρ1 with
    | none => simp only [e1] at P; exact P.elim
    | some d =>
      simp only [e1] at P
      cases e2 : d.truth with
      | none => simp only [e2] at P; exact P.elim
      | some b =>
        simp only [e2] at P
        refine ⟨b, by rw [← hK]; exact truth_raw S1 (by omega) r1 e1 e2, ?_⟩
        cases b with
        | true => rw [if_pos rfl] at P ⊢; exact go2 S hb hn s1 S1 P
        | false => rw [if_neg Bool.false_ne_true] at P ⊢; exact P v B1 H1 ow1 s1 S1 b1 r1
theorem d_or {a b : Expr} {rest : List Expr} {pos : Pos} {m1 m2 : ME} (hK : G.K = X.K) (h1 : PE X a (tD G W m1)) (h2 : PE X (.BoolOp .Or (b :: rest) pos) (tD G W m2)) : PE X (.BoolOp .Or (a :: b :: rest) pos) (tD G W (mOrV m1 m2)) := (pe_orT h1 h2).up fun σ H Q q => by
  obtain ⟨B, ow, ρ, t, S, hb, hn, P⟩ := q
  refine ⟨B, ow, ρ, t, S, hb, hn, ?_⟩
  unfold mOrV at P
  cases e : m1 ρ with
  | bad => rw [e] at P; exact P
  | ex c ρ1 => rw [e] at P; exact P
  | ok o ρ1 =>
    rw [e, Rs.bind_ok] at P
    intro v B1 H1 ow1 s1 S1 b1 r1
    have hl := S.len2 S1
    cases e1 : o.vw ρ1 with
    | none => simp only [e1] at P; exact P.elim
    | some d =>
      simp only [e1] at P
      cases e2 : d.truth with
      | none => simp only [e2] at P; exact P.elim
      | some b =>
        simp only [e2] at P
        refine ⟨b, by rw [← hK]; exact truth_raw S1 (by omega) r1 e1 e2, ?_⟩
        cases b with
        | true => rw [if_pos rfl] at P ⊢; exact P v B1 H1 ow1 s1 S1 b1 r1
        | false => rw [if_neg Bool.false_ne_true] at P ⊢; exact go2 S hb hn s1 S1 P
theorem d_and1 {a : Expr} {op : BoolOp} {pos : Pos} {m : ME} (h : PE X a (tD G W m)) : PE X (.BoolOp op [a] pos) (tD G W m) := pe_one h
def mNotV (m : ME) : ME := fun ρ => (mTru m ρ).bind fun b ρ1 => .ok (.val (.bl (!b))) ρ1
theorem d_not {a : Expr} {pos : Pos} {m : ME} (hK : G.K = X.K) (h : PE X a (tD G W m)) : PE X (.UnaryOp .Not a pos) (tD G W (mNotV m)) := (pe_notT h).up fun σ H Q q => by
  obtain ⟨B, ow, ρ, t, S, hb, hn, P⟩ := q
  refine ⟨B, ow, ρ, t, S, hb, hn, ?_⟩
  have P2 : PostT G W ρ.length t B H ow σ (mTru m ρ) fun b H1 => Q (.bl (!b)) H1 := (PostT.bindE (f := fun b ρ1 => .ok (.val (.bl (!b))) ρ1) S hn P).imp fun b H1 q => by
    obtain ⟨B, ow, ρ, t, S, hb, hn, P⟩ := q
    exact P _ B _ ow Stp.refl S (hb.up (by omega)) rfl
  rw [← hK]
  exact post_tru S hb hn P2
end
end DL

namespace DL
open PySem PySem.Spec L2

/-! ## what a def promises over data -/
inductive RF where
  | ok (d : D) (ds : List D) | ex (c : Str) (ds : List D) | bad
abbrev MF := List D → RF
def ArgsR (G : Cfg) (B H : Hp) (ow : Ow) : Nat → List V → List D → Prop
  | _, vs, [] => vs = []
  | j, vs, d :: ds => ∃ v r, vs = v :: r ∧ Rp G B H ow j v d ∧ ArgsR G B H ow (j + 1) r ds
def SpD (G : Cfg) (np : Nat) (m : MF) : Sp := fun vs H Q E => ∃ B ow ds, Two G B H ow ∧ ds.length = np ∧ ArgsR G B H ow 0 vs ds ∧ Bd ow np ∧ match m ds with
  | .ok d ds' => ∀ v B' H' ow', Stp np B H ow B' H' ow' → Two G B' H' ow' → Bd ow' (np + 1) → Rp G B' H' ow' np v d → ArgsR G B' H' ow' 0 vs ds' → Q v H'
  | .ex c ds' => ∀ x dd B' H' ow', Stp np B H ow B' H' ow' → Two G B' H' ow' → Bd ow' (np + 1) → ArgsR G B' H' ow' 0 vs ds' → ExV G.mg c x dd H' → E x dd H'
  | .bad => False
theorem ArgsR.length {G : Cfg} {B H : Hp} {ow : Ow} : ∀ {ds : List D} {j : Nat} {vs : List V}, ArgsR G B H ow j vs ds → vs.length = ds.length
  | [], _, _, h => by cases h; rfl
  | d :: ds, _, _, h => by
    obtain ⟨v, r, rfl, _, h2⟩ := h
    rw [List.length_cons, List.length_cons, h2.length]
theorem ArgsR.get {G : Cfg} {B H : Hp} {ow : Ow} : ∀ {ds : List D} {j i : Nat} {vs : List V} {d : D}, ArgsR G B H ow j vs ds → ds[i]? = some d → ∃ v, vs[i]? = some v ∧ Rp G B H ow (j + i) v d
  | [], _, _, _, _, _, e => by simp at e
  | d :: ds, j, 0, _, _, h, e => by
    obtain ⟨v, r, rfl, h1, _⟩ := h
    cases e
    exact ⟨v, rfl, h1⟩
  | d :: ds, j, i + 1, _, _, h, e => by
    obtain ⟨v, r, rfl, _, h2⟩ := h
    obtain ⟨w, hw, q⟩ := h2.get (i := i) (by simpa using e)
    refine ⟨w, by simpa using hw, ?_⟩
    have : j + 1 + i = j + (i + 1) := by omega
    rw [this] at q
    exact q
theorem ArgsR.append {G : Cfg} {B H : Hp} {ow : Ow} : ∀ {ds es : List D} {j : Nat} {vs ws : List V}, ArgsR G B H ow j vs ds → ArgsR G B H ow (j + ds.length) ws es → ArgsR G B H ow j (vs ++ ws) (ds ++ es)
  | [], _, _, _, _, h, g => by cases h; exact g
  | d :: ds, es, j, _, _, h, g => by
    obtain ⟨v, r, rfl, h1, h2⟩ := h
    refine ⟨v, _, rfl, h1, h2.append ?_⟩
    have : j + 1 + ds.length = j + (d :: ds).length := by rw [List.length_cons]; omega
    rw [this]
    exact g
theorem ArgsR.svs {G : Cfg} {B H : Hp} {ow : Ow} : ∀ {ds : List D} {vs : List V} {j : Nat}, ds.map D.sv = vs.map some → ArgsR G B H ow j vs ds
  | [], vs, _, h => by
    cases vs with
    | nil => rfl
    | cons => cases h
  | d :: ds, vs, j, h => by
    cases vs with
    | nil => cases h
    | cons v r =>
      simp only [List.map_cons, List.cons.injEq] at h
      exact ⟨v, r, rfl, Rg.ofSv h.1, ArgsR.svs h.2⟩
theorem SpD.len {G : Cfg} {np : Nat} {m : MF} {vs : List V} {H : Hp} {Q : VK} {E : XK} (h : SpD G np m vs H Q E) : vs.length = np := by
  obtain ⟨B, ow, ds, _, e, a, _⟩ := h
  rw [a.length, e]

/-! ## a call -/
mutual
/-- nothing frozen in it but scalars -/
def D.clo : D → Bool
  | .node o _ ds => o && D.clos ds
  | .exn _ => false
  | _ => true
def D.clos : List D → Bool
  | [] => true
  | d :: ds => D.clo d && D.clos ds
end
section
variable {N N' : List Nat → Bool → Kd → Addr → List V → Prop}
mutual
theorem Rg.ofClo : ∀ (d : D) {p : List Nat} {v : V}, d.clo = true → (∀ s k a vs, N s true k a vs → N' s true k a vs) → Rg N p v d → Rg N' p v d
  | .non, _, _, _, _, h => h
  | .bl _, _, _, _, _, h => h
  | .int _, _, _, _, _, h => h
  | .str _, _, _, _, _, h => h
  | .exn _, _, _, _, _, h => h
  | .node o k ds, p, v, hz, hN, h => by
    rw [D.clo] at hz
    simp only [Bool.and_eq_true] at hz
    obtain ⟨rfl, hz⟩ := hz
    rw [Rg] at h ⊢
    obtain ⟨a, vs, e, hn, hl⟩ := h
    exact ⟨a, vs, e, hN _ k a vs hn, RgL.ofClo ds hz hN hl⟩
theorem RgL.ofClo : ∀ (ds : List D) {p : List Nat} {n : Nat} {vs : List V}, D.clos ds = true → (∀ s k a vs, N s true k a vs → N' s true k a vs) → RgL N p n vs ds → RgL N' p n vs ds
  | [], _, _, _, _, _, h => h
  | d :: ds, p, n, vs, hz, hN, h => by
    rw [D.clos] at hz
    simp only [Bool.and_eq_true] at hz
    rw [RgL] at h ⊢
    obtain ⟨v, r, e, h1, h2⟩ := h
    exact ⟨v, r, e, Rg.ofClo d hz.1 hN h1, RgL.ofClo ds hz.2 hN h2⟩
end
end
/-- the arguments as data: what is lent (at place io) as it is, all else frozen -/
def argsD (ρ : Env) (io : Option Nat) : Nat → List Opn → Option (List D)
  | _, [] => some []
  | j, .val d :: os => (argsD ρ io (j + 1) os).map (d.frz :: ·)
  | j, .slot i :: os => match slotOf ρ i with
    | none => none
    | some d => (argsD ρ io (j + 1) os).map ((if io = some j then d else d.frz) :: ·)
def slotsOf (io : Option Nat) : Nat → List Opn → List Nat
  | _, [] => []
  | j, .val _ :: os => slotsOf io (j + 1) os
  | j, .slot i :: os => if io = some j then slotsOf io (j + 1) os else i :: slotsOf io (j + 1) os
def mCall (io : Option Nat) (f : MF) (dfl : List D) (ms : MA) : ME := fun ρ => (ms ρ).bind fun os ρ1 =>
  match argsD ρ1 io 0 os with
  | none => .bad
  | some ds =>
    match io with
    | none => match f (ds ++ dfl) with
      | .ok d _ => if d.clo = true then .ok (.val d) ρ1 else .ok (.val d) (frzE (fun i => (slotsOf none 0 os).contains i) 0 ρ1)
      | .ex c _ => .ex c ρ1
      | .bad => .bad
    | some j => match os[j]? with
      | some (.slot i) => if (slotsOf (some j) 0 os).contains i = true then .bad else match f (ds ++ dfl) with
        | .ok d ds' => match ds'[j]? with
          | some dj => .ok (.val d) ((frzE (fun i => (slotsOf (some j) 0 os).contains i) 0 ρ1).set i (some dj))
          | none => .bad
        | .ex c ds' => match ds'[j]? with
          | some dj => .ex c ((frzE (fun i => (slotsOf (some j) 0 os).contains i) 0 ρ1).set i (some dj))
          | none => .bad
        | .bad => .bad
      | _ => .bad

section
variable {G : Cfg} {W : WX} {n t np : Nat} {B H B' H' B1 H1 B2 H2 B3 H3 : Hp} {ow ow' ow1 ow2 ow3 : Ow} {σ : L2.St} {ρ ρ' ρ1 ρ2 : Env} {v : V} {X : Cx}
/-- the callee's roots: only what is lent -/
def renO (ow : Ow) (pr : Option (Nat × Nat)) : Ow := fun a => match ow a with
  | none => none
  | some (i, p) => match pr with
    | none => none
    | some (j0, i0) => if i = i0 then some (j0, p) else none
/-- back from the callee -/
def backO (ow2 ow3 : Ow) (pr : Option (Nat × Nat)) (np t : Nat) : Ow := fun a => match ow3 a with
  | some (r, p) => if r = np then some (t, p) else match pr with
    | none => none
    | some (j0, i0) => if r = j0 then some (i0, p) else none
  | none => match ow2 a with
    | none => none
    | some (i, p) => match pr with
      | none => some (i, p)
      | some (_, i0) => if i = i0 then none else some (i, p)
theorem renO_some {pr : Option (Nat × Nat)} {a : Addr} {j : Nat} {p : List Nat} (h : renO ow pr a = some (j, p)) : ∃ i, pr = some (j, i) ∧ ow a = some (i, p) := by
  unfold renO at h
  cases e : ow a with
  | none => rw [e] at h; cases h
  | some l =>
    obtain ⟨i, q⟩ := l
    rw [e] at h
    cases pr with
    | none => cases h
    | some x =>
      obtain ⟨j0, i0⟩ := x
      simp only at h
      split at h
      · rename_i c
        cases h
        exact ⟨i, by rw [c], rfl⟩
      · cases h
/-- a root that is not lent stays -/
theorem call_keep {pr : Option (Nat × Nat)} {a : Addr} {i : Nat} {p : List Nat} (S : Sim G B2 H2 ow2 σ ρ2) (c : Stp np B2 H2 (renO ow2 pr) B3 H3 ow3) (h : ow2 a = some (i, p)) (hi : ∀ j, pr ≠ some (j, i)) :
    ow3 a = none ∧ H3 a = H2 a ∧ B3 a = none ∧ backO ow2 ow3 pr np t a = some (i, p) := by
  have hr : renO ow2 pr a = none := by
    cases e : renO ow2 pr a with
    | none => rfl
    | some l =>
      obtain ⟨i', e1, e2⟩ := renO_some (j := l.1) (p := l.2) e
      rw [h] at e2
      cases e2
      exact absurd e1 (hi _)
  obtain ⟨hb, o, ho⟩ := S.lab a _ h
  have h3 := c.keepU a o ho hr
  have n3 : ow3 a = none := by
    cases e : ow3 a with
    | none => rfl
    | some l =>
      rcases c.newO a l e with q | ⟨l0, q⟩
      · rw [ho] at q; cases q
      · rw [hr] at q; cases q
  refine ⟨n3, h3.trans ho.symm, ?_, ?_⟩
  · cases e : B3 a with
    | none => rfl
    | some u =>
      rcases c.newB a u e with q | q | ⟨i', p', _, q⟩
      · rw [hb] at q; cases q
      · rw [ho] at q; cases q
      · rw [hr] at q; cases q
  · unfold backO
    rw [n3, h]
    cases pr with
    | none => rfl
    | some x =>
      obtain ⟨j0, i0⟩ := x
      simp only
      rw [if_neg (fun e => hi j0 (by rw [e]))]
theorem backO_some {pr : Option (Nat × Nat)} {a : Addr} {i : Nat} {p : List Nat} (h : backO ow2 ow3 pr np t a = some (i, p)) :
    (∃ r, ow3 a = some (r, p) ∧ ((r = np ∧ i = t) ∨ pr = some (r, i))) ∨ (ow3 a = none ∧ ow2 a = some (i, p) ∧ ∀ j, pr ≠ some (j, i)) := by
  unfold backO at h
  cases e : ow3 a with
  | some l =>
    obtain ⟨r, q⟩ := l
    rw [e] at h
    simp only at h
    split at h
    · rename_i c
      cases h
      exact .inl ⟨r, rfl, .inl ⟨c, rfl⟩⟩
    · cases pr with
      | none => cases h
      | some x =>
        obtain ⟨j0, i0⟩ := x
        simp only at h
        split at h
        · rename_i c
          cases h
          exact .inl ⟨r, rfl, .inr (by rw [c])⟩
        · cases h
  | none =>
    rw [e] at h
    cases e2 : ow2 a with
    | none => rw [e2] at h; cases h
    | some l =>
      obtain ⟨i', q⟩ := l
      rw [e2] at h
      cases pr with
      | none => cases h; exact .inr ⟨rfl, rfl, fun _ q => nomatch q⟩
      | some x =>
        obtain ⟨j0, i0⟩ := x
        simp only at h
        split at h
        · cases h
        · rename_i c
          cases h
          exact .inr ⟨rfl, rfl, fun j q => by cases q; exact c rfl⟩
theorem call_two {pr : Option (Nat × Nat)} (S : Sim G B2 H2 ow2 σ ρ2) (c : Stp np B2 H2 (renO ow2 pr) B3 H3 ow3) (T : Two G B3 H3 ow3) : ∀ a l, backO ow2 ow3 pr np t a = some l → B3 a = none ∧ ∃ o, H3 a = some o := fun a ⟨i, p⟩ h => by
  rcases backO_some h with ⟨r, e, _⟩ | ⟨e, e2, hn⟩
  · exact T.lab a _ e
  · obtain ⟨h1, h2, h3, h4⟩ := call_keep (t := t) S c e2 hn
    obtain ⟨_, o, ho⟩ := S.lab a _ e2
    exact ⟨h3, o, h2.trans ho⟩
theorem call_stp {pr : Option (Nat × Nat)} (S : Sim G B2 H2 ow2 σ ρ2) (c : Stp np B2 H2 (renO ow2 pr) B3 H3 ow3) (hp : ∀ j i, pr = some (j, i) → i < n) : Stp n B2 H2 ow2 B3 H3 (backO ow2 ow3 pr np t) where
  sb := c.sb
  keepU := fun a o h z => c.keepU a o h (by unfold renO; rw [z])
  keepP := fun a i p h hi => by
    obtain ⟨h1, h2, h3, h4⟩ := call_keep (t := t) S c h fun j e => absurd (hp j i e) (by omega)
    exact ⟨h4, h2⟩
  newB := fun a o h => by
    rcases c.newB a o h with q | q | ⟨j, p, _, q⟩
    · exact .inl q
    · exact .inr (.inl q)
    · obtain ⟨i, e1, e2⟩ := renO_some q
      exact .inr (.inr ⟨i, p, hp _ _ e1, e2⟩)
  newO := fun a ⟨i, p⟩ h => by
    rcases backO_some h with ⟨r, e, _⟩ | ⟨e, e2, hn⟩
    · rcases c.newO a _ e with q | ⟨⟨j, p'⟩, q⟩
      · exact .inl q
      · obtain ⟨i', _, e2⟩ := renO_some q
        exact .inr ⟨_, e2⟩
    · exact .inr ⟨_, e2⟩
  old := c.old
theorem call_bd {pr : Option (Nat × Nat)} (hb : Bd ow2 t) (hp : ∀ j i, pr = some (j, i) → i < t) : Bd (backO ow2 ow3 pr np t) (t + 1) := fun a i p h => by
  rcases backO_some h with ⟨r, e, ⟨_, e3⟩ | e3⟩ | ⟨e, e2, hn⟩
  · omega
  · have := hp _ _ e3; omega
  · have := hb a i p e2; omega
theorem call_slot {pr : Option (Nat × Nat)} {i : Nat} {d : D} (S : Sim G B2 H2 ow2 σ ρ2) (c : Stp np B2 H2 (renO ow2 pr) B3 H3 ow3) (hi : ∀ j, pr ≠ some (j, i)) (h : Rp G B2 H2 ow2 i v d) : Rp G B3 H3 (backO ow2 ow3 pr np t) i v d := h.shift d fun p o k a vs z => by
  unfold RpN at z ⊢
  split
  · rename_i ho
    rw [if_pos ho] at z
    obtain ⟨h1, h2, h3, h4⟩ := call_keep (t := t) S c z.1 hi
    exact ⟨h4, z.2.at h2⟩
  · rename_i ho
    rw [if_neg ho] at z
    exact z.same c.sb
theorem call_lent {j0 i0 : Nat} {d : D} (hj : j0 < np) (h : Rp G B3 H3 ow3 j0 v d) : Rp G B3 H3 (backO ow2 ow3 (some (j0, i0)) np t) i0 v d := h.shift d fun p o k a vs z => by
  unfold RpN at z ⊢
  split
  · rename_i ho
    rw [if_pos ho] at z
    refine ⟨?_, z.2⟩
    unfold backO
    rw [z.1]
    simp only
    rw [if_neg (by omega), if_pos trivial]
  · rename_i ho
    rw [if_neg ho] at z
    exact z
theorem call_res {pr : Option (Nat × Nat)} {d : D} (h : Rp G B3 H3 ow3 np v d) : Rp G B3 H3 (backO ow2 ow3 pr np t) t v d := h.shift d fun p o k a vs z => by
  unfold RpN at z ⊢
  split
  · rename_i ho
    rw [if_pos ho] at z
    refine ⟨?_, z.2⟩
    unfold backO
    rw [z.1]
    simp only
    rw [if_pos trivial]
  · rename_i ho
    rw [if_neg ho] at z
    exact z
theorem call_sim {j0 i0 : Nat} {dj : D} (S : Sim G B2 H2 ow2 σ ρ2) (c : Stp np B2 H2 (renO ow2 (some (j0, i0))) B3 H3 ow3) (T : Two G B3 H3 ow3) (hj : j0 < np) (hv : σ[i0]? = some (some v)) (h : Rp G B3 H3 ow3 j0 v dj) :
    Sim G B3 H3 (backO ow2 ow3 (some (j0, i0)) np t) σ (ρ2.set i0 (some dj)) where
  same := T.same
  lab := call_two S c T
  len := by rw [List.length_set]; exact S.len
  slot := fun i d e => by
    by_cases hi : i = i0
    · subst hi
      have hl : i < ρ2.length := by
        have := (List.getElem?_eq_some_iff.mp e).1
        rw [List.length_set] at this
        exact this
      rw [List.getElem?_set_self hl] at e
      cases e
      exact ⟨v, hv, call_lent hj h⟩
    · rw [List.getElem?_set_ne (Ne.symm hi)] at e
      obtain ⟨w, e1, r⟩ := S.slot i d e
      exact ⟨w, e1, call_slot S c (fun j q => by cases q; exact hi rfl) r⟩
  fix := S.fix
theorem call_sim0 (S : Sim G B2 H2 ow2 σ ρ2) (c : Stp np B2 H2 (renO ow2 none) B3 H3 ow3) (T : Two G B3 H3 ow3) : Sim G B3 H3 (backO ow2 ow3 none np t) σ ρ2 where
  same := T.same
  lab := call_two S c T
  len := S.len
  slot := fun i d e => by
    obtain ⟨w, e1, r⟩ := S.slot i d e
    exact ⟨w, e1, call_slot S c (fun j q => nomatch q) r⟩
  fix := S.fix
/-- nothing lent, and what comes back holds nothing of what was handed: the frozen part goes back to what it was -/
theorem call_restore {P : Nat → Bool} (S : Sim G B1 H1 ow1 σ ρ1) (hP : Same B1 B2) (c : Stp np B2 H1 (renO ow2 none) B3 H3 ow3) (T : Two G B3 H3 ow3) (h2 : ∀ a, ow2 a = ow2 a) :
    (∀ a o, H1 a = some o → H3 a = some o ∧ ow3 a = none) := fun a o h => by
  have hr : ∀ a, renO ow2 none a = none := fun a => by
    unfold renO
    split <;> rfl
  refine ⟨c.keepU a o h (hr a), ?_⟩
  cases e : ow3 a with
  | none => rfl
  | some l =>
    rcases c.newO a l e with q | ⟨l0, q⟩
    · rw [h] at q; cases q
    · rw [hr] at q; cases q
/-- .. the roots then -/
def keepO (ow1 ow3 : Ow) (np t : Nat) : Ow := fun a => match ow3 a with
  | some (r, p) => if r = np then some (t, p) else none
  | none => ow1 a
theorem keepO_some {a : Addr} {i : Nat} {p : List Nat} (h : keepO ow1 ow3 np t a = some (i, p)) : (ow3 a = some (np, p) ∧ i = t) ∨ (ow3 a = none ∧ ow1 a = some (i, p)) := by
  unfold keepO at h
  cases e : ow3 a with
  | none => rw [e] at h; exact .inr ⟨rfl, h⟩
  | some l =>
    obtain ⟨r, q⟩ := l
    rw [e] at h
    simp only at h
    split at h
    · rename_i c
      subst c
      cases h
      exact .inl ⟨rfl, rfl⟩
    · cases h
theorem rest_sim (S : Sim G B1 H1 ow1 σ ρ1) (k : ∀ a o, H1 a = some o → H3 a = some o ∧ ow3 a = none) (s13 : Same B1 B3) (T : Two G B3 H3 ow3) : Sim G B1 H3 (keepO ow1 ow3 np t) σ ρ1 where
  same := fun a o h => (k a o (S.same a o h)).1
  lab := fun a ⟨i, p⟩ h => by
    rcases keepO_some h with ⟨e, _⟩ | ⟨e, e2⟩
    · obtain ⟨h1, h2⟩ := T.lab a _ e
      refine ⟨?_, h2⟩
      cases q : B1 a with
      | none => rfl
      | some u => rw [s13 a u q] at h1; cases h1
    · obtain ⟨h1, o, h2⟩ := S.lab a _ e2
      exact ⟨h1, o, (k a o h2).1⟩
  len := S.len
  slot := fun i d e => by
    obtain ⟨v, e1, r⟩ := S.slot i d e
    refine ⟨v, e1, r.shift d fun p o k' a vs z => ?_⟩
    unfold RpN at z ⊢
    split
    · rename_i ho
      rw [if_pos ho] at z
      obtain ⟨_, ob, hob⟩ := S.lab a _ z.1
      obtain ⟨k1, k2⟩ := k a ob hob
      exact ⟨by unfold keepO; rw [k2]; exact z.1, z.2.at (k1.trans hob.symm)⟩
    · rename_i ho
      rw [if_neg ho] at z
      exact z
  fix := S.fix
theorem rest_stp (S : Sim G B1 H1 ow1 σ ρ1) (k : ∀ a o, H1 a = some o → H3 a = some o ∧ ow3 a = none) : Stp n B1 H1 ow1 B1 H3 (keepO ow1 ow3 np t) where
  sb := Same.refl _
  keepU := fun a o h _ => (k a o h).1
  keepP := fun a i p h _ => by
    obtain ⟨_, o, ho⟩ := S.lab a _ h
    obtain ⟨k1, k2⟩ := k a o ho
    exact ⟨by unfold keepO; rw [k2]; exact h, k1.trans ho.symm⟩
  newB := fun a o h => .inl h
  newO := fun a ⟨i, p⟩ h => by
    rcases keepO_some h with ⟨e, _⟩ | ⟨e, e2⟩
    · left
      cases q : H1 a with
      | none => rfl
      | some o => rw [(k a o q).2] at e; cases e
    · exact .inr ⟨_, e2⟩
  old := fun a h => by
    cases q : H1 a with
    | none => exact absurd q h
    | some o => rw [(k a o q).1]; exact nofun
theorem rest_res {d : D} (hc : d.clo = true) (h : Rp G B3 H3 ow3 np v d) : Rp G B1 H3 (keepO ow1 ow3 np t) t v d := Rg.ofClo d hc (fun s k a vs z => by
  unfold RpN at z ⊢
  rw [if_pos rfl] at z ⊢
  refine ⟨?_, z.2⟩
  unfold keepO
  rw [z.1]
  simp only
  rw [if_pos trivial]) h
theorem rest_bd (hb : Bd ow1 t) : Bd (keepO ow1 ow3 np t) (t + 1) := fun a i p h => by
  rcases keepO_some h with ⟨e, e2⟩ | ⟨e, e2⟩
  · omega
  · have := hb a i p e2; omega
end
end DL

namespace DL
open PySem PySem.Spec L2

section
variable {G : Cfg} {W : WX} {n t np : Nat} {B H B' H' B1 H1 B2 H2 B3 H3 : Hp} {ow ow' ow1 ow2 ow3 : Ow} {σ : L2.St} {ρ ρ' ρ1 ρ2 : Env} {v : V} {X : Cx}
theorem args_ren {F : Nat → Bool} {pr : Option (Nat × Nat)} {io : Option Nat} (S : Sim G B1 H1 ow1 σ ρ1) (hF : ∀ j i, pr = some (j, i) → F i = false) :
    ∀ {os : List Opn} {j u : Nat} {vs : List V} {ds : List D}, OpnsR G B1 H1 ow1 σ u vs os → argsD ρ1 io j os = some ds → (∀ r, u ≤ r → F r = true) → (∀ i, i ∈ slotsOf io j os → F i = true) →
      (∀ (k i : Nat), os[k]? = some (.slot i) → io = some (j + k) → pr = some (j + k, i)) → ArgsR G (frzB B1 H1 ow1 F) H1 (renO (cutO ow1 F) pr) j vs ds
  | [], j, u, vs, ds, h, e, _, _, _ => by cases h; cases e; rfl
  | .val d :: os, j, u, vs, ds, h, e, h1, h2, h3 => by
    obtain ⟨v, r, rfl, hv, hr⟩ := h
    rw [argsD] at e
    cases e2 : argsD ρ1 io (j + 1) os with
    | none => rw [e2] at e; cases e
    | some es =>
      rw [e2] at e
      cases e
      refine ⟨v, r, rfl, ((show Rp G B1 H1 ow1 u v d from hv).freeze (frzB_same S.lab) (h1 u (Nat.le_refl _))).rp, args_ren S hF hr e2 (fun r h => h1 r (by omega)) h2 fun k i ek ei => ?_⟩
      have := h3 (k + 1) i (by simpa using ek) (by rw [ei]; congr 1; omega)
      rw [this]
      congr 2
      omega
  | .slot i :: os, j, u, vs, ds, h, e, h1, h2, h3 => by
    obtain ⟨v, r, rfl, hv, hr⟩ := h
    rw [argsD] at e
    cases e1 : slotOf ρ1 i with
    | none => rw [e1] at e; cases e
    | some d =>
      simp only [e1] at e
      cases e2 : argsD ρ1 io (j + 1) os with
      | none => rw [e2] at e; cases e
      | some es =>
        rw [e2] at e
        cases e
        obtain ⟨w, hw, rw_⟩ := S.slot i d (slotOf_some e1)
        have hv' : σ[i]? = some (some v) := hv
        rw [hv'] at hw
        cases hw
        refine ⟨v, r, rfl, ?_, args_ren S hF hr e2 (fun r h => h1 r (by omega)) (fun i' hi' => h2 i' ?_) fun k i ek ei => ?_⟩
        · by_cases c : io = some j
          · rw [if_pos c]
            have hp := h3 0 i rfl c
            have hp : pr = some (j, i) := hp
            have lo := rw_.low (frzB_same S.lab) (hF j i hp)
            refine lo.shift d fun p o k a vs z => ?_
            unfold RpN at z ⊢
            split
            · rename_i ho
              rw [if_pos ho] at z
              refine ⟨?_, z.2⟩
              unfold renO
              rw [z.1, hp]
              simp only
              rw [if_pos trivial]
            · rename_i ho
              rw [if_neg ho] at z
              exact z
          · rw [if_neg c]
            exact (rw_.freeze (frzB_same S.lab) (h2 i (by rw [slotsOf, if_neg c]; exact List.mem_cons_self))).rp
        · rw [slotsOf]
          split
          · exact hi'
          · exact List.mem_cons_of_mem _ hi'
        · have := h3 (k + 1) i (by simpa using ek) (by rw [ei]; congr 1; omega)
          rw [this]
          congr 2
          omega
theorem argsD_length {io : Option Nat} : ∀ {os : List Opn} {j : Nat} {ds : List D}, argsD ρ1 io j os = some ds → ds.length = os.length
  | [], _, _, e => by cases e; rfl
  | .val d :: os, j, ds, e => by
    rw [argsD] at e
    cases e2 : argsD ρ1 io (j + 1) os with
    | none => rw [e2] at e; cases e
    | some es => rw [e2] at e; cases e; rw [List.length_cons, List.length_cons, argsD_length e2]
  | .slot i :: os, j, ds, e => by
    rw [argsD] at e
    cases e1 : slotOf ρ1 i with
    | none => rw [e1] at e; cases e
    | some d =>
      simp only [e1] at e
      cases e2 : argsD ρ1 io (j + 1) os with
      | none => rw [e2] at e; cases e
      | some es => rw [e2] at e; cases e; rw [List.length_cons, List.length_cons, argsD_length e2]
theorem OpnsR.get : ∀ {os : List Opn} {u k : Nat} {vs : List V} {o : Opn}, OpnsR G B H ow σ u vs os → os[k]? = some o → ∃ v, vs[k]? = some v ∧ OpnR G B H ow σ (u + k) v o
  | [], _, _, _, _, _, e => by simp at e
  | o :: os, u, 0, _, _, h, e => by
    obtain ⟨v, r, rfl, h1, _⟩ := h
    cases e
    exact ⟨v, rfl, h1⟩
  | o :: os, u, k + 1, _, _, h, e => by
    obtain ⟨v, r, rfl, _, h2⟩ := h
    obtain ⟨w, hw, q⟩ := h2.get (k := k) (by simpa using e)
    refine ⟨w, by simpa using hw, ?_⟩
    have : u + 1 + k = u + (k + 1) := by omega
    rw [this] at q
    exact q
theorem frzE_congr {P P' : Nat → Bool} : ∀ (ρ : Env) (i : Nat), (∀ j, i ≤ j → j < i + ρ.length → P j = P' j) → frzE P i ρ = frzE P' i ρ
  | [], _, _ => rfl
  | o :: r, i, h => by
    rw [frzE, frzE, h i (Nat.le_refl _) (by rw [List.length_cons]; omega), frzE_congr r (i + 1) fun j h1 h2 => h j (by omega) (by rw [List.length_cons]; omega)]
/-- behind the arguments of a call of one's own def -/
theorem post_call {io : Option Nat} {f : MF} {dfl : List D} {dvs : List V} {ms : MA} {Q : VK} (hv : dfl.map D.sv = dvs.map some) (S : Sim G B H ow σ ρ) (hb : Bd ow t) (hn : ρ.length ≤ t)
    (hnp : ∀ os ρ1, ms ρ = .ok os ρ1 → os.length + dfl.length = np) (P : PostE G W ρ.length t B H ow σ (mCall io f dfl ms ρ) Q) :
    PostA G W ρ.length t B H ow σ (ms ρ) fun vs H1 => SpD G np f (vs ++ dvs) H1 Q (WE W σ) := by
  unfold mCall at P
  cases e : ms ρ with
  | bad => rw [e] at P; exact P
  | ex c ρ1 => rw [e] at P; exact P
  | ok os ρ1 =>
    have hnp := hnp os ρ1 e
    rw [e, Rs.bind_ok] at P
    intro vs B1 H1 ow1 s1 S1 b1 r1
    have hl := S.len2 S1
    cases e1 : argsD ρ1 io 0 os with
    | none => simp only [e1] at P; exact P.elim
    | some ds =>
      simp only [e1] at P
      have hds : (ds ++ dfl).length = np := by rw [List.length_append, argsD_length e1]; exact hnp
      cases io with
      | none =>
        simp only at P
        generalize hF : (fun r => (slotsOf none 0 os).contains r || from_ t r) = F
        have sF : Same B1 (frzB B1 H1 ow1 F) := frzB_same S1.lab
        have fhi : ∀ r, t ≤ r → F r = true := fun r h => by rw [← hF]; simp [from_hi h]
        have fsl : ∀ i, i ∈ slotsOf none 0 os → F i = true := fun i h => by rw [← hF]; simp [h]
        have A := args_ren (F := F) (pr := none) S1 (fun _ _ q => nomatch q) r1 e1 fhi fsl fun _ _ _ q => nomatch q
        have S2 := S1.frz (P := F)
        have hren : ∀ a, renO (cutO ow1 F) none a = none := fun a => by unfold renO; split <;> rfl
        have eE : frzE F 0 ρ1 = frzE (fun i => (slotsOf none 0 os).contains i) 0 ρ1 := frzE_congr ρ1 0 fun j _ hj => by rw [← hF]; simp [from_lo (show j < t by omega)]
        have st2 : Stp ρ.length B H ow (frzB B1 H1 ow1 F) H1 (cutO ow1 F) := by
          have q := Stp.frz (P := from_ t) S1 s1 hb fun i h => .inr (of_decide_eq_true h)
          refine Stp.frz (t := t) S1 s1 hb fun i h => ?_
          rw [← hF] at h
          simp only [Bool.or_eq_true] at h
          rcases h with h | h
          · left
            have : i ∈ slotsOf none 0 os := by simpa using h
            have hlt : ∀ (os : List Opn) (j : Nat), (∃ ds, argsD ρ1 none j os = some ds) → ∀ i ∈ slotsOf none j os, i < ρ1.length := by
              intro os
              induction os with
              | nil => intro j _ i hi; cases hi
              | cons o os ih =>
                intro j ⟨ds, e⟩ i hi
                cases o with
                | val d =>
                  rw [argsD] at e
                  cases e2 : argsD ρ1 none (j + 1) os with
                  | none => rw [e2] at e; cases e
                  | some es => exact ih (j + 1) ⟨es, e2⟩ i hi
                | slot i' =>
                  rw [argsD] at e
                  cases e1 : slotOf ρ1 i' with
                  | none => rw [e1] at e; cases e
                  | some d =>
                    simp only [e1] at e
                    cases e2 : argsD ρ1 none (j + 1) os with
                    | none => rw [e2] at e; cases e
                    | some es =>
                      rw [slotsOf, if_neg (fun q => nomatch q)] at hi
                      rcases List.mem_cons.mp hi with rfl | hi
                      · exact (List.getElem?_eq_some_iff.mp (slotOf_some e1)).1
                      · exact ih (j + 1) ⟨es, e2⟩ i hi
            have := hlt os 0 ⟨ds, e1⟩ i this
            omega
          · exact .inr (of_decide_eq_true h)
        have bd2 : Bd (cutO ow1 F) t := fun a i p h => by
          obtain ⟨h1, h2⟩ := cutO_some h
          cases Nat.lt_or_ge i t with
          | inl q => exact q
          | inr q => rw [fhi i q] at h2; cases h2
        refine ⟨_, _, ds ++ dfl, ⟨S2.same, (fun a l h => by rw [hren a] at h; cases h)⟩, hds, A.append (ArgsR.svs hv), (fun a i p h => by rw [hren a] at h; cases h), ?_⟩
        cases ef : f (ds ++ dfl) with
        | bad => simp only [ef] at P; exact P.elim
        | ex c ds' =>
          simp only [ef] at P
          intro x dd B3 H3 ow3 c3 T3 b3 a3 ex
          have k := call_restore (P := F) S1 sF c3 T3 fun _ => rfl
          exact P x dd _ H3 _ (s1.trans (rest_stp (t := t) S1 k)) (rest_sim (np := np) S1 k (sF.trans c3.sb) T3) ex
        | ok d ds' =>
          simp only [ef] at P
          intro v B3 H3 ow3 c3 T3 b3 rv a3
          by_cases hc : d.clo = true
          · rw [if_pos hc] at P
            have S1' := S1.frzT (t := t) (by omega)
            have st1 : Stp ρ.length B H ow (frzB B1 H1 ow1 (from_ t)) H1 (cutO ow1 (from_ t)) := Stp.frz S1 s1 hb fun i h => .inr (of_decide_eq_true h)
            have sF' : Same (frzB B1 H1 ow1 (from_ t)) (frzB B1 H1 ow1 F) := fun a o h => by
              unfold frzB at h ⊢
              cases q : ow1 a with
              | none => rw [q] at h; exact h
              | some l =>
                obtain ⟨i, p⟩ := l
                rw [q] at h
                simp only at h ⊢
                split at h
                · rename_i c
                  rw [if_pos (fhi i (of_decide_eq_true c))]
                  exact h
                · have := (S1.lab a _ q).1
                  rw [h] at this
                  cases this
            have k := call_restore (P := F) S1' sF' c3 T3 fun _ => rfl
            exact P v _ H3 _ (st1.trans (rest_stp (np := np) (t := t) S1' k)) (rest_sim S1' k (sF'.trans c3.sb) T3) (rest_bd cutO_bd) (rest_res hc rv)
          · rw [if_neg hc] at P
            have S3 := call_sim0 (t := t) S2 c3 T3
            rw [eE] at S3
            exact P v B3 H3 _ (st2.trans (call_stp S2 c3 fun _ _ q => nomatch q)) S3 (call_bd bd2 fun _ _ q => nomatch q) (call_res rv)
      | some j =>
        simp only at P
        cases eo : os[j]? with
        | none => simp only [eo] at P; exact P.elim
        | some o =>
          cases o with
          | val d => simp only [eo] at P; exact P.elim
          | slot i0 =>
            simp only [eo] at P
            by_cases hc0 : (slotsOf (some j) 0 os).contains i0 = true
            · rw [if_pos hc0] at P; exact P.elim
            rw [if_neg hc0] at P
            have hjo : j < os.length := (List.getElem?_eq_some_iff.mp eo).1
            have hjnp : j < np := by omega
            obtain ⟨w0, hw0, hw1⟩ := r1.get eo
            have hσ : σ[i0]? = some (some w0) := hw1
            have hi0 : i0 < ρ1.length := by
              rw [← S1.len]
              exact (List.getElem?_eq_some_iff.mp hσ).1
            generalize hF : (fun r => (slotsOf (some j) 0 os).contains r || from_ t r) = F
            have sF : Same B1 (frzB B1 H1 ow1 F) := frzB_same S1.lab
            have fhi : ∀ r, t ≤ r → F r = true := fun r h => by rw [← hF]; simp [from_hi h]
            have fsl : ∀ i, i ∈ slotsOf (some j) 0 os → F i = true := fun i h => by rw [← hF]; simp [h]
            have f0 : F i0 = false := by
              rw [← hF]
              simp only [Bool.not_eq_true] at hc0
              show ((slotsOf (some j) 0 os).contains i0 || from_ t i0) = false
              rw [hc0, from_lo (by omega)]
              rfl
            have A := args_ren (F := F) (pr := some (j, i0)) S1 (fun _ _ q => by cases q; exact f0) r1 e1 fhi fsl fun k i ek ei => by
              have : j = k := by
                have := Option.some.inj ei
                omega
              subst this
              rw [eo] at ek
              cases ek
              rw [Nat.zero_add]
            have S2 := S1.frz (P := F)
            have eE : frzE F 0 ρ1 = frzE (fun i => (slotsOf (some j) 0 os).contains i) 0 ρ1 := frzE_congr ρ1 0 fun j' _ hj => by rw [← hF]; simp [from_lo (show j' < t by omega)]
            have st2 : Stp ρ.length B H ow (frzB B1 H1 ow1 F) H1 (cutO ow1 F) := by
              refine Stp.frz (t := t) S1 s1 hb fun i h => ?_
              rw [← hF] at h
              simp only [Bool.or_eq_true] at h
              rcases h with h | h
              · left
                have : i ∈ slotsOf (some j) 0 os := by simpa using h
                have hlt : ∀ (os : List Opn) (j' : Nat), (∃ ds, argsD ρ1 (some j) j' os = some ds) → ∀ i ∈ slotsOf (some j) j' os, i < ρ1.length := by
                  intro os
                  induction os with
                  | nil => intro j _ i hi; cases hi
                  | cons o os ih =>
                    intro j' ⟨ds, e⟩ i hi
                    cases o with
                    | val d =>
                      rw [argsD] at e
                      cases e2 : argsD ρ1 (some j) (j' + 1) os with
                      | none => rw [e2] at e; cases e
                      | some es => exact ih (j' + 1) ⟨es, e2⟩ i hi
                    | slot i' =>
                      rw [argsD] at e
                      cases e1 : slotOf ρ1 i' with
                      | none => rw [e1] at e; cases e
                      | some d =>
                        simp only [e1] at e
                        cases e2 : argsD ρ1 (some j) (j' + 1) os with
                        | none => rw [e2] at e; cases e
                        | some es =>
                          rw [slotsOf] at hi
                          split at hi
                          · exact ih (j' + 1) ⟨es, e2⟩ i hi
                          · rcases List.mem_cons.mp hi with rfl | hi
                            · exact (List.getElem?_eq_some_iff.mp (slotOf_some e1)).1
                            · exact ih (j' + 1) ⟨es, e2⟩ i hi
                have := hlt os 0 ⟨ds, e1⟩ i this
                omega
              · exact .inr (of_decide_eq_true h)
            have bd2 : Bd (cutO ow1 F) t := fun a i p h => by
              obtain ⟨h1, h2⟩ := cutO_some h
              cases Nat.lt_or_ge i t with
              | inl q => exact q
              | inr q => rw [fhi i q] at h2; cases h2
            refine ⟨_, _, ds ++ dfl, ⟨S2.same, fun a l h => ?_⟩, hds, A.append (ArgsR.svs hv), fun a i p h => ?_, ?_⟩
            · obtain ⟨i, e1, e2⟩ := renO_some (j := l.1) (p := l.2) h
              exact S2.lab a _ e2
            · obtain ⟨i', e1, e2⟩ := renO_some h
              cases e1
              exact hjnp
            cases ef : f (ds ++ dfl) with
            | bad => simp only [ef] at P; exact P.elim
            | ex c ds' =>
              simp only [ef] at P
              cases ej : ds'[j]? with
              | none => simp only [ej] at P; exact P.elim
              | some dj =>
                simp only [ej] at P
                intro x dd B3 H3 ow3 c3 T3 b3 a3 ex
                obtain ⟨w, hw, rw_⟩ := a3.get ej
                rw [List.getElem?_append_left (by rw [r1.length]; exact hjo), hw0] at hw
                cases hw
                rw [Nat.zero_add] at rw_
                have S3 := call_sim (t := t) S2 c3 T3 hjnp hσ rw_
                rw [eE] at S3
                exact P x dd B3 H3 _ (st2.trans (call_stp (t := t) S2 c3 fun j i q => by cases q; omega)) S3 ex
            | ok d ds' =>
              simp only [ef] at P
              cases ej : ds'[j]? with
              | none => simp only [ej] at P; exact P.elim
              | some dj =>
                simp only [ej] at P
                intro v B3 H3 ow3 c3 T3 b3 rv a3
                obtain ⟨w, hw, rw_⟩ := a3.get ej
                rw [List.getElem?_append_left (by rw [r1.length]; exact hjo), hw0] at hw
                cases hw
                rw [Nat.zero_add] at rw_
                have S3 := call_sim (t := t) S2 c3 T3 hjnp hσ rw_
                rw [eE] at S3
                exact P v B3 H3 _ (st2.trans (call_stp S2 c3 fun j i q => by cases q; omega)) S3 (call_bd bd2 fun j i q => by cases q; omega) (call_res rv)
/-- how many arguments -/
def MA.len (ms : MA) (k : Nat) : Prop := ∀ ρ os ρ1, ms ρ = .ok os ρ1 → os.length = k
theorem MA.len_nil : MA.len mNil 0 := fun ρ os ρ1 h => by cases h; rfl
theorem MA.len_cons {m : ME} {ms : MA} {k : Nat} (h : MA.len ms k) : MA.len (mCons m ms) (k + 1) := fun ρ os ρ1 e => by
  unfold mCons at e
  cases e1 : m ρ with
  | bad => rw [e1] at e; cases e
  | ex c ρ1 => rw [e1] at e; cases e
  | ok o ρ1 =>
    rw [e1, Rs.bind_ok] at e
    cases e2 : ms ρ1 with
    | bad => rw [e2] at e; cases e
    | ex c ρ2 => rw [e2] at e; cases e
    | ok os2 ρ2 =>
      rw [e2] at e
      cases e
      rw [List.length_cons, h _ _ _ e2]
/-- what is known of a def of the text, to call it -/
structure DefOk (P : Program) (w : World) (K : PySem.W.Frag) (mg : Str → Option Value) (base : Heap) (x : Str) (k np : Nat) (dfl : List D) (m : MF) : Prop where
  ex : ∃ (f : Addr) (fd : FuncData) (ps : List Str), FnOk P w K mg base (L2N.CX P w) k f fd ps (SpD ⟨K, mg, [], none⟩ np m) ∧ mg x = some (.ref f) ∧ PySem.W.keepIn K (.ref f) = true ∧
    ∀ i, i ≤ dfl.length → ∃ (dvs : List V) (ds : List Value), (dfl.drop i).map D.sv = dvs.map some ∧ Vals dvs ds ∧ Binds K fd ps ds
theorem HoB_fx {K mg fx} : HoB ⟨K, mg, fx, none⟩ = HoB ⟨K, mg, [], none⟩ := by
  funext B k a vs
  cases k <;> rfl
theorem HoO_fx {K mg fx} : HoO ⟨K, mg, fx, none⟩ = HoO ⟨K, mg, [], none⟩ := by
  funext B k a vs
  cases k <;> rfl
theorem Rp_fx {K mg fx} : Rp ⟨K, mg, fx, none⟩ = Rp ⟨K, mg, [], none⟩ := by
  funext B H ow r v d
  unfold Rp
  have : RpN ⟨K, mg, fx, none⟩ B H ow r = RpN ⟨K, mg, [], none⟩ B H ow r := by
    funext p o k a vs
    unfold RpN
    rw [HoB_fx, HoO_fx]
  rw [this]
theorem ArgsR_fx {K mg fx} {B H : Hp} {ow : Ow} : ∀ (ds : List D) (j : Nat) (vs : List V), ArgsR ⟨K, mg, fx, none⟩ B H ow j vs ds = ArgsR ⟨K, mg, [], none⟩ B H ow j vs ds
  | [], _, _ => rfl
  | d :: ds, j, vs => by
    unfold ArgsR
    rw [Rp_fx]
    congr 1
    funext v
    congr 1
    funext r
    rw [ArgsR_fx ds]
theorem SpD_fx {K mg fx} {m : MF} {vs : List V} {Q : VK} {E : XK} (h : SpD ⟨K, mg, fx, none⟩ np m vs H Q E) : SpD ⟨K, mg, [], none⟩ np m vs H Q E := by
  obtain ⟨B, ow, ds, T, e, a, b, q⟩ := h
  refine ⟨B, ow, ds, ⟨T.same, T.lab⟩, e, by rw [← ArgsR_fx (fx := fx)]; exact a, b, ?_⟩
  cases ef : m ds with
  | bad => rw [ef] at q; exact q
  | ex c ds' =>
    rw [ef] at q
    intro x dd B' H' ow' s T' b' a' ex
    exact q x dd B' H' ow' s ⟨T'.same, T'.lab⟩ b' (by rw [ArgsR_fx]; exact a') ex
  | ok d ds' =>
    rw [ef] at q
    intro v B' H' ow' s T' b' r' a'
    exact q v B' H' ow' s ⟨T'.same, T'.lab⟩ b' (by rw [Rp_fx]; exact r') (by rw [ArgsR_fx]; exact a')
theorem d_ucall {k : Nat} {dfl : List D} {x : Str} {p pos : Pos} {e : Expr} {es : List Expr} {ms : MA} {m : MF} (io : Option Nat) (F : DefOk X.prog X.w X.K X.mg X.base x k np dfl m) (i : Nat) (hi : i ≤ dfl.length) (hr : Room k X.A) (hg : Gl X x) (hK : G.K = X.K) (hM : G.mg = X.mg) (hX : G.xa = none) (tk : L2N.Takes X W)
    (ha : PA X (e :: es) (tDA G W ms)) (hl : MA.len ms (np - (dfl.drop i).length)) (hl2 : (dfl.drop i).length ≤ np) (hdb : (x == ("__debug__" : Str)) = false := by decide) (he : starEach (e :: es) X.env = (false, eval e X.env) :: starEach es X.env := by rfl) (hpl : (backTo pos (starEach es X.env)).any (·.1) = false := by rfl) :
    PE X (.Call (.Name x p) (e :: es) [] pos) (tD G W (mCall io m (dfl.drop i) ms)) := by
  obtain ⟨f, fd, ps, F, mx, kx, bx⟩ := F.ex
  obtain ⟨dvs, ds, h1, h2, h3⟩ := bx i hi
  refine (pe_callSD F hr hg mx kx h3 h2 (fun σ => L2N.passAt tk σ) ha hdb he hpl).up fun σ H Q q => ?_
  obtain ⟨B, ow, ρ, t, S, hb, hn, P⟩ := q
  refine ⟨B, ow, ρ, t, S, hb, hn, ?_⟩
  have q := post_call (np := np) h1 S hb hn (fun os ρ1 e => by rw [hl _ _ _ e]; omega) P
  cases e : ms ρ with
  | bad => rw [e] at q; exact q
  | ex c ρ1 => rw [e] at q; exact q
  | ok os ρ1 =>
    rw [e] at q
    intro vs B' H' ow' s S' b' r'
    have z := q vs B' H' ow' s S' b' r'
    rw [← hK, ← hM]
    obtain ⟨K0, mg0, fx0, xa0⟩ := G
    cases hX
    exact SpD_fx (fx := fx0) z
end
end DL

namespace DL
open PySem PySem.Spec L2

inductive Out where
  | nx (ρ : Env) | rt (d : D) (ρ : Env) | bk (ρ : Env) | ct (ρ : Env) | ex (c : Str) (ρ : Env) | bad
abbrev MS := Env → Out
def PostS (G : Cfg) (W : WX) (n : Nat) (B H : Hp) (ow : Ow) (r : Out) (D : Ends) : Prop := match r with
  | .nx ρ' => ∀ σ' B' H' ow', Stp n B H ow B' H' ow' → Sim G B' H' ow' σ' ρ' → σ'.length = n → Bd ow' n → D.nx σ' H'
  | .bk ρ' => ∀ σ' B' H' ow', Stp n B H ow B' H' ow' → Sim G B' H' ow' σ' ρ' → σ'.length = n → Bd ow' n → D.bk σ' H'
  | .ct ρ' => ∀ σ' B' H' ow', Stp n B H ow B' H' ow' → Sim G B' H' ow' σ' ρ' → σ'.length = n → Bd ow' n → D.ct σ' H'
  | .rt d ρ' => ∀ v σ' B' H' ow', Stp n B H ow B' H' ow' → Sim G B' H' ow' σ' ρ' → Bd ow' (n + 1) → Rp G B' H' ow' n v d → D.rt v H'
  | .ex c ρ' => ∀ x dd σ' B' H' ow', Stp n B H ow B' H' ow' → Sim G B' H' ow' σ' ρ' → σ'.length = n → ExV G.mg c x dd H' → W x dd σ' H'
  | .bad => False
def tDS (G : Cfg) (W : WX) (m : MS) : TS := fun D σ H => ∃ B ow ρ, Sim G B H ow σ ρ ∧ Bd ow ρ.length ∧ PostS G W ρ.length B H ow (m ρ) D
def mNext : MS := fun ρ => .nx ρ
def mBreak : MS := fun ρ => .bk ρ
def mCont : MS := fun ρ => .ct ρ
def mSeq (m1 m2 : MS) : MS := fun ρ => match m1 ρ with
  | .nx ρ1 => m2 ρ1
  | o => o
section
variable {G : Cfg} {W : WX} {n t np : Nat} {B H B' H' B1 H1 B2 H2 B3 H3 : Hp} {ow ow' ow1 ow2 ow3 : Ow} {σ : L2.St} {ρ ρ' ρ1 ρ2 : Env} {v : V} {X : Cx} {E : Ends}
theorem PostS.step {o : Out} (s : Stp n B H ow B1 H1 ow1) (h : PostS G W n B H ow o E) : PostS G W n B1 H1 ow1 o E := by
  cases o with
  | nx ρ' => exact fun σ' B' H' ow' s' S' l' b' => h σ' B' H' ow' (s.trans s') S' l' b'
  | bk ρ' => exact fun σ' B' H' ow' s' S' l' b' => h σ' B' H' ow' (s.trans s') S' l' b'
  | ct ρ' => exact fun σ' B' H' ow' s' S' l' b' => h σ' B' H' ow' (s.trans s') S' l' b'
  | rt d ρ' => exact fun v σ' B' H' ow' s' S' b' r' => h v σ' B' H' ow' (s.trans s') S' b' r'
  | ex c ρ' => exact fun x dd σ' B' H' ow' s' S' l' e => h x dd σ' B' H' ow' (s.trans s') S' l' e
  | bad => exact h
theorem s_nil : PSs X [] (tDS G W mNext) := pss_nil.up fun E σ H q => by
  obtain ⟨B, ow, ρ, S, hb, P⟩ := q
  exact P σ B H ow Stp.refl S S.len hb
theorem s_pass {pos : Pos} : PS X (.Pass pos) (tDS G W mNext) := ps_pass.up fun E σ H q => by
  obtain ⟨B, ow, ρ, S, hb, P⟩ := q
  exact P σ B H ow Stp.refl S S.len hb
theorem s_break {pos : Pos} : PS X (.Break pos) (tDS G W mBreak) := ps_break.up fun E σ H q => by
  obtain ⟨B, ow, ρ, S, hb, P⟩ := q
  exact P σ B H ow Stp.refl S S.len hb
theorem s_cont {pos : Pos} : PS X (.Continue pos) (tDS G W mCont) := ps_continue.up fun E σ H q => by
  obtain ⟨B, ow, ρ, S, hb, P⟩ := q
  exact P σ B H ow Stp.refl S S.len hb
theorem post_seq {m1 m2 : MS} (h : tDS G W (mSeq m1 m2) E σ H) : tDS G W m1 { E with nx := tDS G W m2 E } σ H := by
  obtain ⟨B, ow, ρ, S, hb, P⟩ := h
  refine ⟨B, ow, ρ, S, hb, ?_⟩
  unfold mSeq at P
  cases e : m1 ρ with
  | nx ρ1 =>
    rw [e] at P
    intro σ' B' H' ow' s' S' l' b'
    have hl : ρ1.length = ρ.length := by rw [← S'.len, l']
    refine ⟨B', ow', ρ1, S', by rw [hl]; exact b', ?_⟩
    rw [hl]
    exact P.step s'
  | bk ρ' => rw [e] at P; exact P
  | ct ρ' => rw [e] at P; exact P
  | rt d ρ' => rw [e] at P; exact P
  | ex c ρ' => rw [e] at P; exact P
  | bad => rw [e] at P; exact P
theorem s_seq {st : Stmt} {rest : List Stmt} {m1 m2 : MS} (h1 : PS X st (tDS G W m1)) (h2 : PSs X rest (tDS G W m2)) : PSs X (st :: rest) (tDS G W (mSeq m1 m2)) := (pss_cons h1 h2).up fun E σ H q => post_seq q
theorem s_one {st : Stmt} {m1 : MS} (h1 : PS X st (tDS G W m1)) : PSs X [st] (tDS G W m1) := pss_one h1
/-- from an expression within a statement -/
theorem PostX.toS {c : Str} {x : Value} {dd : Option Addr} (S : Sim G B H ow σ ρ) (s : Stp n B H ow B1 H1 ow1) (P : PostS G W ρ.length B H ow (.ex c ρ1) E) : PostX G W ρ.length B H ow σ c ρ1 :=
  fun x d B' H' ow' s' S' e => P x d σ B' H' ow' s' S' S.len e
def mIfS (c : MT) (m1 m2 : MS) : MS := fun ρ => match c ρ with
  | .ok b ρ1 => if b = true then m1 ρ1 else m2 ρ1
  | .ex c ρ1 => .ex c ρ1
  | .bad => .bad
theorem s_if {c : Expr} {a b : List Stmt} {pos : Pos} {mc : MT} {m1 m2 : MS} (hc : PT X c (tDT G W mc)) (ha : PSs X a (tDS G W m1)) (hb : PSs X b (tDS G W m2)) : PS X (.If c a b pos) (tDS G W (mIfS mc m1 m2)) := (ps_if hc ha hb).up fun E σ H q => by
  obtain ⟨B, ow, ρ, S, hb, P⟩ := q
  refine ⟨B, ow, ρ, ρ.length, S, hb, Nat.le_refl _, ?_⟩
  unfold mIfS at P
  cases e : mc ρ with
  | bad => rw [e] at P; exact P
  | ex c ρ1 => rw [e] at P; exact fun x d B' H' ow' s' S' e => P x d σ B' H' ow' s' S' S.len e
  | ok b ρ1 =>
    rw [e] at P
    intro B1 H1 ow1 s1 S1 b1
    have hl := S.len2 S1
    simp only at P
    cases b with
    | true =>
      rw [if_pos rfl] at P ⊢
      refine ⟨B1, ow1, ρ1, S1, by rw [hl]; exact b1, ?_⟩
      rw [hl]
      exact PostS.step s1 P
    | false =>
      rw [if_neg Bool.false_ne_true] at P ⊢
      refine ⟨B1, ow1, ρ1, S1, by rw [hl]; exact b1, ?_⟩
      rw [hl]
      exact PostS.step s1 P
/-- an expression, then the rest of the statement -/
def mThen (m : ME) (f : Opn → Env → Out) : MS := fun ρ => match m ρ with
  | .ok o ρ1 => f o ρ1
  | .ex c ρ1 => .ex c ρ1
  | .bad => .bad
theorem post_then {m : ME} {f : Opn → Env → Out} {Q : VK} (S : Sim G B H ow σ ρ) (P : PostS G W ρ.length B H ow (mThen m f ρ) E)
    (k : ∀ o ρ1 v B1 H1 ow1, Stp ρ.length B H ow B1 H1 ow1 → Sim G B1 H1 ow1 σ ρ1 → Bd ow1 (ρ.length + 1) → OpnR G B1 H1 ow1 σ ρ.length v o → PostS G W ρ.length B H ow (f o ρ1) E → Q v H1) : PostE G W ρ.length ρ.length B H ow σ (m ρ) Q := by
  unfold mThen at P
  cases e : m ρ with
  | bad => rw [e] at P; exact P
  | ex c ρ1 => rw [e] at P; exact fun x d B' H' ow' s' S' e => P x d σ B' H' ow' s' S' S.len e
  | ok o ρ1 =>
    rw [e] at P
    exact fun v B1 H1 ow1 s1 S1 b1 r1 => k o ρ1 v B1 H1 ow1 s1 S1 b1 r1 P
def mExpr (m : ME) : MS := mThen m fun _ ρ1 => .nx ρ1
theorem s_expr {e : Expr} {pos : Pos} {m : ME} (he : PE X e (tD G W m)) (hs : swapsWith e none pos.line X.env = pure false := by rfl) : PS X (.Expr e pos) (tDS G W (mExpr m)) := (ps_expr he hs).up fun E σ H q => by
  obtain ⟨B, ow, ρ, S, hb, P⟩ := q
  refine ⟨B, ow, ρ, ρ.length, S, hb, Nat.le_refl _, post_then S P fun o ρ1 v B1 H1 ow1 s1 S1 b1 r1 P => ?_⟩
  have hl := S.len2 S1
  exact P σ _ _ _ (Stp.frz S1 s1 hb fun i h => .inr (of_decide_eq_true h)) (S1.frzT (t := ρ.length) (by omega)) S.len cutO_bd
/-! ## moving a root -/
def mvO (ow : Ow) (r i : Nat) (q : List Nat) (drop : Bool) : Ow := fun a => match ow a with
  | some (r', p) => if r' = r then some (i, q ++ p) else if drop = true ∧ r' = i then none else some (r', p)
  | none => none
theorem mvO_some {r i : Nat} {q : List Nat} {drop : Bool} {a : Addr} {j : Nat} {p : List Nat} (h : mvO ow r i q drop a = some (j, p)) : (∃ p', ow a = some (r, p') ∧ j = i ∧ p = q ++ p') ∨ (ow a = some (j, p) ∧ j ≠ r ∧ ¬ (drop = true ∧ j = i)) := by
  unfold mvO at h
  cases e : ow a with
  | none => rw [e] at h; cases h
  | some l =>
    obtain ⟨r', p'⟩ := l
    rw [e] at h
    simp only at h
    split at h
    · rename_i c
      cases h
      subst c
      exact .inl ⟨p', rfl, rfl, rfl⟩
    · rename_i c
      split at h
      · cases h
      · rename_i c2
        cases h
        exact .inr ⟨rfl, c, c2⟩
theorem mvO_r {r i : Nat} {q : List Nat} {drop : Bool} {a : Addr} {p : List Nat} (h : ow a = some (r, p)) : mvO ow r i q drop a = some (i, q ++ p) := by
  unfold mvO
  rw [h]
  simp only
  rw [if_pos trivial]
theorem mvO_else {r i j : Nat} {q : List Nat} {drop : Bool} {a : Addr} {p : List Nat} (h : ow a = some (j, p)) (hj : j ≠ r) (hd : ¬ (drop = true ∧ j = i)) : mvO ow r i q drop a = some (j, p) := by
  unfold mvO
  rw [h]
  simp only
  rw [if_neg hj, if_neg hd]
theorem Stp.mv {r i : Nat} {q : List Nat} {drop : Bool} (s : Stp n B H ow B1 H1 ow1) (hb : Bd ow n) : Stp n B H ow B1 H1 (mvO ow1 r i q drop) where
  sb := s.sb
  keepU := s.keepU
  keepP := fun a j p h hn => absurd (hb a j p h) (by omega)
  newB := s.newB
  newO := fun a ⟨j, p⟩ h => by
    rcases mvO_some h with ⟨p', e, _⟩ | ⟨e, _⟩
    · exact s.newO a _ e
    · exact s.newO a _ e
  old := s.old
theorem Rp.mv {r i : Nat} {q : List Nat} {drop : Bool} {d : D} (h : Rp G B H ow r v d) : Rg (RpN G B H (mvO ow r i q drop) i) q v d := h.shift d fun s o k a vs z => by
  unfold RpN at z ⊢
  split
  · rename_i ho
    rw [if_pos ho] at z
    exact ⟨mvO_r z.1, z.2⟩
  · rename_i ho
    rw [if_neg ho] at z
    exact z
theorem Rp.mvE {r i j : Nat} {q : List Nat} {drop : Bool} {d : D} (h : Rp G B H ow j v d) (hj : j ≠ r) (hd : ¬ (drop = true ∧ j = i)) : Rp G B H (mvO ow r i q drop) j v d := h.shift d fun s o k a vs z => by
  unfold RpN at z ⊢
  split
  · rename_i ho
    rw [if_pos ho] at z
    exact ⟨mvO_else z.1 hj hd, z.2⟩
  · rename_i ho
    rw [if_neg ho] at z
    exact z
/-- a name is given what was just made -/
theorem Sim.mv {r i : Nat} {d : D} (S : Sim G B H ow σ ρ) (hr : ρ.length ≤ r) (hi : i < ρ.length) (hx : ∀ q ∈ G.fx, q.1 ≠ i) (h : Rp G B H ow r v d) : Sim G B H (mvO ow r i [] true) (σ.set i (some v)) (ρ.set i (some d)) where
  same := S.same
  lab := fun a ⟨j, p⟩ e => by
    rcases mvO_some e with ⟨p', e, _⟩ | ⟨e, _⟩
    · exact S.lab a _ e
    · exact S.lab a _ e
  len := by rw [List.length_set, List.length_set]; exact S.len
  slot := fun j e he => by
    by_cases hj : j = i
    · subst hj
      rw [List.getElem?_set_self hi] at he
      cases he
      exact ⟨v, List.getElem?_set_self (by rw [S.len]; exact hi), Rp.mv h⟩
    · rw [List.getElem?_set_ne (Ne.symm hj)] at he
      obtain ⟨w, e1, rr⟩ := S.slot j e he
      have hjl : j < ρ.length := (List.getElem?_eq_some_iff.mp he).1
      exact ⟨w, by rw [List.getElem?_set_ne (Ne.symm hj)]; exact e1, rr.mvE (by omega) (fun q => hj q.2)⟩
  fix := fun q hq => by
    rw [List.getElem?_set_ne (Ne.symm (hx q hq))]
    exact S.fix q hq
theorem Bd.mv {r i m : Nat} {q : List Nat} {drop : Bool} (hb : Bd ow (n + 1)) (hr : r = n) (hi : i < n) : Bd (mvO ow r i q drop) n := fun a j p h => by
  rcases mvO_some h with ⟨p', e, rfl, _⟩ | ⟨e, h1, _⟩
  · exact hi
  · have := hb a j p e
    omega
/-- an operand that is to be kept elsewhere: a slot's own things are frozen -/
def esc (o : Opn) (ρ : Env) : Option (D × Env) := match o with
  | .val d => some (d, ρ)
  | .slot i => match slotOf ρ i with
    | none => none
    | some d => some (d.frz, frzE (fun j => j == i) 0 ρ)
theorem esc_ok {o : Opn} {d : D} {t : Nat} (S : Sim G B H ow σ ρ) (hb : Bd ow (t + 1)) (h : OpnR G B H ow σ t v o) (e : esc o ρ = some (d, ρ1)) :
    ∃ B1 ow1, Stp ρ.length B H ow B1 H ow1 ∧ Sim G B1 H ow1 σ ρ1 ∧ Bd ow1 (t + 1) ∧ Rp G B1 H ow1 t v d := by
  cases o with
  | val d0 => cases e; exact ⟨B, ow, Stp.refl, S, hb, h⟩
  | slot i =>
    unfold esc at e
    cases e1 : slotOf ρ i with
    | none => simp only [e1] at e; cases e
    | some d0 =>
      simp only [e1, Option.some.injEq, Prod.mk.injEq] at e
      obtain ⟨rfl, rfl⟩ := e
      obtain ⟨w, hw, hr⟩ := S.slot i d0 (slotOf_some e1)
      have hv : σ[i]? = some (some v) := h
      rw [hv] at hw
      cases hw
      have hi : i < ρ.length := (List.getElem?_eq_some_iff.mp (slotOf_some e1)).1
      have hP : ∀ j, (fun j => j == i) j = true → j < ρ.length := fun j hj => by
        have : j = i := by simpa using hj
        omega
      exact ⟨_, _, Stp.frz0 S hP, S.frz, hb.cut, ((hr.freeze (frzB_same S.lab) (P := fun j => j == i) (by simp)).rp)⟩
def mSet (i : Nat) (m : ME) : MS := mThen m fun o ρ1 => match esc o ρ1 with
  | none => .bad
  | some (d, ρ2) => .nx (ρ2.set i (some d))
/-- name = value, by values -/
theorem post_set {i : Nat} {m : ME} (hx : ∀ q ∈ G.fx, q.1 ≠ i) (S : Sim G B H ow σ ρ) (hi : i < ρ.length) (hb : Bd ow ρ.length) (P : PostS G W ρ.length B H ow (mSet i m ρ) E) : PostE G W ρ.length ρ.length B H ow σ (m ρ) fun x H1 => gName i x σ H1 E.nx :=
  post_then S P fun o ρ1 v B1 H1 ow1 s1 S1 b1 r1 P => by
    have hl := S.len2 S1
    cases e : esc o ρ1 with
    | none => simp only [e] at P; exact P.elim
    | some x =>
      obtain ⟨d, ρ2⟩ := x
      simp only [e] at P
      obtain ⟨B2, ow2, s2, S2, b2, r2⟩ := esc_ok S1 b1 r1 e
      rw [hl] at s2
      have hl2 := S1.len2 S2
      exact P _ B2 H1 _ ((s1.trans s2).mv hb) (S2.mv (by omega) (by omega) hx r2) (by rw [List.length_set]; exact S.len) (Bd.mv (m := 0) b2 rfl hi)
def fxOk (fx : List (Nat × V)) (i : Nat) : Prop := ∀ q ∈ fx, q.1 ≠ i
theorem s_set {i : Nat} {x : Str} {e : Expr} {pos pos' : Pos} {m : ME} (hN : X.N.Nodup) (hi : X.N[i]? = some x) (hx : Loc X.env.scope x) (hfx : fxOk G.fx i) (he : PE X e (tD G W m)) (hs : swapsWith e (some (.Name x pos')) pos.line X.env = pure false := by rfl)
    (hf : X.fn x = true ∨ X.env.scope.names.lookup x = some .local := by first | exact .inl rfl | exact .inr rfl) : PS X (.Assign [.Name x pos'] e pos) (tDS G W (mSet i m)) := ⟨fun pins s σ H E I q => by
  have hl : i < σ.length := by
    rw [I.len]
    exact (List.getElem?_eq_some_iff.mp hi).1
  refine (ps_set hN hi hx he hs hf).run pins s σ H E I ?_
  obtain ⟨B, ow, ρ, S, hb, P⟩ := q
  exact ⟨B, ow, ρ, ρ.length, S, hb, Nat.le_refl _, post_set hfx S (by rw [← S.len]; exact hl) hb P⟩⟩
/-! ## return -/
def mRet (np : Nat) (m : ME) : MS := mThen m fun o ρ1 => match o with
  | .val d => .rt d ρ1
  | .slot i => match slotOf ρ1 i with
    | none => .bad
    | some d => if i < np then .rt d.frz (frzE (fun j => j == i) 0 ρ1) else .rt d (ρ1.set i none)
def mRetN : MS := fun ρ => .rt .non ρ
theorem s_retN {pos : Pos} : PS X (.Return none pos) (tDS G W mRetN) := ps_retN.up fun E σ H q => by
  obtain ⟨B, ow, ρ, S, hb, P⟩ := q
  exact P .non σ B H ow Stp.refl S (hb.up (by omega)) rfl
theorem Sim.forget {i : Nat} (S : Sim G B H ow σ ρ) : Sim G B H ow σ (ρ.set i none) where
  same := S.same
  lab := S.lab
  len := by rw [List.length_set]; exact S.len
  slot := fun j d e => by
    by_cases hj : i = j
    · subst hj
      by_cases hl : i < ρ.length
      · rw [List.getElem?_set_self hl] at e; cases e
      · rw [List.getElem?_eq_none (by rw [List.length_set]; omega)] at e; cases e
    · rw [List.getElem?_set_ne hj] at e
      exact S.slot j d e
  fix := S.fix
theorem s_ret {e : Expr} {pos : Pos} {m : ME} (np : Nat) (he : PE X e (tD G W m)) : PS X (.Return (some e) pos) (tDS G W (mRet np m)) := (ps_ret he).up fun E σ H q => by
  obtain ⟨B, ow, ρ, S, hb, P⟩ := q
  refine ⟨B, ow, ρ, ρ.length, S, hb, Nat.le_refl _, post_then S P fun o ρ1 v B1 H1 ow1 s1 S1 b1 r1 P => ?_⟩
  have hl := S.len2 S1
  cases o with
  | val d => exact P v σ B1 H1 ow1 s1 S1 b1 r1
  | slot i =>
    simp only at P
    cases e1 : slotOf ρ1 i with
    | none => simp only [e1] at P; exact P.elim
    | some d =>
      simp only [e1] at P
      obtain ⟨w, hw, hr⟩ := S1.slot i d (slotOf_some e1)
      have hv : σ[i]? = some (some v) := r1
      rw [hv] at hw
      cases hw
      have hi : i < ρ1.length := (List.getElem?_eq_some_iff.mp (slotOf_some e1)).1
      split at P
      · obtain ⟨B2, ow2, s2, S2, b2, r2⟩ := esc_ok (ρ1 := frzE (fun j => j == i) 0 ρ1) (d := d.frz) S1 b1 (show OpnR G B1 H1 ow1 σ ρ.length v (.slot i) from r1) (by unfold esc; simp only [e1])
        rw [hl] at s2
        exact P v σ B2 H1 ow2 (s1.trans s2) S2 b2 r2
      · -- roots i and ρ.length: i's things become the value's
        have S2 := S1.forget (i := i)
        have S3 : Sim G B1 H1 (mvO ow1 i ρ.length [] true) σ (ρ1.set i none) := by
          refine ⟨S2.same, fun a ⟨j, p⟩ h => ?_, S2.len, fun j d' e' => ?_, S2.fix⟩
          · rcases mvO_some h with ⟨p', e, _⟩ | ⟨e, _⟩
            · exact S1.lab a _ e
            · exact S1.lab a _ e
          · obtain ⟨w, e2, r2⟩ := S2.slot j d' e'
            have hj : j ≠ i := by
              rintro rfl
              rw [List.getElem?_set_self hi] at e'
              cases e'
            have hjl : j < ρ1.length := by
              have := (List.getElem?_eq_some_iff.mp e').1
              rw [List.length_set] at this
              exact this
            exact ⟨w, e2, r2.mvE hj fun q => by have := q.2; omega⟩
        refine P v σ B1 H1 _ (s1.mv hb) S3 (fun a j p h => ?_) (Rp.mv hr)
        rcases mvO_some h with ⟨p', e, rfl, _⟩ | ⟨e, h1, _⟩
        · omega
        · exact b1 a j p e
end
end DL

namespace DL
open PySem PySem.Spec L2

/-! ## a def's body -/
/-- the arguments behind the body: those that are stored anew (re) must have been frozen -/
def argsOut (re : List Nat) (ρ : Env) : Nat → List D → Option (List D)
  | _, [] => some []
  | j, d :: ds => if re.contains j = true then (if d.fz = true then (argsOut re ρ (j + 1) ds).map (d :: ·) else none) else match slotOf ρ j with
    | none => none
    | some d' => (argsOut re ρ (j + 1) ds).map (d' :: ·)
def mFn (nN : Nat) (re : List Nat) (mb : MS) : MF := fun ds => match mb (ds.map some ++ List.replicate (nN - ds.length) none) with
  | .nx ρ => match argsOut re ρ 0 ds with
    | some ds' => .ok .non ds'
    | none => .bad
  | .rt d ρ => match argsOut re ρ 0 ds with
    | some ds' => .ok d ds'
    | none => .bad
  | .ex c ρ => match argsOut re ρ 0 ds with
    | some ds' => .ex c ds'
    | none => .bad
  | _ => .bad
/-- the slots that are never stored -/
def fxOf (re : List Nat) : Nat → List V → List (Nat × V)
  | _, [] => []
  | j, v :: vs => if re.contains j = true then fxOf re (j + 1) vs else (j, v) :: fxOf re (j + 1) vs
theorem fxOf_mem {re : List Nat} : ∀ {vs : List V} {j : Nat} {q : Nat × V}, q ∈ fxOf re j vs → re.contains q.1 = false ∧ j ≤ q.1 ∧ q.1 < j + vs.length ∧ vs[q.1 - j]? = some q.2
  | [], _, _, h => by cases h
  | v :: vs, j, q, h => by
    rw [fxOf] at h
    split at h
    · obtain ⟨h1, h2, h3, h4⟩ := fxOf_mem h
      refine ⟨h1, by omega, by rw [List.length_cons]; omega, ?_⟩
      rw [show q.1 - j = (q.1 - (j + 1)) + 1 by omega, List.getElem?_cons_succ]
      exact h4
    · rename_i c
      rcases List.mem_cons.mp h with rfl | h
      · refine ⟨by simpa using c, Nat.le_refl _, by rw [List.length_cons]; omega, ?_⟩
        show (v :: vs)[j - j]? = some v
        rw [Nat.sub_self]
        rfl
      · obtain ⟨h1, h2, h3, h4⟩ := fxOf_mem h
        refine ⟨h1, by omega, by rw [List.length_cons]; omega, ?_⟩
        rw [show q.1 - j = (q.1 - (j + 1)) + 1 by omega, List.getElem?_cons_succ]
        exact h4
theorem fxOf_has {re : List Nat} : ∀ {vs : List V} {j i : Nat} {v : V}, vs[i]? = some v → re.contains (j + i) = false → (j + i, v) ∈ fxOf re j vs
  | [], _, _, _, h, _ => by simp at h
  | w :: vs, j, 0, v, h, c => by
    cases h
    rw [fxOf, if_neg (by rw [show j + 0 = j from rfl] at c; rw [c]; exact Bool.false_ne_true)]
    exact List.mem_cons_self
  | w :: vs, j, i + 1, v, h, c => by
    have e : j + (i + 1) = (j + 1) + i := by omega
    rw [e] at c ⊢
    rw [fxOf]
    have := fxOf_has (vs := vs) (j := j + 1) (i := i) (by simpa using h) c
    split
    · exact this
    · exact List.mem_cons_of_mem _ this
theorem fx_ok {re : List Nat} {np : Nat} {vs : List V} (hl : vs.length = np) {i : Nat} (h : np ≤ i ∨ re.contains i = true) : fxOk (fxOf re 0 vs) i := fun q hq e => by
  obtain ⟨h1, h2, h3, _⟩ := fxOf_mem hq
  rw [e] at h1 h3
  rcases h with h | h
  · omega
  · rw [h] at h1; cases h1
section
variable {K : PySem.W.Frag} {mg : Str → Option Value} {fx : List (Nat × V)} {n np : Nat} {B H B' H' : Hp} {ow ow' : Ow} {σ σ' : L2.St} {ρ ρ' : Env} {v : V}
/-- the roots that are left: the arguments', and what is handed back -/
def outO (ow : Ow) (np n : Nat) : Ow := fun a => match ow a with
  | some (i, p) => if i = n then some (np, p) else if i < np then some (i, p) else none
  | none => none
theorem outO_some {a : Addr} {i : Nat} {p : List Nat} (h : outO ow np n a = some (i, p)) : (ow a = some (n, p) ∧ i = np) ∨ (ow a = some (i, p) ∧ i < np) := by
  unfold outO at h
  cases e : ow a with
  | none => rw [e] at h; cases h
  | some l =>
    obtain ⟨j, q⟩ := l
    rw [e] at h
    simp only at h
    split at h
    · rename_i c; cases h; subst c; exact .inl ⟨rfl, rfl⟩
    · split at h
      · rename_i c; cases h; exact .inr ⟨rfl, c⟩
      · cases h
theorem Stp.out (s : Stp n B H ow B' H' ow') (hb : Bd ow np) : Stp np B H ow B' H' (outO ow' np n) where
  sb := s.sb
  keepU := s.keepU
  keepP := fun a i p h hn => absurd (hb a i p h) (by omega)
  newB := fun a o h => by
    rcases s.newB a o h with q | q | ⟨i, p, _, q⟩
    · exact .inl q
    · exact .inr (.inl q)
    · exact .inr (.inr ⟨i, p, hb a i p q, q⟩)
  newO := fun a ⟨i, p⟩ h => by
    rcases outO_some h with ⟨e, _⟩ | ⟨e, _⟩
    · exact s.newO a _ e
    · exact s.newO a _ e
  old := s.old
theorem Sim.out {G : Cfg} (S : Sim G B H ow σ ρ) : Two G B H (outO ow np n) := ⟨S.same, fun a ⟨i, p⟩ h => by
  rcases outO_some h with ⟨e, _⟩ | ⟨e, _⟩
  · exact S.lab a _ e
  · exact S.lab a _ e⟩
theorem outO_bd : Bd (outO ow np n) (np + 1) := fun a i p h => by
  rcases outO_some h with ⟨e, rfl⟩ | ⟨e, h⟩ <;> omega
theorem Rp.out {G : Cfg} {j : Nat} {d : D} (hj : j < np) (hn : np ≤ n) (h : Rp G B H ow j v d) : Rp G B H (outO ow np n) j v d := h.shift d fun s o k a vs z => by
  unfold RpN at z ⊢
  split
  · rename_i ho
    rw [if_pos ho] at z
    refine ⟨?_, z.2⟩
    unfold outO
    rw [z.1]
    simp only
    rw [if_neg (by omega), if_pos hj]
  · rename_i ho
    rw [if_neg ho] at z
    exact z
theorem Rp.outR {G : Cfg} {d : D} (h : Rp G B H ow n v d) : Rp G B H (outO ow np n) np v d := h.shift d fun s o k a vs z => by
  unfold RpN at z ⊢
  split
  · rename_i ho
    rw [if_pos ho] at z
    refine ⟨?_, z.2⟩
    unfold outO
    rw [z.1]
    simp only
    rw [if_pos trivial]
  · rename_i ho
    rw [if_neg ho] at z
    exact z
theorem args_out {G : Cfg} {re : List Nat} {vs0 : List V} (hfx : G.fx = fxOf re 0 vs0) (S : Sim G B' H' ow' σ' ρ') (sb : Same B B') (hnp : vs0.length = np) (hn : np ≤ n) :
    ∀ {ds ds' : List D} {j : Nat} {vs : List V}, ArgsR G B H ow j vs ds → (∀ i v, vs[i]? = some v → vs0[j + i]? = some v) → argsOut re ρ' j ds = some ds' → ArgsR G B' H' (outO ow' np n) j vs ds'
  | [], ds', j, vs, h, _, e => by cases h; cases e; rfl
  | d :: ds, ds', j, vs, h, hv, e => by
    obtain ⟨v, r, rfl, h1, h2⟩ := h
    have hr : ∀ i w, r[i]? = some w → vs0[j + 1 + i]? = some w := fun i w h => by
      have := hv (i + 1) w (by simpa using h)
      rw [show j + 1 + i = j + (i + 1) by omega]
      exact this
    have hv0 : vs0[j]? = some v := hv 0 v rfl
    have hj : j < np := by rw [← hnp]; exact (List.getElem?_eq_some_iff.mp hv0).1
    rw [argsOut] at e
    split at e
    · split at e
      · rename_i c
        cases e2 : argsOut re ρ' (j + 1) ds with
        | none => rw [e2] at e; cases e
        | some es =>
          rw [e2] at e
          cases e
          exact ⟨v, r, rfl, ((h1.fz c).same sb).rp, args_out hfx S sb hnp hn h2 hr e2⟩
      · cases e
    · rename_i c
      cases e1 : slotOf ρ' j with
      | none => rw [e1] at e; cases e
      | some d' =>
        simp only [e1] at e
        cases e2 : argsOut re ρ' (j + 1) ds with
        | none => rw [e2] at e; cases e
        | some es =>
          rw [e2] at e
          cases e
          obtain ⟨w, hw, hr'⟩ := S.slot j d' (slotOf_some e1)
          have hm : ((j : Nat), v) ∈ G.fx := by
            rw [hfx]
            have := fxOf_has (re := re) (vs := vs0) (j := 0) (i := j) hv0 (by rw [Nat.zero_add]; simpa using c)
            rw [Nat.zero_add] at this
            exact this
          have := S.fix _ hm
          rw [this] at hw
          cases hw
          exact ⟨v, r, rfl, hr'.out hj hn, args_out hfx S sb hnp hn h2 hr e2⟩
end
section
variable {P : Program} {w : World} {K : PySem.W.Frag} {mg : Str → Option Value} {base : Heap}
theorem start_get {N : List Str} {vs : List V} {i : Nat} {v : V} (h : vs[i]? = some v) : (L2.start N vs)[i]? = some (some v) := by
  unfold L2.start
  have hi := (List.getElem?_eq_some_iff.mp h).1
  rw [List.getElem?_append_left (by rw [List.length_map]; exact hi), List.getElem?_map, h]
  rfl
theorem def_core {vs : List V} {H : Hp} {Q : VK} {E : XK} {np : Nat} {N : List Str} {re : List Nat} {mb : MS} (hN : np ≤ N.length) (h : SpD ⟨K, mg, [], none⟩ np (mFn N.length re mb) vs H Q E) :
    tDS ⟨K, mg, fxOf re 0 vs, none⟩ (fun cls d _ H => E cls d H) mb { nx := fun _ H' => Q .non H', rt := Q } (L2.start N vs) H := by
  have hvl := SpD.len h
  obtain ⟨B, ow, ds, T, hl, a, hb, q⟩ := h
  have a' : ArgsR ⟨K, mg, fxOf re 0 vs, none⟩ B H ow 0 vs ds := by rw [ArgsR_fx]; exact a
  have hρ : (ds.map some ++ List.replicate (N.length - ds.length) none : Env).length = N.length := by
    rw [List.length_append, List.length_map, List.length_replicate]; omega
  refine ⟨B, ow, ds.map some ++ List.replicate (N.length - ds.length) none, ⟨T.same, T.lab, ?_, fun i d e => ?_, fun q hq => ?_⟩, by rw [hρ]; exact hb.up hN, ?_⟩
  · rw [hρ]
    unfold L2.start
    rw [List.length_append, List.length_map, List.length_replicate]
    omega
  · have hi : i < ds.length := by
      cases Nat.lt_or_ge i ds.length with
      | inl q => exact q
      | inr q =>
        rw [List.getElem?_append_right (by rw [List.length_map]; exact q), List.getElem?_replicate] at e
        split at e <;> cases e
    rw [List.getElem?_append_left (by rw [List.length_map]; exact hi), List.getElem?_map] at e
    cases e1 : ds[i]? with
    | none => rw [e1] at e; cases e
    | some d' =>
      rw [e1] at e
      cases e
      obtain ⟨v, hv, hr'⟩ := a'.get e1
      rw [Nat.zero_add] at hr'
      exact ⟨v, start_get hv, hr'⟩
  · obtain ⟨_, _, _, h4⟩ := fxOf_mem hq
    exact start_get h4
  · rw [hρ]
    have hvs : ∀ (i : Nat) v, vs[i]? = some v → vs[0 + i]? = some v := fun i v h => by rw [Nat.zero_add]; exact h
    unfold mFn at q
    cases em : mb (ds.map some ++ List.replicate (N.length - ds.length) none) with
    | bad => rw [em] at q; exact q
    | bk ρ' => rw [em] at q; exact q.elim
    | ct ρ' => rw [em] at q; exact q.elim
    | nx ρ' =>
      rw [em] at q
      intro σ' B' H' ow' s' S' l' b'
      cases ea : argsOut re ρ' 0 ds with
      | none => simp only [ea] at q
      | some ds' =>
        simp only [ea] at q
        refine q .non B' H' _ (s'.out hb) ⟨(S'.out (np := np) (n := N.length)).same, (S'.out (np := np) (n := N.length)).lab⟩ outO_bd rfl ?_
        rw [← ArgsR_fx (fx := fxOf re 0 vs)]
        exact args_out rfl S' s'.sb hvl hN a' hvs ea
    | rt d ρ' =>
      rw [em] at q
      intro v σ' B' H' ow' s' S' b' r'
      cases ea : argsOut re ρ' 0 ds with
      | none => simp only [ea] at q
      | some ds' =>
        simp only [ea] at q
        refine q v B' H' _ (s'.out hb) ⟨(S'.out (np := np) (n := N.length)).same, (S'.out (np := np) (n := N.length)).lab⟩ outO_bd ?_ ?_
        · rw [← Rp_fx (fx := fxOf re 0 vs)]
          exact r'.outR
        · rw [← ArgsR_fx (fx := fxOf re 0 vs)]
          exact args_out rfl S' s'.sb hvl hN a' hvs ea
    | ex c ρ' =>
      rw [em] at q
      intro x dd σ' B' H' ow' s' S' l' ex
      cases ea : argsOut re ρ' 0 ds with
      | none => simp only [ea] at q
      | some ds' =>
        simp only [ea] at q
        refine q x dd B' H' _ (s'.out hb) ⟨(S'.out (np := np) (n := N.length)).same, (S'.out (np := np) (n := N.length)).lab⟩ outO_bd ?_ ex
        rw [← ArgsR_fx (fx := fxOf re 0 vs)]
        exact args_out rfl S' s'.sb hvl hN a' hvs ea
/-- a def, whatever its exceptions carry -/
theorem fun_okN {CX : CXT} {x qual : Str} {st : Stmt} {f : Addr} {fd : FuncData} {N ps : List Str} {k : Nat} {sp : Sp} (F : Fun K x qual st f fd) (sc : FnScope N ps (defScope st)) (hlen : ∀ vs H Q E, sp vs H Q E → vs.length = ps.length)
    (hb : ∀ (cdv : Value) (A : Around) (outer : List PySem.Env) (s : Shared) (H : Hp) (vs : List V) (Q : VK) (E : XK), Room k (A.deeper (PyProof.Rows.envOfC qual (defScope st) s.heap.objs.size f cdv)) → sp vs H Q E →
      ∃ t, PSs (cxOf CX P w K mg base N qual (defScope st) f cdv A outer s H E) (defBody st) t ∧ t { nx := fun _ H' => Q .non H', rt := Q } (start N vs) H) : FnOk P w K mg base CX (k + 1) f fd ps sp := by
  have e := F.ex
  obtain ⟨_, _, _, _, _, _, _, _, _, rfl, lk, hc⟩ := e
  exact fn_of lk hc sc hlen fun A outer s H vs Q E hr hs => hb _ A outer s H vs Q E hr hs
/-- THE RULE of a def -/
theorem def_ok {x qual : Str} {st : Stmt} {f : Addr} {fd : FuncData} {N ps : List Str} {k np : Nat} (re : List Nat) {mb : MS} (F : Fun K x qual st f fd) (sc : FnScope N ps (defScope st)) (hnp : ps.length = np) (hN : np ≤ N.length)
    (hbody : ∀ (cdv : Value) (A : Around) (outer : List PySem.Env) (s : Shared) (H : Hp) (E : XK) (G : Cfg) (W : WX), Room k (A.deeper (PyProof.Rows.envOfC qual (defScope st) s.heap.objs.size f cdv)) → G.K = K → G.mg = mg → G.xa = none → (∀ i, (np ≤ i ∨ re.contains i = true) → fxOk G.fx i) →
      L2N.Takes (cxOf (L2N.CX P w) P w K mg base N qual (defScope st) f cdv A outer s H E) W → PSs (cxOf (L2N.CX P w) P w K mg base N qual (defScope st) f cdv A outer s H E) (defBody st) (tDS G W mb)) :
    FnOk P w K mg base (L2N.CX P w) (k + 1) f fd ps (SpD ⟨K, mg, [], none⟩ np (mFn N.length re mb)) := by
  refine fun_okN F sc (fun vs H Q E h => by rw [SpD.len h, hnp]) (fun cdv A outer s H vs Q E hr h => ?_)
  have hvl := SpD.len h
  exact ⟨tDS ⟨K, mg, fxOf re 0 vs, none⟩ (fun cls d _ H => E cls d H) mb, hbody cdv A outer s H E _ _ hr rfl rfl rfl (fun i hi => fx_ok hvl hi) (L2N.takes_of rfl rfl rfl rfl), def_core hN h⟩
/-- the same, of a def with defaults -/
theorem def_okD {dvs : List V} {kws : List (Str × V)} {x qual : Str} {st : Stmt} {f : Addr} {fd : FuncData} {N ps : List Str} {k np : Nat} (re : List Nat) {mb : MS} (F : FunD K x qual (defArgs st) (defBody st) (defScope st) dvs kws f fd) (sc : FnScope N ps (defScope st)) (hnp : ps.length = np) (hN : np ≤ N.length)
    (hbody : ∀ (cdv : Value) (A : Around) (outer : List PySem.Env) (s : Shared) (H : Hp) (E : XK) (G : Cfg) (W : WX), Room k (A.deeper (PyProof.Rows.envOfC qual (defScope st) s.heap.objs.size f cdv)) → G.K = K → G.mg = mg → G.xa = none → (∀ i, (np ≤ i ∨ re.contains i = true) → fxOk G.fx i) →
      L2N.Takes (cxOf (L2N.CX P w) P w K mg base N qual (defScope st) f cdv A outer s H E) W → PSs (cxOf (L2N.CX P w) P w K mg base N qual (defScope st) f cdv A outer s H E) (defBody st) (tDS G W mb)) :
    FnOk P w K mg base (L2N.CX P w) (k + 1) f fd ps (SpD ⟨K, mg, [], none⟩ np (mFn N.length re mb)) := by
  refine FunD.ok F sc (fun vs H Q E h => by rw [SpD.len h, hnp]) (fun cdv A outer s H vs Q E hr h => ?_)
  have hvl := SpD.len h
  exact ⟨tDS ⟨K, mg, fxOf re 0 vs, none⟩ (fun cls d _ H => E cls d H) mb, hbody cdv A outer s H E _ _ hr rfl rfl rfl (fun i hi => fx_ok hvl hi) (L2N.takes_of rfl rfl rfl rfl), def_core hN h⟩
end
end DL

namespace DL
open PySem PySem.Spec L2

/-! ## what is walked -/
structure Steady (J : It) (B : Hp) (vs : List V) : Prop where
  go : ∀ i H, Same B H → i < vs.length → J.go i H
  yld : ∀ i H x H', Same B H → i < vs.length → J.yld i H x H' → H' = H ∧ vs[i]? = some x
  stop : ∀ H, Same B H → J.stop vs.length H
theorem Steady.same {J : It} {B B' : Hp} {vs : List V} (h : Steady J B vs) (s : Same B B') : Steady J B' vs :=
  ⟨fun i H e => h.go i H (s.trans e), fun i H x H' e => h.yld i H x H' (s.trans e), fun H e => h.stop H (s.trans e)⟩
theorem steady_l {K : PySem.W.Frag} {B : Hp} {a : Addr} {vs : List V} (h : SqL K B a vs) (inj : ∀ H xs, Same B H → SqL K H a xs → xs = vs) : Steady (Itl K a) B vs where
  go := fun i H e hi => ⟨vs, vs[i], e.seq h, List.getElem?_eq_getElem hi⟩
  yld := fun i H x H' e hi q => ⟨q.1, q.2 vs (e.seq h)⟩
  stop := fun H e => ⟨vs, e.seq h, Nat.le_refl _⟩
theorem steady_l' {K : PySem.W.Frag} {B : Hp} {a : Addr} {vs : List V} (h : SqL K B a vs) : Steady (Itl K a) B vs where
  go := fun i H e hi => ⟨vs, vs[i], e.seq h, List.getElem?_eq_getElem hi⟩
  yld := fun i H x H' e hi q => ⟨q.1, q.2 vs (e.seq h)⟩
  stop := fun H e => ⟨vs, e.seq h, Nat.le_refl _⟩
theorem steady_t {K : PySem.W.Frag} {B : Hp} {a : Addr} {vs : List V} (h : SqT K B a vs) : Steady (Itt K a) B vs where
  go := fun i H e hi => ⟨vs, vs[i], Same.seqT e h, List.getElem?_eq_getElem hi⟩
  yld := fun i H x H' e hi q => ⟨q.1, q.2 vs (Same.seqT e h)⟩
  stop := fun H e => ⟨vs, Same.seqT e h, Nat.le_refl _⟩
def rngI (lo : Int) (n : Nat) : List Int := (List.range n).map fun i => lo + (i : Nat)
theorem steady_r {B : Hp} {lo : Int} {n : Nat} : Steady (Itr lo n) B ((rngI lo n).map V.int) where
  go := fun i H e hi => by
    simp only [rngI, List.length_map, List.length_range] at hi
    exact hi
  yld := fun i H x H' e hi q => by
    simp only [rngI, List.length_map, List.length_range] at hi
    obtain ⟨q1, q2⟩ := q
    refine ⟨q1, ?_⟩
    rw [q2, List.getElem?_map, rngI, List.getElem?_map, List.getElem?_range hi]
    rfl
  stop := fun H e => by
    show n ≤ _
    simp [rngI]
def chrs (s : Str) : List Str := s.cps.toList.map fun c => ⟨#[c]⟩
theorem steady_s {B : Hp} {s : Str} : Steady (Its s) B ((chrs s).map V.str) where
  go := fun i H e hi => by
    simp [chrs] at hi
    exact hi
  yld := fun i H x H' e hi q => by
    simp [chrs] at hi
    obtain ⟨q1, c, q2, q3⟩ := q
    refine ⟨q1, ?_⟩
    rw [q3, List.getElem?_map, chrs, List.getElem?_map, Array.getElem?_toList, q2]
    rfl
  stop := fun H e => by
    show s.cps.size ≤ _
    simp [chrs]
abbrev MI := Env → Rs (List D)
def PostI (G : Cfg) (W : WX) (n t : Nat) (B H : Hp) (ow : Ow) (σ : L2.St) (r : Rs (List D)) (R : It → Hp → Prop) : Prop := match r with
  | .ok ds ρ' => ∀ J vs B' H' ow', Stp n B H ow B' H' ow' → Sim G B' H' ow' σ ρ' → Bd ow' t → Steady J B' vs → FzL G B' vs ds → R J H'
  | .ex c ρ' => PostX G W n B H ow σ c ρ'
  | .bad => False
def tDI (G : Cfg) (W : WX) (m : MI) : TI := fun σ H R => ∃ B ow ρ t, Sim G B H ow σ ρ ∧ Bd ow t ∧ ρ.length ≤ t ∧ PostI G W ρ.length t B H ow σ (m ρ) R
theorem _root_.L2.PI.up {X : Cx} {tg e : Expr} {t t' : TI} (h : PI X tg e t) (k : ∀ σ H Q, t' σ H Q → t σ H Q) : PI X tg e t' := ⟨fun pins s σ H Q I q => h.run pins s σ H Q I (k σ H Q q)⟩
/-- the items of a thing -/
def D.items : D → Option (List D)
  | .node _ k ds => if k.seq = true then some ds else none
  | .str s => some ((chrs s).map .str)
  | _ => none
def mItems (m : ME) : MI := fun ρ => (m ρ).bind fun o ρ1 => match esc o ρ1 with
  | none => .bad
  | some (d, ρ2) => match d.frz.items with
    | none => .bad
    | some ds => .ok ds ρ2
/-- a list, a tuple or a text -/
def iAny (K : PySem.W.Frag) (te : TE) : TI := fun σ H R => te σ H fun x H1 => (∃ a xs, x = .ref a ∧ SqL K H1 a xs ∧ R (Itl K a) H1) ∨ (∃ a xs, x = .ref a ∧ SqT K H1 a xs ∧ R (Itt K a) H1) ∨ ∃ z, x = .str z ∧ R (Its z) H1
section
variable {X : Cx} {tg : Expr}
theorem new_it {pins : List (Addr × Obj)} {σ : L2.St} {H : Hp} {s : Shared} {o : Obj} (I : Inv X pins σ H s) : Inv X pins σ H { s with heap := s.heap.push o } ∧ ∀ b ∈ [s.heap.objs.size], FpOk X pins H b :=
  ⟨I.kept (t' := s.toks) fun b u e => Heap.get?_push_of_some _ e, fun b hb => by
    rw [List.mem_singleton] at hb
    rw [hb]
    exact I.fpOk (Nat.le_refl _) (I.hok.fresh (Nat.le_refl _))⟩
theorem pi_any {l : Expr} {te : TE} (hl : PE X l te) : PI X tg l (iAny X.K te) := ⟨fun pins s σ H R I h => by
  refine thn (hl.run pins s σ H _ I h) fun v s1 hv => ?_
  obtain ⟨x, H1, I1, rv, q⟩ := hv
  rcases q with ⟨a, xs, rfl, hq, q⟩ | ⟨a, xs, rfl, hq, q⟩ | ⟨z, rfl, q⟩
  · cases rv
    obtain ⟨its, _, pl, _⟩ := I1.list hq
    obtain ⟨I2, f2⟩ := new_it (o := { cls := .type "list_iterator", data := .fields #[.ref a, .int 0 0] }) I1
    exact wpAny_pyIter_list pl.isList ⟨_, _, _, _, H1, rfl, I2, turn_list a _, ⟨_, Heap.get?_push_size _ rfl, rfl, rfl⟩, f2, q⟩
  · cases rv
    obtain ⟨its, _, pl, _⟩ := I1.tuple hq
    obtain ⟨I2, f2⟩ := new_it (o := { cls := .type "tuple_iterator", data := .fields #[.ref a, .int 0 0] }) I1
    exact wpAny_pyIter_tuple (show s1.heap.IsTuple a its.toArray from pl) ⟨_, _, _, _, H1, rfl, I2, turn_tuple a _, ⟨_, Heap.get?_push_size _ rfl, rfl, rfl⟩, f2, q⟩
  · obtain ⟨u, rfl⟩ := rv
    by_cases ha : z.cps.all (· < 128) = true
    · exact wpAny_pyIter_ascii ha (pi_one (tk := s1.toks) I1 _ (turn_str _ z u _ (.inl rfl)) ⟨_, Heap.get?_push_size _ rfl, rfl, rfl⟩ q)
    · exact wpAny_pyIter_wide (by simpa using ha) (pi_one (tk := s1.toks) I1 _ (turn_str _ z u _ (.inr rfl)) ⟨_, Heap.get?_push_size _ rfl, rfl, rfl⟩ q)⟩
end
section
variable {G : Cfg} {W : WX} {n t np : Nat} {B H B' H' B1 H1 B2 H2 B3 H3 : Hp} {ow ow' ow1 ow2 ow3 : Ow} {σ : L2.St} {ρ ρ' ρ1 ρ2 : Env} {v : V} {X : Cx} {E : Ends}
theorem FzL.chars : ∀ (cs : List Str), FzL G B (cs.map V.str) (cs.map D.str)
  | [] => .nil
  | _ :: r => .cons (Fz.sv rfl) (FzL.chars r)
theorem i_any {e tg : Expr} {m : ME} (hK : G.K = X.K) (h : PE X e (tD G W m)) : PI X tg e (tDI G W (mItems m)) := (pi_any h).up fun σ H R q => by
  obtain ⟨B, ow, ρ, t, S, hb, hn, P⟩ := q
  refine ⟨B, ow, ρ, t, S, hb, hn, ?_⟩
  unfold mItems at P
  cases e : m ρ with
  | bad => rw [e] at P; exact P
  | ex c ρ1 => rw [e] at P; exact P
  | ok o ρ1 =>
    rw [e, Rs.bind_ok] at P
    intro v B1 H1 ow1 s1 S1 b1 r1
    have hl := S.len2 S1
    cases e1 : esc o ρ1 with
    | none => simp only [e1] at P; exact P.elim
    | some x =>
      obtain ⟨d, ρ2⟩ := x
      simp only [e1] at P
      obtain ⟨B2, ow2, s2, S2, b2, r2⟩ := esc_ok S1 b1 r1 e1
      rw [hl] at s2
      have hl2 := S1.len2 S2
      cases e2 : d.frz.items with
      | none => simp only [e2] at P; exact P.elim
      | some ds =>
        simp only [e2] at P
        have S3 := S2.frzT (t := t) (by omega)
        have fz := r2.freeze (frzB_same S2.lab) (from_hi (Nat.le_refl t))
        have P2 := fun J vs => P J vs _ H1 _ (Stp.frz S2 (s1.trans s2) hb fun i h => .inr (of_decide_eq_true h)) S3 cutO_bd
        rw [← hK]
        cases d with
        | str s =>
          simp only [D.frz, D.items, Option.some.injEq] at e2
          subst e2
          cases fz.2
          exact .inr (.inr ⟨s, rfl, P2 _ _ steady_s (FzL.chars _)⟩)
        | node o k es =>
          rw [D.frz] at fz e2
          simp only [D.items] at e2
          split at e2
          · rename_i c
            cases e2
            obtain ⟨z1, z2⟩ := fz
            rw [Rg] at z2
            obtain ⟨a, xs, rfl, ha, ka⟩ := z2
            rw [D.fz] at z1
            simp only [Bool.not_false, Bool.true_and] at z1
            have kf : FzL G (frzB B2 H1 ow2 (from_ t)) xs (D.frzs es) := ⟨z1, ka⟩
            rcases seqB ha (Kd.seq_or c) with q | q
            · exact .inl ⟨a, xs, rfl, S3.same.seq q, P2 _ xs (steady_l' q) kf⟩
            · exact .inr (.inl ⟨a, xs, rfl, Same.seqT S3.same q, P2 _ xs (steady_t q) kf⟩)
          · cases e2
        | non => simp [D.frz, D.items] at e2
        | bl b => simp [D.frz, D.items] at e2
        | int i => simp [D.frz, D.items] at e2
        | exn c => simp [D.frz, D.items] at e2
/-! ### ranges -/
def vInt : Opn → Option Int
  | .val (.int i) => some i
  | _ => none
def mRng1 (m : ME) : MI := fun ρ => (m ρ).bind fun o ρ1 => match vInt o with
  | some j => if -(2 ^ 62) ≤ j ∧ j < 2 ^ 62 then .ok ((rngI 0 j.toNat).map .int) ρ1 else .bad
  | none => .bad
def mRng2 (m1 m2 : ME) : MI := fun ρ => (m1 ρ).bind fun o1 ρ1 => (m2 ρ1).bind fun o2 ρ2 => match vInt o1, vInt o2 with
  | some i, some j => if -(2 ^ 62) ≤ i ∧ i < 2 ^ 62 ∧ -(2 ^ 62) ≤ j ∧ j < 2 ^ 62 then .ok ((rngI i (j - i).toNat).map .int) ρ2 else .bad
  | _, _ => .bad
theorem vInt_some {o : Opn} {i : Int} (h : vInt o = some i) : o = .val (.int i) := by
  unfold vInt at h
  split at h
  · cases h; rfl
  · cases h
theorem i_rng1 {a tg : Expr} {p pos : Pos} {m : ME} (hg : Gl X "range") (hm : X.mg "range" = none) (h : PE X a (tD G W m)) (hs : starEach [a] X.env = [(false, eval a X.env)] := by rfl) :
    PI X tg (.Call (.Name "range" p) [a] [] pos) (tDI G W (mRng1 m)) := (pi_range1 hg hm (pa_cons h pa_nil (by rw [hs]; rfl)) hs).up fun σ H R q => by
  obtain ⟨B, ow, ρ, t, S, hb, hn, P⟩ := q
  refine ⟨B, ow, ρ, t, S, hb, hn, ?_⟩
  unfold mRng1 at P
  cases e : m ρ with
  | bad => rw [e] at P; exact P
  | ex c ρ1 => rw [e] at P; exact P
  | ok o ρ1 =>
    rw [e, Rs.bind_ok] at P
    intro v B1 H1 ow1 s1 S1 b1 r1
    have hl := S.len2 S1
    cases e1 : vInt o with
    | none => simp only [e1] at P; exact P.elim
    | some j =>
      simp only [e1] at P
      have := vInt_some e1
      subst this
      cases (show v = .int j from r1)
      split at P
      · rename_i c
        refine ⟨j, rfl, c.1, c.2, P _ _ _ H1 _ (Stp.frz S1 s1 hb fun i h => .inr (of_decide_eq_true h)) (S1.frzT (t := t) (by omega)) cutO_bd steady_r (FzL.ints _)⟩
      · exact P.elim
theorem i_rng2 {a b tg : Expr} {p pos : Pos} {m1 m2 : ME} (hg : Gl X "range") (hm : X.mg "range" = none) (h1 : PE X a (tD G W m1)) (h2 : PE X b (tD G W m2)) (hs : starEach [a, b] X.env = [(false, eval a X.env), (false, eval b X.env)] := by rfl) (hs2 : starEach [b] X.env = [(false, eval b X.env)] := by rfl) :
    PI X tg (.Call (.Name "range" p) [a, b] [] pos) (tDI G W (mRng2 m1 m2)) := (pi_range2 hg hm (pa_cons h1 (pa_cons h2 pa_nil (by rw [hs2]; rfl)) (by rw [hs, hs2])) hs hs2).up fun σ H R q => by
  obtain ⟨B, ow, ρ, t, S, hb, hn, P⟩ := q
  refine ⟨B, ow, ρ, t, S, hb, hn, ?_⟩
  unfold mRng2 at P
  cases e : m1 ρ with
  | bad => rw [e] at P; exact P
  | ex c ρ1 => rw [e] at P; exact P
  | ok o ρ1 =>
    rw [e, Rs.bind_ok] at P
    intro v B1 H1 ow1 s1 S1 b1 r1
    have hl := S.len2 S1
    refine ⟨B1, ow1, ρ1, t + 1, S1, b1, by omega, ?_⟩
    cases e2 : m2 ρ1 with
    | bad => rw [e2] at P; exact P
    | ex c ρ2 => rw [e2] at P; rw [hl]; exact PostX.step s1 P
    | ok o2 ρ2 =>
      rw [e2, Rs.bind_ok] at P
      intro w B2 H2 ow2 s2 S2 b2 r2
      rw [hl] at s2
      have hl2 := S1.len2 S2
      cases q1 : vInt o with
      | none => simp only [q1] at P; exact P.elim
      | some i =>
        cases q2 : vInt o2 with
        | none => simp only [q1, q2] at P; exact P.elim
        | some j =>
          simp only [q1, q2] at P
          have := vInt_some q1
          subst this
          have := vInt_some q2
          subst this
          cases (show v = .int i from r1)
          cases (show w = .int j from r2)
          split at P
          · rename_i c
            refine ⟨i, j, rfl, c, P _ _ _ H2 _ (Stp.frz S2 (s1.trans s2) hb fun i h => .inr (of_decide_eq_true h)) (S2.frzT (t := t) (by omega)) cutO_bd steady_r (FzL.ints _)⟩
          · exact P.elim
/-! ## targets -/
abbrev MG := D → Env → Option Env
/-- a target stores a frozen thing in the slots of l -/
def TgOk (G : Cfg) (l : List Nat) (g : TG) (tg : MG) : Prop :=
  ∀ (v : V) (d : D) (σ : L2.St) (ρ ρ1 : Env) (B H : Hp) (ow : Ow) (Q : L2.St → Hp → Prop), Sim G B H ow σ ρ → Fz G B v d → tg d ρ = some ρ1 →
    (∀ σ1 ow1, Stp ρ.length B H ow B H ow1 → Sim G B H ow1 σ1 ρ1 → σ1.length = σ.length → (∀ i, i ∉ l → σ1[i]? = σ[i]?) → (∀ a i p, ow1 a = some (i, p) → ow a = some (i, p)) → (∀ a i p, ow a = some (i, p) → i ∉ l → ow1 a = some (i, p)) → Q σ1 H) → g v σ H Q
def tgName (i : Nat) : MG := fun d ρ => if i < ρ.length then some (ρ.set i (some d)) else none
def dropO (ow : Ow) (i : Nat) : Ow := fun a => match ow a with
  | some (j, p) => if j = i then none else some (j, p)
  | none => none
theorem dropO_some {i : Nat} {a : Addr} {j : Nat} {p : List Nat} (h : dropO ow i a = some (j, p)) : ow a = some (j, p) ∧ j ≠ i := by
  unfold dropO at h
  cases e : ow a with
  | none => rw [e] at h; cases h
  | some l =>
    obtain ⟨k, q⟩ := l
    rw [e] at h
    simp only at h
    split at h
    · cases h
    · rename_i c; cases h; exact ⟨rfl, c⟩
theorem dropO_of {i : Nat} {a : Addr} {j : Nat} {p : List Nat} (h : ow a = some (j, p)) (hj : j ≠ i) : dropO ow i a = some (j, p) := by
  unfold dropO
  rw [h]
  simp only
  rw [if_neg hj]
theorem Rp.drop {i j : Nat} {d : D} (hj : j ≠ i) (h : Rp G B H ow j v d) : Rp G B H (dropO ow i) j v d := h.shift d fun s o k a vs z => by
  unfold RpN at z ⊢
  split
  · rename_i ho
    rw [if_pos ho] at z
    exact ⟨dropO_of z.1 hj, z.2⟩
  · rename_i ho
    rw [if_neg ho] at z
    exact z
theorem tg_name {i : Nat} (hx : fxOk G.fx i) : TgOk G [i] (gName i) (tgName i) := by
  intro v d σ ρ ρ1 B H ow Q S hz e k
  unfold tgName at e
  split at e
  · rename_i hi
    cases e
    refine k _ (dropO ow i) ⟨Same.refl _, fun _ _ h _ => h, fun a j p h hn => ⟨dropO_of h (by omega), rfl⟩, fun _ _ h => .inl h, fun a ⟨j, p⟩ h => .inr ⟨_, (dropO_some h).1⟩, fun _ h => h⟩ ⟨S.same, fun a ⟨j, p⟩ h => S.lab a _ (dropO_some h).1, by rw [List.length_set, List.length_set]; exact S.len, fun j d' e' => ?_, fun q hq => ?_⟩ (by rw [List.length_set]) (fun j hj => by rw [List.getElem?_set_ne (by simpa using Ne.symm (by simpa using hj))]) (fun a j p h => (dropO_some h).1) (fun a j p h hj => dropO_of h (by simpa using hj))
    · by_cases hj : j = i
      · subst hj
        rw [List.getElem?_set_self hi] at e'
        cases e'
        exact ⟨v, List.getElem?_set_self (by rw [S.len]; exact hi), hz.rp⟩
      · rw [List.getElem?_set_ne (Ne.symm hj)] at e'
        obtain ⟨w, e1, rr⟩ := S.slot j d' e'
        exact ⟨w, by rw [List.getElem?_set_ne (Ne.symm hj)]; exact e1, rr.drop hj⟩
    · rw [List.getElem?_set_ne (Ne.symm (hx q hq))]
      exact S.fix q hq
  · cases e
/-- (a, b, ..) -/
def tgsNil : List D → Env → Option Env := fun ds ρ => if ds.isEmpty = true then some ρ else none
def tgsCons (t : MG) (u : List D → Env → Option Env) : List D → Env → Option Env := fun ds ρ => match ds with
  | [] => none
  | d :: r => match t d ρ with
    | none => none
    | some ρ1 => u r ρ1
def tgTup (n : Nat) (u : List D → Env → Option Env) : MG := fun d ρ => match d with
  | .node _ .tup ds => if ds.length = n then u ds ρ else none
  | _ => none
def TgsOk (G : Cfg) (l : List Nat) (g : TGs) (tg : List D → Env → Option Env) : Prop :=
  ∀ (vs : List V) (ds : List D) (σ : L2.St) (ρ ρ1 : Env) (B H : Hp) (ow : Ow) (Q : L2.St → Hp → Prop), Sim G B H ow σ ρ → FzL G B vs ds → tg ds ρ = some ρ1 →
    (∀ σ1 ow1, Stp ρ.length B H ow B H ow1 → Sim G B H ow1 σ1 ρ1 → σ1.length = σ.length → (∀ i, i ∉ l → σ1[i]? = σ[i]?) → (∀ a i p, ow1 a = some (i, p) → ow a = some (i, p)) → (∀ a i p, ow a = some (i, p) → i ∉ l → ow1 a = some (i, p)) → Q σ1 H) → g vs σ H Q
theorem tgs_nil : TgsOk G [] gNil tgsNil := by
  intro vs ds σ ρ ρ1 B H ow Q S hz e k
  unfold tgsNil at e
  split at e
  · rename_i c
    cases e
    cases ds with
    | nil => cases hz.2; exact ⟨rfl, k σ ow Stp.refl S rfl (fun _ _ => rfl) (fun _ _ _ h => h) (fun _ _ _ h _ => h)⟩
    | cons => cases c
  · cases e
theorem tgs_cons {l l' : List Nat} {g : TG} {gs : TGs} {t : MG} {u : List D → Env → Option Env} (h : TgOk G l g t) (h' : TgsOk G l' gs u) : TgsOk G (l ++ l') (gCons g gs) (tgsCons t u) := by
  intro vs ds σ ρ ρ1 B H ow Q S hz e k
  unfold tgsCons at e
  cases ds with
  | nil => cases e
  | cons d r =>
    simp only at e
    cases e1 : t d ρ with
    | none => rw [e1] at e; cases e
    | some ρ2 =>
      simp only [e1] at e
      obtain ⟨v, vr, rfl, z1, z2⟩ := hz.uncons
      refine ⟨v, vr, rfl, h v d σ ρ ρ2 B H ow _ S z1 e1 fun σ1 ow1 s1 S1 l1 k1 o1 p1 => h' vr r σ1 ρ2 ρ1 B H ow1 Q S1 z2 e fun σ2 ow2 s2 S2 l2 k2 o2 p2 => ?_⟩
      have hl : ρ2.length = ρ.length := by rw [← S1.len, l1, S.len]
      rw [hl] at s2
      exact k σ2 ow2 (s1.trans s2) S2 (l2.trans l1) (fun i hi => by
        rw [List.mem_append, not_or] at hi
        rw [k2 i hi.2, k1 i hi.1]) (fun a i p h => o1 a i p (o2 a i p h)) (fun a i p h hi => by
        rw [List.mem_append, not_or] at hi
        exact p2 a i p (p1 a i p h hi.1) hi.2)
theorem tg_tup {l : List Nat} {n : Nat} {gs : TGs} {u : List D → Env → Option Env} (h : TgsOk G l gs u) : TgOk G l (gTup G.K n gs) (tgTup n u) := by
  intro v d σ ρ ρ1 B H ow Q S hz e k
  unfold tgTup at e
  split at e
  · rename_i o ds
    split at e
    · rename_i c
      obtain ⟨z1, z2⟩ := hz
      rw [Rg] at z2
      obtain ⟨a, xs, rfl, ha, ka⟩ := z2
      rw [D.fz] at z1
      simp only [Bool.and_eq_true] at z1
      have kf : FzL G B xs ds := ⟨z1.2, ka⟩
      exact ⟨a, xs, rfl, Same.seqT S.same ha, by rw [kf.length]; exact c, h xs ds σ ρ ρ1 B H ow Q S kf e k⟩
    · cases e
  · cases e
end
end DL

namespace DL
open PySem PySem.Spec L2

/-! ## loops -/
def mWhileN (c : MT) (mb : MS) : Nat → MS
  | 0 => fun _ => .bad
  | k + 1 => fun ρ => match c ρ with
    | .ok b ρ1 => if b = true then (match mb ρ1 with
      | .nx ρ2 => mWhileN c mb k ρ2
      | .ct ρ2 => mWhileN c mb k ρ2
      | .bk ρ2 => .nx ρ2
      | o => o) else .nx ρ1
    | .ex c ρ1 => .ex c ρ1
    | .bad => .bad
def mWhile (c : MT) (mb : MS) : MS := mWhileN c mb 1000000000
def forL (tg : MG) (mb : MS) : List D → MS
  | [] => fun ρ => .nx ρ
  | d :: ds => fun ρ => match tg d ρ with
    | none => .bad
    | some ρ1 => match mb ρ1 with
      | .nx ρ2 => forL tg mb ds ρ2
      | .ct ρ2 => forL tg mb ds ρ2
      | .bk ρ2 => .nx ρ2
      | o => o
def mFor (mi : MI) (tg : MG) (mb : MS) : MS := fun ρ => match mi ρ with
  | .ok ds ρ1 => forL tg mb ds ρ1
  | .ex c ρ1 => .ex c ρ1
  | .bad => .bad
section
variable {G : Cfg} {W : WX} {n t np : Nat} {B H B' H' B1 H1 B2 H2 B3 H3 : Hp} {ow ow' ow1 ow2 ow3 : Ow} {σ : L2.St} {ρ ρ' ρ1 ρ2 : Env} {v : V} {X : Cx} {E : Ends}
theorem s_while {c : Expr} {body : List Stmt} {pos : Pos} {mc : MT} {mb : MS} (hp : PassesOwn (model X.prog X.w) X.A X.env X.xe) (hc : PT X c (tDT G W mc)) (hb : PSs X body (tDS G W mb)) : PS X (.While c body [] pos) (tDS G W (mWhile mc mb)) := (ps_while hp hc hb).up fun E σ H q => by
  obtain ⟨B, ow, ρ, S, hb, P⟩ := q
  refine ⟨fun m σ' H' => ∃ B' ow' ρ', Stp ρ.length B H ow B' H' ow' ∧ Sim G B' H' ow' σ' ρ' ∧ σ'.length = ρ.length ∧ Bd ow' ρ.length ∧ PostS G W ρ.length B H ow (mWhileN mc mb m ρ') E, ⟨_, B, ow, ρ, Stp.refl, S, S.len, hb, P⟩, ?_⟩
  rintro m σ' H' ⟨B', ow', ρ', s', S', l', b', P'⟩
  cases m with
  | zero => exact P'.elim
  | succ k =>
    have hl : ρ'.length = ρ.length := by rw [← S'.len, l']
    refine ⟨B', ow', ρ', ρ'.length, S', by rw [hl]; exact b', Nat.le_refl _, ?_⟩
    rw [hl]
    unfold mWhileN at P'
    cases e : mc ρ' with
    | bad => rw [e] at P'; exact P'
    | ex c ρ1 => rw [e] at P'; exact fun x d B2 H2 ow2 s2 S2 e => P' x d σ' B2 H2 ow2 (s'.trans s2) S2 l' e
    | ok b ρ1 =>
      rw [e] at P'
      intro B1 H1 ow1 s1 S1 b1
      have hl1 : ρ1.length = ρ.length := by rw [← S1.len, l']
      simp only at P'
      cases b with
      | false =>
        rw [if_neg Bool.false_ne_true] at P' ⊢
        exact P' σ' B1 H1 ow1 (s'.trans s1) S1 l' b1
      | true =>
        rw [if_pos rfl] at P' ⊢
        refine ⟨fun σ2 H2 => ∃ B2 ow2 ρ2, Stp ρ.length B H ow B2 H2 ow2 ∧ Sim G B2 H2 ow2 σ2 ρ2 ∧ σ2.length = ρ.length ∧ Bd ow2 ρ.length ∧ PostS G W ρ.length B H ow (mWhileN mc mb k ρ2) E, fun σ2 H2 h => ⟨k, Nat.lt_succ_self k, h⟩, B1, ow1, ρ1, S1, by rw [hl1]; exact b1, ?_⟩
        rw [hl1]
        have s01 := s'.trans s1
        cases e2 : mb ρ1 with
        | bad => rw [e2] at P'; exact P'
        | nx ρ2 => rw [e2] at P'; exact fun σ2 B2 H2 ow2 s2 S2 l2 b2 => ⟨B2, ow2, ρ2, s01.trans s2, S2, l2, b2, P'⟩
        | ct ρ2 => rw [e2] at P'; exact fun σ2 B2 H2 ow2 s2 S2 l2 b2 => ⟨B2, ow2, ρ2, s01.trans s2, S2, l2, b2, P'⟩
        | bk ρ2 => rw [e2] at P'; exact fun σ2 B2 H2 ow2 s2 S2 l2 b2 => P' σ2 B2 H2 ow2 (s01.trans s2) S2 l2 b2
        | rt d ρ2 => rw [e2] at P'; exact fun v σ2 B2 H2 ow2 s2 S2 b2 r2 => P' v σ2 B2 H2 ow2 (s01.trans s2) S2 b2 r2
        | ex c ρ2 => rw [e2] at P'; exact fun x dd σ2 B2 H2 ow2 s2 S2 l2 e => P' x dd σ2 B2 H2 ow2 (s01.trans s2) S2 l2 e
theorem FzL.drop1 {vs : List V} {d : D} {ds : List D} {i : Nat} {all : List D} (h : FzL G B vs all) (e : all.drop i = d :: ds) : ∃ v, vs[i]? = some v ∧ Fz G B v d ∧ i < vs.length ∧ all.drop (i + 1) = ds := by
  have h1 : all[i]? = some d := by
    have := congrArg (fun l => l[0]?) e
    simp only [List.getElem?_drop, Nat.add_zero, List.getElem?_cons_zero] at this
    exact this
  obtain ⟨v, hv, hz⟩ := h.get h1
  refine ⟨v, hv, hz, (List.getElem?_eq_some_iff.mp hv).1, ?_⟩
  rw [← List.drop_drop, e]
  rfl
theorem post_for {mi : MI} {g : TG} {tg : MG} {l : List Nat} {mb : MS} (htg : TgOk G l g tg) (q : tDS G W (mFor mi tg mb) E σ H) : tFor (tDI G W mi) g (tDS G W mb) E σ H := by
  obtain ⟨B, ow, ρ, S, hb, P⟩ := q
  refine ⟨B, ow, ρ, ρ.length, S, hb, Nat.le_refl _, ?_⟩
  unfold mFor at P
  cases e : mi ρ with
  | bad => rw [e] at P; exact P
  | ex c ρ1 => rw [e] at P; exact fun x d B' H' ow' s' S' e => P x d σ B' H' ow' s' S' S.len e
  | ok ds ρ1 =>
    rw [e] at P
    intro J vs B1 H1 ow1 s1 S1 b1 st fz
    refine ⟨fun i m σ' H' => m = ds.length - i ∧ i ≤ ds.length ∧ ∃ B' ow' ρ', Stp ρ.length B H ow B' H' ow' ∧ Same B1 B' ∧ Sim G B' H' ow' σ' ρ' ∧ σ'.length = ρ.length ∧ Bd ow' ρ.length ∧ PostS G W ρ.length B H ow (forL tg mb (ds.drop i) ρ') E,
      ⟨_, rfl, Nat.zero_le _, B1, ow1, ρ1, s1, Same.refl _, S1, S.len, b1, P⟩, ?_⟩
    rintro i m σ' H' ⟨em, hi, B', ow', ρ', s', sb, S', l', b', P'⟩
    have sH : Same B1 H' := sb.trans S'.same
    cases ed : ds.drop i with
    | nil =>
      left
      have : i = vs.length := by
        have := congrArg List.length ed
        rw [List.length_drop, List.length_nil] at this
        rw [fz.length]
        omega
      rw [this]
      rw [ed] at P'
      exact ⟨st.stop H' sH, P' σ' B' H' ow' s' S' l' b'⟩
    | cons d r =>
      right
      obtain ⟨v, hv, zv, hiv, er⟩ := fz.drop1 ed
      rw [ed] at P'
      refine ⟨st.go i H' sH hiv, fun σ2 H2 => ∃ B2 ow2 ρ2, Stp ρ.length B H ow B2 H2 ow2 ∧ Same B1 B2 ∧ Sim G B2 H2 ow2 σ2 ρ2 ∧ σ2.length = ρ.length ∧ Bd ow2 ρ.length ∧ PostS G W ρ.length B H ow (forL tg mb r ρ2) E,
        fun σ2 H2 h => ⟨ds.length - (i + 1), by rw [fz.length] at hiv; omega, rfl, by rw [fz.length] at hiv; omega, by rw [er]; exact h⟩, fun x H2 hy => ?_⟩
      obtain ⟨rfl, hx⟩ := st.yld i H' x H2 sH hiv hy
      rw [hv] at hx
      cases hx
      have hl : ρ'.length = ρ.length := by rw [← S'.len, l']
      rw [forL] at P'
      cases e3 : tg d ρ' with
      | none => simp only [e3] at P'; exact P'.elim
      | some ρ2 =>
        simp only [e3] at P'
        refine htg v d σ' ρ' ρ2 B' H2 ow' _ S' (zv.same sb) e3 fun σ3 ow3 s3 S3 l3 _ o3 _ => ?_
        rw [hl] at s3
        have hl3 : ρ2.length = ρ.length := by rw [← S3.len, l3, l']
        refine ⟨B', ow3, ρ2, S3, by rw [hl3]; exact fun a i p h => b' a i p (o3 a i p h), ?_⟩
        rw [hl3]
        have s03 := s'.trans s3
        cases e4 : mb ρ2 with
        | bad => rw [e4] at P'; exact P'
        | nx ρ4 => rw [e4] at P'; exact fun σ4 B4 H4 ow4 s4 S4 l4 b4 => ⟨B4, ow4, ρ4, s03.trans s4, sb.trans s4.sb, S4, l4, b4, P'⟩
        | ct ρ4 => rw [e4] at P'; exact fun σ4 B4 H4 ow4 s4 S4 l4 b4 => ⟨B4, ow4, ρ4, s03.trans s4, sb.trans s4.sb, S4, l4, b4, P'⟩
        | bk ρ4 => rw [e4] at P'; exact fun σ4 B4 H4 ow4 s4 S4 l4 b4 => P' σ4 B4 H4 ow4 (s03.trans s4) S4 l4 b4
        | rt d ρ4 => rw [e4] at P'; exact fun v σ4 B4 H4 ow4 s4 S4 b4 r4 => P' v σ4 B4 H4 ow4 (s03.trans s4) S4 b4 r4
        | ex c ρ4 => rw [e4] at P'; exact fun x dd σ4 B4 H4 ow4 s4 S4 l4 e => P' x dd σ4 B4 H4 ow4 (s03.trans s4) S4 l4 e
/-! ## list comprehensions -/
def wipeE (ρ : Env) : List Nat → Env
  | [] => ρ
  | v :: vs => (wipeE ρ vs).set v none
/-- behind it: the block's own names as they were -/
def restE (vs : List Nat) : Nat → Env → Env → Env
  | i, o :: ρ0, o' :: ρ => (if vs.contains i = true then o else o') :: restE vs (i + 1) ρ0 ρ
  | _, _, _ => []
def okOld (vs : List Nat) (ρ : Env) : Bool := vs.all fun i => match ρ[i]? with
  | some (some d) => d.fz
  | _ => true
def lcL (tg : MG) (vs : List Nat) (mt : MT) (me : ME) : List D → List D → Env → Rs (List D)
  | acc, [], ρ => .ok acc ρ
  | acc, d :: ds, ρ => match tg d (wipeE ρ vs) with
    | none => .bad
    | some ρ1 => match mt ρ1 with
      | .ok b ρ2 => if b = true then (match me ρ2 with
        | .ok o ρ3 => match esc o ρ3 with
          | some (y, ρ4) => if acc.length < 16777216 then lcL tg vs mt me (acc ++ [y]) ds ρ4 else .bad
          | none => .bad
        | _ => .bad) else lcL tg vs mt me acc ds ρ2
      | _ => .bad
def mLc (mi : MI) (tg : MG) (vs : List Nat) (mt : MT) (me : ME) : ME := fun ρ => (mi ρ).bind fun ds ρ1 => if okOld vs ρ1 = true then (match lcL tg vs mt me [] ds ρ1 with
  | .ok acc ρ2 => .ok (.val (.node true .lst acc)) (restE vs 0 ρ1 ρ2)
  | _ => .bad) else .bad

structure Stq (n u : Nat) (B H : Hp) (ow : Ow) (B' H' : Hp) (ow' : Ow) : Prop where
  sb : Same B B'
  keepU : ∀ a o, H a = some o → ow a = none → H' a = some o
  keepP : ∀ a i p, ow a = some (i, p) → n ≤ i → i < u → ow' a = some (i, p) ∧ H' a = H a
  newB : ∀ a o, B' a = some o → B a = some o ∨ H a = none ∨ ∃ i p, (i < n ∨ u ≤ i) ∧ ow a = some (i, p)
  newO : ∀ a l, ow' a = some l → H a = none ∨ ∃ l0, ow a = some l0
  old : ∀ a, H a ≠ none → H' a ≠ none
theorem Stp.q {u : Nat} (s : Stp n B H ow B1 H1 ow1) : Stq n u B H ow B1 H1 ow1 :=
  ⟨s.sb, s.keepU, fun a i p h h1 _ => s.keepP a i p h h1, fun a o h => by
    rcases s.newB a o h with q | q | ⟨i, p, q1, q2⟩
    · exact .inl q
    · exact .inr (.inl q)
    · exact .inr (.inr ⟨i, p, .inl q1, q2⟩), s.newO, s.old⟩
theorem Stq.p {u : Nat} (hb : Bd ow u) (s : Stq n u B H ow B1 H1 ow1) : Stp n B H ow B1 H1 ow1 :=
  ⟨s.sb, s.keepU, fun a i p h h1 => s.keepP a i p h h1 (hb a i p h), fun a o h => by
    rcases s.newB a o h with q | q | ⟨i, p, q1, q2⟩
    · exact .inl q
    · exact .inr (.inl q)
    · exact .inr (.inr ⟨i, p, by have := hb a i p q2; omega, q2⟩), s.newO, s.old⟩
theorem Stq.trans {u : Nat} (a : Stq n u B H ow B1 H1 ow1) (b : Stq n u B1 H1 ow1 B2 H2 ow2) : Stq n u B H ow B2 H2 ow2 where
  sb := a.sb.trans b.sb
  keepU := fun x o h z => by
    refine b.keepU x o (a.keepU x o h z) ?_
    cases e : ow1 x with
    | none => rfl
    | some l =>
      rcases a.newO x l e with q | ⟨l0, q⟩
      · rw [h] at q; cases q
      · rw [z] at q; cases q
  keepP := fun x i p h hn hu => by
    obtain ⟨h1, e1⟩ := a.keepP x i p h hn hu
    obtain ⟨h2, e2⟩ := b.keepP x i p h1 hn hu
    exact ⟨h2, e2.trans e1⟩
  newB := fun x o h => by
    rcases b.newB x o h with q | q | ⟨i, p, hi, q⟩
    · exact a.newB x o q
    · right; left
      cases e : H x with
      | none => rfl
      | some w => exact absurd q (a.old x (by rw [e]; exact nofun))
    · rcases a.newO x _ q with z | ⟨⟨j, p'⟩, z⟩
      · exact .inr (.inl z)
      · right; right
        refine ⟨j, p', ?_, z⟩
        by_cases hj : n ≤ j ∧ j < u
        · obtain ⟨e, _⟩ := a.keepP x j p' z hj.1 hj.2
          rw [q] at e
          cases e
          exact hi
        · omega
  newO := fun x l h => by
    rcases b.newO x l h with q | ⟨l0, q⟩
    · left
      cases e : H x with
      | none => rfl
      | some w => exact absurd q (a.old x (by rw [e]; exact nofun))
    · exact a.newO x l0 q
  old := fun x h => b.old x (a.old x h)
/-- what is pending stays, many -/
theorem Stp.rpl {r : Nat} {p : List Nat} {k : Nat} {vs : List V} {ds : List D} (s : Stp n B H ow B1 H1 ow1) (hr : n ≤ r) (h : RgL (RpN G B H ow r) p k vs ds) : RgL (RpN G B1 H1 ow1 r) p k vs ds := h.shift ds fun q o k a vs z => by
  unfold RpN at z ⊢
  split
  · rename_i ho
    rw [if_pos ho] at z
    obtain ⟨e1, e2⟩ := s.keepP a r _ z.1 hr
    exact ⟨e1, z.2.at e2⟩
  · rename_i ho
    rw [if_neg ho] at z
    exact z.same s.sb
theorem wipe_get {σ : L2.St} {i : Nat} : ∀ {vs : List Nat}, i ∉ vs → (wipe σ vs)[i]? = σ[i]?
  | [], _ => rfl
  | v :: vs, h => by
    rw [List.mem_cons, not_or] at h
    show ((wipe σ vs).set v none)[i]? = _
    rw [List.getElem?_set_ne (Ne.symm h.1), wipe_get h.2]
theorem wipe_in {σ : L2.St} {i : Nat} : ∀ {vs : List Nat}, i ∈ vs → i < σ.length → (wipe σ vs)[i]? = some none
  | [], h, _ => by cases h
  | v :: vs, h, hl => by
    show ((wipe σ vs).set v none)[i]? = _
    by_cases e : v = i
    · subst e
      rw [List.getElem?_set_self (by rw [wipe_length]; exact hl)]
    · rw [List.getElem?_set_ne e]
      exact wipe_in ((List.mem_cons.mp h).resolve_left (Ne.symm e)) hl
theorem wipeE_length : ∀ vs : List Nat, (wipeE ρ vs).length = ρ.length
  | [] => rfl
  | v :: vs => by rw [wipeE, List.length_set, wipeE_length vs]
theorem wipeE_get {i : Nat} : ∀ {vs : List Nat}, i ∉ vs → (wipeE ρ vs)[i]? = ρ[i]?
  | [], _ => rfl
  | v :: vs, h => by
    rw [List.mem_cons, not_or] at h
    rw [wipeE, List.getElem?_set_ne (Ne.symm h.1), wipeE_get h.2]
theorem wipeE_in {i : Nat} {d : D} : ∀ {vs : List Nat}, i ∈ vs → (wipeE ρ vs)[i]? ≠ some (some d)
  | [], h => by cases h
  | v :: vs, h => by
    rw [wipeE]
    by_cases e : v = i
    · subst e
      by_cases hl : v < (wipeE ρ vs).length
      · rw [List.getElem?_set_self hl]; exact nofun
      · rw [List.getElem?_eq_none (by rw [List.length_set]; omega)]; exact nofun
    · rw [List.getElem?_set_ne e]
      exact wipeE_in ((List.mem_cons.mp h).resolve_left (Ne.symm e))
theorem wipe_eq {σ σ' : L2.St} {vs : List Nat} (hl : σ'.length = σ.length) (h : ∀ i, i ∉ vs → σ'[i]? = σ[i]?) : wipe σ' vs = wipe σ vs := by
  apply List.ext_getElem?
  intro i
  by_cases hi : i ∈ vs
  · by_cases hl2 : i < σ.length
    · rw [wipe_in hi hl2, wipe_in hi (by rw [hl]; exact hl2)]
    · rw [List.getElem?_eq_none (by rw [wipe_length]; omega), List.getElem?_eq_none (by rw [wipe_length]; omega)]
  · rw [wipe_get hi, wipe_get hi, h i hi]
theorem Sim.wipe {vs : List Nat} (hx : ∀ i ∈ vs, fxOk G.fx i) (S : Sim G B H ow σ ρ) : Sim G B H ow (L2.wipe σ vs) (wipeE ρ vs) where
  same := S.same
  lab := S.lab
  len := by rw [wipe_length, wipeE_length]; exact S.len
  slot := fun i d e => by
    by_cases hi : i ∈ vs
    · exact absurd e (wipeE_in hi)
    · rw [wipeE_get hi] at e
      rw [wipe_get hi]
      exact S.slot i d e
  fix := fun q hq => by
    rw [wipe_get fun hi => hx _ hi q hq rfl]
    exact S.fix q hq
theorem restE_get {vs : List Nat} : ∀ {i j : Nat} {ρ0 ρ : Env} {d : D}, (restE vs i ρ0 ρ)[j]? = some (some d) → (vs.contains (i + j) = true ∧ ρ0[j]? = some (some d)) ∨ (vs.contains (i + j) = false ∧ ρ[j]? = some (some d))
  | i, j, o :: ρ0, o' :: ρ, d, h => by
    rw [restE] at h
    cases j with
    | zero =>
      simp only [List.getElem?_cons_zero, Option.some.injEq, Nat.add_zero] at h ⊢
      split at h
      · rename_i c; exact .inl ⟨c, h⟩
      · rename_i c; exact .inr ⟨by simpa using c, h⟩
    | succ j =>
      rw [List.getElem?_cons_succ] at h
      have := restE_get h
      rw [show i + 1 + j = i + (j + 1) by omega] at this
      simpa using this
  | _, _, [], _, _, h => by rw [restE] at h; simp at h; intro _ _ _ _ q; cases q
  | _, _, _ :: _, [], _, h => by rw [restE] at h; simp at h; intro _ _ _ _ _ q; cases q
theorem restE_length {vs : List Nat} : ∀ {i : Nat} {ρ0 ρ : Env}, ρ.length = ρ0.length → (restE vs i ρ0 ρ).length = ρ0.length
  | i, [], [], _ => by rw [restE]; intro _ _ _ _ q; cases q
  | i, o :: ρ0, o' :: ρ, h => by
    rw [restE, List.length_cons, List.length_cons, restE_length (by simpa using h)]
  | i, [], _ :: _, h => by cases h
  | i, _ :: _, [], h => by cases h
/-- nothing raised -/
abbrev Wno : WX := fun _ _ _ _ => False
/-- a pending list is made longer -/
theorem Sim.more {L : Addr} {o : HO} {u : Nat} {q : List Nat} (S : Sim G B H ow σ ρ) (hu : ρ.length ≤ u) (h : ow L = some (u, [])) : Sim G B (upd H L o) (mvO ow (u + 1) u q false) σ ρ where
  same := fun a x e => by
    have : a ≠ L := fun z => by
      rw [z] at e
      rw [(S.lab L _ h).1] at e
      cases e
    rw [upd_ne this]
    exact S.same a x e
  lab := fun a ⟨j, p⟩ e => by
    have : ∃ l, ow a = some l := by
      rcases mvO_some e with ⟨p', e, _⟩ | ⟨e, _⟩ <;> exact ⟨_, e⟩
    obtain ⟨l, e⟩ := this
    obtain ⟨h1, x, h2⟩ := S.lab a l e
    refine ⟨h1, ?_⟩
    by_cases z : a = L
    · rw [z]; exact ⟨_, upd_same⟩
    · rw [upd_ne z]; exact ⟨x, h2⟩
  len := S.len
  slot := fun i d e => by
    obtain ⟨v, e1, r⟩ := S.slot i d e
    have hi : i < ρ.length := (List.getElem?_eq_some_iff.mp e).1
    refine ⟨v, e1, r.shift d fun s o k a vs z => ?_⟩
    unfold RpN at z ⊢
    split
    · rename_i ho
      rw [if_pos ho] at z
      have ne : a ≠ L := fun q => by
        have := z.1
        rw [q, h] at this
        have := (Prod.mk.inj (Option.some.inj this)).1
        omega
      exact ⟨mvO_else z.1 (by omega) (by simp), z.2.at (upd_ne ne)⟩
    · rename_i ho
      rw [if_neg ho] at z
      exact z
  fix := S.fix
theorem Stq.more {L : Addr} {o : HO} {u : Nat} {q : List Nat} {x : HO} (hL : H L = some x) (h : ow L = some (u, [])) : Stq n u B H ow B (upd H L o) (mvO ow (u + 1) u q false) where
  sb := Same.refl _
  keepU := fun a y e z => by
    have : a ≠ L := fun c => by rw [c, h] at z; cases z
    rw [upd_ne this]
    exact e
  keepP := fun a i p e h1 h2 => by
    have : a ≠ L := fun c => by
      rw [c, h] at e
      have := (Prod.mk.inj (Option.some.inj e)).1
      omega
    exact ⟨mvO_else e (by omega) (by simp), upd_ne this⟩
  newB := fun _ _ e => .inl e
  newO := fun a ⟨j, p⟩ e => by
    rcases mvO_some e with ⟨p', e, _⟩ | ⟨e, _⟩ <;> exact .inr ⟨_, e⟩
  old := fun a e => by
    by_cases z : a = L
    · rw [z, upd_same]; exact nofun
    · rw [upd_ne z]; exact e
theorem kids_more {L : Addr} {u : Nat} {q : List Nat} {o : HO} {va : List V} {acc : List D} {k : Nat} (h : ow L = some (u, [])) (r : RgL (RpN G B H ow u) [] k va acc) : RgL (RpN G B (upd H L o) (mvO ow (u + 1) u q false) u) [] k va acc := by
  -- the items' own places are not L's
  have key : ∀ (ds : List D) (p : List Nat) (k : Nat) (vs : List V), RgL (RpN G B H ow u) p k vs ds → RgL (RpN G B (upd H L o) (mvO ow (u + 1) u q false) u) p k vs ds := by
    intro ds
    induction ds with
    | nil => intro p k vs h; exact h
    | cons d ds ih =>
      intro p k vs hh
      rw [RgL] at hh ⊢
      obtain ⟨v, r, rfl, h1, h2⟩ := hh
      refine ⟨v, r, rfl, h1.shift d fun s ob kk a vs z => ?_, ih p (k + 1) r h2⟩
      unfold RpN at z ⊢
      split
      · rename_i ho
        rw [if_pos ho] at z
        have ne : a ≠ L := fun c => by
          have := z.1
          rw [c, h] at this
          have := (Prod.mk.inj (Option.some.inj this)).2
          simp at this
        exact ⟨mvO_else z.1 (by omega) (by simp), z.2.at (upd_ne ne)⟩
      · rename_i ho
        rw [if_neg ho] at z
        exact z
  exact key acc [] k va r
theorem item_more {L : Addr} {u : Nat} {q : List Nat} {o : HO} {d : D} (h : ow L = some (u, [])) (r : Rp G B H ow (u + 1) v d) : Rg (RpN G B (upd H L o) (mvO ow (u + 1) u q false) u) q v d := r.shift d fun s ob kk a vs z => by
  unfold RpN at z ⊢
  split
  · rename_i ho
    rw [if_pos ho] at z
    have ne : a ≠ L := fun c => by
      have := z.1
      rw [c, h] at this
      have := (Prod.mk.inj (Option.some.inj this)).1
      omega
    exact ⟨mvO_r z.1, z.2.at (upd_ne ne)⟩
  · rename_i ho
    rw [if_neg ho] at z
    exact z
theorem post_lc {mi : MI} {g : TG} {tg : MG} {l vs : List Nat} {mt : MT} {me : ME} {Q : VK} (htg : TgOk G l g tg) (hl : ∀ i ∈ l, i ∈ vs) (hx : ∀ i ∈ vs, fxOk G.fx i) (q : tD G W (mLc mi tg vs mt me) σ H Q) :
    tLc (tDI G W mi) g (tDT G Wno mt) (tD G Wno me) vs σ H Q := by
  obtain ⟨B, ow, ρ, t, S, hb, hn, P⟩ := q
  refine ⟨B, ow, ρ, t, S, hb, hn, ?_⟩
  unfold mLc at P
  cases e : mi ρ with
  | bad => rw [e] at P; exact P
  | ex c ρ1 => rw [e] at P; exact P
  | ok ds ρ1 =>
    rw [e, Rs.bind_ok] at P
    intro J vs' B1 H1 ow1 s1 S1 b1 st fz L hL
    have hl1 := S.len2 S1
    by_cases ho : okOld vs ρ1 = true
    case neg => rw [if_neg ho] at P; exact P.elim
    rw [if_pos ho] at P
    cases eF : lcL tg vs mt me [] ds ρ1 with
    | bad => rw [eF] at P; exact P.elim
    | ex c ρF => rw [eF] at P; exact P.elim
    | ok accF ρF =>
      simp only [eF] at P
      refine ⟨fun i m H' => m = ds.length - i ∧ i ≤ ds.length ∧ ∃ B' ow' ρ' acc va, Stq ρ.length t B H ow B' H' ow' ∧ Same B1 B' ∧ Sim G B' H' ow' (L2.wipe σ vs) (wipeE ρ' vs) ∧ ρ'.length = ρ.length ∧ Bd ow' (t + 1) ∧ ow' L = some (t, []) ∧ H' L = some (.lst va) ∧
        RgL (RpN G B' H' ow' t) [] 0 va acc ∧ lcL tg vs mt me acc (ds.drop i) ρ' = .ok accF ρF, ⟨_, rfl, Nat.zero_le _, B1, putO ow1 L (t, []), ρ1, [], [], (s1.trans (Stp.newv S1 hL)).q, Same.refl _, (S1.newv hL).wipe hx, hl1, fun a i p h => ?_, putO_same, upd_same, rfl, eF⟩, ?_⟩
      · by_cases z : a = L
        · subst z; rw [putO_same] at h; cases h; omega
        · rw [putO_ne z] at h; have := b1 a i p h; omega
      rintro i m H' ⟨em, hi, B', ow', ρ', acc, va, sq, sb, S', l', b', oL, hL', kids, eq⟩
      have sH : Same B1 H' := sb.trans S'.same
      have hwl : (wipeE ρ' vs).length = ρ.length := by rw [wipeE_length, l']
      cases ed : ds.drop i with
      | nil =>
        left
        have hi2 : i = vs'.length := by
          have := congrArg List.length ed
          rw [List.length_drop, List.length_nil] at this
          rw [fz.length]
          omega
        rw [hi2]
        refine ⟨st.stop H' sH, ?_⟩
        rw [ed, lcL] at eq
        cases eq
        refine P (.ref L) B' H' ow' (sq.p hb) ⟨S'.same, S'.lab, ?_, fun j d e2 => ?_, S1.fix⟩ b' ?_
        · rw [restE_length (by rw [l', hl1]), hl1]; exact S.len
        · rcases restE_get e2 with ⟨c, e3⟩ | ⟨c, e3⟩
          · rw [Nat.zero_add] at c
            have hz : d.fz = true := by
              unfold okOld at ho
              rw [List.all_eq_true] at ho
              have := ho j (by simpa using c)
              rw [e3] at this
              exact this
            obtain ⟨w, hw, hr⟩ := S1.slot j d e3
            exact ⟨w, hw, ((hr.fz hz).same sb).rp⟩
          · rw [Nat.zero_add] at c
            have hj : j ∉ vs := by simpa using c
            obtain ⟨w, hw, hr⟩ := S'.slot j d (by rw [wipeE_get hj]; exact e3)
            rw [wipe_get hj] at hw
            exact ⟨w, hw, hr⟩
        · show Rg _ _ _ _
          rw [Rg]
          refine ⟨L, va, rfl, ?_, kids⟩
          unfold RpN
          rw [if_pos rfl]
          exact ⟨oL, hL'⟩
      | cons d r =>
        right
        obtain ⟨v, hv, zv, hiv, er⟩ := fz.drop1 ed
        rw [ed, lcL] at eq
        refine ⟨st.go i H' sH hiv, fun H2 => ∃ B2 ow2 ρ2 acc2 va2, Stq ρ.length t B H ow B2 H2 ow2 ∧ Same B1 B2 ∧ Sim G B2 H2 ow2 (L2.wipe σ vs) (wipeE ρ2 vs) ∧ ρ2.length = ρ.length ∧ Bd ow2 (t + 1) ∧ ow2 L = some (t, []) ∧ H2 L = some (.lst va2) ∧
          RgL (RpN G B2 H2 ow2 t) [] 0 va2 acc2 ∧ lcL tg vs mt me acc2 r ρ2 = .ok accF ρF, fun H2 h => ⟨ds.length - (i + 1), by rw [fz.length] at hiv; omega, rfl, by rw [fz.length] at hiv; omega, by rw [er]; exact h⟩, fun x H2 hy => ?_⟩
        obtain ⟨rfl, hx2⟩ := st.yld i H' x H2 sH hiv hy
        rw [hv] at hx2
        cases hx2
        cases e3 : tg d (wipeE ρ' vs) with
        | none => simp only [e3] at eq; cases eq
        | some ρ2 =>
          simp only [e3] at eq
          refine htg v d _ _ ρ2 B' H2 ow' _ S' (zv.same sb) e3 fun σ3 ow3 s3 S3 l3 k3 o3 p3 => ?_
          rw [hwl] at s3
          have hl3 : ρ2.length = ρ.length := by rw [← S3.len, l3, S'.len, hwl]
          have wσ : L2.wipe σ3 vs = L2.wipe σ vs := by
            have h1 : L2.wipe σ3 vs = L2.wipe (L2.wipe σ vs) vs := wipe_eq l3 fun i hi => k3 i fun h => hi (hl i h)
            rw [h1]
            exact wipe_eq (wipe_length _ _) fun i hi => wipe_get hi
          refine ⟨wσ, B', ow3, ρ2, t + 1, S3, fun a i p h => b' a i p (o3 a i p h), by omega, ?_⟩
          rw [hl3]
          cases e4 : mt ρ2 with
          | bad => rw [e4] at eq; cases eq
          | ex c ρ4 => rw [e4] at eq; cases eq
          | ok b ρ4 =>
            simp only [e4] at eq
            intro B4 H4 ow4 s4 S4 b4
            have hl4 : ρ4.length = ρ.length := by rw [← S4.len, l3, S'.len, hwl]
            have s34 := s3.trans s4
            cases b with
            | false =>
              rw [if_neg Bool.false_ne_true] at eq ⊢
              obtain ⟨k1, k2⟩ := s34.keepP L t [] oL hn
              exact ⟨B4, ow4, ρ4, acc, va, sq.trans s34.q, sb.trans s34.sb, by rw [← wσ]; exact S4.wipe hx, hl4, b4, k1, k2.trans hL', s34.rpl hn kids, eq⟩
            | true =>
              rw [if_pos rfl] at eq ⊢
              refine ⟨B4, ow4, ρ4, t + 1, S4, b4, by omega, ?_⟩
              rw [hl4]
              cases e5 : me ρ4 with
              | bad => rw [e5] at eq; cases eq
              | ex c ρ5 => rw [e5] at eq; cases eq
              | ok o ρ5 =>
                simp only [e5] at eq
                intro y B5 H5 ow5 s5 S5 b5 r5
                have hl5 : ρ5.length = ρ.length := by rw [← S5.len, l3, S'.len, hwl]
                cases e6 : esc o ρ5 with
                | none => simp only [e6] at eq; cases eq
                | some w =>
                  obtain ⟨dy, ρ6⟩ := w
                  simp only [e6] at eq
                  obtain ⟨B6, ow6, s6, S6, b6, r6⟩ := esc_ok S5 b5 r5 e6
                  rw [hl5] at s6
                  have hl6 := S5.len2 S6
                  have s36 := (s34.trans s5).trans s6
                  obtain ⟨k1, k2⟩ := s36.keepP L t [] oL hn
                  split at eq
                  · rename_i hc
                    refine ⟨va, k2.trans hL', by rw [kids.length]; exact line_lt hc, B6, mvO ow6 (t + 1) t [acc.length] false, ρ6, acc ++ [dy], va ++ [y], (sq.trans s36.q).trans (Stq.more (k2.trans hL') k1), sb.trans s36.sb, ?_, by omega, fun a i p h => ?_, ?_, upd_same, ?_, eq⟩
                    · rw [← wσ]
                      exact (S6.more (q := [acc.length]) (by omega) k1).wipe hx
                    · rcases mvO_some h with ⟨p', e, rfl, _⟩ | ⟨e, h1, _⟩
                      · omega
                      · have := b6 a i p e; omega
                    · exact mvO_else k1 (by omega) (by simp)
                    · refine RgL.append (kids_more k1 (s36.rpl hn kids)) ?_
                      rw [Nat.zero_add, RgL]
                      exact ⟨y, [], rfl, item_more k1 r6, rfl⟩
                  · cases eq
end
end DL

namespace DL
open PySem PySem.Spec L2

/-! ## places within a thing -/
def D.at : List Nat → D → Option D
  | [], d => some d
  | k :: p, .node _ _ ds => match ds[k]? with
    | some d => D.at p d
    | none => none
  | _ :: _, _ => none
def D.put : List Nat → D → D → D
  | [], _, x => x
  | k :: p, .node o kd ds, x => match ds[k]? with
    | some d => .node o kd (ds.set k (D.put p d x))
    | none => .node o kd ds
  | _ :: _, d, _ => d
section
variable {N N' : List Nat → Bool → Kd → Addr → List V → Prop}
theorem RgL.set : ∀ {ds : List D} {p : List Nat} {n k : Nat} {vs : List V} {d d' : D}, ds[k]? = some d → (∀ v, vs[k]? = some v → Rg N (p ++ [n + k]) v d → Rg N' (p ++ [n + k]) v d') →
    (∀ (j : Nat) v d, j ≠ k → ds[j]? = some d → Rg N (p ++ [n + j]) v d → Rg N' (p ++ [n + j]) v d) → RgL N p n vs ds → RgL N' p n vs (ds.set k d')
  | [], _, _, _, _, _, _, e, _, _, _ => by simp at e
  | x :: ds, p, n, 0, vs, d, d', e, h1, h2, h => by
    cases e
    rw [RgL] at h
    obtain ⟨v, r, rfl, g1, g2⟩ := h
    rw [List.set_cons_zero, RgL]
    refine ⟨v, r, rfl, h1 v rfl g1, ?_⟩
    have all : ∀ (es : List D) (m : Nat) (ws : List V), (∀ j v d, es[j]? = some d → Rg N (p ++ [n + 1 + m + j]) v d → Rg N' (p ++ [n + 1 + m + j]) v d) → RgL N p (n + 1 + m) ws es → RgL N' p (n + 1 + m) ws es := by
      intro es
      induction es with
      | nil => intro m ws _ h; exact h
      | cons y es ih =>
        intro m ws hj h
        rw [RgL] at h ⊢
        obtain ⟨v, r, rfl, g1, g2⟩ := h
        refine ⟨v, r, rfl, hj 0 v y rfl g1, ?_⟩
        have := ih (m + 1) r (fun j v d e g => by
          have := hj (j + 1) v d (by simpa using e)
          rw [show n + 1 + m + (j + 1) = n + 1 + (m + 1) + j by omega] at this
          exact this g)
        exact this g2
    exact all ds 0 r (fun j v d e g => by
      have := h2 (j + 1) v d (by omega) (by simpa using e)
      rw [show n + (j + 1) = n + 1 + 0 + j by omega] at this
      exact this g) g2
  | x :: ds, p, n, k + 1, vs, d, d', e, h1, h2, h => by
    rw [RgL] at h
    obtain ⟨v, r, rfl, g1, g2⟩ := h
    rw [List.set_cons_succ, RgL]
    refine ⟨v, r, rfl, h2 0 v x (by omega) rfl g1, RgL.set (n := n + 1) (k := k) (by simpa using e) (fun w hw g => ?_) (fun j w d hj e' g => ?_) g2⟩
    · rw [show n + 1 + k = n + (k + 1) by omega] at g ⊢
      exact h1 w (by simpa using hw) g
    · rw [show n + 1 + j = n + (j + 1) by omega] at g ⊢
      exact h2 (j + 1) w d (by omega) (by simpa using e') g
end
section
variable {G : Cfg} {W : WX} {n t np : Nat} {B H B' H' B1 H1 B2 H2 B3 H3 : Hp} {ow ow' ow1 ow2 ow3 : Ow} {σ : L2.St} {ρ ρ' ρ1 ρ2 : Env} {v : V} {X : Cx} {E : Ends}
/-- the value at a place -/
theorem Rg.at {N : List Nat → Bool → Kd → Addr → List V → Prop} : ∀ {p q : List Nat} {v : V} {d x : D}, Rg N q v d → d.at p = some x → ∃ w, Rg N (q ++ p) w x
  | [], q, v, d, x, h, e => by cases e; exact ⟨v, by rw [List.append_nil]; exact h⟩
  | k :: p, q, v, .node o kd ds, x, h, e => by
    rw [Rg] at h
    obtain ⟨a, vs, rfl, hn, hl⟩ := h
    unfold D.at at e
    cases e1 : ds[k]? with
    | none => simp only [e1] at e; cases e
    | some d =>
      simp only [e1] at e
      obtain ⟨w, hw, g⟩ := hl.get e1
      rw [Nat.zero_add] at g
      obtain ⟨u, hu⟩ := g.at e
      exact ⟨u, by rw [List.append_assoc] at hu; exact hu⟩
  | _ :: _, _, _, .non, _, _, e => by cases e
  | _ :: _, _, _, .bl _, _, _, e => by cases e
  | _ :: _, _, _, .int _, _, _, e => by cases e
  | _ :: _, _, _, .str _, _, _, e => by cases e
  | _ :: _, _, _, .exn _, _, _, e => by cases e
/-- the object of an owned node at a place is changed: the thing with the new node -/
theorem app_ne {q s p : List Nat} {j k : Nat} (h : j ≠ k) : (q ++ [j]) ++ s ≠ q ++ (k :: p) := fun e => by
  rw [List.append_assoc] at e
  have := List.append_cancel_left e
  simp at this
  exact h this.1
theorem app_ne0 {q p : List Nat} {k : Nat} : q ≠ q ++ (k :: p) := fun e => by
  have := congrArg List.length e
  simp at this
/-- the value at a place, reached along what stands there -/
def Rat (N : List Nat → Bool → Kd → Addr → List V → Prop) : List Nat → V → D → List Nat → V → Prop
  | q, v, d, [], w => w = v ∧ Rg N q v d
  | q, v, .node o kd ds, k :: p, w => ∃ a vs d' v', v = .ref a ∧ N q o kd a vs ∧ RgL N q 0 vs ds ∧ ds[k]? = some d' ∧ vs[k]? = some v' ∧ Rat N (q ++ [k]) v' d' p w
  | _, _, _, _ :: _, _ => False
theorem Rat.rg {N : List Nat → Bool → Kd → Addr → List V → Prop} : ∀ {p q : List Nat} {v w : V} {d x : D}, Rat N q v d p w → d.at p = some x → Rg N (q ++ p) w x
  | [], q, v, w, d, x, h, e => by
    cases e
    rw [Rat] at h
    obtain ⟨rfl, h⟩ := h
    rw [List.append_nil]
    exact h
  | k :: p, q, v, w, .node o kd ds, x, h, e => by
    rw [Rat] at h
    obtain ⟨a, vs, d', v', rfl, hn, hl, e1, e2, h⟩ := h
    unfold D.at at e
    rw [e1] at e
    have := Rat.rg h e
    rw [List.append_assoc] at this
    exact this
  | _ :: _, _, _, _, .non, _, h, _ => by cases h
  | _ :: _, _, _, _, .bl _, _, h, _ => by cases h
  | _ :: _, _, _, _, .int _, _, h, _ => by cases h
  | _ :: _, _, _, _, .str _, _, h, _ => by cases h
  | _ :: _, _, _, _, .exn _, _, h, _ => by cases h
theorem Rat.snoc {N : List Nat → Bool → Kd → Addr → List V → Prop} {m : Nat} {kd : Kd} {o : Bool} {ds : List D} {b : Addr} {vs : List V} {y : D} {u : V} : ∀ {p q : List Nat} {v : V} {d : D}, Rat N q v d p (.ref b) → d.at p = some (.node o kd ds) → N (q ++ p) o kd b vs → RgL N (q ++ p) 0 vs ds → ds[m]? = some y → vs[m]? = some u → Rat N q v d (p ++ [m]) u
  | [], q, v, d, h, e, hn, hl, e1, e2 => by
    cases e
    rw [Rat] at h
    obtain ⟨rfl, h⟩ := h
    rw [List.append_nil] at hn hl
    rw [List.nil_append, Rat]
    refine ⟨b, vs, y, u, rfl, hn, hl, e1, e2, ?_⟩
    rw [Rat]
    obtain ⟨w, hw, g⟩ := hl.get e1
    rw [e2] at hw
    cases hw
    rw [Nat.zero_add] at g
    exact ⟨rfl, g⟩
  | k :: p, q, v, .node o' kd' ds', h, e, hn, hl, e1, e2 => by
    rw [Rat] at h
    obtain ⟨a, ws, d', v', rfl, hn', hl', f1, f2, h⟩ := h
    unfold D.at at e
    rw [f1] at e
    rw [List.cons_append, Rat]
    have ep : (q ++ [k]) ++ p = q ++ (k :: p) := by rw [List.append_assoc]; rfl
    exact ⟨a, ws, d', v', rfl, hn', hl', f1, f2, Rat.snoc h e (by rw [ep]; exact hn) (by rw [ep]; exact hl) e1 e2⟩
  | _ :: _, _, _, .non, h, _, _, _, _, _ => by cases h
  | _ :: _, _, _, .bl _, h, _, _, _, _, _ => by cases h
  | _ :: _, _, _, .int _, h, _, _, _, _, _ => by cases h
  | _ :: _, _, _, .str _, h, _, _, _, _, _ => by cases h
  | _ :: _, _, _, .exn _, h, _, _, _, _, _ => by cases h
theorem Rat.ofRg {N : List Nat → Bool → Kd → Addr → List V → Prop} : ∀ {p q : List Nat} {v : V} {d x : D}, Rg N q v d → d.at p = some x → ∃ w, Rat N q v d p w
  | [], q, v, d, x, h, e => ⟨v, by rw [Rat]; exact ⟨rfl, h⟩⟩
  | k :: p, q, v, .node o kd ds, x, h, e => by
    rw [Rg] at h
    obtain ⟨a, vs, rfl, hn, hl⟩ := h
    unfold D.at at e
    cases e1 : ds[k]? with
    | none => simp only [e1] at e; cases e
    | some d =>
      simp only [e1] at e
      obtain ⟨w, hw, g⟩ := hl.get e1
      rw [Nat.zero_add] at g
      obtain ⟨u, hu⟩ := Rat.ofRg g e
      exact ⟨u, by rw [Rat]; exact ⟨a, vs, d, w, rfl, hn, hl, e1, hw, hu⟩⟩
  | _ :: _, _, _, .non, _, _, e => by cases e
  | _ :: _, _, _, .bl _, _, _, e => by cases e
  | _ :: _, _, _, .int _, _, _, e => by cases e
  | _ :: _, _, _, .str _, _, _, e => by cases e
  | _ :: _, _, _, .exn _, _, _, e => by cases e
/-- an owned node at a place: what stands there, and the thing when it is changed -/
theorem Rp.open_ {r : Nat} : ∀ {p q : List Nat} {v u : V} {d : D} {kd : Kd} {ds : List D}, Rat (RpN G B H ow r) q v d p u → d.at p = some (.node true kd ds) →
    ∃ a vs, u = .ref a ∧ ow a = some (r, q ++ p) ∧ HoO G H kd a vs ∧ RgL (RpN G B H ow r) (q ++ p) 0 vs ds ∧
      ∀ (o : HO) (mv : Ow) (kd' : Kd) (ws : List V) (es : List D), (∀ b l, ow b = some (r, l) → mv b = some (r, l)) → HoO G (upd H a o) kd' a ws → RgL (RpN G B (upd H a o) mv r) (q ++ p) 0 ws es → Rg (RpN G B (upd H a o) mv r) q v (d.put p (.node true kd' es))
  | [], q, v, u, d, kd, ds, h, e => by
    cases e
    rw [Rat] at h
    obtain ⟨rfl, h⟩ := h
    rw [Rg] at h
    obtain ⟨b, vs, rfl, hn, hl⟩ := h
    unfold RpN at hn
    rw [if_pos rfl] at hn
    rw [List.append_nil]
    refine ⟨b, vs, rfl, hn.1, hn.2, hl, fun o mv kd' ws es hm ho hk => ?_⟩
    rw [D.put, Rg]
    refine ⟨b, ws, rfl, ?_, hk⟩
    unfold RpN
    rw [if_pos rfl]
    exact ⟨hm b q hn.1, ho⟩
  | k :: p, q, v, u, .node o0 kd0 ds0, kd, ds, h, e => by
    rw [Rat] at h
    obtain ⟨b, vs, d1, w, rfl, hn, hl, e1, hw, h⟩ := h
    unfold D.at at e
    rw [e1] at e
    simp only at e
    obtain ⟨a, us, h0, h1, h2, h3, h4⟩ := Rp.open_ (p := p) h e
    have ep : (q ++ [k]) ++ p = q ++ (k :: p) := by rw [List.append_assoc]; rfl
    rw [ep] at h1 h3 h4
    refine ⟨a, us, h0, h1, h2, h3, fun o mv kd' ws es hm ho hk => ?_⟩
    have ne : ∀ c s, ow c = some (r, s) → s ≠ q ++ (k :: p) → c ≠ a := fun c s hc hs z => by
      rw [z, h1] at hc
      exact hs (Prod.mk.inj (Option.some.inj hc)).2.symm
    rw [D.put, e1]
    simp only
    rw [Rg]
    refine ⟨b, vs, rfl, ?_, RgL.set (N := RpN G B H ow r) e1 (fun w' hw' g' => ?_) (fun j w' d' hj ej g' => ?_) hl⟩
    · unfold RpN at hn ⊢
      split
      · rename_i c
        rw [if_pos c] at hn
        exact ⟨hm b q hn.1, hn.2.at (upd_ne (ne b q hn.1 app_ne0))⟩
      · rename_i c
        rw [if_neg c] at hn
        exact hn
    · rw [hw] at hw'
      cases hw'
      rw [Nat.zero_add] at g' ⊢
      exact h4 o mv kd' ws es hm ho hk
    · rw [Nat.zero_add] at g' ⊢
      refine g'.shift d' fun s ob kk c xs z => ?_
      unfold RpN at z ⊢
      split
      · rename_i ho'
        rw [if_pos ho'] at z
        exact ⟨hm c _ z.1, z.2.at (upd_ne (ne c _ z.1 (app_ne hj)))⟩
      · rename_i ho'
        rw [if_neg ho'] at z
        exact z
  | _ :: _, _, _, _, .non, _, _, h, _ => by cases h
  | _ :: _, _, _, _, .bl _, _, _, h, _ => by cases h
  | _ :: _, _, _, _, .int _, _, _, h, _ => by cases h
  | _ :: _, _, _, _, .str _, _, _, h, _ => by cases h
  | _ :: _, _, _, _, .exn _, _, _, h, _ => by cases h
theorem Rp.open0 {r : Nat} {v : V} {kd : Kd} {ds : List D} (h : Rp G B H ow r v (.node true kd ds)) :
    ∃ a vs, v = .ref a ∧ ow a = some (r, []) ∧ HoO G H kd a vs ∧ RgL (RpN G B H ow r) [] 0 vs ds ∧
      ∀ (o : HO) (mv : Ow) (kd' : Kd) (ws : List V) (es : List D), (∀ b l, ow b = some (r, l) → mv b = some (r, l)) → HoO G (upd H a o) kd' a ws → RgL (RpN G B (upd H a o) mv r) [] 0 ws es → Rp G B (upd H a o) mv r v (.node true kd' es) :=
  Rp.open_ (p := []) (q := []) (d := .node true kd ds) (by rw [Rat]; exact ⟨rfl, h⟩) rfl
/-- an owned object is changed; a temporary root's things may go into it -/
theorem Sim.chg {i u m : Nat} {p : List Nat} {a : Addr} {o : HO} {d d' : D} (S : Sim G B H ow σ ρ) (hu : ρ.length ≤ u) (ha : ow a = some (i, p)) (e : slotOf ρ i = some d)
    (h : ∀ v, σ[i]? = some (some v) → Rp G B H ow i v d → Rp G B (upd H a o) (mvO ow u i (p ++ [m]) false) i v d') : Sim G B (upd H a o) (mvO ow u i (p ++ [m]) false) σ (ρ.set i (some d')) where
  same := fun b x eb => by
    have : b ≠ a := fun z => by
      rw [z, (S.lab a _ ha).1] at eb
      cases eb
    rw [upd_ne this]
    exact S.same b x eb
  lab := fun b ⟨j, q⟩ eb => by
    have : ∃ l, ow b = some l := by
      rcases mvO_some eb with ⟨p', e, _⟩ | ⟨e, _⟩ <;> exact ⟨_, e⟩
    obtain ⟨l, e⟩ := this
    obtain ⟨h1, x, h2⟩ := S.lab b l e
    refine ⟨h1, ?_⟩
    by_cases z : b = a
    · rw [z]; exact ⟨_, upd_same⟩
    · rw [upd_ne z]; exact ⟨x, h2⟩
  len := by rw [List.length_set]; exact S.len
  slot := fun j x ej => by
    by_cases hj : j = i
    · subst hj
      have hl : j < ρ.length := (List.getElem?_eq_some_iff.mp (slotOf_some e)).1
      rw [List.getElem?_set_self hl] at ej
      cases ej
      obtain ⟨v, e1, r⟩ := S.slot j d (slotOf_some e)
      exact ⟨v, e1, h v e1 r⟩
    · rw [List.getElem?_set_ne (Ne.symm hj)] at ej
      obtain ⟨v, e1, r⟩ := S.slot j x ej
      have hjl : j < ρ.length := (List.getElem?_eq_some_iff.mp ej).1
      refine ⟨v, e1, r.shift x fun s ob kk c xs z => ?_⟩
      unfold RpN at z ⊢
      split
      · rename_i ho
        rw [if_pos ho] at z
        have ne : c ≠ a := fun q => by
          have := z.1
          rw [q, ha] at this
          exact hj (Prod.mk.inj (Option.some.inj this)).1.symm
        exact ⟨mvO_else z.1 (by omega) (by simp), z.2.at (upd_ne ne)⟩
      · rename_i ho
        rw [if_neg ho] at z
        exact z
  fix := S.fix
theorem Stp.chg {i u m : Nat} {p : List Nat} {a : Addr} {o : HO} {x : HO} (hn : i < n) (hu : Bd ow (u + 1)) (hL : H a = some x) (ha : ow a = some (i, p)) : Stq n u B H ow B (upd H a o) (mvO ow u i (p ++ [m]) false) where
  sb := Same.refl _
  keepU := fun b y e z => by
    have : b ≠ a := fun c => by rw [c, ha] at z; cases z
    rw [upd_ne this]
    exact e
  keepP := fun b j q e h1 h2 => by
    have : b ≠ a := fun c => by
      rw [c, ha] at e
      have := (Prod.mk.inj (Option.some.inj e)).1
      omega
    exact ⟨mvO_else e (by omega) (by simp), upd_ne this⟩
  newB := fun _ _ e => .inl e
  newO := fun b ⟨j, q⟩ e => by
    rcases mvO_some e with ⟨p', e, _⟩ | ⟨e, _⟩ <;> exact .inr ⟨_, e⟩
  old := fun b e => by
    by_cases z : b = a
    · rw [z, upd_same]; exact nofun
    · rw [upd_ne z]; exact e
/-- the items of a changed node that stay: their places are not its own -/
theorem kids_stay {r u m : Nat} {p : List Nat} {a : Addr} {o : HO} {vs : List V} {ds : List D} {k : Nat} (hr : r ≠ u) (ha : ow a = some (r, p)) (h : RgL (RpN G B H ow r) p k vs ds) : RgL (RpN G B (upd H a o) (mvO ow u r (p ++ [m]) false) r) p k vs ds := by
  have key : ∀ (ds : List D) (k : Nat) (vs : List V), RgL (RpN G B H ow r) p k vs ds → RgL (RpN G B (upd H a o) (mvO ow u r (p ++ [m]) false) r) p k vs ds := by
    intro ds
    induction ds with
    | nil => intro k vs h; exact h
    | cons d ds ih =>
      intro k vs hh
      rw [RgL] at hh ⊢
      obtain ⟨v, rr, rfl, h1, h2⟩ := hh
      refine ⟨v, rr, rfl, h1.shift d fun s ob kk c xs z => ?_, ih (k + 1) rr h2⟩
      unfold RpN at z ⊢
      split
      · rename_i ho
        rw [if_pos ho] at z
        have ne : c ≠ a := fun q => by
          have := z.1
          rw [q, ha] at this
          have := (Prod.mk.inj (Option.some.inj this)).2
          have := congrArg List.length this
          simp at this
        exact ⟨mvO_else z.1 hr (by simp), z.2.at (upd_ne ne)⟩
      · rename_i ho
        rw [if_neg ho] at z
        exact z
  exact key ds k vs h
theorem item_in {r u m : Nat} {p : List Nat} {a : Addr} {o : HO} {d : D} (hr : r ≠ u) (ha : ow a = some (r, p)) (h : Rp G B H ow u v d) : Rg (RpN G B (upd H a o) (mvO ow u r (p ++ [m]) false) r) (p ++ [m]) v d := h.shift d fun s ob kk c xs z => by
  unfold RpN at z ⊢
  split
  · rename_i ho
    rw [if_pos ho] at z
    have ne : c ≠ a := fun q => by
      have := z.1
      rw [q, ha] at this
      have := (Prod.mk.inj (Option.some.inj this)).1
      exact hr this
    exact ⟨mvO_r z.1, z.2.at (upd_ne ne)⟩
  · rename_i ho
    rw [if_neg ho] at z
    exact z
/-! ## append -/
def mAppend (i : Nat) (m : ME) : ME := fun ρ => match slotOf ρ i with
  | some (.node true .lst _) => (m ρ).bind fun o ρ1 => match esc o ρ1 with
    | some (d, ρ2) => match slotOf ρ2 i with
      | some (.node true .lst ds) => if ds.length < 16777216 then .ok (.val .non) (ρ2.set i (some (.node true .lst (ds ++ [d])))) else .bad
      | _ => .bad
    | none => .bad
  | _ => .bad
theorem d_append {x : Expr} {e : Expr} {apos pos : Pos} {i : Nat} {m : ME} (hx : PE X x (tVar i)) (he : PE X e (tD G W m)) (hst : starEach (e :: []) X.env = (false, eval e X.env) :: starEach [] X.env := by rfl)
    (h : ∀ to ta, PE X x to → PA X [e] ta → PE X (.Call (.Attribute x "append" apos) [e] [] pos) (tBM X.K "list" rAppend to ta)) :
    PE X (.Call (.Attribute x "append" apos) [e] [] pos) (tD G W (mAppend i m)) := (h _ _ hx (pa_cons he pa_nil hst)).up fun σ H Q q => by
  obtain ⟨B, ow, ρ, t, S, hb, hn, P⟩ := q
  unfold mAppend at P
  split at P
  · rename_i ds0 e0
    obtain ⟨v, hv, hr⟩ := S.slot i _ (slotOf_some e0)
    refine ⟨v, hv, ?_⟩
    obtain ⟨a0, xs0, hv0, _, h0, _, _⟩ := Rp.open0 hr
    subst hv0
    refine ⟨.inl ⟨rfl, _, SqL.of h0⟩, ?_⟩
    refine ⟨B, ow, ρ, t, S, hb, hn, ?_⟩
    cases e : m ρ with
    | bad => rw [e] at P; exact P
    | ex c ρ1 => rw [e] at P; exact P
    | ok o ρ1 =>
      rw [e, Rs.bind_ok] at P
      intro w B1 H1 ow1 s1 S1 b1 r1
      have hl := S.len2 S1
      cases e1 : esc o ρ1 with
      | none => simp only [e1] at P; exact P.elim
      | some x =>
        obtain ⟨d, ρ2⟩ := x
        simp only [e1] at P
        obtain ⟨B2, ow2, s2, S2, b2, r2⟩ := esc_ok S1 b1 r1 e1
        have hl2 := S1.len2 S2
        rw [hl] at s2
        split at P
        · rename_i ds e2
          split at P
          · rename_i hc
            have hi : i < ρ2.length := (List.getElem?_eq_some_iff.mp (slotOf_some e2)).1
            obtain ⟨u, hu, hr2⟩ := S2.slot i _ (slotOf_some e2)
            rw [hv] at hu
            cases hu
            obtain ⟨a, xs, hva, h1, h2, h3, h5⟩ := Rp.open0 hr2
            cases hva
            refine ⟨a0, xs, w, rfl, rfl, h2, by rw [h3.length]; exact line_lt hc, ?_⟩
            have hit : i ≠ t := by omega
            have s12 := s1.trans s2
            refine P .non B2 _ (mvO ow2 t i ([] ++ [ds.length]) false) ((s12.q (u := t)).trans (Stp.chg (by omega) b2 h2 h1) |>.p hb) (S2.chg (by omega) h1 e2 fun v' hv' rr => ?_) (fun b j p hh => ?_) rfl
            · rw [hv] at hv'
              cases hv'
              have := h5 (.lst (xs ++ [w])) (mvO ow2 t i ([] ++ [ds.length]) false) .lst (xs ++ [w]) (ds ++ [d]) (fun b l hb' => mvO_else hb' hit (by simp)) upd_same (RgL.append (kids_stay hit h1 h3) ?_)
              · exact this
              · rw [Nat.zero_add, RgL]
                exact ⟨w, [], rfl, item_in hit h1 r2, rfl⟩
            · rcases mvO_some hh with ⟨p', e, rfl, _⟩ | ⟨e, h1, _⟩
              · omega
              · exact b2 b j p e
          · exact P.elim
        · exact P.elim
  · exact P.elim
end
end DL

namespace DL
open PySem PySem.Spec L2

/-! ## pure expressions: a scalar, nothing changed -/
abbrev PF := Env → Option D
abbrev QF := Env → Option (Nat × List Nat)
def tP (G : Cfg) (f : PF) : TE := fun σ H Q => ∃ B ow ρ d v, Sim G B H ow σ ρ ∧ f ρ = some d ∧ d.sv = some v ∧ Q v H
/-- a place of a slot's thing -/
def tQ (G : Cfg) (f : QF) : TE := fun σ H Q => ∃ B ow ρ i p d x, Sim G B H ow σ ρ ∧ f ρ = some (i, p) ∧ slotOf ρ i = some d ∧ d.at p = some x ∧ ∀ v0 v, σ[i]? = some (some v0) → Rat (RpN G B H ow i) [] v0 d p v → Q v H
section
variable {G : Cfg} {W : WX} {n t np : Nat} {B H B' H' B1 H1 B2 H2 B3 H3 : Hp} {ow ow' ow1 ow2 ow3 : Ow} {σ : L2.St} {ρ ρ' ρ1 ρ2 : Env} {v : V} {X : Cx} {E : Ends}
def lift (f : PF) : ME := fun ρ => match f ρ with
  | none => .bad
  | some d => match d.sv with
    | some _ => .ok (.val d) ρ
    | none => .bad
theorem d_p {e : Expr} {f : PF} (h : PE X e (tP G f)) : PE X e (tD G W (lift f)) := h.up fun σ H Q q => by
  obtain ⟨B, ow, ρ, t, S, hb, hn, P⟩ := q
  unfold lift at P
  cases e1 : f ρ with
  | none => simp only [e1] at P; exact P.elim
  | some d =>
    simp only [e1] at P
    cases e2 : d.sv with
    | none => simp only [e2] at P; exact P.elim
    | some v =>
      simp only [e2] at P
      exact ⟨B, ow, ρ, d, v, S, e1, e2, P v B H ow Stp.refl S (hb.up (by omega)) (Rg.ofSv e2)⟩
def qVar (i : Nat) : QF := fun _ => some (i, [])
def qIx (f : QF) (h : PF) : QF := fun ρ => match f ρ with
  | none => none
  | some (i, p) => match slotOf ρ i with
    | none => none
    | some d => match d.at p, h ρ with
      | some (.node _ k ds), some (.int j) => if k.seq = true then (ixN ds.length j).map fun m => (i, p ++ [m]) else none
      | _, _ => none
def pQ (f : QF) : PF := fun ρ => match f ρ with
  | none => none
  | some (i, p) => match slotOf ρ i with
    | none => none
    | some d => d.at p
def pC (d : D) : PF := fun _ => some d
def p2 (g : List D → Option D) (f h : PF) : PF := fun ρ => match f ρ, h ρ with
  | some x, some y => if (x.sv.isSome && y.sv.isSome) = true then g [x, y] else none
  | _, _ => none
theorem p_c {e : Expr} {d : D} {v : V} (hv : d.sv = some v) (h : PE X e (tC v)) : PE X e (tP G (pC d)) := h.up fun σ H Q q => by
  obtain ⟨B, ow, ρ, d', v', S, e1, e2, q⟩ := q
  cases e1
  rw [hv] at e2
  cases e2
  exact q
theorem p_int {i : Int} {j : Nat} {pos : Pos} : PE X (.Constant (.int i) j pos) (tP G (pC (.int i))) := p_c rfl pe_int
theorem q_var {i : Nat} {e : Expr} (h : PE X e (tVar i)) : PE X e (tQ G (qVar i)) := h.up fun σ H Q q => by
  obtain ⟨B, ow, ρ, i', p, d, x, S, e1, e2, e3, q⟩ := q
  cases e1
  cases e3
  obtain ⟨w, hw, r⟩ := S.slot i d (slotOf_some e2)
  exact ⟨w, hw, q w w hw (by rw [Rat]; exact ⟨rfl, r⟩)⟩
theorem p_q {e : Expr} {f : QF} (h : PE X e (tQ G f)) : PE X e (tP G (pQ f)) := h.up fun σ H Q q => by
  obtain ⟨B, ow, ρ, d, v, S, e1, e2, q⟩ := q
  unfold pQ at e1
  cases e3 : f ρ with
  | none => rw [e3] at e1; cases e1
  | some ip =>
    obtain ⟨i, p⟩ := ip
    rw [e3] at e1
    simp only at e1
    cases e4 : slotOf ρ i with
    | none => rw [e4] at e1; cases e1
    | some d0 =>
      rw [e4] at e1
      simp only at e1
      exact ⟨B, ow, ρ, i, p, d0, d, S, e3, e4, e1, fun w0 w _ r => by rw [(r.rg e1).toSv e2]; exact q⟩
theorem p_var {i : Nat} {e : Expr} (h : PE X e (tVar i)) : PE X e (tP G (pQ (qVar i))) := p_q (q_var h)
theorem q_ix {a b : Expr} {pos : Pos} {f : QF} {h : PF} (hK : G.K = X.K) (hs : PlainIx b) (ha : PE X a (tQ G f)) (hb : PE X b (tP G h)) : PE X (.Subscript a b pos) (tQ G (qIx f h)) := (pe_ix (r := rIx G.K) (by rw [hK]; exact ix_seq) ha hb hs).up fun σ H Q q => by
  obtain ⟨B, ow, ρ, i, p, d, x, S, e1, e2, e3, q⟩ := q
  unfold qIx at e1
  cases f1 : f ρ with
  | none => rw [f1] at e1; cases e1
  | some ip =>
    obtain ⟨i', p'⟩ := ip
    rw [f1] at e1
    simp only at e1
    cases f2 : slotOf ρ i' with
    | none => rw [f2] at e1; cases e1
    | some d' =>
      rw [f2] at e1
      simp only at e1
      split at e1
      · rename_i o k ds j f3 f4
        split at e1
        · rename_i c
          cases f5 : ixN ds.length j with
          | none => rw [f5] at e1; cases e1
          | some m =>
            rw [f5] at e1
            simp only [Option.map_some, Option.some.injEq, Prod.mk.injEq] at e1
            obtain ⟨rfl, rfl⟩ := e1
            rw [f2] at e2
            cases e2
            refine ⟨B, ow, ρ, i', p', d, _, S, f1, f2, f3, fun v0 v hv0 r0 => ⟨B, ow, ρ, .int j, .int j, S, f4, rfl, ?_⟩⟩
            have r := r0.rg f3
            rw [Rg] at r
            obtain ⟨b, vs, rfl, hn, hl⟩ := r
            have hn0 := hn
            have hB : HoB G H k b vs := by
              unfold RpN at hn
              split at hn
              · exact hn.2.toB
              · exact hn.same S.same
            have hx : ds[m]? = some x := by
              have key : ∀ (p : List Nat) (d : D), d.at p = some (.node o k ds) → d.at (p ++ [m]) = some x → ds[m]? = some x := by
                intro p
                induction p with
                | nil =>
                  intro d h1 h2
                  cases h1
                  rw [List.nil_append] at h2
                  unfold D.at at h2
                  cases q : ds[m]? with
                  | none => simp only [q] at h2; cases h2
                  | some y => simp only [q] at h2; cases h2; rfl
                | cons a p ih =>
                  intro d h1 h2
                  cases d with
                  | node o' k' es =>
                    rw [List.cons_append] at h2
                    unfold D.at at h1 h2
                    cases q : es[a]? with
                    | none => simp only [q] at h1; cases h1
                    | some y => simp only [q] at h1 h2; exact ih y h1 h2
                  | _ => cases h1
              exact key p' d f3 e3
            obtain ⟨w, hw, g⟩ := hl.get hx
            rw [Nat.zero_add] at g
            have hat : atI vs j = some w := by
              unfold atI
              rw [hl.length, f5]
              exact hw
            have qq := q v0 w hv0 (r0.snoc f3 hn0 hl hx hw)
            rcases seqB hB (Kd.seq_or c) with hq | hq
            · exact .inl ⟨b, vs, j, w, rfl, rfl, hq, hat, qq⟩
            · exact .inr (.inl ⟨b, vs, j, w, rfl, rfl, hq, hat, qq⟩)
        · cases e1
      · cases e1
theorem p_bin {e a b : Expr} {f h : PF} {g : List D → Option D} {r : R2} (hr : OpOk G (r2L r) g) (ha : PE X a (tP G f)) (hb : PE X b (tP G h)) (k : ∀ ta tb, PE X a ta → PE X b tb → PE X e (tOp r ta tb)) : PE X e (tP G (p2 g f h)) := (k _ _ ha hb).up fun σ H Q q => by
  obtain ⟨B, ow, ρ, d, v, S, e1, e2, q⟩ := q
  unfold p2 at e1
  split at e1
  · rename_i x y f1 f2
    -- what each operand is
    split at e1
    case isFalse => cases e1
    rename_i c
    cases g1 : x.sv with
    | none => rw [g1] at c; cases c
    | some xv =>
      cases g2 : y.sv with
      | none => rw [g1, g2] at c; cases c
      | some yv =>
        refine ⟨B, ow, ρ, x, xv, S, f1, g1, B, ow, ρ, y, yv, S, f2, g2, ?_⟩
        obtain ⟨x', y', exy, q'⟩ := hr B H ow [xv, yv] [x, y] d Q ⟨S.same, S.lab⟩ ⟨xv, _, rfl, ⟨0, Rg.ofSv g1⟩, yv, _, rfl, ⟨0, Rg.ofSv g2⟩, rfl⟩ e1 ⟨fun w hw => by rw [hw.2.toSv e2]; exact q, fun k es ws p ed => by rw [ed] at e2; cases e2⟩
        cases exy
        exact q'
  · cases e1
/-- len of a place -/
def pLen (f : QF) : PF := fun ρ => match pQ f ρ with
  | some d => gLen [d]
  | none => none
theorem p_len {e : Expr} {p pos : Pos} {f : QF} (hK : G.K = X.K) (hg : Gl X "len") (hm : X.mg "len" = none) (h : PE X e (tQ G f)) (he : starEach (e :: []) X.env = (false, eval e X.env) :: starEach [] X.env := by rfl) (hpl : (backTo pos (starEach [] X.env)).any (·.1) = false := by rfl) :
    PE X (.Call (.Name "len" p) [e] [] pos) (tP G (pLen f)) := (pe_callB call_lenA hg hm PySem.boot_len (pa_cons h pa_nil he) (by decide) (by decide) he hpl).up fun σ H Q q => by
  obtain ⟨B, ow, ρ, d, v, S, e1, e2, q⟩ := q
  unfold pLen pQ at e1
  cases f1 : f ρ with
  | none => rw [f1] at e1; cases e1
  | some ip =>
    obtain ⟨i, pth⟩ := ip
    rw [f1] at e1
    simp only at e1
    cases f2 : slotOf ρ i with
    | none => rw [f2] at e1; cases e1
    | some d0 =>
      rw [f2] at e1
      simp only at e1
      cases f3 : d0.at pth with
      | none => rw [f3] at e1; cases e1
      | some x =>
        rw [f3] at e1
        simp only at e1
        refine ⟨B, ow, ρ, i, pth, d0, x, S, f1, f2, f3, fun w0 w _ r0 => ?_⟩
        have r := r0.rg f3
        rw [List.nil_append] at r
        -- the place, as a root of its own
        have hit : ∀ (x : D), Rg (RpN G B H ow i) pth w x → gLen [x] = some d → rLenA X.K [w] H Q := by
          intro x r e1
          have K : Hand G B H d Q := ⟨fun u hu => by rw [hu.2.toSv e2]; exact q, fun k es ws p ed => by rw [ed] at e2; cases e2⟩
          rw [← hK]
          unfold gLen at e1
          split at e1
          · rename_i s q'
            cases q'
            cases r
            split at e1
            · rename_i c
              cases e1
              exact .inr (.inl ⟨s, rfl, line_le c, K.old _ (Fz.sv rfl)⟩)
            · cases e1
          · rename_i o k ds q'
            cases q'
            rw [Rg] at r
            obtain ⟨b, vs, rfl, hn, hl⟩ := r
            have hB : HoB G H k b vs := by
              unfold RpN at hn
              split at hn
              · exact hn.2.toB
              · exact hn.same S.same
            have hlen := hl.length
            cases k with
            | lst => cases e1; exact .inl ⟨b, vs, rfl, seqB hB (.inl rfl), by rw [hlen]; exact K.old _ (Fz.sv rfl)⟩
            | ro => cases e1; exact .inl ⟨b, vs, rfl, seqB hB (.inr (.inl rfl)), by rw [hlen]; exact K.old _ (Fz.sv rfl)⟩
            | tup => cases e1; exact .inl ⟨b, vs, rfl, seqB hB (.inr (.inr rfl)), by rw [hlen]; exact K.old _ (Fz.sv rfl)⟩
            | dK ks =>
              cases e1
              refine .inr (.inr ⟨b, _, rfl, hB.2, ?_⟩)
              have hz : (ks.zip vs).length = ds.length := by rw [List.length_zip, hB.1, hlen]; omega
              rw [hz]
              exact K.old _ (Fz.sv rfl)
            | _ => cases e1
          · cases e1
        exact hit x r e1
/-! ## x[i] = e -/
def mSetIx (f : QF) (h : PF) (m : ME) : MS := mThen m fun o ρ1 => match esc o ρ1 with
  | none => .bad
  | some (d, ρ2) => match f ρ2, h ρ2 with
    | some (i, p), some (.int j) => match slotOf ρ2 i with
      | none => .bad
      | some d0 => match d0.at p with
        | some (.node true .lst ds) => match ixN ds.length j with
          | some k => .nx (ρ2.set i (some (d0.put p (.node true .lst (ds.set k d.frz)))))
          | none => .bad
        | _ => .bad
    | _, _ => .bad
theorem setKids {r : Nat} {p : List Nat} : ∀ {ds : List D} {xs : List V} {n k : Nat} {v : V} {d : D}, RgL (RpN G B H ow r) p n xs ds → Fz G B v d → RgL (RpN G B H ow r) p n (xs.set k v) (ds.set k d)
  | [], xs, n, k, v, d, h, _ => by cases h; exact rfl
  | x :: ds, xs, n, 0, v, d, h, z => by
    rw [RgL] at h
    obtain ⟨w, r', rfl, _, h2⟩ := h
    rw [List.set_cons_zero, List.set_cons_zero, RgL]
    exact ⟨v, r', rfl, Rg.ofFz d z.1 (fun _ _ _ _ _ q => by
      simp only [RpN, Bool.false_eq_true, if_false]
      exact q) z.2, h2⟩
  | x :: ds, xs, n, k + 1, v, d, h, z => by
    rw [RgL] at h
    obtain ⟨w, r', rfl, h1, h2⟩ := h
    rw [List.set_cons_succ, List.set_cons_succ, RgL]
    exact ⟨w, _, rfl, h1, setKids h2 z⟩
theorem s_setIx {a b e : Expr} {pos pos' : Pos} {f : QF} {h : PF} {m : ME} (ha : PE X a (tQ G f)) (hb : PE X b (tP G h)) (he : PE X e (tD G W m)) (hs : swapsWithSole [.Subscript a b pos'] e pos.line X.env = pure false := by rfl) (hw : swappedStores [.Subscript a b pos'] e X.env = pure none := by rfl)
    (h1 : (assignEach [.Subscript a b pos'] X.env).map (·.2) = [assign (.Subscript a b pos') X.env] := by rfl) (h2 : ∀ v, assign (.Subscript a b pos') X.env v = (do
      let ov ← holding [v] (eval a X.env)
      let iv ← holding [v, ov] (eval b X.env)
      standAt pos'
      holding [v, ov, iv] (setItem ov iv v)
      release [v, ov, iv] []) := by intro _; rfl) : PS X (.Assign [.Subscript a b pos'] e pos) (tDS G W (mSetIx f h m)) := (ps_asg he (pg_sub ha hb set_list h2) hs hw h1).up fun E σ H q => by
  obtain ⟨B, ow, ρ, S, hbd, P⟩ := q
  refine ⟨B, ow, ρ, ρ.length, S, hbd, Nat.le_refl _, post_then S P fun o ρ1 v B1 H1 ow1 s1 S1 b1 r1 P => ?_⟩
  have hl := S.len2 S1
  cases e1 : esc o ρ1 with
  | none => simp only [e1] at P; exact P.elim
  | some x =>
    obtain ⟨d, ρ2⟩ := x
    simp only [e1] at P
    obtain ⟨B2, ow2, s2, S2, b2, r2⟩ := esc_ok S1 b1 r1 e1
    rw [hl] at s2
    have hl2 := S1.len2 S2
    have S3 := S2.frzT (t := ρ.length) (by omega)
    have s3 := Stp.frz (t := ρ.length) (P := from_ ρ.length) S2 (s1.trans s2) hbd fun i h => .inr (of_decide_eq_true h)
    have fz := r2.freeze (frzB_same S2.lab) (from_hi (Nat.le_refl ρ.length))
    have bd3 : Bd (cutO ow2 (from_ ρ.length)) ρ.length := cutO_bd
    generalize frzB B2 H1 ow2 (from_ ρ.length) = B3 at S3 s3 fz
    generalize cutO ow2 (from_ ρ.length) = ow3 at S3 s3 bd3
    split at P
    · rename_i i p j g1 g2
      split at P
      · exact P.elim
      · rename_i d0 g3
        split at P
        · rename_i ds g4
          split at P
          · rename_i k g5
            refine ⟨B3, ow3, ρ2, i, p, d0, _, S3, g1, g3, g4, fun u0 u hu0 ru => ⟨B3, ow3, ρ2, .int j, .int j, S3, g2, rfl, ?_⟩⟩
            obtain ⟨w, hw, hr⟩ := S3.slot i d0 (slotOf_some g3)
            rw [hu0] at hw
            cases hw
            obtain ⟨a', xs, rfl, o1, o2, o3, o5⟩ := Rp.open_ ru g4
            rw [List.nil_append] at o1 o3 o5
            have hi : i < ρ2.length := (List.getElem?_eq_some_iff.mp (slotOf_some g3)).1
            have hit : i ≠ ρ.length := by omega
            refine ⟨a', xs, j, k, rfl, rfl, o2, by rw [o3.length]; exact g5, ?_⟩
            refine P σ B3 _ (mvO ow3 ρ.length i (p ++ [0]) false) ((s3.q (u := ρ.length)).trans (Stp.chg (u := ρ.length) (by omega) (bd3.up (by omega)) o2 o1) |>.p hbd) (S3.chg (by omega) o1 g3 fun v' hv' rr => ?_) S.len (fun b q z hh => ?_)
            · rw [hu0] at hv'
              cases hv'
              refine o5 (.lst (xs.set k v)) (mvO ow3 ρ.length i (p ++ [0]) false) .lst (xs.set k v) (ds.set k d.frz) (fun b l hb' => mvO_else hb' hit (by simp)) upd_same ?_
              have kf := kids_stay (u := ρ.length) (m := 0) (o := .lst (xs.set k v)) hit o1 o3
              have fz2 : Fz G B3 v d.frz := fz
              have hk : ds[k]? ≠ none := by
                have := (ixN_seq g5).2.1
                rw [List.getElem?_eq_getElem this]
                exact nofun
              exact setKids kf fz2
            · rcases mvO_some hh with ⟨p', e, rfl, _⟩ | ⟨e, h1, _⟩
              · omega
              · exact bd3 b q z e
          · exact P.elim
        · exact P.elim
    · exact P.elim
end
end DL

namespace DL
open PySem PySem.Spec L2

section
variable {G : Cfg} {W : WX} {n t np : Nat} {B H B' H' B1 H1 B2 H2 B3 H3 : Hp} {ow ow' ow1 ow2 ow3 : Ow} {σ : L2.St} {ρ ρ' ρ1 ρ2 : Env} {v : V} {X : Cx} {E : Ends}
/-! ## methods of a list that a slot owns -/
/-- by values: the list's items (all frozen), the arguments; the new items and what is handed back -/
def OpM (G : Cfg) (r : V → List V → Hp → VK → Prop) (g : List D → List D → Option (List D × D)) : Prop :=
  ∀ B H ow l xs ds vs es ds' d Q, Two G B H ow → H l = some (.lst xs) → FzL G B xs ds → Rps G B H ow vs es → g ds es = some (ds', d) →
    (∀ xs' v, FzL G B xs' ds' → Fz G B v d → Q v (upd H l (.lst xs'))) → r (.ref l) vs H Q
def mMeth (i : Nat) (g : List D → List D → Option (List D × D)) (ms : MA) : ME := fun ρ => match slotOf ρ i with
  | some (.node true .lst _) => (ms ρ).bind fun os ρ1 => match vws ρ1 os with
    | none => .bad
    | some es => match slotOf ρ1 i with
      | some (.node true .lst ds) => if D.fzs ds = true then (match g ds es with
        | some (ds', d) => .ok (.val d) (ρ1.set i (some (.node true .lst ds')))
        | none => .bad) else .bad
      | _ => .bad
  | _ => .bad
theorem post_meth {i : Nat} {ms : MA} {g : List D → List D → Option (List D × D)} {r : V → List V → Hp → VK → Prop} {Q : VK} (hr : OpM G r g) (q : tD G W (mMeth i g ms) σ H Q) : tBM G.K "list" r (tVar i) (tDA G W ms) σ H Q := by
  obtain ⟨B, ow, ρ, t, S, hb, hn, P⟩ := q
  unfold mMeth at P
  split at P
  · rename_i ds0 e0
    obtain ⟨v, hv, hr0⟩ := S.slot i _ (slotOf_some e0)
    refine ⟨v, hv, ?_⟩
    obtain ⟨a0, xs0, hv0, _, h0, _, _⟩ := Rp.open0 hr0
    subst hv0
    refine ⟨.inl ⟨rfl, _, SqL.of h0⟩, B, ow, ρ, t, S, hb, hn, ?_⟩
    cases e : ms ρ with
    | bad => rw [e] at P; exact P
    | ex c ρ1 => rw [e] at P; exact P
    | ok os ρ1 =>
      rw [e, Rs.bind_ok] at P
      intro vs B1 H1 ow1 s1 S1 b1 r1
      have hl := S.len2 S1
      cases e1 : vws ρ1 os with
      | none => simp only [e1] at P; exact P.elim
      | some es =>
        simp only [e1] at P
        split at P
        · rename_i ds e2
          split at P
          · rename_i hz
            split at P
            · rename_i ds' d e3
              have S3 := S1.frzT (t := t) (by omega)
              have s3 := Stp.frz (t := t) (P := from_ t) S1 s1 hb fun i h => .inr (of_decide_eq_true h)
              have rps := vws_rps S1 (Nat.le_refl t) (by omega) r1 e1
              have bd3 : Bd (cutO ow1 (from_ t)) t := cutO_bd
              generalize frzB B1 H1 ow1 (from_ t) = B3 at S3 s3 rps
              generalize cutO ow1 (from_ t) = ow3 at S3 s3 bd3 rps
              obtain ⟨u, hu, hr2⟩ := S3.slot i _ (slotOf_some e2)
              rw [hv] at hu
              cases hu
              obtain ⟨a, xs, hva, h1, h2, h3, h5⟩ := Rp.open0 hr2
              cases hva
              have hi : i < ρ1.length := (List.getElem?_eq_some_iff.mp (slotOf_some e2)).1
              have hit : i ≠ t := by omega
              refine hr B3 H1 ow3 a0 xs ds vs es ds' d Q ⟨S3.same, S3.lab⟩ h2 (kidsFz h3 hz) rps e3 fun xs' w hxs hw => ?_
              refine P w B3 _ (mvO ow3 t i ([] ++ [0]) false) ((s3.q (u := t)).trans (Stp.chg (by omega) (bd3.up (by omega)) h2 h1) |>.p hb) (S3.chg (by omega) h1 e2 fun v' hv' rr => ?_) (fun b j p hh => ?_) hw.rp
              · rw [hv] at hv'
                cases hv'
                exact h5 (.lst xs') _ .lst xs' ds' (fun b l hb' => mvO_else hb' hit (by simp)) upd_same hxs.kids
              · rcases mvO_some hh with ⟨p', e, rfl, _⟩ | ⟨e, h1, _⟩
                · omega
                · have := bd3 b j p e; omega
            · exact P.elim
          · exact P.elim
        · exact P.elim
  · exact P.elim
theorem d_meth {x e : Expr} {es : List Expr} {i : Nat} {ms : MA} {g : List D → List D → Option (List D × D)} {r : V → List V → Hp → VK → Prop} (hK : G.K = X.K) (hr : OpM G r g) (hx : PE X x (tVar i)) (ha : PA X es (tDA G W ms))
    (h : ∀ to ta, PE X x to → PA X es ta → PE X e (tBM X.K "list" r to ta)) : PE X e (tD G W (mMeth i g ms)) := (h _ _ hx ha).up fun σ H Q q => by
  rw [← hK]
  exact post_meth hr q
def gPop : List D → List D → Option (List D × D) := fun ds es => match es with
  | [] => (ds[ds.length - 1]?).map fun d => (ds.dropLast, d)
  | [.int i] => if -(2 ^ 63) ≤ i ∧ i < 2 ^ 63 then (seqIndex? i ds.length).bind fun k => (ds[k]?).map fun d => (ds.eraseIdx k, d) else none
  | _ => none
theorem FzL.erase : ∀ {ds : List D} {vs : List V} (k : Nat), FzL G B vs ds → FzL G B (vs.eraseIdx k) (ds.eraseIdx k)
  | [], vs, k, h => by cases h.2; exact .nil
  | d :: ds, vs, 0, h => by
    obtain ⟨v, r, rfl, _, h2⟩ := h.uncons
    exact h2
  | d :: ds, vs, k + 1, h => by
    obtain ⟨v, r, rfl, h1, h2⟩ := h.uncons
    exact .cons h1 (FzL.erase k h2)
theorem ok_pop : OpM G (fun x vs H Q => rPop x vs H Q ∨ rPopAt x vs H Q) gPop := by
  intro B H ow l xs ds vs es ds' d Q S hl fz R e K
  unfold gPop at e
  split at e
  · cases R
    cases e1 : ds[ds.length - 1]? with
    | none => rw [e1] at e; cases e
    | some d0 =>
      rw [e1] at e
      cases e
      obtain ⟨v, hv, hz⟩ := fz.get e1
      refine .inl ⟨l, xs, v, rfl, rfl, hl, by rw [fz.length]; exact hv, K _ _ ?_ hz⟩
      rw [List.dropLast_eq_take, List.dropLast_eq_take, fz.length]
      exact fz.take _
  · obtain ⟨v, u, rfl, h1⟩ := R.one
    cases h1
    split at e
    · rename_i c
      cases e1 : seqIndex? _ ds.length with
      | none => rw [e1] at e; cases e
      | some k =>
        rw [e1] at e
        simp only [Option.bind_some] at e
        cases e2 : ds[k]? with
        | none => rw [e2] at e; cases e
        | some d0 =>
          rw [e2] at e
          cases e
          obtain ⟨v, hv, hz⟩ := fz.get e2
          exact .inr ⟨l, xs, _, k, v, rfl, rfl, hl, c.1, c.2, by rw [fz.length]; exact e1, hv, K _ _ (fz.erase k) hz⟩
    · cases e
  · cases e
theorem mt_popA : MtR X "list.pop" (fun x vs H Q => rPop x vs H Q ∨ rPopAt x vs H Q) := MtR.or mt_pop mt_popAt
def gExtend : List D → List D → Option (List D × D) := fun ds es => match es with
  | [.node _ .lst zs] => if D.fzs zs = true ∧ ds.length + zs.length ≤ 16777216 then some (ds ++ zs, .non) else none
  | _ => none
theorem ok_extend : OpM G rExtend gExtend := by
  intro B H ow l xs ds vs es ds' d Q S hl fz R e K
  unfold gExtend at e
  split at e
  · obtain ⟨v, u, rfl, h1⟩ := R.one
    split at e
    · rename_i c
      cases e
      obtain ⟨b, ys, rfl, hb, kb⟩ := Rp.node S h1
      have kf := kidsFz kb c.1
      exact ⟨l, b, xs, ys, rfl, rfl, hl, hb, by rw [fz.length, kf.length]; exact line_le c.2, K _ _ (fz.append kf) (Fz.sv rfl)⟩
    · cases e
  · cases e
/-! ## displays -/
def mDisp (k : Kd) (ms : MA) : ME := fun ρ => (ms ρ).bind fun os ρ1 => match argsD ρ1 none 0 os with
  | none => .bad
  | some ds => if ds.length ≤ 16777216 then .ok (.val (.node true k ds)) (frzE (fun i => (slotsOf none 0 os).contains i) 0 ρ1) else .bad
theorem slots_lt {io : Option Nat} : ∀ {os : List Opn} {j : Nat} {ds : List D}, argsD ρ1 io j os = some ds → ∀ i ∈ slotsOf io j os, i < ρ1.length
  | [], _, _, _, i, hi => by cases hi
  | .val d :: os, j, ds, e, i, hi => by
    rw [argsD] at e
    cases e2 : argsD ρ1 io (j + 1) os with
    | none => rw [e2] at e; cases e
    | some es => exact slots_lt e2 i hi
  | .slot i' :: os, j, ds, e, i, hi => by
    rw [argsD] at e
    cases e1 : slotOf ρ1 i' with
    | none => rw [e1] at e; cases e
    | some d =>
      simp only [e1] at e
      cases e2 : argsD ρ1 io (j + 1) os with
      | none => rw [e2] at e; cases e
      | some es =>
        rw [slotsOf] at hi
        split at hi
        · exact slots_lt e2 i hi
        · rcases List.mem_cons.mp hi with rfl | hi
          · exact (List.getElem?_eq_some_iff.mp (slotOf_some e1)).1
          · exact slots_lt e2 i hi
theorem ArgsR.fzl : ∀ {ds : List D} {j : Nat} {vs : List V}, D.fzs ds = true → ArgsR G B H ow j vs ds → FzL G B vs ds
  | [], _, _, _, h => by cases h; exact .nil
  | d :: ds, j, vs, z, h => by
    obtain ⟨v, r, rfl, h1, h2⟩ := h
    rw [D.fzs] at z
    simp only [Bool.and_eq_true] at z
    exact .cons (h1.fz z.1) (ArgsR.fzl z.2 h2)
theorem argsD_fz {F : Nat → Bool} (S : Sim G B1 H1 ow1 σ ρ1) : ∀ {os : List Opn} {j u : Nat} {vs : List V} {ds : List D}, OpnsR G B1 H1 ow1 σ u vs os → argsD ρ1 none j os = some ds → D.fzs ds = true
  | [], _, _, _, _, _, e => by cases e; rfl
  | .val d :: os, j, u, vs, ds, h, e => by
    obtain ⟨v, r, rfl, hv, hr⟩ := h
    rw [argsD] at e
    cases e2 : argsD ρ1 none (j + 1) os with
    | none => rw [e2] at e; cases e
    | some es =>
      rw [e2] at e
      cases e
      rw [D.fzs, argsD_fz (F := F) S hr e2, frz_is _ _ _ d (show Rg _ _ v d from hv)]
      rfl
  | .slot i :: os, j, u, vs, ds, h, e => by
    obtain ⟨v, r, rfl, hv, hr⟩ := h
    rw [argsD] at e
    cases e1 : slotOf ρ1 i with
    | none => rw [e1] at e; cases e
    | some d =>
      simp only [e1] at e
      cases e2 : argsD ρ1 none (j + 1) os with
      | none => rw [e2] at e; cases e
      | some es =>
        rw [e2] at e
        cases e
        obtain ⟨w, _, hw⟩ := S.slot i d (slotOf_some e1)
        rw [if_neg (fun q => nomatch q), D.fzs, argsD_fz (F := F) S hr e2, frz_is _ _ _ d hw]
        rfl
theorem post_disp {k : Kd} {ms : MA} {Q : VK} (hk : k = .lst ∨ k = .tup) (q : tD G W (mDisp k ms) σ H Q) : tDA G W ms σ H fun xs H1 => xs.length ≤ sizeLine ∧ ∀ p, H1 p = none → Q (.ref p) (upd H1 p (hoOf k xs)) := by
  obtain ⟨B, ow, ρ, t, S, hb, hn, P⟩ := q
  refine ⟨B, ow, ρ, t, S, hb, hn, ?_⟩
  unfold mDisp at P
  cases e : ms ρ with
  | bad => rw [e] at P; exact P
  | ex c ρ1 => rw [e] at P; exact P
  | ok os ρ1 =>
    rw [e, Rs.bind_ok] at P
    intro vs B1 H1 ow1 s1 S1 b1 r1
    have hl := S.len2 S1
    cases e1 : argsD ρ1 none 0 os with
    | none => simp only [e1] at P; exact P.elim
    | some ds =>
      simp only [e1] at P
      split at P
      · rename_i hsz
        generalize hF : (fun r => (slotsOf none 0 os).contains r || from_ t r) = F
        have fhi : ∀ r, t ≤ r → F r = true := fun r h => by rw [← hF]; simp [from_hi h]
        have fsl : ∀ i, i ∈ slotsOf none 0 os → F i = true := fun i h => by rw [← hF]; simp [h]
        have A := args_ren (F := F) (pr := none) S1 (fun _ _ q => nomatch q) r1 e1 fhi fsl fun _ _ _ q => nomatch q
        have fz := ArgsR.fzl (argsD_fz (F := F) S1 r1 e1) A
        have S2 := S1.frz (P := F)
        have eE : frzE F 0 ρ1 = frzE (fun i => (slotsOf none 0 os).contains i) 0 ρ1 := frzE_congr ρ1 0 fun j _ hj => by rw [← hF]; simp [from_lo (show j < t by omega)]
        rw [eE] at S2
        have st2 : Stp ρ.length B H ow (frzB B1 H1 ow1 F) H1 (cutO ow1 F) := by
          refine Stp.frz (t := t) S1 s1 hb fun i h => ?_
          rw [← hF] at h
          simp only [Bool.or_eq_true] at h
          rcases h with h | h
          · left
            have := slots_lt e1 i (by simpa using h)
            omega
          · exact .inr (of_decide_eq_true h)
        have bd2 : Bd (cutO ow1 F) t := fun a i p h => by
          obtain ⟨h1, h2⟩ := cutO_some h
          cases Nat.lt_or_ge i t with
          | inl q => exact q
          | inr q => rw [fhi i q] at h2; cases h2
        refine ⟨by rw [r1.length, ← argsD_length e1]; exact line_le hsz, fun p hp => ?_⟩
        have P2 : PostE G W ρ.length t (frzB B1 H1 ow1 F) H1 (cutO ow1 F) σ (.ok (.val (.node true k ds)) (frzE (fun i => (slotsOf none 0 os).contains i) 0 ρ1)) Q := fun v B' H' ow' s S' b' o' => P v B' H' ow' (st2.trans s) S' b' o'
        exact (P2.hand S2 bd2).new k ds vs p rfl (by rcases hk with rfl | rfl <;> trivial) fz hp
      · exact P.elim
theorem d_lst {es : List Expr} {pos : Pos} {ms : MA} (ha : PA X es (tDA G W ms)) : PE X (.List es pos) (tD G W (mDisp .lst ms)) := (pe_lst ha).up fun σ H Q q => post_disp (.inl rfl) q
theorem d_tup {es : List Expr} {x1} {pos : Pos} {ms : MA} (ha : PA X es (tDA G W ms)) : PE X (.Tuple es x1 pos) (tD G W (mDisp .tup ms)) := (pe_tup ha).up fun σ H Q q => post_disp (.inr rfl) q
/-! ## raise -/
def mRaise (c : Str) (m : ME) : MS := mThen m fun _ ρ1 => .ex c ρ1
theorem s_raise {e : Expr} {c : Str} {C : Addr} {m : ME} {pos : Pos} (hc : X.calm = true) (tk : L2N.Takes X W) (hM : G.mg = X.mg) (gC : X.mg c = some (.ref C)) (he : PE X e (tD G W m)) {f : Expr} (h : ∀ ta, PE X e ta → L2N.PMk X f (fun σ H Q => ta σ H fun _ H1 => Q (.ref C) none H1)) :
    PS X (.Raise (some f) none pos) (tDS G W (mRaise c m)) := (L2N.ps_raise hc tk (h _ he)).up fun E σ H q => by
  obtain ⟨B, ow, ρ, S, hb, P⟩ := q
  refine ⟨B, ow, ρ, ρ.length, S, hb, Nat.le_refl _, post_then S P fun o ρ1 v B1 H1 ow1 s1 S1 b1 r1 P => ?_⟩
  have hl := S.len2 S1
  exact P (.ref C) none σ _ _ _ (Stp.frz S1 s1 hb fun i h => .inr (of_decide_eq_true h)) (S1.frzT (t := ρ.length) (by omega)) S.len ⟨by rw [hM]; exact gC, rfl⟩
end
end DL

namespace DL
open PySem PySem.Spec L2

/-! ## an error that is caught -/
def Kd.nox : Kd → Bool
  | .exn _ => false
  | _ => true
mutual
def D.nox : D → Bool
  | .node _ k ds => k.nox && D.noxs ds
  | .exn _ => false
  | _ => true
def D.noxs : List D → Bool
  | [] => true
  | d :: ds => D.nox d && D.noxs ds
end
def noxE (ρ : Env) : Bool := ρ.all fun o => match o with
  | some d => d.nox
  | none => true
section
variable {N N' : List Nat → Bool → Kd → Addr → List V → Prop}
mutual
theorem Rg.ofNox : ∀ (d : D) {p : List Nat} {v : V}, d.nox = true → (∀ s o k a vs, k.nox = true → N s o k a vs → N' s o k a vs) → Rg N p v d → Rg N' p v d
  | .non, _, _, _, _, h => h
  | .bl _, _, _, _, _, h => h
  | .int _, _, _, _, _, h => h
  | .str _, _, _, _, _, h => h
  | .exn _, _, _, _, _, h => h
  | .node o k ds, p, v, hz, hN, h => by
    rw [D.nox] at hz
    simp only [Bool.and_eq_true] at hz
    rw [Rg] at h ⊢
    obtain ⟨a, vs, e, hn, hl⟩ := h
    exact ⟨a, vs, e, hN _ _ k a vs hz.1 hn, RgL.ofNox ds hz.2 hN hl⟩
theorem RgL.ofNox : ∀ (ds : List D) {p : List Nat} {n : Nat} {vs : List V}, D.noxs ds = true → (∀ s o k a vs, k.nox = true → N s o k a vs → N' s o k a vs) → RgL N p n vs ds → RgL N' p n vs ds
  | [], _, _, _, _, _, h => h
  | d :: ds, p, n, vs, hz, hN, h => by
    rw [D.noxs] at hz
    simp only [Bool.and_eq_true] at hz
    rw [RgL] at h ⊢
    obtain ⟨v, r, e, h1, h2⟩ := h
    exact ⟨v, r, e, Rg.ofNox d hz.1 hN h1, RgL.ofNox ds hz.2 hN h2⟩
end
end
abbrev Cfg.hold (G : Cfg) (a : Addr) (c : Str) : Cfg := { G with xa := some (a, c) }
section
variable {G : Cfg} {W : WX} {n t np : Nat} {B H B' H' B1 H1 B2 H2 B3 H3 : Hp} {ow ow' ow1 ow2 ow3 : Ow} {σ σ' : L2.St} {ρ ρ' ρ1 ρ2 : Env} {v : V} {X : Cx} {E : Ends} {a : Addr} {c : Str}
theorem HoB_hold {k : Kd} {b : Addr} {vs : List V} (hx : G.xa = none) (h : HoB G B k b vs) : HoB (G.hold a c) B k b vs := by
  cases k <;> first | exact h | (obtain ⟨h1, _⟩ := h; rw [hx] at h1; cases h1)
theorem HoB_unhold {k : Kd} {b : Addr} {vs : List V} (hk : k.nox = true) (h : HoB (G.hold a c) B k b vs) : HoB G B k b vs := by
  cases k <;> first | exact h | cases hk
theorem HoO_hold {k : Kd} {b : Addr} {vs : List V} : HoO (G.hold a c) B k b vs = HoO G B k b vs := by
  cases k <;> rfl
theorem Rp.hold {r : Nat} {d : D} (hx : G.xa = none) (h : Rp G B H ow r v d) : Rp (G.hold a c) B H ow r v d := h.shift d fun s o k b vs z => by
  unfold RpN at z ⊢
  split
  · rename_i ho
    rw [if_pos ho] at z
    rw [HoO_hold]
    exact z
  · rename_i ho
    rw [if_neg ho] at z
    exact HoB_hold hx z
theorem Rp.unhold {r : Nat} {d : D} (hd : d.nox = true) (h : Rp (G.hold a c) B H ow r v d) : Rp G B H ow r v d := Rg.ofNox d hd (fun s o k b vs hk z => by
  unfold RpN at z ⊢
  split
  · rename_i ho
    rw [if_pos ho, HoO_hold] at z
    exact z
  · rename_i ho
    rw [if_neg ho] at z
    exact HoB_unhold hk z) h
abbrev exnD (c : Str) : D := .node false (.exn c) []
theorem Sim.enter {i : Nat} (hx : G.xa = none) (hi : i < ρ.length) (hf : fxOk G.fx i) (S : Sim G B H ow σ ρ) : Sim (G.hold a c) B H (dropO ow i) (σ.set i (some (.ref a))) (ρ.set i (some (exnD c))) where
  same := S.same
  lab := fun b ⟨j, p⟩ h => S.lab b _ (dropO_some h).1
  len := by rw [List.length_set, List.length_set]; exact S.len
  slot := fun j d e => by
    by_cases hj : j = i
    · subst hj
      rw [List.getElem?_set_self hi] at e
      cases e
      refine ⟨.ref a, List.getElem?_set_self (by rw [S.len]; exact hi), ?_⟩
      show Rg _ _ _ _
      rw [Rg]
      refine ⟨a, [], rfl, ?_, rfl⟩
      unfold RpN
      rw [if_neg Bool.false_ne_true]
      exact ⟨rfl, rfl⟩
    · rw [List.getElem?_set_ne (Ne.symm hj)] at e
      obtain ⟨w, e1, r⟩ := S.slot j d e
      exact ⟨w, by rw [List.getElem?_set_ne (Ne.symm hj)]; exact e1, (r.drop hj).hold hx⟩
  fix := fun q hq => by
    rw [List.getElem?_set_ne (Ne.symm (hf q hq))]
    exact S.fix q hq
theorem Sim.leave {i : Nat} (hf : fxOk G.fx i) (hz : noxE (ρ.set i none) = true) (S : Sim (G.hold a c) B H ow σ ρ) : Sim G B H ow (σ.set i none) (ρ.set i none) where
  same := S.same
  lab := S.lab
  len := by rw [List.length_set, List.length_set]; exact S.len
  slot := fun j d e => by
    have hd : d.nox = true := by
      unfold noxE at hz
      rw [List.all_eq_true] at hz
      exact hz (some d) (List.mem_of_getElem? e)
    by_cases hj : i = j
    · subst hj
      by_cases hl : i < ρ.length
      · rw [List.getElem?_set_self hl] at e; cases e
      · rw [List.getElem?_eq_none (by rw [List.length_set]; omega)] at e; cases e
    · rw [List.getElem?_set_ne hj] at e
      obtain ⟨w, e1, r⟩ := S.slot j d e
      exact ⟨w, by rw [List.getElem?_set_ne hj]; exact e1, r.unhold hd⟩
  fix := fun q hq => by
    rw [List.getElem?_set_ne (Ne.symm (hf q hq))]
    exact S.fix q hq
theorem Sim.leaveR {i : Nat} (hz : noxE (ρ.set i none) = true) (S : Sim (G.hold a c) B H ow σ ρ) : Sim G B H ow σ (ρ.set i none) where
  same := S.same
  lab := S.lab
  len := by rw [List.length_set]; exact S.len
  slot := fun j d e => by
    have hd : d.nox = true := by
      unfold noxE at hz
      rw [List.all_eq_true] at hz
      exact hz (some d) (List.mem_of_getElem? e)
    by_cases hj : i = j
    · subst hj
      by_cases hl : i < ρ.length
      · rw [List.getElem?_set_self hl] at e; cases e
      · rw [List.getElem?_eq_none (by rw [List.length_set]; omega)] at e; cases e
    · rw [List.getElem?_set_ne hj] at e
      obtain ⟨w, e1, r⟩ := S.slot j d e
      exact ⟨w, e1, r.unhold hd⟩
  fix := S.fix
/-- the suite, its error in slot i -/
def suiteM (i : Nat) (ms : MS) (c : Str) : MS := fun ρ => if i < ρ.length then (match ms (ρ.set i (some (exnD c))) with
  | .nx ρ2 => if noxE (ρ2.set i none) = true then .nx (ρ2.set i none) else .bad
  | .bk ρ2 => if noxE (ρ2.set i none) = true then .bk (ρ2.set i none) else .bad
  | .ct ρ2 => if noxE (ρ2.set i none) = true then .ct (ρ2.set i none) else .bad
  | .rt d ρ2 => if (d.nox && noxE (ρ2.set i none)) = true then .rt d (ρ2.set i none) else .bad
  | _ => .bad) else .bad
/-- a suite that runs as any block (nothing can be raised in it) -/
def quietM (ms : MS) : MS := fun ρ => match ms ρ with
  | .ex _ _ => .bad
  | o => o
def mTryAs (known : List Str) (sub : Str → Bool) (i : Nat) (ms mb : MS) : MS := fun ρ => match mb ρ with
  | .ex c ρ1 => if known.contains c = true then (if sub c = true then suiteM i ms c ρ1 else .ex c ρ1) else .bad
  | o => o
def mTry (known : List Str) (sub : Str → Bool) (ms mb : MS) : MS := fun ρ => match mb ρ with
  | .ex c ρ1 => if known.contains c = true then (if sub c = true then quietM ms ρ1 else .ex c ρ1) else .bad
  | o => o
/-- what is known of the error classes that a clause for cv may meet -/
def SubOk (K : PySem.W.Frag) (mg : Str → Option Value) (known : List Str) (sub : Str → Bool) (cv : Value) : Prop :=
  ∀ c x, known.contains c = true → mg c = some x → PySem.W.exmOne K x cv = some (sub c)
def tSu (G : Cfg) (known : List Str) (ms : MS) (a : Addr) (cls : Value) (d : Option Addr) : TS := fun E σ H => ∃ c, known.contains c = true ∧ G.mg c = some cls ∧ d = none ∧ tDS (G.hold a c) Wno ms E σ H
def tSq (G : Cfg) (known : List Str) (ms : MS) (a : Addr) (cls : Value) (d : Option Addr) : TS := fun E σ H => tDS G Wno ms E σ H
theorem PostS.calm {o : Out} (h : PostS G W n B H ow o E) (hb : ∀ c ρ, o ≠ .ex c ρ) : PostS G Wno n B H ow o E := by
  cases o with
  | ex c ρ => exact absurd rfl (hb c ρ)
  | _ => exact h
theorem post_try {known : List Str} {sub : Str → Bool} {cv : Value} {ms mb : MS} (hs : SubOk G.K G.mg known sub cv) (q : tDS G W (mTry known sub ms mb) E σ H) : tDS G (wOnly G.K cv (tSq G known ms) W E) mb E σ H := by
  obtain ⟨B, ow, ρ, S, hb, P⟩ := q
  refine ⟨B, ow, ρ, S, hb, ?_⟩
  unfold mTry at P
  cases e : mb ρ with
  | nx ρ1 => rw [e] at P; exact P
  | bk ρ1 => rw [e] at P; exact P
  | ct ρ1 => rw [e] at P; exact P
  | rt d ρ1 => rw [e] at P; exact P
  | bad => rw [e] at P; exact P
  | ex c ρ1 =>
    rw [e] at P
    simp only at P
    intro x dd σ' B' H' ow' s' S' l' hx
    split at P
    · rename_i hk
      refine ⟨sub c, hs c x hk hx.1, fun hc a ha => ?_, fun hc => ?_⟩
      · rw [if_pos hc] at P
        have hl : ρ1.length = ρ.length := by rw [← S'.len, l']
        have S2 := S'.frzT (t := ρ.length) (by omega)
        have s2 := Stp.frz (t := ρ.length) (P := from_ ρ.length) S' s' hb fun i h => .inr (of_decide_eq_true h)
        refine ⟨_, _, ρ1, S2, by rw [hl]; exact cutO_bd, ?_⟩
        rw [hl]
        unfold quietM at P
        cases e2 : ms ρ1 with
        | ex c2 ρ2 => rw [e2] at P; exact P.elim
        | bad => rw [e2] at P; exact P.elim
        | nx ρ2 => rw [e2] at P; exact PostS.step s2 P
        | bk ρ2 => rw [e2] at P; exact PostS.step s2 P
        | ct ρ2 => rw [e2] at P; exact PostS.step s2 P
        | rt d ρ2 => rw [e2] at P; exact PostS.step s2 P
      · rw [if_neg (by rw [hc]; exact Bool.false_ne_true)] at P
        exact P x dd σ' B' H' ow' s' S' l' hx
    · exact P.elim
theorem post_tryAs {known : List Str} {sub : Str → Bool} {cv : Value} {i : Nat} {ms mb : MS} (hx0 : G.xa = none) (hf : fxOk G.fx i) (hs : SubOk G.K G.mg known sub cv) (q : tDS G W (mTryAs known sub i ms mb) E σ H) : tDS G (wAs G.K cv i (tSu G known ms) W E) mb E σ H := by
  obtain ⟨B, ow, ρ, S, hb, P⟩ := q
  refine ⟨B, ow, ρ, S, hb, ?_⟩
  unfold mTryAs at P
  cases e : mb ρ with
  | nx ρ1 => rw [e] at P; exact P
  | bk ρ1 => rw [e] at P; exact P
  | ct ρ1 => rw [e] at P; exact P
  | rt d ρ1 => rw [e] at P; exact P
  | bad => rw [e] at P; exact P
  | ex c ρ1 =>
    rw [e] at P
    simp only at P
    intro x dd σ' B' H' ow' s' S' l' hx
    split at P
    · rename_i hk
      refine ⟨sub c, hs c x hk hx.1, fun hc a ha => ?_, fun hc => ?_⟩
      · rw [if_pos hc] at P
        unfold suiteM at P
        split at P
        · rename_i hi
          have hl : ρ1.length = ρ.length := by rw [← S'.len, l']
          have S2 := S'.frzT (t := ρ.length) (by omega)
          have s2 := Stp.frz (t := ρ.length) (P := from_ ρ.length) S' s' hb fun i h => .inr (of_decide_eq_true h)
          have bd2 : Bd (cutO ow' (from_ ρ.length)) ρ.length := cutO_bd
          generalize frzB B' H' ow' (from_ ρ.length) = B2 at S2 s2
          generalize cutO ow' (from_ ρ.length) = ow2 at S2 s2 bd2
          have S3 := S2.enter (a := a) (c := c) hx0 hi hf
          have s3 : Stp ρ.length B H ow B2 H' (dropO ow2 i) := ⟨s2.sb, s2.keepU, fun b j p h hn => absurd (hb b j p h) (by omega), s2.newB, fun b ⟨j, p⟩ h => s2.newO b _ (dropO_some h).1, s2.old⟩
          refine ⟨c, hk, hx.1, hx.2, B2, dropO ow2 i, _, S3, by rw [List.length_set, hl]; exact fun b j p h => bd2 b j p (dropO_some h).1, ?_⟩
          rw [List.length_set, hl]
          cases e2 : ms (ρ1.set i (some (exnD c))) with
          | ex c2 ρ2 => rw [e2] at P; exact P.elim
          | bad => rw [e2] at P; exact P.elim
          | nx ρ2 =>
            rw [e2] at P
            simp only at P
            split at P
            · rename_i hz
              exact fun σ4 B4 H4 ow4 s4 S4 l4 b4 => P _ B4 H4 ow4 (s3.trans s4) (S4.leave hf hz) (by rw [List.length_set]; exact l4) b4
            · exact P.elim
          | bk ρ2 =>
            rw [e2] at P
            simp only at P
            split at P
            · rename_i hz
              exact fun σ4 B4 H4 ow4 s4 S4 l4 b4 => P _ B4 H4 ow4 (s3.trans s4) (S4.leave hf hz) (by rw [List.length_set]; exact l4) b4
            · exact P.elim
          | ct ρ2 =>
            rw [e2] at P
            simp only at P
            split at P
            · rename_i hz
              exact fun σ4 B4 H4 ow4 s4 S4 l4 b4 => P _ B4 H4 ow4 (s3.trans s4) (S4.leave hf hz) (by rw [List.length_set]; exact l4) b4
            · exact P.elim
          | rt d ρ2 =>
            rw [e2] at P
            simp only at P
            split at P
            · rename_i hz
              simp only [Bool.and_eq_true] at hz
              exact fun v σ4 B4 H4 ow4 s4 S4 b4 r4 => P v σ4 B4 H4 ow4 (s3.trans s4) (S4.leaveR hz.2) b4 (r4.unhold hz.1)
            · exact P.elim
        · exact P.elim
      · rw [if_neg (by rw [hc]; exact Bool.false_ne_true)] at P
        exact P x dd σ' B' H' ow' s' S' l' hx
    · exact P.elim
/-- try: .. except C as n: .. -/
theorem s_tryAs {x nm : Str} {cv : Value} {i : Nat} {body suite : List Stmt} {b0 : Stmt} {np pos pos' : Pos} {known : List Str} {sub : Str → Bool} {ms mb : MS} (hK : G.K = X.K) (hx0 : G.xa = none) (hf : fxOk G.fx i) (hs : SubOk G.K G.mg known sub cv)
    (h1 : X.stack = X.env :: X.outer) (h2 : X.env.frame = some X.env.locals) (hN : X.N.Nodup) (hi : X.N[i]? = some nm) (hln : X.env.kindOf nm = some .local) (hc : Names X x cv) (tk : L2N.Takes X W)
    (hb : ∀ (W' : WX) (pn : List (Addr × Obj)) (xe : Value → Shared → Prop), L2N.Takes (X.tr pn xe) W' → PassesOwn (model X.prog X.w) X.A X.env xe → PSs (X.tr pn xe) body (tDS G W' mb))
    (hsu : ∀ (a : Addr) (oe : Obj) (cls : Value) (pn : List (Addr × Obj)) (c : Str), known.contains c = true → X.mg c = some cls → L2N.Zn cls none oe → (∃ vs, oe.data = .fields vs) → PSs (X.suite a ((a, oe) :: pn)) (b0 :: suite) (tDS (G.hold a c) Wno ms)) (hM : G.mg = X.mg) :
    PS X (.Try body [.ExceptHandler (some (.Name x np)) (some nm) (b0 :: suite) pos'] [] [] pos) (tDS G W (mTryAs known sub i ms mb)) :=
  (L2N.ps_try_as (tb := fun W' => tDS G W' mb) (ts := tSu G known ms) h1 h2 hN hi hln hc tk hb fun a oe cls d pn hz hfl => ⟨fun pins s σ H E I q => by
    obtain ⟨c, hk, hm, rfl, q⟩ := q
    exact (hsu a oe cls pn c hk (by rw [← hM]; exact hm) hz hfl).run pins s σ H E I q⟩).up fun E σ H q => by
      show tDS G (wAs X.K cv i (tSu G known ms) W E) mb E σ H
      rw [← hK]
      exact post_tryAs hx0 hf hs q
/-- one clause without a name, the caught one's context known to be None -/
theorem try_only {X : Cx} {x : Str} {c : Value} {body suite : List Stmt} {b0 : Stmt} {np pos pos' : Pos} {tb : WX → TS} {ts : Addr → Value → Option Addr → TS} {W : WX} (h1 : X.stack = X.env :: X.outer) (h2 : X.env.frame = some X.env.locals) (hc : Names X x c) (tk : L2N.Takes X W)
    (hb : ∀ (W' : WX) (pn : List (Addr × Obj)) (xe : Value → Shared → Prop), L2N.Takes (X.tr pn xe) W' → PassesOwn (model X.prog X.w) X.A X.env xe → PSs (X.tr pn xe) body (tb W'))
    (hsu : ∀ (a : Addr) (oe : Obj) (cls : Value) (d : Option Addr) (pn : List (Addr × Obj)), L2N.Zn cls d oe → (∃ vs, oe.data = .fields vs) → PSs (X.suite a ((a, oe) :: pn)) (b0 :: suite) (ts a cls d)) :
    PS X (.Try body [.ExceptHandler (some (.Name x np)) none (b0 :: suite) pos'] [] [] pos) (fun D σ H => tb (wOnly X.K c ts W D) D σ H) :=
  L2N.ps_try_many h1 h2 tk hb (.cons hc hsu .nil)
/-- try: .. except C: .. -/
theorem s_try {x : Str} {cv : Value} {body suite : List Stmt} {b0 : Stmt} {np pos pos' : Pos} {known : List Str} {sub : Str → Bool} {ms mb : MS} (hK : G.K = X.K) (hs : SubOk G.K G.mg known sub cv)
    (h1 : X.stack = X.env :: X.outer) (h2 : X.env.frame = some X.env.locals) (hc : Names X x cv) (tk : L2N.Takes X W)
    (hb : ∀ (W' : WX) (pn : List (Addr × Obj)) (xe : Value → Shared → Prop), L2N.Takes (X.tr pn xe) W' → PassesOwn (model X.prog X.w) X.A X.env xe → PSs (X.tr pn xe) body (tDS G W' mb))
    (hsu : ∀ (a : Addr) (oe : Obj) (cls : Value) (pn : List (Addr × Obj)), PSs (X.suite a ((a, oe) :: pn)) (b0 :: suite) (tDS G Wno ms)) :
    PS X (.Try body [.ExceptHandler (some (.Name x np)) none (b0 :: suite) pos'] [] [] pos) (tDS G W (mTry known sub ms mb)) :=
  (try_only (tb := fun W' => tDS G W' mb) (ts := tSq G known ms) h1 h2 hc tk hb fun a oe cls d pn hz hfl => ⟨fun pins s σ H E I q => (hsu a oe cls pn).run pins s σ H E I q⟩).up fun E σ H q => by
      show tDS G (wOnly X.K cv (tSq G known ms) W E) mb E σ H
      rw [← hK]
      exact post_try hs q
/-! ## isinstance of a caught error -/
def mIsE (known : List Str) (sub : Str → Bool) (i : Nat) : ME := fun ρ => match slotOf ρ i with
  | some (.node false (.exn c) []) => if known.contains c = true then .ok (.val (.bl (sub c))) ρ else .bad
  | _ => .bad
def IsOk (K : PySem.W.Frag) (mg : Str → Option Value) (known : List Str) (sub : Str → Bool) (cv : Value) : Prop :=
  ∀ c, known.contains c = true → ∃ D, mg c = some (.ref D) ∧ ExcC K D ∧ PySem.W.kitOne K (.ref D) cv = some (sub c)
theorem d_isE {a : Addr} {oe : Obj} {pn : List (Addr × Obj)} {c : Str} {cls : Value} {known : List Str} {sub : Str → Bool} {cv : Value} {cV : V} {i : Nat} {e1 e2 : Expr} {p pos : Pos} (hK : G.K = X.K) (hM : G.mg = X.mg) (hk : known.contains c = true) (hm : X.mg c = some cls) (hz : L2N.Zn cls none oe) (hf : ∃ vs, oe.data = .fields vs)
    (hs : IsOk G.K G.mg known sub cv) (hu : ∀ u, RelV cV u → u = cv) (h1 : PE (X.suite a ((a, oe) :: pn)) e1 (tVar i)) (h2 : PE (X.suite a ((a, oe) :: pn)) e2 (tC cV)) (hg : Gl (X.suite a ((a, oe) :: pn)) "isinstance") (hi : X.mg "isinstance" = none)
    (hst : starEach [e1, e2] X.env = (false, eval e1 X.env) :: starEach [e2] X.env := by rfl) (hst2 : starEach [e2] X.env = (false, eval e2 X.env) :: starEach [] X.env := by rfl) (hpl : (backTo pos (starEach [e2] X.env)).any (·.1) = false := by rfl) :
    PE (X.suite a ((a, oe) :: pn)) (.Call (.Name "isinstance" p) [e1, e2] [] pos) (tD (G.hold a c) Wno (mIsE known sub i)) := by
  obtain ⟨Dc, hD, hC, _⟩ := hs c hk
  rw [hM, hm] at hD
  cases hD
  rw [hK] at hC
  refine (pe_callB (call_isE hC hz.zc hf) hg hi (by decide +kernel) (pa_cons h1 (pa_cons h2 pa_nil hst2) hst) (by decide) (by decide) hst hpl).up fun σ H Q q => ?_
  obtain ⟨B, ow, ρ, t, S, hb, hn, P⟩ := q
  unfold mIsE at P
  split at P
  · rename_i c' e3
    split at P
    · rename_i hk'
      obtain ⟨v, hv, r⟩ := S.slot i _ (slotOf_some e3)
      unfold Rp at r
      rw [Rg] at r
      obtain ⟨a', vs, rfl, hn', _⟩ := r
      unfold RpN at hn'
      rw [if_neg Bool.false_ne_true] at hn'
      obtain ⟨h3, _⟩ := hn'
      have h3 : some (a, c) = some (a', c') := h3
      cases h3
      obtain ⟨Dc', hD', _, hkit⟩ := hs c hk
      rw [hM, hm] at hD'
      cases hD'
      exact ⟨.ref a, hv, cV, cv, _, rfl, hu, by rw [← hK]; exact hkit, P _ B H ow Stp.refl S (hb.up (by omega)) rfl⟩
    · exact P.elim
  · exact P.elim
end
end DL

namespace DL
open PySem PySem.Spec L2

/-! ## isinstance of data -/
inductive Ty where
  | non | bool | int | str | list | tuple | dict
  deriving DecidableEq
def Ty.nm : Ty → String
  | .non => "NoneType"
  | .bool => "bool"
  | .int => "int"
  | .str => "str"
  | .list => "list"
  | .tuple => "tuple"
  | .dict => "dict"
def Ty.is (a b : Ty) : Bool := a == b || (a == .bool && b == .int)
theorem kit_tab (a b : Ty) : kitB a.nm b.nm = some (a.is b) := by
  cases a <;> cases b <;> decide +kernel
def D.ty : D → Option Ty
  | .non => some .non
  | .bl _ => some .bool
  | .int _ => some .int
  | .str _ => some .str
  | .exn _ => none
  | .node _ k _ => match k with
    | .lst => some .list
    | .tup => some .tuple
    | .dK _ => some .dict
    | .dT _ => some .dict
    | _ => none
section
variable {G : Cfg} {W : WX} {n t np : Nat} {B H B' H' B1 H1 B2 H2 B3 H3 : Hp} {ow ow' ow1 ow2 ow3 : Ow} {σ σ' : L2.St} {ρ ρ' ρ1 ρ2 : Env} {v : V} {X : Cx} {E : Ends}
theorem ty_v {u : Nat} {d : D} {T : Ty} (S : Two G B H ow) (h : Rp G B H ow u v d) (e : d.ty = some T) : TyX G.K H v (.type T.nm) := by
  cases d with
  | non => cases h; cases e; exact .base .non
  | bl b => cases h; cases e; exact .base (.bl b)
  | int i => cases h; cases e; exact .base (.int i)
  | str s => cases h; cases e; exact .base (.str s)
  | exn c => cases e
  | node o k ds =>
    obtain ⟨a, vs, rfl, ha, _⟩ := Rp.node S h
    cases k with
    | lst => cases e; exact .base (.lst ha)
    | tup =>
      cases e
      rcases ha with (ha | ⟨ob, ha⟩) | ⟨ob, its, nn, h1, h2, _⟩
      · exact .base (.tup ha)
      · exact .fTuple ha
      · exact .kTuple h1 h2
    | dK ks => cases e; exact .base (.dK ha.2)
    | dT ks => cases e; exact .base (.dT ha.2)
    | _ => cases e
def mIsI (T : Ty) (m : ME) : ME := fun ρ => (m ρ).bind fun o ρ1 => match o.vw ρ1 with
  | none => .bad
  | some d => match d.ty with
    | none => .bad
    | some T' => .ok (.val (.bl (T'.is T))) ρ1
theorem d_isI {T : Ty} {m : ME} {e1 e2 : Expr} {p pos : Pos} (hK : G.K = X.K) (h1 : PE X e1 (tD G W m)) (h2 : PE X e2 (tC (.ty T.nm))) (hg : Gl X "isinstance") (hi : X.mg "isinstance" = none)
    (hst : starEach [e1, e2] X.env = (false, eval e1 X.env) :: starEach [e2] X.env := by rfl) (hst2 : starEach [e2] X.env = (false, eval e2 X.env) :: starEach [] X.env := by rfl) (hpl : (backTo pos (starEach [e2] X.env)).any (·.1) = false := by rfl) :
    PE X (.Call (.Name "isinstance" p) [e1, e2] [] pos) (tD G W (mIsI T m)) := (pe_callB call_isi hg hi (by decide +kernel) (pa_cons h1 (pa_cons h2 pa_nil hst2) hst) (by decide) (by decide) hst hpl).up fun σ H Q q => by
  obtain ⟨B, ow, ρ, t, S, hb, hn, P⟩ := q
  refine ⟨B, ow, ρ, t, S, hb, hn, ?_⟩
  unfold mIsI at P
  cases e : m ρ with
  | bad => rw [e] at P; exact P
  | ex c ρ1 => rw [e] at P; exact P
  | ok o ρ1 =>
    rw [e, Rs.bind_ok] at P
    intro v B1 H1 ow1 s1 S1 b1 r1
    have hl := S.len2 S1
    cases e1 : o.vw ρ1 with
    | none => simp only [e1] at P; exact P.elim
    | some d =>
      simp only [e1] at P
      cases e2 : d.ty with
      | none => simp only [e2] at P; exact P.elim
      | some T' =>
        simp only [e2] at P
        have S2 := S1.frzT (t := t) (by omega)
        obtain ⟨u, hu⟩ := vw_rp S1 (by omega) r1 e1
        have ty := ty_v ⟨S2.same, S2.lab⟩ hu e2
        rw [hK] at ty
        exact ⟨v, .ty T.nm, .type T'.nm, .type T.nm, _, rfl, .ty _, ty, kit_ty (kit_tab T' T), P _ _ _ _ (Stp.frz S1 s1 hb fun i h => .inr (of_decide_eq_true h)) S2 (cutO_bd.up (by omega)) rfl⟩
/-- a new thing that nobody holds -/
theorem Sim.grow {p : Addr} {o : HO} (S : Sim G B H ow σ ρ) (hp : H p = none) : Sim G B (upd H p o) ow σ ρ := by
  have ne : ∀ a l, ow a = some l → a ≠ p := fun a l h => by
    obtain ⟨_, u, hu⟩ := S.lab a l h
    exact ne_of_none hu hp
  refine ⟨fun a u h => ?_, fun a l h => ?_, S.len, fun i d h => ?_, S.fix⟩
  · rw [upd_ne (ne_of_none (S.same a u h) hp)]
    exact S.same a u h
  · obtain ⟨h1, u, h2⟩ := S.lab a l h
    exact ⟨h1, u, by rw [upd_ne (ne a l h)]; exact h2⟩
  · obtain ⟨v, e, r⟩ := S.slot i d h
    refine ⟨v, e, r.shift d fun s o k a vs z => ?_⟩
    unfold RpN at z ⊢
    split
    · rename_i ho
      rw [if_pos ho] at z
      exact ⟨z.1, z.2.at (upd_ne (ne a _ z.1))⟩
    · rename_i ho
      rw [if_neg ho] at z
      exact z
theorem Stp.grow {p : Addr} {o : HO} (S : Sim G B H ow σ ρ) (hp : H p = none) : Stp n B H ow B (upd H p o) ow := by
  have ne : ∀ a l, ow a = some l → a ≠ p := fun a l h => by
    obtain ⟨_, u, hu⟩ := S.lab a l h
    exact ne_of_none hu hp
  exact ⟨Same.refl _, fun a u h _ => by rw [upd_ne (ne_of_none h hp)]; exact h, fun a i q h _ => ⟨h, upd_ne (ne a _ h)⟩, fun _ _ h => .inl h, fun a l h => .inr ⟨l, h⟩, fun a h => by
    by_cases e : a = p
    · subst e; rw [upd_same]; exact nofun
    · rw [upd_ne e]; exact h⟩
/-- isinstance(e, (T1, T2)) -/
def mIsI2 (T1 T2 : Ty) (m : ME) : ME := fun ρ => (m ρ).bind fun o ρ1 => match o.vw ρ1 with
  | none => .bad
  | some d => match d.ty with
    | none => .bad
    | some T' => .ok (.val (.bl (T'.is T1 || T'.is T2))) ρ1
theorem d_isI2 {T1 T2 : Ty} {m : ME} {e1 e2 e3 : Expr} {k} {p pos pt : Pos} (hK : G.K = X.K) (h1 : PE X e1 (tD G W m)) (h2 : PE X e2 (tC (.ty T1.nm))) (h3 : PE X e3 (tC (.ty T2.nm))) (hg : Gl X "isinstance") (hi : X.mg "isinstance" = none)
    (hst : starEach [e1, .Tuple [e2, e3] k pt] X.env = (false, eval e1 X.env) :: starEach [.Tuple [e2, e3] k pt] X.env := by rfl) (hst2 : starEach [.Tuple [e2, e3] k pt] X.env = (false, eval (.Tuple [e2, e3] k pt) X.env) :: starEach [] X.env := by rfl)
    (hst3 : starEach [e2, e3] X.env = (false, eval e2 X.env) :: starEach [e3] X.env := by rfl) (hst4 : starEach [e3] X.env = (false, eval e3 X.env) :: starEach [] X.env := by rfl) (hpl : (backTo pos (starEach [.Tuple [e2, e3] k pt] X.env)).any (·.1) = false := by rfl) :
    PE X (.Call (.Name "isinstance" p) [e1, .Tuple [e2, e3] k pt] [] pos) (tD G W (mIsI2 T1 T2 m)) :=
  (pe_callB call_isiT hg hi (by decide +kernel) (pa_cons h1 (pa_cons (pe_tup (pa_cons h2 (pa_cons h3 pa_nil hst4) hst3)) pa_nil hst2) hst) (by decide) (by decide) hst hpl).up fun σ H Q q => by
  obtain ⟨B, ow, ρ, t, S, hb, hn, P⟩ := q
  refine ⟨B, ow, ρ, t, S, hb, hn, ?_⟩
  unfold mIsI2 at P
  cases e : m ρ with
  | bad => rw [e] at P; exact P
  | ex c ρ1 => rw [e] at P; exact P
  | ok o ρ1 =>
    rw [e, Rs.bind_ok] at P
    intro v B1 H1 ow1 s1 S1 b1 r1
    have hl := S.len2 S1
    cases e1 : o.vw ρ1 with
    | none => simp only [e1] at P; exact P.elim
    | some d =>
      simp only [e1] at P
      cases e2 : d.ty with
      | none => simp only [e2] at P; exact P.elim
      | some T' =>
        simp only [e2] at P
        refine ⟨by show 2 ≤ sizeLine; decide, fun tp htp => ?_⟩
        have S2 := S1.frzT (t := t) (by omega)
        obtain ⟨u, hu⟩ := vw_rp S1 (by omega) r1 e1
        have ty := ty_v ⟨S2.same, S2.lab⟩ hu e2
        have ty2 : TyX X.K (upd H1 tp (.tup [.ty T1.nm, .ty T2.nm])) v (.type T'.nm) := by
          rw [← hK]
          have S3 := S2.grow (o := .tup [.ty T1.nm, .ty T2.nm]) htp
          have hu3 : Rp G (frzB B1 H1 ow1 (from_ t)) (upd H1 tp (.tup [.ty T1.nm, .ty T2.nm])) (cutO ow1 (from_ t)) u v d := hu.shift d fun s o k a vs z => by
            unfold RpN at z ⊢
            split
            · rename_i ho
              rw [if_pos ho] at z
              obtain ⟨_, w, hw⟩ := S2.lab a _ z.1
              exact ⟨z.1, z.2.at (upd_ne (ne_of_none hw htp))⟩
            · rename_i ho
              rw [if_neg ho] at z
              exact z
          exact ty_v ⟨S3.same, S3.lab⟩ hu3 e2
        refine ⟨v, tp, [.ty T1.nm, .ty T2.nm], .type T'.nm, [.type T1.nm, .type T2.nm], _, rfl, upd_same, .cons (.ty _) (.cons (.ty _) .nil), ty2, ?_, P _ _ _ _ ((Stp.frz S1 s1 hb fun i h => .inr (of_decide_eq_true h)).trans (Stp.grow S2 htp)) (S2.grow htp) (cutO_bd.up (by omega)) rfl⟩
        refine kitAny_cons (kit_ty (kit_tab T' T1)) (fun hf => ?_) (fun hf => by rw [hf]; rfl)
        refine kitAny_cons (kit_ty (kit_tab T' T2)) (fun hf2 => ?_) (fun hf2 => by rw [hf2, Bool.or_true])
        rw [hf, hf2]
        rfl
/-! ## a < b < c -/
def mChain (g g' : List D → Option D) (m1 m2 m3 : ME) : ME := fun ρ => (m1 ρ).bind fun o1 ρ1 => (m2 ρ1).bind fun o2 ρ2 => match o1, o2 with
  | .val x, .val y => if (x.sv.isSome && y.sv.isSome) = true then (match g [x, y] with
    | some (.bl b) => if b = true then (m3 ρ2).bind fun o3 ρ3 => (match o3 with
      | .val z => if z.sv.isSome = true then (match g' [y, z] with
        | some d => .ok (.val d) ρ3
        | none => .bad) else .bad
      | _ => .bad) else .ok (.val (.bl false)) ρ2
    | _ => .bad) else .bad
  | _, _ => .bad
theorem op_at {g : List D → Option D} {r : R2} (hr : OpOk G (r2L r) g) {x y d : D} {xv yv : V} (S : Two G B H ow) (hx : x.sv = some xv) (hy : y.sv = some yv) (e : g [x, y] = some d) {Q : VK} (K : Hand G B H d Q) : r xv yv H Q := by
  obtain ⟨x', y', exy, q⟩ := hr B H ow [xv, yv] [x, y] d Q S ⟨xv, _, rfl, ⟨0, Rg.ofSv hx⟩, yv, _, rfl, ⟨0, Rg.ofSv hy⟩, rfl⟩ e K
  cases exy
  exact q
theorem post_chain {g g' : List D → Option D} {r r' : R2} {m1 m2 m3 : ME} {Q : VK} (hr : OpOk G (r2L r) g) (hr' : OpOk G (r2L r') g') (q : tD G W (mChain g g' m1 m2 m3) σ H Q) : tChain r r' (tD G W m1) (tD G W m2) (tD G W m3) σ H Q := by
  obtain ⟨B, ow, ρ, t, S, hb, hn, P⟩ := q
  refine ⟨B, ow, ρ, t, S, hb, hn, ?_⟩
  unfold mChain at P
  cases e : m1 ρ with
  | bad => rw [e] at P; exact P
  | ex c ρ1 => rw [e] at P; exact P
  | ok o1 ρ1 =>
    rw [e, Rs.bind_ok] at P
    intro v B1 H1 ow1 s1 S1 b1 r1
    have hl := S.len2 S1
    have st1 := Stp.frz (P := from_ t) S1 s1 hb fun i h => .inr (of_decide_eq_true h)
    have S1' := S1.frzT (t := t) (by omega)
    refine ⟨B1, ow1, ρ1, t + 1, S1, b1, by omega, ?_⟩
    cases e2 : m2 ρ1 with
    | bad => rw [e2] at P; exact P
    | ex c ρ2 => rw [e2] at P; rw [hl]; exact PostX.step s1 P
    | ok o2 ρ2 =>
      rw [e2, Rs.bind_ok] at P
      intro w B2 H2 ow2 s2 S2 b2 r2
      rw [hl] at s2
      have hl2 := S1.len2 S2
      split at P
      · rename_i x y
        split at P
        · rename_i c
          simp only [Bool.and_eq_true] at c
          obtain ⟨xv, hx⟩ := Option.isSome_iff_exists.mp c.1
          obtain ⟨yv, hy⟩ := Option.isSome_iff_exists.mp c.2
          have hv : v = xv := Rg.toSv (show Rg _ _ v x from r1) hx
          have hw : w = yv := Rg.toSv (show Rg _ _ w y from r2) hy
          subst hv hw
          have s12 := s1.trans s2
          have st2 := Stp.frz (P := from_ t) S2 s12 hb fun i h => .inr (of_decide_eq_true h)
          have S2' := S2.frzT (t := t) (by omega)
          split at P
          · rename_i b eg
            refine op_at hr ⟨S2.same, S2.lab⟩ hx hy eg ⟨fun u hu => ?_, fun k es ws p ed => nomatch ed⟩
            cases hu.2
            refine ⟨b, rfl, ?_⟩
            cases b with
            | false =>
              rw [if_neg Bool.false_ne_true] at P ⊢
              exact P _ _ _ _ st2 S2' (cutO_bd.up (by omega)) rfl
            | true =>
              rw [if_pos rfl] at P ⊢
              refine ⟨_, _, ρ2, t, S2', cutO_bd, by omega, ?_⟩
              cases e3 : m3 ρ2 with
              | bad => rw [e3] at P; exact P
              | ex c ρ3 => rw [e3] at P; rw [hl2, hl]; exact PostX.step st2 P
              | ok o3 ρ3 =>
                rw [e3, Rs.bind_ok] at P
                intro z B3 H3 ow3 s3 S3 b3 r3
                rw [hl2, hl] at s3
                have hl3 := S2'.len2 S3
                split at P
                · rename_i zd
                  split at P
                  · rename_i c3
                    obtain ⟨zv, hz⟩ := Option.isSome_iff_exists.mp c3
                    have hz' : z = zv := Rg.toSv (show Rg _ _ z zd from r3) hz
                    subst hz'
                    split at P
                    · rename_i d ed
                      have st3 := Stp.frz (P := from_ t) S3 (st2.trans s3) hb fun i h => .inr (of_decide_eq_true h)
                      have S3' := S3.frzT (t := t) (by omega)
                      have P3 : PostE G W ρ.length t _ H3 _ σ (.ok (.val d) ρ3) Q := fun v B' H' ow' s S' b' o' => P v B' H' ow' (st3.trans s) S' b' o'
                      exact op_at hr' ⟨S3'.same, S3'.lab⟩ hy hz ed (P3.hand S3' cutO_bd)
                    · exact P.elim
                  · exact P.elim
                · exact P.elim
          · exact P.elim
        · exact P.elim
      · exact P.elim
theorem d_chain {a b c : Expr} {pos : Pos} {op op' : CmpOp} {g g' : List D → Option D} {r r' : R2} {m1 m2 m3 : ME} (ho : OpR X (compareOp op) r) (ho' : OpR X (compareOp op') r') (hr : OpOk G (r2L r) g) (hr' : OpOk G (r2L r') g') (h1 : PE X a (tD G W m1)) (h2 : PE X b (tD G W m2)) (h3 : PE X c (tD G W m3))
    (hm : lastMarks [op, op'] [b, c] = false := by with_unfolding_all rfl) : PE X (.Compare a [op, op'] [b, c] pos) (tD G W (mChain g g' m1 m2 m3)) := (pe_chain ho ho' h1 h2 h3 hm).up fun σ H Q q => post_chain hr hr' q
theorem tD_b {m : ME} {te : TE} {Q : Bool → Hp → Prop} (h : ∀ Q, tD G W m σ H Q → te σ H Q) (q : tDT G W (mB m) σ H Q) : tTest te σ H Q := by
  obtain ⟨B, ow, ρ, t, S, hb, hn, P⟩ := q
  exact h _ ⟨B, ow, ρ, t, S, hb, hn, post_b S hb hn P⟩
theorem dt_chain {a b c : Expr} {pos : Pos} {op op' : CmpOp} {g g' : List D → Option D} {r r' : R2} {m1 m2 m3 : ME} (ho : OpR X (compareOp op) r) (ho' : OpR X (compareOp op') r') (hr : OpOk G (r2L r) g) (hr' : OpOk G (r2L r') g') (h1 : PE X a (tD G W m1)) (h2 : PE X b (tD G W m2)) (h3 : PE X c (tD G W m3))
    (hm : lastMarks [op, op'] [b, c] = false := by with_unfolding_all rfl) : PT X (.Compare a [op, op'] [b, c] pos) (tDT G W (mB (mChain g g' m1 m2 m3))) := (pt_chain ho ho' h1 h2 h3 hm).up fun σ H Q q => tD_b (fun Q q => post_chain hr hr' q) q
/-! ## slices, with their parts -/
theorem one_ {m : ME} {ms : MA} {g : List D → Option D} : True := trivial
theorem d_un {e a : Expr} {m1 : ME} {g : List D → Option D} {r : V → Hp → VK → Prop} (hr : OpOk G (fun xs H Q => ∃ x, xs = [x] ∧ r x H Q) g) (ha : PE X a (tD G W m1)) (h : ∀ ta, PE X a ta → PE X e (fun σ H Q => ta σ H fun x H1 => r x H1 Q)) :
    PE X e (tD G W (mOp (mCons m1 mNil) g)) := (h _ ha).up fun σ H Q q => by
  obtain ⟨B, ow, ρ, t, S, hb, hn, P⟩ := q
  refine ⟨B, ow, ρ, t, S, hb, hn, ?_⟩
  have P1 := post_cons S hn (post_op hr S hb hn P)
  cases e : m1 ρ with
  | bad => rw [e] at P1; exact P1
  | ex c ρ1 => rw [e] at P1; exact P1
  | ok o ρ1 =>
    rw [e] at P1
    intro v B1 H1 ow1 s1 S1 b1 r1
    obtain ⟨B3, ow3, ρ3, t3, S3, hb3, hn3, P3⟩ := P1 v B1 H1 ow1 s1 S1 b1 r1
    obtain ⟨x, ex, q⟩ := P3 [] B3 H1 ow3 Stp.refl S3 hb3 rfl
    cases ex
    exact q
theorem d_neg {a : Expr} {pos : Pos} {m : ME} (ha : PE X a (tD G W m)) : PE X (.UnaryOp .USub a pos) (tD G W (mOp (mCons m mNil) gNeg)) := d_un ok_neg ha fun _ h => pe_un un_neg h
theorem d_sl0 {e : Expr} {pos p2 : Pos} {m : ME} (hK : G.K = X.K) (he : PE X e (tD G W m)) : PE X (.Subscript e (.Slice none none none p2) pos) (tD G W (mOp (mCons m mNil) gSl0)) := d_un ok_sl0 he fun _ h => by rw [hK]; exact pe_slice sl_A h po_none po_none
theorem post2 {m1 m2 : ME} {g : List D → Option D} {r : V → V → Hp → VK → Prop} {Q : VK} (hr : OpOk G (r2L r) g) (q : tD G W (mOp (mCons m1 (mCons m2 mNil)) g) σ H Q) : tOp r (tD G W m1) (tD G W m2) σ H Q := by
  obtain ⟨B, ow, ρ, t, S, hb, hn, P⟩ := q
  refine ⟨B, ow, ρ, t, S, hb, hn, ?_⟩
  have P1 := cons2 S hn (post_op hr S hb hn P)
  cases e : m1 ρ with
  | bad => rw [e] at P1; exact P1
  | ex c ρ1 => rw [e] at P1; exact P1
  | ok o ρ1 =>
    rw [e] at P1
    intro v B1 H1 ow1 s1 S1 b1 r1
    obtain ⟨B, ow, ρ, t, S, hb, hn, P⟩ := P1 v B1 H1 ow1 s1 S1 b1 r1
    refine ⟨B, ow, ρ, t, S, hb, hn, ?_⟩
    cases e2 : m2 ρ with
    | bad => rw [e2] at P; exact P
    | ex c ρ1 => rw [e2] at P; exact P
    | ok o2 ρ2 =>
      rw [e2] at P
      intro w B2 H2 ow2 s2 S2 b2 r2
      obtain ⟨x, y, exy, q⟩ := P w B2 H2 ow2 s2 S2 b2 r2
      cases exy
      exact q
theorem d_slL {e lo : Expr} {pos p2 : Pos} {m ml : ME} (hK : G.K = X.K) (he : PE X e (tD G W m)) (hl : PE X lo (tD G W ml)) : PE X (.Subscript e (.Slice (some lo) none none p2) pos) (tD G W (mOp (mCons m (mCons ml mNil)) gSlL)) :=
  (pe_slice sl_A he (po_some hl) po_none).up fun σ H Q q => by
    have h : OpOk G (r2L fun x y H Q => ∃ i, y = .int i ∧ rSlA G.K x (some i) none H Q) gSlL := fun B H ow vs ds d Q S R e K => by
      obtain ⟨x, i, rfl, q⟩ := ok_slL B H ow vs ds d Q S R e K
      exact ⟨x, _, rfl, i, rfl, q⟩
    have := post2 h q
    rw [← hK]
    exact this
theorem d_slH {e hi : Expr} {pos p2 : Pos} {m mh : ME} (hK : G.K = X.K) (he : PE X e (tD G W m)) (hh : PE X hi (tD G W mh)) : PE X (.Subscript e (.Slice none (some hi) none p2) pos) (tD G W (mOp (mCons m (mCons mh mNil)) gSlH)) :=
  (pe_slice sl_A he po_none (po_some hh)).up fun σ H Q q => by
    have h : OpOk G (r2L fun x y H Q => ∃ i, y = .int i ∧ rSlA G.K x none (some i) H Q) gSlH := fun B H ow vs ds d Q S R e K => by
      obtain ⟨x, i, rfl, q⟩ := ok_slH B H ow vs ds d Q S R e K
      exact ⟨x, _, rfl, i, rfl, q⟩
    have := post2 h q
    rw [← hK]
    exact this
end
end DL

namespace DL
open PySem PySem.Spec L2

section
variable {G : Cfg} {W : WX} {n t np : Nat} {B H B' H' B1 H1 B2 H2 B3 H3 : Hp} {ow ow' ow1 ow2 ow3 : Ow} {σ : L2.St} {ρ ρ' ρ1 ρ2 : Env} {v : V} {X : Cx} {E : Ends}
theorem tD_mono {m : ME} {Q Q' : VK} (q : tD G W m σ H Q) (k : ∀ v H, Q v H → Q' v H) : tD G W m σ H Q' := by
  obtain ⟨B, ow, ρ, t, S, hb, hn, P⟩ := q
  refine ⟨B, ow, ρ, t, S, hb, hn, ?_⟩
  cases e : m ρ with
  | bad => rw [e] at P; exact P
  | ex c ρ1 => rw [e] at P; exact P
  | ok o ρ1 => rw [e] at P; exact fun v B' H' ow' s' S' b' r' => k _ _ (P v B' H' ow' s' S' b' r')
theorem tDA_cons {m : ME} {ms : MA} {Q : List V → Hp → Prop} (q : tDA G W (mCons m ms) σ H Q) : tD G W m σ H fun x H1 => tDA G W ms σ H1 fun vs H2 => Q (x :: vs) H2 := by
  obtain ⟨B, ow, ρ, t, S, hb, hn, P⟩ := q
  exact ⟨B, ow, ρ, t, S, hb, hn, post_cons S hn P⟩
theorem tDA_nil {Q : List V → Hp → Prop} (q : tDA G W mNil σ H Q) : Q [] H := by
  obtain ⟨B, ow, ρ, t, S, hb, hn, P⟩ := q
  exact P [] B H ow Stp.refl S hb rfl
theorem post3 {m1 m2 m3 : ME} {g : List D → Option D} {r : V → V → V → Hp → VK → Prop} {Q : VK} (hr : OpOk G (fun vs H Q => ∃ x y z, vs = [x, y, z] ∧ r x y z H Q) g) (q : tD G W (mOp (mCons m1 (mCons m2 (mCons m3 mNil))) g) σ H Q) :
    tD G W m1 σ H fun x H1 => tD G W m2 σ H1 fun y H2 => tD G W m3 σ H2 fun z H3 => r x y z H3 Q := by
  obtain ⟨B, ow, ρ, t, S, hb, hn, P⟩ := q
  have P1 := post_op hr S hb hn P
  refine tD_mono (tDA_cons ⟨B, ow, ρ, t, S, hb, hn, P1⟩) fun x H1 q1 => tD_mono (tDA_cons q1) fun y H2 q2 => tD_mono (tDA_cons q2) fun z H3 q3 => ?_
  obtain ⟨x', y', z', e, q⟩ := tDA_nil q3
  cases e
  exact q
/-- a whole number -/
def mCk (m : ME) : ME := fun ρ => (m ρ).bind fun o ρ1 => match o.vw ρ1 with
  | some (.int i) => .ok (.val (.int i)) ρ1
  | _ => .bad
theorem post_ck {m : ME} {Q : VK} (q : tD G W (mCk m) σ H Q) : tD G W m σ H fun v H1 => ∃ i, v = .int i ∧ Q (.int i) H1 := by
  obtain ⟨B, ow, ρ, t, S, hb, hn, P⟩ := q
  refine ⟨B, ow, ρ, t, S, hb, hn, ?_⟩
  unfold mCk at P
  cases e : m ρ with
  | bad => rw [e] at P; exact P
  | ex c ρ1 => rw [e] at P; exact P
  | ok o ρ1 =>
    rw [e, Rs.bind_ok] at P
    intro v B1 H1 ow1 s1 S1 b1 r1
    cases e1 : o.vw ρ1 with
    | none => simp only [e1] at P; exact P.elim
    | some d =>
      simp only [e1] at P
      split at P
      · rename_i i e2
        cases e2
        have hv : v = .int i := by
          cases o with
          | val d0 =>
            have e3 : d0.frz = D.int i := Option.some.inj e1
            have : d0 = .int i := by
              cases d0 with
              | node o k ds => rw [D.frz] at e3; cases e3
              | _ => simpa [D.frz] using e3
            subst this
            exact r1
          | slot j =>
            obtain ⟨w, hw, hr⟩ := S1.slot j _ (slotOf_some e1)
            have : σ[j]? = some (some v) := r1
            rw [this] at hw
            cases hw
            exact hr
        subst hv
        have hl := S.len2 S1
        exact ⟨i, rfl, P (.int i) B1 H1 ow1 s1 S1 b1 rfl⟩
      · exact P.elim
theorem d_slB {e lo hi : Expr} {pos p2 : Pos} {m ml mh : ME} (hK : G.K = X.K) (he : PE X e (tD G W m)) (hl : PE X lo (tD G W ml)) (hh : PE X hi (tD G W mh)) : PE X (.Subscript e (.Slice (some lo) (some hi) none p2) pos) (tD G W (mOp (mCons m (mCons (mCk ml) (mCons mh mNil))) gSlB)) :=
  (pe_slice sl_A he (po_some hl) (po_some hh)).up fun σ H Q q => by
    have h : OpOk G (fun vs H Q => ∃ x y z, vs = [x, y, z] ∧ ∃ i j, y = .int i ∧ z = .int j ∧ rSlA G.K x (some i) (some j) H Q) gSlB := fun B H ow vs ds d Q S R e K => by
      obtain ⟨x, i, j, rfl, q⟩ := ok_slB B H ow vs ds d Q S R e K
      exact ⟨x, _, _, rfl, i, j, rfl, rfl, q⟩
    refine tD_mono (post3 h q) fun x H1 q1 => ?_
    rw [← hK]
    refine tD_mono (post_ck q1) fun y H2 q2 => ?_
    obtain ⟨i, rfl, q2⟩ := q2
    refine ⟨i, rfl, tD_mono q2 fun z H3 q3 => ?_⟩
    obtain ⟨i', j, e, rfl, q⟩ := q3
    cases e
    exact ⟨j, rfl, q⟩
theorem s_for {tg iter : Expr} {body : List Stmt} {pos : Pos} {mi : MI} {g : TG} {l : List Nat} {tgm : MG} {mb : MS} (hp : PassesOwn (model X.prog X.w) X.A X.env X.xe) (hc : X.calm = true) (hi : PI X tg iter (tDI G W mi)) (hg : PG X tg g) (htg : TgOk G l g tgm) (hb : PSs X body (tDS G W mb))
    (hs : ∀ x, foldedSetIterable iter X.env x = pure x := by intro _; rfl) : PS X (.For tg iter body [] pos) (tDS G W (mFor mi tgm mb)) := (ps_for hp hc hi hg hb hs).up fun E σ H q => post_for htg q
def mYes : MT := fun ρ => .ok true ρ
theorem ts_nil : PTs X [] (tDT G W mYes) := by
  refine ⟨fun pins s σ H Q I h => pts_nil.run pins s σ H Q I ?_⟩
  obtain ⟨B, ow, ρ, t, S, hb, hn, P⟩ := h
  exact P B H ow Stp.refl S (hb.up (by omega))
theorem d_lc {elt tg iter : Expr} {ifs : List Expr} {scope : Scope} {own : List (Str × Nat)} {pos : Pos} {mi : MI} {g : TG} {l : List Nat} {tgm : MG} {mt : MT} {me : ME} (hc : X.calm = true) (hN : X.N.Nodup) (hi : PI X tg iter (tDI G W mi)) (ok : BlkOk X.N X.env.scope scope own)
    (hg : ∀ (s : Shared) (H : Hp) (C : Addr) (cl : List (Str × Addr)) (fp : List Addr), PG (X.blk s H scope (compEnvC scope cl C X.env) fp) tg g) (htg : TgOk G l g tgm) (hl : ∀ i ∈ l, i ∈ own.map (·.2)) (hx : ∀ i ∈ own.map (·.2), fxOk G.fx i)
    (ht : ∀ (s : Shared) (H : Hp) (C : Addr) (cl : List (Str × Addr)) (fp : List Addr), PTs (X.blk s H scope (compEnvC scope cl C X.env) fp) ifs (tDT G Wno mt))
    (he : ∀ (s : Shared) (H : Hp) (C : Addr) (cl : List (Str × Addr)) (fp : List Addr), PE (X.blk s H scope (compEnvC scope cl C X.env) fp) elt (tD G Wno me)) (hs : ∀ x, foldedSetIterable iter X.env x = pure x := by intro _; rfl) :
    PE X (.ListComp elt [⟨tg, iter, ifs, 0⟩] scope pos) (tD G W (mLc mi tgm (own.map (·.2)) mt me)) := (pe_lc hc hN hi ok hg ht he hs).up fun σ H Q q => post_lc htg hl hx q
/-- name = [..] -/
theorem s_setLc {i : Nat} {y : Str} {py : Pos} {elt tg iter : Expr} {ifs : List Expr} {scope : Scope} {own : List (Str × Nat)} {pos spos : Pos} {mi : MI} {g : TG} {l : List Nat} {tgm : MG} {mt : MT} {me : ME} (hc : X.calm = true) (hN : X.N.Nodup) (hy : X.N[i]? = some y) (hyl : X.env.scope.names.lookup y = some .local)
    (hsw : swapsWith (.ListComp elt [⟨tg, iter, ifs, 0⟩] scope pos) (some (.Name y py)) spos.line X.env = pure true) (hfx : fxOk G.fx i) (hi : PI X tg iter (tDI G W mi)) (ok : BlkOk X.N X.env.scope scope own)
    (hg : ∀ (s : Shared) (H : Hp) (C : Addr) (cl : List (Str × Addr)) (fp : List Addr), PG (X.blk s H scope (compEnvC scope cl C X.env) fp) tg g) (htg : TgOk G l g tgm) (hl : ∀ i ∈ l, i ∈ own.map (·.2)) (hx : ∀ i ∈ own.map (·.2), fxOk G.fx i)
    (ht : ∀ (s : Shared) (H : Hp) (C : Addr) (cl : List (Str × Addr)) (fp : List Addr), PTs (X.blk s H scope (compEnvC scope cl C X.env) fp) ifs (tDT G Wno mt))
    (he : ∀ (s : Shared) (H : Hp) (C : Addr) (cl : List (Str × Addr)) (fp : List Addr), PE (X.blk s H scope (compEnvC scope cl C X.env) fp) elt (tD G Wno me)) (hs : ∀ x, foldedSetIterable iter X.env x = pure x := by intro _; rfl) :
    PS X (.Assign [.Name y py] (.ListComp elt [⟨tg, iter, ifs, 0⟩] scope pos) spos) (tDS G W (mSet i (mLc mi tgm (own.map (·.2)) mt me))) := ⟨fun pins s σ H E I q => by
  have hl' : i < σ.length := by
    rw [I.len]
    exact (List.getElem?_eq_some_iff.mp hy).1
  refine (ps_setLc hc hN hy hyl hsw hi ok hg ht he hs).run pins s σ H E I ?_
  obtain ⟨B, ow, ρ, S, hb, P⟩ := q
  exact post_lc (W := W) htg hl hx ⟨B, ow, ρ, ρ.length, S, hb, Nat.le_refl _, post_set hfx S (by rw [← S.len]; exact hl') hb P⟩⟩
theorem takes_no : L2N.Takes X Wno := fun u s' ⟨_, _, _, _, _, _, _, _, _, _, _, _, _, _, _, _, w⟩ => w.elim
end
end DL

namespace DL
open PySem PySem.Spec L2

/-! ## for printed derivations -/
theorem fx_all {fx : List (Nat × V)} {np : Nat} {re l : List Nat} (h : ∀ i, (np ≤ i ∨ re.contains i = true) → fxOk fx i) (c : (l.all fun i => decide (np ≤ i) || re.contains i) = true) : ∀ i ∈ l, fxOk fx i := fun i hi => by
  have := List.all_eq_true.mp c i hi
  simp only [Bool.or_eq_true, decide_eq_true_eq] at this
  exact h i this
section
variable {P : Program} {w : World} {K : PySem.W.Frag} {mg : Str → Option Value} {base : Heap}
theorem dk_mk0 {x : Str} {k np : Nat} {m : MF} {f : Addr} {fd : FuncData} {ps : List Str} (h : FnOk P w K mg base (L2N.CX P w) k f fd ps (SpD ⟨K, mg, [], none⟩ np m)) (mF : mg x = some (.ref f)) (kF : PySem.W.keepIn K (.ref f) = true) (b : Binds K fd ps []) : DefOk P w K mg base x k np [] m :=
  ⟨⟨f, fd, ps, h, mF, kF, fun i hi => ⟨[], [], by rw [List.drop_nil]; rfl, .nil, b⟩⟩⟩
theorem dk_mkD {x : Str} {k np : Nat} {m : MF} {f : Addr} {fd : FuncData} {ps : List Str} {dvs : List V} {dfl : List D} (h : FnOk P w K mg base (L2N.CX P w) k f fd ps (SpD ⟨K, mg, [], none⟩ np m)) (mF : mg x = some (.ref f)) (kF : PySem.W.keepIn K (.ref f) = true)
    (hd : dfl.map D.sv = dvs.map some) (b : ∀ i, i ≤ dvs.length → ∃ ds, Vals (dvs.drop i) ds ∧ Binds K fd ps ds) : DefOk P w K mg base x k np dfl m :=
  ⟨⟨f, fd, ps, h, mF, kF, fun i hi => by
    have hl : dfl.length = dvs.length := by
      have := congrArg List.length hd
      rw [List.length_map, List.length_map] at this
      exact this
    obtain ⟨ds, h1, h2⟩ := b i (by omega)
    refine ⟨dvs.drop i, ds, ?_, h1, h2⟩
    rw [List.map_drop, hd, List.map_drop]⟩⟩
theorem DefOk.mono {x : Str} {j k np : Nat} {dfl : List D} {m : MF} (F : DefOk P w K mg base x j np dfl m) (h : j ≤ k) : DefOk P w K mg base x k np dfl m := by
  obtain ⟨f, fd, ps, F, mx, kx, bx⟩ := F.ex
  exact ⟨⟨f, fd, ps, F.mono h, mx, kx, bx⟩⟩
/-- the promise of a law -/
def spLaw (K : PySem.W.Frag) : Sp := fun vs H Q E => ∃ (a : Addr) (ns : List Int), vs = [.ref a] ∧ SqL K H a (ns.map V.int) ∧ ns.length ≤ 63 ∧ ∀ H', Q (.bl true) H'
/-- the law says True of every script -/
def LawTrue (m : MF) : Prop := ∀ ns : List Int, ns.length ≤ 63 → ∃ ds, m [.node false .ro (ns.map .int)] = .ok (.bl true) ds
theorem law_sp {m : MF} (h : LawTrue m) (vs : List V) (H : Hp) (Q : VK) (E : XK) (q : spLaw K vs H Q E) : SpD ⟨K, mg, [], none⟩ 1 m vs H Q E := by
  obtain ⟨a, ns, rfl, hs, hl, q⟩ := q
  obtain ⟨ds, e⟩ := h ns hl
  refine ⟨H, fun _ => none, [.node false .ro (ns.map .int)], ⟨Same.refl H, fun _ _ h => nomatch h⟩, rfl, ⟨_, _, rfl, ?_, rfl⟩, (fun _ _ _ h => nomatch h), ?_⟩
  · have z : Fz ⟨K, mg, [], none⟩ H (.ref a) (.node false .ro (ns.map .int)) := by
      refine ⟨?_, ?_⟩
      · rw [D.fz, (FzL.ints (G := ⟨K, mg, [], none⟩) (B := H) ns).1]
        rfl
      · show Rg _ _ _ _
        rw [Rg]
        exact ⟨a, ns.map V.int, rfl, hs, (FzL.ints ns).2⟩
    exact z.rp
  · rw [e]
    intro v B' H' ow' _ _ _ r _
    cases (show v = .bl true from r)
    exact q H'
theorem law_fn {m : MF} {k : Nat} {f : Addr} {fd : FuncData} {ps : List Str} (h : LawTrue m) (F : FnOk P w K mg base (L2N.CX P w) k f fd ps (SpD ⟨K, mg, [], none⟩ 1 m)) : FnOk P w K mg base (L2N.CX P w) k f fd ps (spLaw K) := F.imp fun vs H Q E q => law_sp h vs H Q E q
theorem no_exc {H : Hp} {s : Shared} {e : Value} {s' : Shared} (h : L2N.CX P w [] H s (fun _ _ _ => False) e s') : False := by
  obtain ⟨_, _, _, _, _, _, _, _, _, _, _, _, h⟩ := h
  exact h
end
section
variable {G : Cfg} {W : WX} {X : Cx}
theorem s_bad {b : List Stmt} : PSs X b (tDS G W fun _ => .bad) := ⟨fun pins s σ H E I q => by
  obtain ⟨B, ow, ρ, S, hb, P⟩ := q
  exact P.elim⟩
def subOf (l : List Str) : Str → Bool := fun c => l.contains c
theorem d_gint {x : Str} {i : Int} {pos : Pos} (hm : ∃ t, X.mg x = some (.int i t)) (hg : Gl X x) (hd : (x == ("__debug__" : Str)) = false := by decide) : PE X (.Name x pos) (tD G W (mC (.int i))) := by
  obtain ⟨t, hm⟩ := hm
  exact d_c rfl (pe_glob hg hm ⟨_, rfl⟩ hd)
theorem d_gstr {x : Str} {i : Str} {pos : Pos} (hm : ∃ t, X.mg x = some (.str i t)) (hg : Gl X x) (hd : (x == ("__debug__" : Str)) = false := by decide) : PE X (.Name x pos) (tD G W (mC (.str i))) := by
  obtain ⟨t, hm⟩ := hm
  exact d_c rfl (pe_glob hg hm ⟨_, rfl⟩ hd)
theorem b_one {x : Str} {id : String} {e : Expr} {p pos : Pos} {m : ME} {g : List D → Option D} {r : List V → Hp → VK → Prop} (hr : OpOk G r g) (hc : CallR X (.builtin id) r) (hv : bootBuiltins x = some (.builtin id)) (hm : X.mg x = none) (hg : Gl X x) (h : PE X e (tD G W m)) (hn : x ≠ "__name__" := by decide) (hdb : (x == ("__debug__" : Str)) = false := by decide)
    (he : starEach (e :: []) X.env = (false, eval e X.env) :: starEach [] X.env := by rfl) (hpl : (backTo pos (starEach [] X.env)).any (·.1) = false := by rfl) : PE X (.Call (.Name x p) [e] [] pos) (tD G W (mOp (mCons m mNil) g)) :=
  d_call hr (da_cons h da_nil he) fun _ h => pe_callB hc hg hm hv h hn hdb he hpl
theorem b_two {x : Str} {id : String} {e e2 : Expr} {p pos : Pos} {m m2 : ME} {g : List D → Option D} {r : List V → Hp → VK → Prop} (hr : OpOk G r g) (hc : CallR X (.builtin id) r) (hv : bootBuiltins x = some (.builtin id)) (hm : X.mg x = none) (hg : Gl X x) (h : PE X e (tD G W m)) (h2 : PE X e2 (tD G W m2)) (hn : x ≠ "__name__" := by decide) (hdb : (x == ("__debug__" : Str)) = false := by decide)
    (he : starEach (e :: [e2]) X.env = (false, eval e X.env) :: starEach [e2] X.env := by rfl) (he2 : starEach [e2] X.env = (false, eval e2 X.env) :: starEach [] X.env := by rfl) (hpl : (backTo pos (starEach [e2] X.env)).any (·.1) = false := by rfl) : PE X (.Call (.Name x p) [e, e2] [] pos) (tD G W (mOp (mCons m (mCons m2 mNil)) g)) :=
  d_call hr (da_cons h (da_cons h2 da_nil he2) he) fun _ h => pe_callB hc hg hm hv h hn hdb he hpl
theorem b_ty {x : Str} {id : String} {e : Expr} {p pos : Pos} {m : ME} {g : List D → Option D} {r : List V → Hp → VK → Prop} (hr : OpOk G r g) (hc : CallR X (.type id) r) (hv : bootBuiltins x = some (.type id)) (hm : X.mg x = none) (hg : Gl X x) (h : PE X e (tD G W m)) (hn : x ≠ "__name__" := by decide) (hdb : (x == ("__debug__" : Str)) = false := by decide)
    (he : starEach (e :: []) X.env = (false, eval e X.env) :: starEach [] X.env := by rfl) (hpl : (backTo pos (starEach [] X.env)).any (·.1) = false := by rfl) : PE X (.Call (.Name x p) [e] [] pos) (tD G W (mOp (mCons m mNil) g)) :=
  d_call hr (da_cons h da_nil he) fun _ h => pe_callTy hc hg hm hv h hn hdb he hpl
theorem d_ty {x : Str} {id : String} {pos : Pos} (hv : bootBuiltins x = some (.type id)) (hm : X.mg x = none) (hg : Gl X x) (hn : x ≠ "__name__" := by decide) (hdb : (x == ("__debug__" : Str)) = false := by decide) : PE X (.Name x pos) (tC (.ty id)) := pe_bltn hg hm hv rfl hn hdb
end
theorem bt_min : bootBuiltins "min" = some (.builtin "min") := by decide +kernel
theorem bt_max : bootBuiltins "max" = some (.builtin "max") := by decide +kernel
theorem bt_sum : bootBuiltins "sum" = some (.builtin "sum") := by decide +kernel
theorem bt_abs : bootBuiltins "abs" = some (.builtin "abs") := by decide +kernel
theorem bt_len : bootBuiltins "len" = some (.builtin "len") := by decide +kernel
theorem bt_sorted : bootBuiltins "sorted" = some (.builtin "sorted") := by decide +kernel
theorem bt_int : bootBuiltins "int" = some (.type "int") := by decide +kernel
theorem bt_str : bootBuiltins "str" = some (.type "str") := by decide +kernel
theorem bt_list : bootBuiltins "list" = some (.type "list") := by decide +kernel
theorem bt_tuple : bootBuiltins "tuple" = some (.type "tuple") := by decide +kernel
theorem bt_bool : bootBuiltins "bool" = some (.type "bool") := by decide +kernel
theorem bt_dict : bootBuiltins "dict" = some (.type "dict") := by decide +kernel
theorem bt_VE : bootBuiltins "ValueError" = some (.type "ValueError") := by decide +kernel
theorem kit_of {K : PySem.W.Frag} {S T : Addr} {b : Bool} (ne : S ≠ T) (h2 : PySem.W.isClsIn K T = true) (h3 : PySem.W.typeIn K (.ref T) = some (.type "type")) (h4 : PySem.W.subIn K (.ref S) (.ref T) = some b) : PySem.W.kitOne K (.ref S) (.ref T) = some b := by
  have e2 : ((PySem.W.clsIn K T).isSome && PySem.W.typeIn K (.ref T) == some (.type "type")) = true := by
    have h2' : (PySem.W.clsIn K T).isSome = true := h2
    rw [h2', h3] <;> rfl
  unfold PySem.W.kitOne PySem.W.kitCls
  rw [if_neg (by simpa using ne)]
  simp only
  rw [if_pos e2]
  exact h4
theorem kit_self {K : PySem.W.Frag} {S : Value} : PySem.W.kitOne K S S = some true := by
  unfold PySem.W.kitOne
  rw [if_pos (by exact beq_self_eq_true S)]
theorem kit_VE {K : PySem.W.Frag} {S : Addr} {b : Bool} (h4 : PySem.W.subIn K (.ref S) (.type "ValueError") = some b) : PySem.W.kitOne K (.ref S) (.type "ValueError") = some b := by
  unfold PySem.W.kitOne PySem.W.kitCls
  rw [if_neg (by simp)]
  simp only
  rw [if_pos (by decide +kernel)]
  exact h4
theorem exm_cls {K : PySem.W.Frag} {S T : Addr} {b : Bool} (h1 : PySem.W.subIn K (.ref T) (.type "BaseException") = some true) (h2 : PySem.W.isClsIn K T = true) (h3 : PySem.W.typeIn K (.ref T) = some (.type "type")) (h4 : PySem.W.subIn K (.ref S) (.ref T) = some b) : PySem.W.exmOne K (.ref S) (.ref T) = some b := by
  have e1 : (PySem.W.subIn K (.ref T) (.type "BaseException") == some true) = true := by rw [h1] <;> rfl
  have e2 : ((PySem.W.clsIn K T).isSome && PySem.W.typeIn K (.ref T) == some (.type "type")) = true := by
    have h2' : (PySem.W.clsIn K T).isSome = true := h2
    rw [h2', h3] <;> rfl
  show (if (PySem.W.subIn K (.ref T) (.type "BaseException") == some true) = true then (if ((PySem.W.clsIn K T).isSome && PySem.W.typeIn K (.ref T) == some (.type "type")) = true then PySem.W.subIn K (.ref S) (.ref T) else none) else none) = some b
  rw [if_pos e1, if_pos e2]
  exact h4
/-- an own error's class -/
structure ErrOk (K : PySem.W.Frag) (mg : Str → Option Value) (x : Str) (C : Addr) : Prop where
  g : mg x = some (.ref C)
  x : PySem.W.excIn K C [.type "ValueError", .type "Exception", .type "BaseException", .type "object"] "ValueError.__new__" = true
  k : PySem.W.keepIn K (.ref C) = true
  b : PySem.W.subIn K (.ref C) (.type "BaseException") = some true
  t : PySem.W.typeIn K (.ref C) = some (.type "type")
  e : ExcC K C
section
variable {G : Cfg} {W : WX} {X : Cx}
/-- an own exception with a worked out text, no context -/
theorem pmk_own1N {X : Cx} {C : Addr} {bms : List Value} {B nw ini : String} {x : Str} {e : Expr} {ta : TE} {p pos : Pos} (F : ExcBaseFacts B nw ini bms) (q : PySem.W.excIn X.K C bms nw = true) (gC : X.mg x = some (.ref C)) (kC : PySem.W.keepIn X.K (.ref C) = true) (r : Raises X (.ref C)) (hg : Gl X x)
    (he : PE X e ta) (hs : starEach [e] X.env = (false, eval e X.env) :: starEach [] X.env := by rfl) (hdb : (x == ("__debug__" : Str)) = false := by decide) :
    L2N.PMk X (.Call (.Name x p) [e] [] pos) (fun σ H Q => ta σ H fun _ H1 => Q (.ref C) none H1) := by
  intro pn s0 σ H Q I hta
  apply wpAny_Call_Name_kw
  apply ld_glob I hg gC _ hdb
  apply PySem.W.callWith_K (h₀ := X.base) I.ok.mod.kin kC _ hs (by rfl)
  rw [hs]
  show wpAny _ _ (spliced ((false, eval e X.env) :: backTo pos (starEach [] X.env))) _ _ s0
  apply Calls.spliced_cons
  refine thn (he.run pn s0 σ H _ I hta) fun u s1 hu => ?_
  obtain ⟨v, H1, I1, r1, q1⟩ := hu
  apply Calls.spliced_nil
  refine ⟨I1.kIn, ?_⟩
  show wpAny _ _ (call (.ref C) [u]) _ _ _
  have ob := exc_obj I1.kIn q
  obtain ⟨bm, N, nm, qn, bs, hd, sn, sub, ab, col, dd, _, _, _, _, _, _, hC, hN, hni, T⟩ := ob
  apply wpAny_call_exc_subT F T hC hN hni
  · intro h' a hm
    exact L2N.mk_of I1 hm r q1 (I1.hok.gone hm.new)
  all_goals
    show 1 ≤ sizeLine
    rw [sizeLine_eq]
    omega
/-- raise C('..') -/
theorem s_raise1 {x : Str} {e : Expr} {C : Addr} {m : ME} {p1 p2 pos : Pos} (hc : X.calm = true) (tk : L2N.Takes X W) (hM : G.mg = X.mg) (T : ErrOk X.K X.mg x C) (hg : Gl X x) (he : PE X e (tD G W m)) (hs : starEach [e] X.env = (false, eval e X.env) :: starEach [] X.env := by rfl) (hdb : (x == ("__debug__" : Str)) = false := by decide) :
    PS X (.Raise (some (.Call (.Name x p1) [e] [] p2)) none pos) (tDS G W (mRaise x m)) := s_raise hc tk hM T.g he fun ta h => pmk_own1N PySem.F.excBase_ValueError T.x T.g T.k (raises_own T.b T.t) hg h hs hdb
theorem subOk_nil {K : PySem.W.Frag} {mg : Str → Option Value} {sub : Str → Bool} {cv : Value} : SubOk K mg [] sub cv := fun c x h => by cases h
theorem subOk_cons {K : PySem.W.Frag} {mg : Str → Option Value} {sub : Str → Bool} {cv : Value} {c : Str} {l : List Str} {S : Addr} {b : Bool} (g : mg c = some (.ref S)) (h : PySem.W.exmOne K (.ref S) cv = some b) (hb : sub c = b) (r : SubOk K mg l sub cv) : SubOk K mg (c :: l) sub cv := fun c' x hc e => by
  rw [List.contains_cons, Bool.or_eq_true] at hc
  rcases hc with q | q
  · have : c' = c := by simpa using q
    subst this
    rw [g] at e
    cases e
    rw [hb]
    exact h
  · exact r c' x q e
theorem isOk_nil {K : PySem.W.Frag} {mg : Str → Option Value} {sub : Str → Bool} {cv : Value} : IsOk K mg [] sub cv := fun c h => by cases h
theorem isOk_cons {K : PySem.W.Frag} {mg : Str → Option Value} {sub : Str → Bool} {cv : Value} {c : Str} {l : List Str} {S : Addr} {b : Bool} (T : ErrOk K mg c S) (h : PySem.W.kitOne K (.ref S) cv = some b) (hb : sub c = b) (r : IsOk K mg l sub cv) : IsOk K mg (c :: l) sub cv := fun c' hc => by
  rw [List.contains_cons, Bool.or_eq_true] at hc
  rcases hc with q | q
  · have : c' = c := by simpa using q
    subst this
    exact ⟨S, T.g, T.e, by rw [hb]; exact h⟩
  · exact r c' q
end
/-! ## is True, is False -/
def D.isB (d : D) (b : Bool) : Bool := match d with
  | .bl c => c == b
  | _ => false
def gIsB : List D → Option D
  | [d, .bl b] => some (.bl (d.isB b))
  | _ => none
def gNotB : List D → Option D
  | [d, .bl b] => some (.bl (!d.isB b))
  | _ => none
def vIsB (x : V) (b : Bool) : Bool := match x with
  | .bl c => c == b
  | _ => false
theorem isSame_b {M : Model} {A : Around} {E : Value → Shared → Prop} {s : Shared} {x : V} {u : Value} {b : Bool} {R : Bool → Shared → Prop} (r : RelV x u) (q : R (vIsB x b) s) : wpAny M A (isSame u (.bool b)) R E s := by
  have eq_ : ∀ {u : Value} {c : Bool}, plainIs u (.bool b) = true → (u == Value.bool b) = c → R c s → wpAny M A (isSame u (.bool b)) R E s := fun h1 h2 q => wpAny_isSame_plain h1 (by rw [h2]; exact q)
  cases x with
  | ref a => cases r; exact eq_ rfl rfl q
  | non => cases r; exact eq_ rfl rfl q
  | bl c => cases r; exact eq_ rfl (by cases b <;> cases c <;> rfl) q
  | int i => obtain ⟨t, rfl⟩ := r; exact eq_ rfl rfl q
  | str x => obtain ⟨t, rfl⟩ := r; exact eq_ rfl rfl q
  | byt x => obtain ⟨t, rfl⟩ := r; exact eq_ rfl rfl q
  | flt x => obtain ⟨t, rfl⟩ := r; exact eq_ rfl rfl q
  | ty n => cases r; exact eq_ rfl rfl q
theorem op_isB {X : Cx} : OpR X (compareOp .Is) (fun x y H Q => ∃ b, y = .bl b ∧ Q (.bl (vIsB x b)) H) := by
  intro pins s σ H x y v u Q I rx ry h
  obtain ⟨b, rfl, q⟩ := h
  cases ry
  show wpAny _ _ ((isSame v (Value.bool b)) >>= fun z => pure (Value.bool z)) _ _ s
  exact wpAny_bind (isSame_b rx (wpAny_pure (fin_bl I q rfl)))
theorem op_notB {X : Cx} : OpR X (compareOp .IsNot) (fun x y H Q => ∃ b, y = .bl b ∧ Q (.bl (!vIsB x b)) H) := by
  intro pins s σ H x y v u Q I rx ry h
  obtain ⟨b, rfl, q⟩ := h
  cases ry
  show wpAny _ _ ((isSame v (Value.bool b)) >>= fun z => pure (Value.bool (!z))) _ _ s
  exact wpAny_bind (isSame_b rx (wpAny_pure (fin_bl I q rfl)))
theorem isB_v {N p} {v : V} {d : D} {b : Bool} (h : Rg N p v d) : vIsB v b = d.isB b := by
  cases d with
  | node o k ds => rw [Rg] at h; obtain ⟨a, vs, rfl, _⟩ := h; rfl
  | exn => cases h
  | _ => cases h; rfl
theorem ok_isB {G : Cfg} : OpOk G (r2L (fun x y H Q => ∃ b, y = .bl b ∧ Q (.bl (vIsB x b)) H)) gIsB := by
  intro B H ow vs ds d Q S R e K
  unfold gIsB at e
  split at e
  · obtain ⟨v, w, u, z, rfl, h1, h2⟩ := R.two
    cases h2; cases e
    exact ⟨_, _, rfl, _, rfl, by rw [isB_v h1]; exact K.old _ (Fz.sv rfl)⟩
  · cases e
theorem ok_notB {G : Cfg} : OpOk G (r2L (fun x y H Q => ∃ b, y = .bl b ∧ Q (.bl (!vIsB x b)) H)) gNotB := by
  intro B H ow vs ds d Q S R e K
  unfold gNotB at e
  split at e
  · obtain ⟨v, w, u, z, rfl, h1, h2⟩ := R.two
    cases h2; cases e
    exact ⟨_, _, rfl, _, rfl, by rw [isB_v h1]; exact K.old _ (Fz.sv rfl)⟩
  · cases e
end DL

namespace DL
open PySem PySem.Spec PyProof.Rows L2 RT
/-! ## list(reversed(x)) -/
section
variable {prog : Program} {w : World} {A : Around} {E : Value → Shared → Prop} {s : Shared}
/-- a list made longer by what a backward walk over a list gives -/
theorem extend_rv {R : Result → Shared → Prop} {rv l S : Addr} {xs : Array Value} {c0 : Nat} {res : Value} (quiet : A.handled = none) (hrv : s.heap.IsRevIter rv l ((xs.size : Int) - 1)) (hl : s.heap.IsList l xs) (ne : l ≠ rv) (few : xs.size ≤ sizeLine) (s1 : S ≠ rv) (s2 : S ≠ l)
    (hS : s.heap.get? S = some { cls := .type "list", data := .seq #[] c0 })
    (k : ∀ (h' : Heap) (tk : Nat) (acc : Array Value) (c : Nat), (∀ b o, b ≠ rv → b ≠ S → s.heap.get? b = some o → h'.get? b = some o) → h'.get? S = some { cls := .type "list", dict := none, data := .seq acc c, slots := #[] } → ItemsOf (fun i v => xs[xs.size - 1 - i]? = some v) acc xs.size → R (.ok (.ret res)) { s with heap := h', toks := tk }) :
    wpAny (model prog w) A.in1 (Builtin.List.listExtendWith (.ref S) (.ref rv) res)
      (fun fin s' => match fin with
        | .done f => R (.ok f) s'
        | .again c' => c'.quiet = true ∧ codeAny (model prog w) A c' R s') (fun e s' => R (.error e) s') s := by
  have Wk := (Walks.listRev (prog := prog) (w := w) (A := A.in1) quiet rv l ne xs).toS
  have out : S ∉ [rv, l] := by
    simp only [List.mem_cons, List.not_mem_nil, or_false, not_or]
    exact ⟨s1, s2⟩
  have ty : s.TypeIs (.ref rv) "list_reverseiterator" := hrv.typeIs
  have other : Builtin.List.listSameRef (.ref S) (.ref rv) = false := by simp [Builtin.List.listSameRef, s1]
  unfold Builtin.List.listExtendWith
  refine wpAny_bind (wpAny_typeOf ty ?_)
  rw [if_neg (by rw [other]; decide)]
  refine wpAny_bind (wpAny_pyIter_revIter hrv ?_)
  refine wpAny_bind (wpAny_holding ?_)
  unfold Builtin.List.listLengthHint
  refine wpAny_bind (wpAny_specialOf ty nolen_lri ?_)
  show wpAny _ A.in1 (specialOf (Value.ref rv) (Str.ofString "__length_hint__") >>= _) _ _ _
  refine wpAny_bind (wpAny_specialOf ty hint_lri ?_)
  generalize hn : ("list_reverseiterator.__length_hint__" : String) = nm
  wp_delta
  rw [show splitId nm = some ("list_reverseiterator", "__length_hint__") from by subst hn; decide +kernel]
  subst hn
  refine wpAny_bind (wpAny_isInstance (b := true) ty (by rw [isSubtype_type]; kernel_rfl) ?_)
  refine wpAny_pure ?_
  rw [if_neg (by decide)]
  have z0 : ((xs.size : Nat) : Int) - 1 - ((0 : Nat) : Int) = (xs.size : Int) - 1 := by omega
  refine wpAny_pure ⟨plainId_quiet F.plain_extend_loop _, codeAny_extend_loopS Wk few _ out _ xs.size 0 _ _ _ rfl (Nat.zero_le _) ⟨Nat.zero_le _, by rw [z0]; exact hrv, hl⟩ hS (ItemsOf.nil _) fun s' acc' c' mv hS' hacc => ?_⟩
  rw [Moved.eq_with mv]
  refine k s'.heap s'.toks acc' c' (fun b o h1 h2 e => mv.heap b o (fun hm => ?_) e) hS' hacc
  rcases List.mem_cons.mp hm with q | q
  · exact h2 q
  · exact h1 (List.mem_singleton.mp q)
theorem call_list_rv {Q : Value → Shared → Prop} {rv l : Addr} {xs : Array Value} (quiet : A.handled = none) (hrv : s.heap.IsRevIter rv l ((xs.size : Int) - 1)) (hl : s.heap.IsList l xs) (ne : l ≠ rv) (few : xs.size ≤ sizeLine)
    (k : ∀ (h' : Heap) (tk : Nat) (acc : Array Value) (c : Nat), (∀ b o, b ≠ rv → s.heap.get? b = some o → h'.get? b = some o) → h'.get? s.heap.objs.size = some { cls := .type "list", dict := none, data := .seq acc c, slots := #[] } → ItemsOf (fun i v => xs[xs.size - 1 - i]? = some v) acc xs.size → Q (.ref s.heap.objs.size) { s with heap := h', toks := tk }) :
    wpAny (model prog w) A (call (.type "list") [.ref rv]) Q E s := by
  obtain ⟨o1, g1, _⟩ := id hrv
  obtain ⟨o2, g2, _⟩ := id hl
  have n1 : s.heap.objs.size ≠ rv := Nat.ne_of_gt (Heap.lt_size g1)
  have n2 : s.heap.objs.size ≠ l := Nat.ne_of_gt (Heap.lt_size g2)
  refine callType_codes (Q₁ := fun obj t => obj = .ref s.heap.objs.size ∧ t = { s with heap := s.heap.push { cls := .type "list", data := .seq #[] } }) F.called_list (F.typeCall_list_1 _) F.entry_list_init (code_list_new _ ⟨rfl, rfl⟩) fun obj t h => ?_
  obtain ⟨rfl, rfl⟩ := h
  have hS : (s.heap.push { cls := .type "list", data := .seq #[] }).get? s.heap.objs.size = some { cls := .type "list", data := .seq #[] } := Heap.get?_push_size _ rfl
  refine ⟨⟨_, hS, rfl⟩, F.args_list_init_2 _ _, ?_⟩
  show wpAny _ A.in1.in1 (do let old ← Builtin.List.listItems (.ref s.heap.objs.size); Builtin.List.listUpdate (.ref s.heap.objs.size) (fun _ => #[]); letGo old.toList.reverse; Builtin.List.listExtendWith (.ref s.heap.objs.size) (.ref rv) .none) _ _ _
  refine wpAny_bind ?_
  unfold Builtin.List.listItems
  refine wpAny_bind (wpAny_seqItems hS rfl (wpAny_pure ?_))
  show wpAny _ A.in1.in1 (updateSeq s.heap.objs.size (fun _ => #[]) >>= fun _ => letGo (#[] : Array Value).toList.reverse >>= fun _ => Builtin.List.listExtendWith (.ref s.heap.objs.size) (.ref rv) .none) _ _ _
  refine wpAny_bind (wpAny_updateSeq hS rfl ?_)
  have hS2 := Heap.get?_update_self (Obj.mapSeq (fun _ => (#[] : Array Value))) hS rfl
  have keep : ∀ b o, b ≠ s.heap.objs.size → s.heap.get? b = some o → ((s.heap.push { cls := .type "list", data := .seq #[] }).update s.heap.objs.size (Obj.mapSeq (fun _ => (#[] : Array Value)))).get? b = some o :=
    fun b o hb e => (Heap.get?_update_other _ _ (Ne.symm hb)).trans (Heap.get?_push_of_some _ e)
  refine wpAny_bind (wpAny_letGo ?_)
  refine extend_rv (A := A.in1) quiet (hrv.at fun o e => keep _ _ (Ne.symm n1) e) (hl.at fun o e => keep _ _ (Ne.symm n2) e) ne few n1 n2 hS2 fun h' tk acc c kp hS' hacc => ?_
  exact ⟨rfl, k h' tk acc c (fun b o h1 e => kp b o h1 (fun q => absurd (Heap.lt_size e) (by rw [q]; exact Nat.lt_irrefl _)) (keep b o (fun q => absurd (Heap.lt_size e) (by rw [q]; exact Nat.lt_irrefl _)) e)) hS' hacc⟩
end
section
variable {X : Cx}
def tLstRev (K : PySem.W.Frag) (te : TE) : TE := fun σ H Q => te σ H fun v H1 => ∃ (a : Addr) (xs : List V), v = .ref a ∧ SqL K H1 a xs ∧ ∀ q, H1 q = none → Q (.ref q) (upd H1 q (.lst xs.reverse))
theorem pe_lstRev {e : Expr} {te : TE} {p p2 pos pos2 : Pos} (hc : X.calm = true) (hg : Gl X "list") (hm : X.mg "list" = none) (hg2 : Gl X "reversed") (hm2 : X.mg "reversed" = none) (he : PE X e te)
    (hs : starEach [e] X.env = (false, eval e X.env) :: starEach [] X.env := by rfl)
    (hs2 : starEach [.Call (.Name "reversed" p2) [e] [] pos2] X.env = (false, eval (.Call (.Name "reversed" p2) [e] [] pos2) X.env) :: starEach [] X.env := by rfl) :
    PE X (.Call (.Name "list" p) [.Call (.Name "reversed" p2) [e] [] pos2] [] pos) (tLstRev X.K te) := ⟨fun pins s σ H Q I h => by
  refine Call_ (ld_blt I hg hm boot_list (callWith_type1 (args_cons (Call_ (ld_blt I hg2 hm2 boot_reversed (callWith_type1 (args_cons (thn (he.run pins s σ H _ I h) fun u s1 ⟨v, H1, I1, r1, q1⟩ => args_nil ?_) hs) hs rfl))) hs2) hs2 rfl))
  obtain ⟨a, xs, rfl, hq, q⟩ := q1
  cases r1
  obtain ⟨its, rv, pl, few⟩ := I1.list hq
  refine call_reversed_list pl.isList (args_nil ?_)
  have hl := pl.isList
  obtain ⟨ol, g1, _⟩ := id hl
  have ne : a ≠ s1.heap.objs.size := Nat.ne_of_lt (Heap.lt_size g1)
  have hn : its.toArray.size ≤ sizeLine := by
    rw [List.size_toArray, ← rv.length]
    exact few
  refine call_list_rv (s := { s1 with heap := s1.heap.push (revObj a ((its.toArray.size : Int) - 1)) }) (I1.ok.hd hc) ⟨_, Heap.get?_push_size _ rfl, rfl, rfl⟩ (hl.push _) ne hn fun h' tk acc c kp hS hi => ?_
  refine ⟨.ref _, upd H1 (s1.heap.push (revObj a ((its.toArray.size : Int) - 1))).objs.size (.lst xs.reverse), I1.laid (t' := tk) (fun b o e => kp b o (Nat.ne_of_lt (Heap.lt_size e)) (Heap.get?_push_of_some _ e)) (by rw [Heap.size_push]; exact Nat.le_succ _) (show ObjOk X.prog X.w _ _ _ (.lst xs.reverse) from ⟨by rw [List.length_reverse]; exact few, acc.toList, c, vals_rev rv hi, ?_⟩), rfl, q _ (I1.hok.fresh (by rw [Heap.size_push]; exact Nat.le_succ _))⟩
  rw [Array.toArray_toList]
  exact hS⟩
end
/-- list(reversed(x)) of a list -/
def gListRev : List D → Option D
  | [.node _ k ds] => if (k = .lst ∨ k = .ro) ∧ D.fzs ds = true then some (.node true .lst ds.reverse) else none
  | _ => none
theorem FzL.reverse {G : Cfg} {B : Hp} : ∀ {ds : List D} {vs : List V}, FzL G B vs ds → FzL G B vs.reverse ds.reverse
  | [], vs, h => by
    cases h.2
    exact .nil
  | d :: ds, vs, h => by
    obtain ⟨v, r, rfl, h1, h2⟩ := h.uncons
    rw [List.reverse_cons, List.reverse_cons]
    exact (FzL.reverse h2).append (.cons h1 .nil)
theorem ok_listRev {G : Cfg} : OpOk G (fun xs H Q => ∃ x, xs = [x] ∧ ∃ (a : Addr) (ys : List V), x = .ref a ∧ SqL G.K H a ys ∧ ∀ q, H q = none → Q (.ref q) (upd H q (.lst ys.reverse))) gListRev := by
  intro B H ow vs ds d Q S R e K
  unfold gListRev at e
  split at e
  · rename_i o k es
    obtain ⟨v, u, rfl, h1⟩ := R.one
    split at e
    · rename_i c
      cases e
      obtain ⟨a, xs, rfl, ha, ka⟩ := Rp.node S h1
      have hq : SqL G.K H a xs := by
        rcases c.1 with rfl | rfl
        · exact SqL.of ha
        · exact ha
      exact ⟨_, rfl, a, xs, rfl, hq, fun l hl => K.new .lst _ xs.reverse l rfl trivial (FzL.reverse (kidsFz ka c.2)) hl⟩
    · cases e
  · cases e
theorem d_listRev {G : Cfg} {W : WX} {X : Cx} {e : Expr} {m : ME} {p p2 pos pos2 : Pos} (hK : G.K = X.K) (hc : X.calm = true) (hm : X.mg "list" = none) (hg : Gl X "list") (hm2 : X.mg "reversed" = none) (hg2 : Gl X "reversed") (he : PE X e (tD G W m))
    (hs : starEach [e] X.env = (false, eval e X.env) :: starEach [] X.env := by rfl)
    (hs2 : starEach [.Call (.Name "reversed" p2) [e] [] pos2] X.env = (false, eval (.Call (.Name "reversed" p2) [e] [] pos2) X.env) :: starEach [] X.env := by rfl) :
    PE X (.Call (.Name "list" p) [.Call (.Name "reversed" p2) [e] [] pos2] [] pos) (tD G W (mOp (mCons m mNil) gListRev)) := d_un ok_listRev he fun _ h => by
  rw [hK]
  exact pe_lstRev hc hg hm hg2 hm2 h hs hs2
end DL

namespace DL
open PySem PySem.Spec L2

/-! ## what a mirror brings about: plain rules (no program in sight) -/
structure En where
  nx : Env → Prop
  rt : D → Env → Prop := fun _ _ => False
  bk : Env → Prop := fun _ => False
  ct : Env → Prop := fun _ => False
  ex : Str → Env → Prop := fun _ _ => False
abbrev XP := Str → Env → Prop
def wE (m : ME) (X : XP) (Q : Opn → Env → Prop) (ρ : Env) : Prop := match m ρ with
  | .ok o ρ1 => Q o ρ1
  | .ex c ρ1 => X c ρ1
  | .bad => False
def wA (m : MA) (X : XP) (Q : List Opn → Env → Prop) (ρ : Env) : Prop := match m ρ with
  | .ok o ρ1 => Q o ρ1
  | .ex c ρ1 => X c ρ1
  | .bad => False
def wT (m : MT) (X : XP) (Q : Bool → Env → Prop) (ρ : Env) : Prop := match m ρ with
  | .ok o ρ1 => Q o ρ1
  | .ex c ρ1 => X c ρ1
  | .bad => False
def wI (m : MI) (X : XP) (Q : List D → Env → Prop) (ρ : Env) : Prop := match m ρ with
  | .ok o ρ1 => Q o ρ1
  | .ex c ρ1 => X c ρ1
  | .bad => False
def wS (m : MS) (E : En) (ρ : Env) : Prop := match m ρ with
  | .nx ρ1 => E.nx ρ1
  | .rt d ρ1 => E.rt d ρ1
  | .bk ρ1 => E.bk ρ1
  | .ct ρ1 => E.ct ρ1
  | .ex c ρ1 => E.ex c ρ1
  | .bad => False
def wF (m : MF) (X : Str → List D → Prop) (Q : D → List D → Prop) (ds : List D) : Prop := match m ds with
  | .ok d ds' => Q d ds'
  | .ex c ds' => X c ds'
  | .bad => False
/-- something is there -/
def wO (o : Option α) (Q : α → Prop) : Prop := match o with
  | some a => Q a
  | none => False
theorem wO_some {a : α} {Q : α → Prop} : wO (some a) Q = Q a := Eq.trans rfl rfl
theorem wO_none {Q : α → Prop} : wO none Q = False := Eq.trans rfl rfl
section
variable {X : XP} {ρ : Env} {E : En}
/-! ### continuations -/
def kVw (Q : D → Env → Prop) (o : Opn) (ρ : Env) : Prop := wO (o.vw ρ) fun d => Q d ρ
theorem wE_C {d : D} {Q : Opn → Env → Prop} (h : d.sv.isSome = true) : wE (mC d) X Q ρ = Q (.val d) ρ := by
  unfold wE mC
  cases e : d.sv with
  | none => rw [e] at h; cases h
  | some v => rfl
theorem wE_int {i : Int} {Q : Opn → Env → Prop} : wE (mC (.int i)) X Q ρ = Q (.val (.int i)) ρ := Eq.trans rfl rfl
theorem wE_str {i : Str} {Q : Opn → Env → Prop} : wE (mC (.str i)) X Q ρ = Q (.val (.str i)) ρ := Eq.trans rfl rfl
theorem wE_bl {i : Bool} {Q : Opn → Env → Prop} : wE (mC (.bl i)) X Q ρ = Q (.val (.bl i)) ρ := Eq.trans rfl rfl
theorem wE_non {Q : Opn → Env → Prop} : wE (mC .non) X Q ρ = Q (.val .non) ρ := Eq.trans rfl rfl
def pickV (i : Nat) (d : D) : Opn := match d with
  | .node o k ds => .slot i
  | .exn c => .slot i
  | d => .val d
theorem sv_pick {i : Nat} {d : D} : (match d.sv with
    | some _ => Rs.ok (.val d) ρ
    | none => .ok (.slot i) ρ) = Rs.ok (pickV i d) ρ := by
  cases d <;> rfl
def kV (i : Nat) (Q : Opn → Env → Prop) (ρ : Env) : Option D → Prop
  | none => False
  | some d => Q (pickV i d) ρ
theorem wE_V {i : Nat} {Q : Opn → Env → Prop} : wE (mVar i) X Q ρ = kV i Q ρ (slotOf ρ i) := by
  unfold wE mVar kV
  cases e : slotOf ρ i with
  | none => rfl
  | some d => cases d <;> rfl
theorem kV_some {i : Nat} {Q : Opn → Env → Prop} {d : D} : kV i Q ρ (some d) = Q (pickV i d) ρ := Eq.trans rfl rfl
def kCons (ms : MA) (X : XP) (Q : List Opn → Env → Prop) (o : Opn) (ρ : Env) : Prop := wA ms X (fun os ρ1 => Q (o :: os) ρ1) ρ
def kCons2 (Q : List Opn → Env → Prop) (o : Opn) (os : List Opn) (ρ : Env) : Prop := Q (o :: os) ρ
theorem kCons_eq {ms : MA} {Q : List Opn → Env → Prop} {o : Opn} : kCons ms X Q o ρ = wA ms X (kCons2 Q o) ρ := Eq.trans rfl rfl
theorem kCons2_eq {Q : List Opn → Env → Prop} {o : Opn} {os : List Opn} : kCons2 Q o os ρ = Q (o :: os) ρ := Eq.trans rfl rfl
theorem wA_nil {Q : List Opn → Env → Prop} : wA mNil X Q ρ = Q [] ρ := Eq.trans rfl rfl
theorem wA_cons {m : ME} {ms : MA} {Q : List Opn → Env → Prop} : wA (mCons m ms) X Q ρ = wE m X (kCons ms X Q) ρ := by
  unfold wA wE mCons kCons
  cases e : m ρ with
  | ok o ρ1 => simp only [Rs.bind_ok, wA]; cases e2 : ms ρ1 <;> rfl
  | _ => rfl
def kOp (g : List D → Option D) (Q : Opn → Env → Prop) (os : List Opn) (ρ : Env) : Prop := wO (vws ρ os) fun ds => wO (g ds) fun d => Q (.val d) ρ
theorem wE_op {ms : MA} {g : List D → Option D} {Q : Opn → Env → Prop} : wE (mOp ms g) X Q ρ = wA ms X (kOp g Q) ρ := by
  unfold wE wA mOp kOp
  cases e : ms ρ with
  | ok os ρ1 =>
    simp only [Rs.bind_ok]
    cases e2 : vws ρ1 os with
    | none => rfl
    | some ds => simp only [wO_some]; cases e3 : g ds <;> rfl
  | _ => rfl
def kOpD (g : List D → Option D) (Q : Opn → Env → Prop) (ρ : Env) (ds : Option (List D)) : Prop := wO ds fun ds => wO (g ds) fun d => Q (.val d) ρ
def kOpR (Q : Opn → Env → Prop) (ρ : Env) (d : Option D) : Prop := wO d fun d => Q (.val d) ρ
theorem kOp_eq {g : List D → Option D} {Q : Opn → Env → Prop} {os : List Opn} : kOp g Q os ρ = kOpD g Q ρ (vws ρ os) := Eq.trans rfl rfl
theorem kOpD_some {g : List D → Option D} {Q : Opn → Env → Prop} {ds : List D} : kOpD g Q ρ (some ds) = kOpR Q ρ (g ds) := Eq.trans rfl rfl
theorem kOpR_some {Q : Opn → Env → Prop} {d : D} : kOpR Q ρ (some d) = Q (.val d) ρ := Eq.trans rfl rfl
theorem kOpR_if {c : Prop} [Decidable c] {Q : Opn → Env → Prop} {d : D} : kOpR Q ρ (if c then some d else none) = (c ∧ Q (.val d) ρ) := by
  by_cases h : c
  · rw [if_pos h, kOpR_some]; simp [h]
  · rw [if_neg h]; simp [h, kOpR, wO]
def kB (Q : Bool → Env → Prop) (o : Opn) (ρ : Env) : Prop := match o with
  | .val (.bl b) => Q b ρ
  | _ => False
theorem kB_eq {Q : Bool → Env → Prop} {b : Bool} : kB Q (.val (.bl b)) ρ = Q b ρ := Eq.trans rfl rfl
theorem wT_B {m : ME} {Q : Bool → Env → Prop} : wT (mB m) X Q ρ = wE m X (kB Q) ρ := by
  unfold wT wE mB kB
  cases e : m ρ with
  | ok o ρ1 =>
    simp only [Rs.bind_ok]
    cases o with
    | val d => cases d <;> rfl
    | slot i => rfl
  | _ => rfl
def kTru (Q : Bool → Env → Prop) (o : Opn) (ρ : Env) : Prop := wO (o.vw ρ) fun d => wO d.truth fun b => Q b ρ
def kTruD (Q : Bool → Env → Prop) (ρ : Env) (o : Option D) : Prop := wO o fun d => wO d.truth fun b => Q b ρ
def kTruB (Q : Bool → Env → Prop) (ρ : Env) (o : Option Bool) : Prop := wO o fun b => Q b ρ
theorem kTru_eq {Q : Bool → Env → Prop} {o : Opn} : kTru Q o ρ = kTruD Q ρ (o.vw ρ) := Eq.trans rfl rfl
theorem kTruD_some {Q : Bool → Env → Prop} {d : D} : kTruD Q ρ (some d) = kTruB Q ρ d.truth := Eq.trans rfl rfl
theorem kTruB_some {Q : Bool → Env → Prop} {b : Bool} : kTruB Q ρ (some b) = Q b ρ := Eq.trans rfl rfl
theorem wT_tru {m : ME} {Q : Bool → Env → Prop} : wT (mTru m) X Q ρ = wE m X (kTru Q) ρ := by
  unfold wT wE mTru kTru
  cases e : m ρ with
  | ok o ρ1 =>
    simp only [Rs.bind_ok]
    cases e1 : o.vw ρ1 with
    | none => rfl
    | some d => simp only [wO_some]; cases e2 : d.truth <;> rfl
  | _ => rfl
def kNot (Q : Bool → Env → Prop) (b : Bool) (ρ : Env) : Prop := Q (!b) ρ
theorem kNot_eq {Q : Bool → Env → Prop} {b : Bool} : kNot Q b ρ = Q (!b) ρ := Eq.trans rfl rfl
theorem wT_not {m : MT} {Q : Bool → Env → Prop} : wT (mNotT m) X Q ρ = wT m X (kNot Q) ρ := by
  unfold wT mNotT kNot
  cases e : m ρ <;> rfl
def kIte (P Q : Env → Prop) (b : Bool) (ρ : Env) : Prop := if b = true then P ρ else Q ρ
theorem kIte_eq {P Q : Env → Prop} {b : Bool} : kIte P Q b ρ = if b = true then P ρ else Q ρ := Eq.trans rfl rfl
def kT (Q : Bool → Env → Prop) (b : Bool) (ρ : Env) : Prop := Q b ρ
theorem kT_eq {Q : Bool → Env → Prop} {b : Bool} : kT Q b ρ = Q b ρ := Eq.trans rfl rfl
theorem wT_and {m1 m2 : MT} {Q : Bool → Env → Prop} : wT (mAndT m1 m2) X Q ρ = wT m1 X (kIte (wT m2 X Q) (kT Q false)) ρ := by
  unfold wT mAndT kIte kT
  cases e : m1 ρ with
  | ok b ρ1 => simp only [Rs.bind_ok]; cases b <;> rfl
  | _ => rfl
theorem wT_or {m1 m2 : MT} {Q : Bool → Env → Prop} : wT (mOrT m1 m2) X Q ρ = wT m1 X (kIte (kT Q true) (wT m2 X Q)) ρ := by
  unfold wT mOrT kIte kT
  cases e : m1 ρ with
  | ok b ρ1 => simp only [Rs.bind_ok]; cases b <;> rfl
  | _ => rfl
theorem wT_yes {Q : Bool → Env → Prop} : wT mYes X Q ρ = Q true ρ := Eq.trans rfl rfl
theorem wE_if {c : MT} {m1 m2 : ME} {Q : Opn → Env → Prop} : wE (mIf c m1 m2) X Q ρ = wT c X (kIte (wE m1 X Q) (wE m2 X Q)) ρ := by
  unfold wE wT mIf kIte
  cases e : c ρ with
  | ok b ρ1 => simp only [Rs.bind_ok]; cases b <;> rfl
  | _ => rfl
def kBo (f : Bool → Env → Prop) (o : Opn) (Q : Opn → Env → Prop) (b : Bool) (ρ : Env) : Prop := True
def kAnd (m2 : ME) (X : XP) (Q : Opn → Env → Prop) (o : Opn) (ρ : Env) : Prop := kTruD (kIte (wE m2 X Q) (Q o)) ρ (o.vw ρ)
def kOr (m2 : ME) (X : XP) (Q : Opn → Env → Prop) (o : Opn) (ρ : Env) : Prop := kTruD (kIte (Q o) (wE m2 X Q)) ρ (o.vw ρ)
theorem kAnd_eq {m2 : ME} {Q : Opn → Env → Prop} {o : Opn} : kAnd m2 X Q o ρ = kTruD (kIte (wE m2 X Q) (Q o)) ρ (o.vw ρ) := Eq.trans rfl rfl
theorem kOr_eq {m2 : ME} {Q : Opn → Env → Prop} {o : Opn} : kOr m2 X Q o ρ = kTruD (kIte (Q o) (wE m2 X Q)) ρ (o.vw ρ) := Eq.trans rfl rfl
theorem wE_and {m1 m2 : ME} {Q : Opn → Env → Prop} : wE (mAndV m1 m2) X Q ρ = wE m1 X (kAnd m2 X Q) ρ := by
  unfold wE mAndV kAnd kTruD kIte
  cases e : m1 ρ with
  | ok o ρ1 =>
    simp only [Rs.bind_ok]
    cases e1 : o.vw ρ1 with
    | none => rfl
    | some d =>
      simp only [wO_some]
      cases e2 : d.truth with
      | none => rfl
      | some b => cases b <;> rfl
  | _ => rfl
theorem wE_or {m1 m2 : ME} {Q : Opn → Env → Prop} : wE (mOrV m1 m2) X Q ρ = wE m1 X (kOr m2 X Q) ρ := by
  unfold wE mOrV kOr kTruD kIte
  cases e : m1 ρ with
  | ok o ρ1 =>
    simp only [Rs.bind_ok]
    cases e1 : o.vw ρ1 with
    | none => rfl
    | some d =>
      simp only [wO_some]
      cases e2 : d.truth with
      | none => rfl
      | some b => cases b <;> rfl
  | _ => rfl
def kNotV (Q : Opn → Env → Prop) (b : Bool) (ρ : Env) : Prop := Q (.val (.bl (!b))) ρ
theorem kNotV_eq {Q : Opn → Env → Prop} {b : Bool} : kNotV Q b ρ = Q (.val (.bl (!b))) ρ := Eq.trans rfl rfl
theorem wE_not {m : ME} {Q : Opn → Env → Prop} : wE (mNotV m) X Q ρ = wE m X (kTru (kNotV Q)) ρ := by
  rw [← wT_tru]
  unfold wE wT mNotV kNotV
  cases e : mTru m ρ <;> rfl
def kIs (f : Ty → Bool) (Q : Opn → Env → Prop) (o : Opn) (ρ : Env) : Prop := wO (o.vw ρ) fun d => wO d.ty fun t => Q (.val (.bl (f t))) ρ
def kIsD (f : Ty → Bool) (Q : Opn → Env → Prop) (ρ : Env) (o : Option D) : Prop := wO o fun d => wO d.ty fun t => Q (.val (.bl (f t))) ρ
def kIsT (f : Ty → Bool) (Q : Opn → Env → Prop) (ρ : Env) (o : Option Ty) : Prop := wO o fun t => Q (.val (.bl (f t))) ρ
theorem kIs_eq {f : Ty → Bool} {Q : Opn → Env → Prop} {o : Opn} : kIs f Q o ρ = kIsD f Q ρ (o.vw ρ) := Eq.trans rfl rfl
theorem kIsD_some {f : Ty → Bool} {Q : Opn → Env → Prop} {d : D} : kIsD f Q ρ (some d) = kIsT f Q ρ d.ty := Eq.trans rfl rfl
theorem kIsT_some {f : Ty → Bool} {Q : Opn → Env → Prop} {t : Ty} : kIsT f Q ρ (some t) = Q (.val (.bl (f t))) ρ := Eq.trans rfl rfl
def is1 (T t : Ty) : Bool := t.is T
def is2 (T1 T2 t : Ty) : Bool := t.is T1 || t.is T2
theorem wE_isI {T : Ty} {m : ME} {Q : Opn → Env → Prop} : wE (mIsI T m) X Q ρ = wE m X (kIs (is1 T) Q) ρ := by
  unfold wE mIsI kIs
  cases e : m ρ with
  | ok o ρ1 =>
    simp only [Rs.bind_ok]
    cases e1 : o.vw ρ1 with
    | none => rfl
    | some d => simp only [wO_some]; cases e2 : d.ty <;> rfl
  | _ => rfl
theorem wE_isI2 {T T2 : Ty} {m : ME} {Q : Opn → Env → Prop} : wE (mIsI2 T T2 m) X Q ρ = wE m X (kIs (is2 T T2) Q) ρ := by
  unfold wE mIsI2 kIs
  cases e : m ρ with
  | ok o ρ1 =>
    simp only [Rs.bind_ok]
    cases e1 : o.vw ρ1 with
    | none => rfl
    | some d => simp only [wO_some]; cases e2 : d.ty <;> rfl
  | _ => rfl
/-! ### calls -/
def kCall (io : Option Nat) (f : MF) (dfl : List D) (X : XP) (Q : Opn → Env → Prop) (os : List Opn) (ρ : Env) : Prop := wO (argsD ρ io 0 os) fun ds => match io with
  | none => wF f (fun c _ => X c ρ) (fun d _ => if d.clo = true then Q (.val d) ρ else Q (.val d) (frzE (fun i => (slotsOf none 0 os).contains i) 0 ρ)) (ds ++ dfl)
  | some j => match os[j]? with
    | some (.slot i) => (slotsOf (some j) 0 os).contains i = false ∧ wF f (fun c ds' => wO ds'[j]? fun dj => X c ((frzE (fun i => (slotsOf (some j) 0 os).contains i) 0 ρ).set i (some dj)))
        (fun d ds' => wO ds'[j]? fun dj => Q (.val d) ((frzE (fun i => (slotsOf (some j) 0 os).contains i) 0 ρ).set i (some dj))) (ds ++ dfl)
    | _ => False
theorem wE_call {io : Option Nat} {f : MF} {dfl : List D} {ms : MA} {Q : Opn → Env → Prop} : wE (mCall io f dfl ms) X Q ρ = wA ms X (kCall io f dfl X Q) ρ := by
  unfold wE wA mCall kCall
  cases e : ms ρ with
  | ok os ρ1 =>
    simp only [Rs.bind_ok]
    cases e1 : argsD ρ1 io 0 os with
    | none => rfl
    | some ds =>
      simp only [wO_some]
      cases io with
      | none =>
        unfold wF
        simp only
        cases e2 : f (ds ++ dfl) with
        | ok d ds' => simp only; cases e3 : d.clo <;> simp
        | _ => rfl
      | some j =>
        simp only
        cases e2 : os[j]? with
        | none => rfl
        | some o =>
          cases o with
          | val d => rfl
          | slot i =>
            simp only
            cases e4 : (slotsOf (some j) 0 os).contains i with
            | true => simp
            | false =>
              unfold wF
              simp only [Bool.false_eq_true, if_false, true_and]
              cases e3 : f (ds ++ dfl) with
              | ok d ds' => simp only; cases e5 : ds'[j]? <;> rfl
              | ex c ds' => simp only; cases e5 : ds'[j]? <;> rfl
              | bad => rfl
  | _ => rfl
def kDisp (k : Kd) (Q : Opn → Env → Prop) (os : List Opn) (ρ : Env) : Prop := wO (argsD ρ none 0 os) fun ds => ds.length ≤ 16777216 ∧ Q (.val (.node true k ds)) (frzE (fun i => (slotsOf none 0 os).contains i) 0 ρ)
theorem wE_disp {k : Kd} {ms : MA} {Q : Opn → Env → Prop} : wE (mDisp k ms) X Q ρ = wA ms X (kDisp k Q) ρ := by
  unfold wE wA mDisp kDisp
  cases e : ms ρ with
  | ok os ρ1 =>
    simp only [Rs.bind_ok]
    cases e1 : argsD ρ1 none 0 os with
    | none => rfl
    | some ds =>
      simp only [wO_some]
      by_cases h : ds.length ≤ 16777216
      · simp [h]
      · simp [h]
  | _ => rfl
/-! ### statements -/
theorem wS_seq {a b : MS} : wS (mSeq a b) E ρ = wS a { E with nx := wS b E } ρ := by
  unfold wS mSeq
  cases e : a ρ <;> rfl
def kSt (i : Nat) (E : En) (o : Opn) (ρ : Env) : Prop := wO (esc o ρ) fun x => E.nx (x.2.set i (some x.1))
theorem wS_set {i : Nat} {m : ME} : wS (mSet i m) E ρ = wE m E.ex (kSt i E) ρ := by
  unfold wS wE mSet mThen kSt
  cases e : m ρ with
  | ok o ρ1 =>
    simp only
    cases e1 : esc o ρ1 <;> rfl
  | _ => rfl
theorem kSt_val {i : Nat} {d : D} : kSt i E (.val d) ρ = E.nx (ρ.set i (some d)) := Eq.trans rfl rfl
def kStS (i j : Nat) (E : En) (ρ : Env) : Option D → Prop
  | none => False
  | some d => E.nx ((frzE (fun k => k == j) 0 ρ).set i (some d.frz))
theorem kSt_slot {i j : Nat} : kSt i E (.slot j) ρ = kStS i j E ρ (slotOf ρ j) := by
  unfold kSt esc kStS
  cases e : slotOf ρ j <;> simp only [e] <;> rfl
theorem kStS_some {i j : Nat} {d : D} : kStS i j E ρ (some d) = E.nx ((frzE (fun k => k == j) 0 ρ).set i (some d.frz)) := Eq.trans rfl rfl
theorem wS_if {c : MT} {a b : MS} : wS (mIfS c a b) E ρ = wT c E.ex (kIte (wS a E) (wS b E)) ρ := by
  unfold wS wT mIfS kIte
  cases e : c ρ with
  | ok o ρ1 => simp only; cases o <;> rfl
  | _ => rfl
def kNx (E : En) (_ : Opn) (ρ : Env) : Prop := E.nx ρ
theorem kNx_eq {o : Opn} : kNx E o ρ = E.nx ρ := Eq.trans rfl rfl
theorem wS_expr {m : ME} : wS (mExpr m) E ρ = wE m E.ex (kNx E) ρ := by
  unfold wS wE mExpr mThen kNx
  cases e : m ρ <;> rfl
def kRt (np : Nat) (E : En) (o : Opn) (ρ : Env) : Prop := match o with
  | .val d => E.rt d ρ
  | .slot i => wO (slotOf ρ i) fun d => if i < np then E.rt d.frz (frzE (fun j => j == i) 0 ρ) else E.rt d (ρ.set i none)
theorem wS_ret {np : Nat} {m : ME} : wS (mRet np m) E ρ = wE m E.ex (kRt np E) ρ := by
  unfold wS wE mRet mThen kRt
  cases e : m ρ with
  | ok o ρ1 =>
    cases o with
    | val d => rfl
    | slot i =>
      simp only
      cases e1 : slotOf ρ1 i with
      | none => rfl
      | some d => simp only [wO_some]; by_cases h : i < np <;> simp [h]
  | _ => rfl
theorem kRt_val {np : Nat} {d : D} : kRt np E (.val d) ρ = E.rt d ρ := Eq.trans rfl rfl
def kRtS (np i : Nat) (E : En) (ρ : Env) : Option D → Prop
  | none => False
  | some d => if i < np then E.rt d.frz (frzE (fun j => j == i) 0 ρ) else E.rt d (ρ.set i none)
theorem kRt_slot {np i : Nat} : kRt np E (.slot i) ρ = kRtS np i E ρ (slotOf ρ i) := by
  unfold kRt kRtS
  cases e : slotOf ρ i <;> simp only [e] <;> rfl
theorem kRtS_some {np i : Nat} {d : D} : kRtS np i E ρ (some d) = if i < np then E.rt d.frz (frzE (fun j => j == i) 0 ρ) else E.rt d (ρ.set i none) := Eq.trans rfl rfl
theorem wS_retN : wS mRetN E ρ = E.rt .non ρ := Eq.trans rfl rfl
theorem wS_next : wS mNext E ρ = E.nx ρ := Eq.trans rfl rfl
theorem wS_break : wS mBreak E ρ = E.bk ρ := Eq.trans rfl rfl
theorem wS_cont : wS mCont E ρ = E.ct ρ := Eq.trans rfl rfl
def kRs (c : Str) (E : En) (_ : Opn) (ρ : Env) : Prop := E.ex c ρ
theorem kRs_eq {c : Str} {o : Opn} : kRs c E o ρ = E.ex c ρ := Eq.trans rfl rfl
theorem wS_raise {c : Str} {m : ME} : wS (mRaise c m) E ρ = wE m E.ex (kRs c E) ρ := by
  unfold wS wE mRaise mThen kRs
  cases e : m ρ <;> rfl
/-! ### a def -/
def kOut (re : List Nat) (n : Nat) (ds : List D) (Q : D → List D → Prop) (d : D) (ρ : Env) : Prop := wO (argsOut re ρ 0 ds) fun ds' => Q d ds'
def kOutX (re : List Nat) (ds : List D) (Q : Str → List D → Prop) (c : Str) (ρ : Env) : Prop := wO (argsOut re ρ 0 ds) fun ds' => Q c ds'
theorem wF_fn {n : Nat} {re : List Nat} {mb : MS} {X : Str → List D → Prop} {Q : D → List D → Prop} {ds : List D} :
    wF (mFn n re mb) X Q ds = wS mb { nx := kOut re n ds Q .non, rt := kOut re n ds Q, ex := kOutX re ds X } (ds.map some ++ List.replicate (n - ds.length) none) := by
  unfold wF wS mFn kOut kOutX
  cases e : mb (ds.map some ++ List.replicate (n - ds.length) none) with
  | bad => rfl
  | bk => rfl
  | ct => rfl
  | nx ρ1 => simp only; cases e1 : argsOut re ρ1 0 ds <;> rfl
  | rt d ρ1 => simp only; cases e1 : argsOut re ρ1 0 ds <;> rfl
  | ex c ρ1 => simp only; cases e1 : argsOut re ρ1 0 ds <;> rfl
theorem wF_of {m : MF} {X : Str → List D → Prop} {Q : D → List D → Prop} {ds : List D} {d : D} {ds' : List D} (h : m ds = .ok d ds') (q : Q d ds') : wF m X Q ds := by
  unfold wF
  rw [h]
  exact q
theorem wF_ok {m : MF} {ds : List D} {d : D} {ds' : List D} (h : wF m (fun _ _ => False) (fun x xs => x = d ∧ xs = ds') ds) : m ds = .ok d ds' := by
  unfold wF at h
  cases e : m ds with
  | ok a b => rw [e] at h; rw [h.1, h.2]
  | ex => rw [e] at h; exact h.elim
  | bad => rw [e] at h; exact h.elim
end
end DL

namespace DL
open PySem PySem.Spec L2

section
variable {X : XP} {ρ : Env} {E : En}
theorem slotOf_0 {o : Option D} {r : Env} : slotOf (o :: r) 0 = o := by cases o <;> rfl
theorem slotOf_S {o : Option D} {r : Env} {i : Nat} : slotOf (o :: r) (i + 1) = slotOf r i := Eq.trans rfl rfl
theorem vw_val {d : D} : Opn.vw ρ (.val d) = some d.frz := Eq.trans rfl rfl
theorem vw_slot {i : Nat} : Opn.vw ρ (.slot i) = slotOf ρ i := Eq.trans rfl rfl
def vwsK (d : D) (o : Option (List D)) : Option (List D) := o.map (d :: ·)
def vwsO (ρ : Env) (os : List Opn) : Option D → Option (List D)
  | none => none
  | some d => match vws ρ os with
    | none => none
    | some ds => some (d :: ds)
theorem vws_nil : vws ρ [] = some [] := Eq.trans rfl rfl
theorem vws_cons {o : Opn} {os : List Opn} : vws ρ (o :: os) = vwsO ρ os (o.vw ρ) := by
  unfold vwsO
  rw [vws]
  all_goals
    cases o.vw ρ with
    | none => rfl
    | some d => simp only; cases vws ρ os <;> rfl
theorem vwsO_nil {d : D} : vwsO ρ [] (some d) = some [d] := Eq.trans rfl rfl
theorem vwsO_cons {d : D} {o : Opn} {os : List Opn} : vwsO ρ (o :: os) (some d) = vwsK d (vwsO ρ os (o.vw ρ)) := by
  unfold vwsO vwsK
  rw [vws]
  cases o.vw ρ with
  | none => rfl
  | some d => simp only; cases vws ρ os <;> rfl
theorem vwsK_some {d : D} {ds : List D} : vwsK d (some ds) = some (d :: ds) := Eq.trans rfl rfl
/-! ### chains, parts -/
def kCh1 (g g' : List D → Option D) (m2 m3 : ME) (X : XP) (Q : Opn → Env → Prop) (o : Opn) (ρ : Env) : Prop := wE m2 X (fun o2 ρ2 => match o, o2 with
  | .val x, .val y => (x.sv.isSome && y.sv.isSome) = true ∧ (match g [x, y] with
    | some (.bl b) => if b = true then wE m3 X (fun o3 ρ3 => match o3 with
      | .val z => z.sv.isSome = true ∧ wO (g' [y, z]) fun d => Q (.val d) ρ3
      | _ => False) ρ2 else Q (.val (.bl false)) ρ2
    | _ => False)
  | _, _ => False) ρ
theorem wE_chain {g g' : List D → Option D} {m1 m2 m3 : ME} {Q : Opn → Env → Prop} : wE (mChain g g' m1 m2 m3) X Q ρ = wE m1 X (kCh1 g g' m2 m3 X Q) ρ := by
  unfold wE mChain kCh1
  cases e : m1 ρ with
  | ok o ρ1 =>
    simp only [Rs.bind_ok, wE]
    cases e2 : m2 ρ1 with
    | ok o2 ρ2 =>
      simp only [Rs.bind_ok]
      cases o with
      | slot => rfl
      | val x =>
        cases o2 with
        | slot => rfl
        | val y =>
          simp only
          by_cases c : (x.sv.isSome && y.sv.isSome) = true
          · rw [if_pos c]
            simp only [c, true_and]
            cases e3 : g [x, y] with
            | none => rfl
            | some d =>
              cases d with
              | bl b =>
                cases b with
                | false => rfl
                | true =>
                  simp only [if_true]
                  cases e4 : m3 ρ2 with
                  | ok o3 ρ3 =>
                    simp only [Rs.bind_ok]
                    cases o3 with
                    | slot => rfl
                    | val z =>
                      simp only
                      by_cases c2 : z.sv.isSome = true
                      · rw [if_pos c2]
                        simp only [c2, true_and]
                        cases e5 : g' [y, z] <;> rfl
                      · rw [if_neg c2]
                        simp [c2]
                  | _ => rfl
              | _ => rfl
          · rw [if_neg c]
            simp [c]
    | _ => rfl
  | _ => rfl
def kCh2 (g g' : List D → Option D) (m3 : ME) (X : XP) (Q : Opn → Env → Prop) (i : Int) (o : Opn) (ρ : Env) : Prop := match o with
  | .val (.int j) => match g [.int i, .int j] with
    | some (.bl b) => kIte (wE m3 X (fun o3 ρ3 => match o3 with
      | .val (.int z) => kOpR Q ρ3 (g' [.int j, .int z])
      | _ => False)) (Q (.val (.bl false))) b ρ
    | _ => False
  | _ => False
theorem wE_mono {m : ME} {Q Q' : Opn → Env → Prop} (h : wE m X Q ρ) (k : ∀ o ρ1, Q o ρ1 → Q' o ρ1) : wE m X Q' ρ := by
  unfold wE at h ⊢
  cases e : m ρ with
  | ok o ρ1 => rw [e] at h; exact k _ _ h
  | ex c ρ1 => rw [e] at h; exact h
  | bad => rw [e] at h; exact h
theorem wS_mono {m : MS} {E' : En} (h : wS m E ρ) (k1 : ∀ ρ, E.nx ρ → E'.nx ρ) (k2 : ∀ d ρ, E.rt d ρ → E'.rt d ρ) (k3 : ∀ ρ, E.bk ρ → E'.bk ρ) (k4 : ∀ ρ, E.ct ρ → E'.ct ρ) (k5 : ∀ c ρ, E.ex c ρ → E'.ex c ρ) : wS m E' ρ := by
  unfold wS at h ⊢
  cases e : m ρ with
  | nx ρ1 => rw [e] at h; exact k1 _ h
  | rt d ρ1 => rw [e] at h; exact k2 _ _ h
  | bk ρ1 => rw [e] at h; exact k3 _ h
  | ct ρ1 => rw [e] at h; exact k4 _ h
  | ex c ρ1 => rw [e] at h; exact k5 _ _ h
  | bad => rw [e] at h; exact h
theorem wF_mono {m : MF} {X X' : Str → List D → Prop} {Q Q' : D → List D → Prop} {ds : List D} (h : wF m X Q ds) (k : ∀ d ds', Q d ds' → Q' d ds') (k2 : ∀ d ds', X d ds' → X' d ds') : wF m X' Q' ds := by
  unfold wF at h ⊢
  cases e : m ds with
  | ok o ρ1 => rw [e] at h; exact k _ _ h
  | ex c ρ1 => rw [e] at h; exact k2 _ _ h
  | bad => rw [e] at h; exact h
def kCk (Q : Opn → Env → Prop) (ρ : Env) (o : Option D) : Prop := match o with
  | some (.int i) => Q (.val (.int i)) ρ
  | _ => False
def kCkO (Q : Opn → Env → Prop) (o : Opn) (ρ : Env) : Prop := kCk Q ρ (o.vw ρ)
theorem kCkO_eq {Q : Opn → Env → Prop} {o : Opn} : kCkO Q o ρ = kCk Q ρ (o.vw ρ) := Eq.trans rfl rfl
theorem kCk_int {Q : Opn → Env → Prop} {i : Int} : kCk Q ρ (some (.int i)) = Q (.val (.int i)) ρ := Eq.trans rfl rfl
theorem wE_ck {m : ME} {Q : Opn → Env → Prop} : wE (mCk m) X Q ρ = wE m X (kCkO Q) ρ := by
  unfold wE mCk kCkO kCk
  cases e : m ρ with
  | ok o ρ1 =>
    simp only [Rs.bind_ok]
    cases e2 : o.vw ρ1 with
    | none => rfl
    | some d => cases d <;> rfl
  | _ => rfl
/-! ### what is walked -/
def kIt (Q : List D → Env → Prop) (o : Opn) (ρ : Env) : Prop := wO (esc o ρ) fun x => wO x.1.frz.items fun ds => Q ds x.2
theorem wI_items {m : ME} {Q : List D → Env → Prop} : wI (mItems m) X Q ρ = wE m X (kIt Q) ρ := by
  unfold wI wE mItems kIt
  cases e : m ρ with
  | ok o ρ1 =>
    simp only [Rs.bind_ok]
    cases e1 : esc o ρ1 with
    | none => rfl
    | some x => simp only [wO_some]; cases e2 : x.1.frz.items <;> simp [wO]
  | _ => rfl
def kItD (Q : List D → Env → Prop) (ρ : Env) (o : Option (List D)) : Prop := wO o fun ds => Q ds ρ
theorem kIt_val {Q : List D → Env → Prop} {d : D} : kIt Q (.val d) ρ = kItD Q ρ d.frz.items := Eq.trans rfl rfl
def kItS (j : Nat) (Q : List D → Env → Prop) (ρ : Env) : Option D → Prop
  | none => False
  | some d => kItD Q (frzE (fun k => k == j) 0 ρ) d.frz.frz.items
theorem kIt_slot {Q : List D → Env → Prop} {j : Nat} : kIt Q (.slot j) ρ = kItS j Q ρ (slotOf ρ j) := by
  unfold kIt esc kItS
  cases e : slotOf ρ j <;> simp only [e] <;> rfl
theorem kItS_some {Q : List D → Env → Prop} {j : Nat} {d : D} : kItS j Q ρ (some d) = kItD Q (frzE (fun k => k == j) 0 ρ) d.frz.frz.items := Eq.trans rfl rfl
theorem kItD_some {Q : List D → Env → Prop} {ds : List D} : kItD Q ρ (some ds) = Q ds ρ := Eq.trans rfl rfl
def kR1 (Q : List D → Env → Prop) (o : Opn) (ρ : Env) : Prop := match o with
  | .val (.int j) => (-(2 ^ 62) ≤ j ∧ j < 2 ^ 62) ∧ Q ((rngI 0 j.toNat).map .int) ρ
  | _ => False
theorem wI_rng1 {m : ME} {Q : List D → Env → Prop} : wI (mRng1 m) X Q ρ = wE m X (kR1 Q) ρ := by
  unfold wI wE mRng1 kR1
  cases e : m ρ with
  | ok o ρ1 =>
    simp only [Rs.bind_ok]
    cases o with
    | slot => rfl
    | val d =>
      cases d with
      | int j =>
        simp only [vInt]
        by_cases h : -(2 ^ 62) ≤ j ∧ j < 2 ^ 62
        · rw [if_pos h]; simp only [h, true_and]
        · rw [if_neg h]; simp only [h, false_and]
      | _ => rfl
  | _ => rfl
theorem kR1_int {Q : List D → Env → Prop} {j : Int} : kR1 Q (.val (.int j)) ρ = ((-(2 ^ 62) ≤ j ∧ j < 2 ^ 62) ∧ Q ((rngI 0 j.toNat).map .int) ρ) := Eq.trans rfl rfl
def kR2 (m2 : ME) (X : XP) (Q : List D → Env → Prop) (o : Opn) (ρ : Env) : Prop := wE m2 X (fun o2 ρ2 => match o, o2 with
  | .val (.int i), .val (.int j) => (-(2 ^ 62) ≤ i ∧ i < 2 ^ 62 ∧ -(2 ^ 62) ≤ j ∧ j < 2 ^ 62) ∧ Q ((rngI i (j - i).toNat).map .int) ρ2
  | _, _ => False) ρ
/-! ### loops -/
theorem wS_for {mi : MI} {tg : MG} {mb : MS} : wS (mFor mi tg mb) E ρ = wI mi E.ex (fun ds ρ1 => wS (forL tg mb ds) E ρ1) ρ := by
  unfold wS wI mFor
  cases e : mi ρ <;> rfl
def kFor (tg : MG) (mb : MS) (E : En) (ds : List D) (ρ : Env) : Prop := wS (forL tg mb ds) E ρ
theorem wS_forK {mi : MI} {tg : MG} {mb : MS} : wS (mFor mi tg mb) E ρ = wI mi E.ex (kFor tg mb E) ρ := wS_for
theorem for_rule {tg : MG} {mb : MS} (I : Nat → Env → Prop) : ∀ (ds : List D) (k : Nat) (ρ : Env), I k ρ → (∀ i d ρ, ds[i]? = some d → I (k + i) ρ → ∃ ρ1, tg d ρ = some ρ1 ∧ wS mb { nx := I (k + i + 1), ct := I (k + i + 1), bk := E.nx, rt := E.rt, ex := E.ex } ρ1) → (∀ ρ, I (k + ds.length) ρ → E.nx ρ) → wS (forL tg mb ds) E ρ
  | [], k, ρ, h0, hs, he => he ρ h0
  | d :: ds, k, ρ, h0, hs, he => by
    obtain ⟨ρ1, e1, h1⟩ := hs 0 d ρ rfl h0
    have go : ∀ ρ2, I (k + 1) ρ2 → wS (forL tg mb ds) E ρ2 := fun ρ2 h2 => for_rule I ds (k + 1) ρ2 h2 (fun i d ρ hi hI => by
      have := hs (i + 1) d ρ (by simpa using hi) (by rw [show k + (i + 1) = k + 1 + i by omega]; exact hI)
      rw [show k + (i + 1) = k + 1 + i by omega] at this
      exact this) (fun ρ h => he ρ (by rw [List.length_cons, show k + (ds.length + 1) = k + 1 + ds.length by omega]; exact h))
    unfold wS at h1 ⊢
    rw [forL]
    simp only [e1]
    cases e2 : mb ρ1 with
    | nx ρ2 => rw [e2] at h1; exact go ρ2 h1
    | ct ρ2 => rw [e2] at h1; exact go ρ2 h1
    | bk ρ2 => rw [e2] at h1; exact h1
    | rt d ρ2 => rw [e2] at h1; exact h1
    | ex c ρ2 => rw [e2] at h1; exact h1
    | bad => rw [e2] at h1; exact h1
theorem whileN_rule {c : MT} {mb : MS} (I : Nat → Env → Prop) (h : ∀ n ρ, I n ρ → wT c E.ex (fun b ρ1 => if b = true then wS mb { nx := fun ρ2 => ∃ m, m < n ∧ I m ρ2, ct := fun ρ2 => ∃ m, m < n ∧ I m ρ2, bk := E.nx, rt := E.rt, ex := E.ex } ρ1 else E.nx ρ1) ρ) :
    ∀ (k n : Nat) (ρ : Env), I n ρ → n < k → wS (mWhileN c mb k) E ρ
  | 0, _, _, _, hk => absurd hk (Nat.not_lt_zero _)
  | k + 1, n, ρ, hI, hk => by
    have h1 := h n ρ hI
    unfold wT at h1
    unfold wS
    rw [mWhileN]
    cases e : c ρ with
    | bad => rw [e] at h1; exact h1.elim
    | ex c ρ1 => rw [e] at h1; simp only [e]; exact h1
    | ok b ρ1 =>
      rw [e] at h1
      simp only [e]
      cases b with
      | false => exact h1
      | true =>
        simp only [if_true] at h1 ⊢
        unfold wS at h1
        cases e2 : mb ρ1 with
        | bad => rw [e2] at h1; exact h1
        | nx ρ2 => rw [e2] at h1; obtain ⟨m, hm, h2⟩ := h1; exact whileN_rule I h k m ρ2 h2 (by omega)
        | ct ρ2 => rw [e2] at h1; obtain ⟨m, hm, h2⟩ := h1; exact whileN_rule I h k m ρ2 h2 (by omega)
        | bk ρ2 => rw [e2] at h1; exact h1
        | rt d ρ2 => rw [e2] at h1; exact h1
        | ex c ρ2 => rw [e2] at h1; exact h1
theorem while_rule {c : MT} {mb : MS} (I : Nat → Env → Prop) (n : Nat) (hn : n < 1000000000) (h0 : I n ρ) (h : ∀ n ρ, I n ρ → wT c E.ex (fun b ρ1 => if b = true then wS mb { nx := fun ρ2 => ∃ m, m < n ∧ I m ρ2, ct := fun ρ2 => ∃ m, m < n ∧ I m ρ2, bk := E.nx, rt := E.rt, ex := E.ex } ρ1 else E.nx ρ1) ρ) : wS (mWhile c mb) E ρ :=
  whileN_rule I h 1000000000 n ρ h0 hn
/-! ### comprehensions -/
/-- each turn starts in the environment ρw with the block's names wiped -/
theorem lc_rule {tg : MG} {vs : List Nat} {mt : MT} {me : ME} (J : Nat → List D → Env → Prop) : ∀ (ds : List D) (k : Nat) (acc : List D) (ρ : Env), acc.length ≤ k → k + ds.length ≤ 16777216 → J k acc (wipeE ρ vs) →
    (∀ i d acc ρw, ds[i]? = some d → acc.length ≤ k + i → J (k + i) acc ρw → ∃ ρ1, tg d ρw = some ρ1 ∧ wT mt (fun _ _ => False) (fun b ρ2 => if b = true then wE me (fun _ _ => False) (fun o ρ3 => wO (esc o ρ3) fun x => J (k + i + 1) (acc ++ [x.1]) (wipeE x.2 vs)) ρ2 else J (k + i + 1) acc (wipeE ρ2 vs)) ρ1) →
    ∃ acc' ρ', lcL tg vs mt me acc ds ρ = .ok acc' ρ' ∧ acc'.length ≤ k + ds.length ∧ J (k + ds.length) acc' (wipeE ρ' vs)
  | [], k, acc, ρ, hk, hl, h0, hs => ⟨acc, ρ, rfl, hk, h0⟩
  | d :: ds, k, acc, ρ, hk, hl, h0, hs => by
    rw [List.length_cons] at hl
    obtain ⟨ρ1, e1, h1⟩ := hs 0 d acc _ rfl hk h0
    have go : ∀ acc2 ρ2, acc2.length ≤ k + 1 → J (k + 1) acc2 (wipeE ρ2 vs) → ∃ acc' ρ', lcL tg vs mt me acc2 ds ρ2 = .ok acc' ρ' ∧ acc'.length ≤ k + (d :: ds).length ∧ J (k + (d :: ds).length) acc' (wipeE ρ' vs) := fun acc2 ρ2 hl2 h2 => by
      have := lc_rule (mt := mt) (me := me) (tg := tg) J ds (k + 1) acc2 ρ2 hl2 (by omega) h2 (fun i d acc ρw hi ha hJ => by
        have := hs (i + 1) d acc ρw (by simpa using hi) (by omega) (by rw [show k + (i + 1) = k + 1 + i by omega]; exact hJ)
        rw [show k + (i + 1) = k + 1 + i by omega] at this
        exact this)
      rw [List.length_cons, show k + (ds.length + 1) = k + 1 + ds.length by omega]
      exact this
    unfold wT at h1
    rw [lcL]
    simp only [e1]
    cases e2 : mt ρ1 with
    | bad => rw [e2] at h1; exact h1.elim
    | ex c ρ2 => rw [e2] at h1; exact h1.elim
    | ok b ρ2 =>
      rw [e2] at h1
      cases b with
      | false => exact go acc ρ2 (by omega) h1
      | true =>
        simp only [if_true] at h1 ⊢
        unfold wE at h1
        cases e3 : me ρ2 with
        | bad => rw [e3] at h1; exact h1.elim
        | ex c ρ3 => rw [e3] at h1; exact h1.elim
        | ok o ρ3 =>
          rw [e3] at h1
          simp only at h1 ⊢
          cases e4 : esc o ρ3 with
          | none => rw [e4] at h1; exact h1.elim
          | some x =>
            rw [e4] at h1
            simp only
            rw [if_pos (by omega)]
            exact go _ x.2 (by rw [List.length_append]; simp; omega) h1
theorem wE_lc {mi : MI} {tg : MG} {vs : List Nat} {mt : MT} {me : ME} {Q : Opn → Env → Prop} : wE (mLc mi tg vs mt me) X Q ρ = wI mi X (fun ds ρ1 => okOld vs ρ1 = true ∧ ∃ acc ρ2, lcL tg vs mt me [] ds ρ1 = .ok acc ρ2 ∧ Q (.val (.node true .lst acc)) (restE vs 0 ρ1 ρ2)) ρ := by
  unfold wE wI mLc
  cases e : mi ρ with
  | ok ds ρ1 =>
    simp only [Rs.bind_ok]
    by_cases h : okOld vs ρ1 = true
    · rw [if_pos h]
      simp only [h, true_and]
      cases e2 : lcL tg vs mt me [] ds ρ1 with
      | ok acc ρ2 =>
        simp only [Rs.ok.injEq]
        exact propext ⟨fun q => ⟨acc, ρ2, ⟨rfl, rfl⟩, q⟩, fun ⟨_, _, ⟨e1, e2⟩, q⟩ => by subst e1; subst e2; exact q⟩
      | ex c ρ2 => simp
      | bad => simp
    · rw [if_neg h]
      simp [h]
  | _ => rfl
def kLc (tg : MG) (vs : List Nat) (mt : MT) (me : ME) (Q : Opn → Env → Prop) (ds : List D) (ρ : Env) : Prop := okOld vs ρ = true ∧ ∃ acc ρ2, lcL tg vs mt me [] ds ρ = .ok acc ρ2 ∧ Q (.val (.node true .lst acc)) (restE vs 0 ρ ρ2)
theorem wE_lcK {mi : MI} {tg : MG} {vs : List Nat} {mt : MT} {me : ME} {Q : Opn → Env → Prop} : wE (mLc mi tg vs mt me) X Q ρ = wI mi X (kLc tg vs mt me Q) ρ := wE_lc
theorem restE_self {vs : List Nat} : ∀ {i : Nat} {ρ ρ' : Env}, ρ'.length = ρ.length → (∀ j, vs.contains (i + j) = false → ρ'[j]? = ρ[j]?) → restE vs i ρ ρ' = ρ
  | i, [], [], _, _ => by rw [restE]; intro _ _ _ _ q; cases q
  | i, o :: ρ, o' :: ρ', h, k => by
    rw [restE, restE_self (i := i + 1) (by simpa using h) fun j hj => by
      have := k (j + 1) (by rw [show i + (j + 1) = i + 1 + j by omega]; exact hj)
      simpa using this]
    by_cases c : vs.contains i = true
    · rw [if_pos c]
    · rw [if_neg c]
      have := k 0 (by simpa using c)
      simp only [List.getElem?_cons_zero, Option.some.injEq] at this
      rw [this]
  | i, [], _ :: _, h, _ => by cases h
  | i, _ :: _, [], h, _ => by cases h
theorem restE_wipe {vs : List Nat} {ρ' : Env} (h : wipeE ρ' vs = wipeE ρ vs) : restE vs 0 ρ ρ' = ρ := restE_self (by rw [← wipeE_length (ρ := ρ') vs, h, wipeE_length]) fun j hj => by
  rw [Nat.zero_add] at hj
  have hj' : j ∉ vs := by simpa using hj
  rw [← wipeE_get (ρ := ρ') hj', h, wipeE_get hj']
/-- a comprehension that changes nothing: f of those with p -/
theorem lc_pure {tg : MG} {vs : List Nat} {mt : MT} {me : ME} {Q : Opn → Env → Prop} {ds : List D} (f : D → D) (p : D → Bool) (ho : okOld vs ρ = true) (hl : ds.length ≤ 16777216)
    (h : ∀ d ∈ ds, ∃ ρ1, tg d (wipeE ρ vs) = some ρ1 ∧ wT mt (fun _ _ => False) (fun b ρ2 => b = p d ∧ (if b = true then wE me (fun _ _ => False) (fun o ρ3 => wO (esc o ρ3) fun x => x.1 = f d ∧ wipeE x.2 vs = wipeE ρ vs) ρ2 else wipeE ρ2 vs = wipeE ρ vs)) ρ1)
    (q : Q (.val (.node true .lst ((ds.filter p).map f))) ρ) : kLc tg vs mt me Q ds ρ := by
  refine ⟨ho, ?_⟩
  obtain ⟨acc, ρ', e, _, hJ1, hJ2⟩ := lc_rule (tg := tg) (mt := mt) (me := me) (vs := vs) (fun i acc ρw => acc = ((ds.take i).filter p).map f ∧ ρw = wipeE ρ vs) ds 0 [] ρ (Nat.le_refl _) (by omega) ⟨by simp, rfl⟩ (fun i d acc ρw hi _ hJ => by
    obtain ⟨rfl, rfl⟩ := hJ
    have hil := (List.getElem?_eq_some_iff.mp hi).1
    have hd : ds[i] = d := (List.getElem?_eq_some_iff.mp hi).2
    obtain ⟨ρ1, e1, h1⟩ := h d (by rw [← hd]; exact List.getElem_mem hil)
    refine ⟨ρ1, e1, ?_⟩
    rw [Nat.zero_add]
    have tk : ds.take (i + 1) = ds.take i ++ [d] := by rw [← hd, List.take_succ_eq_append_getElem hil]
    unfold wT at h1 ⊢
    cases e2 : mt ρ1 with
    | bad => rw [e2] at h1; exact h1
    | ex => rw [e2] at h1; exact h1
    | ok b ρ2 =>
      rw [e2] at h1
      obtain ⟨hb, h1⟩ := h1
      simp only
      cases b with
      | false =>
        simp only [Bool.false_eq_true, if_false] at h1 ⊢
        refine ⟨?_, h1⟩
        rw [tk, List.filter_append, List.map_append]
        simp [← hb]
      | true =>
        simp only [if_true] at h1 ⊢
        refine wE_mono h1 fun o ρ3 h3 => ?_
        cases e4 : esc o ρ3 with
        | none => rw [e4] at h3; exact h3
        | some x =>
          rw [e4] at h3
          refine ⟨?_, h3.2⟩
          rw [tk, List.filter_append, List.map_append]
          simp [← hb, h3.1])
  refine ⟨acc, ρ', e, ?_⟩
  rw [Nat.zero_add] at hJ1
  rw [hJ1, List.take_length, restE_wipe hJ2]
  exact q
end
end DL

namespace DL
open PySem PySem.Spec L2
def Ty.ix : Ty → Nat
  | .non => 0
  | .bool => 1
  | .int => 2
  | .str => 3
  | .list => 4
  | .tuple => 5
  | .dict => 6
theorem tyIs {a b : Ty} : a.is b = (a.ix == b.ix || (a.ix == 1 && b.ix == 2)) := by cases a <;> cases b <;> rfl
section
variable {X : XP} {ρ : Env} {E : En}
/-! ### chains of whole numbers -/
def kCh (g g' : List D → Option D) (m2 m3 : ME) (X : XP) (Q : Opn → Env → Prop) (o : Opn) (ρ : Env) : Prop := match o with
  | .val x => x.sv.isSome = true ∧ wE m2 X (fun o2 ρ2 => match o2 with
    | .val y => y.sv.isSome = true ∧ wO (g [x, y]) fun b => match b with
      | .bl b => if b = true then wE m3 X (fun o3 ρ3 => match o3 with
        | .val z => z.sv.isSome = true ∧ wO (g' [y, z]) fun d => Q (.val d) ρ3
        | _ => False) ρ2 else Q (.val (.bl false)) ρ2
      | _ => False
    | _ => False) ρ
  | _ => False
def kChD (g g' : List D → Option D) (x : D) (m3 : ME) (X : XP) (Q : Opn → Env → Prop) (o : Opn) (ρ : Env) : Prop := match o with
  | .val y => y.sv.isSome = true ∧ kChE g' y m3 X Q ρ (g [x, y])
  | _ => False
where
  kChE (g' : List D → Option D) (y : D) (m3 : ME) (X : XP) (Q : Opn → Env → Prop) (ρ : Env) : Option D → Prop
    | some (.bl b) => if b = true then wE m3 X (fun o3 ρ3 => match o3 with
        | .val z => z.sv.isSome = true ∧ kOpR Q ρ3 (g' [y, z])
        | _ => False) ρ else Q (.val (.bl false)) ρ
    | _ => False
theorem wE_chI {g g' : List D → Option D} {m1 m2 m3 : ME} {Q : Opn → Env → Prop} : wE (mChain g g' m1 m2 m3) X Q ρ = wE m1 X (kCh1 g g' m2 m3 X Q) ρ := wE_chain
def kCh2v (g g' : List D → Option D) (x : D) (m3 : ME) (X : XP) (Q : Opn → Env → Prop) (o2 : Opn) (ρ2 : Env) : Prop := match o2 with
  | .val y => (x.sv.isSome && y.sv.isSome) = true ∧ kCh3 (g [x, y]) g' y m3 X Q ρ2
  | _ => False
where
  kCh3 (b : Option D) (g' : List D → Option D) (y : D) (m3 : ME) (X : XP) (Q : Opn → Env → Prop) (ρ2 : Env) : Prop := match b with
    | some (.bl b) => if b = true then wE m3 X (kCh4 g' y Q) ρ2 else Q (.val (.bl false)) ρ2
    | _ => False
  kCh4 (g' : List D → Option D) (y : D) (Q : Opn → Env → Prop) (o3 : Opn) (ρ3 : Env) : Prop := match o3 with
    | .val z => z.sv.isSome = true ∧ kOpR Q ρ3 (g' [y, z])
    | _ => False
theorem kCh_val {g g' : List D → Option D} {m2 m3 : ME} {Q : Opn → Env → Prop} {x : D} : kCh1 g g' m2 m3 X Q (.val x) ρ = wE m2 X (kCh2v g g' x m3 X Q) ρ := by
  unfold kCh1
  congr 1
  funext o2 ρ2
  cases o2 with
  | slot => rfl
  | val y =>
    simp only [kCh2v]
    cases e : g [x, y] with
    | none => rfl
    | some d =>
      cases d with
      | bl b =>
        simp only [kCh2v.kCh3]
        cases b with
        | false => rfl
        | true =>
          simp only [if_true]
          congr 2
      | _ => rfl
theorem kChD_int {g g' : List D → Option D} {m3 : ME} {Q : Opn → Env → Prop} {i j : Int} : kCh2v g g' (.int i) m3 X Q (.val (.int j)) ρ = kCh2v.kCh3 (g [.int i, .int j]) g' (.int j) m3 X Q ρ := by
  simp [kCh2v, D.sv]
theorem kChE_int {p : Bool} {g' : List D → Option D} {m3 : ME} {Q : Opn → Env → Prop} {y : D} : kCh2v.kCh3 (some (.bl p)) g' y m3 X Q ρ = if p = true then wE m3 X (kCh2v.kCh4 g' y Q) ρ else Q (.val (.bl false)) ρ := Eq.trans rfl rfl
theorem kChF_int {g' : List D → Option D} {Q : Opn → Env → Prop} {y : D} {i : Int} : kCh2v.kCh4 g' y Q (.val (.int i)) ρ = kOpR Q ρ (g' [y, .int i]) := by
  simp [kCh2v.kCh4, D.sv]
/-! ### pure places -/
def kLiftO (Q : Opn → Env → Prop) (ρ : Env) (o : Option D) : Prop := wO o fun d => d.sv.isSome = true ∧ Q (.val d) ρ
theorem wE_lift {f : PF} {Q : Opn → Env → Prop} : wE (lift f) X Q ρ = kLiftO Q ρ (f ρ) := by
  unfold wE lift kLiftO
  cases e : f ρ with
  | none => rfl
  | some d =>
    simp only [wO_some]
    cases e2 : d.sv <;> simp
theorem kLiftO_some {Q : Opn → Env → Prop} {d : D} : kLiftO Q ρ (some d) = (d.sv.isSome = true ∧ Q (.val d) ρ) := Eq.trans rfl rfl
/-! ### lists of a slot -/
def kApp (i : Nat) (Q : Opn → Env → Prop) (o : Opn) (ρ : Env) : Prop := wO (esc o ρ) fun x => kAppO i Q x.2 x.1 (slotOf x.2 i)
where
  kAppO (i : Nat) (Q : Opn → Env → Prop) (ρ : Env) (d : D) (o : Option D) : Prop := match o with
    | some (.node true .lst ds) => ds.length < 16777216 ∧ Q (.val .non) (ρ.set i (some (.node true .lst (ds ++ [d]))))
    | _ => False
def isLst : Option D → Bool
  | some (.node true .lst _) => true
  | _ => false
theorem wE_app {i : Nat} {m : ME} {Q : Opn → Env → Prop} : wE (mAppend i m) X Q ρ = (isLst (slotOf ρ i) = true ∧ wE m X (kApp i Q) ρ) := by
  unfold wE mAppend kApp
  cases h : isLst (slotOf ρ i) with
  | false =>
    have : ∀ x, slotOf ρ i ≠ some (.node true .lst x) := fun x q => by rw [q] at h; cases h
    simp only [Bool.false_eq_true, false_and]
  | true =>
    have : ∃ x, slotOf ρ i = some (.node true .lst x) := by
      unfold isLst at h
      split at h
      · exact ⟨_, by assumption⟩
      · cases h
    obtain ⟨ys, e0⟩ := this
    simp only [e0, true_and]
    cases e : m ρ with
    | ok o ρ1 =>
      simp only [Rs.bind_ok]
      cases e1 : esc o ρ1 with
      | none => rfl
      | some x =>
        simp only [wO_some]
        cases e2 : slotOf x.2 i with
        | none => rfl
        | some d =>
          cases d with
          | node o k ds =>
            cases o with
            | false => rfl
            | true =>
              cases k with
              | lst =>
                simp only [kApp.kAppO]
                by_cases c : ds.length < 16777216
                · rw [if_pos c]; simp [c]
                · rw [if_neg c]; simp [c]
              | _ => rfl
          | _ => rfl
    | _ => rfl
end
end DL

namespace DL
open PySem PySem.Spec L2
section
variable {i j : Int}
theorem gSub_ii : DL.gSub [.int i, .int j] = some (.int (i - j)) := Eq.trans rfl rfl
theorem gMod_ii : gMod [.int i, .int j] = if 0 < j then some (.int (i % j)) else none := Eq.trans rfl rfl
theorem gDiv_ii : gDiv [.int i, .int j] = if 0 < j ∧ j < 1073741824 then some (.int (i / j)) else none := Eq.trans rfl rfl
theorem gPow_ii : gPow [.int i, .int j] = if 0 ≤ j ∧ j ≤ 1000000 ∧ i.natAbs < 2 ^ 64 then some (.int (i ^ j.toNat)) else none := Eq.trans rfl rfl
theorem gXor_ii : gXor [.int i, .int j] = some (.int (Builtin.bitXor i j)) := Eq.trans rfl rfl
theorem gAdd_ii : gAdd [.int i, .int j] = some (.int (i + j)) := Eq.trans rfl rfl
theorem gMul_ii : gMul [.int i, .int j] = if (-(2 ^ 64) < i ∧ i < 2 ^ 64) ∨ (-(2 ^ 64) < j ∧ j < 2 ^ 64) then some (.int (i * j)) else none := Eq.trans rfl rfl
theorem gNeg_i : gNeg [.int i] = some (.int (-i)) := Eq.trans rfl rfl
theorem gEq_ii : gEq [.int i, .int j] = some (.bl (decide (i = j))) := Eq.trans rfl rfl
theorem gNe_ii : gNe [.int i, .int j] = some (.bl (!decide (i = j))) := Eq.trans rfl rfl
theorem gEq_bb {a b : Bool} : gEq [.bl a, .bl b] = some (.bl (decide (a = b))) := Eq.trans rfl rfl
theorem gNe_bb {a b : Bool} : gNe [.bl a, .bl b] = some (.bl (!decide (a = b))) := Eq.trans rfl rfl
theorem gEq_ss {a b : Str} : gEq [.str a, .str b] = some (.bl (decide (a = b))) := Eq.trans rfl rfl
theorem gNe_ss {a b : Str} : gNe [.str a, .str b] = some (.bl (!decide (a = b))) := Eq.trans rfl rfl
theorem gLt_ii : gLt [.int i, .int j] = some (.bl (decide (i < j))) := Eq.trans rfl rfl
theorem gLe_ii : gLe [.int i, .int j] = some (.bl (decide (i ≤ j))) := Eq.trans rfl rfl
theorem gGt_ii : gGt [.int i, .int j] = some (.bl (decide (j < i))) := Eq.trans rfl rfl
theorem gGe_ii : gGe [.int i, .int j] = some (.bl (decide (j ≤ i))) := Eq.trans rfl rfl
theorem gInt_i : gInt [.int i] = some (.int i) := Eq.trans rfl rfl
theorem gAbs_i : gAbs [.int i] = some (.int (if i < 0 then -i else i)) := Eq.trans rfl rfl
theorem gLen_l {o : Bool} {ds : List D} : gLen [.node o .lst ds] = some (.int ds.length) := Eq.trans rfl rfl
theorem gLen_t {o : Bool} {ds : List D} : gLen [.node o .tup ds] = some (.int ds.length) := Eq.trans rfl rfl
theorem gLen_r {o : Bool} {ds : List D} : gLen [.node o .ro ds] = some (.int ds.length) := Eq.trans rfl rfl
theorem gIsN_n {d : D} : gIsN [d, .non] = some (.bl d.isN) := Eq.trans rfl rfl
theorem gNotN_n {d : D} : gNotN [d, .non] = some (.bl !d.isN) := Eq.trans rfl rfl
theorem gIsB_b {d : D} {b : Bool} : gIsB [d, .bl b] = some (.bl (d.isB b)) := Eq.trans rfl rfl
theorem gNotB_b {d : D} {b : Bool} : gNotB [d, .bl b] = some (.bl !(d.isB b)) := Eq.trans rfl rfl
end
/-- an item -/
def ixD (ds : List D) (i : Int) : Option D := (atI ds i).bind fun d => if d.fz = true then some d else none
theorem gIx_l {o : Bool} {ds : List D} {i : Int} : gIx [.node o .lst ds, .int i] = ixD ds i := Eq.trans rfl rfl
theorem gIx_t {o : Bool} {ds : List D} {i : Int} : gIx [.node o .tup ds, .int i] = ixD ds i := Eq.trans rfl rfl
theorem gIx_r {o : Bool} {ds : List D} {i : Int} : gIx [.node o .ro ds, .int i] = ixD ds i := Eq.trans rfl rfl
theorem ixD_5 {x0 x1 x2 x3 x4 : D} : ixD [x0, x1, x2, x3, x4] 0 = (if x0.fz = true then some x0 else none) ∧ ixD [x0, x1, x2, x3, x4] 1 = (if x1.fz = true then some x1 else none) ∧ ixD [x0, x1, x2, x3, x4] 2 = (if x2.fz = true then some x2 else none) ∧ ixD [x0, x1, x2, x3, x4] 3 = (if x3.fz = true then some x3 else none) ∧ ixD [x0, x1, x2, x3, x4] 4 = (if x4.fz = true then some x4 else none) := ⟨rfl, rfl, rfl, rfl, rfl⟩
theorem ixD_50 {x0 x1 x2 x3 x4 : D} : ixD [x0, x1, x2, x3, x4] 0 = if x0.fz = true then some x0 else none := Eq.trans rfl rfl
theorem ixD_51 {x0 x1 x2 x3 x4 : D} : ixD [x0, x1, x2, x3, x4] 1 = if x1.fz = true then some x1 else none := Eq.trans rfl rfl
theorem ixD_52 {x0 x1 x2 x3 x4 : D} : ixD [x0, x1, x2, x3, x4] 2 = if x2.fz = true then some x2 else none := Eq.trans rfl rfl
theorem ixD_53 {x0 x1 x2 x3 x4 : D} : ixD [x0, x1, x2, x3, x4] 3 = if x3.fz = true then some x3 else none := Eq.trans rfl rfl
theorem ixD_54 {x0 x1 x2 x3 x4 : D} : ixD [x0, x1, x2, x3, x4] 4 = if x4.fz = true then some x4 else none := Eq.trans rfl rfl
theorem ixD_at {ds : List D} {i : Int} {d : D} (h0 : 0 ≤ i) (h : ds[i.toNat]? = some d) (hz : d.fz = true) : ixD ds i = some d := by
  have hl := (List.getElem?_eq_some_iff.mp h).1
  unfold ixD atI ixN
  rw [if_pos h0, if_pos (by omega), Option.bind_some, h, Option.bind_some, if_pos hz]
section
variable {X : XP} {ρ : Env} {E : En}
/-! ### x[i] = e -/
def kSx (f : QF) (h : PF) (E : En) (o : Opn) (ρ : Env) : Prop := wO (esc o ρ) fun x => kSx1 E x.1 x.2 (f x.2) (h x.2)
where
  kSx1 (E : En) (d : D) (ρ : Env) (fi : Option (Nat × List Nat)) (hj : Option D) : Prop := match fi, hj with
    | some (i, p), some (.int j) => wO (slotOf ρ i) fun d0 => kSx2 E d ρ i p j d0 (d0.at p)
    | _, _ => False
  kSx2 (E : En) (d : D) (ρ : Env) (i : Nat) (p : List Nat) (j : Int) (d0 : D) (x : Option D) : Prop := match x with
    | some (.node true .lst ds) => wO (ixN ds.length j) fun k => E.nx (ρ.set i (some (d0.put p (.node true .lst (ds.set k d.frz)))))
    | _ => False
theorem wS_setIx {f : QF} {h : PF} {m : ME} : wS (mSetIx f h m) E ρ = wE m E.ex (kSx f h E) ρ := by
  unfold wS wE mSetIx mThen kSx
  cases e : m ρ with
  | ok o ρ1 =>
    simp only
    cases e1 : esc o ρ1 with
    | none => rfl
    | some x =>
      simp only [wO_some]
      cases e2 : f x.2 with
      | none => rfl
      | some ip =>
        obtain ⟨i, p⟩ := ip
        cases e3 : h x.2 with
        | none => rfl
        | some hj =>
          cases hj with
          | int j =>
            simp only [kSx.kSx1]
            cases e4 : slotOf x.2 i with
            | none => rfl
            | some d0 =>
              simp only [wO_some]
              cases e5 : d0.at p with
              | none => rfl
              | some y =>
                cases y with
                | node o k ds =>
                  cases o with
                  | false => rfl
                  | true =>
                    cases k with
                    | lst => simp only [kSx.kSx2]; cases e6 : ixN ds.length j <;> rfl
                    | _ => rfl
                | _ => rfl
          | _ => rfl
  | _ => rfl
theorem esc_val {d : D} : esc (.val d) ρ = some (d, ρ) := Eq.trans rfl rfl
theorem qVar_eq {i : Nat} : qVar i ρ = some (i, []) := Eq.trans rfl rfl
theorem pC_eq {d : D} : pC d ρ = some d := Eq.trans rfl rfl
theorem at_nil {d : D} : D.at [] d = some d := Eq.trans rfl rfl
theorem put_nil {d x : D} : D.put [] d x = x := Eq.trans rfl rfl
theorem ixN_50 : ixN 5 0 = some 0 := Eq.trans rfl rfl
theorem ixN_51 : ixN 5 1 = some 1 := Eq.trans rfl rfl
theorem ixN_52 : ixN 5 2 = some 2 := Eq.trans rfl rfl
theorem ixN_53 : ixN 5 3 = some 3 := Eq.trans rfl rfl
theorem ixN_54 : ixN 5 4 = some 4 := Eq.trans rfl rfl
end
end DL

namespace DL
open PySem PySem.Spec L2
theorem frz_non : D.frz (D.non) = (D.non) := Eq.trans rfl rfl
theorem sv_non : D.sv (D.non) = some (V.non) := Eq.trans rfl rfl
theorem ty_non : D.ty (D.non) = some Ty.non := Eq.trans rfl rfl
theorem pick_non {i0 : Nat}  : pickV i0 (D.non) = Opn.val (D.non) := Eq.trans rfl rfl
theorem isN_non : D.isN (D.non) = true := Eq.trans rfl rfl
theorem fz_non : D.fz (D.non) = true := Eq.trans rfl rfl
theorem clo_non : D.clo (D.non) = true := Eq.trans rfl rfl
theorem tr_non : D.truth (D.non) = some false := Eq.trans rfl rfl
theorem isB_non {c0 : Bool}  : D.isB (D.non) c0 = false := Eq.trans rfl rfl
theorem frz_bl {b : Bool} : D.frz (D.bl b) = (D.bl b) := Eq.trans rfl rfl
theorem sv_bl {b : Bool} : D.sv (D.bl b) = some (V.bl b) := Eq.trans rfl rfl
theorem ty_bl {b : Bool} : D.ty (D.bl b) = some Ty.bool := Eq.trans rfl rfl
theorem pick_bl {i0 : Nat} {b : Bool} : pickV i0 (D.bl b) = Opn.val (D.bl b) := Eq.trans rfl rfl
theorem isN_bl {b : Bool} : D.isN (D.bl b) = false := Eq.trans rfl rfl
theorem fz_bl {b : Bool} : D.fz (D.bl b) = true := Eq.trans rfl rfl
theorem clo_bl {b : Bool} : D.clo (D.bl b) = true := Eq.trans rfl rfl
theorem tr_bl {b : Bool} : D.truth (D.bl b) = some b := Eq.trans rfl rfl
theorem isB_bl {c0 : Bool} {b : Bool} : D.isB (D.bl b) c0 = (b == c0) := Eq.trans rfl rfl
theorem frz_int {i : Int} : D.frz (D.int i) = (D.int i) := Eq.trans rfl rfl
theorem sv_int {i : Int} : D.sv (D.int i) = some (V.int i) := Eq.trans rfl rfl
theorem ty_int {i : Int} : D.ty (D.int i) = some Ty.int := Eq.trans rfl rfl
theorem pick_int {i0 : Nat} {i : Int} : pickV i0 (D.int i) = Opn.val (D.int i) := Eq.trans rfl rfl
theorem isN_int {i : Int} : D.isN (D.int i) = false := Eq.trans rfl rfl
theorem fz_int {i : Int} : D.fz (D.int i) = true := Eq.trans rfl rfl
theorem clo_int {i : Int} : D.clo (D.int i) = true := Eq.trans rfl rfl
theorem tr_int {i : Int} : D.truth (D.int i) = some (i != 0) := Eq.trans rfl rfl
theorem isB_int {c0 : Bool} {i : Int} : D.isB (D.int i) c0 = false := Eq.trans rfl rfl
theorem frz_str {s : Str} : D.frz (D.str s) = (D.str s) := Eq.trans rfl rfl
theorem sv_str {s : Str} : D.sv (D.str s) = some (V.str s) := Eq.trans rfl rfl
theorem ty_str {s : Str} : D.ty (D.str s) = some Ty.str := Eq.trans rfl rfl
theorem pick_str {i0 : Nat} {s : Str} : pickV i0 (D.str s) = Opn.val (D.str s) := Eq.trans rfl rfl
theorem isN_str {s : Str} : D.isN (D.str s) = false := Eq.trans rfl rfl
theorem fz_str {s : Str} : D.fz (D.str s) = true := Eq.trans rfl rfl
theorem clo_str {s : Str} : D.clo (D.str s) = true := Eq.trans rfl rfl
theorem isB_str {c0 : Bool} {s : Str} : D.isB (D.str s) c0 = false := Eq.trans rfl rfl
theorem frz_node {o : Bool} {k : Kd} {ds : List D} : D.frz (D.node o k ds) = D.node false k (D.frzs ds) := Eq.trans rfl rfl
theorem pick_node {i0 : Nat} {o : Bool} {k : Kd} {ds : List D} : pickV i0 (D.node o k ds) = Opn.slot i0 := Eq.trans rfl rfl
theorem isN_node {o : Bool} {k : Kd} {ds : List D} : D.isN (D.node o k ds) = false := Eq.trans rfl rfl
theorem isB_node {c0 : Bool} {o : Bool} {k : Kd} {ds : List D} : D.isB (D.node o k ds) c0 = false := Eq.trans rfl rfl
theorem fz_node {o : Bool} {k : Kd} {ds : List D} : D.fz (D.node o k ds) = (!o && D.fzs ds) := Eq.trans rfl rfl
theorem clo_node {o : Bool} {k : Kd} {ds : List D} : D.clo (D.node o k ds) = (o && D.clos ds) := Eq.trans rfl rfl
theorem sv_node {o : Bool} {k : Kd} {ds : List D} : D.sv (D.node o k ds) = none := Eq.trans rfl rfl
theorem ty_lst {o : Bool} {ds : List D} : D.ty (D.node o .lst ds) = some Ty.list := Eq.trans rfl rfl
theorem tr_lst {o : Bool} {ds : List D} : D.truth (D.node o .lst ds) = some (!ds.isEmpty) := Eq.trans rfl rfl
theorem ty_tup {o : Bool} {ds : List D} : D.ty (D.node o .tup ds) = some Ty.tuple := Eq.trans rfl rfl
theorem tr_tup {o : Bool} {ds : List D} : D.truth (D.node o .tup ds) = some (!ds.isEmpty) := Eq.trans rfl rfl
theorem tr_ro {o : Bool} {ds : List D} : D.truth (D.node o .ro ds) = some (!ds.isEmpty) := Eq.trans rfl rfl
theorem frzs_nil : D.frzs [] = [] := Eq.trans rfl rfl
theorem frzs_cons {d : D} {ds : List D} : D.frzs (d :: ds) = D.frz d :: D.frzs ds := Eq.trans rfl rfl
theorem fzs_nil : D.fzs [] = true := Eq.trans rfl rfl
theorem fzs_cons {d : D} {ds : List D} : D.fzs (d :: ds) = (D.fz d && D.fzs ds) := Eq.trans rfl rfl
theorem clos_nil : D.clos [] = true := Eq.trans rfl rfl
theorem clos_cons {d : D} {ds : List D} : D.clos (d :: ds) = (D.clo d && D.clos ds) := Eq.trans rfl rfl
theorem is1_eq {T t : Ty} : is1 T t = t.is T := Eq.trans rfl rfl
theorem is2_eq {T U t : Ty} : is2 T U t = (t.is T || t.is U) := Eq.trans rfl rfl
theorem tyIs_non_bool : Ty.is .non .bool = false := Eq.trans rfl rfl
theorem tyIs_non_int : Ty.is .non .int = false := Eq.trans rfl rfl
theorem tyIs_non_str : Ty.is .non .str = false := Eq.trans rfl rfl
theorem tyIs_non_list : Ty.is .non .list = false := Eq.trans rfl rfl
theorem tyIs_non_tuple : Ty.is .non .tuple = false := Eq.trans rfl rfl
theorem tyIs_bool_bool : Ty.is .bool .bool = true := Eq.trans rfl rfl
theorem tyIs_bool_int : Ty.is .bool .int = true := Eq.trans rfl rfl
theorem tyIs_bool_str : Ty.is .bool .str = false := Eq.trans rfl rfl
theorem tyIs_bool_list : Ty.is .bool .list = false := Eq.trans rfl rfl
theorem tyIs_bool_tuple : Ty.is .bool .tuple = false := Eq.trans rfl rfl
theorem tyIs_int_bool : Ty.is .int .bool = false := Eq.trans rfl rfl
theorem tyIs_int_int : Ty.is .int .int = true := Eq.trans rfl rfl
theorem tyIs_int_str : Ty.is .int .str = false := Eq.trans rfl rfl
theorem tyIs_int_list : Ty.is .int .list = false := Eq.trans rfl rfl
theorem tyIs_int_tuple : Ty.is .int .tuple = false := Eq.trans rfl rfl
theorem tyIs_str_bool : Ty.is .str .bool = false := Eq.trans rfl rfl
theorem tyIs_str_int : Ty.is .str .int = false := Eq.trans rfl rfl
theorem tyIs_str_str : Ty.is .str .str = true := Eq.trans rfl rfl
theorem tyIs_str_list : Ty.is .str .list = false := Eq.trans rfl rfl
theorem tyIs_str_tuple : Ty.is .str .tuple = false := Eq.trans rfl rfl
theorem tyIs_list_bool : Ty.is .list .bool = false := Eq.trans rfl rfl
theorem tyIs_list_int : Ty.is .list .int = false := Eq.trans rfl rfl
theorem tyIs_list_str : Ty.is .list .str = false := Eq.trans rfl rfl
theorem tyIs_list_list : Ty.is .list .list = true := Eq.trans rfl rfl
theorem tyIs_list_tuple : Ty.is .list .tuple = false := Eq.trans rfl rfl
theorem tyIs_tuple_bool : Ty.is .tuple .bool = false := Eq.trans rfl rfl
theorem tyIs_tuple_int : Ty.is .tuple .int = false := Eq.trans rfl rfl
theorem tyIs_tuple_str : Ty.is .tuple .str = false := Eq.trans rfl rfl
theorem tyIs_tuple_list : Ty.is .tuple .list = false := Eq.trans rfl rfl
theorem tyIs_tuple_tuple : Ty.is .tuple .tuple = true := Eq.trans rfl rfl
theorem tyIs_dict_bool : Ty.is .dict .bool = false := Eq.trans rfl rfl
theorem tyIs_dict_int : Ty.is .dict .int = false := Eq.trans rfl rfl
theorem tyIs_dict_str : Ty.is .dict .str = false := Eq.trans rfl rfl
theorem tyIs_dict_list : Ty.is .dict .list = false := Eq.trans rfl rfl
theorem tyIs_dict_tuple : Ty.is .dict .tuple = false := Eq.trans rfl rfl
section
variable {X : XP} {ρ : Env} {E : En}
/-! ### arguments -/
def frzS (l : List Nat) (ρ : Env) : Env := frzE (fun i => l.contains i) 0 ρ
theorem frzE_id {P : Nat → Bool} : ∀ {i : Nat} {ρ : Env}, (∀ j, P j = false) → frzE P i ρ = ρ
  | _, [], _ => rfl
  | i, o :: r, h => by rw [frzE, h i, frzE_id h]; rfl
theorem frzS_nil : frzS [] ρ = ρ := frzE_id fun _ => rfl
def frzO (b : Bool) (o : Option D) : Option D := if b = true then o.map D.frz else o
theorem frzS_cons {j : Nat} {l : List Nat} : frzS (j :: l) ρ = frzE (fun i => (j :: l).contains i) 0 ρ := Eq.trans rfl rfl
theorem frzE_nil {P : Nat → Bool} {i : Nat} : frzE P i [] = [] := Eq.trans rfl rfl
theorem frzE_cons {P : Nat → Bool} {i : Nat} {o : Option D} {r : Env} : frzE P i (o :: r) = frzO (P i) o :: frzE P (i + 1) r := Eq.trans rfl rfl
theorem frzO_f {o : Option D} : frzO false o = o := Eq.trans rfl rfl
theorem frzO_n {b : Bool} : frzO b none = none := by cases b <;> rfl
theorem frzO_t {d : D} : frzO true (some d) = some d.frz := Eq.trans rfl rfl
theorem slotsOf_nil {io : Option Nat} {j : Nat} : slotsOf io j [] = [] := Eq.trans rfl rfl
theorem slotsOf_val {io : Option Nat} {j : Nat} {d : D} {os : List Opn} : slotsOf io j (.val d :: os) = slotsOf io (j + 1) os := Eq.trans rfl rfl
theorem slotsOf_slotN {j i : Nat} {os : List Opn} : slotsOf none j (.slot i :: os) = i :: slotsOf none (j + 1) os := Eq.trans rfl rfl
theorem slotsOf_slot1 {j i : Nat} {os : List Opn} : slotsOf (some 0) (j + 1) (.slot i :: os) = i :: slotsOf (some 0) (j + 1 + 1) os := by
  rw [slotsOf, if_neg (by simp)]
def asO (o : Option D) (r : Option (List D)) : Option (List D) := match o with
  | some d => vwsK d r
  | none => none
def asF (o : Option D) (r : Option (List D)) : Option (List D) := match o with
  | some d => vwsK d.frz r
  | none => none
theorem asO_some {d : D} {r : Option (List D)} : asO (some d) r = vwsK d r := Eq.trans rfl rfl
theorem asF_some {d : D} {r : Option (List D)} : asF (some d) r = vwsK d.frz r := Eq.trans rfl rfl
theorem argsD_nil {io : Option Nat} {j : Nat} : argsD ρ io j [] = some [] := Eq.trans rfl rfl
theorem argsD_val {io : Option Nat} {j : Nat} {d : D} {os : List Opn} : argsD ρ io j (.val d :: os) = vwsK d.frz (argsD ρ io (j + 1) os) := Eq.trans rfl rfl
theorem argsD_slotN {j i : Nat} {os : List Opn} : argsD ρ none j (.slot i :: os) = asF (slotOf ρ i) (argsD ρ none (j + 1) os) := by
  rw [argsD]
  cases slotOf ρ i <;> rfl
theorem argsD_slot0 {i : Nat} {os : List Opn} : argsD ρ (some 0) 0 (.slot i :: os) = asO (slotOf ρ i) (argsD ρ (some 0) 1 os) := by
  rw [argsD]
  cases slotOf ρ i <;> rfl
theorem argsD_slot1 {j i : Nat} {os : List Opn} : argsD ρ (some 0) (j + 1) (.slot i :: os) = asF (slotOf ρ i) (argsD ρ (some 0) (j + 1 + 1) os) := by
  rw [argsD]
  cases slotOf ρ i with
  | none => rfl
  | some d => simp only [asF, vwsK]; rw [if_neg (by simp)]
def xC (X : XP) (ρ : Env) : Str → List D → Prop := fun c _ => X c ρ
def qC (Q : Opn → Env → Prop) (ρ : Env) (os : List Opn) : D → List D → Prop := fun d _ => if d.clo = true then Q (.val d) ρ else Q (.val d) (frzS (slotsOf none 0 os) ρ)
def kCN (f : MF) (dfl : List D) (X : XP) (Q : Opn → Env → Prop) (os : List Opn) (ρ : Env) (a : Option (List D)) : Prop := match a with
  | some ds => wF f (xC X ρ) (qC Q ρ os) (ds ++ dfl)
  | none => False
theorem kCall_N {f : MF} {dfl : List D} {Q : Opn → Env → Prop} {os : List Opn} : kCall none f dfl X Q os ρ = kCN f dfl X Q os ρ (argsD ρ none 0 os) := by
  unfold kCall kCN
  cases argsD ρ none 0 os <;> rfl
theorem kCN_some {f : MF} {dfl ds : List D} {Q : Opn → Env → Prop} {os : List Opn} : kCN f dfl X Q os ρ (some ds) = wF f (xC X ρ) (qC Q ρ os) (ds ++ dfl) := Eq.trans rfl rfl
theorem xC_eq {c : Str} {ds : List D} : xC X ρ c ds = X c ρ := Eq.trans rfl rfl
theorem qC_eq {Q : Opn → Env → Prop} {os : List Opn} {d : D} {ds : List D} (h : d.clo = true) : qC Q ρ os d ds = Q (.val d) ρ := if_pos h
theorem qC_frz {Q : Opn → Env → Prop} {os : List Opn} {d : D} {ds : List D} (h : slotsOf none 0 os = []) : qC Q ρ os d ds = Q (.val d) ρ := by
  unfold qC
  rw [h, frzS_nil, ite_self]
theorem qC_if {Q : Opn → Env → Prop} {os : List Opn} {d : D} {ds : List D} : qC Q ρ os d ds = if d.clo = true then Q (.val d) ρ else Q (.val d) (frzS (slotsOf none 0 os) ρ) := Eq.trans rfl rfl
def xC0 (X : XP) (i : Nat) (ρ : Env) : Str → List D → Prop := fun c ds' => match ds' with
  | x :: _ => X c (ρ.set i (some x))
  | [] => False
def qC0 (Q : Opn → Env → Prop) (i : Nat) (ρ : Env) : D → List D → Prop := fun d ds' => match ds' with
  | x :: _ => Q (.val d) (ρ.set i (some x))
  | [] => False
theorem xC0_eq {c : Str} {i : Nat} {x : D} {r : List D} : xC0 X i ρ c (x :: r) = X c (ρ.set i (some x)) := Eq.trans rfl rfl
theorem qC0_eq {Q : Opn → Env → Prop} {i : Nat} {d x : D} {r : List D} : qC0 Q i ρ d (x :: r) = Q (.val d) (ρ.set i (some x)) := Eq.trans rfl rfl
def kC0 (f : MF) (dfl : List D) (X : XP) (Q : Opn → Env → Prop) (i : Nat) (ρ : Env) (a : Option (List D)) : Prop := match a with
  | some ds => wF f (xC0 X i ρ) (qC0 Q i ρ) (ds ++ dfl)
  | none => False
theorem kC0_some {f : MF} {dfl ds : List D} {Q : Opn → Env → Prop} {i : Nat} : kC0 f dfl X Q i ρ (some ds) = wF f (xC0 X i ρ) (qC0 Q i ρ) (ds ++ dfl) := Eq.trans rfl rfl
theorem kCall_0 {f : MF} {dfl : List D} {Q : Opn → Env → Prop} {i : Nat} {os : List Opn} (h : slotsOf (some 0) 1 os = []) : kCall (some 0) f dfl X Q (.slot i :: os) ρ = kC0 f dfl X Q i ρ (argsD ρ (some 0) 0 (.slot i :: os)) := by
  have e : slotsOf (some 0) 0 (.slot i :: os) = [] := by
    rw [slotsOf, if_pos rfl]
    exact h
  unfold kCall kC0
  cases argsD ρ (some 0) 0 (.slot i :: os) with
  | none => rfl
  | some ds =>
    simp only [wO_some, List.getElem?_cons_zero, e, List.contains_nil, true_and]
    have hf : frzE (fun _ => false) 0 ρ = ρ := frzE_id fun _ => rfl
    rw [hf]
    congr 1
    · funext c ds'
      cases ds' <;> rfl
    · funext c ds'
      cases ds' <;> rfl
def kDs (k : Kd) (Q : Opn → Env → Prop) (os : List Opn) (ρ : Env) (a : Option (List D)) : Prop := match a with
  | some ds => ds.length ≤ 16777216 ∧ Q (.val (.node true k ds)) (frzS (slotsOf none 0 os) ρ)
  | none => False
theorem kDisp_eq {k : Kd} {Q : Opn → Env → Prop} {os : List Opn} : kDisp k Q os ρ = kDs k Q os ρ (argsD ρ none 0 os) := by
  unfold kDisp kDs
  cases argsD ρ none 0 os <;> rfl
theorem kDs_some {k : Kd} {Q : Opn → Env → Prop} {os : List Opn} {ds : List D} : kDs k Q os ρ (some ds) = (ds.length ≤ 16777216 ∧ Q (.val (.node true k ds)) (frzS (slotsOf none 0 os) ρ)) := Eq.trans rfl rfl
/-! ### behind a def -/
def aoK (o : Option D) (r : Option (List D)) : Option (List D) := match o with
  | some d => vwsK d r
  | none => none
theorem aoK_some {d : D} {r : Option (List D)} : aoK (some d) r = vwsK d r := Eq.trans rfl rfl
theorem argsOut_nil {re : List Nat} {j : Nat} : argsOut re ρ j [] = some [] := Eq.trans rfl rfl
theorem argsOut_0 {j : Nat} {d : D} {ds : List D} : argsOut [] ρ j (d :: ds) = aoK (slotOf ρ j) (argsOut [] ρ (j + 1) ds) := by
  rw [argsOut, if_neg (by simp)]
  cases slotOf ρ j <;> rfl
theorem argsOut_re {re : List Nat} {j : Nat} {d : D} {ds : List D} : argsOut re ρ j (d :: ds) = if re.contains j = true then (if d.fz = true then vwsK d (argsOut re ρ (j + 1) ds) else none) else aoK (slotOf ρ j) (argsOut re ρ (j + 1) ds) := by
  rw [argsOut]
  congr 1
  cases slotOf ρ j <;> rfl
def kOO (Q : D → List D → Prop) (d : D) (a : Option (List D)) : Prop := match a with
  | some ds => Q d ds
  | none => False
def kOX (Q : Str → List D → Prop) (d : Str) (a : Option (List D)) : Prop := match a with
  | some ds => Q d ds
  | none => False
theorem kOut_eq {re : List Nat} {n : Nat} {ds : List D} {Q : D → List D → Prop} {d : D} : kOut re n ds Q d ρ = kOO Q d (argsOut re ρ 0 ds) := by
  unfold kOut kOO
  cases argsOut re ρ 0 ds <;> rfl
theorem kOutX_eq {re : List Nat} {ds : List D} {Q : Str → List D → Prop} {d : Str} : kOutX re ds Q d ρ = kOX Q d (argsOut re ρ 0 ds) := by
  unfold kOutX kOX
  cases argsOut re ρ 0 ds <;> rfl
theorem kOO_some {Q : D → List D → Prop} {d : D} {ds : List D} : kOO Q d (some ds) = Q d ds := Eq.trans rfl rfl
theorem kOX_some {Q : Str → List D → Prop} {d : Str} {ds : List D} : kOX Q d (some ds) = Q d ds := Eq.trans rfl rfl
/-! ### append, x[i] = e -/
theorem kApp_val {i : Nat} {Q : Opn → Env → Prop} {d : D} : kApp i Q (.val d) ρ = kApp.kAppO i Q ρ d (slotOf ρ i) := Eq.trans rfl rfl
theorem kAppO_l {i : Nat} {Q : Opn → Env → Prop} {d : D} {ds : List D} : kApp.kAppO i Q ρ d (some (.node true .lst ds)) = (ds.length < 16777216 ∧ Q (.val .non) (ρ.set i (some (.node true .lst (ds ++ [d]))))) := Eq.trans rfl rfl
theorem isLst_l {ds : List D} : isLst (some (.node true .lst ds)) = true := Eq.trans rfl rfl
theorem kSx_val {f : QF} {h : PF} {d : D} : kSx f h E (.val d) ρ = kSx.kSx1 E d ρ (f ρ) (h ρ) := Eq.trans rfl rfl
def kSxS (E : En) (d : D) (ρ : Env) (i : Nat) (p : List Nat) (j : Int) (o : Option D) : Prop := match o with
  | some d0 => kSx.kSx2 E d ρ i p j d0 (d0.at p)
  | none => False
theorem kSx1_s {i : Nat} {p : List Nat} {j : Int} {d : D} : kSx.kSx1 E d ρ (some (i, p)) (some (.int j)) = kSxS E d ρ i p j (slotOf ρ i) := by
  show wO (slotOf ρ i) _ = _
  unfold kSxS
  cases slotOf ρ i <;> rfl
theorem kSxS_some {i : Nat} {p : List Nat} {j : Int} {d d0 : D} : kSxS E d ρ i p j (some d0) = kSx.kSx2 E d ρ i p j d0 (d0.at p) := Eq.trans rfl rfl
def kSxK (E : En) (d : D) (ρ : Env) (i : Nat) (p : List Nat) (d0 : D) (ds : List D) (k : Option Nat) : Prop := match k with
  | some k => E.nx (ρ.set i (some (d0.put p (.node true .lst (ds.set k d.frz)))))
  | none => False
theorem kSx2_l {i : Nat} {p : List Nat} {j : Int} {d d0 : D} {ds : List D} : kSx.kSx2 E d ρ i p j d0 (some (.node true .lst ds)) = kSxK E d ρ i p d0 ds (ixN ds.length j) := by
  show wO (ixN ds.length j) _ = _
  unfold kSxK
  cases ixN ds.length j <;> rfl
theorem kSxK_some {i k : Nat} {p : List Nat} {d d0 : D} {ds : List D} : kSxK E d ρ i p d0 ds (some k) = E.nx (ρ.set i (some (d0.put p (.node true .lst (ds.set k d.frz))))) := Eq.trans rfl rfl
end
end DL

namespace DL
open PySem PySem.Spec L2
section
variable {X : XP} {ρ : Env} {E : En}
/-! ### a list's methods -/
def kMr (i : Nat) (Q : Opn → Env → Prop) (ρ : Env) (o : Option (List D × D)) : Prop := match o with
  | some (ds', d) => Q (.val d) (ρ.set i (some (.node true .lst ds')))
  | none => False
def kMe (i : Nat) (g : List D → List D → Option (List D × D)) (Q : Opn → Env → Prop) (ρ : Env) (es : Option (List D)) (o : Option D) : Prop := match es, o with
  | some es, some (.node true .lst ds) => D.fzs ds = true ∧ kMr i Q ρ (g ds es)
  | _, _ => False
def kMeth (i : Nat) (g : List D → List D → Option (List D × D)) (Q : Opn → Env → Prop) (os : List Opn) (ρ : Env) : Prop := kMe i g Q ρ (vws ρ os) (slotOf ρ i)
theorem kMeth_eq {i : Nat} {g : List D → List D → Option (List D × D)} {Q : Opn → Env → Prop} {os : List Opn} : kMeth i g Q os ρ = kMe i g Q ρ (vws ρ os) (slotOf ρ i) := Eq.trans rfl rfl
theorem kMe_l {i : Nat} {g : List D → List D → Option (List D × D)} {Q : Opn → Env → Prop} {es ds : List D} : kMe i g Q ρ (some es) (some (.node true .lst ds)) = (D.fzs ds = true ∧ kMr i Q ρ (g ds es)) := Eq.trans rfl rfl
theorem kMr_some {i : Nat} {Q : Opn → Env → Prop} {ds : List D} {d : D} : kMr i Q ρ (some (ds, d)) = Q (.val d) (ρ.set i (some (.node true .lst ds))) := Eq.trans rfl rfl
theorem wE_meth {i : Nat} {g : List D → List D → Option (List D × D)} {ms : MA} {Q : Opn → Env → Prop} : wE (mMeth i g ms) X Q ρ = (isLst (slotOf ρ i) = true ∧ wA ms X (kMeth i g Q) ρ) := by
  unfold wE wA mMeth kMeth
  cases e0 : slotOf ρ i with
  | none => simp [isLst]
  | some d0 =>
    cases d0 with
    | node o k ds0 =>
      cases o with
      | false => simp [isLst]
      | true =>
        cases k with
        | lst =>
          simp only [isLst, true_and]
          cases e : ms ρ with
          | ok os ρ1 =>
            simp only [Rs.bind_ok]
            cases e1 : vws ρ1 os with
            | none => rfl
            | some es =>
              simp only
              cases e2 : slotOf ρ1 i with
              | none => rfl
              | some d =>
                cases d with
                | node o k ds =>
                  cases o with
                  | false => rfl
                  | true =>
                    cases k with
                    | lst =>
                      simp only [kMe]
                      by_cases c : D.fzs ds = true
                      · rw [if_pos c]
                        simp only [c, true_and]
                        cases e3 : g ds es <;> rfl
                      · rw [if_neg c]
                        simp [c]
                    | _ => rfl
                | _ => rfl
          | _ => rfl
        | _ => simp [isLst]
    | _ => simp [isLst]
/-! ### try -/
def kSuN (i : Nat) (N : Env → Prop) (ρ : Env) : Prop := noxE (ρ.set i none) = true ∧ N (ρ.set i none)
def kSuR (i : Nat) (N : D → Env → Prop) (d : D) (ρ : Env) : Prop := (d.nox && noxE (ρ.set i none)) = true ∧ N d (ρ.set i none)
def kTry (known : List Str) (sub : Str → Bool) (i : Nat) (ms : MS) (E : En) (c : Str) (ρ : Env) : Prop := known.contains c = true ∧ if sub c = true then (i < ρ.length ∧ wS ms { nx := kSuN i E.nx, rt := kSuR i E.rt, bk := kSuN i E.bk, ct := kSuN i E.ct } (ρ.set i (some (exnD c)))) else E.ex c ρ
theorem wS_suite {i : Nat} {ms : MS} {c : Str} : wS (suiteM i ms c) E ρ = (i < ρ.length ∧ wS ms { nx := kSuN i E.nx, rt := kSuR i E.rt, bk := kSuN i E.bk, ct := kSuN i E.ct } (ρ.set i (some (exnD c)))) := by
  unfold wS suiteM kSuN kSuR
  by_cases h : i < ρ.length
  · simp only [h, if_true, true_and]
    cases e : ms (ρ.set i (some (exnD c))) with
    | nx ρ2 => simp only; by_cases z : noxE (ρ2.set i none) = true <;> simp [z]
    | bk ρ2 => simp only; by_cases z : noxE (ρ2.set i none) = true <;> simp [z]
    | ct ρ2 => simp only; by_cases z : noxE (ρ2.set i none) = true <;> simp [z]
    | rt d ρ2 => simp only; by_cases z : (d.nox && noxE (ρ2.set i none)) = true <;> simp [z]
    | _ => rfl
  · simp only [h, if_false, false_and]
theorem wS_try {known : List Str} {sub : Str → Bool} {i : Nat} {ms mb : MS} : wS (mTryAs known sub i ms mb) E ρ = wS mb { E with ex := kTry known sub i ms E } ρ := by
  unfold kTry
  have h : ∀ c ρ1, (match (if known.contains c = true then (if sub c = true then suiteM i ms c ρ1 else .ex c ρ1) else .bad) with
    | .nx ρ1 => E.nx ρ1
    | .rt d ρ1 => E.rt d ρ1
    | .bk ρ1 => E.bk ρ1
    | .ct ρ1 => E.ct ρ1
    | .ex c ρ1 => E.ex c ρ1
    | .bad => False) = (known.contains c = true ∧ if sub c = true then (i < ρ1.length ∧ wS ms { nx := kSuN i E.nx, rt := kSuR i E.rt, bk := kSuN i E.bk, ct := kSuN i E.ct } (ρ1.set i (some (exnD c)))) else E.ex c ρ1) := by
    intro c ρ1
    by_cases h1 : known.contains c = true
    · simp only [h1, if_true, true_and]
      by_cases h2 : sub c = true
      · simp only [h2, if_true]
        rw [← wS_suite]
        rfl
      · simp only [h2, Bool.false_eq_true, if_false]
    · simp only [h1, Bool.false_eq_true, if_false, false_and]
  unfold wS mTryAs
  cases e : mb ρ with
  | ex c ρ1 => exact h c ρ1
  | _ => rfl
theorem kTry_eq {known : List Str} {sub : Str → Bool} {i : Nat} {ms : MS} {c : Str} : kTry known sub i ms E c ρ = (known.contains c = true ∧ if sub c = true then (i < ρ.length ∧ wS ms { nx := kSuN i E.nx, rt := kSuR i E.rt, bk := kSuN i E.bk, ct := kSuN i E.ct } (ρ.set i (some (exnD c)))) else E.ex c ρ) := Eq.trans rfl rfl
theorem kSuN_eq {i : Nat} {N : Env → Prop} : kSuN i N ρ = (noxE (ρ.set i none) = true ∧ N (ρ.set i none)) := Eq.trans rfl rfl
theorem kSuR_eq {i : Nat} {N : D → Env → Prop} {d : D} : kSuR i N d ρ = ((d.nox && noxE (ρ.set i none)) = true ∧ N d (ρ.set i none)) := Eq.trans rfl rfl
def noxO (o : Option D) : Bool := match o with
  | some d => d.nox
  | none => true
theorem noxE_nil : noxE [] = true := Eq.trans rfl rfl
theorem noxE_cons {o : Option D} : noxE (o :: ρ) = (noxO o && noxE ρ) := Eq.trans rfl rfl
theorem noxO_n : noxO none = true := Eq.trans rfl rfl
theorem noxO_s {d : D} : noxO (some d) = d.nox := Eq.trans rfl rfl
theorem nox_non : D.nox .non = true := Eq.trans rfl rfl
theorem nox_bl {b : Bool} : D.nox (.bl b) = true := Eq.trans rfl rfl
theorem nox_int {b : Int} : D.nox (.int b) = true := Eq.trans rfl rfl
theorem nox_str {b : Str} : D.nox (.str b) = true := Eq.trans rfl rfl
theorem nox_lst {o : Bool} {ds : List D} : D.nox (.node o .lst ds) = D.noxs ds := by rw [D.nox]; rfl
theorem nox_tup {o : Bool} {ds : List D} : D.nox (.node o .tup ds) = D.noxs ds := by rw [D.nox]; rfl
theorem noxs_nil : D.noxs [] = true := by rw [D.noxs]
theorem noxs_cons {d : D} {ds : List D} : D.noxs (d :: ds) = (D.nox d && D.noxs ds) := by rw [D.noxs]
theorem noxs_ints (ns : List Int) : D.noxs (ns.map .int) = true := by
  induction ns with
  | nil => rw [List.map_nil, D.noxs]
  | cons n r ih => rw [List.map_cons, D.noxs, ih, nox_int]; rfl
def kIsE (known : List Str) (sub : Str → Bool) (Q : Opn → Env → Prop) (ρ : Env) (o : Option D) : Prop := match o with
  | some (.node false (.exn c) []) => known.contains c = true ∧ Q (.val (.bl (sub c))) ρ
  | _ => False
theorem wE_isE {known : List Str} {sub : Str → Bool} {i : Nat} {Q : Opn → Env → Prop} : wE (mIsE known sub i) X Q ρ = kIsE known sub Q ρ (slotOf ρ i) := by
  unfold wE mIsE kIsE
  cases e : slotOf ρ i with
  | none => rfl
  | some d =>
    cases d with
    | node o k ds =>
      cases o with
      | true => rfl
      | false =>
        cases k with
        | exn c =>
          cases ds with
          | nil =>
            simp only
            by_cases h : known.contains c = true
            · simp only [h, if_true, true_and]
            · simp only [h, Bool.false_eq_true, if_false, false_and]
          | cons => rfl
        | _ => rfl
    | _ => rfl
theorem kIsE_s {known : List Str} {sub : Str → Bool} {Q : Opn → Env → Prop} {c : Str} : kIsE known sub Q ρ (some (exnD c)) = (known.contains c = true ∧ Q (.val (.bl (sub c))) ρ) := Eq.trans rfl rfl
end
end DL

namespace DL
open PySem PySem.Spec L2
section
variable {X : XP} {ρ : Env} {E : En}
theorem kCall_0h {f : MF} {dfl : List D} {Q : Opn → Env → Prop} {i : Nat} {os : List Opn} (h1 : (slotsOf (some 0) 1 os).contains i = false) : kCall (some 0) f dfl X Q (.slot i :: os) ρ = kC0 f dfl X Q i (frzS (slotsOf (some 0) 1 os) ρ) (argsD ρ (some 0) 0 (.slot i :: os)) := by
  have e : slotsOf (some 0) 0 (.slot i :: os) = slotsOf (some 0) 1 os := by
    rw [slotsOf, if_pos rfl]
  unfold kCall kC0
  cases argsD ρ (some 0) 0 (.slot i :: os) with
  | none => rfl
  | some ds =>
    simp only [wO_some, List.getElem?_cons_zero, e, h1, true_and]
    congr 1
    · funext c ds'
      cases ds' <;> rfl
    · funext c ds'
      cases ds' <;> rfl
theorem restE_congr {vs : List Nat} : ∀ {i : Nat} {ρ ρ' ρ2 : Env}, ρ'.length = ρ2.length → (∀ j, vs.contains (i + j) = false → ρ'[j]? = ρ2[j]?) → restE vs i ρ ρ' = restE vs i ρ ρ2
  | i, [], ρ', ρ2, h, k => by rw [restE, restE] <;> intro _ _ _ _ q <;> cases q
  | i, o :: ρ, [], [], h, k => rfl
  | i, o :: ρ, o' :: ρ', o2 :: ρ2, h, k => by
    rw [restE, restE, restE_congr (i := i + 1) (ρ' := ρ') (ρ2 := ρ2) (by simpa using h) fun j hj => by
      have := k (j + 1) (by rw [show i + (j + 1) = i + 1 + j by omega]; exact hj)
      simpa using this]
    by_cases c : vs.contains i = true
    · rw [if_pos c, if_pos c]
    · rw [if_neg c, if_neg c]
      have := k 0 (by simpa using c)
      simp only [List.getElem?_cons_zero, Option.some.injEq] at this
      rw [this]
  | i, _ :: _, _ :: _, [], h, _ => by cases h
  | i, _ :: _, [], _ :: _, h, _ => by cases h
theorem restE_w {vs : List Nat} {ρ2 : Env} : restE vs 0 ρ ρ2 = restE vs 0 ρ (wipeE ρ2 vs) := restE_congr (wipeE_length vs).symm fun j hj => by
  rw [Nat.zero_add] at hj
  have hj' : j ∉ vs := by simpa using hj
  exact (wipeE_get hj').symm
theorem restE_nil {vs : List Nat} {i : Nat} : restE vs i [] [] = [] := by rw [restE]; intro _ _ _ _ q; cases q
def rsO (b : Bool) (o o' : Option D) : Option D := if b = true then o else o'
theorem restE_cons {vs : List Nat} {i : Nat} {o o' : Option D} {ρ' : Env} : restE vs i (o :: ρ) (o' :: ρ') = rsO (vs.contains i) o o' :: restE vs (i + 1) ρ ρ' := by rw [restE]; rfl
theorem rsO_t {o o' : Option D} : rsO true o o' = o := Eq.trans rfl rfl
theorem rsO_f {o o' : Option D} : rsO false o o' = o' := Eq.trans rfl rfl
theorem lc_inv {tg : MG} {vs : List Nat} {mt : MT} {me : ME} {Q : Opn → Env → Prop} {ds : List D} (J : Nat → List D → Env → Prop) (ho : okOld vs ρ = true) (hl : ds.length ≤ 16777216) (h0 : J 0 [] (wipeE ρ vs))
    (hs : ∀ i d acc ρw, ds[i]? = some d → J i acc ρw → ∃ ρ1, tg d ρw = some ρ1 ∧ wT mt (fun _ _ => False) (fun b ρ2 => if b = true then wE me (fun _ _ => False) (fun o ρ3 => wO (esc o ρ3) fun x => J (i + 1) (acc ++ [x.1]) (wipeE x.2 vs)) ρ2 else J (i + 1) acc (wipeE ρ2 vs)) ρ1)
    (q : ∀ acc ρw, J ds.length acc ρw → Q (.val (.node true .lst acc)) (restE vs 0 ρ ρw)) : kLc tg vs mt me Q ds ρ := by
  obtain ⟨acc, ρ', e, _, hJ⟩ := lc_rule (tg := tg) (mt := mt) (me := me) (vs := vs) J ds 0 [] ρ (Nat.le_refl _) (by omega) h0 (fun i d acc ρw hi _ hJ => by
    rw [Nat.zero_add] at hJ ⊢
    exact hs i d acc ρw hi hJ)
  rw [Nat.zero_add] at hJ
  refine ⟨ho, acc, ρ', e, ?_⟩
  rw [restE_w]
  exact q _ _ hJ
end
end DL

namespace DL
open PySem PySem.Spec L2
/-! ## a, b = (x, y) -/
def mPar (i j : Nat) (ms : MA) : MS := fun ρ => match ms ρ with
  | .ok os ρ1 => match argsD ρ1 none 0 os with
    | some [d, e] => .nx (((frzE (fun i => (slotsOf none 0 os).contains i) 0 ρ1).set i (some d)).set j (some e))
    | _ => .bad
  | .ex c ρ1 => .ex c ρ1
  | .bad => .bad
section
variable {G : Cfg} {W : WX} {n t np : Nat} {B H B' H' B1 H1 B2 H2 B3 H3 : Hp} {ow ow' ow1 ow2 ow3 : Ow} {σ : L2.St} {ρ ρ' ρ1 ρ2 : Env} {v : V} {X : Cx} {E : Ends}
theorem frzE_len {P : Nat → Bool} : ∀ {i : Nat} {ρ : Env}, (frzE P i ρ).length = ρ.length
  | _, [] => rfl
  | i, o :: r => by rw [frzE, List.length_cons, List.length_cons, frzE_len]
theorem post_par {i j : Nat} {ms : MA} (hi : i < σ.length) (hj : j < σ.length) (fi : fxOk G.fx i) (fj : fxOk G.fx j) (q : tDS G W (mPar i j ms) E σ H) : tPar i j (tDA G W ms) E σ H := by
  obtain ⟨B, ow, ρ, S, hb, P⟩ := q
  refine ⟨B, ow, ρ, ρ.length, S, hb, Nat.le_refl _, ?_⟩
  unfold mPar at P
  cases e : ms ρ with
  | bad => rw [e] at P; exact P
  | ex c ρ1 => rw [e] at P; exact fun x d B' H' ow' s' S' e => P x d σ B' H' ow' s' S' S.len e
  | ok os ρ1 =>
    rw [e] at P
    intro vs B1 H1 ow1 s1 S1 b1 r1
    have hl := S.len2 S1
    cases e1 : argsD ρ1 none 0 os with
    | none => simp only [e1] at P; exact P.elim
    | some ds =>
      simp only [e1] at P
      split at P
      case h_2 => exact P.elim
      case h_1 ds' d ee heq =>
        cases heq
        generalize hF : (fun r => (slotsOf none 0 os).contains r || from_ ρ.length r) = F
        have fhi : ∀ r, ρ.length ≤ r → F r = true := fun r h => by rw [← hF]; simp [from_hi h]
        have fsl : ∀ i, i ∈ slotsOf none 0 os → F i = true := fun i h => by rw [← hF]; simp [h]
        have A := args_ren (F := F) (pr := none) S1 (fun _ _ q => nomatch q) r1 e1 fhi fsl fun _ _ _ q => nomatch q
        have fz := ArgsR.fzl (argsD_fz (F := F) S1 r1 e1) A
        have S2 := S1.frz (P := F)
        have eE : frzE F 0 ρ1 = frzE (fun i => (slotsOf none 0 os).contains i) 0 ρ1 := frzE_congr ρ1 0 fun j _ hj => by rw [← hF]; simp [from_lo (show j < ρ.length by omega)]
        rw [eE] at S2
        have st2 : Stp ρ.length B H ow (frzB B1 H1 ow1 F) H1 (cutO ow1 F) := by
          refine Stp.frz (t := ρ.length) S1 s1 hb fun i h => ?_
          rw [← hF] at h
          simp only [Bool.or_eq_true] at h
          rcases h with h | h
          · left
            have := slots_lt e1 i (by simpa using h)
            omega
          · exact .inr (of_decide_eq_true h)
        have bd2 : Bd (cutO ow1 F) ρ.length := fun a i p h => by
          obtain ⟨h1, h2⟩ := cutO_some h
          cases Nat.lt_or_ge i ρ.length with
          | inl q => exact q
          | inr q => rw [fhi i q] at h2; cases h2
        obtain ⟨v, r, rfl, zv, fz2⟩ := fz.uncons
        obtain ⟨w, r2, rfl, zw, fz3⟩ := fz2.uncons
        cases fz3.2
        generalize hρ : frzE (fun i => (slotsOf none 0 os).contains i) 0 ρ1 = ρ2 at P S2
        have hl2 : ρ2.length = ρ.length := by rw [← hρ, frzE_len, hl]
        refine ⟨v, w, rfl, ?_⟩
        show gName i v σ H1 (fun σ1 H2 => gName j w σ1 H2 E.nx)
        refine tg_name fi v d σ ρ2 (ρ2.set i (some d)) _ H1 _ _ S2 zv (if_pos (by rw [hl2, ← S.len]; exact hi)) fun σ1 ow3 s3 S3 l3 _ o3 _ => ?_
        rw [hl2] at s3
        have hl3 : (ρ2.set i (some d)).length = ρ.length := by rw [List.length_set, hl2]
        refine tg_name fj w ee σ1 _ ((ρ2.set i (some d)).set j (some ee)) _ H1 ow3 _ S3 zw (if_pos (by rw [hl3, ← S.len]; exact hj)) fun σ2 ow4 s4 S4 l4 _ o4 _ => ?_
        rw [hl3] at s4
        exact P σ2 _ H1 ow4 ((st2.trans s3).trans s4) S4 (by rw [l4, l3, S.len]) fun a i p h => bd2 a i p (o3 a i p (o4 a i p h))
theorem s_par {i j : Nat} {x y : Str} {a b : Expr} {ms : MA} {px py pt pos : Pos} {kt k2 pt2} (hc : X.calm = true) (hN : X.N.Nodup) (hi : X.N[i]? = some x) (hj : X.N[j]? = some y) (hij : i ≠ j)
    (hx : X.env.scope.names.lookup x = some .local) (hy : X.env.scope.names.lookup y = some .local) (fi : fxOk G.fx i) (fj : fxOk G.fx j) (ha : PA X [a, b] (tDA G W ms))
    (hw : swappedStores [.Tuple [.Name x px, .Name y py] kt pt] (.Tuple [a, b] k2 pt2) X.env = pure (some [x, y]))
    (hs : swapsWithSole [.Tuple [.Name x px, .Name y py] kt pt] (.Tuple [a, b] k2 pt2) pos.line X.env = pure false := by rfl) :
    PS X (.Assign [.Tuple [.Name x px, .Name y py] kt pt] (.Tuple [a, b] k2 pt2) pos) (tDS G W (mPar i j ms)) := ⟨fun pins s σ H E I q => by
  have h1 : i < σ.length := by
    rw [I.len]
    exact (List.getElem?_eq_some_iff.mp hi).1
  have h2 : j < σ.length := by
    rw [I.len]
    exact (List.getElem?_eq_some_iff.mp hj).1
  exact (ps_par hc hN hi hj hij hx hy ha hw hs).run pins s σ H E I (post_par h1 h2 fi fj q)⟩
end
end DL

namespace DL
open PySem PySem.Spec L2
/-! ## list(range(n)) -/
def gRangeL : List D → Option D
  | [.int n] => if -(2 ^ 62) ≤ n ∧ n ≤ 16777216 then some (.node true .lst ((rngI 0 n.toNat).map .int)) else none
  | _ => none
theorem rgV_rng (n : Int) : rgV 0 n = (rngI 0 n.toNat).map V.int := by
  unfold rgV rngI
  rw [List.map_map, Int.sub_zero]
  rfl
theorem ok_rangeL {G : Cfg} : OpOk G (fun xs H Q => ∃ x, xs = [x] ∧ ∃ n, x = .int n ∧ RgOk 0 n ∧ ∀ q, H q = none → Q (.ref q) (upd H q (.lst (rgV 0 n)))) gRangeL := by
  intro B H ow vs ds d Q S R e K
  unfold gRangeL at e
  split at e
  · rename_i n
    obtain ⟨v, u, rfl, h1⟩ := R.one
    cases h1
    split at e
    · rename_i c
      cases e
      exact ⟨_, rfl, n, rfl, ⟨by omega, by omega, c.1, by omega, by omega⟩, fun l hl => K.new .lst _ (rgV 0 n) l rfl trivial (by rw [rgV_rng]; exact FzL.ints _) hl⟩
    · cases e
  · cases e
theorem d_listRng {G : Cfg} {W : WX} {X : Cx} {e : Expr} {m : ME} {p p2 pos pos2 : Pos} (hK : G.K = X.K) (hc : X.calm = true) (hm : X.mg "list" = none) (hg : Gl X "list") (hm2 : X.mg "range" = none) (hg2 : Gl X "range") (he : PE X e (tD G W m))
    (hs : starEach [e] X.env = (false, eval e X.env) :: starEach [] X.env := by rfl)
    (hs2 : starEach [.Call (.Name "range" p2) [e] [] pos2] X.env = (false, eval (.Call (.Name "range" p2) [e] [] pos2) X.env) :: starEach [] X.env := by rfl) :
    PE X (.Call (.Name "list" p) [.Call (.Name "range" p2) [e] [] pos2] [] pos) (tD G W (mOp (mCons m mNil) gRangeL)) := d_un ok_rangeL he fun _ h =>
  (pe_listRg hc hg hm (prg_1 hg2 hm2 h hs) hs2).up fun σ H Q q => q
end DL

namespace DL
open PySem PySem.Spec L2 PpSet
/-! ## {e for x in ..}, its items ints or texts -/
section
variable {X : Cx}
/-- what a turn leaves in the set -/
def addK (P : Program) (w : World) (D : Addr) (c : Key) (H : Hp) (go : Hp → Prop) : Prop := ∃ (S : Key → Bool) (n : Nat),
  H D = some (SetK P w D S n) ∧ n + 1 < scanBound ∧ go (upd H D (SetK P w D (fun j => S j || decide (j = c)) (if S c = true then n else n + 1)))
def turnK (P : Program) (w : World) (g : TG) (tt : TT) (te : TE) (vs : List Nat) (D : Addr) (τ : L2.St) (x : V) (h : Hp) (go : Hp → Prop) : Prop :=
  g x τ h fun τ2 h2 => wipe τ2 vs = τ ∧ tt τ2 h2 fun b h3 => if b = true then te τ2 h3 fun y h4 => ∃ c : Key, y = L2.kV c ∧ addK P w D c h4 go else go h3
def tScK (P : Program) (w : World) (wi : TI) (g : TG) (tt : TT) (te : TE) (vs : List Nat) : TE := fun τ h Q => wi τ h fun J h1 => ∀ D, h1 D = none →
  ∃ W : Nat → Nat → Hp → Prop, (∃ m, W 0 m (upd h1 D (SetK P w D (fun _ => false) 0))) ∧ ∀ i m h, W i m h → (J.stop i h ∧ Q (.ref D) h) ∨
    (J.go i h ∧ ∃ go : Hp → Prop, (∀ h', go h' → ∃ m', m' < m ∧ W (i + 1) m' h') ∧ ∀ x h', J.yld i h x h' → turnK P w g tt te vs D (wipe τ vs) x h' go)
theorem freshK {P : Program} {w : World} (led : Bool) {h : Heap} : (h.push { cls := .type "set", dict := none, data := .set #[] 0 (.fresh 0 0 led) }).SetOf (mixKind P w) h.objs.size (fun _ => false) 0 :=
  ⟨_, #[], 0, _, Heap.get?_push_size _ rfl, ⟨rfl, rfl, rfl⟩, rfl, (fun e he => by simp at he), (fun k => by simp), (by decide), (by rfl), rfl⟩
theorem pe_scK {elt tg iter : Expr} {ifs : List Expr} {scope : Scope} {own : List (Str × Nat)} {pos : Pos} {wi : TI} {g : TG} {tt : TT} {te : TE} (kc : X.calm = true) (kN : X.N.Nodup) (ki : PI X tg iter wi) (kb : BlkOk X.N X.env.scope scope own)
    (kg : ∀ (z : Shared) (h : Hp) (C : Addr) (cl : List (Str × Addr)) (fp : List Addr), PG (X.blk z h scope (compEnvC scope cl C X.env) fp) tg g)
    (kt : ∀ (z : Shared) (h : Hp) (C : Addr) (cl : List (Str × Addr)) (fp : List Addr), PTs (X.blk z h scope (compEnvC scope cl C X.env) fp) ifs tt)
    (ke : ∀ (z : Shared) (h : Hp) (C : Addr) (cl : List (Str × Addr)) (fp : List Addr), PE (X.blk z h scope (compEnvC scope cl C X.env) fp) elt te)
    (ks : ∀ x, foldedSetIterable iter X.env x = pure x := by intro _; rfl) :
    PE X (.SetComp elt [⟨tg, iter, ifs, 0⟩] scope pos) (tScK X.prog X.w wi g tt te (own.map (·.2))) := by
  refine ⟨fun pins z τ h Q IV hyp => ?_⟩
  rw [eval_SetComp]
  have cells : ∀ y ∈ scope.names, y.2 = .free → ∃ c, X.env.cells.lookup y.1 = some c := fun y hy e => IV.ok.has _ (kb.free y hy e)
  refine wpAny_comprehension_free rfl ks (closure_ok cells) kb.kind (fun y hy e => by rw [kb.uniq y hy, e]) (thn (ki.run pins z τ h _ IV hyp) fun xv z1 hx => thn hx fun itv z2 got => ?_)
  obtain ⟨it, fp, tn, J, h2, rfl, IV2, TR, at2, out2, rest⟩ := got
  refine newSet_ok ?_
  refine newEnv_comp ?_
  generalize eD : z2.heap.objs.size = D
  have noneD : h2 D = none := IV2.hok.fresh (Nat.le_of_eq eD)
  obtain ⟨W, ⟨m0, start⟩, turn⟩ := rest D noneD
  generalize ez3 : ({ z2 with heap := z2.heap.push { cls := .type "set", dict := none, data := .set #[] 0 (.fresh 0 0 (!X.w.params.followText "set-order")) } } : Shared) = z3
  have hp3 : z3.heap = z2.heap.push { cls := .type "set", dict := none, data := .set #[] 0 (.fresh 0 0 (!X.w.params.followText "set-order")) } := by rw [← ez3]
  have IV3 : Inv X pins τ (upd h2 D (SetK X.prog X.w D (fun _ => false) 0)) z3 := by
    subst eD
    subst ez3
    exact IV2.laid (t' := z2.toks) (fun b o e => Heap.get?_push_of_some _ e) (Nat.le_refl _) (setK_new (freshK _))
  have small : ∀ b ∈ fp, b < z2.heap.objs.size := fun b hb => (TR.obj _ _ at2 b hb).elim fun o q => Heap.lt_size q.1
  have out3 : ∀ b ∈ fp, FpOk X pins (upd h2 D (SetK X.prog X.w D (fun _ => false) 0)) b ∧ b < z3.heap.objs.size := fun b hb => by
    have lt := small b hb
    refine ⟨⟨?_, (out2 b hb).2⟩, by rw [hp3, Heap.size_push]; exact Nat.lt_succ_of_lt lt⟩
    rw [upd_ne (by rw [← eD]; exact Nat.ne_of_lt lt)]
    exact (out2 b hb).1
  have at3 : tn 0 z3.heap := TR.keep _ _ _ at2 fun b _ o e => by rw [hp3]; exact Heap.get?_push_of_some _ e
  have IV4 := block_start IV3 kb kN out3
  have no3 : ∀ b ∈ fp, (upd h2 D (SetK X.prog X.w D (fun _ => false) 0)) b = none := fun b hb => (out3 b hb).1.1
  have pg := kg z3 (upd h2 D (SetK X.prog X.w D (fun _ => false) 0)) z3.heap.objs.size (cellsFrom (z3.heap.objs.size + 1) scope.names (cloFrom X.env.cells scope.names [])) fp
  have pt := kt z3 (upd h2 D (SetK X.prog X.w D (fun _ => false) 0)) z3.heap.objs.size (cellsFrom (z3.heap.objs.size + 1) scope.names (cloFrom X.env.cells scope.names [])) fp
  have pe := ke z3 (upd h2 D (SetK X.prog X.w D (fun _ => false) 0)) z3.heap.objs.size (cellsFrom (z3.heap.objs.size + 1) scope.names (cloFrom X.env.cells scope.names [])) fp
  show codeAny _ _ (.compStart (.SetComp elt [⟨tg, iter, ifs, 0⟩] scope pos) 0 (.ref it) (.ref D) (compEnvC scope (cellsFrom (z3.heap.objs.size + 1) scope.names (cloFrom X.env.cells scope.names [])) z3.heap.objs.size X.env)) (compPost (model X.prog X.w) X.A X.xe none (EP X pins τ Q) (.ref D) z3.heap.objs.size) { z3 with heap := pushCells (z3.heap.push { cls := .type "dict", data := .dict #[] }) scope.names }
  generalize ece : compEnvC scope (cellsFrom (z3.heap.objs.size + 1) scope.names (cloFrom X.env.cells scope.names [])) z3.heap.objs.size X.env = ce at IV4 pg pt pe ⊢
  have locs : ce.locals = z3.heap.objs.size := by rw [← ece]; rfl
  generalize eh3 : upd h2 D (SetK X.prog X.w D (fun _ => false) 0) = h3 at IV3 IV4 pg pt pe start no3 out3
  generalize ez4 : ({ z3 with heap := pushCells (z3.heap.push { cls := .type "dict", data := .dict #[] }) scope.names } : Shared) = z4 at IV4 ⊢
  have at4 : tn 0 z4.heap := TR.keep _ _ _ at3 fun b _ o e => by subst ez4; exact pushCells_keeps _ _ _ _ (Heap.get?_push_of_some _ e)
  have ready : ∀ {τ' : L2.St} {h' : Hp} {z' : Shared}, Inv (X.blk z3 h3 scope ce fp) [] τ' h' z' → (∀ b ∈ fp, h' b = none) → ∀ b ∈ fp, FpOk (X.blk z3 h3 scope ce fp) [] h' b := fun {τ' h' z'} IV' hn b hb =>
    ⟨hn b hb, (IV'.ok.exf b hb).1, IV'.ok.exfs b hb, .inl hb, fun x c e => (IV'.ok.exf b hb).2 x c e, fun p hp => by cases (show p ∈ ([] : List (Addr × Obj)) from hp)⟩
  refine codeAny_compStart_set ?_ (TR.self X.A 0 _ _ _ at4 ?_)
  all_goals
    refine compLoopS_any (fun n z' => ∃ i h', Inv (X.blk z3 h3 scope ce fp) [] (wipe τ (own.map (·.2))) h' z' ∧ tn i z'.heap ∧ (∀ b ∈ fp, h' b = none) ∧ W i n h') ?_ m0 ⟨0, h3, IV4, at4, no3, start⟩
    rintro n z5 ⟨i, h5, IV5, at5, no5, inv5⟩
    rcases turn i n h5 inv5 with ⟨stop, fin⟩ | ⟨go, Go, hGo, step⟩
    · refine thnF (TR.done (X.blk z3 h3 scope ce fp) rfl rfl rfl kc i [] z5 _ h5 (fun _ _ => False) IV5 (ready IV5 no5) at5 stop) fun r z6 hr6 => ?_
      obtain ⟨rfl, IV6⟩ := hr6
      have IV7 : Inv X pins τ h5 z6 := IV3.call' (ch := fp) IV6.os IV6.base IV6.hok IV6.bare fun b hb => ⟨(out3 b hb).1.2.2.2.1, (out3 b hb).1.2.1, (out3 b hb).1.2.2.2.2.1, (out3 b hb).1.2.2.2.2.2⟩
      have noC : h5 z3.heap.objs.size = none := by
        have q : h5 ce.locals = none := IV6.free
        rwa [locs] at q
      obtain ⟨m, hn, _⟩ := IV6.loc
      have hn : z6.heap.Ns ce.locals m := hn
      rw [locs] at hn
      refine ⟨m, hn, fun h'' sb => ?_⟩
      obtain ⟨f0, f1, f2, f3, f4, f5⟩ := IV3.fpOk (Nat.le_refl _) noC
      exact ⟨.ref D, h5, IV7.turned (t' := z6.toks) (fun b o hb e => (sb.2 b hb).trans e) f0 f1 f3 f4 f5, rfl, fin⟩
    · refine thnF (TR.item (X.blk z3 h3 scope ce fp) rfl rfl rfl kc i [] z5 _ h5 (fun _ _ => False) IV5 (ready IV5 no5) at5 go) fun r z6 ⟨u, hr, got6⟩ => ?_
      subst hr
      refine thnF got6 fun _ z7 ⟨x, h7, IV7, rx, yl, at7, no7⟩ => ?_
      have pinned := IV7.pinned (ready IV7 no7) (TR.obj _ _ at7)
      refine thnF (pg.run _ z7 _ h7 x u _ pinned rx (step x h7 yl)) fun _ z8 ⟨τ8, h8, IV8, wiped, q8⟩ => ?_
      refine thnF (pt.run _ z8 τ8 h8 _ IV8 q8) fun b z9 ⟨h9, IV9, qb⟩ => ?_
      have close : ∀ {z' : Shared} {h' : Hp}, Inv (X.blk z3 h3 scope ce fp) ([] ++ pinsAt fp z7.heap) τ8 h' z' → Go h' → ∃ m, m < n ∧ ∃ i h', Inv (X.blk z3 h3 scope ce fp) [] (wipe τ (own.map (·.2))) h' z' ∧ tn i z'.heap ∧ (∀ b ∈ fp, h' b = none) ∧ W i m h' := fun {z' h'} IV' nx => by
        obtain ⟨m', lt, w'⟩ := hGo h' nx
        have kept : ∀ b ∈ fp, ∀ o, z7.heap.get? b = some o → z'.heap.get? b = some o ∧ h' b = none := fun b hb o e => by
          have q := IV'.pin (b, o) (List.mem_append_right _ (List.mem_append_right _ (mem_pinsAt hb e)))
          exact ⟨q.1, q.2.1⟩
        refine ⟨m', lt, i + 1, h', (IV'.unpinned (pins := [])).weak (by rw [← wiped, wipe_length]) (fun j v e => ?_), TR.keep _ _ _ at7 fun b hb o e => (kept b hb o e).1, fun b hb => ?_, w'⟩
        · rw [← wiped] at e
          exact (wipe_some e).1
        · exact (TR.obj _ _ at7 b hb).elim fun o q => (kept b hb o q.1).2
      cases b with
      | false =>
        simp only [Bool.false_eq_true, if_false] at qb ⊢
        exact close IV9 qb
      | true =>
        simp only [if_true] at qb ⊢
        refine thnF (pe.run _ z9 τ8 h9 _ IV9 qb) fun v z10 ⟨yv, h10, IV10, rv, c, ey, S, k, hD, room, nx⟩ => ?_
        subst ey
        exact thnF (mt_saddK (X := X.blk z3 h3 scope ce fp) _ z10 τ8 h10 (.ref D) [L2.kV c] (.ref D) [v] (fun _ h' => Go h') IV10 rfl (.cons rv .nil) ⟨D, c, S, k, rfl, rfl, hD, room, nx⟩) fun _ z11 ⟨_, h11, IV11, _, q11⟩ => close IV11 q11
end
end DL

namespace DL
open PySem PySem.Spec L2 PpSet
/-! ## len({e for x in ..}) -/
def D.key? : D → Option Key
  | .int i => some (.inl i)
  | .str s => some (.inr s)
  | _ => none
def D.keys? : List D → Option (List Key)
  | [] => some []
  | d :: r => match d.key?, D.keys? r with
    | some k, some ks => some (k :: ks)
    | _, _ => none
def memK (k : Key) (l : List Key) : Bool := l.any fun j => decide (j = k)
theorem memK_app {k c : Key} {l : List Key} : memK k (l ++ [c]) = (memK k l || decide (c = k)) := by
  unfold memK
  rw [List.any_append, List.any_cons, List.any_nil, Bool.or_false]
/-- how many unlike ones -/
def unlikeN : List Key → Nat
  | [] => 0
  | k :: r => (if memK k r = true then 0 else 1) + unlikeN r
theorem unlikeN_add (c : Key) : ∀ l : List Key, unlikeN (l ++ [c]) = unlikeN l + if memK c l = true then 0 else 1
  | [] => by simp [unlikeN, memK]
  | k :: r => by
    rw [List.cons_append, unlikeN, unlikeN, unlikeN_add c r, memK_app]
    have e : memK c (k :: r) = (decide (k = c) || memK c r) := by unfold memK; rw [List.any_cons]
    rw [e]
    by_cases h : k = c
    · subst h
      simp
      omega
    · have h' : ¬ c = k := fun q => h q.symm
      simp only [h, h', decide_false, Bool.or_false, Bool.false_or]
      omega
theorem unlikeN_le : ∀ l : List Key, unlikeN l ≤ l.length
  | [] => Nat.le_refl _
  | k :: r => by
    rw [unlikeN, List.length_cons]
    have := unlikeN_le r
    split <;> omega
theorem keys_app : ∀ {a b : List D} {l : List Key}, D.keys? (a ++ b) = some l → ∃ l1 l2, D.keys? a = some l1 ∧ D.keys? b = some l2 ∧ l = l1 ++ l2
  | [], b, l, h => ⟨[], l, rfl, h, rfl⟩
  | d :: a, b, l, h => by
    rw [List.cons_append, D.keys?] at h
    cases e1 : d.key? with
    | none => rw [e1] at h; cases h
    | some k =>
      cases e2 : D.keys? (a ++ b) with
      | none => rw [e1, e2] at h; cases h
      | some ks =>
        rw [e1, e2] at h
        cases h
        obtain ⟨l1, l2, q1, q2, rfl⟩ := keys_app e2
        exact ⟨k :: l1, l2, by rw [D.keys?, e1, q1], q2, rfl⟩
theorem lcL_pre {tg : MG} {vs : List Nat} {mt : MT} {me : ME} : ∀ {ds acc accF : List D} {ρ ρF : Env}, lcL tg vs mt me acc ds ρ = .ok accF ρF → ∃ r, accF = acc ++ r
  | [], acc, accF, ρ, ρF, h => by rw [lcL] at h; cases h; exact ⟨[], by simp⟩
  | d :: ds, acc, accF, ρ, ρF, h => by
    rw [lcL] at h
    cases e1 : tg d (wipeE ρ vs) with
    | none => simp only [e1] at h; cases h
    | some ρ1 =>
      simp only [e1] at h
      cases e2 : mt ρ1 with
      | bad => rw [e2] at h; cases h
      | ex => rw [e2] at h; cases h
      | ok b ρ2 =>
        simp only [e2] at h
        cases b with
        | false => rw [if_neg Bool.false_ne_true] at h; exact lcL_pre h
        | true =>
          rw [if_pos rfl] at h
          cases e3 : me ρ2 with
          | bad => rw [e3] at h; cases h
          | ex => rw [e3] at h; cases h
          | ok o ρ3 =>
            simp only [e3] at h
            cases e4 : esc o ρ3 with
            | none => simp only [e4] at h; cases h
            | some y =>
              simp only [e4] at h
              split at h
              · obtain ⟨r, q⟩ := lcL_pre h
                exact ⟨[y.1] ++ r, by rw [q, List.append_assoc]⟩
              · cases h
def mLenS (mi : MI) (tg : MG) (vs : List Nat) (mt : MT) (me : ME) : ME := fun ρ => (mi ρ).bind fun ds ρ1 => if okOld vs ρ1 = true then (match lcL tg vs mt me [] ds ρ1 with
  | .ok acc ρ2 => match D.keys? acc with
    | some l => if l.length ≤ 4000 then .ok (.val (.int (unlikeN l))) (restE vs 0 ρ1 ρ2) else .bad
    | none => .bad
  | _ => .bad) else .bad
section
variable {G : Cfg} {W : WX} {n t np : Nat} {B H B' H' B1 H1 B2 H2 B3 H3 : Hp} {ow ow' ow1 ow2 ow3 : Ow} {σ : L2.St} {ρ ρ' ρ1 ρ2 : Env} {v : V} {X : Cx} {E : Ends}
theorem key_v {d : D} {k : Key} {y : V} {N : List Nat → Bool → Kd → Addr → List V → Prop} {p : List Nat} (h : Rg N p y d) (e : d.key? = some k) : y = L2.kV k := by
  cases d with
  | int i => cases e; rw [Rg] at h; exact h
  | str i => cases e; rw [Rg] at h; exact h
  | _ => cases e
def rLenK (P : Program) (w : World) : List V → Hp → VK → Prop := fun xs H Q => ∃ (a : Addr) (S : Key → Bool) (n : Nat), xs = [V.ref a] ∧ H a = some (SetK P w a S n) ∧ n < 5000 ∧ Q (.int n) H
theorem call_lenK : CallR X (.builtin "len") (rLenK X.prog X.w) := by
  intro pins s σ H xs us Q I r h
  obtain ⟨a, S, n, rfl, ha, hn, q⟩ := h
  obtain ⟨u, rfl, rx⟩ := vals1 r
  cases rx
  obtain ⟨o, es, ep, t, ho, hex, hd, _, _, _, hf, hz⟩ := setK_get I ha
  exact PySem.call_len_set ho hex hd hf (by rw [hz] <;> omega) ⟨.int n, H, I.tok _, ⟨_, by rw [hz]⟩, q⟩
theorem post_lenS {P0 : Program} {w : World} {mi : MI} {g : TG} {tg : MG} {l vs : List Nat} {mt : MT} {me : ME} {Q : VK} (htg : TgOk G l g tg) (hl : ∀ i ∈ l, i ∈ vs) (hx : ∀ i ∈ vs, fxOk G.fx i) (q : tD G W (mLenS mi tg vs mt me) σ H Q) :
    tScK P0 w (tDI G W mi) g (tDT G Wno mt) (tD G Wno me) vs σ H fun x H1 => rLenK P0 w [x] H1 Q := by
  obtain ⟨B, ow, ρ, t, S, hb, hn, P⟩ := q
  refine ⟨B, ow, ρ, t, S, hb, hn, ?_⟩
  unfold mLenS at P
  cases e : mi ρ with
  | bad => rw [e] at P; exact P
  | ex c ρ1 => rw [e] at P; exact P
  | ok ds ρ1 =>
    rw [e, Rs.bind_ok] at P
    intro J vs' B1 H1 ow1 s1 S1 b1 st fz L hL
    have hl1 := S.len2 S1
    by_cases ho : okOld vs ρ1 = true
    case neg => rw [if_neg ho] at P; exact P.elim
    rw [if_pos ho] at P
    cases eF : lcL tg vs mt me [] ds ρ1 with
    | bad => rw [eF] at P; exact P.elim
    | ex c ρF => rw [eF] at P; exact P.elim
    | ok accF ρF =>
      simp only [eF] at P
      cases eK : D.keys? accF with
      | none => rw [eK] at P; exact P.elim
      | some lF =>
        simp only [eK] at P
        by_cases hF : lF.length ≤ 4000
        case neg => rw [if_neg hF] at P; exact P.elim
        rw [if_pos hF] at P
        refine ⟨fun i m H' => m = ds.length - i ∧ i ≤ ds.length ∧ ∃ B' ow' ρ' acc ks, Stq ρ.length t B H ow B' H' ow' ∧ Same B1 B' ∧ Sim G B' H' ow' (L2.wipe σ vs) (wipeE ρ' vs) ∧ ρ'.length = ρ.length ∧ Bd ow' (t + 1) ∧ ow' L = some (t, []) ∧ H' L = some (SetK P0 w L (fun k => memK k ks) (unlikeN ks)) ∧
          D.keys? acc = some ks ∧ lcL tg vs mt me acc (ds.drop i) ρ' = .ok accF ρF, ⟨_, rfl, Nat.zero_le _, B1, putO ow1 L (t, []), ρ1, [], [], (s1.trans (Stp.newv S1 hL)).q, Same.refl _, (S1.newv hL).wipe hx, hl1, fun a i p h => ?_, putO_same, upd_same, rfl, eF⟩, ?_⟩
        · by_cases z : a = L
          · subst z; rw [putO_same] at h; cases h; omega
          · rw [putO_ne z] at h; have := b1 a i p h; omega
        rintro i m H' ⟨em, hi, B', ow', ρ', acc, ks, sq, sb, S', l', b', oL, hL', kids, eq⟩
        have sH : Same B1 H' := sb.trans S'.same
        have hwl : (wipeE ρ' vs).length = ρ.length := by rw [wipeE_length, l']
        cases ed : ds.drop i with
        | nil =>
          left
          have hi2 : i = vs'.length := by
            have := congrArg List.length ed
            rw [List.length_drop, List.length_nil] at this
            rw [fz.length]
            omega
          rw [hi2]
          refine ⟨st.stop H' sH, ?_⟩
          rw [ed, lcL] at eq
          cases eq
          rw [kids] at eK
          cases eK
          refine ⟨L, _, _, rfl, hL', by have := unlikeN_le lF; omega, P (.int (unlikeN lF)) B' H' ow' (sq.p hb) ⟨S'.same, S'.lab, ?_, fun j d e2 => ?_, S1.fix⟩ b' rfl⟩
          · rw [restE_length (by rw [l', hl1]), hl1]; exact S.len
          · rcases restE_get e2 with ⟨c, e3⟩ | ⟨c, e3⟩
            · rw [Nat.zero_add] at c
              have hz : d.fz = true := by
                unfold okOld at ho
                rw [List.all_eq_true] at ho
                have := ho j (by simpa using c)
                rw [e3] at this
                exact this
              obtain ⟨w, hw, hr⟩ := S1.slot j d e3
              exact ⟨w, hw, ((hr.fz hz).same sb).rp⟩
            · rw [Nat.zero_add] at c
              have hj : j ∉ vs := by simpa using c
              obtain ⟨w, hw, hr⟩ := S'.slot j d (by rw [wipeE_get hj]; exact e3)
              rw [wipe_get hj] at hw
              exact ⟨w, hw, hr⟩
        | cons d r =>
          right
          obtain ⟨v, hv, zv, hiv, er⟩ := fz.drop1 ed
          rw [ed, lcL] at eq
          refine ⟨st.go i H' sH hiv, fun H2 => ∃ B2 ow2 ρ2 acc2 ks2, Stq ρ.length t B H ow B2 H2 ow2 ∧ Same B1 B2 ∧ Sim G B2 H2 ow2 (L2.wipe σ vs) (wipeE ρ2 vs) ∧ ρ2.length = ρ.length ∧ Bd ow2 (t + 1) ∧ ow2 L = some (t, []) ∧ H2 L = some (SetK P0 w L (fun k => memK k ks2) (unlikeN ks2)) ∧
            D.keys? acc2 = some ks2 ∧ lcL tg vs mt me acc2 r ρ2 = .ok accF ρF, fun H2 h => ⟨ds.length - (i + 1), by rw [fz.length] at hiv; omega, rfl, by rw [fz.length] at hiv; omega, by rw [er]; exact h⟩, fun x H2 hy => ?_⟩
          obtain ⟨rfl, hx2⟩ := st.yld i H' x H2 sH hiv hy
          rw [hv] at hx2
          cases hx2
          cases e3 : tg d (wipeE ρ' vs) with
          | none => simp only [e3] at eq; cases eq
          | some ρ2 =>
            simp only [e3] at eq
            refine htg v d _ _ ρ2 B' H2 ow' _ S' (zv.same sb) e3 fun σ3 ow3 s3 S3 l3 k3 o3 p3 => ?_
            rw [hwl] at s3
            have hl3 : ρ2.length = ρ.length := by rw [← S3.len, l3, S'.len, hwl]
            have wσ : L2.wipe σ3 vs = L2.wipe σ vs := by
              have h1 : L2.wipe σ3 vs = L2.wipe (L2.wipe σ vs) vs := wipe_eq l3 fun i hi => k3 i fun h => hi (hl i h)
              rw [h1]
              exact wipe_eq (wipe_length _ _) fun i hi => wipe_get hi
            refine ⟨wσ, B', ow3, ρ2, t + 1, S3, fun a i p h => b' a i p (o3 a i p h), by omega, ?_⟩
            rw [hl3]
            cases e4 : mt ρ2 with
            | bad => rw [e4] at eq; cases eq
            | ex c ρ4 => rw [e4] at eq; cases eq
            | ok b ρ4 =>
              simp only [e4] at eq
              intro B4 H4 ow4 s4 S4 b4
              have hl4 : ρ4.length = ρ.length := by rw [← S4.len, l3, S'.len, hwl]
              have s34 := s3.trans s4
              cases b with
              | false =>
                rw [if_neg Bool.false_ne_true] at eq ⊢
                obtain ⟨k1, k2⟩ := s34.keepP L t [] oL hn
                exact ⟨B4, ow4, ρ4, acc, ks, sq.trans s34.q, sb.trans s34.sb, by rw [← wσ]; exact S4.wipe hx, hl4, b4, k1, k2.trans hL', kids, eq⟩
              | true =>
                rw [if_pos rfl] at eq ⊢
                refine ⟨B4, ow4, ρ4, t + 1, S4, b4, by omega, ?_⟩
                rw [hl4]
                cases e5 : me ρ4 with
                | bad => rw [e5] at eq; cases eq
                | ex c ρ5 => rw [e5] at eq; cases eq
                | ok o ρ5 =>
                  simp only [e5] at eq
                  intro y B5 H5 ow5 s5 S5 b5 r5
                  have hl5 : ρ5.length = ρ.length := by rw [← S5.len, l3, S'.len, hwl]
                  cases e6 : esc o ρ5 with
                  | none => simp only [e6] at eq; cases eq
                  | some z =>
                    obtain ⟨dy, ρ6⟩ := z
                    simp only [e6] at eq
                    obtain ⟨B6, ow6, s6, S6, b6, r6⟩ := esc_ok S5 b5 r5 e6
                    rw [hl5] at s6
                    have hl6 := S5.len2 S6
                    have s36 := (s34.trans s5).trans s6
                    obtain ⟨k1, k2⟩ := s36.keepP L t [] oL hn
                    split at eq
                    · obtain ⟨rr, hpre⟩ := lcL_pre eq
                      rw [hpre] at eK
                      obtain ⟨l1, l2, q1, q2, elF⟩ := keys_app eK
                      obtain ⟨l3', l4, q3, q4, el1⟩ := keys_app q1
                      rw [kids] at q3
                      cases q3
                      have hkc : ∃ c, dy.key? = some c ∧ l4 = [c] := by
                        rw [D.keys?] at q4
                        cases ec : dy.key? with
                        | none => rw [ec] at q4; cases q4
                        | some c => rw [ec] at q4; cases q4; exact ⟨c, rfl, rfl⟩
                      obtain ⟨c, ec, rfl⟩ := hkc
                      have hlen : ks.length + 1 ≤ 4000 := by
                        have := congrArg List.length elF
                        rw [el1] at this
                        simp at this
                        omega
                      have hsc : unlikeN ks + 1 < scanBound := by
                        have := unlikeN_le ks
                        show unlikeN ks + 1 < 4096
                        omega
                      refine ⟨c, key_v r6 ec, _, _, k2.trans hL', hsc, B6, mvO ow6 (t + 1) t [acc.length] false, ρ6, acc ++ [dy], ks ++ [c], (sq.trans s36.q).trans (Stq.more (k2.trans hL') k1), sb.trans s36.sb, ?_, by omega, fun a i p h => ?_, ?_, ?_, by rw [q1, el1], eq⟩
                      · rw [← wσ]
                        exact (S6.more (q := [acc.length]) (by omega) k1).wipe hx
                      · rcases mvO_some h with ⟨p', e, rfl, _⟩ | ⟨e, h1, _⟩
                        · omega
                        · have := b6 a i p e; omega
                      · exact mvO_else k1 (by omega) (by simp)
                      · rw [upd_same]
                        congr 2
                        · funext k
                          rw [memK_app]
                          congr 1
                          exact decide_eq_decide.mpr ⟨fun q => q.symm, fun q => q.symm⟩
                        · rw [unlikeN_add]
                          split <;> rfl
                    · cases eq
theorem d_lenS {elt tg iter : Expr} {ifs : List Expr} {scope : Scope} {own : List (Str × Nat)} {p pos pos2 : Pos} {mi : MI} {g : TG} {l : List Nat} {tgm : MG} {mt : MT} {me : ME} (hc : X.calm = true) (hN : X.N.Nodup) (hm : X.mg "len" = none) (hgl : Gl X "len") (hi : PI X tg iter (tDI G W mi)) (ok : BlkOk X.N X.env.scope scope own)
    (hg : ∀ (s : Shared) (H : Hp) (C : Addr) (cl : List (Str × Addr)) (fp : List Addr), PG (X.blk s H scope (compEnvC scope cl C X.env) fp) tg g) (htg : TgOk G l g tgm) (hl : ∀ i ∈ l, i ∈ own.map (·.2)) (hx : ∀ i ∈ own.map (·.2), fxOk G.fx i)
    (ht : ∀ (s : Shared) (H : Hp) (C : Addr) (cl : List (Str × Addr)) (fp : List Addr), PTs (X.blk s H scope (compEnvC scope cl C X.env) fp) ifs (tDT G Wno mt))
    (he : ∀ (s : Shared) (H : Hp) (C : Addr) (cl : List (Str × Addr)) (fp : List Addr), PE (X.blk s H scope (compEnvC scope cl C X.env) fp) elt (tD G Wno me)) (hs : ∀ x, foldedSetIterable iter X.env x = pure x := by intro _; rfl)
    (hst : starEach [.SetComp elt [⟨tg, iter, ifs, 0⟩] scope pos2] X.env = (false, eval (.SetComp elt [⟨tg, iter, ifs, 0⟩] scope pos2) X.env) :: starEach [] X.env := by rfl) (hpl : (backTo pos (starEach [] X.env)).any (·.1) = false := by rfl) :
    PE X (.Call (.Name "len" p) [.SetComp elt [⟨tg, iter, ifs, 0⟩] scope pos2] [] pos) (tD G W (mLenS mi tgm (own.map (·.2)) mt me)) :=
  (pe_callB (call_lenK (X := X)) hgl hm bt_len (pa_cons (pe_scK hc hN hi ok hg ht he hs) pa_nil hst) (by decide) (by decide) hst hpl).up fun σ H Q q => post_lenS htg hl hx q
end
end DL

namespace DL
open PySem PySem.Spec L2
section
variable {X : XP} {ρ : Env} {E : En}
def kLS (Q : Opn → Env → Prop) (o : Opn) (ρ : Env) : Prop := match o with
  | .val (.node true .lst acc) => match D.keys? acc with
    | some l => l.length ≤ 4000 ∧ Q (.val (.int (unlikeN l))) ρ
    | none => False
  | _ => False
theorem kLS_eq {Q : Opn → Env → Prop} {acc : List D} {l : List Key} (h : D.keys? acc = some l) : kLS Q (.val (.node true .lst acc)) ρ = (l.length ≤ 4000 ∧ Q (.val (.int (unlikeN l))) ρ) := by
  unfold kLS
  simp only [h]
theorem wE_lenS {mi : MI} {tg : MG} {vs : List Nat} {mt : MT} {me : ME} {Q : Opn → Env → Prop} : wE (mLenS mi tg vs mt me) X Q ρ = wI mi X (kLc tg vs mt me (kLS Q)) ρ := by
  unfold wE wI mLenS kLc
  cases e : mi ρ with
  | ok ds ρ1 =>
    simp only [Rs.bind_ok]
    by_cases h : okOld vs ρ1 = true
    · rw [if_pos h]
      simp only [h, true_and]
      cases e2 : lcL tg vs mt me [] ds ρ1 with
      | ok acc ρ2 =>
        simp only [Rs.ok.injEq]
        refine propext ⟨fun q => ⟨acc, ρ2, ⟨rfl, rfl⟩, ?_⟩, fun ⟨_, _, ⟨e1, e2⟩, q⟩ => ?_⟩
        · cases e3 : D.keys? acc with
          | none => rw [e3] at q; exact (q : False).elim
          | some l =>
            rw [e3] at q
            rw [kLS_eq e3]
            by_cases hl : l.length ≤ 4000
            · simp only [if_pos hl] at q; exact ⟨hl, q⟩
            · simp only [if_neg hl] at q
        · cases e1
          cases e2
          cases e3 : D.keys? acc with
          | none => unfold kLS at q; simp only [e3] at q
          | some l =>
            rw [kLS_eq e3] at q
            simp only [if_pos q.1]
            exact q.2
      | ex c ρ2 => simp
      | bad => simp
    · rw [if_neg h]
      simp [h]
  | _ => rfl
theorem keys_ints : ∀ l : List Int, D.keys? (l.map D.int) = some (l.map Sum.inl)
  | [] => rfl
  | i :: r => by rw [List.map_cons, D.keys?, keys_ints r]; rfl
theorem unlike_nodup : ∀ l : List Int, l.Nodup → unlikeN (l.map Sum.inl) = l.length
  | [], _ => rfl
  | i :: r, h => by
    rw [List.nodup_cons] at h
    rw [List.map_cons, unlikeN, unlike_nodup r h.2, List.length_cons]
    have : memK (Sum.inl i) (r.map Sum.inl) = false := by
      unfold memK
      rw [List.any_map, List.any_eq_false]
      intro x hx
      simp only [Function.comp, decide_eq_true_eq, Sum.inl.injEq]
      rintro rfl
      exact h.1 hx
    rw [this]
    simp
    omega
end
end DL

namespace DL
open PySem PySem.Spec L2
section
variable {X : XP} {ρ : Env} {E : En}
def kR2b (Q : List D → Env → Prop) (o o2 : Opn) (ρ2 : Env) : Prop := match o, o2 with
  | .val (.int i), .val (.int j) => (-(2 ^ 62) ≤ i ∧ i < 2 ^ 62 ∧ -(2 ^ 62) ≤ j ∧ j < 2 ^ 62) ∧ Q ((rngI i (j - i).toNat).map .int) ρ2
  | _, _ => False
theorem kR2_eq {m2 : ME} {Q : List D → Env → Prop} {o : Opn} : kR2 m2 X Q o ρ = wE m2 X (kR2b Q o) ρ := by
  unfold kR2
  congr 1
theorem kR2b_int {Q : List D → Env → Prop} {i j : Int} : kR2b Q (.val (.int i)) (.val (.int j)) ρ = ((-(2 ^ 62) ≤ i ∧ i < 2 ^ 62 ∧ -(2 ^ 62) ≤ j ∧ j < 2 ^ 62) ∧ Q ((rngI i (j - i).toNat).map .int) ρ) := Eq.trans rfl rfl
theorem wI_rng2 {m1 m2 : ME} {Q : List D → Env → Prop} : wI (mRng2 m1 m2) X Q ρ = wE m1 X (kR2 m2 X Q) ρ := by
  unfold wI wE mRng2
  cases e : m1 ρ with
  | ok o ρ1 =>
    simp only [Rs.bind_ok]
    rw [kR2_eq]
    unfold wE
    cases e2 : m2 ρ1 with
    | ok o2 ρ2 =>
      simp only [Rs.bind_ok]
      cases o with
      | slot => rfl
      | val d =>
        cases d with
        | int i =>
          cases o2 with
          | slot => rfl
          | val d2 =>
            cases d2 with
            | int j =>
              rw [kR2b_int]
              simp only [vInt]
              by_cases h : -(2 ^ 62) ≤ i ∧ i < 2 ^ 62 ∧ -(2 ^ 62) ≤ j ∧ j < 2 ^ 62
              · rw [if_pos h]; simp only [h, true_and]
              · rw [if_neg h]; simp only [h, false_and]
            | _ => rfl
        | _ => cases o2 <;> rfl
    | _ => rfl
  | _ => rfl
end
theorem flat_ints (l : List Int) : (l.map D.int).all D.flat = true := by
  rw [List.all_eq_true]
  intro d hd
  obtain ⟨i, _, rfl⟩ := List.mem_map.mp hd
  rfl
theorem inF_ints (i : Int) (l : List Int) : D.inF (.int i) (l.map D.int) = decide (i ∈ l) := by
  unfold D.inF
  rw [List.any_map]
  by_cases h : i ∈ l
  · rw [decide_eq_true h, List.any_eq_true]
    exact ⟨i, h, by simp [D.eqF]⟩
  · rw [decide_eq_false h, List.any_eq_false]
    intro x hx
    simp only [Function.comp, D.eqF, beq_iff_eq]
    rintro rfl
    exact h hx
theorem in_ints {o : Bool} {i : Int} {l : List Int} : gIn [.int i, .node o .lst (l.map .int)] = some (.bl (decide (i ∈ l))) := by
  show (if Kd.seq .lst = true ∧ (D.int i).flat = true ∧ (l.map D.int).all D.flat = true then some (D.bl (D.inF (.int i) (l.map .int))) else none) = _
  rw [if_pos ⟨rfl, rfl, flat_ints l⟩, inF_ints]
theorem nin_ints {o : Bool} {i : Int} {l : List Int} : gNotIn [.int i, .node o .lst (l.map .int)] = some (.bl (!decide (i ∈ l))) := by
  unfold gNotIn
  rw [in_ints]
theorem gLen_s {s : Str} : gLen [.str s] = if s.length ≤ 16777216 then some (.int s.length) else none := Eq.trans rfl rfl
/-! ## the least natural number that is not in a list -/
theorem out_ex : ∀ (n : Nat) (l : List Int), l.length < n → ∃ k, k < n ∧ (k : Int) ∉ l
  | 0, l, h => absurd h (Nat.not_lt_zero _)
  | n + 1, l, h => by
    by_cases hm : (n : Int) ∈ l
    · have he : (l.erase (n : Int)).length < n := by
        rw [List.length_erase_of_mem hm]
        have := List.length_pos_of_mem hm
        omega
      obtain ⟨k, hk, h2⟩ := out_ex n (l.erase (n : Int)) he
      refine ⟨k, by omega, fun q => h2 ?_⟩
      rw [List.mem_erase_of_ne (by omega)]
      exact q
    · exact ⟨n, by omega, hm⟩
def mex (l : List Int) : Nat := ((List.range (l.length + 1)).find? fun (k : Nat) => !decide ((k : Int) ∈ l)).getD 0
theorem mex_spec (l : List Int) : mex l ≤ l.length ∧ (mex l : Int) ∉ l ∧ (∀ j, j < mex l → (j : Int) ∈ l) ∧ (List.range (l.length + 1)).find? (fun (k : Nat) => !decide ((k : Int) ∈ l)) = some (mex l) := by
  obtain ⟨k, hk, hn⟩ := out_ex (l.length + 1) l (Nat.lt_succ_self _)
  unfold mex
  cases e : (List.range (l.length + 1)).find? fun (k : Nat) => !decide ((k : Int) ∈ l) with
  | none =>
    have := List.find?_eq_none.mp e k (List.mem_range.mpr hk)
    simp [hn] at this
  | some m =>
    rw [List.find?_range_eq_some] at e
    obtain ⟨h1, h2, h3⟩ := e
    have h2' := List.mem_range.mp h2
    refine ⟨by simp; omega, by simpa using h1, fun j hj => ?_, rfl⟩
    have := h3 j (by simpa using hj)
    simpa using this
theorem mex_uniq {l : List Int} {m : Nat} (h1 : (m : Int) ∉ l) (h2 : ∀ j, j < m → (j : Int) ∈ l) : mex l = m := by
  obtain ⟨_, a, b, _⟩ := mex_spec l
  by_cases c : mex l < m
  · exact absurd (h2 _ c) a
  · by_cases d : m < mex l
    · exact absurd (b _ d) h1
    · omega
theorem mex_congr {l l' : List Int} (h : ∀ x, x ∈ l ↔ x ∈ l') : mex l = mex l' := by
  obtain ⟨_, a, b, _⟩ := mex_spec l'
  exact mex_uniq (fun q => a ((h _).mp q)) fun j hj => (h _).mpr (b j hj)
end DL

namespace DL
open PySem PySem.Spec L2
/-! ## a, b = e : what is taken apart is frozen -/
def mAsg (tg : MG) (m : ME) : MS := mThen m fun o ρ1 => match argsD ρ1 none 0 [o] with
  | some [d] => match tg d (frzE (fun i => (slotsOf none 0 [o]).contains i) 0 ρ1) with
    | some ρ2 => .nx ρ2
    | none => .bad
  | _ => .bad
section
variable {G : Cfg} {W : WX} {n t np : Nat} {B H B' H' B1 H1 B2 H2 B3 H3 : Hp} {ow ow' ow1 ow2 ow3 : Ow} {σ : L2.St} {ρ ρ' ρ1 ρ2 : Env} {v : V} {X : Cx} {E : Ends}
/-- arguments, frozen -/
theorem args_frz {os : List Opn} {vs : List V} {ds : List D} (S : Sim G B H ow σ ρ) (s1 : Stp ρ.length B H ow B1 H1 ow1) (S1 : Sim G B1 H1 ow1 σ ρ1) (hb : Bd ow t) (hn : ρ.length ≤ t) (r1 : OpnsR G B1 H1 ow1 σ t vs os) (e1 : argsD ρ1 none 0 os = some ds) :
    ∃ B2 ow2, Stp ρ.length B H ow B2 H1 ow2 ∧ Sim G B2 H1 ow2 σ (frzE (fun i => (slotsOf none 0 os).contains i) 0 ρ1) ∧ Bd ow2 t ∧ FzL G B2 vs ds := by
  have hl := S.len2 S1
  generalize hF : (fun r => (slotsOf none 0 os).contains r || from_ t r) = F
  have fhi : ∀ r, t ≤ r → F r = true := fun r h => by rw [← hF]; simp [from_hi h]
  have fsl : ∀ i, i ∈ slotsOf none 0 os → F i = true := fun i h => by rw [← hF]; simp [h]
  have A := args_ren (F := F) (pr := none) S1 (fun _ _ q => nomatch q) r1 e1 fhi fsl fun _ _ _ q => nomatch q
  have fz := ArgsR.fzl (argsD_fz (F := F) S1 r1 e1) A
  have S2 := S1.frz (P := F)
  have eE : frzE F 0 ρ1 = frzE (fun i => (slotsOf none 0 os).contains i) 0 ρ1 := frzE_congr ρ1 0 fun j _ hj => by rw [← hF]; simp [from_lo (show j < t by omega)]
  rw [eE] at S2
  refine ⟨frzB B1 H1 ow1 F, cutO ow1 F, ?_, S2, fun a i p h => ?_, fz⟩
  · refine Stp.frz (t := t) S1 s1 hb fun i h => ?_
    rw [← hF] at h
    simp only [Bool.or_eq_true] at h
    rcases h with h | h
    · left
      have := slots_lt e1 i (by simpa using h)
      omega
    · exact .inr (of_decide_eq_true h)
  · obtain ⟨h1, h2⟩ := cutO_some h
    cases Nat.lt_or_ge i t with
    | inl q => exact q
    | inr q => rw [fhi i q] at h2; cases h2
theorem s_asg {tg e : Expr} {g : TG} {l : List Nat} {tgm : MG} {m : ME} {pos : Pos} (he : PE X e (tD G W m)) (hg : PG X tg g) (htg : TgOk G l g tgm) (hs : swapsWithSole [tg] e pos.line X.env = pure false := by rfl) (hw : swappedStores [tg] e X.env = pure none := by rfl)
    (h1 : (assignEach [tg] X.env).map (·.2) = [assign tg X.env] := by rfl) : PS X (.Assign [tg] e pos) (tDS G W (mAsg tgm m)) := (ps_asg he hg hs hw h1).up fun E σ H q => by
  obtain ⟨B, ow, ρ, S, hb, P⟩ := q
  refine ⟨B, ow, ρ, ρ.length, S, hb, Nat.le_refl _, post_then S P fun o ρ1 v B1 H1 ow1 s1 S1 b1 r1 P => ?_⟩
  have hl := S.len2 S1
  split at P
  · rename_i d e1
    obtain ⟨B2, ow2, s2, S2, b2, fz⟩ := args_frz S s1 S1 hb (Nat.le_refl _) (vs := [v]) (os := [o]) ⟨v, [], rfl, r1, rfl⟩ e1
    obtain ⟨v', _, ev, hz, _⟩ := fz.uncons
    cases ev
    split at P
    · rename_i ρ2 e2
      refine htg v d σ _ ρ2 B2 H1 ow2 _ S2 hz e2 fun σ1 ow3 s3 S3 l3 k3 o3 p3 => ?_
      have hl2 : (frzE (fun i => (slotsOf none 0 [o]).contains i) 0 ρ1).length = ρ.length := by rw [frzE_len, hl]
      rw [hl2] at s3
      exact P σ1 B2 H1 ow3 (s2.trans s3) S3 (by rw [l3, S.len]) fun a i p h => b2 a i p (o3 a i p h)
    · exact P.elim
  · exact P.elim
/-! ## methods whose arguments are frozen -/
theorem FzL.rps : ∀ {ds : List D} {vs : List V}, FzL G B vs ds → Rps G B H ow vs ds
  | [], vs, h => by cases h.2; rfl
  | d :: ds, vs, h => by
    obtain ⟨v, r, rfl, h1, h2⟩ := h.uncons
    exact ⟨v, r, rfl, ⟨0, h1.rp⟩, h2.rps⟩
def mMethA (i : Nat) (g : List D → List D → Option (List D × D)) (ms : MA) : ME := fun ρ => match slotOf ρ i with
  | some (.node true .lst _) => (ms ρ).bind fun os ρ1 => match argsD ρ1 none 0 os with
    | none => .bad
    | some es => match slotOf (frzE (fun i => (slotsOf none 0 os).contains i) 0 ρ1) i with
      | some (.node true .lst ds) => if D.fzs ds = true then (match g ds es with
        | some (ds', d) => .ok (.val d) ((frzE (fun i => (slotsOf none 0 os).contains i) 0 ρ1).set i (some (.node true .lst ds')))
        | none => .bad) else .bad
      | _ => .bad
  | _ => .bad
theorem post_methA {i : Nat} {ms : MA} {g : List D → List D → Option (List D × D)} {r : V → List V → Hp → VK → Prop} {Q : VK} (hr : OpM G r g) (q : tD G W (mMethA i g ms) σ H Q) : tBM G.K "list" r (tVar i) (tDA G W ms) σ H Q := by
  obtain ⟨B, ow, ρ, t, S, hb, hn, P⟩ := q
  unfold mMethA at P
  split at P
  · rename_i ds0 e0
    obtain ⟨v, hv, hr0⟩ := S.slot i _ (slotOf_some e0)
    refine ⟨v, hv, ?_⟩
    obtain ⟨a0, xs0, hv0, _, h0, _, _⟩ := Rp.open0 hr0
    subst hv0
    refine ⟨.inl ⟨rfl, _, SqL.of h0⟩, B, ow, ρ, t, S, hb, hn, ?_⟩
    cases e : ms ρ with
    | bad => rw [e] at P; exact P
    | ex c ρ1 => rw [e] at P; exact P
    | ok os ρ1 =>
      rw [e, Rs.bind_ok] at P
      intro vs B1 H1 ow1 s1 S1 b1 r1
      have hl := S.len2 S1
      cases e1 : argsD ρ1 none 0 os with
      | none => simp only [e1] at P; exact P.elim
      | some es =>
        simp only [e1] at P
        split at P
        · rename_i ds e2
          split at P
          · rename_i hz
            split at P
            · rename_i ds' d e3
              obtain ⟨B3, ow3, s3, S3, bd3, fzl⟩ := args_frz S s1 S1 hb hn r1 e1
              have hl3 : (frzE (fun i => (slotsOf none 0 os).contains i) 0 ρ1).length = ρ.length := by rw [frzE_len, hl]
              obtain ⟨u, hu, hr2⟩ := S3.slot i _ (slotOf_some e2)
              rw [hv] at hu
              cases hu
              obtain ⟨a, xs, hva, h1, h2, h3, h5⟩ := Rp.open0 hr2
              cases hva
              have hi : i < ρ.length := by rw [← hl3]; exact (List.getElem?_eq_some_iff.mp (slotOf_some e2)).1
              have hit : i ≠ t := by omega
              refine hr B3 H1 ow3 a0 xs ds vs es ds' d Q ⟨S3.same, S3.lab⟩ h2 (kidsFz h3 hz) fzl.rps e3 fun xs' w hxs hw => ?_
              refine P w B3 _ (mvO ow3 t i ([] ++ [0]) false) ((s3.q (u := t)).trans (Stp.chg (by omega) (bd3.up (by omega)) h2 h1) |>.p hb) (S3.chg (by omega) h1 e2 fun v' hv' rr => ?_) (fun b j p hh => ?_) hw.rp
              · rw [hv] at hv'
                cases hv'
                exact h5 (.lst xs') _ .lst xs' ds' (fun b l hb' => mvO_else hb' hit (by simp)) upd_same hxs.kids
              · rcases mvO_some hh with ⟨p', e, rfl, _⟩ | ⟨e, h1, _⟩
                · omega
                · have := bd3 b j p e; omega
            · exact P.elim
          · exact P.elim
        · exact P.elim
  · exact P.elim
theorem d_methA {x e : Expr} {es : List Expr} {i : Nat} {ms : MA} {g : List D → List D → Option (List D × D)} {r : V → List V → Hp → VK → Prop} (hK : G.K = X.K) (hr : OpM G r g) (hx : PE X x (tVar i)) (ha : PA X es (tDA G W ms))
    (h : ∀ to ta, PE X x to → PA X es ta → PE X e (tBM X.K "list" r to ta)) : PE X e (tD G W (mMethA i g ms)) := (h _ _ hx ha).up fun σ H Q q => by
  rw [← hK]
  exact post_methA hr q
/-! ### insert -/
def rInsert : V → List V → Hp → VK → Prop := fun x vs H Q => ∃ (l : Addr) (xs : List V) (i : Int) (y : V), x = .ref l ∧ vs = [.int i, y] ∧ H l = some (.lst xs) ∧ xs.length < sizeLine ∧ 0 ≤ i ∧ i < 2 ^ 63 ∧
    Q .non (upd H l (.lst (xs.take i.toNat ++ [y] ++ xs.drop i.toNat)))
theorem mt_insertA : MtR X "list.insert" rInsert := mt_insert
theorem mt_extendA : MtR X "list.extend" rExtend := mt_extend
def gInsert : List D → List D → Option (List D × D) := fun ds es => match es with
  | [.int i, d] => if d.fz = true ∧ 0 ≤ i ∧ i < 1000000 ∧ ds.length < 1000000 then some (ds.take i.toNat ++ [d] ++ ds.drop i.toNat, .non) else none
  | _ => none
theorem FzL.drop' : ∀ {ds : List D} {vs : List V} (k : Nat), FzL G B vs ds → FzL G B (vs.drop k) (ds.drop k)
  | ds, vs, 0, h => h
  | [], vs, k + 1, h => by cases h.2; exact .nil
  | d :: ds, vs, k + 1, h => by
    obtain ⟨v, r, rfl, h1, h2⟩ := h.uncons
    exact FzL.drop' k h2
theorem ok_insert : OpM G rInsert gInsert := by
  intro B H ow l xs ds vs es ds' d Q S hl fz R e K
  unfold gInsert at e
  split at e
  · rename_i i y
    obtain ⟨v, w, u, z, rfl, h1, h2⟩ := R.two
    cases h1
    split at e
    · rename_i c
      cases e
      have hy := h2.fz c.1
      have hsz : xs.length < sizeLine := by
        rw [sizeLine_eq]
        have := c.2.2.2
        have := fz.length
        omega
      exact ⟨l, xs, i, _, rfl, rfl, hl, hsz, c.2.1, by omega, K _ _ (((fz.take _).append (.cons hy .nil)).append (fz.drop' _)) (Fz.sv rfl)⟩
    · cases e
  · cases e
/-! ## x in xs, of any data -/
def rInT (K : PySem.W.Frag) (neg : Bool) : R2 := fun x y H Q => ∃ d ds, Dp K H x d ∧ Dp K H y (.tuple ds) ∧ SeqAt.shaped d = true ∧ SeqAt.shaped (.tuple ds) = true ∧ Q (.bl (if neg = true then !(ds.any fun z => PyData.eqv z d) else ds.any fun z => PyData.eqv z d)) H
theorem op_inT {X : Cx} (hu : X.A.units + 65 < cLine) : OpR X (compareOp .In) (rInT X.K false) := by
  intro pins s σ H x y v u Q I rx ry h
  obtain ⟨d, ds, hd, he, sd, se, q⟩ := h
  obtain ⟨as, r1⟩ := Dp.reads I d x v hd rx
  obtain ⟨bs, r2⟩ := Dp.reads I (.tuple ds) y u he ry
  exact SeqAt.in_tuple_reads r2 r1 (SeqAt.canLay_of_shaped se) (SeqAt.canLay_of_shaped sd) (PyProof.Rows.room_in_shaped sd hu) ⟨.bl _, H, I, rfl, q⟩
theorem op_notInT {X : Cx} (hu : X.A.units + 65 < cLine) : OpR X (compareOp .NotIn) (rInT X.K true) := by
  intro pins s σ H x y v u Q I rx ry h
  obtain ⟨d, ds, hd, he, sd, se, q⟩ := h
  obtain ⟨as, r1⟩ := Dp.reads I d x v hd rx
  obtain ⟨bs, r2⟩ := Dp.reads I (.tuple ds) y u he ry
  exact SeqAt.notIn_tuple_reads r2 r1 (SeqAt.canLay_of_shaped se) (SeqAt.canLay_of_shaped sd) (PyProof.Rows.room_in_shaped sd hu) ⟨.bl _, H, I, rfl, q⟩
def inD (x : D) (mk : List PyData → PyData) (ds : List D) : Option Bool := match x.py, D.pys ds with
  | some d, some es => if SeqAt.shaped d = true ∧ SeqAt.shaped (mk es) = true then some (es.any fun z => PyData.eqv z d) else none
  | _, _ => none
def gInX (l : List D) : Option D := match gIn l with
  | some d => some d
  | none => match l with
    | [x, .node _ .lst ds] => (inD x .list ds).map .bl
    | [x, .node _ .tup ds] => (inD x .tuple ds).map .bl
    | _ => none
def gNotInX (l : List D) : Option D := match gInX l with
  | some (.bl b) => some (.bl !b)
  | _ => none
theorem inD_some {x : D} {mk : List PyData → PyData} {ds : List D} {b : Bool} (h : inD x mk ds = some b) : ∃ d es, x.py = some d ∧ D.pys ds = some es ∧ SeqAt.shaped d = true ∧ SeqAt.shaped (mk es) = true ∧ b = es.any fun z => PyData.eqv z d := by
  unfold inD at h
  cases e1 : x.py with
  | none => rw [e1] at h; cases h
  | some d =>
    cases e2 : D.pys ds with
    | none => rw [e1, e2] at h; cases h
    | some es =>
      simp only [e1, e2] at h
      split at h
      · rename_i c
        cases h
        exact ⟨d, es, rfl, rfl, c.1, c.2, rfl⟩
      · cases h
abbrev rInY (K : PySem.W.Frag) : R2 := fun x y H Q => rInA K x y H Q ∨ (rInD K x y H Q ∨ rInT K false x y H Q)
abbrev rNotInY (K : PySem.W.Frag) : R2 := fun x y H Q => rNotInA K x y H Q ∨ (rNotInD K x y H Q ∨ rInT K true x y H Q)
theorem op_inY {X : Cx} (hu : X.A.units + 65 < cLine) : OpR X (compareOp .In) (rInY X.K) := op_inA.or ((op_inD hu).or (op_inT hu))
theorem op_notInY {X : Cx} (hu : X.A.units + 65 < cLine) : OpR X (compareOp .NotIn) (rNotInY X.K) := op_notInA.or ((op_notInD hu).or (op_notInT hu))
theorem inX_deep {vs : List V} {ds : List D} {d : D} (S : Two G B H ow) (R : Rps G B H ow vs ds) (e0 : gIn ds = none) (e : gInX ds = some d) :
    ∃ x y b p es, vs = [x, y] ∧ d = .bl b ∧ Dp G.K H x p ∧ SeqAt.shaped p = true ∧ (b = es.any fun z => PyData.eqv z p) ∧ ((Dp G.K H y (.list es) ∧ SeqAt.shaped (.list es) = true) ∨ (Dp G.K H y (.tuple es) ∧ SeqAt.shaped (.tuple es) = true)) := by
  unfold gInX at e
  simp only [e0] at e
  split at e
  · rename_i x o ds
    obtain ⟨v, w, u, z, rfl, h1, h2⟩ := R.two
    cases e2 : inD x .list ds with
    | none => rw [e2] at e; cases e
    | some b =>
      rw [e2] at e
      cases e
      obtain ⟨p, es, q1, q2, q3, q4, q5⟩ := inD_some e2
      have hy : (D.node o .lst ds).py = some (.list es) := by simp [D.py, q2]
      exact ⟨v, w, b, p, es, rfl, rfl, D.py_dp x (h1.rr S.same) q1, q3, q5, .inl ⟨D.py_dp _ (h2.rr S.same) hy, q4⟩⟩
  · rename_i x o ds
    obtain ⟨v, w, u, z, rfl, h1, h2⟩ := R.two
    cases e2 : inD x .tuple ds with
    | none => rw [e2] at e; cases e
    | some b =>
      rw [e2] at e
      cases e
      obtain ⟨p, es, q1, q2, q3, q4, q5⟩ := inD_some e2
      have hy : (D.node o .tup ds).py = some (.tuple es) := by simp [D.py, q2]
      exact ⟨v, w, b, p, es, rfl, rfl, D.py_dp x (h1.rr S.same) q1, q3, q5, .inr ⟨D.py_dp _ (h2.rr S.same) hy, q4⟩⟩
  · cases e
theorem ok_inY : OpOk G (r2L (rInY G.K)) gInX := by
  intro B H ow vs ds d Q S R e K
  cases e0 : gIn ds with
  | some d' =>
    unfold gInX at e
    simp only [e0] at e
    cases e
    obtain ⟨x, y, h1, h2⟩ := ok_in B H ow vs ds _ Q S R e0 K
    exact ⟨x, y, h1, .inl h2⟩
  | none =>
    obtain ⟨x, y, b, p, es, rfl, rfl, h1, h2, rfl, h3⟩ := inX_deep S R e0 e
    have q := K.old _ (Fz.sv rfl)
    refine ⟨x, y, rfl, .inr ?_⟩
    rcases h3 with ⟨h3, h4⟩ | ⟨h3, h4⟩
    · exact .inl ⟨p, es, h1, h3, h2, h4, q⟩
    · exact .inr ⟨p, es, h1, h3, h2, h4, q⟩
theorem ok_notInY : OpOk G (r2L (rNotInY G.K)) gNotInX := by
  intro B H ow vs ds d Q S R e K
  cases e0 : gIn ds with
  | some d' =>
    have e1 : gNotIn ds = some d := by
      unfold gNotInX gInX at e
      unfold gNotIn
      simp only [e0] at e ⊢
      exact e
    obtain ⟨x, y, h1, h2⟩ := ok_notIn B H ow vs ds d Q S R e1 K
    exact ⟨x, y, h1, .inl h2⟩
  | none =>
    cases e1 : gInX ds with
    | none => unfold gNotInX at e; rw [e1] at e; cases e
    | some d' =>
      obtain ⟨x, y, b, p, es, rfl, rfl, h1, h2, rfl, h3⟩ := inX_deep S R e0 e1
      unfold gNotInX at e
      rw [e1] at e
      cases e
      have q := K.old _ (Fz.sv rfl)
      refine ⟨x, y, rfl, .inr ?_⟩
      rcases h3 with ⟨h3, h4⟩ | ⟨h3, h4⟩
      · exact .inl ⟨p, es, h1, h3, h2, h4, q⟩
      · exact .inr ⟨p, es, h1, h3, h2, h4, q⟩
end
end DL

namespace DL
open PySem PySem.Spec L2
section
variable {X : XP} {ρ : Env} {E : En}
/-! ### a, b = e -/
def kAg2 (E : En) (o : Option Env) : Prop := match o with
  | some ρ2 => E.nx ρ2
  | none => False
def kAg1 (tg : MG) (E : En) (ρ : Env) (a : Option (List D)) : Prop := match a with
  | some [d] => kAg2 E (tg d ρ)
  | _ => False
def kAg (tg : MG) (E : En) (o : Opn) (ρ : Env) : Prop := kAg1 tg E (frzS (slotsOf none 0 [o]) ρ) (argsD ρ none 0 [o])
theorem kAg_eq {tg : MG} {o : Opn} : kAg tg E o ρ = kAg1 tg E (frzS (slotsOf none 0 [o]) ρ) (argsD ρ none 0 [o]) := Eq.trans rfl rfl
theorem kAg1_some {tg : MG} {d : D} : kAg1 tg E ρ (some [d]) = kAg2 E (tg d ρ) := Eq.trans rfl rfl
theorem kAg2_some : kAg2 E (some ρ) = E.nx ρ := Eq.trans rfl rfl
theorem wS_asg {tg : MG} {m : ME} : wS (mAsg tg m) E ρ = wE m E.ex (kAg tg E) ρ := by
  unfold wS wE mAsg mThen
  cases e : m ρ with
  | ok o ρ1 =>
    simp only [kAg]
    have hf : frzS (slotsOf none 0 [o]) ρ1 = frzE (fun i => (slotsOf none 0 [o]).contains i) 0 ρ1 := rfl
    rw [hf]
    cases e1 : argsD ρ1 none 0 [o] with
    | none => rfl
    | some l =>
      cases l with
      | nil => rfl
      | cons d r =>
        cases r with
        | nil =>
          simp only [kAg1]
          cases e2 : tg d (frzE (fun i => (slotsOf none 0 [o]).contains i) 0 ρ1) <;> rfl
        | cons => rfl
  | _ => rfl
def tgK (u : List D → Env → Option Env) (r : List D) (o : Option Env) : Option Env := match o with
  | none => none
  | some ρ1 => u r ρ1
theorem tgK_some {u : List D → Env → Option Env} {r : List D} : tgK u r (some ρ) = u r ρ := Eq.trans rfl rfl
theorem tgsCons_c {t : MG} {u : List D → Env → Option Env} {d : D} {r : List D} : tgsCons t u (d :: r) ρ = tgK u r (t d ρ) := by
  unfold tgsCons tgK
  cases e : t d ρ <;> simp only [e]
theorem tgsNil_n : tgsNil [] ρ = some ρ := Eq.trans rfl rfl
theorem tgTup_t {n : Nat} {u : List D → Env → Option Env} {o : Bool} {ds : List D} : tgTup n u (.node o .tup ds) ρ = if ds.length = n then u ds ρ else none := Eq.trans rfl rfl
theorem tgName_0 {d x : D} {o : Option D} : tgName 0 d (o :: ρ) = some (some d :: ρ) := Eq.trans rfl rfl
theorem tgName_e {i : Nat} {d : D} : tgName i d ρ = if i < ρ.length then some (ρ.set i (some d)) else none := Eq.trans rfl rfl
/-! ### methods, arguments frozen -/
def kMethA (i : Nat) (g : List D → List D → Option (List D × D)) (Q : Opn → Env → Prop) (os : List Opn) (ρ : Env) : Prop := kMe i g Q (frzS (slotsOf none 0 os) ρ) (argsD ρ none 0 os) (slotOf (frzS (slotsOf none 0 os) ρ) i)
theorem kMethA_eq {i : Nat} {g : List D → List D → Option (List D × D)} {Q : Opn → Env → Prop} {os : List Opn} : kMethA i g Q os ρ = kMe i g Q (frzS (slotsOf none 0 os) ρ) (argsD ρ none 0 os) (slotOf (frzS (slotsOf none 0 os) ρ) i) := Eq.trans rfl rfl
theorem wE_methA {i : Nat} {g : List D → List D → Option (List D × D)} {ms : MA} {Q : Opn → Env → Prop} : wE (mMethA i g ms) X Q ρ = (isLst (slotOf ρ i) = true ∧ wA ms X (kMethA i g Q) ρ) := by
  unfold wE wA mMethA kMethA
  cases e0 : slotOf ρ i with
  | none => simp [isLst]
  | some d0 =>
    cases d0 with
    | node o k ds0 =>
      cases o with
      | false => simp [isLst]
      | true =>
        cases k with
        | lst =>
          simp only [isLst, true_and]
          cases e : ms ρ with
          | ok os ρ1 =>
            simp only [Rs.bind_ok]
            have hf : frzS (slotsOf none 0 os) ρ1 = frzE (fun i => (slotsOf none 0 os).contains i) 0 ρ1 := rfl
            rw [hf]
            cases e1 : argsD ρ1 none 0 os with
            | none => rfl
            | some es =>
              simp only
              cases e2 : slotOf (frzE (fun i => (slotsOf none 0 os).contains i) 0 ρ1) i with
              | none => rfl
              | some d =>
                cases d with
                | node o k ds =>
                  cases o with
                  | false => rfl
                  | true =>
                    cases k with
                    | lst =>
                      simp only [kMe]
                      by_cases c : D.fzs ds = true
                      · rw [if_pos c]
                        simp only [c, true_and]
                        cases e3 : g ds es <;> rfl
                      · rw [if_neg c]
                        simp [c]
                    | _ => rfl
                | _ => rfl
          | _ => rfl
        | _ => simp [isLst]
    | _ => simp [isLst]
theorem gInX_of {l : List D} {d : D} (h : gIn l = some d) : gInX l = some d := by
  unfold gInX
  rw [h]
theorem gNotInX_of {l : List D} {b : Bool} (h : gInX l = some (.bl b)) : gNotInX l = some (.bl !b) := by
  unfold gNotInX
  rw [h]
/-- whether some item is the same data -/
def anyE (x : D) (ds : List D) : Bool := ds.any fun y => match D.eq y x with
  | some b => b
  | none => false
end
end DL

namespace DL
open PySem PySem.Spec L2
section
variable {X : XP} {ρ : Env} {E : En}
def kPar2 (i j : Nat) (E : En) (ρ : Env) (a : Option (List D)) : Prop := match a with
  | some [d, e] => E.nx ((ρ.set i (some d)).set j (some e))
  | _ => False
def kPar (i j : Nat) (E : En) (os : List Opn) (ρ : Env) : Prop := kPar2 i j E (frzS (slotsOf none 0 os) ρ) (argsD ρ none 0 os)
theorem kPar_eq {i j : Nat} {os : List Opn} : kPar i j E os ρ = kPar2 i j E (frzS (slotsOf none 0 os) ρ) (argsD ρ none 0 os) := Eq.trans rfl rfl
theorem kPar2_some {i j : Nat} {d e : D} : kPar2 i j E ρ (some [d, e]) = E.nx ((ρ.set i (some d)).set j (some e)) := Eq.trans rfl rfl
theorem wS_par {i j : Nat} {ms : MA} : wS (mPar i j ms) E ρ = wA ms E.ex (kPar i j E) ρ := by
  unfold wS wA mPar
  cases e : ms ρ with
  | ok os ρ1 =>
    simp only [kPar]
    have hf : frzS (slotsOf none 0 os) ρ1 = frzE (fun i => (slotsOf none 0 os).contains i) 0 ρ1 := rfl
    rw [hf]
    cases e1 : argsD ρ1 none 0 os with
    | none => rfl
    | some l =>
      cases l with
      | nil => rfl
      | cons d r =>
        cases r with
        | nil => rfl
        | cons d2 r2 => cases r2 <;> rfl
  | _ => rfl
end
end DL

namespace DL
open PySem PySem.Spec L2
/-! ## results of mirrors, found by the kernel -/
mutual
def D.eqb : D → D → Bool
  | .non, .non => true
  | .bl a, .bl b => a == b
  | .int a, .int b => decide (a = b)
  | .str a, .str b => decide (a = b)
  | .exn a, .exn b => decide (a = b)
  | .node o k ds, .node p l es => (o == p) && decide (k = l) && D.eqbs ds es
  | _, _ => false
def D.eqbs : List D → List D → Bool
  | [], [] => true
  | d :: ds, e :: es => D.eqb d e && D.eqbs ds es
  | _, _ => false
end
mutual
theorem D.eqb_eq : ∀ d e : D, D.eqb d e = true → d = e
  | .non, e, h => by
    cases e with
    | non => rfl
    | _ => simp [D.eqb] at h
  | .bl a, e, h => by
    cases e with
    | bl b => rw [D.eqb] at h; rw [eq_of_beq h]
    | _ => simp [D.eqb] at h
  | .int a, e, h => by
    cases e with
    | int b => rw [D.eqb] at h; rw [of_decide_eq_true h]
    | _ => simp [D.eqb] at h
  | .str a, e, h => by
    cases e with
    | str b => rw [D.eqb] at h; rw [of_decide_eq_true h]
    | _ => simp [D.eqb] at h
  | .exn a, e, h => by
    cases e with
    | exn b => rw [D.eqb] at h; rw [of_decide_eq_true h]
    | _ => simp [D.eqb] at h
  | .node o k ds, e, h => by
    cases e with
    | node p l es =>
      rw [D.eqb, Bool.and_eq_true, Bool.and_eq_true] at h
      rw [eq_of_beq h.1.1, of_decide_eq_true h.1.2, D.eqbs_eq ds es h.2]
    | _ => simp [D.eqb] at h
theorem D.eqbs_eq : ∀ ds es : List D, D.eqbs ds es = true → ds = es
  | [], es, h => by
    cases es with
    | nil => rfl
    | cons e es => simp [D.eqbs] at h
  | d :: ds, es, h => by
    cases es with
    | nil => simp [D.eqbs] at h
    | cons e es =>
      rw [D.eqbs, Bool.and_eq_true] at h
      rw [D.eqb_eq d e h.1, D.eqbs_eq ds es h.2]
end
def RF.okb (r : RF) (d : D) (ds : List D) : Bool := match r with
  | .ok e es => D.eqb e d && D.eqbs es ds
  | _ => false
theorem RF.okb_eq {r : RF} {d : D} {ds : List D} (h : r.okb d ds = true) : r = .ok d ds := by
  cases r with
  | ok e es =>
    unfold RF.okb at h
    rw [Bool.and_eq_true] at h
    rw [D.eqb_eq _ _ h.1, D.eqbs_eq _ _ h.2]
  | ex => cases h
  | bad => cases h
def RF.exb (r : RF) (c : Str) (ds : List D) : Bool := match r with
  | .ex e es => decide (e = c) && D.eqbs es ds
  | _ => false
theorem RF.exb_eq {r : RF} {c : Str} {ds : List D} (h : r.exb c ds = true) : r = .ex c ds := by
  cases r with
  | ex e es =>
    unfold RF.exb at h
    rw [Bool.and_eq_true] at h
    rw [of_decide_eq_true h.1, D.eqbs_eq _ _ h.2]
  | ok => cases h
  | bad => cases h
theorem all_rng {n : Nat} {f : Nat → Bool} (h : (List.range n).all f = true) {i : Nat} (hi : i < n) : f i = true := List.all_eq_true.mp h i (List.mem_range.mpr hi)

theorem Room.units65 {k : Nat} {A : Around} (r : Room k A) : A.units + 65 < PySem.cLine := by
  have := r.un
  omega
/-! ## [.. for x in xs ..], xs a list in a slot of its own that stays as it is -/
def keepB (i : Nat) (ds0 : List D) (ρ : Env) : Bool := match slotOf ρ i with
  | some (.node true .lst ds) => D.eqbs ds ds0
  | _ => false
theorem keepB_slot {i : Nat} {ds0 : List D} {ρ : Env} (h : keepB i ds0 ρ = true) : slotOf ρ i = some (.node true .lst ds0) := by
  unfold keepB at h
  split at h
  · rename_i ds e
    rw [e, D.eqbs_eq _ _ h]
  · cases h
def lcV (i : Nat) (ds0 : List D) (tg : MG) (vs : List Nat) (mt : MT) (me : ME) : List D → List D → Env → Rs (List D)
  | acc, [], ρ => if keepB i ds0 ρ = true then .ok acc ρ else .bad
  | acc, d :: ds, ρ => if keepB i ds0 ρ = true then (match tg d (wipeE ρ vs) with
    | none => .bad
    | some ρ1 => match mt ρ1 with
      | .ok b ρ2 => if b = true then (match me ρ2 with
        | .ok o ρ3 => match esc o ρ3 with
          | some (y, ρ4) => if acc.length < 16777216 then lcV i ds0 tg vs mt me (acc ++ [y]) ds ρ4 else .bad
          | none => .bad
        | _ => .bad) else lcV i ds0 tg vs mt me acc ds ρ2
      | _ => .bad) else .bad
def mLcV (i : Nat) (tg : MG) (vs : List Nat) (mt : MT) (me : ME) : ME := fun ρ => match slotOf ρ i with
  | some (.node true .lst ds) => if D.fzs ds = true ∧ vs.contains i = false ∧ okOld vs ρ = true then (match lcV i ds tg vs mt me [] ds ρ with
    | .ok acc ρ2 => .ok (.val (.node true .lst acc)) (restE vs 0 ρ ρ2)
    | _ => .bad) else .bad
  | _ => .bad
section
variable {G : Cfg} {W : WX} {n t np : Nat} {B H B' H' B1 H1 B2 H2 B3 H3 : Hp} {ow ow' ow1 ow2 ow3 : Ow} {σ : L2.St} {ρ ρ' ρ1 ρ2 : Env} {v : V} {X : Cx} {E : Ends}
/-- what such a slot holds -/
theorem slot_list {i : Nat} {ds : List D} (S : Sim G B H ow σ ρ) (e : slotOf ρ i = some (.node true .lst ds)) (hz : D.fzs ds = true) : ∃ a xs, σ[i]? = some (some (.ref a)) ∧ H a = some (.lst xs) ∧ FzL G B xs ds := by
  obtain ⟨v, hv, hr⟩ := S.slot i _ (slotOf_some e)
  obtain ⟨a, xs, rfl, h1, h2, h3, _⟩ := Rp.open0 hr
  exact ⟨a, xs, hv, h2, kidsFz h3 hz⟩
theorem post_lcV {i : Nat} {g : TG} {tg : MG} {l vs : List Nat} {mt : MT} {me : ME} {Q : VK} (htg : TgOk G l g tg) (hl : ∀ i ∈ l, i ∈ vs) (hx : ∀ i ∈ vs, fxOk G.fx i) (q : tD G W (mLcV i tg vs mt me) σ H Q) :
    tLc (iAny G.K (tVar i)) g (tDT G Wno mt) (tD G Wno me) vs σ H Q := by
  obtain ⟨B, ow, ρ, t, S, hb, hn, P⟩ := q
  unfold mLcV at P
  split at P
  · rename_i ds e0
    by_cases c : D.fzs ds = true ∧ vs.contains i = false ∧ okOld vs ρ = true
    case neg => rw [if_neg c] at P; exact P.elim
    rw [if_pos c] at P
    obtain ⟨hz, hiv', ho⟩ := c
    have hni : i ∉ vs := by simpa using hiv'
    obtain ⟨a, xs, hv, ha, fz⟩ := slot_list S e0 hz
    refine ⟨.ref a, hv, .inl ⟨a, xs, rfl, SqL.of ha, fun L hL => ?_⟩⟩
    cases eF : lcV i ds tg vs mt me [] ds ρ with
    | bad => rw [eF] at P; exact P.elim
    | ex c ρF => rw [eF] at P; exact P.elim
    | ok accF ρF =>
      simp only [eF] at P
      refine ⟨fun k m H' => m = ds.length - k ∧ k ≤ ds.length ∧ ∃ B' ow' ρ' acc va, Stq ρ.length t B H ow B' H' ow' ∧ Sim G B' H' ow' (L2.wipe σ vs) (wipeE ρ' vs) ∧ ρ'.length = ρ.length ∧ Bd ow' (t + 1) ∧ ow' L = some (t, []) ∧ H' L = some (.lst va) ∧
        RgL (RpN G B' H' ow' t) [] 0 va acc ∧ lcV i ds tg vs mt me acc (ds.drop k) ρ' = .ok accF ρF, ⟨_, rfl, Nat.zero_le _, B, putO ow L (t, []), ρ, [], [], (Stp.newv S hL).q, (S.newv hL).wipe hx, rfl, fun b j p h => ?_, putO_same, upd_same, rfl, eF⟩, ?_⟩
      · by_cases z : b = L
        · subst z; rw [putO_same] at h; cases h; omega
        · rw [putO_ne z] at h; have := hb b j p h; omega
      rintro k m H' ⟨em, hk, B', ow', ρ', acc, va, sq, S', l', b', oL, hL', kids, eq⟩
      have hwl : (wipeE ρ' vs).length = ρ.length := by rw [wipeE_length, l']
      have hkeep : keepB i ds ρ' = true := by
        by_cases q : keepB i ds ρ' = true
        · exact q
        · cases ed : ds.drop k with
          | nil => rw [ed, lcV, if_neg q] at eq; cases eq
          | cons d r => rw [ed, lcV, if_neg q] at eq; cases eq
      have es : slotOf (wipeE ρ' vs) i = some (.node true .lst ds) := by
        have := keepB_slot hkeep
        unfold slotOf at this ⊢
        rw [wipeE_get hni]
        exact this
      obtain ⟨a', xs', hv', ha', fz'⟩ := slot_list S' es hz
      rw [wipe_get hni, hv] at hv'
      cases hv'
      cases ed : ds.drop k with
      | nil =>
        left
        have hi2 : ds.length ≤ k := by
          have := congrArg List.length ed
          rw [List.length_drop, List.length_nil] at this
          omega
        refine ⟨⟨xs', SqL.of ha', by rw [fz'.length]; exact hi2⟩, ?_⟩
        rw [ed, lcV, if_pos hkeep] at eq
        cases eq
        refine P (.ref L) B' H' ow' (sq.p hb) ⟨S'.same, S'.lab, ?_, fun j d e2 => ?_, S.fix⟩ b' ?_
        · rw [restE_length l']; exact S.len
        · rcases restE_get e2 with ⟨c, e3⟩ | ⟨c, e3⟩
          · rw [Nat.zero_add] at c
            have hz : d.fz = true := by
              unfold okOld at ho
              rw [List.all_eq_true] at ho
              have := ho j (by simpa using c)
              rw [e3] at this
              exact this
            obtain ⟨w, hw, hr⟩ := S.slot j d e3
            exact ⟨w, hw, ((hr.fz hz).same sq.sb).rp⟩
          · rw [Nat.zero_add] at c
            have hj : j ∉ vs := by simpa using c
            obtain ⟨w, hw, hr⟩ := S'.slot j d (by rw [wipeE_get hj]; exact e3)
            rw [wipe_get hj] at hw
            exact ⟨w, hw, hr⟩
        · show Rg _ _ _ _
          rw [Rg]
          refine ⟨L, va, rfl, ?_, kids⟩
          unfold RpN
          rw [if_pos rfl]
          exact ⟨oL, hL'⟩
      | cons d r =>
        right
        obtain ⟨v, hv2, zv, hiv, er⟩ := fz'.drop1 ed
        rw [ed, lcV, if_pos hkeep] at eq
        have hlen := fz'.length
        refine ⟨⟨xs', v, SqL.of ha', hv2⟩, fun H2 => ∃ B2 ow2 ρ2 acc2 va2, Stq ρ.length t B H ow B2 H2 ow2 ∧ Sim G B2 H2 ow2 (L2.wipe σ vs) (wipeE ρ2 vs) ∧ ρ2.length = ρ.length ∧ Bd ow2 (t + 1) ∧ ow2 L = some (t, []) ∧ H2 L = some (.lst va2) ∧
          RgL (RpN G B2 H2 ow2 t) [] 0 va2 acc2 ∧ lcV i ds tg vs mt me acc2 r ρ2 = .ok accF ρF, fun H2 h => ⟨ds.length - (k + 1), by omega, rfl, by omega, by rw [er]; exact h⟩, fun x H2 hy => ?_⟩
        obtain ⟨rfl, hx2⟩ := hy
        have hx3 := hx2 xs' (SqL.of ha')
        rw [hv2] at hx3
        cases hx3
        cases e3 : tg d (wipeE ρ' vs) with
        | none => simp only [e3] at eq; cases eq
        | some ρ2 =>
          simp only [e3] at eq
          refine htg v d _ _ ρ2 B' H2 ow' _ S' zv e3 fun σ3 ow3 s3 S3 l3 k3 o3 p3 => ?_
          rw [hwl] at s3
          have hl3 : ρ2.length = ρ.length := by rw [← S3.len, l3, S'.len, hwl]
          have wσ : L2.wipe σ3 vs = L2.wipe σ vs := by
            have h1 : L2.wipe σ3 vs = L2.wipe (L2.wipe σ vs) vs := wipe_eq l3 fun i hi => k3 i fun h => hi (hl i h)
            rw [h1]
            exact wipe_eq (wipe_length _ _) fun i hi => wipe_get hi
          refine ⟨wσ, B', ow3, ρ2, t + 1, S3, fun a i p h => b' a i p (o3 a i p h), by omega, ?_⟩
          rw [hl3]
          cases e4 : mt ρ2 with
          | bad => rw [e4] at eq; cases eq
          | ex c ρ4 => rw [e4] at eq; cases eq
          | ok b ρ4 =>
            simp only [e4] at eq
            intro B4 H4 ow4 s4 S4 b4
            have hl4 : ρ4.length = ρ.length := by rw [← S4.len, l3, S'.len, hwl]
            have s34 := s3.trans s4
            cases b with
            | false =>
              rw [if_neg Bool.false_ne_true] at eq ⊢
              obtain ⟨k1, k2⟩ := s34.keepP L t [] oL hn
              exact ⟨B4, ow4, ρ4, acc, va, sq.trans s34.q, by rw [← wσ]; exact S4.wipe hx, hl4, b4, k1, k2.trans hL', s34.rpl hn kids, eq⟩
            | true =>
              rw [if_pos rfl] at eq ⊢
              refine ⟨B4, ow4, ρ4, t + 1, S4, b4, by omega, ?_⟩
              rw [hl4]
              cases e5 : me ρ4 with
              | bad => rw [e5] at eq; cases eq
              | ex c ρ5 => rw [e5] at eq; cases eq
              | ok o ρ5 =>
                simp only [e5] at eq
                intro y B5 H5 ow5 s5 S5 b5 r5
                have hl5 : ρ5.length = ρ.length := by rw [← S5.len, l3, S'.len, hwl]
                cases e6 : esc o ρ5 with
                | none => simp only [e6] at eq; cases eq
                | some w =>
                  obtain ⟨dy, ρ6⟩ := w
                  simp only [e6] at eq
                  obtain ⟨B6, ow6, s6, S6, b6, r6⟩ := esc_ok S5 b5 r5 e6
                  rw [hl5] at s6
                  have hl6 := S5.len2 S6
                  have s36 := (s34.trans s5).trans s6
                  obtain ⟨k1, k2⟩ := s36.keepP L t [] oL hn
                  split at eq
                  · rename_i hc
                    refine ⟨va, k2.trans hL', by rw [kids.length]; exact line_lt hc, B6, mvO ow6 (t + 1) t [acc.length] false, ρ6, acc ++ [dy], va ++ [y], (sq.trans s36.q).trans (Stq.more (k2.trans hL') k1), ?_, by omega, fun a i p h => ?_, ?_, upd_same, ?_, eq⟩
                    · rw [← wσ]
                      exact (S6.more (q := [acc.length]) (by omega) k1).wipe hx
                    · rcases mvO_some h with ⟨p', e, rfl, _⟩ | ⟨e, h1, _⟩
                      · omega
                      · have := b6 a i p e; omega
                    · exact mvO_else k1 (by omega) (by simp)
                    · refine RgL.append (kids_more k1 (s36.rpl hn kids)) ?_
                      rw [Nat.zero_add, RgL]
                      exact ⟨y, [], rfl, item_more k1 r6, rfl⟩
                  · cases eq
  · exact P.elim
theorem d_lcV {i : Nat} {elt tg iter : Expr} {ifs : List Expr} {scope : Scope} {own : List (Str × Nat)} {pos : Pos} {g : TG} {l : List Nat} {tgm : MG} {mt : MT} {me : ME} (hK : G.K = X.K) (hc : X.calm = true) (hN : X.N.Nodup) (hi : PE X iter (tVar i)) (ok : BlkOk X.N X.env.scope scope own)
    (hg : ∀ (s : Shared) (H : Hp) (C : Addr) (cl : List (Str × Addr)) (fp : List Addr), PG (X.blk s H scope (compEnvC scope cl C X.env) fp) tg g) (htg : TgOk G l g tgm) (hl : ∀ i ∈ l, i ∈ own.map (·.2)) (hx : ∀ i ∈ own.map (·.2), fxOk G.fx i)
    (ht : ∀ (s : Shared) (H : Hp) (C : Addr) (cl : List (Str × Addr)) (fp : List Addr), PTs (X.blk s H scope (compEnvC scope cl C X.env) fp) ifs (tDT G Wno mt))
    (he : ∀ (s : Shared) (H : Hp) (C : Addr) (cl : List (Str × Addr)) (fp : List Addr), PE (X.blk s H scope (compEnvC scope cl C X.env) fp) elt (tD G Wno me)) (hs : ∀ x, foldedSetIterable iter X.env x = pure x := by intro _; rfl) :
    PE X (.ListComp elt [⟨tg, iter, ifs, 0⟩] scope pos) (tD G W (mLcV i tgm (own.map (·.2)) mt me)) := (pe_lc hc hN (pi_any hi) ok hg ht he hs).up fun σ H Q q => by
  rw [← hK]
  exact post_lcV htg hl hx q
end
end DL

namespace DL
open PySem PySem.Spec L2
/-! ## append of what is frozen -/
def gAppend : List D → List D → Option (List D × D) := fun ds es => match es with
  | [d] => if d.fz = true ∧ ds.length < 1000000 then some (ds ++ [d], .non) else none
  | _ => none
theorem mt_appendA {X : Cx} : MtR X "list.append" rAppend := mt_append
theorem ok_append {G : Cfg} : OpM G rAppend gAppend := by
  intro B H ow l xs ds vs es ds' d Q S hl fz R e K
  unfold gAppend at e
  split at e
  · obtain ⟨v, u, rfl, h1⟩ := R.one
    split at e
    · rename_i c
      cases e
      have hz : xs.length < sizeLine := by
        rw [sizeLine_eq]
        have := c.2
        have := fz.length
        omega
      exact ⟨l, xs, v, rfl, rfl, hl, hz, K _ _ (fz.append (.cons (h1.fz c.1) .nil)) (Fz.sv rfl)⟩
    · cases e
  · cases e
end DL

namespace DL
open PySem PySem.Spec L2
/-! ## a text times a number -/
def repS (a : Str) (n : Nat) : Str := ⟨(List.replicate n a.cps).foldl (· ++ ·) #[]⟩
def rRepS : R2 := fun x y H Q => ∃ (a : Str) (n : Int), x = .str a ∧ y = .int n ∧ 2 ≤ n ∧ n < 1000000 ∧ 0 < a.length ∧ a.length * n.toNat ≤ 1000000 ∧ (repS a n.toNat).length ≤ 1000000 ∧ Q (.str (repS a n.toNat)) H
theorem op_repS {X : Cx} : OpR X (binaryOp .Mult) rRepS := by
  intro pins s σ H x y v u Q I rx ry h
  obtain ⟨a, n, rfl, rfl, h1, h2, h3, h4, h5, q⟩ := h
  obtain ⟨t, rfl⟩ := rx
  obtain ⟨t2, rfl⟩ := ry
  have n1 : ¬ n < 1 := by omega
  have n2 : (n == 1 || a.length == 0) = false := by
    rw [Bool.or_eq_false_iff]
    exact ⟨beq_false_of_ne (by omega), beq_false_of_ne (by omega)⟩
  have hlen : a.length ≤ 1000000 := Nat.le_trans (Nat.le_mul_of_pos_right _ (by omega)) h4
  have hdiv : (1000000 : Int) ≤ (2 ^ 63 - 1) / n := by
    rw [Int.le_ediv_iff_mul_le (by omega)]
    have : (1000000 : Int) * n ≤ 1000000 * 1000000 := Int.mul_le_mul_of_nonneg_left (by omega) (by decide)
    omega
  have hl : PySem.Builtin.Str.tooLong (a.length * n.toNat) = false := by
    unfold PySem.Builtin.Str.tooLong
    rw [decide_eq_false_iff_not]
    have := sizeLine_eq
    omega
  refine PySem.P.mul_str (by rw [decide_eq_false (by omega), decide_eq_false (by omega)]; rfl) (fun _ _ => by omega) (fun _ _ => hl) ?_
  rw [if_neg n1, n2, if_neg Bool.false_ne_true]
  refine ⟨?_, .str (repS a n.toNat), H, I.tok _, ⟨_, rfl⟩, q⟩
  have := sizeLine_eq
  show (repS a n.toNat).length ≤ sizeLine
  omega
def gMulX (l : List D) : Option D := match gMul l with
  | some d => some d
  | none => match l with
    | [.str a, .int n] => if 2 ≤ n ∧ n < 1000000 ∧ 0 < a.length ∧ a.length * n.toNat ≤ 1000000 ∧ (repS a n.toNat).length ≤ 1000000 then some (.str (repS a n.toNat)) else none
    | _ => none
abbrev rMulX : R2 := fun x y H Q => rMulA x y H Q ∨ rRepS x y H Q
theorem op_mulX {X : Cx} : OpR X (binaryOp .Mult) rMulX := op_mulA.or op_repS
theorem ok_mulX {G : Cfg} : OpOk G (r2L rMulX) gMulX := by
  intro B H ow vs ds d Q S R e K
  unfold gMulX at e
  cases e0 : gMul ds with
  | some d' =>
    rw [e0] at e
    cases e
    obtain ⟨x, y, h1, h2⟩ := ok_mul B H ow vs ds _ Q S R e0 K
    exact ⟨x, y, h1, .inl h2⟩
  | none =>
    rw [e0] at e
    simp only at e
    split at e
    · rename_i a n
      obtain ⟨v, w, u, z, rfl, h1, h2⟩ := R.two
      cases h1; cases h2
      split at e
      · rename_i c
        cases e
        exact ⟨_, _, rfl, .inr ⟨a, n, rfl, rfl, c.1, c.2.1, c.2.2.1, c.2.2.2.1, c.2.2.2.2, K.old _ (Fz.sv rfl)⟩⟩
      · cases e
    · cases e
/-! ## for x in reversed(a text) -/
theorem norev_str : typeLookup (.type "str") "__reversed__" = pure none := by rw [typeLookup_type, builtinLookup_eq_fast]; kernel_rfl
theorem getitem_str : typeLookup (.type "str") "__getitem__" = pure (some (.builtin "str.__getitem__")) := by rw [typeLookup_type, builtinLookup_eq_fast]; kernel_rfl
/-- reversed(z), the next place i -/
def RevAt (h : Heap) (a : Addr) (z : Str) (t : Tok) (i : Int) : Prop := ∃ o, h.get? a = some o ∧ o.cls = .type "reversed" ∧ o.data = .fields #[.str z t, rawInt i]
theorem RevAt.up {h h' : Heap} {a : Addr} {z : Str} {t : Tok} {i : Int} (x : RevAt h a z t i) (e : ∀ o, h.get? a = some o → h'.get? a = some o) : RevAt h' a z t i := x.elim fun o r => ⟨o, e o r.1, r.2⟩
section
variable {prog : Program} {w : World} {A : Around} {E : Value → Shared → Prop} {s : Shared} {z : Str} {t : Tok}
theorem RevAt.ty {a : Addr} {i : Int} (x : RevAt s.heap a z t i) : s.TypeIs (.ref a) "reversed" := x.elim fun o r => ⟨o, r.1, r.2.1⟩
theorem new_rev {Q1 : Value → Shared → Prop} (hz : z.length ≤ sizeLine)
    (h : Q1 (.ref s.heap.objs.size) { s with heap := s.heap.push { cls := .type "reversed", data := .fields #[.str z t, rawInt ((z.length : Int) - 1)] }, toks := s.toks + 1 + 1 }) :
    codeAny (model prog w) A (.call (.builtin "reversed.__new__") ⟨[.type "reversed", .str z t], []⟩) (wants Q1 E) s := by
  have ty : s.TypeIs (.str z t) "str" := rfl
  have sz := sizeLine_eq
  refine codeAny_of_tree ?_
  show wpAny _ A.in1 (do checkBuiltinCall "reversed.__new__" ⟨[.type "reversed", .str z t], []⟩; again (.builtin "reversed.__new__" ⟨[.type "reversed", .str z t], []⟩)) _ _ s
  refine wpAny_bind (wpAny_of_eq (F.newCall_reversed_1 _) (wpAny_pure ⟨plainId_quiet F.plain_reversed_new _, codeAny_builtin F.entry_reversed_new ?_⟩))
  rw [Around.under_plainId F.plain_reversed_new _]
  unfold Builtin.«reversed.__new__»
  refine wpAny_bind (wpAny_of_eq (newClass_reversed _) ?_)
  try dsimp only
  refine wpAny_bind (wpAny_of_eq (a := ()) (by first | rfl | kernel_rfl) ?_)
  try dsimp only
  refine wpAny_bind (wpAny_of_eq (a := ()) (by first | rfl | kernel_rfl) ?_)
  try dsimp only
  refine wpAny_bind (wpAny_specialOf ty norev_str ?_)
  try dsimp only
  refine wpAny_bind ?_
  wp_delta
  refine wpAny_bind (wpAny_isInstance (T := "str") (U := "dict") (b := false) ty PySem.F.sub_str_dict ?_)
  try dsimp only
  try rw [if_neg Bool.false_ne_true]
  try dsimp only
  refine wpAny_bind (wpAny_specialOf ty getitem_str ?_)
  try dsimp only
  try rw [if_pos (by decide +kernel)]
  refine wpAny_pure ?_
  try dsimp only
  try rw [if_neg (by decide)]
  try dsimp only
  refine wpAny_bind (PyProof.Rows.len_str (by omega) ?_)
  refine wpAny_bind (wpAny_of_eq (a := some ((z.length : Nat) : Int)) rfl ?_)
  try dsimp only
  refine wpAny_bind ?_
  show wpAny _ _ (newObj (.type "reversed") (.fields #[.str z t, rawInt ((z.length : Int) - 1)])) _ _ _
  refine wpAny_newObj_type ?_
  exact wpAny_pure h
theorem call_rev {Q : Value → Shared → Prop} (hz : z.length ≤ sizeLine)
    (h : Q (.ref s.heap.objs.size) { s with heap := s.heap.push { cls := .type "reversed", data := .fields #[.str z t, rawInt ((z.length : Int) - 1)] }, toks := s.toks + 1 + 1 }) : wpAny (model prog w) A (call (.type "reversed") [.str z t]) Q E s := by
  refine callType_codes (Q₁ := fun obj s1 => s1.TypeIs obj "reversed" ∧ Q obj s1) RT.called_rt (F.typeCall_reversed_1 _) F.entry_object_init (new_rev (A := A.in1) hz ⟨⟨_, Heap.get?_push_size _ rfl, rfl⟩, h⟩) fun obj s1 k => ?_
  exact ⟨k.1, F.args_object_init_2 obj _, object_init_meets RT.called_rt.init.lookup RT.called_rt.made (by decide) prog w A.in1 _ s1 ⟨k.1, rfl, k.2⟩⟩
theorem next_rev {it : Addr} {i : Nat} {c : Nat} {Q : Option Value → Shared → Prop} (hit : RevAt s.heap it z t (i : Int)) (hc : z.cps[i]? = some c) (hz : z.length ≤ sizeLine)
    (hQ : ∀ h' u, RevAt h' it z t ((i : Int) - 1) → Heap.SameBut it s.heap h' → Q (some (.str ⟨#[c]⟩ u)) { s with heap := h', toks := s.toks + 1 + 1 }) : wpAny (model prog w) A (pyNext (.ref it)) Q E s := by
  obtain ⟨o, ho, hcl, hd⟩ := id hit
  have hi : i < z.length := (Array.getElem?_eq_some_iff.mp hc).1
  have ty : s.TypeIs (.str z t) "str" := rfl
  have sz := sizeLine_eq
  unfold pyNext
  refine wpAny_bind (wpAny_attempt (wpAny_callSpecial?_slot (name := Str.ofString "__next__") hit.ty RT.slot_rt_next
    (wpAny_call_entry RT.slot_rt_next hit.ty RT.entry_rt_next ?_ (RT.args_rt_next _))))
  unfold Builtin.«reversed.__next__»
  refine wpAny_bind (wpAny_of_eq (a := (Value.ref it, [])) rfl ?_)
  try dsimp only
  refine wpAny_bind (wpAny_field ho hd (x := .str z t) rfl ?_)
  try dsimp only
  refine wpAny_bind (wpAny_field ho hd (x := rawInt (i : Int)) rfl ?_)
  show wpAny _ _ (if (i : Int) < 0 then _ else _) _ _ s
  rw [if_neg (by omega)]
  try dsimp only
  refine wpAny_bind (wpAny_specialOf ty getitem_str ?_)
  try dsimp only
  try rw [if_neg (by decide)]
  try dsimp only
  refine wpAny_bind (wpAny_mkInt ?_)
  refine wpAny_bind (wpAny_attempt ?_)
  have fin : seqIndex? (i : Int) z.length = some i := seqIndex_of (by omega) (by omega)
  refine PyProof.Rows.getItem_str (s := { s with toks := s.toks + 1 }) (c := c) (by rw [decide_eq_false (by omega), decide_eq_false (by omega)]; rfl) (by rw [fin]; exact hc) ?_
  try dsimp only
  refine wpAny_bind (wpAny_field (s := { s with toks := s.toks + 1 + 1 }) ho hd (x := rawInt (i : Int)) rfl ?_)
  try dsimp only
  refine wpAny_bind (wpAny_setField (s := { s with toks := s.toks + 1 + 1 }) ho hd (by simp) ?_)
  first
  | refine wpAny_pure ⟨_, rfl, wpAny_pure (hQ _ _ ?_ (Heap.SameBut.update ..))⟩
  | refine wpAny_bind (wpAny_pure (wpAny_pure ⟨_, rfl, wpAny_pure (hQ _ _ ?_ (Heap.SameBut.update ..))⟩))
  exact ⟨_, Heap.get?_update_self _ ho (Obj.isFreed_of_fields (Obj.data_mapFields hd _)), (Obj.cls_mapFields ..).trans hcl, by
    rw [Obj.data_mapFields hd]; simp⟩
theorem end_rev {it : Addr} {Q : Option Value → Shared → Prop} (hh : A.handled = none) (hit : RevAt s.heap it z t (-1))
    (hQ : ∀ h', Heap.ExtBut it s.heap h' → Q none { s with heap := h' }) : wpAny (model prog w) A (pyNext (.ref it)) Q E s := by
  obtain ⟨o, ho, hcl, hd⟩ := id hit
  unfold pyNext
  refine wpAny_bind (wpAny_attempt (wpAny_callSpecial?_slot (name := Str.ofString "__next__") hit.ty RT.slot_rt_next
    (wpAny_call_entry RT.slot_rt_next hit.ty RT.entry_rt_next ?_ (RT.args_rt_next _))))
  unfold Builtin.«reversed.__next__»
  refine wpAny_bind (wpAny_of_eq (a := (Value.ref it, [])) rfl ?_)
  try dsimp only
  refine wpAny_bind (wpAny_field ho hd (x := .str z t) rfl ?_)
  try dsimp only
  refine wpAny_bind (wpAny_field ho hd (x := rawInt (-1)) rfl ?_)
  show wpAny _ _ (if (-1 : Int) < 0 then _ else _) _ _ s
  rw [if_pos (by decide)]
  try dsimp only
  refine wpAny_bind (wpAny_rule ?_)
  refine wpAny_bind ?_
  wp_delta
  refine wpAny_bind (wpAny_setField ho hd (by simp) ?_)
  have ho2 := Heap.get?_update_self (Obj.mapFields (·.setIfInBounds 1 (rawInt (-1)))) ho (Obj.isFreed_of_fields (Obj.data_mapFields hd _))
  refine wpAny_setField (s := { s with heap := s.heap.update it (Obj.mapFields (·.setIfInBounds 1 (rawInt (-1)))) }) ho2 (Obj.data_mapFields hd _) (by simp) ?_
  try dsimp only
  first
  | show wpAny _ _ (newExc (.type "StopIteration") [] >>= _) _ _ _
  | (refine wpAny_bind ?_; show wpAny _ _ (newExc (.type "StopIteration") [] >>= _) _ _ _)
  | (refine wpAny_bind ?_; wp_delta; show wpAny _ _ (newExc (.type "StopIteration") [] >>= _) _ _ _)
  refine wpAny_bind ?_
  simp only [newExc, newTuple]
  refine wpAny_bind (wpAny_newObj_type ?_ (by size_fits))
  refine wpAny_bind (m := firstArgMember _ _) (wpAny_of_eq (a := Value.none) (by first | rfl | (simp only [firstArgMember]; rfl)) ?_)
  refine wpAny_newObj_type ?_ (by size_fits)
  simp only [raiseNew]
  refine wpAny_bind (wpAny_handled ?_)
  first | rw [show A.in1.handled = none from hh] | rw [hh]
  refine wpAny_bind (wpAny_pure (wpAny_throw ?_))
  refine wpAny_bind (wpAny_isInstance (T := "StopIteration") (b := true) ⟨_, Heap.get?_push_size _ rfl, rfl⟩ isSubtype_stop ?_)
  refine wpAny_pure (hQ _ ?_)
  refine ((?_ : Heap.ExtBut it s.heap _).push _).push _
  exact fun b ob hb e => (Heap.get?_update_other _ _ (Ne.symm hb)).trans ((Heap.get?_update_other _ _ (Ne.symm hb)).trans e)
theorem iter_rev {it : Addr} {i : Int} {Q : Value → Shared → Prop} (hit : RevAt s.heap it z t i) (h : Q (.ref it) s) : wpAny (model prog w) A (pyIter (.ref it)) Q E s := by
  refine wpAny_pyIter_slot hit.ty RT.slot_rt_iter (wpAny_call_entry RT.slot_rt_iter hit.ty RT.entry_rt_iter ?_ (RT.args_rt_iter _))
  show wpAny _ _ (ret (.ref it)) _ _ s
  exact wpAny_pure ⟨_, rfl, "reversed", _, hit.ty, RT.slot_rt_next.lookup, h⟩
end
end DL

namespace DL
open PySem PySem.Spec L2
def ItRev (z : Str) : It := ⟨fun i _ => i < z.cps.size, fun i H v H' => H' = H ∧ ∃ c, z.cps[z.cps.size - 1 - i]? = some c ∧ v = .str ⟨#[c]⟩, fun i _ => z.cps.size ≤ i⟩
theorem turn_rev {P : Program} {w : World} {K : PySem.W.Frag} {tg : Expr} (it : Addr) (z : Str) (t : Tok) (hz : z.length ≤ sizeLine) : Turn P w K tg (ItRev z) [it] it (fun i h => i ≤ z.cps.size ∧ RevAt h it z t ((z.cps.size : Int) - 1 - (i : Nat))) where
  mem := by simp
  obj := fun i h st b hb => by
    have e : b = it := by simpa using hb
    subst e
    obtain ⟨_, o, e, c, d⟩ := st
    exact ⟨o, e, fun v q => by rw [d] at q; cases q⟩
  keep := fun i h h' st k => ⟨st.1, st.2.up fun o e => k it (by simp) o e⟩
  item := by
    intro X hP hw hK hc i pins s σ H E I hf st hg
    subst hP hw hK
    have hin : i < z.cps.size := hg
    obtain ⟨f0, f1, f2, f3, f4, f5⟩ := hf it (by simp)
    have at1 := st.2
    have hlt : z.cps.size - 1 - i < z.cps.size := by omega
    have e1 : (z.cps.size : Int) - 1 - ((i : Nat) : Int) = ((z.cps.size - 1 - i : Nat) : Int) := by omega
    rw [e1] at at1
    have hc' : z.cps[z.cps.size - 1 - i]? = some z.cps[z.cps.size - 1 - i] := Array.getElem?_eq_getElem hlt
    refine next_rev at1 hc' hz fun h' u st' sb => ?_
    have e2 : ((z.cps.size - 1 - i : Nat) : Int) - 1 = (z.cps.size : Int) - 1 - ((i + 1 : Nat) : Int) := by omega
    rw [e2] at st'
    have I1 : Inv X pins σ H { s with heap := h', toks := s.toks + 1 + 1 } := I.turned (t' := s.toks + 1 + 1) (fun b o hb e => (sb.2 b hb).trans e) f0 f1 f3 f4 f5
    obtain ⟨o, e, c, d⟩ := id st'
    exact ⟨_, rfl, go_of (s := { s with heap := h', toks := s.toks + 1 + 1 }) e c d (by decide) ⟨.str _, H, I1, ⟨u, rfl⟩, ⟨rfl, _, hc', rfl⟩, ⟨hin, st'⟩, fun b hb => (hf b hb).1⟩⟩
  done := by
    intro X hP hw hK hc i pins s σ H E I hf st hg
    subst hP hw hK
    obtain ⟨f0, f1, f2, f3, f4, f5⟩ := hf it (by simp)
    obtain ⟨hin, at1⟩ := st
    have hge : z.cps.size ≤ i := hg
    have e1 : (z.cps.size : Int) - 1 - ((i : Nat) : Int) = -1 := by omega
    rw [e1] at at1
    exact end_rev (I.ok.hd hc) at1 fun h' eb => ⟨rfl, I.turned (t' := s.toks) (fun b o hb e => eb b o hb e) f0 f1 f3 f4 f5⟩
  self := fun A i s Q E st h => iter_rev st.2 h
def iRevS (te : TE) : TI := fun σ H R => te σ H fun v H1 => ∃ z, v = .str z ∧ z.length ≤ sizeLine ∧ R (ItRev z) H1
section
variable {G : Cfg} {W : WX} {n t np : Nat} {B H B' H' B1 H1 : Hp} {ow ow' ow1 : Ow} {σ : L2.St} {ρ ρ' ρ1 ρ2 : Env} {v : V} {X : Cx} {E : Ends} {tg : Expr}
theorem pi_revS {e : Expr} {te : TE} {p pos : Pos} (hg : Gl X "reversed") (hm : X.mg "reversed" = none) (he : PE X e te) (hs : starEach [e] X.env = (false, eval e X.env) :: starEach [] X.env := by rfl) : PI X tg (.Call (.Name "reversed" p) [e] [] pos) (iRevS te) := by
  refine ⟨fun pins s σ H R I h => ?_⟩
  refine PyProof.Rows.Call_ (ld_blt I hg hm PyProof.Rows.boot_reversed (PyProof.Rows.callWith_type1 (PyProof.Rows.args_cons (thn (he.run pins s σ H _ I h) fun u s1 ⟨v, H1, I1, r1, q1⟩ => PyProof.Rows.args_nil ?_) hs) hs rfl))
  obtain ⟨z, rfl, hz, q⟩ := q1
  obtain ⟨tk, rfl⟩ := r1
  have e1 : ((z.length : Nat) : Int) - 1 = (z.cps.size : Int) - 1 - ((0 : Nat) : Int) := by
    show ((z.cps.size : Nat) : Int) - 1 = _
    omega
  refine call_rev hz (iter_rev (z := z) (t := tk) (i := ((z.length : Nat) : Int) - 1) ⟨_, Heap.get?_push_size _ rfl, rfl, rfl⟩ ?_)
  refine pi_one (tk := s1.toks + 1 + 1) I1 _ (turn_rev _ z tk hz) ⟨Nat.zero_le _, ?_⟩ q
  rw [← e1]
  exact ⟨_, Heap.get?_push_size _ rfl, rfl, rfl⟩
theorem steady_rev {s : Str} : Steady (ItRev s) B ((chrs s).reverse.map V.str) where
  go := fun i H e hi => by
    simp [chrs] at hi
    exact hi
  yld := fun i H x H' e hi q => by
    simp [chrs] at hi
    obtain ⟨q1, c, q2, q3⟩ := q
    refine ⟨q1, ?_⟩
    rw [q3, List.getElem?_map, List.getElem?_reverse (by simp [chrs]; exact hi), chrs, List.getElem?_map, List.length_map, Array.getElem?_toList, Array.length_toList, q2]
    rfl
  stop := fun H e => by
    show s.cps.size ≤ _
    simp [chrs]
def vStr : Opn → Option Str
  | .val (.str s) => some s
  | _ => none
theorem vStr_some {o : Opn} {z : Str} (h : vStr o = some z) : o = .val (.str z) := by
  unfold vStr at h
  split at h
  · cases h; rfl
  · cases h
def mRevS (m : ME) : MI := fun ρ => (m ρ).bind fun o ρ1 => match vStr o with
  | some z => if z.length ≤ 16777216 then .ok ((chrs z).reverse.map .str) ρ1 else .bad
  | none => .bad
theorem i_revS {e : Expr} {p pos : Pos} {m : ME} (hg : Gl X "reversed") (hm : X.mg "reversed" = none) (he : PE X e (tD G W m)) (hs : starEach [e] X.env = (false, eval e X.env) :: starEach [] X.env := by rfl) :
    PI X tg (.Call (.Name "reversed" p) [e] [] pos) (tDI G W (mRevS m)) := (pi_revS hg hm he hs).up fun σ H R q => by
  obtain ⟨B, ow, ρ, t, S, hb, hn, P⟩ := q
  refine ⟨B, ow, ρ, t, S, hb, hn, ?_⟩
  unfold mRevS at P
  cases e : m ρ with
  | bad => rw [e] at P; exact P
  | ex c ρ1 => rw [e] at P; exact P
  | ok o ρ1 =>
    rw [e, Rs.bind_ok] at P
    intro v B1 H1 ow1 s1 S1 b1 r1
    have hl := S.len2 S1
    cases e1 : vStr o with
    | none => simp only [e1] at P; exact P.elim
    | some z =>
      simp only [e1] at P
      have := vStr_some e1
      subst this
      cases (show v = .str z from r1)
      split at P
      · rename_i c
        exact ⟨z, rfl, line_le c, P _ _ _ H1 _ (Stp.frz S1 s1 hb fun i h => .inr (of_decide_eq_true h)) (S1.frzT (t := t) (by omega)) cutO_bd steady_rev (FzL.chars _)⟩
      · exact P.elim
/-! ## sep.join(texts) -/
def gJoin (sep : Str) : List D → Option D
  | [.node _ .lst ds] => match D.strs? ds with
    | some ys => if (ys.map (·.length)).sum + ys.length * sep.length ≤ 16777216 then some (.str (Txt.join sep ys)) else none
    | none => none
  | _ => none
theorem strs_kids {N : List Nat → Bool → Kd → Addr → List V → Prop} {p : List Nat} : ∀ {ds : List D} {n : Nat} {vs : List V} {ys : List Str}, RgL N p n vs ds → D.strs? ds = some ys → vs = ys.map V.str
  | [], _, _, _, h, e => by cases h; cases e; rfl
  | d :: ds, _, _, _, h, e => by
    rw [RgL] at h
    obtain ⟨v, r, rfl, h1, h2⟩ := h
    cases d with
    | str s =>
      rw [D.strs?] at e
      cases e2 : D.strs? ds with
      | none => rw [e2] at e; cases e
      | some ys =>
        rw [e2] at e
        cases e
        rw [Rg] at h1
        rw [h1, strs_kids h2 e2]
        rfl
    | _ => simp [D.strs?] at e
def rJoin (K : PySem.W.Frag) (sep : Str) : V → Hp → VK → Prop := fun x H Q => ∃ a p, ∃ ys : List Str, V.str sep = .str a ∧ [x] = [.ref p] ∧ (SqL K H p (ys.map V.str) ∨ SqT K H p (ys.map V.str)) ∧
  (ys.map (·.length)).sum + ys.length * a.length ≤ 16777216 ∧ Q (.str (Txt.join a ys)) H
theorem ok_join {sep : Str} : OpOk G (fun xs H Q => ∃ x, xs = [x] ∧ rJoin G.K sep x H Q) (gJoin sep) := by
  intro B H ow vs ds d Q S R e K
  unfold gJoin at e
  split at e
  · obtain ⟨v, u, rfl, h1⟩ := R.one
    split at e
    · rename_i ys e2
      split at e
      · rename_i c
        cases e
        obtain ⟨a, xs, rfl, ha, ka⟩ := Rp.node S h1
        have := strs_kids ka e2
        subst this
        exact ⟨_, rfl, sep, a, ys, rfl, rfl, .inl (SqL.of ha), c, K.old _ (Fz.sv rfl)⟩
      · cases e
    · cases e
  · cases e
theorem d_join {o e : Expr} {sep : Str} {apos pos : Pos} {m : ME} (hK : G.K = X.K) (ho : PE X o (tC (.str sep))) (he : PE X e (tD G W m)) (hs : starEach [e] X.env = [(false, eval e X.env)] := by rfl) (hbase : attributeBase o "join" X.env (eval o X.env) = eval o X.env := by rfl) (hline : (apos.endLine == pos.line) = true := by rfl) :
    PE X (.Call (.Attribute o "join" apos) [e] [] pos) (tD G W (mOp (mCons m mNil) (gJoin sep))) := d_un (r := rJoin X.K sep) (by rw [← hK]; exact ok_join) he fun ta h => (pe_join ho h hs hbase hline).up fun σ H Q q => ⟨⟨sep, rfl⟩, q⟩
end
end DL

namespace DL
open PySem PySem.Spec L2
/-! ## texts as lists of signs -/
abbrev TX (l : List Nat) : Str := ⟨l.toArray⟩
theorem chrs_tx (l : List Nat) : chrs (TX l) = l.map fun c => TX [c] := by
  unfold chrs
  simp [TX]
theorem len_tx (l : List Nat) : (TX l).length = l.length := by
  show (l.toArray).size = _
  simp
theorem app_tx (l m : List Nat) : TX l ++ TX m = TX (l ++ m) := by
  show Str.append _ _ = _
  unfold Str.append
  simp
theorem tx_inj {l m : List Nat} : (TX l = TX m) = (l = m) := by
  refine propext ⟨fun h => ?_, fun h => by rw [h]⟩
  have := congrArg (fun s : Str => s.cps.toList) h
  simpa using this
theorem join_tx0 : ∀ l : List Nat, Str.join "" (l.map fun c => TX [c]) = TX l
  | [] => rfl
  | [x] => rfl
  | x :: y :: r => by
    have ih : Str.join "" (TX [y] :: r.map fun c => TX [c]) = TX (y :: r) := join_tx0 (y :: r)
    show TX [x] ++ ("" : Str) ++ Str.join "" (TX [y] :: r.map fun c => TX [c]) = _
    rw [ih]
    have e : (TX [x] ++ ("" : Str)) = TX [x] := by rfl
    rw [e, app_tx]
    rfl
theorem join_tx (l : List Nat) : Txt.join "" (l.map fun c => TX [c]) = TX l := by
  show Builtin.Str.glued _ _ = _
  rw [StrLaws.glued_eq_join, join_tx0]
theorem gLen_tx {l : List Nat} : gLen [.str (TX l)] = if l.length ≤ 16777216 then some (.int l.length) else none := by
  show (if (TX l).length ≤ 16777216 then some (D.int (TX l).length) else none) = _
  rw [len_tx]
theorem gJoin_tx {o : Bool} {l : List Nat} (h : l.length ≤ 16777216) : gJoin "" [.node o .lst (l.map fun c => .str (TX [c]))] = some (.str (TX l)) := by
  unfold gJoin
  have e : (l.map fun c => D.str (TX [c])) = (l.map fun c => TX [c]).map D.str := by rw [List.map_map]; rfl
  have e2 : ((l.map fun c => TX [c]).map (·.length)).sum = l.length := by
    rw [List.map_map]
    clear h e
    induction l with
    | nil => rfl
    | cons x r ih => rw [List.map_cons, List.sum_cons, ih, List.length_cons]; show 1 + _ = _; omega
  simp only [e, D.strs?_map, e2, List.length_map, join_tx]
  rw [if_pos]
  show l.length + l.length * 0 ≤ _
  omega
section
variable {X : XP} {ρ : Env} {E : En}
def kRv (Q : List D → Env → Prop) (o : Opn) (ρ : Env) : Prop := match o with
  | .val (.str z) => z.length ≤ 16777216 ∧ Q ((chrs z).reverse.map .str) ρ
  | _ => False
theorem wI_revS {m : ME} {Q : List D → Env → Prop} : wI (mRevS m) X Q ρ = wE m X (kRv Q) ρ := by
  unfold wI wE mRevS kRv
  cases e : m ρ with
  | ok o ρ1 =>
    simp only [Rs.bind_ok]
    cases o with
    | slot => rfl
    | val d =>
      cases d with
      | str z =>
        simp only [vStr]
        by_cases h : z.length ≤ 16777216
        · rw [if_pos h]; simp only [h, true_and]
        · rw [if_neg h]; simp only [h, false_and]
      | _ => rfl
  | _ => rfl
theorem kRv_str {Q : List D → Env → Prop} {z : Str} : kRv Q (.val (.str z)) ρ = (z.length ≤ 16777216 ∧ Q ((chrs z).reverse.map .str) ρ) := Eq.trans rfl rfl
theorem items_str {z : Str} : D.items (.str z) = some ((chrs z).map .str) := Eq.trans rfl rfl
end
/-- while True: kept from being run -/
@[irreducible] def mLoop (mb : MS) : MS := mWhile (mTru (mC (.bl true))) mb
theorem while_true {mb : MS} : mWhile (mTru (mC (.bl true))) mb = mLoop mb := by unfold mLoop; rfl
end DL

namespace DL
open PySem PySem.Spec PyProof.Rows L2 L2H
/-! ## a comprehension where an exception is handled (over a range) -/
section
variable {X : Cx}
/-- what is pinned may as well be told of the context -/
theorem pinTr {p : Addr × Obj} {σ : L2.St} {H : Hp} {s : Shared} (hp : X.pn = []) (I : Inv X [p] σ H s) : Inv (X.tr [p] X.xe) [] σ H s := by
  have := I.toTry X.xe
  rw [hp] at this
  exact this
theorem trPin {p : Addr × Obj} {σ : L2.St} {H : Hp} {s : Shared} (ok : X.Ok) (hp : X.pn = []) (I : Inv (X.tr [p] X.xe) [] σ H s) : Inv X [p] σ H s := by
  have h : Inv (X.tr (X.pn ++ [p]) X.xe) [] σ H s := by rw [hp]; exact I
  exact h.ofTry ok
theorem lc_hot {pins : List (Addr × Obj)} {s : Shared} {σ : L2.St} {H : Hp} {Q : VK} {elt tg iter : Expr} {ifs : List Expr} {scope : Scope} {own : List (Str × Nat)} {pos pos' : Pos} {wi : TI} {g : TG} {tt : TT} {te : TE} {use : Option (Value → Sem Unit)} {Qf : Value → Shared → Prop}
    (hot : HotC X) (hN : X.N.Nodup) (I : Inv X pins σ H s) (hi : PIH X tg iter wi) (ok : BlkOk X.N X.env.scope scope own)
    (hg : ∀ (s : Shared) (H : Hp) (C : Addr) (cl : List (Str × Addr)) (fp : List Addr), PG (X.blk s H scope (compEnvC scope cl C X.env) fp) tg g) (ht : ∀ (s : Shared) (H : Hp) (C : Addr) (cl : List (Str × Addr)) (fp : List Addr), PTs (X.blk s H scope (compEnvC scope cl C X.env) fp) ifs tt)
    (he : ∀ (s : Shared) (H : Hp) (C : Addr) (cl : List (Str × Addr)) (fp : List Addr), PE (X.blk s H scope (compEnvC scope cl C X.env) fp) elt te) (hs : ∀ x, foldedSetIterable iter X.env x = pure x)
    (h : tLc wi g tt te (own.map (·.2)) σ H Q)
    (hRR : ∀ D C s' m H', Inv X pins σ H' s' → Q (.ref D) H' → s'.heap.Ns C m → FpOk X pins H' C → compPost (model X.prog X.w) X.A X.xe use Qf (.ref D) C (.ok .next) s') :
    wpAny (model X.prog X.w) X.A (comprehension (.ListComp elt [⟨tg, iter, ifs, 0⟩] scope pos) scope X.env pos' (newList []) false (eval iter X.env) use) Qf X.xe s := by
  obtain ⟨p, hp1, hp2⟩ := hot
  have fr : ∀ y ∈ scope.names, y.2 = .free → ∃ c, X.env.cells.lookup y.1 = some c := by
    intro y hy e
    apply I.ok.has
    rcases ok.free y hy e with k | k
    · exact .inl k
    · exact .inr k
  refine wpAny_comprehension_free (use := use) rfl hs (closure_ok fr) ok.kind (fun y hy e => by rw [ok.uniq y hy, e]) ?_
  refine thn (hi.run pins s σ H _ I h) fun xv s1 hx => ?_
  refine thn hx fun itv s2 h2 => ?_
  obtain ⟨it, fp, tn, J, H2, rfl, I2, T, st2, f2, q⟩ := h2
  refine wpAny_newObj_type (newEnv_comp ?_) (by show 0 ≤ sizeLine; decide)
  generalize hD : s2.heap.objs.size = D
  have hDn : H2 D = none := I2.hok.fresh (Nat.le_of_eq hD)
  obtain ⟨W, ⟨m0, w0⟩, turn⟩ := q D hDn
  generalize h3e : ({ s2 with heap := s2.heap.push { cls := .type "list", data := .seq ([] : List Value).toArray } } : Shared) = s3
  have h3 : s3.heap = s2.heap.push { cls := .type "list", data := .seq ([] : List Value).toArray } := by rw [← h3e]
  have up3 : ∀ b o, s2.heap.get? b = some o → s3.heap.get? b = some o := fun b o e => by rw [h3]; exact Heap.get?_push_of_some _ e
  have I3 : Inv X pins σ (upd H2 D (.lst [])) s3 := by
    rw [← h3e]
    apply I2.laid (t' := s2.toks) (fun b o e => Heap.get?_push_of_some _ e) (Nat.le_of_eq hD)
    refine ⟨Nat.zero_le _, [], 0, .nil, ?_⟩
    rw [← hD]
    exact Heap.get?_push_size _ rfl
  have lt2 : ∀ b ∈ fp, b < s2.heap.objs.size := fun b hb => (T.obj _ _ st2 b hb).elim fun o e => Heap.lt_size e.1
  have f3 : ∀ b ∈ fp, FpOk X pins (upd H2 D (.lst [])) b ∧ b < s3.heap.objs.size := by
    intro b hb
    have l := lt2 b hb
    have nD : b ≠ D := by rw [← hD]; exact Nat.ne_of_lt l
    refine ⟨⟨?_, (f2 b hb).2⟩, ?_⟩
    · rw [upd_ne nD]
      exact (f2 b hb).1
    · rw [h3, Heap.size_push]
      exact Nat.lt_succ_of_lt l
  have st3 : tn 0 s3.heap := T.keep _ _ _ st2 fun b _ o e => up3 b o e
  have pp3 := I3.pin p (List.mem_append_left _ hp2)
  have plt : p.1 < s3.heap.objs.size := Heap.lt_size pp3.1
  have I4 := block_start I3 ok hN f3
  have pg := hg s3 (upd H2 D (.lst [])) s3.heap.objs.size (cellsFrom (s3.heap.objs.size + 1) scope.names (cloFrom X.env.cells scope.names [])) fp
  have pt := ht s3 (upd H2 D (.lst [])) s3.heap.objs.size (cellsFrom (s3.heap.objs.size + 1) scope.names (cloFrom X.env.cells scope.names [])) fp
  have pe := he s3 (upd H2 D (.lst [])) s3.heap.objs.size (cellsFrom (s3.heap.objs.size + 1) scope.names (cloFrom X.env.cells scope.names [])) fp
  show codeAny _ _ (.compStart (.ListComp elt [⟨tg, iter, ifs, 0⟩] scope pos) 0 (.ref it) (.ref D) (compEnvC scope (cellsFrom (s3.heap.objs.size + 1) scope.names (cloFrom X.env.cells scope.names [])) s3.heap.objs.size X.env)) (compPost (model X.prog X.w) X.A X.xe use Qf (.ref D) s3.heap.objs.size) { s3 with heap := pushCells (s3.heap.push { cls := .type "dict", data := .dict #[] }) scope.names }
  have nfp : ∀ b ∈ fp, (upd H2 D (.lst [])) b = none := fun b hb => (f3 b hb).1.1
  generalize hce : compEnvC scope (cellsFrom (s3.heap.objs.size + 1) scope.names (cloFrom X.env.cells scope.names [])) s3.heap.objs.size X.env = ce at I4 pg pt pe ⊢
  have cL : ce.locals = s3.heap.objs.size := by rw [← hce]; rfl
  generalize hH3 : upd H2 D (.lst []) = H3 at I3 I4 pg pt pe w0 nfp f3 pp3
  have up4 : ∀ b o, s3.heap.get? b = some o → (pushCells (s3.heap.push { cls := .type "dict", data := .dict #[] }) scope.names).get? b = some o := fun b o e => pushCells_keeps _ _ _ _ (Heap.get?_push_of_some _ e)
  have I4p : Inv (X.blk s3 H3 scope ce fp) [p] (wipe σ (own.map (·.2))) H3 { s3 with heap := pushCells (s3.heap.push { cls := .type "dict", data := .dict #[] }) scope.names } := by
    apply I4.pins_of
    intro p' hp'
    have e : p' = p := by simpa using hp'
    subst e
    refine ⟨up4 _ _ pp3.1, pp3.2.1, ?_, ?_, pp3.2.2.2.2⟩
    · show p'.1 ≠ ce.locals
      rw [cL]
      exact Nat.ne_of_lt plt
    · intro hm
      have hm : p'.1 ∈ frs X.stack := hm
      rcases List.mem_cons.mp (I3.stkSub _ hm) with z | z
      · exact pp3.2.2.1 z
      · exact pp3.2.2.2.1 z
  generalize hs4 : ({ s3 with heap := pushCells (s3.heap.push { cls := .type "dict", data := .dict #[] }) scope.names } : Shared) = s4 at I4p ⊢
  have st4 : tn 0 s4.heap := T.keep _ _ _ st3 fun b _ o e => by rw [← hs4]; exact up4 b o e
  -- in the block: the walked objects, and the handled one, apart
  have npf : ∀ b ∈ fp, p.1 ≠ b := fun b hb z => (f3 b hb).1.2.2.2.2.2 p (List.mem_append_left _ hp2) z
  have apart : ∀ {σ' : L2.St} {H' : Hp} {s' : Shared}, Inv (X.blk s3 H3 scope ce fp) [p] σ' H' s' → (∀ b ∈ fp, H' b = none) → ∀ b ∈ fp, FpOk (X.blk s3 H3 scope ce fp) [p] H' b := by
    intro σ' H' s' I' hn b hb
    have z := I'.ok.exf b hb
    refine ⟨hn b hb, z.1, I'.ok.exfs b hb, .inl hb, fun x c e => z.2 x c e, fun p' hp' => ?_⟩
    have e : p' = p := by simpa using hp'
    rw [e]
    exact npf b hb
  have apart' : ∀ {σ' : L2.St} {H' : Hp} {s' : Shared}, Inv (X.blk s3 H3 scope ce fp) [p] σ' H' s' → (∀ b ∈ fp, H' b = none) → ∀ b ∈ fp, FpOk ((X.blk s3 H3 scope ce fp).tr [p] (fun _ _ => False)) [] H' b := by
    intro σ' H' s' I' hn b hb
    obtain ⟨a1, a2, a3, a4, a5, a6⟩ := apart I' hn b hb
    exact ⟨a1, a2, a3, a4, a5, fun p' hp' => a6 p' (by rw [List.append_nil] at hp'; exact hp')⟩
  have hotB : HotC ((X.blk s3 H3 scope ce fp).tr [p] (fun _ _ => False)) := ⟨p, hp1, List.mem_cons_self⟩
  have loop : codeAny (model X.prog X.w) X.A (.compLoop (.ListComp elt [⟨tg, iter, ifs, 0⟩] scope pos) 0 (.ref it) (.ref D) ce) (compPost (model X.prog X.w) X.A X.xe use Qf (.ref D) s3.heap.objs.size) s4 := by
    refine compLoop_any (fun n s' => ∃ i H', Inv (X.blk s3 H3 scope ce fp) [p] (wipe σ (own.map (·.2))) H' s' ∧ tn i s'.heap ∧ (∀ b ∈ fp, H' b = none) ∧ W i n H') (fun n s5 hJ => ?_) m0 ⟨0, H3, I4p, st4, nfp, w0⟩
    obtain ⟨i, H5, I5, st5, n5, w5⟩ := hJ
    have I5t := pinTr (X := X.blk s3 H3 scope ce fp) rfl I5
    rcases turn i n H5 w5 with ⟨stop, qq⟩ | ⟨go, Nx, hNx, step⟩
    · refine thnF (T.done ((X.blk s3 H3 scope ce fp).tr [p] (fun _ _ => False)) rfl rfl rfl hotB i [] s5 _ H5 (fun _ _ => False) I5t (apart' I5 n5) st5 stop) fun r s6 hr => ?_
      obtain ⟨rfl, I6⟩ := hr
      have I6' := trPin (X := X.blk s3 H3 scope ce fp) I5.ok rfl I6
      have I7 : Inv X pins σ H5 s6 := by
        apply I3.call' (ch := fp) I6'.os I6'.base I6'.hok I6'.bare
        intro b hb
        obtain ⟨_, b2, _, b4, b5, b6⟩ := (f3 b hb).1
        exact ⟨b4, b2, b5, b6⟩
      obtain ⟨m, hn, _⟩ := I6'.loc
      have hn : s6.heap.Ns ce.locals m := hn
      have nC : H5 ce.locals = none := I6'.free
      rw [cL] at hn nC
      exact hRR D s3.heap.objs.size s6 m H5 I7 qq hn (I3.fpOk (Nat.le_refl _) nC)
    · refine thnF (T.item ((X.blk s3 H3 scope ce fp).tr [p] (fun _ _ => False)) rfl rfl rfl hotB i [] s5 _ H5 (fun _ _ => False) I5t (apart' I5 n5) st5 go) fun r s6 hr => ?_
      obtain ⟨u, rfl, h6⟩ := hr
      refine thnF h6 fun _ s7 h7 => ?_
      obtain ⟨x, H7, I7t, r7, y7, st7, n7⟩ := h7
      have I7 := trPin (X := X.blk s3 H3 scope ce fp) I5.ok rfl I7t
      have I7' := I7.pinned (apart I7 n7) (T.obj _ _ st7)
      refine thnF (pg.run _ s7 _ H7 x u _ I7' r7 (step x H7 y7)) fun _ s8 h8 => ?_
      obtain ⟨σ8, H8, I8, hw8, q8⟩ := h8
      refine thnF (pt.run _ s8 σ8 H8 _ I8 q8) fun b s9 h9 => ?_
      obtain ⟨H9, I9, q9⟩ := h9
      have fin : ∀ {s' : Shared} {H' : Hp}, Inv (X.blk s3 H3 scope ce fp) ([p] ++ pinsAt fp s7.heap) σ8 H' s' → Nx H' → ∃ m, m < n ∧ ∃ i H', Inv (X.blk s3 H3 scope ce fp) [p] (wipe σ (own.map (·.2))) H' s' ∧ tn i s'.heap ∧ (∀ b ∈ fp, H' b = none) ∧ W i m H' := by
        intro s' H' I' nx
        obtain ⟨m', hm, w'⟩ := hNx H' nx
        have at' : ∀ b ∈ fp, ∀ o, s7.heap.get? b = some o → s'.heap.get? b = some o ∧ H' b = none := by
          intro b hb o e
          have z := I'.pin (b, o) (List.mem_append_right _ (List.mem_append_right _ (mem_pinsAt hb e)))
          exact ⟨z.1, z.2.1⟩
        refine ⟨m', hm, i + 1, H', ?_, T.keep _ _ _ st7 fun b hb o e => (at' b hb o e).1, ?_, w'⟩
        · apply (I'.unpinned (pins := [p])).weak
          · rw [← hw8, wipe_length]
          · intro j v e
            rw [← hw8] at e
            exact (wipe_some e).1
        · intro b hb
          obtain ⟨o, e, _⟩ := T.obj _ _ st7 b hb
          exact (at' b hb o e).2
      cases b with
      | false =>
        simp only [Bool.false_eq_true, if_false] at q9 ⊢
        exact fin I9 q9
      | true =>
        simp only [if_true] at q9 ⊢
        refine thnF (pe.run _ s9 σ8 H9 _ I9 q9) fun z s10 hz => ?_
        obtain ⟨yv, H10, I10, r10, acc, hD10, hz10, nx⟩ := hz
        exact app_ok (X := X.blk s3 H3 scope ce fp) I10 hD10 hz10 r10 fun s11 I11 => fin I11 nx
  exact codeAny_compStart_list loop (T.self X.A 0 _ _ _ st4 loop)
theorem pe_lcH {elt tg iter : Expr} {ifs : List Expr} {scope : Scope} {own : List (Str × Nat)} {pos : Pos} {wi : TI} {g : TG} {tt : TT} {te : TE} (hot : HotC X) (hN : X.N.Nodup) (hi : PIH X tg iter wi) (ok : BlkOk X.N X.env.scope scope own)
    (hg : ∀ (s : Shared) (H : Hp) (C : Addr) (cl : List (Str × Addr)) (fp : List Addr), PG (X.blk s H scope (compEnvC scope cl C X.env) fp) tg g) (ht : ∀ (s : Shared) (H : Hp) (C : Addr) (cl : List (Str × Addr)) (fp : List Addr), PTs (X.blk s H scope (compEnvC scope cl C X.env) fp) ifs tt)
    (he : ∀ (s : Shared) (H : Hp) (C : Addr) (cl : List (Str × Addr)) (fp : List Addr), PE (X.blk s H scope (compEnvC scope cl C X.env) fp) elt te) (hs : ∀ x, foldedSetIterable iter X.env x = pure x := by intro _; rfl) :
    PE X (.ListComp elt [⟨tg, iter, ifs, 0⟩] scope pos) (tLc wi g tt te (own.map (·.2))) := by
  constructor
  intro pins s σ H Q I h
  rw [eval_ListComp]
  apply lc_hot hot hN I hi ok hg ht he hs h
  intro D C s' m H' I' q hn f
  refine ⟨m, hn, fun h'' sb => ⟨.ref D, H', ?_, rfl, q⟩⟩
  exact I'.turned (t' := s'.toks) (fun b o hb e => (sb.2 b hb).trans e) f.1 f.2.1 f.2.2.2.1 f.2.2.2.2.1 f.2.2.2.2.2
end
section
variable {G : Cfg} {W : WX} {X : Cx}
theorem i_rng1H {a tg : Expr} {p pos : Pos} {m : ME} (hg : Gl X "range") (hm : X.mg "range" = none) (h : PE X a (tD G W m)) (hs : starEach [a] X.env = [(false, eval a X.env)] := by rfl) :
    PIH X tg (.Call (.Name "range" p) [a] [] pos) (tDI G W (mRng1 m)) := ⟨fun pins s σ H R I q => by
  refine (pi_range1H hg hm (pa_cons h pa_nil (by rw [hs]; rfl)) hs).run pins s σ H R I ?_
  obtain ⟨B, ow, ρ, t, S, hb, hn, P⟩ := q
  refine ⟨B, ow, ρ, t, S, hb, hn, ?_⟩
  unfold mRng1 at P
  cases e : m ρ with
  | bad => rw [e] at P; exact P
  | ex c ρ1 => rw [e] at P; exact P
  | ok o ρ1 =>
    rw [e, Rs.bind_ok] at P
    intro v B1 H1 ow1 s1 S1 b1 r1
    have hl := S.len2 S1
    cases e1 : vInt o with
    | none => simp only [e1] at P; exact P.elim
    | some j =>
      simp only [e1] at P
      have := vInt_some e1
      subst this
      cases (show v = .int j from r1)
      split at P
      · rename_i c
        refine ⟨j, rfl, c.1, c.2, P _ _ _ H1 _ (Stp.frz S1 s1 hb fun i h => .inr (of_decide_eq_true h)) (S1.frzT (t := t) (by omega)) cutO_bd steady_r (FzL.ints _)⟩
      · exact P.elim⟩
theorem hotC {a : Addr} {oe : Obj} {cls : Value} {d : Option Addr} {pn : List (Addr × Obj)} (hz : L2N.Zn cls d oe) (hf : ∃ vs, oe.data = .fields vs) : HotC (X.suite a ((a, oe) :: pn)) := by
  obtain ⟨vs, hf⟩ := hf
  exact ⟨(a, oe), ⟨rfl, vs, hf, hz.2.2 vs hf⟩, List.mem_cons_self⟩
theorem d_lcH {elt tg iter : Expr} {ifs : List Expr} {scope : Scope} {own : List (Str × Nat)} {pos : Pos} {mi : MI} {g : TG} {l : List Nat} {tgm : MG} {mt : MT} {me : ME} (hot : HotC X) (hN : X.N.Nodup) (hi : PIH X tg iter (tDI G W mi)) (ok : BlkOk X.N X.env.scope scope own)
    (hg : ∀ (s : Shared) (H : Hp) (C : Addr) (cl : List (Str × Addr)) (fp : List Addr), PG (X.blk s H scope (compEnvC scope cl C X.env) fp) tg g) (htg : TgOk G l g tgm) (hl : ∀ i ∈ l, i ∈ own.map (·.2)) (hx : ∀ i ∈ own.map (·.2), fxOk G.fx i)
    (ht : ∀ (s : Shared) (H : Hp) (C : Addr) (cl : List (Str × Addr)) (fp : List Addr), PTs (X.blk s H scope (compEnvC scope cl C X.env) fp) ifs (tDT G Wno mt))
    (he : ∀ (s : Shared) (H : Hp) (C : Addr) (cl : List (Str × Addr)) (fp : List Addr), PE (X.blk s H scope (compEnvC scope cl C X.env) fp) elt (tD G Wno me)) (hs : ∀ x, foldedSetIterable iter X.env x = pure x := by intro _; rfl) :
    PE X (.ListComp elt [⟨tg, iter, ifs, 0⟩] scope pos) (tD G W (mLc mi tgm (own.map (·.2)) mt me)) := by
  have := pe_lcH hot hN hi ok hg ht he hs (pos := pos)
  exact this.up fun σ H Q q => post_lc htg hl hx q
end
end DL

namespace DL
open PySem PySem.Spec L2
/-! ## sorted, min and max of any data that can be compared -/
def pyD (d : D) : PyData := d.py.getD .none
def leD (a b : D) : Bool := PySem.W.dataLe false pyD a b
def alikeB (ds : List PyData) : Bool := ds.all fun d => ds.all fun e => PySem.W.alike d e
def isTupC : PyData → Bool
  | .tuple (_ :: _) => true
  | _ => false
def isTupA : PyData → Bool
  | .tuple _ => true
  | _ => false
def isNonP : PyData → Bool
  | .none => true
  | _ => false
def sortableB (ds : List PyData) : Bool := ds.all isTupC || ds.all fun d => !isNonP d && !isTupA d
theorem alikeB_ok {ds : List PyData} (h : alikeB ds = true) : PySem.W.AllAlike ds := by
  intro d hd e he
  exact List.all_eq_true.mp (List.all_eq_true.mp h d hd) e he
theorem sortableB_ok {ds : List PyData} (h : sortableB ds = true) : PySem.W.Sortable ds := by
  unfold sortableB at h
  rw [Bool.or_eq_true] at h
  rcases h with h | h
  · refine .inl fun d hd => ?_
    have := List.all_eq_true.mp h d hd
    unfold isTupC at this
    split at this
    · exact ⟨_, _, rfl⟩
    · cases this
  · refine .inr fun d hd => ?_
    have := List.all_eq_true.mp h d hd
    rw [Bool.and_eq_true] at this
    refine ⟨fun e => ?_, fun xs e => ?_⟩
    · rw [e] at this; simp [isNonP] at this
    · rw [e] at this; simp [isTupA] at this
section
variable {α : Type} {le : α → α → Bool}
theorem ins_rank (h : PySem.W.TotalLe le) (c x : α) : ∀ l : List α, (ins le x l).filter (PySem.W.sameRank le c) = (x :: l).filter (PySem.W.sameRank le c)
  | [] => rfl
  | y :: r => by
    rw [ins]
    split
    · rfl
    · rename_i n
      have ih := ins_rank h c x r
      by_cases hx : PySem.W.sameRank le c x = true
      · have hy : ¬ PySem.W.sameRank le c y = true := by
          intro hy
          unfold PySem.W.sameRank at hx hy
          rw [Bool.and_eq_true] at hx hy
          exact n (h.trans _ _ _ hx.2 hy.1)
        rw [List.filter_cons_of_neg hy, ih, List.filter_cons_of_pos hx, List.filter_cons_of_pos hx, List.filter_cons_of_neg hy]
      · rw [List.filter_cons_of_neg hx] at ih ⊢
        rw [List.filter_cons, List.filter_cons, ih]
theorem isort_rank (h : PySem.W.TotalLe le) (c : α) : ∀ l : List α, (isort le l).filter (PySem.W.sameRank le c) = l.filter (PySem.W.sameRank le c)
  | [] => rfl
  | x :: r => by
    rw [isort, ins_rank h, List.filter_cons, List.filter_cons, isort_rank h c r]
theorem isort_merge (h : PySem.W.TotalLe le) (l : List α) : isort le l = l.mergeSort le :=
  PySem.W.sort_unique h (isort_pw le h.trans (fun a b => by have := h.total a b; simpa using this) l) fun c => isort_rank h c l
end
theorem leD_total : PySem.W.TotalLe leD := PySem.W.sortLe_total _ false _
/-! ### the calls -/
def rSortedD (K : PySem.W.Frag) : List V → Hp → VK → Prop := fun vs H Q => ∃ (a : Addr) (bs : List (V × D)), vs = [V.ref a] ∧ SqL K H a (bs.map (·.1)) ∧ DpAll K H (bs.map (·.1)) (bs.map fun b => pyD b.2) ∧
  PySem.W.AllAlike (bs.map fun b => pyD b.2) ∧ PySem.W.Sortable (bs.map fun b => pyD b.2) ∧ (∀ b ∈ bs, (pyD b.2).depth ≤ 60) ∧
  ∀ p, H p = none → Q (.ref p) (upd H p (.lst ((bs.mergeSort fun x y => leD x.2 y.2).map (·.1))))
theorem each_vals {bs : List (V × D)} : ∀ {us : List Value}, Vals (bs.map (·.1)) us → PySem.W.EachIs (fun (u : Value) (b : V × D) => RelV b.1 u) us bs := by
  induction bs with
  | nil => intro us h; cases h; exact .nil
  | cons b r ih =>
    intro us h
    rw [List.map_cons] at h
    cases h with
    | cons h1 h2 => exact .cons h1 (ih h2)
theorem vals_each {bs : List (V × D)} : ∀ {us : List Value}, PySem.W.EachIs (fun (u : Value) (b : V × D) => RelV b.1 u) us bs → Vals (bs.map (·.1)) us := by
  induction bs with
  | nil => intro us h; cases h; exact .nil
  | cons b r ih =>
    intro us h
    cases h with
    | cons h1 h2 => exact .cons h1 (ih h2)
theorem each_reads {X : Cx} {pins : List (Addr × Obj)} {σ : L2.St} {H : Hp} {s : Shared} (I : Inv X pins σ H s) {bs : List (V × D)} : ∀ {us : List Value}, Vals (bs.map (·.1)) us → DpAll X.K H (bs.map (·.1)) (bs.map fun b => pyD b.2) →
    PySem.W.EachIs (fun (u : Value) (b : V × D) => ∃ as, Reads s.heap u (pyD b.2) as) us bs := by
  induction bs with
  | nil => intro us h _; cases h; exact .nil
  | cons b r ih =>
    intro us h g
    rw [List.map_cons] at h g
    cases h with
    | cons h1 h2 =>
      rw [List.map_cons] at g
      cases g with
      | cons g1 g2 => exact .cons (Dp.reads I _ _ _ g1 h1) (ih h2 g2)
theorem cr_sortedD {X : Cx} (hu : X.A.units + 65 < cLine) : CallR X (.builtin "sorted") (rSortedD X.K) := by
  intro pins s σ H vs us Q I r h
  obtain ⟨a, bs, rfl, hs, hd, ha, hk, hdp, q⟩ := h
  obtain ⟨its, rv, hl, hz⟩ := I.list hs
  rw [Vals.ref1 r]
  have hz' : bs.length ≤ sizeLine := by
    rw [List.length_map] at hz
    exact hz
  refine PySem.W.sorted_data (enc := fun b : V × D => pyD b.2) (R := fun (u : Value) (b : V × D) => RelV b.1 u) hl.isList (each_vals rv) (each_reads I rv hd) ha hk hz' (fun b hb => by have := hdp b hb; omega) fun out h1 h2 => ?_
  have e : bs.mergeSort (PySem.W.dataLe false fun b : V × D => pyD b.2) = bs.mergeSort fun x y => leD x.2 y.2 := rfl
  rw [e] at h2
  obtain ⟨ep, he'⟩ := PyProof.Rows.sortedAll_at s.heap its out.toArray
  have hlen : ((bs.mergeSort fun x y => leD x.2 y.2).map (·.1)).length ≤ sizeLine := by
    rw [List.length_map, List.length_mergeSort]
    exact hz'
  exact ⟨.ref _, upd H (s.heap.objs.size + 1) (.lst ((bs.mergeSort fun x y => leD x.2 y.2).map (·.1))), I.laid (t' := s.toks) (fun _ _ => PyProof.Rows.sortedAll_old) (Nat.le_succ _) ⟨hlen, out, ep, vals_each h2, he'⟩, rfl, q _ (I.hok.fresh (Nat.le_succ _))⟩
end DL

namespace DL
open PySem PySem.Spec L2
section
variable {G : Cfg} {B H : Hp}
theorem FzL.zip : ∀ {ds : List D} {vs : List V}, FzL G B vs ds → ∀ p ∈ vs.zip ds, Fz G B p.1 p.2
  | [], vs, h, p, hp => by simp at hp
  | d :: ds, vs, h, p, hp => by
    obtain ⟨v, r, rfl, h1, h2⟩ := h.uncons
    rw [List.zip_cons_cons] at hp
    rcases List.mem_cons.mp hp with e | e
    · rw [e]; exact h1
    · exact FzL.zip h2 p e
theorem FzL.ofPairs : ∀ {bs : List (V × D)}, (∀ p ∈ bs, Fz G B p.1 p.2) → FzL G B (bs.map (·.1)) (bs.map (·.2))
  | [], _ => .nil
  | b :: r, h => by
    rw [List.map_cons, List.map_cons]
    exact .cons (h b List.mem_cons_self) (FzL.ofPairs fun p hp => h p (List.mem_cons_of_mem _ hp))
theorem zip1 {vs : List V} {ds : List D} (h : vs.length = ds.length) : (vs.zip ds).map (·.1) = vs := List.map_fst_zip (by omega)
theorem zip2 {vs : List V} {ds : List D} (h : vs.length = ds.length) : (vs.zip ds).map (·.2) = ds := List.map_snd_zip (by omega)
end
theorem pys_map : ∀ {ds : List D} {es : List PyData}, D.pys ds = some es → es = ds.map pyD
  | [], _, h => by cases h; rfl
  | d :: r, es, h => by
    rw [D.pys] at h
    cases e1 : d.py with
    | none => rw [e1] at h; cases h
    | some x =>
      simp only [e1] at h
      cases e2 : D.pys r with
      | none => rw [e2] at h; cases h
      | some ys =>
        rw [e2] at h
        cases h
        rw [List.map_cons, ← pys_map e2]
        congr 1
        unfold pyD
        rw [e1]
        rfl
def cmpOk (ds : List D) : Bool := D.fzs ds && ((D.pys ds).isSome && (alikeB (ds.map pyD) && (sortableB (ds.map pyD) && (ds.map pyD).all fun d => decide (d.depth ≤ 60))))
def gSortedX (l : List D) : Option D := match gSorted l with
  | some d => some d
  | none => match l with
    | [.node _ k ds] => if (k = .lst ∨ k = .ro) ∧ cmpOk ds = true then some (.node true .lst (isort leD ds)) else none
    | _ => none
def rSortedA (K : PySem.W.Frag) : List V → Hp → VK → Prop := fun vs H Q => rSortedI K vs H Q ∨ rSortedD K vs H Q
theorem call_sortedA {X : Cx} (hu : X.A.units + 65 < cLine) : CallR X (.builtin "sorted") (rSortedA X.K) := cr_sortedI.or (cr_sortedD hu)
theorem cmp_split {ds : List D} (c : cmpOk ds = true) : D.fzs ds = true ∧ D.pys ds = some (ds.map pyD) ∧ alikeB (ds.map pyD) = true ∧ sortableB (ds.map pyD) = true ∧ ∀ d ∈ ds, (pyD d).depth ≤ 60 := by
  unfold cmpOk at c
  simp only [Bool.and_eq_true] at c
  obtain ⟨c1, c2, c3, c4, c5⟩ := c
  obtain ⟨es, e⟩ := Option.isSome_iff_exists.mp c2
  refine ⟨c1, by rw [e, pys_map e], c3, c4, fun d hd => ?_⟩
  exact of_decide_eq_true (List.all_eq_true.mp c5 (pyD d) (List.mem_map.mpr ⟨d, hd, rfl⟩))
theorem ok_sortedX {G : Cfg} : OpOk G (rSortedA G.K) gSortedX := by
  intro B H ow vs ds d Q S R e K
  unfold gSortedX at e
  cases e0 : gSorted ds with
  | some d' =>
    rw [e0] at e
    cases e
    exact .inl (ok_sorted B H ow vs ds _ Q S R e0 K)
  | none =>
    rw [e0] at e
    simp only at e
    split at e
    · rename_i o k l
      obtain ⟨v, u, rfl, h1⟩ := R.one
      split at e
      · rename_i c
        cases e
        obtain ⟨c1, c2, c3, c4, c5⟩ := cmp_split c.2
        obtain ⟨a, xs, rfl, ha, ka⟩ := Rp.node S h1
        have fz := kidsFz ka c1
        have hl := fz.length
        have dp := D.pys_dp l (FzL.rr S.same fz) c2
        have e3 : ((xs.zip l).map fun b => pyD b.2) = l.map pyD := by
          rw [show (fun b : V × D => pyD b.2) = pyD ∘ (fun b => b.2) from rfl, ← List.map_map, zip2 hl]
        refine .inr ⟨a, xs.zip l, rfl, by rw [zip1 hl]; exact lstRo ha c.1, by rw [zip1 hl, e3]; exact dp, by rw [e3]; exact alikeB_ok c3, by rw [e3]; exact sortableB_ok c4, fun b hb => c5 b.2 (List.of_mem_zip hb).2, fun p hp => ?_⟩
        have e4 : isort leD l = ((xs.zip l).mergeSort fun x y => leD x.2 y.2).map (·.2) := by
          rw [PySem.W.sort_maps (s := leD) (fun b : V × D => b.2) (fun _ _ _ _ => rfl), zip2 hl, isort_merge leD_total]
        refine K.new .lst _ _ p (by rw [e4]) trivial (FzL.ofPairs fun q hq => ?_) hp
        exact fz.zip q ((List.mergeSort_perm _ _).mem_iff.mp hq)
      · cases e
    · cases e
/-! ### min and max -/
def bestD (lt : PyData → PyData → Bool) (x : PyData) (xs : List PyData) : PyData := xs.foldl (fun a y => if lt y a then y else a) x
def pickD (ds : List D) (m : PyData) : Option D := match ds.find? fun d => PyData.eqv (pyD d) m with
  | some d => if (ds.all fun e => !PyData.eqv (pyD e) m || D.eqb e d) = true then some d else none
  | none => none
def layB (ds : List PyData) : Bool := PyData.canLayAll0 ds && ((ds.all fun d => !isNonP d) && (decide (PyData.depthAll ds ≤ 60) && ds.all fun d => PyData.eqv d d))
theorem eqvs_lay {d : PyData} {ds : List PyData} (h : PyData.canLayAll0 ds = true) (hd : d ∈ ds) : d.canLay0 = true := by
  induction ds with
  | nil => cases hd
  | cons x r ih =>
    rw [PyData.canLayAll0, Bool.and_eq_true] at h
    rcases List.mem_cons.mp hd with e | e
    · rw [e]; exact h.1
    · exact ih h.2 e
def rBestD (lt : PyData → PyData → Bool) (K : PySem.W.Frag) : List V → Hp → VK → Prop := fun vs H Q => ∃ (a : Addr) (xs : List V) (d0 : PyData) (dr : List PyData), vs = [V.ref a] ∧ SqL K H a xs ∧ DpAll K H xs (d0 :: dr) ∧
  PySem.W.AlikeAll (d0 :: dr) ∧ PyData.canLayAll0 (d0 :: dr) = true ∧ PyData.depthAll (d0 :: dr) ≤ 60 ∧ ∀ (i : Nat) (x : V), xs[i]? = some x → (d0 :: dr)[i]? = some (bestD lt d0 dr) → Q x H
def ltMin (y a : PyData) : Bool := PySem.W.dataLt y a
def ltMax (y a : PyData) : Bool := PySem.W.dataLt a y
theorem vals_at : ∀ {xs : List V} {us : List Value} {i : Nat} {u : Value}, Vals xs us → us[i]? = some u → ∃ x, xs[i]? = some x ∧ RelV x u
  | [], _, _, _, h, e => by cases h; simp at e
  | x :: r, _, i, u, h, e => by
    cases h with
    | cons h1 h2 =>
      cases i with
      | zero =>
        simp at e
        subst e
        exact ⟨x, rfl, h1⟩
      | succ j =>
        simp at e
        obtain ⟨y, hy, hr⟩ := vals_at h2 e
        exact ⟨y, by simpa using hy, hr⟩
theorem cr_minD {X : Cx} (hc : X.calm = true) (hu : X.A.units + 65 < cLine) : CallR X (.builtin "min") (rBestD ltMin X.K) := by
  intro pins s σ H vs us Q I r h
  obtain ⟨a, xs, d0, dr, rfl, hs, hd, ha, hl0, hdp, q⟩ := h
  obtain ⟨its, rv, hl, hz⟩ := I.list hs
  rw [Vals.ref1 r]
  obtain ⟨as, hr⟩ := Dp.readsAll I _ _ _ hd rv
  refine PySem.W.min_list_data (I.ok.hd hc) hl.isList hr ha (by omega) fun i v h' tk bs hv hrd hk => ?_
  have hv' : its[i]? = some v := by simpa using hv
  obtain ⟨x, hx, rx⟩ := vals_at rv hv'
  obtain ⟨cs, r1, i1, i2, _⟩ := PySem.W.readsAll_at hr i v hv'
  have hu1 := PySem.SeqAt.Reads.unique _ _ v _ _ (eqvs_lay hl0 i2) (PySem.W.reads_keeps hk r1) hrd
  have hi : (d0 :: dr)[i]? = some (bestD ltMin d0 dr) := by
    rw [List.getElem?_eq_getElem i1]
    rw [List.getD_eq_getElem?_getD, List.getElem?_eq_getElem i1] at hu1
    exact congrArg some hu1
  exact ⟨x, H, I.kept hk, rx, q i x hx hi⟩
theorem cr_maxD {X : Cx} (hc : X.calm = true) (hu : X.A.units + 65 < cLine) : CallR X (.builtin "max") (rBestD ltMax X.K) := by
  intro pins s σ H vs us Q I r h
  obtain ⟨a, xs, d0, dr, rfl, hs, hd, ha, hl0, hdp, q⟩ := h
  obtain ⟨its, rv, hl, hz⟩ := I.list hs
  rw [Vals.ref1 r]
  obtain ⟨as, hr⟩ := Dp.readsAll I _ _ _ hd rv
  refine PySem.W.max_list_data (I.ok.hd hc) hl.isList hr ha (by omega) fun i v h' tk bs hv hrd hk => ?_
  have hv' : its[i]? = some v := by simpa using hv
  obtain ⟨x, hx, rx⟩ := vals_at rv hv'
  obtain ⟨cs, r1, i1, i2, _⟩ := PySem.W.readsAll_at hr i v hv'
  have hu1 := PySem.SeqAt.Reads.unique _ _ v _ _ (eqvs_lay hl0 i2) (PySem.W.reads_keeps hk r1) hrd
  have hi : (d0 :: dr)[i]? = some (bestD ltMax d0 dr) := by
    rw [List.getElem?_eq_getElem i1]
    rw [List.getD_eq_getElem?_getD, List.getElem?_eq_getElem i1] at hu1
    exact congrArg some hu1
  exact ⟨x, H, I.kept hk, rx, q i x hx hi⟩
def gBestX (g : List D → Option D) (lt : PyData → PyData → Bool) (l : List D) : Option D := match g l with
  | some d => some d
  | none => match l with
    | [.node _ k (d :: ds)] => if (k = .lst ∨ k = .ro) ∧ (cmpOk (d :: ds) && layB ((d :: ds).map pyD)) = true then pickD (d :: ds) (bestD lt (pyD d) (ds.map pyD)) else none
    | _ => none
abbrev gMinX := gBestX gMin ltMin
abbrev gMaxX := gBestX gMax ltMax
theorem ok_best {G : Cfg} {r : List V → Hp → VK → Prop} {g : List D → Option D} {lt : PyData → PyData → Bool} (h0 : OpOk G r g) : OpOk G (fun vs H Q => r vs H Q ∨ rBestD lt G.K vs H Q) (gBestX g lt) := by
  intro B H ow vs ds d Q S R e K
  unfold gBestX at e
  cases e0 : g ds with
  | some d' =>
    rw [e0] at e
    cases e
    exact .inl (h0 B H ow vs ds _ Q S R e0 K)
  | none =>
    rw [e0] at e
    simp only at e
    split at e
    · rename_i o k d1 l
      obtain ⟨v, u, rfl, h1⟩ := R.one
      split at e
      · rename_i c
        obtain ⟨ck, c⟩ := c
        rw [Bool.and_eq_true] at c
        obtain ⟨c1, c2, c3, c4, c5⟩ := cmp_split c.1
        have c6 := c.2
        unfold layB at c6
        simp only [Bool.and_eq_true] at c6
        obtain ⟨l1, l2, l3, l4⟩ := c6
        obtain ⟨a, xs, rfl, ha, ka⟩ := Rp.node S h1
        have fz := kidsFz ka c1
        have dp := D.pys_dp (d1 :: l) (FzL.rr S.same fz) c2
        refine .inr ⟨a, xs, pyD d1, l.map pyD, rfl, lstRo ha ck, dp, ⟨fun x hx y hy => alikeB_ok c3 x hx y hy, fun x hx ex => ?_⟩, l1, of_decide_eq_true l3, fun i x hx hi => ?_⟩
        · have := List.all_eq_true.mp l2 x hx
          rw [ex] at this
          cases this
        · have hi : ((d1 :: l).map pyD)[i]? = some (bestD lt (pyD d1) (l.map pyD)) := hi
          rw [List.getElem?_map] at hi
          cases ed : (d1 :: l)[i]? with
          | none => rw [ed] at hi; cases hi
          | some di =>
            rw [ed] at hi
            have hi : pyD di = bestD lt (pyD d1) (l.map pyD) := Option.some.inj hi
            have hm : di ∈ d1 :: l := List.mem_of_getElem? ed
            unfold pickD at e
            split at e
            · rename_i df ef
              split at e
              · rename_i ca
                have z := List.all_eq_true.mp ca di hm
                have zz : PyData.eqv (pyD di) (bestD lt (pyD d1) (l.map pyD)) = true := by
                  rw [← hi]
                  exact List.all_eq_true.mp l4 _ (List.mem_map.mpr ⟨di, hm, rfl⟩)
                rw [zz] at z
                have z2 : D.eqb di df = true := by simpa using z
                have e3 := D.eqb_eq _ _ z2
                cases e
                obtain ⟨v', hv', hf⟩ := fz.get ed
                rw [hx] at hv'
                cases hv'
                rw [e3] at hf
                exact K.old _ hf
              · cases e
            · cases e
      · cases e
    · cases e
end DL

namespace DL
open PySem PySem.Spec PyProof.Rows L2 L2H
theorem call_minX {X : Cx} (hc : X.calm = true) (hu : X.A.units + 65 < cLine) : CallR X (.builtin "min") (fun vs H Q => rMinA X.K vs H Q ∨ rBestD ltMin X.K vs H Q) := (call_minA hc).or (cr_minD hc hu)
theorem call_maxX {X : Cx} (hc : X.calm = true) (hu : X.A.units + 65 < cLine) : CallR X (.builtin "max") (fun vs H Q => rMaxA X.K vs H Q ∨ rBestD ltMax X.K vs H Q) := (call_maxA hc).or (cr_maxD hc hu)
theorem ok_minX {G : Cfg} : OpOk G (fun vs H Q => rMinA G.K vs H Q ∨ rBestD ltMin G.K vs H Q) gMinX := ok_best ok_min
theorem ok_maxX {G : Cfg} : OpOk G (fun vs H Q => rMaxA G.K vs H Q ∨ rBestD ltMax G.K vs H Q) gMaxX := ok_best ok_max
/-! ## name = [.. over a range ..] where an exception is handled -/
section
variable {X : Cx}
theorem ps_setLcH {i : Nat} {y : Str} {py : Pos} {elt tg iter : Expr} {ifs : List Expr} {scope : Scope} {own : List (Str × Nat)} {pos spos : Pos} {wi : TI} {g : TG} {tt : TT} {te : TE} (hot : HotC X) (hN : X.N.Nodup) (hy : X.N[i]? = some y) (hyl : X.env.scope.names.lookup y = some .local)
    (hsw : swapsWith (.ListComp elt [⟨tg, iter, ifs, 0⟩] scope pos) (some (.Name y py)) spos.line X.env = pure true) (hi : PIH X tg iter wi) (ok : BlkOk X.N X.env.scope scope own)
    (hg : ∀ (s : Shared) (H : Hp) (C : Addr) (cl : List (Str × Addr)) (fp : List Addr), PG (X.blk s H scope (compEnvC scope cl C X.env) fp) tg g) (ht : ∀ (s : Shared) (H : Hp) (C : Addr) (cl : List (Str × Addr)) (fp : List Addr), PTs (X.blk s H scope (compEnvC scope cl C X.env) fp) ifs tt)
    (he : ∀ (s : Shared) (H : Hp) (C : Addr) (cl : List (Str × Addr)) (fp : List Addr), PE (X.blk s H scope (compEnvC scope cl C X.env) fp) elt te) (hs : ∀ x, foldedSetIterable iter X.env x = pure x := by intro _; rfl) :
    PS X (.Assign [.Name y py] (.ListComp elt [⟨tg, iter, ifs, 0⟩] scope pos) spos) (tAsg (tLc wi g tt te (own.map (·.2))) (gName i)) := by
  constructor
  intro pins s σ H D I h
  rw [exec_Assign_Name_used _ _ _ _ hsw]
  apply wpAny_bind
  apply wpAny_standAt
  apply wpAny_bind
  show wpAny _ X.A (do let _ ← comprehension (.ListComp elt [⟨tg, iter, ifs, 0⟩] scope pos) scope X.env (firstIterPos [⟨tg, iter, ifs, 0⟩] pos) (newList []) false (eval iter X.env) (some (assign (.Name y py) X.env))) _ _ s
  have h' : tLc wi g tt te (own.map (·.2)) σ H (fun x H1 => gName i x σ H1 D.nx) := h
  apply wpAny_bind
  refine thn (lc_hot (Qf := fun _ s' => SP X pins D .next s') hot hN I hi ok hg ht he hs h' fun L C s' m H' I' q hn f => ?_) fun _ s' hq => wpAny_pure (wpAny_pure hq)
  show wpAny _ _ (assign (.Name y py) X.env (.ref L)) _ _ _
  apply wpAny_assign_Name
  refine store_ok2 (v := V.ref L) I' hN hy (.inl hyl) rfl (fun s2 I2 hz => ?_) (.inr hyl)
  obtain ⟨a, sb, ha⟩ := hz
  have ne : C ≠ a := by
    rcases ha with z | z
    · rw [z]; exact f.2.1
    · exact fun e => f.2.2.2.2.1 y a z e.symm
  refine ⟨m, hn.sameBut sb ne, fun h3 sb3 => ⟨_, H', ?_, q⟩⟩
  exact I2.turned (t' := s2.toks) (fun b o hb e => (sb3.2 b hb).trans e) f.1 f.2.1 f.2.2.2.1 f.2.2.2.2.1 f.2.2.2.2.2
end
section
variable {G : Cfg} {W : WX} {n t np : Nat} {B H : Hp} {ow : Ow} {σ : L2.St} {ρ : Env} {X : Cx}
theorem s_setLcH {i : Nat} {y : Str} {py : Pos} {elt tg iter : Expr} {ifs : List Expr} {scope : Scope} {own : List (Str × Nat)} {pos spos : Pos} {mi : MI} {g : TG} {l : List Nat} {tgm : MG} {mt : MT} {me : ME} (hot : HotC X) (hN : X.N.Nodup) (hy : X.N[i]? = some y) (hyl : X.env.scope.names.lookup y = some .local)
    (hsw : swapsWith (.ListComp elt [⟨tg, iter, ifs, 0⟩] scope pos) (some (.Name y py)) spos.line X.env = pure true) (hfx : fxOk G.fx i) (hi : PIH X tg iter (tDI G W mi)) (ok : BlkOk X.N X.env.scope scope own)
    (hg : ∀ (s : Shared) (H : Hp) (C : Addr) (cl : List (Str × Addr)) (fp : List Addr), PG (X.blk s H scope (compEnvC scope cl C X.env) fp) tg g) (htg : TgOk G l g tgm) (hl : ∀ i ∈ l, i ∈ own.map (·.2)) (hx : ∀ i ∈ own.map (·.2), fxOk G.fx i)
    (ht : ∀ (s : Shared) (H : Hp) (C : Addr) (cl : List (Str × Addr)) (fp : List Addr), PTs (X.blk s H scope (compEnvC scope cl C X.env) fp) ifs (tDT G Wno mt))
    (he : ∀ (s : Shared) (H : Hp) (C : Addr) (cl : List (Str × Addr)) (fp : List Addr), PE (X.blk s H scope (compEnvC scope cl C X.env) fp) elt (tD G Wno me)) (hs : ∀ x, foldedSetIterable iter X.env x = pure x := by intro _; rfl) :
    PS X (.Assign [.Name y py] (.ListComp elt [⟨tg, iter, ifs, 0⟩] scope pos) spos) (tDS G W (mSet i (mLc mi tgm (own.map (·.2)) mt me))) := ⟨fun pins s σ H E I q => by
  have hl' : i < σ.length := by
    rw [I.len]
    exact (List.getElem?_eq_some_iff.mp hy).1
  refine (ps_setLcH hot hN hy hyl hsw hi ok hg ht he hs).run pins s σ H E I ?_
  obtain ⟨B, ow, ρ, S, hb, P⟩ := q
  exact post_lc (W := W) htg hl hx ⟨B, ow, ρ, ρ.length, S, hb, Nat.le_refl _, post_set hfx S (by rw [← S.len]; exact hl') hb P⟩⟩
/-! ## a < b < c < d -/
def tCh3 (r r' r'' : R2) (ta tb tc td : TE) : TE := fun σ H Q => ta σ H fun x H1 => tb σ H1 fun y H2 => r x y H2 fun z H3 => ∃ k, z = .bl k ∧ (if k = true then tChain r' r'' (tC y) tc td σ H3 Q else Q (.bl false) H3)
theorem pe_ch3 {a b c d : Expr} {pos : Pos} {ta tb tc td : TE} {op op' op2 : CmpOp} {r r' r2 : R2} (ho : OpR X (compareOp op) r) (ho' : OpR X (compareOp op') r') (ho2 : OpR X (compareOp op2) r2) (ha : PE X a ta) (hb : PE X b tb) (hc : PE X c tc) (hd : PE X d td)
    (hm : lastMarks [op, op', op2] [b, c, d] = false := by with_unfolding_all rfl) : PE X (.Compare a [op, op', op2] [b, c, d] pos) (tCh3 r r' r2 ta tb tc td) := by
  constructor
  intro pins s σ H Q I h
  apply Compare_chain _ hm
  refine thn (ha.run pins s σ H _ I h) fun v s1 h1 => ?_
  obtain ⟨x, H1, I1, r1, q1⟩ := h1
  apply chain_link
  refine thn (hb.run pins s1 σ H1 _ I1 q1) fun u s2 h2 => ?_
  obtain ⟨y, H2, I2, rr2, q2⟩ := h2
  refine thn (ho pins s2 σ H2 x y v u _ I2 r1 rr2 q2) fun e s3 h3 => ?_
  obtain ⟨z, H3, I3, r3, k, rfl, q3⟩ := h3
  cases r3
  apply wpAny_truthy_bool
  cases k with
  | false => exact ite_ff ⟨.bl false, H3, I3, rfl, q3⟩
  | true =>
    apply ite_tt
    have q3 : tC y σ H3 (fun x H1 => tc σ H1 fun y H2 => r' x y H2 fun z H3 => ∃ k, z = .bl k ∧ (if k = true then td σ H3 fun w' H4 => r2 y w' H4 Q else Q (.bl false) H3)) := q3
    have q3 : tc σ H3 (fun y' H2 => r' y y' H2 fun z H3 => ∃ k, z = .bl k ∧ (if k = true then td σ H3 fun w' H4 => r2 y' w' H4 Q else Q (.bl false) H3)) := q3
    apply chain_link
    refine thn (hc.run pins s3 σ H3 _ I3 q3) fun u' s4 h4 => ?_
    obtain ⟨y', H4, I4, r4, q4⟩ := h4
    refine thn (ho' pins s4 σ H4 y y' u u' _ I4 rr2 r4 q4) fun e' s5 h5 => ?_
    obtain ⟨z', H5, I5, r5, k', rfl, q5⟩ := h5
    cases r5
    apply wpAny_truthy_bool
    cases k' with
    | false => exact ite_ff ⟨.bl false, H5, I5, rfl, q5⟩
    | true =>
      apply ite_tt
      apply chain_last
      refine thn (hd.run pins s5 σ H5 _ I5 q5) fun w' s6 h6 => ?_
      obtain ⟨z6, H6, I6, r6, q6⟩ := h6
      exact ho2 pins s6 σ H6 y' z6 u' w' Q I6 r4 r6 q6
theorem pt_ch3 {a b c d : Expr} {pos : Pos} {ta tb tc td : TE} {op op' op2 : CmpOp} {r r' r2 : R2} (ho : OpR X (compareOp op) r) (ho' : OpR X (compareOp op') r') (ho2 : OpR X (compareOp op2) r2) (ha : PE X a ta) (hb : PE X b tb) (hc : PE X c tc) (hd : PE X d td)
    (hm : lastMarks [op, op', op2] [b, c, d] = false := by with_unfolding_all rfl) : PT X (.Compare a [op, op', op2] [b, c, d] pos) (tTest (tCh3 r r' r2 ta tb tc td)) := by
  constructor
  intro pins s σ H Q I h
  apply isTrue_chain _ hm
  refine thn (ha.run pins s σ H _ I h) fun v s1 h1 => ?_
  obtain ⟨x, H1, I1, r1, q1⟩ := h1
  apply test_link
  refine thn (hb.run pins s1 σ H1 _ I1 q1) fun u s2 h2 => ?_
  obtain ⟨y, H2, I2, rr2, q2⟩ := h2
  refine thn (ho pins s2 σ H2 x y v u _ I2 r1 rr2 q2) fun e s3 h3 => ?_
  obtain ⟨z, H3, I3, r3, k, rfl, q3⟩ := h3
  cases r3
  apply wpAny_truthy_bool
  cases k with
  | false =>
    obtain ⟨k', e', q'⟩ := q3
    cases e'
    exact ite_ff ⟨H3, I3, q'⟩
  | true =>
    apply ite_tt
    have q3 : tc σ H3 (fun y' H2 => r' y y' H2 fun z H3 => ∃ k, z = .bl k ∧ (if k = true then td σ H3 fun w' H4 => r2 y' w' H4 (fun x H' => ∃ k, x = .bl k ∧ Q k H') else (∃ k, V.bl false = .bl k ∧ Q k H3))) := q3
    apply test_link
    refine thn (hc.run pins s3 σ H3 _ I3 q3) fun u' s4 h4 => ?_
    obtain ⟨y', H4, I4, r4, q4⟩ := h4
    refine thn (ho' pins s4 σ H4 y y' u u' _ I4 rr2 r4 q4) fun e' s5 h5 => ?_
    obtain ⟨z', H5, I5, r5, k', rfl, q5⟩ := h5
    cases r5
    apply wpAny_truthy_bool
    cases k' with
    | false =>
      obtain ⟨k2, e2, q'⟩ := q5
      cases e2
      exact ite_ff ⟨H5, I5, q'⟩
    | true =>
      apply ite_tt
      apply test_last
      refine thn (hd.run pins s5 σ H5 _ I5 q5) fun w' s6 h6 => ?_
      obtain ⟨z6, H6, I6, r6, q6⟩ := h6
      refine thn (ho2 pins s6 σ H6 y' z6 u' w' _ I6 r4 r6 q6) fun d' s7 h7 => ?_
      obtain ⟨z7, H7, I7, r7, k7, rfl, q7⟩ := h7
      cases r7
      exact wpAny_truthy_bool ⟨H7, I7, q7⟩
def mCh3 (g g' g2 : List D → Option D) (m1 m2 m3 m4 : ME) : ME := fun ρ => (m1 ρ).bind fun o1 ρ1 => (m2 ρ1).bind fun o2 ρ2 => match o1, o2 with
  | .val x, .val y => if (x.sv.isSome && y.sv.isSome) = true then (match g [x, y] with
    | some (.bl b) => if b = true then mChain g' g2 (mC y) m3 m4 ρ2 else .ok (.val (.bl false)) ρ2
    | _ => .bad) else .bad
  | _, _ => .bad
theorem tD_cv {d : D} {v : V} {Q : VK} (hv : d.sv = some v) (q : tD G W (mC d) σ H Q) : tC v σ H Q := by
  obtain ⟨B, ow, ρ, t, S, hb, hn, P⟩ := q
  unfold mC at P
  rw [hv] at P
  exact P v B H ow Stp.refl S (hb.up (by omega)) (Rg.ofSv hv)
theorem post_ch3 {g g' g2 : List D → Option D} {r r' r2 : R2} {m1 m2 m3 m4 : ME} {Q : VK} (hr : OpOk G (r2L r) g) (hr' : OpOk G (r2L r') g') (hr2 : OpOk G (r2L r2) g2) (q : tD G W (mCh3 g g' g2 m1 m2 m3 m4) σ H Q) : tCh3 r r' r2 (tD G W m1) (tD G W m2) (tD G W m3) (tD G W m4) σ H Q := by
  obtain ⟨B, ow, ρ, t, S, hb, hn, P⟩ := q
  refine ⟨B, ow, ρ, t, S, hb, hn, ?_⟩
  unfold mCh3 at P
  cases e : m1 ρ with
  | bad => rw [e] at P; exact P
  | ex c ρ1 => rw [e] at P; exact P
  | ok o1 ρ1 =>
    rw [e, Rs.bind_ok] at P
    intro v B1 H1 ow1 s1 S1 b1 r1
    have hl := S.len2 S1
    refine ⟨B1, ow1, ρ1, t + 1, S1, b1, by omega, ?_⟩
    cases e2 : m2 ρ1 with
    | bad => rw [e2] at P; exact P
    | ex c ρ2 => rw [e2] at P; rw [hl]; exact PostX.step s1 P
    | ok o2 ρ2 =>
      rw [e2, Rs.bind_ok] at P
      intro w B2 H2 ow2 s2 S2 b2 r2
      rw [hl] at s2
      have hl2 := S1.len2 S2
      split at P
      · rename_i x y
        split at P
        · rename_i c
          simp only [Bool.and_eq_true] at c
          obtain ⟨xv, hx⟩ := Option.isSome_iff_exists.mp c.1
          obtain ⟨yv, hy⟩ := Option.isSome_iff_exists.mp c.2
          have hv : v = xv := Rg.toSv (show Rg _ _ v x from r1) hx
          have hw : w = yv := Rg.toSv (show Rg _ _ w y from r2) hy
          subst hv hw
          have st2 := Stp.frz (P := from_ t) S2 (s1.trans s2) hb fun i h => .inr (of_decide_eq_true h)
          have S2' := S2.frzT (t := t) (by omega)
          split at P
          · rename_i b eg
            refine op_at hr ⟨S2.same, S2.lab⟩ hx hy eg ⟨fun u hu => ?_, fun k es ws p ed => nomatch ed⟩
            cases hu.2
            refine ⟨b, rfl, ?_⟩
            cases b with
            | false =>
              rw [if_neg Bool.false_ne_true] at P ⊢
              exact P _ _ _ _ st2 S2' (cutO_bd.up (by omega)) rfl
            | true =>
              rw [if_pos rfl] at P ⊢
              have q2 : tD G W (mChain g' g2 (mC y) m3 m4) σ H2 Q := by
                refine ⟨_, _, ρ2, t, S2', cutO_bd, by omega, ?_⟩
                cases e3 : mChain g' g2 (mC y) m3 m4 ρ2 with
                | bad => rw [e3] at P; exact P
                | ex c ρ3 => rw [e3] at P; rw [hl2, hl]; exact PostX.step st2 P
                | ok o3 ρ3 =>
                  rw [e3] at P
                  intro z B3 H3 ow3 s3 S3 b3 r3
                  rw [hl2, hl] at s3
                  exact P z B3 H3 ow3 (st2.trans s3) S3 b3 r3
              exact tD_cv hy (post_chain hr' hr2 q2)
          · exact P.elim
        · exact P.elim
      · exact P.elim
theorem d_chain3 {a b c d : Expr} {pos : Pos} {op op' op2 : CmpOp} {g g' g2 : List D → Option D} {r r' r2 : R2} {m1 m2 m3 m4 : ME} (ho : OpR X (compareOp op) r) (ho' : OpR X (compareOp op') r') (ho2 : OpR X (compareOp op2) r2) (hr : OpOk G (r2L r) g) (hr' : OpOk G (r2L r') g') (hr2 : OpOk G (r2L r2) g2)
    (h1 : PE X a (tD G W m1)) (h2 : PE X b (tD G W m2)) (h3 : PE X c (tD G W m3)) (h4 : PE X d (tD G W m4)) (hm : lastMarks [op, op', op2] [b, c, d] = false := by with_unfolding_all rfl) : PE X (.Compare a [op, op', op2] [b, c, d] pos) (tD G W (mCh3 g g' g2 m1 m2 m3 m4)) :=
  (pe_ch3 ho ho' ho2 h1 h2 h3 h4 hm).up fun σ H Q q => post_ch3 hr hr' hr2 q
theorem dt_chain3 {a b c d : Expr} {pos : Pos} {op op' op2 : CmpOp} {g g' g2 : List D → Option D} {r r' r2 : R2} {m1 m2 m3 m4 : ME} (ho : OpR X (compareOp op) r) (ho' : OpR X (compareOp op') r') (ho2 : OpR X (compareOp op2) r2) (hr : OpOk G (r2L r) g) (hr' : OpOk G (r2L r') g') (hr2 : OpOk G (r2L r2) g2)
    (h1 : PE X a (tD G W m1)) (h2 : PE X b (tD G W m2)) (h3 : PE X c (tD G W m3)) (h4 : PE X d (tD G W m4)) (hm : lastMarks [op, op', op2] [b, c, d] = false := by with_unfolding_all rfl) : PT X (.Compare a [op, op', op2] [b, c, d] pos) (tDT G W (mB (mCh3 g g' g2 m1 m2 m3 m4))) :=
  (pt_ch3 ho ho' ho2 h1 h2 h3 h4 hm).up fun σ H Q q => tD_b (fun Q q => post_ch3 hr hr' hr2 q) q
end
/-! evaluation -/
section
variable {X : XP} {ρ : Env} {E : En}
def kC3c (b : Option D) (g' g2 : List D → Option D) (y : D) (m3 m4 : ME) (X : XP) (Q : Opn → Env → Prop) (ρ2 : Env) : Prop := match b with
  | some (.bl b) => if b = true then wE (mChain g' g2 (mC y) m3 m4) X Q ρ2 else Q (.val (.bl false)) ρ2
  | _ => False
def kC3b (g g' g2 : List D → Option D) (m3 m4 : ME) (X : XP) (Q : Opn → Env → Prop) (o1 o2 : Opn) (ρ2 : Env) : Prop := match o1, o2 with
  | .val x, .val y => (x.sv.isSome && y.sv.isSome) = true ∧ kC3c (g [x, y]) g' g2 y m3 m4 X Q ρ2
  | _, _ => False
def kC3a (g g' g2 : List D → Option D) (m2 m3 m4 : ME) (X : XP) (Q : Opn → Env → Prop) (o1 : Opn) (ρ1 : Env) : Prop := wE m2 X (kC3b g g' g2 m3 m4 X Q o1) ρ1
theorem wE_ch3 {g g' g2 : List D → Option D} {m1 m2 m3 m4 : ME} {Q : Opn → Env → Prop} : wE (mCh3 g g' g2 m1 m2 m3 m4) X Q ρ = wE m1 X (kC3a g g' g2 m2 m3 m4 X Q) ρ := by
  unfold wE mCh3 kC3a
  cases e : m1 ρ with
  | bad => rfl
  | ex c ρ1 => rfl
  | ok o1 ρ1 =>
    rw [Rs.bind_ok]
    show _ = wE m2 X (kC3b g g' g2 m3 m4 X Q o1) ρ1
    unfold wE
    cases e2 : m2 ρ1 with
    | bad => rfl
    | ex c ρ2 => rfl
    | ok o2 ρ2 =>
      rw [Rs.bind_ok]
      cases o1 with
      | slot => rfl
      | val x =>
        cases o2 with
        | slot => rfl
        | val y =>
          show (match (if (x.sv.isSome && y.sv.isSome) = true then _ else _ : Rs Opn) with | .ok o ρ1 => Q o ρ1 | .ex c ρ1 => X c ρ1 | .bad => False) = ((x.sv.isSome && y.sv.isSome) = true ∧ kC3c (g [x, y]) g' g2 y m3 m4 X Q ρ2)
          by_cases c : (x.sv.isSome && y.sv.isSome) = true
          · rw [if_pos c]
            simp only [c, true_and]
            unfold kC3c
            cases eg : g [x, y] with
            | none => rfl
            | some d =>
              cases d with
              | bl b => cases b <;> rfl
              | _ => rfl
          · rw [if_neg c]
            simp [c]
theorem kC3a_eq {g g' g2 : List D → Option D} {m2 m3 m4 : ME} {Q : Opn → Env → Prop} {o1 : Opn} : kC3a g g' g2 m2 m3 m4 X Q o1 ρ = wE m2 X (kC3b g g' g2 m3 m4 X Q o1) ρ := Eq.trans rfl rfl
theorem kC3b_vv {g g' g2 : List D → Option D} {m3 m4 : ME} {Q : Opn → Env → Prop} {x y : D} : kC3b g g' g2 m3 m4 X Q (.val x) (.val y) ρ = ((x.sv.isSome && y.sv.isSome) = true ∧ kC3c (g [x, y]) g' g2 y m3 m4 X Q ρ) := Eq.trans rfl rfl
theorem kC3c_bl {g' g2 : List D → Option D} {y : D} {m3 m4 : ME} {Q : Opn → Env → Prop} {b : Bool} : kC3c (some (.bl b)) g' g2 y m3 m4 X Q ρ = if b = true then wE (mChain g' g2 (mC y) m3 m4) X Q ρ else Q (.val (.bl false)) ρ := Eq.trans rfl rfl
end
end DL

namespace DL
open PySem PySem.Spec L2
/-! ## the least and the greatest, in plain words -/
mutual
theorem D.eqb_refl : ∀ d : D, D.eqb d d = true
  | .non => rfl
  | .bl b => by cases b <;> rfl
  | .int i => by rw [D.eqb]; exact decide_eq_true rfl
  | .str i => by rw [D.eqb]; exact decide_eq_true rfl
  | .exn i => by rw [D.eqb]; exact decide_eq_true rfl
  | .node o k ds => by
    rw [D.eqb, D.eqbs_refl ds, decide_eq_true (rfl : k = k)]
    cases o <;> rfl
theorem D.eqbs_refl : ∀ ds : List D, D.eqbs ds ds = true
  | [] => rfl
  | d :: r => by rw [D.eqbs, D.eqb_refl d, D.eqbs_refl r]; rfl
end
theorem dlt_irrefl (x : PyData) : PySem.W.dataLt x x = false := (PyProof.Rows.listOrd PyProof.Rows.itemOrd).irrefl _
theorem dlt_neg {x y z : PyData} (h1 : PySem.W.dataLt x y = false) (h2 : PySem.W.dataLt y z = false) : PySem.W.dataLt x z = false := by
  cases h : PySem.W.dataLt x z with
  | false => rfl
  | true =>
    rcases (PyProof.Rows.listOrd PyProof.Rows.itemOrd).negTrans _ (PySem.W.keyToks y) _ h with q | q
    · exact absurd (h1.symm.trans q) (by decide)
    · exact absurd (h2.symm.trans q) (by decide)
theorem dlt_asym {x y : PyData} (h1 : PySem.W.dataLt x y = true) : PySem.W.dataLt y x = false := by
  cases h : PySem.W.dataLt y x with
  | false => rfl
  | true =>
    have := (PyProof.Rows.listOrd PyProof.Rows.itemOrd).trans _ _ _ h1 h
    exact absurd (this.symm.trans (dlt_irrefl x)) (by decide)
structure Strict (lt : PyData → PyData → Bool) : Prop where
  irr : ∀ x, lt x x = false
  asy : ∀ x y, lt x y = true → lt y x = false
  neg : ∀ x y z, lt x y = false → lt y z = false → lt x z = false
theorem strictMin : Strict ltMin := ⟨dlt_irrefl, fun _ _ => dlt_asym, fun _ _ _ h1 h2 => dlt_neg h1 h2⟩
theorem strictMax : Strict ltMax := ⟨dlt_irrefl, fun _ _ => dlt_asym, fun _ _ _ h1 h2 => dlt_neg h2 h1⟩
theorem bestD_spec {lt : PyData → PyData → Bool} (h : Strict lt) : ∀ (xs : List PyData) (x : PyData), bestD lt x xs ∈ x :: xs ∧ ∀ y ∈ x :: xs, lt y (bestD lt x xs) = false
  | [], x => ⟨by simp [bestD], fun y hy => by
      have : y = x := by simpa using hy
      rw [this]
      exact h.irr x⟩
  | z :: r, x => by
    have e : bestD lt x (z :: r) = bestD lt (if lt z x = true then z else x) r := rfl
    have ih := bestD_spec h r (if lt z x = true then z else x)
    rw [e]
    generalize bestD lt (if lt z x = true then z else x) r = m at ih
    by_cases c : lt z x = true
    · rw [if_pos c] at ih
      refine ⟨List.mem_cons_of_mem _ ih.1, fun y hy => ?_⟩
      rcases List.mem_cons.mp hy with q | q
      · rw [q]
        exact h.neg _ _ _ (h.asy _ _ c) (ih.2 z List.mem_cons_self)
      · exact ih.2 y q
    · rw [if_neg c] at ih
      have c' : lt z x = false := by simpa using c
      refine ⟨?_, fun y hy => ?_⟩
      · rcases List.mem_cons.mp ih.1 with q | q
        · rw [q]; exact List.mem_cons_self
        · exact List.mem_cons_of_mem _ (List.mem_cons_of_mem _ q)
      · rcases List.mem_cons.mp hy with q | q
        · rw [q]; exact ih.2 x List.mem_cons_self
        · rcases List.mem_cons.mp q with q | q
          · rw [q]
            exact h.neg _ _ _ c' (ih.2 x List.mem_cons_self)
          · exact ih.2 y (List.mem_cons_of_mem _ q)
/-- what is chosen of items that are told apart by their data -/
theorem gBest_l {g : List D → Option D} {lt : PyData → PyData → Bool} {d : D} {ds : List D} (h : Strict lt) (hg : ∀ o, g [.node o .lst (d :: ds)] = none) (hc : cmpOk (d :: ds) = true) (hl : layB ((d :: ds).map pyD) = true)
    (inj : ∀ a ∈ d :: ds, ∀ b ∈ d :: ds, PyData.eqv (pyD a) (pyD b) = true → a = b) : ∃ m ∈ d :: ds, (∀ o, gBestX g lt [.node o .lst (d :: ds)] = some m) ∧ ∀ e ∈ d :: ds, lt (pyD e) (pyD m) = false := by
  obtain ⟨s1, s2⟩ := bestD_spec h (ds.map pyD) (pyD d)
  have s1 : bestD lt (pyD d) (ds.map pyD) ∈ (d :: ds).map pyD := s1
  obtain ⟨m, hm, em⟩ := List.mem_map.mp s1
  have hself : ∀ a ∈ d :: ds, PyData.eqv (pyD a) (pyD a) = true := by
    intro a ha
    have c6 := hl
    unfold layB at c6
    simp only [Bool.and_eq_true] at c6
    exact List.all_eq_true.mp c6.2.2.2 _ (List.mem_map.mpr ⟨a, ha, rfl⟩)
  refine ⟨m, hm, fun o => ?_, fun e he => ?_⟩
  · unfold gBestX
    simp only [hg]
    rw [if_pos ⟨.inl trivial, by rw [hc, hl]; rfl⟩]
    unfold pickD
    rw [← em]
    cases ef : (d :: ds).find? fun a => PyData.eqv (pyD a) (pyD m) with
    | none =>
      have := List.find?_eq_none.mp ef m hm
      exact absurd (hself m hm) (by simpa using this)
    | some x =>
      have hx := List.mem_of_find?_eq_some ef
      have hx2 := List.find?_some ef
      have ex : x = m := inj x hx m hm (by simpa using hx2)
      subst ex
      have hall : ((d :: ds).all fun e => !PyData.eqv (pyD e) (pyD x) || D.eqb e x) = true := by
        rw [List.all_eq_true]
        intro y hy
        cases hq : PyData.eqv (pyD y) (pyD x) with
        | false => rfl
        | true =>
          rw [inj y hy x hm hq, D.eqb_refl]
          rfl
      simp only [hall, if_true]
  · rw [em]
    exact s2 _ (List.mem_map.mpr ⟨e, he, rfl⟩)
theorem cmpOk_of {ds : List D} (h1 : ∀ d ∈ ds, d.fz = true ∧ d.py = some (pyD d)) (h2 : ∀ a ∈ ds, ∀ b ∈ ds, PySem.W.alike (pyD a) (pyD b) = true) (h3 : (∀ d ∈ ds, isTupC (pyD d) = true) ∨ ∀ d ∈ ds, isNonP (pyD d) = false ∧ isTupA (pyD d) = false) (h4 : ∀ d ∈ ds, (pyD d).depth ≤ 60) : cmpOk ds = true := by
  have f1 : D.fzs ds = true := by
    clear h2 h3 h4
    induction ds with
    | nil => rfl
    | cons d r ih => rw [D.fzs, (h1 d List.mem_cons_self).1, ih fun x hx => h1 x (List.mem_cons_of_mem _ hx)]; rfl
  have f2 : D.pys ds = some (ds.map pyD) := by
    clear h2 h3 h4 f1
    induction ds with
    | nil => rfl
    | cons d r ih =>
      rw [D.pys, (h1 d List.mem_cons_self).2, ih fun x hx => h1 x (List.mem_cons_of_mem _ hx)]
      rfl
  have f3 : alikeB (ds.map pyD) = true := by
    unfold alikeB
    rw [List.all_eq_true]
    intro x hx
    rw [List.all_eq_true]
    intro y hy
    obtain ⟨a, ha, rfl⟩ := List.mem_map.mp hx
    obtain ⟨b, hb, rfl⟩ := List.mem_map.mp hy
    exact h2 a ha b hb
  have f4 : sortableB (ds.map pyD) = true := by
    unfold sortableB
    rw [Bool.or_eq_true, List.all_eq_true, List.all_eq_true]
    rcases h3 with h3 | h3
    · refine .inl fun x hx => ?_
      obtain ⟨a, ha, rfl⟩ := List.mem_map.mp hx
      exact h3 a ha
    · refine .inr fun x hx => ?_
      obtain ⟨a, ha, rfl⟩ := List.mem_map.mp hx
      rw [(h3 a ha).1, (h3 a ha).2]
      rfl
  have f5 : ((ds.map pyD).all fun d => decide (d.depth ≤ 60)) = true := by
    rw [List.all_eq_true]
    intro x hx
    obtain ⟨a, ha, rfl⟩ := List.mem_map.mp hx
    exact decide_eq_true (h4 a ha)
  unfold cmpOk
  rw [f1, f2, f3, f4, f5]
  rfl
theorem layB_of {ds : List PyData} (h : ∀ d ∈ ds, d.canLay0 = true ∧ isNonP d = false ∧ d.depth ≤ 60) : layB ds = true := by
  have f1 : PyData.canLayAll0 ds = true := by
    induction ds with
    | nil => rfl
    | cons d r ih => rw [PyData.canLayAll0, (h d List.mem_cons_self).1, ih fun x hx => h x (List.mem_cons_of_mem _ hx)]; rfl
  have f3 : PyData.depthAll ds ≤ 60 := by
    clear f1
    induction ds with
    | nil => exact Nat.zero_le _
    | cons d r ih =>
      have := (h d List.mem_cons_self).2.2
      have := ih fun x hx => h x (List.mem_cons_of_mem _ hx)
      rw [PyData.depthAll]
      omega
  unfold layB
  rw [f1, decide_eq_true f3]
  simp only [Bool.true_and, Bool.and_eq_true, List.all_eq_true]
  refine ⟨fun x hx => by rw [(h x hx).2.1]; rfl, fun x hx => PySem.SeqAt.eqv_refl x (h x hx).1⟩
end DL

namespace DL
open PySem PySem.Spec L2
/-! ## range(i, j, -1) -/
def rngD (i : Int) (n : Nat) : List Int := (List.range n).map fun k => i - (k : Nat)
theorem steady_d {B : Hp} {lo : Int} {n : Nat} : Steady (Itc lo (-1) n) B ((rngD lo n).map V.int) where
  go := fun i H e hi => by
    simp only [rngD, List.length_map, List.length_range] at hi
    exact hi
  yld := fun i H x H' e hi q => by
    simp only [rngD, List.length_map, List.length_range] at hi
    obtain ⟨q1, q2⟩ := q
    refine ⟨q1, ?_⟩
    rw [q2, List.getElem?_map, rngD, List.getElem?_map, List.getElem?_range hi]
    show some (V.int (lo - (i : Int))) = some (V.int (lo + (i : Int) * -1))
    congr 2
    omega
  stop := fun H e => by
    show n ≤ _
    simp [rngD]
def mRng3 (m1 m2 m3 : ME) : MI := fun ρ => (m1 ρ).bind fun o1 ρ1 => match vInt o1 with
  | none => .bad
  | some i => (m2 ρ1).bind fun o2 ρ2 => match vInt o2 with
    | none => .bad
    | some j => (m3 ρ2).bind fun o3 ρ3 => match vInt o3 with
      | none => .bad
      | some c => if c = -1 ∧ -(2 ^ 62) ≤ i ∧ i < 2 ^ 62 ∧ -(2 ^ 62) ≤ j ∧ j < 2 ^ 62 then .ok ((rngD i (i - j).toNat).map .int) ρ3 else .bad
section
variable {G : Cfg} {W : WX} {X : Cx}
theorem i_rng3 {a b c tg : Expr} {p pos : Pos} {m1 m2 m3 : ME} (hg : Gl X "range") (hm : X.mg "range" = none) (h1 : PE X a (tD G W m1)) (h2 : PE X b (tD G W m2)) (h3 : PE X c (tD G W m3)) (hs : starEach [a, b, c] X.env = [(false, eval a X.env), (false, eval b X.env), (false, eval c X.env)] := by rfl) (hs2 : starEach [b, c] X.env = [(false, eval b X.env), (false, eval c X.env)] := by rfl) (hs3 : starEach [c] X.env = [(false, eval c X.env)] := by rfl) :
    PI X tg (.Call (.Name "range" p) [a, b, c] [] pos) (tDI G W (mRng3 m1 m2 m3)) := (pi_range3 hg hm (pa_cons h1 (pa_cons h2 (pa_cons h3 pa_nil (by rw [hs3]; rfl)) (by rw [hs2, hs3])) (by rw [hs, hs2])) (by rw [hs, hs2]) (by rw [hs2]; rfl)).up fun σ H R q => by
  obtain ⟨B, ow, ρ, t, S, hb, hn, P⟩ := q
  refine ⟨B, ow, ρ, t, S, hb, hn, ?_⟩
  unfold mRng3 at P
  cases e : m1 ρ with
  | bad => rw [e] at P; exact P
  | ex c ρ1 => rw [e] at P; exact P
  | ok o ρ1 =>
    rw [e, Rs.bind_ok] at P
    intro v B1 H1 ow1 s1 S1 b1 r1
    have hl := S.len2 S1
    refine ⟨B1, ow1, ρ1, t + 1, S1, b1, by omega, ?_⟩
    cases q1 : vInt o with
    | none => simp only [q1] at P; exact P.elim
    | some i =>
      simp only [q1] at P
      have := vInt_some q1
      subst this
      cases e2 : m2 ρ1 with
      | bad => rw [e2] at P; exact P
      | ex c ρ2 => rw [e2] at P; rw [hl]; exact PostX.step s1 P
      | ok o2 ρ2 =>
        rw [e2, Rs.bind_ok] at P
        intro w B2 H2 ow2 s2 S2 b2 r2
        rw [hl] at s2
        have hl2 := S1.len2 S2
        refine ⟨B2, ow2, ρ2, t + 1 + 1, S2, b2, by omega, ?_⟩
        cases q2 : vInt o2 with
        | none => simp only [q2] at P; exact P.elim
        | some j =>
          simp only [q2] at P
          have := vInt_some q2
          subst this
          cases e3 : m3 ρ2 with
          | bad => rw [e3] at P; exact P
          | ex c ρ3 => rw [e3] at P; rw [hl2, hl]; exact PostX.step (s1.trans s2) P
          | ok o3 ρ3 =>
            rw [e3, Rs.bind_ok] at P
            intro w3 B3 H3 ow3 s3 S3 b3 r3
            rw [hl2, hl] at s3
            have hl3 := S2.len2 S3
            cases q3 : vInt o3 with
            | none => simp only [q3] at P; exact P.elim
            | some k =>
              simp only [q3] at P
              have := vInt_some q3
              subst this
              cases (show v = .int i from r1)
              cases (show w = .int j from r2)
              cases (show w3 = .int k from r3)
              split at P
              · rename_i c
                obtain ⟨c0, c1, c2, c3, c4⟩ := c
                subst c0
                refine ⟨i, j, -1, _, rfl, RgC.neg c1 c2 c3 c4, P _ _ _ H3 _ (Stp.frz S3 ((s1.trans s2).trans s3) hb fun i h => .inr (of_decide_eq_true h)) (S3.frzT (t := t) (by omega)) cutO_bd steady_d (FzL.ints _)⟩
              · exact P.elim
end
section
variable {X : XP} {ρ : Env} {E : En}
def kR3c (i j : Int) (Q : List D → Env → Prop) (o : Opn) (ρ1 : Env) : Prop := match o with
  | .val (.int c) => (c = -1 ∧ -(2 ^ 62) ≤ i ∧ i < 2 ^ 62 ∧ -(2 ^ 62) ≤ j ∧ j < 2 ^ 62) ∧ Q ((rngD i (i - j).toNat).map .int) ρ1
  | _ => False
def kR3b (i : Int) (m3 : ME) (X : XP) (Q : List D → Env → Prop) (o : Opn) (ρ1 : Env) : Prop := match o with
  | .val (.int j) => wE m3 X (kR3c i j Q) ρ1
  | _ => False
def kR3 (m2 m3 : ME) (X : XP) (Q : List D → Env → Prop) (o : Opn) (ρ1 : Env) : Prop := match o with
  | .val (.int i) => wE m2 X (kR3b i m3 X Q) ρ1
  | _ => False
theorem kR3_int {m2 m3 : ME} {Q : List D → Env → Prop} {i : Int} : kR3 m2 m3 X Q (.val (.int i)) ρ = wE m2 X (kR3b i m3 X Q) ρ := Eq.trans rfl rfl
theorem kR3b_int {i : Int} {m3 : ME} {Q : List D → Env → Prop} {j : Int} : kR3b i m3 X Q (.val (.int j)) ρ = wE m3 X (kR3c i j Q) ρ := Eq.trans rfl rfl
theorem kR3c_int {i j c : Int} {Q : List D → Env → Prop} : kR3c i j Q (.val (.int c)) ρ = ((c = -1 ∧ -(2 ^ 62) ≤ i ∧ i < 2 ^ 62 ∧ -(2 ^ 62) ≤ j ∧ j < 2 ^ 62) ∧ Q ((rngD i (i - j).toNat).map .int) ρ) := Eq.trans rfl rfl
theorem wI_rng3 {m1 m2 m3 : ME} {Q : List D → Env → Prop} : wI (mRng3 m1 m2 m3) X Q ρ = wE m1 X (kR3 m2 m3 X Q) ρ := by
  unfold wI mRng3 wE
  cases e : m1 ρ with
  | bad => rfl
  | ex c ρ1 => rfl
  | ok o ρ1 =>
    simp only [Rs.bind_ok]
    cases o with
    | slot => rfl
    | val d =>
      cases d with
      | int i =>
        rw [kR3_int]
        simp only [vInt]
        unfold wE
        cases e2 : m2 ρ1 with
        | bad => rfl
        | ex c ρ1 => rfl
        | ok o2 ρ2 =>
          simp only [Rs.bind_ok]
          cases o2 with
          | slot => rfl
          | val d2 =>
            cases d2 with
            | int j =>
              rw [kR3b_int]
              simp only
              unfold wE
              cases e3 : m3 ρ2 with
              | bad => rfl
              | ex c ρ1 => rfl
              | ok o3 ρ3 =>
                simp only [Rs.bind_ok]
                cases o3 with
                | slot => rfl
                | val d3 =>
                  cases d3 with
                  | int k =>
                    rw [kR3c_int]
                    simp only
                    by_cases c : k = -1 ∧ -(2 ^ 62) ≤ i ∧ i < 2 ^ 62 ∧ -(2 ^ 62) ≤ j ∧ j < 2 ^ 62
                    · rw [if_pos c]; simp only [c, and_self, true_and]
                    · rw [if_neg c]; simp only [c, false_and]
                  | _ => rfl
            | _ => rfl
      | _ => rfl
end
end DL

namespace DL
open PySem PySem.Spec L2 PyProof.Rows
/-! ## comprehensions that let an exception out -/
section
variable {M : Model} {A : Around} {E : Value → Shared → Prop} {s : Shared}
/-- what is wanted behind a block, its environment known -/
def cpF (M : Model) (A : Around) (E : Value → Shared → Prop) (use : Option (Value → Sem Unit)) (Q : Value → Shared → Prop) (acc : Value) (ce : PySem.Env) (r : Result) (s' : Shared) : Prop :=
  match r with
  | .ok f => compPost M A E use Q acc ce.locals (.ok f) s'
  | .error x => ∃ m, s'.heap.Ns ce.locals m ∧ ∀ h1, Heap.SameBut ce.locals s'.heap h1 → wpAny M A (PySem.passOn "comprehension.variables-let-go" x ce : Sem Value) (fun _ _ => False) E { s' with heap := h1 }
theorem comp_freeF {env : PySem.Env} {ex : Expr} {sc : Scope} {pos : Pos} {na fst : Sem Value} {g : Comprehension} {gs : List Comprehension} {cl : List (Str × Addr)} {use : Option (Value → Sem Unit)} {Q : Value → Shared → Prop}
    (hcl : clausesOf ex = g :: gs) (hs : ∀ x, foldedSetIterable g.iter env x = pure x) (hclos : closureFor sc env = pure cl) (hkind : sc.kind = .function) (hnm : ∀ x ∈ sc.names, x.2 = .local → sc.names.lookup x.1 = some .local)
    (h : wpAny M A fst (fun x s1 => wpAny M A (pyIter x) (fun it s2 => wpAny M A na (fun acc s3 => wpAny M A (newFunctionEnv sc env.globals cl [] env.qual none .none (some env)) (fun cv s4 =>
        codeAny M A (.compStart ex 0 it acc { cv with scope := relabel sc env }) (cpF M A E use Q acc { cv with scope := relabel sc env }) s4) E s3) E s2) E s1) E s) :
    wpAny M A (comprehension ex sc env pos na false fst use) Q E s := by
  unfold comprehension
  rw [hclos, hcl]
  refine wpAny_bind (wpAny_mono h (fun x s1 k1 => ?_) fun _ _ z => z)
  refine wpAny_bind (wpAny_standAt (wpAny_bind (wpAny_of_eq (hs x) ?_)))
  refine wpAny_bind (wpAny_holding (wpAny_mono k1 (fun it s2 k2 => ?_) fun _ _ z => z))
  refine wpAny_standIf (wpAny_bind (wpAny_mono k2 (fun acc s3 k3 => ?_) fun _ _ z => z))
  refine wpAny_bind (wpAny_pure (wpAny_bind (wpAny_mono k3 (fun cv s4 k4 => ?_) fun _ _ z => z)))
  dsimp only
  generalize hrs : (sc.names.filter fun x => (x.2 == .local || x.2 == .cell) && x.1 != (".0" : Str)).reverse = vars
  have hv : ∀ x ∈ vars, x.2 = .local → PySem.Env.kindOf { cv with scope := relabel sc env } x.1 = some .local := fun x hx hl => by
    rw [← hrs] at hx
    exact lookup_relabel_local (hnm x (List.mem_filter.mp (List.mem_reverse.mp hx)).1 hl)
  have hw : ∀ x ∈ vars.drop 1 ++ vars.take 1, x.2 = .local → PySem.Env.kindOf { cv with scope := relabel sc env } x.1 = some .local := fun x hx hl => by
    rcases List.mem_append.mp hx with q | q
    · exact hv x (List.mem_of_mem_drop q) hl
    · exact hv x (List.mem_of_mem_take q) hl
  refine wpAny_holding (wpAny_bind (wpAny_attempt (wpAny_holding (wpAny_run (codeAny_mono k4 fun r s5 hr => ?_)))))
  cases r with
  | error x =>
    obtain ⟨m, hn, hr⟩ := hr
    refine wpAny_bind (wpAny_holding (wpAny_comp_letGo (cenv := { cv with scope := relabel sc env }) hkind _ s5 m hv hn fun h1 m1 _ sb => ?_))
    exact wpAny_mono (hr h1 sb) (fun _ _ z => z.elim) fun _ _ z => z
  | ok f =>
    cases use with
    | none =>
      obtain ⟨m, hn, hr⟩ := hr
      exact wpAny_bind (wpAny_holding (wpAny_comp_letGo (cenv := { cv with scope := relabel sc env }) hkind _ s5 m hv hn fun h1 m1 _ sb => wpAny_pure (hr h1 sb)))
    | some u =>
      refine wpAny_bind (wpAny_rule (wpAny_bind (wpAny_holding (wpAny_mono hr (fun _ s6 hr2 => ?_) fun _ _ z => z))))
      obtain ⟨m, hn, hr2⟩ := hr2
      exact wpAny_bind (wpAny_comp_letGo (cenv := { cv with scope := relabel sc env }) hkind _ s6 m hw hn fun h1 m1 _ sb => wpAny_pure (hr2 h1 sb))
theorem note_frame {e : Value} {ce env : PySem.Env} (h : ce.frame = env.frame) : noteFrame e ce = noteFrame e env := by
  unfold noteFrame PySem.frameOf
  rw [h]
end
section
open PXN HandSPX
variable {M : Model} {A : Around} {E : Value → Shared → Prop} {s : Shared} {Z : Obj → Prop} {base : Heap} {env : PySem.Env} {outer l : List PySem.Env} {L L' e : Addr}
theorem rawInt_inj (h : (rawInt L' == rawInt L) = true) : L' = L := by
  have : rawInt L' = rawInt L := by simpa using h
  unfold rawInt at this
  simp at this
  exact Int.ofNat_inj.mp this
/-- held at another frame -/
theorem looks_held {Q : Unit → Shared → Prop} (hZ : Steady1 Z) (hfr : A.frames = some (env :: outer)) (hf : env.frame = some L) (hne : L' ≠ L) (hfl : HeldZ base (env :: outer) e Z L' s.heap)
    (hQ : ∀ h1, HeldZ base (env :: outer) e Z L h1 → s.heap.UpToSlots h1 → Q () { s with heap := h1 }) : wpAny M A (noteFrame (.ref e) env) Q E s := by
  obtain ⟨hkb, hen, hl, oe, vs, T, oT, ts, he, hz, hd, h1, hnT, hTe, hT, hdT, h3⟩ := hfl
  unfold noteFrame
  simp only [hf]
  refine wpAny_bind (wpAny_field he hd h1 ?_)
  rw [if_pos (by simp : (Value.ref T != Value.none) = true)]
  refine wpAny_bind (wpAny_field hT hdT h3 ?_)
  rw [if_neg (fun q => hne (rawInt_inj q))]
  refine wpAny_bind (wpAny_setField hT hdT (Array.getElem?_eq_some_iff.mp h3).1 ?_)
  have oth : ∀ b, b ≠ T → (s.heap.update T (Obj.mapFields (·.setIfInBounds 3 Value.none))).get? b = s.heap.get? b := fun b hb => Heap.get?_update_other _ _ hb.symm
  have noRec : ∀ b o, s.heap.get? b = some o → (∀ vs, o.data ≠ .fields vs) → b ≠ T := fun b o hb hnf q => by
    rw [q, hT] at hb
    cases hb
    exact hnf ts hdT
  have fr2 := hl.of_keeps fun b o hb hnf => ⟨o, (oth b (noRec b o hb hnf)).trans hb, rfl⟩
  have kb2 : base.StaysIn (s.heap.update T (Obj.mapFields (·.setIfInBounds 3 Value.none))) := fun b o hbo => by
    refine (oth b fun q => ?_).trans (hkb b o hbo)
    rw [q, hnT] at hbo
    cases hbo
  refine wpAny_entryZ hZ hfr fr2 hf ((oth e hTe.symm).trans he) kb2 hen hd (Array.getElem?_eq_some_iff.mp h1).1 hz fun h' hN => ?_
  obtain ⟨y1, y2, y3, y4⟩ := hN
  refine hQ h' ⟨y1, hen, y2, y3⟩ fun b o hb hnf => ?_
  exact y4 b o ((oth b (noRec b o hb hnf)).trans hb) hnf
theorem frames_keep {h h' : Heap} : ∀ {l : List PySem.Env}, (∀ b ∈ frs l, h'.get? b = h.get? b) → h.FunFrames base l → h'.FunFrames base l
  | [], _, _ => trivial
  | env :: l, k, ⟨hk, ⟨L, o, hf, hn, ho, hd⟩, hr⟩ => by
    have hm : L ∈ frs (env :: l) := List.mem_filterMap.mpr ⟨env, List.mem_cons_self, hf⟩
    refine ⟨hk, ⟨L, o, hf, hn, (k L hm).trans ho, hd⟩, frames_keep (fun b hb => k b ?_) hr⟩
    obtain ⟨e, he, q⟩ := List.mem_filterMap.mp hb
    exact List.mem_filterMap.mpr ⟨e, List.mem_cons_of_mem _ he, q⟩
end
/-! ### the block's context -/
abbrev blkE (X : Cx) (s : Shared) (H : Hp) (sc : Scope) (ce : PySem.Env) (fp : List Addr) (xe : Value → Shared → Prop) : Cx := { X.blk s H sc ce fp with xe := xe }
theorem ok_xe {X : Cx} {xe : Value → Shared → Prop} (ok : X.Ok) : Cx.Ok { X with xe := xe } :=
  ⟨ok.mod, ok.kind, ok.glob, ok.blt, ok.above, ok.inj, ok.has, ok.cab, ok.hd, ok.frames, ok.stk, ok.exf, ok.bs, ok.bsz, ok.noex, ok.exfs, ok.funs, ok.frf⟩
theorem inv_xe {X : Cx} {pins : List (Addr × Obj)} {σ : L2.St} {H : Hp} {s : Shared} {xe : Value → Shared → Prop} (I : Inv X pins σ H s) : Inv { X with xe := xe } pins σ H s :=
  ⟨ok_xe I.ok, I.os, I.bare, I.base, I.loc, I.cell, I.free, I.freeC, I.pin, I.hok, I.len⟩
theorem takes_blk {X : Cx} {W : L2.WX} {pins : List (Addr × Obj)} {σ : L2.St} {H3 : Hp} {s3 : Shared} {sc : Scope} {ce : PySem.Env} {fp : List Addr} {use : Option (Value → Sem Unit)} {Qf : Value → Shared → Prop} {acc : Value}
    (hstk : X.stack = X.env :: X.outer) (hfr : X.env.frame = some X.env.locals) (hfe : ce.frame = X.env.frame) (hcl : ce.locals = s3.heap.objs.size) (I3 : Inv X pins σ H3 s3) (f3 : ∀ b ∈ fp, FpOk X pins H3 b) (tk : L2N.Takes X W) :
    L2N.Takes (blkE X s3 H3 sc ce fp (notedBy (model X.prog X.w) X.A ce fun e s' => cpF (model X.prog X.w) X.A X.xe use Qf acc ce (.error e) s')) (fun c d _ H' => W c d σ H') := by
  rintro u s' ⟨a, B, sI, pB, σB, HB, cls, d, rfl, IB, nb, up, sky, na, os, ag, w⟩
  have fr : X.A.frames = some (X.env :: X.outer) := by rw [I3.ok.frames, hstk]
  have nCL : ce.locals ≠ X.env.locals := by rw [hcl]; exact Nat.ne_of_gt I3.lt
  have nCF : ce.locals ∉ frs X.stack := fun hm => by
    rcases List.mem_cons.mp (I3.stkSub _ hm) with z | z
    · exact nCL z
    · exact I3.nofs (Nat.le_of_eq hcl.symm) z
  have sky : Sky B (X.env :: X.outer) a (L2N.Zn cls d) ce.locals s'.heap := by rw [← hstk]; exact sky
  have nb : ∀ b o, sI.heap.get? b = some o → b ∉ frs X.stack → B.get? b = some o := nb
  obtain ⟨m, hn, _⟩ := IB.loc
  have hn : sI.heap.Ns ce.locals m := hn
  have hBC : HB ce.locals = none := IB.free
  show wpAny (model X.prog X.w) X.A (noteFrame (.ref a) ce) (fun _ s'' => cpF (model X.prog X.w) X.A X.xe use Qf acc ce (.error (.ref a)) s'') _ s'
  rw [note_frame hfe]
  have land : ∀ h1, HandSPX.HeldZ B (X.env :: X.outer) a (L2N.Zn cls d) X.env.locals h1 → s'.heap.UpToSlots h1 → cpF (model X.prog X.w) X.A X.xe use Qf acc ce (.error (.ref a)) { s' with heap := h1 } := by
    intro h1 hh up1
    obtain ⟨g1, g2, g3, oe, vs, T, oT, ts, he, hz, hd, he1, hnT, hTe, hT, hdT, h3⟩ := hh
    obtain ⟨oc, es, ep, hc1, hc2, hc3⟩ := hn
    have hC1 : h1.get? ce.locals = some oc := g1 _ _ (nb _ _ hc1 nCF)
    refine ⟨m, ⟨oc, es, ep, hC1, hc2, hc3⟩, fun h2 sb => ?_⟩
    have neC : ∀ b o vs, h1.get? b = some o → o.data = .fields vs → b ≠ ce.locals := fun b o vs e1 e2 z => by
      rw [z, hC1] at e1
      cases e1
      rw [hc2] at e2
      cases e2
    obtain ⟨B2, b1, b2⟩ := restrict B fun b => decide (b ≠ ce.locals)
    have inB : ∀ b o, B2.get? b = some o → b ≠ ce.locals ∧ B.get? b = some o := fun b o e => by
      by_cases z : b = ce.locals
      · rw [b2 b (by simp [z])] at e
        cases e
      · rw [b1 b (by simp [z])] at e
        exact ⟨z, e⟩
    have noB : ∀ b, B.get? b = none → B2.get? b = none := fun b e => by
      cases q : B2.get? b with
      | none => rfl
      | some o => rw [(inB b o q).2] at e; cases e
    have hh2 : HandSPX.HeldZ B2 (X.env :: X.outer) a (L2N.Zn cls d) X.env.locals h2 := by
      refine ⟨fun b o e => ?_, noB _ g2, ?_, oe, vs, T, oT, ts, ?_, hz, hd, he1, noB _ hnT, hTe, ?_, hdT, h3⟩
      · obtain ⟨z, e⟩ := inB b o e
        exact (sb.2 b z).trans (g1 b o e)
      · have hnn : ∀ L ∈ frs (X.env :: X.outer), B2.get? L = none := fun L hL => noB _ (g3.mem hL).1
        refine funFrames_none (frames_keep (fun b hb => sb.2 b fun z => ?_) g3) hnn
        rw [← hstk, z] at hb
        exact nCF hb
      · exact (sb.2 a (neC a oe vs he hd)).trans he
      · exact (sb.2 T (neC T oT ts hT hdT)).trans hT
    unfold PySem.passOn
    have he2 : h2.get? a = some oe := (sb.2 a (neC a oe vs he hd)).trans he
    refine wpAny_bind (wpAny_field he2 hd he1 ?_)
    rw [if_neg (by simp : ¬ (Value.ref T == Value.none) = true)]
    have fin : wpAny (model X.prog X.w) X.A (setFlight (.ref a) ce.frame) (fun _ s4 => wpAny (model X.prog X.w) X.A (throw (.ref a) : Sem Value) (fun _ _ => False) X.xe s4) X.xe { s' with heap := h2 } := by
      rw [hfe, hfr]
      refine HandSPX.setFlight_onZ hh2 fun h4 hh4 up4 => wpAny_throw (tk _ _ ?_)
      -- the state without the block's names
      obtain ⟨G, q1, q2⟩ := restrict sI.heap fun b => decide (b ≠ ce.locals)
      have inG : ∀ b o, G.get? b = some o → b ≠ ce.locals ∧ sI.heap.get? b = some o := fun b o e => by
        by_cases z : b = ce.locals
        · rw [q2 b (by simp [z])] at e
          cases e
        · rw [q1 b (by simp [z])] at e
          exact ⟨z, e⟩
      have toG : ∀ b o, sI.heap.get? b = some o → b ≠ ce.locals → G.get? b = some o := fun b o e z => by
        rw [q1 b (by simp [z])]
        exact e
      have old : ∀ b o, s3.heap.get? b = some o → b ≠ ce.locals := fun b o e z => by
        rw [z, hcl] at e
        exact absurd (Heap.lt_size e) (Nat.lt_irrefl _)
      have hokG : HOk X.prog X.w HB G := fun b o e => (IB.hok b o e).stay (fun c u hc r => toG c u r fun z => by
          rw [z] at hc
          rcases hc with hc | hc
          · rw [hc, e] at hBC; cases hBC
          · rw [hc] at hBC; cases hBC) (fun _ r => r) fun _ _ r => r
      have un := IB.base
      have un2 : Un (frs X.stack) fp H3 HB s3.heap G :=
        ⟨fun b o e n k1 k2 => toG b o (un.keep b o e n k1 k2) (old b o e), fun b o e n k1 k2 => by
          obtain ⟨sl, q⟩ := un.slot b o e n k1 k2
          exact ⟨sl, toG _ _ q (old b o e)⟩, un.free, fun b o e k => by
          obtain ⟨o', q⟩ := un.there b o e k
          exact ⟨o', toG _ _ q (old b o e)⟩, un.tups, un.frzs, un.tbls⟩
      have I7 : Inv X pins σ HB { sI with heap := G } := I3.call' (s' := { sI with heap := G }) (ch := fp) IB.os un2 hokG IB.bare fun b hb => ⟨(f3 b hb).2.2.2.1, (f3 b hb).2.1, (f3 b hb).2.2.2.2.1, (f3 b hb).2.2.2.2.2⟩
      refine ⟨a, B2, { sI with heap := G }, pins, σ, HB, cls, d, rfl, I7, fun b o e hb => ?_, fun b o e hnf => ?_, .inr (.inr (by rw [hstk]; exact hh4)), na, os, ag, w⟩
      · obtain ⟨z, e⟩ := inG b o e
        rw [b1 b (by simp [z])]
        exact nb b o e hb
      · obtain ⟨z, e⟩ := inG b o e
        obtain ⟨sl1, e1⟩ := up b o e hnf
        obtain ⟨sl2, e2⟩ := up1 b _ e1 hnf
        obtain ⟨sl3, e3⟩ := up4 b _ ((sb.2 b z).trans e2) hnf
        exact ⟨sl3, e3⟩
    first
    | exact wpAny_bind (wpAny_pure (wpAny_bind fin))
    | exact wpAny_bind fin
  rcases sky with ⟨hB, hn', hl, oe, vs, he, hz, hd, h1⟩ | fl | hd
  · exact PXN.look_newZ L2N.Zn.steady fr hl hfr he hB hn' hd h1 hz land
  · exact PXN.looks_onZ L2N.Zn.steady fr hfr fl land
  · exact looks_held L2N.Zn.steady fr hfr nCL hd land
end DL

namespace DL
open PySem PySem.Spec L2 PyProof.Rows
section
variable {X : Cx}
/-- a comprehension whose item may raise (W: what is wanted of an exception) -/
def tLcE (W : L2.WX) (wi : TI) (g : TG) (tt : TT) (te : L2.WX → TE) (vs : List Nat) : TE := fun σ H Q => wi σ H fun J H1 => ∀ D, H1 D = none →
  ∃ T : Nat → Nat → Hp → Prop, (∃ m, T 0 m (upd H1 D (.lst []))) ∧ ∀ i m H2, T i m H2 → (J.stop i H2 ∧ Q (.ref D) H2) ∨
    (J.go i H2 ∧ ∃ Nx : Hp → Prop, (∀ H', Nx H' → ∃ m', m' < m ∧ T (i + 1) m' H') ∧ ∀ x H', J.yld i H2 x H' → g x (wipe σ vs) H' fun σ2 H3 => wipe σ2 vs = wipe σ vs ∧ tt σ2 H3 fun b H4 =>
      if b = true then te (fun c d _ H' => W c d σ H') σ2 H4 fun y H5 => ∃ acc, H5 D = some (.lst acc) ∧ acc.length < sizeLine ∧ Nx (upd H5 D (.lst (acc ++ [y]))) else Nx H4)
theorem toE {α : Type} {t : Sem α} {Q Q' : α → Shared → Prop} {M : Model} {A : Around} {E E' : Value → Shared → Prop} {s : Shared} (hE : ∀ x s, E x s → E' x s) (h : wpAny M A t Q E s) (hQ : ∀ a s, Q a s → Q' a s) : wpAny M A t Q' E' s := wpAny_mono h hQ hE
theorem lc_coreE {W : L2.WX} {pins : List (Addr × Obj)} {s : Shared} {σ : L2.St} {H : Hp} {Q : VK} {elt tg iter : Expr} {ifs : List Expr} {sc : Scope} {own : List (Str × Nat)} {pos pos' : Pos} {wi : TI} {g : TG} {tt : TT} {te : L2.WX → TE} {use : Option (Value → Sem Unit)} {Qf : Value → Shared → Prop}
    (hstk : X.stack = X.env :: X.outer) (hfr : X.env.frame = some X.env.locals) (tk : L2N.Takes X W) (hc : X.calm = true) (hN : X.N.Nodup) (I : Inv X pins σ H s) (hi : PI X tg iter wi) (ok : BlkOk X.N X.env.scope sc own)
    (hg : ∀ (s : Shared) (H : Hp) (C : Addr) (cl : List (Str × Addr)) (fp : List Addr), PG (X.blk s H sc (compEnvC sc cl C X.env) fp) tg g)
    (ht : ∀ (s : Shared) (H : Hp) (C : Addr) (cl : List (Str × Addr)) (fp : List Addr), PTs (X.blk s H sc (compEnvC sc cl C X.env) fp) ifs tt)
    (he : ∀ (s : Shared) (H : Hp) (C : Addr) (cl : List (Str × Addr)) (fp : List Addr) (xe : Value → Shared → Prop) (Wb : L2.WX), L2N.Takes (blkE X s H sc (compEnvC sc cl C X.env) fp xe) Wb → PE (blkE X s H sc (compEnvC sc cl C X.env) fp xe) elt (te Wb))
    (hs : ∀ x, foldedSetIterable iter X.env x = pure x) (h : tLcE W wi g tt te (own.map (·.2)) σ H Q)
    (hRR : ∀ D C s' m H', Inv X pins σ H' s' → Q (.ref D) H' → s'.heap.Ns C m → FpOk X pins H' C → compPost (model X.prog X.w) X.A X.xe use Qf (.ref D) C (.ok .next) s') :
    wpAny (model X.prog X.w) X.A (comprehension (.ListComp elt [⟨tg, iter, ifs, 0⟩] sc pos) sc X.env pos' (newList []) false (eval iter X.env) use) Qf X.xe s := by
  have hfree : ∀ y ∈ sc.names, y.2 = .free → ∃ c, X.env.cells.lookup y.1 = some c := fun y hy e => (ok.free y hy e).elim (fun k => I.ok.has _ (.inl k)) fun k => I.ok.has _ (.inr k)
  refine comp_freeF (use := use) rfl hs (closure_ok hfree) ok.kind (fun y hy e => (ok.uniq y hy).trans (by rw [e])) ?_
  refine thn (hi.run pins s σ H _ I h) fun xv s1 hx => thn hx fun itv s2 k2 => ?_
  obtain ⟨it, fp, tn, J, H2, rfl, I2, T, st2, f2, q⟩ := k2
  refine wpAny_newObj_type (newEnv_comp ?_) (by show 0 ≤ sizeLine; decide)
  generalize hD : s2.heap.objs.size = D
  obtain ⟨Tn, ⟨m0, w0⟩, turn⟩ := q D (I2.hok.fresh (Nat.le_of_eq hD))
  generalize hs3 : ({ s2 with heap := s2.heap.push { cls := .type "list", data := .seq ([] : List Value).toArray } } : Shared) = s3
  have h3 : s3.heap = s2.heap.push { cls := .type "list", data := .seq ([] : List Value).toArray } := by rw [← hs3]
  have I3 : Inv X pins σ (upd H2 D (.lst [])) s3 := by
    rw [← hs3]
    refine I2.laid (t' := s2.toks) (fun b o e => Heap.get?_push_of_some _ e) (Nat.le_of_eq hD) ⟨Nat.zero_le _, [], 0, .nil, ?_⟩
    rw [← hD]
    exact Heap.get?_push_size _ rfl
  have f3 : ∀ b ∈ fp, FpOk X pins (upd H2 D (.lst [])) b ∧ b < s3.heap.objs.size := fun b hb => by
    obtain ⟨o, e, _⟩ := T.obj _ _ st2 b hb
    have hlt := Heap.lt_size e
    refine ⟨⟨?_, (f2 b hb).2⟩, by rw [h3, Heap.size_push]; exact Nat.lt_succ_of_lt hlt⟩
    rw [upd_ne (by rw [← hD]; exact Nat.ne_of_lt hlt)]
    exact (f2 b hb).1
  have I4 := block_start I3 ok hN f3
  have pg := hg s3 (upd H2 D (.lst [])) s3.heap.objs.size (cellsFrom (s3.heap.objs.size + 1) sc.names (cloFrom X.env.cells sc.names [])) fp
  have pt := ht s3 (upd H2 D (.lst [])) s3.heap.objs.size (cellsFrom (s3.heap.objs.size + 1) sc.names (cloFrom X.env.cells sc.names [])) fp
  have pe := he s3 (upd H2 D (.lst [])) s3.heap.objs.size (cellsFrom (s3.heap.objs.size + 1) sc.names (cloFrom X.env.cells sc.names [])) fp
  show codeAny _ _ (.compStart (.ListComp elt [⟨tg, iter, ifs, 0⟩] sc pos) 0 (.ref it) (.ref D) (compEnvC sc (cellsFrom (s3.heap.objs.size + 1) sc.names (cloFrom X.env.cells sc.names [])) s3.heap.objs.size X.env))
    (cpF (model X.prog X.w) X.A X.xe use Qf (.ref D) (compEnvC sc (cellsFrom (s3.heap.objs.size + 1) sc.names (cloFrom X.env.cells sc.names [])) s3.heap.objs.size X.env)) { s3 with heap := pushCells (s3.heap.push { cls := .type "dict", data := .dict #[] }) sc.names }
  generalize hce : compEnvC sc (cellsFrom (s3.heap.objs.size + 1) sc.names (cloFrom X.env.cells sc.names [])) s3.heap.objs.size X.env = ce at I4 pg pt pe ⊢
  have cL : ce.locals = s3.heap.objs.size := by subst hce; rfl
  have cF : ce.frame = X.env.frame := by subst hce; rfl
  have tb := takes_blk (sc := sc) (use := use) (Qf := Qf) (acc := .ref D) hstk hfr cF cL I3 (fun b hb => (f3 b hb).1) tk
  have pe := pe _ _ tb
  generalize hH3 : upd H2 D (.lst []) = H3 at I3 I4 pg pt pe w0 f3
  generalize hs4 : ({ s3 with heap := pushCells (s3.heap.push { cls := .type "dict", data := .dict #[] }) sc.names } : Shared) = s4 at I4 ⊢
  have st4 : tn 0 s4.heap := T.keep _ _ _ st2 fun b _ o e => by
    rw [← hs4]
    exact pushCells_keeps _ _ _ _ (Heap.get?_push_of_some _ (by rw [h3]; exact Heap.get?_push_of_some _ e))
  have nfp : ∀ b ∈ fp, H3 b = none := fun b hb => (f3 b hb).1.1
  have stat : ∀ {σ' : L2.St} {H' : Hp} {s' : Shared}, Inv (X.blk s3 H3 sc ce fp) [] σ' H' s' → (∀ b ∈ fp, H' b = none) → ∀ b ∈ fp, FpOk (X.blk s3 H3 sc ce fp) [] H' b := fun {σ' H' s'} I' hn b hb =>
    ⟨hn b hb, (I'.ok.exf b hb).1, I'.ok.exfs b hb, .inl hb, (I'.ok.exf b hb).2, fun p hp => absurd (show p ∈ ([] : List (Addr × Obj)) ++ [] from hp) (by simp)⟩
  have loop : codeAny (model X.prog X.w) X.A (.compLoop (.ListComp elt [⟨tg, iter, ifs, 0⟩] sc pos) 0 (.ref it) (.ref D) ce) (cpF (model X.prog X.w) X.A X.xe use Qf (.ref D) ce) s4 := by
    refine compLoop_any (fun n s' => ∃ i H', Inv (X.blk s3 H3 sc ce fp) [] (wipe σ (own.map (·.2))) H' s' ∧ tn i s'.heap ∧ (∀ b ∈ fp, H' b = none) ∧ Tn i n H') ?_ m0 ⟨0, H3, I4, st4, nfp, w0⟩
    rintro n s5 ⟨i, H5, I5, st5, n5, w5⟩
    rcases turn i n H5 w5 with ⟨stop, qq⟩ | ⟨go, Nx, hNx, step⟩
    · refine thnF (T.done (X.blk s3 H3 sc ce fp) rfl rfl rfl hc i [] s5 _ H5 (fun _ _ => False) I5 (stat I5 n5) st5 stop) fun r s6 ⟨hr, I6⟩ => ?_
      subst hr
      have I7 : Inv X pins σ H5 s6 := I3.call' (ch := fp) I6.os I6.base I6.hok I6.bare fun b hb => ⟨(f3 b hb).1.2.2.2.1, (f3 b hb).1.2.1, (f3 b hb).1.2.2.2.2.1, (f3 b hb).1.2.2.2.2.2⟩
      have nC : H5 ce.locals = none := I6.free
      obtain ⟨m, hn, _⟩ := I6.loc
      have hn : s6.heap.Ns ce.locals m := hn
      exact hRR D ce.locals s6 m H5 I7 qq hn (I3.fpOk (Nat.le_of_eq cL.symm) nC)
    · refine thnF (T.item (X.blk s3 H3 sc ce fp) rfl rfl rfl hc i [] s5 _ H5 (fun _ _ => False) I5 (stat I5 n5) st5 go) fun r s6 ⟨u, hr, h6⟩ => ?_
      subst hr
      refine thnF h6 fun _ s7 ⟨x, H7, I7, r7, y7, st7, n7⟩ => ?_
      have I7' := I7.pinned (stat I7 n7) (T.obj _ _ st7)
      refine thnF (pg.run _ s7 _ H7 x u _ I7' r7 (step x H7 y7)) fun _ s8 ⟨σ8, H8, I8, hw8, q8⟩ => ?_
      refine thnF (pt.run _ s8 σ8 H8 _ I8 q8) fun b s9 ⟨H9, I9, q9⟩ => ?_
      have fin : ∀ {s' : Shared} {H' : Hp}, Inv (X.blk s3 H3 sc ce fp) ([] ++ pinsAt fp s7.heap) σ8 H' s' → Nx H' → ∃ m, m < n ∧ ∃ i H', Inv (X.blk s3 H3 sc ce fp) [] (wipe σ (own.map (·.2))) H' s' ∧ tn i s'.heap ∧ (∀ b ∈ fp, H' b = none) ∧ Tn i m H' := fun {s' H'} I' nx => by
        obtain ⟨m', hm, w'⟩ := hNx H' nx
        have pin' : ∀ b ∈ fp, ∀ o, s7.heap.get? b = some o → s'.heap.get? b = some o ∧ H' b = none := fun b hb o e =>
          have z := I'.pin (b, o) (List.mem_append_right _ (List.mem_append_right _ (mem_pinsAt hb e)))
          ⟨z.1, z.2.1⟩
        refine ⟨m', hm, i + 1, H', (I'.unpinned (pins := [])).weak (by rw [← hw8, wipe_length]) (fun j v e => ?_), T.keep _ _ _ st7 fun b hb o e => (pin' b hb o e).1, fun b hb => ?_, w'⟩
        · rw [← hw8] at e
          exact (wipe_some e).1
        · obtain ⟨o, e, _⟩ := T.obj _ _ st7 b hb
          exact (pin' b hb o e).2
      cases b with
      | false =>
        simp only [Bool.false_eq_true, if_false] at q9 ⊢
        exact fin I9 q9
      | true =>
        simp only [if_true] at q9 ⊢
        refine thn (pe.run _ s9 σ8 H9 _ (inv_xe I9) q9) fun z s10 ⟨yv, H10, I10, r10, acc, hD10, hz10, nx⟩ => ?_
        have I10 : Inv (X.blk s3 H3 sc ce fp) ([] ++ pinsAt fp s7.heap) σ8 H10 s10 := inv_xe I10
        exact app_ok (X := X.blk s3 H3 sc ce fp) I10 hD10 hz10 r10 fun s11 I11 => fin I11 nx
  exact codeAny_compStart_list loop (T.self X.A 0 _ _ _ st4 loop)
/-- the block's names let go -/
theorem let_go {pins : List (Addr × Obj)} {σ : L2.St} {H : Hp} {s : Shared} {C : Addr} {h1 : Heap} (I : Inv X pins σ H s) (f : FpOk X pins H C) (sb : Heap.SameBut C s.heap h1) : Inv X pins σ H { s with heap := h1 } :=
  I.turned (t' := s.toks) (fun b o hb e => (sb.2 b hb).trans e) f.1 f.2.1 f.2.2.2.1 f.2.2.2.2.1 f.2.2.2.2.2
theorem pe_lcE {W : L2.WX} {elt tg iter : Expr} {ifs : List Expr} {sc : Scope} {own : List (Str × Nat)} {pos : Pos} {wi : TI} {g : TG} {tt : TT} {te : L2.WX → TE} (hstk : X.stack = X.env :: X.outer) (hfr : X.env.frame = some X.env.locals) (tk : L2N.Takes X W)
    (hc : X.calm = true) (hN : X.N.Nodup) (hi : PI X tg iter wi) (ok : BlkOk X.N X.env.scope sc own) (hg : ∀ (s : Shared) (H : Hp) (C : Addr) (cl : List (Str × Addr)) (fp : List Addr), PG (X.blk s H sc (compEnvC sc cl C X.env) fp) tg g)
    (ht : ∀ (s : Shared) (H : Hp) (C : Addr) (cl : List (Str × Addr)) (fp : List Addr), PTs (X.blk s H sc (compEnvC sc cl C X.env) fp) ifs tt)
    (he : ∀ (s : Shared) (H : Hp) (C : Addr) (cl : List (Str × Addr)) (fp : List Addr) (xe : Value → Shared → Prop) (Wb : L2.WX), L2N.Takes (blkE X s H sc (compEnvC sc cl C X.env) fp xe) Wb → PE (blkE X s H sc (compEnvC sc cl C X.env) fp xe) elt (te Wb))
    (hs : ∀ x, foldedSetIterable iter X.env x = pure x := by intro _; rfl) : PE X (.ListComp elt [⟨tg, iter, ifs, 0⟩] sc pos) (tLcE W wi g tt te (own.map (·.2))) := by
  refine ⟨fun pins s σ H Q I h => ?_⟩
  rw [eval_ListComp]
  exact lc_coreE hstk hfr tk hc hN I hi ok hg ht he hs h fun D C s' m H' I' q hn f => ⟨m, hn, fun h1 sb => ⟨.ref D, H', let_go I' f sb, rfl, q⟩⟩
theorem ps_setLcE {W : L2.WX} {i : Nat} {y : Str} {py : Pos} {elt tg iter : Expr} {ifs : List Expr} {sc : Scope} {own : List (Str × Nat)} {pos spos : Pos} {wi : TI} {g : TG} {tt : TT} {te : L2.WX → TE} (hstk : X.stack = X.env :: X.outer) (hfr : X.env.frame = some X.env.locals) (tk : L2N.Takes X W)
    (hc : X.calm = true) (hN : X.N.Nodup) (hy : X.N[i]? = some y) (hyl : X.env.scope.names.lookup y = some .local) (hsw : swapsWith (.ListComp elt [⟨tg, iter, ifs, 0⟩] sc pos) (some (.Name y py)) spos.line X.env = pure true)
    (hi : PI X tg iter wi) (ok : BlkOk X.N X.env.scope sc own) (hg : ∀ (s : Shared) (H : Hp) (C : Addr) (cl : List (Str × Addr)) (fp : List Addr), PG (X.blk s H sc (compEnvC sc cl C X.env) fp) tg g)
    (ht : ∀ (s : Shared) (H : Hp) (C : Addr) (cl : List (Str × Addr)) (fp : List Addr), PTs (X.blk s H sc (compEnvC sc cl C X.env) fp) ifs tt)
    (he : ∀ (s : Shared) (H : Hp) (C : Addr) (cl : List (Str × Addr)) (fp : List Addr) (xe : Value → Shared → Prop) (Wb : L2.WX), L2N.Takes (blkE X s H sc (compEnvC sc cl C X.env) fp xe) Wb → PE (blkE X s H sc (compEnvC sc cl C X.env) fp xe) elt (te Wb))
    (hs : ∀ x, foldedSetIterable iter X.env x = pure x := by intro _; rfl) : PS X (.Assign [.Name y py] (.ListComp elt [⟨tg, iter, ifs, 0⟩] sc pos) spos) (tAsg (tLcE W wi g tt te (own.map (·.2))) (gName i)) := by
  refine ⟨fun pins s σ H D I h => ?_⟩
  rw [exec_Assign_Name_used _ _ _ _ hsw]
  refine wpAny_bind (wpAny_standAt (wpAny_bind ?_))
  have h : tLcE W wi g tt te (own.map (·.2)) σ H (fun x H1 => gName i x σ H1 D.nx) := h
  refine wpAny_bind (thn (lc_coreE (use := some (assign (.Name y py) X.env)) (Qf := fun _ s' => SP X pins D .next s') hstk hfr tk hc hN I hi ok hg ht he hs h fun L C s' m H' I' q hn f => ?_) fun _ s' hq => wpAny_pure (wpAny_pure hq))
  show wpAny _ _ (assign (.Name y py) X.env (.ref L)) _ _ _
  refine wpAny_assign_Name (store_ok2 (v := V.ref L) I' hN hy (.inl hyl) rfl (fun s2 I2 ⟨a, sb, ha⟩ => ?_) (.inr hyl))
  have haC : C ≠ a := ha.elim (fun z => by rw [z]; exact f.2.1) fun z e => f.2.2.2.2.1 y a z e.symm
  exact ⟨m, hn.sameBut sb haC, fun h3 sb3 => ⟨_, H', let_go I2 f sb3, q⟩⟩
end
end DL

namespace DL
open PySem PySem.Spec L2
def lcLX (tg : MG) (vs : List Nat) (mt : MT) (me : ME) : List D → List D → Env → Rs (List D)
  | acc, [], ρ => .ok acc ρ
  | acc, d :: ds, ρ => match tg d (wipeE ρ vs) with
    | none => .bad
    | some ρ1 => match mt ρ1 with
      | .ok b ρ2 => if b = true then (match me ρ2 with
        | .ok o ρ3 => match esc o ρ3 with
          | some (y, ρ4) => if acc.length < 16777216 then lcLX tg vs mt me (acc ++ [y]) ds ρ4 else .bad
          | none => .bad
        | .ex c ρ3 => .ex c ρ3
        | .bad => .bad) else lcLX tg vs mt me acc ds ρ2
      | _ => .bad
def mLcX (mi : MI) (tg : MG) (vs : List Nat) (mt : MT) (me : ME) : ME := fun ρ => (mi ρ).bind fun ds ρ1 => if okOld vs ρ1 = true then (match lcLX tg vs mt me [] ds ρ1 with
  | .ok acc ρ2 => .ok (.val (.node true .lst acc)) (restE vs 0 ρ1 ρ2)
  | .ex c ρ2 => .ex c (restE vs 0 ρ1 ρ2)
  | .bad => .bad) else .bad
section
variable {G : Cfg} {W : WX} {n t np : Nat} {B H B' H' B1 H1 B2 H2 B3 H3 : Hp} {ow ow' ow1 ow2 ow3 : Ow} {σ : L2.St} {ρ ρ' ρ1 ρ2 : Env} {v : V} {X : Cx} {E : Ends}
/-- behind the block the names are what they were -/
theorem rest_simX {vs : List Nat} {σ' : L2.St} {ρ1 ρ' : Env} (ho : okOld vs ρ1 = true) (S1 : Sim G B1 H1 ow1 σ ρ1) (sb : Same B1 B') (S' : Sim G B' H' ow' σ' ρ') (hσ : ∀ j, j ∉ vs → σ'[j]? = σ[j]?) (hl : ρ'.length = ρ1.length) : Sim G B' H' ow' σ (restE vs 0 ρ1 ρ') := by
  refine ⟨S'.same, S'.lab, ?_, fun j d e2 => ?_, S1.fix⟩
  · rw [restE_length hl]; exact S1.len
  · rcases restE_get e2 with ⟨c, e3⟩ | ⟨c, e3⟩
    · rw [Nat.zero_add] at c
      have hz : d.fz = true := by
        unfold okOld at ho
        rw [List.all_eq_true] at ho
        have := ho j (by simpa using c)
        rw [e3] at this
        exact this
      obtain ⟨w, hw, hr⟩ := S1.slot j d e3
      exact ⟨w, hw, ((hr.fz hz).same sb).rp⟩
    · rw [Nat.zero_add] at c
      have hj : j ∉ vs := by simpa using c
      obtain ⟨w, hw, hr⟩ := S'.slot j d e3
      rw [hσ j hj] at hw
      exact ⟨w, hw, hr⟩
theorem post_lcX {mi : MI} {g : TG} {tg : MG} {l vs : List Nat} {mt : MT} {me : ME} {Q : VK} (htg : TgOk G l g tg) (hl : ∀ i ∈ l, i ∈ vs) (hx : ∀ i ∈ vs, fxOk G.fx i) (q : tD G W (mLcX mi tg vs mt me) σ H Q) :
    tLcE W (tDI G W mi) g (tDT G Wno mt) (fun Wb => tD G Wb me) vs σ H Q := by
  obtain ⟨B, ow, ρ, t, S, hb, hn, P⟩ := q
  refine ⟨B, ow, ρ, t, S, hb, hn, ?_⟩
  unfold mLcX at P
  cases e : mi ρ with
  | bad => rw [e] at P; exact P
  | ex c ρ1 => rw [e] at P; exact P
  | ok ds ρ1 =>
    rw [e, Rs.bind_ok] at P
    intro J vs' B1 H1 ow1 s1 S1 b1 st fz L hL
    have hl1 := S.len2 S1
    by_cases ho : okOld vs ρ1 = true
    case neg => rw [if_neg ho] at P; exact P.elim
    rw [if_pos ho] at P
    generalize eF : lcLX tg vs mt me [] ds ρ1 = RF at P
    have nB : RF ≠ .bad := fun z => by rw [z] at P; exact P
    refine ⟨fun i m H' => m = ds.length - i ∧ i ≤ ds.length ∧ ∃ B' ow' ρ' acc va, Stq ρ.length t B H ow B' H' ow' ∧ Same B1 B' ∧ Sim G B' H' ow' (L2.wipe σ vs) (wipeE ρ' vs) ∧ ρ'.length = ρ.length ∧ Bd ow' (t + 1) ∧ ow' L = some (t, []) ∧ H' L = some (.lst va) ∧
      RgL (RpN G B' H' ow' t) [] 0 va acc ∧ lcLX tg vs mt me acc (ds.drop i) ρ' = RF, ⟨_, rfl, Nat.zero_le _, B1, putO ow1 L (t, []), ρ1, [], [], (s1.trans (Stp.newv S1 hL)).q, Same.refl _, (S1.newv hL).wipe hx, hl1, fun a i p h => ?_, putO_same, upd_same, rfl, eF⟩, ?_⟩
    · by_cases z : a = L
      · subst z; rw [putO_same] at h; cases h; omega
      · rw [putO_ne z] at h; have := b1 a i p h; omega
    rintro i m H' ⟨em, hi, B', ow', ρ', acc, va, sq, sb, S', l', b', oL, hL', kids, eq⟩
    have sH : Same B1 H' := sb.trans S'.same
    have hwl : (wipeE ρ' vs).length = ρ.length := by rw [wipeE_length, l']
    cases ed : ds.drop i with
    | nil =>
      left
      have hi2 : i = vs'.length := by
        have := congrArg List.length ed
        rw [List.length_drop, List.length_nil] at this
        rw [fz.length]
        omega
      rw [hi2]
      refine ⟨st.stop H' sH, ?_⟩
      rw [ed, lcLX] at eq
      subst eq
      refine P (.ref L) B' H' ow' (sq.p hb) ⟨S'.same, S'.lab, ?_, fun j d e2 => ?_, S1.fix⟩ b' ?_
      · rw [restE_length (by rw [l', hl1]), hl1]; exact S.len
      · rcases restE_get e2 with ⟨c, e3⟩ | ⟨c, e3⟩
        · rw [Nat.zero_add] at c
          have hz : d.fz = true := by
            unfold okOld at ho
            rw [List.all_eq_true] at ho
            have := ho j (by simpa using c)
            rw [e3] at this
            exact this
          obtain ⟨w, hw, hr⟩ := S1.slot j d e3
          exact ⟨w, hw, ((hr.fz hz).same sb).rp⟩
        · rw [Nat.zero_add] at c
          have hj : j ∉ vs := by simpa using c
          obtain ⟨w, hw, hr⟩ := S'.slot j d (by rw [wipeE_get hj]; exact e3)
          rw [wipe_get hj] at hw
          exact ⟨w, hw, hr⟩
      · show Rg _ _ _ _
        rw [Rg]
        refine ⟨L, va, rfl, ?_, kids⟩
        unfold RpN
        rw [if_pos rfl]
        exact ⟨oL, hL'⟩
    | cons d r =>
      right
      obtain ⟨v, hv, zv, hiv, er⟩ := fz.drop1 ed
      rw [ed, lcLX] at eq
      refine ⟨st.go i H' sH hiv, fun H2 => ∃ B2 ow2 ρ2 acc2 va2, Stq ρ.length t B H ow B2 H2 ow2 ∧ Same B1 B2 ∧ Sim G B2 H2 ow2 (L2.wipe σ vs) (wipeE ρ2 vs) ∧ ρ2.length = ρ.length ∧ Bd ow2 (t + 1) ∧ ow2 L = some (t, []) ∧ H2 L = some (.lst va2) ∧
        RgL (RpN G B2 H2 ow2 t) [] 0 va2 acc2 ∧ lcLX tg vs mt me acc2 r ρ2 = RF, fun H2 h => ⟨ds.length - (i + 1), by rw [fz.length] at hiv; omega, rfl, by rw [fz.length] at hiv; omega, by rw [er]; exact h⟩, fun x H2 hy => ?_⟩
      obtain ⟨rfl, hx2⟩ := st.yld i H' x H2 sH hiv hy
      rw [hv] at hx2
      cases hx2
      cases e3 : tg d (wipeE ρ' vs) with
      | none => simp only [e3] at eq; exact absurd eq.symm nB
      | some ρ2 =>
        simp only [e3] at eq
        refine htg v d _ _ ρ2 B' H2 ow' _ S' (zv.same sb) e3 fun σ3 ow3 s3 S3 l3 k3 o3 p3 => ?_
        rw [hwl] at s3
        have hl3 : ρ2.length = ρ.length := by rw [← S3.len, l3, S'.len, hwl]
        have wσ : L2.wipe σ3 vs = L2.wipe σ vs := by
          have h1 : L2.wipe σ3 vs = L2.wipe (L2.wipe σ vs) vs := wipe_eq l3 fun i hi => k3 i fun h => hi (hl i h)
          rw [h1]
          exact wipe_eq (wipe_length _ _) fun i hi => wipe_get hi
        refine ⟨wσ, B', ow3, ρ2, t + 1, S3, fun a i p h => b' a i p (o3 a i p h), by omega, ?_⟩
        rw [hl3]
        cases e4 : mt ρ2 with
        | bad => rw [e4] at eq; exact absurd eq.symm nB
        | ex c ρ4 => rw [e4] at eq; exact absurd eq.symm nB
        | ok b ρ4 =>
          simp only [e4] at eq
          intro B4 H4 ow4 s4 S4 b4
          have hl4 : ρ4.length = ρ.length := by rw [← S4.len, l3, S'.len, hwl]
          have s34 := s3.trans s4
          cases b with
          | false =>
            rw [if_neg Bool.false_ne_true] at eq ⊢
            obtain ⟨k1, k2⟩ := s34.keepP L t [] oL hn
            exact ⟨B4, ow4, ρ4, acc, va, sq.trans s34.q, sb.trans s34.sb, by rw [← wσ]; exact S4.wipe hx, hl4, b4, k1, k2.trans hL', s34.rpl hn kids, eq⟩
          | true =>
            rw [if_pos rfl] at eq ⊢
            refine ⟨B4, ow4, ρ4, t + 1, S4, b4, by omega, ?_⟩
            rw [hl4]
            cases e5 : me ρ4 with
            | bad => rw [e5] at eq; exact absurd eq.symm nB
            | ex c ρ5 =>
              rw [e5] at eq
              subst eq
              intro x dd B5 H5 ow5 s5 S5 ev
              have hl5 : ρ5.length = ρ.length := by rw [← S5.len, l3, S'.len, hwl]
              refine P x dd B5 H5 ow5 ((sq.trans (s34.trans s5).q).p hb) (rest_simX ho S1 (sb.trans (s34.trans s5).sb) S5 (fun j hj => ?_) (by omega)) ev
              rw [← wipe_get (σ := σ3) hj, wσ, wipe_get hj]
            | ok o ρ5 =>
              simp only [e5] at eq
              intro y B5 H5 ow5 s5 S5 b5 r5
              have hl5 : ρ5.length = ρ.length := by rw [← S5.len, l3, S'.len, hwl]
              cases e6 : esc o ρ5 with
              | none => simp only [e6] at eq; exact absurd eq.symm nB
              | some w =>
                obtain ⟨dy, ρ6⟩ := w
                simp only [e6] at eq
                obtain ⟨B6, ow6, s6, S6, b6, r6⟩ := esc_ok S5 b5 r5 e6
                rw [hl5] at s6
                have hl6 := S5.len2 S6
                have s36 := (s34.trans s5).trans s6
                obtain ⟨k1, k2⟩ := s36.keepP L t [] oL hn
                split at eq
                · rename_i hc
                  refine ⟨va, k2.trans hL', by rw [kids.length]; exact line_lt hc, B6, mvO ow6 (t + 1) t [acc.length] false, ρ6, acc ++ [dy], va ++ [y], (sq.trans s36.q).trans (Stq.more (k2.trans hL') k1), sb.trans s36.sb, ?_, by omega, fun a i p h => ?_, ?_, upd_same, ?_, eq⟩
                  · rw [← wσ]
                    exact (S6.more (q := [acc.length]) (by omega) k1).wipe hx
                  · rcases mvO_some h with ⟨p', e, rfl, _⟩ | ⟨e, h1, _⟩
                    · omega
                    · have := b6 a i p e; omega
                  · exact mvO_else k1 (by omega) (by simp)
                  · refine RgL.append (kids_more k1 (s36.rpl hn kids)) ?_
                    rw [Nat.zero_add, RgL]
                    exact ⟨y, [], rfl, item_more k1 r6, rfl⟩
                · exact absurd eq.symm nB
theorem d_lcX {elt tg iter : Expr} {ifs : List Expr} {scope : Scope} {own : List (Str × Nat)} {pos : Pos} {mi : MI} {g : TG} {l : List Nat} {tgm : MG} {mt : MT} {me : ME} (hstk : X.stack = X.env :: X.outer) (hfr : X.env.frame = some X.env.locals) (tk : L2N.Takes X W)
    (hc : X.calm = true) (hN : X.N.Nodup) (hi : PI X tg iter (tDI G W mi)) (ok : BlkOk X.N X.env.scope scope own)
    (hg : ∀ (s : Shared) (H : Hp) (C : Addr) (cl : List (Str × Addr)) (fp : List Addr), PG (X.blk s H scope (compEnvC scope cl C X.env) fp) tg g) (htg : TgOk G l g tgm) (hl : ∀ i ∈ l, i ∈ own.map (·.2)) (hx : ∀ i ∈ own.map (·.2), fxOk G.fx i)
    (ht : ∀ (s : Shared) (H : Hp) (C : Addr) (cl : List (Str × Addr)) (fp : List Addr), PTs (X.blk s H scope (compEnvC scope cl C X.env) fp) ifs (tDT G Wno mt))
    (he : ∀ (s : Shared) (H : Hp) (C : Addr) (cl : List (Str × Addr)) (fp : List Addr) (xe : Value → Shared → Prop) (Wb : L2.WX), L2N.Takes (blkE X s H scope (compEnvC scope cl C X.env) fp xe) Wb → PE (blkE X s H scope (compEnvC scope cl C X.env) fp xe) elt (tD G Wb me))
    (hs : ∀ x, foldedSetIterable iter X.env x = pure x := by intro _; rfl) :
    PE X (.ListComp elt [⟨tg, iter, ifs, 0⟩] scope pos) (tD G W (mLcX mi tgm (own.map (·.2)) mt me)) := (pe_lcE (te := fun Wb => tD G Wb me) hstk hfr tk hc hN hi ok hg ht he hs).up fun σ H Q q => post_lcX htg hl hx q
theorem s_setLcX {i : Nat} {y : Str} {py : Pos} {elt tg iter : Expr} {ifs : List Expr} {scope : Scope} {own : List (Str × Nat)} {pos spos : Pos} {mi : MI} {g : TG} {l : List Nat} {tgm : MG} {mt : MT} {me : ME} (hstk : X.stack = X.env :: X.outer) (hfr : X.env.frame = some X.env.locals) (tk : L2N.Takes X W)
    (hc : X.calm = true) (hN : X.N.Nodup) (hy : X.N[i]? = some y) (hyl : X.env.scope.names.lookup y = some .local)
    (hsw : swapsWith (.ListComp elt [⟨tg, iter, ifs, 0⟩] scope pos) (some (.Name y py)) spos.line X.env = pure true) (hfx : fxOk G.fx i) (hi : PI X tg iter (tDI G W mi)) (ok : BlkOk X.N X.env.scope scope own)
    (hg : ∀ (s : Shared) (H : Hp) (C : Addr) (cl : List (Str × Addr)) (fp : List Addr), PG (X.blk s H scope (compEnvC scope cl C X.env) fp) tg g) (htg : TgOk G l g tgm) (hl : ∀ i ∈ l, i ∈ own.map (·.2)) (hx : ∀ i ∈ own.map (·.2), fxOk G.fx i)
    (ht : ∀ (s : Shared) (H : Hp) (C : Addr) (cl : List (Str × Addr)) (fp : List Addr), PTs (X.blk s H scope (compEnvC scope cl C X.env) fp) ifs (tDT G Wno mt))
    (he : ∀ (s : Shared) (H : Hp) (C : Addr) (cl : List (Str × Addr)) (fp : List Addr) (xe : Value → Shared → Prop) (Wb : L2.WX), L2N.Takes (blkE X s H scope (compEnvC scope cl C X.env) fp xe) Wb → PE (blkE X s H scope (compEnvC scope cl C X.env) fp xe) elt (tD G Wb me))
    (hs : ∀ x, foldedSetIterable iter X.env x = pure x := by intro _; rfl) :
    PS X (.Assign [.Name y py] (.ListComp elt [⟨tg, iter, ifs, 0⟩] scope pos) spos) (tDS G W (mSet i (mLcX mi tgm (own.map (·.2)) mt me))) := ⟨fun pins s σ H E I q => by
  have hl' : i < σ.length := by
    rw [I.len]
    exact (List.getElem?_eq_some_iff.mp hy).1
  refine (ps_setLcE (te := fun Wb => tD G Wb me) hstk hfr tk hc hN hy hyl hsw hi ok hg ht he hs).run pins s σ H E I ?_
  obtain ⟨B, ow, ρ, S, hb, P⟩ := q
  exact post_lcX (W := W) htg hl hx ⟨B, ow, ρ, ρ.length, S, hb, Nat.le_refl _, post_set hfx S (by rw [← S.len]; exact hl') hb P⟩⟩
end
/-! ### plain rules -/
def kLcX (tg : MG) (vs : List Nat) (mt : MT) (me : ME) (X : XP) (Q : Opn → Env → Prop) (ds : List D) (ρ : Env) : Prop := okOld vs ρ = true ∧ match lcLX tg vs mt me [] ds ρ with
  | .ok acc ρ2 => Q (.val (.node true .lst acc)) (restE vs 0 ρ ρ2)
  | .ex c ρ2 => X c (restE vs 0 ρ ρ2)
  | .bad => False
theorem wE_lcX {X : XP} {ρ : Env} {mi : MI} {tg : MG} {vs : List Nat} {mt : MT} {me : ME} {Q : Opn → Env → Prop} : wE (mLcX mi tg vs mt me) X Q ρ = wI mi X (kLcX tg vs mt me X Q) ρ := by
  unfold wE wI mLcX kLcX
  cases e : mi ρ with
  | bad => rfl
  | ex c ρ1 => rfl
  | ok ds ρ1 =>
    simp only [Rs.bind_ok]
    by_cases h : okOld vs ρ1 = true
    · simp only [h, if_true, true_and]
      cases e2 : lcLX tg vs mt me [] ds ρ1 <;> rfl
    · have h0 : okOld vs ρ1 = false := by simpa using h
      simp [h0]
theorem lcLX_ok {tg : MG} {vs : List Nat} {mt : MT} {me : ME} : ∀ {ds acc : List D} {ρ : Env} {a : List D} {ρ2 : Env}, lcL tg vs mt me acc ds ρ = .ok a ρ2 → lcLX tg vs mt me acc ds ρ = .ok a ρ2
  | [], acc, ρ, a, ρ2, h => h
  | d :: ds, acc, ρ, a, ρ2, h => by
    rw [lcL] at h
    rw [lcLX]
    cases e : tg d (wipeE ρ vs) with
    | none => rw [e] at h; cases h
    | some ρ1 =>
      rw [e] at h
      simp only at h ⊢
      cases e1 : mt ρ1 with
      | bad => rw [e1] at h; cases h
      | ex c z => rw [e1] at h; cases h
      | ok b z =>
        rw [e1] at h
        simp only at h ⊢
        cases b with
        | false =>
          simp only [Bool.false_eq_true, if_false] at h ⊢
          exact lcLX_ok h
        | true =>
          simp only [if_true] at h ⊢
          cases e2 : me z with
          | bad => rw [e2] at h; cases h
          | ex c z => rw [e2] at h; cases h
          | ok o z =>
            rw [e2] at h
            simp only at h ⊢
            cases e3 : esc o z with
            | none => rw [e3] at h; cases h
            | some w =>
              obtain ⟨y, ρ4⟩ := w
              rw [e3] at h
              simp only at h ⊢
              split at h
              · rename_i c
                rw [if_pos c]
                exact lcLX_ok h
              · cases h
/-- nothing raised -/
theorem lcX_of {X : XP} {ρ : Env} {tg : MG} {vs : List Nat} {mt : MT} {me : ME} {Q : Opn → Env → Prop} {ds : List D} (h : kLc tg vs mt me Q ds ρ) : kLcX tg vs mt me X Q ds ρ := by
  obtain ⟨h1, acc, ρ2, h2, h3⟩ := h
  refine ⟨h1, ?_⟩
  rw [lcLX_ok h2]
  exact h3
end DL

namespace DL
open PySem PySem.Spec L2
/-! ### plain rules for places -/
theorem pQ_v {ρ : Env} {i : Nat} : pQ (qVar i) ρ = slotOf ρ i := by
  unfold pQ qVar
  cases e : slotOf ρ i with
  | none => simp [e]
  | some d => simp [e, D.at]
end DL

namespace DL
open PySem PySem.Spec L2
/-! ## < on tuples of numbers, on texts -/
def gLtX (l : List D) : Option D := match gLt l with
  | some d => some d
  | none => match l with
    | [.str i, .str j] => some (.bl (decide (i.cps.toList < j.cps.toList)))
    | [.node _ .tup xs, .node _ .tup ys] => (D.ints? xs).bind fun ns => (D.ints? ys).map fun ms => .bl (HT.lexLt ns ms)
    | _ => none
abbrev rLtI : R2 := rI0 fun i j => .bl (decide (i < j))
abbrev rLtS : R2 := fun x y H Q => ∃ i j, x = .str i ∧ y = .str j ∧ Q (.bl (decide (i.cps.toList < j.cps.toList))) H
abbrev rLtX (K : PySem.W.Frag) : R2 := fun x y H Q => rLtI x y H Q ∨ (rLtS x y H Q ∨ rLtT K x y H Q)
theorem op_ltX {X : Cx} (hu : X.A.units < cLine) : OpR X (compareOp .Lt) (rLtX X.K) := op_lt.or (op_lt_str.or (op_ltT hu))
theorem ok_ltX {G : Cfg} : OpOk G (r2L (rLtX G.K)) gLtX := by
  intro B H ow vs ds d Q S R e K
  unfold gLtX at e
  cases e0 : gLt ds with
  | some d0 =>
    rw [e0] at e
    cases e
    obtain ⟨x, y, rfl, q⟩ := (ok_cI (G := G) (p := fun i j => decide (i < j))) B H ow vs ds _ Q S R e0 K
    exact ⟨x, y, rfl, .inl q⟩
  | none =>
    rw [e0] at e
    simp only at e
    split at e
    · obtain ⟨v, w, u, z, rfl, h1, h2⟩ := R.two
      cases h1; cases h2; cases e
      exact ⟨_, _, rfl, .inr (.inl ⟨_, _, rfl, rfl, K.old _ (Fz.sv rfl)⟩)⟩
    · rename_i o1 xs o2 ys
      obtain ⟨v, w, u, z, rfl, h1, h2⟩ := R.two
      cases e1 : D.ints? xs with
      | none => rw [e1] at e; cases e
      | some ns =>
        cases e2 : D.ints? ys with
        | none => rw [e1, e2] at e; cases e
        | some ms =>
          rw [e1, e2] at e
          cases e
          obtain ⟨a, va, rfl, ha, ka⟩ := Rp.node S h1
          obtain ⟨b, vb, rfl, hb, kb⟩ := Rp.node S h2
          have z1 := D.ints?_some e1
          have z2 := D.ints?_some e2
          subst z1
          subst z2
          rw [kidsI ka] at ha
          rw [kidsI kb] at hb
          exact ⟨_, _, rfl, .inr (.inr ⟨a, b, ns, ms, rfl, rfl, ha, hb, K.old _ (Fz.sv rfl)⟩)⟩
    · cases e
theorem gLtX_i {i j : Int} : gLtX [.int i, .int j] = some (.bl (decide (i < j))) := Eq.trans rfl rfl
theorem gLtX_s {i j : Str} : gLtX [.str i, .str j] = some (.bl (decide (i.cps.toList < j.cps.toList))) := Eq.trans rfl rfl
theorem gLtX_t {o p : Bool} {xs ys : List D} {ns ms : List Int} (h1 : D.ints? xs = some ns) (h2 : D.ints? ys = some ms) : gLtX [.node o .tup xs, .node p .tup ys] = some (.bl (HT.lexLt ns ms)) := by
  show ((D.ints? xs).bind fun ns => (D.ints? ys).map fun ms => D.bl (HT.lexLt ns ms)) = _
  rw [h1, h2]
  rfl
end DL

namespace DL
open PySem PySem.Spec L2
section
variable {X : XP} {ρ : Env}
/-! ### a comprehension over a list that stays -/
def kLcV (i : Nat) (tg : MG) (vs : List Nat) (mt : MT) (me : ME) (Q : Opn → Env → Prop) (ρ : Env) (o : Option D) : Prop := match o with
  | some (.node true .lst ds) => D.fzs ds = true ∧ vs.contains i = false ∧ okOld vs ρ = true ∧ ∃ acc ρ2, lcV i ds tg vs mt me [] ds ρ = .ok acc ρ2 ∧ Q (.val (.node true .lst acc)) (restE vs 0 ρ ρ2)
  | _ => False
theorem wE_lcV {i : Nat} {tg : MG} {vs : List Nat} {mt : MT} {me : ME} {Q : Opn → Env → Prop} : wE (mLcV i tg vs mt me) X Q ρ = kLcV i tg vs mt me Q ρ (slotOf ρ i) := by
  unfold wE mLcV
  cases e : slotOf ρ i with
  | none => rfl
  | some d =>
    cases d with
    | node o k ds =>
      cases o with
      | false => rfl
      | true =>
        cases k with
        | lst =>
          unfold kLcV
          simp only
          by_cases c : D.fzs ds = true ∧ vs.contains i = false ∧ okOld vs ρ = true
          · rw [if_pos c]
            simp only [c.1, c.2.1, c.2.2, true_and]
            cases e2 : lcV i ds tg vs mt me [] ds ρ with
            | ok a ρ2 =>
              refine propext ⟨fun h => ⟨a, ρ2, rfl, h⟩, fun ⟨a', ρ', h1, h2⟩ => ?_⟩
              cases h1
              exact h2
            | ex => simp
            | bad => simp
          · rw [if_neg c]
            simp only [false_iff, eq_iff_iff]
            rintro ⟨h1, h2, h3, _⟩
            exact c ⟨h1, h2, h3⟩
        | _ => rfl
    | _ => rfl
theorem keepB_of {i : Nat} {ds : List D} (h : slotOf ρ i = some (.node true .lst ds)) : keepB i ds ρ = true := by
  unfold keepB
  rw [h]
  exact D.eqbs_refl ds
theorem slot_wipe {i : Nat} {vs : List Nat} {ρ' : Env} (h : wipeE ρ' vs = wipeE ρ vs) (hv : vs.contains i = false) : slotOf ρ' i = slotOf ρ i := by
  have hv' : i ∉ vs := by simpa using hv
  have : ρ'[i]? = ρ[i]? := by rw [← wipeE_get (ρ := ρ') hv', h, wipeE_get hv']
  unfold slotOf
  rw [this]
theorem lcV_go {α : Type} {emb : α → D} {i : Nat} {ds0 : List D} {tg : MG} {vs : List Nat} {mt : MT} {me : ME} (f : α → D) (p : α → Bool) (hs : slotOf ρ i = some (.node true .lst ds0)) (hv : vs.contains i = false) :
    ∀ (l : List α) (acc : List D) (ρ' : Env), wipeE ρ' vs = wipeE ρ vs → acc.length + l.length ≤ 16777216 →
    (∀ a ∈ l, ∃ ρ1, tg (emb a) (wipeE ρ vs) = some ρ1 ∧ wT mt (fun _ _ => False) (fun b ρ2 => b = p a ∧ (if b = true then wE me (fun _ _ => False) (fun o ρ3 => wO (esc o ρ3) fun x => x.1 = f a ∧ wipeE x.2 vs = wipeE ρ vs) ρ2 else wipeE ρ2 vs = wipeE ρ vs)) ρ1) →
    ∃ ρ2, lcV i ds0 tg vs mt me acc (l.map emb) ρ' = .ok (acc ++ (l.filter p).map f) ρ2 ∧ wipeE ρ2 vs = wipeE ρ vs
  | [], acc, ρ', hw, _, _ => by
    refine ⟨ρ', ?_, hw⟩
    rw [List.map_nil, lcV, if_pos (keepB_of ((slot_wipe hw hv).trans hs))]
    simp
  | a :: l, acc, ρ', hw, hl, h => by
    obtain ⟨ρ1, e1, h1⟩ := h a List.mem_cons_self
    rw [List.length_cons] at hl
    rw [List.map_cons, lcV, if_pos (keepB_of ((slot_wipe hw hv).trans hs)), hw, e1]
    simp only
    unfold wT at h1
    cases e2 : mt ρ1 with
    | bad => rw [e2] at h1; exact h1.elim
    | ex => rw [e2] at h1; exact h1.elim
    | ok b ρ2 =>
      rw [e2] at h1
      obtain ⟨hb, h1⟩ := h1
      simp only
      cases b with
      | false =>
        simp only [Bool.false_eq_true, if_false] at h1 ⊢
        obtain ⟨ρ3, e3, h3⟩ := lcV_go f p hs hv l acc ρ2 h1 (by omega) fun x hx => h x (List.mem_cons_of_mem _ hx)
        refine ⟨ρ3, ?_, h3⟩
        rw [e3, List.filter_cons, ← hb]
        rfl
      | true =>
        simp only [if_true] at h1 ⊢
        unfold wE at h1
        cases e3 : me ρ2 with
        | bad => rw [e3] at h1; exact h1.elim
        | ex => rw [e3] at h1; exact h1.elim
        | ok o ρ3 =>
          rw [e3] at h1
          simp only at h1 ⊢
          cases e4 : esc o ρ3 with
          | none => rw [e4] at h1; exact h1.elim
          | some x =>
            obtain ⟨y, ρ4⟩ := x
            rw [e4] at h1
            obtain ⟨h2, h3⟩ := h1
            simp only at h2 h3 ⊢
            rw [if_pos (by omega)]
            obtain ⟨ρ5, e5, h5⟩ := lcV_go f p hs hv l (acc ++ [y]) ρ4 h3 (by rw [List.length_append]; simp; omega) fun x hx => h x (List.mem_cons_of_mem _ hx)
            refine ⟨ρ5, ?_, h5⟩
            rw [e5, List.filter_cons, ← hb, h2]
            simp
/-- f of those with p -/
theorem lcV_pure {α : Type} {emb : α → D} {i : Nat} {tg : MG} {vs : List Nat} {mt : MT} {me : ME} {Q : Opn → Env → Prop} {l : List α} (f : α → D) (p : α → Bool) (hs : slotOf ρ i = some (.node true .lst (l.map emb))) (hz : D.fzs (l.map emb) = true) (hv : vs.contains i = false) (ho : okOld vs ρ = true) (hl : l.length ≤ 16777216)
    (h : ∀ a ∈ l, ∃ ρ1, tg (emb a) (wipeE ρ vs) = some ρ1 ∧ wT mt (fun _ _ => False) (fun b ρ2 => b = p a ∧ (if b = true then wE me (fun _ _ => False) (fun o ρ3 => wO (esc o ρ3) fun x => x.1 = f a ∧ wipeE x.2 vs = wipeE ρ vs) ρ2 else wipeE ρ2 vs = wipeE ρ vs)) ρ1)
    (q : Q (.val (.node true .lst ((l.filter p).map f))) ρ) : kLcV i tg vs mt me Q ρ (some (.node true .lst (l.map emb))) := by
  obtain ⟨ρ2, e, hw⟩ := lcV_go f p hs hv l [] ρ rfl (by simpa using hl) h
  refine ⟨hz, hv, ho, _, ρ2, e, ?_⟩
  rw [restE_wipe hw]
  exact q
end
/-! ### sorted -/
theorem ins_map {α β : Type} (f : α → β) (le : β → β → Bool) (x : α) : ∀ l : List α, ins le (f x) (l.map f) = (ins (fun a b => le (f a) (f b)) x l).map f
  | [] => rfl
  | y :: r => by
    rw [List.map_cons, ins, ins]
    split
    · rfl
    · rw [ins_map f le x r]; rfl
theorem isort_map {α β : Type} (f : α → β) (le : β → β → Bool) : ∀ l : List α, isort le (l.map f) = (isort (fun a b => le (f a) (f b)) l).map f
  | [] => rfl
  | x :: r => by rw [List.map_cons, isort, isort, isort_map f le r, ins_map]
/-- what is sorted: the same items, the first one least -/
theorem sortedX_l {α : Type} {f : α → D} {l : List α} {o : Bool} (hc : cmpOk (l.map f) = true) (hn : ∀ a ∈ l, D.ints? [f a] = none) :
    ∃ s : List α, s.Perm l ∧ gSortedX [.node o .lst (l.map f)] = some (.node true .lst (s.map f)) ∧ s.Pairwise fun a b => leD (f a) (f b) = true := by
  refine ⟨isort (fun a b => leD (f a) (f b)) l, isort_perm _ l, ?_, isort_pw (fun a b => leD (f a) (f b)) (fun a b c h1 h2 => leD_total.trans _ _ _ h1 h2) (fun a b => by have := leD_total.total (f a) (f b); simpa using this) l⟩
  unfold gSortedX
  cases l with
  | nil => rfl
  | cons a r =>
    have e : gSorted [.node o .lst ((a :: r).map f)] = none := by
      have h1 := hn a List.mem_cons_self
      unfold gSorted
      have h2 : D.ints? ((a :: r).map f) = none := by
        rw [List.map_cons]
        cases hfa : f a with
        | int i => rw [hfa] at h1; cases h1
        | _ => rfl
      simp only [true_or, if_true]
      rw [h2]
    rw [e]
    simp only
    rw [if_pos ⟨by simp, hc⟩, isort_map]
end DL

namespace DL
open PySem PySem.Spec L2
/-! ## a slot is frozen behind a statement (nothing is run for it) -/
def mFzS (i : Nat) (m : MS) : MS := fun ρ => match m ρ with
  | .nx ρ1 => if i < ρ1.length then .nx (frzS [i] ρ1) else .bad
  | o => o
theorem frzS_one {i : Nat} {ρ : Env} : frzS [i] ρ = frzE (fun j => j == i) 0 ρ := by
  unfold frzS
  congr 1
  funext k
  rw [List.contains_cons, List.contains_nil, Bool.or_false]
section
variable {G : Cfg} {W : WX} {n t np : Nat} {B H B' H' B1 H1 B2 H2 B3 H3 : Hp} {ow ow' ow1 ow2 ow3 : Ow} {σ : L2.St} {ρ ρ' ρ1 ρ2 : Env} {v : V} {X : Cx} {E : Ends}
theorem s_fzS {st : Stmt} {m : MS} (i : Nat) (h : PS X st (tDS G W m)) : PS X st (tDS G W (mFzS i m)) := ⟨fun pins s σ H D I q => h.run pins s σ H D I (by
  obtain ⟨B, ow, ρ, S, hb, P⟩ := q
  refine ⟨B, ow, ρ, S, hb, ?_⟩
  unfold mFzS at P
  cases e : m ρ with
  | nx ρ1 =>
    rw [e] at P
    intro σ' B' H' ow' s' S' l' b'
    simp only at P
    split at P
    · rename_i hi
      have hl : ρ1.length = ρ.length := by rw [← S'.len, l']
      have hP : ∀ j, (fun j => j == i) j = true → j < ρ1.length := fun j hj => by
        have : j = i := by simpa using hj
        omega
      rw [frzS_one] at P
      exact P σ' _ H' _ (s'.trans (by rw [← hl]; exact Stp.frz0 S' hP)) S'.frz l' b'.cut
    · exact P.elim
  | bk ρ1 => rw [e] at P; exact P
  | ct ρ1 => rw [e] at P; exact P
  | rt d ρ1 => rw [e] at P; exact P
  | ex c ρ1 => rw [e] at P; exact P
  | bad => rw [e] at P; exact P)⟩
end
section
variable {X : XP} {ρ : Env} {E : En}
def kFz (i : Nat) (Q : Env → Prop) (ρ : Env) : Prop := i < ρ.length ∧ Q (frzS [i] ρ)
theorem kFz_eq {i : Nat} {Q : Env → Prop} : kFz i Q ρ = (i < ρ.length ∧ Q (frzS [i] ρ)) := Eq.trans rfl rfl
theorem wS_fzS {i : Nat} {m : MS} : wS (mFzS i m) E ρ = wS m { E with nx := kFz i E.nx } ρ := by
  unfold wS mFzS
  cases e : m ρ with
  | nx ρ1 =>
    simp only
    unfold kFz
    by_cases h : i < ρ1.length
    · rw [if_pos h]; simp [h]
    · rw [if_neg h]; simp [h]
  | _ => rfl
end
end DL

namespace DL
open PySem PySem.Spec L2 PyProof.Rows
/-! ## sets of ints and texts that can be walked -/
def keyX (e : Int × Value) : Key := match e.2 with
  | .int k _ => .inl k
  | .str s _ => .inr s
  | _ => .inl 0
def GoodX (P : Program) (w : World) (e : Int × Value) : Prop := ∃ k, L2.RelV (L2.kV k) e.2 ∧ e.1 = (mixKind P w).hash k
def SetXR (P : Program) (w : World) (h : Heap) (a : Addr) (S : Key → Bool) (n : Nat) : Prop :=
  ∃ o es ep t, h.get? a = some o ∧ o.ExactSet ∧ o.data = .set es ep t ∧ (∀ e ∈ es.toList, GoodX P w e) ∧ (es.toList.map keyX).Nodup ∧ (∀ k, S k = true ↔ k ∈ es.toList.map keyX) ∧
    es.size < scanBound ∧ t.fits es.size = true ∧ es.size = n ∧ Ris t.place.toList ∧ (w.params.followText "set-order" = true ∨ t.led = true)
section
variable {P : Program} {w : World} {h h' : Heap} {a : Addr} {S : Key → Bool} {n : Nat}
theorem SetXR.at (R : SetXR P w h a S n) (k : ∀ o, h.get? a = some o → h'.get? a = some o) : SetXR P w h' a S n := by
  obtain ⟨o, es, ep, t, ho, r⟩ := R
  exact ⟨o, es, ep, t, k o ho, r⟩
theorem keyX_of {e : Int × Value} {k : Key} (r : L2.RelV (L2.kV k) e.2) : keyX e = k := by
  unfold keyX
  cases k with
  | inl i => obtain ⟨t, q⟩ := r; rw [q]
  | inr x => obtain ⟨t, q⟩ := r; rw [q]
theorem goodX_elems {l : List (Int × Value)} (g : ∀ e ∈ l, GoodX P w e) : ElemsOf (mixKind P w) l := fun e he => by
  obtain ⟨k, h1, h2⟩ := g e he
  refine ⟨⟨k, kV_is h1, h2⟩, ?_⟩
  cases k with
  | inl i => obtain ⟨t, q⟩ := h1; rw [q]; rfl
  | inr x => obtain ⟨t, q⟩ := h1; rw [q]; rfl
theorem goodX_is {e : Int × Value} (g : GoodX P w e) (k : Key) : (mixKind P w).is k e.2 = true ↔ keyX e = k := by
  obtain ⟨k0, h1, _⟩ := g
  rw [keyX_of h1]
  constructor
  · intro q
    exact (mixKind P w).inj _ _ _ (kV_is (P := P) (w := w) h1) q
  · rintro rfl
    exact kV_is h1
theorem goodX_mem {l : List (Int × Value)} (g : ∀ e ∈ l, GoodX P w e) (k : Key) : k ∈ l.map keyX ↔ ∃ e ∈ l, (mixKind P w).is k e.2 = true := by
  rw [List.mem_map]
  exact ⟨fun ⟨e, he, q⟩ => ⟨e, he, (goodX_is (g e he) k).2 q⟩, fun ⟨e, he, q⟩ => ⟨e, he, (goodX_is (g e he) k).1 q⟩⟩
theorem SetXR.setOf (R : SetXR P w h a S n) : h.SetOf (mixKind P w) a S n := by
  obtain ⟨o, es, ep, t, ho, hx, hd, g, nd, hm, hb, hf, hn, _⟩ := R
  exact ⟨o, es, ep, t, ho, hx, hd, goodX_elems g, fun k => (hm k).trans (goodX_mem g k), hb, hf, hn⟩
end
section
variable {P : Program} {w : World} {A : Around} {E : Value → Shared → Prop} {s : Shared} {a : Addr} {S : Key → Bool} {n : Nat}
theorem setX_tail {g : Bool → Sem Unit} (hg : ∀ (b : Bool) (z : Shared) (Q' : Unit → Shared → Prop), Q' () z → wpAny (model P w) A (g b) Q' E z)
    {o : Obj} {es : Array (Int × Value)} {ep : Nat} {t : SetTable} (ho : s.heap.get? a = some o) (hex : o.ExactSet) (hd : o.data = .set es ep t)
    {es1 : Array (Int × Value)} {t2 : SetTable} {S' : Key → Bool} (g1 : ∀ e ∈ es1.toList, GoodX P w e) (nd1 : (es1.toList.map keyX).Nodup) (m1 : ∀ k, S' k = true ↔ k ∈ es1.toList.map keyX)
    (hb1 : es1.size < scanBound) (hf2 : t2.fits es1.size = true) (hr : Ris t2.place.toList) (hl : w.params.followText "set-order" = true ∨ t2.led = true) {wasDummy : Bool} {R : Option Bool → Shared → Prop}
    (hR : ∀ h', Heap.SameBut a s.heap h' → SetXR P w h' a S' es1.size → R (some true) { s with heap := h' }) :
    wpAny (model P w) A (do
        storeSet a es1 t2
        if (!wasDummy && t2.tooFull) = true then do
            g (relayAll t2 es1 (SetTable.grown es1.size)).2.2
            storeSet a (relayAll t2 es1 (SetTable.grown es1.size)).1 (relayAll t2 es1 (SetTable.grown es1.size)).2.1
            pure (some true)
          else pure (some true)) R E s := by
  refine wpAny_bind (wpAny_storeSet_of ho hd ?_ (fits_of_scanBound hb1))
  have at1 := store_at (es' := es1) (t' := t2) ho hd
  have sb1 := Heap.SameBut.update s.heap a (Obj.putSet es1 t2)
  split
  · have pm := relayAll_perm t2 es1 (SetTable.grown es1.size)
    have f3 := relayAll_fits t2 es1 (SetTable.grown es1.size)
    have r3 := relayAll_ris t2 es1 (SetTable.grown es1.size)
    have l3 := relayAll_led t2 es1 (SetTable.grown es1.size)
    generalize relayAll t2 es1 (SetTable.grown es1.size) = Z at pm f3 r3 l3 ⊢
    obtain ⟨es2, t3, gave⟩ := Z
    dsimp only at pm f3 r3 l3 ⊢
    have hsz : es2.size = es1.size := by rw [← Array.length_toList, pm.length_eq, Array.length_toList]
    refine wpAny_bind (hg _ _ _ (wpAny_bind (wpAny_storeSet_of at1 rfl ?_ (fits_of_scanBound (by rw [hsz]; exact hb1)))))
    have at2 := store_at (es' := es2) (t' := t3) at1 rfl
    refine wpAny_pure (hR _ (sb1.trans (Heap.SameBut.update _ a _)) ⟨_, es2, _, t3, at2, hex, rfl, fun e he => g1 e (pm.mem_iff.mp he), ?_, fun k => ?_, by rw [hsz]; exact hb1, f3, hsz, r3, hl.imp id fun z => by rw [l3]; exact z⟩)
    · exact (pm.map keyX).nodup_iff.mpr nd1
    · exact (m1 k).trans (pm.map keyX).mem_iff.symm
  · exact wpAny_pure (hR _ sb1 ⟨_, es1, _, t2, at1, hex, rfl, g1, nd1, m1, hb1, hf2, rfl, hr, hl⟩)
theorem setX_hashed {k : Key} {u : Value} {Q : Bool → Shared → Prop} (ru : L2.RelV (L2.kV k) u) (R : SetXR P w s.heap a S n) (room : n + 1 < scanBound)
    (hQ : ∀ h', Heap.SameBut a s.heap h' → SetXR P w h' a (fun j => S j || decide (j = k)) (if S k = true then n else n + 1) → Q (!S k) { s with heap := h' }) :
    wpAny (model P w) A (setAddHashed a u ((mixKind P w).hash k)) Q E s := by
  obtain ⟨o, es, ep, t, ho, hex, hd, g, nd, hm, hb, hf, hn, hr, hl⟩ := R
  have hkey : (mixKind P w).is k u = true := kV_is ru
  have hsc : u.scannable = true := by
    cases k with
    | inl i => obtain ⟨t, q⟩ := ru; rw [q]; rfl
    | inr x => obtain ⟨t, q⟩ := ru; rw [q]; rfl
  have hel : ElemsOf (mixKind P w) es.toList := goodX_elems g
  unfold setAddHashed setAddHashedIn
  refine wpAny_holding (wpAny_bind (wpAny_setState_of ho hd hf ?_))
  dsimp only
  rw [byScan_of hsc hb hel]
  simp only [↓reduceIte]
  unfold setAddByScan
  refine wpAny_bind (wpAny_bind (wpAny_rule (wpAny_bind (wpAny_setScan_of hkey ho hd hf hel ?_))))
  cases hfi : List.findIdx? (fun e => (mixKind P w).is k e.2) es.toList with
  | some j =>
    dsimp only
    obtain ⟨hj, pj, _⟩ := List.findIdx?_eq_some_iff_getElem.mp hfi
    have hSk : S k = true := (hm k).2 ((goodX_mem (P := P) (w := w) g k).2 ⟨es.toList[j], List.getElem_mem hj, pj⟩)
    refine wpAny_pure (wpAny_pure ?_)
    have q := hQ s.heap (Heap.SameBut.refl a s.heap) ⟨o, es, ep, t, ho, hex, hd, g, nd, fun i => by
      rw [Bool.or_eq_true, decide_eq_true_eq, ← hm i]
      exact ⟨fun z => z.elim id (fun e => e ▸ hSk), .inl⟩, hb, hf, by rw [if_pos hSk]; exact hn, hr, hl⟩
    rw [hSk] at q
    exact q
  | none =>
    dsimp only
    have hnk : k ∉ es.toList.map keyX := fun z => by
      obtain ⟨e, he, q⟩ := (goodX_mem (P := P) (w := w) g k).1 z
      have c := List.findIdx?_eq_none_iff.mp hfi e he
      rw [q] at c
      cases c
    have hSk : S k = false := by
      cases q : S k with
      | false => rfl
      | true => exact absurd ((hm k).1 q) hnk
    have gave_ok : ∀ (b : Bool) {z : Shared} {Q' : Unit → Shared → Prop}, Q' () z → wpAny (model P w) A (match b with | true => rule "set.scan.the-table-gave-way" | false => pure ()) Q' E z :=
      fun b z Q' q => by cases b <;> first | exact wpAny_pure q | exact wpAny_rule q
    have pm := layNew_perm t es ((mixKind P w).hash k) u
    have f1 := layNew_fits t es ((mixKind P w).hash k) u
    have r1 := layNew_ris t es ((mixKind P w).hash k) u hr
    have l1 := layNew_led t es ((mixKind P w).hash k) u
    generalize layNew t es ((mixKind P w).hash k) u = Z at pm f1 r1 l1 ⊢
    obtain ⟨es1, t1, wasDummy, gave⟩ := Z
    dsimp only at pm f1 r1 l1 ⊢
    rw [Array.toList_push] at pm
    have pc : es1.toList.Perm (((mixKind P w).hash k, u) :: es.toList) := pm.trans (List.perm_append_singleton _ _)
    have pk : (es1.toList.map keyX).Perm (k :: es.toList.map keyX) := by
      have q := pc.map keyX
      rw [List.map_cons, keyX_of (e := ((mixKind P w).hash k, u)) ru] at q
      exact q
    have g1 : ∀ e ∈ es1.toList, GoodX P w e := fun e he => by
      rcases List.mem_cons.mp (pc.mem_iff.mp he) with z | z
      · rw [z]; exact ⟨k, ru, rfl⟩
      · exact g e z
    have nd1 : (es1.toList.map keyX).Nodup := pk.nodup_iff.mpr (List.nodup_cons.mpr ⟨hnk, nd⟩)
    have m1 : ∀ i, (S i || decide (i = k)) = true ↔ i ∈ es1.toList.map keyX := fun i => by
      rw [Bool.or_eq_true, decide_eq_true_eq, hm i, pk.mem_iff, List.mem_cons]
      exact Or.comm
    have hsz : es1.size = n + 1 := by rw [← Array.length_toList, pc.length_eq, List.length_cons, Array.length_toList, hn]
    have hb1 : es1.size < scanBound := by rw [hsz]; exact room
    have hled : w.params.followText "set-order" = true ∨ t1.led = true := hl.imp id fun z => by rw [l1]; exact z
    have fin : ∀ h', Heap.SameBut a s.heap h' → SetXR P w h' a (fun j => S j || decide (j = k)) es1.size → Q true { s with heap := h' } := fun h' sb r => by
      have q := hQ h' sb
      rw [hSk] at q
      rw [hsz] at r
      exact q r
    refine wpAny_bind (gave_ok _ ?_)
    split
    · refine wpAny_bind ?_
      rw [hashByValue_scannable 8 hsc]
      refine wpAny_pure (setX_tail ?_ ho hex hd g1 nd1 m1 hb1 ?_ ?_ ?_ ?_)
      · intro b z Q' q; cases b <;> first | exact wpAny_pure q | exact wpAny_rule q
      · first | (split <;> first | exact f1 | exact SetTable.fits_plain_off f1) | exact f1
      · first | (split <;> exact r1) | exact r1
      · first | (split <;> exact hled) | exact hled
      · intro h' sb r; dsimp only; exact wpAny_pure (fin h' sb r)
    · refine wpAny_bind (wpAny_pure ?_)
      simp only [↓reduceIte]
      refine setX_tail ?_ ho hex hd g1 nd1 m1 hb1 f1 r1 hled ?_
      · intro b z Q' q; cases b <;> first | exact wpAny_pure q | exact wpAny_rule q
      · intro h' sb r; dsimp only; exact wpAny_pure (fin h' sb r)
theorem setX_add {k : Key} {u : Value} {Q : Value → Shared → Prop} (ru : L2.RelV (L2.kV k) u) (R : SetXR P w s.heap a S n) (room : n + 1 < scanBound)
    (hQ : ∀ h', Heap.SameBut a s.heap h' → SetXR P w h' a (fun j => S j || decide (j = k)) (if S k = true then n else n + 1) → Q .none { s with heap := h', toks := s.toks + 1 }) :
    wpAny (model P w) A (call (.builtin "set.add") [.ref a, u]) Q E s := by
  have hS : s.heap.SetOf (mixKind P w) a S n := R.setOf
  refine wpAny_call_entry F.slot_set_add hS.typeIs F.entry_set_add ?_ (F.args_set_add_2 _ _)
  unfold Builtin.«set.add» Builtin.Frozenset.oneOther
  simp only [List.isEmpty_nil, bind_assoc]
  unfold Builtin.Frozenset.addrOf setAdd
  refine wpAny_bind (wpAny_pure ?_)
  try dsimp only
  refine wpAny_bind (wpAny_pure ?_)
  try dsimp only
  refine wpAny_bind (wpAny_holding (wpAny_bind ((mixKind P w).pyHash (kV_is ru) ?_)))
  refine setX_hashed (s := { s with toks := s.toks + 1 }) ru R room fun h' sb r => ?_
  show wpAny _ _ (ret Value.none) _ _ _
  exact wpAny_pure ⟨_, rfl, hQ h' sb r⟩
theorem setX_fresh {h : Heap} (P : Program) (w : World) : SetXR P w (h.push { cls := .type "set", dict := none, data := .set #[] 0 (.fresh 0 0 (!w.params.followText "set-order")) }) h.objs.size (fun _ => false) 0 :=
  ⟨_, #[], 0, _, Heap.get?_push_size _ rfl, ⟨rfl, rfl, rfl⟩, rfl, (fun e he => by simp at he), (by simp), (fun k => by simp), (by decide), (by rfl), rfl, List.Pairwise.nil, by
    show _ ∨ (!w.params.followText "set-order") = true
    cases w.params.followText "set-order"
    · exact .inr rfl
    · exact .inl rfl⟩
end
def SetX (P : Program) (w : World) (a : Addr) (S : Key → Bool) (n : Nat) : HO := .ext fun h => SetXR P w h a S n
theorem setX_new {w : World} {P : Program} {H : Hp} {h : Heap} {a : Addr} {S : Key → Bool} {n : Nat} (R : SetXR P w h a S n) : ObjOk P w H h a (SetX P w a S n) := by
  have ⟨o, _, _, _, ho, _⟩ := R
  exact ⟨R, ⟨o, ho⟩, fun h1 h2 p k => p.at k⟩
theorem setX_get {X : Cx} {pins : List (Addr × Obj)} {σ : L2.St} {H : Hp} {s : Shared} {a : Addr} {S : Key → Bool} {n : Nat} (I : Inv X pins σ H s) (ha : H a = some (SetX X.prog X.w a S n)) : SetXR X.prog X.w s.heap a S n := (I.hok a _ ha).1
section
variable {X : Cx}
def rSAddX (P : Program) (w : World) : V → List V → Hp → VK → Prop := fun x xs H Q => ∃ (a : Addr) (k : Key) (S : Key → Bool) (n : Nat), x = V.ref a ∧ xs = [L2.kV k] ∧ H a = some (SetX P w a S n) ∧ n + 1 < scanBound ∧
  Q .non (upd H a (SetX P w a (fun j => S j || decide (j = k)) (if S k = true then n else n + 1)))
theorem mt_saddX : MtR X "set.add" (rSAddX X.prog X.w) := by
  intro pins s σ H x xs v us Q I rx rxs h
  obtain ⟨a, k, S, n, rfl, rfl, ha, room, q⟩ := h
  cases rx
  cases rxs with
  | cons ry rt =>
    cases rt
    refine setX_add ry (setX_get I ha) room fun h' sb new => ?_
    have he : ∃ u, h'.get? a = some u := by
      have ⟨o, _, _, _, ho, _⟩ := new
      exact ⟨o, ho⟩
    exact ⟨.non, upd H a (SetX X.prog X.w a (fun j => S j || decide (j = k)) (if S k = true then n else n + 1)), I.write (e := a) (t' := s.toks + 1) (by rw [ha]; trivial) (.inl rfl) (fun b u hb hu => (sb.2 b hb).trans hu) he (setX_new new), rfl, q⟩
/-! ### sorted -/
def kD : Key → D
  | .inl i => .int i
  | .inr s => .str s
theorem pyD_kD (k : Key) : (kD k).py = some (pyD (kD k)) := by cases k <;> rfl
theorem kD_reads {h : Heap} {k : Key} {u : Value} (r : L2.RelV (L2.kV k) u) : Reads h u (pyD (kD k)) [] := by
  cases k with
  | inl i => obtain ⟨t, rfl⟩ := r; exact Reads.int _ _
  | inr x => obtain ⟨t, rfl⟩ := r; exact Reads.str _ _
def leK (a b : Key) : Bool := leD (kD a) (kD b)
def rSortX (P : Program) (w : World) : List V → Hp → VK → Prop := fun vs H Q => ∃ (p : Addr) (S : Key → Bool) (n : Nat), vs = [V.ref p] ∧ H p = some (SetX P w p S n) ∧ n ≤ 4096 ∧
  (∀ a b, S a = true → S b = true → PySem.W.alike (pyD (kD a)) (pyD (kD b)) = true) ∧
  ∀ (ks : List Key), ks.Nodup → (∀ k, S k = true ↔ k ∈ ks) → ∀ q, H q = none → Q (.ref q) (upd H q (.lst ((ks.mergeSort leK).map L2.kV)))
end
end DL

namespace DL
open PySem PySem.Spec L2 PyProof.Rows
theorem each_keys : ∀ {vs : List Value}, (∀ v ∈ vs, L2.RelV (L2.kV (keyX (0, v))) v) → PySem.W.EachIs (fun (u : Value) (k : Key) => L2.RelV (L2.kV k) u) vs (vs.map fun v => keyX (0, v))
  | [], _ => .nil
  | v :: vs, h => .cons (h v List.mem_cons_self) (each_keys fun u hu => h u (List.mem_cons_of_mem _ hu))
theorem keys_reads {h : Heap} {a : Addr} : ∀ {vs : List Value} {ks : List Key}, PySem.W.EachIs (fun (u : Value) (k : Key) => L2.RelV (L2.kV k) u) vs ks → PySem.W.EachIs (fun v b => ∃ as, Reads h v (pyD (kD b)) as ∧ a ∉ as) vs ks
  | _, _, .nil => .nil
  | _, _, .cons r t => .cons ⟨[], kD_reads r, by simp⟩ (keys_reads t)
theorem keys_vals : ∀ {vs : List Value} {ks : List Key}, PySem.W.EachIs (fun (u : Value) (k : Key) => L2.RelV (L2.kV k) u) vs ks → Vals (ks.map L2.kV) vs
  | _, _, .nil => .nil
  | _, _, .cons r t => .cons r (keys_vals t)
theorem sortable_keys (ks : List Key) : PySem.W.Sortable (ks.map fun k => pyD (kD k)) := .inr fun d hd => by
  obtain ⟨k, _, rfl⟩ := List.mem_map.mp hd
  cases k with
  | inl i => exact ⟨fun q => (by cases q), fun xs q => (by cases q)⟩
  | inr x => exact ⟨fun q => (by cases q), fun xs q => (by cases q)⟩
theorem depth_key (k : Key) : (pyD (kD k)).depth = 0 := by cases k <;> rfl
theorem cr_sortX {X : Cx} (hc : X.calm = true) (hu : X.A.units + 65 < cLine) : CallR X (.builtin "sorted") (rSortX X.prog X.w) := by
  intro pins s σ H vs us Q I r h
  obtain ⟨p, S, n, rfl, hp, hn, hal, q⟩ := h
  rw [Vals.ref1 r]
  obtain ⟨o, es, ep, t, ho, hex, hd, g, nd, hm, hb, hf, hsz, hr, hl⟩ := setX_get I hp
  refine Calls.call_function_entry kind_sorted plain_sorted entry_sorted (args_sorted1 _) ?_
  unfold Builtin.«sorted»
  refine wpAny_bind (m := checkCount "sorted" 1 1 _) (wpAny_pure ?_)
  refine wpAny_bind (collect_set (A := X.A.in1) (I.ok.hd hc) ⟨o, ho, hex.1, hd⟩ hf hb hr hl fun s1 vs k1 hz g1 o1 pm => ?_)
  have hvl : vs.length = n := by rw [pm.length_eq, List.length_map, Array.length_toList]; exact hsz
  have each := each_keys (vs := vs) fun v hv => by
    obtain ⟨e, he, eq⟩ := List.mem_map.mp (pm.mem_iff.mp hv)
    obtain ⟨k, h1, _⟩ := g e he
    rw [← eq, keyX_of (e := (0, e.2)) h1]
    exact h1
  have pk : (vs.map fun v => keyX (0, v)).Perm (es.toList.map keyX) := by
    have z := pm.map fun v => keyX (0, v)
    rw [List.map_map] at z
    exact z
  generalize hks : (vs.map fun v => keyX (0, v)) = ks at each pk
  have hkl : ks.length = n := by rw [← hks, List.length_map]; exact hvl
  have mk : ∀ k, S k = true ↔ k ∈ ks := fun k => (hm k).trans pk.mem_iff.symm
  refine wpAny_bind (wpAny_newList ?_ (by rw [hvl, sizeLine_eq]; omega))
  have hoL : (s1.heap.push (seqObj "list" vs.toArray 0)).get? s1.heap.objs.size = some (seqObj "list" vs.toArray 0) := Heap.get?_push_size _ rfl
  have alike : PySem.W.AllAlike (ks.map fun k => pyD (kD k)) := fun a ha b hb => by
    obtain ⟨k, hk, rfl⟩ := List.mem_map.mp ha
    obtain ⟨j, hj, rfl⟩ := List.mem_map.mp hb
    exact hal k j ((mk k).mpr hk) ((mk j).mpr hj)
  refine wpAny_bind (wpAny_holding (PySem.W.list_sort_data (s := { s1 with heap := s1.heap.push (seqObj "list" vs.toArray 0) }) (enc := fun k => pyD (kD k)) (R := fun (u : Value) (k : Key) => L2.RelV (L2.kV k) u) hoL each (keys_reads each) alike (sortable_keys ks) (by rw [hkl, sizeLine_eq]; omega) (fun b hb => ?_) fun out h1 h2 => ?_))
  · show X.A.in1.units + 1 + (pyD (kD b)).depth < cLine
    rw [depth_key]
    have : X.A.in1.units ≤ X.A.units + 10 := by first | exact Nat.le_refl _ | (show X.A.units + _ ≤ _; omega) | (unfold Around.in1; simp)
    omega
  · obtain ⟨c, hc2⟩ := sortedHeap_at (vs := vs) (out := out.toArray) hoL
    have kept : ∀ b u, s.heap.get? b = some u → (sortedHeap (s1.heap.push (seqObj "list" vs.toArray 0)) s1.heap.objs.size vs out.toArray).get? b = some u := fun b u e => by
      have q1 := k1 b u e
      have hlt := Heap.lt_size q1
      rw [sortedHeap_old (Nat.ne_of_lt hlt) (by rw [size_push']; exact Nat.lt_succ_of_lt hlt)]
      exact Heap.get?_push_of_some _ q1
    have I0 : Inv X pins σ H { s1 with heap := s.heap } := I.call' (s' := { s1 with heap := s.heap }) (ch := []) o1 (Un.kept fun b u e => e) I.hok (by show AllBare s1.gens; rw [g1]; exact I.bare) fun b hb => by cases hb
    have e : ks.mergeSort (PySem.W.dataLe false fun k => pyD (kD k)) = ks.mergeSort leK := rfl
    rw [e] at h2
    have hlen : ((ks.mergeSort leK).map L2.kV).length ≤ sizeLine := by
      rw [List.length_map, List.length_mergeSort, hkl, sizeLine_eq]
      omega
    have I2 := I0.laid (a := s1.heap.objs.size) (o := .lst ((ks.mergeSort leK).map L2.kV)) (t' := s1.toks) kept hz ⟨hlen, out, c, keys_vals h2, hc2⟩
    exact wpAny_pure ⟨_, rfl, .ref _, _, I2, rfl, q ks (pk.nodup_iff.mpr nd) mk _ (I.hok.fresh hz)⟩
end DL

namespace DL
open PySem PySem.Spec L2 PpSet
section
variable {X : Cx}
/-- what a turn leaves in the set -/
def addX (P : Program) (w : World) (D : Addr) (c : Key) (H : Hp) (go : Hp → Prop) : Prop := ∃ (S : Key → Bool) (n : Nat),
  H D = some (SetX P w D S n) ∧ n + 1 < scanBound ∧ go (upd H D (SetX P w D (fun j => S j || decide (j = c)) (if S c = true then n else n + 1)))
def turnX (P : Program) (w : World) (g : TG) (tt : TT) (te : TE) (vs : List Nat) (D : Addr) (τ : L2.St) (x : V) (h : Hp) (go : Hp → Prop) : Prop :=
  g x τ h fun τ2 h2 => wipe τ2 vs = τ ∧ tt τ2 h2 fun b h3 => if b = true then te τ2 h3 fun y h4 => ∃ c : Key, y = L2.kV c ∧ addX P w D c h4 go else go h3
def tScX (P : Program) (w : World) (wi : TI) (g : TG) (tt : TT) (te : TE) (vs : List Nat) : TE := fun τ h Q => wi τ h fun J h1 => ∀ D, h1 D = none →
  ∃ W : Nat → Nat → Hp → Prop, (∃ m, W 0 m (upd h1 D (SetX P w D (fun _ => false) 0))) ∧ ∀ i m h, W i m h → (J.stop i h ∧ Q (.ref D) h) ∨
    (J.go i h ∧ ∃ go : Hp → Prop, (∀ h', go h' → ∃ m', m' < m ∧ W (i + 1) m' h') ∧ ∀ x h', J.yld i h x h' → turnX P w g tt te vs D (wipe τ vs) x h' go)
theorem pe_scX {elt tg iter : Expr} {ifs : List Expr} {scope : Scope} {own : List (Str × Nat)} {pos : Pos} {wi : TI} {g : TG} {tt : TT} {te : TE} (kc : X.calm = true) (kN : X.N.Nodup) (ki : PI X tg iter wi) (kb : BlkOk X.N X.env.scope scope own)
    (kg : ∀ (z : Shared) (h : Hp) (C : Addr) (cl : List (Str × Addr)) (fp : List Addr), PG (X.blk z h scope (compEnvC scope cl C X.env) fp) tg g)
    (kt : ∀ (z : Shared) (h : Hp) (C : Addr) (cl : List (Str × Addr)) (fp : List Addr), PTs (X.blk z h scope (compEnvC scope cl C X.env) fp) ifs tt)
    (ke : ∀ (z : Shared) (h : Hp) (C : Addr) (cl : List (Str × Addr)) (fp : List Addr), PE (X.blk z h scope (compEnvC scope cl C X.env) fp) elt te)
    (ks : ∀ x, foldedSetIterable iter X.env x = pure x := by intro _; rfl) :
    PE X (.SetComp elt [⟨tg, iter, ifs, 0⟩] scope pos) (tScX X.prog X.w wi g tt te (own.map (·.2))) := by
  refine ⟨fun pins z τ h Q IV hyp => ?_⟩
  rw [eval_SetComp]
  have cells : ∀ y ∈ scope.names, y.2 = .free → ∃ c, X.env.cells.lookup y.1 = some c := fun y hy e => IV.ok.has _ (kb.free y hy e)
  refine wpAny_comprehension_free rfl ks (closure_ok cells) kb.kind (fun y hy e => by rw [kb.uniq y hy, e]) (thn (ki.run pins z τ h _ IV hyp) fun xv z1 hx => thn hx fun itv z2 got => ?_)
  obtain ⟨it, fp, tn, J, h2, rfl, IV2, TR, at2, out2, rest⟩ := got
  refine newSet_ok ?_
  refine newEnv_comp ?_
  generalize eD : z2.heap.objs.size = D
  have noneD : h2 D = none := IV2.hok.fresh (Nat.le_of_eq eD)
  obtain ⟨W, ⟨m0, start⟩, turn⟩ := rest D noneD
  generalize ez3 : ({ z2 with heap := z2.heap.push { cls := .type "set", dict := none, data := .set #[] 0 (.fresh 0 0 (!X.w.params.followText "set-order")) } } : Shared) = z3
  have hp3 : z3.heap = z2.heap.push { cls := .type "set", dict := none, data := .set #[] 0 (.fresh 0 0 (!X.w.params.followText "set-order")) } := by rw [← ez3]
  have IV3 : Inv X pins τ (upd h2 D (SetX X.prog X.w D (fun _ => false) 0)) z3 := by
    subst eD
    subst ez3
    exact IV2.laid (t' := z2.toks) (fun b o e => Heap.get?_push_of_some _ e) (Nat.le_refl _) (setX_new (setX_fresh _ _))
  have small : ∀ b ∈ fp, b < z2.heap.objs.size := fun b hb => (TR.obj _ _ at2 b hb).elim fun o q => Heap.lt_size q.1
  have out3 : ∀ b ∈ fp, FpOk X pins (upd h2 D (SetX X.prog X.w D (fun _ => false) 0)) b ∧ b < z3.heap.objs.size := fun b hb => by
    have lt := small b hb
    refine ⟨⟨?_, (out2 b hb).2⟩, by rw [hp3, Heap.size_push]; exact Nat.lt_succ_of_lt lt⟩
    rw [upd_ne (by rw [← eD]; exact Nat.ne_of_lt lt)]
    exact (out2 b hb).1
  have at3 : tn 0 z3.heap := TR.keep _ _ _ at2 fun b _ o e => by rw [hp3]; exact Heap.get?_push_of_some _ e
  have IV4 := block_start IV3 kb kN out3
  have no3 : ∀ b ∈ fp, (upd h2 D (SetX X.prog X.w D (fun _ => false) 0)) b = none := fun b hb => (out3 b hb).1.1
  have pg := kg z3 (upd h2 D (SetX X.prog X.w D (fun _ => false) 0)) z3.heap.objs.size (cellsFrom (z3.heap.objs.size + 1) scope.names (cloFrom X.env.cells scope.names [])) fp
  have pt := kt z3 (upd h2 D (SetX X.prog X.w D (fun _ => false) 0)) z3.heap.objs.size (cellsFrom (z3.heap.objs.size + 1) scope.names (cloFrom X.env.cells scope.names [])) fp
  have pe := ke z3 (upd h2 D (SetX X.prog X.w D (fun _ => false) 0)) z3.heap.objs.size (cellsFrom (z3.heap.objs.size + 1) scope.names (cloFrom X.env.cells scope.names [])) fp
  show codeAny _ _ (.compStart (.SetComp elt [⟨tg, iter, ifs, 0⟩] scope pos) 0 (.ref it) (.ref D) (compEnvC scope (cellsFrom (z3.heap.objs.size + 1) scope.names (cloFrom X.env.cells scope.names [])) z3.heap.objs.size X.env)) (compPost (model X.prog X.w) X.A X.xe none (EP X pins τ Q) (.ref D) z3.heap.objs.size) { z3 with heap := pushCells (z3.heap.push { cls := .type "dict", data := .dict #[] }) scope.names }
  generalize ece : compEnvC scope (cellsFrom (z3.heap.objs.size + 1) scope.names (cloFrom X.env.cells scope.names [])) z3.heap.objs.size X.env = ce at IV4 pg pt pe ⊢
  have locs : ce.locals = z3.heap.objs.size := by rw [← ece]; rfl
  generalize eh3 : upd h2 D (SetX X.prog X.w D (fun _ => false) 0) = h3 at IV3 IV4 pg pt pe start no3 out3
  generalize ez4 : ({ z3 with heap := pushCells (z3.heap.push { cls := .type "dict", data := .dict #[] }) scope.names } : Shared) = z4 at IV4 ⊢
  have at4 : tn 0 z4.heap := TR.keep _ _ _ at3 fun b _ o e => by subst ez4; exact pushCells_keeps _ _ _ _ (Heap.get?_push_of_some _ e)
  have ready : ∀ {τ' : L2.St} {h' : Hp} {z' : Shared}, Inv (X.blk z3 h3 scope ce fp) [] τ' h' z' → (∀ b ∈ fp, h' b = none) → ∀ b ∈ fp, FpOk (X.blk z3 h3 scope ce fp) [] h' b := fun {τ' h' z'} IV' hn b hb =>
    ⟨hn b hb, (IV'.ok.exf b hb).1, IV'.ok.exfs b hb, .inl hb, fun x c e => (IV'.ok.exf b hb).2 x c e, fun p hp => by cases (show p ∈ ([] : List (Addr × Obj)) from hp)⟩
  refine codeAny_compStart_set ?_ (TR.self X.A 0 _ _ _ at4 ?_)
  all_goals
    refine compLoopS_any (fun n z' => ∃ i h', Inv (X.blk z3 h3 scope ce fp) [] (wipe τ (own.map (·.2))) h' z' ∧ tn i z'.heap ∧ (∀ b ∈ fp, h' b = none) ∧ W i n h') ?_ m0 ⟨0, h3, IV4, at4, no3, start⟩
    rintro n z5 ⟨i, h5, IV5, at5, no5, inv5⟩
    rcases turn i n h5 inv5 with ⟨stop, fin⟩ | ⟨go, Go, hGo, step⟩
    · refine thnF (TR.done (X.blk z3 h3 scope ce fp) rfl rfl rfl kc i [] z5 _ h5 (fun _ _ => False) IV5 (ready IV5 no5) at5 stop) fun r z6 hr6 => ?_
      obtain ⟨rfl, IV6⟩ := hr6
      have IV7 : Inv X pins τ h5 z6 := IV3.call' (ch := fp) IV6.os IV6.base IV6.hok IV6.bare fun b hb => ⟨(out3 b hb).1.2.2.2.1, (out3 b hb).1.2.1, (out3 b hb).1.2.2.2.2.1, (out3 b hb).1.2.2.2.2.2⟩
      have noC : h5 z3.heap.objs.size = none := by
        have q : h5 ce.locals = none := IV6.free
        rwa [locs] at q
      obtain ⟨m, hn, _⟩ := IV6.loc
      have hn : z6.heap.Ns ce.locals m := hn
      rw [locs] at hn
      refine ⟨m, hn, fun h'' sb => ?_⟩
      obtain ⟨f0, f1, f2, f3, f4, f5⟩ := IV3.fpOk (Nat.le_refl _) noC
      exact ⟨.ref D, h5, IV7.turned (t' := z6.toks) (fun b o hb e => (sb.2 b hb).trans e) f0 f1 f3 f4 f5, rfl, fin⟩
    · refine thnF (TR.item (X.blk z3 h3 scope ce fp) rfl rfl rfl kc i [] z5 _ h5 (fun _ _ => False) IV5 (ready IV5 no5) at5 go) fun r z6 ⟨u, hr, got6⟩ => ?_
      subst hr
      refine thnF got6 fun _ z7 ⟨x, h7, IV7, rx, yl, at7, no7⟩ => ?_
      have pinned := IV7.pinned (ready IV7 no7) (TR.obj _ _ at7)
      refine thnF (pg.run _ z7 _ h7 x u _ pinned rx (step x h7 yl)) fun _ z8 ⟨τ8, h8, IV8, wiped, q8⟩ => ?_
      refine thnF (pt.run _ z8 τ8 h8 _ IV8 q8) fun b z9 ⟨h9, IV9, qb⟩ => ?_
      have close : ∀ {z' : Shared} {h' : Hp}, Inv (X.blk z3 h3 scope ce fp) ([] ++ pinsAt fp z7.heap) τ8 h' z' → Go h' → ∃ m, m < n ∧ ∃ i h', Inv (X.blk z3 h3 scope ce fp) [] (wipe τ (own.map (·.2))) h' z' ∧ tn i z'.heap ∧ (∀ b ∈ fp, h' b = none) ∧ W i m h' := fun {z' h'} IV' nx => by
        obtain ⟨m', lt, w'⟩ := hGo h' nx
        have kept : ∀ b ∈ fp, ∀ o, z7.heap.get? b = some o → z'.heap.get? b = some o ∧ h' b = none := fun b hb o e => by
          have q := IV'.pin (b, o) (List.mem_append_right _ (List.mem_append_right _ (mem_pinsAt hb e)))
          exact ⟨q.1, q.2.1⟩
        refine ⟨m', lt, i + 1, h', (IV'.unpinned (pins := [])).weak (by rw [← wiped, wipe_length]) (fun j v e => ?_), TR.keep _ _ _ at7 fun b hb o e => (kept b hb o e).1, fun b hb => ?_, w'⟩
        · rw [← wiped] at e
          exact (wipe_some e).1
        · exact (TR.obj _ _ at7 b hb).elim fun o q => (kept b hb o q.1).2
      cases b with
      | false =>
        simp only [Bool.false_eq_true, if_false] at qb ⊢
        exact close IV9 qb
      | true =>
        simp only [if_true] at qb ⊢
        refine thnF (pe.run _ z9 τ8 h9 _ IV9 qb) fun v z10 ⟨yv, h10, IV10, rv, c, ey, S, k, hD, room, nx⟩ => ?_
        subst ey
        exact thnF (mt_saddX (X := X.blk z3 h3 scope ce fp) _ z10 τ8 h10 (.ref D) [L2.kV c] (.ref D) [v] (fun _ h' => Go h') IV10 rfl (.cons rv .nil) ⟨D, c, S, k, rfl, rfl, hD, room, nx⟩) fun _ z11 ⟨_, h11, IV11, _, q11⟩ => close IV11 q11
end
/-! ## sorted({e for x in ..}) -/
def keysOk (l : List Key) : Bool := l.all fun k => l.all fun j => match k, j with
  | .inl _, .inl _ => true
  | .inr _, .inr _ => true
  | _, _ => false
def dedupK : List Key → List Key
  | [] => []
  | k :: r => if memK k r = true then dedupK r else k :: dedupK r
theorem mem_memK {k : Key} {l : List Key} : memK k l = true ↔ k ∈ l := by
  unfold memK
  rw [List.any_eq_true]
  exact ⟨fun ⟨j, hj, e⟩ => (of_decide_eq_true e) ▸ hj, fun h => ⟨k, h, decide_eq_true rfl⟩⟩
theorem mem_dedupK {k : Key} : ∀ {l : List Key}, k ∈ dedupK l ↔ k ∈ l
  | [] => Iff.rfl
  | j :: r => by
    rw [dedupK]
    split
    · rename_i h
      rw [mem_dedupK, List.mem_cons]
      exact ⟨.inr, fun q => q.elim (fun e => e ▸ mem_memK.mp h) id⟩
    · rw [List.mem_cons, List.mem_cons, mem_dedupK]
theorem nodup_dedupK : ∀ l : List Key, (dedupK l).Nodup
  | [] => .nil
  | j :: r => by
    rw [dedupK]
    split
    · exact nodup_dedupK r
    · rename_i h
      exact List.nodup_cons.mpr ⟨fun q => h (mem_memK.mpr (mem_dedupK.mp q)), nodup_dedupK r⟩
theorem keysOk_alike {l : List Key} (h : keysOk l = true) {a b : Key} (ha : a ∈ l) (hb : b ∈ l) : PySem.W.alike (pyD (kD a)) (pyD (kD b)) = true := by
  have := List.all_eq_true.mp (List.all_eq_true.mp h a ha) b hb
  cases a <;> cases b <;> first | cases this; done | simp [PySem.W.alike, pyD, kD, D.py]
theorem leK_int (a b : Int) : leK (.inl a) (.inl b) = decide (a ≤ b) := congrFun (congrFun (PySem.W.dataLe_int (fun i : Int => i)) a) b
theorem leK_str (a b : Str) : leK (.inr a) (.inr b) = decide (a.cps.toList ≤ b.cps.toList) := congrFun (congrFun (PySem.W.dataLe_str (fun i : Str => i)) a) b
theorem leK_anti {l : List Key} (h : keysOk l = true) {a b : Key} (ha : a ∈ l) (hb : b ∈ l) (h1 : leK a b = true) (h2 : leK b a = true) : a = b := by
  have := List.all_eq_true.mp (List.all_eq_true.mp h a ha) b hb
  cases a with
  | inl a => cases b with
    | inl b => rw [leK_int, decide_eq_true_eq] at h1 h2; rw [Int.le_antisymm h1 h2]
    | inr b => cases this
  | inr a => cases b with
    | inl b => cases this
    | inr b =>
      rw [leK_str, decide_eq_true_eq] at h1 h2
      have e := List.le_antisymm h1 h2
      cases a with | mk x => cases b with | mk y =>
      have : x = y := Array.toList_inj.mp e
      rw [this]
theorem leK_total : PySem.W.TotalLe leK := ⟨fun a b c h1 h2 => leD_total.trans _ _ _ h1 h2, fun a b => leD_total.total _ _⟩
theorem sorted_oneM {α : Type} {le : α → α → Bool} : ∀ {l m : List α}, l.Perm m → (∀ a b, a ∈ l → b ∈ l → le a b = true → le b a = true → a = b) → l.Pairwise (fun a b => le a b = true) → m.Pairwise (fun a b => le a b = true) → l = m
  | [], m, p, _, _, _ => by rw [List.nil_perm] at p; exact p.symm
  | x :: l, [], p, _, _, _ => by simp at p
  | x :: l, y :: m, p, an, h1, h2 => by
    rw [List.pairwise_cons] at h1 h2
    have e : x = y := by
      have a : x ∈ y :: m := p.mem_iff.mp List.mem_cons_self
      have b : y ∈ x :: l := p.mem_iff.mpr List.mem_cons_self
      rcases List.mem_cons.mp a with q | a
      · exact q
      · rcases List.mem_cons.mp b with q | b
        · exact q.symm
        · exact an _ _ List.mem_cons_self (List.mem_cons_of_mem _ b) (h1.1 y b) (h2.1 x a)
    subst e
    rw [sorted_oneM ((List.perm_cons x).mp p) (fun a b ha hb => an a b (List.mem_cons_of_mem _ ha) (List.mem_cons_of_mem _ hb)) h1.2 h2.2]
theorem sorted_keys {l ks : List Key} (h : keysOk l = true) (nd : ks.Nodup) (hk : ∀ k, k ∈ ks ↔ k ∈ l) : ks.mergeSort leK = isort leK (dedupK l) := by
  rw [← isort_merge leK_total]
  have pm : ks.Perm (dedupK l) := (List.perm_ext_iff_of_nodup nd (nodup_dedupK l)).mpr fun k => (hk k).trans mem_dedupK.symm
  have pw := fun m => isort_pw leK leK_total.trans (fun a b => by have := leK_total.total a b; simpa using this) m
  have tr : ∀ a b, a ∈ l → b ∈ l → leK a b = true → leK b a = true → a = b := fun a b ha hb => leK_anti h ha hb
  exact sorted_oneM ((isort_perm leK ks).trans (pm.trans (isort_perm leK _).symm)) (fun a b ha hb => tr a b ((hk a).mp ((isort_perm leK ks).mem_iff.mp ha)) ((hk b).mp ((isort_perm leK ks).mem_iff.mp hb))) (pw ks) (pw _)
theorem keys_fzl {G : Cfg} {B : Hp} : ∀ {l : List Key}, FzL G B (l.map L2.kV) (l.map kD)
  | [] => .nil
  | k :: r => by
    refine FzL.cons ?_ keys_fzl
    cases k with
    | inl i => exact Fz.sv rfl
    | inr x => exact Fz.sv rfl
def mSortS (mi : MI) (tg : MG) (vs : List Nat) (mt : MT) (me : ME) : ME := fun ρ => (mi ρ).bind fun ds ρ1 => if okOld vs ρ1 = true then (match lcL tg vs mt me [] ds ρ1 with
  | .ok acc ρ2 => match D.keys? acc with
    | some l => if l.length ≤ 4000 ∧ keysOk l = true then .ok (.val (.node true .lst ((isort leK (dedupK l)).map kD))) (restE vs 0 ρ1 ρ2) else .bad
    | none => .bad
  | _ => .bad) else .bad
section
variable {G : Cfg} {W : WX} {n t np : Nat} {B H B' H' B1 H1 B2 H2 B3 H3 : Hp} {ow ow' ow1 ow2 ow3 : Ow} {σ : L2.St} {ρ ρ' ρ1 ρ2 : Env} {v : V} {X : Cx} {E : Ends}
theorem post_sortS {P0 : Program} {w : World} {mi : MI} {g : TG} {tg : MG} {l vs : List Nat} {mt : MT} {me : ME} {Q : VK} (htg : TgOk G l g tg) (hl : ∀ i ∈ l, i ∈ vs) (hx : ∀ i ∈ vs, fxOk G.fx i) (q : tD G W (mSortS mi tg vs mt me) σ H Q) :
    tScX P0 w (tDI G W mi) g (tDT G Wno mt) (tD G Wno me) vs σ H fun x H1 => rSortX P0 w [x] H1 Q := by
  obtain ⟨B, ow, ρ, t, S, hb, hn, P⟩ := q
  refine ⟨B, ow, ρ, t, S, hb, hn, ?_⟩
  unfold mSortS at P
  cases e : mi ρ with
  | bad => rw [e] at P; exact P
  | ex c ρ1 => rw [e] at P; exact P
  | ok ds ρ1 =>
    rw [e, Rs.bind_ok] at P
    intro J vs' B1 H1 ow1 s1 S1 b1 st fz L hL
    have hl1 := S.len2 S1
    by_cases ho : okOld vs ρ1 = true
    case neg => rw [if_neg ho] at P; exact P.elim
    rw [if_pos ho] at P
    cases eF : lcL tg vs mt me [] ds ρ1 with
    | bad => rw [eF] at P; exact P.elim
    | ex c ρF => rw [eF] at P; exact P.elim
    | ok accF ρF =>
      simp only [eF] at P
      cases eK : D.keys? accF with
      | none => rw [eK] at P; exact P.elim
      | some lF =>
        simp only [eK] at P
        by_cases hF : lF.length ≤ 4000 ∧ keysOk lF = true
        case neg => rw [if_neg hF] at P; exact P.elim
        rw [if_pos hF] at P
        refine ⟨fun i m H' => m = ds.length - i ∧ i ≤ ds.length ∧ ∃ B' ow' ρ' acc ks, Stq ρ.length t B H ow B' H' ow' ∧ Same B1 B' ∧ Sim G B' H' ow' (L2.wipe σ vs) (wipeE ρ' vs) ∧ ρ'.length = ρ.length ∧ Bd ow' (t + 1) ∧ ow' L = some (t, []) ∧ H' L = some (SetX P0 w L (fun k => memK k ks) (unlikeN ks)) ∧
          D.keys? acc = some ks ∧ lcL tg vs mt me acc (ds.drop i) ρ' = .ok accF ρF, ⟨_, rfl, Nat.zero_le _, B1, putO ow1 L (t, []), ρ1, [], [], (s1.trans (Stp.newv S1 hL)).q, Same.refl _, (S1.newv hL).wipe hx, hl1, fun a i p h => ?_, putO_same, upd_same, rfl, eF⟩, ?_⟩
        · by_cases z : a = L
          · subst z; rw [putO_same] at h; cases h; omega
          · rw [putO_ne z] at h; have := b1 a i p h; omega
        rintro i m H' ⟨em, hi, B', ow', ρ', acc, ks, sq, sb, S', l', b', oL, hL', kids, eq⟩
        have sH : Same B1 H' := sb.trans S'.same
        have hwl : (wipeE ρ' vs).length = ρ.length := by rw [wipeE_length, l']
        cases ed : ds.drop i with
        | nil =>
          left
          have hi2 : i = vs'.length := by
            have := congrArg List.length ed
            rw [List.length_drop, List.length_nil] at this
            rw [fz.length]
            omega
          rw [hi2]
          refine ⟨st.stop H' sH, ?_⟩
          rw [ed, lcL] at eq
          cases eq
          rw [kids] at eK
          cases eK
          refine ⟨L, _, _, rfl, hL', by have := unlikeN_le lF; omega, fun x y hx2 hy2 => keysOk_alike hF.2 (mem_memK.mp hx2) (mem_memK.mp hy2), fun ks2 nd2 hk2 q hq => ?_⟩
          have hsame : ks2.mergeSort leK = isort leK (dedupK lF) := sorted_keys hF.2 nd2 fun k => (hk2 k).symm.trans mem_memK
          rw [hsame]
          have S'' : Sim G B' H' ow' σ (restE vs 0 ρ1 ρF) := by
            refine ⟨S'.same, S'.lab, ?_, fun j d e2 => ?_, S1.fix⟩
            · rw [restE_length (by rw [l', hl1]), hl1]; exact S.len
            · rcases restE_get e2 with ⟨c, e3⟩ | ⟨c, e3⟩
              · rw [Nat.zero_add] at c
                have hz : d.fz = true := by
                  unfold okOld at ho
                  rw [List.all_eq_true] at ho
                  have := ho j (by simpa using c)
                  rw [e3] at this
                  exact this
                obtain ⟨w, hw, hr⟩ := S1.slot j d e3
                exact ⟨w, hw, ((hr.fz hz).same sb).rp⟩
              · rw [Nat.zero_add] at c
                have hj : j ∉ vs := by simpa using c
                obtain ⟨w, hw, hr⟩ := S'.slot j d (by rw [wipeE_get hj]; exact e3)
                rw [wipe_get hj] at hw
                exact ⟨w, hw, hr⟩
          refine P (.ref q) B' _ (putO ow' q (t, [])) ((sq.p hb).trans (Stp.newv S'' hq)) (S''.newv hq) (fun a i p h => ?_) ?_
          · by_cases z : a = q
            · subst z; rw [putO_same] at h; cases h; omega
            · rw [putO_ne z] at h; exact b' a i p h
          · show Rg _ _ _ _
            rw [Rg]
            refine ⟨q, _, rfl, ?_, keys_fzl.kids⟩
            unfold RpN
            rw [if_pos rfl]
            exact ⟨putO_same, upd_same⟩
        | cons d r =>
          right
          obtain ⟨v, hv, zv, hiv, er⟩ := fz.drop1 ed
          rw [ed, lcL] at eq
          refine ⟨st.go i H' sH hiv, fun H2 => ∃ B2 ow2 ρ2 acc2 ks2, Stq ρ.length t B H ow B2 H2 ow2 ∧ Same B1 B2 ∧ Sim G B2 H2 ow2 (L2.wipe σ vs) (wipeE ρ2 vs) ∧ ρ2.length = ρ.length ∧ Bd ow2 (t + 1) ∧ ow2 L = some (t, []) ∧ H2 L = some (SetX P0 w L (fun k => memK k ks2) (unlikeN ks2)) ∧
            D.keys? acc2 = some ks2 ∧ lcL tg vs mt me acc2 r ρ2 = .ok accF ρF, fun H2 h => ⟨ds.length - (i + 1), by rw [fz.length] at hiv; omega, rfl, by rw [fz.length] at hiv; omega, by rw [er]; exact h⟩, fun x H2 hy => ?_⟩
          obtain ⟨rfl, hx2⟩ := st.yld i H' x H2 sH hiv hy
          rw [hv] at hx2
          cases hx2
          cases e3 : tg d (wipeE ρ' vs) with
          | none => simp only [e3] at eq; cases eq
          | some ρ2 =>
            simp only [e3] at eq
            refine htg v d _ _ ρ2 B' H2 ow' _ S' (zv.same sb) e3 fun σ3 ow3 s3 S3 l3 k3 o3 p3 => ?_
            rw [hwl] at s3
            have hl3 : ρ2.length = ρ.length := by rw [← S3.len, l3, S'.len, hwl]
            have wσ : L2.wipe σ3 vs = L2.wipe σ vs := by
              have h1 : L2.wipe σ3 vs = L2.wipe (L2.wipe σ vs) vs := wipe_eq l3 fun i hi => k3 i fun h => hi (hl i h)
              rw [h1]
              exact wipe_eq (wipe_length _ _) fun i hi => wipe_get hi
            refine ⟨wσ, B', ow3, ρ2, t + 1, S3, fun a i p h => b' a i p (o3 a i p h), by omega, ?_⟩
            rw [hl3]
            cases e4 : mt ρ2 with
            | bad => rw [e4] at eq; cases eq
            | ex c ρ4 => rw [e4] at eq; cases eq
            | ok b ρ4 =>
              simp only [e4] at eq
              intro B4 H4 ow4 s4 S4 b4
              have hl4 : ρ4.length = ρ.length := by rw [← S4.len, l3, S'.len, hwl]
              have s34 := s3.trans s4
              cases b with
              | false =>
                rw [if_neg Bool.false_ne_true] at eq ⊢
                obtain ⟨k1, k2⟩ := s34.keepP L t [] oL hn
                exact ⟨B4, ow4, ρ4, acc, ks, sq.trans s34.q, sb.trans s34.sb, by rw [← wσ]; exact S4.wipe hx, hl4, b4, k1, k2.trans hL', kids, eq⟩
              | true =>
                rw [if_pos rfl] at eq ⊢
                refine ⟨B4, ow4, ρ4, t + 1, S4, b4, by omega, ?_⟩
                rw [hl4]
                cases e5 : me ρ4 with
                | bad => rw [e5] at eq; cases eq
                | ex c ρ5 => rw [e5] at eq; cases eq
                | ok o ρ5 =>
                  simp only [e5] at eq
                  intro y B5 H5 ow5 s5 S5 b5 r5
                  have hl5 : ρ5.length = ρ.length := by rw [← S5.len, l3, S'.len, hwl]
                  cases e6 : esc o ρ5 with
                  | none => simp only [e6] at eq; cases eq
                  | some z =>
                    obtain ⟨dy, ρ6⟩ := z
                    simp only [e6] at eq
                    obtain ⟨B6, ow6, s6, S6, b6, r6⟩ := esc_ok S5 b5 r5 e6
                    rw [hl5] at s6
                    have hl6 := S5.len2 S6
                    have s36 := (s34.trans s5).trans s6
                    obtain ⟨k1, k2⟩ := s36.keepP L t [] oL hn
                    split at eq
                    · obtain ⟨rr, hpre⟩ := lcL_pre eq
                      rw [hpre] at eK
                      obtain ⟨l1, l2, q1, q2, elF⟩ := keys_app eK
                      obtain ⟨l3', l4, q3, q4, el1⟩ := keys_app q1
                      rw [kids] at q3
                      cases q3
                      have hkc : ∃ c, dy.key? = some c ∧ l4 = [c] := by
                        rw [D.keys?] at q4
                        cases ec : dy.key? with
                        | none => rw [ec] at q4; cases q4
                        | some c => rw [ec] at q4; cases q4; exact ⟨c, rfl, rfl⟩
                      obtain ⟨c, ec, rfl⟩ := hkc
                      have hlen : ks.length + 1 ≤ 4000 := by
                        have := congrArg List.length elF
                        rw [el1] at this
                        simp at this
                        omega
                      have hsc : unlikeN ks + 1 < scanBound := by
                        have := unlikeN_le ks
                        show unlikeN ks + 1 < 4096
                        omega
                      refine ⟨c, key_v r6 ec, _, _, k2.trans hL', hsc, B6, mvO ow6 (t + 1) t [acc.length] false, ρ6, acc ++ [dy], ks ++ [c], (sq.trans s36.q).trans (Stq.more (k2.trans hL') k1), sb.trans s36.sb, ?_, by omega, fun a i p h => ?_, ?_, ?_, by rw [q1, el1], eq⟩
                      · rw [← wσ]
                        exact (S6.more (q := [acc.length]) (by omega) k1).wipe hx
                      · rcases mvO_some h with ⟨p', e, rfl, _⟩ | ⟨e, h1, _⟩
                        · omega
                        · have := b6 a i p e; omega
                      · exact mvO_else k1 (by omega) (by simp)
                      · rw [upd_same]
                        congr 2
                        · funext k
                          rw [memK_app]
                          congr 1
                          exact decide_eq_decide.mpr ⟨fun q => q.symm, fun q => q.symm⟩
                        · rw [unlikeN_add]
                          split <;> rfl
                    · cases eq
theorem d_sortS {elt tg iter : Expr} {ifs : List Expr} {scope : Scope} {own : List (Str × Nat)} {p pos pos2 : Pos} {mi : MI} {g : TG} {l : List Nat} {tgm : MG} {mt : MT} {me : ME} (hu65 : X.A.units + 65 < cLine) (hc : X.calm = true) (hN : X.N.Nodup) (hm : X.mg "sorted" = none) (hgl : Gl X "sorted") (hi : PI X tg iter (tDI G W mi)) (ok : BlkOk X.N X.env.scope scope own)
    (hg : ∀ (s : Shared) (H : Hp) (C : Addr) (cl : List (Str × Addr)) (fp : List Addr), PG (X.blk s H scope (compEnvC scope cl C X.env) fp) tg g) (htg : TgOk G l g tgm) (hl : ∀ i ∈ l, i ∈ own.map (·.2)) (hx : ∀ i ∈ own.map (·.2), fxOk G.fx i)
    (ht : ∀ (s : Shared) (H : Hp) (C : Addr) (cl : List (Str × Addr)) (fp : List Addr), PTs (X.blk s H scope (compEnvC scope cl C X.env) fp) ifs (tDT G Wno mt))
    (he : ∀ (s : Shared) (H : Hp) (C : Addr) (cl : List (Str × Addr)) (fp : List Addr), PE (X.blk s H scope (compEnvC scope cl C X.env) fp) elt (tD G Wno me)) (hs : ∀ x, foldedSetIterable iter X.env x = pure x := by intro _; rfl)
    (hst : starEach [.SetComp elt [⟨tg, iter, ifs, 0⟩] scope pos2] X.env = (false, eval (.SetComp elt [⟨tg, iter, ifs, 0⟩] scope pos2) X.env) :: starEach [] X.env := by rfl) (hpl : (backTo pos (starEach [] X.env)).any (·.1) = false := by rfl) :
    PE X (.Call (.Name "sorted" p) [.SetComp elt [⟨tg, iter, ifs, 0⟩] scope pos2] [] pos) (tD G W (mSortS mi tgm (own.map (·.2)) mt me)) :=
  (pe_callB (cr_sortX hc hu65) hgl hm bt_sorted (pa_cons (pe_scX hc hN hi ok hg ht he hs) pa_nil hst) (by decide) (by decide) hst hpl).up fun σ H Q q => post_sortS htg hl hx q
end
end DL

namespace DL
open PySem PySem.Spec L2
section
variable {X : XP} {ρ : Env} {E : En}
def kSS (Q : Opn → Env → Prop) (o : Opn) (ρ : Env) : Prop := match o with
  | .val (.node true .lst acc) => match D.keys? acc with
    | some l => (l.length ≤ 4000 ∧ keysOk l = true) ∧ Q (.val (.node true .lst ((isort leK (dedupK l)).map kD))) ρ
    | none => False
  | _ => False
theorem kSS_eq {Q : Opn → Env → Prop} {acc : List D} {l : List Key} (h : D.keys? acc = some l) : kSS Q (.val (.node true .lst acc)) ρ = ((l.length ≤ 4000 ∧ keysOk l = true) ∧ Q (.val (.node true .lst ((isort leK (dedupK l)).map kD))) ρ) := by
  unfold kSS
  simp only [h]
theorem wE_sortS {mi : MI} {tg : MG} {vs : List Nat} {mt : MT} {me : ME} {Q : Opn → Env → Prop} : wE (mSortS mi tg vs mt me) X Q ρ = wI mi X (kLc tg vs mt me (kSS Q)) ρ := by
  unfold wE wI mSortS kLc
  cases e : mi ρ with
  | ok ds ρ1 =>
    simp only [Rs.bind_ok]
    by_cases h : okOld vs ρ1 = true
    · rw [if_pos h]
      simp only [h, true_and]
      cases e2 : lcL tg vs mt me [] ds ρ1 with
      | ok acc ρ2 =>
        simp only [Rs.ok.injEq]
        refine propext ⟨fun q => ⟨acc, ρ2, ⟨rfl, rfl⟩, ?_⟩, fun ⟨_, _, ⟨e1, e2⟩, q⟩ => ?_⟩
        · cases e3 : D.keys? acc with
          | none => rw [e3] at q; exact (q : False).elim
          | some l =>
            rw [e3] at q
            rw [kSS_eq e3]
            by_cases hl : l.length ≤ 4000 ∧ keysOk l = true
            · simp only [if_pos hl] at q; exact ⟨hl, q⟩
            · simp only [if_neg hl] at q
        · cases e1
          cases e2
          cases e3 : D.keys? acc with
          | none => unfold kSS at q; simp only [e3] at q
          | some l =>
            rw [kSS_eq e3] at q
            simp only [if_pos q.1]
            exact q.2
      | ex c ρ2 => simp
      | bad => simp
    · rw [if_neg h]
      simp [h]
  | _ => rfl
theorem keys_strs : ∀ l : List Str, D.keys? (l.map D.str) = some (l.map Sum.inr)
  | [] => rfl
  | i :: r => by rw [List.map_cons, D.keys?, keys_strs r]; rfl
/-! ### texts -/
def leS (a b : Str) : Bool := decide (a.cps.toList ≤ b.cps.toList)
def dedupS : List Str → List Str
  | [] => []
  | k :: r => if r.contains k = true then dedupS r else k :: dedupS r
theorem memK_strs (k : Str) (l : List Str) : memK (Sum.inr k) (l.map Sum.inr) = l.contains k := by
  rw [Bool.eq_iff_iff, mem_memK, List.contains_iff_mem, List.mem_map]
  exact ⟨fun ⟨a, h, e⟩ => by cases e; exact h, fun h => ⟨k, h, rfl⟩⟩
theorem dedup_strs : ∀ l : List Str, dedupK (l.map Sum.inr) = (dedupS l).map Sum.inr
  | [] => rfl
  | k :: r => by
    rw [List.map_cons, dedupK, memK_strs, dedupS, dedup_strs r]
    split <;> rfl
theorem leK_strs : (fun a b : Str => leK (Sum.inr a) (Sum.inr b)) = leS := by
  funext a b
  rw [leK_str]
  rfl
theorem isort_strs (l : List Str) : ((isort leK (dedupK (l.map Sum.inr))).map kD) = (isort leS (dedupS l)).map D.str := by
  rw [dedup_strs, isort_map (f := fun s : Str => (Sum.inr s : Key)) (le := leK), leK_strs, List.map_map]
  rfl
theorem keysOk_strs (l : List Str) : keysOk (l.map Sum.inr) = true := by
  unfold keysOk
  rw [List.all_eq_true]
  intro x hx
  rw [List.all_eq_true]
  intro y hy
  obtain ⟨a, _, rfl⟩ := List.mem_map.mp hx
  obtain ⟨b, _, rfl⟩ := List.mem_map.mp hy
  rfl
theorem kSS_strs {Q : Opn → Env → Prop} {l : List Str} (h : l.length ≤ 4000) (q : Q (.val (.node true .lst ((isort leS (dedupS l)).map D.str))) ρ) : kSS Q (.val (.node true .lst (l.map D.str))) ρ := by
  rw [kSS_eq (keys_strs l)]
  refine ⟨⟨by rw [List.length_map]; exact h, keysOk_strs l⟩, ?_⟩
  rw [isort_strs]
  exact q
theorem leS_iff {a b : Str} : leS a b = true ↔ a.cps.toList ≤ b.cps.toList := decide_eq_true_iff
theorem leS_trans (a b c : Str) (h1 : leS a b = true) (h2 : leS b c = true) : leS a c = true := leS_iff.mpr (List.le_trans (leS_iff.mp h1) (leS_iff.mp h2))
theorem leS_total (a b : Str) : leS a b = true ∨ leS b a = true := (List.le_total a.cps.toList b.cps.toList).imp leS_iff.mpr leS_iff.mpr
theorem leS_anti (a b : Str) (h1 : leS a b = true) (h2 : leS b a = true) : a = b := by
  have e := List.le_antisymm (leS_iff.mp h1) (leS_iff.mp h2)
  cases a with | mk x => cases b with | mk y =>
  have : x = y := Array.toList_inj.mp e
  rw [this]
theorem mem_dedupS {k : Str} : ∀ {l : List Str}, k ∈ dedupS l ↔ k ∈ l
  | [] => Iff.rfl
  | j :: r => by
    rw [dedupS]
    split
    · rename_i h
      rw [mem_dedupS, List.mem_cons]
      exact ⟨.inr, fun q => q.elim (fun e => e ▸ List.contains_iff_mem.mp h) id⟩
    · rw [List.mem_cons, List.mem_cons, mem_dedupS]
theorem nodup_dedupS : ∀ l : List Str, (dedupS l).Nodup
  | [] => .nil
  | j :: r => by
    rw [dedupS]
    split
    · exact nodup_dedupS r
    · rename_i h
      exact List.nodup_cons.mpr ⟨fun q => h (List.contains_iff_mem.mpr (mem_dedupS.mp q)), nodup_dedupS r⟩
theorem dedupS_nodup : ∀ {l : List Str}, l.Nodup → dedupS l = l
  | [], _ => rfl
  | j :: r, h => by
    rw [List.nodup_cons] at h
    rw [dedupS, if_neg (fun q => h.1 (List.contains_iff_mem.mp q)), dedupS_nodup h.2]
end
/-- a sort of texts -/
abbrev sortS (l : List Str) : List Str := isort leS l
theorem sortS_perm (l : List Str) : (sortS l).Perm l := isort_perm _ l
theorem sortS_pw (l : List Str) : (sortS l).Pairwise fun a b => leS a b = true := isort_pw leS leS_trans leS_total l
theorem sortS_id {l : List Str} (h : l.Pairwise fun a b => leS a b = true) : sortS l = l := sorted_one leS leS_anti (sortS_perm l) (sortS_pw l) h
theorem sortS_perm_eq {l m : List Str} (h : l.Perm m) : sortS l = sortS m := sorted_one leS leS_anti ((sortS_perm l).trans (h.trans (sortS_perm m).symm)) (sortS_pw l) (sortS_pw m)
end DL


namespace Law
open PySem PySem.Spec L2 DL
def top (i : Nat) : Stmt := PySem.Challenge.pw_plotrents_k57_ways_to_draw.main.body.getD i (.Pass ⟨0, 0, 0, 0⟩)
def known : List Str := ["InvalidNumber", "InvalidPaper", "PlotError"]
def sub_InvalidNumber : List Str := ["InvalidNumber"]
def sub_InvalidPaper : List Str := ["InvalidPaper"]
def sub_PlotError : List Str := ["InvalidNumber", "InvalidPaper", "PlotError"]
def sub_VE : List Str := ["InvalidNumber", "InvalidPaper", "PlotError"]
abbrev s__law_pool : Stmt := top 17
theorem sc__law_pool : FnScope ["script"] ["script"] (defScope s__law_pool) := ⟨rfl, rfl, rfl, by decide +kernel, rfl, by decide +kernel, by decide +kernel⟩
def m__law_pool : MF := mFn 1 []
 (mRet 1 (mDisp .lst (mCons (mOp (mCons (mVar 0) mNil) gList) (mCons (mC (.int 0)) (mCons (mC (.int 0)) (mCons (mC (.int 0)) (mCons (mC (.int 0)) mNil)))))))
abbrev s__law_draw : Stmt := top 18
theorem sc__law_draw : FnScope ["pool", "many", "found", "cell", "mixed"] ["pool", "many"] (defScope s__law_draw) := ⟨rfl, rfl, rfl, by decide +kernel, rfl, by decide +kernel, by decide +kernel⟩
def m__law_draw : MF := mFn 5 []
 (mSeq (mIfS (mB (mOp (mCons (mOp (mCons (mVar 0) (mCons (mC (.int 2)) mNil)) gIx) (mCons (mC (.int 0)) mNil)) gGt)) (mSeq (mSet 2 (mOp (mCons (mOp (mCons (mOp (mCons (mVar 0) (mCons (mC (.int 2)) mNil)) gIx) mNil) gInt) (mCons (mVar 1) mNil)) gMod))
  (mSeq (mSetIx (qVar 0) (pC (.int 2)) (mOp (mCons (mOp (mCons (mVar 0) (mCons (mC (.int 2)) mNil)) gIx) (mCons (mVar 1) mNil)) gDiv))
  (mRet 2 (mVar 2)))) (mNext))
  (mSeq (mIfS (mAndT (mB (mOp (mCons (mOp (mCons (mOp (mCons (mOp (mCons (mVar 0) (mCons (mC (.int 4)) mNil)) gIx) mNil) gInt) (mCons (mC (.int 8)) mNil)) gMod) (mCons (mC (.int 0)) mNil)) gEq)) (mB (mOp (mCons (mOp (mCons (mVar 0) (mCons (mC (.int 1)) mNil)) gIx) (mCons (mOp (mCons (mOp (mCons (mVar 0) (mCons (mC (.int 0)) mNil)) gIx) mNil) gLen) mNil)) gLtX))) (mSeq (mSet 3 (mOp (mCons (lift (pQ (qIx (qIx (qVar 0) (pC (.int 0))) (pQ (qIx (qVar 0) (pC (.int 1))))))) mNil) gAbs))
  (mSeq (mSetIx (qVar 0) (pC (.int 1)) (mOp (mCons (mOp (mCons (mVar 0) (mCons (mC (.int 1)) mNil)) gIx) (mCons (mC (.int 1)) mNil)) gAdd))
  (mSeq (mIfS (mB (mOp (mCons (mVar 3) (mCons (mOp (mCons (mC (.int 10)) (mCons (mC (.int 18)) mNil)) gPow) mNil)) gGe)) (mSeq (mSetIx (qVar 0) (pC (.int 2)) (mOp (mCons (mVar 3) (mCons (mVar 1) mNil)) gDiv))
  (mRet 2 (mOp (mCons (mOp (mCons (mVar 3) mNil) gInt) (mCons (mVar 1) mNil)) gMod))) (mNext))
  (mSetIx (qVar 0) (pC (.int 3)) (mVar 3))))) (mNext))
  (mSeq (mSetIx (qVar 0) (pC (.int 4)) (mOp (mCons (mOp (mCons (mVar 0) (mCons (mC (.int 4)) mNil)) gIx) (mCons (mC (.int 1)) mNil)) gAdd))
  (mSeq (mSet 4 (mOp (mCons (mOp (mCons (mOp (mCons (mOp (mCons (mOp (mCons (mOp (mCons (mVar 0) (mCons (mC (.int 3)) mNil)) gIx) (mCons (mC (.int 48271)) mNil)) gMul) (mCons (mOp (mCons (mOp (mCons (mVar 0) (mCons (mC (.int 4)) mNil)) gIx) (mCons (mC (.int 69621)) mNil)) gMul) mNil)) gAdd) (mCons (mC (.int 7919)) mNil)) gAdd) mNil) gInt) (mCons (mC (.int 2147483647)) mNil)) gMod))
  (mSeq (mSet 4 (mOp (mCons (mOp (mCons (mOp (mCons (mOp (mCons (mVar 4) (mCons (mVar 4) mNil)) gMul) (mCons (mOp (mCons (mOp (mCons (mVar 0) (mCons (mC (.int 4)) mNil)) gIx) (mCons (mC (.int 40692)) mNil)) gMul) mNil)) gAdd) mNil) gInt) (mCons (mC (.int 2147483399)) mNil)) gMod))
  (mRet 2 (mOp (mCons (mOp (mCons (mVar 4) mNil) gInt) (mCons (mVar 1) mNil)) gMod)))))))
abbrev s__law_ways : Stmt := top 21
theorem sc__law_ways : FnScope ["names", "drawn", "found", "name", "row"] ["names", "drawn"] (defScope s__law_ways) := ⟨rfl, rfl, rfl, by decide +kernel, rfl, by decide +kernel, by decide +kernel⟩
def m__law_ways : MF := mFn 5 []
 (mSeq (mSet 2 (mDisp .lst (mCons (mDisp .lst (mNil)) mNil)))
  (mSeq (mFor (mItems (mVar 0)) (tgName 3) (mSet 2 (mOp (mCons (mVar 2) (mCons (mLc (mItems (mVar 2)) (tgName 4) [4] (mB (mOp (mCons (mOp (mCons (mVar 4) mNil) gLen) (mCons (mVar 1) mNil)) gLtX)) (mOp (mCons (mVar 4) (mCons (mDisp .lst (mCons (mVar 3) mNil)) mNil)) gAdd)) mNil)) gAdd)))
  (mRet 2 (mOp (mCons (mLc (mItems (mVar 2)) (tgName 4) [4] (mB (mOp (mCons (mOp (mCons (mVar 4) mNil) gLen) (mCons (mVar 1) mNil)) gEq)) (mVar 4)) mNil) gSortedX))))
abbrev s__law_names : Stmt := top 20
theorem sc__law_names : FnScope ["pool", "many", "letters", "first", "common", "at", "found", "k", "code"] ["pool", "many"] (defScope s__law_names) := ⟨rfl, rfl, rfl, by decide +kernel, rfl, by decide +kernel, by decide +kernel⟩
def m__law_names : MF := mFn 9 []
 (mSeq (mSet 2 (mC (.str "abcdefghijklmnopqrstuvwxyz")))
  (mSeq (mSet 3 (mCall (some 0) (m__law_draw) [] (mCons (mVar 0) (mCons (mC (.int 26)) mNil))))
  (mSeq (mIfS (mAndT (mB (mOp (mCons (mVar 1) (mCons (mC (.int 26)) mNil)) gLe)) (mB (mOp (mCons (mCall (some 0) (m__law_draw) [] (mCons (mVar 0) (mCons (mC (.int 3)) mNil))) (mCons (mC (.int 0)) mNil)) gEq))) (mRet 2 (mLc (mRng1 (mVar 1)) (tgName 7) [7] (mYes) (mOp (mCons (mVar 2) (mCons (mOp (mCons (mOp (mCons (mOp (mCons (mVar 3) (mCons (mVar 7) mNil)) gAdd) mNil) gInt) (mCons (mC (.int 26)) mNil)) gMod) mNil)) gIx))) (mNext))
  (mSeq (mSet 4 (mOp (mCons (mLc (mRng1 (mCall (some 0) (m__law_draw) [] (mCons (mVar 0) (mCons (mC (.int 11)) mNil)))) (tgName 7) [7] (mYes) (mOp (mCons (mVar 2) (mCons (mCall (some 0) (m__law_draw) [] (mCons (mVar 0) (mCons (mC (.int 26)) mNil))) mNil)) gIx)) mNil) (gJoin "")))
  (mSeq (mSet 5 (mCall (some 0) (m__law_draw) [] (mCons (mVar 0) (mCons (mOp (mCons (mOp (mCons (mVar 4) mNil) gLen) (mCons (mC (.int 1)) mNil)) gAdd) mNil))))
  (mSeq (mSet 6 (mDisp .lst (mNil)))
  (mSeq (mFor (mRng1 (mVar 1)) (tgName 7) (mSeq (mSet 8 (mOp (mCons (mOp (mCons (mVar 2) (mCons (mOp (mCons (mOp (mCons (mOp (mCons (mVar 3) (mCons (mVar 7) mNil)) gAdd) mNil) gInt) (mCons (mC (.int 26)) mNil)) gMod) mNil)) gIx) (mCons (mOp (mCons (mVar 2) (mCons (mOp (mCons (mOp (mCons (mOp (mCons (mOp (mCons (mVar 3) (mCons (mOp (mCons (mOp (mCons (mVar 7) (mCons (mC (.int 26)) mNil)) gDiv) (mCons (mC (.int 7)) mNil)) gMul) mNil)) gAdd) (mCons (mVar 7) mNil)) gAdd) mNil) gInt) (mCons (mC (.int 26)) mNil)) gMod) mNil)) gIx) mNil)) gAdd))
  (mExpr (mMethA 6 gAppend (mCons (mOp (mCons (mOp (mCons (mOp (mCons (mVar 4) (mCons (mVar 5) mNil)) gSlH) (mCons (mVar 8) mNil)) gAdd) (mCons (mOp (mCons (mVar 4) (mCons (mVar 5) mNil)) gSlL) mNil)) gAdd) mNil)))))
  (mRet 2 (mVar 6)))))))))
abbrev s__law_same : Stmt := top 16
theorem sc__law_same : FnScope ["actual", "due", "k"] ["actual", "due"] (defScope s__law_same) := ⟨rfl, rfl, rfl, by decide +kernel, rfl, by decide +kernel, by decide +kernel⟩
def m__law_same : Nat → MF
  | 0 => fun _ => .bad
  | fuel + 1 => mFn 3 [] (mSeq (mIfS (mB (mOp (mCons (mVar 1) (mCons (mC (.non)) mNil)) gIsN)) (mRet 2 (mOp (mCons (mVar 0) (mCons (mC (.non)) mNil)) gIsN)) (mNext))
  (mSeq (mIfS (mTru (mIsI2 .tuple .list (mVar 1))) (mSeq (mIfS (mOrT (mB (mOp (mCons (mIsI .tuple (mVar 1)) (mCons (mIsI .tuple (mVar 0)) mNil)) gNe)) (mB (mOp (mCons (mIsI .list (mVar 1)) (mCons (mIsI .list (mVar 0)) mNil)) gNe))) (mRet 2 (mC (.bl false))) (mNext))
  (mSeq (mIfS (mB (mOp (mCons (mOp (mCons (mVar 0) mNil) gLen) (mCons (mOp (mCons (mVar 1) mNil) gLen) mNil)) gNe)) (mRet 2 (mC (.bl false))) (mNext))
  (mSeq (mFor (mRng1 (mOp (mCons (mVar 1) mNil) gLen)) (tgName 2) (mIfS (mNotT (mTru (mCall none (m__law_same fuel) [] (mCons (mOp (mCons (mVar 0) (mCons (mVar 2) mNil)) gIx) (mCons (mOp (mCons (mVar 1) (mCons (mVar 2) mNil)) gIx) mNil))))) (mRet 2 (mC (.bl false))) (mNext)))
  (mRet 2 (mC (.bl true)))))) (mNext))
  (mSeq (mIfS (mTru (mIsI .bool (mVar 1))) (mRet 2 (mAndV (mIsI .bool (mVar 0)) (mOp (mCons (mVar 0) (mCons (mVar 1) mNil)) gEq))) (mNext))
  (mSeq (mIfS (mTru (mIsI .int (mVar 1))) (mRet 2 (mAndV (mIsI .int (mVar 0)) (mAndV (mNotV (mIsI .bool (mVar 0))) (mOp (mCons (mVar 0) (mCons (mVar 1) mNil)) gEq)))) (mNext))
  (mRet 2 (mAndV (mIsI .str (mVar 0)) (mOp (mCons (mVar 0) (mCons (mVar 1) mNil)) gEq)))))))
abbrev s_is_number : Stmt := top 6
theorem sc_is_number : FnScope ["value", "least", "most"] ["value", "least", "most"] (defScope s_is_number) := ⟨rfl, rfl, rfl, by decide +kernel, rfl, by decide +kernel, by decide +kernel⟩
def m_is_number : MF := mFn 3 []
 (mSeq (mIfS (mOrT (mTru (mIsI .bool (mVar 0))) (mNotT (mTru (mIsI .int (mVar 0))))) (mRet 3 (mC (.bl false))) (mNext))
  (mRet 3 (mChain gLe gLe (mVar 1) (mVar 0) (mVar 2))))
abbrev s_checked_number : Stmt := top 7
theorem sc_checked_number : FnScope ["value", "least", "most"] ["value", "least", "most"] (defScope s_checked_number) := ⟨rfl, rfl, rfl, by decide +kernel, rfl, by decide +kernel, by decide +kernel⟩
def m_checked_number : MF := mFn 3 []
 (mSeq (mIfS (mNotT (mTru (mCall none (m_is_number) [] (mCons (mVar 0) (mCons (mVar 1) (mCons (mVar 2) mNil)))))) (mRaise "InvalidNumber" (mOp (mCons (mOp (mCons (mOp (mCons (mC (.str "no number from ")) (mCons (mOp (mCons (mVar 1) mNil) gStr) mNil)) gAdd) (mCons (mC (.str " to ")) mNil)) gAdd) (mCons (mOp (mCons (mVar 2) mNil) gStr) mNil)) gAdd)) (mNext))
  (mRet 3 (mVar 0)))
abbrev s_choose : Stmt := top 11
theorem sc_choose : FnScope ["many", "few", "total", "turn"] ["many", "few"] (defScope s_choose) := ⟨rfl, rfl, rfl, by decide +kernel, rfl, by decide +kernel, by decide +kernel⟩
def m_choose : MF := mFn 4 []
 (mSeq (mExpr (mCall none (m_checked_number) [] (mCons (mVar 0) (mCons (mC (.int 0)) (mCons (mC (.int 60)) mNil)))))
  (mSeq (mExpr (mCall none (m_checked_number) [] (mCons (mVar 1) (mCons (mC (.int 0)) (mCons (mC (.int 60)) mNil)))))
  (mSeq (mSet 2 (mC (.int 1)))
  (mSeq (mFor (mRng1 (mIf (mB (mOp (mCons (mVar 1) (mCons (mVar 0) mNil)) gLe)) (mOp (mCons (mVar 1) (mCons (mOp (mCons (mVar 0) (mCons (mVar 1) mNil)) gSub) mNil)) gMinX) (mC (.int 0)))) (tgName 3) (mSet 2 (mOp (mCons (mOp (mCons (mVar 2) (mCons (mOp (mCons (mVar 0) (mCons (mVar 3) mNil)) gSub) mNil)) gMul) (mCons (mOp (mCons (mVar 3) (mCons (mC (.int 1)) mNil)) gAdd) mNil)) gDiv)))
  (mRet 2 (mIf (mB (mOp (mCons (mVar 1) (mCons (mVar 0) mNil)) gLe)) (mVar 2) (mC (.int 0))))))))
abbrev s_drawn_at : Stmt := top 13
theorem sc_drawn_at : FnScope ["names", "drawn", "place", "rows", "found", "left", "at", "many", "name"] ["names", "drawn", "place"] (defScope s_drawn_at) := ⟨rfl, rfl, rfl, by decide +kernel, rfl, by decide +kernel, by decide +kernel⟩
def m_drawn_at : MF := mFn 9 [2]
 (mSeq (mSet 3 (mSortS (mItems (mVar 0)) (tgName 8) [8] (mYes) (mVar 8)))
  (mSeq (mIfS (mOrT (mB (mOp (mCons (mOp (mCons (mVar 3) mNil) gLen) (mCons (mC (.int 60)) mNil)) gGt)) (mOrT (mB (mOp (mCons (mOp (mCons (mVar 3) mNil) gLen) (mCons (mOp (mCons (mVar 0) mNil) gLen) mNil)) gLtX)) (mNotT (mTru (mCall none (m_is_number) [] (mCons (mVar 1) (mCons (mC (.int 0)) (mCons (mOp (mCons (mVar 3) mNil) gLen) mNil)))))))) (mRaise "InvalidNumber" (mC (.str "no names"))) (mNext))
  (mSeq (mIfS (mOrT (mTru (mIsI .bool (mVar 2))) (mOrT (mNotT (mTru (mIsI .int (mVar 2)))) (mNotT (mB (mChain gLe gLtX (mC (.int 0)) (mVar 2) (mCall none (m_choose) [] (mCons (mOp (mCons (mVar 3) mNil) gLen) (mCons (mVar 1) mNil)))))))) (mRaise "InvalidNumber" (mC (.str "no place"))) (mNext))
  (mSeq (mSet 4 (mDisp .lst (mNil)))
  (mSeq (mSet 5 (mVar 1))
  (mSeq (mFor (mRng1 (mOp (mCons (mVar 3) mNil) gLen)) (tgName 6) (mIfS (mB (mOp (mCons (mVar 5) (mCons (mC (.int 0)) mNil)) gGt)) (mSeq (mSet 7 (mCall none (m_choose) [] (mCons (mOp (mCons (mOp (mCons (mOp (mCons (mVar 3) mNil) gLen) (mCons (mVar 6) mNil)) gSub) (mCons (mC (.int 1)) mNil)) gSub) (mCons (mOp (mCons (mVar 5) (mCons (mC (.int 1)) mNil)) gSub) mNil))))
  (mIfS (mB (mOp (mCons (mVar 2) (mCons (mVar 7) mNil)) gLtX)) (mSeq (mExpr (mMethA 4 gAppend (mCons (mOp (mCons (mVar 3) (mCons (mVar 6) mNil)) gIx) mNil)))
  (mSet 5 (mOp (mCons (mVar 5) (mCons (mC (.int 1)) mNil)) gSub))) (mSet 2 (mOp (mCons (mVar 2) (mCons (mVar 7) mNil)) gSub)))) (mNext)))
  (mRet 3 (mVar 4))))))))
abbrev s_place_of : Stmt := top 14
theorem sc_place_of : FnScope ["names", "told", "rows", "total", "left", "at", "name"] ["names", "told"] (defScope s_place_of) := ⟨rfl, rfl, rfl, by decide +kernel, rfl, by decide +kernel, by decide +kernel⟩
def m_place_of : MF := mFn 7 []
 (mSeq (mSet 2 (mSortS (mItems (mVar 0)) (tgName 6) [6] (mYes) (mVar 6)))
  (mSeq (mIfS (mOrT (mB (mOp (mCons (mOp (mCons (mVar 2) mNil) gLen) (mCons (mC (.int 60)) mNil)) gGt)) (mOrT (mB (mOp (mCons (mOp (mCons (mVar 1) mNil) gList) (mCons (mSortS (mItems (mVar 1)) (tgName 6) [6] (mYes) (mVar 6)) mNil)) gNe)) (mTru (mLc (mItems (mVar 1)) (tgName 6) [6] (mB (mOp (mCons (mVar 6) (mCons (mVar 2) mNil)) gNotInX)) (mVar 6))))) (mRaise "InvalidPaper" (mC (.str "no names"))) (mNext))
  (mSeq (mSet 3 (mC (.int 0)))
  (mSeq (mSet 4 (mOp (mCons (mVar 1) mNil) gLen))
  (mSeq (mFor (mRng1 (mOp (mCons (mVar 2) mNil) gLen)) (tgName 5) (mIfS (mB (mOp (mCons (mVar 4) (mCons (mC (.int 0)) mNil)) gGt)) (mIfS (mB (mOp (mCons (mOp (mCons (mVar 2) (mCons (mVar 5) mNil)) gIx) (mCons (mVar 1) mNil)) gInX)) (mSet 4 (mOp (mCons (mVar 4) (mCons (mC (.int 1)) mNil)) gSub)) (mSet 3 (mOp (mCons (mVar 3) (mCons (mCall none (m_choose) [] (mCons (mOp (mCons (mOp (mCons (mOp (mCons (mVar 2) mNil) gLen) (mCons (mVar 5) mNil)) gSub) (mCons (mC (.int 1)) mNil)) gSub) (mCons (mOp (mCons (mVar 4) (mCons (mC (.int 1)) mNil)) gSub) mNil))) mNil)) gAdd))) (mNext)))
  (mRet 2 (mVar 3)))))))
abbrev s_checked_lot : Stmt := top 10
theorem sc_checked_lot : FnScope ["seeds", "bad"] ["seeds", "bad"] (defScope s_checked_lot) := ⟨rfl, rfl, rfl, by decide +kernel, rfl, by decide +kernel, by decide +kernel⟩
def m_checked_lot : MF := mFn 2 []
 (mSeq (mExpr (mCall none (m_checked_number) [] (mCons (mVar 0) (mCons (mC (.int 1)) (mCons (mC (.int 60)) mNil)))))
  (mSeq (mExpr (mCall none (m_checked_number) [] (mCons (mVar 1) (mCons (mC (.int 0)) (mCons (mVar 0) mNil)))))
  (mRet 2 (mDisp .tup (mCons (mVar 0) (mCons (mVar 1) mNil))))))
abbrev s_ways : Stmt := top 12
theorem sc_ways : FnScope ["seeds", "drawn"] ["seeds", "drawn"] (defScope s_ways) := ⟨rfl, rfl, rfl, by decide +kernel, rfl, by decide +kernel, by decide +kernel⟩
def m_ways : MF := mFn 2 []
 (mSeq (mExpr (mCall none (m_checked_lot) [] (mCons (mVar 0) (mCons (mC (.int 0)) mNil))))
  (mSeq (mExpr (mCall none (m_checked_number) [] (mCons (mVar 1) (mCons (mC (.int 0)) (mCons (mVar 0) mNil)))))
  (mRet 2 (mCall none (m_choose) [] (mCons (mVar 0) (mCons (mVar 1) mNil))))))
abbrev s__law_refused : Stmt := top 22
theorem sc__law_refused : FnScope ["choice", "names", "one", "two", "problem"] ["choice", "names", "one", "two"] (defScope s__law_refused) := ⟨rfl, rfl, rfl, by decide +kernel, rfl, by decide +kernel, by decide +kernel⟩
def m__law_refused : MF := mFn 5 []
 (mSeq (mTryAs known (subOf sub_PlotError) 4 (mSeq (mIfS (mOrT (mB (mOp (mCons (mIsE known (subOf (sub_InvalidNumber)) 4) (mCons (mIsE known (subOf (sub_InvalidPaper)) 4) mNil)) gEq)) (mNotT (mTru (mIsE known (subOf (sub_VE)) 4)))) (mRet 4 (mC (.str "other"))) (mNext))
  (mRet 4 (mIf (mTru (mIsE known (subOf (sub_InvalidNumber)) 4)) (mC (.str "number")) (mC (.str "paper"))))) (mIfS (mB (mOp (mCons (mVar 0) (mCons (mC (.int 0)) mNil)) gEq)) (mExpr (mCall none (m_drawn_at) [] (mCons (mVar 1) (mCons (mVar 2) (mCons (mVar 3) mNil))))) (mIfS (mB (mOp (mCons (mVar 0) (mCons (mC (.int 1)) mNil)) gEq)) (mExpr (mCall none (m_place_of) [] (mCons (mVar 1) (mCons (mVar 2) mNil)))) (mExpr (mCall none (m_ways) [] (mCons (mVar 2) (mCons (mVar 3) mNil)))))))
  (mRet 4 (mC (.str "none"))))
abbrev s__law_pick : Stmt := top 19
theorem sc__law_pick : FnScope ["pool", "rows"] ["pool", "rows"] (defScope s__law_pick) := ⟨rfl, rfl, rfl, by decide +kernel, rfl, by decide +kernel, by decide +kernel⟩
def m__law_pick : MF := mFn 2 []
 (mRet 2 (mOp (mCons (mVar 1) (mCons (mCall (some 0) (m__law_draw) [] (mCons (mVar 0) (mCons (mOp (mCons (mVar 1) mNil) gLen) mNil))) mNil)) gIx))
abbrev s_law : Stmt := top 23
theorem sc_law : FnScope ["script", "pool", "handed", "names", "drawn", "every", "k", "place", "wrong", "letters", "wide"] ["script"] (defScope s_law) := ⟨rfl, rfl, rfl, by decide +kernel, rfl, by decide +kernel, by decide +kernel⟩
def m_law : MF := mFn 11 []
 (mSeq (mSet 1 (mCall none (m__law_pool) [] (mCons (mVar 0) mNil)))
  (mSeq (mSet 2 (mOp (mCons (mCall (some 0) (m__law_names) [] (mCons (mVar 1) (mCons (mC (.int 7)) mNil))) (mCons (mCall (some 0) (m__law_draw) [] (mCons (mVar 1) (mCons (mC (.int 8)) mNil))) mNil)) gSlH))
  (mSeq (mSet 3 (mOp (mCons (mVar 2) mNil) gSortedX))
  (mSeq (mSet 4 (mCall (some 0) (m__law_draw) [] (mCons (mVar 1) (mCons (mOp (mCons (mOp (mCons (mVar 3) mNil) gLen) (mCons (mC (.int 1)) mNil)) gAdd) mNil))))
  (mSeq (mSet 5 (mCall none (m__law_ways) [] (mCons (mVar 3) (mCons (mVar 4) mNil))))
  (mSeq (mIfS (mAndT (mB (mOp (mCons (mOp (mCons (mVar 3) mNil) gLen) (mCons (mC (.int 0)) mNil)) gGt)) (mNotT (mTru (mCall none (m__law_same 6) [] (mCons (mCall none (m_ways) [] (mCons (mOp (mCons (mVar 3) mNil) gLen) (mCons (mVar 4) mNil))) (mCons (mOp (mCons (mVar 5) mNil) gLen) mNil)))))) (mRet 1 (mC (.bl false))) (mNext))
  (mSeq (mFor (mRng1 (mC (.int 6))) (tgName 6) (mSeq (mSet 7 (mCall (some 0) (m__law_draw) [] (mCons (mVar 1) (mCons (mOp (mCons (mVar 5) mNil) gLen) mNil))))
  (mIfS (mOrT (mNotT (mTru (mCall none (m__law_same 6) [] (mCons (mCall none (m_drawn_at) [] (mCons (mOp (mCons (mVar 2) mNil) gList) (mCons (mVar 4) (mCons (mVar 7) mNil)))) (mCons (mOp (mCons (mVar 5) (mCons (mVar 7) mNil)) gIx) mNil))))) (mNotT (mTru (mCall none (m__law_same 6) [] (mCons (mCall none (m_place_of) [] (mCons (mOp (mCons (mVar 2) mNil) gList) (mCons (mOp (mCons (mOp (mCons (mVar 5) (mCons (mVar 7) mNil)) gIx) mNil) gList) mNil))) (mCons (mVar 7) mNil)))))) (mRet 1 (mC (.bl false))) (mNext))))
  (mSeq (mFor (mItems (mDisp .lst (mCons (mOp (mCons (mC (.int 1)) mNil) gNeg) (mCons (mOp (mCons (mVar 5) mNil) gLen) (mCons (mC (.bl true)) mNil))))) (tgName 8) (mIfS (mB (mOp (mCons (mCall none (m__law_refused) [] (mCons (mC (.int 0)) (mCons (mVar 2) (mCons (mVar 4) (mCons (mVar 8) mNil))))) (mCons (mC (.str "number")) mNil)) gNe)) (mRet 1 (mC (.bl false))) (mNext)))
  (mSeq (mIfS (mOrT (mB (mOp (mCons (mCall none (m__law_refused) [] (mCons (mC (.int 0)) (mCons (mVar 2) (mCons (mOp (mCons (mOp (mCons (mVar 3) mNil) gLen) (mCons (mC (.int 1)) mNil)) gAdd) (mCons (mC (.int 0)) mNil))))) (mCons (mC (.str "number")) mNil)) gNe)) (mB (mOp (mCons (mCall none (m__law_refused) [] (mCons (mC (.int 1)) (mCons (mVar 2) (mCons (mDisp .lst (mCons (mC (.str "nobodyhere")) mNil)) (mCons (mC (.int 0)) mNil))))) (mCons (mC (.str "paper")) mNil)) gNe))) (mRet 1 (mC (.bl false))) (mNext))
  (mSeq (mIfS (mB (mOp (mCons (mOp (mCons (mVar 3) mNil) gLen) (mCons (mC (.int 1)) mNil)) gGt)) (mIfS (mOrT (mB (mOp (mCons (mCall none (m__law_refused) [] (mCons (mC (.int 1)) (mCons (mVar 2) (mCons (mDisp .lst (mCons (mOp (mCons (mVar 3) (mCons (mC (.int 1)) mNil)) gIx) (mCons (mOp (mCons (mVar 3) (mCons (mC (.int 0)) mNil)) gIx) mNil))) (mCons (mC (.int 0)) mNil))))) (mCons (mC (.str "paper")) mNil)) gNe)) (mB (mOp (mCons (mCall none (m__law_refused) [] (mCons (mC (.int 0)) (mCons (mOp (mCons (mVar 3) (mCons (mOp (mCons (mVar 3) (mCons (mC (.int 1)) mNil)) gSlH) mNil)) gAdd) (mCons (mC (.int 1)) (mCons (mC (.int 0)) mNil))))) (mCons (mC (.str "number")) mNil)) gNe))) (mRet 1 (mC (.bl false))) (mNext)) (mNext))
  (mSeq (mSet 9 (mC (.str "abcdefghijklmnopqrstuvwxyz")))
  (mSeq (mSet 10 (mLc (mRng1 (mC (.int 61))) (tgName 6) [6] (mYes) (mOp (mCons (mOp (mCons (mC (.str "a")) (mCons (mOp (mCons (mVar 9) (mCons (mOp (mCons (mOp (mCons (mVar 6) mNil) gInt) (mCons (mC (.int 26)) mNil)) gMod) mNil)) gIx) mNil)) gAdd) (mCons (mOp (mCons (mVar 9) (mCons (mOp (mCons (mVar 6) (mCons (mC (.int 26)) mNil)) gDiv) mNil)) gIx) mNil)) gAdd)))
  (mSeq (mIfS (mOrT (mB (mOp (mCons (mCall none (m__law_refused) [] (mCons (mC (.int 0)) (mCons (mVar 10) (mCons (mC (.int 1)) (mCons (mC (.int 0)) mNil))))) (mCons (mC (.str "number")) mNil)) gNe)) (mB (mOp (mCons (mCall none (m__law_refused) [] (mCons (mC (.int 1)) (mCons (mVar 10) (mCons (mDisp .lst (mNil)) (mCons (mC (.int 0)) mNil))))) (mCons (mC (.str "paper")) mNil)) gNe))) (mRet 1 (mC (.bl false))) (mNext))
  (mSeq (mIfS (mNotT (mTru (mCall none (m__law_same 6) [] (mCons (mCall none (m_drawn_at) [] (mCons (mOp (mCons (mVar 10) (mCons (mC (.int 60)) mNil)) gSlH) (mCons (mC (.int 1)) (mCons (mC (.int 59)) mNil)))) (mCons (mOp (mCons (mOp (mCons (mOp (mCons (mVar 10) (mCons (mC (.int 60)) mNil)) gSlH) mNil) gSortedX) (mCons (mC (.int 59)) mNil)) gSlL) mNil))))) (mRet 1 (mC (.bl false))) (mNext))
  (mRet 1 (mAndV (mOp (mCons (mCall none (m__law_refused) [] (mCons (mC (.int 2)) (mCons (mDisp .lst (mNil)) (mCons (mCall (some 0) (m__law_pick) [] (mCons (mVar 1) (mCons (mDisp .lst (mCons (mC (.int 0)) (mCons (mC (.int 61)) (mCons (mC (.bl true)) mNil)))) mNil))) (mCons (mC (.int 0)) mNil))))) (mCons (mC (.str "number")) mNil)) gEq) (mOp (mCons (mCall none (m__law_refused) [] (mCons (mC (.int 2)) (mCons (mDisp .lst (mNil)) (mCons (mC (.int 5)) (mCons (mCall (some 0) (m__law_pick) [] (mCons (mVar 1) (mCons (mDisp .lst (mCons (mC (.int 6)) (mCons (mOp (mCons (mC (.int 1)) mNil) gNeg) (mCons (mC (.bl true)) mNil)))) mNil))) mNil))))) (mCons (mC (.str "number")) mNil)) gEq)))))))))))))))))

end Law

namespace Law
open PySem PySem.Spec L2 DL
structure Txt (K : PySem.W.Frag) (mg : Str → Option Value) (C_InvalidNumber C_InvalidPaper C_PlotError : Addr) : Prop where
  b_ValueError : mg "ValueError" = none
  b_abs : mg "abs" = none
  b_bool : mg "bool" = none
  b_int : mg "int" = none
  b_isinstance : mg "isinstance" = none
  b_len : mg "len" = none
  b_list : mg "list" = none
  b_min : mg "min" = none
  b_range : mg "range" = none
  b_sorted : mg "sorted" = none
  b_str : mg "str" = none
  b_tuple : mg "tuple" = none
  g_MOST : ∃ t, mg "MOST" = some (.int 60 t)
  e_InvalidNumber : ErrOk K mg "InvalidNumber" C_InvalidNumber
  e_InvalidPaper : ErrOk K mg "InvalidPaper" C_InvalidPaper
  e_PlotError : ErrOk K mg "PlotError" C_PlotError
  sb_InvalidNumber : SubOk K mg known (subOf sub_InvalidNumber) (.ref C_InvalidNumber)
  is_InvalidNumber : IsOk K mg known (subOf sub_InvalidNumber) (.ref C_InvalidNumber)
  sb_InvalidPaper : SubOk K mg known (subOf sub_InvalidPaper) (.ref C_InvalidPaper)
  is_InvalidPaper : IsOk K mg known (subOf sub_InvalidPaper) (.ref C_InvalidPaper)
  sb_PlotError : SubOk K mg known (subOf sub_PlotError) (.ref C_PlotError)
  is_PlotError : IsOk K mg known (subOf sub_PlotError) (.ref C_PlotError)
  is_VE : IsOk K mg known (subOf sub_VE) (.type "ValueError")
  F__law_pool : ∃ (f : Addr) (fd : FuncData), Fun K "_law_pool" "_law_pool" s__law_pool f fd ∧ mg "_law_pool" = some (.ref f)
  F__law_draw : ∃ (f : Addr) (fd : FuncData), Fun K "_law_draw" "_law_draw" s__law_draw f fd ∧ mg "_law_draw" = some (.ref f)
  F__law_ways : ∃ (f : Addr) (fd : FuncData), Fun K "_law_ways" "_law_ways" s__law_ways f fd ∧ mg "_law_ways" = some (.ref f)
  F__law_names : ∃ (f : Addr) (fd : FuncData), Fun K "_law_names" "_law_names" s__law_names f fd ∧ mg "_law_names" = some (.ref f)
  F__law_same : ∃ (f : Addr) (fd : FuncData), Fun K "_law_same" "_law_same" s__law_same f fd ∧ mg "_law_same" = some (.ref f)
  F_is_number : ∃ (f : Addr) (fd : FuncData), FunD K "is_number" "is_number" (defArgs s_is_number) (defBody s_is_number) (defScope s_is_number) [.int 0, .int 1000000] [] f fd ∧ mg "is_number" = some (.ref f)
  F_checked_number : ∃ (f : Addr) (fd : FuncData), FunD K "checked_number" "checked_number" (defArgs s_checked_number) (defBody s_checked_number) (defScope s_checked_number) [.int 0, .int 1000000] [] f fd ∧ mg "checked_number" = some (.ref f)
  F_choose : ∃ (f : Addr) (fd : FuncData), Fun K "choose" "choose" s_choose f fd ∧ mg "choose" = some (.ref f)
  F_drawn_at : ∃ (f : Addr) (fd : FuncData), Fun K "drawn_at" "drawn_at" s_drawn_at f fd ∧ mg "drawn_at" = some (.ref f)
  F_place_of : ∃ (f : Addr) (fd : FuncData), Fun K "place_of" "place_of" s_place_of f fd ∧ mg "place_of" = some (.ref f)
  F_checked_lot : ∃ (f : Addr) (fd : FuncData), Fun K "checked_lot" "checked_lot" s_checked_lot f fd ∧ mg "checked_lot" = some (.ref f)
  F_ways : ∃ (f : Addr) (fd : FuncData), Fun K "ways" "ways" s_ways f fd ∧ mg "ways" = some (.ref f)
  F__law_refused : ∃ (f : Addr) (fd : FuncData), Fun K "_law_refused" "_law_refused" s__law_refused f fd ∧ mg "_law_refused" = some (.ref f)
  F__law_pick : ∃ (f : Addr) (fd : FuncData), Fun K "_law_pick" "_law_pick" s__law_pick f fd ∧ mg "_law_pick" = some (.ref f)
section
variable {P : Program} {w : World} {K : PySem.W.Frag} {mg : Str → Option Value} {base : Heap} {C_InvalidNumber C_InvalidPaper C_PlotError : Addr}
theorem dk__law_pool (T : Txt K mg C_InvalidNumber C_InvalidPaper C_PlotError) : DefOk P w K mg base "_law_pool" 1 1 [] m__law_pool := by
  obtain ⟨f, fd, F, mF⟩ := T.F__law_pool
  have b := F.binds (ps := ["script"]) fun _ _ _ _ _ _ us hl => match us, hl with | [_], _ => rfl
  exact dk_mk0 (def_ok (k := 0) (np := 1) [] F sc__law_pool rfl (by decide) (fun cdv A outer s H E G W hr hK hM hX hfx tk => by
  obtain ⟨K0, mg0, fx0, xa0⟩ := G
  cases hK
  cases hM
  cases hX
  have hu := hr.units
  have hv := Room.units65 hr
  exact (s_one (s_ret 1 (d_lst (da_cons (b_ty ok_list call_list_of bt_list T.b_list rfl (d_var (pv 0))) (da_cons d_int (da_cons d_int (da_cons d_int (da_cons d_int da_nil)))))))))) mF F.kp b
theorem dk__law_draw (T : Txt K mg C_InvalidNumber C_InvalidPaper C_PlotError) : DefOk P w K mg base "_law_draw" 1 2 [] m__law_draw := by
  obtain ⟨f, fd, F, mF⟩ := T.F__law_draw
  have b := F.binds (ps := ["pool", "many"]) fun _ _ _ _ _ _ us hl => match us, hl with | [_, _], _ => rfl
  exact dk_mk0 (def_ok (k := 0) (np := 2) [] F sc__law_draw rfl (by decide) (fun cdv A outer s H E G W hr hK hM hX hfx tk => by
  obtain ⟨K0, mg0, fx0, xa0⟩ := G
  cases hK
  cases hM
  cases hX
  have hu := hr.units
  have hv := Room.units65 hr
  exact (s_seq (s_if (dt_cmp op_gt ok_cI (nomark _) (d_ix rfl (fun _ _ => rfl) (d_var (pv 0)) d_int) d_int) (s_seq (s_set (i := 2) sc__law_draw.nd rfl (by first | exact Or.inl rfl | exact Or.inr rfl) (hfx 2 (by decide)) (d_bin op_mod ok_mod (b_ty ok_int call_intA bt_int T.b_int rfl (d_ix rfl (fun _ _ => rfl) (d_var (pv 0)) d_int)) (d_var (pv 1))))
  (s_seq (s_setIx (q_var (pv 0)) p_int (d_bin op_fdiv ok_div (d_ix rfl (fun _ _ => rfl) (d_var (pv 0)) d_int) (d_var (pv 1))))
  (s_one (s_ret 2 (d_var (pv 2)))))) s_nil)
  (s_seq (s_if (PW.pt (dt_and (dt_cmp (op_eqA hu) ok_eq (nomark _) (d_bin op_mod ok_mod (b_ty ok_int call_intA bt_int T.b_int rfl (d_ix rfl (fun _ _ => rfl) (d_var (pv 0)) d_int)) d_int) d_int) (dt_and1 (dt_cmp (op_ltX (Nat.lt_of_le_of_lt (Nat.le_add_right _ _) hu)) ok_ltX (nomark _) (d_ix rfl (fun _ _ => rfl) (d_var (pv 0)) d_int) (b_one ok_len call_lenA bt_len T.b_len rfl (d_ix rfl (fun _ _ => rfl) (d_var (pv 0)) d_int)))))) (s_seq (s_set (i := 3) sc__law_draw.nd rfl (by first | exact Or.inl rfl | exact Or.inr rfl) (hfx 3 (by decide)) (b_one ok_abs call_abs bt_abs T.b_abs rfl (d_p (p_q (q_ix rfl (fun _ _ => rfl) (q_ix rfl (fun _ _ => rfl) (q_var (pv 0)) p_int) (p_q (q_ix rfl (fun _ _ => rfl) (q_var (pv 0)) p_int)))))))
  (s_seq (s_setIx (q_var (pv 0)) p_int (d_bin op_addA ok_add (d_ix rfl (fun _ _ => rfl) (d_var (pv 0)) d_int) d_int))
  (s_seq (s_if (dt_cmp op_ge ok_cI (nomark _) (d_var (pv 3)) (d_bin op_pow ok_pow d_int d_int)) (s_seq (s_setIx (q_var (pv 0)) p_int (d_bin op_fdiv ok_div (d_var (pv 3)) (d_var (pv 1))))
  (s_one (s_ret 2 (d_bin op_mod ok_mod (b_ty ok_int call_intA bt_int T.b_int rfl (d_var (pv 3))) (d_var (pv 1)))))) s_nil)
  (s_one (s_setIx (q_var (pv 0)) p_int (d_var (pv 3))))))) s_nil)
  (s_seq (s_setIx (q_var (pv 0)) p_int (d_bin op_addA ok_add (d_ix rfl (fun _ _ => rfl) (d_var (pv 0)) d_int) d_int))
  (s_seq (s_set (i := 4) sc__law_draw.nd rfl (by first | exact Or.inl rfl | exact Or.inr rfl) (hfx 4 (by decide)) (d_bin op_mod ok_mod (b_ty ok_int call_intA bt_int T.b_int rfl (d_bin op_addA ok_add (d_bin op_addA ok_add (d_bin op_mulA ok_mul (d_ix rfl (fun _ _ => rfl) (d_var (pv 0)) d_int) d_int) (d_bin op_mulA ok_mul (d_ix rfl (fun _ _ => rfl) (d_var (pv 0)) d_int) d_int)) d_int)) d_int))
  (s_seq (s_set (i := 4) sc__law_draw.nd rfl (by first | exact Or.inl rfl | exact Or.inr rfl) (hfx 4 (by decide)) (d_bin op_mod ok_mod (b_ty ok_int call_intA bt_int T.b_int rfl (d_bin op_addA ok_add (d_bin op_mulA ok_mul (d_var (pv 4)) (d_var (pv 4))) (d_bin op_mulA ok_mul (d_ix rfl (fun _ _ => rfl) (d_var (pv 0)) d_int) d_int))) d_int))
  (s_one (s_ret 2 (d_bin op_mod ok_mod (b_ty ok_int call_intA bt_int T.b_int rfl (d_var (pv 4))) (d_var (pv 1)))))))))))) mF F.kp b
theorem dk__law_ways (T : Txt K mg C_InvalidNumber C_InvalidPaper C_PlotError) : DefOk P w K mg base "_law_ways" 1 2 [] m__law_ways := by
  obtain ⟨f, fd, F, mF⟩ := T.F__law_ways
  have b := F.binds (ps := ["names", "drawn"]) fun _ _ _ _ _ _ us hl => match us, hl with | [_, _], _ => rfl
  exact dk_mk0 (def_ok (k := 0) (np := 2) [] F sc__law_ways rfl (by decide) (fun cdv A outer s H E G W hr hK hM hX hfx tk => by
  obtain ⟨K0, mg0, fx0, xa0⟩ := G
  cases hK
  cases hM
  cases hX
  have hu := hr.units
  have hv := Room.units65 hr
  exact (s_seq (s_set (i := 2) sc__law_ways.nd rfl (by first | exact Or.inl rfl | exact Or.inr rfl) (hfx 2 (by decide)) (d_lst (da_cons (d_lst da_nil) da_nil)))
  (s_seq (s_for (passes_of rfl) rfl (i_any rfl (d_var (pv 0))) (pg_name (i := 3) sc__law_ways.nd rfl (by first | exact Or.inl rfl | exact Or.inr rfl)) (tg_name (hfx 3 (by decide))) (s_one (s_set (i := 2) sc__law_ways.nd rfl (by first | exact Or.inl rfl | exact Or.inr rfl) (hfx 2 (by decide)) (d_bin op_addA ok_add (d_var (pv 2)) (d_lc (own := [("row", 4)]) rfl sc__law_ways.nd (i_any rfl (d_var (pv 2))) (blkOk_by (by kernel_rfl)) (fun _ _ _ _ _ => (pg_name (i := 4) sc__law_ways.nd rfl (by first | exact Or.inl rfl | exact Or.inr rfl))) (tg_name (hfx 4 (by decide))) (by decide) (fx_all hfx (by decide)) (fun _ _ _ _ _ => (pts_one (dt_cmp (op_ltX (Nat.lt_of_le_of_lt (Nat.le_add_right _ _) hu)) ok_ltX (nomark _) (b_one ok_len call_lenA bt_len T.b_len rfl (d_var (pv 4))) (d_var (pv 1))))) (fun _ _ _ _ _ => (d_bin op_addA ok_add (d_var (pv 4)) (d_lst (da_cons (d_var (pv 3)) da_nil)))))))))
  (s_one (s_ret 2 (b_one ok_sortedX (call_sortedA hv) bt_sorted T.b_sorted rfl (d_lc (own := [("row", 4)]) rfl sc__law_ways.nd (i_any rfl (d_var (pv 2))) (blkOk_by (by kernel_rfl)) (fun _ _ _ _ _ => (pg_name (i := 4) sc__law_ways.nd rfl (by first | exact Or.inl rfl | exact Or.inr rfl))) (tg_name (hfx 4 (by decide))) (by decide) (fx_all hfx (by decide)) (fun _ _ _ _ _ => (pts_one (dt_cmp (op_eqA hu) ok_eq (nomark _) (b_one ok_len call_lenA bt_len T.b_len rfl (d_var (pv 4))) (d_var (pv 1))))) (fun _ _ _ _ _ => (d_var (pv 4))))))))))) mF F.kp b
theorem dk__law_names (T : Txt K mg C_InvalidNumber C_InvalidPaper C_PlotError) : DefOk P w K mg base "_law_names" 2 2 [] m__law_names := by
  obtain ⟨f, fd, F, mF⟩ := T.F__law_names
  have b := F.binds (ps := ["pool", "many"]) fun _ _ _ _ _ _ us hl => match us, hl with | [_, _], _ => rfl
  exact dk_mk0 (def_ok (k := 1) (np := 2) [] F sc__law_names rfl (by decide) (fun cdv A outer s H E G W hr hK hM hX hfx tk => by
  obtain ⟨K0, mg0, fx0, xa0⟩ := G
  cases hK
  cases hM
  cases hX
  have hu := hr.units
  have hv := Room.units65 hr
  exact (s_seq (s_set (i := 2) sc__law_names.nd rfl (by first | exact Or.inl rfl | exact Or.inr rfl) (hfx 2 (by decide)) d_str)
  (s_seq (s_set (i := 3) sc__law_names.nd rfl (by first | exact Or.inl rfl | exact Or.inr rfl) (hfx 3 (by decide)) (d_ucall (some 0) (dk__law_draw T) 0 (by decide) (hr.mono (by decide)) rfl rfl rfl rfl tk (da_cons (d_var (pv 0)) (da_cons d_int da_nil)) (MA.len_cons (MA.len_cons MA.len_nil)) (by decide)))
  (s_seq (s_if (PW.pt (dt_and (dt_cmp op_le ok_cI (nomark _) (d_var (pv 1)) d_int) (dt_and1 (dt_cmp (op_eqA hu) ok_eq (nomark _) (d_ucall (some 0) (dk__law_draw T) 0 (by decide) (hr.mono (by decide)) rfl rfl rfl rfl tk (da_cons (d_var (pv 0)) (da_cons d_int da_nil)) (MA.len_cons (MA.len_cons MA.len_nil)) (by decide)) d_int)))) (s_one (s_ret 2 (d_lc (own := [("k", 7)]) rfl sc__law_names.nd (i_rng1 rfl T.b_range (d_var (pv 1))) (blkOk_by (by kernel_rfl)) (fun _ _ _ _ _ => (pg_name (i := 7) sc__law_names.nd rfl (by first | exact Or.inl rfl | exact Or.inr rfl))) (tg_name (hfx 7 (by decide))) (by decide) (fx_all hfx (by decide)) (fun _ _ _ _ _ => ts_nil) (fun _ _ _ _ _ => (d_ix rfl (fun _ _ => rfl) (d_var (pv 2)) (d_bin op_mod ok_mod (b_ty ok_int call_intA bt_int T.b_int rfl (d_bin op_addA ok_add (d_var (pv 3)) (d_var (pv 7)))) d_int)))))) s_nil)
  (s_seq (s_set (i := 4) sc__law_names.nd rfl (by first | exact Or.inl rfl | exact Or.inr rfl) (hfx 4 (by decide)) (d_join (sep := "") rfl pe_str (d_lc (own := [("k", 7)]) rfl sc__law_names.nd (i_rng1 rfl T.b_range (d_ucall (some 0) (dk__law_draw T) 0 (by decide) (hr.mono (by decide)) rfl rfl rfl rfl tk (da_cons (d_var (pv 0)) (da_cons d_int da_nil)) (MA.len_cons (MA.len_cons MA.len_nil)) (by decide))) (blkOk_by (by kernel_rfl)) (fun _ _ _ _ _ => (pg_name (i := 7) sc__law_names.nd rfl (by first | exact Or.inl rfl | exact Or.inr rfl))) (tg_name (hfx 7 (by decide))) (by decide) (fx_all hfx (by decide)) (fun _ _ _ _ _ => ts_nil) (fun _ _ _ _ _ => (d_ix rfl (fun _ _ => rfl) (d_var (pv 2)) (d_ucall (some 0) (dk__law_draw T) 0 (by decide) (hr.mono (by decide)) rfl rfl rfl rfl takes_no (da_cons (d_var (pv 0)) (da_cons d_int da_nil)) (MA.len_cons (MA.len_cons MA.len_nil)) (by decide)))))))
  (s_seq (s_set (i := 5) sc__law_names.nd rfl (by first | exact Or.inl rfl | exact Or.inr rfl) (hfx 5 (by decide)) (d_ucall (some 0) (dk__law_draw T) 0 (by decide) (hr.mono (by decide)) rfl rfl rfl rfl tk (da_cons (d_var (pv 0)) (da_cons (d_bin op_addA ok_add (b_one ok_len call_lenA bt_len T.b_len rfl (d_var (pv 4))) d_int) da_nil)) (MA.len_cons (MA.len_cons MA.len_nil)) (by decide)))
  (s_seq (s_set (i := 6) sc__law_names.nd rfl (by first | exact Or.inl rfl | exact Or.inr rfl) (hfx 6 (by decide)) (d_lst da_nil))
  (s_seq (s_for (passes_of rfl) rfl (i_rng1 rfl T.b_range (d_var (pv 1))) (pg_name (i := 7) sc__law_names.nd rfl (by first | exact Or.inl rfl | exact Or.inr rfl)) (tg_name (hfx 7 (by decide))) (s_seq (s_set (i := 8) sc__law_names.nd rfl (by first | exact Or.inl rfl | exact Or.inr rfl) (hfx 8 (by decide)) (d_bin op_addA ok_add (d_ix rfl (fun _ _ => rfl) (d_var (pv 2)) (d_bin op_mod ok_mod (b_ty ok_int call_intA bt_int T.b_int rfl (d_bin op_addA ok_add (d_var (pv 3)) (d_var (pv 7)))) d_int)) (d_ix rfl (fun _ _ => rfl) (d_var (pv 2)) (d_bin op_mod ok_mod (b_ty ok_int call_intA bt_int T.b_int rfl (d_bin op_addA ok_add (d_bin op_addA ok_add (d_var (pv 3)) (d_bin op_mulA ok_mul (d_bin op_fdiv ok_div (d_var (pv 7)) d_int) d_int)) (d_var (pv 7)))) d_int))))
  (s_one (s_expr (d_methA rfl ok_append (pv 6) (by exact (da_cons (d_bin op_addA ok_add (d_bin op_addA ok_add (d_slH rfl (d_var (pv 4)) (d_var (pv 5))) (d_var (pv 8))) (d_slL rfl (d_var (pv 4)) (d_var (pv 5)))) da_nil)) fun _ _ h1 h2 => pe_bm PySem.F.plainAttrs_list PySem.F.slot_list_append PySem.F.type_list_append mt_appendA h1 h2)))))
  (s_one (s_ret 2 (d_var (pv 6))))))))))))) mF F.kp b
theorem dk__law_same_n (T : Txt K mg C_InvalidNumber C_InvalidPaper C_PlotError) : ∀ fuel : Nat, DefOk P w K mg base "_law_same" (fuel + 1) 2 [] (m__law_same fuel)
  | 0 => by
    obtain ⟨f, fd, F, mF⟩ := T.F__law_same
    have b := F.binds (ps := ["actual", "due"]) fun _ _ _ _ _ _ us hl => match us, hl with | [_, _], _ => rfl
    exact dk_mk0 (def_ok (k := 0) (np := 2) (mb := fun _ => .bad) [] F sc__law_same rfl (by decide) (fun cdv A outer s H E G W hr hK hM hX hfx tk => s_bad)) mF F.kp b
  | fuel + 1 => by
    have ih : DefOk P w K mg base "_law_same" (fuel + 1) 2 [] (m__law_same fuel) := dk__law_same_n T fuel
    obtain ⟨f, fd, F, mF⟩ := T.F__law_same
    have b := F.binds (ps := ["actual", "due"]) fun _ _ _ _ _ _ us hl => match us, hl with | [_, _], _ => rfl
    have e : fuel + 1 + 1 = fuel + 1 + 1 := by omega
    rw [e]
    exact dk_mk0 (def_ok (k := fuel + 1) (np := 2) [] F sc__law_same rfl (by decide) (fun cdv A outer s H E G W hr hK hM hX hfx tk => by
  obtain ⟨K0, mg0, fx0, xa0⟩ := G
  cases hK
  cases hM
  cases hX
  have hu := hr.units
  have hv := Room.units65 hr
  exact (s_seq (s_if (dt_cmp op_isN ok_isN (nomark _) (d_var (pv 1)) d_non) (s_one (s_ret 2 (d_cmp op_isN ok_isN (nomark _) (d_var (pv 0)) d_non))) s_nil)
  (s_seq (s_if (dt_tru rfl (d_isI2 rfl (d_var (pv 1)) (d_ty bt_tuple T.b_tuple rfl) (d_ty bt_list T.b_list rfl) rfl T.b_isinstance)) (s_seq (s_if (PW.pt (dt_or (dt_cmp (op_neA hu) ok_ne (nomark _) (d_isI rfl (d_var (pv 1)) (d_ty bt_tuple T.b_tuple rfl) rfl T.b_isinstance) (d_isI rfl (d_var (pv 0)) (d_ty bt_tuple T.b_tuple rfl) rfl T.b_isinstance)) (dt_or1 (dt_cmp (op_neA hu) ok_ne (nomark _) (d_isI rfl (d_var (pv 1)) (d_ty bt_list T.b_list rfl) rfl T.b_isinstance) (d_isI rfl (d_var (pv 0)) (d_ty bt_list T.b_list rfl) rfl T.b_isinstance))))) (s_one (s_ret 2 d_bl)) s_nil)
  (s_seq (s_if (dt_cmp (op_neA hu) ok_ne (nomark _) (b_one ok_len call_lenA bt_len T.b_len rfl (d_var (pv 0))) (b_one ok_len call_lenA bt_len T.b_len rfl (d_var (pv 1)))) (s_one (s_ret 2 d_bl)) s_nil)
  (s_seq (s_for (passes_of rfl) rfl (i_rng1 rfl T.b_range (b_one ok_len call_lenA bt_len T.b_len rfl (d_var (pv 1)))) (pg_name (i := 2) sc__law_same.nd rfl (by first | exact Or.inl rfl | exact Or.inr rfl)) (tg_name (hfx 2 (by decide))) (s_one (s_if (dt_not (dt_tru rfl (d_ucall none ih 0 (by decide) (hr.mono (Nat.le_refl _)) rfl rfl rfl rfl tk (da_cons (d_ix rfl (fun _ _ => rfl) (d_var (pv 0)) (d_var (pv 2))) (da_cons (d_ix rfl (fun _ _ => rfl) (d_var (pv 1)) (d_var (pv 2))) da_nil)) (MA.len_cons (MA.len_cons MA.len_nil)) (by decide)))) (s_one (s_ret 2 d_bl)) s_nil)))
  (s_one (s_ret 2 d_bl))))) s_nil)
  (s_seq (s_if (dt_tru rfl (d_isI rfl (d_var (pv 1)) (d_ty bt_bool T.b_bool rfl) rfl T.b_isinstance)) (s_one (s_ret 2 (d_and rfl (d_isI rfl (d_var (pv 0)) (d_ty bt_bool T.b_bool rfl) rfl T.b_isinstance) (d_and1 (d_cmp (op_eqA hu) ok_eq (nomark _) (d_var (pv 0)) (d_var (pv 1))))))) s_nil)
  (s_seq (s_if (dt_tru rfl (d_isI rfl (d_var (pv 1)) (d_ty bt_int T.b_int rfl) rfl T.b_isinstance)) (s_one (s_ret 2 (d_and rfl (d_isI rfl (d_var (pv 0)) (d_ty bt_int T.b_int rfl) rfl T.b_isinstance) (d_and rfl (d_not rfl (d_isI rfl (d_var (pv 0)) (d_ty bt_bool T.b_bool rfl) rfl T.b_isinstance)) (d_and1 (d_cmp (op_eqA hu) ok_eq (nomark _) (d_var (pv 0)) (d_var (pv 1)))))))) s_nil)
  (s_one (s_ret 2 (d_and rfl (d_isI rfl (d_var (pv 0)) (d_ty bt_str T.b_str rfl) rfl T.b_isinstance) (d_and1 (d_cmp (op_eqA hu) ok_eq (nomark _) (d_var (pv 0)) (d_var (pv 1))))))))))))) mF F.kp b
theorem dk__law_same (T : Txt K mg C_InvalidNumber C_InvalidPaper C_PlotError) : DefOk P w K mg base "_law_same" 7 2 [] (m__law_same 6) := dk__law_same_n T 6
theorem dk_is_number (T : Txt K mg C_InvalidNumber C_InvalidPaper C_PlotError) : DefOk P w K mg base "is_number" 1 3 [.int 0, .int 1000000] m_is_number := by
  obtain ⟨f, fd, F, mF⟩ := T.F_is_number
  refine dk_mkD (dvs := [.int 0, .int 1000000]) (f := f) (fd := fd) (ps := ["value", "least", "most"]) (def_okD (k := 0) (np := 3) [] F sc_is_number rfl (by decide) (fun cdv A outer s H E G W hr hK hM hX hfx tk => by
  obtain ⟨K0, mg0, fx0, xa0⟩ := G
  cases hK
  cases hM
  cases hX
  have hu := hr.units
  have hv := Room.units65 hr
  exact (s_seq (s_if (PW.pt (dt_or (dt_tru rfl (d_isI rfl (d_var (pv 0)) (d_ty bt_bool T.b_bool rfl) rfl T.b_isinstance)) (dt_or1 (dt_not (dt_tru rfl (d_isI rfl (d_var (pv 0)) (d_ty bt_int T.b_int rfl) rfl T.b_isinstance)))))) (s_one (s_ret 3 d_bl)) s_nil)
  (s_one (s_ret 3 (d_chain op_le op_le ok_cI ok_cI (d_var (pv 1)) (d_var (pv 0)) (d_var (pv 2)))))))) mF F.kp rfl fun i hi => ?_
  have hc : i = 0 ∨ i = 1 ∨ i = 2 := by
    have : i ≤ 2 := hi
    omega
  rcases hc with rfl | rfl | rfl
  · exact F.binds1 1 0 (by decide) (by decide) fun T kV doc pm an cdv ct us its h1 h2 => match us, its, h1, h2 with | [_], [_, _], _, _ => ⟨_, rfl, rfl⟩
  · exact F.binds1 2 1 (by decide) (by decide) fun T kV doc pm an cdv ct us its h1 h2 => match us, its, h1, h2 with | [_, _], [_, _], _, _ => ⟨_, rfl, rfl⟩
  · exact F.binds1 3 2 (by decide) (by decide) fun T kV doc pm an cdv ct us its h1 h2 => match us, its, h1, h2 with | [_, _, _], [_, _], _, _ => ⟨_, rfl, rfl⟩
theorem dk_checked_number (T : Txt K mg C_InvalidNumber C_InvalidPaper C_PlotError) : DefOk P w K mg base "checked_number" 2 3 [.int 0, .int 1000000] m_checked_number := by
  obtain ⟨f, fd, F, mF⟩ := T.F_checked_number
  refine dk_mkD (dvs := [.int 0, .int 1000000]) (f := f) (fd := fd) (ps := ["value", "least", "most"]) (def_okD (k := 1) (np := 3) [] F sc_checked_number rfl (by decide) (fun cdv A outer s H E G W hr hK hM hX hfx tk => by
  obtain ⟨K0, mg0, fx0, xa0⟩ := G
  cases hK
  cases hM
  cases hX
  have hu := hr.units
  have hv := Room.units65 hr
  exact (s_seq (s_if (dt_not (dt_tru rfl (d_ucall none (dk_is_number T) 2 (by decide) (hr.mono (by decide)) rfl rfl rfl rfl tk (da_cons (d_var (pv 0)) (da_cons (d_var (pv 1)) (da_cons (d_var (pv 2)) da_nil))) (MA.len_cons (MA.len_cons (MA.len_cons MA.len_nil))) (by decide)))) (s_one (s_raise1 rfl tk rfl T.e_InvalidNumber rfl (d_bin op_addA ok_add (d_bin op_addA ok_add (d_bin op_addA ok_add d_str (b_ty ok_str call_strA bt_str T.b_str rfl (d_var (pv 1)))) d_str) (b_ty ok_str call_strA bt_str T.b_str rfl (d_var (pv 2)))))) s_nil)
  (s_one (s_ret 3 (d_var (pv 0))))))) mF F.kp rfl fun i hi => ?_
  have hc : i = 0 ∨ i = 1 ∨ i = 2 := by
    have : i ≤ 2 := hi
    omega
  rcases hc with rfl | rfl | rfl
  · exact F.binds1 1 0 (by decide) (by decide) fun T kV doc pm an cdv ct us its h1 h2 => match us, its, h1, h2 with | [_], [_, _], _, _ => ⟨_, rfl, rfl⟩
  · exact F.binds1 2 1 (by decide) (by decide) fun T kV doc pm an cdv ct us its h1 h2 => match us, its, h1, h2 with | [_, _], [_, _], _, _ => ⟨_, rfl, rfl⟩
  · exact F.binds1 3 2 (by decide) (by decide) fun T kV doc pm an cdv ct us its h1 h2 => match us, its, h1, h2 with | [_, _, _], [_, _], _, _ => ⟨_, rfl, rfl⟩
theorem dk_choose (T : Txt K mg C_InvalidNumber C_InvalidPaper C_PlotError) : DefOk P w K mg base "choose" 3 2 [] m_choose := by
  obtain ⟨f, fd, F, mF⟩ := T.F_choose
  have b := F.binds (ps := ["many", "few"]) fun _ _ _ _ _ _ us hl => match us, hl with | [_, _], _ => rfl
  exact dk_mk0 (def_ok (k := 2) (np := 2) [] F sc_choose rfl (by decide) (fun cdv A outer s H E G W hr hK hM hX hfx tk => by
  obtain ⟨K0, mg0, fx0, xa0⟩ := G
  cases hK
  cases hM
  cases hX
  have hu := hr.units
  have hv := Room.units65 hr
  exact (s_seq (s_expr (d_ucall none (dk_checked_number T) 2 (by decide) (hr.mono (by decide)) rfl rfl rfl rfl tk (da_cons (d_var (pv 0)) (da_cons d_int (da_cons (d_gint T.g_MOST rfl) da_nil))) (MA.len_cons (MA.len_cons (MA.len_cons MA.len_nil))) (by decide)))
  (s_seq (s_expr (d_ucall none (dk_checked_number T) 2 (by decide) (hr.mono (by decide)) rfl rfl rfl rfl tk (da_cons (d_var (pv 1)) (da_cons d_int (da_cons (d_gint T.g_MOST rfl) da_nil))) (MA.len_cons (MA.len_cons (MA.len_cons MA.len_nil))) (by decide)))
  (s_seq (s_set (i := 2) sc_choose.nd rfl (by first | exact Or.inl rfl | exact Or.inr rfl) (hfx 2 (by decide)) d_int)
  (s_seq (s_for (passes_of rfl) rfl (i_rng1 rfl T.b_range (d_if (dt_cmp op_le ok_cI (nomark _) (d_var (pv 1)) (d_var (pv 0))) (b_two ok_minX (call_minX rfl hv) bt_min T.b_min rfl (d_var (pv 1)) (d_bin op_sub ok_sub (d_var (pv 0)) (d_var (pv 1)))) d_int)) (pg_name (i := 3) sc_choose.nd rfl (by first | exact Or.inl rfl | exact Or.inr rfl)) (tg_name (hfx 3 (by decide))) (s_one (s_set (i := 2) sc_choose.nd rfl (by first | exact Or.inl rfl | exact Or.inr rfl) (hfx 2 (by decide)) (d_bin op_fdiv ok_div (d_bin op_mulA ok_mul (d_var (pv 2)) (d_bin op_sub ok_sub (d_var (pv 0)) (d_var (pv 3)))) (d_bin op_addA ok_add (d_var (pv 3)) d_int)))))
  (s_one (s_ret 2 (d_if (dt_cmp op_le ok_cI (nomark _) (d_var (pv 1)) (d_var (pv 0))) (d_var (pv 2)) d_int))))))))) mF F.kp b
theorem dk_drawn_at (T : Txt K mg C_InvalidNumber C_InvalidPaper C_PlotError) : DefOk P w K mg base "drawn_at" 4 3 [] m_drawn_at := by
  obtain ⟨f, fd, F, mF⟩ := T.F_drawn_at
  have b := F.binds (ps := ["names", "drawn", "place"]) fun _ _ _ _ _ _ us hl => match us, hl with | [_, _, _], _ => rfl
  exact dk_mk0 (def_ok (k := 3) (np := 3) [2] F sc_drawn_at rfl (by decide) (fun cdv A outer s H E G W hr hK hM hX hfx tk => by
  obtain ⟨K0, mg0, fx0, xa0⟩ := G
  cases hK
  cases hM
  cases hX
  have hu := hr.units
  have hv := Room.units65 hr
  exact (s_seq (s_set (i := 3) sc_drawn_at.nd rfl (by first | exact Or.inl rfl | exact Or.inr rfl) (hfx 3 (by decide)) (d_sortS (own := [("name", 8)]) hv rfl sc_drawn_at.nd T.b_sorted rfl (i_any rfl (d_var (pv 0))) (blkOk_by (by kernel_rfl)) (fun _ _ _ _ _ => (pg_name (i := 8) sc_drawn_at.nd rfl (by first | exact Or.inl rfl | exact Or.inr rfl))) (tg_name (hfx 8 (by decide))) (by decide) (fx_all hfx (by decide)) (fun _ _ _ _ _ => ts_nil) (fun _ _ _ _ _ => (d_var (pv 8)))))
  (s_seq (s_if (PW.pt (dt_or (dt_cmp op_gt ok_cI (nomark _) (b_one ok_len call_lenA bt_len T.b_len rfl (d_var (pv 3))) (d_gint T.g_MOST rfl)) (dt_or (dt_cmp (op_ltX (Nat.lt_of_le_of_lt (Nat.le_add_right _ _) hu)) ok_ltX (nomark _) (b_one ok_len call_lenA bt_len T.b_len rfl (d_var (pv 3))) (b_one ok_len call_lenA bt_len T.b_len rfl (d_var (pv 0)))) (dt_or1 (dt_not (dt_tru rfl (d_ucall none (dk_is_number T) 2 (by decide) (hr.mono (by decide)) rfl rfl rfl rfl tk (da_cons (d_var (pv 1)) (da_cons d_int (da_cons (b_one ok_len call_lenA bt_len T.b_len rfl (d_var (pv 3))) da_nil))) (MA.len_cons (MA.len_cons (MA.len_cons MA.len_nil))) (by decide)))))))) (s_one (s_raise1 rfl tk rfl T.e_InvalidNumber rfl d_str)) s_nil)
  (s_seq (s_if (PW.pt (dt_or (dt_tru rfl (d_isI rfl (d_var (pv 2)) (d_ty bt_bool T.b_bool rfl) rfl T.b_isinstance)) (dt_or (dt_not (dt_tru rfl (d_isI rfl (d_var (pv 2)) (d_ty bt_int T.b_int rfl) rfl T.b_isinstance))) (dt_or1 (dt_not (dt_chain op_le (op_ltX (Nat.lt_of_le_of_lt (Nat.le_add_right _ _) hu)) ok_cI ok_ltX d_int (d_var (pv 2)) (d_ucall none (dk_choose T) 0 (by decide) (hr.mono (by decide)) rfl rfl rfl rfl tk (da_cons (b_one ok_len call_lenA bt_len T.b_len rfl (d_var (pv 3))) (da_cons (d_var (pv 1)) da_nil)) (MA.len_cons (MA.len_cons MA.len_nil)) (by decide)))))))) (s_one (s_raise1 rfl tk rfl T.e_InvalidNumber rfl d_str)) s_nil)
  (s_seq (s_set (i := 4) sc_drawn_at.nd rfl (by first | exact Or.inl rfl | exact Or.inr rfl) (hfx 4 (by decide)) (d_lst da_nil))
  (s_seq (s_set (i := 5) sc_drawn_at.nd rfl (by first | exact Or.inl rfl | exact Or.inr rfl) (hfx 5 (by decide)) (d_var (pv 1)))
  (s_seq (s_for (passes_of rfl) rfl (i_rng1 rfl T.b_range (b_one ok_len call_lenA bt_len T.b_len rfl (d_var (pv 3)))) (pg_name (i := 6) sc_drawn_at.nd rfl (by first | exact Or.inl rfl | exact Or.inr rfl)) (tg_name (hfx 6 (by decide))) (s_one (s_if (dt_cmp op_gt ok_cI (nomark _) (d_var (pv 5)) d_int) (s_seq (s_set (i := 7) sc_drawn_at.nd rfl (by first | exact Or.inl rfl | exact Or.inr rfl) (hfx 7 (by decide)) (d_ucall none (dk_choose T) 0 (by decide) (hr.mono (by decide)) rfl rfl rfl rfl tk (da_cons (d_bin op_sub ok_sub (d_bin op_sub ok_sub (b_one ok_len call_lenA bt_len T.b_len rfl (d_var (pv 3))) (d_var (pv 6))) d_int) (da_cons (d_bin op_sub ok_sub (d_var (pv 5)) d_int) da_nil)) (MA.len_cons (MA.len_cons MA.len_nil)) (by decide)))
  (s_one (s_if (dt_cmp (op_ltX (Nat.lt_of_le_of_lt (Nat.le_add_right _ _) hu)) ok_ltX (nomark _) (d_var (pv 2)) (d_var (pv 7))) (s_seq (s_expr (d_methA rfl ok_append (pv 4) (by exact (da_cons (d_ix rfl (fun _ _ => rfl) (d_var (pv 3)) (d_var (pv 6))) da_nil)) fun _ _ h1 h2 => pe_bm PySem.F.plainAttrs_list PySem.F.slot_list_append PySem.F.type_list_append mt_appendA h1 h2))
  (s_one (s_set (i := 5) sc_drawn_at.nd rfl (by first | exact Or.inl rfl | exact Or.inr rfl) (hfx 5 (by decide)) (d_bin op_sub ok_sub (d_var (pv 5)) d_int)))) (s_one (s_set (i := 2) sc_drawn_at.nd rfl (by first | exact Or.inl rfl | exact Or.inr rfl) (hfx 2 (by decide)) (d_bin op_sub ok_sub (d_var (pv 2)) (d_var (pv 7)))))))) s_nil)))
  (s_one (s_ret 3 (d_var (pv 4)))))))))))) mF F.kp b
theorem dk_place_of (T : Txt K mg C_InvalidNumber C_InvalidPaper C_PlotError) : DefOk P w K mg base "place_of" 4 2 [] m_place_of := by
  obtain ⟨f, fd, F, mF⟩ := T.F_place_of
  have b := F.binds (ps := ["names", "told"]) fun _ _ _ _ _ _ us hl => match us, hl with | [_, _], _ => rfl
  exact dk_mk0 (def_ok (k := 3) (np := 2) [] F sc_place_of rfl (by decide) (fun cdv A outer s H E G W hr hK hM hX hfx tk => by
  obtain ⟨K0, mg0, fx0, xa0⟩ := G
  cases hK
  cases hM
  cases hX
  have hu := hr.units
  have hv := Room.units65 hr
  exact (s_seq (s_set (i := 2) sc_place_of.nd rfl (by first | exact Or.inl rfl | exact Or.inr rfl) (hfx 2 (by decide)) (d_sortS (own := [("name", 6)]) hv rfl sc_place_of.nd T.b_sorted rfl (i_any rfl (d_var (pv 0))) (blkOk_by (by kernel_rfl)) (fun _ _ _ _ _ => (pg_name (i := 6) sc_place_of.nd rfl (by first | exact Or.inl rfl | exact Or.inr rfl))) (tg_name (hfx 6 (by decide))) (by decide) (fx_all hfx (by decide)) (fun _ _ _ _ _ => ts_nil) (fun _ _ _ _ _ => (d_var (pv 6)))))
  (s_seq (s_if (PW.pt (dt_or (dt_cmp op_gt ok_cI (nomark _) (b_one ok_len call_lenA bt_len T.b_len rfl (d_var (pv 2))) (d_gint T.g_MOST rfl)) (dt_or (dt_cmp (op_neA hu) ok_ne (nomark _) (b_ty ok_list call_list_of bt_list T.b_list rfl (d_var (pv 1))) (d_sortS (own := [("name", 6)]) hv rfl sc_place_of.nd T.b_sorted rfl (i_any rfl (d_var (pv 1))) (blkOk_by (by kernel_rfl)) (fun _ _ _ _ _ => (pg_name (i := 6) sc_place_of.nd rfl (by first | exact Or.inl rfl | exact Or.inr rfl))) (tg_name (hfx 6 (by decide))) (by decide) (fx_all hfx (by decide)) (fun _ _ _ _ _ => ts_nil) (fun _ _ _ _ _ => (d_var (pv 6))))) (dt_or1 (dt_tru rfl (d_lc (own := [("name", 6)]) rfl sc_place_of.nd (i_any rfl (d_var (pv 1))) (blkOk_by (by kernel_rfl)) (fun _ _ _ _ _ => (pg_name (i := 6) sc_place_of.nd rfl (by first | exact Or.inl rfl | exact Or.inr rfl))) (tg_name (hfx 6 (by decide))) (by decide) (fx_all hfx (by decide)) (fun _ _ _ _ _ => (pts_one (dt_cmp (op_notInY hv) ok_notInY (by rfl) (d_var (pv 6)) (d_var (pv 2))))) (fun _ _ _ _ _ => (d_var (pv 6))))))))) (s_one (s_raise1 rfl tk rfl T.e_InvalidPaper rfl d_str)) s_nil)
  (s_seq (s_set (i := 3) sc_place_of.nd rfl (by first | exact Or.inl rfl | exact Or.inr rfl) (hfx 3 (by decide)) d_int)
  (s_seq (s_set (i := 4) sc_place_of.nd rfl (by first | exact Or.inl rfl | exact Or.inr rfl) (hfx 4 (by decide)) (b_one ok_len call_lenA bt_len T.b_len rfl (d_var (pv 1))))
  (s_seq (s_for (passes_of rfl) rfl (i_rng1 rfl T.b_range (b_one ok_len call_lenA bt_len T.b_len rfl (d_var (pv 2)))) (pg_name (i := 5) sc_place_of.nd rfl (by first | exact Or.inl rfl | exact Or.inr rfl)) (tg_name (hfx 5 (by decide))) (s_one (s_if (dt_cmp op_gt ok_cI (nomark _) (d_var (pv 4)) d_int) (s_one (s_if (dt_cmp (op_inY hv) ok_inY (by rfl) (d_ix rfl (fun _ _ => rfl) (d_var (pv 2)) (d_var (pv 5))) (d_var (pv 1))) (s_one (s_set (i := 4) sc_place_of.nd rfl (by first | exact Or.inl rfl | exact Or.inr rfl) (hfx 4 (by decide)) (d_bin op_sub ok_sub (d_var (pv 4)) d_int))) (s_one (s_set (i := 3) sc_place_of.nd rfl (by first | exact Or.inl rfl | exact Or.inr rfl) (hfx 3 (by decide)) (d_bin op_addA ok_add (d_var (pv 3)) (d_ucall none (dk_choose T) 0 (by decide) (hr.mono (by decide)) rfl rfl rfl rfl tk (da_cons (d_bin op_sub ok_sub (d_bin op_sub ok_sub (b_one ok_len call_lenA bt_len T.b_len rfl (d_var (pv 2))) (d_var (pv 5))) d_int) (da_cons (d_bin op_sub ok_sub (d_var (pv 4)) d_int) da_nil)) (MA.len_cons (MA.len_cons MA.len_nil)) (by decide))))))) s_nil)))
  (s_one (s_ret 2 (d_var (pv 3))))))))))) mF F.kp b
theorem dk_checked_lot (T : Txt K mg C_InvalidNumber C_InvalidPaper C_PlotError) : DefOk P w K mg base "checked_lot" 3 2 [] m_checked_lot := by
  obtain ⟨f, fd, F, mF⟩ := T.F_checked_lot
  have b := F.binds (ps := ["seeds", "bad"]) fun _ _ _ _ _ _ us hl => match us, hl with | [_, _], _ => rfl
  exact dk_mk0 (def_ok (k := 2) (np := 2) [] F sc_checked_lot rfl (by decide) (fun cdv A outer s H E G W hr hK hM hX hfx tk => by
  obtain ⟨K0, mg0, fx0, xa0⟩ := G
  cases hK
  cases hM
  cases hX
  have hu := hr.units
  have hv := Room.units65 hr
  exact (s_seq (s_expr (d_ucall none (dk_checked_number T) 2 (by decide) (hr.mono (by decide)) rfl rfl rfl rfl tk (da_cons (d_var (pv 0)) (da_cons d_int (da_cons (d_gint T.g_MOST rfl) da_nil))) (MA.len_cons (MA.len_cons (MA.len_cons MA.len_nil))) (by decide)))
  (s_seq (s_expr (d_ucall none (dk_checked_number T) 2 (by decide) (hr.mono (by decide)) rfl rfl rfl rfl tk (da_cons (d_var (pv 1)) (da_cons d_int (da_cons (d_var (pv 0)) da_nil))) (MA.len_cons (MA.len_cons (MA.len_cons MA.len_nil))) (by decide)))
  (s_one (s_ret 2 (d_tup (da_cons (d_var (pv 0)) (da_cons (d_var (pv 1)) da_nil))))))))) mF F.kp b
theorem dk_ways (T : Txt K mg C_InvalidNumber C_InvalidPaper C_PlotError) : DefOk P w K mg base "ways" 4 2 [] m_ways := by
  obtain ⟨f, fd, F, mF⟩ := T.F_ways
  have b := F.binds (ps := ["seeds", "drawn"]) fun _ _ _ _ _ _ us hl => match us, hl with | [_, _], _ => rfl
  exact dk_mk0 (def_ok (k := 3) (np := 2) [] F sc_ways rfl (by decide) (fun cdv A outer s H E G W hr hK hM hX hfx tk => by
  obtain ⟨K0, mg0, fx0, xa0⟩ := G
  cases hK
  cases hM
  cases hX
  have hu := hr.units
  have hv := Room.units65 hr
  exact (s_seq (s_expr (d_ucall none (dk_checked_lot T) 0 (by decide) (hr.mono (by decide)) rfl rfl rfl rfl tk (da_cons (d_var (pv 0)) (da_cons d_int da_nil)) (MA.len_cons (MA.len_cons MA.len_nil)) (by decide)))
  (s_seq (s_expr (d_ucall none (dk_checked_number T) 2 (by decide) (hr.mono (by decide)) rfl rfl rfl rfl tk (da_cons (d_var (pv 1)) (da_cons d_int (da_cons (d_var (pv 0)) da_nil))) (MA.len_cons (MA.len_cons (MA.len_cons MA.len_nil))) (by decide)))
  (s_one (s_ret 2 (d_ucall none (dk_choose T) 0 (by decide) (hr.mono (by decide)) rfl rfl rfl rfl tk (da_cons (d_var (pv 0)) (da_cons (d_var (pv 1)) da_nil)) (MA.len_cons (MA.len_cons MA.len_nil)) (by decide)))))))) mF F.kp b
theorem dk__law_refused (T : Txt K mg C_InvalidNumber C_InvalidPaper C_PlotError) : DefOk P w K mg base "_law_refused" 5 4 [] m__law_refused := by
  obtain ⟨f, fd, F, mF⟩ := T.F__law_refused
  have b := F.binds (ps := ["choice", "names", "one", "two"]) fun _ _ _ _ _ _ us hl => match us, hl with | [_, _, _, _], _ => rfl
  exact dk_mk0 (def_ok (k := 4) (np := 4) [] F sc__law_refused rfl (by decide) (fun cdv A outer s H E G W hr hK hM hX hfx tk => by
  obtain ⟨K0, mg0, fx0, xa0⟩ := G
  cases hK
  cases hM
  cases hX
  have hu := hr.units
  have hv := Room.units65 hr
  exact (s_seq (s_tryAs (i := 4) rfl rfl (hfx 4 (by decide)) T.sb_PlotError rfl rfl sc__law_refused.nd rfl rfl ⟨rfl, by decide, .inl T.e_PlotError.g⟩ tk (fun W1 pn xe tk1 hp1 => (s_one (s_if (dt_cmp (op_eqA hu) ok_eq (nomark _) (d_var (pv 0)) d_int) (s_one (s_expr (d_ucall none (dk_drawn_at T) 0 (by decide) (hr.mono (by decide)) rfl rfl rfl rfl tk1 (da_cons (d_var (pv 1)) (da_cons (d_var (pv 2)) (da_cons (d_var (pv 3)) da_nil))) (MA.len_cons (MA.len_cons (MA.len_cons MA.len_nil))) (by decide)))) (s_one (s_if (dt_cmp (op_eqA hu) ok_eq (nomark _) (d_var (pv 0)) d_int) (s_one (s_expr (d_ucall none (dk_place_of T) 0 (by decide) (hr.mono (by decide)) rfl rfl rfl rfl tk1 (da_cons (d_var (pv 1)) (da_cons (d_var (pv 2)) da_nil)) (MA.len_cons (MA.len_cons MA.len_nil)) (by decide)))) (s_one (s_expr (d_ucall none (dk_ways T) 0 (by decide) (hr.mono (by decide)) rfl rfl rfl rfl tk1 (da_cons (d_var (pv 2)) (da_cons (d_var (pv 3)) da_nil)) (MA.len_cons (MA.len_cons MA.len_nil)) (by decide))))))))) (fun a oe cls pn c hk hm hz hf => (s_seq (s_if (PW.pt (dt_or (dt_cmp (op_eqA hu) ok_eq (nomark _) (d_isE (cV := .ref C_InvalidNumber) rfl rfl hk hm hz hf T.is_InvalidNumber (fun _ h => h) (pv 4) (pe_glob rfl T.e_InvalidNumber.g rfl) rfl T.b_isinstance) (d_isE (cV := .ref C_InvalidPaper) rfl rfl hk hm hz hf T.is_InvalidPaper (fun _ h => h) (pv 4) (pe_glob rfl T.e_InvalidPaper.g rfl) rfl T.b_isinstance)) (dt_or1 (dt_not (dt_tru rfl (d_isE (cV := .ty "ValueError") rfl rfl hk hm hz hf T.is_VE (fun _ h => h) (pv 4) (d_ty bt_VE T.b_ValueError rfl) rfl T.b_isinstance)))))) (s_one (s_ret 4 d_str)) s_nil)
  (s_one (s_ret 4 (d_if (dt_tru rfl (d_isE (cV := .ref C_InvalidNumber) rfl rfl hk hm hz hf T.is_InvalidNumber (fun _ h => h) (pv 4) (pe_glob rfl T.e_InvalidNumber.g rfl) rfl T.b_isinstance)) d_str d_str))))) rfl)
  (s_one (s_ret 4 d_str))))) mF F.kp b
theorem dk__law_pick (T : Txt K mg C_InvalidNumber C_InvalidPaper C_PlotError) : DefOk P w K mg base "_law_pick" 2 2 [] m__law_pick := by
  obtain ⟨f, fd, F, mF⟩ := T.F__law_pick
  have b := F.binds (ps := ["pool", "rows"]) fun _ _ _ _ _ _ us hl => match us, hl with | [_, _], _ => rfl
  exact dk_mk0 (def_ok (k := 1) (np := 2) [] F sc__law_pick rfl (by decide) (fun cdv A outer s H E G W hr hK hM hX hfx tk => by
  obtain ⟨K0, mg0, fx0, xa0⟩ := G
  cases hK
  cases hM
  cases hX
  have hu := hr.units
  have hv := Room.units65 hr
  exact (s_one (s_ret 2 (d_ix rfl (fun _ _ => rfl) (d_var (pv 1)) (d_ucall (some 0) (dk__law_draw T) 0 (by decide) (hr.mono (by decide)) rfl rfl rfl rfl tk (da_cons (d_var (pv 0)) (da_cons (b_one ok_len call_lenA bt_len T.b_len rfl (d_var (pv 1))) da_nil)) (MA.len_cons (MA.len_cons MA.len_nil)) (by decide))))))) mF F.kp b
theorem ok_law (T : Txt K mg C_InvalidNumber C_InvalidPaper C_PlotError) {f : Addr} {fd : FuncData} (F : Fun K "law" "law" s_law f fd) : FnOk P w K mg base (L2N.CX P w) 8 f fd ["script"] (SpD ⟨K, mg, [], none⟩ 1 m_law) :=
  def_ok (k := 7) (np := 1) [] F sc_law rfl (by decide) (fun cdv A outer s H E G W hr hK hM hX hfx tk => by
  obtain ⟨K0, mg0, fx0, xa0⟩ := G
  cases hK
  cases hM
  cases hX
  have hu := hr.units
  have hv := Room.units65 hr
  exact (s_seq (s_set (i := 1) sc_law.nd rfl (by first | exact Or.inl rfl | exact Or.inr rfl) (hfx 1 (by decide)) (d_ucall none (dk__law_pool T) 0 (by decide) (hr.mono (by decide)) rfl rfl rfl rfl tk (da_cons (d_var (pv 0)) da_nil) (MA.len_cons MA.len_nil) (by decide)))
  (s_seq (s_set (i := 2) sc_law.nd rfl (by first | exact Or.inl rfl | exact Or.inr rfl) (hfx 2 (by decide)) (d_slH rfl (d_ucall (some 0) (dk__law_names T) 0 (by decide) (hr.mono (by decide)) rfl rfl rfl rfl tk (da_cons (d_var (pv 1)) (da_cons d_int da_nil)) (MA.len_cons (MA.len_cons MA.len_nil)) (by decide)) (d_ucall (some 0) (dk__law_draw T) 0 (by decide) (hr.mono (by decide)) rfl rfl rfl rfl tk (da_cons (d_var (pv 1)) (da_cons d_int da_nil)) (MA.len_cons (MA.len_cons MA.len_nil)) (by decide))))
  (s_seq (s_set (i := 3) sc_law.nd rfl (by first | exact Or.inl rfl | exact Or.inr rfl) (hfx 3 (by decide)) (b_one ok_sortedX (call_sortedA hv) bt_sorted T.b_sorted rfl (d_var (pv 2))))
  (s_seq (s_set (i := 4) sc_law.nd rfl (by first | exact Or.inl rfl | exact Or.inr rfl) (hfx 4 (by decide)) (d_ucall (some 0) (dk__law_draw T) 0 (by decide) (hr.mono (by decide)) rfl rfl rfl rfl tk (da_cons (d_var (pv 1)) (da_cons (d_bin op_addA ok_add (b_one ok_len call_lenA bt_len T.b_len rfl (d_var (pv 3))) d_int) da_nil)) (MA.len_cons (MA.len_cons MA.len_nil)) (by decide)))
  (s_seq (s_set (i := 5) sc_law.nd rfl (by first | exact Or.inl rfl | exact Or.inr rfl) (hfx 5 (by decide)) (d_ucall none (dk__law_ways T) 0 (by decide) (hr.mono (by decide)) rfl rfl rfl rfl tk (da_cons (d_var (pv 3)) (da_cons (d_var (pv 4)) da_nil)) (MA.len_cons (MA.len_cons MA.len_nil)) (by decide)))
  (s_seq (s_if (PW.pt (dt_and (dt_cmp op_gt ok_cI (nomark _) (b_one ok_len call_lenA bt_len T.b_len rfl (d_var (pv 3))) d_int) (dt_and1 (dt_not (dt_tru rfl (d_ucall none (dk__law_same T) 0 (by decide) (hr.mono (by decide)) rfl rfl rfl rfl tk (da_cons (d_ucall none (dk_ways T) 0 (by decide) (hr.mono (by decide)) rfl rfl rfl rfl tk (da_cons (b_one ok_len call_lenA bt_len T.b_len rfl (d_var (pv 3))) (da_cons (d_var (pv 4)) da_nil)) (MA.len_cons (MA.len_cons MA.len_nil)) (by decide)) (da_cons (b_one ok_len call_lenA bt_len T.b_len rfl (d_var (pv 5))) da_nil)) (MA.len_cons (MA.len_cons MA.len_nil)) (by decide))))))) (s_one (s_ret 1 d_bl)) s_nil)
  (s_seq (s_for (passes_of rfl) rfl (i_rng1 rfl T.b_range d_int) (pg_name (i := 6) sc_law.nd rfl (by first | exact Or.inl rfl | exact Or.inr rfl)) (tg_name (hfx 6 (by decide))) (s_seq (s_set (i := 7) sc_law.nd rfl (by first | exact Or.inl rfl | exact Or.inr rfl) (hfx 7 (by decide)) (d_ucall (some 0) (dk__law_draw T) 0 (by decide) (hr.mono (by decide)) rfl rfl rfl rfl tk (da_cons (d_var (pv 1)) (da_cons (b_one ok_len call_lenA bt_len T.b_len rfl (d_var (pv 5))) da_nil)) (MA.len_cons (MA.len_cons MA.len_nil)) (by decide)))
  (s_one (s_if (PW.pt (dt_or (dt_not (dt_tru rfl (d_ucall none (dk__law_same T) 0 (by decide) (hr.mono (by decide)) rfl rfl rfl rfl tk (da_cons (d_ucall none (dk_drawn_at T) 0 (by decide) (hr.mono (by decide)) rfl rfl rfl rfl tk (da_cons (b_ty ok_list call_list_of bt_list T.b_list rfl (d_var (pv 2))) (da_cons (d_var (pv 4)) (da_cons (d_var (pv 7)) da_nil))) (MA.len_cons (MA.len_cons (MA.len_cons MA.len_nil))) (by decide)) (da_cons (d_ix rfl (fun _ _ => rfl) (d_var (pv 5)) (d_var (pv 7))) da_nil)) (MA.len_cons (MA.len_cons MA.len_nil)) (by decide)))) (dt_or1 (dt_not (dt_tru rfl (d_ucall none (dk__law_same T) 0 (by decide) (hr.mono (by decide)) rfl rfl rfl rfl tk (da_cons (d_ucall none (dk_place_of T) 0 (by decide) (hr.mono (by decide)) rfl rfl rfl rfl tk (da_cons (b_ty ok_list call_list_of bt_list T.b_list rfl (d_var (pv 2))) (da_cons (b_ty ok_list call_list_of bt_list T.b_list rfl (d_ix rfl (fun _ _ => rfl) (d_var (pv 5)) (d_var (pv 7)))) da_nil)) (MA.len_cons (MA.len_cons MA.len_nil)) (by decide)) (da_cons (d_var (pv 7)) da_nil)) (MA.len_cons (MA.len_cons MA.len_nil)) (by decide))))))) (s_one (s_ret 1 d_bl)) s_nil))))
  (s_seq (s_for (passes_of rfl) rfl (i_any rfl (d_lst (da_cons (d_neg d_int) (da_cons (b_one ok_len call_lenA bt_len T.b_len rfl (d_var (pv 5))) (da_cons d_bl da_nil))))) (pg_name (i := 8) sc_law.nd rfl (by first | exact Or.inl rfl | exact Or.inr rfl)) (tg_name (hfx 8 (by decide))) (s_one (s_if (dt_cmp (op_neA hu) ok_ne (nomark _) (d_ucall none (dk__law_refused T) 0 (by decide) (hr.mono (by decide)) rfl rfl rfl rfl tk (da_cons d_int (da_cons (d_var (pv 2)) (da_cons (d_var (pv 4)) (da_cons (d_var (pv 8)) da_nil)))) (MA.len_cons (MA.len_cons (MA.len_cons (MA.len_cons MA.len_nil)))) (by decide)) d_str) (s_one (s_ret 1 d_bl)) s_nil)))
  (s_seq (s_if (PW.pt (dt_or (dt_cmp (op_neA hu) ok_ne (nomark _) (d_ucall none (dk__law_refused T) 0 (by decide) (hr.mono (by decide)) rfl rfl rfl rfl tk (da_cons d_int (da_cons (d_var (pv 2)) (da_cons (d_bin op_addA ok_add (b_one ok_len call_lenA bt_len T.b_len rfl (d_var (pv 3))) d_int) (da_cons d_int da_nil)))) (MA.len_cons (MA.len_cons (MA.len_cons (MA.len_cons MA.len_nil)))) (by decide)) d_str) (dt_or1 (dt_cmp (op_neA hu) ok_ne (nomark _) (d_ucall none (dk__law_refused T) 0 (by decide) (hr.mono (by decide)) rfl rfl rfl rfl tk (da_cons d_int (da_cons (d_var (pv 2)) (da_cons (d_lst (da_cons d_str da_nil)) (da_cons d_int da_nil)))) (MA.len_cons (MA.len_cons (MA.len_cons (MA.len_cons MA.len_nil)))) (by decide)) d_str)))) (s_one (s_ret 1 d_bl)) s_nil)
  (s_seq (s_if (dt_cmp op_gt ok_cI (nomark _) (b_one ok_len call_lenA bt_len T.b_len rfl (d_var (pv 3))) d_int) (s_one (s_if (PW.pt (dt_or (dt_cmp (op_neA hu) ok_ne (nomark _) (d_ucall none (dk__law_refused T) 0 (by decide) (hr.mono (by decide)) rfl rfl rfl rfl tk (da_cons d_int (da_cons (d_var (pv 2)) (da_cons (d_lst (da_cons (d_ix rfl (fun _ _ => rfl) (d_var (pv 3)) d_int) (da_cons (d_ix rfl (fun _ _ => rfl) (d_var (pv 3)) d_int) da_nil))) (da_cons d_int da_nil)))) (MA.len_cons (MA.len_cons (MA.len_cons (MA.len_cons MA.len_nil)))) (by decide)) d_str) (dt_or1 (dt_cmp (op_neA hu) ok_ne (nomark _) (d_ucall none (dk__law_refused T) 0 (by decide) (hr.mono (by decide)) rfl rfl rfl rfl tk (da_cons d_int (da_cons (d_bin op_addA ok_add (d_var (pv 3)) (d_slH rfl (d_var (pv 3)) d_int)) (da_cons d_int (da_cons d_int da_nil)))) (MA.len_cons (MA.len_cons (MA.len_cons (MA.len_cons MA.len_nil)))) (by decide)) d_str)))) (s_one (s_ret 1 d_bl)) s_nil)) s_nil)
  (s_seq (s_set (i := 9) sc_law.nd rfl (by first | exact Or.inl rfl | exact Or.inr rfl) (hfx 9 (by decide)) d_str)
  (s_seq (s_setLc (i := 10) (own := [("k", 6)]) rfl sc_law.nd rfl rfl (by rfl) (hfx 10 (by decide)) (i_rng1 rfl T.b_range d_int) (blkOk_by (by kernel_rfl)) (fun _ _ _ _ _ => (pg_name (i := 6) sc_law.nd rfl (by first | exact Or.inl rfl | exact Or.inr rfl))) (tg_name (hfx 6 (by decide))) (by decide) (fx_all hfx (by decide)) (fun _ _ _ _ _ => ts_nil) (fun _ _ _ _ _ => (d_bin op_addA ok_add (d_bin op_addA ok_add d_str (d_ix rfl (fun _ _ => rfl) (d_var (pv 9)) (d_bin op_mod ok_mod (b_ty ok_int call_intA bt_int T.b_int rfl (d_var (pv 6))) d_int))) (d_ix rfl (fun _ _ => rfl) (d_var (pv 9)) (d_bin op_fdiv ok_div (d_var (pv 6)) d_int)))))
  (s_seq (s_if (PW.pt (dt_or (dt_cmp (op_neA hu) ok_ne (nomark _) (d_ucall none (dk__law_refused T) 0 (by decide) (hr.mono (by decide)) rfl rfl rfl rfl tk (da_cons d_int (da_cons (d_var (pv 10)) (da_cons d_int (da_cons d_int da_nil)))) (MA.len_cons (MA.len_cons (MA.len_cons (MA.len_cons MA.len_nil)))) (by decide)) d_str) (dt_or1 (dt_cmp (op_neA hu) ok_ne (nomark _) (d_ucall none (dk__law_refused T) 0 (by decide) (hr.mono (by decide)) rfl rfl rfl rfl tk (da_cons d_int (da_cons (d_var (pv 10)) (da_cons (d_lst da_nil) (da_cons d_int da_nil)))) (MA.len_cons (MA.len_cons (MA.len_cons (MA.len_cons MA.len_nil)))) (by decide)) d_str)))) (s_one (s_ret 1 d_bl)) s_nil)
  (s_seq (s_if (dt_not (dt_tru rfl (d_ucall none (dk__law_same T) 0 (by decide) (hr.mono (by decide)) rfl rfl rfl rfl tk (da_cons (d_ucall none (dk_drawn_at T) 0 (by decide) (hr.mono (by decide)) rfl rfl rfl rfl tk (da_cons (d_slH rfl (d_var (pv 10)) d_int) (da_cons d_int (da_cons d_int da_nil))) (MA.len_cons (MA.len_cons (MA.len_cons MA.len_nil))) (by decide)) (da_cons (d_slL rfl (b_one ok_sortedX (call_sortedA hv) bt_sorted T.b_sorted rfl (d_slH rfl (d_var (pv 10)) d_int)) d_int) da_nil)) (MA.len_cons (MA.len_cons MA.len_nil)) (by decide)))) (s_one (s_ret 1 d_bl)) s_nil)
  (s_one (s_ret 1 (d_and rfl (d_cmp (op_eqA hu) ok_eq (nomark _) (d_ucall none (dk__law_refused T) 0 (by decide) (hr.mono (by decide)) rfl rfl rfl rfl tk (da_cons d_int (da_cons (d_lst da_nil) (da_cons (d_ucall (some 0) (dk__law_pick T) 0 (by decide) (hr.mono (by decide)) rfl rfl rfl rfl tk (da_cons (d_var (pv 1)) (da_cons (d_lst (da_cons d_int (da_cons d_int (da_cons d_bl da_nil)))) da_nil)) (MA.len_cons (MA.len_cons MA.len_nil)) (by decide)) (da_cons d_int da_nil)))) (MA.len_cons (MA.len_cons (MA.len_cons (MA.len_cons MA.len_nil)))) (by decide)) d_str) (d_and1 (d_cmp (op_eqA hu) ok_eq (nomark _) (d_ucall none (dk__law_refused T) 0 (by decide) (hr.mono (by decide)) rfl rfl rfl rfl tk (da_cons d_int (da_cons (d_lst da_nil) (da_cons d_int (da_cons (d_ucall (some 0) (dk__law_pick T) 0 (by decide) (hr.mono (by decide)) rfl rfl rfl rfl tk (da_cons (d_var (pv 1)) (da_cons (d_lst (da_cons d_int (da_cons (d_neg d_int) (da_cons d_bl da_nil)))) da_nil)) (MA.len_cons (MA.len_cons MA.len_nil)) (by decide)) da_nil)))) (MA.len_cons (MA.len_cons (MA.len_cons (MA.len_cons MA.len_nil)))) (by decide)) d_str))))))))))))))))))))
end
theorem all_mk {l : PySem.W.OpenLaw} {w : World} {K : PySem.W.Frag} {h : Heap} {mg : Str → Option Value} {fa C_InvalidNumber C_InvalidPaper C_PlotError : Addr} (X : K.In h) (G : h.Ns mainGlobals mg) (hfa : mg "law" = some (.ref fa))
    {t_MOST : Tok}
    {f__law_pool : Addr} {oc__law_pool kV__law_pool dc__law_pool pm__law_pool cd__law_pool ct__law_pool : Value} {od__law_pool an__law_pool : Option Addr} {sl__law_pool : Array (Option Value)}
    {f__law_draw : Addr} {oc__law_draw kV__law_draw dc__law_draw pm__law_draw cd__law_draw ct__law_draw : Value} {od__law_draw an__law_draw : Option Addr} {sl__law_draw : Array (Option Value)}
    {f__law_ways : Addr} {oc__law_ways kV__law_ways dc__law_ways pm__law_ways cd__law_ways ct__law_ways : Value} {od__law_ways an__law_ways : Option Addr} {sl__law_ways : Array (Option Value)}
    {f__law_names : Addr} {oc__law_names kV__law_names dc__law_names pm__law_names cd__law_names ct__law_names : Value} {od__law_names an__law_names : Option Addr} {sl__law_names : Array (Option Value)}
    {f__law_same : Addr} {oc__law_same kV__law_same dc__law_same pm__law_same cd__law_same ct__law_same : Value} {od__law_same an__law_same : Option Addr} {sl__law_same : Array (Option Value)}
    {f_is_number : Addr} {oc_is_number kV_is_number dc_is_number pm_is_number cd_is_number ct_is_number : Value} {od_is_number an_is_number : Option Addr} {sl_is_number : Array (Option Value)}
    {T_is_number : Addr} {do_is_number : Obj} {dn_is_number : Nat} {dt_is_number_0 dt_is_number_1 : Tok}
    {f_checked_number : Addr} {oc_checked_number kV_checked_number dc_checked_number pm_checked_number cd_checked_number ct_checked_number : Value} {od_checked_number an_checked_number : Option Addr} {sl_checked_number : Array (Option Value)}
    {T_checked_number : Addr} {do_checked_number : Obj} {dn_checked_number : Nat} {dt_checked_number_0 dt_checked_number_1 : Tok}
    {f_choose : Addr} {oc_choose kV_choose dc_choose pm_choose cd_choose ct_choose : Value} {od_choose an_choose : Option Addr} {sl_choose : Array (Option Value)}
    {f_drawn_at : Addr} {oc_drawn_at kV_drawn_at dc_drawn_at pm_drawn_at cd_drawn_at ct_drawn_at : Value} {od_drawn_at an_drawn_at : Option Addr} {sl_drawn_at : Array (Option Value)}
    {f_place_of : Addr} {oc_place_of kV_place_of dc_place_of pm_place_of cd_place_of ct_place_of : Value} {od_place_of an_place_of : Option Addr} {sl_place_of : Array (Option Value)}
    {f_checked_lot : Addr} {oc_checked_lot kV_checked_lot dc_checked_lot pm_checked_lot cd_checked_lot ct_checked_lot : Value} {od_checked_lot an_checked_lot : Option Addr} {sl_checked_lot : Array (Option Value)}
    {f_ways : Addr} {oc_ways kV_ways dc_ways pm_ways cd_ways ct_ways : Value} {od_ways an_ways : Option Addr} {sl_ways : Array (Option Value)}
    {f__law_refused : Addr} {oc__law_refused kV__law_refused dc__law_refused pm__law_refused cd__law_refused ct__law_refused : Value} {od__law_refused an__law_refused : Option Addr} {sl__law_refused : Array (Option Value)}
    {f__law_pick : Addr} {oc__law_pick kV__law_pick dc__law_pick pm__law_pick cd__law_pick ct__law_pick : Value} {od__law_pick an__law_pick : Option Addr} {sl__law_pick : Array (Option Value)}
    {f_law : Addr} {oc_law kV_law dc_law pm_law cd_law ct_law : Value} {od_law an_law : Option Addr} {sl_law : Array (Option Value)}
    (b_ValueError : PySem.W.nsIn K mainGlobals "ValueError" = some none)
    (b_abs : PySem.W.nsIn K mainGlobals "abs" = some none)
    (b_bool : PySem.W.nsIn K mainGlobals "bool" = some none)
    (b_int : PySem.W.nsIn K mainGlobals "int" = some none)
    (b_isinstance : PySem.W.nsIn K mainGlobals "isinstance" = some none)
    (b_len : PySem.W.nsIn K mainGlobals "len" = some none)
    (b_list : PySem.W.nsIn K mainGlobals "list" = some none)
    (b_min : PySem.W.nsIn K mainGlobals "min" = some none)
    (b_range : PySem.W.nsIn K mainGlobals "range" = some none)
    (b_sorted : PySem.W.nsIn K mainGlobals "sorted" = some none)
    (b_str : PySem.W.nsIn K mainGlobals "str" = some none)
    (b_tuple : PySem.W.nsIn K mainGlobals "tuple" = some none)
    (g_MOST : PySem.W.nsIn K mainGlobals "MOST" = some (some (.int 60 t_MOST)))
    (a_InvalidNumber : PySem.W.nsIn K mainGlobals "InvalidNumber" = some (some (.ref C_InvalidNumber)))
    (x_InvalidNumber : PySem.W.excIn K C_InvalidNumber [.type "ValueError", .type "Exception", .type "BaseException", .type "object"] "ValueError.__new__" = true)
    (k_InvalidNumber : PySem.W.keepIn K (.ref C_InvalidNumber) = true)
    (bb_InvalidNumber : PySem.W.subIn K (.ref C_InvalidNumber) (.type "BaseException") = some true)
    (tt_InvalidNumber : PySem.W.typeIn K (.ref C_InvalidNumber) = some (.type "type"))
    (ic_InvalidNumber : PySem.W.isClsIn K C_InvalidNumber = true)
    (e1_InvalidNumber : PySem.W.findIn K (.ref C_InvalidNumber) "__getattribute__" = some (some (.builtin "BaseException.__getattribute__")))
    (e2_InvalidNumber : PySem.W.findIn K (.ref C_InvalidNumber) "__getattr__" = some none)
    (e4_InvalidNumber : PySem.W.hasDictIn K C_InvalidNumber = true)
    (e5_InvalidNumber : PySem.W.findIn K (.ref C_InvalidNumber) "__class__" = some (some (.builtin "object.__class__")))
    (e8_InvalidNumber : PySem.W.mroIn K C_InvalidNumber (.type "object") = some true)
    (v_InvalidNumber : PySem.W.subIn K (.ref C_InvalidNumber) (.type "ValueError") = some true)
    (a_InvalidPaper : PySem.W.nsIn K mainGlobals "InvalidPaper" = some (some (.ref C_InvalidPaper)))
    (x_InvalidPaper : PySem.W.excIn K C_InvalidPaper [.type "ValueError", .type "Exception", .type "BaseException", .type "object"] "ValueError.__new__" = true)
    (k_InvalidPaper : PySem.W.keepIn K (.ref C_InvalidPaper) = true)
    (bb_InvalidPaper : PySem.W.subIn K (.ref C_InvalidPaper) (.type "BaseException") = some true)
    (tt_InvalidPaper : PySem.W.typeIn K (.ref C_InvalidPaper) = some (.type "type"))
    (ic_InvalidPaper : PySem.W.isClsIn K C_InvalidPaper = true)
    (e1_InvalidPaper : PySem.W.findIn K (.ref C_InvalidPaper) "__getattribute__" = some (some (.builtin "BaseException.__getattribute__")))
    (e2_InvalidPaper : PySem.W.findIn K (.ref C_InvalidPaper) "__getattr__" = some none)
    (e4_InvalidPaper : PySem.W.hasDictIn K C_InvalidPaper = true)
    (e5_InvalidPaper : PySem.W.findIn K (.ref C_InvalidPaper) "__class__" = some (some (.builtin "object.__class__")))
    (e8_InvalidPaper : PySem.W.mroIn K C_InvalidPaper (.type "object") = some true)
    (v_InvalidPaper : PySem.W.subIn K (.ref C_InvalidPaper) (.type "ValueError") = some true)
    (a_PlotError : PySem.W.nsIn K mainGlobals "PlotError" = some (some (.ref C_PlotError)))
    (x_PlotError : PySem.W.excIn K C_PlotError [.type "ValueError", .type "Exception", .type "BaseException", .type "object"] "ValueError.__new__" = true)
    (k_PlotError : PySem.W.keepIn K (.ref C_PlotError) = true)
    (bb_PlotError : PySem.W.subIn K (.ref C_PlotError) (.type "BaseException") = some true)
    (tt_PlotError : PySem.W.typeIn K (.ref C_PlotError) = some (.type "type"))
    (ic_PlotError : PySem.W.isClsIn K C_PlotError = true)
    (e1_PlotError : PySem.W.findIn K (.ref C_PlotError) "__getattribute__" = some (some (.builtin "BaseException.__getattribute__")))
    (e2_PlotError : PySem.W.findIn K (.ref C_PlotError) "__getattr__" = some none)
    (e4_PlotError : PySem.W.hasDictIn K C_PlotError = true)
    (e5_PlotError : PySem.W.findIn K (.ref C_PlotError) "__class__" = some (some (.builtin "object.__class__")))
    (e8_PlotError : PySem.W.mroIn K C_PlotError (.type "object") = some true)
    (v_PlotError : PySem.W.subIn K (.ref C_PlotError) (.type "ValueError") = some true)
    (o1 : PySem.W.specialIn K (.builtin "object.__class__") "__get__" = some (some (.builtin "getset_descriptor.__get__")))
    (o2 : PySem.W.takesIn K (.builtin "object.__class__") = some true)
    (s_InvalidNumber_InvalidNumber : PySem.W.subIn K (.ref C_InvalidNumber) (.ref C_InvalidNumber) = some true)
    (s_InvalidNumber_InvalidPaper : PySem.W.subIn K (.ref C_InvalidNumber) (.ref C_InvalidPaper) = some false)
    (n_InvalidNumber_InvalidPaper : ¬ C_InvalidNumber = C_InvalidPaper)
    (s_InvalidNumber_PlotError : PySem.W.subIn K (.ref C_InvalidNumber) (.ref C_PlotError) = some true)
    (n_InvalidNumber_PlotError : ¬ C_InvalidNumber = C_PlotError)
    (s_InvalidPaper_InvalidNumber : PySem.W.subIn K (.ref C_InvalidPaper) (.ref C_InvalidNumber) = some false)
    (s_InvalidPaper_InvalidPaper : PySem.W.subIn K (.ref C_InvalidPaper) (.ref C_InvalidPaper) = some true)
    (s_InvalidPaper_PlotError : PySem.W.subIn K (.ref C_InvalidPaper) (.ref C_PlotError) = some true)
    (n_InvalidPaper_PlotError : ¬ C_InvalidPaper = C_PlotError)
    (s_PlotError_InvalidNumber : PySem.W.subIn K (.ref C_PlotError) (.ref C_InvalidNumber) = some false)
    (s_PlotError_InvalidPaper : PySem.W.subIn K (.ref C_PlotError) (.ref C_InvalidPaper) = some false)
    (s_PlotError_PlotError : PySem.W.subIn K (.ref C_PlotError) (.ref C_PlotError) = some true)
    (a__law_pool : PySem.W.nsIn K mainGlobals "_law_pool" = some (some (.ref f__law_pool)))
    (l__law_pool : K.lookup f__law_pool = some ⟨oc__law_pool, od__law_pool, .func (PySem.W.fnOf "_law_pool" "_law_pool" (defArgs s__law_pool) (defBody s__law_pool) (defScope s__law_pool) .none kV__law_pool dc__law_pool pm__law_pool an__law_pool cd__law_pool ct__law_pool), sl__law_pool⟩)
    (c__law_pool : PySem.W.codeIn K cd__law_pool "_law_pool" = true)
    (k__law_pool : PySem.W.keepIn K (.ref f__law_pool) = true)
    (a__law_draw : PySem.W.nsIn K mainGlobals "_law_draw" = some (some (.ref f__law_draw)))
    (l__law_draw : K.lookup f__law_draw = some ⟨oc__law_draw, od__law_draw, .func (PySem.W.fnOf "_law_draw" "_law_draw" (defArgs s__law_draw) (defBody s__law_draw) (defScope s__law_draw) .none kV__law_draw dc__law_draw pm__law_draw an__law_draw cd__law_draw ct__law_draw), sl__law_draw⟩)
    (c__law_draw : PySem.W.codeIn K cd__law_draw "_law_draw" = true)
    (k__law_draw : PySem.W.keepIn K (.ref f__law_draw) = true)
    (a__law_ways : PySem.W.nsIn K mainGlobals "_law_ways" = some (some (.ref f__law_ways)))
    (l__law_ways : K.lookup f__law_ways = some ⟨oc__law_ways, od__law_ways, .func (PySem.W.fnOf "_law_ways" "_law_ways" (defArgs s__law_ways) (defBody s__law_ways) (defScope s__law_ways) .none kV__law_ways dc__law_ways pm__law_ways an__law_ways cd__law_ways ct__law_ways), sl__law_ways⟩)
    (c__law_ways : PySem.W.codeIn K cd__law_ways "_law_ways" = true)
    (k__law_ways : PySem.W.keepIn K (.ref f__law_ways) = true)
    (a__law_names : PySem.W.nsIn K mainGlobals "_law_names" = some (some (.ref f__law_names)))
    (l__law_names : K.lookup f__law_names = some ⟨oc__law_names, od__law_names, .func (PySem.W.fnOf "_law_names" "_law_names" (defArgs s__law_names) (defBody s__law_names) (defScope s__law_names) .none kV__law_names dc__law_names pm__law_names an__law_names cd__law_names ct__law_names), sl__law_names⟩)
    (c__law_names : PySem.W.codeIn K cd__law_names "_law_names" = true)
    (k__law_names : PySem.W.keepIn K (.ref f__law_names) = true)
    (a__law_same : PySem.W.nsIn K mainGlobals "_law_same" = some (some (.ref f__law_same)))
    (l__law_same : K.lookup f__law_same = some ⟨oc__law_same, od__law_same, .func (PySem.W.fnOf "_law_same" "_law_same" (defArgs s__law_same) (defBody s__law_same) (defScope s__law_same) .none kV__law_same dc__law_same pm__law_same an__law_same cd__law_same ct__law_same), sl__law_same⟩)
    (c__law_same : PySem.W.codeIn K cd__law_same "_law_same" = true)
    (k__law_same : PySem.W.keepIn K (.ref f__law_same) = true)
    (a_is_number : PySem.W.nsIn K mainGlobals "is_number" = some (some (.ref f_is_number)))
    (l_is_number : K.lookup f_is_number = some ⟨oc_is_number, od_is_number, .func (PySem.W.fnOf "is_number" "is_number" (defArgs s_is_number) (defBody s_is_number) (defScope s_is_number) (.ref T_is_number) kV_is_number dc_is_number pm_is_number an_is_number cd_is_number ct_is_number), sl_is_number⟩)
    (c_is_number : PySem.W.codeIn K cd_is_number "is_number" = true)
    (k_is_number : PySem.W.keepIn K (.ref f_is_number) = true)
    (lT_is_number : K.lookup T_is_number = some do_is_number)
    (dT_is_number : do_is_number.data = .seq ([.int 0 dt_is_number_0, .int 1000000 dt_is_number_1] : List Value).toArray dn_is_number)
    (a_checked_number : PySem.W.nsIn K mainGlobals "checked_number" = some (some (.ref f_checked_number)))
    (l_checked_number : K.lookup f_checked_number = some ⟨oc_checked_number, od_checked_number, .func (PySem.W.fnOf "checked_number" "checked_number" (defArgs s_checked_number) (defBody s_checked_number) (defScope s_checked_number) (.ref T_checked_number) kV_checked_number dc_checked_number pm_checked_number an_checked_number cd_checked_number ct_checked_number), sl_checked_number⟩)
    (c_checked_number : PySem.W.codeIn K cd_checked_number "checked_number" = true)
    (k_checked_number : PySem.W.keepIn K (.ref f_checked_number) = true)
    (lT_checked_number : K.lookup T_checked_number = some do_checked_number)
    (dT_checked_number : do_checked_number.data = .seq ([.int 0 dt_checked_number_0, .int 1000000 dt_checked_number_1] : List Value).toArray dn_checked_number)
    (a_choose : PySem.W.nsIn K mainGlobals "choose" = some (some (.ref f_choose)))
    (l_choose : K.lookup f_choose = some ⟨oc_choose, od_choose, .func (PySem.W.fnOf "choose" "choose" (defArgs s_choose) (defBody s_choose) (defScope s_choose) .none kV_choose dc_choose pm_choose an_choose cd_choose ct_choose), sl_choose⟩)
    (c_choose : PySem.W.codeIn K cd_choose "choose" = true)
    (k_choose : PySem.W.keepIn K (.ref f_choose) = true)
    (a_drawn_at : PySem.W.nsIn K mainGlobals "drawn_at" = some (some (.ref f_drawn_at)))
    (l_drawn_at : K.lookup f_drawn_at = some ⟨oc_drawn_at, od_drawn_at, .func (PySem.W.fnOf "drawn_at" "drawn_at" (defArgs s_drawn_at) (defBody s_drawn_at) (defScope s_drawn_at) .none kV_drawn_at dc_drawn_at pm_drawn_at an_drawn_at cd_drawn_at ct_drawn_at), sl_drawn_at⟩)
    (c_drawn_at : PySem.W.codeIn K cd_drawn_at "drawn_at" = true)
    (k_drawn_at : PySem.W.keepIn K (.ref f_drawn_at) = true)
    (a_place_of : PySem.W.nsIn K mainGlobals "place_of" = some (some (.ref f_place_of)))
    (l_place_of : K.lookup f_place_of = some ⟨oc_place_of, od_place_of, .func (PySem.W.fnOf "place_of" "place_of" (defArgs s_place_of) (defBody s_place_of) (defScope s_place_of) .none kV_place_of dc_place_of pm_place_of an_place_of cd_place_of ct_place_of), sl_place_of⟩)
    (c_place_of : PySem.W.codeIn K cd_place_of "place_of" = true)
    (k_place_of : PySem.W.keepIn K (.ref f_place_of) = true)
    (a_checked_lot : PySem.W.nsIn K mainGlobals "checked_lot" = some (some (.ref f_checked_lot)))
    (l_checked_lot : K.lookup f_checked_lot = some ⟨oc_checked_lot, od_checked_lot, .func (PySem.W.fnOf "checked_lot" "checked_lot" (defArgs s_checked_lot) (defBody s_checked_lot) (defScope s_checked_lot) .none kV_checked_lot dc_checked_lot pm_checked_lot an_checked_lot cd_checked_lot ct_checked_lot), sl_checked_lot⟩)
    (c_checked_lot : PySem.W.codeIn K cd_checked_lot "checked_lot" = true)
    (k_checked_lot : PySem.W.keepIn K (.ref f_checked_lot) = true)
    (a_ways : PySem.W.nsIn K mainGlobals "ways" = some (some (.ref f_ways)))
    (l_ways : K.lookup f_ways = some ⟨oc_ways, od_ways, .func (PySem.W.fnOf "ways" "ways" (defArgs s_ways) (defBody s_ways) (defScope s_ways) .none kV_ways dc_ways pm_ways an_ways cd_ways ct_ways), sl_ways⟩)
    (c_ways : PySem.W.codeIn K cd_ways "ways" = true)
    (k_ways : PySem.W.keepIn K (.ref f_ways) = true)
    (a__law_refused : PySem.W.nsIn K mainGlobals "_law_refused" = some (some (.ref f__law_refused)))
    (l__law_refused : K.lookup f__law_refused = some ⟨oc__law_refused, od__law_refused, .func (PySem.W.fnOf "_law_refused" "_law_refused" (defArgs s__law_refused) (defBody s__law_refused) (defScope s__law_refused) .none kV__law_refused dc__law_refused pm__law_refused an__law_refused cd__law_refused ct__law_refused), sl__law_refused⟩)
    (c__law_refused : PySem.W.codeIn K cd__law_refused "_law_refused" = true)
    (k__law_refused : PySem.W.keepIn K (.ref f__law_refused) = true)
    (a__law_pick : PySem.W.nsIn K mainGlobals "_law_pick" = some (some (.ref f__law_pick)))
    (l__law_pick : K.lookup f__law_pick = some ⟨oc__law_pick, od__law_pick, .func (PySem.W.fnOf "_law_pick" "_law_pick" (defArgs s__law_pick) (defBody s__law_pick) (defScope s__law_pick) .none kV__law_pick dc__law_pick pm__law_pick an__law_pick cd__law_pick ct__law_pick), sl__law_pick⟩)
    (c__law_pick : PySem.W.codeIn K cd__law_pick "_law_pick" = true)
    (k__law_pick : PySem.W.keepIn K (.ref f__law_pick) = true)
    (a_law : PySem.W.nsIn K mainGlobals "law" = some (some (.ref f_law)))
    (l_law : K.lookup f_law = some ⟨oc_law, od_law, .func (PySem.W.fnOf "law" "law" (defArgs s_law) (defBody s_law) (defScope s_law) .none kV_law dc_law pm_law an_law cd_law ct_law), sl_law⟩)
    (c_law : PySem.W.codeIn K cd_law "law" = true)
    (k_law : PySem.W.keepIn K (.ref f_law) = true)
    (H : LawTrue m_law) :
    ∃ fd : FuncData, (∀ (s : Shared) (v : Value), BindsTo s fd ⟨[v], []⟩ [("script", v)]) ∧ ∀ base : Heap, K.In base → base.Ns mainGlobals mg → FnOk l.prog w K mg base (L2N.CX l.prog w) 8 fa fd ["script"] (spLaw K) := by
  have e := hfa.symm.trans (PySem.W.mg_of X G a_law)
  cases e
  have E_InvalidNumber : ErrOk K mg "InvalidNumber" C_InvalidNumber := ⟨PySem.W.mg_of X G a_InvalidNumber, x_InvalidNumber, k_InvalidNumber, bb_InvalidNumber, tt_InvalidNumber, ⟨e1_InvalidNumber, e2_InvalidNumber, bb_InvalidNumber, e4_InvalidNumber, e5_InvalidNumber, o1, o2, e8_InvalidNumber⟩⟩
  have E_InvalidPaper : ErrOk K mg "InvalidPaper" C_InvalidPaper := ⟨PySem.W.mg_of X G a_InvalidPaper, x_InvalidPaper, k_InvalidPaper, bb_InvalidPaper, tt_InvalidPaper, ⟨e1_InvalidPaper, e2_InvalidPaper, bb_InvalidPaper, e4_InvalidPaper, e5_InvalidPaper, o1, o2, e8_InvalidPaper⟩⟩
  have E_PlotError : ErrOk K mg "PlotError" C_PlotError := ⟨PySem.W.mg_of X G a_PlotError, x_PlotError, k_PlotError, bb_PlotError, tt_PlotError, ⟨e1_PlotError, e2_PlotError, bb_PlotError, e4_PlotError, e5_PlotError, o1, o2, e8_PlotError⟩⟩
  have T : Txt K mg C_InvalidNumber C_InvalidPaper C_PlotError := {
    b_ValueError := PySem.W.mg_none_of X G b_ValueError,
    b_abs := PySem.W.mg_none_of X G b_abs,
    b_bool := PySem.W.mg_none_of X G b_bool,
    b_int := PySem.W.mg_none_of X G b_int,
    b_isinstance := PySem.W.mg_none_of X G b_isinstance,
    b_len := PySem.W.mg_none_of X G b_len,
    b_list := PySem.W.mg_none_of X G b_list,
    b_min := PySem.W.mg_none_of X G b_min,
    b_range := PySem.W.mg_none_of X G b_range,
    b_sorted := PySem.W.mg_none_of X G b_sorted,
    b_str := PySem.W.mg_none_of X G b_str,
    b_tuple := PySem.W.mg_none_of X G b_tuple,
    g_MOST := ⟨_, PySem.W.mg_of X G g_MOST⟩,
    e_InvalidNumber := E_InvalidNumber,
    e_InvalidPaper := E_InvalidPaper,
    e_PlotError := E_PlotError,
    sb_InvalidNumber := (subOk_cons E_InvalidNumber.g (exm_cls bb_InvalidNumber ic_InvalidNumber tt_InvalidNumber s_InvalidNumber_InvalidNumber) (by decide +kernel) (subOk_cons E_InvalidPaper.g (exm_cls bb_InvalidNumber ic_InvalidNumber tt_InvalidNumber s_InvalidPaper_InvalidNumber) (by decide +kernel) (subOk_cons E_PlotError.g (exm_cls bb_InvalidNumber ic_InvalidNumber tt_InvalidNumber s_PlotError_InvalidNumber) (by decide +kernel) subOk_nil))),
    is_InvalidNumber := (isOk_cons E_InvalidNumber kit_self (by decide +kernel) (isOk_cons E_InvalidPaper (kit_of (Ne.symm n_InvalidNumber_InvalidPaper) ic_InvalidNumber tt_InvalidNumber s_InvalidPaper_InvalidNumber) (by decide +kernel) (isOk_cons E_PlotError (kit_of (Ne.symm n_InvalidNumber_PlotError) ic_InvalidNumber tt_InvalidNumber s_PlotError_InvalidNumber) (by decide +kernel) isOk_nil))),
    sb_InvalidPaper := (subOk_cons E_InvalidNumber.g (exm_cls bb_InvalidPaper ic_InvalidPaper tt_InvalidPaper s_InvalidNumber_InvalidPaper) (by decide +kernel) (subOk_cons E_InvalidPaper.g (exm_cls bb_InvalidPaper ic_InvalidPaper tt_InvalidPaper s_InvalidPaper_InvalidPaper) (by decide +kernel) (subOk_cons E_PlotError.g (exm_cls bb_InvalidPaper ic_InvalidPaper tt_InvalidPaper s_PlotError_InvalidPaper) (by decide +kernel) subOk_nil))),
    is_InvalidPaper := (isOk_cons E_InvalidNumber (kit_of n_InvalidNumber_InvalidPaper ic_InvalidPaper tt_InvalidPaper s_InvalidNumber_InvalidPaper) (by decide +kernel) (isOk_cons E_InvalidPaper kit_self (by decide +kernel) (isOk_cons E_PlotError (kit_of (Ne.symm n_InvalidPaper_PlotError) ic_InvalidPaper tt_InvalidPaper s_PlotError_InvalidPaper) (by decide +kernel) isOk_nil))),
    sb_PlotError := (subOk_cons E_InvalidNumber.g (exm_cls bb_PlotError ic_PlotError tt_PlotError s_InvalidNumber_PlotError) (by decide +kernel) (subOk_cons E_InvalidPaper.g (exm_cls bb_PlotError ic_PlotError tt_PlotError s_InvalidPaper_PlotError) (by decide +kernel) (subOk_cons E_PlotError.g (exm_cls bb_PlotError ic_PlotError tt_PlotError s_PlotError_PlotError) (by decide +kernel) subOk_nil))),
    is_PlotError := (isOk_cons E_InvalidNumber (kit_of n_InvalidNumber_PlotError ic_PlotError tt_PlotError s_InvalidNumber_PlotError) (by decide +kernel) (isOk_cons E_InvalidPaper (kit_of n_InvalidPaper_PlotError ic_PlotError tt_PlotError s_InvalidPaper_PlotError) (by decide +kernel) (isOk_cons E_PlotError kit_self (by decide +kernel) isOk_nil))),
    is_VE := (isOk_cons E_InvalidNumber (kit_VE v_InvalidNumber) (by decide +kernel) (isOk_cons E_InvalidPaper (kit_VE v_InvalidPaper) (by decide +kernel) (isOk_cons E_PlotError (kit_VE v_PlotError) (by decide +kernel) isOk_nil))),
    F__law_pool := ⟨_, _, fun_mk (st := s__law_pool) l__law_pool c__law_pool k__law_pool, PySem.W.mg_of X G a__law_pool⟩,
    F__law_draw := ⟨_, _, fun_mk (st := s__law_draw) l__law_draw c__law_draw k__law_draw, PySem.W.mg_of X G a__law_draw⟩,
    F__law_ways := ⟨_, _, fun_mk (st := s__law_ways) l__law_ways c__law_ways k__law_ways, PySem.W.mg_of X G a__law_ways⟩,
    F__law_names := ⟨_, _, fun_mk (st := s__law_names) l__law_names c__law_names k__law_names, PySem.W.mg_of X G a__law_names⟩,
    F__law_same := ⟨_, _, fun_mk (st := s__law_same) l__law_same c__law_same k__law_same, PySem.W.mg_of X G a__law_same⟩,
    F_is_number := ⟨_, _, ⟨⟨_, _, _, _, _, _, _, _, _, _, rfl, l_is_number, c_is_number, .inr ⟨by decide, _, _, _, _, rfl, lT_is_number, dT_is_number, (.cons ⟨_, rfl⟩ (.cons ⟨_, rfl⟩ .nil))⟩, .inl rfl⟩, k_is_number⟩, PySem.W.mg_of X G a_is_number⟩,
    F_checked_number := ⟨_, _, ⟨⟨_, _, _, _, _, _, _, _, _, _, rfl, l_checked_number, c_checked_number, .inr ⟨by decide, _, _, _, _, rfl, lT_checked_number, dT_checked_number, (.cons ⟨_, rfl⟩ (.cons ⟨_, rfl⟩ .nil))⟩, .inl rfl⟩, k_checked_number⟩, PySem.W.mg_of X G a_checked_number⟩,
    F_choose := ⟨_, _, fun_mk (st := s_choose) l_choose c_choose k_choose, PySem.W.mg_of X G a_choose⟩,
    F_drawn_at := ⟨_, _, fun_mk (st := s_drawn_at) l_drawn_at c_drawn_at k_drawn_at, PySem.W.mg_of X G a_drawn_at⟩,
    F_place_of := ⟨_, _, fun_mk (st := s_place_of) l_place_of c_place_of k_place_of, PySem.W.mg_of X G a_place_of⟩,
    F_checked_lot := ⟨_, _, fun_mk (st := s_checked_lot) l_checked_lot c_checked_lot k_checked_lot, PySem.W.mg_of X G a_checked_lot⟩,
    F_ways := ⟨_, _, fun_mk (st := s_ways) l_ways c_ways k_ways, PySem.W.mg_of X G a_ways⟩,
    F__law_refused := ⟨_, _, fun_mk (st := s__law_refused) l__law_refused c__law_refused k__law_refused, PySem.W.mg_of X G a__law_refused⟩,
    F__law_pick := ⟨_, _, fun_mk (st := s__law_pick) l__law_pick c__law_pick k__law_pick, PySem.W.mg_of X G a__law_pick⟩ }
  exact ⟨PySem.W.fnOf "law" "law" (defArgs s_law) (defBody s_law) (defScope s_law) .none kV_law dc_law pm_law an_law cd_law ct_law, fun s v => .of_eq rfl, fun base _ _ => law_fn H (ok_law T (fun_mk (st := s_law) l_law c_law k_law))⟩
theorem walk {l : PySem.W.OpenLaw} {q : Program} {loose : List Str} {XP : (Str → Option Value) → Heap → Prop} {YP : World → Heap → Prop} {d : DefRec} {K : Params → PySem.W.Frag} (hn : l.most = some 63) (hdf : d.params.defaults = [])
    (hY : ∀ (w : World) (h : Heap), YP w h → (K w.params).In h)
    (F : ∀ (w : World) (mg : Str → Option Value) (fa : Addr) (h : Heap), (K w.params).In h → h.Ns mainGlobals mg → mg d.name = some (.ref fa) →
      ∃ fd : FuncData, (∀ (s : Shared) (u : Value), BindsTo s fd ⟨[u], []⟩ [("script", u)]) ∧ ∀ base : Heap, (K w.params).In base → base.Ns mainGlobals mg → FnOk l.prog w (K w.params) mg base (L2N.CX l.prog w) 8 fa fd ["script"] (spLaw (K w.params))) :
    PySem.W.WalkO q loose XP YP l.row.toRowW d [] (fun f vs => PySem.call f vs) :=
  L2.walk_of (n := 63) (k := 8) (x := "script") (CX := fun w => L2N.CX l.prog w) (sp := fun w => spLaw (K w.params)) hn (by decide) hdf ⟨rfl, by decide, by decide⟩ hY F (fun _ _ a ns hl _ hS => ⟨a, ns, rfl, hS, hl, fun _ => rfl⟩) fun _ _ _ _ _ z => no_exc z
end Law


namespace Law
open PySem PySem.Spec L2 DL
/-- the pool of a law -/
def Pool (d : D) : Prop := ∃ (ss : List Int) (a b c e : Int), d = .node true .lst [.node false .lst (ss.map .int), .int a, .int b, .int c, .int e] ∧ 0 ≤ a ∧ ss.length ≤ 63
def kE (P : D → DL.Env → Prop) (o : Opn) (ρ : DL.Env) : Prop := wO (esc o ρ) fun x => P x.1 x.2
theorem kE_val {P : D → DL.Env → Prop} {d : D} {ρ : DL.Env} : kE P (.val d) ρ = P d ρ := Eq.trans rfl rfl
def kES (j : Nat) (P : D → DL.Env → Prop) (ρ : DL.Env) (o : Option D) : Prop := match o with
  | some d => P d.frz (frzS [j] ρ)
  | none => False
theorem kE_slot {P : D → DL.Env → Prop} {j : Nat} {ρ : DL.Env} : kE P (.slot j) ρ = kES j P ρ (slotOf ρ j) := by
  unfold kE esc kES
  cases e : slotOf ρ j with
  | none => simp only [e]; rfl
  | some d =>
    have : frzS [j] ρ = frzE (fun k => k == j) 0 ρ := by
      unfold frzS
      congr 1
      funext k
      rw [List.contains_cons, List.contains_nil, Bool.or_false]
    rw [this]
    simp only [e]
    rfl
theorem kES_some {P : D → DL.Env → Prop} {j : Nat} {d : D} {ρ : DL.Env} : kES j P ρ (some d) = P d.frz (frzS [j] ρ) := Eq.trans rfl rfl
theorem items_l {o : Bool} {ds : List D} : D.items (.node o .lst ds) = some ds := Eq.trans rfl rfl
theorem items_t {o : Bool} {ds : List D} : D.items (.node o .tup ds) = some ds := Eq.trans rfl rfl
theorem wipe_n {ρ : DL.Env} : wipeE ρ [] = ρ := Eq.trans rfl rfl
theorem wipe_c {ρ : DL.Env} {i : Nat} {l : List Nat} : wipeE ρ (i :: l) = (wipeE ρ l).set i none := Eq.trans rfl rfl
theorem frzs_ints (ns : List Int) : D.frzs (ns.map .int) = ns.map .int := by
  induction ns with
  | nil => rfl
  | cons n r ih => rw [List.map_cons, D.frzs, ih, D.frz]; intro _ _ _ h; cases h
theorem clos_ints (ns : List Int) : D.clos (ns.map .int) = true := by
  induction ns with
  | nil => rfl
  | cons n r ih => rw [List.map_cons, D.clos, ih]; rfl
theorem fzs_ints (ns : List Int) : D.fzs (ns.map .int) = true := by
  induction ns with
  | nil => rfl
  | cons n r ih => rw [List.map_cons, D.fzs, ih]; rfl
local macro_rules | `(tactic| dsimp? only [$ls,*]) => `(tactic| simp only [wE_sortS, wS_fzS, kFz_eq, wE_lcV, gLtX_i, gLtX_s, pQ_v, wE_lcX, wI_rng3, kR3_int, kR3b_int, kR3c_int, wE_ch3, kC3a_eq, kC3b_vv, kC3c_bl, wI_revS, kRv_str, items_str, wS_par, kPar_eq, kPar2_some, wS_asg, kAg_eq, kAg1_some, kAg2_some, tgsCons_c, tgK_some, tgsNil_n, tgTup_t, tgName_e, wE_methA, kMethA_eq, wE_lenS, wI_rng2, kR2_eq, kR2b_int, wF_fn, wS_seq, wS_set, wS_if, wS_expr, wS_ret, wS_retN, wS_next, wS_break, wS_cont, wS_raise, wS_forK, wE_int, wE_str, wE_bl, wE_non, wE_V, wE_op, wE_if, wE_and, wE_or, wE_not, wE_isI, wE_isI2, wE_call, wE_disp, wE_ck, wE_lcK, wE_chI, wE_lift, wE_app, wE_meth, kMeth_eq, kMe_l, kMr_some, wS_try, wE_isE, kIsE_s, kSuN_eq, kSuR_eq, noxE_nil, noxE_cons, noxO_n, noxO_s, nox_non, nox_bl, nox_int, nox_str, nox_lst, nox_tup, noxs_nil, noxs_cons, noxs_ints, wA_nil, wA_cons, wT_B, wT_tru, wT_not, wT_and, wT_or, wT_yes, wI_items, wI_rng1, kE_val, kE_slot, kES_some, items_l, items_t, wipe_n, wipe_c, frzs_ints, fzs_ints, clos_ints, qC_if, xC_eq, qC0_eq, xC0_eq, clos_nil, clos_cons, kV_some, pick_non, pick_bl, pick_int, pick_str, pick_node, kCons_eq, kCons2_eq, kOp_eq, kOpD_some, kOpR_some, kOpR_if, kB_eq, kTru_eq, kTruD_some, kTruB_some, kNot_eq, kIte_eq, kT_eq, kAnd_eq, kOr_eq, kNotV_eq, kIs_eq, kIsD_some, kIsT_some, kSt_val, kSt_slot, kStS_some, kNx_eq, kRt_val, kRt_slot, kRtS_some, kRs_eq, kCkO_eq, kCk_int, kIt_val, kIt_slot, kItS_some, kItD_some, kR1_int, kCall_N, kCN_some, kCall_0h, kC0_some, restE_nil, restE_cons, rsO_t, rsO_f, kDisp_eq, kDs_some, kOut_eq, kOutX_eq, kOO_some, kOX_some, kCh_val, kChD_int, kChE_int, kChF_int, kLiftO_some, kApp_val, kAppO_l, isLst_l, slotOf_0, slotOf_S, vw_val, vw_slot, vws_nil, vws_cons, vwsO_nil, vwsO_cons, vwsK_some, frz_non, frz_bl, frz_int, frz_str, frz_node, tr_non, tr_bl, tr_int, tr_lst, tr_tup, tr_ro, ty_non, ty_bl, ty_int, ty_str, ty_lst, ty_tup, is1_eq, is2_eq, sv_non, sv_bl, sv_int, sv_str, sv_node, fz_non, fz_bl, fz_int, fz_str, fz_node, clo_non, clo_bl, clo_int, clo_str, clo_node, isN_non, isN_bl, isN_int, isN_str, isN_node, isB_non, isB_bl, isB_int, isB_str, isB_node, frzs_nil, frzs_cons, fzs_nil, fzs_cons, tyIs_non_bool, tyIs_non_int, tyIs_non_str, tyIs_non_list, tyIs_non_tuple, tyIs_bool_bool, tyIs_bool_int, tyIs_bool_str, tyIs_bool_list, tyIs_bool_tuple, tyIs_int_bool, tyIs_int_int, tyIs_int_str, tyIs_int_list, tyIs_int_tuple, tyIs_str_bool, tyIs_str_int, tyIs_str_str, tyIs_str_list, tyIs_str_tuple, tyIs_list_bool, tyIs_list_int, tyIs_list_str, tyIs_list_list, tyIs_list_tuple, tyIs_tuple_bool, tyIs_tuple_int, tyIs_tuple_str, tyIs_tuple_list, tyIs_tuple_tuple, List.set_cons_zero, List.set_cons_succ, List.map_cons, List.map_nil, List.cons_append, List.nil_append, List.append_nil, List.length_cons, List.length_nil, List.replicate, gSub_ii, gMod_ii, gDiv_ii, gXor_ii, gAdd_ii, gMul_ii, gNeg_i, gEq_ii, gNe_ii, gEq_bb, gNe_bb, gEq_ss, gNe_ss, gLt_ii, gLe_ii, gGt_ii, gGe_ii, gInt_i, gAbs_i, gLen_l, gLen_t, gLen_r, gIsN_n, gNotN_n, gIsB_b, gNotB_b, gIx_l, gIx_t, gIx_r, wS_setIx, kSx_val, kSx1_s, kSxS_some, kSx2_l, kSxK_some, qVar_eq, pC_eq, at_nil, put_nil, argsD_nil, argsD_val, argsD_slotN, argsD_slot0, argsD_slot1, asO_some, asF_some, slotsOf_nil, slotsOf_val, slotsOf_slotN, slotsOf_slot1, frzS_nil, frzS_cons, frzE_nil, frzE_cons, frzO_f, frzO_n, frzO_t, argsOut_nil, argsOut_0, aoK_some, Option.map_some, Option.map_none, Option.some.injEq, List.contains_nil, Bool.false_eq_true, if_true, if_false, reduceCtorEq, eq_self, Bool.not_true, Bool.not_false, Bool.or_true, Bool.true_or, Bool.or_false, Bool.false_or, Bool.and_true, Bool.true_and, Bool.and_false, Bool.false_and, decide_eq_true_eq, Option.isSome_some, true_and, and_true, Nat.reduceBEq, Nat.reduceEqDiff, Nat.reduceLT, Nat.reduceAdd, Nat.reduceSub, Nat.reduceLeDiff, Int.reduceLT, Int.reduceLE, Int.reduceEq, Int.reduceNeg, Int.reduceToNat, decide_true, decide_false, Bool.not_eq_true, Bool.not_eq_false, List.getElem?_cons_zero, List.getElem?_cons_succ, List.contains_cons, Nat.zero_add, $ls,*])
--MACRO
theorem pick_pool {p : D} (hp : Pool p) {i : Nat} : pickV i p = .slot i := by
  obtain ⟨s, a, b, c, e, rfl, ha, hs⟩ := hp
  rfl
theorem e_num (i a b : Int) : m_is_number [.int i, .int a, .int b] = .ok (.bl (decide (a ≤ i) && decide (i ≤ b))) [.int i, .int a, .int b] := by
  apply wF_ok
  unfold m_is_number
  dsimp? only [if_true]
  by_cases h : a ≤ i <;> simp [h]
theorem pool_ok (s : List Int) (hs : s.length ≤ 63) : ∃ p, Pool p ∧ m__law_pool [.node false .ro (s.map .int)] = .ok p [.node false .ro (s.map .int)] := by
  refine ⟨_, ⟨s, 0, 0, 0, 0, rfl, by decide, hs⟩, ?_⟩
  apply wF_ok
  unfold m__law_pool
  dsimp? only [gList, frzs_ints, fzs_ints, Kd.seq]
theorem cell_at {s : List Int} {a : Int} {x y z : D} {r : DL.Env} (h0 : 0 ≤ a) (h1 : a < s.length) : ∃ n, pQ (qIx (qIx (qVar 0) (pC (.int 0))) (pQ (qIx (qVar 0) (pC (.int 1))))) (some (.node true .lst [.node false .lst (s.map .int), .int a, x, y, z]) :: r) = some (.int n) := by
  have hn : a.toNat < s.length := by omega
  refine ⟨s[a.toNat], ?_⟩
  have e1 : ixN (s.map D.int).length a = some a.toNat := by
    unfold ixN
    rw [if_pos h0, if_pos (by rw [List.length_map]; exact h1)]
  have e2 : (s.map D.int)[a.toNat]? = some (.int s[a.toNat]) := by
    rw [List.getElem?_map, List.getElem?_eq_getElem hn]
    rfl
  simp only [pQ, qIx, qVar, pC, slotOf_0, D.at, List.length_cons, List.length_nil, ixN_50, ixN_51, Kd.seq, if_true, Option.map_some, List.nil_append, Nat.reduceAdd, Nat.zero_add, List.getElem?_cons_zero, List.getElem?_cons_succ, e1, e2, List.cons_append]
theorem draw_ok {p : D} {m : Int} (hp : Pool p) (hm : 0 < m) (hm2 : m < 1073741824) {X : Str → List D → Prop} {Q : D → List D → Prop} (q : ∀ r p', 0 ≤ r → r < m → Pool p' → Q (.int r) [p', .int m]) : wF m__law_draw X Q [p, .int m] := by
  obtain ⟨s, a, b, c, e, rfl, ha, hs⟩ := hp
  have md : ∀ x : Int, 0 ≤ x % m ∧ x % m < m := fun x => ⟨Int.emod_nonneg x (by omega), Int.emod_lt_of_pos x hm⟩
  have big : ∀ x : Int, -(2 ^ 64) < x % 2147483647 ∧ x % 2147483647 < 2 ^ 64 := fun x => by omega
  have k1 : ∀ c, (-(2 ^ 64) < c ∧ c < (2 : Int) ^ 64 ∨ -(2 ^ 64) < (48271 : Int) ∧ (48271 : Int) < 2 ^ 64) := fun c => .inr (by decide)
  have k2 : ∀ c, (-(2 ^ 64) < c ∧ c < (2 : Int) ^ 64 ∨ -(2 ^ 64) < (69621 : Int) ∧ (69621 : Int) < 2 ^ 64) := fun c => .inr (by decide)
  have k3 : ∀ c, (-(2 ^ 64) < c ∧ c < (2 : Int) ^ 64 ∨ -(2 ^ 64) < (40692 : Int) ∧ (40692 : Int) < 2 ^ 64) := fun c => .inr (by decide)
  have fin : ∀ (s : List Int) (a b c e x : Int), 0 ≤ a → s.length ≤ 63 → Q (.int (x % m)) [.node true .lst [.node false .lst (s.map .int), .int a, .int b, .int c, .int e], .int m] := fun s a b c e x h1 h2 => q _ _ (md x).1 (md x).2 ⟨s, a, b, c, e, rfl, h1, h2⟩
  unfold m__law_draw
  dsimp? only [ixD_50, ixD_51, ixD_52, ixD_53, ixD_54, ixN_50, ixN_51, ixN_52, ixN_53, ixN_54, gPow_ii, List.length_map, fzs_ints, frzs_ints]
  split
  · exact ⟨hm, ⟨hm, hm2⟩, fin _ _ _ _ _ _ ha hs⟩
  · split
    · split
      · rename_i h1 h2 h3
        obtain ⟨n, en⟩ := cell_at (x := .int b) (y := .int c) (z := .int e) (r := [some (.int m), none, none, none]) ha h3
        rw [en]
        dsimp? only [ixD_50, ixD_51, ixD_52, ixD_53, ixD_54, ixN_50, ixN_51, ixN_52, ixN_53, ixN_54, gPow_ii, List.length_map, fzs_ints, frzs_ints]
        refine ⟨by decide, ?_⟩
        split <;> split
        · exact ⟨⟨hm, hm2⟩, hm, fin _ _ _ _ _ _ (by omega) hs⟩
        · exact ⟨k1 _, k2 _, .inl (big _), k3 _, hm, fin _ _ _ _ _ _ (by omega) hs⟩
        · exact ⟨⟨hm, hm2⟩, hm, fin _ _ _ _ _ _ (by omega) hs⟩
        · exact ⟨k1 _, k2 _, .inl (big _), k3 _, hm, fin _ _ _ _ _ _ (by omega) hs⟩
      · exact ⟨k1 _, k2 _, .inl (big _), k3 _, hm, fin _ _ _ _ _ _ ha hs⟩
    · exact ⟨k1 _, k2 _, .inl (big _), k3 _, hm, fin _ _ _ _ _ _ ha hs⟩
theorem pick_ok {p : D} {o : Bool} {ds : List D} (hp : Pool p) (h0 : 0 < ds.length) (h1 : ds.length < 1073741824) (hz : D.fzs ds = true) {X : Str → List D → Prop} {Q : D → List D → Prop} (q : ∀ d p', d ∈ ds → d.fz = true → Pool p' → Q d [p', .node o .lst ds]) : wF m__law_pick X Q [p, .node o .lst ds] := by
  unfold m__law_pick
  have hp0 := hp
  obtain ⟨s, a, b, c, e, rfl, ha, hs⟩ := hp
  dsimp? only [if_true]
  refine draw_ok hp0 (by omega) (by omega) fun r p' r0 r1 hp' => ?_
  have hl : r.toNat < ds.length := by omega
  have hd := D.fzs_all ds
  rw [hz] at hd
  have hd1 : (ds[r.toNat]).fz = true := List.all_eq_true.mp hd.symm _ (List.getElem_mem hl)
  have he : ixD ds r = some ds[r.toNat] := ixD_at r0 (List.getElem?_eq_getElem hl) hd1
  dsimp? only [he, xC0_eq, qC0_eq]
  exact q _ _ (List.getElem_mem hl) hd1 hp'
/-- plain data -/
def Pl : Nat → D → Prop
  | 0, _ => False
  | n + 1, d => match d with
    | .non => True
    | .bl _ => True
    | .int _ => True
    | .str _ => True
    | .node false .lst ds => D.fzs ds = true ∧ ds.length < 16777216 ∧ ∀ x ∈ ds, Pl n x
    | .node false .tup ds => D.fzs ds = true ∧ ds.length < 16777216 ∧ ∀ x ∈ ds, Pl n x
    | _ => False
theorem Pl.fz {n : Nat} {d : D} (h : Pl n d) : d.fz = true := by
  cases n with
  | zero => exact h.elim
  | succ n =>
    cases d with
    | node o k ds =>
      cases o with
      | true => exact h.elim
      | false =>
        have : D.fzs ds = true := by cases k <;> first | exact h.1 | exact h.elim
        rw [D.fz, this]
        rfl
    | exn c => exact h.elim
    | _ => rfl
theorem rng_get {n i : Nat} {d : D} (h : ((rngI 0 n).map D.int)[i]? = some d) : i < n ∧ d = .int i := by
  have hi := (List.getElem?_eq_some_iff.mp h).1
  have hi' : i < n := by simpa [rngI] using hi
  refine ⟨hi', ?_⟩
  simp [rngI, hi'] at h
  exact h.symm
theorem same_loop {n : Nat} {ds : List D} {k : Kd} {E : En} (hk : k = .lst ∨ k = .tup) (hz : D.fzs ds = true) (hl : ds.length < 16777216) (ih : ∀ x ∈ ds, m__law_same n [x, x] = .ok (.bl true) [x, x]) (h : ∀ o, E.nx [some (.node false k ds), some (.node false k ds), o]) :
    kFor (tgName 2) (mIfS (mNotT (mTru (mCall none (m__law_same n) [] (mCons (mOp (mCons (mVar 0) (mCons (mVar 2) mNil)) gIx) (mCons (mOp (mCons (mVar 1) (mCons (mVar 2) mNil)) gIx) mNil))))) (mRet 2 (mC (.bl false))) (mNext)) E ((rngI 0 ((ds.length : Int)).toNat).map .int) [some (.node false k ds), some (.node false k ds), none] := by
  refine for_rule (fun i ρ => ∃ o, ρ = [some (.node false k ds), some (.node false k ds), o]) _ 0 _ ⟨none, rfl⟩ (fun i x ρ hi hI => ?_) (fun ρ hI => ?_)
  · obtain ⟨o, rfl⟩ := hI
    obtain ⟨hi', rfl⟩ := rng_get hi
    have hl : i < ds.length := by omega
    have hd := D.fzs_all ds
    rw [hz] at hd
    have hd1 : (ds[i]).fz = true := List.all_eq_true.mp hd.symm _ (List.getElem_mem hl)
    have he : ixD ds i = some ds[i] := ixD_at (by omega) (by rw [Int.toNat_natCast]; exact List.getElem?_eq_getElem hl) hd1
    have hf := D.frz_fz _ hd1
    refine ⟨[some (.node false k ds), some (.node false k ds), some (.int i)], rfl, ?_⟩
    rcases hk with rfl | rfl
    · dsimp? only [he, hf]
      refine wF_of (ih _ (List.getElem_mem hl)) ?_
      dsimp? only [qC_eq]
      exact ⟨_, rfl⟩
    · dsimp? only [he, hf]
      refine wF_of (ih _ (List.getElem_mem hl)) ?_
      dsimp? only [qC_eq]
      exact ⟨_, rfl⟩
  · obtain ⟨o, rfl⟩ := hI
    exact h o
theorem same_ok : ∀ (n : Nat) (d : D), Pl n d → m__law_same n [d, d] = .ok (.bl true) [d, d]
  | 0, d, h => h.elim
  | n + 1, d, h => by
    apply wF_ok
    rw [m__law_same]
    cases d with
    | non => dsimp? only [if_true]
    | bl b => dsimp? only [if_true]
    | int i => dsimp? only [if_true]
    | str s => dsimp? only [if_true]
    | exn c => exact h.elim
    | node o k ds =>
      cases o with
      | true => exact h.elim
      | false =>
        cases k with
        | lst =>
          obtain ⟨h1, h2, h3⟩ := h
          dsimp? only [if_true]
          refine ⟨by omega, same_loop (.inl rfl) h1 h2 (fun x hx => same_ok n x (h3 x hx)) fun o => ?_⟩
          dsimp? only [if_true]
        | tup =>
          obtain ⟨h1, h2, h3⟩ := h
          dsimp? only [if_true]
          refine ⟨by omega, same_loop (.inr rfl) h1 h2 (fun x hx => same_ok n x (h3 x hx)) fun o => ?_⟩
          dsimp? only [if_true]
        | _ => exact h.elim
end Law

namespace Law
open PySem PySem.Spec L2 DL
local macro_rules | `(tactic| dsimp? only [$ls,*]) => `(tactic| simp only [wE_sortS, wS_fzS, kFz_eq, wE_lcV, gLtX_i, gLtX_s, pQ_v, wE_lcX, wI_rng3, kR3_int, kR3b_int, kR3c_int, wE_ch3, kC3a_eq, kC3b_vv, kC3c_bl, wI_revS, kRv_str, items_str, wS_par, kPar_eq, kPar2_some, wS_asg, kAg_eq, kAg1_some, kAg2_some, tgsCons_c, tgK_some, tgsNil_n, tgTup_t, tgName_e, wE_methA, kMethA_eq, wE_lenS, wI_rng2, kR2_eq, kR2b_int, wF_fn, wS_seq, wS_set, wS_if, wS_expr, wS_ret, wS_retN, wS_next, wS_break, wS_cont, wS_raise, wS_forK, wE_int, wE_str, wE_bl, wE_non, wE_V, wE_op, wE_if, wE_and, wE_or, wE_not, wE_isI, wE_isI2, wE_call, wE_disp, wE_ck, wE_lcK, wE_chI, wE_lift, wE_app, wE_meth, kMeth_eq, kMe_l, kMr_some, wS_try, wE_isE, kIsE_s, kSuN_eq, kSuR_eq, noxE_nil, noxE_cons, noxO_n, noxO_s, nox_non, nox_bl, nox_int, nox_str, nox_lst, nox_tup, noxs_nil, noxs_cons, noxs_ints, wA_nil, wA_cons, wT_B, wT_tru, wT_not, wT_and, wT_or, wT_yes, wI_items, wI_rng1, kE_val, kE_slot, kES_some, items_l, items_t, wipe_n, wipe_c, frzs_ints, fzs_ints, clos_ints, qC_if, xC_eq, qC0_eq, xC0_eq, clos_nil, clos_cons, kV_some, pick_non, pick_bl, pick_int, pick_str, pick_node, kCons_eq, kCons2_eq, kOp_eq, kOpD_some, kOpR_some, kOpR_if, kB_eq, kTru_eq, kTruD_some, kTruB_some, kNot_eq, kIte_eq, kT_eq, kAnd_eq, kOr_eq, kNotV_eq, kIs_eq, kIsD_some, kIsT_some, kSt_val, kSt_slot, kStS_some, kNx_eq, kRt_val, kRt_slot, kRtS_some, kRs_eq, kCkO_eq, kCk_int, kIt_val, kIt_slot, kItS_some, kItD_some, kR1_int, kCall_N, kCN_some, kCall_0h, kC0_some, restE_nil, restE_cons, rsO_t, rsO_f, kDisp_eq, kDs_some, kOut_eq, kOutX_eq, kOO_some, kOX_some, kCh_val, kChD_int, kChE_int, kChF_int, kLiftO_some, kApp_val, kAppO_l, isLst_l, slotOf_0, slotOf_S, vw_val, vw_slot, vws_nil, vws_cons, vwsO_nil, vwsO_cons, vwsK_some, frz_non, frz_bl, frz_int, frz_str, frz_node, tr_non, tr_bl, tr_int, tr_lst, tr_tup, tr_ro, ty_non, ty_bl, ty_int, ty_str, ty_lst, ty_tup, is1_eq, is2_eq, sv_non, sv_bl, sv_int, sv_str, sv_node, fz_non, fz_bl, fz_int, fz_str, fz_node, clo_non, clo_bl, clo_int, clo_str, clo_node, isN_non, isN_bl, isN_int, isN_str, isN_node, isB_non, isB_bl, isB_int, isB_str, isB_node, frzs_nil, frzs_cons, fzs_nil, fzs_cons, tyIs_non_bool, tyIs_non_int, tyIs_non_str, tyIs_non_list, tyIs_non_tuple, tyIs_bool_bool, tyIs_bool_int, tyIs_bool_str, tyIs_bool_list, tyIs_bool_tuple, tyIs_int_bool, tyIs_int_int, tyIs_int_str, tyIs_int_list, tyIs_int_tuple, tyIs_str_bool, tyIs_str_int, tyIs_str_str, tyIs_str_list, tyIs_str_tuple, tyIs_list_bool, tyIs_list_int, tyIs_list_str, tyIs_list_list, tyIs_list_tuple, tyIs_tuple_bool, tyIs_tuple_int, tyIs_tuple_str, tyIs_tuple_list, tyIs_tuple_tuple, List.set_cons_zero, List.set_cons_succ, List.map_cons, List.map_nil, List.cons_append, List.nil_append, List.append_nil, List.length_cons, List.length_nil, List.replicate, gSub_ii, gMod_ii, gDiv_ii, gXor_ii, gAdd_ii, gMul_ii, gNeg_i, gEq_ii, gNe_ii, gEq_bb, gNe_bb, gEq_ss, gNe_ss, gLt_ii, gLe_ii, gGt_ii, gGe_ii, gInt_i, gAbs_i, gLen_l, gLen_t, gLen_r, gIsN_n, gNotN_n, gIsB_b, gNotB_b, gIx_l, gIx_t, gIx_r, wS_setIx, kSx_val, kSx1_s, kSxS_some, kSx2_l, kSxK_some, qVar_eq, pC_eq, at_nil, put_nil, argsD_nil, argsD_val, argsD_slotN, argsD_slot0, argsD_slot1, asO_some, asF_some, slotsOf_nil, slotsOf_val, slotsOf_slotN, slotsOf_slot1, frzS_nil, frzS_cons, frzE_nil, frzE_cons, frzO_f, frzO_n, frzO_t, argsOut_nil, argsOut_0, aoK_some, Option.map_some, Option.map_none, Option.some.injEq, List.contains_nil, Bool.false_eq_true, if_true, if_false, reduceCtorEq, eq_self, Bool.not_true, Bool.not_false, Bool.or_true, Bool.true_or, Bool.or_false, Bool.false_or, Bool.and_true, Bool.true_and, Bool.and_false, Bool.false_and, decide_eq_true_eq, Option.isSome_some, true_and, and_true, Nat.reduceBEq, Nat.reduceEqDiff, Nat.reduceLT, Nat.reduceAdd, Nat.reduceSub, Nat.reduceLeDiff, Int.reduceLT, Int.reduceLE, Int.reduceEq, Int.reduceNeg, Int.reduceToNat, decide_true, decide_false, Bool.not_eq_true, Bool.not_eq_false, List.getElem?_cons_zero, List.getElem?_cons_succ, List.contains_cons, Nat.zero_add, $ls,*])
abbrev LI (ns : List Int) : D := .node false .lst (ns.map .int)
abbrev LO (ns : List Int) : D := .node true .lst (ns.map .int)
def at' (l : List Int) (i : Int) : Int := l.getD i.toNat 0
theorem ix_ints {l : List Int} {i : Int} (h0 : 0 ≤ i) (h1 : i < l.length) : ixD (l.map .int) i = some (.int (at' l i)) := by
  have hl : i.toNat < l.length := by omega
  refine ixD_at h0 ?_ rfl
  rw [List.getElem?_map, List.getElem?_eq_getElem hl]
  unfold at'
  rw [List.getD_eq_getElem?_getD, List.getElem?_eq_getElem hl]
  rfl
theorem ints_map : ∀ l : List Int, D.ints? (l.map .int) = some l
  | [] => rfl
  | i :: r => by
    show D.ints? (D.int i :: r.map .int) = _
    rw [D.ints?, ints_map r]
    rfl
theorem sorted_l {o : Bool} {l : List Int} : gSorted [.node o .lst (l.map .int)] = some (LO (sortI l)) := by
  unfold gSorted
  simp only [true_or, if_true, ints_map]
theorem sum_l {o : Bool} {l : List Int} : gSum [.node o .lst (l.map .int)] = some (.int l.sum) := by
  unfold gSum
  simp only [true_or, if_true, ints_map, Option.map_some]
theorem list_l {o : Bool} {l : List Int} : gList [.node o .lst (l.map .int)] = some (LO l) := by
  unfold gList
  simp only [Kd.seq, fzs_ints, and_self, if_true]
theorem rev_l {o : Bool} {l : List Int} : gListRev [.node o .lst (l.map .int)] = some (LO l.reverse) := by
  unfold gListRev
  simp only [true_or, fzs_ints, and_self, if_true, LO, List.map_reverse]
theorem cat_l {o p : Bool} {l m : List Int} (h : l.length + m.length ≤ 16777216) : gAdd [.node o .lst (l.map .int), .node p .lst (m.map .int)] = some (LO (l ++ m)) := by
  unfold gAdd
  simp only [fzs_ints, Bool.and_self, List.length_map, h, and_self, if_true, LO, List.map_append]
theorem lc_ints {ρ : DL.Env} {tg : MG} {vs : List Nat} {mt : MT} {me : ME} {Q : Opn → DL.Env → Prop} {l : List Int} (f : Int → D) (p : Int → Bool) (ho : okOld vs ρ = true) (hl : l.length ≤ 16777216)
    (h : ∀ i ∈ l, ∃ ρ1, tg (.int i) (wipeE ρ vs) = some ρ1 ∧ wT mt (fun _ _ => False) (fun b ρ2 => b = p i ∧ (if b = true then wE me (fun _ _ => False) (kE fun d ρ' => d = f i ∧ wipeE ρ' vs = wipeE ρ vs) ρ2 else wipeE ρ2 vs = wipeE ρ vs)) ρ1)
    (q : Q (.val (.node true .lst ((l.filter p).map f))) ρ) : kLc tg vs mt me Q (l.map .int) ρ := by
  refine lc_pure (fun d => match d with | .int i => f i | d => d) (fun d => match d with | .int i => p i | _ => false) ho (by rw [List.length_map]; exact hl) (fun d hd => ?_) ?_
  · obtain ⟨i, hi, rfl⟩ := List.mem_map.mp hd
    exact h i hi
  · have : ∀ l : List Int, ((l.map D.int).filter (fun d => match d with | .int i => p i | _ => false)).map (fun d => match d with | .int i => f i | d => d) = (l.filter p).map f := by
      intro l
      induction l with
      | nil => rfl
      | cons i r ih =>
        rw [List.map_cons, List.filter_cons, List.filter_cons]
        cases e : p i with
        | true => simp only [e, if_true, List.map_cons, ih]
        | false => simp only [e, Bool.false_eq_true, if_false, ih]
    rw [this]
    exact q
theorem sort_len (l : List Int) : (sortI l).length = l.length := (sortI_perm l).length_eq
theorem isEmpty_map (l : List Int) : (l.map D.int).isEmpty = l.isEmpty := by cases l <;> rfl
theorem ite_or {c d P Q : Prop} [Decidable c] : (if c then P else Q) ↔ ((c → P) ∧ (¬ c → Q)) := by
  by_cases h : c <;> simp [h]
theorem py_ints : ∀ l : List Int, D.pys (l.map .int) = some (l.map PyData.int)
  | [] => by rw [List.map_nil, D.pys]; rfl
  | i :: r => by
    rw [List.map_cons, D.pys, py_ints r]
    simp only [D.py]
    rfl
theorem lay_ints : ∀ l : List Int, PyData.canLayAll0 (l.map PyData.int) = true
  | [] => by rw [List.map_nil, PyData.canLayAll0]
  | i :: r => by rw [List.map_cons, PyData.canLayAll0, PyData.canLay0, lay_ints r]; rfl
theorem dep_ints : ∀ l : List Int, PyData.depthAll (l.map PyData.int) = 0
  | [] => by rw [List.map_nil, PyData.depthAll]
  | i :: r => by rw [List.map_cons, PyData.depthAll, PyData.depth, dep_ints r]; rfl
theorem eqv_ints : ∀ a b : List Int, PyData.eqvAll (a.map PyData.int) (b.map PyData.int) = decide (a = b)
  | [], [] => by rw [List.map_nil, PyData.eqvAll]; rfl
  | i :: r, [] => by rw [List.map_nil, List.map_cons, PyData.eqvAll]; rfl
  | [], i :: r => by rw [List.map_nil, List.map_cons, PyData.eqvAll]; rfl
  | i :: r, j :: t => by
    rw [List.map_cons, List.map_cons, PyData.eqvAll, PyData.eqv, eqv_ints r t]
    by_cases h : i = j
    · simp [h]
    · simp [h]
theorem shaped_ints (l : List Int) : SeqAt.shaped (.list (l.map PyData.int)) = true := by
  unfold SeqAt.shaped
  rw [PyData.canLay0, PyData.depth, lay_ints, dep_ints]
  rfl
theorem eq_ints {o p : Bool} {a b : List Int} : gEq [.node o .lst (a.map .int), .node p .lst (b.map .int)] = some (.bl (decide (a = b))) := by
  show (D.eq (.node o .lst (a.map .int)) (.node p .lst (b.map .int))).map D.bl = _
  unfold D.eq
  simp only [D.py, py_ints, Option.map_some, shaped_ints, and_self, if_true]
  rw [PyData.eqv, eqv_ints]
theorem wF_ex {m : MF} {ds : List D} {c : Str} {ds' : List D} (h : wF m (fun x xs => x = c ∧ xs = ds') (fun _ _ => False) ds) : m ds = .ex c ds' := by
  unfold wF at h
  cases e : m ds with
  | ex a b => rw [e] at h; rw [h.1, h.2]
  | ok => rw [e] at h; exact h.elim
  | bad => rw [e] at h; exact h.elim
theorem wF_of' {m : MF} {X : Str → List D → Prop} {Q : D → List D → Prop} {ds : List D} {c : Str} {ds' : List D} (h : m ds = .ex c ds') (q : X c ds') : wF m X Q ds := by
  unfold wF
  rw [h]
  exact q
theorem gStr_i {i : Int} : gStr [.int i] = if i.natAbs.log2 < 1920 then some (.str (toString i)) else none := Eq.trans rfl rfl
theorem gAdd_ss {x y : Str} : gAdd [.str x, .str y] = if x.length + y.length ≤ 16777216 then some (.str (x ++ y)) else none := Eq.trans rfl rfl
theorem slL_ints {o : Bool} {l : List Int} {a : Int} (h0 : 0 ≤ a) : gSlL [.node o .lst (l.map .int), .int a] = some (LO (l.drop a.toNat)) := by
  unfold gSlL gSl
  simp only [fzs_ints, if_true]
  unfold cutD HT.sIx
  simp only [List.length_map]
  rw [if_neg (by omega)]
  by_cases ha : a.toNat ≤ l.length
  · rw [Nat.min_eq_left ha, List.take_of_length_le (by rw [List.length_drop, List.length_map]; omega)]
    simp only [LO, List.map_drop]
  · have e1 : l.drop a.toNat = [] := List.drop_eq_nil_of_le (by omega)
    have e2 : (l.map D.int).drop (min a.toNat l.length) = [] := List.drop_eq_nil_of_le (by rw [List.length_map]; omega)
    simp only [LO, e1, e2, List.take_nil, List.map_nil]
theorem slH_ints {o : Bool} {l : List Int} {a : Int} (h0 : 0 ≤ a) : gSlH [.node o .lst (l.map .int), .int a] = some (LO (l.take a.toNat)) := by
  unfold gSlH gSl
  simp only [fzs_ints, if_true]
  unfold cutD HT.sIx
  simp only [List.length_map, List.drop_zero, Nat.sub_zero]
  rw [if_neg (by omega)]
  by_cases ha : a.toNat ≤ l.length
  · rw [Nat.min_eq_left ha]
    simp only [LO, List.map_take]
  · rw [Nat.min_eq_right (by omega), List.take_of_length_le (by rw [List.length_map]; exact Nat.le_refl _), List.take_of_length_le (by omega)]
theorem sl_ints {o : Bool} {l : List Int} {a b : Int} (h0 : 0 ≤ a) (h1 : 0 ≤ b) (h2 : b ≤ l.length) : gSlB [.node o .lst (l.map .int), .int a, .int b] = some (LO ((l.drop a.toNat).take (b.toNat - a.toNat))) := by
  unfold gSlB gSl
  simp only [fzs_ints, if_true]
  unfold cutD HT.sIx
  simp only [List.length_map, List.map_take, List.map_drop]
  rw [if_neg (by omega), if_neg (by omega)]
  by_cases ha : a.toNat ≤ l.length
  · rw [Nat.min_eq_left ha, Nat.min_eq_left (by omega)]
    simp only [LO, List.map_take, List.map_drop]
  · have e1 : l.drop a.toNat = [] := List.drop_eq_nil_of_le (by omega)
    have e2 : (l.map D.int).drop (min a.toNat l.length) = [] := List.drop_eq_nil_of_le (by rw [List.length_map]; omega)
    simp only [LO, e1, e2, List.take_nil, List.map_nil]
theorem er_map : ∀ (l : List Int) (k : Nat), (l.map D.int).eraseIdx k = (l.eraseIdx k).map D.int
  | [], k => by simp
  | i :: r, 0 => rfl
  | i :: r, k + 1 => by
    rw [List.map_cons, List.eraseIdx_cons_succ, List.eraseIdx_cons_succ, List.map_cons, er_map r k]
theorem pop_ints {l : List Int} {i : Int} (h0 : 0 ≤ i) (h1 : i < l.length) (h2 : l.length ≤ 16777216) : gPop (l.map .int) [.int i] = some ((l.eraseIdx i.toNat).map .int, .int (at' l i)) := by
  have hl : i.toNat < l.length := by omega
  have hc : -(2 ^ 63) ≤ i ∧ i < 2 ^ 63 := by omega
  have e1 : seqIndex? i (l.map D.int).length = some i.toNat := by
    show (if (decide (0 ≤ (if i < 0 then i + ((l.map D.int).length : Int) else i)) && decide ((if i < 0 then i + ((l.map D.int).length : Int) else i) < ((l.map D.int).length : Int))) = true then some (if i < 0 then i + ((l.map D.int).length : Int) else i).toNat else none) = _
    rw [List.length_map, if_neg (by omega : ¬ i < 0), if_pos (by simp; omega)]
  have e2 : (l.map D.int)[i.toNat]? = some (.int (at' l i)) := by
    rw [List.getElem?_map, List.getElem?_eq_getElem hl]
    unfold at'
    rw [List.getD_eq_getElem?_getD, List.getElem?_eq_getElem hl]
    rfl
  show (if -(2 ^ 63) ≤ i ∧ i < 2 ^ 63 then (seqIndex? i (l.map D.int).length).bind fun k => ((l.map D.int)[k]?).map fun d => ((l.map D.int).eraseIdx k, d) else none) = _
  rw [if_pos hc, e1, Option.bind_some, e2, Option.map_some, er_map]
theorem wF_true {m : MF} {ds : List D} (h : wF m (fun _ _ => False) (fun d _ => d = .bl true) ds) : ∃ ds', m ds = .ok (.bl true) ds' := by
  unfold wF at h
  cases e : m ds with
  | ok d ds' => rw [e] at h; exact ⟨ds', by rw [h]⟩
  | ex => rw [e] at h; exact h.elim
  | bad => rw [e] at h; exact h.elim
theorem pick_l {p : D} {ds : List D} (hp : Pool p) (h0 : 0 < ds.length) (h1 : ds.length < 1073741824) (hz : D.fzs ds = true) {X : Str → List D → Prop} {Q : D → List D → Prop} (q : ∀ d p', d ∈ ds → d.fz = true → Pool p' → Q d [p', .node false .lst ds]) : wF m__law_pick X Q [p, .node false .lst ds] := pick_ok hp h0 h1 hz q
theorem wF_eq {m : MF} {X : Str → List D → Prop} {Q : D → List D → Prop} {ds : List D} {d : D} {ds' : List D} (h : m ds = .ok d ds') : wF m X Q ds = Q d ds' := by
  unfold wF
  rw [h]
theorem mul2 {P : Prop} : ((-(2 ^ 64) < (2 : Int) ∧ (2 : Int) < 2 ^ 64) ∨ P) = True := eq_true (.inl (by decide))
theorem mul10 {P : Prop} : ((-(2 ^ 64) < (10 : Int) ∧ (10 : Int) < 2 ^ 64) ∨ P) = True := eq_true (.inl (by decide))
theorem fzs_rev (l : List Int) : D.fzs (l.map .int).reverse = true := by
  rw [← List.map_reverse]
  exact fzs_ints _
theorem same_int {i : Int} : m__law_same 6 [.int i, .int i] = .ok (.bl true) [.int i, .int i] := same_ok 6 _ trivial
theorem same_bl {i : Bool} : m__law_same 6 [.bl i, .bl i] = .ok (.bl true) [.bl i, .bl i] := same_ok 6 _ trivial
theorem same_LI {l : List Int} (h : l.length < 16777216) : m__law_same 6 [LI l, LI l] = .ok (.bl true) [LI l, LI l] := same_ok 6 _ ⟨fzs_ints l, by rw [List.length_map]; exact h, fun x hx => by
  obtain ⟨i, _, rfl⟩ := List.mem_map.mp hx
  trivial⟩
theorem same_tup {i j : Int} : m__law_same 6 [.node false .tup [.int i, .int j], .node false .tup [.int i, .int j]] = .ok (.bl true) [.node false .tup [.int i, .int j], .node false .tup [.int i, .int j]] := same_ok 6 _ ⟨rfl, (by show 2 < 16777216; decide), fun x hx => by
  simp at hx
  rcases hx with rfl | rfl <;> trivial⟩
theorem min_l {o : Bool} {l : List Int} : gMin [.node o .lst (l.map .int)] = (minI l).map .int := by
  unfold gMin
  simp only [true_or, if_true, ints_map, Option.bind_some]
theorem max_l {o : Bool} {l : List Int} : gMax [.node o .lst (l.map .int)] = (maxI l).map .int := by
  unfold gMax
  simp only [true_or, if_true, ints_map, Option.bind_some]
theorem at_rng {a i : Int} {n : Nat} (h0 : 0 ≤ i) (h1 : i < n) : at' (rngI a n) i = a + i := by
  unfold at' rngI
  rw [List.getD_eq_getElem?_getD, List.getElem?_map, List.getElem?_range (by omega)]
  show a + ((i.toNat : Nat) : Int) = a + i
  omega
theorem rng_len {a : Int} {n : Nat} : (rngI a n).length = n := by
  unfold rngI
  simp
theorem at_map {l : List Int} {f : Int → Int} {i : Int} (h0 : 0 ≤ i) (h1 : i < l.length) : at' (l.map f) i = f (at' l i) := by
  have hl : i.toNat < l.length := by omega
  unfold at'
  rw [List.getD_eq_getElem?_getD, List.getD_eq_getElem?_getD, List.getElem?_map, List.getElem?_eq_getElem hl]
  rfl
theorem draw_n {p : D} {m : Int} (hp : Pool p) (hm : 0 < m) (hm2 : m < 1073741824) {X : Str → List D → Prop} {Q : D → List D → Prop} (q : ∀ (r : Nat) p', (r : Int) < m → Pool p' → Q (.int (r : Int)) [p', .int m]) : wF m__law_draw X Q [p, .int m] :=
  draw_ok hp hm hm2 fun r p' r0 r1 hp' => by
    have e : r = ((r.toNat : Nat) : Int) := by omega
    rw [e] at r1 ⊢
    exact q _ _ r1 hp'
theorem loop_rule {mb : MS} {E : En} {ρ : DL.Env} (I : Nat → DL.Env → Prop) (n : Nat) (hn : n < 1000000000) (h0 : I n ρ) (h : ∀ n ρ, I n ρ → ∀ M, M = mb → wS M { nx := fun ρ2 => ∃ m, m < n ∧ I m ρ2, ct := fun ρ2 => ∃ m, m < n ∧ I m ρ2, bk := E.nx, rt := E.rt, ex := E.ex } ρ) : wS (mLoop mb) E ρ := by
  unfold mLoop
  refine while_rule I n hn h0 fun k ρ1 hI => ?_
  have := h k ρ1 hI _ rfl
  dsimp? only [if_true]
  exact this
/-- a kept statement: it is not run by looking at the goal -/
@[irreducible] def wSm (mb : MS) (E : En) (ρ : DL.Env) : Prop := wS mb E ρ
theorem mk_if {c : MT} {a b : MS} {E : En} {ρ : DL.Env} : wS (mIfS c a b) E ρ = wSm (mIfS c a b) E ρ := by unfold wSm; rfl
theorem mk_seq {a b : MS} {E : En} {ρ : DL.Env} : wS (mSeq a b) E ρ = wSm (mSeq a b) E ρ := by unfold wSm; rfl
theorem mk_set {i : Nat} {m : ME} {E : En} {ρ : DL.Env} : wS (mSet i m) E ρ = wSm (mSet i m) E ρ := by unfold wSm; rfl
/-- a statement, and what goes on behind it, each by itself -/
theorem cut_nx {mb : MS} {E : En} {ρ : DL.Env} (P : DL.Env → Prop) (h1 : wS mb { E with nx := P } ρ) (h2 : ∀ ρ', P ρ' → ∀ K, K = E.nx → K ρ') : wSm mb E ρ := by
  unfold wSm
  unfold wS at h1 ⊢
  cases e : mb ρ with
  | nx ρ1 => rw [e] at h1; exact h2 _ h1 _ rfl
  | rt d ρ1 => rw [e] at h1; exact h1
  | bk ρ1 => rw [e] at h1; exact h1
  | ct ρ1 => rw [e] at h1; exact h1
  | ex c ρ1 => rw [e] at h1; exact h1
  | bad => rw [e] at h1; exact h1
/-- a call's result, of a def that is not looked into -/
theorem wF_get {m : MF} {ds : List D} {P : D → Prop} (h : wF m (fun _ _ => False) (fun d ds' => P d ∧ ds' = ds) ds) : ∃ d, P d ∧ m ds = .ok d ds := by
  unfold wF at h
  cases e : m ds with
  | ok d ds' => rw [e] at h; exact ⟨d, h.1, by rw [h.2]⟩
  | ex => rw [e] at h; exact h.elim
  | bad => rw [e] at h; exact h.elim
end Law

namespace Law
open PySem PySem.Spec L2 DL
/-! ## lists of texts -/
abbrev LS (o : Bool) (l : List Str) : D := .node o .lst (l.map .str)
theorem fzs_strs : ∀ l : List Str, D.fzs (l.map .str) = true
  | [] => rfl
  | s :: r => by rw [List.map_cons, D.fzs, fzs_strs r]; rfl
theorem frzs_strs : ∀ l : List Str, D.frzs (l.map .str) = l.map .str
  | [] => rfl
  | s :: r => by rw [List.map_cons, D.frzs, frzs_strs r]; rfl
theorem clos_strs : ∀ l : List Str, D.clos (l.map .str) = true
  | [] => rfl
  | s :: r => by rw [List.map_cons, D.clos, clos_strs r]; rfl
theorem noxs_strs : ∀ l : List Str, D.noxs (l.map .str) = true
  | [] => rfl
  | s :: r => by rw [List.map_cons, D.noxs, noxs_strs r]; rfl
theorem py_strs : ∀ l : List Str, D.pys (l.map .str) = some (l.map PyData.str)
  | [] => by rw [List.map_nil, D.pys]; rfl
  | i :: r => by
    rw [List.map_cons, D.pys, py_strs r]
    simp only [D.py]
    rfl
/-- signs that there are -/
def Lw (s : Str) : Prop := ∀ c ∈ s.cps.toList, c < 1114112
abbrev Lws (l : List Str) : Prop := ∀ s ∈ l, Lw s
theorem strOk_of {s : Str} (h : Lw s) : PyData.strOk s = true := by
  unfold PyData.strOk
  rw [← Array.all_toList, List.all_eq_true]
  exact fun c hc => decide_eq_true (h c hc)
theorem lay_strs : ∀ {l : List Str}, Lws l → PyData.canLayAll0 (l.map PyData.str) = true
  | [], _ => by rw [List.map_nil, PyData.canLayAll0]
  | i :: r, h => by rw [List.map_cons, PyData.canLayAll0, PyData.canLay0, lay_strs fun s hs => h s (List.mem_cons_of_mem _ hs), strOk_of (h i List.mem_cons_self)]; rfl
theorem dep_strs : ∀ l : List Str, PyData.depthAll (l.map PyData.str) = 0
  | [] => by rw [List.map_nil, PyData.depthAll]
  | i :: r => by rw [List.map_cons, PyData.depthAll, PyData.depth, dep_strs r]; rfl
theorem eqv_strs : ∀ a b : List Str, PyData.eqvAll (a.map PyData.str) (b.map PyData.str) = decide (a = b)
  | [], [] => by rw [List.map_nil, PyData.eqvAll]; rfl
  | i :: r, [] => by rw [List.map_nil, List.map_cons, PyData.eqvAll]; rfl
  | [], i :: r => by rw [List.map_nil, List.map_cons, PyData.eqvAll]; rfl
  | i :: r, j :: t => by
    rw [List.map_cons, List.map_cons, PyData.eqvAll, PyData.eqv, eqv_strs r t]
    by_cases h : i = j
    · simp [h]
    · simp [h]
theorem shaped_strs {l : List Str} (h : Lws l) : SeqAt.shaped (.list (l.map PyData.str)) = true := by
  unfold SeqAt.shaped
  rw [PyData.canLay0, PyData.depth, lay_strs h, dep_strs]
  rfl
theorem eq_strs {o p : Bool} {a b : List Str} (ha : Lws a) (hb : Lws b) : gEq [.node o .lst (a.map .str), .node p .lst (b.map .str)] = some (.bl (decide (a = b))) := by
  show (D.eq (.node o .lst (a.map .str)) (.node p .lst (b.map .str))).map D.bl = _
  unfold D.eq
  simp only [D.py, py_strs, Option.map_some, shaped_strs ha, shaped_strs hb, and_self, if_true]
  rw [PyData.eqv, eqv_strs]
theorem ne_strs {o p : Bool} {a b : List Str} (ha : Lws a) (hb : Lws b) : gNe [.node o .lst (a.map .str), .node p .lst (b.map .str)] = some (.bl (!decide (a = b))) := by
  show (D.eq (.node o .lst (a.map .str)) (.node p .lst (b.map .str))).map _ = _
  unfold D.eq
  simp only [D.py, py_strs, Option.map_some, shaped_strs ha, shaped_strs hb, and_self, if_true]
  rw [PyData.eqv, eqv_strs]
theorem inF_strs (s : Str) (l : List Str) : D.inF (.str s) (l.map .str) = decide (s ∈ l) := by
  unfold D.inF
  rw [List.any_map, Bool.eq_iff_iff, List.any_eq_true, decide_eq_true_eq]
  constructor
  · rintro ⟨x, hx, h⟩
    have : x = s := by simpa [D.eqF] using h
    exact this ▸ hx
  · exact fun h => ⟨s, h, by simp [D.eqF]⟩
theorem in_strs {o : Bool} {s : Str} {l : List Str} : gInX [.str s, .node o .lst (l.map .str)] = some (.bl (decide (s ∈ l))) := by
  have h0 : gIn [.str s, .node o .lst (l.map .str)] = some (.bl (decide (s ∈ l))) := by
    have hf : (l.map D.str).all D.flat = true := by
      rw [List.all_map, List.all_eq_true]
      exact fun _ _ => rfl
    unfold gIn
    simp only
    rw [if_pos ⟨rfl, rfl, hf⟩, inF_strs]
  unfold gInX
  rw [h0]
theorem notIn_strs {o : Bool} {s : Str} {l : List Str} : gNotInX [.str s, .node o .lst (l.map .str)] = some (.bl (!decide (s ∈ l))) := by
  unfold gNotInX
  rw [in_strs]
theorem pyD_str (s : Str) : pyD (.str s) = .str s := rfl
theorem cmp_strs (l : List Str) : cmpOk (l.map .str) = true := by
  refine cmpOk_of (fun d hd => ?_) (fun a ha b hb => ?_) (.inr fun d hd => ?_) fun d hd => ?_
  · obtain ⟨s, _, rfl⟩ := List.mem_map.mp hd; exact ⟨rfl, rfl⟩
  · obtain ⟨s, _, rfl⟩ := List.mem_map.mp ha; obtain ⟨t, _, rfl⟩ := List.mem_map.mp hb
    simp [pyD_str, PySem.W.alike]
  · obtain ⟨s, _, rfl⟩ := List.mem_map.mp hd; exact ⟨rfl, rfl⟩
  · obtain ⟨s, _, rfl⟩ := List.mem_map.mp hd; simp [pyD_str, PyData.depth]
theorem leD_strs : (fun a b : Str => leD (.str a) (.str b)) = leS := by
  funext a b
  exact leK_str a b
theorem sorted_strs {o : Bool} {l : List Str} : gSortedX [.node o .lst (l.map .str)] = some (LS true (sortS l)) := by
  obtain ⟨s, h1, h2, h3⟩ := sortedX_l (f := D.str) (l := l) (o := o) (cmp_strs l) (fun a _ => rfl)
  rw [h2]
  have h4 : s.Pairwise fun a b => leS a b = true := h3.imp fun {a b} h => (congrFun (congrFun leD_strs a) b).symm.trans h
  rw [show s = sortS l from sorted_one leS leS_anti (h1.trans (sortS_perm l).symm) h4 (sortS_pw l)]
theorem ix_strs {l : List Str} {i : Nat} {s : Str} (h : l[i]? = some s) : ixD (l.map .str) (i : Int) = some (.str s) := by
  refine ixD_at (by omega) ?_ rfl
  rw [Int.toNat_natCast, List.getElem?_map, h]
  rfl
theorem slH_d {o : Bool} {ds : List D} {a : Nat} (hz : D.fzs ds = true) : gSlH [.node o .lst ds, .int (a : Int)] = some (.node true .lst (ds.take a)) := by
  unfold gSlH gSl
  simp only [hz, if_true]
  unfold cutD HT.sIx
  simp only [List.drop_zero, Nat.sub_zero]
  rw [if_neg (by omega), Int.toNat_natCast]
  by_cases ha : a ≤ ds.length
  · rw [Nat.min_eq_left ha]
  · rw [Nat.min_eq_right (by omega), List.take_of_length_le (Nat.le_refl _), List.take_of_length_le (by omega)]
theorem slL_d {o : Bool} {ds : List D} {a : Nat} (hz : D.fzs ds = true) : gSlL [.node o .lst ds, .int (a : Int)] = some (.node true .lst (ds.drop a)) := by
  unfold gSlL gSl
  simp only [hz, if_true]
  unfold cutD HT.sIx
  simp only
  rw [if_neg (by omega), Int.toNat_natCast]
  by_cases ha : a ≤ ds.length
  · rw [Nat.min_eq_left ha, List.take_of_length_le (by rw [List.length_drop]; omega)]
  · have e1 : ds.drop a = [] := List.drop_eq_nil_of_le (by omega)
    have e2 : ds.drop (min a ds.length) = [] := List.drop_eq_nil_of_le (by omega)
    rw [e1, e2, List.take_nil]
theorem cutS_len (z : Str) (a b : Option Int) : (cutS z a b).length ≤ z.length := by
  show ((z.cps.toList.drop _).take _).toArray.size ≤ z.cps.size
  rw [List.size_toArray, List.length_take, List.length_drop, Array.length_toList]
  omega
theorem list_d {o : Bool} {ds : List D} (hz : D.fzs ds = true) : gList [.node o .lst ds] = some (.node true .lst ds) := by
  unfold gList
  simp only
  rw [if_pos ⟨rfl, hz⟩]
theorem cat_d {o p : Bool} {a b : List D} (ha : D.fzs a = true) (hb : D.fzs b = true) (h : a.length + b.length ≤ 16777216) : gAdd [.node o .lst a, .node p .lst b] = some (.node true .lst (a ++ b)) := by
  unfold gAdd
  simp only [ha, hb, Bool.and_self, h, and_self, if_true]
theorem alike_strs : ∀ a b : List Str, PySem.W.alikeAll (a.map .str) (b.map .str) = true
  | [], _ => by rw [List.map_nil, PySem.W.alikeAll]
  | _ :: _, [] => by rw [List.map_nil, List.map_cons, PySem.W.alikeAll]
  | x :: xs, y :: ys => by rw [List.map_cons, List.map_cons, PySem.W.alikeAll, PySem.W.alike, alike_strs xs ys]; rfl
/-- the letters -/
abbrev abc : Str := "abcdefghijklmnopqrstuvwxyz"
def ch (n : Nat) : Str := ⟨#[97 + n]⟩
theorem let_at {i : Int} (h0 : 0 ≤ i) (h1 : i < 26) : gIx [.str abc, .int i] = some (.str (ch i.toNat)) := by
  have : ∀ k : _root_.Fin 26, abc.length ≤ 16777216 ∧ atI abc.cps.toList ((k : Nat) : Int) = some (97 + (k : Nat)) := by decide +kernel
  obtain ⟨e1, e2⟩ := this ⟨i.toNat, by omega⟩
  simp only at e2
  rw [show ((i.toNat : Nat) : Int) = i by omega] at e2
  show (if abc.length ≤ 16777216 then (atI abc.cps.toList i).map fun c => D.str ⟨#[c]⟩ else none) = _
  rw [if_pos e1, e2]
  rfl
theorem ch_lw {n : Nat} (h : n < 26) : Lw (ch n) := fun c hc => by
  have : c = 97 + n := by simpa [ch] using hc
  omega
theorem app_lw {a b : Str} (ha : Lw a) (hb : Lw b) : Lw (a ++ b) := fun c hc => by
  have : c ∈ a.cps.toList ++ b.cps.toList := by
    have e : (a ++ b).cps.toList = a.cps.toList ++ b.cps.toList := Array.toList_append
    rwa [e] at hc
  exact (List.mem_append.mp this).elim (ha c) (hb c)
theorem cut_lw {z : Str} {a b : Option Int} (h : Lw z) : Lw (cutS z a b) := fun c hc => h c (List.mem_of_mem_drop (List.mem_of_mem_take (by simpa [cutS] using hc)))
theorem join_lw {l : List Str} (h : Lws l) : Lw (PySem.Txt.join (PySem.Str.ofString "") l) := fun c hc => by
  have e : PySem.Txt.join (PySem.Str.ofString "") l = Str.join (PySem.Str.ofString "") l := StrLaws.glued_eq_join _ _
  rw [e, PyProof.Rows.mem_join] at hc
  rcases hc with ⟨t, ht, h1⟩ | ⟨_, h1⟩
  · exact h t ht c h1
  · have e2 : (PySem.Str.ofString "").cps.toList = [] := by decide +kernel
    rw [e2] at h1
    cases h1
theorem wF_tab {m : MF} {X : Str → List D → Prop} {Q : D → List D → Prop} {ds : List D} (d : D) (h : (m ds).okb d ds = true) (q : Q d ds) : wF m X Q ds := wF_of (RF.okb_eq h) q
theorem wT_mono {m : MT} {X : XP} {ρ : DL.Env} {Q Q' : Bool → DL.Env → Prop} (h : DL.wT m X Q ρ) (k : ∀ o ρ1, Q o ρ1 → Q' o ρ1) : DL.wT m X Q' ρ := by
  unfold DL.wT at h ⊢
  cases e : m ρ with
  | ok o ρ1 => rw [e] at h; exact k _ _ h
  | ex c ρ1 => rw [e] at h; exact h
  | bad => rw [e] at h; exact h
theorem lc_map {α : Type} {ρ : DL.Env} {tg : MG} {vs : List Nat} {mt : MT} {me : ME} {Q : Opn → DL.Env → Prop} {l : List α} {emb : α → D} (f : α → D) (p : α → Bool) (ho : okOld vs ρ = true) (hl : l.length ≤ 16777216)
    (h : ∀ a ∈ l, ∃ ρ1, tg (emb a) (wipeE ρ vs) = some ρ1 ∧ wT mt (fun _ _ => False) (fun b ρ2 => b = p a ∧ (if b = true then wE me (fun _ _ => False) (kE fun d ρ' => d = f a ∧ wipeE ρ' vs = wipeE ρ vs) ρ2 else wipeE ρ2 vs = wipeE ρ vs)) ρ1)
    (q : Q (.val (.node true .lst ((l.filter p).map f))) ρ) : kLc tg vs mt me Q (l.map emb) ρ := by
  refine lc_inv (fun i acc ρw => acc = ((l.take i).filter p).map f ∧ ρw = wipeE ρ vs) ho (by rw [List.length_map]; exact hl) ⟨by simp, rfl⟩ (fun i d acc ρw hi hJ => ?_) (fun acc ρw hJ => ?_)
  · obtain ⟨rfl, rfl⟩ := hJ
    rw [List.getElem?_map] at hi
    cases ea : l[i]? with
    | none => rw [ea] at hi; cases hi
    | some a =>
      rw [ea] at hi
      cases hi
      have hil := (List.getElem?_eq_some_iff.mp ea).1
      have hia := (List.getElem?_eq_some_iff.mp ea).2
      obtain ⟨ρ1, e1, h1⟩ := h a (by rw [← hia]; exact List.getElem_mem hil)
      have tk : l.take (i + 1) = l.take i ++ [a] := by rw [← hia, List.take_succ_eq_append_getElem hil]
      refine ⟨ρ1, e1, wT_mono h1 fun b ρ2 h2 => ?_⟩
      obtain ⟨hb, h2⟩ := h2
      cases b with
      | false =>
        simp only [Bool.false_eq_true, if_false] at h2 ⊢
        refine ⟨?_, h2⟩
        rw [tk, List.filter_append, List.map_append]
        simp [← hb]
      | true =>
        simp only [if_true] at h2 ⊢
        refine wE_mono h2 fun o ρ3 h3 => ?_
        unfold kE at h3
        cases e4 : esc o ρ3 with
        | none => rw [e4] at h3; exact h3
        | some x =>
          rw [e4] at h3
          refine ⟨?_, h3.2⟩
          rw [tk, List.filter_append, List.map_append]
          simp [← hb, h3.1]
  · obtain ⟨rfl, rfl⟩ := hJ
    rw [List.length_map, List.take_length, (restE_w (ρ2 := ρ)).symm.trans (restE_wipe rfl)]
    exact q
end Law

namespace Law
open PySem PySem.Spec L2 DL
local macro_rules | `(tactic| dsimp? only [$ls,*]) => `(tactic| simp only [wE_sortS, wS_fzS, kFz_eq, wE_lcV, gLtX_i, gLtX_s, pQ_v, wE_lcX, wI_rng3, kR3_int, kR3b_int, kR3c_int, wE_ch3, kC3a_eq, kC3b_vv, kC3c_bl, wI_revS, kRv_str, items_str, wS_par, kPar_eq, kPar2_some, wS_asg, kAg_eq, kAg1_some, kAg2_some, tgsCons_c, tgK_some, tgsNil_n, tgTup_t, tgName_e, wE_methA, kMethA_eq, wE_lenS, wI_rng2, kR2_eq, kR2b_int, wF_fn, wS_seq, wS_set, wS_if, wS_expr, wS_ret, wS_retN, wS_next, wS_break, wS_cont, wS_raise, wS_forK, wE_int, wE_str, wE_bl, wE_non, wE_V, wE_op, wE_if, wE_and, wE_or, wE_not, wE_isI, wE_isI2, wE_call, wE_disp, wE_ck, wE_lcK, wE_chI, wE_lift, wE_app, wE_meth, kMeth_eq, kMe_l, kMr_some, wS_try, wE_isE, kIsE_s, kSuN_eq, kSuR_eq, noxE_nil, noxE_cons, noxO_n, noxO_s, nox_non, nox_bl, nox_int, nox_str, nox_lst, nox_tup, noxs_nil, noxs_cons, noxs_ints, wA_nil, wA_cons, wT_B, wT_tru, wT_not, wT_and, wT_or, wT_yes, wI_items, wI_rng1, kE_val, kE_slot, kES_some, items_l, items_t, wipe_n, wipe_c, frzs_ints, fzs_ints, clos_ints, qC_if, xC_eq, qC0_eq, xC0_eq, clos_nil, clos_cons, kV_some, pick_non, pick_bl, pick_int, pick_str, pick_node, kCons_eq, kCons2_eq, kOp_eq, kOpD_some, kOpR_some, kOpR_if, kB_eq, kTru_eq, kTruD_some, kTruB_some, kNot_eq, kIte_eq, kT_eq, kAnd_eq, kOr_eq, kNotV_eq, kIs_eq, kIsD_some, kIsT_some, kSt_val, kSt_slot, kStS_some, kNx_eq, kRt_val, kRt_slot, kRtS_some, kRs_eq, kCkO_eq, kCk_int, kIt_val, kIt_slot, kItS_some, kItD_some, kR1_int, kCall_N, kCN_some, kCall_0h, kC0_some, restE_nil, restE_cons, rsO_t, rsO_f, kDisp_eq, kDs_some, kOut_eq, kOutX_eq, kOO_some, kOX_some, kCh_val, kChD_int, kChE_int, kChF_int, kLiftO_some, kApp_val, kAppO_l, isLst_l, slotOf_0, slotOf_S, vw_val, vw_slot, vws_nil, vws_cons, vwsO_nil, vwsO_cons, vwsK_some, frz_non, frz_bl, frz_int, frz_str, frz_node, tr_non, tr_bl, tr_int, tr_lst, tr_tup, tr_ro, ty_non, ty_bl, ty_int, ty_str, ty_lst, ty_tup, is1_eq, is2_eq, sv_non, sv_bl, sv_int, sv_str, sv_node, fz_non, fz_bl, fz_int, fz_str, fz_node, clo_non, clo_bl, clo_int, clo_str, clo_node, isN_non, isN_bl, isN_int, isN_str, isN_node, isB_non, isB_bl, isB_int, isB_str, isB_node, frzs_nil, frzs_cons, fzs_nil, fzs_cons, tyIs_non_bool, tyIs_non_int, tyIs_non_str, tyIs_non_list, tyIs_non_tuple, tyIs_bool_bool, tyIs_bool_int, tyIs_bool_str, tyIs_bool_list, tyIs_bool_tuple, tyIs_int_bool, tyIs_int_int, tyIs_int_str, tyIs_int_list, tyIs_int_tuple, tyIs_str_bool, tyIs_str_int, tyIs_str_str, tyIs_str_list, tyIs_str_tuple, tyIs_list_bool, tyIs_list_int, tyIs_list_str, tyIs_list_list, tyIs_list_tuple, tyIs_tuple_bool, tyIs_tuple_int, tyIs_tuple_str, tyIs_tuple_list, tyIs_tuple_tuple, List.set_cons_zero, List.set_cons_succ, List.map_cons, List.map_nil, List.cons_append, List.nil_append, List.append_nil, List.length_cons, List.length_nil, List.replicate, gSub_ii, gMod_ii, gDiv_ii, gXor_ii, gAdd_ii, gMul_ii, gNeg_i, gEq_ii, gNe_ii, gEq_bb, gNe_bb, gEq_ss, gNe_ss, gLt_ii, gLe_ii, gGt_ii, gGe_ii, gInt_i, gAbs_i, gLen_l, gLen_t, gLen_r, gIsN_n, gNotN_n, gIsB_b, gNotB_b, gIx_l, gIx_t, gIx_r, wS_setIx, kSx_val, kSx1_s, kSxS_some, kSx2_l, kSxK_some, qVar_eq, pC_eq, at_nil, put_nil, argsD_nil, argsD_val, argsD_slotN, argsD_slot0, argsD_slot1, asO_some, asF_some, slotsOf_nil, slotsOf_val, slotsOf_slotN, slotsOf_slot1, frzS_nil, frzS_cons, frzE_nil, frzE_cons, frzO_f, frzO_n, frzO_t, argsOut_nil, argsOut_0, aoK_some, Option.map_some, Option.map_none, Option.some.injEq, List.contains_nil, Bool.false_eq_true, if_true, if_false, reduceCtorEq, eq_self, Bool.not_true, Bool.not_false, Bool.or_true, Bool.true_or, Bool.or_false, Bool.false_or, Bool.and_true, Bool.true_and, Bool.and_false, Bool.false_and, decide_eq_true_eq, Option.isSome_some, true_and, and_true, Nat.reduceBEq, Nat.reduceEqDiff, Nat.reduceLT, Nat.reduceAdd, Nat.reduceSub, Nat.reduceLeDiff, Int.reduceLT, Int.reduceLE, Int.reduceEq, Int.reduceNeg, Int.reduceToNat, decide_true, decide_false, Bool.not_eq_true, Bool.not_eq_false, List.getElem?_cons_zero, List.getElem?_cons_succ, List.contains_cons, Nat.zero_add, $ls,*])
/-! ## names that are drawn -/
abbrev iN (n : Nat) : D := .int (n : Int)
theorem rng_nat {n : Nat} : (rngI 0 n).map D.int = (List.range n).map iN := by
  unfold rngI
  rw [List.map_map]
  refine List.map_congr_left fun i _ => ?_
  show D.int (0 + (i : Int)) = _
  rw [Int.zero_add]
theorem rng_nat_get {n i : Nat} {d : D} (h : ((rngI 0 n).map D.int)[i]? = some d) : i < n ∧ d = .int (0 + (i : Int)) := by
  rw [List.getElem?_map] at h
  unfold rngI at h
  rw [List.getElem?_map] at h
  by_cases hi : i < n
  · rw [List.getElem?_range hi] at h
    cases h
    exact ⟨hi, rfl⟩
  · rw [List.getElem?_eq_none (by rw [List.length_range]; omega)] at h
    cases h
theorem nodup_on {α β : Type} {f : α → β} : ∀ {l : List α}, (∀ a ∈ l, ∀ b ∈ l, f a = f b → a = b) → l.Nodup → (l.map f).Nodup
  | [], _, _ => .nil
  | a :: r, h, nd => by
    rw [List.nodup_cons] at nd
    rw [List.map_cons, List.nodup_cons]
    refine ⟨fun q => ?_, nodup_on (fun x hx y hy => h x (List.mem_cons_of_mem _ hx) y (List.mem_cons_of_mem _ hy)) nd.2⟩
    obtain ⟨b, hb, e⟩ := List.mem_map.mp q
    exact nd.1 (h b (List.mem_cons_of_mem _ hb) a List.mem_cons_self e ▸ hb)
/-- one sign, or two like ones stand side by side -/
def Dn (s : Str) : Prop := (∃ n, s = ch n) ∨ ∃ (a b : List Nat) (c : Nat), s.cps.toList = a ++ c :: c :: b
structure Nms (l : List Str) : Prop where
  nd : l.Nodup
  lw : Lws l
  dn : ∀ s ∈ l, Dn s ∧ s.length ≤ 12
def nm (s1 s2 : Str) (f : Int) (k : Nat) : Str := (s1 ++ (ch ((f + k) % 26).toNat ++ ch ((f + k) % 26).toNat)) ++ s2
theorem ch_inj {a b : Nat} (h : ch a = ch b) : a = b := by
  have := congrArg (fun s => s.cps.toList) h
  simp [ch] at this
  omega
theorem app_cps (a b : Str) : (a ++ b).cps.toList = a.cps.toList ++ b.cps.toList := Array.toList_append
theorem nm_inj {s1 s2 : Str} {f : Int} {i j : Nat} (h : nm s1 s2 f i = nm s1 s2 f j) (hi : i < 26) (hj : j < 26) : i = j := by
  have := congrArg (fun s => s.cps.toList) h
  unfold nm at this
  simp only [app_cps, List.append_cancel_right_eq, List.append_cancel_left_eq] at this
  simp [ch] at this
  omega
theorem nm_dn {s1 s2 : Str} {f : Int} {i : Nat} : Dn (nm s1 s2 f i) := .inr ⟨s1.cps.toList, s2.cps.toList, 97 + ((f + i) % 26).toNat, by
  unfold nm
  simp only [app_cps]
  simp [ch]⟩
theorem nms_1 {f : Int} {m : Nat} (hm : m ≤ 26) : Nms ((List.range m).map fun (k : Nat) => ch ((f + (k : Int)) % 26).toNat) where
  nd := by
    refine nodup_on (fun a ha b hb e => ?_) List.nodup_range
    have := ch_inj e
    have := List.mem_range.mp ha
    have := List.mem_range.mp hb
    omega
  lw := fun s hs => by
    obtain ⟨k, _, rfl⟩ := List.mem_map.mp hs
    exact ch_lw (by omega)
  dn := fun s hs => by
    obtain ⟨k, _, rfl⟩ := List.mem_map.mp hs
    exact ⟨.inl ⟨_, rfl⟩, by show 1 ≤ 12; decide⟩
theorem nms_2 {s1 s2 : Str} {f : Int} {m : Nat} (hm : m ≤ 26) (h1 : Lw s1) (h2 : Lw s2) (hl : s1.length + s2.length ≤ 10) : Nms ((List.range m).map (nm s1 s2 f)) where
  nd := by
    refine nodup_on (fun a ha b hb e => ?_) List.nodup_range
    exact nm_inj e (Nat.lt_of_lt_of_le (List.mem_range.mp ha) hm) (Nat.lt_of_lt_of_le (List.mem_range.mp hb) hm)
  lw := fun s hs => by
    obtain ⟨k, _, rfl⟩ := List.mem_map.mp hs
    exact app_lw (app_lw h1 (app_lw (ch_lw (by omega)) (ch_lw (by omega)))) h2
  dn := fun s hs => by
    obtain ⟨k, _, rfl⟩ := List.mem_map.mp hs
    refine ⟨nm_dn, ?_⟩
    unfold nm
    rw [PySem.Str.length_append, PySem.Str.length_append, PySem.Str.length_append]
    have : ∀ n, (ch n).length = 1 := fun _ => rfl
    rw [this]
    omega
theorem sum_ones : ∀ {l : List Str}, (∀ s ∈ l, s.length = 1) → (l.map (·.length)).sum = l.length
  | [], _ => rfl
  | s :: r, h => by
    rw [List.map_cons, List.sum_cons, h s List.mem_cons_self, sum_ones fun x hx => h x (List.mem_cons_of_mem _ hx), List.length_cons]
    omega
theorem join_l {o : Bool} {l : List Str} (h : ∀ s ∈ l, s.length = 1) (hl : l.length ≤ 16777216) : gJoin "" [.node o .lst (l.map .str)] = some (.str (PySem.Txt.join (PySem.Str.ofString "") l)) := by
  have e : (PySem.Str.ofString "").length = 0 := by decide +kernel
  unfold gJoin
  simp only [D.strs?_map]
  rw [sum_ones h, e, Nat.mul_zero, if_pos (by omega)]
theorem app_str {l : List Str} {s : Str} (h : l.length < 1000000) : gAppend (l.map .str) [.str s] = some ((l ++ [s]).map .str, .non) := by
  unfold gAppend
  simp only [List.length_map]
  rw [if_pos (by refine ⟨rfl, ?_⟩; omega), List.map_append]
  rfl
theorem mul0 {P : Prop} : ((-(2 ^ 64) < (0 : Int) ∧ (0 : Int) < 2 ^ 64) ∨ P) = True := eq_true (.inl (by decide))
theorem names_ok {p : D} {m : Nat} (hp : Pool p) (hm : m ≤ 26) {X : Str → List D → Prop} {Q : D → List D → Prop} (q : ∀ (l : List Str) p', Nms l → l.length = m → Pool p' → Q (LS true l) [p', iN m]) : wF m__law_names X Q [p, iN m] := by
  unfold m__law_names
  have kp := @pick_pool p hp
  dsimp? only [kp]
  refine draw_n hp (by decide) (by decide) fun f p1 hf hp1 => ?_
  have kp1 := @pick_pool p1 hp1
  have hm26 : (m : Int) ≤ 26 := by omega
  dsimp? only [kp1, hm26]
  refine draw_n hp1 (by decide) (by decide) fun t p2 ht hp2 => ?_
  have kp2 := @pick_pool p2 hp2
  dsimp? only [kp2]
  split
  · refine ⟨by omega, ?_⟩
    rw [Int.toNat_natCast]
    refine lc_ints (fun k => .str (ch ((f + k) % 26).toNat)) (fun _ => true) (by rfl) (by rw [rng_len]; omega) (fun k hk => ⟨_, rfl, ?_⟩) ?_
    · have hx := @let_at ((f + k) % 26) (by omega) (by omega)
      dsimp? only [hx]
    · have e : ((rngI 0 m).filter fun _ => true).map (fun k => D.str (ch (((f : Int) + k) % 26).toNat)) = ((List.range m).map fun (k : Nat) => ch (((f : Int) + (k : Int)) % 26).toNat).map .str := by
        rw [List.filter_eq_self.mpr fun _ _ => rfl, List.map_map]
        unfold rngI
        rw [List.map_map]
        refine List.map_congr_left fun k _ => ?_
        show D.str (ch (((f : Int) + (0 + (k : Int))) % 26).toNat) = _
        rw [Int.zero_add]
        rfl
      rw [e]
      dsimp? only [kp2]
      exact q _ _ (nms_1 hm) (by rw [List.length_map, List.length_range]) hp2
  · refine draw_n hp2 (by decide) (by decide) fun n p3 hn hp3 => ?_
    have kp3 := @pick_pool p3 hp3
    dsimp? only [kp3]
    refine ⟨by omega, ?_⟩
    rw [Int.toNat_natCast]
    refine lc_inv (fun i acc ρw => ∃ (p : D) (l : List Str), Pool p ∧ acc = l.map .str ∧ l.length = i ∧ (∀ s ∈ l, s.length = 1) ∧ Lws l ∧ ρw = [some p, some (iN m), some (.str abc), some (iN f), none, none, none, none, none]) rfl (by rw [List.length_map, rng_len]; omega) ⟨p3, [], hp3, rfl, rfl, (fun _ h => nomatch h), (fun _ h => nomatch h), rfl⟩ (fun i d acc ρw hi hJ => ?_) (fun acc ρw hJ => ?_)
    · obtain ⟨p, l, hp, rfl, hlen, h1, hlw, rfl⟩ := hJ
      have kp := @pick_pool p hp
      refine ⟨_, rfl, ?_⟩
      dsimp? only [kp, esc_val, wO_some]
      refine draw_n hp (by decide) (by decide) fun r p' hr hp' => ?_
      have kp' := @pick_pool p' hp'
      have hx := @let_at (r : Int) (by omega) (by omega)
      dsimp? only [esc_val, wO_some, kp', hx]
      refine ⟨p', l ++ [ch r], hp', by rw [List.map_append]; rfl, by rw [List.length_append, hlen]; rfl, fun s hs => ?_, fun s hs => ?_, rfl⟩
      · rcases List.mem_append.mp hs with h | h
        · exact h1 s h
        · simp at h
          rw [h]
          rfl
      · rcases List.mem_append.mp hs with h | h
        · exact hlw s h
        · simp at h
          rw [h]
          exact ch_lw (by omega)
    · obtain ⟨p4, l, hp4, rfl, hlen, h1, hlw, rfl⟩ := hJ
      rw [List.length_map, rng_len] at hlen
      have kp4 := @pick_pool p4 hp4
      have hj := fun o => @join_l o l h1 (by omega)
      have jl : (PySem.Txt.join (PySem.Str.ofString "") l).length = l.length := PySem.W.KT.join_ones l h1
      have jw := join_lw hlw
      generalize PySem.Txt.join (PySem.Str.ofString "") l = J at hj jl jw
      dsimp? only [kp4, hj, frzs_strs]
      have gl : gLen [.str J] = some (iN n) := by
        show (if J.length ≤ 16777216 then some (D.int J.length) else none) = _
        rw [if_pos (by omega), jl, hlen]
      dsimp? only [gl]
      refine draw_n hp4 (by omega) (by omega) fun a p5 ha hp5 => ?_
      have kp5 := @pick_pool p5 hp5
      have g1 : gSlH [.str J, .int (a : Int)] = some (.str (cutS J none (some (a : Int)))) := by
        show (if J.length ≤ 16777216 then some (D.str (cutS J none (some (a : Int)))) else none) = _
        rw [if_pos (by omega)]
      have g2 : gSlL [.str J, .int (a : Int)] = some (.str (cutS J (some (a : Int)) none)) := by
        show (if J.length ≤ 16777216 then some (D.str (cutS J (some (a : Int)) none)) else none) = _
        rw [if_pos (by omega)]
      have l1 : (cutS J none (some (a : Int))).length + (cutS J (some (a : Int)) none).length ≤ 10 := by
        have e : ∀ d, HT.sIx J.length d (some (a : Int)) = min a J.length := fun d => by
          unfold HT.sIx
          simp only
          rw [if_neg (by omega), Int.toNat_natCast]
        show (List.toArray _).size + (List.toArray _).size ≤ 10
        rw [List.size_toArray, List.size_toArray, List.length_take, List.length_take, List.length_drop, List.length_drop, e, e, Array.length_toList]
        have : J.cps.size = J.length := rfl
        have e0 : HT.sIx J.length 0 none = 0 := rfl
        rw [e0]
        omega
      have w1 : Lw (cutS J none (some (a : Int))) := cut_lw jw
      have w2 : Lw (cutS J (some (a : Int)) none) := cut_lw jw
      generalize cutS J none (some (a : Int)) = s1 at g1 l1 w1
      generalize cutS J (some (a : Int)) none = s2 at g2 l1 w2
      dsimp? only [kp5]
      refine ⟨by omega, ?_⟩
      rw [Int.toNat_natCast]
      refine for_rule (fun i ρ => ∃ (x7 x8 : Option D), ρ = [some p5, some (iN m), some (.str abc), some (iN f), some (.str J), some (iN a), some (LS true ((List.range i).map (nm s1 s2 f))), x7, x8]) _ 0 _ ⟨none, none, rfl⟩ (fun i d ρ hi hI => ?_) (fun ρ hI => ?_)
      · obtain ⟨x7, x8, rfl⟩ := hI
        rw [Nat.zero_add]
        obtain ⟨him, rfl⟩ := rng_nat_get hi
        rw [Int.zero_add]
        have hx := @let_at (((f : Int) + (i : Int)) % 26) (by omega) (by omega)
        refine ⟨_, rfl, ?_⟩
        have hdv : (i : Int) / 26 = 0 := by omega
        have hx0 : ∀ x : Str, x.length ≤ 12 → ∀ y : Str, y.length ≤ 12 → gAdd [.str x, .str y] = some (.str (x ++ y)) := fun x h1 y h2 => by
          rw [gAdd_ss, if_pos (by omega)]
        have c1 : ∀ n, (ch n).length = 1 := fun _ => rfl
        have a1 := fun n m => hx0 (ch n) (by rw [c1]; omega) (ch m) (by rw [c1]; omega)
        have a2 := fun n m => hx0 s1 (by omega) (ch n ++ ch m) (by rw [PySem.Str.length_append, c1, c1]; omega)
        have a3 := fun n m => hx0 (s1 ++ (ch n ++ ch m)) (by rw [PySem.Str.length_append, PySem.Str.length_append, c1, c1]; omega) s2 (by omega)
        have ap := @app_str ((List.range i).map (nm s1 s2 f)) (nm s1 s2 f i) (by rw [List.length_map, List.length_range]; omega)
        have er : (List.range (i + 1)).map (nm s1 s2 f) = (List.range i).map (nm s1 s2 f) ++ [nm s1 s2 f i] := by
          rw [List.range_succ, List.map_append]
          rfl
        rw [← er] at ap
        dsimp? only [hx, hdv, mul0, Int.zero_mul, Int.add_zero, a1, a2, a3, g1, g2]
        refine ⟨fzs_strs _, ?_⟩
        rw [show (s1 ++ (ch (((f : Int) + (i : Int)) % 26).toNat ++ ch (((f : Int) + (i : Int)) % 26).toNat)) ++ s2 = nm s1 s2 f i from rfl, ap]
        dsimp? only [if_true]
        exact ⟨_, _, rfl⟩
      · obtain ⟨x7, x8, rfl⟩ := hI
        rw [List.length_map, rng_len, Nat.zero_add]
        dsimp? only [kp5]
        exact q _ _ (nms_2 hm w1 w2 l1) (by rw [List.length_map, List.length_range]) hp5
end Law

namespace Law
open PySem PySem.Spec L2 DL
local macro_rules | `(tactic| dsimp? only [$ls,*]) => `(tactic| simp only [wE_sortS, wS_fzS, kFz_eq, wE_lcV, gLtX_i, gLtX_s, pQ_v, wE_lcX, wI_rng3, kR3_int, kR3b_int, kR3c_int, wE_ch3, kC3a_eq, kC3b_vv, kC3c_bl, wI_revS, kRv_str, items_str, wS_par, kPar_eq, kPar2_some, wS_asg, kAg_eq, kAg1_some, kAg2_some, tgsCons_c, tgK_some, tgsNil_n, tgTup_t, tgName_e, wE_methA, kMethA_eq, wE_lenS, wI_rng2, kR2_eq, kR2b_int, wF_fn, wS_seq, wS_set, wS_if, wS_expr, wS_ret, wS_retN, wS_next, wS_break, wS_cont, wS_raise, wS_forK, wE_int, wE_str, wE_bl, wE_non, wE_V, wE_op, wE_if, wE_and, wE_or, wE_not, wE_isI, wE_isI2, wE_call, wE_disp, wE_ck, wE_lcK, wE_chI, wE_lift, wE_app, wE_meth, kMeth_eq, kMe_l, kMr_some, wS_try, wE_isE, kIsE_s, kSuN_eq, kSuR_eq, noxE_nil, noxE_cons, noxO_n, noxO_s, nox_non, nox_bl, nox_int, nox_str, nox_lst, nox_tup, noxs_nil, noxs_cons, noxs_ints, wA_nil, wA_cons, wT_B, wT_tru, wT_not, wT_and, wT_or, wT_yes, wI_items, wI_rng1, kE_val, kE_slot, kES_some, items_l, items_t, wipe_n, wipe_c, frzs_ints, fzs_ints, clos_ints, qC_if, xC_eq, qC0_eq, xC0_eq, clos_nil, clos_cons, kV_some, pick_non, pick_bl, pick_int, pick_str, pick_node, kCons_eq, kCons2_eq, kOp_eq, kOpD_some, kOpR_some, kOpR_if, kB_eq, kTru_eq, kTruD_some, kTruB_some, kNot_eq, kIte_eq, kT_eq, kAnd_eq, kOr_eq, kNotV_eq, kIs_eq, kIsD_some, kIsT_some, kSt_val, kSt_slot, kStS_some, kNx_eq, kRt_val, kRt_slot, kRtS_some, kRs_eq, kCkO_eq, kCk_int, kIt_val, kIt_slot, kItS_some, kItD_some, kR1_int, kCall_N, kCN_some, kCall_0h, kC0_some, restE_nil, restE_cons, rsO_t, rsO_f, kDisp_eq, kDs_some, kOut_eq, kOutX_eq, kOO_some, kOX_some, kCh_val, kChD_int, kChE_int, kChF_int, kLiftO_some, kApp_val, kAppO_l, isLst_l, slotOf_0, slotOf_S, vw_val, vw_slot, vws_nil, vws_cons, vwsO_nil, vwsO_cons, vwsK_some, frz_non, frz_bl, frz_int, frz_str, frz_node, tr_non, tr_bl, tr_int, tr_lst, tr_tup, tr_ro, ty_non, ty_bl, ty_int, ty_str, ty_lst, ty_tup, is1_eq, is2_eq, sv_non, sv_bl, sv_int, sv_str, sv_node, fz_non, fz_bl, fz_int, fz_str, fz_node, clo_non, clo_bl, clo_int, clo_str, clo_node, isN_non, isN_bl, isN_int, isN_str, isN_node, isB_non, isB_bl, isB_int, isB_str, isB_node, frzs_nil, frzs_cons, fzs_nil, fzs_cons, tyIs_non_bool, tyIs_non_int, tyIs_non_str, tyIs_non_list, tyIs_non_tuple, tyIs_bool_bool, tyIs_bool_int, tyIs_bool_str, tyIs_bool_list, tyIs_bool_tuple, tyIs_int_bool, tyIs_int_int, tyIs_int_str, tyIs_int_list, tyIs_int_tuple, tyIs_str_bool, tyIs_str_int, tyIs_str_str, tyIs_str_list, tyIs_str_tuple, tyIs_list_bool, tyIs_list_int, tyIs_list_str, tyIs_list_list, tyIs_list_tuple, tyIs_tuple_bool, tyIs_tuple_int, tyIs_tuple_str, tyIs_tuple_list, tyIs_tuple_tuple, List.set_cons_zero, List.set_cons_succ, List.map_cons, List.map_nil, List.cons_append, List.nil_append, List.append_nil, List.length_cons, List.length_nil, List.replicate, gSub_ii, gMod_ii, gDiv_ii, gXor_ii, gAdd_ii, gMul_ii, gNeg_i, gEq_ii, gNe_ii, gEq_bb, gNe_bb, gEq_ss, gNe_ss, gLt_ii, gLe_ii, gGt_ii, gGe_ii, gInt_i, gAbs_i, gLen_l, gLen_t, gLen_r, gIsN_n, gNotN_n, gIsB_b, gNotB_b, gIx_l, gIx_t, gIx_r, wS_setIx, kSx_val, kSx1_s, kSxS_some, kSx2_l, kSxK_some, qVar_eq, pC_eq, at_nil, put_nil, argsD_nil, argsD_val, argsD_slotN, argsD_slot0, argsD_slot1, asO_some, asF_some, slotsOf_nil, slotsOf_val, slotsOf_slotN, slotsOf_slot1, frzS_nil, frzS_cons, frzE_nil, frzE_cons, frzO_f, frzO_n, frzO_t, argsOut_nil, argsOut_0, aoK_some, Option.map_some, Option.map_none, Option.some.injEq, List.contains_nil, Bool.false_eq_true, if_true, if_false, reduceCtorEq, eq_self, Bool.not_true, Bool.not_false, Bool.or_true, Bool.true_or, Bool.or_false, Bool.false_or, Bool.and_true, Bool.true_and, Bool.and_false, Bool.false_and, decide_eq_true_eq, Option.isSome_some, true_and, and_true, Nat.reduceBEq, Nat.reduceEqDiff, Nat.reduceLT, Nat.reduceAdd, Nat.reduceSub, Nat.reduceLeDiff, Int.reduceLT, Int.reduceLE, Int.reduceEq, Int.reduceNeg, Int.reduceToNat, decide_true, decide_false, Bool.not_eq_true, Bool.not_eq_false, List.getElem?_cons_zero, List.getElem?_cons_succ, List.contains_cons, Nat.zero_add, $ls,*])
def chs : Nat → Nat → Nat
  | _, 0 => 1
  | 0, _ + 1 => 0
  | n + 1, k + 1 => chs n k + chs n (k + 1)
theorem e_choose {a b : Nat} (ha : a ≤ 7) (hb : b ≤ 7) : m_choose [iN a, iN b] = .ok (iN (chs a b)) [iN a, iN b] := by
  have h : ∀ a b : _root_.Fin 8, (m_choose [iN a, iN b]).okb (iN (chs a b)) [iN a, iN b] = true := by decide +kernel
  exact RF.okb_eq (h ⟨a, by omega⟩ ⟨b, by omega⟩)
/-! ### ways told one by one -/
def wStep (d : Nat) (found : List (List Nat)) (i : Nat) : List (List Nat) := found ++ (found.filter fun r => decide (r.length < d)).map fun r => r ++ [i]
def wAll (d n : Nat) : List (List Nat) := (List.range n).foldl (wStep d) [[]]
def nsOf (N : List Str) (r : List Nat) : List Str := r.map fun i => N.getD i ""
def rowD (o : Bool) (N : List Str) (r : List Nat) : D := .node o .lst ((nsOf N r).map .str)
/-! ### rows of names in their order -/
def lexN : List Nat → List Nat → Bool
  | [], [] => false
  | [], _ :: _ => true
  | _ :: _, [] => false
  | x :: xs, y :: ys => if x = y then lexN xs ys else decide (x < y)
def leL (a b : List Nat) : Bool := !lexN b a
structure Srt (N : List Str) : Prop where
  st : ∀ i j, i < j → j < N.length → (N.getD i "").cps.toList < (N.getD j "").cps.toList
  lw : Lws N
theorem Srt.lt {N : List Str} (S : Srt N) {i j : Nat} (hi : i < N.length) (hj : j < N.length) : (N.getD i "" = N.getD j "" ↔ i = j) ∧ ((N.getD i "").cps.toList < (N.getD j "").cps.toList ↔ i < j) := by
  rcases Nat.lt_trichotomy i j with h | h | h
  · have q := S.st i j h hj
    refine ⟨⟨fun e => ?_, fun e => by omega⟩, fun _ => h, fun _ => q⟩
    rw [e] at q
    exact absurd q (List.lt_irrefl _)
  · subst h
    exact ⟨⟨fun _ => rfl, fun _ => rfl⟩, fun q => absurd q (List.lt_irrefl _), fun q => absurd q (Nat.lt_irrefl _)⟩
  · have q := S.st j i h hi
    refine ⟨⟨fun e => ?_, fun e => by omega⟩, fun q2 => ?_, fun q2 => by omega⟩
    · rw [e] at q
      exact absurd q (List.lt_irrefl _)
    · exact absurd (List.lt_trans q q2) (List.lt_irrefl _)
theorem row_lt {N : List Str} (S : Srt N) : ∀ {a b : List Nat}, (∀ i ∈ a, i < N.length) → (∀ i ∈ b, i < N.length) → PySem.W.rowLt ((nsOf N a).map .str) ((nsOf N b).map .str) = lexN a b
  | [], [], _, _ => PyProof.Rows.lex_irrefl _
  | [], y :: ys, _, _ => by
    unfold PySem.W.rowLt nsOf
    rw [List.map_cons, List.map_cons, PySem.W.toks_all_cons]
    simp only [List.map_nil, PySem.W.keyToksAll]
    rw [PyProof.Rows.lex_diff (O := PyProof.Rows.itemOrd) (by simp)]
    rfl
  | x :: xs, [], _, _ => by
    unfold PySem.W.rowLt nsOf
    rw [List.map_cons, List.map_cons, PySem.W.toks_all_cons]
    simp only [List.map_nil, PySem.W.keyToksAll]
    rw [PyProof.Rows.lex_diff (O := PyProof.Rows.itemOrd) (by simp)]
    rfl
  | x :: xs, y :: ys, ha, hb => by
    have e : PySem.W.rowLt ((nsOf N (x :: xs)).map .str) ((nsOf N (y :: ys)).map .str) = if N.getD x "" = N.getD y "" then PySem.W.rowLt ((nsOf N xs).map .str) ((nsOf N ys).map .str) else decide ((N.getD x "").cps.toList < (N.getD y "").cps.toList) := by
      unfold PySem.W.rowLt nsOf
      simp only [List.map_cons]
      rw [PySem.W.dataLt_cons (by simp [PySem.W.alike]), PySem.W.dataLt_str]
      simp only [PyData.eqv, beq_iff_eq]
    obtain ⟨h1, h2⟩ := S.lt (ha x List.mem_cons_self) (hb y List.mem_cons_self)
    rw [e, lexN, row_lt S (fun i hi => ha i (List.mem_cons_of_mem _ hi)) (fun i hi => hb i (List.mem_cons_of_mem _ hi))]
    simp only [h1, h2]
theorem pyD_row {o : Bool} {N : List Str} {r : List Nat} : pyD (rowD o N r) = .list ((nsOf N r).map .str) := by
  unfold pyD rowD
  rw [D.py, py_strs]
  rfl
theorem leD_row {o : Bool} {N : List Str} (S : Srt N) {a b : List Nat} (ha : ∀ i ∈ a, i < N.length) (hb : ∀ i ∈ b, i < N.length) : leD (rowD o N a) (rowD o N b) = leL a b := by
  show (!PySem.W.dataLt (pyD (rowD o N b)) (pyD (rowD o N a))) = _
  rw [pyD_row, pyD_row, PySem.W.dataLt_list]
  show (!PySem.W.rowLt ((nsOf N b).map .str) ((nsOf N a).map .str)) = _
  rw [row_lt S hb ha]
  rfl
def combos (n d : Nat) : List (List Nat) := isort leL ((wAll d n).filter fun r => decide (r.length = d))
theorem lexN_anti : ∀ {a b : List Nat}, lexN a b = false → lexN b a = false → a = b
  | [], [], _, _ => rfl
  | [], _ :: _, h, _ => by cases h
  | _ :: _, [], _, h => by cases h
  | x :: xs, y :: ys, h1, h2 => by
    rw [lexN] at h1 h2
    by_cases e : x = y
    · rw [if_pos e] at h1
      rw [if_pos e.symm] at h2
      rw [e, lexN_anti h1 h2]
    · rw [if_neg e] at h1
      rw [if_neg (fun q => e q.symm)] at h2
      have := of_decide_eq_false h1
      have := of_decide_eq_false h2
      omega
theorem tab_w : ∀ d n : _root_.Fin 8, (wAll d n).length ≤ 128 ∧ (∀ r ∈ wAll d n, r.length ≤ 7 ∧ ∀ i ∈ r, i < n.val) ∧ (combos n d).Pairwise (fun a b => leL a b = true) := by decide +kernel
theorem pw_mem {α : Type} {R S : α → α → Prop} : ∀ {l : List α}, l.Pairwise R → (∀ a ∈ l, ∀ b ∈ l, R a b → S a b) → l.Pairwise S
  | [], _, _ => .nil
  | a :: r, h, k => by
    rw [List.pairwise_cons] at h ⊢
    exact ⟨fun b hb => k a List.mem_cons_self b (List.mem_cons_of_mem _ hb) (h.1 b hb), pw_mem h.2 fun x hx y hy => k x (List.mem_cons_of_mem _ hx) y (List.mem_cons_of_mem _ hy)⟩
theorem frz_rows (N : List Str) (o : Bool) : ∀ l : List (List Nat), D.frzs (l.map (rowD o N)) = l.map (rowD false N)
  | [] => rfl
  | r :: t => by
    rw [List.map_cons, D.frzs, frz_rows N o t]
    show D.frz (.node o .lst ((nsOf N r).map .str)) :: _ = _
    rw [frz_node, frzs_strs]
    rfl
theorem fz_rows (N : List Str) : ∀ l : List (List Nat), D.fzs (l.map (rowD false N)) = true
  | [] => rfl
  | r :: t => by
    rw [List.map_cons, D.fzs, fz_rows N t]
    show (D.fz (.node false .lst ((nsOf N r).map .str)) && true) = true
    rw [fz_node, fzs_strs]
    rfl
theorem cmp_rows {N : List Str} (hN : ∀ s ∈ N, Lw s) {l : List (List Nat)} : cmpOk (l.map (rowD false N)) = true := by
  refine cmpOk_of (fun d hd => ?_) (fun a ha b hb => ?_) (.inr fun d hd => ?_) fun d hd => ?_
  · obtain ⟨r, _, rfl⟩ := List.mem_map.mp hd
    refine ⟨?_, ?_⟩
    · show D.fz (.node false .lst ((nsOf N r).map .str)) = true
      rw [fz_node, fzs_strs]
      rfl
    · rw [pyD_row]
      unfold rowD
      rw [D.py, py_strs]
      rfl
  · obtain ⟨r, _, rfl⟩ := List.mem_map.mp ha
    obtain ⟨t, _, rfl⟩ := List.mem_map.mp hb
    rw [pyD_row, pyD_row, PySem.W.alike]
    exact alike_strs _ _
  · obtain ⟨r, _, rfl⟩ := List.mem_map.mp hd; rw [pyD_row]; exact ⟨rfl, rfl⟩
  · obtain ⟨r, _, rfl⟩ := List.mem_map.mp hd
    rw [pyD_row, PyData.depth, dep_strs]
    decide
theorem ns_app {N : List Str} {r : List Nat} {i : Nat} {x : Str} (h : N[i]? = some x) : nsOf N (r ++ [i]) = nsOf N r ++ [x] := by
  unfold nsOf
  rw [List.map_append, List.map_cons, List.map_nil, List.getD_eq_getElem?_getD, h]
  rfl
theorem e_ways {N : List Str} {d : Nat} (S : Srt N) (hn : N.length ≤ 7) (hd : d ≤ 7) : m__law_ways [LS false N, iN d] = .ok (.node true .lst ((combos N.length d).map (rowD false N))) [LS false N, iN d] := by
  suffices h : wF m__law_ways (fun _ _ => False) (fun x ds' => x = .node true .lst ((combos N.length d).map (rowD false N)) ∧ ds' = [LS false N, iN d]) [LS false N, iN d] by
    obtain ⟨x, rfl, e⟩ := wF_get h
    exact e
  unfold m__law_ways
  dsimp? only [frzs_strs]
  refine for_rule (fun i ρ => ∃ (x3 : Option D), ρ = [some (LS false N), some (iN d), some (.node true .lst ((wAll d i).map (rowD false N))), x3, none]) _ 0 _ ⟨none, rfl⟩ (fun i a ρ hi hI => ?_) (fun ρ hI => ?_)
  · obtain ⟨x3, rfl⟩ := hI
    rw [Nat.zero_add]
    rw [List.getElem?_map] at hi
    cases ex : N[i]? with
    | none => rw [ex] at hi; cases hi
    | some x =>
    rw [ex] at hi
    cases hi
    have hil := (List.getElem?_eq_some_iff.mp ex).1
    obtain ⟨hw1, hw2, _⟩ := tab_w ⟨d, by omega⟩ ⟨i, by omega⟩
    simp only at hw1 hw2
    refine ⟨_, rfl, ?_⟩
    dsimp? only [frz_rows]
    refine lc_map (emb := rowD false N) (fun r => rowD true N (r ++ [i])) (fun r => decide (r.length < d)) (by rfl) (by omega) (fun r hr => ⟨_, rfl, ?_⟩) ?_
    · have l1 := (hw2 r hr).1
      have l2 : ((nsOf N r).map D.str).length = r.length := by rw [List.length_map]; exact List.length_map _
      have ea : gAdd [.node false .lst ((nsOf N r).map .str), .node false .lst [.str x]] = some (rowD true N (r ++ [i])) := by
        unfold rowD
        rw [cat_d (fzs_strs _) rfl (by rw [l2, List.length_cons, List.length_nil]; omega), ns_app ex, List.map_append]
        rfl
      by_cases c : r.length < d
      · have c' : (r.length : Int) < d := by omega
        dsimp? only [rowD, l2, c, c', ea]
      · have c' : ¬ (r.length : Int) < d := by omega
        dsimp? only [rowD, l2, c, c']
    · have hl : ((wAll d i).filter fun r => decide (r.length < d)).length ≤ (wAll d i).length := List.length_filter_le _ _
      have ea := cat_d (o := false) (p := false) (a := (wAll d i).map (rowD false N)) (b := (((wAll d i).filter fun r => decide (r.length < d)).map fun r => r ++ [i]).map (rowD false N)) (fz_rows N _) (fz_rows N _) (by rw [List.length_map, List.length_map, List.length_map]; omega)
      have ew : (wAll d i) ++ ((wAll d i).filter fun r => decide (r.length < d)).map (fun r => r ++ [i]) = wAll d (i + 1) := by
        unfold wAll
        rw [List.range_succ, List.foldl_append]
        rfl
      rw [← List.map_append, ew] at ea
      have em : ((wAll d i).filter fun r => decide (r.length < d)).map (fun r => rowD true N (r ++ [i])) = (((wAll d i).filter fun r => decide (r.length < d)).map fun r => r ++ [i]).map (rowD true N) := by rw [List.map_map]; rfl
      rw [em]
      dsimp? only [frz_rows, ea]
      exact ⟨_, rfl⟩
  · obtain ⟨x3, rfl⟩ := hI
    rw [Nat.zero_add, List.length_map]
    obtain ⟨hw1, hw2, hw3⟩ := tab_w ⟨d, by omega⟩ ⟨N.length, by omega⟩
    simp only at hw1 hw2 hw3
    dsimp? only [frz_rows]
    refine lc_map (emb := rowD false N) (fun r => rowD false N r) (fun r => decide (r.length = d)) (by rfl) (by omega) (fun r hr => ⟨_, rfl, ?_⟩) ?_
    · have l2 : ((nsOf N r).map D.str).length = r.length := by rw [List.length_map]; exact List.length_map _
      by_cases c : r.length = d
      · have c' : (r.length : Int) = d := by omega
        dsimp? only [rowD, l2, c, c', frzs_strs]
      · have c' : ¬ (r.length : Int) = d := by omega
        dsimp? only [rowD, l2, c, c']
    · obtain ⟨s, s1, s2, s3⟩ := sortedX_l (f := rowD false N) (l := (wAll d N.length).filter fun r => decide (r.length = d)) (o := false) (cmp_rows S.lw) (fun _ _ => rfl)
      have hm : ∀ r ∈ s, ∀ i ∈ r, i < N.length := fun r hr => (hw2 r (List.mem_filter.mp (s1.mem_iff.mp hr)).1).2
      have s4 : s.Pairwise fun a b => leL a b = true := pw_mem s3 fun a ha b hb h => by rwa [leD_row S (hm a ha) (hm b hb)] at h
      have es : s = combos N.length d := sorted_oneM (le := leL) (s1.trans (isort_perm _ _).symm) (fun a b _ _ h1 h2 => lexN_anti (by simpa [leL] using h2) (by simpa [leL] using h1)) s4 hw3
      rw [es] at s2
      dsimp? only [frz_rows, s2]
end Law

namespace Law
open PySem PySem.Spec L2 DL
local macro_rules | `(tactic| dsimp? only [$ls,*]) => `(tactic| simp only [wE_sortS, wS_fzS, kFz_eq, wE_lcV, gLtX_i, gLtX_s, pQ_v, wE_lcX, wI_rng3, kR3_int, kR3b_int, kR3c_int, wE_ch3, kC3a_eq, kC3b_vv, kC3c_bl, wI_revS, kRv_str, items_str, wS_par, kPar_eq, kPar2_some, wS_asg, kAg_eq, kAg1_some, kAg2_some, tgsCons_c, tgK_some, tgsNil_n, tgTup_t, tgName_e, wE_methA, kMethA_eq, wE_lenS, wI_rng2, kR2_eq, kR2b_int, wF_fn, wS_seq, wS_set, wS_if, wS_expr, wS_ret, wS_retN, wS_next, wS_break, wS_cont, wS_raise, wS_forK, wE_int, wE_str, wE_bl, wE_non, wE_V, wE_op, wE_if, wE_and, wE_or, wE_not, wE_isI, wE_isI2, wE_call, wE_disp, wE_ck, wE_lcK, wE_chI, wE_lift, wE_app, wE_meth, kMeth_eq, kMe_l, kMr_some, wS_try, wE_isE, kIsE_s, kSuN_eq, kSuR_eq, noxE_nil, noxE_cons, noxO_n, noxO_s, nox_non, nox_bl, nox_int, nox_str, nox_lst, nox_tup, noxs_nil, noxs_cons, noxs_ints, wA_nil, wA_cons, wT_B, wT_tru, wT_not, wT_and, wT_or, wT_yes, wI_items, wI_rng1, kE_val, kE_slot, kES_some, items_l, items_t, wipe_n, wipe_c, frzs_ints, fzs_ints, clos_ints, qC_if, xC_eq, qC0_eq, xC0_eq, clos_nil, clos_cons, kV_some, pick_non, pick_bl, pick_int, pick_str, pick_node, kCons_eq, kCons2_eq, kOp_eq, kOpD_some, kOpR_some, kOpR_if, kB_eq, kTru_eq, kTruD_some, kTruB_some, kNot_eq, kIte_eq, kT_eq, kAnd_eq, kOr_eq, kNotV_eq, kIs_eq, kIsD_some, kIsT_some, kSt_val, kSt_slot, kStS_some, kNx_eq, kRt_val, kRt_slot, kRtS_some, kRs_eq, kCkO_eq, kCk_int, kIt_val, kIt_slot, kItS_some, kItD_some, kR1_int, kCall_N, kCN_some, kCall_0h, kC0_some, restE_nil, restE_cons, rsO_t, rsO_f, kDisp_eq, kDs_some, kOut_eq, kOutX_eq, kOO_some, kOX_some, kCh_val, kChD_int, kChE_int, kChF_int, kLiftO_some, kApp_val, kAppO_l, isLst_l, slotOf_0, slotOf_S, vw_val, vw_slot, vws_nil, vws_cons, vwsO_nil, vwsO_cons, vwsK_some, frz_non, frz_bl, frz_int, frz_str, frz_node, tr_non, tr_bl, tr_int, tr_lst, tr_tup, tr_ro, ty_non, ty_bl, ty_int, ty_str, ty_lst, ty_tup, is1_eq, is2_eq, sv_non, sv_bl, sv_int, sv_str, sv_node, fz_non, fz_bl, fz_int, fz_str, fz_node, clo_non, clo_bl, clo_int, clo_str, clo_node, isN_non, isN_bl, isN_int, isN_str, isN_node, isB_non, isB_bl, isB_int, isB_str, isB_node, frzs_nil, frzs_cons, fzs_nil, fzs_cons, tyIs_non_bool, tyIs_non_int, tyIs_non_str, tyIs_non_list, tyIs_non_tuple, tyIs_bool_bool, tyIs_bool_int, tyIs_bool_str, tyIs_bool_list, tyIs_bool_tuple, tyIs_int_bool, tyIs_int_int, tyIs_int_str, tyIs_int_list, tyIs_int_tuple, tyIs_str_bool, tyIs_str_int, tyIs_str_str, tyIs_str_list, tyIs_str_tuple, tyIs_list_bool, tyIs_list_int, tyIs_list_str, tyIs_list_list, tyIs_list_tuple, tyIs_tuple_bool, tyIs_tuple_int, tyIs_tuple_str, tyIs_tuple_list, tyIs_tuple_tuple, List.set_cons_zero, List.set_cons_succ, List.map_cons, List.map_nil, List.cons_append, List.nil_append, List.append_nil, List.length_cons, List.length_nil, List.replicate, gSub_ii, gMod_ii, gDiv_ii, gXor_ii, gAdd_ii, gMul_ii, gNeg_i, gEq_ii, gNe_ii, gEq_bb, gNe_bb, gEq_ss, gNe_ss, gLt_ii, gLe_ii, gGt_ii, gGe_ii, gInt_i, gAbs_i, gLen_l, gLen_t, gLen_r, gIsN_n, gNotN_n, gIsB_b, gNotB_b, gIx_l, gIx_t, gIx_r, wS_setIx, kSx_val, kSx1_s, kSxS_some, kSx2_l, kSxK_some, qVar_eq, pC_eq, at_nil, put_nil, argsD_nil, argsD_val, argsD_slotN, argsD_slot0, argsD_slot1, asO_some, asF_some, slotsOf_nil, slotsOf_val, slotsOf_slotN, slotsOf_slot1, frzS_nil, frzS_cons, frzE_nil, frzE_cons, frzO_f, frzO_n, frzO_t, argsOut_nil, argsOut_0, aoK_some, Option.map_some, Option.map_none, Option.some.injEq, List.contains_nil, Bool.false_eq_true, if_true, if_false, reduceCtorEq, eq_self, Bool.not_true, Bool.not_false, Bool.or_true, Bool.true_or, Bool.or_false, Bool.false_or, Bool.and_true, Bool.true_and, Bool.and_false, Bool.false_and, decide_eq_true_eq, Option.isSome_some, true_and, and_true, Nat.reduceBEq, Nat.reduceEqDiff, Nat.reduceLT, Nat.reduceAdd, Nat.reduceSub, Nat.reduceLeDiff, Int.reduceLT, Int.reduceLE, Int.reduceEq, Int.reduceNeg, Int.reduceToNat, decide_true, decide_false, Bool.not_eq_true, Bool.not_eq_false, List.getElem?_cons_zero, List.getElem?_cons_succ, List.contains_cons, Nat.zero_add, $ls,*])
/-! ### drawn_at -/
/-- places left, names left, found -/
def dStep (n : Nat) (s : Nat × Nat × List Nat) (i : Nat) : Nat × Nat × List Nat :=
  if s.2.1 > 0 then (if s.1 < chs (n - i - 1) (s.2.1 - 1) then (s.1, s.2.1 - 1, s.2.2 ++ [i]) else (s.1 - chs (n - i - 1) (s.2.1 - 1), s.2.1, s.2.2)) else s
def dRun (n d p k : Nat) : Nat × Nat × List Nat := (List.range k).foldl (dStep n) (p, d, [])
theorem dRun_succ {n d p k : Nat} : dRun n d p (k + 1) = dStep n (dRun n d p k) k := by
  unfold dRun
  rw [List.range_succ, List.foldl_append]
  rfl
theorem tab_d : ∀ n d : _root_.Fin 8, d ≤ n → (combos n d).length = chs n d ∧ chs n d ≤ 35 ∧ ∀ p, p < chs n d → (dRun n d p n).2.2 = (combos n d).getD p [] := by decide +kernel
theorem dRun_le {n d p k : Nat} : (dRun n d p k).2.1 ≤ d := by
  induction k with
  | zero => exact Nat.le_refl _
  | succ k ih =>
    rw [dRun_succ]
    unfold dStep
    split
    · split
      · show _ - 1 ≤ d; omega
      · exact ih
    · exact ih
theorem dRun_mem {n d p k : Nat} : (∀ i ∈ (dRun n d p k).2.2, i < k) ∧ (dRun n d p k).2.2.length ≤ k := by
  induction k with
  | zero => exact ⟨(fun _ h => nomatch h), Nat.le_refl _⟩
  | succ k ih =>
    rw [dRun_succ]
    unfold dStep
    split
    · split
      · refine ⟨fun i hi => ?_, by show (_ ++ [k]).length ≤ _; rw [List.length_append]; exact Nat.succ_le_succ ih.2⟩
        rcases List.mem_append.mp hi with h | h
        · have := ih.1 i h; omega
        · simp at h; omega
      · exact ⟨fun i hi => by have := ih.1 i hi; omega, by have := ih.2; show (dRun n d p k).2.2.length ≤ k + 1; omega⟩
    · exact ⟨fun i hi => by have := ih.1 i hi; omega, by have := ih.2; omega⟩
theorem Nms.perm {l m : List Str} (h : Nms l) (p : m.Perm l) : Nms m := ⟨p.nodup_iff.mpr h.nd, fun s hs => h.lw s (p.mem_iff.mp hs), fun s hs => h.dn s (p.mem_iff.mp hs)⟩
theorem srt_of {H : List Str} (h : Nms H) : Srt (sortS H) where
  st := fun i j hij hj => by
    have hi : i < (sortS H).length := by omega
    have pw := List.pairwise_iff_getElem.mp (sortS_pw H) i j hi hj hij
    have nd := (h.perm (sortS_perm H)).nd
    rw [List.getD_eq_getElem?_getD, List.getD_eq_getElem?_getD, List.getElem?_eq_getElem hi, List.getElem?_eq_getElem hj, Option.getD_some, Option.getD_some]
    have ne : (sortS H)[i] ≠ (sortS H)[j] := List.pairwise_iff_getElem.mp nd i j hi hj hij
    by_cases q : (sortS H)[i].cps.toList < (sortS H)[j].cps.toList
    · exact q
    · exact absurd (leS_anti _ _ pw (leS_iff.mpr q)) ne
  lw := (h.perm (sortS_perm H)).lw
theorem sort_len' (H : List Str) : (sortS H).length = H.length := (sortS_perm H).length_eq
theorem e_num' (i a b : Int) : m_is_number [.int i, .int a, .int b] = .ok (.bl (decide (a ≤ i) && decide (i ≤ b))) [.int i, .int a, .int b] := e_num i a b
theorem e_drawn {H : List Str} {d p : Nat} (hH : Nms H) (hn : H.length ≤ 7) (hd : d ≤ H.length) (hp : p < chs H.length d) : m_drawn_at [LS false H, iN d, iN p] = .ok (LS true (nsOf (sortS H) (dRun H.length d p H.length).2.2)) [LS false H, iN d, iN p] := by
  suffices h : wF m_drawn_at (fun _ _ => False) (fun x ds' => x = LS true (nsOf (sortS H) (dRun H.length d p H.length).2.2) ∧ ds' = [LS false H, iN d, iN p]) [LS false H, iN d, iN p] by
    obtain ⟨x, rfl, e⟩ := wF_get h
    exact e
  have hdd : dedupS H = H := dedupS_nodup hH.nd
  unfold m_drawn_at
  dsimp? only [frzs_strs]
  refine lc_map (emb := D.str) (fun s => D.str s) (fun _ => true) (by rfl) (by omega) (fun s hs => ⟨_, rfl, ?_⟩) ?_
  · dsimp? only [if_true]
  · rw [List.filter_eq_self.mpr fun _ _ => rfl]
    refine kSS_strs (by omega) ?_
    rw [hdd]
    have hl : ((sortS H).map D.str).length = H.length := by rw [List.length_map]; exact sort_len' H
    have hl2 : (H.map D.str).length = H.length := List.length_map _
    have c1 : ¬ (60 : Int) < H.length := by omega
    have c2 : ¬ (H.length : Int) < H.length := by omega
    dsimp? only [hl, hl2, c1, c2]
    rw [wF_eq (e_num _ _ _)]
    have c3 : (decide ((0 : Int) ≤ (d : Int)) && decide ((d : Int) ≤ (H.length : Int))) = true := by simp; omega
    dsimp? only [qC_eq, qC_if, hl, hl2, c3, frzs_strs]
    have c4 : (0 : Int) ≤ (p : Int) := by omega
    have ec := e_choose (a := H.length) (b := d) hn (by omega)
    have c5 : (p : Int) < (chs H.length d : Nat) := by omega
    dsimp? only [c4]
    rw [wF_eq ec]
    dsimp? only [qC_eq, qC_if, hl, hl2, c5, frzs_strs]
    refine ⟨by omega, ?_⟩
    rw [Int.toNat_natCast]
    have eN : ∀ i (h : i < H.length), ixD ((sortS H).map .str) (i : Int) = some (.str ((sortS H).getD i "")) := fun i h => by
      have h' : i < (sortS H).length := by rw [sort_len' H]; exact h
      refine ix_strs ?_
      rw [List.getD_eq_getElem?_getD, List.getElem?_eq_getElem h', Option.getD_some]
    refine for_rule (fun i ρ => ∃ (o3 : Bool) (x6 x7 : Option D), ρ = [some (LS false H), some (iN d), some (iN (dRun H.length d p i).1), some (LS o3 (sortS H)), some (LS true (nsOf (sortS H) (dRun H.length d p i).2.2)), some (iN (dRun H.length d p i).2.1), x6, x7, none]) _ 0 _ ⟨_, none, none, rfl⟩ (fun i a ρ hi hI => ?_) (fun ρ hI => ?_)
    · obtain ⟨o3, x6, x7, rfl⟩ := hI
      rw [Nat.zero_add]
      obtain ⟨him, rfl⟩ := rng_nat_get hi
      rw [Int.zero_add]
      have hs := @dRun_succ H.length d p i
      have hle := @dRun_le H.length d p i
      have hme := @dRun_mem H.length d p i
      generalize dRun H.length d p i = s at hs hle hme
      obtain ⟨q, l, f⟩ := s
      simp only at hle hme
      refine ⟨_, rfl, ?_⟩
      by_cases c : l > 0
      · have c' : (0 : Int) < (l : Int) := by omega
        have ec2 := e_choose (a := H.length - i - 1) (b := l - 1) (by omega) (by omega)
        have k1 : (H.length : Int) - (i : Int) - 1 = ((H.length - i - 1 : Nat) : Int) := by omega
        have k2 : (l : Int) - 1 = ((l - 1 : Nat) : Int) := by omega
        dsimp? only [c', hl, k1, k2]
        rw [wF_eq ec2]
        have el : (nsOf (sortS H) f).length = f.length := List.length_map _
        have ap := @app_str (nsOf (sortS H) f) ((sortS H).getD i "") (by omega)
        have en : nsOf (sortS H) f ++ [(sortS H).getD i ""] = nsOf (sortS H) (f ++ [i]) := by
          unfold nsOf
          rw [List.map_append]
          rfl
        rw [en] at ap
        by_cases c2 : q < chs (H.length - i - 1) (l - 1)
        · have c2' : (q : Int) < (chs (H.length - i - 1) (l - 1) : Nat) := by omega
          have hs' : dRun H.length d p (i + 1) = (q, l - 1, f ++ [i]) := by
            rw [hs]
            unfold dStep
            simp only
            rw [if_pos c, if_pos c2]
          have ei := eN i him
          dsimp? only [qC_eq, qC_if, hl, c2', ei, ap, fzs_strs, k2]
          rw [hs']
          exact ⟨_, _, _, rfl⟩
        · have c2' : ¬ (q : Int) < (chs (H.length - i - 1) (l - 1) : Nat) := by omega
          have hs' : dRun H.length d p (i + 1) = (q - chs (H.length - i - 1) (l - 1), l, f) := by
            rw [hs]
            unfold dStep
            simp only
            rw [if_pos c, if_neg c2]
          have k3 : (q : Int) - (chs (H.length - i - 1) (l - 1) : Nat) = ((q - chs (H.length - i - 1) (l - 1) : Nat) : Int) := by omega
          dsimp? only [qC_eq, qC_if, hl, c2', k3]
          rw [hs']
          exact ⟨_, _, _, rfl⟩
      · have c' : ¬ (0 : Int) < (l : Int) := by omega
        have hs' : dRun H.length d p (i + 1) = (q, l, f) := by rw [hs]; exact if_neg c
        dsimp? only [c']
        rw [hs']
        exact ⟨_, _, _, rfl⟩
    · obtain ⟨o3, x6, x7, rfl⟩ := hI
      rw [List.length_map, rng_len, Nat.zero_add]
      dsimp? only [argsOut_re, kOO_some]
end Law

namespace Law
open PySem PySem.Spec L2 DL
local macro_rules | `(tactic| dsimp? only [$ls,*]) => `(tactic| simp only [wE_sortS, wS_fzS, kFz_eq, wE_lcV, gLtX_i, gLtX_s, pQ_v, wE_lcX, wI_rng3, kR3_int, kR3b_int, kR3c_int, wE_ch3, kC3a_eq, kC3b_vv, kC3c_bl, wI_revS, kRv_str, items_str, wS_par, kPar_eq, kPar2_some, wS_asg, kAg_eq, kAg1_some, kAg2_some, tgsCons_c, tgK_some, tgsNil_n, tgTup_t, tgName_e, wE_methA, kMethA_eq, wE_lenS, wI_rng2, kR2_eq, kR2b_int, wF_fn, wS_seq, wS_set, wS_if, wS_expr, wS_ret, wS_retN, wS_next, wS_break, wS_cont, wS_raise, wS_forK, wE_int, wE_str, wE_bl, wE_non, wE_V, wE_op, wE_if, wE_and, wE_or, wE_not, wE_isI, wE_isI2, wE_call, wE_disp, wE_ck, wE_lcK, wE_chI, wE_lift, wE_app, wE_meth, kMeth_eq, kMe_l, kMr_some, wS_try, wE_isE, kIsE_s, kSuN_eq, kSuR_eq, noxE_nil, noxE_cons, noxO_n, noxO_s, nox_non, nox_bl, nox_int, nox_str, nox_lst, nox_tup, noxs_nil, noxs_cons, noxs_ints, wA_nil, wA_cons, wT_B, wT_tru, wT_not, wT_and, wT_or, wT_yes, wI_items, wI_rng1, kE_val, kE_slot, kES_some, items_l, items_t, wipe_n, wipe_c, frzs_ints, fzs_ints, clos_ints, qC_if, xC_eq, qC0_eq, xC0_eq, clos_nil, clos_cons, kV_some, pick_non, pick_bl, pick_int, pick_str, pick_node, kCons_eq, kCons2_eq, kOp_eq, kOpD_some, kOpR_some, kOpR_if, kB_eq, kTru_eq, kTruD_some, kTruB_some, kNot_eq, kIte_eq, kT_eq, kAnd_eq, kOr_eq, kNotV_eq, kIs_eq, kIsD_some, kIsT_some, kSt_val, kSt_slot, kStS_some, kNx_eq, kRt_val, kRt_slot, kRtS_some, kRs_eq, kCkO_eq, kCk_int, kIt_val, kIt_slot, kItS_some, kItD_some, kR1_int, kCall_N, kCN_some, kCall_0h, kC0_some, restE_nil, restE_cons, rsO_t, rsO_f, kDisp_eq, kDs_some, kOut_eq, kOutX_eq, kOO_some, kOX_some, kCh_val, kChD_int, kChE_int, kChF_int, kLiftO_some, kApp_val, kAppO_l, isLst_l, slotOf_0, slotOf_S, vw_val, vw_slot, vws_nil, vws_cons, vwsO_nil, vwsO_cons, vwsK_some, frz_non, frz_bl, frz_int, frz_str, frz_node, tr_non, tr_bl, tr_int, tr_lst, tr_tup, tr_ro, ty_non, ty_bl, ty_int, ty_str, ty_lst, ty_tup, is1_eq, is2_eq, sv_non, sv_bl, sv_int, sv_str, sv_node, fz_non, fz_bl, fz_int, fz_str, fz_node, clo_non, clo_bl, clo_int, clo_str, clo_node, isN_non, isN_bl, isN_int, isN_str, isN_node, isB_non, isB_bl, isB_int, isB_str, isB_node, frzs_nil, frzs_cons, fzs_nil, fzs_cons, tyIs_non_bool, tyIs_non_int, tyIs_non_str, tyIs_non_list, tyIs_non_tuple, tyIs_bool_bool, tyIs_bool_int, tyIs_bool_str, tyIs_bool_list, tyIs_bool_tuple, tyIs_int_bool, tyIs_int_int, tyIs_int_str, tyIs_int_list, tyIs_int_tuple, tyIs_str_bool, tyIs_str_int, tyIs_str_str, tyIs_str_list, tyIs_str_tuple, tyIs_list_bool, tyIs_list_int, tyIs_list_str, tyIs_list_list, tyIs_list_tuple, tyIs_tuple_bool, tyIs_tuple_int, tyIs_tuple_str, tyIs_tuple_list, tyIs_tuple_tuple, List.set_cons_zero, List.set_cons_succ, List.map_cons, List.map_nil, List.cons_append, List.nil_append, List.append_nil, List.length_cons, List.length_nil, List.replicate, gSub_ii, gMod_ii, gDiv_ii, gXor_ii, gAdd_ii, gMul_ii, gNeg_i, gEq_ii, gNe_ii, gEq_bb, gNe_bb, gEq_ss, gNe_ss, gLt_ii, gLe_ii, gGt_ii, gGe_ii, gInt_i, gAbs_i, gLen_l, gLen_t, gLen_r, gIsN_n, gNotN_n, gIsB_b, gNotB_b, gIx_l, gIx_t, gIx_r, wS_setIx, kSx_val, kSx1_s, kSxS_some, kSx2_l, kSxK_some, qVar_eq, pC_eq, at_nil, put_nil, argsD_nil, argsD_val, argsD_slotN, argsD_slot0, argsD_slot1, asO_some, asF_some, slotsOf_nil, slotsOf_val, slotsOf_slotN, slotsOf_slot1, frzS_nil, frzS_cons, frzE_nil, frzE_cons, frzO_f, frzO_n, frzO_t, argsOut_nil, argsOut_0, aoK_some, Option.map_some, Option.map_none, Option.some.injEq, List.contains_nil, Bool.false_eq_true, if_true, if_false, reduceCtorEq, eq_self, Bool.not_true, Bool.not_false, Bool.or_true, Bool.true_or, Bool.or_false, Bool.false_or, Bool.and_true, Bool.true_and, Bool.and_false, Bool.false_and, decide_eq_true_eq, Option.isSome_some, true_and, and_true, Nat.reduceBEq, Nat.reduceEqDiff, Nat.reduceLT, Nat.reduceAdd, Nat.reduceSub, Nat.reduceLeDiff, Int.reduceLT, Int.reduceLE, Int.reduceEq, Int.reduceNeg, Int.reduceToNat, decide_true, decide_false, Bool.not_eq_true, Bool.not_eq_false, List.getElem?_cons_zero, List.getElem?_cons_succ, List.contains_cons, Nat.zero_add, $ls,*])
/-! ### place_of -/
def pStep (n : Nat) (r : List Nat) (s : Nat × Nat) (i : Nat) : Nat × Nat :=
  if s.2 > 0 then (if i ∈ r then (s.1, s.2 - 1) else (s.1 + chs (n - i - 1) (s.2 - 1), s.2)) else s
def pRun (n : Nat) (r : List Nat) (k : Nat) : Nat × Nat := (List.range k).foldl (pStep n r) (0, r.length)
theorem pRun_succ {n k : Nat} {r : List Nat} : pRun n r (k + 1) = pStep n r (pRun n r k) k := by
  unfold pRun
  rw [List.range_succ, List.foldl_append]
  rfl
theorem pRun_le {n k : Nat} {r : List Nat} : (pRun n r k).2 ≤ r.length := by
  induction k with
  | zero => exact Nat.le_refl _
  | succ k ih =>
    rw [pRun_succ]
    unfold pStep
    split
    · split
      · show _ - 1 ≤ r.length; omega
      · exact ih
    · exact ih
theorem tab_p : ∀ n d : _root_.Fin 8, ∀ r ∈ combos n d, r.length = d.val ∧ r.length ≤ 7 ∧ (∀ i ∈ r, i < n.val) ∧ r.Pairwise (· < ·) := by decide +kernel
theorem tab_p2 : ∀ n d : _root_.Fin 8, d ≤ n → ∀ p, p < chs n d → (pRun n ((combos n d).getD p []) n).1 = p := by decide +kernel
theorem ns_pw {N : List Str} (S : Srt N) : ∀ {r : List Nat}, r.Pairwise (· < ·) → (∀ i ∈ r, i < N.length) → (nsOf N r).Pairwise (fun a b => leS a b = true) ∧ (nsOf N r).Nodup
  | [], _, _ => ⟨.nil, .nil⟩
  | i :: r, h, hm => by
    rw [List.pairwise_cons] at h
    obtain ⟨h1, h2⟩ := ns_pw S h.2 fun j hj => hm j (List.mem_cons_of_mem _ hj)
    have hi := hm i List.mem_cons_self
    refine ⟨List.pairwise_cons.mpr ⟨fun b hb => ?_, h1⟩, List.nodup_cons.mpr ⟨fun q => ?_, h2⟩⟩
    · obtain ⟨j, hj, rfl⟩ := List.mem_map.mp hb
      exact leS_iff.mpr (List.le_of_lt (S.st i j (h.1 j hj) (hm j (List.mem_cons_of_mem _ hj))))
    · obtain ⟨j, hj, e⟩ := List.mem_map.mp q
      have := (S.lt (hm j (List.mem_cons_of_mem _ hj)) hi).1.mp e
      have := h.1 j hj
      omega
theorem ns_mem {N : List Str} (S : Srt N) {r : List Nat} {i : Nat} (hi : i < N.length) (hm : ∀ j ∈ r, j < N.length) : N.getD i "" ∈ nsOf N r ↔ i ∈ r := by
  unfold nsOf
  rw [List.mem_map]
  constructor
  · rintro ⟨j, hj, e⟩
    have := (S.lt (hm j hj) hi).1.mp e
    exact this ▸ hj
  · exact fun h => ⟨i, h, rfl⟩
theorem getD_mem {N : List Str} {i : Nat} (hi : i < N.length) : N.getD i "" ∈ N := by
  rw [List.getD_eq_getElem?_getD, List.getElem?_eq_getElem hi, Option.getD_some]
  exact List.getElem_mem hi
theorem e_place {H : List Str} {r : List Nat} (hH : Nms H) (hn : H.length ≤ 7) (hr : r.length ≤ 7) (hm : ∀ i ∈ r, i < H.length) (hp : r.Pairwise (· < ·)) : m_place_of [LS false H, LS false (nsOf (sortS H) r)] = .ok (iN (pRun H.length r H.length).1) [LS false H, LS false (nsOf (sortS H) r)] := by
  suffices h : wF m_place_of (fun _ _ => False) (fun x ds' => x = iN (pRun H.length r H.length).1 ∧ ds' = [LS false H, LS false (nsOf (sortS H) r)]) [LS false H, LS false (nsOf (sortS H) r)] by
    obtain ⟨x, rfl, e⟩ := wF_get h
    exact e
  have hdd : dedupS H = H := dedupS_nodup hH.nd
  have S := srt_of hH
  have hm' : ∀ i ∈ r, i < (sortS H).length := fun i hi => by rw [sort_len' H]; exact hm i hi
  obtain ⟨hT1, hT2⟩ := ns_pw S hp hm'
  have hTl : (nsOf (sortS H) r).length = r.length := List.length_map _
  have hTm : ∀ s ∈ nsOf (sortS H) r, s ∈ sortS H := fun s hs => by
    obtain ⟨i, hi, rfl⟩ := List.mem_map.mp hs
    exact getD_mem (hm' i hi)
  have hTw : Lws (nsOf (sortS H) r) := fun s hs => S.lw s (hTm s hs)
  have hTi : ∀ i, i < H.length → (decide ((sortS H).getD i "" ∈ nsOf (sortS H) r) = decide (i ∈ r)) := fun i hi => decide_eq_decide.mpr (ns_mem S (by rw [sort_len' H]; exact hi) hm')
  generalize nsOf (sortS H) r = T at hT1 hT2 hTl hTm hTw hTi
  have hTd : dedupS T = T := dedupS_nodup hT2
  have hTs : sortS T = T := sortS_id hT1
  have eN : ∀ i (h : i < H.length), ixD ((sortS H).map .str) (i : Int) = some (.str ((sortS H).getD i "")) := fun i h => by
    have h' : i < (sortS H).length := by rw [sort_len' H]; exact h
    refine ix_strs ?_
    rw [List.getD_eq_getElem?_getD, List.getElem?_eq_getElem h', Option.getD_some]
  unfold m_place_of
  dsimp? only [frzs_strs]
  refine lc_map (emb := D.str) (fun s => D.str s) (fun _ => true) (by rfl) (by omega) (fun s hs => ⟨_, rfl, ?_⟩) ?_
  · dsimp? only [if_true]
  · rw [List.filter_eq_self.mpr fun _ _ => rfl]
    refine kSS_strs (by omega) ?_
    rw [hdd]
    have hl : ((sortS H).map D.str).length = H.length := by rw [List.length_map]; exact sort_len' H
    have hl2 : (T.map D.str).length = r.length := by rw [List.length_map]; exact hTl
    have c1 : ¬ (60 : Int) < H.length := by omega
    have li := fun o => @list_d o (T.map .str) (fzs_strs T)
    dsimp? only [hl, hl2, c1, frzs_strs, li]
    refine lc_map (emb := D.str) (fun s => D.str s) (fun _ => true) (by rfl) (by omega) (fun s hs => ⟨_, rfl, ?_⟩) ?_
    · dsimp? only [if_true]
    rw [List.filter_eq_self.mpr fun _ _ => rfl]
    refine kSS_strs (by omega) ?_
    rw [hTd, show isort leS T = T from hTs]
    have ne := fun o p => @ne_strs o p T T hTw hTw
    have c2 : decide (T = T) = true := decide_eq_true rfl
    dsimp? only [frzs_strs, ne, c2]
    refine lc_map (emb := D.str) (fun s => D.str s) (fun _ => false) (by rfl) (by omega) (fun s hs => ⟨_, rfl, ?_⟩) ?_
    · have c3 : decide (s ∈ sortS H) = true := decide_eq_true (hTm s hs)
      have ni := fun o => @notIn_strs o s (sortS H)
      dsimp? only [ni, c3]
    rw [List.filter_eq_nil_iff.mpr fun _ _ => by decide]
    dsimp? only [frzs_strs, hl, hl2]
    refine ⟨by omega, ?_⟩
    rw [Int.toNat_natCast]
    refine for_rule (fun i ρ => ∃ (o3 : Bool) (x5 : Option D), ρ = [some (LS false H), some (LS false T), some (LS o3 (sortS H)), some (iN (pRun H.length r i).1), some (iN (pRun H.length r i).2), x5, none]) _ 0 _ ⟨_, none, rfl⟩ (fun i a ρ hi hI => ?_) (fun ρ hI => ?_)
    · obtain ⟨o3, x5, rfl⟩ := hI
      rw [Nat.zero_add]
      obtain ⟨him, rfl⟩ := rng_nat_get hi
      rw [Int.zero_add]
      have hs := @pRun_succ H.length i r
      have hle := @pRun_le H.length i r
      generalize pRun H.length r i = s at hs hle
      obtain ⟨t, l⟩ := s
      simp only at hle
      have ei := eN i him
      have ii := fun o => @in_strs o ((sortS H).getD i "") T
      rw [hTi i him] at ii
      refine ⟨_, rfl, ?_⟩
      by_cases c : l > 0
      · have c' : (0 : Int) < (l : Int) := by omega
        by_cases c2 : i ∈ r
        · have c2' : decide (i ∈ r) = true := decide_eq_true c2
          have k2 : (l : Int) - 1 = ((l - 1 : Nat) : Int) := by omega
          have hs' : pRun H.length r (i + 1) = (t, l - 1) := by
            rw [hs]
            unfold pStep
            simp only
            rw [if_pos c, if_pos c2]
          dsimp? only [c', ei, ii, c2', k2, frzs_strs]
          rw [hs']
          exact ⟨_, _, rfl⟩
        · have c2' : decide (i ∈ r) = false := decide_eq_false c2
          have ec2 := e_choose (a := H.length - i - 1) (b := l - 1) (by omega) (by omega)
          have k1 : (H.length : Int) - (i : Int) - 1 = ((H.length - i - 1 : Nat) : Int) := by omega
          have k2 : (l : Int) - 1 = ((l - 1 : Nat) : Int) := by omega
          have hs' : pRun H.length r (i + 1) = (t + chs (H.length - i - 1) (l - 1), l) := by
            rw [hs]
            unfold pStep
            simp only
            rw [if_pos c, if_neg c2]
          dsimp? only [c', ei, ii, c2', hl, k1, k2, frzs_strs]
          rw [wF_eq ec2]
          have k3 : (t : Int) + (chs (H.length - i - 1) (l - 1) : Nat) = ((t + chs (H.length - i - 1) (l - 1) : Nat) : Int) := by omega
          dsimp? only [qC_eq, qC_if, k3]
          rw [hs']
          exact ⟨_, _, rfl⟩
      · have c' : ¬ (0 : Int) < (l : Int) := by omega
        have hs' : pRun H.length r (i + 1) = (t, l) := by rw [hs]; exact if_neg c
        dsimp? only [c']
        rw [hs']
        exact ⟨_, _, rfl⟩
    · obtain ⟨o3, x5, rfl⟩ := hI
      rw [List.length_map, rng_len, Nat.zero_add]
      dsimp? only [if_true]
end Law

namespace Law
open PySem PySem.Spec L2 DL
local macro_rules | `(tactic| dsimp? only [$ls,*]) => `(tactic| simp only [wE_sortS, wS_fzS, kFz_eq, wE_lcV, gLtX_i, gLtX_s, pQ_v, wE_lcX, wI_rng3, kR3_int, kR3b_int, kR3c_int, wE_ch3, kC3a_eq, kC3b_vv, kC3c_bl, wI_revS, kRv_str, items_str, wS_par, kPar_eq, kPar2_some, wS_asg, kAg_eq, kAg1_some, kAg2_some, tgsCons_c, tgK_some, tgsNil_n, tgTup_t, tgName_e, wE_methA, kMethA_eq, wE_lenS, wI_rng2, kR2_eq, kR2b_int, wF_fn, wS_seq, wS_set, wS_if, wS_expr, wS_ret, wS_retN, wS_next, wS_break, wS_cont, wS_raise, wS_forK, wE_int, wE_str, wE_bl, wE_non, wE_V, wE_op, wE_if, wE_and, wE_or, wE_not, wE_isI, wE_isI2, wE_call, wE_disp, wE_ck, wE_lcK, wE_chI, wE_lift, wE_app, wE_meth, kMeth_eq, kMe_l, kMr_some, wS_try, wE_isE, kIsE_s, kSuN_eq, kSuR_eq, noxE_nil, noxE_cons, noxO_n, noxO_s, nox_non, nox_bl, nox_int, nox_str, nox_lst, nox_tup, noxs_nil, noxs_cons, noxs_ints, wA_nil, wA_cons, wT_B, wT_tru, wT_not, wT_and, wT_or, wT_yes, wI_items, wI_rng1, kE_val, kE_slot, kES_some, items_l, items_t, wipe_n, wipe_c, frzs_ints, fzs_ints, clos_ints, qC_if, xC_eq, qC0_eq, xC0_eq, clos_nil, clos_cons, kV_some, pick_non, pick_bl, pick_int, pick_str, pick_node, kCons_eq, kCons2_eq, kOp_eq, kOpD_some, kOpR_some, kOpR_if, kB_eq, kTru_eq, kTruD_some, kTruB_some, kNot_eq, kIte_eq, kT_eq, kAnd_eq, kOr_eq, kNotV_eq, kIs_eq, kIsD_some, kIsT_some, kSt_val, kSt_slot, kStS_some, kNx_eq, kRt_val, kRt_slot, kRtS_some, kRs_eq, kCkO_eq, kCk_int, kIt_val, kIt_slot, kItS_some, kItD_some, kR1_int, kCall_N, kCN_some, kCall_0h, kC0_some, restE_nil, restE_cons, rsO_t, rsO_f, kDisp_eq, kDs_some, kOut_eq, kOutX_eq, kOO_some, kOX_some, kCh_val, kChD_int, kChE_int, kChF_int, kLiftO_some, kApp_val, kAppO_l, isLst_l, slotOf_0, slotOf_S, vw_val, vw_slot, vws_nil, vws_cons, vwsO_nil, vwsO_cons, vwsK_some, frz_non, frz_bl, frz_int, frz_str, frz_node, tr_non, tr_bl, tr_int, tr_lst, tr_tup, tr_ro, ty_non, ty_bl, ty_int, ty_str, ty_lst, ty_tup, is1_eq, is2_eq, sv_non, sv_bl, sv_int, sv_str, sv_node, fz_non, fz_bl, fz_int, fz_str, fz_node, clo_non, clo_bl, clo_int, clo_str, clo_node, isN_non, isN_bl, isN_int, isN_str, isN_node, isB_non, isB_bl, isB_int, isB_str, isB_node, frzs_nil, frzs_cons, fzs_nil, fzs_cons, tyIs_non_bool, tyIs_non_int, tyIs_non_str, tyIs_non_list, tyIs_non_tuple, tyIs_bool_bool, tyIs_bool_int, tyIs_bool_str, tyIs_bool_list, tyIs_bool_tuple, tyIs_int_bool, tyIs_int_int, tyIs_int_str, tyIs_int_list, tyIs_int_tuple, tyIs_str_bool, tyIs_str_int, tyIs_str_str, tyIs_str_list, tyIs_str_tuple, tyIs_list_bool, tyIs_list_int, tyIs_list_str, tyIs_list_list, tyIs_list_tuple, tyIs_tuple_bool, tyIs_tuple_int, tyIs_tuple_str, tyIs_tuple_list, tyIs_tuple_tuple, List.set_cons_zero, List.set_cons_succ, List.map_cons, List.map_nil, List.cons_append, List.nil_append, List.append_nil, List.length_cons, List.length_nil, List.replicate, gSub_ii, gMod_ii, gDiv_ii, gXor_ii, gAdd_ii, gMul_ii, gNeg_i, gEq_ii, gNe_ii, gEq_bb, gNe_bb, gEq_ss, gNe_ss, gLt_ii, gLe_ii, gGt_ii, gGe_ii, gInt_i, gAbs_i, gLen_l, gLen_t, gLen_r, gIsN_n, gNotN_n, gIsB_b, gNotB_b, gIx_l, gIx_t, gIx_r, wS_setIx, kSx_val, kSx1_s, kSxS_some, kSx2_l, kSxK_some, qVar_eq, pC_eq, at_nil, put_nil, argsD_nil, argsD_val, argsD_slotN, argsD_slot0, argsD_slot1, asO_some, asF_some, slotsOf_nil, slotsOf_val, slotsOf_slotN, slotsOf_slot1, frzS_nil, frzS_cons, frzE_nil, frzE_cons, frzO_f, frzO_n, frzO_t, argsOut_nil, argsOut_0, aoK_some, Option.map_some, Option.map_none, Option.some.injEq, List.contains_nil, Bool.false_eq_true, if_true, if_false, reduceCtorEq, eq_self, Bool.not_true, Bool.not_false, Bool.or_true, Bool.true_or, Bool.or_false, Bool.false_or, Bool.and_true, Bool.true_and, Bool.and_false, Bool.false_and, decide_eq_true_eq, Option.isSome_some, true_and, and_true, Nat.reduceBEq, Nat.reduceEqDiff, Nat.reduceLT, Nat.reduceAdd, Nat.reduceSub, Nat.reduceLeDiff, Int.reduceLT, Int.reduceLE, Int.reduceEq, Int.reduceNeg, Int.reduceToNat, decide_true, decide_false, Bool.not_eq_true, Bool.not_eq_false, List.getElem?_cons_zero, List.getElem?_cons_succ, List.contains_cons, Nat.zero_add, $ls,*])
theorem kn1 : known.contains "InvalidNumber" = true := by decide +kernel
theorem kn1' : known.contains "InvalidPaper" = true := by decide +kernel
theorem kn2 : subOf sub_PlotError "InvalidNumber" = true := by decide +kernel
theorem kn2' : subOf sub_PlotError "InvalidPaper" = true := by decide +kernel
theorem kn3 : subOf sub_InvalidNumber "InvalidNumber" = true := by decide +kernel
theorem kn3' : subOf sub_InvalidNumber "InvalidPaper" = false := by decide +kernel
theorem kn4 : subOf sub_InvalidPaper "InvalidNumber" = false := by decide +kernel
theorem kn4' : subOf sub_InvalidPaper "InvalidPaper" = true := by decide +kernel
theorem kn5 : subOf sub_VE "InvalidNumber" = true := by decide +kernel
theorem kn5' : subOf sub_VE "InvalidPaper" = true := by decide +kernel
theorem x_place {H : List Str} {d : Nat} {b : D} (hH : Nms H) (hn : H.length ≤ 7) (hd : d ≤ H.length) (hb : b = .int (-1) ∨ b = iN (chs H.length d) ∨ b = .bl true) : m_drawn_at [LS false H, iN d, b] = .ex "InvalidNumber" [LS false H, iN d, b] := by
  refine wF_ex ?_
  have hdd : dedupS H = H := dedupS_nodup hH.nd
  unfold m_drawn_at
  dsimp? only [frzs_strs]
  refine lc_map (emb := D.str) (fun s => D.str s) (fun _ => true) (by rfl) (by omega) (fun s hs => ⟨_, rfl, ?_⟩) ?_
  · dsimp? only [if_true]
  · rw [List.filter_eq_self.mpr fun _ _ => rfl]
    refine kSS_strs (by omega) ?_
    rw [hdd]
    have hl : ((sortS H).map D.str).length = H.length := by rw [List.length_map]; exact sort_len' H
    have hl2 : (H.map D.str).length = H.length := List.length_map _
    have c1 : ¬ (60 : Int) < H.length := by omega
    have c2 : ¬ (H.length : Int) < H.length := by omega
    dsimp? only [hl, hl2, c1, c2]
    rw [wF_eq (e_num _ _ _)]
    have c3 : (decide ((0 : Int) ≤ (d : Int)) && decide ((d : Int) ≤ (H.length : Int))) = true := by simp; omega
    dsimp? only [qC_eq, qC_if, hl, hl2, c3, frzs_strs]
    rcases hb with rfl | rfl | rfl
    · dsimp? only [argsOut_re, kOO_some]
    · have ec := e_choose (a := H.length) (b := d) hn (by omega)
      have c5 : ¬ ((chs H.length d : Nat) : Int) < (chs H.length d : Nat) := by omega
      have c4 : (0 : Int) ≤ (chs H.length d : Nat) := by omega
      dsimp? only [c4, hl]
      rw [wF_eq ec]
      dsimp? only [qC_eq, qC_if, hl, hl2, c5, frzs_strs, argsOut_re, kOO_some]
    · dsimp? only [argsOut_re, kOO_some]
theorem x_many {H : List Str} (hH : Nms H) (hn : H.length ≤ 7) : m_drawn_at [LS false H, .int ((H.length : Int) + 1), .int 0] = .ex "InvalidNumber" [LS false H, .int ((H.length : Int) + 1), .int 0] := by
  refine wF_ex ?_
  have hdd : dedupS H = H := dedupS_nodup hH.nd
  unfold m_drawn_at
  dsimp? only [frzs_strs]
  refine lc_map (emb := D.str) (fun s => D.str s) (fun _ => true) (by rfl) (by omega) (fun s hs => ⟨_, rfl, ?_⟩) ?_
  · dsimp? only [if_true]
  · rw [List.filter_eq_self.mpr fun _ _ => rfl]
    refine kSS_strs (by omega) ?_
    rw [hdd]
    have hl : ((sortS H).map D.str).length = H.length := by rw [List.length_map]; exact sort_len' H
    have hl2 : (H.map D.str).length = H.length := List.length_map _
    have c1 : ¬ (60 : Int) < H.length := by omega
    have c2 : ¬ (H.length : Int) < H.length := by omega
    dsimp? only [hl, hl2, c1, c2]
    rw [wF_eq (e_num _ _ _)]
    have c3 : (decide ((0 : Int) ≤ (H.length : Int) + 1) && decide ((H.length : Int) + 1 ≤ (H.length : Int))) = false := by simp; omega
    dsimp? only [qC_eq, qC_if, hl, hl2, c3, frzs_strs, argsOut_re, kOO_some]
theorem x_twice {L : List Str} (hn : L.length ≤ 60) (hs : (dedupS L).length < L.length) : m_drawn_at [LS false L, .int 1, .int 0] = .ex "InvalidNumber" [LS false L, .int 1, .int 0] := by
  refine wF_ex ?_
  unfold m_drawn_at
  dsimp? only [frzs_strs]
  refine lc_map (emb := D.str) (fun s => D.str s) (fun _ => true) (by rfl) (by omega) (fun s hs => ⟨_, rfl, ?_⟩) ?_
  · dsimp? only [if_true]
  · rw [List.filter_eq_self.mpr fun _ _ => rfl]
    refine kSS_strs (by omega) ?_
    have hl : ((sortS (dedupS L)).map D.str).length = (dedupS L).length := by rw [List.length_map]; exact sort_len' _
    have hl2 : (L.map D.str).length = L.length := List.length_map _
    have c1 : ¬ (60 : Int) < (dedupS L).length := by omega
    have c2 : ((dedupS L).length : Int) < L.length := by omega
    dsimp? only [hl, hl2, c1, c2, argsOut_re, kOO_some, frzs_strs, fzs_strs]
theorem wF_get0 {m : MF} {ds : List D} {x : D} (h : wF m (fun _ _ => False) (fun d ds' => d = x ∧ ds' = ds) ds) : m ds = .ok x ds := by
  obtain ⟨_, rfl, e⟩ := wF_get h
  exact e
def wideL : List Str := (List.range 61).map fun k => (("a" : Str) ++ ch (k % 26)) ++ ch (k / 26)
def twin : List Nat → Bool
  | x :: y :: r => x == y || twin (y :: r)
  | _ => false
theorem twin_app : ∀ (a : List Nat) {b : List Nat} {c : Nat}, twin (a ++ c :: c :: b) = true
  | [], b, c => by rw [List.nil_append, twin]; simp
  | [x], b, c => by rw [List.cons_append, List.nil_append, twin, twin]; simp
  | x :: y :: a, b, c => by
    have := twin_app (y :: a) (b := b) (c := c)
    rw [List.cons_append] at this
    rw [List.cons_append, List.cons_append, twin, this]
    simp
theorem nobody_dn : ¬ Dn ("nobodyhere" : Str) := by
  rintro (⟨n, h⟩ | ⟨a, b, c, h⟩)
  · have := congrArg (fun s => s.cps.size) h
    have e : ("nobodyhere" : Str).cps.size = 10 := by decide +kernel
    rw [e] at this
    cases this
  · have e : twin ("nobodyhere" : Str).cps.toList = false := by decide +kernel
    rw [h, twin_app] at e
    cases e
theorem x_nobody {H : List Str} (hH : Nms H) (hn : H.length ≤ 7) : m_place_of [LS false H, .node false .lst [.str "nobodyhere"]] = .ex "InvalidPaper" [LS false H, .node false .lst [.str "nobodyhere"]] := by
  refine wF_ex ?_
  have hdd : dedupS H = H := dedupS_nodup hH.nd
  have hno : ("nobodyhere" : Str) ∉ sortS H := fun q => by
    obtain ⟨q1, _⟩ := hH.dn _ ((sortS_perm H).mem_iff.mp q)
    exact nobody_dn q1
  have hw : Lws [("nobodyhere" : Str)] := fun s hs => by
    have : s = "nobodyhere" := by simpa using hs
    subst this
    exact fun c hc => of_decide_eq_true (List.all_eq_true.mp (show ("nobodyhere" : Str).cps.toList.all (fun c => decide (c < 1114112)) = true by decide +kernel) c hc)
  show wF m_place_of _ _ [LS false H, LS false ["nobodyhere"]]
  generalize hT : [("nobodyhere" : Str)] = T at hw
  unfold m_place_of
  dsimp? only [frzs_strs]
  refine lc_map (emb := D.str) (fun s => D.str s) (fun _ => true) (by rfl) (by omega) (fun s hs => ⟨_, rfl, ?_⟩) ?_
  · dsimp? only [if_true]
  · rw [List.filter_eq_self.mpr fun _ _ => rfl]
    refine kSS_strs (by omega) ?_
    rw [hdd]
    have hl : ((sortS H).map D.str).length = H.length := by rw [List.length_map]; exact sort_len' H
    have c1 : ¬ (60 : Int) < H.length := by omega
    have li := fun o => @list_d o (T.map .str) (fzs_strs T)
    have hT3 : T.length = 1 := by rw [← hT]; rfl
    dsimp? only [hl, c1, frzs_strs, li]
    refine lc_map (emb := D.str) (fun s => D.str s) (fun _ => true) (by rfl) (by omega) (fun s hs => ⟨_, rfl, ?_⟩) ?_
    · dsimp? only [if_true]
    rw [List.filter_eq_self.mpr fun _ _ => rfl]
    refine kSS_strs (by omega) ?_
    have hT2 : isort leS (dedupS T) = T := by rw [← hT]; rfl
    rw [hT2]
    have ne := fun o p => @ne_strs o p T T hw hw
    have c2 : decide (T = T) = true := decide_eq_true rfl
    dsimp? only [frzs_strs, ne, c2]
    refine lc_map (emb := D.str) (fun s => D.str s) (fun _ => true) (by rfl) (by omega) (fun s hs => ⟨_, rfl, ?_⟩) ?_
    · have : s = "nobodyhere" := by rw [← hT] at hs; simpa using hs
      have c3 : decide (s ∈ sortS H) = false := decide_eq_false (this ▸ hno)
      have ni := fun o => @notIn_strs o s (sortS H)
      dsimp? only [ni, c3]
    rw [List.filter_eq_self.mpr fun _ _ => rfl]
    have hT4 : (T.map D.str).isEmpty = false := by rw [← hT]; rfl
    dsimp? only [frzs_strs, argsOut_re, kOO_some, hT4]
    rw [← hT]
    rfl
theorem x_turned {H T : List Str} (hH : Nms H) (hn : H.length ≤ 7) (hw : Lws T) (hl2 : T.length ≤ 7) (hT : sortS (dedupS T) ≠ T) : m_place_of [LS false H, LS false T] = .ex "InvalidPaper" [LS false H, LS false T] := by
  refine wF_ex ?_
  have hdd : dedupS H = H := dedupS_nodup hH.nd
  unfold m_place_of
  dsimp? only [frzs_strs]
  refine lc_map (emb := D.str) (fun s => D.str s) (fun _ => true) (by rfl) (by omega) (fun s hs => ⟨_, rfl, ?_⟩) ?_
  · dsimp? only [if_true]
  · rw [List.filter_eq_self.mpr fun _ _ => rfl]
    refine kSS_strs (by omega) ?_
    rw [hdd]
    have hl : ((sortS H).map D.str).length = H.length := by rw [List.length_map]; exact sort_len' H
    have c1 : ¬ (60 : Int) < H.length := by omega
    have li := fun o => @list_d o (T.map .str) (fzs_strs T)
    dsimp? only [hl, c1, frzs_strs, li]
    refine lc_map (emb := D.str) (fun s => D.str s) (fun _ => true) (by rfl) (by omega) (fun s hs => ⟨_, rfl, ?_⟩) ?_
    · dsimp? only [if_true]
    rw [List.filter_eq_self.mpr fun _ _ => rfl]
    refine kSS_strs (by omega) ?_
    have hw2 : Lws (sortS (dedupS T)) := fun s hs => hw s (mem_dedupS.mp ((sortS_perm _).mem_iff.mp hs))
    generalize hU : sortS (dedupS T) = U at hT hw2
    rw [show isort leS (dedupS T) = U from hU]
    have ne := fun o p => @ne_strs o p T U hw hw2
    have c2 : decide (T = U) = false := decide_eq_false fun q => hT q.symm
    dsimp? only [frzs_strs, ne, c2, argsOut_re, kOO_some]
/-! ### refused -/
theorem ref0 {L : List Str} {a b : D} (ha : a.frz = a ∧ (∀ j, pickV j a = .val a) ∧ a.clo = true ∧ a.nox = true) (hb : b.frz = b ∧ (∀ j, pickV j b = .val b) ∧ b.clo = true ∧ b.nox = true) (h : m_drawn_at [LS false L, a, b] = .ex "InvalidNumber" [LS false L, a, b]) :
    m__law_refused [.int 0, LS false L, a, b] = .ok (.str "number") [.int 0, LS false L, a, b] := by
  refine wF_get0 ?_
  obtain ⟨a1, a2, a3, a4⟩ := ha
  obtain ⟨b1, b2, b3, b4⟩ := hb
  unfold m__law_refused
  dsimp? only [a1, a2, a3, a4, b1, b2, b3, b4, frzs_strs]
  refine wF_of' h ?_
  dsimp? only [kTry_eq, kn1, kn2, kn3, kn4, kn5, a1, a2, a3, a4, b1, b2, b3, b4, frzs_strs, clos_strs, noxs_strs]
theorem ref1 {L T : List Str} {b : D} (hb : b = .int 0) (h : m_place_of [LS false L, LS false T] = .ex "InvalidPaper" [LS false L, LS false T]) :
    m__law_refused [.int 1, LS false L, LS false T, b] = .ok (.str "paper") [.int 1, LS false L, LS false T, b] := by
  refine wF_get0 ?_
  subst hb
  unfold m__law_refused
  dsimp? only [frzs_strs]
  refine wF_of' h ?_
  dsimp? only [kTry_eq, kn1', kn2', kn3', kn4', kn5', frzs_strs, clos_strs, noxs_strs]
theorem wide_n : m__law_refused [.int 0, LS false wideL, .int 1, .int 0] = .ok (.str "number") [.int 0, LS false wideL, .int 1, .int 0] := RF.okb_eq (by decide +kernel)
theorem wide_p : m__law_refused [.int 1, LS false wideL, .node false .lst [], .int 0] = .ok (.str "paper") [.int 1, LS false wideL, .node false .lst [], .int 0] := RF.okb_eq (by decide +kernel)
theorem wide_d : m_drawn_at [LS false (wideL.take 60), .int 1, .int 59] = .ok (LS true ((sortS (wideL.take 60)).drop 59)) [LS false (wideL.take 60), .int 1, .int 59] := RF.okb_eq (by decide +kernel)
theorem big_1 {d : D} (h : d = .int 0 ∨ d = .int 61 ∨ d = .bl true) : m__law_refused [.int 2, .node false .lst [], d, .int 0] = .ok (.str "number") [.int 2, .node false .lst [], d, .int 0] := by
  rcases h with rfl | rfl | rfl <;> exact RF.okb_eq (by decide +kernel)
theorem big_2 {d : D} (h : d = .int 6 ∨ d = .int (-1) ∨ d = .bl true) : m__law_refused [.int 2, .node false .lst [], .int 5, d] = .ok (.str "number") [.int 2, .node false .lst [], .int 5, d] := by
  rcases h with rfl | rfl | rfl <;> exact RF.okb_eq (by decide +kernel)
theorem e_wnum {n d : Nat} (h0 : 0 < n) (hn : n ≤ 7) (hd : d ≤ n) : m_ways [iN n, iN d] = .ok (iN (chs n d)) [iN n, iN d] := by
  have h : ∀ a b : _root_.Fin 8, 0 < a.val → b ≤ a → (m_ways [iN a, iN b]).okb (iN (chs a b)) [iN a, iN b] = true := by decide +kernel
  exact RF.okb_eq (h ⟨n, by omega⟩ ⟨d, by omega⟩ h0 hd)
end Law

namespace Law
open PySem PySem.Spec L2 DL
local macro_rules | `(tactic| dsimp? only [$ls,*]) => `(tactic| simp only [wE_sortS, wS_fzS, kFz_eq, wE_lcV, gLtX_i, gLtX_s, pQ_v, wE_lcX, wI_rng3, kR3_int, kR3b_int, kR3c_int, wE_ch3, kC3a_eq, kC3b_vv, kC3c_bl, wI_revS, kRv_str, items_str, wS_par, kPar_eq, kPar2_some, wS_asg, kAg_eq, kAg1_some, kAg2_some, tgsCons_c, tgK_some, tgsNil_n, tgTup_t, tgName_e, wE_methA, kMethA_eq, wE_lenS, wI_rng2, kR2_eq, kR2b_int, wF_fn, wS_seq, wS_set, wS_if, wS_expr, wS_ret, wS_retN, wS_next, wS_break, wS_cont, wS_raise, wS_forK, wE_int, wE_str, wE_bl, wE_non, wE_V, wE_op, wE_if, wE_and, wE_or, wE_not, wE_isI, wE_isI2, wE_call, wE_disp, wE_ck, wE_lcK, wE_chI, wE_lift, wE_app, wE_meth, kMeth_eq, kMe_l, kMr_some, wS_try, wE_isE, kIsE_s, kSuN_eq, kSuR_eq, noxE_nil, noxE_cons, noxO_n, noxO_s, nox_non, nox_bl, nox_int, nox_str, nox_lst, nox_tup, noxs_nil, noxs_cons, noxs_ints, wA_nil, wA_cons, wT_B, wT_tru, wT_not, wT_and, wT_or, wT_yes, wI_items, wI_rng1, kE_val, kE_slot, kES_some, items_l, items_t, wipe_n, wipe_c, frzs_ints, fzs_ints, clos_ints, qC_if, xC_eq, qC0_eq, xC0_eq, clos_nil, clos_cons, kV_some, pick_non, pick_bl, pick_int, pick_str, pick_node, kCons_eq, kCons2_eq, kOp_eq, kOpD_some, kOpR_some, kOpR_if, kB_eq, kTru_eq, kTruD_some, kTruB_some, kNot_eq, kIte_eq, kT_eq, kAnd_eq, kOr_eq, kNotV_eq, kIs_eq, kIsD_some, kIsT_some, kSt_val, kSt_slot, kStS_some, kNx_eq, kRt_val, kRt_slot, kRtS_some, kRs_eq, kCkO_eq, kCk_int, kIt_val, kIt_slot, kItS_some, kItD_some, kR1_int, kCall_N, kCN_some, kCall_0h, kC0_some, restE_nil, restE_cons, rsO_t, rsO_f, kDisp_eq, kDs_some, kOut_eq, kOutX_eq, kOO_some, kOX_some, kCh_val, kChD_int, kChE_int, kChF_int, kLiftO_some, kApp_val, kAppO_l, isLst_l, slotOf_0, slotOf_S, vw_val, vw_slot, vws_nil, vws_cons, vwsO_nil, vwsO_cons, vwsK_some, frz_non, frz_bl, frz_int, frz_str, frz_node, tr_non, tr_bl, tr_int, tr_lst, tr_tup, tr_ro, ty_non, ty_bl, ty_int, ty_str, ty_lst, ty_tup, is1_eq, is2_eq, sv_non, sv_bl, sv_int, sv_str, sv_node, fz_non, fz_bl, fz_int, fz_str, fz_node, clo_non, clo_bl, clo_int, clo_str, clo_node, isN_non, isN_bl, isN_int, isN_str, isN_node, isB_non, isB_bl, isB_int, isB_str, isB_node, frzs_nil, frzs_cons, fzs_nil, fzs_cons, tyIs_non_bool, tyIs_non_int, tyIs_non_str, tyIs_non_list, tyIs_non_tuple, tyIs_bool_bool, tyIs_bool_int, tyIs_bool_str, tyIs_bool_list, tyIs_bool_tuple, tyIs_int_bool, tyIs_int_int, tyIs_int_str, tyIs_int_list, tyIs_int_tuple, tyIs_str_bool, tyIs_str_int, tyIs_str_str, tyIs_str_list, tyIs_str_tuple, tyIs_list_bool, tyIs_list_int, tyIs_list_str, tyIs_list_list, tyIs_list_tuple, tyIs_tuple_bool, tyIs_tuple_int, tyIs_tuple_str, tyIs_tuple_list, tyIs_tuple_tuple, List.set_cons_zero, List.set_cons_succ, List.map_cons, List.map_nil, List.cons_append, List.nil_append, List.append_nil, List.length_cons, List.length_nil, List.replicate, gSub_ii, gMod_ii, gDiv_ii, gXor_ii, gAdd_ii, gMul_ii, gNeg_i, gEq_ii, gNe_ii, gEq_bb, gNe_bb, gEq_ss, gNe_ss, gLt_ii, gLe_ii, gGt_ii, gGe_ii, gInt_i, gAbs_i, gLen_l, gLen_t, gLen_r, gIsN_n, gNotN_n, gIsB_b, gNotB_b, gIx_l, gIx_t, gIx_r, wS_setIx, kSx_val, kSx1_s, kSxS_some, kSx2_l, kSxK_some, qVar_eq, pC_eq, at_nil, put_nil, argsD_nil, argsD_val, argsD_slotN, argsD_slot0, argsD_slot1, asO_some, asF_some, slotsOf_nil, slotsOf_val, slotsOf_slotN, slotsOf_slot1, frzS_nil, frzS_cons, frzE_nil, frzE_cons, frzO_f, frzO_n, frzO_t, argsOut_nil, argsOut_0, aoK_some, Option.map_some, Option.map_none, Option.some.injEq, List.contains_nil, Bool.false_eq_true, if_true, if_false, reduceCtorEq, eq_self, Bool.not_true, Bool.not_false, Bool.or_true, Bool.true_or, Bool.or_false, Bool.false_or, Bool.and_true, Bool.true_and, Bool.and_false, Bool.false_and, decide_eq_true_eq, Option.isSome_some, true_and, and_true, Nat.reduceBEq, Nat.reduceEqDiff, Nat.reduceLT, Nat.reduceAdd, Nat.reduceSub, Nat.reduceLeDiff, Int.reduceLT, Int.reduceLE, Int.reduceEq, Int.reduceNeg, Int.reduceToNat, decide_true, decide_false, Bool.not_eq_true, Bool.not_eq_false, List.getElem?_cons_zero, List.getElem?_cons_succ, List.contains_cons, Nat.zero_add, $ls,*])
theorem Nms.take {l : List Str} (h : Nms l) (n : Nat) : Nms (l.take n) := ⟨h.nd.sublist (List.take_sublist _ _), fun s hs => h.lw s (List.mem_of_mem_take hs), fun s hs => h.dn s (List.mem_of_mem_take hs)⟩
theorem same_strs {l : List Str} (h : l.length < 16777216) : m__law_same 6 [LS false l, LS false l] = .ok (.bl true) [LS false l, LS false l] := same_ok 6 _ ⟨fzs_strs l, by rw [List.length_map]; exact h, fun x hx => by
  obtain ⟨i, _, rfl⟩ := List.mem_map.mp hx
  trivial⟩
theorem clos_rows (N : List Str) : ∀ {l : List (List Nat)}, 0 < l.length → D.clos (l.map (rowD false N)) = false
  | [], h => absurd h (Nat.lt_irrefl 0)
  | r :: t, _ => by
    rw [List.map_cons, D.clos]
    show (D.clo (.node false .lst ((nsOf N r).map .str)) && _) = false
    rw [clo_node]
    rfl
theorem dedup_lt : ∀ {l : List Str}, (dedupS l).length ≤ l.length ∧ (¬ l.Nodup → (dedupS l).length < l.length)
  | [] => ⟨Nat.le_refl _, fun h => absurd .nil h⟩
  | s :: r => by
    obtain ⟨h1, h2⟩ := @dedup_lt r
    rw [dedupS]
    by_cases c : r.contains s = true
    · rw [if_pos c, List.length_cons]
      exact ⟨by omega, fun _ => by omega⟩
    · rw [if_neg c, List.length_cons, List.length_cons]
      refine ⟨by omega, fun h => ?_⟩
      have : ¬ r.Nodup := fun q => h (List.nodup_cons.mpr ⟨fun z => c (List.contains_iff_mem.mpr z), q⟩)
      have := h2 this
      omega
theorem tab_c : ∀ n d : _root_.Fin 8, d ≤ n → 0 < chs n d := by decide +kernel
theorem law_true : LawTrue m_law := by
  intro ns hl
  apply wF_true
  obtain ⟨p0, hp0, e0⟩ := pool_ok ns hl
  have kp0 := @pick_pool p0 hp0
  unfold m_law
  dsimp? only [frz_node]
  refine wF_of e0 ?_
  have hp := hp0
  obtain ⟨s, a, b, c, e, rfl, ha, hs⟩ := hp
  dsimp? only [if_true]
  refine names_ok (m := 7) hp0 (by decide) fun l p1 hnm hl7 hp1 => ?_
  have kp1 := @pick_pool p1 hp1
  clear hp0 kp0 e0
  dsimp? only [kp1]
  refine draw_n hp1 (by decide) (by decide) fun r p2 hr hp2 => ?_
  have kp2 := @pick_pool p2 hp2
  have sl := fun o => @slH_d o (l.map .str) r (fzs_strs l)
  rw [← List.map_take] at sl
  have hH := hnm.take r
  have hHl : (l.take r).length ≤ 7 := by rw [List.length_take]; omega
  generalize l.take r = H at sl hH hHl
  have so := fun o => @sorted_strs o H
  have hnl : (sortS H).length = H.length := sort_len' H
  have S := srt_of hH
  dsimp? only [sl, frzs_strs, so, kp2, List.length_map, hnl]
  refine draw_n hp2 (by omega) (by omega) fun d p3 hd hp3 => ?_
  have kp3 := @pick_pool p3 hp3
  have ew := e_ways S (d := d) (by omega) (by omega)
  dsimp? only [kp3, frzs_strs]
  rw [wF_eq ew]
  rw [hnl]
  have hdn : d ≤ H.length := by omega
  have hC0 : (combos H.length d).length = chs H.length d ∧ chs H.length d ≤ 35 ∧ ∀ p, p < chs H.length d → (dRun H.length d p H.length).2.2 = (combos H.length d).getD p [] := tab_d ⟨H.length, by omega⟩ ⟨d, by omega⟩ hdn
  have hC1 : ∀ r ∈ combos H.length d, r.length = d ∧ r.length ≤ 7 ∧ (∀ i ∈ r, i < H.length) ∧ r.Pairwise (· < ·) := tab_p ⟨H.length, by omega⟩ ⟨d, by omega⟩
  have hC2 : ∀ p, p < chs H.length d → (pRun H.length ((combos H.length d).getD p []) H.length).1 = p := tab_p2 ⟨H.length, by omega⟩ ⟨d, by omega⟩ hdn
  have hC3 : 0 < chs H.length d := tab_c ⟨H.length, by omega⟩ ⟨d, by omega⟩ hdn
  have hx : ∀ p, p < chs H.length d → m_drawn_at [LS false H, iN d, iN p] = .ok (LS true (nsOf (sortS H) ((combos H.length d).getD p []))) [LS false H, iN d, iN p] := fun p hp => by
    rw [← hC0.2.2 p hp]
    exact e_drawn hH hHl hdn hp
  have hy : ∀ p, p < chs H.length d → m_place_of [LS false H, LS false (nsOf (sortS H) ((combos H.length d).getD p []))] = .ok (iN p) [LS false H, LS false (nsOf (sortS H) ((combos H.length d).getD p []))] := fun p hp => by
    have hm : (combos H.length d).getD p [] ∈ combos H.length d := by
      have hp' : p < (combos H.length d).length := by omega
      rw [List.getD_eq_getElem?_getD, List.getElem?_eq_getElem hp', Option.getD_some]
      exact List.getElem_mem hp'
    obtain ⟨q1, q2, q3, q4⟩ := hC1 _ hm
    have := e_place hH hHl q2 q3 q4
    rwa [hC2 p hp] at this
  have hCl := hC0.1
  have hCb := hC0.2.1
  generalize combos H.length d = CB at hC0 hC1 hC2 hx hy hCl
  have hL : (CB.map (rowD false (sortS H))).length = chs H.length d := by rw [List.length_map]; exact hCl
  have hLN : ((sortS H).map D.str).length = H.length := by rw [List.length_map]; exact hnl
  have hLH : (H.map D.str).length = H.length := List.length_map _
  have hcl := clos_rows (sortS H) (l := CB) (by omega)
  simp only [wE_sortS, wS_fzS, kFz_eq, wE_lcV, gLtX_i, gLtX_s, pQ_v, wE_lcX, wI_rng3, kR3_int, kR3b_int, kR3c_int, wE_ch3, kC3a_eq, kC3b_vv, kC3c_bl, wI_revS, kRv_str, items_str, wS_par, kPar_eq, kPar2_some, wS_asg, kAg_eq, kAg1_some, kAg2_some, tgsCons_c, tgK_some, tgsNil_n, tgTup_t, tgName_e, wE_methA, kMethA_eq, wE_lenS, wI_rng2, kR2_eq, kR2b_int, wF_fn, wS_seq, wS_set, wS_expr, wS_ret, wS_retN, wS_next, wS_break, wS_cont, wS_raise, wS_forK, wE_int, wE_str, wE_bl, wE_non, wE_V, wE_op, wE_if, wE_and, wE_or, wE_not, wE_isI, wE_isI2, wE_call, wE_disp, wE_ck, wE_lcK, wE_chI, wE_lift, wE_app, wE_meth, kMeth_eq, kMe_l, kMr_some, wS_try, wE_isE, kIsE_s, kSuN_eq, kSuR_eq, noxE_nil, noxE_cons, noxO_n, noxO_s, nox_non, nox_bl, nox_int, nox_str, nox_lst, nox_tup, noxs_nil, noxs_cons, noxs_ints, wA_nil, wA_cons, wT_B, wT_tru, wT_not, wT_and, wT_or, wT_yes, wI_items, wI_rng1, kE_val, kE_slot, kES_some, items_l, items_t, wipe_n, wipe_c, frzs_ints, fzs_ints, clos_ints, qC_if, xC_eq, qC0_eq, xC0_eq, clos_nil, clos_cons, kV_some, pick_non, pick_bl, pick_int, pick_str, pick_node, kCons_eq, kCons2_eq, kOp_eq, kOpD_some, kOpR_some, kOpR_if, kB_eq, kTru_eq, kTruD_some, kTruB_some, kNot_eq, kIte_eq, kT_eq, kAnd_eq, kOr_eq, kNotV_eq, kIs_eq, kIsD_some, kIsT_some, kSt_val, kSt_slot, kStS_some, kNx_eq, kRt_val, kRt_slot, kRtS_some, kRs_eq, kCkO_eq, kCk_int, kIt_val, kIt_slot, kItS_some, kItD_some, kR1_int, kCall_N, kCN_some, kCall_0h, kC0_some, restE_nil, restE_cons, rsO_t, rsO_f, kDisp_eq, kDs_some, kOut_eq, kOutX_eq, kOO_some, kOX_some, kCh_val, kChD_int, kChE_int, kChF_int, kLiftO_some, kApp_val, kAppO_l, isLst_l, slotOf_0, slotOf_S, vw_val, vw_slot, vws_nil, vws_cons, vwsO_nil, vwsO_cons, vwsK_some, frz_non, frz_bl, frz_int, frz_str, frz_node, tr_non, tr_bl, tr_int, tr_lst, tr_tup, tr_ro, ty_non, ty_bl, ty_int, ty_str, ty_lst, ty_tup, is1_eq, is2_eq, sv_non, sv_bl, sv_int, sv_str, sv_node, fz_non, fz_bl, fz_int, fz_str, fz_node, clo_non, clo_bl, clo_int, clo_str, clo_node, isN_non, isN_bl, isN_int, isN_str, isN_node, isB_non, isB_bl, isB_int, isB_str, isB_node, frzs_nil, frzs_cons, fzs_nil, fzs_cons, tyIs_non_bool, tyIs_non_int, tyIs_non_str, tyIs_non_list, tyIs_non_tuple, tyIs_bool_bool, tyIs_bool_int, tyIs_bool_str, tyIs_bool_list, tyIs_bool_tuple, tyIs_int_bool, tyIs_int_int, tyIs_int_str, tyIs_int_list, tyIs_int_tuple, tyIs_str_bool, tyIs_str_int, tyIs_str_str, tyIs_str_list, tyIs_str_tuple, tyIs_list_bool, tyIs_list_int, tyIs_list_str, tyIs_list_list, tyIs_list_tuple, tyIs_tuple_bool, tyIs_tuple_int, tyIs_tuple_str, tyIs_tuple_list, tyIs_tuple_tuple, List.set_cons_zero, List.set_cons_succ, List.map_cons, List.map_nil, List.cons_append, List.nil_append, List.append_nil, List.length_cons, List.length_nil, List.replicate, gSub_ii, gMod_ii, gDiv_ii, gXor_ii, gAdd_ii, gMul_ii, gNeg_i, gEq_ii, gNe_ii, gEq_bb, gNe_bb, gEq_ss, gNe_ss, gLt_ii, gLe_ii, gGt_ii, gGe_ii, gInt_i, gAbs_i, gLen_l, gLen_t, gLen_r, gIsN_n, gNotN_n, gIsB_b, gNotB_b, gIx_l, gIx_t, gIx_r, wS_setIx, kSx_val, kSx1_s, kSxS_some, kSx2_l, kSxK_some, qVar_eq, pC_eq, at_nil, put_nil, argsD_nil, argsD_val, argsD_slotN, argsD_slot0, argsD_slot1, asO_some, asF_some, slotsOf_nil, slotsOf_val, slotsOf_slotN, slotsOf_slot1, frzS_nil, frzS_cons, frzE_nil, frzE_cons, frzO_f, frzO_n, frzO_t, argsOut_nil, argsOut_0, aoK_some, Option.map_some, Option.map_none, Option.some.injEq, List.contains_nil, Bool.false_eq_true, if_true, if_false, reduceCtorEq, eq_self, Bool.not_true, Bool.not_false, Bool.or_true, Bool.true_or, Bool.or_false, Bool.false_or, Bool.and_true, Bool.true_and, Bool.and_false, Bool.false_and, decide_eq_true_eq, Option.isSome_some, true_and, and_true, Nat.reduceBEq, Nat.reduceEqDiff, Nat.reduceLT, Nat.reduceAdd, Nat.reduceSub, Nat.reduceLeDiff, Int.reduceLT, Int.reduceLE, Int.reduceEq, Int.reduceNeg, Int.reduceToNat, decide_true, decide_false, Bool.not_eq_true, Bool.not_eq_false, List.getElem?_cons_zero, List.getElem?_cons_succ, List.contains_cons, Nat.zero_add, frzs_strs, hcl]
  rw [mk_if]
  refine cut_nx (fun ρ' => ρ' = [some (.node false .ro (ns.map .int)), some p3, some (LS true H), some (LS false (sortS H)), some (iN d), some (.node true .lst (CB.map (rowD false (sortS H)))), none, none, none, none, none]) ?_ (fun ρ' hρ K hK => ?_)
  · by_cases c : 0 < H.length
    · have c' : (0 : Int) < (H.length : Int) := by omega
      have e1 := e_wnum (d := d) c hHl hdn
      dsimp? only [hLN, c']
      rw [wF_eq e1]
      dsimp? only [qC_eq, qC_if, frz_rows, hL]
      rw [wF_eq same_int]
      dsimp? only [qC_eq, qC_if]
    · have c' : ¬ (0 : Int) < (H.length : Int) := by omega
      dsimp? only [hLN, c']
  subst hρ
  rw [hK]
  clear hK K
  dsimp? only [if_true]
  refine ⟨by decide, ?_⟩
  refine for_rule (fun i ρ => ∃ (p : D) (x6 x7 : Option D), Pool p ∧ (x6 = none ∨ ∃ k, x6 = some (.int k)) ∧ ρ = [some (.node false .ro (ns.map .int)), some p, some (LS true H), some (LS false (sortS H)), some (iN d), some (.node true .lst (CB.map (rowD false (sortS H)))), x6, x7, none, none, none]) _ 0 _ ⟨p3, none, none, hp3, .inl rfl, rfl⟩ (fun i a ρ hi hI => ?_) (fun ρ hI => ?_)
  · obtain ⟨p, x6, x7, hp, _, rfl⟩ := hI
    obtain ⟨_, rfl⟩ := rng_nat_get hi
    have kp := @pick_pool p hp
    refine ⟨_, rfl, ?_⟩
    dsimp? only [kp, hL]
    refine draw_n hp (by omega) (by omega) fun q p' hq hp' => ?_
    have kp' := @pick_pool p' hp'
    have hq' : q < chs H.length d := by omega
    have li := fun o => @list_d o (H.map .str) (fzs_strs H)
    have hrow : ixD (CB.map (rowD false (sortS H))) (q : Int) = some (LS false (nsOf (sortS H) (CB.getD q []))) := by
      have hq2 : q < CB.length := by omega
      refine ixD_at (by omega) ?_ ?_
      · rw [Int.toNat_natCast, List.getElem?_map, List.getD_eq_getElem?_getD, List.getElem?_eq_getElem hq2]
        rfl
      · show D.fz (.node false .lst ((nsOf _ _).map .str)) = true
        rw [fz_node, fzs_strs]
        rfl
    have e1 := hx q hq'
    have e2 := hy q hq'
    have hrl : (nsOf (sortS H) (CB.getD q [])).length < 16777216 := by
      have hq2 : q < CB.length := by omega
      have hm : CB.getD q [] ∈ CB := by
        rw [List.getD_eq_getElem?_getD, List.getElem?_eq_getElem hq2, Option.getD_some]
        exact List.getElem_mem hq2
      have := (hC1 _ hm).2.1
      show (List.map _ _).length < _
      rw [List.length_map]
      omega
    have e3 := same_strs hrl
    generalize nsOf (sortS H) (CB.getD q []) = T at hrow e1 e2 e3
    have li2 := fun o => @list_d o (T.map .str) (fzs_strs T)
    dsimp? only [kp', li, frzs_strs]
    rw [wF_eq e1]
    dsimp? only [qC_eq, qC_if, frzs_strs, clos_strs, hrow]
    rw [wF_eq e3]
    dsimp? only [qC_eq, qC_if, frzs_strs, clos_strs, hrow, li, li2]
    rw [wF_eq e2]
    dsimp? only [qC_eq, qC_if, frzs_strs, clos_strs]
    rw [wF_eq same_int]
    dsimp? only [qC_eq, qC_if, kp']
    exact ⟨_, _, _, hp', .inr ⟨_, rfl⟩, rfl⟩
  · obtain ⟨p, x6, x7, hp, hx6, rfl⟩ := hI
    have kp := @pick_pool p hp
    dsimp? only [hL, kp]
    refine for_rule (fun i ρ => ∃ (x8 : Option D), ρ = [some (.node false .ro (ns.map .int)), some p, some (LS true H), some (LS false (sortS H)), some (iN d), some (.node true .lst (CB.map (rowD false (sortS H)))), x6, x7, x8, none, none]) _ 0 _ ⟨none, rfl⟩ (fun i a ρ hi hI => ?_) (fun ρ hI => ?_)
    · obtain ⟨x8, rfl⟩ := hI
      have hb : a = .int (-1) ∨ a = iN (chs H.length d) ∨ a = .bl true := by
        have := List.mem_of_getElem? hi
        simpa using this
      have hb2 : a.frz = a ∧ (∀ j, pickV j a = .val a) ∧ a.clo = true ∧ a.nox = true := by
        rcases hb with rfl | rfl | rfl <;> exact ⟨rfl, fun _ => rfl, rfl, rfl⟩
      have e1 := ref0 ⟨rfl, fun _ => rfl, rfl, rfl⟩ hb2 (x_place hH hHl hdn hb)
      obtain ⟨b1, b2, b3, b4⟩ := hb2
      refine ⟨_, rfl, ?_⟩
      dsimp? only [b1, b2, b3, b4, frzs_strs]
      rw [wF_eq e1]
      dsimp? only [qC_eq, qC_if, b1, b2, b3, b4]
      exact ⟨_, rfl⟩
    · obtain ⟨x8, rfl⟩ := hI
      have r1 := ref0 ⟨rfl, fun _ => rfl, rfl, rfl⟩ ⟨rfl, fun _ => rfl, rfl, rfl⟩ (x_many hH hHl)
      have r2 := ref1 (T := ["nobodyhere"]) rfl (x_nobody hH hHl)
      dsimp? only [hLN, frzs_strs]
      rw [wF_eq r1]
      dsimp? only [qC_eq, qC_if, frzs_strs]
      rw [show D.node false Kd.lst [D.str "nobodyhere"] = LS false ["nobodyhere"] from rfl, wF_eq r2]
      simp only [wE_sortS, wS_fzS, kFz_eq, wE_lcV, gLtX_i, gLtX_s, pQ_v, wE_lcX, wI_rng3, kR3_int, kR3b_int, kR3c_int, wE_ch3, kC3a_eq, kC3b_vv, kC3c_bl, wI_revS, kRv_str, items_str, wS_par, kPar_eq, kPar2_some, wS_asg, kAg_eq, kAg1_some, kAg2_some, tgsCons_c, tgK_some, tgsNil_n, tgTup_t, tgName_e, wE_methA, kMethA_eq, wE_lenS, wI_rng2, kR2_eq, kR2b_int, wF_fn, wS_seq, wS_set, wS_expr, wS_ret, wS_retN, wS_next, wS_break, wS_cont, wS_raise, wS_forK, wE_int, wE_str, wE_bl, wE_non, wE_V, wE_op, wE_if, wE_and, wE_or, wE_not, wE_isI, wE_isI2, wE_call, wE_disp, wE_ck, wE_lcK, wE_chI, wE_lift, wE_app, wE_meth, kMeth_eq, kMe_l, kMr_some, wS_try, wE_isE, kIsE_s, kSuN_eq, kSuR_eq, noxE_nil, noxE_cons, noxO_n, noxO_s, nox_non, nox_bl, nox_int, nox_str, nox_lst, nox_tup, noxs_nil, noxs_cons, noxs_ints, wA_nil, wA_cons, wT_B, wT_tru, wT_not, wT_and, wT_or, wT_yes, wI_items, wI_rng1, kE_val, kE_slot, kES_some, items_l, items_t, wipe_n, wipe_c, frzs_ints, fzs_ints, clos_ints, qC_if, xC_eq, qC0_eq, xC0_eq, clos_nil, clos_cons, kV_some, pick_non, pick_bl, pick_int, pick_str, pick_node, kCons_eq, kCons2_eq, kOp_eq, kOpD_some, kOpR_some, kOpR_if, kB_eq, kTru_eq, kTruD_some, kTruB_some, kNot_eq, kIte_eq, kT_eq, kAnd_eq, kOr_eq, kNotV_eq, kIs_eq, kIsD_some, kIsT_some, kSt_val, kSt_slot, kStS_some, kNx_eq, kRt_val, kRt_slot, kRtS_some, kRs_eq, kCkO_eq, kCk_int, kIt_val, kIt_slot, kItS_some, kItD_some, kR1_int, kCall_N, kCN_some, kCall_0h, kC0_some, restE_nil, restE_cons, rsO_t, rsO_f, kDisp_eq, kDs_some, kOut_eq, kOutX_eq, kOO_some, kOX_some, kCh_val, kChD_int, kChE_int, kChF_int, kLiftO_some, kApp_val, kAppO_l, isLst_l, slotOf_0, slotOf_S, vw_val, vw_slot, vws_nil, vws_cons, vwsO_nil, vwsO_cons, vwsK_some, frz_non, frz_bl, frz_int, frz_str, frz_node, tr_non, tr_bl, tr_int, tr_lst, tr_tup, tr_ro, ty_non, ty_bl, ty_int, ty_str, ty_lst, ty_tup, is1_eq, is2_eq, sv_non, sv_bl, sv_int, sv_str, sv_node, fz_non, fz_bl, fz_int, fz_str, fz_node, clo_non, clo_bl, clo_int, clo_str, clo_node, isN_non, isN_bl, isN_int, isN_str, isN_node, isB_non, isB_bl, isB_int, isB_str, isB_node, frzs_nil, frzs_cons, fzs_nil, fzs_cons, tyIs_non_bool, tyIs_non_int, tyIs_non_str, tyIs_non_list, tyIs_non_tuple, tyIs_bool_bool, tyIs_bool_int, tyIs_bool_str, tyIs_bool_list, tyIs_bool_tuple, tyIs_int_bool, tyIs_int_int, tyIs_int_str, tyIs_int_list, tyIs_int_tuple, tyIs_str_bool, tyIs_str_int, tyIs_str_str, tyIs_str_list, tyIs_str_tuple, tyIs_list_bool, tyIs_list_int, tyIs_list_str, tyIs_list_list, tyIs_list_tuple, tyIs_tuple_bool, tyIs_tuple_int, tyIs_tuple_str, tyIs_tuple_list, tyIs_tuple_tuple, List.set_cons_zero, List.set_cons_succ, List.map_cons, List.map_nil, List.cons_append, List.nil_append, List.append_nil, List.length_cons, List.length_nil, List.replicate, gSub_ii, gMod_ii, gDiv_ii, gXor_ii, gAdd_ii, gMul_ii, gNeg_i, gEq_ii, gNe_ii, gEq_bb, gNe_bb, gEq_ss, gNe_ss, gLt_ii, gLe_ii, gGt_ii, gGe_ii, gInt_i, gAbs_i, gLen_l, gLen_t, gLen_r, gIsN_n, gNotN_n, gIsB_b, gNotB_b, gIx_l, gIx_t, gIx_r, wS_setIx, kSx_val, kSx1_s, kSxS_some, kSx2_l, kSxK_some, qVar_eq, pC_eq, at_nil, put_nil, argsD_nil, argsD_val, argsD_slotN, argsD_slot0, argsD_slot1, asO_some, asF_some, slotsOf_nil, slotsOf_val, slotsOf_slotN, slotsOf_slot1, frzS_nil, frzS_cons, frzE_nil, frzE_cons, frzO_f, frzO_n, frzO_t, argsOut_nil, argsOut_0, aoK_some, Option.map_some, Option.map_none, Option.some.injEq, List.contains_nil, Bool.false_eq_true, if_true, if_false, reduceCtorEq, eq_self, Bool.not_true, Bool.not_false, Bool.or_true, Bool.true_or, Bool.or_false, Bool.false_or, Bool.and_true, Bool.true_and, Bool.and_false, Bool.false_and, decide_eq_true_eq, Option.isSome_some, true_and, and_true, Nat.reduceBEq, Nat.reduceEqDiff, Nat.reduceLT, Nat.reduceAdd, Nat.reduceSub, Nat.reduceLeDiff, Int.reduceLT, Int.reduceLE, Int.reduceEq, Int.reduceNeg, Int.reduceToNat, decide_true, decide_false, Bool.not_eq_true, Bool.not_eq_false, List.getElem?_cons_zero, List.getElem?_cons_succ, List.contains_cons, Nat.zero_add, qC_eq, qC_if, frzs_strs]
      rw [mk_if]
      refine cut_nx (fun ρ' => ρ' = [some (.node false .ro (ns.map .int)), some p, some (LS true H), some (LS false (sortS H)), some (iN d), some (.node true .lst (CB.map (rowD false (sortS H)))), x6, x7, x8, none, none]) ?_ (fun ρ' hρ K hK => ?_)
      · by_cases c : 1 < H.length
        · have c' : (1 : Int) < (H.length : Int) := by omega
          have g0 : ixD ((sortS H).map .str) 0 = some (.str ((sortS H).getD 0 "")) := by
            have h' : 0 < (sortS H).length := by omega
            refine ix_strs (i := 0) ?_
            rw [List.getD_eq_getElem?_getD, List.getElem?_eq_getElem h', Option.getD_some]
          have g1 : ixD ((sortS H).map .str) 1 = some (.str ((sortS H).getD 1 "")) := by
            have h' : 1 < (sortS H).length := by omega
            refine ix_strs (i := 1) ?_
            rw [List.getD_eq_getElem?_getD, List.getElem?_eq_getElem h', Option.getD_some]
          have h0' : 0 < (sortS H).length := by omega
          have h1' : 1 < (sortS H).length := by omega
          have hst := S.st 0 1 (by decide) h1'
          have m0 := getD_mem h0'
          have m1 := getD_mem h1'
          have hu : Lws [(sortS H).getD 1 "", (sortS H).getD 0 ""] := fun s hs => by
            rcases List.mem_cons.mp hs with rfl | hs
            · exact S.lw _ m1
            · rcases List.mem_cons.mp hs with rfl | hs
              · exact S.lw _ m0
              · cases hs
          have hne : (sortS H).getD 1 "" ∉ [(sortS H).getD 0 ""] := fun q => by
            have q2 : (sortS H).getD 1 "" = (sortS H).getD 0 "" := by simpa using q
            rw [q2] at hst
            exact absurd hst (List.lt_irrefl _)
          have hdT : dedupS [(sortS H).getD 1 "", (sortS H).getD 0 ""] = [(sortS H).getD 1 "", (sortS H).getD 0 ""] := dedupS_nodup (List.nodup_cons.mpr ⟨hne, List.nodup_cons.mpr ⟨(fun q => nomatch q), .nil⟩⟩)
          have hst2 : sortS (dedupS [(sortS H).getD 1 "", (sortS H).getD 0 ""]) ≠ [(sortS H).getD 1 "", (sortS H).getD 0 ""] := fun q => by
            have pw := sortS_pw (dedupS [(sortS H).getD 1 "", (sortS H).getD 0 ""])
            rw [q, List.pairwise_cons] at pw
            have := leS_iff.mp (pw.1 _ List.mem_cons_self)
            exact this hst
          have r3 := ref1 (b := .int 0) rfl (x_turned hH hHl hu (by show 2 ≤ 7; decide) hst2)
          have hnd : ¬ (sortS H ++ (sortS H).take 1).Nodup := fun q => by
            rw [List.nodup_append] at q
            refine q.2.2 _ m0 _ ?_ rfl
            cases hc : sortS H with
            | nil => rw [hc] at h0'; cases h0'
            | cons z zs => exact List.mem_cons_self
          have hlen2 : (sortS H ++ (sortS H).take 1).length ≤ 60 := by rw [List.length_append, List.length_take]; omega
          have r4 := ref0 ⟨rfl, fun _ => rfl, rfl, rfl⟩ ⟨rfl, fun _ => rfl, rfl, rfl⟩ (x_twice hlen2 (dedup_lt.2 hnd))
          have s1 : ∀ o, gSlH [.node o .lst ((sortS H).map .str), .int 1] = some (.node true .lst (((sortS H).map .str).take 1)) := fun o => slH_d (a := 1) (fzs_strs _)
          have s2 : ∀ o p, gAdd [.node o .lst ((sortS H).map .str), .node p .lst (((sortS H).take 1).map .str)] = some (LS true (sortS H ++ (sortS H).take 1)) := fun o p => by
            rw [cat_d (fzs_strs _) (fzs_strs _) (by rw [List.length_map, List.length_map, List.length_take]; omega), ← List.map_append]
          simp only [← List.map_take] at s1
          dsimp? only [hLN, c', g0, g1, frzs_strs]
          rw [show D.node false Kd.lst [D.str ((sortS H).getD 1 ""), D.str ((sortS H).getD 0 "")] = LS false [(sortS H).getD 1 "", (sortS H).getD 0 ""] from rfl, wF_eq r3]
          dsimp? only [qC_eq, qC_if, frzs_strs, s1, s2]
          rw [wF_eq r4]
          dsimp? only [qC_eq, qC_if, frzs_strs, s1, s2]
        · have c' : ¬ (1 : Int) < (H.length : Int) := by omega
          dsimp? only [hLN, c']
      subst hρ
      rw [hK]
      clear hK K
      dsimp? only [if_true]
      refine ⟨by decide, ?_⟩
      have hwd : ((rngI 0 61).filter fun _ => true).map (fun k => D.str ((("a" : Str) ++ ch (k % 26).toNat) ++ ch (k / 26).toNat)) = wideL.map .str := by
        rw [List.filter_eq_self.mpr fun _ _ => rfl]
        unfold wideL rngI
        rw [List.map_map, List.map_map]
        refine List.map_congr_left fun k _ => ?_
        show D.str ((("a" : Str) ++ ch ((0 + (k : Int)) % 26).toNat) ++ ch ((0 + (k : Int)) / 26).toNat) = D.str ((("a" : Str) ++ ch (k % 26)) ++ ch (k / 26))
        rw [show ((0 + (k : Int)) % 26).toNat = k % 26 by omega, show ((0 + (k : Int)) / 26).toNat = k / 26 by omega]
      refine lc_ints (fun k => .str ((("a" : Str) ++ ch (k % 26).toNat) ++ ch (k / 26).toNat)) (fun _ => true) (by rcases hx6 with rfl | ⟨k, rfl⟩ <;> rfl) (by rw [rng_len]; omega) (fun k hk => ⟨_, rfl, ?_⟩) ?_
      · have hk' : 0 ≤ k ∧ k < 61 := by
          unfold rngI at hk
          obtain ⟨j, hj, rfl⟩ := List.mem_map.mp hk
          have := List.mem_range.mp hj
          omega
        have x1 := @let_at (k % 26) (by omega) (by omega)
        have x2 := @let_at (k / 26) (by omega) (by omega)
        have c1 : ∀ n, (ch n).length = 1 := fun _ => rfl
        have ca : ("a" : Str).length = 1 := by decide +kernel
        have g1 : ∀ n, gAdd [.str "a", .str (ch n)] = some (.str (("a" : Str) ++ ch n)) := fun n => by rw [gAdd_ss, if_pos (by rw [c1, ca]; decide)]
        have g2 : ∀ n m, gAdd [.str (("a" : Str) ++ ch n), .str (ch m)] = some (.str ((("a" : Str) ++ ch n) ++ ch m)) := fun n m => by rw [gAdd_ss, if_pos (by rw [PySem.Str.length_append, c1, c1, ca]; decide)]
        dsimp? only [x1, x2, g1, g2]
      rw [hwd]
      have s60 : ∀ o, gSlH [.node o .lst (wideL.map .str), .int 60] = some (LS true (wideL.take 60)) := fun o => by
        have := slH_d (o := o) (a := 60) (fzs_strs wideL)
        rwa [← List.map_take] at this
      have so2 := fun o => @sorted_strs o (wideL.take 60)
      have s59 : ∀ o, gSlL [.node o .lst ((sortS (wideL.take 60)).map .str), .int 59] = some (LS true ((sortS (wideL.take 60)).drop 59)) := fun o => by
        have := slL_d (o := o) (a := 59) (fzs_strs (sortS (wideL.take 60)))
        rwa [← List.map_drop] at this
      have w1 := wide_n
      have w2 := wide_p
      have w3 := wide_d
      have w4 : ((sortS (wideL.take 60)).drop 59).length < 16777216 := by
        rw [List.length_drop, sort_len']
        have : wideL.length = 61 := rfl
        rw [List.length_take]
        omega
      have w5 := same_strs w4
      generalize (sortS (wideL.take 60)).drop 59 = U at s59 w3 w4 w5
      generalize sortS (wideL.take 60) = U2 at s59 so2
      generalize wideL.take 60 = U3 at s60 so2 w3
      generalize wideL = WL at s60 w1 w2
      dsimp? only [frzs_strs]
      rw [wF_eq w1]
      dsimp? only [qC_eq, qC_if, frzs_strs]
      rw [wF_eq w2]
      dsimp? only [qC_eq, qC_if, frzs_strs, s60]
      rw [wF_eq w3]
      dsimp? only [qC_eq, qC_if, frzs_strs, s60, so2, s59]
      rw [wF_eq w5]
      dsimp? only [qC_eq, qC_if, frzs_strs, clos_strs, kp]
      have pz : ∀ {X : Str → List D → Prop} {Q : D → List D → Prop} {ds : List D} {p : D}, Pool p → ds.length = 3 → D.fzs ds = true → (∀ d p', d ∈ ds → Pool p' → Q d [p', .node false .lst ds]) → wF m__law_pick X Q [p, .node false .lst ds] := fun hp h1 h2 q => pick_l hp (by omega) (by omega) h2 fun d p' hd _ hp' => q d p' hd hp'
      refine pz hp rfl rfl fun d1 p' hd1 hp' => ?_
      have kp' := @pick_pool p' hp'
      have hd2 : d1 = .int 0 ∨ d1 = .int 61 ∨ d1 = .bl true := by simpa using hd1
      have e1 := big_1 hd2
      have z1 : d1.frz = d1 ∧ (∀ j, pickV j d1 = .val d1) ∧ d1.clo = true ∧ d1.nox = true := by
        rcases hd2 with rfl | rfl | rfl <;> exact ⟨rfl, fun _ => rfl, rfl, rfl⟩
      obtain ⟨b1, b2, b3, b4⟩ := z1
      dsimp? only [b1, b2, b3, b4, kp', qC0_eq]
      rw [wF_eq e1]
      dsimp? only [qC_eq, qC_if, kp']
      refine pz hp' rfl rfl fun d2 p'' hd3 hp'' => ?_
      have kp'' := @pick_pool p'' hp''
      have hd4 : d2 = .int 6 ∨ d2 = .int (-1) ∨ d2 = .bl true := by simpa using hd3
      have e2 := big_2 hd4
      have z2 : d2.frz = d2 ∧ (∀ j, pickV j d2 = .val d2) ∧ d2.clo = true ∧ d2.nox = true := by
        rcases hd4 with rfl | rfl | rfl <;> exact ⟨rfl, fun _ => rfl, rfl, rfl⟩
      obtain ⟨b5, b6, b7, b8⟩ := z2
      dsimp? only [b5, b6, b7, b8, kp'', qC0_eq]
      rw [wF_eq e2]
      dsimp? only [qC_eq, qC_if, kp'']
end Law

open PySem PySem.W PyProof.Rows in
set_option maxRecDepth 100000 in
set_option maxHeartbeats 0 in
theorem PySem.Challenge.cw_plotrents_k57_ways_to_draw_holds : PySem.Challenge.rw_plotrents_k57_ways_to_draw.Holds := by
  w_on; o_law; k_head; (case hw => w_witness2)
  k_fill
  refine Law.walk (l := PySem.Challenge.rw_plotrents_k57_ways_to_draw) rfl rfl (fun w h Y => PySem.W.kIn_of Y) ?F
  case F =>
    intro w mg fa h KX G hmg
    refine' Law.all_mk KX G hmg ?b_ValueError ?b_abs ?b_bool ?b_int ?b_isinstance ?b_len ?b_list ?b_min ?b_range ?b_sorted ?b_str ?b_tuple ?g_MOST ?a_InvalidNumber ?x_InvalidNumber ?k_InvalidNumber ?bb_InvalidNumber ?tt_InvalidNumber ?ic_InvalidNumber ?e1_InvalidNumber ?e2_InvalidNumber ?e4_InvalidNumber ?e5_InvalidNumber ?e8_InvalidNumber ?v_InvalidNumber ?a_InvalidPaper ?x_InvalidPaper ?k_InvalidPaper ?bb_InvalidPaper ?tt_InvalidPaper ?ic_InvalidPaper ?e1_InvalidPaper ?e2_InvalidPaper ?e4_InvalidPaper ?e5_InvalidPaper ?e8_InvalidPaper ?v_InvalidPaper ?a_PlotError ?x_PlotError ?k_PlotError ?bb_PlotError ?tt_PlotError ?ic_PlotError ?e1_PlotError ?e2_PlotError ?e4_PlotError ?e5_PlotError ?e8_PlotError ?v_PlotError ?o1 ?o2 ?s_InvalidNumber_InvalidNumber ?s_InvalidNumber_InvalidPaper ?n_InvalidNumber_InvalidPaper ?s_InvalidNumber_PlotError ?n_InvalidNumber_PlotError ?s_InvalidPaper_InvalidNumber ?s_InvalidPaper_InvalidPaper ?s_InvalidPaper_PlotError ?n_InvalidPaper_PlotError ?s_PlotError_InvalidNumber ?s_PlotError_InvalidPaper ?s_PlotError_PlotError ?a__law_pool ?l__law_pool ?c__law_pool ?k__law_pool ?a__law_draw ?l__law_draw ?c__law_draw ?k__law_draw ?a__law_ways ?l__law_ways ?c__law_ways ?k__law_ways ?a__law_names ?l__law_names ?c__law_names ?k__law_names ?a__law_same ?l__law_same ?c__law_same ?k__law_same ?a_is_number ?l_is_number ?c_is_number ?k_is_number ?lT_is_number ?dT_is_number ?a_checked_number ?l_checked_number ?c_checked_number ?k_checked_number ?lT_checked_number ?dT_checked_number ?a_choose ?l_choose ?c_choose ?k_choose ?a_drawn_at ?l_drawn_at ?c_drawn_at ?k_drawn_at ?a_place_of ?l_place_of ?c_place_of ?k_place_of ?a_checked_lot ?l_checked_lot ?c_checked_lot ?k_checked_lot ?a_ways ?l_ways ?c_ways ?k_ways ?a__law_refused ?l__law_refused ?c__law_refused ?k__law_refused ?a__law_pick ?l__law_pick ?c__law_pick ?k__law_pick ?a_law ?l_law ?c_law ?k_law Law.law_true
    (case b_ValueError => k_is)
    (case b_abs => k_is)
    (case b_bool => k_is)
    (case b_int => k_is)
    (case b_isinstance => k_is)
    (case b_len => k_is)
    (case b_list => k_is)
    (case b_min => k_is)
    (case b_range => k_is)
    (case b_sorted => k_is)
    (case b_str => k_is)
    (case b_tuple => k_is)
    (case g_MOST => k_is)
    (case a_InvalidNumber => k_is)
    (case x_InvalidNumber => k_exc)
    (case k_InvalidNumber => k_is)
    (case bb_InvalidNumber => k_is)
    (case tt_InvalidNumber => k_is)
    (case ic_InvalidNumber => k_is)
    (case e1_InvalidNumber => k_is)
    (case e2_InvalidNumber => k_is)
    (case e4_InvalidNumber => k_is)
    (case e5_InvalidNumber => k_is)
    (case e8_InvalidNumber => k_is)
    (case v_InvalidNumber => k_is)
    (case a_InvalidPaper => k_is)
    (case x_InvalidPaper => k_exc)
    (case k_InvalidPaper => k_is)
    (case bb_InvalidPaper => k_is)
    (case tt_InvalidPaper => k_is)
    (case ic_InvalidPaper => k_is)
    (case e1_InvalidPaper => k_is)
    (case e2_InvalidPaper => k_is)
    (case e4_InvalidPaper => k_is)
    (case e5_InvalidPaper => k_is)
    (case e8_InvalidPaper => k_is)
    (case v_InvalidPaper => k_is)
    (case a_PlotError => k_is)
    (case x_PlotError => k_exc)
    (case k_PlotError => k_is)
    (case bb_PlotError => k_is)
    (case tt_PlotError => k_is)
    (case ic_PlotError => k_is)
    (case e1_PlotError => k_is)
    (case e2_PlotError => k_is)
    (case e4_PlotError => k_is)
    (case e5_PlotError => k_is)
    (case e8_PlotError => k_is)
    (case v_PlotError => k_is)
    (case o1 => k_is)
    (case o2 => k_is)
    (case s_InvalidNumber_InvalidNumber => k_is)
    (case s_InvalidNumber_InvalidPaper => k_is)
    (case n_InvalidNumber_InvalidPaper => first | decide +kernel | (intro h; cases h))
    (case s_InvalidNumber_PlotError => k_is)
    (case n_InvalidNumber_PlotError => first | decide +kernel | (intro h; cases h))
    (case s_InvalidPaper_InvalidNumber => k_is)
    (case s_InvalidPaper_InvalidPaper => k_is)
    (case s_InvalidPaper_PlotError => k_is)
    (case n_InvalidPaper_PlotError => first | decide +kernel | (intro h; cases h))
    (case s_PlotError_InvalidNumber => k_is)
    (case s_PlotError_InvalidPaper => k_is)
    (case s_PlotError_PlotError => k_is)
    (case a__law_pool => k_is)
    (case l__law_pool => k_is)
    (case c__law_pool => k_is)
    (case k__law_pool => k_is)
    (case a__law_draw => k_is)
    (case l__law_draw => k_is)
    (case c__law_draw => k_is)
    (case k__law_draw => k_is)
    (case a__law_ways => k_is)
    (case l__law_ways => k_is)
    (case c__law_ways => k_is)
    (case k__law_ways => k_is)
    (case a__law_names => k_is)
    (case l__law_names => k_is)
    (case c__law_names => k_is)
    (case k__law_names => k_is)
    (case a__law_same => k_is)
    (case l__law_same => k_is)
    (case c__law_same => k_is)
    (case k__law_same => k_is)
    (case a_is_number => k_is)
    (case l_is_number => k_is)
    (case c_is_number => k_is)
    (case k_is_number => k_is)
    (case lT_is_number => k_is)
    (case dT_is_number => first | rfl | k_is)
    (case a_checked_number => k_is)
    (case l_checked_number => k_is)
    (case c_checked_number => k_is)
    (case k_checked_number => k_is)
    (case lT_checked_number => k_is)
    (case dT_checked_number => first | rfl | k_is)
    (case a_choose => k_is)
    (case l_choose => k_is)
    (case c_choose => k_is)
    (case k_choose => k_is)
    (case a_drawn_at => k_is)
    (case l_drawn_at => k_is)
    (case c_drawn_at => k_is)
    (case k_drawn_at => k_is)
    (case a_place_of => k_is)
    (case l_place_of => k_is)
    (case c_place_of => k_is)
    (case k_place_of => k_is)
    (case a_checked_lot => k_is)
    (case l_checked_lot => k_is)
    (case c_checked_lot => k_is)
    (case k_checked_lot => k_is)
    (case a_ways => k_is)
    (case l_ways => k_is)
    (case c_ways => k_is)
    (case k_ways => k_is)
    (case a__law_refused => k_is)
    (case l__law_refused => k_is)
    (case c__law_refused => k_is)
    (case k__law_refused => k_is)
    (case a__law_pick => k_is)
    (case l__law_pick => k_is)
    (case c__law_pick => k_is)
    (case k__law_pick => k_is)
    (case a_law => k_is)
    (case l_law => k_is)
    (case c_law => k_is)
    (case k_law => k_is)
#print axioms PySem.Challenge.cw_plotrents_k57_ways_to_draw_holds


