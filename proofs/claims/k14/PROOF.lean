import PyProof.Rows.All
import Wide.All
import OpenK.AllK
import Wide.FinOn
import HandS.ForMost
import HandS.ForExc
import HandS.Walk
import HandS.Wide
import HandS.TupAny
import HandS.Flow
import HandS.Style
import HandS.Zip
import HandS.Rev
import KE.GoesEnum
import HandS.IsInst
import HandS.WordsExc
import PySem.Challenge.RW_pagehold_k14_whole_turns_of_rings
set_option Elab.async false
set_option linter.all false
set_option maxRecDepth 100000
set_option maxHeartbeats 2000000
namespace DL
open PySem PySem.Spec PyProof.Rows L2
abbrev St := L2.St

/-- data: immutable trees (a frozen list among them), tracked objects by their address -/
inductive D where
  | non | bl (b : Bool) | int (i : Int) | str (x : Str)
  | tup (xs : List D) | lst (xs : List D) | ins (c : Nat) (xs : List D) | ref (a : Addr) | fn (k : Nat) | slst (xs : List D)

/-- tracked objects -/
inductive GO where
  | lst (xs : List D) | strm | ins (c : Nat) (xs : List D)

abbrev Gh := Addr → Option GO
def gup (G : Gh) (a : Addr) (o : GO) : Gh := fun b => if b = a then some o else G b
theorem gup_same {G : Gh} {a : Addr} {o : GO} : gup G a o a = some o := by unfold gup; rw [if_pos rfl]
theorem gup_ne {G : Gh} {a b : Addr} {o : GO} (h : b ≠ a) : gup G a o b = G b := by unfold gup; rw [if_neg h]

/-- an exception: its class by number, its fields -/
abbrev DX := Nat × List D
/-- a def's promise over data -/
abbrev DSp := List D → Gh → (D → Gh → Prop) → (DX → Gh → Prop) → Prop

/-- what is fixed: the text's facts -/
structure Gam where
  K : PySem.W.Frag
  cls : Nat → Option (Addr × List Str)
  fnA : Nat → Option Addr

def KTup (K : PySem.W.Frag) (a : Addr) (xs : List V) : Prop :=
  ∃ (o : Obj) (its : Array Value) (n : Nat), K.lookup a = some o ∧ o.cls = .type "tuple" ∧ o.data = .seq its n ∧ its.size ≤ sizeLine ∧ Vals xs its.toList
def TupAt (K : PySem.W.Frag) (av : Addr → Prop) (H : Hp) (p : Addr) (vs : List V) : Prop := (H p = some (.tup vs) ∧ ¬ av p) ∨ KTup K p vs
/-- a list that nobody changes, as the caller of the law has it -/
def SLst (K : PySem.W.Frag) (av : Addr → Prop) (H : Hp) (p : Addr) (vs : List V) : Prop :=
  (∃ o, H p = some o ∧ ¬ av p ∧ ∀ H' : Hp, H' p = some o → Rd H' p (.lst vs)) ∨ ∃ (o : Obj) (its : Array Value) (n : Nat), K.lookup p = some o ∧ o.cls = .type "list" ∧ o.dict = none ∧ o.data = .seq its n ∧ its.size ≤ sizeLine ∧ Vals vs its.toList
theorem SLst.sq {K : PySem.W.Frag} {av : Addr → Prop} {H : Hp} {p : Addr} {vs : List V} (h : SLst K av H p vs) : SqL K H p vs := by
  rcases h with ⟨o, h, _, r⟩ | h
  · exact .inl (r H h)
  · exact .inr h
theorem TupAt.sq {K : PySem.W.Frag} {av : Addr → Prop} {H : Hp} {p : Addr} {vs : List V} (h : TupAt K av H p vs) : SqT K H p vs := by
  rcases h with h | h
  · exact .inl (.inl h.1)
  · exact .inr h

mutual
/-- v bears d in H; av: addresses that may change, no part of d -/
def Rep (Γ : Gam) (av : Addr → Prop) (H : Hp) : D → V → Prop
  | .non, v => v = .non
  | .bl b, v => v = .bl b
  | .int i, v => v = .int i
  | .str x, v => v = .str x
  | .tup ds, v => ∃ p vs, v = .ref p ∧ TupAt Γ.K av H p vs ∧ ds.length ≤ sizeLine ∧ RepL Γ av H ds vs
  | .lst ds, v => ∃ p vs, v = .ref p ∧ (H p = some (.lst vs) ∧ ¬ av p) ∧ ds.length ≤ sizeLine ∧ RepL Γ av H ds vs
  | .ins c ds, v => ∃ p C fn dx fs vs, v = .ref p ∧ Γ.cls c = some (C, fn) ∧ (H p = some (.ins C dx fs) ∧ ¬ av p) ∧ fn.map (fun f => fs.lookup f) = vs.map some ∧ fs.map (·.1) = fn ∧ RepL Γ av H ds vs
  | .ref a, v => v = .ref a
  | .slst ds, v => ∃ p vs, v = .ref p ∧ SLst Γ.K av H p vs ∧ ds.length ≤ sizeLine ∧ RepL Γ av H ds vs
  | .fn k, v => ∃ a, Γ.fnA k = some a ∧ v = .ref a
def RepL (Γ : Gam) (av : Addr → Prop) (H : Hp) : List D → List V → Prop
  | [], vs => vs = []
  | d :: ds, vs => ∃ v vr, vs = v :: vr ∧ Rep Γ av H d v ∧ RepL Γ av H ds vr
end

/-- what stands and may not change stands and may not change -/
def Stp (a : Addr → Prop) (H : Hp) (a2 : Addr → Prop) (H2 : Hp) : Prop := ∀ p o, H p = some o → ¬ a p → H2 p = some o ∧ ¬ a2 p
theorem Stp.refl {a : Addr → Prop} {H : Hp} : Stp a H a H := fun _ _ h n => ⟨h, n⟩
theorem Stp.trans {a a2 a3 : Addr → Prop} {H H2 H3 : Hp} (x : Stp a H a2 H2) (y : Stp a2 H2 a3 H3) : Stp a H a3 H3 := fun p o h n => let ⟨h2, n2⟩ := x p o h n; y p o h2 n2
theorem Stp.weak {a a2 : Addr → Prop} {H : Hp} (h : ∀ p, a2 p → a p) : Stp a H a2 H := fun p _ e n => ⟨e, fun z => n (h p z)⟩

section
variable {Γ : Gam} {a a2 : Addr → Prop} {H H2 : Hp}
theorem TupAt.step {K : PySem.W.Frag} {p : Addr} {vs : List V} (st : Stp a H a2 H2) (h : TupAt K a H p vs) : TupAt K a2 H2 p vs := by
  rcases h with h | h
  · exact .inl (st p _ h.1 h.2)
  · exact .inr h
theorem SLst.step {K : PySem.W.Frag} {p : Addr} {vs : List V} (st : Stp a H a2 H2) (h : SLst K a H p vs) : SLst K a2 H2 p vs := by
  rcases h with ⟨o, h, n, r⟩ | h
  · obtain ⟨h2, n2⟩ := st p _ h n
    exact .inl ⟨o, h2, n2, r⟩
  · exact .inr h
mutual
theorem Rep.step (st : Stp a H a2 H2) : ∀ (d : D) (v : V), Rep Γ a H d v → Rep Γ a2 H2 d v
  | .non, _, h => by simpa only [Rep] using h
  | .bl _, _, h => by simpa only [Rep] using h
  | .int _, _, h => by simpa only [Rep] using h
  | .str _, _, h => by simpa only [Rep] using h
  | .tup ds, _, h => by
    simp only [Rep] at h ⊢
    obtain ⟨p, vs, e, t, z, r⟩ := h
    exact ⟨p, vs, e, t.step st, z, RepL.step st ds vs r⟩
  | .lst ds, _, h => by
    simp only [Rep] at h ⊢
    obtain ⟨p, vs, e, t, z, r⟩ := h
    exact ⟨p, vs, e, st p _ t.1 t.2, z, RepL.step st ds vs r⟩
  | .ins c ds, _, h => by
    simp only [Rep] at h ⊢
    obtain ⟨p, C, fn, dx, fs, vs, e, k, t, l, l2, r⟩ := h
    exact ⟨p, C, fn, dx, fs, vs, e, k, st p _ t.1 t.2, l, l2, RepL.step st ds vs r⟩
  | .ref _, _, h => by simpa only [Rep] using h
  | .slst ds, _, h => by
    simp only [Rep] at h ⊢
    obtain ⟨p, vs, e, t, z, r⟩ := h
    exact ⟨p, vs, e, t.step st, z, RepL.step st ds vs r⟩
  | .fn _, _, h => by simpa only [Rep] using h
theorem RepL.step (st : Stp a H a2 H2) : ∀ (ds : List D) (vs : List V), RepL Γ a H ds vs → RepL Γ a2 H2 ds vs
  | [], _, h => by simpa only [RepL] using h
  | d :: ds, _, h => by
    simp only [RepL] at h ⊢
    obtain ⟨v, vr, e, r, rr⟩ := h
    exact ⟨v, vr, e, Rep.step st d v r, RepL.step st ds vr rr⟩
end
theorem Rep.weak {d : D} {v : V} (h : ∀ p, a2 p → a p) (r : Rep Γ a H d v) : Rep Γ a2 H d v := r.step (Stp.weak h) d v
theorem RepL.weak {ds : List D} {vs : List V} (h : ∀ p, a2 p → a p) (r : RepL Γ a H ds vs) : RepL Γ a2 H ds vs := r.step (Stp.weak h) ds vs

theorem RepL.nil : RepL Γ a H [] [] := by simp only [RepL]
theorem RepL.cons {d : D} {v : V} {ds : List D} {vs : List V} (r : Rep Γ a H d v) (rr : RepL Γ a H ds vs) : RepL Γ a H (d :: ds) (v :: vs) := by
  simp only [RepL]; exact ⟨v, vs, rfl, r, rr⟩
theorem RepL.nil_inv {vs : List V} (h : RepL Γ a H [] vs) : vs = [] := by simpa only [RepL] using h
theorem RepL.cons_inv {d : D} {ds : List D} {vs : List V} (h : RepL Γ a H (d :: ds) vs) : ∃ v vr, vs = v :: vr ∧ Rep Γ a H d v ∧ RepL Γ a H ds vr := by simpa only [RepL] using h
theorem RepL.len : ∀ {ds : List D} {vs : List V}, RepL Γ a H ds vs → vs.length = ds.length
  | [], _, h => by rw [h.nil_inv]; rfl
  | d :: ds, _, h => by
    obtain ⟨v, vr, rfl, _, rr⟩ := h.cons_inv
    rw [List.length_cons, List.length_cons, rr.len]
theorem RepL.get : ∀ {ds : List D} {vs : List V} {i : Nat} {d : D}, RepL Γ a H ds vs → ds[i]? = some d → ∃ v, vs[i]? = some v ∧ Rep Γ a H d v
  | [], _, _, _, _, e => by simp at e
  | d :: ds, _, 0, x, h, e => by
    obtain ⟨v, vr, rfl, r, _⟩ := h.cons_inv
    simp at e; subst e
    exact ⟨v, by simp, r⟩
  | d :: ds, _, i + 1, x, h, e => by
    obtain ⟨v, vr, rfl, _, rr⟩ := h.cons_inv
    obtain ⟨w, h1, h2⟩ := RepL.get (i := i) (d := x) rr (by simpa using e)
    exact ⟨w, by simpa using h1, h2⟩
theorem RepL.get' : ∀ {ds : List D} {vs : List V} {i : Nat} {v : V}, RepL Γ a H ds vs → vs[i]? = some v → ∃ d, ds[i]? = some d ∧ Rep Γ a H d v := fun {ds vs i v} h e => by
  have hi : i < ds.length := by rw [← h.len]; exact (List.getElem?_eq_some_iff.mp e).1
  obtain ⟨w, h1, h2⟩ := h.get (List.getElem?_eq_getElem hi)
  rw [e] at h1; cases h1
  exact ⟨_, List.getElem?_eq_getElem hi, h2⟩
theorem RepL.append : ∀ {ds es : List D} {vs ws : List V}, RepL Γ a H ds vs → RepL Γ a H es ws → RepL Γ a H (ds ++ es) (vs ++ ws)
  | [], _, _, _, h, k => by rw [h.nil_inv]; exact k
  | d :: ds, _, _, _, h, k => by
    obtain ⟨v, vr, rfl, r, rr⟩ := h.cons_inv
    exact RepL.cons r (RepL.append rr k)
theorem RepL.take : ∀ {ds : List D} {vs : List V} (n : Nat), RepL Γ a H ds vs → RepL Γ a H (ds.take n) (vs.take n)
  | _, _, 0, _ => by simpa using RepL.nil
  | [], _, n + 1, h => by rw [h.nil_inv]; simpa using RepL.nil
  | d :: ds, _, n + 1, h => by
    obtain ⟨v, vr, rfl, r, rr⟩ := h.cons_inv
    simpa using RepL.cons r (RepL.take n rr)
theorem RepL.drop : ∀ {ds : List D} {vs : List V} (n : Nat), RepL Γ a H ds vs → RepL Γ a H (ds.drop n) (vs.drop n)
  | _, _, 0, h => by simpa using h
  | [], _, n + 1, h => by rw [h.nil_inv]; simpa using RepL.nil
  | d :: ds, _, n + 1, h => by
    obtain ⟨v, vr, rfl, r, rr⟩ := h.cons_inv
    simpa using RepL.drop n rr
theorem RepL.reverse : ∀ {ds : List D} {vs : List V}, RepL Γ a H ds vs → RepL Γ a H ds.reverse vs.reverse
  | [], _, h => by rw [h.nil_inv]; simpa using RepL.nil
  | d :: ds, _, h => by
    obtain ⟨v, vr, rfl, r, rr⟩ := h.cons_inv
    rw [List.reverse_cons, List.reverse_cons]
    exact RepL.append (RepL.reverse rr) (RepL.cons r RepL.nil)
theorem RepL.dropLast {ds : List D} {vs : List V} (h : RepL Γ a H ds vs) : RepL Γ a H ds.dropLast vs.dropLast := by
  rw [List.dropLast_eq_take, List.dropLast_eq_take, h.len]
  exact h.take _
theorem RepL.set : ∀ {ds : List D} {vs : List V} {d : D} {v : V} (i : Nat), RepL Γ a H ds vs → Rep Γ a H d v → RepL Γ a H (ds.set i d) (vs.set i v)
  | [], _, _, _, _, h, _ => by rw [h.nil_inv]; simpa using RepL.nil
  | d :: ds, _, _, _, 0, h, k => by
    obtain ⟨v, vr, rfl, r, rr⟩ := h.cons_inv
    simpa using RepL.cons k rr
  | d :: ds, _, _, _, i + 1, h, k => by
    obtain ⟨v, vr, rfl, r, rr⟩ := h.cons_inv
    simpa using RepL.cons r (RepL.set i rr k)
theorem RepL.ints : ∀ {ns : List Int} {vs : List V}, RepL Γ a H (ns.map D.int) vs → vs = ns.map V.int
  | [], _, h => by simpa using h.nil_inv
  | n :: ns, _, h => by
    obtain ⟨v, vr, rfl, r, rr⟩ := RepL.cons_inv (d := .int n) (ds := ns.map D.int) h
    simp only [Rep] at r
    rw [r, RepL.ints rr]; rfl
theorem RepL.of_ints : ∀ {ns : List Int}, RepL Γ a H (ns.map D.int) (ns.map V.int)
  | [] => RepL.nil
  | n :: ns => RepL.cons (by simp only [Rep]) RepL.of_ints
theorem RepL.bls : ∀ {bs : List Bool} {vs : List V}, RepL Γ a H (bs.map D.bl) vs → vs = bs.map V.bl
  | [], _, h => by simpa using h.nil_inv
  | n :: ns, _, h => by
    obtain ⟨v, vr, rfl, r, rr⟩ := RepL.cons_inv (d := .bl n) (ds := ns.map D.bl) h
    simp only [Rep] at r
    rw [r, RepL.bls rr]; rfl
theorem RepL.strs : ∀ {bs : List Str} {vs : List V}, RepL Γ a H (bs.map D.str) vs → vs = bs.map V.str
  | [], _, h => by simpa using h.nil_inv
  | n :: ns, _, h => by
    obtain ⟨v, vr, rfl, r, rr⟩ := RepL.cons_inv (d := .str n) (ds := ns.map D.str) h
    simp only [Rep] at r
    rw [r, RepL.strs rr]; rfl
end

/-- what a slot holds: a datum, or a list that this slot alone has -/
inductive SV where
  | d (x : D) | own (xs : List D)
/-- what an expression gives: a datum, a new list, a list that a slot has -/
inductive EV where
  | d (x : D) | own (xs : List D) | bor (xs : List D)
abbrev Loc := List (Option SV)

def StrmOk (ns : List Int) (c k m : Int) : Prop := ns.length ≤ 63 ∧ 0 ≤ c ∧ 0 ≤ k ∧ k ≤ 64 ∧ 0 ≤ m ∧ m < 2147483647
def GRep (Γ : Gam) (av : Addr → Prop) (H : Hp) : GO → HO → Prop
  | .lst ds, o => ∃ vs, o = .lst vs ∧ ds.length ≤ sizeLine ∧ RepL Γ av H ds vs
  | .strm, o => ∃ q ns c k m, o = .lst [.ref q, .int c, .int k, .int m] ∧ H q = some (.lst (ns.map V.int)) ∧ ¬ av q ∧ StrmOk ns c k m
  | .ins c ds, o => ∃ C fn dx fs vs, o = .ins C dx fs ∧ Γ.cls c = some (C, fn) ∧ fn.map (fun f => fs.lookup f) = vs.map some ∧ fs.map (·.1) = fn ∧ RepL Γ av H ds vs
def GOk (Γ : Gam) (av : Addr → Prop) (H : Hp) (G : Gh) : Prop := ∀ p o, G p = some o → ∃ ho, H p = some ho ∧ GRep Γ av H o ho

/-- the addresses of the slots' own lists -/
def SO (σ : St) (L : Loc) (p : Addr) : Prop := ∃ (i : Nat) (xs : List D), L[i]? = some (some (.own xs)) ∧ σ[i]? = some (some (.ref p))
def Av (σ : St) (L : Loc) (G : Gh) (X : Addr → Prop) (p : Addr) : Prop := G p ≠ none ∨ X p ∨ SO σ L p

structure Mt (Γ : Gam) (σ : St) (H : Hp) (L : Loc) (G : Gh) (X : Addr → Prop) : Prop where
  len : L.length = σ.length
  val : ∀ (i : Nat) d, L[i]? = some (some (.d d)) → ∃ v, σ[i]? = some (some v) ∧ Rep Γ (Av σ L G X) H d v
  own : ∀ (i : Nat) xs, L[i]? = some (some (.own xs)) → ∃ p vs, σ[i]? = some (some (.ref p)) ∧ H p = some (.lst vs) ∧ xs.length ≤ sizeLine ∧ RepL Γ (Av σ L G X) H xs vs
  dist : ∀ (i j : Nat) xs ys p, L[i]? = some (some (.own xs)) → L[j]? = some (some (.own ys)) → σ[i]? = some (some (.ref p)) → σ[j]? = some (some (.ref p)) → i = j
  gok : GOk Γ (Av σ L G X) H G
  disX : ∀ p, X p → G p = none ∧ ¬ SO σ L p ∧ H p ≠ none
  disO : ∀ p, SO σ L p → G p = none

/-- untracked things stay, and stay untracked -/
def Kp (G : Gh) (H : Hp) (G2 : Gh) (H2 : Hp) : Prop := ∀ p o, H p = some o → G p = none → H2 p = some o ∧ G2 p = none
theorem Kp.refl {G : Gh} {H : Hp} : Kp G H G H := fun _ _ h n => ⟨h, n⟩
theorem Kp.trans {G G2 G3 : Gh} {H H2 H3 : Hp} (x : Kp G H G2 H2) (y : Kp G2 H2 G3 H3) : Kp G H G3 H3 := fun p o h n => let ⟨h2, n2⟩ := x p o h n; y p o h2 n2
/-- .. from statement to statement -/
def Ks (σ : St) (L : Loc) (G : Gh) (H : Hp) (σ2 : St) (L2 : Loc) (G2 : Gh) (H2 : Hp) : Prop := ∀ p o, H p = some o → G p = none → ¬ SO σ L p → H2 p = some o ∧ G2 p = none ∧ ¬ SO σ2 L2 p
theorem Ks.refl {σ : St} {L : Loc} {G : Gh} {H : Hp} : Ks σ L G H σ L G H := fun _ _ h n s => ⟨h, n, s⟩
theorem Ks.trans {σ σ2 σ3 : St} {L L2 L3 : Loc} {G G2 G3 : Gh} {H H2 H3 : Hp} (x : Ks σ L G H σ2 L2 G2 H2) (y : Ks σ2 L2 G2 H2 σ3 L3 G3 H3) : Ks σ L G H σ3 L3 G3 H3 :=
  fun p o h n s => let ⟨h2, n2, s2⟩ := x p o h n s; y p o h2 n2 s2
theorem Kp.ks {σ : St} {L : Loc} {G G2 : Gh} {H H2 : Hp} (x : Kp G H G2 H2) : Ks σ L G H σ L G2 H2 := fun p o h n s => let ⟨h2, n2⟩ := x p o h n; ⟨h2, n2, s⟩
theorem Kp.stp {σ : St} {L : Loc} {G G2 : Gh} {X : Addr → Prop} {H H2 : Hp} (x : Kp G H G2 H2) : Stp (Av σ L G X) H (Av σ L G2 X) H2 := fun p o h n => by
  have n1 : G p = none := Classical.byContradiction fun z => n (.inl z)
  obtain ⟨h2, n2⟩ := x p o h n1
  refine ⟨h2, fun z => ?_⟩
  rcases z with z | z
  · exact z n2
  · exact n (.inr z)
theorem Ks.stp {σ σ2 : St} {L L2 : Loc} {G G2 : Gh} {X : Addr → Prop} {H H2 : Hp} (x : Ks σ L G H σ2 L2 G2 H2) : Stp (Av σ L G X) H (Av σ2 L2 G2 X) H2 := fun p o h n => by
  have n1 : G p = none := Classical.byContradiction fun z => n (.inl z)
  obtain ⟨h2, n2, n3⟩ := x p o h n1 fun z => n (.inr (.inr z))
  refine ⟨h2, fun z => ?_⟩
  rcases z with z | z | z
  · exact z n2
  · exact n (.inr (.inl z))
  · exact n3 z

def orP (X : Addr → Prop) (p : Addr) : Addr → Prop := fun q => X q ∨ q = p
section
variable {Γ : Gam} {σ : St} {H H2 : Hp} {L : Loc} {G G2 : Gh} {X : Addr → Prop}
theorem GRep.step {a a2 : Addr → Prop} (st : Stp a H a2 H2) : ∀ {o : GO} {ho : HO}, GRep Γ a H o ho → GRep Γ a2 H2 o ho
  | .lst ds, ho, h => by
    obtain ⟨vs, e, z, r⟩ := h
    exact ⟨vs, e, z, r.step st _ _⟩
  | .strm, ho, h => by
    obtain ⟨q, ns, c, k, m, e, hq, nq, ok⟩ := h
    obtain ⟨h1, h2⟩ := st q _ hq nq
    exact ⟨q, ns, c, k, m, e, h1, h2, ok⟩
  | .ins c ds, ho, h => by
    obtain ⟨C, fn, dx, fs, vs, e, k, l, l2, r⟩ := h
    exact ⟨C, fn, dx, fs, vs, e, k, l, l2, r.step st _ _⟩
theorem GOk.none {a : Addr → Prop} (g : GOk Γ a H G) {p : Addr} (h : H p = none) : G p = none := by
  cases e : G p with
  | none => rfl
  | some o => obtain ⟨ho, h1, _⟩ := g p o e; rw [h] at h1; cases h1
theorem Mt.gnone (m : Mt Γ σ H L G X) {p : Addr} (h : H p = none) : G p = none := m.gok.none h
theorem Mt.so_there (m : Mt Γ σ H L G X) {p : Addr} (h : SO σ L p) : ∃ vs, H p = some (.lst vs) := by
  obtain ⟨i, xs, e1, e2⟩ := h
  obtain ⟨q, vs, e3, e4, _⟩ := m.own i xs e1
  rw [e2] at e3; cases e3
  exact ⟨vs, e4⟩
/-- no address that may change is free -/
theorem Mt.there (m : Mt Γ σ H L G X) {p : Addr} (h : Av σ L G X p) : H p ≠ none := by
  rcases h with h | h | h
  · cases e : G p with
    | none => exact absurd e h
    | some o => obtain ⟨ho, h1, _⟩ := m.gok p o e; rw [h1]; simp
  · exact (m.disX p h).2.2
  · obtain ⟨vs, e⟩ := m.so_there h; rw [e]; simp
theorem Mt.fresh (m : Mt Γ σ H L G X) {p : Addr} (h : H p = none) : ¬ Av σ L G X p := fun z => m.there z h
/-- the heap grows; X may take new addresses -/
theorem Mt.grow {X2 : Addr → Prop} (m : Mt Γ σ H L G X) (k : ∀ p o, H p = some o → H2 p = some o) (hx : ∀ p, X2 p → X p ∨ (H p = none ∧ H2 p ≠ none)) : Mt Γ σ H2 L G X2 := by
  have st : Stp (Av σ L G X) H (Av σ L G X2) H2 := fun p o h n => ⟨k p o h, fun z => by
    rcases z with z | z | z
    · exact n (.inl z)
    · rcases hx p z with z | ⟨z, _⟩
      · exact n (.inr (.inl z))
      · rw [z] at h; cases h
    · exact n (.inr (.inr z))⟩
  refine ⟨m.len, fun i d e => ?_, fun i xs e => ?_, m.dist, fun p o e => ?_, fun p hp => ?_, m.disO⟩
  · obtain ⟨v, h1, h2⟩ := m.val i d e
    exact ⟨v, h1, h2.step st _ _⟩
  · obtain ⟨p, vs, h1, h2, h3, h4⟩ := m.own i xs e
    exact ⟨p, vs, h1, k _ _ h2, h3, h4.step st _ _⟩
  · obtain ⟨ho, h1, h2⟩ := m.gok p o e
    exact ⟨ho, k _ _ h1, h2.step st⟩
  · rcases hx p hp with z | ⟨z, z2⟩
    · obtain ⟨h1, h2, h3⟩ := m.disX p z
      refine ⟨h1, h2, fun q => h3 ?_⟩
      cases e : H p with
      | none => rfl
      | some o => rw [k p o e] at q; cases q
    · refine ⟨m.gnone z, fun q => ?_, z2⟩
      obtain ⟨vs, e⟩ := m.so_there q
      rw [z] at e
      cases e
theorem upd_keeps {p : Addr} {o : HO} (h : H p = none) : ∀ q u, H q = some u → upd H p o q = some u := fun q u e => by
  rw [upd_ne (ne_of_none e h)]; exact e
theorem kp_alloc {p : Addr} {o : HO} (h : H p = none) : Kp G H G (upd H p o) := fun q u e n => ⟨upd_keeps h q u e, n⟩
theorem Mt.alloc (m : Mt Γ σ H L G X) {p : Addr} {o : HO} (h : H p = none) : Mt Γ σ (upd H p o) L G X := m.grow (upd_keeps h) fun _ z => .inl z
theorem Mt.allocX (m : Mt Γ σ H L G X) {p : Addr} {o : HO} (h : H p = none) : Mt Γ σ (upd H p o) L G (orP X p) := m.grow (upd_keeps h) fun q z => by
  rcases z with z | z
  · exact .inl z
  · subst z; exact .inr ⟨h, by rw [upd_same]; simp⟩
/-- X may shrink -/
theorem Mt.less {X2 : Addr → Prop} (m : Mt Γ σ H L G X) (h : ∀ p, X2 p → X p) : Mt Γ σ H L G X2 := m.grow (fun _ _ e => e) fun p z => .inl (h p z)
/-- behind a call: the ghost state and the heap are others -/
theorem Mt.call (m : Mt Γ σ H L G X) (k : Kp G H G2 H2) (g : GOk Γ (Av σ L G2 X) H2 G2) : Mt Γ σ H2 L G2 X := by
  have st := k.stp (σ := σ) (L := L) (X := X)
  refine ⟨m.len, fun i d e => ?_, fun i xs e => ?_, m.dist, g, fun p hp => ?_, fun p hp => ?_⟩
  · obtain ⟨v, h1, h2⟩ := m.val i d e
    exact ⟨v, h1, h2.step st _ _⟩
  · obtain ⟨p, vs, h1, h2, h3, h4⟩ := m.own i xs e
    exact ⟨p, vs, h1, (k p _ h2 (m.disO p ⟨i, xs, e, h1⟩)).1, h3, h4.step st _ _⟩
  · obtain ⟨h1, h2, h3⟩ := m.disX p hp
    cases e : H p with
    | none => exact absurd e h3
    | some o =>
      obtain ⟨k1, k2⟩ := k p o e h1
      exact ⟨k2, h2, by rw [k1]; simp⟩
  · obtain ⟨vs, e⟩ := m.so_there hp
    exact (k p _ e (m.disO p hp)).2
end

section
variable {Γ : Gam} {σ : St} {H H2 : Hp} {L : Loc} {G : Gh} {X : Addr → Prop} {i : Nat}
theorem get_set_some {α : Type} {l : List α} {i j : Nat} {x y : α} (h : (l.set i x)[j]? = some y) : (j = i ∧ i < l.length ∧ y = x) ∨ (j ≠ i ∧ l[j]? = some y) := by
  by_cases e : j = i
  · subst e
    by_cases hl : j < l.length
    · rw [List.getElem?_set_self hl] at h
      cases h
      exact .inl ⟨rfl, hl, rfl⟩
    · rw [List.getElem?_eq_none (by rw [List.length_set]; omega)] at h
      cases h
  · rw [List.getElem?_set_ne (Ne.symm e)] at h
    exact .inr ⟨e, h⟩
theorem so_set_d {v : V} {x : D} {p : Addr} (h : SO (σ.set i (some v)) (L.set i (some (.d x))) p) : SO σ L p := by
  obtain ⟨j, xs, h1, h2⟩ := h
  rcases get_set_some h1 with ⟨_, _, z⟩ | ⟨ne, z⟩
  · cases z
  · rcases get_set_some h2 with ⟨e, _, _⟩ | ⟨_, z2⟩
    · exact absurd e ne
    · exact ⟨j, xs, z, z2⟩
theorem so_set_none {p : Addr} (h : SO (σ.set i none) (L.set i none) p) : SO σ L p := by
  obtain ⟨j, xs, h1, h2⟩ := h
  rcases get_set_some h1 with ⟨_, _, z⟩ | ⟨ne, z⟩
  · cases z
  · rcases get_set_some h2 with ⟨e, _, _⟩ | ⟨_, z2⟩
    · exact absurd e ne
    · exact ⟨j, xs, z, z2⟩
/-- fewer own lists -/
theorem Av.less {σ2 : St} {L2 : Loc} (h : ∀ p, SO σ2 L2 p → SO σ L p) : ∀ p, Av σ2 L2 G X p → Av σ L G X p := fun p z => by
  rcases z with z | z | z
  · exact .inl z
  · exact .inr (.inl z)
  · exact .inr (.inr (h p z))
theorem Mt.set_d {v : V} {x : D} (m : Mt Γ σ H L G X) (r : Rep Γ (Av σ L G X) H x v) : Mt Γ (σ.set i (some v)) H (L.set i (some (.d x))) G X := by
  have al : ∀ p, Av (σ.set i (some v)) (L.set i (some (.d x))) G X p → Av σ L G X p := Av.less fun p => so_set_d
  refine ⟨by simp [m.len], fun j d e => ?_, fun j xs e => ?_, fun j k xs ys p e1 e2 e3 e4 => ?_, fun p o e => ?_, fun p hp => ?_, fun p hp => m.disO p (so_set_d hp)⟩
  · rcases get_set_some e with ⟨rfl, hl, z⟩ | ⟨ne, z⟩
    · cases z
      exact ⟨v, List.getElem?_set_self (by rw [← m.len]; exact hl), r.weak al⟩
    · obtain ⟨w, h1, h2⟩ := m.val j d z
      exact ⟨w, by rw [List.getElem?_set_ne (Ne.symm ne)]; exact h1, h2.weak al⟩
  · rcases get_set_some e with ⟨_, _, z⟩ | ⟨ne, z⟩
    · cases z
    · obtain ⟨p, vs, h1, h2, h3, h4⟩ := m.own j xs z
      exact ⟨p, vs, by rw [List.getElem?_set_ne (Ne.symm ne)]; exact h1, h2, h3, h4.weak al⟩
  · rcases get_set_some e1 with ⟨_, _, z⟩ | ⟨n1, z1⟩
    · cases z
    · rcases get_set_some e2 with ⟨_, _, z⟩ | ⟨n2, z2⟩
      · cases z
      · rw [List.getElem?_set_ne (Ne.symm n1)] at e3
        rw [List.getElem?_set_ne (Ne.symm n2)] at e4
        exact m.dist j k xs ys p z1 z2 e3 e4
  · obtain ⟨ho, h1, h2⟩ := m.gok p o e
    exact ⟨ho, h1, h2.step (Stp.weak al)⟩
  · obtain ⟨h1, h2, h3⟩ := m.disX p hp
    exact ⟨h1, fun z => h2 (so_set_d z), h3⟩
theorem ks_set_d {v : V} {x : D} : Ks σ L G H (σ.set i (some v)) (L.set i (some (.d x))) G H := fun p o h n s => ⟨h, n, fun z => s (so_set_d z)⟩

theorem so_set_own {p q : Addr} {xs : List D} (h : SO (σ.set i (some (.ref p))) (L.set i (some (.own xs))) q) : SO σ L q ∨ q = p := by
  obtain ⟨j, ys, h1, h2⟩ := h
  rcases get_set_some h2 with ⟨_, _, z⟩ | ⟨ne, z⟩
  · cases z; exact .inr rfl
  · rcases get_set_some h1 with ⟨e, _, _⟩ | ⟨_, z1⟩
    · exact absurd e ne
    · exact .inl ⟨j, ys, z1, z⟩
/-- a new list goes to a slot -/
theorem Mt.set_own {p : Addr} {vs : List V} {xs : List D} (m : Mt Γ σ H L G (orP X p)) (hX : ¬ X p) (h : H p = some (.lst vs)) (hz : xs.length ≤ sizeLine) (r : RepL Γ (Av σ L G (orP X p)) H xs vs) :
    Mt Γ (σ.set i (some (.ref p))) H (L.set i (some (.own xs))) G X := by
  have al : ∀ q, Av (σ.set i (some (.ref p))) (L.set i (some (.own xs))) G X q → Av σ L G (orP X p) q := fun q z => by
    rcases z with z | z | z
    · exact .inl z
    · exact .inr (.inl (.inl z))
    · rcases so_set_own z with z | z
      · exact .inr (.inr z)
      · exact .inr (.inl (.inr z))
  have nso : ¬ SO σ L p := (m.disX p (.inr rfl)).2.1
  refine ⟨by simp [m.len], fun j d e => ?_, fun j ys e => ?_, fun j k ys zs q e1 e2 e3 e4 => ?_, fun q o e => ?_, fun q hq => ?_, fun q hq => ?_⟩
  · rcases get_set_some e with ⟨_, _, z⟩ | ⟨ne, z⟩
    · cases z
    · obtain ⟨w, h1, h2⟩ := m.val j d z
      exact ⟨w, by rw [List.getElem?_set_ne (Ne.symm ne)]; exact h1, h2.weak al⟩
  · rcases get_set_some e with ⟨rfl, hl, z⟩ | ⟨ne, z⟩
    · cases z
      exact ⟨p, vs, List.getElem?_set_self (by rw [← m.len]; exact hl), h, hz, r.weak al⟩
    · obtain ⟨q, ws, h1, h2, h3, h4⟩ := m.own j ys z
      exact ⟨q, ws, by rw [List.getElem?_set_ne (Ne.symm ne)]; exact h1, h2, h3, h4.weak al⟩
  · rcases get_set_some e1 with ⟨a1, b1, z1⟩ | ⟨n1, z1⟩
    · rcases get_set_some e2 with ⟨a2, _, z2⟩ | ⟨n2, z2⟩
      · rw [a1, a2]
      · rw [a1, List.getElem?_set_self (by rw [← m.len]; exact b1)] at e3
        cases e3
        rw [List.getElem?_set_ne (Ne.symm n2)] at e4
        exact absurd ⟨k, zs, z2, e4⟩ nso
    · rw [List.getElem?_set_ne (Ne.symm n1)] at e3
      rcases get_set_some e2 with ⟨a2, b2, z2⟩ | ⟨n2, z2⟩
      · rw [a2, List.getElem?_set_self (by rw [← m.len]; exact b2)] at e4
        cases e4
        exact absurd ⟨j, ys, z1, e3⟩ nso
      · rw [List.getElem?_set_ne (Ne.symm n2)] at e4
        exact m.dist j k ys zs q z1 z2 e3 e4
  · obtain ⟨ho, h1, h2⟩ := m.gok q o e
    exact ⟨ho, h1, h2.step (Stp.weak al)⟩
  · obtain ⟨h1, h2, h3⟩ := m.disX q (.inl hq)
    refine ⟨h1, fun z => ?_, h3⟩
    rcases so_set_own z with z | z
    · exact h2 z
    · rw [z] at hq; exact hX hq
  · rcases so_set_own hq with z | z
    · exact m.disO q z
    · rw [z]; exact (m.disX p (.inr rfl)).1
theorem ks_set_own {p : Addr} {xs : List D} (hn : H p = none) (k : ∀ q o, H q = some o → G q = none → H2 q = some o) : Ks σ L G H (σ.set i (some (.ref p))) (L.set i (some (.own xs))) G H2 := fun q o h n s =>
  ⟨k q o h n, n, fun z => by
    rcases so_set_own z with z | z
    · exact s z
    · rw [z, hn] at h; cases h⟩

/-- a slot's own list is changed -/
theorem so_set_same {p q : Addr} {xs ys : List D} (e1 : L[i]? = some (some (.own xs))) (h : SO σ (L.set i (some (.own ys))) q) : SO σ L q := by
  obtain ⟨j, zs, h1, h2⟩ := h
  rcases get_set_some h1 with ⟨a, _, _⟩ | ⟨_, z⟩
  · rw [a] at h2; exact ⟨i, xs, e1, h2⟩
  · exact ⟨j, zs, z, h2⟩
theorem so_set_back {q : Addr} {xs ys : List D} (e1 : L[i]? = some (some (.own xs))) (h : SO σ L q) : SO σ (L.set i (some (.own ys))) q := by
  obtain ⟨j, zs, h1, h2⟩ := h
  by_cases e : j = i
  · subst e
    exact ⟨j, ys, List.getElem?_set_self (List.getElem?_eq_some_iff.mp h1).1, h2⟩
  · exact ⟨j, zs, by rw [List.getElem?_set_ne (Ne.symm e)]; exact h1, h2⟩
theorem Mt.mut_own {p : Addr} {vs ws : List V} {xs ys : List D} (m : Mt Γ σ H L G X) (e1 : L[i]? = some (some (.own xs))) (e2 : σ[i]? = some (some (.ref p))) (hz : ys.length ≤ sizeLine)
    (r : RepL Γ (Av σ L G X) H ys ws) : Mt Γ σ (upd H p (.lst ws)) (L.set i (some (.own ys))) G X := by
  have hp : SO σ L p := ⟨i, xs, e1, e2⟩
  have st : Stp (Av σ L G X) H (Av σ (L.set i (some (.own ys))) G X) (upd H p (.lst ws)) := fun q o h n => by
    have hq : q ≠ p := fun z => n (.inr (.inr (z ▸ hp)))
    refine ⟨by rw [upd_ne hq]; exact h, fun z => n ?_⟩
    rcases z with z | z | z
    · exact .inl z
    · exact .inr (.inl z)
    · exact .inr (.inr (so_set_same (p := p) e1 z))
  refine ⟨by simp [m.len], fun j d e => ?_, fun j zs e => ?_, fun j k zs us q a1 a2 a3 a4 => ?_, fun q o e => ?_, fun q hq => ?_, fun q hq => m.disO q (so_set_same (p := p) e1 hq)⟩
  · rcases get_set_some e with ⟨_, _, z⟩ | ⟨ne, z⟩
    · cases z
    · obtain ⟨w, h1, h2⟩ := m.val j d z
      exact ⟨w, h1, h2.step st _ _⟩
  · rcases get_set_some e with ⟨a, _, z⟩ | ⟨ne, z⟩
    · cases z
      subst a
      exact ⟨p, ws, e2, upd_same, hz, r.step st _ _⟩
    · obtain ⟨q, us, h1, h2, h3, h4⟩ := m.own j zs z
      have hq : q ≠ p := fun y => ne (m.dist j i zs xs p z e1 (y ▸ h1) e2)
      exact ⟨q, us, h1, by rw [upd_ne hq]; exact h2, h3, h4.step st _ _⟩
  · have b1 : ∃ w, L[j]? = some (some (.own w)) := by
      rcases get_set_some a1 with ⟨a, _, _⟩ | ⟨_, z⟩
      · rw [a]; exact ⟨xs, e1⟩
      · exact ⟨zs, z⟩
    have b2 : ∃ w, L[k]? = some (some (.own w)) := by
      rcases get_set_some a2 with ⟨a, _, _⟩ | ⟨_, z⟩
      · rw [a]; exact ⟨xs, e1⟩
      · exact ⟨us, z⟩
    obtain ⟨w1, c1⟩ := b1
    obtain ⟨w2, c2⟩ := b2
    exact m.dist j k w1 w2 q c1 c2 a3 a4
  · obtain ⟨ho, h1, h2⟩ := m.gok q o e
    have hq : q ≠ p := fun y => by rw [y, m.disO p hp] at e; cases e
    exact ⟨ho, by rw [upd_ne hq]; exact h1, h2.step st⟩
  · obtain ⟨h1, h2, h3⟩ := m.disX q hq
    have hne : q ≠ p := fun y => h2 (y ▸ hp)
    exact ⟨h1, fun z => h2 (so_set_same (p := p) e1 z), by rw [upd_ne hne]; exact h3⟩
theorem ks_mut_own {p : Addr} {ws : List V} {xs ys : List D} (e1 : L[i]? = some (some (.own xs))) (e2 : σ[i]? = some (some (.ref p))) : Ks σ L G H σ (L.set i (some (.own ys))) G (upd H p (.lst ws)) := fun q o h n s => by
  have hq : q ≠ p := fun z => s (z ▸ ⟨i, xs, e1, e2⟩)
  exact ⟨by rw [upd_ne hq]; exact h, n, fun z => s (so_set_same (p := p) e1 z)⟩

/-- a slot's own list is frozen -/
theorem so_frz {q : Addr} {xs : List D} (h : SO σ (L.set i (some (.d (.lst xs)))) q) : SO σ L q ∧ (∀ p, σ[i]? = some (some (.ref p)) → (∃ ys, L[i]? = some (some (.own ys))) → (∀ (j k : Nat) xs ys p, L[j]? = some (some (.own xs)) → L[k]? = some (some (.own ys)) → σ[j]? = some (some (.ref p)) → σ[k]? = some (some (.ref p)) → j = k) → q ≠ p) := by
  obtain ⟨j, zs, h1, h2⟩ := h
  rcases get_set_some h1 with ⟨_, _, z⟩ | ⟨ne, z⟩
  · cases z
  · refine ⟨⟨j, zs, z, h2⟩, fun p hp ⟨ys, hy⟩ dist e => ne ?_⟩
    subst e
    exact dist j i zs ys q z hy h2 hp
theorem Mt.frz {xs : List D} (m : Mt Γ σ H L G X) (e1 : L[i]? = some (some (.own xs))) : Mt Γ σ H (L.set i (some (.d (.lst xs)))) G X := by
  obtain ⟨p, vs, e2, hp, hz, r⟩ := m.own i xs e1
  have al : ∀ q, Av σ (L.set i (some (.d (.lst xs)))) G X q → Av σ L G X q := fun q z => by
    rcases z with z | z | z
    · exact .inl z
    · exact .inr (.inl z)
    · exact .inr (.inr (so_frz z).1)
  have np : ¬ Av σ (L.set i (some (.d (.lst xs)))) G X p := fun z => by
    rcases z with z | z | z
    · exact z (m.disO p ⟨i, xs, e1, e2⟩)
    · exact (m.disX p z).2.1 ⟨i, xs, e1, e2⟩
    · exact (so_frz z).2 p e2 ⟨xs, e1⟩ m.dist rfl
  refine ⟨by simp [m.len], fun j d e => ?_, fun j ys e => ?_, fun j k ys zs q a1 a2 a3 a4 => ?_, fun q o e => ?_, fun q hq => ?_, fun q hq => m.disO q (so_frz hq).1⟩
  · rcases get_set_some e with ⟨a, _, z⟩ | ⟨ne, z⟩
    · cases z
      subst a
      refine ⟨.ref p, e2, ?_⟩
      simp only [Rep]
      exact ⟨p, vs, rfl, ⟨hp, np⟩, hz, r.weak al⟩
    · obtain ⟨w, h1, h2⟩ := m.val j d z
      exact ⟨w, h1, h2.weak al⟩
  · rcases get_set_some e with ⟨_, _, z⟩ | ⟨ne, z⟩
    · cases z
    · obtain ⟨q, ws, h1, h2, h3, h4⟩ := m.own j ys z
      exact ⟨q, ws, h1, h2, h3, h4.weak al⟩
  · rcases get_set_some a1 with ⟨_, _, z⟩ | ⟨_, z1⟩
    · cases z
    · rcases get_set_some a2 with ⟨_, _, z⟩ | ⟨_, z2⟩
      · cases z
      · exact m.dist j k ys zs q z1 z2 a3 a4
  · obtain ⟨ho, h1, h2⟩ := m.gok q o e
    exact ⟨ho, h1, h2.step (Stp.weak al)⟩
  · obtain ⟨h1, h2, h3⟩ := m.disX q hq
    exact ⟨h1, fun z => h2 (so_frz z).1, h3⟩
theorem ks_frz {xs : List D} : Ks σ L G H σ (L.set i (some (.d (.lst xs)))) G H := fun q o h n s => ⟨h, n, fun z => s (so_frz z).1⟩
end
end DL
namespace DL
open PySem PySem.Spec PyProof.Rows L2

/-- for a store: a new list is frozen, a list that a slot has may not go -/
def asD : EV → Option D
  | .d x => some x
  | .own xs => some (.lst xs)
  | .bor _ => none
/-- for reading -/
def asR : EV → D
  | .d x => x
  | .own xs => .lst xs
  | .bor xs => .lst xs
def asL : EV → Option (List D)
  | .d (.lst xs) => some xs
  | .own xs => some xs
  | .bor xs => some xs
  | _ => none
def asSq : EV → Option (List D)
  | .d (.lst xs) => some xs
  | .d (.tup xs) => some xs
  | .d (.slst xs) => some xs
  | .own xs => some xs
  | .bor xs => some xs
  | _ => none
def asDs : List EV → Option (List D)
  | [] => some []
  | x :: xs => match asD x, asDs xs with
    | some d, some ds => some (d :: ds)
    | _, _ => none

inductive BOp where
  | addP | subP | iaddP | isubP | add | sub | addB | subB | subBB | mul | fdiv | mod | sadd | tadd | ladd
  deriving DecidableEq
def DivOk (i j : Int) : Prop := j ≠ 0 ∧ Builtin.divisionGoesByPylong i j = false
def opB0 : BOp → EV → EV → (EV → Prop) → Prop
  | .add, .d (.int i), .d (.int j), k => k (.d (.int (i + j)))
  | .sub, .d (.int i), .d (.int j), k => k (.d (.int (i - j)))
  | .addB, .d (.int i), .d (.bl j), k => k (.d (.int (i + if j = true then 1 else 0)))
  | .subB, .d (.int i), .d (.bl j), k => k (.d (.int (i - if j = true then 1 else 0)))
  | .subBB, .d (.bl i), .d (.bl j), k => k (.d (.int ((if i = true then 1 else 0) - if j = true then 1 else 0)))
  | .mul, .d (.int i), .d (.int j), k => CMulW i j ∧ k (.d (.int (i * j)))
  | .fdiv, .d (.int i), .d (.int j), k => DivOk i j ∧ k (.d (.int (i.fdiv j)))
  | .mod, .d (.int i), .d (.int j), k => j ≠ 0 ∧ k (.d (.int (i.fmod j)))
  | .sadd, .d (.str i), .d (.str j), k => i.length + j.length ≤ sizeLine ∧ k (.d (.str (i ++ j)))
  | .tadd, .d (.tup i), .d (.tup j), k => i.length + j.length ≤ sizeLine ∧ k (.d (.tup (i ++ j)))
  | .ladd, x, y, k => match asL x, asL y with
    | some i, some j => i.length + j.length ≤ sizeLine ∧ k (.own (i ++ j))
    | _, _ => False
  | _, _, _, _ => False

def addSel : EV → EV → BOp
  | .d (.int _), .d (.int _) => .add
  | .d (.int _), .d (.bl _) => .addB
  | .d (.str _), .d (.str _) => .sadd
  | .d (.tup _), .d (.tup _) => .tadd
  | _, _ => .ladd
def subSel : EV → EV → BOp
  | .d (.int _), .d (.bl _) => .subB
  | .d (.bl _), .d (.bl _) => .subBB
  | _, _ => .sub
def iaddSel : EV → EV → BOp
  | .d (.int _), .d (.bl _) => .addB
  | _, _ => .add
def isubSel : EV → EV → BOp
  | .d (.int _), .d (.bl _) => .subB
  | _, _ => .sub
def opB : BOp → EV → EV → (EV → Prop) → Prop
  | .iaddP, x, y, k => opB0 (iaddSel x y) x y k
  | .isubP, x, y, k => opB0 (isubSel x y) x y k
  | .addP, x, y, k => opB0 (addSel x y) x y k
  | .subP, x, y, k => opB0 (subSel x y) x y k
  | o, x, y, k => opB0 o x y k

mutual
/-- the data that == is shown for -/
def plainD : D → Bool
  | .non => true
  | .bl _ => true
  | .int _ => true
  | .str x => PyData.strOk x
  | .tup ds => plainL ds
  | .lst ds => plainL ds
  | _ => false
def plainL : List D → Bool
  | [] => true
  | d :: ds => plainD d && plainL ds
end
mutual
def toPy : D → PyData
  | .non => .none
  | .bl b => .bool b
  | .int i => .int i
  | .str x => .str x
  | .tup ds => .tuple (toPyL ds)
  | .lst ds => .list (toPyL ds)
  | .ins _ _ => .none
  | .ref _ => .none
  | .fn _ => .none
  | .slst _ => .none
def toPyL : List D → List PyData
  | [] => []
  | d :: ds => toPy d :: toPyL ds
end
def eqOk (d : D) : Bool := plainD d && decide ((toPy d).depth ≤ 64)
def eqD (x y : D) : Bool := PyData.eqv (toPy x) (toPy y)
def isNon : D → Bool
  | .non => true
  | _ => false

inductive COp where
  | eq | ne | lt | le | gt | ge | isN | notN | isB | notB
  deriving DecidableEq
def opC : COp → EV → EV → (Bool → Prop) → Prop
  | .lt, .d (.int i), .d (.int j), k => k (decide (i < j))
  | .le, .d (.int i), .d (.int j), k => k (decide (i ≤ j))
  | .gt, .d (.int i), .d (.int j), k => k (decide (j < i))
  | .ge, .d (.int i), .d (.int j), k => k (decide (j ≤ i))
  | .eq, x, y, k => eqOk (asR x) = true ∧ eqOk (asR y) = true ∧ k (eqD (asR x) (asR y))
  | .ne, x, y, k => eqOk (asR x) = true ∧ eqOk (asR y) = true ∧ k (!eqD (asR x) (asR y))
  | .isN, x, .d .non, k => k (isNon (asR x))
  | .notN, x, .d .non, k => k (!isNon (asR x))
  | .isB, .d (.bl i), .d (.bl j), k => k (i == j)
  | .notB, .d (.bl i), .d (.bl j), k => k (!(i == j))
  | _, _, _, _ => False

/-- truth -/
def truD : EV → Option Bool
  | .d .non => some false
  | .d (.bl b) => some b
  | .d (.int i) => some (i != 0)
  | .d (.str x) => if x.length ≤ 16777216 then some ((x.length : Int) != 0) else none
  | .d (.tup xs) => some (!xs.isEmpty)
  | .d (.lst xs) => some (!xs.isEmpty)
  | .own xs => some (!xs.isEmpty)
  | .bor xs => some (!xs.isEmpty)
  | _ => none

inductive IOp where
  | any | seq | str
  deriving DecidableEq
def opI0 : IOp → EV → EV → (EV → Prop) → Prop
  | .seq, x, .d (.int i), k => match asSq x with
    | some xs => ∃ d, atI xs i = some d ∧ k (.d d)
    | none => False
  | .str, .d (.str z), .d (.int i), k => z.length ≤ sizeLine ∧ ∃ c, atI z.cps.toList i = some c ∧ k (.d (.str ⟨#[c]⟩))
  | _, _, _, _ => False

def idxSel : EV → IOp
  | .d (.str _) => .str
  | _ => .seq
def opI : IOp → EV → EV → (EV → Prop) → Prop
  | .any, x, y, k => opI0 (idxSel x) x y k
  | o, x, y, k => opI0 o x y k

def cutD (xs : List D) (lo hi : Option Int) : List D := (xs.drop (HT.sIx xs.length 0 lo)).take (HT.sIx xs.length xs.length hi - HT.sIx xs.length 0 lo)
inductive SOp where
  | any | tup | lst | revT
  deriving DecidableEq
def opS0 : SOp → EV → Option Int → Option Int → (EV → Prop) → Prop
  | .tup, .d (.tup xs), lo, hi, k => k (.d (.tup (cutD xs lo hi)))
  | .lst, x, lo, hi, k => match asL x with
    | some xs => k (.own (cutD xs lo hi))
    | none => False
  | .revT, .d (.tup xs), _, _, k => k (.d (.tup xs.reverse))
  | _, _, _, _, _ => False

def slcSel : EV → SOp
  | .d (.tup _) => .tup
  | _ => .lst
def opS : SOp → EV → Option Int → Option Int → (EV → Prop) → Prop
  | .any, x, lo, hi, k => opS0 (slcSel x) x lo hi k
  | o, x, lo, hi, k => opS0 o x lo hi k

/-- built-in types as isinstance takes them -/
inductive Ty where
  | tuple | list | dict | str | int | bool
  deriving DecidableEq
def Ty.nm : Ty → String
  | .tuple => "tuple" | .list => "list" | .dict => "dict" | .str => "str" | .int => "int" | .bool => "bool"
def isTy : Ty → D → Option Bool
  | t, .non => some false
  | t, .bl _ => some (t == .int || t == .bool)
  | t, .int _ => some (t == .int)
  | t, .str _ => some (t == .str)
  | t, .tup _ => some (t == .tuple)
  | t, .lst _ => some (t == .list)
  | _, _ => none

inductive BI where
  | lenP | len | lenS | abs | int | tuple | list | all | any | sum | sorted
  deriving DecidableEq
def opBI0 : BI → EV → (EV → Prop) → Prop
  | .len, x, k => match asSq x with
    | some xs => k (.d (.int xs.length))
    | none => False
  | .lenS, .d (.str z), k => z.length ≤ sizeLine ∧ k (.d (.int z.length))
  | .abs, .d (.int i), k => k (.d (.int (if i < 0 then -i else i)))
  | .int, .d (.int i), k => k (.d (.int i))
  | .int, .d (.bl b), k => k (.d (.int (if b then 1 else 0)))
  | .tuple, x, k => match asSq x with
    | some xs => k (.d (.tup xs))
    | none => False
  | .list, x, k => match asSq x with
    | some xs => k (.own xs)
    | none => False
  | .all, x, k => ∃ bs : List Bool, asL x = some (bs.map .bl) ∧ k (.d (.bl (bs.all id)))
  | .any, x, k => ∃ bs : List Bool, asL x = some (bs.map .bl) ∧ k (.d (.bl (bs.any id)))
  | .sum, x, k => ∃ ns : List Int, asL x = some (ns.map .int) ∧ k (.d (.int ns.sum))
  | .sorted, x, k => ∃ ns : List Int, asL x = some (ns.map .int) ∧ ns.length < 64 ∧ ∀ ms : List Int, ms.Perm ns → ms.Pairwise (· ≤ ·) → k (.own (ms.map .int))
  | _, _, _ => False

def lenSel : EV → BI
  | .d (.str _) => .lenS
  | _ => .len
def opBI : BI → EV → (EV → Prop) → Prop
  | .lenP, x, k => opBI0 (lenSel x) x k
  | o, x, k => opBI0 o x k

mutual
inductive CT where
  | name (i : Nat)
  | tup (ts : CTs)
inductive CTs where
  | nil
  | cons (t : CT) (r : CTs)
end
mutual
/-- expressions -/
inductive CE where
  | loc (i : Nat)
  | cst (d : D)
  | gc (n : Nat)
  | bin (o : BOp) (a b : CE)
  | neg (a : CE)
  | cmp (o : COp) (a b : CE)
  | chn (o1 o2 : COp) (a b c : CE)
  | and (a b : CE)
  | or (a b : CE)
  | not (a : CE)
  | ite (t : CB) (a b : CE)
  | idx (o : IOp) (a b : CE)
  | gidx (a b : CE)
  | slc (o : SOp) (a : CE) (lo hi : CO)
  | tup (es : CEs)
  | lst (es : CEs)
  | call (k : Nat) (es : CEs)
  | bi (b : BI) (a : CE)
  | inst (t : Ty) (a : CE)
  | comp (t : CT) (it : CI) (ifs : CBs) (e : CE) (vs : List Nat)
  | nev
/-- argument lists -/
inductive CEs where
  | nil
  | cons (e : CE) (r : CEs)
/-- parts of slices -/
inductive CO where
  | no
  | yes (e : CE)
/-- tests -/
inductive CB where
  | val (e : CE)
  | cmp (o : COp) (a b : CE)
  | chn (o1 o2 : COp) (a b c : CE)
  | and (a b : CB)
  | or (a b : CB)
  | not (a : CB)
/-- a comprehension's tests: none or one -/
inductive CBs where
  | no
  | one (t : CB)
/-- what is walked -/
inductive CI where
  | seq (e : CE)
  | rng1 (a : CE)
  | rng2 (a b : CE)
  | enum (e : CE)
  | zip (a b : CE)
end

def CTs.len : CTs → Nat
  | .nil => 0
  | .cons _ r => CTs.len r + 1
mutual
def bindT : CT → D → Loc → (Loc → Prop) → Prop
  | .name i, d, L, k => k (L.set i (some (.d d)))
  | .tup ts, d, L, k => match d with
    | .tup ds => ds.length = CTs.len ts ∧ bindTs ts ds L k
    | _ => False
def bindTs : CTs → List D → Loc → (Loc → Prop) → Prop
  | .nil, ds, L, k => ds = [] ∧ k L
  | .cons t r, ds, L, k => match ds with
    | d :: ds => bindT t d L fun L1 => bindTs r ds L1 k
    | [] => False
end

/-- the turns of a comprehension -/
def wpComp (bind : D → Loc → (Loc → Prop) → Prop) (tst : Loc → Gh → (Bool → Gh → Prop) → Prop) (elt : Loc → Gh → (EV → Gh → Prop) → Prop) (L0 : Loc) : List D → List D → Gh → (List D → Gh → Prop) → Prop
  | [], acc, G, Q => Q acc G
  | d :: ds, acc, G, Q => bind d L0 fun L1 => tst L1 G fun b G1 => if b = true then elt L1 G1 fun x G2 => match asD x with
      | some y => wpComp bind tst elt L0 ds (acc ++ [y]) G2 Q
      | none => False
    else wpComp bind tst elt L0 ds acc G1 Q
def wipeL (L : Loc) : List Nat → Loc
  | [] => L
  | v :: vs => (wipeL L vs).set v none
def noOwn : Option SV → Option SV
  | some (.own _) => none
  | x => x
/-- the slots as a comprehension sees them: its own names and own lists are hidden -/
def blkL (L : Loc) (vs : List Nat) : Loc := wipeL (L.map noOwn) vs
def rngD (lo : Int) : Nat → List D
  | 0 => []
  | n + 1 => .int lo :: rngD (lo + 1) n
def enumD (i : Nat) : List D → List D
  | [] => []
  | d :: ds => .tup [.int i, d] :: enumD (i + 1) ds
def zipD : List D → List D → List D
  | x :: xs, y :: ys => .tup [x, y] :: zipD xs ys
  | _, _ => []

/-- the defs' promises, the module's constants -/
structure Sg where
  sp : Nat → DSp
  gc : Nat → D

mutual
def wpE (S : Sg) : CE → (DX → Gh → Prop) → Loc → Gh → (EV → Gh → Prop) → Prop
  | .loc i, _, L, G, Q => match L[i]? with
    | some (some (.d x)) => Q (.d x) G
    | some (some (.own xs)) => Q (.bor xs) G
    | _ => False
  | .cst d, _, _, G, Q => Q (.d d) G
  | .gc n, _, _, G, Q => Q (.d (S.gc n)) G
  | .bin o a b, E, L, G, Q => wpE S a E L G fun x G1 => wpE S b E L G1 fun y G2 => opB o x y fun z => Q z G2
  | .neg a, E, L, G, Q => wpE S a E L G fun x G1 => match x with
    | .d (.int i) => Q (.d (.int (-i))) G1
    | _ => False
  | .cmp o a b, E, L, G, Q => wpE S a E L G fun x G1 => wpE S b E L G1 fun y G2 => opC o x y fun z => Q (.d (.bl z)) G2
  | .chn o1 o2 a b c, E, L, G, Q => wpE S a E L G fun x G1 => wpE S b E L G1 fun y G2 => opC o1 x y fun z => if z = true then wpE S c E L G2 fun u G3 => opC o2 y u fun z2 => Q (.d (.bl z2)) G3 else Q (.d (.bl false)) G2
  | .and a b, E, L, G, Q => wpE S a E L G fun x G1 => match truD x with
    | some c => if c = true then wpE S b E L G1 Q else ∃ y, asD x = some y ∧ Q (.d y) G1
    | none => False
  | .or a b, E, L, G, Q => wpE S a E L G fun x G1 => match truD x with
    | some c => if c = true then ∃ y, asD x = some y ∧ Q (.d y) G1 else wpE S b E L G1 Q
    | none => False
  | .not a, E, L, G, Q => wpE S a E L G fun x G1 => match truD x with
    | some c => Q (.d (.bl (!c))) G1
    | none => False
  | .ite t a b, E, L, G, Q => wpB S t E L G fun c G1 => if c = true then wpE S a E L G1 Q else wpE S b E L G1 Q
  | .idx o a b, E, L, G, Q => wpE S a E L G fun x G1 => wpE S b E L G1 fun y G2 => opI o x y fun z => Q z G2
  | .gidx a b, E, L, G, Q => wpE S a E L G fun x G1 => wpE S b E L G1 fun y G2 => match x, y with
    | .d (.ref p), .d (.int k) => ∃ xs d, G2 p = some (.lst xs) ∧ atI xs k = some d ∧ Q (.d d) G2
    | _, _ => False
  | .slc o a lo hi, E, L, G, Q => wpE S a E L G fun x G1 => wpO S lo E L G1 fun l G2 => wpO S hi E L G2 fun h G3 => opS o x l h fun z => Q z G3
  | .tup es, E, L, G, Q => wpEs S es E L G fun xs G1 => match asDs xs with
    | some ds => ds.length ≤ 16777216 ∧ Q (.d (.tup ds)) G1
    | none => False
  | .lst es, E, L, G, Q => wpEs S es E L G fun xs G1 => match asDs xs with
    | some ds => ds.length ≤ 16777216 ∧ Q (.own ds) G1
    | none => False
  | .call k es, E, L, G, Q => wpEs S es E L G fun xs G1 => match asDs xs with
    | some ds => S.sp k ds G1 (fun d G2 => Q (.d d) G2) E
    | none => False
  | .bi b a, E, L, G, Q => wpE S a E L G fun x G1 => opBI b x fun z => Q z G1
  | .inst t a, E, L, G, Q => wpE S a E L G fun x G1 => match isTy t (asR x) with
    | some c => Q (.d (.bl c)) G1
    | none => False
  | .comp t it ifs e vs, E, L, G, Q => wpI S it E L G fun items G1 =>
      wpComp (bindT t) (fun L1 G2 k => wpBs S ifs (fun _ _ => False) L1 G2 k) (fun L1 G2 k => wpE S e (fun _ _ => False) L1 G2 k) (blkL L vs) items [] G1 fun ys G2 => Q (.own ys) G2
  | .nev, _, _, _, _ => False
def wpEs (S : Sg) : CEs → (DX → Gh → Prop) → Loc → Gh → (List EV → Gh → Prop) → Prop
  | .nil, _, _, G, Q => Q [] G
  | .cons e r, E, L, G, Q => wpE S e E L G fun x G1 => wpEs S r E L G1 fun xs G2 => Q (x :: xs) G2
def wpO (S : Sg) : CO → (DX → Gh → Prop) → Loc → Gh → (Option Int → Gh → Prop) → Prop
  | .no, _, _, G, Q => Q none G
  | .yes e, E, L, G, Q => wpE S e E L G fun x G1 => match x with
    | .d (.int i) => Q (some i) G1
    | _ => False
def wpB (S : Sg) : CB → (DX → Gh → Prop) → Loc → Gh → (Bool → Gh → Prop) → Prop
  | .val e, E, L, G, Q => wpE S e E L G fun x G1 => match truD x with
    | some c => Q c G1
    | none => False
  | .cmp o a b, E, L, G, Q => wpE S a E L G fun x G1 => wpE S b E L G1 fun y G2 => opC o x y fun z => Q z G2
  | .chn o1 o2 a b c, E, L, G, Q => wpE S a E L G fun x G1 => wpE S b E L G1 fun y G2 => opC o1 x y fun z => if z = true then wpE S c E L G2 fun u G3 => opC o2 y u fun z2 => Q z2 G3 else Q false G2
  | .and a b, E, L, G, Q => wpB S a E L G fun c G1 => if c = true then wpB S b E L G1 Q else Q false G1
  | .or a b, E, L, G, Q => wpB S a E L G fun c G1 => if c = true then Q true G1 else wpB S b E L G1 Q
  | .not a, E, L, G, Q => wpB S a E L G fun c G1 => Q (!c) G1
def wpBs (S : Sg) : CBs → (DX → Gh → Prop) → Loc → Gh → (Bool → Gh → Prop) → Prop
  | .no, _, _, G, Q => Q true G
  | .one t, E, L, G, Q => wpB S t E L G Q
def wpI (S : Sg) : CI → (DX → Gh → Prop) → Loc → Gh → (List D → Gh → Prop) → Prop
  | .seq e, E, L, G, Q => wpE S e E L G fun x G1 => match asD x with
    | some (.lst xs) => Q xs G1
    | some (.tup xs) => Q xs G1
    | some (.slst xs) => Q xs G1
    | _ => False
  | .rng1 a, E, L, G, Q => wpE S a E L G fun x G1 => match x with
    | .d (.int j) => j ≤ 16777216 ∧ -16777216 ≤ j ∧ Q (rngD 0 j.toNat) G1
    | _ => False
  | .rng2 a b, E, L, G, Q => wpE S a E L G fun x G1 => wpE S b E L G1 fun y G2 => match x, y with
    | .d (.int i), .d (.int j) => -(2 ^ 61) ≤ i ∧ i ≤ 2 ^ 61 ∧ -(2 ^ 61) ≤ j ∧ j ≤ i + 16777216 ∧ Q (rngD i (j - i).toNat) G2
    | _, _ => False
  | .enum e, E, L, G, Q => wpE S e E L G fun x G1 => match asD x with
    | some (.lst xs) => Q (enumD 0 xs) G1
    | some (.tup xs) => Q (enumD 0 xs) G1
    | _ => False
  | .zip a b, E, L, G, Q => wpE S a E L G fun x G1 => wpE S b E L G1 fun y G2 => match asD x, asD y with
    | some (.lst xs), some (.lst ys) => Q (zipD xs ys) G2
    | some (.tup xs), some (.tup ys) => Q (zipD xs ys) G2
    | _, _ => False
end

structure En where
  nx : Loc → Gh → Prop
  rt : D → Gh → Prop
  bk : Loc → Gh → Prop
  ct : Loc → Gh → Prop
  ex : DX → Loc → Gh → Prop
mutual
inductive CS where
  | set (i : Nat) (e : CE)
  | setF (i : Nat) (e : CE)
  | asg (t : CT) (e : CE)
  | par (i j : Nat) (a b : CE)
  | par3 (i j l : Nat) (a b c : CE)
  | aug (i : Nat) (o : BOp) (e : CE)
  | app (i : Nat) (e : CE)
  | ext (i : Nat) (e : CE)
  | pop (i : Nat)
  | expr (e : CE)
  | ret (e : CE)
  | ite (t : CB) (a b : CSs)
  | whl (t : CB) (b : CSs)
  | for (t : CT) (it : CI) (b : CSs)
  | gset (o i v : CE)
  | retT (e : CE)
  | brk
  | cnt
  | nev
inductive CSs where
  | nil
  | cons (s : CS) (r : CSs)
  | frz (i : Nat) (r : CSs)
end
def wpFor (bind : D → Loc → (Loc → Prop) → Prop) (body : En → Loc → Gh → Prop) : List D → En → Loc → Gh → Prop
  | [], R, L, G => R.nx L G
  | d :: ds, R, L, G => bind d L fun L1 => body { R with nx := fun L2 G2 => wpFor bind body ds R L2 G2, ct := fun L2 G2 => wpFor bind body ds R L2 G2, bk := R.nx } L1 G
def wpWh (tst : (DX → Gh → Prop) → Loc → Gh → (Bool → Gh → Prop) → Prop) (body : En → Loc → Gh → Prop) : Nat → En → Loc → Gh → Prop
  | 0, _, _, _ => False
  | n + 1, R, L, G => tst (fun x G => R.ex x L G) L G fun b G1 => if b = true then body { R with nx := fun L2 G2 => wpWh tst body n R L2 G2, ct := fun L2 G2 => wpWh tst body n R L2 G2, bk := R.nx } L G1 else R.nx L G1
/-- a value goes to a slot -/
def setV (i : Nat) (x : EV) (L : Loc) (k : Loc → Prop) : Prop := match x with
  | .d x => k (L.set i (some (.d x)))
  | .own xs => k (L.set i (some (.own xs)))
  | .bor _ => False
mutual
def wpS (S : Sg) : CS → En → Loc → Gh → Prop
  | .set i e, R, L, G => wpE S e (fun x G => R.ex x L G) L G fun x G1 => setV i x L fun L1 => R.nx L1 G1
  | .setF i e, R, L, G => wpE S e (fun x G => R.ex x L G) L G fun x G1 => match asD x with
    | some d => R.nx (L.set i (some (.d d))) G1
    | none => False
  | .asg t e, R, L, G => wpE S e (fun x G => R.ex x L G) L G fun x G1 => match x with
    | .d d => bindT t d L fun L1 => R.nx L1 G1
    | _ => False
  | .par i j a b, R, L, G => wpE S a (fun x G => R.ex x L G) L G fun x G1 => wpE S b (fun x G => R.ex x L G) L G1 fun y G2 => match asD x, asD y with
    | some x, some y => R.nx ((L.set i (some (.d x))).set j (some (.d y))) G2
    | _, _ => False
  | .par3 i j l a b c, R, L, G => wpE S a (fun x G => R.ex x L G) L G fun x G1 => wpE S b (fun x G => R.ex x L G) L G1 fun y G2 => wpE S c (fun x G => R.ex x L G) L G2 fun z G3 => match asD x, asD y, asD z with
    | some x, some y, some z => R.nx (((L.set i (some (.d x))).set j (some (.d y))).set l (some (.d z))) G3
    | _, _, _ => False
  | .aug i o e, R, L, G => match L[i]? with
    | some (some (.d x)) => wpE S e (fun x G => R.ex x L G) L G fun y G1 => opB o (.d x) y fun z => match z with
      | .d z => R.nx (L.set i (some (.d z))) G1
      | _ => False
    | _ => False
  | .app i e, R, L, G => match L[i]? with
    | some (some (.own xs)) => wpE S e (fun x G => R.ex x L G) L G fun x G1 => match asD x with
      | some d => xs.length < 16777216 ∧ R.nx (L.set i (some (.own (xs ++ [d])))) G1
      | none => False
    | _ => False
  | .ext i e, R, L, G => match L[i]? with
    | some (some (.own xs)) => wpE S e (fun x G => R.ex x L G) L G fun x G1 => match asL x with
      | some ys => xs.length + ys.length ≤ 16777216 ∧ R.nx (L.set i (some (.own (xs ++ ys)))) G1
      | none => False
    | _ => False
  | .pop i, R, L, G => match L[i]? with
    | some (some (.own xs)) => xs ≠ [] ∧ R.nx (L.set i (some (.own xs.dropLast))) G
    | _ => False
  | .expr e, R, L, G => wpE S e (fun x G => R.ex x L G) L G fun _ G1 => R.nx L G1
  | .ret e, R, L, G => wpE S e (fun x G => R.ex x L G) L G fun x G1 => R.rt (asR x) G1
  | .ite t a b, R, L, G => wpB S t (fun x G => R.ex x L G) L G fun c G1 => if c = true then wpSs S a R L G1 else wpSs S b R L G1
  | .whl t b, R, L, G => ∃ n, wpWh (wpB S t) (wpSs S b) n R L G
  | .for t it b, R, L, G => wpI S it (fun x G => R.ex x L G) L G fun items G1 => wpFor (bindT t) (wpSs S b) items R L G1
  | .gset o i v, R, L, G => wpE S v (fun x G => R.ex x L G) L G fun z G1 => wpE S o (fun x G => R.ex x L G) L G1 fun x G2 => wpE S i (fun x G => R.ex x L G) L G2 fun y G3 => match x, y, asD z with
    | .d (.ref a), .d (.int k), some d => ∃ xs j, G3 a = some (.lst xs) ∧ ixN xs.length k = some j ∧ R.nx L (gup G3 a (.lst (xs.set j d)))
    | _, _, _ => False
  | .retT e, R, L, G => wpE S e (fun x G => R.ex x L G) L G fun x G1 => match x with
    | .own xs => ∀ p, G1 p = none → R.rt (.ref p) (gup G1 p (.lst xs))
    | _ => False
  | .brk, R, L, G => R.bk L G
  | .cnt, R, L, G => R.ct L G
  | .nev, _, _, _ => False
def wpSs (S : Sg) : CSs → En → Loc → Gh → Prop
  | .nil, R, L, G => R.nx L G
  | .cons s r, R, L, G => wpS S s { R with nx := fun L1 G1 => wpSs S r R L1 G1 } L G
  | .frz i r, R, L, G => match L[i]? with
    | some (some (.own xs)) => wpSs S r R (L.set i (some (.d (.lst xs)))) G
    | _ => False
end
end DL
namespace DL
open PySem PySem.Spec PyProof.Rows L2

def Rds (Γ : Gam) (σ : St) (L : Loc) (X : Addr → Prop) (G : Gh) (H : Hp) : EV → V → Prop
  | .d x, v => Rep Γ (Av σ L G X) H x v
  | .own xs, v => ∃ p vs, v = .ref p ∧ ¬ Av σ L G X p ∧ H p = some (.lst vs) ∧ xs.length ≤ sizeLine ∧ RepL Γ (Av σ L G X) H xs vs
  | .bor xs, v => ∃ p vs, v = .ref p ∧ SO σ L p ∧ H p = some (.lst vs) ∧ xs.length ≤ sizeLine ∧ RepL Γ (Av σ L G X) H xs vs
def Out (Γ : Gam) (σ : St) (L : Loc) (X : Addr → Prop) (G : Gh) (H : Hp) (e : EV) (v : V) : Prop :=
  Mt Γ σ H L G X ∧ Rds Γ σ L X G H e v ∧ ∀ xs, e = .own xs → ∃ p vs, v = .ref p ∧ ¬ X p ∧ Mt Γ σ H L G (orP X p) ∧ H p = some (.lst vs) ∧ RepL Γ (Av σ L G (orP X p)) H xs vs
inductive RdsL (Γ : Gam) (σ : St) (L : Loc) (X : Addr → Prop) (G : Gh) (H : Hp) : List EV → List V → Prop
  | nil : RdsL Γ σ L X G H [] []
  | cons {e : EV} {v : V} {es : List EV} {vs : List V} : Rds Γ σ L X G H e v → RdsL Γ σ L X G H es vs → RdsL Γ σ L X G H (e :: es) (v :: vs)

/-- .. and a new list is new -/
def KF (G : Gh) (H : Hp) (G2 : Gh) (H2 : Hp) (e : EV) (v : V) : Prop := Kp G H G2 H2 ∧ ∀ xs p o, e = .own xs → v = .ref p → H p = some o → G p = none → False
theorem kfd {G G2 : Gh} {H H2 : Hp} {x : D} {v : V} (k : Kp G H G2 H2) : KF G H G2 H2 (.d x) v := ⟨k, fun _ _ _ e => by cases e⟩
theorem kfb {G G2 : Gh} {H H2 : Hp} {x : List D} {v : V} (k : Kp G H G2 H2) : KF G H G2 H2 (.bor x) v := ⟨k, fun _ _ _ e => by cases e⟩
theorem kf_alloc {G : Gh} {H : Hp} {e : EV} {p : Addr} {o : HO} (h : H p = none) : KF G H G (upd H p o) e (.ref p) := ⟨kp_alloc h, fun _ q o _ e2 h2 _ => by cases e2; rw [h] at h2; cases h2⟩
theorem KF.pre {G G1 G2 : Gh} {H H1 H2 : Hp} {e : EV} {v : V} (f : KF G1 H1 G2 H2 e v) (k : Kp G H G1 H1) : KF G H G2 H2 e v := ⟨k.trans f.1, fun xs p o e1 e2 h n => f.2 xs p o e1 e2 (k p o h n).1 (k p o h n).2⟩

/-- an exception's class and its own dict bear x -/
def XRep (Γ : Gam) (av : Addr → Prop) (H : Hp) (x : DX) (cls : Value) (d : Option Addr) : Prop :=
  ∃ C fn, Γ.cls x.1 = some (C, fn) ∧ cls = .ref C ∧ ((x.2 = [] ∧ d = none) ∨ ∃ dx fs vs, d = some dx ∧ H dx = some (.xd fs) ∧ fn.map (fun f => fs.lookup f) = vs.map some ∧ RepL Γ av H x.2 vs)

section
variable {Γ : Gam} {σ : St} {L : Loc} {X : Addr → Prop} {G G2 : Gh} {H H2 : Hp}
theorem Rds.step (m : Mt Γ σ H L G X) (k : Kp G H G2 H2) {e : EV} {v : V} (r : Rds Γ σ L X G H e v) : Rds Γ σ L X G2 H2 e v := by
  have st := k.stp (σ := σ) (L := L) (X := X)
  cases e with
  | d x => exact Rep.step st x v r
  | own xs =>
    obtain ⟨p, vs, e, n, h, z, rr⟩ := r
    obtain ⟨h2, n2⟩ := st p _ h n
    exact ⟨p, vs, e, n2, h2, z, rr.step st _ _⟩
  | bor xs =>
    obtain ⟨p, vs, e, s, h, z, rr⟩ := r
    exact ⟨p, vs, e, s, (k p _ h (m.disO p s)).1, z, rr.step st _ _⟩
theorem RdsL.step (m : Mt Γ σ H L G X) (k : Kp G H G2 H2) {es : List EV} {vs : List V} (r : RdsL Γ σ L X G H es vs) : RdsL Γ σ L X G2 H2 es vs := by
  induction r with
  | nil => exact .nil
  | cons h _ ih => exact .cons (h.step m k) ih
theorem Rds.asD {e : EV} {v : V} {d : D} (r : Rds Γ σ L X G H e v) (h : asD e = some d) : Rep Γ (Av σ L G X) H d v := by
  cases e with
  | d x => cases h; exact r
  | own xs =>
    cases h
    obtain ⟨p, vs, e, n, h, z, rr⟩ := r
    simp only [Rep]
    exact ⟨p, vs, e, ⟨h, n⟩, z, rr⟩
  | bor xs => cases h
theorem RdsL.asDs {es : List EV} {vs : List V} (r : RdsL Γ σ L X G H es vs) : ∀ {ds : List D}, asDs es = some ds → RepL Γ (Av σ L G X) H ds vs := by
  induction r with
  | nil => intro ds h; cases h; exact RepL.nil
  | @cons e v es vs r rr ih =>
    intro ds h
    unfold DL.asDs at h
    split at h
    · rename_i d ds' h1 h2
      cases h
      exact RepL.cons (r.asD h1) (ih h2)
    · cases h
/-- a list or a tuple that is read -/
theorem Rds.sq {e : EV} {v : V} {xs : List D} (r : Rds Γ σ L X G H e v) (h : asSq e = some xs) :
    ∃ p vs, v = .ref p ∧ (SqL Γ.K H p vs ∨ SqT Γ.K H p vs) ∧ xs.length ≤ sizeLine ∧ RepL Γ (Av σ L G X) H xs vs := by
  cases e with
  | d x =>
    cases x with
    | tup ds =>
      cases h
      simp only [Rds, Rep] at r
      obtain ⟨p, vs, e, t, z, rr⟩ := r
      exact ⟨p, vs, e, .inr t.sq, z, rr⟩
    | lst ds =>
      cases h
      simp only [Rds, Rep] at r
      obtain ⟨p, vs, e, t, z, rr⟩ := r
      exact ⟨p, vs, e, .inl (SqL.of t.1), z, rr⟩
    | slst ds =>
      cases h
      simp only [Rds, Rep] at r
      obtain ⟨p, vs, e, t, z, rr⟩ := r
      exact ⟨p, vs, e, .inl t.sq, z, rr⟩
    | _ => cases h
  | own ys =>
    cases h
    obtain ⟨p, vs, e, n, h, z, rr⟩ := r
    exact ⟨p, vs, e, .inl (SqL.of h), z, rr⟩
  | bor ys =>
    cases h
    obtain ⟨p, vs, e, n, h, z, rr⟩ := r
    exact ⟨p, vs, e, .inl (SqL.of h), z, rr⟩
theorem Rds.lst {e : EV} {v : V} {xs : List D} (r : Rds Γ σ L X G H e v) (h : asL e = some xs) :
    ∃ p vs, v = .ref p ∧ H p = some (.lst vs) ∧ xs.length ≤ sizeLine ∧ RepL Γ (Av σ L G X) H xs vs := by
  cases e with
  | d x =>
    cases x with
    | lst ds =>
      cases h
      simp only [Rds, Rep] at r
      obtain ⟨p, vs, e, t, z, rr⟩ := r
      exact ⟨p, vs, e, t.1, z, rr⟩
    | _ => cases h
  | own ys =>
    cases h
    obtain ⟨p, vs, e, n, h, z, rr⟩ := r
    exact ⟨p, vs, e, h, z, rr⟩
  | bor ys =>
    cases h
    obtain ⟨p, vs, e, n, h, z, rr⟩ := r
    exact ⟨p, vs, e, h, z, rr⟩
/-- a datum that is handed on, the heap as it is -/
theorem Out.d {x : D} {v : V} (m : Mt Γ σ H L G X) (r : Rep Γ (Av σ L G X) H x v) : Out Γ σ L X G H (.d x) v := ⟨m, r, fun xs e => by cases e⟩
/-- a new tuple -/
theorem out_tup {p : Addr} {xs : List D} {vs : List V} (m : Mt Γ σ H L G X) (hn : H p = none) (z : xs.length ≤ sizeLine) (r : RepL Γ (Av σ L G X) H xs vs) : Out Γ σ L X G (upd H p (.tup vs)) (.d (.tup xs)) (.ref p) := by
  have k := kp_alloc (G := G) (o := .tup vs) hn
  refine Out.d (m.alloc hn) ?_
  simp only [Rep]
  exact ⟨p, vs, rfl, .inl ⟨upd_same, m.fresh hn⟩, z, r.step k.stp _ _⟩
/-- a new list -/
theorem out_lst {p : Addr} {xs : List D} {vs : List V} (m : Mt Γ σ H L G X) (hn : H p = none) (z : xs.length ≤ sizeLine) (r : RepL Γ (Av σ L G X) H xs vs) : Out Γ σ L X G (upd H p (.lst vs)) (.own xs) (.ref p) := by
  have k := kp_alloc (G := G) (o := .lst vs) hn
  have mX := m.allocX (o := .lst vs) hn
  have rX : RepL Γ (Av σ L G (orP X p)) (upd H p (.lst vs)) xs vs := r.step (fun q o h n => ⟨upd_keeps hn q o h, fun w => by
    rcases w with w | w | w
    · exact n (.inl w)
    · rcases w with w | w
      · exact n (.inr (.inl w))
      · rw [w, hn] at h; cases h
    · exact n (.inr (.inr w))⟩) _ _
  refine ⟨m.alloc hn, ⟨p, vs, rfl, m.fresh hn, upd_same, z, r.step k.stp _ _⟩, fun ys e => ?_⟩
  cases e
  exact ⟨p, vs, rfl, fun w => m.fresh hn (.inr (.inl w)), mX, upd_same, rX⟩
end

abbrev TE' := (DX → Gh → Prop) → Loc → Gh → (EV → Gh → Prop) → Prop
abbrev TA' := (DX → Gh → Prop) → Loc → Gh → (List EV → Gh → Prop) → Prop
abbrev TB' := (DX → Gh → Prop) → Loc → Gh → (Bool → Gh → Prop) → Prop
abbrev TO' := (DX → Gh → Prop) → Loc → Gh → (Option Int → Gh → Prop) → Prop
abbrev TI' := (DX → Gh → Prop) → Loc → Gh → (List D → Gh → Prop) → Prop

/-- what is wanted of an exception, from here on -/
def EW (Γ : Gam) (W : WX) (σ : St) (L : Loc) (X : Addr → Prop) (G : Gh) (H : Hp) (E : DX → Gh → Prop) : Prop :=
  ∀ x G2 cls d H2, Kp G H G2 H2 → Mt Γ σ H2 L G2 X → XRep Γ (Av σ L G2 X) H2 x cls d → E x G2 → W cls d σ H2
theorem EW.step {Γ : Gam} {W : WX} {σ : St} {L : Loc} {X : Addr → Prop} {G G2 : Gh} {H H2 : Hp} {E : DX → Gh → Prop} (w : EW Γ W σ L X G H E) (k : Kp G H G2 H2) : EW Γ W σ L X G2 H2 E :=
  fun x G3 cls d H3 k2 m r e => w x G3 cls d H3 (k.trans k2) m r e

def rE (Γ : Gam) (W : WX) (T : TE') : TE := fun σ H Q => ∃ L G X E Qd, Mt Γ σ H L G X ∧ EW Γ W σ L X G H E ∧ T E L G Qd ∧ ∀ ev G2 v H2, KF G H G2 H2 ev v → Out Γ σ L X G2 H2 ev v → Qd ev G2 → Q v H2
def rA (Γ : Gam) (W : WX) (T : TA') : TA := fun σ H Q => ∃ L G X E Qd, Mt Γ σ H L G X ∧ EW Γ W σ L X G H E ∧ T E L G Qd ∧ ∀ evs G2 vs H2, Kp G H G2 H2 → Mt Γ σ H2 L G2 X → RdsL Γ σ L X G2 H2 evs vs → Qd evs G2 → Q vs H2
def rB (Γ : Gam) (W : WX) (T : TB') : TT := fun σ H Q => ∃ L G X E Qd, Mt Γ σ H L G X ∧ EW Γ W σ L X G H E ∧ T E L G Qd ∧ ∀ b G2 H2, Kp G H G2 H2 → Mt Γ σ H2 L G2 X → Qd b G2 → Q b H2
def rO (Γ : Gam) (W : WX) (T : TO') : TO := fun σ H Q => ∃ L G X E Qd, Mt Γ σ H L G X ∧ EW Γ W σ L X G H E ∧ T E L G Qd ∧ ∀ b G2 H2, Kp G H G2 H2 → Mt Γ σ H2 L G2 X → Qd b G2 → Q b H2

def avG (G : Gh) (X : Addr → Prop) (p : Addr) : Prop := G p ≠ none ∨ X p
/-- a promise over data, as the hand layer takes it -/
def lift (Γ : Gam) (T : DSp) : Sp := fun vs H Q E => ∃ ds G X Qd Ed, GOk Γ (avG G X) H G ∧ (∀ p, X p → G p = none ∧ H p ≠ none) ∧ RepL Γ (avG G X) H ds vs ∧ T ds G Qd Ed ∧
  (∀ d G2 v H2, Kp G H G2 H2 → GOk Γ (avG G2 X) H2 G2 → Rep Γ (avG G2 X) H2 d v → Qd d G2 → Q v H2) ∧
  (∀ x G2 cls d H2, Kp G H G2 H2 → GOk Γ (avG G2 X) H2 G2 → XRep Γ (avG G2 X) H2 x cls d → Ed x G2 → E cls d H2)

theorem PE.imp {X : Cx} {e : Expr} {t t' : TE} (h : PE X e t) (k : ∀ σ H Q, t' σ H Q → t σ H Q) : PE X e t' := ⟨fun pins s σ H Q I q => h.run pins s σ H Q I (k σ H Q q)⟩
theorem PT.imp {X : Cx} {e : Expr} {t t' : TT} (h : PT X e t) (k : ∀ σ H Q, t' σ H Q → t σ H Q) : PT X e t' := ⟨fun pins s σ H Q I q => h.run pins s σ H Q I (k σ H Q q)⟩
theorem PW.imp {X : Cx} {e : Expr} {t t' : TT} (h : PW X e t) (k : ∀ σ H Q, t' σ H Q → t σ H Q) : PW X e t' := ⟨fun wh pins s σ H Q I q => h.run wh pins s σ H Q I (k σ H Q q)⟩
theorem PA.imp {X : Cx} {es : List Expr} {t t' : TA} (h : PA X es t) (k : ∀ σ H Q, t' σ H Q → t σ H Q) : PA X es t' := ⟨fun pos pins s σ H Q I q => h.run pos pins s σ H Q I (k σ H Q q)⟩
theorem PO.imp {X : Cx} {e : Option Expr} {t t' : TO} (h : PO X e t) (k : ∀ σ H Q, t' σ H Q → t σ H Q) : PO X e t' := ⟨fun pins s σ H Q I q => h.run pins s σ H Q I (k σ H Q q)⟩

/-- two values are read, a value comes -/
def SoundR2 (Γ : Gam) (r : R2) (k : EV → EV → (EV → Prop) → Prop) : Prop :=
  ∀ (σ : St) (L : Loc) (X : Addr → Prop) (G : Gh) (H : Hp) (x y : EV) (v u : V) (Qd : EV → Prop) (Q : VK), Mt Γ σ H L G X → Rds Γ σ L X G H x v → Rds Γ σ L X G H y u → k x y Qd →
    (∀ z w H2, KF G H G H2 z w → Out Γ σ L X G H2 z w → Qd z → Q w H2) → r v u H Q
def SoundR1 (Γ : Gam) (r : V → Hp → VK → Prop) (k : EV → (EV → Prop) → Prop) : Prop :=
  ∀ (σ : St) (L : Loc) (X : Addr → Prop) (G : Gh) (H : Hp) (x : EV) (v : V) (Qd : EV → Prop) (Q : VK), Mt Γ σ H L G X → Rds Γ σ L X G H x v → k x Qd →
    (∀ z w H2, KF G H G H2 z w → Out Γ σ L X G H2 z w → Qd z → Q w H2) → r v H Q
section
variable {Γ : Gam} {W : WX} {Ta Tb Tc : TE'} {r : R2} {k : EV → EV → (EV → Prop) → Prop}
theorem r_op2 (h : SoundR2 Γ r k) : ∀ σ H Q, rE Γ W (fun E L G Q => Ta E L G fun x G1 => Tb E L G1 fun y G2 => k x y fun z => Q z G2) σ H Q → tOp r (rE Γ W Ta) (rE Γ W Tb) σ H Q := by
  rintro σ H Q ⟨L, G, X, E, Qd, m, ew, t, c⟩
  refine ⟨L, G, X, E, _, m, ew, t, fun x G1 v H1 ⟨k1, f1⟩ o1 t1 => ?_⟩
  refine ⟨L, G1, X, E, _, o1.1, ew.step k1, t1, fun y G2 u H2 ⟨k2, f2⟩ o2 t2 => ?_⟩
  refine h σ L X G2 H2 x y v u _ Q o2.1 (o1.2.1.step o1.1 k2) o2.2.1 t2 fun z w H3 k3 o3 q => c z G2 w H3 (k3.pre (k1.trans k2)) o3 q
theorem r_op1 {r1 : V → Hp → VK → Prop} {k1 : EV → (EV → Prop) → Prop} (h : SoundR1 Γ r1 k1) : ∀ σ H Q, rE Γ W (fun E L G Q => Ta E L G fun x G1 => k1 x fun z => Q z G1) σ H Q → tUn r1 (rE Γ W Ta) σ H Q := by
  rintro σ H Q ⟨L, G, X, E, Qd, m, ew, t, c⟩
  refine ⟨L, G, X, E, _, m, ew, t, fun x G1 v H1 ⟨k1, f1⟩ o1 t1 => ?_⟩
  exact h σ L X G1 H1 x v _ Q o1.1 o1.2.1 t1 fun z w H3 k3 o3 q => c z G1 w H3 (k3.pre k1) o3 q

theorem rds_int {σ : St} {L : Loc} {X : Addr → Prop} {G : Gh} {H : Hp} {i : Int} {v : V} (r : Rds Γ σ L X G H (.d (.int i)) v) : v = .int i := by simpa only [Rds, Rep] using r
theorem rds_bl {σ : St} {L : Loc} {X : Addr → Prop} {G : Gh} {H : Hp} {i : Bool} {v : V} (r : Rds Γ σ L X G H (.d (.bl i)) v) : v = .bl i := by simpa only [Rds, Rep] using r
theorem rds_str {σ : St} {L : Loc} {X : Addr → Prop} {G : Gh} {H : Hp} {i : Str} {v : V} (r : Rds Γ σ L X G H (.d (.str i)) v) : v = .str i := by simpa only [Rds, Rep] using r
theorem rds_non {σ : St} {L : Loc} {X : Addr → Prop} {G : Gh} {H : Hp} {v : V} (r : Rds Γ σ L X G H (.d .non) v) : v = .non := by simpa only [Rds, Rep] using r
theorem out_int {σ : St} {L : Loc} {X : Addr → Prop} {G : Gh} {H : Hp} {i : Int} (m : Mt Γ σ H L G X) : Out Γ σ L X G H (.d (.int i)) (.int i) := Out.d m (by simp only [Rep])
theorem out_bl {σ : St} {L : Loc} {X : Addr → Prop} {G : Gh} {H : Hp} {i : Bool} (m : Mt Γ σ H L G X) : Out Γ σ L X G H (.d (.bl i)) (.bl i) := Out.d m (by simp only [Rep])
theorem out_str {σ : St} {L : Loc} {X : Addr → Prop} {G : Gh} {H : Hp} {i : Str} (m : Mt Γ σ H L G X) : Out Γ σ L X G H (.d (.str i)) (.str i) := Out.d m (by simp only [Rep])
end
end DL
namespace DL
open PySem PySem.Spec PyProof.Rows L2
section
variable {prog : Program} {w : World} {A : Around} {E : Value → Shared → Prop} {s : Shared}
theorem same_refl_sub : reflectedDiffers (.type "int") (.type "bool") "sub" = pure false := by
  unfold reflectedDiffers
  show (typeLookup (.type "bool") (dunderR "sub") >>= fun rb => typeLookup (.type "int") (dunderR "sub") >>= fun ra => pure (rb.isSome && rb != ra)) = pure false
  rw [typeLookup_type, typeLookup_type, builtinLookup_eq_fast]; kernel_rfl
theorem sub_ib {a : Int} {t : Tok} {b : Bool} {Q : Value → Shared → Prop} (h : Q (.int (a - if b = true then (1 : Int) else 0) s.toks) { s with toks := s.toks + 1 }) : wpAny (model prog w) A (binaryOp .Sub (.int a t) (.bool b)) Q E s :=
  binaryOp_sub_gives (op := .Sub) (T := "int") (U := "bool") (by decide) (typeIs_int s a t) rfl PySem.F.fills_int_sub PySem.F.fills_bool_sub isSubtype_bool_int same_refl_sub PySem.F.slot_int_sub PySem.F.entry_int_sub (PySem.F.args_int_sub_2 _ _)
    (AutoIntG7.int___sub___int_bool_0 a t b) trivial h
theorem isub_ib {a : Int} {t : Tok} {b : Bool} {Q : Value → Shared → Prop} (h : Q (.int (a - if b = true then (1 : Int) else 0) s.toks) { s with toks := s.toks + 1 }) : wpAny (model prog w) A (inplaceOp .Sub (.int a t) (.bool b)) Q E s :=
  inplaceOp_sub_gives (op := .Sub) (T := "int") (U := "bool") (by decide) (typeIs_int s a t) rfl PySem.F.noI_int_sub PySem.F.fills_int_sub PySem.F.fills_bool_sub isSubtype_bool_int same_refl_sub PySem.F.slot_int_sub PySem.F.entry_int_sub (PySem.F.args_int_sub_2 _ _)
    (AutoIntG7.int___sub___int_bool_0 a t b) trivial h

theorem applied_rev {sl : Addr} {vk : Value} {n : Nat} {Q : Int × Int × Nat → Shared → Prop} (hs : s.heap.IsSliceOf sl .none .none vk) (pk : IsPart vk (some (-1)))
    (h : Q ((n : Int) - 1, -1, n) s) : wpAny (model prog w) A (Builtin.Slice.sliceApplied (.ref sl) (pure (n : Int))) Q E s := by
  obtain ⟨os, hos, hcs, hds⟩ := id hs
  unfold Builtin.Slice.sliceApplied Builtin.Slice.sliceFields
  refine wpAny_bind (wpAny_bind (wpAny_field hos hds (x := .none) rfl (wpAny_bind (wpAny_field hos hds (x := .none) rfl (wpAny_bind (wpAny_field hos hds (x := vk) rfl (wpAny_pure ?_)))))))
  refine wpAny_bind (HT.slicePart_ pk ?_)
  show wpAny _ _ (if ((-1 : Int) == 0) = true then _ else _) _ _ s
  rw [if_neg (by decide)]
  refine wpAny_bind (slicePart_none (wpAny_bind (slicePart_none (wpAny_bind (wpAny_pure ?_)))))
  show wpAny _ _ (match Builtin.Slice.sliceAdjust none none (-1) (n : Int) with | (lo, hi) => pure (lo, (-1 : Int), Builtin.Slice.slicePlaces lo hi (-1))) _ _ s
  have e : Builtin.Slice.sliceAdjust none none (-1) (n : Int) = ((n : Int) - 1, -1) := by
    unfold Builtin.Slice.sliceAdjust
    simp
  rw [e]
  show wpAny _ _ (pure ((n : Int) - 1, (-1 : Int), Builtin.Slice.slicePlaces ((n : Int) - 1) (-1) (-1))) _ _ s
  have e2 : Builtin.Slice.slicePlaces ((n : Int) - 1) (-1) (-1) = n := by
    unfold Builtin.Slice.slicePlaces
    have h1 : ¬ ((-1 : Int) > 0) := by decide
    simp only [h1, if_false]
    split
    · rw [show (-(-1 : Int)) = 1 from rfl, Int.ediv_one]; omega
    · omega
  rw [e2]
  exact wpAny_pure h
theorem pick_rev (xs : Array Value) : ((List.range xs.size).filterMap fun (m : Nat) => xs[(((xs.size : Int) - 1) + (m : Int) * -1).toNat]?).toArray = xs.toList.reverse.toArray := by
  have cg : ∀ (l : List Nat), (∀ m ∈ l, m < xs.size) → l.filterMap (fun (m : Nat) => xs[(((xs.size : Int) - 1) + (m : Int) * -1).toNat]?) = l.filterMap (fun m => xs[xs.size - 1 - m]?) := by
    intro l
    induction l with
    | nil => intro _; rfl
    | cons m l ih =>
      intro h
      have hm := h m List.mem_cons_self
      have e : (((xs.size : Int) - 1) + (m : Int) * -1).toNat = xs.size - 1 - m := by omega
      rw [List.filterMap_cons, List.filterMap_cons, e, ih fun k hk => h k (List.mem_cons_of_mem _ hk)]
  rw [cg _ fun m hm => List.mem_range.mp hm, ← PySem.W.krv_all xs, ← List.filterMap_reverse, ← PySem.W.krv_range, List.filterMap_map]
  rfl
theorem getItem_tuple_rev {t sl : Addr} {items : Array Value} {vk : Value} {Q : Value → Shared → Prop} (ht : IsTup s.heap t items) (hs : s.heap.IsSliceOf sl .none .none vk) (pk : IsPart vk (some (-1)))
    (h : Q (.ref s.heap.objs.size) { s with heap := s.heap.push { cls := .type "tuple", data := .seq items.toList.reverse.toArray } })
    (hsz : items.size ≤ sizeLine) : wpAny (model prog w) A (getItem (.ref t) (.ref sl)) Q E s := by
  have htake : sizeOk (.seq items.toList.reverse.toArray) := by
    show items.toList.reverse.toArray.size ≤ sizeLine
    simpa using hsz
  obtain ⟨os, hos, hcs, hds⟩ := id hs
  have hTs : s.TypeIs (.ref sl) "slice" := ⟨os, hos, hcs⟩
  unfold getItem
  try with_reducible refine wpAny_holding ?_
  first | refine wpAny_bind (wpAny_pure ?_) | skip
  refine wpAny_bind (wpAny_sequenceKey ht.typeIs (by decide) ?_)
  refine wpAny_bind (wpAny_callSpecial?_slot (name := Str.ofString "__getitem__") ht.typeIs PyProof.Rows.slot_tuple_getitem
    (wpAny_call_entry PyProof.Rows.slot_tuple_getitem ht.typeIs entry_tuple_getitem ?_ (args_tuple_getitem _ _)))
  show wpAny _ _ (Builtin.Tuple.tupleItemsOf (.ref t) >>= _) _ _ s
  refine wpAny_bind (tupleItemsOf_ ht ?_)
  refine wpAny_bind (wpAny_typeOf hTs ?_)
  rw [if_pos (by decide)]
  refine wpAny_bind (applied_rev hs pk ?_)
  have hno : ¬ ((((items.size : Int) - 1 == 0) && ((-1 : Int) == 1) && (items.size == items.size)) = true) := by
    intro q
    rw [Bool.and_eq_true, Bool.and_eq_true] at q
    exact absurd q.1.2 (by decide)
  show wpAny _ _ (if (((items.size : Int) - 1 == 0) && ((-1 : Int) == 1) && (items.size == items.size)) = true then _ else _) _ _ s
  rw [if_neg hno, pick_rev]
  first
    | exact wpAny_bind (m := Builtin.Tuple.tupleExact _) (wpAny_newObj_type (wpAny_pure ⟨_, rfl, wpAny_pure h⟩) htake)
    | exact wpAny_bind (m := Builtin.Tuple.tupleExact _) (wpAny_newObj_type (wpAny_bind (wpAny_pure (wpAny_pure ⟨_, rfl, wpAny_pure h⟩))) htake)
    | exact wpAny_bind (wpAny_bind (m := Builtin.Tuple.tupleExact _) (wpAny_newObj_type (wpAny_pure (wpAny_pure ⟨_, rfl, wpAny_pure h⟩)) htake))
    | exact wpAny_bind (wpAny_bind (m := Builtin.Tuple.tupleExact _) (wpAny_newObj_type (wpAny_pure ⟨_, rfl, wpAny_pure h⟩) htake))
end
section
variable {X : Cx}
def rRevT (K : PySem.W.Frag) : V → Hp → VK → Prop := fun x H Q => ∃ a xs, x = .ref a ∧ SqT K H a xs ∧ ∀ p, H p = none → Q (.ref p) (upd H p (.tup xs.reverse))
theorem pe_revT {e : Expr} {te : TE} {k : Nat} {p1 p2 p3 pos : Pos} (he : PE X e te) : PE X (.Subscript e (.Slice none none (some (.UnaryOp .USub (.Constant (.int 1) k p1) p2)) p3) pos) (tUn (rRevT X.K) te) := by
  refine ⟨fun pins s σ H Q I h => ?_⟩
  refine Subscript_ (thn (he.run pins s σ H _ I h) fun v s1 ⟨x, H1, I1, r1, q1⟩ => ?_)
  obtain ⟨a, xs, ex, hx, q⟩ := q1
  subst ex
  cases r1
  have hst : PO X (some (.UnaryOp .USub (.Constant (.int 1) k p1) p2)) (tPart (tUn (rU fun i => .int (-i)) (tC (.int 1)))) := po_some (pe_un un_neg pe_int)
  refine wpAny_Slice (thn (po_none.run pins s1 σ H1 (fun o H2 => o = none ∧ H2 = H1) I1 ⟨rfl, rfl⟩) fun vl s2 ⟨l, H2, I2, pl, el, e2⟩ => ?_)
  subst el e2
  refine thn (po_none.run pins s2 σ H2 (fun o H3 => o = none ∧ H3 = H2) I2 ⟨rfl, rfl⟩) fun vu s3 ⟨u, H3, I3, pu, eu, e3⟩ => ?_
  subst eu e3
  refine thn (hst.run pins s3 σ H3 (fun o H4 => o = some (-1) ∧ H4 = H3) I3 ⟨1, rfl, -1, rfl, rfl, rfl⟩) fun vs s4 ⟨o, H4, I4, ps, eo, e4⟩ => ?_
  subst eo e4
  have I5 : Inv X pins σ H4 { s4 with heap := s4.heap.push { cls := .type "slice", data := .fields #[vl, vu, vs] } } := I4.kept (t' := s4.toks) fun b ob q => Heap.get?_push_of_some _ q
  obtain ⟨its, r, ht, hz⟩ := I5.tuple hx
  have hlen := r.length
  show wpAny (model X.prog X.w) X.A (subscriptTail e (.Slice none none (some (.UnaryOp .USub (.Constant (.int 1) k p1) p2)) p3) (.ref a) (.ref s4.heap.objs.size)) (EP X pins σ Q) X.xe { s4 with heap := s4.heap.push { cls := .type "slice", data := .fields #[vl, vu, vs] } }
  have evl : vl = .none := by cases pl; rfl
  have evu : vu = .none := by cases pu; rfl
  subst evl evu
  refine tail_any (ops := [.ref a, .ref s4.heap.objs.size]) ht.typeIs (PyProof.Rows.slot_tuple_getitem.lookup) ?_ (by with_unfolding_all rfl)
  refine getItem_tuple_rev ht (Heap.IsSliceOf.new _ .none .none vs) ps ?_ (by rw [List.size_toArray]; omega)
  refine ⟨.ref _, _, I5.laid (t' := s4.toks) (o := .tup xs.reverse) (fun b ob q => Heap.get?_push_of_some _ q) (Nat.le_refl _) ?_, rfl, q _ (I5.hok.fresh (Nat.le_refl _))⟩
  refine ⟨by rw [List.length_reverse]; exact hz, its.reverse, r.reverse, ⟨_, Heap.get?_push_size _ rfl, rfl, 0, ?_⟩⟩
  simp

theorem op_subBB : OpR X (binaryOp .Sub) (fun x y H Q => ∃ i j, x = .bl i ∧ y = .bl j ∧ Q (.int ((if i = true then 1 else 0) - if j = true then 1 else 0)) H) := by
  intro pins s σ H x y v u Q I rx ry h
  obtain ⟨i, j, rfl, rfl, q⟩ := h
  cases rx
  cases ry
  exact sub_bool ⟨.int _, H, I.tok _, ⟨_, rfl⟩, q⟩
theorem op_subB : OpR X (binaryOp .Sub) (fun x y H Q => ∃ i j, x = .int i ∧ y = .bl j ∧ Q (.int (i - if j = true then 1 else 0)) H) := by
  intro pins s σ H x y v u Q I rx ry h
  obtain ⟨i, j, rfl, rfl, q⟩ := h
  obtain ⟨t, rfl⟩ := rx
  cases ry
  exact sub_ib ⟨.int _, H, I.tok _, ⟨_, rfl⟩, q⟩
theorem op_addB : OpR X (binaryOp .Add) (fun x y H Q => ∃ i j, x = .int i ∧ y = .bl j ∧ Q (.int (i + if j = true then 1 else 0)) H) := by
  intro pins s σ H x y v u Q I rx ry h
  obtain ⟨i, j, rfl, rfl, q⟩ := h
  obtain ⟨t, rfl⟩ := rx
  cases ry
  exact PySem.add_int_bool ⟨.int _, H, I.tok _, ⟨_, rfl⟩, q⟩
theorem iop_subB : OpR X (inplaceOp .Sub) (fun x y H Q => ∃ i j, x = .int i ∧ y = .bl j ∧ Q (.int (i - if j = true then 1 else 0)) H) := by
  intro pins s σ H x y v u Q I rx ry h
  obtain ⟨i, j, rfl, rfl, q⟩ := h
  obtain ⟨t, rfl⟩ := rx
  cases ry
  exact isub_ib ⟨.int _, H, I.tok _, ⟨_, rfl⟩, q⟩
theorem iop_addB : OpR X (inplaceOp .Add) (fun x y H Q => ∃ i j, x = .int i ∧ y = .bl j ∧ Q (.int (i + if j = true then 1 else 0)) H) := by
  intro pins s σ H x y v u Q I rx ry h
  obtain ⟨i, j, rfl, rfl, q⟩ := h
  obtain ⟨t, rfl⟩ := rx
  cases ry
  exact PySem.iadd_int_bool ⟨.int _, H, I.tok _, ⟨_, rfl⟩, q⟩
theorem op_fdivX : OpR X (binaryOp .FloorDiv) (rI DivOk fun i j => .int (i.fdiv j)) := L2.opI fun _ _ _ _ _ _ _ hc q => floordiv_int hc.1 q (.inl hc.2)
end

def bopX0 : BOp → Operator → Bool
  | .add, .Add | .addB, .Add | .sadd, .Add | .tadd, .Add | .ladd, .Add => true
  | .sub, .Sub | .subB, .Sub | .subBB, .Sub => true
  | .mul, .Mult | .fdiv, .FloorDiv | .mod, .Mod => true
  | _, _ => false
section
variable {Γ : Gam}
theorem atI_eq {α β : Type} {xs : List α} {ys : List β} (h : xs.length = ys.length) {i : Int} {d : α} (e : atI xs i = some d) : ∃ j : Nat, xs[j]? = some d ∧ ∀ y, ys[j]? = some y → atI ys i = some y := by
  unfold atI at e ⊢
  rw [← h]
  cases q : ixN xs.length i with
  | none => rw [q] at e; cases e
  | some j => rw [q] at e; exact ⟨j, e, fun y hy => hy⟩
theorem repL_at {a : Addr → Prop} {H : Hp} {ds : List D} {vs : List V} {i : Int} {d : D} (r : RepL Γ a H ds vs) (h : atI ds i = some d) : ∃ v, atI vs i = some v ∧ Rep Γ a H d v := by
  obtain ⟨j, h1, h2⟩ := atI_eq r.len.symm h
  obtain ⟨v, h3, h4⟩ := r.get h1
  exact ⟨v, h2 v h3, h4⟩

theorem bin_ok0 {X : Cx} (eK : X.K = Γ.K) : ∀ (o : BOp) (op : Operator), bopX0 o op = true → ∃ r, OpR X (binaryOp op) r ∧ SoundR2 Γ r (opB0 o) := by
  intro o op h
  cases o <;> cases op <;> first | (exact absurd h (by decide)) | skip
  -- add
  · refine ⟨_, op_add, fun σ L Xs G H x y v u Qd Q m r1 r2 h c => ?_⟩
    unfold opB0 at h; split at h <;> first | contradiction | skip
    exact ⟨_, _, rds_int r1, rds_int r2, c _ _ _ (kfd Kp.refl) (out_int m) h⟩
  -- sub
  · refine ⟨_, op_sub, fun σ L Xs G H x y v u Qd Q m r1 r2 h c => ?_⟩
    unfold opB0 at h; split at h <;> first | contradiction | skip
    exact ⟨_, _, rds_int r1, rds_int r2, c _ _ _ (kfd Kp.refl) (out_int m) h⟩
  -- addB
  · refine ⟨_, op_addB, fun σ L Xs G H x y v u Qd Q m r1 r2 h c => ?_⟩
    unfold opB0 at h; split at h <;> first | contradiction | skip
    exact ⟨_, _, rds_int r1, rds_bl r2, c _ _ _ (kfd Kp.refl) (out_int m) h⟩
  -- subB
  · refine ⟨_, op_subB, fun σ L Xs G H x y v u Qd Q m r1 r2 h c => ?_⟩
    unfold opB0 at h; split at h <;> first | contradiction | skip
    exact ⟨_, _, rds_int r1, rds_bl r2, c _ _ _ (kfd Kp.refl) (out_int m) h⟩
  -- subBB
  · refine ⟨_, op_subBB, fun σ L Xs G H x y v u Qd Q m r1 r2 h c => ?_⟩
    unfold opB0 at h; split at h <;> first | contradiction | skip
    exact ⟨_, _, rds_bl r1, rds_bl r2, c _ _ _ (kfd Kp.refl) (out_int m) h⟩
  -- mul
  · refine ⟨_, op_mulW, fun σ L Xs G H x y v u Qd Q m r1 r2 h c => ?_⟩
    unfold opB0 at h; split at h <;> first | contradiction | skip
    exact ⟨_, _, rds_int r1, rds_int r2, h.1, c _ _ _ (kfd Kp.refl) (out_int m) h.2⟩
  -- fdiv
  · refine ⟨_, op_fdivX, fun σ L Xs G H x y v u Qd Q m r1 r2 h c => ?_⟩
    unfold opB0 at h; split at h <;> first | contradiction | skip
    exact ⟨_, _, rds_int r1, rds_int r2, h.1, c _ _ _ (kfd Kp.refl) (out_int m) h.2⟩
  -- mod
  · refine ⟨_, op_modN, fun σ L Xs G H x y v u Qd Q m r1 r2 h c => ?_⟩
    unfold opB0 at h; split at h <;> first | contradiction | skip
    exact ⟨_, _, rds_int r1, rds_int r2, h.1, c _ _ _ (kfd Kp.refl) (out_int m) h.2⟩
  -- sadd
  · refine ⟨_, op_add_str, fun σ L Xs G H x y v u Qd Q m r1 r2 h c => ?_⟩
    unfold opB0 at h; split at h <;> first | contradiction | skip
    exact ⟨_, _, rds_str r1, rds_str r2, h.1, c _ _ _ (kfd Kp.refl) (out_str m) h.2⟩
  -- tadd
  · refine ⟨_, op_catA, fun σ L Xs G H x y v u Qd Q m r1 r2 h c => ?_⟩
    unfold opB0 at h; split at h <;> first | contradiction | skip
    rename_i xs ys _
    simp only [Rds, Rep] at r1 r2
    obtain ⟨p, vs, e1, t1, z1, rr1⟩ := r1
    obtain ⟨q, us, e2, t2, z2, rr2⟩ := r2
    obtain ⟨hz, h⟩ := h
    have l1 := rr1.len
    have l2 := rr2.len
    rw [eK]
    refine ⟨p, q, vs, us, e1, e2, t1.sq, t2.sq, by omega, fun e => ?_, fun _ e => ?_, fun _ _ a hn => ?_⟩
    · have ex : xs = [] := List.length_eq_zero_iff.mp (by rw [← l1, e]; rfl)
      subst ex
      exact c _ _ _ (kfd Kp.refl) (Out.d m (by simp only [Rep]; exact ⟨q, us, rfl, t2, by simpa using z2, by simpa using rr2⟩)) h
    · have ex : ys = [] := List.length_eq_zero_iff.mp (by rw [← l2, e]; rfl)
      subst ex
      exact c _ _ _ (kfd Kp.refl) (Out.d m (by simp only [Rep]; exact ⟨p, vs, rfl, t1, by simpa using z1, by simpa using rr1⟩)) h
    · exact c _ _ _ (kf_alloc hn) (out_tup m hn (by rw [List.length_append]; exact hz) (rr1.append rr2)) h
  -- ladd
  · refine ⟨_, op_cat, fun σ L Xs G H x y v u Qd Q m r1 r2 h c => ?_⟩
    simp only [opB0] at h
    split at h
    · rename_i xs ys e1 e2
      obtain ⟨p, vs, rfl, h1, z1, rr1⟩ := r1.lst e1
      obtain ⟨q, us, rfl, h2, z2, rr2⟩ := r2.lst e2
      have l1 := rr1.len
      have l2 := rr2.len
      exact ⟨p, q, vs, us, rfl, rfl, h1, h2, by omega, fun a hn => c _ _ _ (kf_alloc hn) (out_lst m hn (by rw [List.length_append]; exact h.1) (rr1.append rr2)) h.2⟩
    · exact h.elim

def iopX0 : BOp → Operator → Bool
  | .add, .Add | .addB, .Add => true
  | .sub, .Sub | .subB, .Sub => true
  | _, _ => false
theorem iop_ok0 {X : Cx} : ∀ (o : BOp) (op : Operator), iopX0 o op = true → ∃ r, OpR X (inplaceOp op) r ∧ SoundR2 Γ r (opB0 o) := by
  intro o op h
  cases o <;> cases op <;> first | (exact absurd h (by decide)) | skip
  · refine ⟨_, iop_add, fun σ L Xs G H x y v u Qd Q m r1 r2 h c => ?_⟩
    unfold opB0 at h; split at h <;> first | contradiction | skip
    exact ⟨_, _, rds_int r1, rds_int r2, c _ _ _ (kfd Kp.refl) (out_int m) h⟩
  · refine ⟨_, iop_sub, fun σ L Xs G H x y v u Qd Q m r1 r2 h c => ?_⟩
    unfold opB0 at h; split at h <;> first | contradiction | skip
    exact ⟨_, _, rds_int r1, rds_int r2, c _ _ _ (kfd Kp.refl) (out_int m) h⟩
  · refine ⟨_, iop_addB, fun σ L Xs G H x y v u Qd Q m r1 r2 h c => ?_⟩
    unfold opB0 at h; split at h <;> first | contradiction | skip
    exact ⟨_, _, rds_int r1, rds_bl r2, c _ _ _ (kfd Kp.refl) (out_int m) h⟩
  · refine ⟨_, iop_subB, fun σ L Xs G H x y v u Qd Q m r1 r2 h c => ?_⟩
    unfold opB0 at h; split at h <;> first | contradiction | skip
    exact ⟨_, _, rds_int r1, rds_bl r2, c _ _ _ (kfd Kp.refl) (out_int m) h⟩

mutual
theorem rep_dp {a : Addr → Prop} {H : Hp} : ∀ (d : D) (v : V), plainD d = true → Rep Γ a H d v → Dp Γ.K H v (toPy d)
  | .non, v, _, r => by simp only [Rep] at r; subst r; exact Dp.non
  | .bl b, v, _, r => by simp only [Rep] at r; subst r; exact Dp.bl b
  | .int i, v, _, r => by simp only [Rep] at r; subst r; exact Dp.int i
  | .str x, v, _, r => by simp only [Rep] at r; subst r; exact Dp.str x
  | .tup ds, v, h, r => by
    simp only [Rep] at r
    obtain ⟨p, vs, rfl, t, _, rr⟩ := r
    exact Dp.tup t.sq (rep_dpL ds vs (by simpa only [plainD] using h) rr)
  | .lst ds, v, h, r => by
    simp only [Rep] at r
    obtain ⟨p, vs, rfl, t, _, rr⟩ := r
    exact Dp.lst (SqL.of t.1) (rep_dpL ds vs (by simpa only [plainD] using h) rr)
  | .ins _ _, _, h, _ => by simp [plainD] at h
  | .ref _, _, h, _ => by simp [plainD] at h
  | .fn _, _, h, _ => by simp [plainD] at h
theorem rep_dpL {a : Addr → Prop} {H : Hp} : ∀ (ds : List D) (vs : List V), plainL ds = true → RepL Γ a H ds vs → DpAll Γ.K H vs (toPyL ds)
  | [], vs, _, r => by rw [r.nil_inv]; exact DpAll.nil
  | d :: ds, _, h, r => by
    obtain ⟨v, vr, rfl, r1, rr⟩ := r.cons_inv
    simp only [plainL, Bool.and_eq_true] at h
    exact DpAll.cons (rep_dp d v h.1 r1) (rep_dpL ds vr h.2 rr)
end
mutual
theorem toPy_lay : ∀ d : D, plainD d = true → (toPy d).canLay0 = true
  | .non, _ => by simp [toPy, PyData.canLay0]
  | .bl b, _ => by simp [toPy, PyData.canLay0]
  | .int i, _ => by simp [toPy, PyData.canLay0]
  | .str x, h => by simp only [toPy, PyData.canLay0]; simpa only [plainD] using h
  | .tup ds, h => by simp only [toPy, PyData.canLay0]; exact toPyL_lay ds (by simpa only [plainD] using h)
  | .lst ds, h => by simp only [toPy, PyData.canLay0]; exact toPyL_lay ds (by simpa only [plainD] using h)
  | .ins _ _, _ => by simp [toPy, PyData.canLay0]
  | .ref _, _ => by simp [toPy, PyData.canLay0]
  | .fn _, _ => by simp [toPy, PyData.canLay0]
theorem toPyL_lay : ∀ ds : List D, plainL ds = true → PyData.canLayAll0 (toPyL ds) = true
  | [], _ => by simp [toPyL, PyData.canLayAll0]
  | d :: ds, h => by
    simp only [plainL, Bool.and_eq_true] at h
    simp only [toPyL, PyData.canLayAll0, Bool.and_eq_true]
    exact ⟨toPy_lay d h.1, toPyL_lay ds h.2⟩
end
theorem rds_dp {σ : St} {L : Loc} {Xs : Addr → Prop} {G : Gh} {H : Hp} {x : EV} {v : V} (h : eqOk (asR x) = true) (r : Rds Γ σ L Xs G H x v) : Dp Γ.K H v (toPy (asR x)) ∧ SeqAt.shaped (toPy (asR x)) = true := by
  unfold eqOk at h
  rw [Bool.and_eq_true] at h
  refine ⟨?_, by show ((toPy (asR x)).canLay0 && decide ((toPy (asR x)).depth ≤ 64)) = true; rw [Bool.and_eq_true]; exact ⟨toPy_lay _ h.1, h.2⟩⟩
  cases x with
  | d x => exact rep_dp x v h.1 r
  | own xs =>
    obtain ⟨p, vs, rfl, _, hp, _, rr⟩ := r
    exact Dp.lst (SqL.of hp) (rep_dpL xs vs (by simpa only [asR, plainD] using h.1) rr)
  | bor xs =>
    obtain ⟨p, vs, rfl, _, hp, _, rr⟩ := r
    exact Dp.lst (SqL.of hp) (rep_dpL xs vs (by simpa only [asR, plainD] using h.1) rr)
theorem rds_isNon {σ : St} {L : Loc} {Xs : Addr → Prop} {G : Gh} {H : Hp} {x : EV} {v : V} (r : Rds Γ σ L Xs G H x v) : decide (v = .non) = isNon (asR x) := by
  cases x with
  | d x =>
    cases x with
    | non => rw [rds_non r]; rfl
    | bl b => rw [rds_bl r]; rfl
    | int b => rw [rds_int r]; rfl
    | str b => rw [rds_str r]; rfl
    | tup ds => simp only [Rds, Rep] at r; obtain ⟨p, vs, rfl, _⟩ := r; rfl
    | lst ds => simp only [Rds, Rep] at r; obtain ⟨p, vs, rfl, _⟩ := r; rfl
    | ins c ds => simp only [Rds, Rep] at r; obtain ⟨p, _, _, _, _, vs, rfl, _⟩ := r; rfl
    | slst ds => simp only [Rds, Rep] at r; obtain ⟨p, vs, rfl, _⟩ := r; rfl
    | ref a => simp only [Rds, Rep] at r; rw [r]; rfl
    | fn k => simp only [Rds, Rep] at r; obtain ⟨a, _, rfl⟩ := r; rfl
  | own xs => obtain ⟨p, vs, rfl, _⟩ := r; rfl
  | bor xs => obtain ⟨p, vs, rfl, _⟩ := r; rfl

def copX : COp → CmpOp → Bool
  | .eq, .Eq | .ne, .NotEq | .lt, .Lt | .le, .LtE | .gt, .Gt | .ge, .GtE | .isN, .Is | .isB, .Is | .notN, .IsNot | .notB, .IsNot => true
  | _, _ => false
/-- as SoundR2, a truth comes -/
def SoundC (Γ : Gam) (r : R2) (k : EV → EV → (Bool → Prop) → Prop) : Prop :=
  ∀ (σ : St) (L : Loc) (X : Addr → Prop) (G : Gh) (H : Hp) (x y : EV) (v u : V) (Qd : Bool → Prop) (Q : VK), Mt Γ σ H L G X → Rds Γ σ L X G H x v → Rds Γ σ L X G H y u → k x y Qd →
    (∀ z, Qd z → Q (.bl z) H) → r v u H Q
theorem cmp_ok {X : Cx} (eK : X.K = Γ.K) (hu : X.A.units + 64 < cLine) : ∀ (o : COp) (op : CmpOp), copX o op = true → ∃ r, OpR X (compareOp op) r ∧ SoundC Γ r (opC o) := by
  intro o op h
  cases o <;> cases op <;> first | (exact absurd h (by decide)) | skip
  · refine ⟨_, op_eqD hu, fun σ L Xs G H x y v u Qd Q m r1 r2 h c => ?_⟩
    simp only [opC] at h
    obtain ⟨e1, e2, h⟩ := h
    obtain ⟨d1, s1⟩ := rds_dp e1 r1
    obtain ⟨d2, s2⟩ := rds_dp e2 r2
    rw [eK]
    exact ⟨_, _, d1, d2, s1, s2, c _ h⟩
  · refine ⟨_, op_neD hu, fun σ L Xs G H x y v u Qd Q m r1 r2 h c => ?_⟩
    simp only [opC] at h
    obtain ⟨e1, e2, h⟩ := h
    obtain ⟨d1, s1⟩ := rds_dp e1 r1
    obtain ⟨d2, s2⟩ := rds_dp e2 r2
    rw [eK]
    exact ⟨_, _, d1, d2, s1, s2, c _ h⟩
  · refine ⟨_, op_lt, fun σ L Xs G H x y v u Qd Q m r1 r2 h c => ?_⟩
    unfold opC at h; split at h <;> first | contradiction | skip
    exact ⟨_, _, rds_int r1, rds_int r2, c _ h⟩
  · refine ⟨_, op_le, fun σ L Xs G H x y v u Qd Q m r1 r2 h c => ?_⟩
    unfold opC at h; split at h <;> first | contradiction | skip
    exact ⟨_, _, rds_int r1, rds_int r2, c _ h⟩
  · refine ⟨_, op_gt, fun σ L Xs G H x y v u Qd Q m r1 r2 h c => ?_⟩
    unfold opC at h; split at h <;> first | contradiction | skip
    exact ⟨_, _, rds_int r1, rds_int r2, c _ h⟩
  · refine ⟨_, op_ge, fun σ L Xs G H x y v u Qd Q m r1 r2 h c => ?_⟩
    unfold opC at h; split at h <;> first | contradiction | skip
    exact ⟨_, _, rds_int r1, rds_int r2, c _ h⟩
  · refine ⟨_, op_isN, fun σ L Xs G H x y v u Qd Q m r1 r2 h c => ?_⟩
    unfold opC at h; split at h <;> first | contradiction | skip
    exact ⟨rds_non r2, by rw [rds_isNon r1]; exact c _ h⟩
  · refine ⟨_, op_notN, fun σ L Xs G H x y v u Qd Q m r1 r2 h c => ?_⟩
    unfold opC at h; split at h <;> first | contradiction | skip
    exact ⟨rds_non r2, by rw [rds_isNon r1]; exact c _ h⟩
  · refine ⟨_, op_isBl, fun σ L Xs G H x y v u Qd Q m r1 r2 h c => ?_⟩
    unfold opC at h; split at h <;> first | contradiction | skip
    exact ⟨_, _, rds_bl r1, rds_bl r2, c _ h⟩
  · refine ⟨_, op_notBl, fun σ L Xs G H x y v u Qd Q m r1 r2 h c => ?_⟩
    unfold opC at h; split at h <;> first | contradiction | skip
    exact ⟨_, _, rds_bl r1, rds_bl r2, c _ h⟩

theorem truV_ok {σ : St} {L : Loc} {Xs : Addr → Prop} {G : Gh} {H : Hp} {x : EV} {v : V} {c : Bool} (r : Rds Γ σ L Xs G H x v) (h : truD x = some c) : TruV Γ.K v H c := by
  have sq : ∀ xs, asSq x = some xs → c = (!xs.isEmpty) → TruV Γ.K v H c := fun xs e1 e2 => by
    obtain ⟨p, vs, rfl, q, z, rr⟩ := r.sq e1
    have ee : (!vs.isEmpty) = !xs.isEmpty := by
      have := rr.len
      cases vs <;> cases xs <;> simp_all
    rcases q with q | q
    · exact .inl ⟨vs, q, by rw [ee]; exact e2⟩
    · exact .inr (.inl ⟨vs, q, by rw [ee]; exact e2⟩)
  cases x with
  | d x =>
    cases x with
    | non => cases h; rw [rds_non r]; exact rfl
    | bl b => cases h; rw [rds_bl r]; exact rfl
    | int i => cases h; rw [rds_int r]; exact rfl
    | str z =>
      have h' : (if z.length ≤ 16777216 then some ((z.length : Int) != 0) else none) = some c := h
      by_cases hz : z.length ≤ 16777216
      · rw [if_pos hz] at h'
        cases h'
        rw [rds_str r]
        exact ⟨by rw [sizeLine_eq]; exact hz, rfl⟩
      · rw [if_neg hz] at h'
        cases h'
    | tup ds => exact sq ds rfl (by cases h; rfl)
    | lst ds => exact sq ds rfl (by cases h; rfl)
    | _ => cases h
  | own xs => exact sq xs rfl (by cases h; rfl)
  | bor xs => exact sq xs rfl (by cases h; rfl)
theorem ix_ok0 {X : Cx} (eK : X.K = Γ.K) : ∀ o : IOp, ∃ r, IxR X r ∧ SoundR2 Γ r (opI0 o) := by
  intro o
  cases o with
  | any => exact ⟨fun _ _ _ _ => False, fun _ _ _ _ _ _ _ _ _ _ _ _ _ _ h => h.elim, fun σ L Xs G H x y v u Qd Q m r1 r2 h c => by simp only [opI0] at h⟩
  | seq =>
    refine ⟨_, ix_seq, fun σ L Xs G H x y v u Qd Q m r1 r2 h c => ?_⟩
    unfold opI0 at h; split at h <;> first | contradiction | skip
    · rename_i hq
      cases hq
      split at h <;> first | contradiction | skip
      rename_i xs e1
      obtain ⟨d, hd, h⟩ := h
      obtain ⟨p, vs, rfl, q, z, rr⟩ := r1.sq e1
      obtain ⟨w, hw, rw'⟩ := repL_at rr hd
      rw [eK]
      rcases q with q | q
      · exact .inl ⟨p, vs, _, w, rfl, rds_int r2, q, hw, c _ _ _ (kfd Kp.refl) (Out.d m rw') h⟩
      · exact .inr (.inl ⟨p, vs, _, w, rfl, rds_int r2, q, hw, c _ _ _ (kfd Kp.refl) (Out.d m rw') h⟩)
  | str =>
    refine ⟨_, ix_str, fun σ L Xs G H x y v u Qd Q m r1 r2 h c => ?_⟩
    unfold opI0 at h; split at h <;> first | contradiction | skip
    · obtain ⟨hz, d, hd, h⟩ := h
      exact ⟨_, _, d, rds_str r1, rds_int r2, hz, hd, c _ _ _ (kfd Kp.refl) (out_str m) h⟩
theorem cut_rep {a : Addr → Prop} {H : Hp} {ds : List D} {vs : List V} (r : RepL Γ a H ds vs) (lo hi : Option Int) : RepL Γ a H (cutD ds lo hi) (cutV vs lo hi) := by
  unfold cutD cutV
  rw [r.len]
  exact (r.drop _).take _
theorem cutD_length (xs : List D) (lo hi : Option Int) : (cutD xs lo hi).length ≤ xs.length := by
  unfold cutD
  rw [List.length_take, List.length_drop]
  omega
def SoundS (Γ : Gam) (r : V → Option Int → Option Int → Hp → VK → Prop) (k : EV → Option Int → Option Int → (EV → Prop) → Prop) : Prop :=
  ∀ (σ : St) (L : Loc) (X : Addr → Prop) (G : Gh) (H : Hp) (x : EV) (v : V) (lo hi : Option Int) (Qd : EV → Prop) (Q : VK), Mt Γ σ H L G X → Rds Γ σ L X G H x v → k x lo hi Qd →
    (∀ z w H2, KF G H G H2 z w → Out Γ σ L X G H2 z w → Qd z → Q w H2) → r v lo hi H Q
theorem sl_ok0 {X : Cx} (eK : X.K = Γ.K) : ∀ o : SOp, o ≠ .revT → o ≠ .any → ∃ r, SlR X r ∧ SoundS Γ r (opS0 o) := by
  intro o ho ha
  cases o with
  | any => exact absurd rfl ha
  | tup =>
    refine ⟨_, sl_tupA, fun σ L Xs G H x v lo hi Qd Q m r1 h c => ?_⟩
    obtain ⟨xs, rfl, h⟩ : ∃ xs, x = .d (.tup xs) ∧ Qd (.d (.tup (cutD xs lo hi))) := by
      cases x with
      | d x =>
        cases x with
        | tup xs => exact ⟨xs, rfl, h⟩
        | _ => exact (show False from h).elim
      | _ => exact (show False from h).elim
    simp only [Rds, Rep] at r1
    obtain ⟨p, vs, rfl, t, z, rr⟩ := r1
    rw [eK]
    refine ⟨p, vs, rfl, t.sq, fun e => ?_, fun _ q hn => ?_⟩
    · refine c _ _ _ (kfd Kp.refl) (Out.d m ?_) h
      have e1 : cutD xs lo hi = xs := by
        unfold cutD
        rw [rr.len] at e
        rw [e.1, e.2]
        simp
      rw [e1]
      simp only [Rep]
      exact ⟨p, vs, rfl, t, z, rr⟩
    · exact c _ _ _ (kf_alloc hn) (out_tup m hn (Nat.le_trans (cutD_length _ _ _) z) (cut_rep rr lo hi)) h
  | lst =>
    refine ⟨_, sl_list, fun σ L Xs G H x v lo hi Qd Q m r1 h c => ?_⟩
    obtain ⟨xs, e1, h⟩ : ∃ xs, asL x = some xs ∧ Qd (.own (cutD xs lo hi)) := by
      have h' : (match asL x with | some xs => Qd (.own (cutD xs lo hi)) | none => False) := h
      split at h'
      · exact ⟨_, by assumption, h'⟩
      · exact h'.elim
    obtain ⟨p, vs, rfl, hp, z, rr⟩ := r1.lst e1
    rw [eK]
    exact ⟨p, vs, rfl, SqL.of hp, fun q hn => c _ _ _ (kf_alloc hn) (out_lst m hn (Nat.le_trans (cutD_length _ _ _) z) (cut_rep rr lo hi)) h⟩
  | revT => exact absurd rfl ho
theorem revT_ok : SoundR1 Γ (rRevT Γ.K) (fun x k => opS .revT x none none k) := by
  intro σ L Xs G H x v Qd Q m r1 h c
  obtain ⟨xs, rfl, h⟩ : ∃ xs, x = .d (.tup xs) ∧ Qd (.d (.tup xs.reverse)) := by
    cases x with
    | d x =>
      cases x with
      | tup xs => exact ⟨xs, rfl, h⟩
      | _ => exact (show False from h).elim
    | _ => exact (show False from h).elim
  simp only [Rds, Rep] at r1
  obtain ⟨p, vs, rfl, t, z, rr⟩ := r1
  exact ⟨p, vs, rfl, t.sq, fun q hn => c _ _ _ (kf_alloc hn) (out_tup m hn (by rw [List.length_reverse]; exact z) rr.reverse) h⟩

/-- a built-in function or type by its name: what is called, its value -/
inductive BV where
  | fn (id : String) | ty (n : String)
def BI.nm : BI → String
  | .lenP => "len" | .len => "len" | .lenS => "len" | .abs => "abs" | .int => "int" | .tuple => "tuple" | .list => "list" | .all => "all" | .any => "any" | .sum => "sum" | .sorted => "sorted"
def BI.val : BI → Value
  | .lenP => .builtin "len" | .len => .builtin "len" | .lenS => .builtin "len" | .abs => .builtin "abs" | .int => .type "int" | .tuple => .type "tuple" | .list => .type "list" | .all => .builtin "all" | .any => .builtin "any" | .sum => .builtin "sum" | .sorted => .builtin "sorted"
/-- a call with one value -/
def r1L (r : List V → Hp → VK → Prop) : V → Hp → VK → Prop := fun v H Q => r [v] H Q
theorem bi_ok0 {X : Cx} (eK : X.K = Γ.K) (hc : X.calm = true) : ∀ b : BI, b ≠ .lenP → ∃ r, CallR X b.val r ∧ SoundR1 Γ (r1L r) (opBI0 b) := by
  intro b hb
  cases b with
  | lenP => exact absurd rfl hb
  | len =>
    refine ⟨_, call_len_seq, fun σ L Xs G H x v Qd Q m r1 h c => ?_⟩
    unfold opBI0 at h; split at h <;> first | contradiction | skip
    rename_i hq
    cases hq
    split at h <;> first | contradiction | skip
    rename_i xs e1
    obtain ⟨p, vs, rfl, q, z, rr⟩ := r1.sq e1
    show ∃ p ys, _
    rw [eK]
    exact ⟨p, vs, rfl, q, by rw [rr.len]; exact c _ _ _ (kfd Kp.refl) (out_int m) h⟩
  | lenS =>
    refine ⟨_, call_len_str, fun σ L Xs G H x v Qd Q m r1 h c => ?_⟩
    unfold opBI0 at h; split at h <;> first | contradiction | skip
    exact ⟨_, by rw [rds_str r1], h.1, c _ _ _ (kfd Kp.refl) (out_int m) h.2⟩
  | abs =>
    refine ⟨_, call_abs, fun σ L Xs G H x v Qd Q m r1 h c => ?_⟩
    unfold opBI0 at h; split at h <;> first | contradiction | skip
    exact ⟨_, by rw [rds_int r1], c _ _ _ (kfd Kp.refl) (out_int m) h⟩
  | int =>
    refine ⟨_, call_int1, fun σ L Xs G H x v Qd Q m r1 h c => ?_⟩
    unfold opBI0 at h; split at h <;> first | contradiction | skip
    · exact .inl ⟨_, by rw [rds_int r1], c _ _ _ (kfd Kp.refl) (out_int m) h⟩
    · exact .inr ⟨_, by rw [rds_bl r1], c _ _ _ (kfd Kp.refl) (out_int m) h⟩
  | tuple =>
    refine ⟨_, call_tuple_of, fun σ L Xs G H x v Qd Q m r1 h c => ?_⟩
    have h2 : ∃ xs, asSq x = some xs ∧ Qd (.d (.tup xs)) := by
      unfold opBI0 at h; split at h <;> first | contradiction | skip
      rename_i hq
      cases hq
      split at h <;> first | contradiction | skip
      exact ⟨_, by assumption, h⟩
    obtain ⟨xs, e1, h2⟩ := h2
    show ∃ p ys, _
    rw [eK]
    cases x with
    | d x =>
      cases x with
      | tup ds =>
        cases e1
        simp only [Rds, Rep] at r1
        obtain ⟨p, vs, rfl, t, z, rr⟩ := r1
        exact ⟨p, vs, rfl, .inr ⟨t.sq, c _ _ _ (kfd Kp.refl) (Out.d m (by simp only [Rep]; exact ⟨p, vs, rfl, t, z, rr⟩)) h2⟩⟩
      | lst ds =>
        obtain ⟨p, vs, rfl, hp, z, rr⟩ := r1.lst (xs := ds) rfl
        cases e1
        exact ⟨p, vs, rfl, .inl ⟨SqL.of hp, fun q hn => c _ _ _ (kf_alloc hn) (out_tup m hn z rr) h2⟩⟩
      | slst ds =>
        cases e1
        simp only [Rds, Rep] at r1
        obtain ⟨p, vs, rfl, t, z, rr⟩ := r1
        exact ⟨p, vs, rfl, .inl ⟨t.sq, fun q hn => c _ _ _ (kf_alloc hn) (out_tup m hn z rr) h2⟩⟩
      | _ => cases e1
    | own ds =>
      obtain ⟨p, vs, rfl, hp, z, rr⟩ := r1.lst (xs := ds) rfl
      cases e1
      exact ⟨p, vs, rfl, .inl ⟨SqL.of hp, fun q hn => c _ _ _ (kf_alloc hn) (out_tup m hn z rr) h2⟩⟩
    | bor ds =>
      obtain ⟨p, vs, rfl, hp, z, rr⟩ := r1.lst (xs := ds) rfl
      cases e1
      exact ⟨p, vs, rfl, .inl ⟨SqL.of hp, fun q hn => c _ _ _ (kf_alloc hn) (out_tup m hn z rr) h2⟩⟩
  | list =>
    refine ⟨_, call_list_of, fun σ L Xs G H x v Qd Q m r1 h c => ?_⟩
    unfold opBI0 at h; split at h <;> first | contradiction | skip
    rename_i hq
    cases hq
    split at h <;> first | contradiction | skip
    rename_i xs e1
    obtain ⟨p, vs, rfl, q, z, rr⟩ := r1.sq e1
    show ∃ p ys, _
    rw [eK]
    exact ⟨p, vs, rfl, q, fun l hn => c _ _ _ (kf_alloc hn) (out_lst m hn z rr) h⟩
  | all =>
    refine ⟨_, cr_all hc, fun σ L Xs G H x v Qd Q m r1 h c => ?_⟩
    unfold opBI0 at h; split at h <;> first | contradiction | skip
    obtain ⟨bs, e1, h⟩ := h
    obtain ⟨p, vs, rfl, hp, z, rr⟩ := r1.lst e1
    rw [rr.bls] at hp
    exact ⟨p, bs, rfl, SqL.of hp, c _ _ _ (kfd Kp.refl) (out_bl m) h⟩
  | any =>
    refine ⟨_, cr_any hc, fun σ L Xs G H x v Qd Q m r1 h c => ?_⟩
    unfold opBI0 at h; split at h <;> first | contradiction | skip
    obtain ⟨bs, e1, h⟩ := h
    obtain ⟨p, vs, rfl, hp, z, rr⟩ := r1.lst e1
    rw [rr.bls] at hp
    exact ⟨p, bs, rfl, SqL.of hp, c _ _ _ (kfd Kp.refl) (out_bl m) h⟩
  | sum =>
    refine ⟨_, cr_sum hc, fun σ L Xs G H x v Qd Q m r1 h c => ?_⟩
    unfold opBI0 at h; split at h <;> first | contradiction | skip
    obtain ⟨ns, e1, h⟩ := h
    obtain ⟨p, vs, rfl, hp, z, rr⟩ := r1.lst e1
    rw [rr.ints] at hp
    exact ⟨p, ns, rfl, SqL.of hp, c _ _ _ (kfd Kp.refl) (out_int m) h⟩
  | sorted =>
    refine ⟨_, cr_sorted, fun σ L Xs G H x v Qd Q m r1 h c => ?_⟩
    unfold opBI0 at h; split at h <;> first | contradiction | skip
    obtain ⟨ns, e1, h64, h⟩ := h
    obtain ⟨p, vs, rfl, hp, z, rr⟩ := r1.lst e1
    rw [rr.ints] at hp
    refine ⟨p, ns, rfl, SqL.of hp, h64, fun ms q pm pw hn => ?_⟩
    have lz : (ms.map D.int).length ≤ sizeLine := by
      rw [List.length_map, pm.length_eq]
      exact small64 h64
    exact c _ _ _ (kf_alloc hn) (out_lst m hn lz RepL.of_ints) (h ms pm pw)
def bopX : BOp → Operator → Bool
  | .addP, .Add => true
  | .subP, .Sub => true
  | o, op => bopX0 o op
def iopX : BOp → Operator → Bool
  | .iaddP, .Add => true
  | .isubP, .Sub => true
  | o, op => iopX0 o op
theorem op_union {X : Cx} {f : Value → Value → Sem Value} (os : List BOp) (h : ∀ o ∈ os, ∃ r, OpR X f r ∧ SoundR2 Γ r (opB0 o)) (sel : EV → EV → BOp) (hs : ∀ x y k, opB0 (sel x y) x y k → sel x y ∈ os) : ∃ r, OpR X f r ∧ SoundR2 Γ r (fun x y k => opB0 (sel x y) x y k) := by
  refine ⟨fun x y H Q => ∃ (o : BOp) (ho : o ∈ os), Classical.choose (h o ho) x y H Q, ?_, ?_⟩
  · intro pins s σ H x y v u Q I rx ry hh
    obtain ⟨o, ho, q⟩ := hh
    exact (Classical.choose_spec (h o ho)).1 pins s σ H x y v u Q I rx ry q
  · intro σ L Xs G H x y v u Qd Q m r1 r2 hh c
    exact ⟨sel x y, hs x y Qd hh, (Classical.choose_spec (h _ (hs x y Qd hh))).2 σ L Xs G H x y v u Qd Q m r1 r2 hh c⟩
theorem addSel_in (x y : EV) : addSel x y ∈ ([.add, .addB, .sadd, .tadd, .ladd] : List BOp) := by
  unfold addSel; split <;> decide
theorem subSel_in (x y : EV) : subSel x y ∈ ([.sub, .subB, .subBB] : List BOp) := by
  unfold subSel; split <;> decide
theorem bin_ok {X : Cx} (eK : X.K = Γ.K) (o : BOp) (op : Operator) (h : bopX o op = true) : ∃ r, OpR X (binaryOp op) r ∧ SoundR2 Γ r (opB o) := by
  by_cases e1 : o = .addP
  · subst e1
    have : op = .Add := by cases op <;> first | rfl | exact absurd h (by decide)
    subst this
    exact op_union [.add, .addB, .sadd, .tadd, .ladd] (fun o ho => bin_ok0 eK o .Add (by simp only [List.mem_cons, List.not_mem_nil, or_false] at ho; rcases ho with rfl | rfl | rfl | rfl | rfl <;> rfl)) addSel fun x y _ _ => addSel_in x y
  by_cases e2 : o = .subP
  · subst e2
    have : op = .Sub := by cases op <;> first | rfl | exact absurd h (by decide)
    subst this
    exact op_union [.sub, .subB, .subBB] (fun o ho => bin_ok0 eK o .Sub (by simp only [List.mem_cons, List.not_mem_nil, or_false] at ho; rcases ho with rfl | rfl | rfl <;> rfl)) subSel fun x y _ _ => subSel_in x y
  have h0 : bopX0 o op = true := by cases o <;> first | exact absurd rfl e1 | exact absurd rfl e2 | exact h | (cases op <;> exact absurd h (by decide))
  have e3 : opB o = opB0 o := by cases o <;> first | exact absurd rfl e1 | exact absurd rfl e2 | rfl | (cases op <;> exact absurd h (by decide))
  rw [e3]
  exact bin_ok0 eK o op h0
theorem iaddSel_in (x y : EV) : iaddSel x y ∈ ([.add, .addB] : List BOp) := by
  unfold iaddSel; split <;> decide
theorem isubSel_in (x y : EV) : isubSel x y ∈ ([.sub, .subB] : List BOp) := by
  unfold isubSel; split <;> decide
theorem iop_ok {X : Cx} (o : BOp) (op : Operator) (h : iopX o op = true) : ∃ r, OpR X (inplaceOp op) r ∧ SoundR2 Γ r (opB o) := by
  by_cases e1 : o = .iaddP
  · subst e1
    have : op = .Add := by cases op <;> first | rfl | exact absurd h (by decide)
    subst this
    exact op_union [.add, .addB] (fun o ho => iop_ok0 o .Add (by simp only [List.mem_cons, List.not_mem_nil, or_false] at ho; rcases ho with rfl | rfl <;> rfl)) iaddSel fun x y _ _ => iaddSel_in x y
  by_cases e2 : o = .isubP
  · subst e2
    have : op = .Sub := by cases op <;> first | rfl | exact absurd h (by decide)
    subst this
    exact op_union [.sub, .subB] (fun o ho => iop_ok0 o .Sub (by simp only [List.mem_cons, List.not_mem_nil, or_false] at ho; rcases ho with rfl | rfl <;> rfl)) isubSel fun x y _ _ => isubSel_in x y
  have h0 : iopX0 o op = true := by cases o <;> first | exact absurd rfl e1 | exact absurd rfl e2 | exact h | (cases op <;> exact absurd h (by decide))
  have e3 : opB o = opB0 o := by cases o <;> first | exact absurd rfl e1 | exact absurd rfl e2 | rfl | (cases op <;> exact absurd h (by decide))
  rw [e3]
  exact iop_ok0 o op h0
theorem ix_ok {X : Cx} (eK : X.K = Γ.K) (o : IOp) : ∃ r, IxR X r ∧ SoundR2 Γ r (opI o) := by
  cases o with
  | any =>
    obtain ⟨r, h1, h2⟩ := ix_ok0 (Γ := Γ) eK .seq
    obtain ⟨r', h1', h2'⟩ := ix_ok0 (Γ := Γ) eK .str
    refine ⟨fun x y H Q => r x y H Q ∨ r' x y H Q, fun a b pins s σ H x y v u Q I rx ry hh hp => ?_, fun σ L Xs G H x y v u Qd Q m r1 r2 hh c => ?_⟩
    · rcases hh with hh | hh
      · exact h1 a b pins s σ H x y v u Q I rx ry hh hp
      · exact h1' a b pins s σ H x y v u Q I rx ry hh hp
    · have hh : opI0 (idxSel x) x y Qd := hh
      have : idxSel x = .seq ∨ idxSel x = .str := by unfold idxSel; split <;> simp
      rcases this with e | e
      · rw [e] at hh; exact .inl (h2 σ L Xs G H x y v u Qd Q m r1 r2 hh c)
      · rw [e] at hh; exact .inr (h2' σ L Xs G H x y v u Qd Q m r1 r2 hh c)
  | seq => exact ix_ok0 eK .seq
  | str => exact ix_ok0 eK .str
theorem sl_ok {X : Cx} (eK : X.K = Γ.K) (o : SOp) (ho : o ≠ .revT) : ∃ r, SlR X r ∧ SoundS Γ r (opS o) := by
  cases o with
  | any =>
    obtain ⟨r, h1, h2⟩ := sl_ok0 (Γ := Γ) eK .tup (by decide) (by decide)
    obtain ⟨r', h1', h2'⟩ := sl_ok0 (Γ := Γ) eK .lst (by decide) (by decide)
    refine ⟨fun x lo hi H Q => r x lo hi H Q ∨ r' x lo hi H Q, ?_, fun σ L Xs G H x v lo hi Qd Q m r1 hh c => ?_⟩
    · exact h1.or h1'
    · have hh : opS0 (slcSel x) x lo hi Qd := hh
      have : slcSel x = .tup ∨ slcSel x = .lst := by unfold slcSel; split <;> simp
      rcases this with e | e
      · rw [e] at hh; exact .inl (h2 σ L Xs G H x v lo hi Qd Q m r1 hh c)
      · rw [e] at hh; exact .inr (h2' σ L Xs G H x v lo hi Qd Q m r1 hh c)
  | tup => exact sl_ok0 eK .tup (by decide) (by decide)
  | lst => exact sl_ok0 eK .lst (by decide) (by decide)
  | revT => exact absurd rfl ho
theorem bi_ok {X : Cx} (eK : X.K = Γ.K) (hc : X.calm = true) (b : BI) : ∃ r, CallR X b.val r ∧ SoundR1 Γ (r1L r) (opBI b) := by
  by_cases e : b = .lenP
  · subst e
    obtain ⟨r, h1, h2⟩ := bi_ok0 (Γ := Γ) eK hc .len (by decide)
    obtain ⟨r', h1', h2'⟩ := bi_ok0 (Γ := Γ) eK hc .lenS (by decide)
    refine ⟨fun x H Q => r x H Q ∨ r' x H Q, fun pins s σ H xs us Q I rr hh => ?_, fun σ L Xs G H x v Qd Q m r1 hh c => ?_⟩
    · rcases hh with hh | hh
      · exact h1 pins s σ H xs us Q I rr hh
      · exact h1' pins s σ H xs us Q I rr hh
    · have hh : opBI0 (lenSel x) x Qd := hh
      have : lenSel x = .len ∨ lenSel x = .lenS := by unfold lenSel; split <;> simp
      rcases this with e | e
      · rw [e] at hh; exact .inl (h2 σ L Xs G H x v Qd Q m r1 hh c)
      · rw [e] at hh; exact .inr (h2' σ L Xs G H x v Qd Q m r1 hh c)
  have e3 : opBI b = opBI0 b := by cases b <;> first | exact absurd rfl e | rfl
  rw [e3]
  exact bi_ok0 eK hc b e
end
end DL
namespace DL
open PySem PySem.Spec PyProof.Rows L2
open AutoSeq1 (wpAny_loadPart')
theorem meets_enumerate_newT (l : Addr) (items : Array Value) (n : Nat) (dct : Option Addr) (sl : Array (Option Value)) :
    Meets (Builtin.«enumerate.__new__» ⟨[.type "enumerate", .ref l], []⟩) (fun _ R s => s.heap.get? l = some { cls := .type "tuple", dict := dct, data := .seq items n, slots := sl } ∧
      R (.ok (.ret (.ref (s.heap.push { cls := .type "tuple_iterator", data := .fields #[.ref l, .int 0 0] }).objs.size)))
        { s with heap := (s.heap.push { cls := .type "tuple_iterator", data := .fields #[.ref l, .int 0 0] }).push { cls := .type "enumerate", data := .fields #[.none, .bool false, .ref s.heap.objs.size, rawInt 0, .none, .none] } }) :=
  .of_wp fun prog w A R s h => by
    obtain ⟨hp, g, d, tk, os⟩ := s; obtain ⟨hl, h⟩ := h
    have hsub := sub_enumerate
    have hL : Heap.IsTuple (Shared.heap ⟨hp, g, d, tk, os⟩) l items := ⟨_, hl, rfl, n, rfl⟩
    wp_walk using wpAny_loadPart' hl
    refine wpAny_stack_any fun st => wpAny_pure ?_
    split
    · rename_i c _ _ _ _ _
      cases (c == Value.type "enumerate")
      · wp_walk using wpAny_loadPart' hl, wpAny_pyIter_tuple hL
        exact ⟨_, rfl, h⟩
      · wp_walk using wpAny_loadPart' hl, wpAny_pyIter_tuple hL
        exact ⟨_, rfl, h⟩
    · wp_walk using wpAny_loadPart' hl, wpAny_pyIter_tuple hL
      exact ⟨_, rfl, h⟩
theorem call_enumerate_tuple {prog : Program} {w : World} {A : Around} {E : Value → Shared → Prop} {s : Shared} {l : Addr} {items : Array Value} {Q : Value → Shared → Prop} (hL : s.heap.IsTuple l items)
    (h : ∀ h', IsEnum h' (s.heap.objs.size + 1) s.heap.objs.size 0 .none → h'.IsTupleIter s.heap.objs.size l 0 → h'.objs.size = s.heap.objs.size + 2 →
      (∀ b o, s.heap.get? b = some o → h'.get? b = some o) → Q (.ref (s.heap.objs.size + 1)) { s with heap := h' }) :
    wpAny (model prog w) A (call (.type "enumerate") [.ref l]) Q E s := by
  obtain ⟨⟨c, dct, dt, sl⟩, hl, hc, n, hd⟩ := hL
  replace hc : c = .type "tuple" := hc
  replace hd : dt = .seq items n := hd
  subst hc hd
  refine callType_new PySem.F.called_enumerate (by decide) (PySem.F.typeCall_enumerate_1 _) (PySem.F.newCall_enumerate_1 _) (fun obj => PySem.F.args_object_init_2 obj _) PySem.F.entry_enumerate_new
    (meets_enumerate_newT l items n dct sl) ⟨hl, ?_⟩
  have hz : (s.heap.push { cls := .type "tuple_iterator", data := .fields #[.ref l, .int 0 0] }).objs.size = s.heap.objs.size + 1 := Heap.size_push ..
  show _ ∧ _
  rw [hz]
  have he : IsEnum ((s.heap.push { cls := .type "tuple_iterator", data := .fields #[.ref l, .int 0 0] }).push
      { cls := .type "enumerate", data := .fields #[.none, .bool false, .ref s.heap.objs.size, rawInt 0, .none, .none] }) (s.heap.objs.size + 1) s.heap.objs.size 0 .none := by
    have := Heap.get?_push_size (s.heap.push { cls := .type "tuple_iterator", data := .fields #[.ref l, .int 0 0] })
      (o := { cls := .type "enumerate", data := .fields #[.none, .bool false, .ref s.heap.objs.size, rawInt 0, .none, .none] }) rfl
    rw [hz] at this; exact this
  refine ⟨⟨_, he, rfl⟩, h _ he ⟨_, Heap.get?_push_of_some _ (Heap.get?_push_size _ rfl), rfl, rfl⟩ (by rw [Heap.size_push, hz]) fun b o x => Heap.get?_push_of_some _ (Heap.get?_push_of_some _ x)⟩
def IteT (K : PySem.W.Frag) (a : Addr) : It :=
  ⟨fun i H => ∃ (xs : List V) (x : V), SqT K H a xs ∧ xs[i]? = some x, fun i H v H' => ∃ T x, v = .ref T ∧ H T = none ∧ H' = upd H T (.tup [.int (i : Nat), x]) ∧ ∀ xs, SqT K H a xs → xs[i]? = some x, fun i H => ∃ xs : List V, SqT K H a xs ∧ xs.length ≤ i⟩
theorem turn_enumT {P : Program} {w : World} {K : PySem.W.Frag} {elts : List Expr} {kk : Nat} {tpos : Pos} (a e it : Addr) :
    Turn P w K (.Tuple elts kk tpos) (IteT K a) [e, it] e (fun i h => (∃ old, IsEnum h e it ((i : Nat) : Int) old) ∧ h.IsTupleIter it a i ∧ e ≠ it) where
  mem := by simp
  obj := fun i h st b hb => by
    obtain ⟨⟨old, he⟩, ⟨o, ho, hc, hd⟩, _⟩ := st
    have e' : b = e ∨ b = it := by simpa using hb
    rcases e' with z | z
    · rw [z]; exact ⟨_, he, fun v q => nomatch q⟩
    · rw [z]; exact ⟨o, ho, fun v q => by rw [hd] at q; cases q⟩
  keep := fun i h h' st k => let ⟨⟨old, he⟩, hi, hne⟩ := st; ⟨⟨old, k e (by simp) _ he⟩, hi.at fun o q => k it (by simp) o q, hne⟩
  item := by
    intro X hP hw hK hc i pins s σ H E I hf st hg
    subst hP hw hK
    obtain ⟨⟨old, he⟩, hit, hne⟩ := st
    obtain ⟨xs, x, hq, hx⟩ := hg
    obtain ⟨its, rv, p, hz⟩ := I.tuple hq
    obtain ⟨u, hu, ru⟩ := rv.get hx
    have pT : s.heap.IsTuple a its.toArray := p
    have hel : e < s.heap.objs.size := Heap.lt_size he
    have hil : it < s.heap.objs.size := by obtain ⟨_, q, _⟩ := hit; exact Heap.lt_size q
    have nai : a ≠ it := fun z => by
      obtain ⟨o, ho, hc, _⟩ := hit
      obtain ⟨o2, ho2, hc2, _⟩ := p
      rw [z, ho] at ho2
      cases ho2
      rw [hc] at hc2
      exact absurd hc2 (by decide +kernel)
    have nae : e ≠ a := fun z => by
      obtain ⟨o2, ho2, hc2, _⟩ := p
      rw [← z] at ho2
      have he' := he
      unfold IsEnum at he'
      rw [he'] at ho2
      cases ho2
      exact absurd (show Value.type "enumerate" = Value.type "tuple" from hc2) (by decide +kernel)
    have hi : i < its.toArray.size := by
      have := (List.getElem?_eq_some_iff.mp hu).1
      simpa using this
    have D := Draws.tuple (prog := X.prog) (w := X.w) (A := X.A.in1) (I.ok.hd hc) it a nai its.toArray
    refine wpAny_pyNext_enum_itemD D he ⟨hit, pT⟩ hi hne (by simp; exact ⟨hne, nae⟩) fun y h' tk hP ho st' hT hsz hk => ?_
    have ey : y = u := by
      have h1 : its[i]? = some y := by simpa using hP
      rw [hu] at h1
      exact (Option.some.inj h1).symm
    subst ey
    refine ⟨_, rfl, wpAny_letOwnedTupleGo_enum (s := { s with heap := h', toks := tk + 1 }) ho fun h'' he' sb => ?_⟩
    have hT2 : h''.get? s.heap.objs.size = some { cls := .type "tuple", data := .seq #[.int i tk, y] } := (sb.2 _ (Nat.ne_of_gt hel)).trans hT
    have new : ObjOk X.prog X.w (upd H s.heap.objs.size (.tup [.int (i : Nat), x])) h'' s.heap.objs.size (.tup [.int (i : Nat), x]) :=
      ⟨by show 2 ≤ sizeLine; decide, [.int i tk, y], .cons ⟨_, rfl⟩ (.cons ru .nil), ⟨_, hT2, rfl, _, rfl⟩⟩
    have I1 : Inv X pins σ (upd H s.heap.objs.size (.tup [.int (i : Nat), x])) { s with heap := h'', toks := tk + 1 } :=
      I.turnedNew (ch := [e, it]) (fun b ob hb q => (sb.2 b (fun z => hb (by simp [z]))).trans (hk b ob (fun z => hb (by simp [z])) (fun z => hb (by simp [z])) q)) hf (Nat.le_refl _) new
    refine ⟨.ref s.heap.objs.size, _, I1, rfl, ⟨_, x, rfl, I.hok.fresh (Nat.le_refl _), rfl, fun ys hy => by rw [I.tuple_inj hy hq]; exact hx⟩, ⟨⟨y, ?_⟩, st'.1.at fun o q => (sb.2 it (Ne.symm hne)).trans q, hne⟩, fun b hb => ?_⟩
    · have e1 : ((i + 1 : Nat) : Int) = (i : Int) + 1 := by omega
      rw [e1]; exact he'
    · have hb' : b < s.heap.objs.size := by
        have e' : b = e ∨ b = it := by simpa using hb
        rcases e' with z | z
        · rw [z]; exact hel
        · rw [z]; exact hil
      rw [upd_ne (Nat.ne_of_lt hb')]
      exact (hf b hb).1
  done := by
    intro X hP hw hK hc i pins s σ H E I hf st hg
    subst hP hw hK
    obtain ⟨⟨old, he⟩, hit, hne⟩ := st
    obtain ⟨xs, hq, hx⟩ := hg
    obtain ⟨its, rv, p, hz⟩ := I.tuple hq
    obtain ⟨f0, f1, f2, f3, f4, f5⟩ := hf it (by simp)
    have hl := rv.length
    have hT : s.TypeIs (.ref e) "enumerate" := ⟨_, he, rfl⟩
    unfold pyNext
    refine wpAny_bind (wpAny_attempt (wpAny_callSpecial?_slot (name := Str.ofString "__next__") hT PySem.F.slot_enumerate_next
      (wpAny_call_entry PySem.F.slot_enumerate_next hT PySem.F.entry_enumerate_next ?_ (PySem.F.args_enumerate_next_1 _))))
    show wpAny _ _ (field (.ref e) 2 >>= _) _ _ _
    refine wpAny_bind (wpAny_field he rfl (x := .ref it) rfl ?_)
    refine wpAny_bind (wpAny_nextOf_tuple_end (I.ok.hd hc) hit (show s.heap.IsTuple a its.toArray from p) (by simp; omega) fun h' y he' hx' => ?_)
    obtain ⟨o, ho, hc2⟩ := hx'
    refine wpAny_bind (wpAny_isInstance (T := "StopIteration") (b := true) ⟨o, ho, hc2⟩ isSubtype_stop ?_)
    exact wpAny_pure ⟨rfl, I.turned (t' := s.toks) (fun b o hb q => he' b o hb q) f0 f1 f3 f4 f5⟩
  self := fun A i s Q E st h => let ⟨⟨_, he⟩, _⟩ := st; wpAny_pyIter_enum he h
/-- enumerate(x), x a list or a tuple -/
def iEnumA (K : PySem.W.Frag) (ta : TA) : TI := fun σ H R => ta σ H fun vs H1 => ∃ a xs, vs = [.ref a] ∧ ((SqL K H1 a xs ∧ R (Ite K a) H1) ∨ (SqT K H1 a xs ∧ R (IteT K a) H1))
theorem pi_enumA {X : Cx} {e : Expr} {ta : TA} {p pos tpos : Pos} {elts : List Expr} {kk : Nat} (hg : Gl X "enumerate") (hm : X.mg "enumerate" = none) (ha : PA X [e] ta) (hs : starEach [e] X.env = [(false, eval e X.env)]) :
    PI X (.Tuple elts kk tpos) (.Call (.Name "enumerate" p) [e] [] pos) (iEnumA X.K ta) := by
  refine ⟨fun pins s σ H R I h => ?_⟩
  refine Call_ (ld_blt I hg hm boot_enumerate (PyProof.Rows.callWith_type1 (thn (ha.run pos pins s σ H _ I h) fun us s1 ⟨vs, H1, I1, r1, q1⟩ => ?_) hs rfl))
  obtain ⟨a, xs, ex, q1⟩ := q1
  subst ex
  have two : ∀ b, b ∈ [s1.heap.objs.size + 1, s1.heap.objs.size] → FpOk X pins H1 b := fun b hb => by
    have e' : b = s1.heap.objs.size + 1 ∨ b = s1.heap.objs.size := by simpa using hb
    have hle : s1.heap.objs.size ≤ b := by
      rcases e' with z | z
      · rw [z]; exact Nat.le_add_right _ _
      · rw [z]; exact Nat.le_refl _
    exact I1.fpOk hle (I1.hok.fresh hle)
  cases r1 with
  | cons r rr =>
    cases rr
    cases r
    rcases q1 with ⟨hq, q⟩ | ⟨hq, q⟩
    · obtain ⟨its, rv, p', hz⟩ := I1.list hq
      refine call_enumerate_list p'.isList fun h' he hit hsz hk => wpAny_pyIter_enum he ?_
      have I2 : Inv X pins σ H1 { s1 with heap := h' } := I1.kept (t' := s1.toks) hk
      exact ⟨s1.heap.objs.size + 1, [s1.heap.objs.size + 1, s1.heap.objs.size], _, _, H1, rfl, I2, turn_enum a (s1.heap.objs.size + 1) s1.heap.objs.size, ⟨⟨.none, he⟩, hit, Nat.succ_ne_self _⟩, two, q⟩
    · obtain ⟨its, rv, p', hz⟩ := I1.tuple hq
      refine call_enumerate_tuple (show s1.heap.IsTuple a its.toArray from p') fun h' he hit hsz hk => wpAny_pyIter_enum he ?_
      have I2 : Inv X pins σ H1 { s1 with heap := h' } := I1.kept (t' := s1.toks) hk
      exact ⟨s1.heap.objs.size + 1, [s1.heap.objs.size + 1, s1.heap.objs.size], _, _, H1, rfl, I2, turn_enumT a (s1.heap.objs.size + 1) s1.heap.objs.size, ⟨⟨.none, he⟩, hit, Nat.succ_ne_self _⟩, two, q⟩

def Grow (H H2 : Hp) : Prop := H2 = H ∨ ∃ T xs, H T = none ∧ H2 = upd H T (.tup xs)
/-- J gives the items, as long as what stood stands -/
def WalkD (Γ : Gam) (a : Addr → Prop) (H2 : Hp) (J : It) (items : List D) : Prop :=
  ∃ Gd Y, Walk J items.length Gd Y ∧ items.length ≤ sizeLine ∧ ∀ a3 H3, Stp a H2 a3 H3 → (∀ p, a3 p → H3 p ≠ none) → Gd H3 ∧
    ∀ i x H4, i < items.length → Y i H3 x H4 → Grow H3 H4 ∧ ∃ d, items[i]? = some d ∧ Rep Γ a3 H4 d x
theorem rngD_length : ∀ (n : Nat) (lo : Int), (rngD lo n).length = n
  | 0, _ => rfl
  | n + 1, lo => by rw [rngD, List.length_cons, rngD_length n]
theorem rngD_get : ∀ (n : Nat) (lo : Int) (i : Nat), i < n → (rngD lo n)[i]? = some (.int (lo + i))
  | 0, _, _, h => by omega
  | n + 1, lo, 0, _ => by simp [rngD]
  | n + 1, lo, i + 1, h => by
    rw [rngD, List.getElem?_cons_succ, rngD_get n (lo + 1) i (by omega)]
    congr 2
    omega
theorem enumD_length : ∀ (ds : List D) (k : Nat), (enumD k ds).length = ds.length
  | [], _ => rfl
  | d :: ds, k => by rw [enumD, List.length_cons, enumD_length ds, List.length_cons]
theorem enumD_get : ∀ (ds : List D) (k i : Nat), (enumD k ds)[i]? = ds[i]?.map fun d => .tup [.int ((k + i : Nat) : Int), d]
  | [], _, _ => by simp [enumD]
  | d :: ds, k, 0 => by simp [enumD]
  | d :: ds, k, i + 1 => by
    rw [enumD, List.getElem?_cons_succ, enumD_get ds (k + 1) i, List.getElem?_cons_succ]
    have e : k + 1 + i = k + (i + 1) := by omega
    rw [e]
theorem zipD_length : ∀ (xs ys : List D), (zipD xs ys).length = min xs.length ys.length
  | [], _ => by simp [zipD]
  | _ :: _, [] => by simp [zipD]
  | x :: xs, y :: ys => by rw [zipD, List.length_cons, zipD_length xs ys, List.length_cons, List.length_cons]; omega
theorem zipD_get : ∀ (xs ys : List D) (i : Nat) (x y : D), xs[i]? = some x → ys[i]? = some y → (zipD xs ys)[i]? = some (.tup [x, y])
  | [], _, _, _, _, h, _ => by simp at h
  | _ :: _, [], _, _, _, _, h => by simp at h
  | x :: xs, y :: ys, 0, _, _, h, k => by simp at h k; subst h; subst k; simp [zipD]
  | x :: xs, y :: ys, i + 1, _, _, h, k => by
    rw [zipD, List.getElem?_cons_succ]
    exact zipD_get xs ys i _ _ (by simpa using h) (by simpa using k)
section
variable {Γ : Gam} {a : Addr → Prop} {H : Hp}
theorem walkD_lst {p : Addr} {vs : List V} {ds : List D} (h : H p = some (.lst vs)) (n : ¬ a p) (z : ds.length ≤ sizeLine) (r : RepL Γ a H ds vs) : WalkD Γ a H (Itl Γ.K p) ds := by
  refine ⟨_, _, by rw [← r.len]; exact walk_list (K := Γ.K) (a := p) (xs := vs), z, fun a3 H3 st _ => ⟨SqL.of (st p _ h n).1, fun i x H4 hi y => ?_⟩⟩
  obtain ⟨e, hx⟩ := y
  subst e
  obtain ⟨d, h1, h2⟩ := (r.step st _ _).get' hx
  exact ⟨.inl rfl, d, h1, h2⟩
theorem walkD_slst {p : Addr} {vs : List V} {ds : List D} (h : SLst Γ.K a H p vs) (z : ds.length ≤ sizeLine) (r : RepL Γ a H ds vs) : WalkD Γ a H (Itl Γ.K p) ds := by
  refine ⟨_, _, by rw [← r.len]; exact walk_list (K := Γ.K) (a := p) (xs := vs), z, fun a3 H3 st _ => ⟨(h.step st).sq, fun i x H4 hi y => ?_⟩⟩
  obtain ⟨e, hx⟩ := y
  subst e
  obtain ⟨d, h1, h2⟩ := (r.step st _ _).get' hx
  exact ⟨.inl rfl, d, h1, h2⟩
theorem walkD_tup {p : Addr} {vs : List V} {ds : List D} (h : TupAt Γ.K a H p vs) (z : ds.length ≤ sizeLine) (r : RepL Γ a H ds vs) : WalkD Γ a H (Itt Γ.K p) ds := by
  refine ⟨_, _, by rw [← r.len]; exact walk_tup (K := Γ.K) (a := p) (xs := vs), z, fun a3 H3 st _ => ⟨(h.step st).sq, fun i x H4 hi y => ?_⟩⟩
  obtain ⟨e, hx⟩ := y
  subst e
  obtain ⟨d, h1, h2⟩ := (r.step st _ _).get' hx
  exact ⟨.inl rfl, d, h1, h2⟩
theorem walkD_rng {lo : Int} {n : Nat} (z : n ≤ sizeLine) : WalkD Γ a H (Itr lo n) (rngD lo n) := by
  refine ⟨_, _, by rw [rngD_length]; exact walk_range, by rw [rngD_length]; exact z, fun a3 H3 st _ => ⟨trivial, fun i x H4 hi y => ?_⟩⟩
  obtain ⟨e, hx⟩ := y
  subst e hx
  rw [rngD_length] at hi
  exact ⟨.inl rfl, _, rngD_get n lo i hi, by simp only [Rep]⟩
/-- a new pair -/
theorem pair_rep {H3 : Hp} {a3 : Addr → Prop} {T : Addr} {x y : V} {d e : D} (hT : H3 T = none) (nn : ∀ p, a3 p → H3 p ≠ none) (r1 : Rep Γ a3 H3 d x) (r2 : Rep Γ a3 H3 e y) : Rep Γ a3 (upd H3 T (.tup [x, y])) (.tup [d, e]) (.ref T) := by
  have st : Stp a3 H3 a3 (upd H3 T (.tup [x, y])) := fun p o h n => ⟨upd_keeps hT p o h, n⟩
  simp only [Rep]
  exact ⟨T, [x, y], rfl, .inl ⟨upd_same, fun z => nn T z hT⟩, by show 2 ≤ sizeLine; decide, RepL.cons (r1.step st _ _) (RepL.cons (r2.step st _ _) RepL.nil)⟩
theorem walkD_enumL {p : Addr} {vs : List V} {ds : List D} (h : H p = some (.lst vs)) (n : ¬ a p) (z : ds.length ≤ sizeLine) (r : RepL Γ a H ds vs) : WalkD Γ a H (Ite Γ.K p) (enumD 0 ds) := by
  refine ⟨_, _, by rw [enumD_length, ← r.len]; exact walk_enum (K := Γ.K) (a := p) (xs := vs), by rw [enumD_length]; exact z, fun a3 H3 st nn => ⟨SqL.of (st p _ h n).1, fun i x H4 hi y => ?_⟩⟩
  obtain ⟨T, x1, x2, rfl, hT, rfl, e1, hx⟩ := y
  cases e1
  obtain ⟨d, h1, h2⟩ := (r.step st _ _).get' hx
  refine ⟨.inr ⟨T, _, hT, rfl⟩, _, by rw [enumD_get, h1]; rfl, ?_⟩
  rw [Nat.zero_add]
  exact pair_rep hT nn (by simp only [Rep]) h2
theorem walk_enumT {K : PySem.W.Frag} {p : Addr} {xs : List V} : Walk (IteT K p) xs.length (fun H => SqT K H p xs) (YPair (fun i => some (.int (i : Nat))) (fun i => xs[i]?)) := by
  refine ⟨fun i _ hi q => ⟨xs, xs[i], q, by simp [hi]⟩, fun _ q => ⟨xs, q, Nat.le_refl _⟩, fun i H v H' _ q y => ?_⟩
  obtain ⟨T, x, h1, h2, h3, h4⟩ := y
  exact ⟨T, .int (i : Nat), x, h1, h2, h3, rfl, h4 xs q⟩
theorem walkD_enumT {p : Addr} {vs : List V} {ds : List D} (h : TupAt Γ.K a H p vs) (z : ds.length ≤ sizeLine) (r : RepL Γ a H ds vs) : WalkD Γ a H (IteT Γ.K p) (enumD 0 ds) := by
  refine ⟨_, _, by rw [enumD_length, ← r.len]; exact walk_enumT (K := Γ.K) (p := p) (xs := vs), by rw [enumD_length]; exact z, fun a3 H3 st nn => ⟨(h.step st).sq, fun i x H4 hi y => ?_⟩⟩
  obtain ⟨T, x1, x2, rfl, hT, rfl, e1, hx⟩ := y
  cases e1
  obtain ⟨d, h1, h2⟩ := (r.step st _ _).get' hx
  refine ⟨.inr ⟨T, _, hT, rfl⟩, _, by rw [enumD_get, h1]; rfl, ?_⟩
  rw [Nat.zero_add]
  exact pair_rep hT nn (by simp only [Rep]) h2
theorem walkD_zipL {p q : Addr} {vs us : List V} {ds es : List D} (h : H p = some (.lst vs)) (n : ¬ a p) (z : ds.length ≤ sizeLine) (r : RepL Γ a H ds vs)
    (h' : H q = some (.lst us)) (n' : ¬ a q) (r' : RepL Γ a H es us) : WalkD Γ a H (Itz Γ.K p q) (zipD ds es) := by
  refine ⟨_, _, walk_zip (K := Γ.K) (a := p) (b := q) (xs := vs) (ys := us) (by rw [zipD_length, r.len, r'.len]), by rw [zipD_length]; omega, fun a3 H3 st nn => ⟨⟨SqL.of (st p _ h n).1, SqL.of (st q _ h' n').1⟩, fun i x H4 hi y => ?_⟩⟩
  obtain ⟨T, x1, x2, rfl, hT, rfl, e1, hx⟩ := y
  obtain ⟨d, h1, h2⟩ := (r.step st _ _).get' e1
  obtain ⟨e, h3, h4⟩ := (r'.step st _ _).get' hx
  exact ⟨.inr ⟨T, _, hT, rfl⟩, _, zipD_get _ _ _ _ _ h1 h3, pair_rep hT nn h2 h4⟩
theorem walk_zipT {K : PySem.W.Frag} {p q : Addr} {xs ys : List V} {n : Nat} (hn : n = min xs.length ys.length) : Walk (RZ.ItzT K p q) n (fun H => SqT K H p xs ∧ SqT K H q ys) (YPair (fun i => xs[i]?) (fun i => ys[i]?)) := by
  subst hn
  refine ⟨fun i _ hi q => ?_, fun _ q => ⟨xs, ys, q.1, q.2, by omega⟩, fun i H v H' _ q y => ?_⟩
  · have h1 : i < xs.length := by omega
    have h2 : i < ys.length := by omega
    exact ⟨xs, ys, xs[i], ys[i], q.1, q.2, by simp [h1], by simp [h2]⟩
  · obtain ⟨T, x, z, h1, h2, h3, h4, h5⟩ := y
    exact ⟨T, x, z, h1, h2, h3, h4 xs q.1, h5 ys q.2⟩
theorem walkD_zipT {p q : Addr} {vs us : List V} {ds es : List D} (h : TupAt Γ.K a H p vs) (z : ds.length ≤ sizeLine) (r : RepL Γ a H ds vs)
    (h' : TupAt Γ.K a H q us) (r' : RepL Γ a H es us) : WalkD Γ a H (RZ.ItzT Γ.K p q) (zipD ds es) := by
  refine ⟨_, _, walk_zipT (K := Γ.K) (p := p) (q := q) (xs := vs) (ys := us) (by rw [zipD_length, r.len, r'.len]), by rw [zipD_length]; omega, fun a3 H3 st nn => ⟨⟨(h.step st).sq, (h'.step st).sq⟩, fun i x H4 hi y => ?_⟩⟩
  obtain ⟨T, x1, x2, rfl, hT, rfl, e1, hx⟩ := y
  obtain ⟨d, h1, h2⟩ := (r.step st _ _).get' e1
  obtain ⟨e, h3, h4⟩ := (r'.step st _ _).get' hx
  exact ⟨.inr ⟨T, _, hT, rfl⟩, _, zipD_get _ _ _ _ _ h1 h3, pair_rep hT nn h2 h4⟩
end
end DL
namespace DL
open PySem PySem.Spec PyProof.Rows L2

/-- names of defs and constants by number -/
structure Tb where
  fn : Nat → Option Str
  gc : Nat → Option Str
structure Info where
  N : List Str
  sc : Scope
  fnB : Str → Bool

def visB (I : Info) (x : Str) : Bool := match I.sc.names.lookup x with
  | some .local => true
  | some .cell => true
  | some .free => true
  | _ => false
def glB (I : Info) (x : Str) : Bool := match I.sc.names.lookup x with
  | some .globalImplicit => true
  | _ => false
def stB (I : Info) (x : Str) : Bool := match I.sc.names.lookup x with
  | some .local => true
  | some .cell => I.fnB x
  | _ => false
def nmB (x : Str) : Bool := !(x == ("__debug__" : Str)) && !(x == ("__classdict__" : Str)) && !(x == ("__name__" : Str))
def okE : Expr → Bool
  | .Starred _ _ => false
  | .Slice _ _ _ _ => false
  | .Set _ _ _ => false
  | _ => true
/-- its test is its value's truth -/
def plB : Expr → Bool
  | .UnaryOp .Not _ _ => false
  | .BoolOp _ _ _ => false
  | .IfExp _ _ _ _ => false
  | .Compare _ _ _ _ => false
  | _ => true
def subI (I : Info) (scope : Scope) : Info := ⟨I.N, relS scope I.sc, fun x => scope.names.lookup x == some .cell⟩

mutual
def CT.slots : CT → List Nat
  | .name i => [i]
  | .tup ts => CTs.slots ts
def CTs.slots : CTs → List Nat
  | .nil => []
  | .cons t r => CT.slots t ++ CTs.slots r
end
mutual
def chkT (I : Info) : CT → Expr → Bool
  | .name i, e => match e with
    | .Name x _ => decide (I.N[i]? = some x) && stB I x
    | _ => false
  | .tup ts, e => match e with
    | .Tuple es _ _ => chkTs I ts es
    | _ => false
def chkTs (I : Info) : CTs → List Expr → Bool
  | .nil, es => match es with
    | [] => true
    | _ => false
  | .cons t r, es => match es with
    | e :: es => okE e && chkT I t e && chkTs I r es
    | [] => false
end
def isTupE : Expr → Bool
  | .Tuple _ _ _ => true
  | _ => false
def cstOk : D → Const → Bool
  | .int i, .int j => decide (i = j)
  | .bl b, .bool c => b == c
  | .non, .none => true
  | .str s, .str t => decide (s = t)
  | _, _ => false

mutual
def chkE (M : Tb) (I : Info) : CE → Expr → Bool
  | .loc i, e => match e with
    | .Name x _ => decide (I.N[i]? = some x) && visB I x && nmB x
    | _ => false
  | .cst d, e => match e with
    | .Constant c _ _ => cstOk d c
    | _ => false
  | .gc n, e => match e with
    | .Name x _ => decide (M.gc n = some x) && glB I x && nmB x
    | _ => false
  | .bin o a b, e => match e with
    | .BinOp l op r _ => bopX o op && chkE M I a l && chkE M I b r
    | _ => false
  | .neg a, e => match e with
    | .UnaryOp .USub l _ => chkE M I a l
    | _ => false
  | .cmp o a b, e => match e with
    | .Compare l [op] [r] _ => copX o op && chkE M I a l && chkE M I b r && okE r
    | _ => false
  | .chn o1 o2 a b c, e => match e with
    | .Compare l [op1, op2] [r, s] _ => copX o1 op1 && copX o2 op2 && chkE M I a l && chkE M I b r && chkE M I c s && okE s
    | _ => false
  | .and a b, e => match e with
    | .BoolOp .And (x :: y :: r) p => chkE M I a x && (match r with
      | [] => chkE M I b y
      | _ => chkE M I b (.BoolOp .And (y :: r) p))
    | _ => false
  | .or a b, e => match e with
    | .BoolOp .Or (x :: y :: r) p => chkE M I a x && (match r with
      | [] => chkE M I b y
      | _ => chkE M I b (.BoolOp .Or (y :: r) p))
    | _ => false
  | .not a, e => match e with
    | .UnaryOp .Not x _ => chkE M I a x
    | _ => false
  | .ite t a b, e => match e with
    | .IfExp c x y _ => chkB M I t c && chkE M I a x && chkE M I b y
    | _ => false
  | .idx o a b, e => match e with
    | .Subscript x y _ => okE y && chkE M I a x && chkE M I b y
    | _ => false
  | .gidx a b, e => match e with
    | .Subscript x y _ => okE y && chkE M I a x && chkE M I b y
    | _ => false
  | .slc o a lo hi, e => match e with
    | .Subscript x (.Slice l h none _) _ => decide (o ≠ .revT) && chkE M I a x && chkO M I lo l && chkO M I hi h
    | .Subscript x (.Slice none none (some (.UnaryOp .USub (.Constant (.int 1) _ _) _)) _) _ => decide (o = .revT) && chkE M I a x && (match lo with | .no => true | _ => false) && (match hi with | .no => true | _ => false)
    | _ => false
  | .tup es, e => match e with
    | .Tuple xs _ _ => chkEs M I es xs
    | _ => false
  | .lst es, e => match e with
    | .List xs _ => chkEs M I es xs
    | _ => false
  | .call k es, e => match e with
    | .Call (.Name x _) (y :: ys) [] _ => decide (M.fn k = some x) && glB I x && nmB x && chkEs M I es (y :: ys)
    | _ => false
  | .bi b a, e => match e with
    | .Call (.Name x _) [y] [] _ => decide (x = Str.ofString b.nm) && glB I x && chkE M I a y && okE y
    | _ => false
  | .inst t a, e => match e with
    | .Call (.Name x _) [y, .Name z _] [] _ => decide (x = Str.ofString "isinstance") && decide (z = Str.ofString t.nm) && glB I x && glB I z && chkE M I a y && okE y
    | _ => false
  | .comp t it ifs el vs, e => match e with
    | .ListComp elt [⟨tg, iter, ifs', 0⟩] scope _ => blkC I.N I.sc scope (vs.map fun i => (I.N.getD i Str.empty, i)) && chkI M I it tg iter && okE iter && chkT (subI I scope) t tg &&
        (CT.slots t).all (fun i => vs.contains i) && chkBs M (subI I scope) ifs ifs' && chkE M (subI I scope) el elt
    | _ => false
  | .nev, e => true
def chkEs (M : Tb) (I : Info) : CEs → List Expr → Bool
  | .nil, es => match es with
    | [] => true
    | _ => false
  | .cons c r, es => match es with
    | e :: es => okE e && chkE M I c e && chkEs M I r es
    | [] => false
def chkO (M : Tb) (I : Info) : CO → Option Expr → Bool
  | .no, e => match e with
    | none => true
    | _ => false
  | .yes c, e => match e with
    | some e => chkE M I c e
    | none => false
def chkB (M : Tb) (I : Info) : CB → Expr → Bool
  | .val c, e => plB e && chkE M I c e
  | .cmp o a b, e => match e with
    | .Compare l [op] [r] _ => copX o op && chkE M I a l && chkE M I b r && okE r
    | _ => false
  | .chn o1 o2 a b c, e => match e with
    | .Compare l [op1, op2] [r, s] _ => copX o1 op1 && copX o2 op2 && chkE M I a l && chkE M I b r && chkE M I c s && okE s
    | _ => false
  | .and a b, e => match e with
    | .BoolOp .And (x :: y :: r) p => chkB M I a x && (match r with
      | [] => chkB M I b y
      | _ => chkB M I b (.BoolOp .And (y :: r) p))
    | _ => false
  | .or a b, e => match e with
    | .BoolOp .Or (x :: y :: r) p => chkB M I a x && (match r with
      | [] => chkB M I b y
      | _ => chkB M I b (.BoolOp .Or (y :: r) p))
    | _ => false
  | .not a, e => match e with
    | .UnaryOp .Not x _ => chkB M I a x
    | _ => false
def chkBs (M : Tb) (I : Info) : CBs → List Expr → Bool
  | .no, es => match es with
    | [] => true
    | _ => false
  | .one t, es => match es with
    | [e] => chkB M I t e
    | _ => false
def chkI (M : Tb) (I : Info) : CI → Expr → Expr → Bool
  | .seq c, _, e => chkE M I c e
  | .rng1 a, _, e => match e with
    | .Call (.Name x _) [y] [] _ => decide (x = Str.ofString "range") && glB I x && okE y && chkE M I a y
    | _ => false
  | .rng2 a b, _, e => match e with
    | .Call (.Name x _) [y, z] [] _ => decide (x = Str.ofString "range") && glB I x && okE y && okE z && chkE M I a y && chkE M I b z
    | _ => false
  | .enum c, tg, e => match e with
    | .Call (.Name x _) [y] [] _ => isTupE tg && decide (x = Str.ofString "enumerate") && glB I x && okE y && chkE M I c y
    | _ => false
  | .zip a b, tg, e => match e with
    | .Call (.Name x _) [y, z] [] _ => isTupE tg && decide (x = Str.ofString "zip") && glB I x && okE y && okE z && chkE M I a y && chkE M I b z
    | _ => false
end

def bltNames : List String := ["len", "abs", "int", "tuple", "list", "all", "any", "sum", "sorted", "isinstance", "str", "dict", "bool", "range", "enumerate", "zip", "reversed", "min", "max", "type"]
/-- a constant of the module -/
def CRep (Γ : Gam) (d : D) (v : V) : Prop := ∀ (a : Addr → Prop) (H : Hp), Rep Γ a H d v
structure Good (Γ : Gam) (M : Tb) (S : Sg) (I : Info) (X : Cx) : Prop where
  K : X.K = Γ.K
  N : X.N = I.N
  nd : I.N.Nodup
  sc : X.env.scope = I.sc
  kd : I.sc.kind = .function
  fnB : X.fn = I.fnB
  calm : X.calm = true
  room : Room 0 X.A
  fns : ∀ k x, M.fn k = some x → ∃ f fd ps j, FnOk X.prog X.w X.K X.mg X.base (L2.CX X.prog X.w) j f fd ps (lift Γ (S.sp k)) ∧ Room j X.A ∧ X.mg x = some (.ref f) ∧ PySem.W.keepIn X.K (.ref f) = true ∧ Binds X.K fd ps []
  gcs : ∀ n x, M.gc n = some x → ∃ u v, X.mg x = some u ∧ RelV v u ∧ CRep Γ (S.gc n) v
  blt : ∀ x ∈ bltNames, X.mg (Str.ofString x) = none
section
variable {Γ : Gam} {M : Tb} {S : Sg} {I : Info} {X : Cx}
theorem Good.vis (g : Good Γ M S I X) {x : Str} (h : visB I x = true) : Vis X.env.scope x := by
  rw [g.sc]
  unfold visB at h
  split at h
  · exact .inl (by assumption)
  · exact .inr (.inl (by assumption))
  · exact .inr (.inr (by assumption))
  · cases h
theorem Good.gl (g : Good Γ M S I X) {x : Str} (h : glB I x = true) : Gl X x := by
  show X.env.scope.names.lookup x = _
  rw [g.sc]
  unfold glB at h
  split at h
  · assumption
  · cases h
theorem Good.st (g : Good Γ M S I X) {x : Str} (h : stB I x = true) : L2.Loc X.env.scope x ∧ (X.fn x = true ∨ X.env.scope.names.lookup x = some .local) := by
  rw [g.sc, g.fnB]
  unfold stB at h
  split at h
  · rename_i e; exact ⟨.inl e, .inr e⟩
  · rename_i e; exact ⟨.inr e, .inl h⟩
  · cases h
theorem nm_of {x : Str} (h : nmB x = true) : (x == ("__debug__" : Str)) = false ∧ (x == ("__classdict__" : Str)) = false ∧ x ≠ "__name__" := by
  unfold nmB at h
  simp only [Bool.and_eq_true, Bool.not_eq_true'] at h
  exact ⟨h.1.1, h.1.2, fun e => by rw [e] at h; simp at h⟩
theorem Good.blk (g : Good Γ M S I X) (s : Shared) (H : Hp) (scope : Scope) (hk : scope.kind = .function) (C : Addr) (cl : List (Str × Addr)) (fp : List Addr) :
    Good Γ M S (subI I scope) (X.blk s H scope (compEnvC scope cl C X.env) fp) := by
  refine ⟨g.K, g.N, g.nd, ?_, hk, rfl, g.calm, g.room, g.fns, g.gcs, g.blt⟩
  show relS scope X.env.scope = relS scope I.sc
  rw [g.sc]
theorem star_cons {e : Expr} {es : List Expr} {env : Env} (h : okE e = true) : starEach (e :: es) env = (false, eval e env) :: starEach es env := by
  cases e <;> first | rfl | (exact absurd (show false = true from h) Bool.false_ne_true)
theorem chkEs_star {es : List Expr} {env : Env} : ∀ {c : CEs}, chkEs M I c es = true → ∀ p, (backTo p (starEach es env)).any (·.1) = false := by
  induction es with
  | nil => intro c _ p; rfl
  | cons e es ih =>
    intro c h p
    cases c with
    | nil => exact absurd (show false = true from h) Bool.false_ne_true
    | cons c r =>
      simp only [chkEs, Bool.and_eq_true] at h
      rw [star_cons h.1.1]
      have q := ih h.2 p
      show ((false, _) :: backTo p (starEach es env)).any (·.1) = false
      rw [List.any_cons, q]
      rfl
theorem plain_ix {b : Expr} (h : okE b = true) : PlainIx b := by
  intro o i
  cases b <;> first | rfl | (exact absurd (show false = true from h) Bool.false_ne_true)
theorem beh_of {op : CmpOp} {r : Expr} (h : okE r = true) : behindInMarks op r = false := by
  cases r <;> first | rfl | (exact absurd (show false = true from h) Bool.false_ne_true)
theorem last_of {op op2 : CmpOp} {r s : Expr} (h : okE s = true) : lastMarks [op, op2] [r, s] = false := by
  show behindInMarks op2 s = false
  exact beh_of h
theorem isT_of {e : Expr} {env : Env} (h : plB e = true) : ∀ whole, isTrue e env whole = (do let v ← whole; standAt e.pos; holding [v] (truthy v)) := by
  intro whole
  cases e with
  | UnaryOp op x p => cases op <;> first | rfl | (exact absurd (show false = true from h) Bool.false_ne_true)
  | BoolOp op x p => exact absurd (show false = true from h) Bool.false_ne_true
  | IfExp a b c p => exact absurd (show false = true from h) Bool.false_ne_true
  | Compare a b c p => exact absurd (show false = true from h) Bool.false_ne_true
  | _ => rfl
theorem fold_of {e : Expr} {env : Env} (h : okE e = true) : ∀ x, foldedSetIterable e env x = pure x := by
  intro x
  cases e <;> first | rfl | (exact absurd (show false = true from h) Bool.false_ne_true)
end

section
variable {Γ : Gam} {W : WX} {Ta Tb : TE'} {S : Sg}
theorem r_bin {o : BOp} {a b : CE} {r : R2} (h : SoundR2 Γ r (opB o)) : ∀ σ H Q, rE Γ W (wpE S (.bin o a b)) σ H Q → tOp r (rE Γ W (wpE S a)) (rE Γ W (wpE S b)) σ H Q := r_op2 h
theorem r_cmp {o : COp} {a b : CE} {r : R2} (h : SoundC Γ r (opC o)) : ∀ σ H Q, rE Γ W (wpE S (.cmp o a b)) σ H Q → tOp r (rE Γ W (wpE S a)) (rE Γ W (wpE S b)) σ H Q := by
  rintro σ H Q ⟨L, G, X, E, Qd, m, ew, t, c⟩
  refine ⟨L, G, X, E, _, m, ew, t, fun x G1 v H1 ⟨k1, f1⟩ o1 t1 => ?_⟩
  refine ⟨L, G1, X, E, _, o1.1, ew.step k1, t1, fun y G2 u H2 ⟨k2, f2⟩ o2 t2 => ?_⟩
  exact h σ L X G2 H2 x y v u _ Q o2.1 (o1.2.1.step o1.1 k2) o2.2.1 t2 fun z q => c _ G2 _ H2 (kfd (k1.trans k2)) (out_bl o2.1) q
theorem r_cmpB {o : COp} {a b : CE} {r : R2} (h : SoundC Γ r (opC o)) : ∀ σ H Q, rB Γ W (wpB S (.cmp o a b)) σ H Q → tTest (tOp r (rE Γ W (wpE S a)) (rE Γ W (wpE S b))) σ H Q := by
  rintro σ H Q ⟨L, G, X, E, Qd, m, ew, t, c⟩
  refine ⟨L, G, X, E, _, m, ew, t, fun x G1 v H1 ⟨k1, f1⟩ o1 t1 => ?_⟩
  refine ⟨L, G1, X, E, _, o1.1, ew.step k1, t1, fun y G2 u H2 ⟨k2, f2⟩ o2 t2 => ?_⟩
  exact h σ L X G2 H2 x y v u _ _ o2.1 (o1.2.1.step o1.1 k2) o2.2.1 t2 fun z q => ⟨z, rfl, c _ G2 H2 (k1.trans k2) o2.1 q⟩
theorem r_chn {o o2 : COp} {a b e : CE} {r r2 : R2} (h : SoundC Γ r (opC o)) (h2 : SoundC Γ r2 (opC o2)) : ∀ σ H Q, rE Γ W (wpE S (.chn o o2 a b e)) σ H Q → tChain r r2 (rE Γ W (wpE S a)) (rE Γ W (wpE S b)) (rE Γ W (wpE S e)) σ H Q := by
  rintro σ H Q ⟨L, G, X, E, Qd, m, ew, t, c⟩
  refine ⟨L, G, X, E, _, m, ew, t, fun x G1 v H1 ⟨k1, f1⟩ o1 t1 => ?_⟩
  refine ⟨L, G1, X, E, _, o1.1, ew.step k1, t1, fun y G2 u H2 ⟨k2, f2⟩ q2 t2 => ?_⟩
  refine h σ L X G2 H2 x y v u _ _ q2.1 (o1.2.1.step o1.1 k2) q2.2.1 t2 fun z q => ⟨z, rfl, ?_⟩
  cases z with
  | false =>
    rw [if_neg Bool.false_ne_true] at q ⊢
    exact c _ G2 _ H2 (kfd (k1.trans k2)) (out_bl q2.1) q
  | true =>
    rw [if_pos rfl] at q ⊢
    refine ⟨L, G2, X, E, _, q2.1, ew.step (k1.trans k2), q, fun w G3 wv H3 ⟨k3, f3⟩ q3 t3 => ?_⟩
    exact h2 σ L X G3 H3 y w u wv _ Q q3.1 (q2.2.1.step q2.1 k3) q3.2.1 t3 fun z2 qq => c _ G3 _ H3 (kfd ((k1.trans k2).trans k3)) (out_bl q3.1) qq
theorem r_chnB {o o2 : COp} {a b e : CE} {r r2 : R2} (h : SoundC Γ r (opC o)) (h2 : SoundC Γ r2 (opC o2)) : ∀ σ H Q, rB Γ W (wpB S (.chn o o2 a b e)) σ H Q → tTest (tChain r r2 (rE Γ W (wpE S a)) (rE Γ W (wpE S b)) (rE Γ W (wpE S e))) σ H Q := by
  rintro σ H Q ⟨L, G, X, E, Qd, m, ew, t, c⟩
  refine ⟨L, G, X, E, _, m, ew, t, fun x G1 v H1 ⟨k1, f1⟩ o1 t1 => ?_⟩
  refine ⟨L, G1, X, E, _, o1.1, ew.step k1, t1, fun y G2 u H2 ⟨k2, f2⟩ q2 t2 => ?_⟩
  refine h σ L X G2 H2 x y v u _ _ q2.1 (o1.2.1.step o1.1 k2) q2.2.1 t2 fun z q => ⟨z, rfl, ?_⟩
  cases z with
  | false =>
    rw [if_neg Bool.false_ne_true] at q ⊢
    exact ⟨false, rfl, c _ G2 H2 (k1.trans k2) q2.1 q⟩
  | true =>
    rw [if_pos rfl] at q ⊢
    refine ⟨L, G2, X, E, _, q2.1, ew.step (k1.trans k2), q, fun w G3 wv H3 ⟨k3, f3⟩ q3 t3 => ?_⟩
    exact h2 σ L X G3 H3 y w u wv _ _ q3.1 (q2.2.1.step q2.1 k3) q3.2.1 t3 fun z2 qq => ⟨z2, rfl, c _ G3 H3 ((k1.trans k2).trans k3) q3.1 qq⟩
theorem out_asD {σ : St} {L : Loc} {X : Addr → Prop} {G : Gh} {H : Hp} {x : EV} {v : V} {y : D} (o : Out Γ σ L X G H x v) (h : asD x = some y) : Out Γ σ L X G H (.d y) v := Out.d o.1 (o.2.1.asD h)
theorem r_and {a b : CE} : ∀ σ H Q, rE Γ W (wpE S (.and a b)) σ H Q → tAndT Γ.K (rE Γ W (wpE S a)) (rE Γ W (wpE S b)) σ H Q := by
  rintro σ H Q ⟨L, G, X, E, Qd, m, ew, t, c⟩
  refine ⟨L, G, X, E, _, m, ew, t, fun x G1 v H1 ⟨k1, f1⟩ o1 t1 => ?_⟩
  split at t1
  · rename_i k e
    refine ⟨k, truV_ok o1.2.1 e, ?_⟩
    cases k with
    | true => exact ⟨L, G1, X, E, _, o1.1, ew.step k1, t1, fun y G2 u H2 k2 o2 t2 => c y G2 u H2 (k2.pre k1) o2 t2⟩
    | false =>
      obtain ⟨y, ey, q⟩ := t1
      exact c _ G1 v H1 (kfd k1) (out_asD o1 ey) q
  · exact t1.elim
theorem r_or {a b : CE} : ∀ σ H Q, rE Γ W (wpE S (.or a b)) σ H Q → tOrT Γ.K (rE Γ W (wpE S a)) (rE Γ W (wpE S b)) σ H Q := by
  rintro σ H Q ⟨L, G, X, E, Qd, m, ew, t, c⟩
  refine ⟨L, G, X, E, _, m, ew, t, fun x G1 v H1 ⟨k1, f1⟩ o1 t1 => ?_⟩
  split at t1
  · rename_i k e
    refine ⟨k, truV_ok o1.2.1 e, ?_⟩
    cases k with
    | false => exact ⟨L, G1, X, E, _, o1.1, ew.step k1, t1, fun y G2 u H2 k2 o2 t2 => c y G2 u H2 (k2.pre k1) o2 t2⟩
    | true =>
      obtain ⟨y, ey, q⟩ := t1
      exact c _ G1 v H1 (kfd k1) (out_asD o1 ey) q
  · exact t1.elim
theorem r_not {a : CE} : ∀ σ H Q, rE Γ W (wpE S (.not a)) σ H Q → tNotT Γ.K (rE Γ W (wpE S a)) σ H Q := by
  rintro σ H Q ⟨L, G, X, E, Qd, m, ew, t, c⟩
  refine ⟨L, G, X, E, _, m, ew, t, fun x G1 v H1 ⟨k1, f1⟩ o1 t1 => ?_⟩
  split at t1
  · rename_i k e
    exact ⟨k, truV_ok o1.2.1 e, c _ G1 _ H1 (kfd k1) (out_bl o1.1) t1⟩
  · exact t1.elim
theorem r_ite {t : CB} {a b : CE} : ∀ σ H Q, rE Γ W (wpE S (.ite t a b)) σ H Q → tIf (rB Γ W (wpB S t)) (rE Γ W (wpE S a)) (rE Γ W (wpE S b)) σ H Q := by
  rintro σ H Q ⟨L, G, X, E, Qd, m, ew, t, c⟩
  refine ⟨L, G, X, E, _, m, ew, t, fun x G1 H1 k1 m1 t1 => ?_⟩
  cases x with
  | true => exact ⟨L, G1, X, E, _, m1, ew.step k1, t1, fun y G2 u H2 k2 o2 t2 => c y G2 u H2 (k2.pre k1) o2 t2⟩
  | false => exact ⟨L, G1, X, E, _, m1, ew.step k1, t1, fun y G2 u H2 k2 o2 t2 => c y G2 u H2 (k2.pre k1) o2 t2⟩
theorem r_valB {a : CE} : ∀ σ H Q, rB Γ W (wpB S (.val a)) σ H Q → (rE Γ W (wpE S a)) σ H fun x H' => ∃ k, TruV Γ.K x H' k ∧ Q k H' := by
  rintro σ H Q ⟨L, G, X, E, Qd, m, ew, t, c⟩
  refine ⟨L, G, X, E, _, m, ew, t, fun x G1 v H1 ⟨k1, f1⟩ o1 t1 => ?_⟩
  split at t1
  · rename_i k e
    exact ⟨k, truV_ok o1.2.1 e, c _ G1 H1 k1 o1.1 t1⟩
  · exact t1.elim
theorem r_andB {a b : CB} : ∀ σ H Q, rB Γ W (wpB S (.and a b)) σ H Q → tAnd (rB Γ W (wpB S a)) (rB Γ W (wpB S b)) σ H Q := by
  rintro σ H Q ⟨L, G, X, E, Qd, m, ew, t, c⟩
  refine ⟨L, G, X, E, _, m, ew, t, fun x G1 H1 k1 m1 t1 => ?_⟩
  cases x with
  | true => exact ⟨L, G1, X, E, _, m1, ew.step k1, t1, fun y G2 H2 k2 o2 t2 => c y G2 H2 (k1.trans k2) o2 t2⟩
  | false => exact c _ G1 H1 k1 m1 t1
theorem r_orB {a b : CB} : ∀ σ H Q, rB Γ W (wpB S (.or a b)) σ H Q → tOr (rB Γ W (wpB S a)) (rB Γ W (wpB S b)) σ H Q := by
  rintro σ H Q ⟨L, G, X, E, Qd, m, ew, t, c⟩
  refine ⟨L, G, X, E, _, m, ew, t, fun x G1 H1 k1 m1 t1 => ?_⟩
  cases x with
  | false => exact ⟨L, G1, X, E, _, m1, ew.step k1, t1, fun y G2 H2 k2 o2 t2 => c y G2 H2 (k1.trans k2) o2 t2⟩
  | true => exact c _ G1 H1 k1 m1 t1
theorem r_notB {a : CB} : ∀ σ H Q, rB Γ W (wpB S (.not a)) σ H Q → tNot (rB Γ W (wpB S a)) σ H Q := by
  rintro σ H Q ⟨L, G, X, E, Qd, m, ew, t, c⟩
  exact ⟨L, G, X, E, _, m, ew, t, fun x G1 H1 k1 m1 t1 => c _ G1 H1 k1 m1 t1⟩
theorem r_idx {o : IOp} {a b : CE} {r : R2} (h : SoundR2 Γ r (opI o)) : ∀ σ H Q, rE Γ W (wpE S (.idx o a b)) σ H Q → tOp r (rE Γ W (wpE S a)) (rE Γ W (wpE S b)) σ H Q := r_op2 h
theorem r_gidx {a b : CE} : ∀ σ H Q, rE Γ W (wpE S (.gidx a b)) σ H Q → tOp (rIxL Γ.K) (rE Γ W (wpE S a)) (rE Γ W (wpE S b)) σ H Q := by
  rintro σ H Q ⟨L, G, X, E, Qd, m, ew, t, c⟩
  refine ⟨L, G, X, E, _, m, ew, t, fun x G1 v H1 k1 o1 t1 => ?_⟩
  refine ⟨L, G1, X, E, _, o1.1, ew.step k1.1, t1, fun y G2 u H2 k2 o2 t2 => ?_⟩
  split at t2
  · rename_i p k
    obtain ⟨xs, d, hg, hd, q⟩ := t2
    have ra : v = .ref p := by have := o1.2.1; simpa only [Rds, Rep] using this
    obtain ⟨ho, h1, vs, rfl, hz, rr⟩ := o2.1.gok p _ hg
    obtain ⟨w, h3, h4⟩ := repL_at rr hd
    exact ⟨p, vs, k, w, ra, rds_int o2.2.1, SqL.of h1, h3, c _ G2 w H2 (kfd (k1.1.trans k2.1)) (Out.d o2.1 h4) q⟩
  · exact t2.elim
theorem r_slc {o : SOp} {a : CE} {lo hi : CO} {r : V → Option Int → Option Int → Hp → VK → Prop} (h : SoundS Γ r (opS o)) : ∀ σ H Q, rE Γ W (wpE S (.slc o a lo hi)) σ H Q → tSl r (rE Γ W (wpE S a)) (rO Γ W (wpO S lo)) (rO Γ W (wpO S hi)) σ H Q := by
  rintro σ H Q ⟨L, G, X, E, Qd, m, ew, t, c⟩
  refine ⟨L, G, X, E, _, m, ew, t, fun x G1 v H1 ⟨k1, f1⟩ o1 t1 => ?_⟩
  refine ⟨L, G1, X, E, _, o1.1, ew.step k1, t1, fun l G2 H2 k2 m2 t2 => ?_⟩
  refine ⟨L, G2, X, E, _, m2, ew.step (k1.trans k2), t2, fun u G3 H3 k3 m3 t3 => ?_⟩
  exact h σ L X G3 H3 x v l u _ Q m3 (o1.2.1.step o1.1 (k2.trans k3)) t3 fun z w H4 k4 o4 q => c z G3 w H4 (k4.pre ((k1.trans k2).trans k3)) o4 q
theorem r_revT {a : CE} : ∀ σ H Q, rE Γ W (wpE S (.slc .revT a .no .no)) σ H Q → tUn (rRevT Γ.K) (rE Γ W (wpE S a)) σ H Q := by
  rintro σ H Q ⟨L, G, X, E, Qd, m, ew, t, c⟩
  refine ⟨L, G, X, E, _, m, ew, t, fun x G1 v H1 ⟨k1, f1⟩ o1 t1 => ?_⟩
  exact revT_ok σ L X G1 H1 x v _ Q o1.1 o1.2.1 t1 fun z w H3 k3 o3 q => c z G1 w H3 (k3.pre k1) o3 q
theorem r_part {a : CE} : ∀ σ H Q, rO Γ W (wpO S (.yes a)) σ H Q → tPart (rE Γ W (wpE S a)) σ H Q := by
  rintro σ H Q ⟨L, G, X, E, Qd, m, ew, t, c⟩
  refine ⟨L, G, X, E, _, m, ew, t, fun x G1 v H1 ⟨k1, f1⟩ o1 t1 => ?_⟩
  split at t1
  · exact ⟨_, rds_int o1.2.1, c _ G1 H1 k1 o1.1 t1⟩
  · exact t1.elim
theorem r_neg {a : CE} : ∀ σ H Q, rE Γ W (wpE S (.neg a)) σ H Q → tUn (rU fun i => .int (-i)) (rE Γ W (wpE S a)) σ H Q := by
  rintro σ H Q ⟨L, G, X, E, Qd, m, ew, t, c⟩
  refine ⟨L, G, X, E, _, m, ew, t, fun x G1 v H1 ⟨k1, f1⟩ o1 t1 => ?_⟩
  split at t1
  · exact ⟨_, rds_int o1.2.1, c _ G1 _ H1 (kfd k1) (out_int o1.1) t1⟩
  · exact t1.elim
theorem r_cons {e : CE} {r : CEs} : ∀ σ H Q, rA Γ W (wpEs S (.cons e r)) σ H Q → tCons (rE Γ W (wpE S e)) (rA Γ W (wpEs S r)) σ H Q := by
  rintro σ H Q ⟨L, G, X, E, Qd, m, ew, t, c⟩
  refine ⟨L, G, X, E, _, m, ew, t, fun x G1 v H1 ⟨k1, f1⟩ o1 t1 => ?_⟩
  refine ⟨L, G1, X, E, _, o1.1, ew.step k1, t1, fun xs G2 vs H2 k2 m2 r2 t2 => ?_⟩
  exact c _ G2 _ H2 (k1.trans k2) m2 (.cons (o1.2.1.step o1.1 k2) r2) t2
theorem r_nil : ∀ σ H Q, rA Γ W (wpEs S .nil) σ H Q → tNil σ H Q := by
  rintro σ H Q ⟨L, G, X, E, Qd, m, ew, t, c⟩
  exact c _ G _ H Kp.refl m .nil t
theorem asDs_len : ∀ {xs : List EV} {ds : List D}, asDs xs = some ds → ds.length = xs.length
  | [], _, h => by cases h; rfl
  | x :: xs, _, h => by
    unfold asDs at h
    split at h
    · rename_i d ds' h1 h2
      cases h
      rw [List.length_cons, List.length_cons, asDs_len h2]
    · cases h
theorem r_tup {es : CEs} : ∀ σ H Q, rE Γ W (wpE S (.tup es)) σ H Q → tTup (rA Γ W (wpEs S es)) σ H Q := by
  rintro σ H Q ⟨L, G, X, E, Qd, m, ew, t, c⟩
  refine ⟨L, G, X, E, _, m, ew, t, fun xs G1 vs H1 k1 m1 r1 t1 => ?_⟩
  split at t1
  · rename_i ds e
    have rr := r1.asDs e
    have l2 := rr.len
    obtain ⟨hl, t1⟩ := t1
    refine ⟨by rw [sizeLine_eq]; omega, fun p hn => ?_⟩
    exact c _ G1 _ _ ((kf_alloc hn).pre k1) (out_tup m1 hn (by rw [sizeLine_eq]; omega) rr) t1
  · exact t1.elim
theorem r_lst {es : CEs} : ∀ σ H Q, rE Γ W (wpE S (.lst es)) σ H Q → tLst (rA Γ W (wpEs S es)) σ H Q := by
  rintro σ H Q ⟨L, G, X, E, Qd, m, ew, t, c⟩
  refine ⟨L, G, X, E, _, m, ew, t, fun xs G1 vs H1 k1 m1 r1 t1 => ?_⟩
  split at t1
  · rename_i ds e
    have rr := r1.asDs e
    have l2 := rr.len
    obtain ⟨hl, t1⟩ := t1
    refine ⟨by rw [sizeLine_eq]; omega, fun p hn => ?_⟩
    exact c _ G1 _ _ ((kf_alloc hn).pre k1) (out_lst m1 hn (by rw [sizeLine_eq]; omega) rr) t1
  · exact t1.elim
theorem r_bi {b : BI} {a : CE} {r : List V → Hp → VK → Prop} (h : SoundR1 Γ (r1L r) (opBI b)) : ∀ σ H Q, rE Γ W (wpE S (.bi b a)) σ H Q → tCB r (tCons (rE Γ W (wpE S a)) tNil) σ H Q := r_op1 h
theorem avG_av {σ : St} {L : Loc} {X : Addr → Prop} {G : Gh} {p : Addr} : avG G (fun p => X p ∨ SO σ L p) p = Av σ L G X p := rfl
theorem r_call {k : Nat} {es : CEs} : ∀ σ H Q, rE Γ W (wpE S (.call k es)) σ H Q → tCallS (lift Γ (S.sp k)) (WE W) (rA Γ W (wpEs S es)) σ H Q := by
  rintro σ H Q ⟨L, G, X, E, Qd, m, ew, t, c⟩
  refine ⟨L, G, X, E, _, m, ew, t, fun xs G1 vs H1 k1 m1 r1 t1 => ?_⟩
  split at t1
  · rename_i ds e
    refine ⟨ds, G1, fun p => X p ∨ SO σ L p, _, _, m1.gok, fun p hp => ?_, r1.asDs e, t1, fun d G2 v H2 k2 g2 r2 q2 => ?_, fun x G2 cls d H2 k2 g2 r2 q2 => ?_⟩
    · rcases hp with hp | hp
      · exact ⟨(m1.disX p hp).1, (m1.disX p hp).2.2⟩
      · obtain ⟨vs, e⟩ := m1.so_there hp
        exact ⟨m1.disO p hp, by rw [e]; simp⟩
    · exact c _ G2 v H2 (kfd (k1.trans k2)) (Out.d (m1.call k2 g2) r2) q2
    · exact ew x G2 cls d H2 (k1.trans k2) (m1.call k2 g2) r2 q2
  · exact t1.elim
end
end DL
namespace DL
open PySem PySem.Spec PyProof.Rows L2

theorem wipe_set {x : Option V} : ∀ (vs : List Nat) (σ : St) (i : Nat), (i ∈ vs → wipe (σ.set i x) vs = wipe σ vs) ∧ (i ∉ vs → wipe (σ.set i x) vs = (wipe σ vs).set i x)
  | [], σ, i => ⟨fun h => by simp at h, fun _ => rfl⟩
  | v :: vs, σ, i => by
    obtain ⟨h1, h2⟩ := wipe_set (x := x) vs σ i
    refine ⟨fun h => ?_, fun h => ?_⟩
    · by_cases hi : i ∈ vs
      · show (wipe (σ.set i x) vs).set v none = (wipe σ vs).set v none
        rw [h1 hi]
      · have e : i = v := by
          rcases List.mem_cons.mp h with e | e
          · exact e
          · exact absurd e hi
        subst e
        show (wipe (σ.set i x) vs).set i none = (wipe σ vs).set i none
        rw [h2 hi, List.set_set]
    · have hv : i ≠ v := fun e => h (by rw [e]; exact List.mem_cons_self)
      have hi : i ∉ vs := fun e => h (List.mem_cons_of_mem _ e)
      show (wipe (σ.set i x) vs).set v none = ((wipe σ vs).set v none).set i x
      rw [h2 hi, List.set_comm _ _ hv]
theorem wipe_twice (σ : St) : ∀ (us vs : List Nat), (∀ v ∈ us, v ∈ vs) → wipe (wipe σ us) vs = wipe σ vs
  | [], vs, _ => rfl
  | u :: us, vs, h => by
    show wipe ((wipe σ us).set u none) vs = wipe σ vs
    rw [(wipe_set vs _ _).1 (h u List.mem_cons_self)]
    exact wipe_twice σ us vs fun v hv => h v (List.mem_cons_of_mem _ hv)
theorem wipeL_some {L : Loc} {i : Nat} {x : SV} : ∀ {vs : List Nat}, (wipeL L vs)[i]? = some (some x) → L[i]? = some (some x) ∧ i ∉ vs
  | [], h => ⟨h, by simp⟩
  | v :: vs, h => by
    unfold wipeL at h
    rcases get_set_some h with ⟨_, _, z⟩ | ⟨ne, z⟩
    · cases z
    · obtain ⟨h1, h2⟩ := wipeL_some z
      exact ⟨h1, by simp only [List.mem_cons, not_or]; exact ⟨ne, h2⟩⟩
theorem wipeL_length (L : Loc) : ∀ vs : List Nat, (wipeL L vs).length = L.length
  | [] => rfl
  | v :: vs => by unfold wipeL; rw [List.length_set, wipeL_length L vs]
theorem wipe_out {σ : St} {i : Nat} : ∀ {vs : List Nat}, i ∉ vs → (wipe σ vs)[i]? = σ[i]?
  | [], _ => rfl
  | v :: vs, h => by
    have h1 : i ≠ v := fun e => h (by rw [e]; exact List.mem_cons_self)
    have h2 : i ∉ vs := fun e => h (List.mem_cons_of_mem _ e)
    show ((wipe σ vs).set v none)[i]? = _
    rw [List.getElem?_set_ne (Ne.symm h1), wipe_out h2]
theorem blkL_some {L : Loc} {vs : List Nat} {i : Nat} {x : SV} (h : (blkL L vs)[i]? = some (some x)) : (∃ d, x = .d d) ∧ L[i]? = some (some x) ∧ i ∉ vs := by
  obtain ⟨h1, h2⟩ := wipeL_some h
  rw [List.getElem?_map] at h1
  cases e : L[i]? with
  | none => rw [e] at h1; cases h1
  | some y =>
    rw [e] at h1
    have h1 : noOwn y = some x := Option.some.inj h1
    cases y with
    | none => cases h1
    | some y =>
      cases y with
      | d d => cases h1; exact ⟨⟨d, rfl⟩, rfl, h2⟩
      | own xs => cases h1
section
variable {Γ : Gam} {σ : St} {H : Hp} {L : Loc} {G : Gh} {X : Addr → Prop}
theorem so_blk {vs : List Nat} {σ' : St} {p : Addr} (h : SO σ' (blkL L vs) p) : False := by
  obtain ⟨i, xs, h1, _⟩ := h
  obtain ⟨⟨d, e⟩, _⟩ := blkL_some h1
  cases e
/-- the block of a comprehension -/
theorem Mt.blk (m : Mt Γ σ H L G X) (vs : List Nat) : Mt Γ (wipe σ vs) H (blkL L vs) G (fun p => X p ∨ SO σ L p) := by
  have al : ∀ p, Av (wipe σ vs) (blkL L vs) G (fun p => X p ∨ SO σ L p) p → Av σ L G X p := fun p z => by
    rcases z with z | z | z
    · exact .inl z
    · exact .inr z
    · exact (so_blk z).elim
  refine ⟨?_, fun i d e => ?_, fun i xs e => ?_, fun i j xs ys p e => ?_, fun p o e => ?_, fun p hp => ?_, fun p hp => (so_blk hp).elim⟩
  · unfold blkL
    rw [wipeL_length, List.length_map, wipe_length, m.len]
  · obtain ⟨_, h1, h2⟩ := blkL_some e
    obtain ⟨v, h3, h4⟩ := m.val i d h1
    exact ⟨v, by rw [wipe_out h2]; exact h3, h4.weak al⟩
  · obtain ⟨⟨d, e'⟩, _⟩ := blkL_some e
    cases e'
  · obtain ⟨⟨d, e'⟩, _⟩ := blkL_some e
    cases e'
  · obtain ⟨ho, h1, h2⟩ := m.gok p o e
    exact ⟨ho, h1, h2.step (Stp.weak al)⟩
  · refine ⟨?_, fun z => so_blk z, ?_⟩
    · rcases hp with hp | hp
      · exact (m.disX p hp).1
      · exact m.disO p hp
    · rcases hp with hp | hp
      · exact (m.disX p hp).2.2
      · obtain ⟨vs, e⟩ := m.so_there hp
        rw [e]; simp
/-- an object that no datum leans on is changed -/
theorem Mt.changeX {p : Addr} {o : HO} (m : Mt Γ σ H L G X) (hx : X p) : Mt Γ σ (upd H p o) L G X := by
  have st : Stp (Av σ L G X) H (Av σ L G X) (upd H p o) := fun q u h n => by
    have ne : q ≠ p := fun e => n (.inr (.inl (by rw [e]; exact hx)))
    exact ⟨by rw [upd_ne ne]; exact h, n⟩
  refine ⟨m.len, fun i d e => ?_, fun i xs e => ?_, m.dist, fun q u e => ?_, fun q hq => ?_, m.disO⟩
  · obtain ⟨v, h1, h2⟩ := m.val i d e
    exact ⟨v, h1, h2.step st _ _⟩
  · obtain ⟨q, vs, h1, h2, h3, h4⟩ := m.own i xs e
    have ne : q ≠ p := fun z => (m.disX p hx).2.1 (z ▸ ⟨i, xs, e, h1⟩)
    exact ⟨q, vs, h1, by rw [upd_ne ne]; exact h2, h3, h4.step st _ _⟩
  · obtain ⟨ho, h1, h2⟩ := m.gok q u e
    have ne : q ≠ p := fun z => by rw [z, (m.disX p hx).1] at e; cases e
    exact ⟨ho, by rw [upd_ne ne]; exact h1, h2.step st⟩
  · obtain ⟨h1, h2, h3⟩ := m.disX q hq
    refine ⟨h1, h2, ?_⟩
    by_cases e : q = p
    · rw [e, upd_same]; simp
    · rw [upd_ne e]; exact h3
end

def rG (Γ : Gam) (t : CT) : TG := fun v σ H Q => ∃ L G X d P, Mt Γ σ H L G X ∧ Rep Γ (Av σ L G X) H d v ∧ bindT t d L P ∧
  ∀ σ2 L2, P L2 → Mt Γ σ2 H L2 G X → Ks σ L G H σ2 L2 G H → (∀ vs : List Nat, (∀ i ∈ CT.slots t, i ∈ vs) → wipe σ2 vs = wipe σ vs) → Q σ2 H
def rGs (Γ : Gam) (t : CTs) : TGs := fun vs σ H Q => ∃ L G X ds P, Mt Γ σ H L G X ∧ RepL Γ (Av σ L G X) H ds vs ∧ bindTs t ds L P ∧
  ∀ σ2 L2, P L2 → Mt Γ σ2 H L2 G X → Ks σ L G H σ2 L2 G H → (∀ vs : List Nat, (∀ i ∈ CTs.slots t, i ∈ vs) → wipe σ2 vs = wipe σ vs) → Q σ2 H
theorem PG.imp {X : Cx} {e : Expr} {t t' : TG} (h : PG X e t) (k : ∀ v σ H Q, t' v σ H Q → t v σ H Q) : PG X e t' := ⟨fun pins s σ H v u Q I r q => h.run pins s σ H v u Q I r (k v σ H Q q)⟩
theorem PGs.imp {X : Cx} {e : List Expr} {t t' : TGs} (h : PGs X e t) (k : ∀ v σ H Q, t' v σ H Q → t v σ H Q) : PGs X e t' := ⟨fun pins s σ H v u Q I r q => h.run pins s σ H v u Q I r (k v σ H Q q)⟩
theorem assignEach_ok {I : Info} {env : Env} : ∀ (ts : CTs) (es : List Expr), chkTs I ts es = true → assignEach es env = es.map fun e => (false, assign e env)
  | .nil, [], _ => rfl
  | .nil, _ :: _, h => absurd (show false = true from h) Bool.false_ne_true
  | .cons t r, [], h => absurd (show false = true from h) Bool.false_ne_true
  | .cons t r, e :: es, h => by
    simp only [chkTs, Bool.and_eq_true] at h
    have ih := assignEach_ok (env := env) r es h.2
    have e1 : assignEach (e :: es) env = (false, assign e env) :: assignEach es env := by
      have h1 := h.1.1
      cases e <;> first | rfl | (exact absurd (show false = true from h1) Bool.false_ne_true)
    rw [e1, ih, List.map_cons]
theorem chkTs_len {I : Info} : ∀ (ts : CTs) (es : List Expr), chkTs I ts es = true → CTs.len ts = es.length
  | .nil, [], _ => rfl
  | .nil, _ :: _, h => absurd (show false = true from h) Bool.false_ne_true
  | .cons t r, [], h => absurd (show false = true from h) Bool.false_ne_true
  | .cons t r, e :: es, h => by
    simp only [chkTs, Bool.and_eq_true] at h
    rw [CTs.len, List.length_cons, chkTs_len r es h.2]
section
variable {Γ : Gam} {M : Tb} {S : Sg} {I : Info} {X : Cx}
mutual
theorem soundT (g : Good Γ M S I X) : ∀ (t : CT) (e : Expr), chkT I t e = true → PG X e (rG Γ t)
  | .name i, e, h => by
    cases e with
    | Name x p =>
      simp only [chkT, Bool.and_eq_true, decide_eq_true_eq] at h
      obtain ⟨h1, h2⟩ := g.st h.2
      refine PG.imp (pg_name (i := i) (by rw [g.N]; exact g.nd) (by rw [g.N]; exact h.1) h1 h2) ?_
      rintro v σ H Q ⟨L, G, Xs, d, P, m, r, b, c⟩
      simp only [bindT] at b
      exact c _ _ b (m.set_d r) ks_set_d fun vs hv => (wipe_set vs σ i).1 (hv i (by simp [CT.slots]))
    | _ => exact absurd (show false = true from h) Bool.false_ne_true
  | .tup ts, e, h => by
    cases e with
    | Tuple es k p =>
      have h' : chkTs I ts es = true := by simpa only [chkT] using h
      have ea := assignEach_ok (env := X.env) ts es h'
      refine PG.imp (pg_tup (n := es.length) g.calm (soundTs g ts es h') (by rw [ea, List.length_map]) (by rw [ea]; rw [List.findIdx?_eq_none_iff]; intro x hx; obtain ⟨y, _, rfl⟩ := List.mem_map.mp hx; rfl)) ?_
      rintro v σ H Q ⟨L, G, Xs, d, P, m, r, b, c⟩
      cases d with
      | tup ds =>
        simp only [Rep] at r
        obtain ⟨q, vs, rfl, t, z, rr⟩ := r
        rw [g.K]
        obtain ⟨bl, b'⟩ : ds.length = CTs.len ts ∧ bindTs ts ds L P := b
        refine ⟨q, vs, rfl, t.sq, ?_, L, G, Xs, ds, P, m, rr, b', fun σ2 L2 p2 m2 k2 w2 => c σ2 L2 p2 m2 k2 fun us hu => w2 us fun i hi => hu i (by simpa only [CT.slots] using hi)⟩
        rw [rr.len, bl]
        exact chkTs_len ts es h'
      | _ => exact (show False from b).elim
    | _ => exact absurd (show false = true from h) Bool.false_ne_true
theorem soundTs (g : Good Γ M S I X) : ∀ (ts : CTs) (es : List Expr), chkTs I ts es = true → PGs X es (rGs Γ ts)
  | .nil, [], _ => by
    refine PGs.imp pgs_nil ?_
    rintro v σ H Q ⟨L, G, Xs, ds, P, m, r, b, c⟩
    have b' : ds = [] ∧ P L := b
    obtain ⟨rfl, b'⟩ := b'
    exact ⟨r.nil_inv, c σ L b' m Ks.refl fun _ _ => rfl⟩
  | .nil, _ :: _, h => absurd (show false = true from h) Bool.false_ne_true
  | .cons t r, [], h => absurd (show false = true from h) Bool.false_ne_true
  | .cons t r, e :: es, h => by
    have ea := assignEach_ok (env := X.env) (.cons t r) (e :: es) h
    simp only [chkTs, Bool.and_eq_true] at h
    have ea2 := assignEach_ok (env := X.env) r es h.2
    refine PGs.imp (pgs_cons (soundT g t e h.1.2) (soundTs g r es h.2) (by rw [ea, ea2]; rfl)) ?_
    rintro v σ H Q ⟨L, G, Xs, ds, P, m, rr, b, c⟩
    cases ds with
    | nil => exact (show False from b).elim
    | cons d ds =>
      obtain ⟨w, vr, rfl, r1, r2⟩ := rr.cons_inv
      have b' : bindT t d L fun L1 => bindTs r ds L1 P := b
      refine ⟨w, vr, rfl, L, G, Xs, d, _, m, r1, b', fun σ2 L2 p2 m2 k2 w2 => ?_⟩
      refine ⟨L2, G, Xs, ds, P, m2, r2.step k2.stp _ _, p2, fun σ3 L3 p3 m3 k3 w3 => c σ3 L3 p3 m3 (k2.trans k3) fun us hu => ?_⟩
      rw [w3 us fun i hi => hu i (by simp only [CTs.slots]; exact List.mem_append_right _ hi), w2 us fun i hi => hu i (by simp only [CTs.slots]; exact List.mem_append_left _ hi)]
end
end
end DL
namespace DL
open PySem PySem.Spec PyProof.Rows L2

def rI (Γ : Gam) (W : WX) (T : TI') : TI := fun σ H R => ∃ L G X E Qd, Mt Γ σ H L G X ∧ EW Γ W σ L X G H E ∧ T E L G Qd ∧
  ∀ items G2 J H2, Kp G H G2 H2 → Mt Γ σ H2 L G2 X → WalkD Γ (Av σ L G2 X) H2 J items → Qd items G2 → R J H2
theorem PI.imp {X : Cx} {tg e : Expr} {t t' : TI} (h : PI X tg e t) (k : ∀ σ H R, t' σ H R → t σ H R) : PI X tg e t' := ⟨fun pins s σ H R I q => h.run pins s σ H R I (k σ H R q)⟩
theorem PTs.imp {X : Cx} {e : List Expr} {t t' : TT} (h : PTs X e t) (k : ∀ σ H Q, t' σ H Q → t σ H Q) : PTs X e t' := ⟨fun pins s σ H Q I q => h.run pins s σ H Q I (k σ H Q q)⟩
abbrev W0 : WX := fun _ _ _ _ => False

section
variable {Γ : Gam} {W : WX} {S : Sg}
theorem ew0 {σ : St} {L : Loc} {X : Addr → Prop} {G : Gh} {H : Hp} : EW Γ W0 σ L X G H (fun _ _ => False) := fun _ _ _ _ _ _ _ _ e => e
theorem r_comp {t : CT} {it : CI} {ifs : CBs} {e : CE} {vs : List Nat} (hv : ∀ i ∈ CT.slots t, i ∈ vs) : ∀ σ H Q, rE Γ W (wpE S (.comp t it ifs e vs)) σ H Q →
    tLc (rI Γ W (wpI S it)) (rG Γ t) (rB Γ W0 (wpBs S ifs)) (rE Γ W0 (wpE S e)) vs σ H Q := by
  rintro σ H Q ⟨L, G, X, E, Qd, m, ew, T, c⟩
  refine ⟨L, G, X, E, _, m, ew, T, fun items G1 J H1 k1 m1 wk T1 A hA => ?_⟩
  obtain ⟨Gd, Y, w, hz, wk⟩ := wk
  have hAX : ¬ X A := fun z => (m1.disX A z).2.2 hA
  let turn := wpComp (bindT t) (fun L1 G2 k => wpBs S ifs (fun _ _ => False) L1 G2 k) (fun L1 G2 k => wpE S e (fun _ _ => False) L1 G2 k) (blkL L vs)
  let fin : List D → Gh → Prop := fun ys G2 => Qd (.own ys) G2
  refine lc_it w (fun i H' => ∃ G' acc vacc, Kp G1 H1 G' H' ∧ Mt Γ σ H' L G' (orP X A) ∧ H' A = some (.lst vacc) ∧ acc.length ≤ i ∧ RepL Γ (Av σ L G' (orP X A)) H' acc vacc ∧ turn (items.drop i) acc G' fin)
    ⟨G1, [], [], kp_alloc hA, m1.allocX hA, upd_same, Nat.le_refl _, RepL.nil, by simpa using T1⟩ ?_ ?_ ?_
  · rintro i H' hi ⟨G', acc, vacc, k', m', _⟩
    refine (wk (Av σ L G' (orP X A)) H' (fun p o h n => ?_) (fun p hp => m'.there hp)).1
    have n1 : G1 p = none := Classical.byContradiction fun z => n (.inl z)
    obtain ⟨h2, n2⟩ := k' p o h n1
    refine ⟨h2, fun z => ?_⟩
    rcases z with z | z | z
    · exact z n2
    · rcases z with z | z
      · exact n (.inr (.inl z))
      · rw [z, hA] at h; cases h
    · exact n (.inr (.inr z))
  · rintro i x H' H3 hi ⟨G', acc, vacc, k', m', hL, hl, rr, tn⟩ y
    have st : Stp (Av σ L G1 X) H1 (Av σ L G' (orP X A)) H' := fun p o h n => by
      have n1 : G1 p = none := Classical.byContradiction fun z => n (.inl z)
      obtain ⟨h2, n2⟩ := k' p o h n1
      refine ⟨h2, fun z => ?_⟩
      rcases z with z | z | z
      · exact z n2
      · rcases z with z | z
        · exact n (.inr (.inl z))
        · rw [z, hA] at h; cases h
      · exact n (.inr (.inr z))
    obtain ⟨gr, d, hd, rd⟩ := (wk _ H' st fun p hp => m'.there hp).2 i x H3 hi y
    have dr : items.drop i = d :: items.drop (i + 1) := by
      have hlt : i < items.length := hi
      rw [List.drop_eq_getElem_cons hlt]
      congr 1
      rw [List.getElem?_eq_getElem hlt] at hd
      exact Option.some.inj hd
    rw [dr] at tn
    have tn' : bindT t d (blkL L vs) fun L1 => wpBs S ifs (fun _ _ => False) L1 G' fun b G2 => if b = true then wpE S e (fun _ _ => False) L1 G2 fun x G3 => match asD x with
      | some y => turn (items.drop (i + 1)) (acc ++ [y]) G3 fin
      | none => False
    else turn (items.drop (i + 1)) acc G2 fin := tn
    have kg : Kp G' H' G' H3 := by
      rcases gr with e | ⟨T, xs, hT, e⟩
      · subst e; exact Kp.refl
      · subst e; exact kp_alloc hT
    have m3 : Mt Γ σ H3 L G' (orP X A) := by
      rcases gr with e | ⟨T, xs, hT, e⟩
      · subst e; exact m'
      · subst e; exact m'.alloc hT
    have mb := m3.blk vs
    have al : ∀ {σ2 : St} {L2 : Loc} {G2 : Gh} p, Av σ L G2 (orP X A) p → Av σ2 L2 G2 (fun p => orP X A p ∨ SO σ L p) p := fun p z => by
      rcases z with z | z | z
      · exact .inl z
      · exact .inr (.inl (.inl z))
      · exact .inr (.inl (.inr z))
    have gA' : G' A = none := (m3.disX A (.inr rfl)).1
    have hL3 : H3 A = some (.lst vacc) := (kg A _ hL gA').1
    have rd' : Rep Γ (Av (wipe σ vs) (blkL L vs) G' (fun p => orP X A p ∨ SO σ L p)) H3 d x := rd.weak fun p z => by
      rcases z with z | z | z
      · exact .inl z
      · exact .inr z
      · exact (so_blk z).elim
    -- the end of a turn
    have next : ∀ {G4 : Gh} {H4 : Hp} {acc2 : List D} {vacc2 : List V} (o : HO), Kp G' H3 G4 H4 → GOk Γ (Av σ L G4 (orP X A)) H4 G4 → acc2.length ≤ i + 1 → RepL Γ (Av σ L G4 (orP X A)) H4 acc2 vacc2 →
        turn (items.drop (i + 1)) acc2 G4 fin → ∃ G' acc vacc, Kp G1 H1 G' (upd H4 A (.lst vacc2)) ∧ Mt Γ σ (upd H4 A (.lst vacc2)) L G' (orP X A) ∧ (upd H4 A (.lst vacc2)) A = some (.lst vacc) ∧ acc.length ≤ i + 1 ∧ RepL Γ (Av σ L G' (orP X A)) (upd H4 A (.lst vacc2)) acc vacc ∧ turn (items.drop (i + 1)) acc G' fin :=
      fun {G4 H4 acc2 vacc2} o k4 g4 l4 r4 t4 => by
        have m4 : Mt Γ σ H4 L G4 (orP X A) := m3.call k4 g4
        refine ⟨G4, acc2, vacc2, fun p o h n => ?_, m4.changeX (.inr rfl), upd_same, l4, r4.step (fun q u h n => ⟨by rw [upd_ne (fun e => n (.inr (.inl (.inr e))))]; exact h, n⟩) _ _, t4⟩
        obtain ⟨h2, n2⟩ := (k'.trans (kg.trans k4)) p o h n
        have ne : p ≠ A := fun e => by rw [e, hA] at h; cases h
        exact ⟨by rw [upd_ne ne]; exact h2, n2⟩
    refine ⟨blkL L vs, G', _, d, _, mb, rd', tn', fun σ2 L2 p2 m2 ks2 w2 => ⟨?_, ?_⟩⟩
    · rw [w2 vs hv, wipe_twice σ vs vs fun _ h => h]
    refine ⟨L2, G', _, _, _, m2, ew0, p2, fun b G3 H5 k5 m5 t5 => ?_⟩
    cases b with
    | false =>
      rw [if_neg Bool.false_ne_true] at t5 ⊢
      have g5 : GOk Γ (Av σ L G3 (orP X A)) H5 G3 := fun p o hp => let ⟨ho, h1, h2⟩ := m5.gok p o hp; ⟨ho, h1, h2.step (Stp.weak al)⟩
      have m6 : Mt Γ σ H5 L G3 (orP X A) := m3.call k5 g5
      exact ⟨G3, acc, vacc, k'.trans (kg.trans k5), m6, (k5 A _ hL3 gA').1, Nat.le_succ_of_le hl, rr.step ((kg.trans k5).stp) _ _, t5⟩
    | true =>
      rw [if_pos rfl] at t5 ⊢
      refine ⟨L2, G3, _, _, _, m5, ew0, t5, fun ev G4 v H6 ⟨k6, f6⟩ o6 t6 => ?_⟩
      split at t6
      · rename_i y ey
        have k36 : Kp G' H3 G4 H6 := k5.trans k6
        have g6 : GOk Γ (Av σ L G4 (orP X A)) H6 G4 := fun p o hp => let ⟨ho, h1, h2⟩ := o6.1.gok p o hp; ⟨ho, h1, h2.step (Stp.weak al)⟩
        have ry : Rep Γ (Av σ L G4 (orP X A)) H6 y v := (o6.2.1.asD ey).weak al
        have lv := rr.len
        refine ⟨vacc, (k36 A _ hL3 gA').1, ?_, ?_⟩
        · have : i < items.length := hi
          omega
        · exact next (.lst []) k36 g6 (by rw [List.length_append, List.length_singleton]; omega) ((rr.step ((kg.trans k36).stp) _ _).append (RepL.cons ry RepL.nil)) t6
      · exact t6.elim
  · rintro H' ⟨G', acc, vacc, k', m', hL, hl, rr, tn⟩
    have dn : items.drop items.length = [] := List.drop_length
    rw [dn] at tn
    have tn' : Qd (.own acc) G' := tn
    have gA' : G' A = none := (m'.disX A (.inr rfl)).1
    have zl : acc.length ≤ sizeLine := Nat.le_trans hl hz
    refine c (.own acc) G' _ H' ⟨k1.trans k', fun _ q o _ e2 h n => by cases e2; have z := (k1 _ _ h n).1; rw [hA] at z; cases z⟩ ⟨m'.less fun p z => .inl z, ⟨A, vacc, rfl, fun z => ?_, hL, zl, rr.weak fun p z => ?_⟩, fun xs ex => ?_⟩ tn'
    · rcases z with z | z | z
      · exact z gA'
      · exact hAX z
      · exact (m'.disX A (.inr rfl)).2.1 z
    · rcases z with z | z | z
      · exact .inl z
      · exact .inr (.inl (.inl z))
      · exact .inr (.inr z)
    · cases ex
      exact ⟨A, vacc, rfl, hAX, m', hL, rr⟩

theorem r_Iseq {e : CE} {X : Cx} {tg x : Expr} (eK : X.K = Γ.K) (he : PE X x (rE Γ W (wpE S e))) : PI X tg x (rI Γ W (wpI S (.seq e))) := by
  refine ⟨fun pins s σ H R I h => ?_⟩
  obtain ⟨L, G, Xs, E, Qd, m, ew, T, c⟩ := h
  -- a list or a tuple: by what the reading tells of the value
  have h2 : rE Γ W (wpE S e) σ H (fun v H1 => (∃ a, v = .ref a ∧ (∃ xs, SqL X.K H1 a xs) ∧ R (Itl X.K a) H1) ∨ (∃ a, v = .ref a ∧ (∃ xs, SqT X.K H1 a xs) ∧ R (Itt X.K a) H1)) := by
    refine ⟨L, G, Xs, E, _, m, ew, T, fun ev G1 v H1 ⟨k1, f1⟩ o1 t1 => ?_⟩
    rw [eK]
    split at t1
    · rename_i xs ex
      have r := o1.2.1.asD ex
      simp only [Rep] at r
      obtain ⟨p, vs, rfl, ⟨hp, np⟩, z, rr⟩ := r
      exact .inl ⟨p, rfl, ⟨vs, SqL.of hp⟩, c xs G1 _ H1 k1 o1.1 (walkD_lst hp np z rr) t1⟩
    · rename_i xs ex
      have r := o1.2.1.asD ex
      simp only [Rep] at r
      obtain ⟨p, vs, rfl, tt, z, rr⟩ := r
      exact .inr ⟨p, rfl, ⟨vs, tt.sq⟩, c xs G1 _ H1 k1 o1.1 (walkD_tup tt z rr) t1⟩
    · rename_i xs ex
      have r := o1.2.1.asD ex
      simp only [Rep] at r
      obtain ⟨p, vs, rfl, tt, z, rr⟩ := r
      exact .inl ⟨p, rfl, ⟨vs, tt.sq⟩, c xs G1 _ H1 k1 o1.1 (walkD_slst tt z rr) t1⟩
    · exact t1.elim
  refine thn (he.run pins s σ H _ I h2) fun u s1 ⟨v, H1, I1, r1, q1⟩ => ?_
  rcases q1 with ⟨a, rfl, ⟨xs, hq⟩, q⟩ | ⟨a, rfl, ⟨xs, hq⟩, q⟩
  · cases r1
    obtain ⟨its, rv, p, hz⟩ := I1.list hq
    refine wpAny_pyIter_list p.isList ?_
    refine ⟨s1.heap.objs.size, [s1.heap.objs.size], _, _, H1, rfl, I1.kept (t' := s1.toks) fun b o e => Heap.get?_push_of_some _ e, turn_list a _, ⟨_, Heap.get?_push_size _ rfl, rfl, rfl⟩, fun b hb => ?_, q⟩
    have e : b = s1.heap.objs.size := by simpa using hb
    subst e
    exact I1.fpOk (Nat.le_refl _) (I1.hok.fresh (Nat.le_refl _))
  · cases r1
    obtain ⟨its, rv, p, hz⟩ := I1.tuple hq
    refine wpAny_pyIter_tuple (show s1.heap.IsTuple a its.toArray from p) ?_
    refine ⟨s1.heap.objs.size, [s1.heap.objs.size], _, _, H1, rfl, I1.kept (t' := s1.toks) fun b o e => Heap.get?_push_of_some _ e, turn_tuple a _, ⟨_, Heap.get?_push_size _ rfl, rfl, rfl⟩, fun b hb => ?_, q⟩
    have e : b = s1.heap.objs.size := by simpa using hb
    subst e
    exact I1.fpOk (Nat.le_refl _) (I1.hok.fresh (Nat.le_refl _))
theorem r_Irng1 {a : CE} : ∀ σ H R, rI Γ W (wpI S (.rng1 a)) σ H R → iRng1 (tCons (rE Γ W (wpE S a)) tNil) σ H R := by
  rintro σ H R ⟨L, G, X, E, Qd, m, ew, t, c⟩
  refine ⟨L, G, X, E, _, m, ew, t, fun x G1 v H1 ⟨k1, f1⟩ o1 t1 => ?_⟩
  split at t1
  · obtain ⟨h1, h2, t1⟩ := t1
    refine ⟨_, by rw [rds_int o1.2.1], by omega, by omega, c _ G1 _ H1 k1 o1.1 (walkD_rng (by rw [sizeLine_eq]; omega)) t1⟩
  · exact t1.elim
theorem r_Irng2 {a b : CE} : ∀ σ H R, rI Γ W (wpI S (.rng2 a b)) σ H R → iRng2 (tCons (rE Γ W (wpE S a)) (tCons (rE Γ W (wpE S b)) tNil)) σ H R := by
  rintro σ H R ⟨L, G, X, E, Qd, m, ew, t, c⟩
  refine ⟨L, G, X, E, _, m, ew, t, fun x G1 v H1 ⟨k1, f1⟩ o1 t1 => ?_⟩
  refine ⟨L, G1, X, E, _, o1.1, ew.step k1, t1, fun y G2 u H2 ⟨k2, f2⟩ o2 t2 => ?_⟩
  split at t2
  · obtain ⟨h1, h2, h3, h4, t2⟩ := t2
    refine ⟨_, _, by rw [rds_int o1.2.1, rds_int o2.2.1], ⟨by omega, by omega, by omega, by omega⟩, c _ G2 _ H2 (k1.trans k2) o2.1 (walkD_rng (by rw [sizeLine_eq]; omega)) t2⟩
  · exact t2.elim
theorem r_Ienum {a : CE} : ∀ σ H R, rI Γ W (wpI S (.enum a)) σ H R → iEnumA Γ.K (tCons (rE Γ W (wpE S a)) tNil) σ H R := by
  rintro σ H R ⟨L, G, X, E, Qd, m, ew, t, c⟩
  refine ⟨L, G, X, E, _, m, ew, t, fun x G1 v H1 ⟨k1, f1⟩ o1 t1 => ?_⟩
  split at t1
  · rename_i xs ex
    have r := o1.2.1.asD ex
    simp only [Rep] at r
    obtain ⟨p, vs, rfl, ⟨hp, np⟩, z, rr⟩ := r
    exact ⟨p, vs, rfl, .inl ⟨SqL.of hp, c _ G1 _ H1 k1 o1.1 (walkD_enumL hp np z rr) t1⟩⟩
  · rename_i xs ex
    have r := o1.2.1.asD ex
    simp only [Rep] at r
    obtain ⟨p, vs, rfl, tt, z, rr⟩ := r
    exact ⟨p, vs, rfl, .inr ⟨tt.sq, c _ G1 _ H1 k1 o1.1 (walkD_enumT tt z rr) t1⟩⟩
  · exact t1.elim
theorem r_Izip {a b : CE} : ∀ σ H R, rI Γ W (wpI S (.zip a b)) σ H R → RZ.iZipA Γ.K (tCons (rE Γ W (wpE S a)) (tCons (rE Γ W (wpE S b)) tNil)) σ H R := by
  rintro σ H R ⟨L, G, X, E, Qd, m, ew, t, c⟩
  refine ⟨L, G, X, E, _, m, ew, t, fun x G1 v H1 ⟨k1, f1⟩ o1 t1 => ?_⟩
  refine ⟨L, G1, X, E, _, o1.1, ew.step k1, t1, fun y G2 u H2 ⟨k2, f2⟩ o2 t2 => ?_⟩
  have o1' := o1.2.1.step o1.1 k2
  split at t2
  · rename_i xs ys ex ey
    have r := o1'.asD ex
    have r' := o2.2.1.asD ey
    simp only [Rep] at r r'
    obtain ⟨p, vs, rfl, ⟨hp, np⟩, z, rr⟩ := r
    obtain ⟨q, us, rfl, ⟨hq, nq⟩, z', rr'⟩ := r'
    exact ⟨p, q, vs, us, rfl, .inl ⟨SqL.of hp, SqL.of hq, c _ G2 _ H2 (k1.trans k2) o2.1 (walkD_zipL hp np z rr hq nq rr') t2⟩⟩
  · rename_i xs ys ex ey
    have r := o1'.asD ex
    have r' := o2.2.1.asD ey
    simp only [Rep] at r r'
    obtain ⟨p, vs, rfl, tt, z, rr⟩ := r
    obtain ⟨q, us, rfl, tt', z', rr'⟩ := r'
    exact ⟨p, q, vs, us, rfl, .inr ⟨tt.sq, tt'.sq, c _ G2 _ H2 (k1.trans k2) o2.1 (walkD_zipT tt z rr tt' rr') t2⟩⟩
  · exact t2.elim
end

section
variable {Γ : Gam} {W : WX} {S : Sg}
def dTy : D → String
  | .non => "NoneType" | .bl _ => "bool" | .int _ => "int" | .str _ => "str" | .tup _ => "tuple" | .lst _ => "list" | _ => ""
theorem kit_all (t : Ty) : kitB "NoneType" t.nm = some false ∧ kitB "bool" t.nm = some (t == .int || t == .bool) ∧ kitB "int" t.nm = some (t == .int) ∧ kitB "str" t.nm = some (t == .str) ∧
    kitB "tuple" t.nm = some (t == .tuple) ∧ kitB "list" t.nm = some (t == .list) := by
  cases t <;> decide +kernel
theorem tyX_of {σ : St} {L : Loc} {X : Addr → Prop} {G : Gh} {H : Hp} {x : EV} {v : V} {t : Ty} {c : Bool} (r : Rds Γ σ L X G H x v) (h : isTy t (asR x) = some c) : TyX Γ.K H v (.type (dTy (asR x))) ∧ kitB (dTy (asR x)) t.nm = some c := by
  obtain ⟨q0, q1, q2, q3, q4, q5⟩ := kit_all t
  have lst : ∀ {p vs}, v = .ref p → H p = some (.lst vs) → TyX Γ.K H v (.type "list") := fun e h => by subst e; exact .base (.lst h)
  cases x with
  | d x =>
    cases x with
    | non => rw [rds_non r]; cases h; exact ⟨.base .non, q0⟩
    | bl b => rw [rds_bl r]; cases h; exact ⟨.base (.bl b), q1⟩
    | int b => rw [rds_int r]; cases h; exact ⟨.base (.int b), q2⟩
    | str b => rw [rds_str r]; cases h; exact ⟨.base (.str b), q3⟩
    | tup ds =>
      simp only [Rds, Rep] at r
      obtain ⟨p, vs, rfl, tt, _⟩ := r
      cases h
      refine ⟨?_, q4⟩
      rcases tt with ⟨h1, _⟩ | ⟨o, its, n, k1, k2, _⟩
      · exact .base (.tup h1)
      · exact .kTuple k1 k2
    | lst ds =>
      simp only [Rds, Rep] at r
      obtain ⟨p, vs, rfl, ⟨h1, _⟩, _⟩ := r
      cases h
      exact ⟨.base (.lst h1), q5⟩
    | _ => cases h
  | own xs => obtain ⟨p, vs, e, _, hp, _⟩ := r; cases h; exact ⟨lst e hp, q5⟩
  | bor xs => obtain ⟨p, vs, e, _, hp, _⟩ := r; cases h; exact ⟨lst e hp, q5⟩
theorem r_inst {t : Ty} {a : CE} : ∀ σ H Q, rE Γ W (wpE S (.inst t a)) σ H Q → tCB (rIsi Γ.K) (tCons (rE Γ W (wpE S a)) (tCons (tC (.ty t.nm)) tNil)) σ H Q := by
  rintro σ H Q ⟨L, G, X, E, Qd, m, ew, t', c⟩
  refine ⟨L, G, X, E, _, m, ew, t', fun x G1 v H1 ⟨k1, f1⟩ o1 t1 => ?_⟩
  split at t1
  · rename_i b e
    obtain ⟨h1, h2⟩ := tyX_of o1.2.1 e
    exact ⟨v, .ty t.nm, _, _, b, rfl, .ty _, h1, kit_ty h2, c _ G1 _ H1 (kfd k1) (out_bl o1.1) t1⟩
  · exact t1.elim
end
end DL
namespace DL
open PySem PySem.Spec PyProof.Rows L2

theorem cst_ok {X : Cx} {d : D} {c : Const} {k : Nat} {p : Pos} {Γ : Gam} (h : cstOk d c = true) : ∃ v, PE X (.Constant c k p) (tC v) ∧ ∀ (a : Addr → Prop) (H : Hp), Rep Γ a H d v := by
  unfold cstOk at h
  split at h
  · rename_i i j
    have := of_decide_eq_true h
    subst this
    exact ⟨_, pe_int, fun a H => by simp only [Rep]⟩
  · rename_i i j
    have := eq_of_beq h
    subst this
    exact ⟨_, pe_bl, fun a H => by simp only [Rep]⟩
  · exact ⟨_, pe_non, fun a H => by simp only [Rep]⟩
  · rename_i i j
    have := of_decide_eq_true h
    subst this
    exact ⟨_, pe_str, fun a H => by simp only [Rep]⟩
  · cases h
theorem bltN_mem (b : BI) : b.nm ∈ bltNames := by cases b <;> decide
theorem tyN_mem (b : Ty) : b.nm ∈ bltNames := by cases b <;> decide
theorem boot_of (b : BI) : bootBuiltins (Str.ofString b.nm) = some b.val := by cases b <;> decide +kernel
theorem bootTy_of (b : Ty) : bootBuiltins (Str.ofString b.nm) = some (.type b.nm) := by cases b <;> decide +kernel
theorem nmBI (b : BI) : nmB (Str.ofString b.nm) = true := by cases b <;> decide +kernel
theorem nmTy (b : Ty) : nmB (Str.ofString b.nm) = true := by cases b <;> decide +kernel
theorem fn_ne {α : Type} {f : α → Bool} {x y : α} (h : f x = true) (k : f y = false) : x ≠ y := fun e => by rw [e, k] at h; cases h

section
variable {Γ : Gam} {M : Tb} {S : Sg}
theorem Good.cu {I : Info} {X : Cx} (g : Good Γ M S I X) : X.A.units + 64 < cLine := by have := g.room.un; omega
theorem pe_biV {X : Cx} {b : BI} {x : Str} {e : Expr} {r : List V → Hp → VK → Prop} {t : TA} {p pos : Pos} (hx : x = Str.ofString b.nm) (hc : CallR X b.val r) (hg : Gl X x) (hm : X.mg x = none) (ha : PA X [e] t) (ho : okE e = true) :
    PE X (.Call (.Name x p) [e] [] pos) (tCB r t) := by
  have hn := nm_of (x := x) (by rw [hx]; exact nmBI b)
  have hb := boot_of b
  rw [← hx] at hb
  cases b <;> first | exact pe_callB hc hg hm hb ha hn.2.2 hn.1 (star_cons ho) | exact pe_callTy hc hg hm hb ha hn.2.2 hn.1 (star_cons ho)
/-- the test of a BoolOp does not look at its whole -/
theorem pw_boolop {X : Cx} {op : BoolOp} {es : List Expr} {p : Pos} {t : TT} (h : PT X (.BoolOp op es p) t) : PW X (.BoolOp op es p) t := by
  refine ⟨fun wh pins s σ H Q I q => ?_⟩
  have := h.run pins s σ H Q I q
  cases op <;> exact this
/-- a reading that never holds -/
theorem pe_bot {X : Cx} {W : WX} {e : Expr} : PE X e (rE Γ W (wpE S .nev)) := ⟨fun pins s σ H Q I ⟨L, G, Xs, E, Qd, m, ew, t, c⟩ => (show False from t).elim⟩

mutual
theorem soundE : ∀ (c : CE) (I : Info) (X : Cx) (W : WX) (e : Expr), Good Γ M S I X → Takes X W → chkE M I c e = true → PE X e (rE Γ W (wpE S c))
  | .loc i, I, X, W, e, g, tk, h => by
    cases e with
    | Name x p =>
      simp only [chkE, Bool.and_eq_true, decide_eq_true_eq] at h
      obtain ⟨n1, n2, _⟩ := nm_of h.2
      refine PE.imp (pe_var (i := i) (by rw [g.N]; exact h.1.1) (g.vis h.1.2) n1 n2) ?_
      rintro σ H Q ⟨L, G, Xs, E, Qd, m, ew, t, c⟩
      simp only [wpE] at t
      split at t
      · rename_i d e1
        obtain ⟨v, h1, h2⟩ := m.val i d e1
        exact ⟨v, h1, c _ G v H (kfd Kp.refl) (Out.d m h2) t⟩
      · rename_i xs e1
        obtain ⟨q, vs, h1, h2, h3, h4⟩ := m.own i xs e1
        exact ⟨.ref q, h1, c (.bor xs) G _ H (kfb Kp.refl) ⟨m, ⟨q, vs, rfl, ⟨i, xs, e1, h1⟩, h2, h3, h4⟩, fun ys e2 => by cases e2⟩ t⟩
      · exact t.elim
    | _ => exact absurd (show false = true from h) Bool.false_ne_true
  | .cst d, I, X, W, e, g, tk, h => by
    cases e with
    | Constant c k p =>
      obtain ⟨v, h1, h2⟩ := cst_ok (X := X) (k := k) (p := p) (Γ := Γ) (show cstOk d c = true from h)
      refine PE.imp h1 ?_
      rintro σ H Q ⟨L, G, Xs, E, Qd, m, ew, t, c⟩
      exact c _ G v H (kfd Kp.refl) (Out.d m (h2 _ _)) t
    | _ => exact absurd (show false = true from h) Bool.false_ne_true
  | .gc n, I, X, W, e, g, tk, h => by
    cases e with
    | Name x p =>
      simp only [chkE, Bool.and_eq_true, decide_eq_true_eq] at h
      obtain ⟨n1, _⟩ := nm_of h.2
      obtain ⟨u, v, h1, h2, h3⟩ := g.gcs n x h.1.1
      refine PE.imp (pe_glob (g.gl h.1.2) h1 h2 n1) ?_
      rintro σ H Q ⟨L, G, Xs, E, Qd, m, ew, t, c⟩
      exact c _ G v H (kfd Kp.refl) (Out.d m (h3 _ _)) t
    | _ => exact absurd (show false = true from h) Bool.false_ne_true
  | .bin o a b, I, X, W, e, g, tk, h => by
    cases e with
    | BinOp l op r p =>
      simp only [chkE, Bool.and_eq_true] at h
      obtain ⟨rr, h1, h2⟩ := bin_ok g.K o op h.1.1
      exact PE.imp (pe_op h1 (soundE a I X W l g tk h.1.2) (soundE b I X W r g tk h.2)) (r_bin h2)
    | _ => exact absurd (show false = true from h) Bool.false_ne_true
  | .neg a, I, X, W, e, g, tk, h => by
    cases e with
    | UnaryOp op l p =>
      cases op with
      | USub => exact PE.imp (pe_un un_neg (soundE a I X W l g tk h)) r_neg
      | _ => exact absurd (show false = true from h) Bool.false_ne_true
    | _ => exact absurd (show false = true from h) Bool.false_ne_true
  | .cmp o a b, I, X, W, e, g, tk, h => by
    unfold chkE at h
    split at h
    · simp only [Bool.and_eq_true] at h
      obtain ⟨rr, h1, h2⟩ := cmp_ok g.K g.cu o _ h.1.1.1
      exact PE.imp (pe_cmpR h1 (soundE a I X W _ g tk h.1.1.2) (soundE b I X W _ g tk h.1.2) (beh_of h.2)) (r_cmp h2)
    · cases h
  | .chn o o2 a b c, I, X, W, e, g, tk, h => by
    unfold chkE at h
    split at h
    · simp only [Bool.and_eq_true] at h
      obtain ⟨rr, h1, h2⟩ := cmp_ok g.K g.cu o _ h.1.1.1.1.1
      obtain ⟨rr2, h3, h4⟩ := cmp_ok g.K g.cu o2 _ h.1.1.1.1.2
      exact PE.imp (pe_chain h1 h3 (soundE a I X W _ g tk h.1.1.1.2) (soundE b I X W _ g tk h.1.1.2) (soundE c I X W _ g tk h.1.2) (last_of h.2)) (r_chn h2 h4)
    · cases h
  | .and a b, I, X, W, e, g, tk, h => by
    unfold chkE at h
    split at h
    · simp only [Bool.and_eq_true] at h
      obtain ⟨ha, hb⟩ := h
      refine PE.imp (t := tAndT X.K (rE Γ W (wpE S a)) (rE Γ W (wpE S b))) (pe_andT (soundE a I X W _ g tk ha) ?_) (by rw [g.K]; exact r_and)
      split at hb
      · exact pe_one (soundE b I X W _ g tk hb)
      · exact soundE b I X W _ g tk hb
    · cases h
  | .or a b, I, X, W, e, g, tk, h => by
    unfold chkE at h
    split at h
    · simp only [Bool.and_eq_true] at h
      obtain ⟨ha, hb⟩ := h
      refine PE.imp (t := tOrT X.K (rE Γ W (wpE S a)) (rE Γ W (wpE S b))) (pe_orT (soundE a I X W _ g tk ha) ?_) (by rw [g.K]; exact r_or)
      split at hb
      · exact pe_one (soundE b I X W _ g tk hb)
      · exact soundE b I X W _ g tk hb
    · cases h
  | .not a, I, X, W, e, g, tk, h => by
    unfold chkE at h
    split at h
    · exact PE.imp (t := tNotT X.K (rE Γ W (wpE S a))) (pe_notT (soundE a I X W _ g tk h)) (by rw [g.K]; exact r_not)
    · cases h
  | .ite t a b, I, X, W, e, g, tk, h => by
    cases e with
    | IfExp c x y p =>
      simp only [chkE, Bool.and_eq_true] at h
      exact PE.imp (pe_ifExp (soundB t I X W c g tk h.1.1) (soundE a I X W x g tk h.1.2) (soundE b I X W y g tk h.2)) r_ite
    | _ => exact absurd (show false = true from h) Bool.false_ne_true
  | .idx o a b, I, X, W, e, g, tk, h => by
    cases e with
    | Subscript x y p =>
      simp only [chkE, Bool.and_eq_true] at h
      obtain ⟨rr, h1, h2⟩ := ix_ok g.K o
      exact PE.imp (pe_ix h1 (soundE a I X W x g tk h.1.2) (soundE b I X W y g tk h.2) (plain_ix h.1.1)) (r_idx h2)
    | _ => exact absurd (show false = true from h) Bool.false_ne_true
  | .gidx a b, I, X, W, e, g, tk, h => by
    cases e with
    | Subscript x y p =>
      simp only [chkE, Bool.and_eq_true] at h
      exact PE.imp (t := tOp (rIxL X.K) (rE Γ W (wpE S a)) (rE Γ W (wpE S b))) (pe_ix ix_list (soundE a I X W x g tk h.1.2) (soundE b I X W y g tk h.2) (plain_ix h.1.1)) (by rw [g.K]; exact r_gidx)
    | _ => exact absurd (show false = true from h) Bool.false_ne_true
  | .slc o a lo hi, I, X, W, e, g, tk, h => by
    unfold chkE at h
    split at h
    · simp only [Bool.and_eq_true, decide_eq_true_eq] at h
      obtain ⟨rr, h1, h2⟩ := sl_ok g.K o h.1.1.1
      exact PE.imp (pe_slice h1 (soundE a I X W _ g tk h.1.1.2) (soundO lo I X W _ g tk h.1.2) (soundO hi I X W _ g tk h.2)) (r_slc h2)
    · simp only [Bool.and_eq_true, decide_eq_true_eq] at h
      obtain ⟨⟨⟨ho, ha⟩, hl⟩, hh⟩ := h
      subst ho
      cases lo with
      | yes _ => cases hl
      | no =>
        cases hi with
        | yes _ => cases hh
        | no => exact PE.imp (t := tUn (rRevT X.K) (rE Γ W (wpE S a))) (pe_revT (soundE a I X W _ g tk ha)) (by rw [g.K]; exact r_revT)
    · cases h
  | .tup es, I, X, W, e, g, tk, h => by
    cases e with
    | Tuple xs k p => exact PE.imp (pe_tup (soundEs es I X W xs g tk h)) r_tup
    | _ => exact absurd (show false = true from h) Bool.false_ne_true
  | .lst es, I, X, W, e, g, tk, h => by
    cases e with
    | List xs p => exact PE.imp (pe_lst (soundEs es I X W xs g tk h)) r_lst
    | _ => exact absurd (show false = true from h) Bool.false_ne_true
  | .call k es, I, X, W, e, g, tk, h => by
    unfold chkE at h
    split at h
    · simp only [Bool.and_eq_true, decide_eq_true_eq] at h
      obtain ⟨⟨⟨h1, h2⟩, h3⟩, h4⟩ := h
      obtain ⟨f, fd, ps, j, F, hr, hm, hk, hb⟩ := g.fns k _ h1
      obtain ⟨n1, _⟩ := nm_of h3
      have h5 := h4
      cases es with
      | nil => exact absurd (show false = true from h5) Bool.false_ne_true
      | cons c1 r1 =>
        simp only [chkEs, Bool.and_eq_true] at h5
        exact PE.imp (pe_callS F hr (g.gl h2) hm hk hb (passAt tk) (soundEs _ I X W _ g tk h4) n1 (star_cons h5.1.1) (chkEs_star h5.2 _)) r_call
    · cases h
  | .bi b a, I, X, W, e, g, tk, h => by
    unfold chkE at h
    split at h
    · simp only [Bool.and_eq_true, decide_eq_true_eq] at h
      obtain ⟨⟨⟨h1, h2⟩, h3⟩, h4⟩ := h
      obtain ⟨r, hc, hs⟩ := bi_ok g.K g.calm b
      exact PE.imp (pe_biV h1 hc (g.gl h2) (by rw [h1]; exact g.blt _ (bltN_mem b)) (pa_cons (soundE a I X W _ g tk h3) pa_nil (star_cons h4)) h4) (r_bi hs)
    · cases h
  | .inst t a, I, X, W, e, g, tk, h => by
    unfold chkE at h
    split at h
    · simp only [Bool.and_eq_true, decide_eq_true_eq] at h
      obtain ⟨⟨⟨⟨⟨h1, h2⟩, h3⟩, h4⟩, h5⟩, h6⟩ := h
      subst h1
      subst h2
      have ht := nm_of (nmTy t)
      refine PE.imp (t := tCB (rIsi X.K) (tCons (rE Γ W (wpE S a)) (tCons (tC (.ty t.nm)) tNil))) (pe_callB call_isi (g.gl h3) (g.blt "isinstance" (by decide)) (by decide +kernel) (pa_cons (soundE a I X W _ g tk h5) (pa_cons (pe_bltn (v := .ty t.nm) (g.gl h4) (g.blt _ (tyN_mem t)) (bootTy_of t) rfl ht.2.2 ht.1) pa_nil) (star_cons h6)) (by decide +kernel) (by decide +kernel) (star_cons h6)) (by rw [g.K]; exact r_inst)
    · cases h
  | .comp t it ifs el vs, I, X, W, e, g, tk, h => by
    unfold chkE at h
    split at h
    · simp only [Bool.and_eq_true, List.all_eq_true] at h
      obtain ⟨⟨⟨⟨⟨⟨h1, h2⟩, h3⟩, h4⟩, h5⟩, h6⟩, h7⟩ := h
      have bk := blkOk_by h1
      rename_i elt tg iter ifs' scope p
      have hk : scope.kind = .function := by
        unfold blkC at h1
        simp only [Bool.and_eq_true] at h1
        have := h1.1.1.1
        split at this
        · assumption
        · cases this
      have hv : (vs.map fun i => (I.N.getD i Str.empty, i)).map (·.2) = vs := by rw [List.map_map]; exact List.map_id' vs
      have e1 := pe_lc (X := X) (pos := p) g.calm (by rw [g.N]; exact g.nd) (soundI it I X W tg iter g tk h2) (by rw [g.N, g.sc]; exact bk)
        (fun s H C cl fp => soundT (g.blk s H scope hk C cl fp) t tg h4)
        (fun s H C cl fp => soundBs ifs (subI I scope) _ W0 ifs' (g.blk s H scope hk C cl fp) takes0 h6)
        (fun s H C cl fp => soundE el (subI I scope) _ W0 elt (g.blk s H scope hk C cl fp) takes0 h7) (fold_of h3)
      rw [hv] at e1
      exact PE.imp e1 (r_comp fun i hi => by have := h5 i hi; simpa using this)
    · cases h
  | .nev, I, X, W, e, g, tk, h => pe_bot
theorem soundEs : ∀ (c : CEs) (I : Info) (X : Cx) (W : WX) (es : List Expr), Good Γ M S I X → Takes X W → chkEs M I c es = true → PA X es (rA Γ W (wpEs S c))
  | .nil, I, X, W, es, g, tk, h => by
    cases es with
    | nil => exact PA.imp pa_nil r_nil
    | cons e es => exact absurd (show false = true from h) Bool.false_ne_true
  | .cons c r, I, X, W, es, g, tk, h => by
    cases es with
    | nil => exact absurd (show false = true from h) Bool.false_ne_true
    | cons e es =>
      simp only [chkEs, Bool.and_eq_true] at h
      exact PA.imp (pa_cons (soundE c I X W e g tk h.1.2) (soundEs r I X W es g tk h.2) (star_cons h.1.1)) r_cons
theorem soundO : ∀ (c : CO) (I : Info) (X : Cx) (W : WX) (e : Option Expr), Good Γ M S I X → Takes X W → chkO M I c e = true → PO X e (rO Γ W (wpO S c))
  | .no, I, X, W, e, g, tk, h => by
    cases e with
    | some e => exact absurd (show false = true from h) Bool.false_ne_true
    | none =>
      refine PO.imp po_none ?_
      rintro σ H Q ⟨L, G, Xs, E, Qd, m, ew, t, c⟩
      exact c _ G H Kp.refl m t
  | .yes c, I, X, W, e, g, tk, h => by
    cases e with
    | none => exact absurd (show false = true from h) Bool.false_ne_true
    | some e => exact PO.imp (po_some (soundE c I X W e g tk h)) r_part
theorem soundB : ∀ (c : CB) (I : Info) (X : Cx) (W : WX) (e : Expr), Good Γ M S I X → Takes X W → chkB M I c e = true → PT X e (rB Γ W (wpB S c))
  | .val a, I, X, W, e, g, tk, h => by
    simp only [chkB, Bool.and_eq_true] at h
    exact PT.imp (t := fun σ H Q => rE Γ W (wpE S a) σ H fun x H' => ∃ k, TruV X.K x H' k ∧ Q k H') (pt_truth (soundE a I X W e g tk h.2) (isT_of h.1)) (by rw [g.K]; exact r_valB)
  | .cmp o a b, I, X, W, e, g, tk, h => by
    unfold chkB at h
    split at h
    · simp only [Bool.and_eq_true] at h
      obtain ⟨rr, h1, h2⟩ := cmp_ok g.K g.cu o _ h.1.1.1
      exact PT.imp (pt_cmpR h1 (soundE a I X W _ g tk h.1.1.2) (soundE b I X W _ g tk h.1.2) (beh_of h.2)) (r_cmpB h2)
    · cases h
  | .chn o o2 a b c, I, X, W, e, g, tk, h => by
    unfold chkB at h
    split at h
    · simp only [Bool.and_eq_true] at h
      obtain ⟨rr, h1, h2⟩ := cmp_ok g.K g.cu o _ h.1.1.1.1.1
      obtain ⟨rr2, h3, h4⟩ := cmp_ok g.K g.cu o2 _ h.1.1.1.1.2
      exact PT.imp (pt_chain h1 h3 (soundE a I X W _ g tk h.1.1.1.2) (soundE b I X W _ g tk h.1.1.2) (soundE c I X W _ g tk h.1.2) (last_of h.2)) (r_chnB h2 h4)
    · cases h
  | .and a b, I, X, W, e, g, tk, h => by
    unfold chkB at h
    split at h
    · simp only [Bool.and_eq_true] at h
      obtain ⟨ha, hb⟩ := h
      refine PT.imp (t := tAnd (rB Γ W (wpB S a)) (rB Γ W (wpB S b))) (pw_and (soundB a I X W _ g tk ha) ?_).pt r_andB
      split at hb
      · exact pw_and1 (soundB b I X W _ g tk hb)
      · exact pw_boolop (soundB b I X W _ g tk hb)
    · cases h
  | .or a b, I, X, W, e, g, tk, h => by
    unfold chkB at h
    split at h
    · simp only [Bool.and_eq_true] at h
      obtain ⟨ha, hb⟩ := h
      refine PT.imp (t := tOr (rB Γ W (wpB S a)) (rB Γ W (wpB S b))) (pw_or (soundB a I X W _ g tk ha) ?_).pt r_orB
      split at hb
      · exact pw_or1 (soundB b I X W _ g tk hb)
      · exact pw_boolop (soundB b I X W _ g tk hb)
    · cases h
  | .not a, I, X, W, e, g, tk, h => by
    unfold chkB at h
    split at h
    · exact PT.imp (t := tNot (rB Γ W (wpB S a))) (pt_not (soundB a I X W _ g tk h)) r_notB
    · cases h
theorem soundBs : ∀ (c : CBs) (I : Info) (X : Cx) (W : WX) (es : List Expr), Good Γ M S I X → Takes X W → chkBs M I c es = true → PTs X es (rB Γ W (wpBs S c))
  | .no, I, X, W, es, g, tk, h => by
    cases es with
    | cons e es => exact absurd (show false = true from h) Bool.false_ne_true
    | nil =>
      refine PTs.imp pts_nil ?_
      rintro σ H Q ⟨L, G, Xs, E, Qd, m, ew, t, c⟩
      exact c _ G H Kp.refl m t
  | .one t, I, X, W, es, g, tk, h => by
    unfold chkBs at h
    split at h
    · exact pts_one (soundB t I X W _ g tk h)
    · cases h
theorem soundI : ∀ (c : CI) (I : Info) (X : Cx) (W : WX) (tg e : Expr), Good Γ M S I X → Takes X W → chkI M I c tg e = true → PI X tg e (rI Γ W (wpI S c))
  | .seq c, I, X, W, tg, e, g, tk, h => r_Iseq g.K (soundE c I X W e g tk h)
  | .rng1 a, I, X, W, tg, e, g, tk, h => by
    unfold chkI at h
    split at h
    · simp only [Bool.and_eq_true, decide_eq_true_eq] at h
      obtain ⟨⟨⟨h1, h2⟩, h3⟩, h4⟩ := h
      subst h1
      exact PI.imp (pi_range1 (g.gl h2) (g.blt "range" (by decide)) (pa_cons (soundE a I X W _ g tk h4) pa_nil (star_cons h3)) (star_cons h3)) r_Irng1
    · cases h
  | .rng2 a b, I, X, W, tg, e, g, tk, h => by
    unfold chkI at h
    split at h
    · simp only [Bool.and_eq_true, decide_eq_true_eq] at h
      obtain ⟨⟨⟨⟨⟨h1, h2⟩, h3⟩, h4⟩, h5⟩, h6⟩ := h
      subst h1
      exact PI.imp (pi_range2 (g.gl h2) (g.blt "range" (by decide)) (pa_cons (soundE a I X W _ g tk h5) (pa_cons (soundE b I X W _ g tk h6) pa_nil (star_cons h4)) (star_cons h3)) (by rw [star_cons h3, star_cons h4]; rfl) (star_cons h4)) r_Irng2
    · cases h
  | .enum c, I, X, W, tg, e, g, tk, h => by
    unfold chkI at h
    split at h
    · simp only [Bool.and_eq_true, decide_eq_true_eq] at h
      obtain ⟨⟨⟨⟨h1, h2⟩, h3⟩, h4⟩, h5⟩ := h
      subst h2
      cases tg with
      | Tuple es k p => exact PI.imp (t := iEnumA X.K (tCons (rE Γ W (wpE S c)) tNil)) (pi_enumA (g.gl h3) (g.blt "enumerate" (by decide)) (pa_cons (soundE c I X W _ g tk h5) pa_nil (star_cons h4)) (star_cons h4)) (by rw [g.K]; exact r_Ienum)
      | _ => cases h1
    · cases h
  | .zip a b, I, X, W, tg, e, g, tk, h => by
    unfold chkI at h
    split at h
    · simp only [Bool.and_eq_true, decide_eq_true_eq] at h
      obtain ⟨⟨⟨⟨⟨⟨h1, h2⟩, h3⟩, h4⟩, h5⟩, h6⟩, h7⟩ := h
      subst h2
      cases tg with
      | Tuple es k p => exact PI.imp (t := RZ.iZipA X.K (tCons (rE Γ W (wpE S a)) (tCons (rE Γ W (wpE S b)) tNil))) (RZ.pi_zipA (g.gl h3) (g.blt "zip" (by decide)) (pa_cons (soundE a I X W _ g tk h6) (pa_cons (soundE b I X W _ g tk h7) pa_nil (star_cons h5)) (star_cons h4)) (star_cons h4) (by rw [star_cons h5]; rfl)) (by rw [g.K]; exact r_Izip)
      | _ => cases h1
    · cases h
end
end
end DL
namespace DL
open PySem PySem.Spec PyProof.Rows L2

def lcOf : Expr → Option (Scope × Nat)
  | .ListComp _ _ s p => some (s, p.line)
  | .SetComp _ _ s p => some (s, p.line)
  | .DictComp _ _ _ s p => some (s, p.line)
  | _ => none
def swB (I : Info) (e : Expr) (x : Str) (l : Nat) : Bool := match lcOf e with
  | some (s, l2) => I.sc.names.lookup x == some .local && l == l2 && !(s.names.any fun (n, k) => n == x && (k == .local || k == .cell))
  | none => false
def swD (e : Expr) (l : Nat) : Bool := match lcOf e with
  | some _ => false
  | none => true
def isTup (e : Expr) : Bool := match e with
  | .Tuple _ _ _ => true
  | _ => false
section
variable {Γ : Gam} {M : Tb} {S : Sg} {I : Info} {X : Cx}
theorem Good.bk (g : Good Γ M S I X) : X.env.blockKind = .function := by
  unfold Env.blockKind
  rw [g.sc, g.kd]
  rfl
theorem sw_of (g : Good Γ M S I X) (e : Expr) (x : Str) (p : Pos) (l : Nat) : swapsWith e (some (.Name x p)) l X.env = pure (swB I e x p.line) := by
  have hk : ∀ y, X.env.kindOf y = I.sc.names.lookup y := fun y => by unfold Env.kindOf; rw [g.sc]
  unfold swapsWith swB lcOf
  cases e <;> first
    | rfl
    | (rename_i s q
       show (pure (X.env.blockKind == .function && X.env.kindOf x == some .local && p.line == q.line && !(s.names.any fun (n, k) => n == x && (k == .local || k == .cell))) : Sem Bool) = _
       rw [g.bk, hk]
       rfl)
theorem swD_of (e : Expr) (l l2 : Nat) (env : Env) (h : swD e l = true) : swapsWith e none l2 env = pure false := by
  unfold swD lcOf at h
  cases e <;> first | rfl | (exact absurd h Bool.false_ne_true)
/-- a plain local name on line l -/
def nmL (I : Info) (l : Nat) : Expr → Option Str
  | .Name x p => if I.sc.names.lookup x == some .local && p.line == l then some x else none
  | _ => none
def swNT (I : Info) (ts vs : List Expr) : Bool := !(ts.length == 2 || ts.length == 3) || vs.length != ts.length || (ts.filterMap (nmL I ((ts.head?.map (·.pos.line)).getD 0))).length != ts.length
/-- no swapped stores: not a tuple display, or not of two or three, or not all plain local names -/
def swN (I : Info) (ts : List Expr) (e : Expr) : Bool := match e with
  | .Tuple vs _ _ => swNT I ts vs
  | _ => true
theorem swN_of (g : Good Γ M S I X) {ts : List Expr} {k : Nat} {p : Pos} {e : Expr} (h : swN I ts e = true) : swappedStores [.Tuple ts k p] e X.env = pure none := by
  have hk : ∀ y, X.env.kindOf y = I.sc.names.lookup y := fun y => by unfold Env.kindOf; rw [g.sc]
  unfold swN at h
  split at h
  · rename_i vs _ _
    have hn : ∀ l : Nat, (fun t : Expr => match t with | .Name id pos => if X.env.kindOf id == some .local && pos.line == l then some id else none | _ => none) = nmL I l := fun l => by
      funext t
      cases t <;> first | rfl | (simp only [nmL, hk])
    unfold swappedStores
    show (if _ = true then pure none else if _ = true then pure none else if ((ts.filterMap (fun t : Expr => match t with | .Name id pos => if X.env.kindOf id == some .local && pos.line == (ts.head?.map (·.pos.line)).getD 0 then some id else none | _ => none)).length != ts.length || _) = true then pure none else _) = pure none
    unfold swNT at h
    rw [← hn] at h
    split
    · rfl
    · rename_i h1
      split
      · rfl
      · split
        · rfl
        · rename_i h3
          exfalso
          simp only [Bool.or_eq_true, not_or] at h1 h3 h
          rcases h with (h | h) | h
          · exact h1.1.1 h
          · exact h1.1.2 h
          · exact h3.1 h
  · rename_i hh
    unfold swappedStores
    cases e <;> first | rfl | exact absurd rfl (hh _ _ _)
def par2B (I : Info) (x y : Str) (px py : Pos) (vs : List Expr) : Bool :=
  I.sc.names.lookup x == some .local && I.sc.names.lookup y == some .local && px.line == py.line && !(x == y) && !(vs.any fun | .Starred .. => true | _ => false) && !(vs.all (foldedForSure 8)) && !(vs.all (constantsAlone 8)) && vs.length == 2
def par3B (I : Info) (x y z : Str) (px py pz : Pos) (vs : List Expr) : Bool :=
  I.sc.names.lookup x == some .local && I.sc.names.lookup y == some .local && I.sc.names.lookup z == some .local && px.line == py.line && px.line == pz.line && !(x == y) && !(x == z) && !(y == z) && !(vs.any fun | .Starred .. => true | _ => false) && !(vs.all (foldedForSure 8)) && !(vs.all (constantsAlone 8)) && vs.length == 3
theorem par2_of (g : Good Γ M S I X) {x y : Str} {px py p p2 : Pos} {vs : List Expr} {k k2 : Nat} (h : par2B I x y px py vs = true) :
    swappedStores [.Tuple [.Name x px, .Name y py] k p] (.Tuple vs k2 p2) X.env = pure (some [x, y]) := by
  have hk : ∀ y, X.env.kindOf y = I.sc.names.lookup y := fun y => by unfold Env.kindOf; rw [g.sc]
  unfold par2B at h
  simp only [Bool.and_eq_true, Bool.not_eq_true', beq_iff_eq, beq_eq_false_iff_ne] at h
  obtain ⟨⟨⟨⟨⟨⟨⟨h1, h2⟩, h3⟩, h4⟩, h5⟩, h6⟩, h7⟩, h8⟩ := h
  have e1 : (px.line == px.line) = true := by simp
  have e2 : (py.line == px.line) = true := by simp [h3]
  unfold swappedStores
  simp only [List.length_cons, List.length_nil, h8, g.bk, List.head?_cons, Option.map_some, Option.getD_some, Expr.pos, List.filterMap_cons, List.filterMap_nil, hk, h1, h2, e1, e2, beq_self_eq_true, Bool.and_self, if_true]
  have e3 : [x, y].eraseDups.length = 2 := by
    have : (y == x) = false := by simpa using Ne.symm h4
    simp [List.eraseDups, List.eraseDupsBy, List.eraseDupsBy.loop, this]
  refine (if_neg (by simp)).trans ?_
  refine (if_neg fun z => ?_).trans ?_
  · have := h5.symm.trans z; cases this
  refine (if_neg (by rw [e3]; simp)).trans ?_
  refine (if_neg (by rw [h6]; simp)).trans ?_
  exact if_neg (by rw [h7]; simp)
theorem par3_of (g : Good Γ M S I X) {x y z : Str} {px py pz p p2 : Pos} {vs : List Expr} {k k2 : Nat} (h : par3B I x y z px py pz vs = true) :
    swappedStores [.Tuple [.Name x px, .Name y py, .Name z pz] k p] (.Tuple vs k2 p2) X.env = pure (some [x, y, z]) := by
  have hk : ∀ y, X.env.kindOf y = I.sc.names.lookup y := fun y => by unfold Env.kindOf; rw [g.sc]
  unfold par3B at h
  simp only [Bool.and_eq_true, Bool.not_eq_true', beq_iff_eq, beq_eq_false_iff_ne] at h
  obtain ⟨⟨⟨⟨⟨⟨⟨⟨⟨⟨⟨h1, h2⟩, h2'⟩, h3⟩, h3'⟩, h4⟩, h4'⟩, h4''⟩, h5⟩, h6⟩, h7⟩, h8⟩ := h
  have e1 : (px.line == px.line) = true := by simp
  have e2 : (py.line == px.line) = true := by simp [h3]
  have e2' : (pz.line == px.line) = true := by simp [h3']
  unfold swappedStores
  simp only [List.length_cons, List.length_nil, h8, g.bk, List.head?_cons, Option.map_some, Option.getD_some, Expr.pos, List.filterMap_cons, List.filterMap_nil, hk, h1, h2, h2', e1, e2, e2', beq_self_eq_true, Bool.and_self, if_true]
  have e3 : [x, y, z].eraseDups.length = 3 := by
    have a1 : (y == x) = false := by simpa using Ne.symm h4
    have a2 : (z == x) = false := by simpa using Ne.symm h4'
    have a3 : (z == y) = false := by simpa using Ne.symm h4''
    simp [List.eraseDups, List.eraseDupsBy, List.eraseDupsBy.loop, a1, a2, a3]
  refine (if_neg (by simp)).trans ?_
  refine (if_neg fun z => ?_).trans ?_
  · have := h5.symm.trans z; cases this
  refine (if_neg (by rw [e3]; simp)).trans ?_
  refine (if_neg (by rw [h6]; simp)).trans ?_
  exact if_neg (by rw [h7]; simp)
end

mutual
def chkS (M : Tb) (I : Info) : CS → Stmt → Bool
  | .set i e, s => match s with
    | .Assign [.Name x p] e' _ => decide (I.N[i]? = some x) && stB I x && chkE M I e e' && (!swB I e' x p.line || match e with | .comp .. => true | _ => false)
    | _ => false
  | .setF i e, s => match s with
    | .Assign [.Name x p] e' _ => decide (I.N[i]? = some x) && stB I x && chkE M I e e' && (!swB I e' x p.line || match e with | .comp .. => true | _ => false)
    | _ => false
  | .asg t e, s => match s with
    | .Assign [.Tuple ts k q] e' _ => chkT I t (.Tuple ts k q) && chkE M I e e' && swN I ts e'
    | _ => false
  | .par i j a b, s => match s with
    | .Assign [.Tuple [.Name x px, .Name y py] _ _] (.Tuple [a', b'] _ _) _ => decide (I.N[i]? = some x) && decide (I.N[j]? = some y) && decide (i ≠ j) && par2B I x y px py [a', b'] && chkE M I a a' && chkE M I b b' && okE a' && okE b'
    | _ => false
  | .par3 i j l a b c, s => match s with
    | .Assign [.Tuple [.Name x px, .Name y py, .Name z pz] _ _] (.Tuple [a', b', c'] _ _) _ => decide (I.N[i]? = some x) && decide (I.N[j]? = some y) && decide (I.N[l]? = some z) && decide (i ≠ j) && decide (i ≠ l) && decide (j ≠ l) && par3B I x y z px py pz [a', b', c'] &&
        chkE M I a a' && chkE M I b b' && chkE M I c c' && okE a' && okE b' && okE c'
    | _ => false
  | .aug i o e, s => match s with
    | .AugAssign (.Name x _) op e' _ => decide (I.N[i]? = some x) && stB I x && iopX o op && chkE M I e e'
    | _ => false
  | .app i e, s => match s with
    | .Expr (.Call (.Attribute (.Name x _) nm apos) [e'] [] cpos) _ => decide (nm = Str.ofString "append") && decide (I.N[i]? = some x) && visB I x && nmB x && (apos.endLine == cpos.line) && okE e' && chkE M I e e'
    | _ => false
  | .ext i e, s => match s with
    | .Expr (.Call (.Attribute (.Name x _) nm apos) [e'] [] cpos) _ => decide (nm = Str.ofString "extend") && decide (I.N[i]? = some x) && visB I x && nmB x && (apos.endLine == cpos.line) && okE e' && chkE M I e e'
    | _ => false
  | .pop i, s => match s with
    | .Expr (.Call (.Attribute (.Name x _) nm apos) [] [] cpos) _ => decide (nm = Str.ofString "pop") && decide (I.N[i]? = some x) && visB I x && nmB x && (apos.endLine == cpos.line)
    | _ => false
  | .expr e, s => match s with
    | .Expr e' p => swD e' p.line && chkE M I e e'
    | .Pass _ => match e with
      | .cst .non => true
      | _ => false
    | _ => false
  | .ret e, s => match s with
    | .Return (some e') _ => chkE M I e e'
    | .Return none _ => match e with
      | .cst .non => true
      | _ => false
    | _ => false
  | .retT e, s => match s with
    | .Return (some e') _ => chkE M I e e'
    | _ => false
  | .ite t a b, s => match s with
    | .If c x y _ => chkB M I t c && chkSs M I a x && chkSs M I b y
    | _ => false
  | .whl t b, s => match s with
    | .While c x [] _ => chkB M I t c && chkSs M I b x
    | _ => false
  | .for t it b, s => match s with
    | .For tg iter x [] _ => chkT I t tg && okE iter && chkI M I it tg iter && chkSs M I b x
    | _ => false
  | .gset o i v, s => match s with
    | .Assign [.Subscript o' i' _] v' _ => chkE M I o o' && okE i' && chkE M I i i' && chkE M I v v' && swD v' 0
    | _ => false
  | .brk, s => match s with
    | .Break _ => true
    | _ => false
  | .cnt, s => match s with
    | .Continue _ => true
    | _ => false
  | .nev, _ => true
def chkSs (M : Tb) (I : Info) : CSs → List Stmt → Bool
  | .nil, ss => match ss with
    | [] => true
    | _ => false
  | .cons c r, ss => match ss with
    | s :: ss => chkS M I c s && chkSs M I r ss
    | [] => false
  | .frz _ r, ss => chkSs M I r ss
end

def KR (σ : St) (L : Loc) (G : Gh) (H : Hp) (G2 : Gh) (H2 : Hp) : Prop := ∀ p o, H p = some o → G p = none → ¬ SO σ L p → H2 p = some o ∧ G2 p = none
structure EndsOk (Γ : Gam) (W : WX) (σ : St) (L : Loc) (X : Addr → Prop) (G : Gh) (H : Hp) (D : Ends) (R : En) : Prop where
  nx : ∀ σ2 L2 G2 H2, Ks σ L G H σ2 L2 G2 H2 → Mt Γ σ2 H2 L2 G2 X → R.nx L2 G2 → D.nx σ2 H2
  bk : ∀ σ2 L2 G2 H2, Ks σ L G H σ2 L2 G2 H2 → Mt Γ σ2 H2 L2 G2 X → R.bk L2 G2 → D.bk σ2 H2
  ct : ∀ σ2 L2 G2 H2, Ks σ L G H σ2 L2 G2 H2 → Mt Γ σ2 H2 L2 G2 X → R.ct L2 G2 → D.ct σ2 H2
  rt : ∀ d G2 v H2, KR σ L G H G2 H2 → GOk Γ (avG G2 X) H2 G2 → Rep Γ (avG G2 X) H2 d v → R.rt d G2 → D.rt v H2
  ex : ∀ x σ2 L2 G2 cls d H2, Ks σ L G H σ2 L2 G2 H2 → Mt Γ σ2 H2 L2 G2 X → XRep Γ (Av σ2 L2 G2 X) H2 x cls d → R.ex x L2 G2 → W cls d σ2 H2
theorem Ks.kr {σ σ2 : St} {L L2 : Loc} {G G2 G3 : Gh} {H H2 H3 : Hp} (x : Ks σ L G H σ2 L2 G2 H2) (y : KR σ2 L2 G2 H2 G3 H3) : KR σ L G H G3 H3 :=
  fun p o h n s => let ⟨h2, n2, s2⟩ := x p o h n s; y p o h2 n2 s2
section
variable {Γ : Gam} {W : WX} {σ σ2 : St} {L L2 : Loc} {X : Addr → Prop} {G G2 : Gh} {H H2 : Hp} {D : Ends} {R : En}
theorem EndsOk.step (k : Ks σ L G H σ2 L2 G2 H2) (e : EndsOk Γ W σ L X G H D R) : EndsOk Γ W σ2 L2 X G2 H2 D R :=
  ⟨fun s3 L3 G3 H3 q => e.nx s3 L3 G3 H3 (k.trans q), fun s3 L3 G3 H3 q => e.bk s3 L3 G3 H3 (k.trans q), fun s3 L3 G3 H3 q => e.ct s3 L3 G3 H3 (k.trans q),
   fun d G3 v H3 q => e.rt d G3 v H3 (k.kr q), fun x s3 L3 G3 cls d H3 q => e.ex x s3 L3 G3 cls d H3 (k.trans q)⟩
theorem EndsOk.ew (e : EndsOk Γ W σ L X G H D R) : EW Γ W σ L X G H (fun x G => R.ex x L G) := fun x G2 cls d H2 k m r q => e.ex x σ L G2 cls d H2 k.ks m r q
end
abbrev TS' := En → Loc → Gh → Prop
def rS (Γ : Gam) (W : WX) (T : TS') : TS := fun D σ H => ∃ L G X R, Mt Γ σ H L G X ∧ EndsOk Γ W σ L X G H D R ∧ T R L G
theorem PS.imp {X : Cx} {e : Stmt} {t t' : TS} (h : PS X e t) (k : ∀ D σ H, t' D σ H → t D σ H) : PS X e t' := ⟨fun pins s σ H D I q => h.run pins s σ H D I (k D σ H q)⟩
theorem PSs.imp {X : Cx} {e : List Stmt} {t t' : TS} (h : PSs X e t) (k : ∀ D σ H, t' D σ H → t D σ H) : PSs X e t' := ⟨fun pins s σ H D I q => h.run pins s σ H D I (k D σ H q)⟩

section
variable {Γ : Gam} {W : WX} {S : Sg}
/-- the end of a value -/
theorem out_end {σ : St} {L : Loc} {X : Addr → Prop} {G G2 : Gh} {H H2 : Hp} {ev : EV} {v : V} (k : Kp G H G2 H2) (o : Out Γ σ L X G2 H2 ev v) : KR σ L G H G2 H2 ∧ GOk Γ (avG G2 X) H2 G2 ∧ Rep Γ (avG G2 X) H2 (asR ev) v := by
  have al : ∀ p, avG G2 X p → Av σ L G2 X p := fun p z => by
    rcases z with z | z
    · exact .inl z
    · exact .inr (.inl z)
  refine ⟨fun p u h n _ => k p u h n, fun p u e => ?_, ?_⟩
  · obtain ⟨ho, h1, h2⟩ := o.1.gok p u e
    exact ⟨ho, h1, h2.step (Stp.weak al)⟩
  · cases ev with
    | d x => exact Rep.weak al (show Rep Γ (Av σ L G2 X) H2 x v from o.2.1)
    | own xs =>
      obtain ⟨p, vs, e, n, h, z, rr⟩ := o.2.1
      show Rep Γ (avG G2 X) H2 (.lst xs) v
      simp only [Rep]
      exact ⟨p, vs, e, ⟨h, fun z => n (al p z)⟩, z, rr.weak al⟩
    | bor xs =>
      obtain ⟨p, vs, e, s, h, z, rr⟩ := o.2.1
      show Rep Γ (avG G2 X) H2 (.lst xs) v
      simp only [Rep]
      refine ⟨p, vs, e, ⟨h, fun w => ?_⟩, z, rr.weak al⟩
      rcases w with w | w
      · exact w (o.1.disO p s)
      · exact (o.1.disX p w).2.1 s
/-- a value goes to a slot -/
theorem set_end {σ : St} {L : Loc} {X : Addr → Prop} {G G2 : Gh} {H H2 : Hp} {ev : EV} {v : V} {D : Ends} {R : En} {i : Nat} (e : EndsOk Γ W σ L X G H D R) (k : KF G H G2 H2 ev v) (o : Out Γ σ L X G2 H2 ev v)
    (q : setV i ev L fun L1 => R.nx L1 G2) : D.nx (σ.set i (some v)) H2 := by
  cases ev with
  | d x => exact e.nx _ _ _ _ (k.1.ks.trans ks_set_d) (o.1.set_d o.2.1) q
  | own xs =>
    obtain ⟨p, vs, ev, nX, m, h, r⟩ := o.2.2 xs rfl
    subst ev
    obtain ⟨p', vs', e', _, _, z, _⟩ := o.2.1
    refine e.nx _ _ _ _ (fun q u h1 n s => ?_) (m.set_own nX h z r) q
    obtain ⟨h2, n2⟩ := k.1 q u h1 n
    refine ⟨h2, n2, fun w => ?_⟩
    rcases so_set_own w with w | w
    · exact s w
    · subst w; exact k.2 xs q u rfl rfl h1 n
  | bor xs => exact q.elim
theorem r_set {i : Nat} {e : CE} : ∀ D σ H, rS Γ W (wpS S (.set i e)) D σ H → tAsg (rE Γ W (wpE S e)) (gName i) D σ H := by
  rintro D σ H ⟨L, G, X, R, m, ok, t⟩
  exact ⟨L, G, X, _, _, m, ok.ew, t, fun x G1 v H1 k1 o1 t1 => set_end ok k1 o1 t1⟩
theorem r_setF {i : Nat} {e : CE} : ∀ D σ H, rS Γ W (wpS S (.setF i e)) D σ H → tAsg (rE Γ W (wpE S e)) (gName i) D σ H := by
  rintro D σ H ⟨L, G, X, R, m, ok, t⟩
  refine ⟨L, G, X, _, _, m, ok.ew, t, fun x G1 v H1 k1 o1 t1 => ?_⟩
  split at t1
  · rename_i d ed
    exact ok.nx _ _ _ _ (k1.1.ks.trans ks_set_d) (o1.1.set_d (o1.2.1.asD ed)) t1
  · exact t1.elim
theorem r_asg {g : CT} {e : CE} : ∀ D σ H, rS Γ W (wpS S (.asg g e)) D σ H → tAsg (rE Γ W (wpE S e)) (rG Γ g) D σ H := by
  rintro D σ H ⟨L, G, X, R, m, ok, t⟩
  refine ⟨L, G, X, _, _, m, ok.ew, t, fun x G1 v H1 k1 o1 t1 => ?_⟩
  split at t1
  · rename_i d
    exact ⟨L, G1, X, d, _, o1.1, o1.2.1, t1, fun σ2 L2 p2 m2 k2 _ => ok.nx _ _ _ _ (k1.1.ks.trans k2) m2 p2⟩
  · exact t1.elim
theorem r_par {i j : Nat} {a b : CE} : ∀ D σ H, rS Γ W (wpS S (.par i j a b)) D σ H → tPar i j (tCons (rE Γ W (wpE S a)) (tCons (rE Γ W (wpE S b)) tNil)) D σ H := by
  rintro D σ H ⟨L, G, X, R, m, ok, t⟩
  refine ⟨L, G, X, _, _, m, ok.ew, t, fun x G1 v H1 k1 o1 t1 => ?_⟩
  refine ⟨L, G1, X, _, _, o1.1, ok.ew.step k1.1, t1, fun y G2 u H2 k2 o2 t2 => ?_⟩
  split at t2
  · rename_i dx dy ex ey
    have m1 := o2.1.set_d (i := i) ((o1.2.1.step o1.1 k2.1).asD ex)
    have kx := ks_set_d (σ := σ) (L := L) (G := G2) (H := H2) (i := i) (v := v) (x := dx)
    have m2 := m1.set_d (i := j) ((o2.2.1.asD ey).step (kx.stp (X := X)) _ _)
    exact ⟨v, u, rfl, ok.nx _ _ _ _ ((k1.1.trans k2.1).ks.trans (kx.trans ks_set_d)) m2 t2⟩
  · exact t2.elim
theorem r_par3 {i j l : Nat} {a b c : CE} : ∀ D σ H, rS Γ W (wpS S (.par3 i j l a b c)) D σ H → tPar3 i j l (tCons (rE Γ W (wpE S a)) (tCons (rE Γ W (wpE S b)) (tCons (rE Γ W (wpE S c)) tNil))) D σ H := by
  rintro D σ H ⟨L, G, X, R, m, ok, t⟩
  refine ⟨L, G, X, _, _, m, ok.ew, t, fun x G1 v H1 k1 o1 t1 => ?_⟩
  refine ⟨L, G1, X, _, _, o1.1, ok.ew.step k1.1, t1, fun y G2 u H2 k2 o2 t2 => ?_⟩
  refine ⟨L, G2, X, _, _, o2.1, ok.ew.step (k1.1.trans k2.1), t2, fun z G3 w H3 k3 o3 t3 => ?_⟩
  split at t3
  · rename_i dx dy dz ex ey ez
    have m1 := o3.1.set_d (i := i) ((o1.2.1.step o1.1 (k2.1.trans k3.1)).asD ex)
    have kx := ks_set_d (σ := σ) (L := L) (G := G3) (H := H3) (i := i) (v := v) (x := dx)
    have m2 := m1.set_d (i := j) (((o2.2.1.step o2.1 k3.1).asD ey).step (kx.stp (X := X)) _ _)
    have ky := ks_set_d (σ := σ.set i (some v)) (L := L.set i (some (.d dx))) (G := G3) (H := H3) (i := j) (v := u) (x := dy)
    have m3 := m2.set_d (i := l) ((o3.2.1.asD ez).step ((kx.trans ky).stp (X := X)) _ _)
    exact ⟨v, u, w, rfl, ok.nx _ _ _ _ (((k1.1.trans k2.1).trans k3.1).ks.trans ((kx.trans ky).trans ks_set_d)) m3 t3⟩
  · exact t3.elim
theorem r_aug {i : Nat} {o : BOp} {e : CE} {r : R2} (h : SoundR2 Γ r (opB o)) : ∀ D σ H, rS Γ W (wpS S (.aug i o e)) D σ H → tAug i (rE Γ W (wpE S e)) r D σ H := by
  rintro D σ H ⟨L, G, X, R, m, ok, t⟩
  simp only [wpS] at t
  split at t
  · rename_i x ex
    obtain ⟨v, e1, r1⟩ := m.val i x ex
    refine ⟨v, e1, L, G, X, _, _, m, ok.ew, t, fun y G1 u H1 k1 o1 t1 => ?_⟩
    refine h σ L X G1 H1 (.d x) y v u _ _ o1.1 (Rds.step m k1.1 (e := .d x) r1) o1.2.1 t1 fun z w H2 k2 o2 q => ?_
    split at q
    · rename_i z
      exact ok.nx _ _ _ _ ((k1.1.trans k2.1).ks.trans ks_set_d) (o2.1.set_d o2.2.1) q
    · exact q.elim
  · exact t.elim
theorem r_drop {e : CE} : ∀ D σ H, rS Γ W (wpS S (.expr e)) D σ H → tDrop (rE Γ W (wpE S e)) D σ H := by
  rintro D σ H ⟨L, G, X, R, m, ok, t⟩
  exact ⟨L, G, X, _, _, m, ok.ew, t, fun y G1 u H1 k1 o1 t1 => ok.nx _ _ _ _ k1.1.ks o1.1 t1⟩
theorem r_ret {e : CE} : ∀ D σ H, rS Γ W (wpS S (.ret e)) D σ H → tRet (rE Γ W (wpE S e)) D σ H := by
  rintro D σ H ⟨L, G, X, R, m, ok, t⟩
  refine ⟨L, G, X, _, _, m, ok.ew, t, fun y G1 u H1 k1 o1 t1 => ?_⟩
  obtain ⟨a, b, c⟩ := out_end k1.1 o1
  exact ok.rt _ _ _ _ a b c t1
theorem r_retT {e : CE} : ∀ D σ H, rS Γ W (wpS S (.retT e)) D σ H → tRet (rE Γ W (wpE S e)) D σ H := by
  rintro D σ H ⟨L, G, X, R, m, ok, t⟩
  refine ⟨L, G, X, _, _, m, ok.ew, t, fun y G1 u H1 k1 o1 t1 => ?_⟩
  split at t1
  · rename_i xs
    obtain ⟨p, vs, ev, nX, m2, h, r⟩ := o1.2.2 xs rfl
    subst ev
    obtain ⟨p', vs', e', _, _, z, _⟩ := o1.2.1
    have gn : G1 p = none := (m2.disX p (.inr rfl)).1
    have al : ∀ q, avG (gup G1 p (.lst xs)) X q → Av σ L G1 (orP X p) q := fun q z => by
      rcases z with z | z
      · by_cases e : q = p
        · exact .inr (.inl (.inr e))
        · rw [gup_ne e] at z; exact .inl z
      · exact .inr (.inl (.inl z))
    refine ok.rt _ _ _ _ (fun q o h1 n _ => ?_) (fun q o hq => ?_) ?_ (t1 p gn)
    · obtain ⟨h2, n2⟩ := k1.1 q o h1 n
      refine ⟨h2, ?_⟩
      by_cases e : q = p
      · subst e; exact (k1.2 xs q o rfl rfl h1 n).elim
      · rw [gup_ne e]; exact n2
    · by_cases e : q = p
      · subst e
        rw [gup_same] at hq
        cases hq
        exact ⟨_, h, vs, rfl, z, r.weak al⟩
      · rw [gup_ne e] at hq
        obtain ⟨ho, h1, h2⟩ := m2.gok q o hq
        exact ⟨ho, h1, h2.step (Stp.weak al)⟩
    · simp only [Rep]
  · exact t1.elim
end
end DL
namespace DL
open PySem PySem.Spec PyProof.Rows L2

section
variable {Γ : Gam} {W : WX} {S : Sg} {σ : St} {L : Loc} {X : Addr → Prop} {G : Gh} {H : Hp}
/-- a tracked object is changed -/
theorem Mt.gch {a : Addr} {o o2 : GO} {ho : HO} (m : Mt Γ σ H L G X) (e : G a = some o) (r : GRep Γ (Av σ L G X) H o2 ho) : Mt Γ σ (upd H a ho) L (gup G a o2) X ∧ Ks σ L G H σ L (gup G a o2) (upd H a ho) := by
  have gn : G a ≠ none := by rw [e]; simp
  have al : ∀ p, Av σ L (gup G a o2) X p → Av σ L G X p := fun p z => by
    rcases z with z | z
    · by_cases h : p = a
      · rw [h]; exact .inl gn
      · rw [gup_ne h] at z; exact .inl z
    · exact .inr z
  have st : Stp (Av σ L G X) H (Av σ L (gup G a o2) X) (upd H a ho) := fun p u h n => by
    have ne : p ≠ a := fun z => n (.inl (by rw [z]; exact gn))
    exact ⟨by rw [upd_ne ne]; exact h, fun z => n (al p z)⟩
  refine ⟨⟨m.len, fun i d e1 => ?_, fun i xs e1 => ?_, m.dist, fun p u e1 => ?_, fun p hp => ?_, fun p hp => ?_⟩, fun p u h n s => ?_⟩
  · obtain ⟨v, h1, h2⟩ := m.val i d e1
    exact ⟨v, h1, h2.step st _ _⟩
  · obtain ⟨p, vs, h1, h2, h3, h4⟩ := m.own i xs e1
    have ne : p ≠ a := fun z => gn (by rw [← z]; exact m.disO p ⟨i, xs, e1, h1⟩)
    exact ⟨p, vs, h1, by rw [upd_ne ne]; exact h2, h3, h4.step st _ _⟩
  · by_cases h : p = a
    · subst h
      rw [gup_same] at e1
      cases e1
      exact ⟨ho, upd_same, r.step st⟩
    · rw [gup_ne h] at e1
      obtain ⟨hu, h1, h2⟩ := m.gok p u e1
      exact ⟨hu, by rw [upd_ne h]; exact h1, h2.step st⟩
  · obtain ⟨h1, h2, h3⟩ := m.disX p hp
    have ne : p ≠ a := fun z => gn (by rw [← z]; exact h1)
    exact ⟨by rw [gup_ne ne]; exact h1, h2, by rw [upd_ne ne]; exact h3⟩
  · have h1 := m.disO p hp
    have ne : p ≠ a := fun z => gn (by rw [← z]; exact h1)
    rw [gup_ne ne]; exact h1
  · have ne : p ≠ a := fun z => gn (by rw [← z]; exact n)
    exact ⟨by rw [upd_ne ne]; exact h, by rw [gup_ne ne]; exact n, s⟩
theorem r_gset {o i v : CE} : ∀ D σ H, rS Γ W (wpS S (.gset o i v)) D σ H → tAsg (rE Γ W (wpE S v)) (gSub (rE Γ W (wpE S o)) (rE Γ W (wpE S i)) rSetL) D σ H := by
  rintro D σ H ⟨L, G, X, R, m, ok, t⟩
  refine ⟨L, G, X, _, _, m, ok.ew, t, fun z G1 v H1 k1 o1 t1 => ?_⟩
  refine ⟨L, G1, X, _, _, o1.1, ok.ew.step k1.1, t1, fun x G2 u H2 k2 o2 t2 => ?_⟩
  refine ⟨L, G2, X, _, _, o2.1, ok.ew.step (k1.1.trans k2.1), t2, fun y G3 w H3 k3 o3 t3 => ?_⟩
  split at t3
  · rename_i a k d ez
    obtain ⟨xs, j, hg, hj, q⟩ := t3
    have ra : u = .ref a := by have := o2.2.1; simpa only [Rds, Rep] using this
    obtain ⟨ho, h1, vs, rfl, hz, rr⟩ := o3.1.gok a _ hg
    have rz := (o1.2.1.step o1.1 (k2.1.trans k3.1)).asD ez
    obtain ⟨m4, k4⟩ := o3.1.gch hg (o2 := .lst (xs.set j d)) (ho := .lst (vs.set j v)) ⟨_, rfl, by rw [List.length_set]; exact hz, rr.set j rz⟩
    exact ⟨a, vs, k, j, ra, rds_int o3.2.1, h1, by rw [rr.len]; exact hj, ok.nx _ _ _ _ (((k1.1.trans k2.1).trans k3.1).ks.trans k4) m4 q⟩
  · exact t3.elim
theorem r_app {i : Nat} {e : CE} : ∀ D σ H, rS Γ W (wpS S (.app i e)) D σ H → tDrop (tBM Γ.K "list" rAppend (tVar i) (tCons (rE Γ W (wpE S e)) tNil)) D σ H := by
  rintro D σ H ⟨L, G, X, R, m, ok, t⟩
  simp only [wpS] at t
  split at t
  · rename_i xs hi
    obtain ⟨p, vs, h1, h2, h3, h4⟩ := m.own i xs hi
    refine ⟨.ref p, h1, .inl ⟨rfl, vs, SqL.of h2⟩, L, G, X, _, _, m, ok.ew, t, fun y G1 u H1 k1 o1 t1 => ?_⟩
    split at t1
    · rename_i d e2
      obtain ⟨hl, q⟩ := t1
      obtain ⟨p', vs', g1, g2, g3, g4⟩ := o1.1.own i xs hi
      rw [h1] at g1; cases g1
      have lv := g4.len
      refine ⟨p, vs', u, rfl, rfl, g2, by rw [lv, sizeLine_eq]; exact hl, ?_⟩
      exact ok.nx _ _ _ _ (k1.1.ks.trans (ks_mut_own hi h1)) (o1.1.mut_own (vs := vs') hi h1 (by rw [List.length_append, List.length_singleton, sizeLine_eq]; omega) (g4.append (RepL.cons (o1.2.1.asD e2) RepL.nil))) q
    · exact t1.elim
  · exact t.elim
theorem r_ext {i : Nat} {e : CE} : ∀ D σ H, rS Γ W (wpS S (.ext i e)) D σ H → tDrop (tBM Γ.K "list" rExtend (tVar i) (tCons (rE Γ W (wpE S e)) tNil)) D σ H := by
  rintro D σ H ⟨L, G, X, R, m, ok, t⟩
  simp only [wpS] at t
  split at t
  · rename_i xs hi
    obtain ⟨p, vs, h1, h2, h3, h4⟩ := m.own i xs hi
    refine ⟨.ref p, h1, .inl ⟨rfl, vs, SqL.of h2⟩, L, G, X, _, _, m, ok.ew, t, fun y G1 u H1 k1 o1 t1 => ?_⟩
    split at t1
    · rename_i ys e2
      obtain ⟨hl, q⟩ := t1
      obtain ⟨p', vs', g1, g2, g3, g4⟩ := o1.1.own i xs hi
      rw [h1] at g1; cases g1
      have lv := g4.len
      obtain ⟨b, zs, rfl, hb, hz, rr⟩ := o1.2.1.lst e2
      have lz := rr.len
      refine ⟨p, b, vs', zs, rfl, rfl, g2, hb, by rw [lv, lz, sizeLine_eq]; exact hl, ?_⟩
      exact ok.nx _ _ _ _ (k1.1.ks.trans (ks_mut_own hi h1)) (o1.1.mut_own (vs := vs') hi h1 (by rw [List.length_append, sizeLine_eq]; omega) (g4.append rr)) q
    · exact t1.elim
  · exact t.elim
theorem r_pop {i : Nat} : ∀ D σ H, rS Γ W (wpS S (.pop i)) D σ H → tDrop (tBM0 Γ.K "list" rPop (tVar i)) D σ H := by
  rintro D σ H ⟨L, G, X, R, m, ok, t⟩
  simp only [wpS] at t
  split at t
  · rename_i xs hi
    obtain ⟨p, vs, h1, h2, h3, h4⟩ := m.own i xs hi
    obtain ⟨ne, q⟩ := t
    have lv := h4.len
    have hlen : 0 < xs.length := List.length_pos_iff.mpr ne
    have hv : vs[vs.length - 1]? = some (vs[vs.length - 1]'(by omega)) := List.getElem?_eq_getElem (by omega)
    refine ⟨.ref p, h1, .inl ⟨rfl, vs, SqL.of h2⟩, p, vs, _, rfl, rfl, h2, hv, ?_⟩
    exact ok.nx _ _ _ _ (ks_mut_own hi h1) (m.mut_own (vs := vs) hi h1 (by rw [List.length_dropLast]; omega) h4.dropLast) q
  · exact t.elim
theorem r_if {t : CB} {a b : CSs} : ∀ D σ H, rS Γ W (wpS S (.ite t a b)) D σ H → tIfS (rB Γ W (wpB S t)) (rS Γ W (wpSs S a)) (rS Γ W (wpSs S b)) D σ H := by
  rintro D σ H ⟨L, G, X, R, m, ok, t⟩
  refine ⟨L, G, X, _, _, m, ok.ew, t, fun x G1 H1 k1 m1 t1 => ?_⟩
  cases x with
  | true => exact ⟨L, G1, X, R, m1, ok.step k1.ks, t1⟩
  | false => exact ⟨L, G1, X, R, m1, ok.step k1.ks, t1⟩
theorem r_whl {t : CB} {b : CSs} : ∀ D σ H, rS Γ W (wpS S (.whl t b)) D σ H → tWhile (rB Γ W (wpB S t)) (rS Γ W (wpSs S b)) D σ H := by
  rintro D σ H ⟨L, G, X, R, m, ok, n, tt⟩
  refine ⟨fun n σ1 H1 => ∃ L1 G1, Ks σ L G H σ1 L1 G1 H1 ∧ Mt Γ σ1 H1 L1 G1 X ∧ wpWh (wpB S t) (wpSs S b) n R L1 G1, ⟨n, L, G, Ks.refl, m, tt⟩, ?_⟩
  rintro n σ1 H1 ⟨L1, G1, k1, m1, t1⟩
  cases n with
  | zero => exact t1.elim
  | succ n =>
    refine ⟨L1, G1, X, _, _, m1, (ok.step k1).ew, t1, fun x G2 H2 k2 m2 t2 => ?_⟩
    cases x with
    | false =>
      rw [if_neg Bool.false_ne_true] at t2 ⊢
      exact ok.nx _ _ _ _ (k1.trans k2.ks) m2 t2
    | true =>
      rw [if_pos rfl] at t2 ⊢
      refine ⟨fun σ' H' => ∃ L' G', Ks σ L G H σ' L' G' H' ∧ Mt Γ σ' H' L' G' X ∧ wpWh (wpB S t) (wpSs S b) n R L' G', fun σ' H' h => ⟨n, Nat.lt_succ_self n, h⟩, ?_⟩
      have o2 := ok.step (k1.trans k2.ks)
      exact ⟨L1, G2, X, { R with nx := fun L2 G2 => wpWh (wpB S t) (wpSs S b) n R L2 G2, ct := fun L2 G2 => wpWh (wpB S t) (wpSs S b) n R L2 G2, bk := R.nx }, m2, ⟨fun s3 L3 G3 H3 q mm z => ⟨L3, G3, (k1.trans k2.ks).trans q, mm, z⟩, fun s3 L3 G3 H3 q mm z => o2.nx s3 L3 G3 H3 q mm z, fun s3 L3 G3 H3 q mm z => ⟨L3, G3, (k1.trans k2.ks).trans q, mm, z⟩, o2.rt, o2.ex⟩, t2⟩
theorem r_for {g : CT} {it : CI} {b : CSs} : ∀ D σ H, rS Γ W (wpS S (.for g it b)) D σ H → tFor (rI Γ W (wpI S it)) (rG Γ g) (rS Γ W (wpSs S b)) D σ H := by
  rintro D σ H ⟨L, G, X, R, m, ok, t⟩
  refine ⟨L, G, X, _, _, m, ok.ew, t, fun items G1 J H1 k1 m1 wk t1 => ?_⟩
  obtain ⟨Gd, Y, w, hz, wk⟩ := wk
  refine for_it w (fun i σ' H' => ∃ L' G', Ks σ L G1 H1 σ' L' G' H' ∧ Mt Γ σ' H' L' G' X ∧ wpFor (bindT g) (wpSs S b) (items.drop i) R L' G') ⟨L, G1, Ks.refl, m1, by simpa using t1⟩ ?_ ?_ ?_
  · rintro i σ' H' hi ⟨L', G', k', m', _⟩
    exact (wk _ H' k'.stp fun p hp => m'.there hp).1
  · rintro i x σ' H' H3 hi ⟨L', G', k', m', tn⟩ y
    obtain ⟨gr, d, hd, rd⟩ := (wk _ H' k'.stp fun p hp => m'.there hp).2 i x H3 hi y
    have hlt : i < items.length := hi
    have dr : items.drop i = d :: items.drop (i + 1) := by
      rw [List.drop_eq_getElem_cons hlt]
      congr 1
      rw [List.getElem?_eq_getElem hlt] at hd
      exact Option.some.inj hd
    rw [dr] at tn
    have kg : Kp G' H' G' H3 := by
      rcases gr with e | ⟨T, xs, hT, e⟩
      · subst e; exact Kp.refl
      · subst e; exact kp_alloc hT
    have m3 : Mt Γ σ' H3 L' G' X := by
      rcases gr with e | ⟨T, xs, hT, e⟩
      · subst e; exact m'
      · subst e; exact m'.alloc hT
    refine ⟨L', G', X, d, _, m3, rd, tn, fun σ2 L2 p2 m2 k2 _ => ?_⟩
    have kk : Ks σ L G1 H1 σ2 L2 G' H3 := (k'.trans kg.ks).trans k2
    have o2 := ok.step (k1.ks.trans kk)
    exact ⟨L2, G', X, { R with nx := fun L2 G2 => wpFor (bindT g) (wpSs S b) (items.drop (i + 1)) R L2 G2, ct := fun L2 G2 => wpFor (bindT g) (wpSs S b) (items.drop (i + 1)) R L2 G2, bk := R.nx }, m2, ⟨fun s3 L3 G3 H4 q mm z => ⟨L3, G3, kk.trans q, mm, z⟩, fun s3 L3 G3 H4 q mm z => o2.nx s3 L3 G3 H4 q mm z, fun s3 L3 G3 H4 q mm z => ⟨L3, G3, kk.trans q, mm, z⟩, o2.rt, o2.ex⟩, p2⟩
  · rintro σ' H' ⟨L', G', k', m', tn⟩
    have dn : items.drop items.length = [] := List.drop_length
    rw [dn] at tn
    exact ok.nx _ _ _ _ (k1.ks.trans k') m' tn
theorem r_seq {s : CS} {r : CSs} : ∀ D σ H, rS Γ W (wpSs S (.cons s r)) D σ H → tSeq (rS Γ W (wpS S s)) (rS Γ W (wpSs S r)) D σ H := by
  rintro D σ H ⟨L, G, X, R, m, ok, t⟩
  exact ⟨L, G, X, { R with nx := fun L1 G1 => wpSs S r R L1 G1 }, m, ⟨fun s3 L3 G3 H3 q mm z => ⟨L3, G3, X, R, mm, ok.step q, z⟩, ok.bk, ok.ct, ok.rt, ok.ex⟩, t⟩
end

section
variable {Γ : Gam} {M : Tb} {S : Sg}
theorem star_cons' {e : Expr} {env : Env} (h : okE e = true) : starEach [e] env = [(false, eval e env)] := star_cons h
theorem ps_meth1 {X : Cx} {I : Info} {i : Nat} {x : Str} {e' : Expr} {nm : Str} {id : String} {r : V → List V → Hp → VK → Prop} {t : TE} {p1 apos cpos q : Pos} (g : Good Γ M S I X) (hi : I.N[i]? = some x) (hv : visB I x = true) (hn : nmB x = true)
    (hl : (apos.endLine == cpos.line) = true) (ho : okE e' = true) (slot : Slot "list" nm id) (hty : typeOf (.builtin id) = pure (.type "method_descriptor")) (hm : MtM X id r) (ha : PE X e' t) :
    PS X (.Expr (.Call (.Attribute (.Name x p1) nm apos) [e'] [] cpos) q) (tDrop (tBM X.K "list" r (tVar i) (tCons t tNil))) := by
  obtain ⟨n1, n2, _⟩ := nm_of hn
  refine ps_expr (pe_bm PySem.F.plainAttrs_list slot hty hm (pe_var (by rw [g.N]; exact hi) (g.vis hv) n1 n2) (pa_cons ha pa_nil (star_cons' ho)) rfl ?_ hl (star_cons' ho) rfl)
  rw [star_cons' ho]
  rfl
theorem swD_asg {v' : Expr} {o i : Expr} {p : Pos} {l : Nat} {env : Env} (h : swD v' 0 = true) : swapsWithSole [.Subscript o i p] v' l env = pure false := by
  unfold swD lcOf at h
  cases v' <;> first | rfl | (exact absurd h Bool.false_ne_true)

mutual
theorem soundS : ∀ (c : CS) (I : Info) (X : Cx) (W : WX) (s : Stmt), Good Γ M S I X → Takes X W → PassesOwn (model X.prog X.w) X.A X.env X.xe → chkS M I c s = true → PS X s (rS Γ W (wpS S c))
  | .set i e, I, X, W, s, g, tk, hp, h => by
    unfold chkS at h
    split at h
    · simp only [Bool.and_eq_true, decide_eq_true_eq] at h
      obtain ⟨⟨⟨h1, h2⟩, h3⟩, h4⟩ := h
      obtain ⟨l1, l2⟩ := g.st h2
      rename_i x p e' q
      cases hsw : swB I e' x p.line with
      | false =>
        exact PS.imp (ps_set (by rw [g.N]; exact g.nd) (by rw [g.N]; exact h1) l1 (soundE e I X W _ g tk h3) (by rw [sw_of g, hsw]) l2) r_set
      | true =>
        rw [hsw] at h4
        cases e with
        | comp t it ifs el vs =>
          have h := h3
          unfold chkE at h
          split at h
          · simp only [Bool.and_eq_true, List.all_eq_true] at h
            obtain ⟨⟨⟨⟨⟨⟨a1, a2⟩, a3⟩, a4⟩, a5⟩, a6⟩, a7⟩ := h
            have bk := blkOk_by a1
            rename_i elt tg iter ifs' scope p2
            have hk : scope.kind = .function := by
              unfold blkC at a1
              simp only [Bool.and_eq_true] at a1
              have := a1.1.1.1
              split at this
              · assumption
              · cases this
            have hv : (vs.map fun i => (I.N.getD i Str.empty, i)).map (·.2) = vs := by rw [List.map_map]; exact List.map_id' vs
            have hyl : X.env.scope.names.lookup x = some .local := by
              rw [g.sc]
              unfold swB lcOf at hsw
              simp only [Bool.and_eq_true, beq_iff_eq] at hsw
              exact hsw.1.1
            have e1 := ps_setLc (X := X) (pos := p2) (spos := q) (py := p) g.calm (by rw [g.N]; exact g.nd) (by rw [g.N]; exact h1) hyl (by rw [sw_of g, hsw]) (soundI it I X W tg iter g tk a2) (by rw [g.N, g.sc]; exact bk)
              (fun s H C cl fp => soundT (g.blk s H scope hk C cl fp) t tg a4)
              (fun s H C cl fp => soundBs ifs (subI I scope) _ W0 ifs' (g.blk s H scope hk C cl fp) takes0 a6)
              (fun s H C cl fp => soundE el (subI I scope) _ W0 elt (g.blk s H scope hk C cl fp) takes0 a7) (fold_of a3)
            rw [hv] at e1
            refine PS.imp e1 fun D σ H hh => ?_
            exact r_comp (S := S) (fun i hi => by have := a5 i hi; simpa using this) σ H _ (r_set D σ H hh)
          · cases h
        | _ => cases h4
    · cases h
  | .setF i e, I, X, W, s, g, tk, hp, h => by
    unfold chkS at h
    split at h
    · simp only [Bool.and_eq_true, decide_eq_true_eq] at h
      obtain ⟨⟨⟨h1, h2⟩, h3⟩, h4⟩ := h
      obtain ⟨l1, l2⟩ := g.st h2
      rename_i x p e' q
      cases hsw : swB I e' x p.line with
      | false =>
        exact PS.imp (ps_set (by rw [g.N]; exact g.nd) (by rw [g.N]; exact h1) l1 (soundE e I X W _ g tk h3) (by rw [sw_of g, hsw]) l2) r_setF
      | true =>
        rw [hsw] at h4
        cases e with
        | comp t it ifs el vs =>
          have h := h3
          unfold chkE at h
          split at h
          · simp only [Bool.and_eq_true, List.all_eq_true] at h
            obtain ⟨⟨⟨⟨⟨⟨a1, a2⟩, a3⟩, a4⟩, a5⟩, a6⟩, a7⟩ := h
            have bk := blkOk_by a1
            rename_i elt tg iter ifs' scope p2
            have hk : scope.kind = .function := by
              unfold blkC at a1
              simp only [Bool.and_eq_true] at a1
              have := a1.1.1.1
              split at this
              · assumption
              · cases this
            have hv : (vs.map fun i => (I.N.getD i Str.empty, i)).map (·.2) = vs := by rw [List.map_map]; exact List.map_id' vs
            have hyl : X.env.scope.names.lookup x = some .local := by
              rw [g.sc]
              unfold swB lcOf at hsw
              simp only [Bool.and_eq_true, beq_iff_eq] at hsw
              exact hsw.1.1
            have e1 := ps_setLc (X := X) (pos := p2) (spos := q) (py := p) g.calm (by rw [g.N]; exact g.nd) (by rw [g.N]; exact h1) hyl (by rw [sw_of g, hsw]) (soundI it I X W tg iter g tk a2) (by rw [g.N, g.sc]; exact bk)
              (fun s H C cl fp => soundT (g.blk s H scope hk C cl fp) t tg a4)
              (fun s H C cl fp => soundBs ifs (subI I scope) _ W0 ifs' (g.blk s H scope hk C cl fp) takes0 a6)
              (fun s H C cl fp => soundE el (subI I scope) _ W0 elt (g.blk s H scope hk C cl fp) takes0 a7) (fold_of a3)
            rw [hv] at e1
            refine PS.imp e1 fun D σ H hh => ?_
            exact r_comp (S := S) (fun i hi => by have := a5 i hi; simpa using this) σ H _ (r_setF D σ H hh)
          · cases h
        | _ => cases h4
    · cases h
  | .asg t e, I, X, W, s, g, tk, hp, h => by
    unfold chkS at h
    split at h
    · simp only [Bool.and_eq_true] at h
      obtain ⟨⟨h1, h2⟩, h3⟩ := h
      refine PS.imp (ps_asg (soundE e I X W _ g tk h2) (soundT g t _ h1) ?_ (swN_of g h3)) r_asg
      rename_i e' _
      unfold swapsWithSole swapsWith
      cases e' <;> rfl
    · cases h
  | .par i j a b, I, X, W, s, g, tk, hp, h => by
    unfold chkS at h
    split at h
    · simp only [Bool.and_eq_true, decide_eq_true_eq] at h
      obtain ⟨⟨⟨⟨⟨⟨⟨h1, h2⟩, h3⟩, h4⟩, h5⟩, h6⟩, h7⟩, h8⟩ := h
      have h4' := h4
      unfold par2B at h4
      simp only [Bool.and_eq_true, beq_iff_eq] at h4
      exact PS.imp (ps_par g.calm (by rw [g.N]; exact g.nd) (by rw [g.N]; exact h1) (by rw [g.N]; exact h2) h3 (by rw [g.sc]; exact h4.1.1.1.1.1.1.1) (by rw [g.sc]; exact h4.1.1.1.1.1.1.2)
        (pa_cons (soundE a I X W _ g tk h5) (pa_cons (soundE b I X W _ g tk h6) pa_nil (star_cons h8)) (star_cons h7)) (par2_of g h4')) r_par
    · cases h
  | .par3 i j l a b c, I, X, W, s, g, tk, hp, h => by
    unfold chkS at h
    split at h
    · simp only [Bool.and_eq_true, decide_eq_true_eq] at h
      obtain ⟨⟨⟨⟨⟨⟨⟨⟨⟨⟨⟨⟨h1, h2⟩, h2'⟩, h3⟩, h3'⟩, h3''⟩, h4⟩, h5⟩, h6⟩, h6'⟩, h7⟩, h8⟩, h9⟩ := h
      have h4' := h4
      unfold par3B at h4
      simp only [Bool.and_eq_true, beq_iff_eq] at h4
      exact PS.imp (ps_par3 g.calm (by rw [g.N]; exact g.nd) (by rw [g.N]; exact h1) (by rw [g.N]; exact h2) (by rw [g.N]; exact h2') h3 h3' h3'' (by rw [g.sc]; exact h4.1.1.1.1.1.1.1.1.1.1.1) (by rw [g.sc]; exact h4.1.1.1.1.1.1.1.1.1.1.2) (by rw [g.sc]; exact h4.1.1.1.1.1.1.1.1.1.2)
        (pa_cons (soundE a I X W _ g tk h5) (pa_cons (soundE b I X W _ g tk h6) (pa_cons (soundE c I X W _ g tk h6') pa_nil (star_cons h9)) (star_cons h8)) (star_cons h7)) (par3_of g h4')) r_par3
    · cases h
  | .aug i o e, I, X, W, s, g, tk, hp, h => by
    unfold chkS at h
    split at h
    · simp only [Bool.and_eq_true, decide_eq_true_eq] at h
      obtain ⟨⟨⟨h1, h2⟩, h3⟩, h4⟩ := h
      obtain ⟨r, ho, hs⟩ := iop_ok (X := X) (Γ := Γ) o _ h3
      obtain ⟨l1, l2⟩ := g.st h2
      exact PS.imp (ps_aug (by rw [g.N]; exact g.nd) (by rw [g.N]; exact h1) l1 (soundE e I X W _ g tk h4) ho l2) (r_aug hs)
    · cases h
  | .app i e, I, X, W, s, g, tk, hp, h => by
    unfold chkS at h
    split at h
    · simp only [Bool.and_eq_true, decide_eq_true_eq] at h
      obtain ⟨⟨⟨⟨⟨⟨h0, h1⟩, h2⟩, h3⟩, h4⟩, h5⟩, h6⟩ := h
      subst h0
      exact PS.imp (ps_meth1 g h1 h2 h3 h4 h5 PySem.F.slot_list_append PySem.F.type_list_append mt_append (soundE e I X W _ g tk h6)) (by rw [g.K]; exact r_app)
    · cases h
  | .ext i e, I, X, W, s, g, tk, hp, h => by
    unfold chkS at h
    split at h
    · simp only [Bool.and_eq_true, decide_eq_true_eq] at h
      obtain ⟨⟨⟨⟨⟨⟨h0, h1⟩, h2⟩, h3⟩, h4⟩, h5⟩, h6⟩ := h
      subst h0
      exact PS.imp (ps_meth1 g h1 h2 h3 h4 h5 PySem.F.slot_list_extend PySem.F.type_list_extend mt_extend (soundE e I X W _ g tk h6)) (by rw [g.K]; exact r_ext)
    · cases h
  | .pop i, I, X, W, s, g, tk, hp, h => by
    unfold chkS at h
    split at h
    · simp only [Bool.and_eq_true, decide_eq_true_eq] at h
      obtain ⟨⟨⟨⟨h0, h1⟩, h2⟩, h3⟩, h4⟩ := h
      subst h0
      obtain ⟨n1, n2, _⟩ := nm_of h3
      exact PS.imp (ps_expr (pe_bm0 PySem.F.plainAttrs_list PySem.F.slot_list_pop PySem.F.type_list_pop mt_pop (pe_var (by rw [g.N]; exact h1) (g.vis h2) n1 n2) rfl h4)) (by rw [g.K]; exact r_pop)
    · cases h
  | .expr e, I, X, W, s, g, tk, hp, h => by
    unfold chkS at h
    split at h
    · simp only [Bool.and_eq_true] at h
      exact PS.imp (ps_expr (soundE e I X W _ g tk h.2) (swD_of _ _ _ _ h.1)) r_drop
    · split at h
      · refine PS.imp ps_pass ?_
        rintro D σ H ⟨L, G, X, R, m, ok, t⟩
        exact ok.nx _ _ _ _ Ks.refl m t
      · cases h
    · cases h
  | .ret e, I, X, W, s, g, tk, hp, h => by
    unfold chkS at h
    split at h
    · exact PS.imp (ps_ret (soundE e I X W _ g tk h)) r_ret
    · split at h
      · refine PS.imp ps_retN ?_
        rintro D σ H ⟨L, G, X, R, m, ok, t⟩
        have o : Out Γ σ L X G H (.d .non) .non := Out.d m (by simp only [Rep])
        obtain ⟨a, b, c⟩ := out_end Kp.refl o
        exact ok.rt _ _ _ _ a b c t
      · cases h
    · cases h
  | .retT e, I, X, W, s, g, tk, hp, h => by
    unfold chkS at h
    split at h
    · exact PS.imp (ps_ret (soundE e I X W _ g tk h)) r_retT
    · cases h
  | .ite t a b, I, X, W, s, g, tk, hp, h => by
    unfold chkS at h
    split at h
    · simp only [Bool.and_eq_true] at h
      exact PS.imp (ps_if (soundB t I X W _ g tk h.1.1) (soundSs a I X W _ g tk hp h.1.2) (soundSs b I X W _ g tk hp h.2)) r_if
    · cases h
  | .whl t b, I, X, W, s, g, tk, hp, h => by
    unfold chkS at h
    split at h
    · simp only [Bool.and_eq_true] at h
      exact PS.imp (ps_while hp (soundB t I X W _ g tk h.1) (soundSs b I X W _ g tk hp h.2)) r_whl
    · cases h
  | .for t it b, I, X, W, s, g, tk, hp, h => by
    unfold chkS at h
    split at h
    · simp only [Bool.and_eq_true] at h
      obtain ⟨⟨⟨h1, h2⟩, h3⟩, h4⟩ := h
      exact PS.imp (ps_for hp g.calm (soundI it I X W _ _ g tk h3) (soundT g t _ h1) (soundSs b I X W _ g tk hp h4) (fold_of h2)) r_for
    · cases h
  | .gset o i v, I, X, W, s, g, tk, hp, h => by
    unfold chkS at h
    split at h
    · simp only [Bool.and_eq_true] at h
      obtain ⟨⟨⟨⟨h1, h2⟩, h3⟩, h4⟩, h5⟩ := h
      refine PS.imp (ps_asg (soundE v I X W _ g tk h4) (pg_sub (soundE o I X W _ g tk h1) (soundE i I X W _ g tk h3) set_list ?_) (swD_asg h5)) r_gset
      intro v
      rename_i i' _ _ _
      cases i' <;> first | rfl | (exact absurd h2 Bool.false_ne_true)
    · cases h
  | .brk, I, X, W, s, g, tk, hp, h => by
    unfold chkS at h
    split at h
    · refine PS.imp ps_break ?_
      rintro D σ H ⟨L, G, X, R, m, ok, t⟩
      exact ok.bk _ _ _ _ Ks.refl m t
    · cases h
  | .cnt, I, X, W, s, g, tk, hp, h => by
    unfold chkS at h
    split at h
    · refine PS.imp ps_continue ?_
      rintro D σ H ⟨L, G, X, R, m, ok, t⟩
      exact ok.ct _ _ _ _ Ks.refl m t
    · cases h
  | .nev, I, X, W, s, g, tk, hp, h => ⟨fun pins s σ H D I ⟨L, G, Xs, R, m, ok, t⟩ => (show False from t).elim⟩
theorem soundSs : ∀ (c : CSs) (I : Info) (X : Cx) (W : WX) (s : List Stmt), Good Γ M S I X → Takes X W → PassesOwn (model X.prog X.w) X.A X.env X.xe → chkSs M I c s = true → PSs X s (rS Γ W (wpSs S c))
  | .nil, I, X, W, s, g, tk, hp, h => by
    unfold chkSs at h
    split at h
    · refine PSs.imp pss_nil ?_
      rintro D σ H ⟨L, G, X, R, m, ok, t⟩
      exact ok.nx _ _ _ _ Ks.refl m t
    · cases h
  | .cons c r, I, X, W, s, g, tk, hp, h => by
    unfold chkSs at h
    split at h
    · simp only [Bool.and_eq_true] at h
      exact PSs.imp (pss_cons (soundS c I X W _ g tk hp h.1) (soundSs r I X W _ g tk hp h.2)) r_seq
    · cases h
  | .frz i r, I, X, W, s, g, tk, hp, h => by
    refine PSs.imp (soundSs r I X W s g tk hp h) ?_
    rintro D σ H ⟨L, G, X, R, m, ok, t⟩
    simp only [wpSs] at t
    split at t
    · rename_i xs hi
      exact ⟨_, G, X, R, m.frz hi, ok.step ks_frz, t⟩
    · exact t.elim
end
end
end DL
namespace DL
open PySem PySem.Spec PyProof.Rows L2

def startL (N : List Str) (ds : List D) : Loc := ds.map (fun d => some (.d d)) ++ List.replicate (N.length - ds.length) none
/-- what a body does to data -/
def runB (S : Sg) (N : List Str) (c : CSs) : DSp := fun ds G Q E => wpSs S c { nx := fun _ G => Q .non G, rt := Q, bk := fun _ _ => False, ct := fun _ _ => False, ex := fun x _ G => E x G } (startL N ds) G

/-- what stands in the module, for code that goes kk deep at most -/
structure Mod (Γ : Gam) (P : Program) (w : World) (mg : Str → Option Value) (base : Heap) (kk : Nat) (M : Tb) (S : Sg) : Prop where
  fns : ∀ k x, M.fn k = some x → ∃ f fd ps j, j ≤ kk ∧ FnOk P w Γ.K mg base (L2.CX P w) j f fd ps (lift Γ (S.sp k)) ∧ mg x = some (.ref f) ∧ PySem.W.keepIn Γ.K (.ref f) = true ∧ Binds Γ.K fd ps []
  gcs : ∀ n x, M.gc n = some x → ∃ u v, mg x = some u ∧ RelV v u ∧ CRep Γ (S.gc n) v
  blt : ∀ x ∈ bltNames, mg (Str.ofString x) = none

section
variable {Γ : Gam} {P : Program} {w : World} {mg : Str → Option Value} {base : Heap}
theorem start_get {N : List Str} {vs : List V} {i : Nat} {v : V} (h : vs[i]? = some v) : (L2.start N vs)[i]? = some (some v) := by
  unfold L2.start
  have hl : i < vs.length := (List.getElem?_eq_some_iff.mp h).1
  rw [List.getElem?_append_left (by rw [List.length_map]; exact hl), List.getElem?_map, h]
  rfl
theorem startL_some {N : List Str} {ds : List D} {i : Nat} {x : SV} (h : (startL N ds)[i]? = some (some x)) : ∃ d, ds[i]? = some d ∧ x = .d d := by
  unfold startL at h
  by_cases hl : i < ds.length
  · rw [List.getElem?_append_left (by rw [List.length_map]; exact hl), List.getElem?_map, List.getElem?_eq_getElem hl] at h
    exact ⟨ds[i], List.getElem?_eq_getElem hl, by cases h; rfl⟩
  · rw [List.getElem?_append_right (by rw [List.length_map]; omega)] at h
    rw [List.getElem?_replicate] at h
    split at h <;> cases h
theorem mt_start {N : List Str} {ds : List D} {vs : List V} {G : Gh} {X : Addr → Prop} {H : Hp} (hl : ds.length ≤ N.length) (g : GOk Γ (avG G X) H G) (dis : ∀ p, X p → G p = none ∧ H p ≠ none) (r : RepL Γ (avG G X) H ds vs) : Mt Γ (L2.start N vs) H (startL N ds) G X := by
  have lv := r.len
  have no : ∀ p, ¬ SO (L2.start N vs) (startL N ds) p := fun p ⟨i, xs, h, _⟩ => by
    obtain ⟨d, _, e⟩ := startL_some h
    cases e
  have al : ∀ p, Av (L2.start N vs) (startL N ds) G X p → avG G X p := fun p z => by
    rcases z with z | z | z
    · exact .inl z
    · exact .inr z
    · exact (no p z).elim
  refine ⟨?_, fun i d h => ?_, fun i xs h => ?_, fun i j xs ys p h => ?_, fun p o h => ?_, fun p hp => ⟨(dis p hp).1, no p, (dis p hp).2⟩, fun p hp => (no p hp).elim⟩
  · unfold startL L2.start
    rw [List.length_append, List.length_append, List.length_map, List.length_map, List.length_replicate, List.length_replicate, lv]
  · obtain ⟨d', h1, h2⟩ := startL_some h
    cases h2
    obtain ⟨v, h3, h4⟩ := r.get h1
    exact ⟨v, start_get h3, h4.weak al⟩
  · obtain ⟨d, _, e⟩ := startL_some h
    cases e
  · obtain ⟨d, _, e⟩ := startL_some h
    cases e
  · obtain ⟨ho, h1, h2⟩ := g p o h
    exact ⟨ho, h1, h2.step (Stp.weak al)⟩

/-- THE RULE for a def -/
theorem fn_ok {kk : Nat} {M : Tb} {S : Sg} {x qual : Str} {st : Stmt} {f : Addr} {fd : FuncData} {N ps : List Str} {c : CSs} {T : DSp} (F : Fun Γ.K x qual st f fd) (SC : FnScope N ps (defScope st)) (mod : Mod Γ P w mg base kk M S)
    (chk : chkSs M ⟨N, defScope st, fun _ => true⟩ c (defBody st) = true) (len : ∀ ds G Q E, T ds G Q E → ds.length = ps.length)
    (law : ∀ ds G Q E, T ds G Q E → runB S N c ds G Q E) : FnOk P w Γ.K mg base (L2.CX P w) (kk + 1) f fd ps (lift Γ T) := by
  have hpl : ps.length ≤ N.length := by have := congrArg List.length SC.pre; rw [List.length_take] at this; omega
  refine F.okX SC (fun vs H Q E h => ?_) (fun cdv A outer s H vs Q E hr h => ?_)
  · obtain ⟨ds, G, X, Qd, Ed, g, dis, r, t, _⟩ := h
    rw [r.len]
    exact len _ _ _ _ t
  · obtain ⟨ds, G, X, Qd, Ed, g, dis, r, t, c1, c2⟩ := h
    have hl := len _ _ _ _ t
    refine ⟨_, soundSs (Γ := Γ) (M := M) (S := S) c ⟨N, defScope st, fun _ => true⟩ (cxOf (L2.CX P w) P w Γ.K mg base N qual (defScope st) f cdv A outer s H E) (fun cls d _ H => E cls d H) (defBody st)
      ⟨rfl, rfl, SC.nd, rfl, SC.kind, rfl, rfl, hr.mono (Nat.zero_le _), fun k x hk => ?_, mod.gcs, mod.blt⟩ (takes_of rfl rfl rfl rfl) (passes_of rfl) chk, ?_⟩
    · obtain ⟨f', fd', ps', j, hj, a1, a2, a3, a4⟩ := mod.fns k x hk
      exact ⟨f', fd', ps', j, a1, hr.mono hj, a2, a3, a4⟩
    · have m := mt_start (N := N) (by omega) g dis r
      have no : ∀ p, ¬ SO (L2.start N vs) (startL N ds) p := fun p ⟨i, xs, h, _⟩ => by
        obtain ⟨d, _, e⟩ := startL_some h
        cases e
      refine ⟨startL N ds, G, X, { nx := fun _ G => Qd .non G, rt := Qd, bk := fun _ _ => False, ct := fun _ _ => False, ex := fun x _ G => Ed x G }, m, ⟨fun s2 L2 G2 H2 k m2 q => ?_, fun s2 L2 G2 H2 k m2 q => q.elim, fun s2 L2 G2 H2 k m2 q => q.elim, fun d G2 v H2 k g2 r2 q => ?_, fun x s2 L2 G2 cls d H2 k m2 xr q => ?_⟩, law _ _ _ _ t⟩
      · have al : ∀ p, avG G2 X p → Av s2 L2 G2 X p := fun p z => by
          rcases z with z | z
          · exact .inl z
          · exact .inr (.inl z)
        exact c1 .non G2 .non H2 (fun p o h n => let ⟨a, b, _⟩ := k p o h n (no p); ⟨a, b⟩) (fun p o h => let ⟨ho, a, b⟩ := m2.gok p o h; ⟨ho, a, b.step (Stp.weak al)⟩) (by simp only [Rep]) q
      · exact c1 d G2 v H2 (fun p o h n => k p o h n (no p)) g2 r2 q
      · have al : ∀ p, avG G2 X p → Av s2 L2 G2 X p := fun p z => by
          rcases z with z | z
          · exact .inl z
          · exact .inr (.inl z)
        refine c2 x G2 cls d H2 (fun p o h n => let ⟨a, b, _⟩ := k p o h n (no p); ⟨a, b⟩) (fun p o h => let ⟨ho, a, b⟩ := m2.gok p o h; ⟨ho, a, b.step (Stp.weak al)⟩) ?_ q
        obtain ⟨C, fn, e1, e2, e3⟩ := xr
        refine ⟨C, fn, e1, e2, ?_⟩
        rcases e3 with e3 | ⟨dx, fs, vs, e3, e4, e5, e6⟩
        · exact .inl e3
        · exact .inr ⟨dx, fs, vs, e3, e4, e5, e6.weak al⟩

/-- a new list comes; as the draws' object -/
def TstreamL : DSp := fun ds G Q _ => ∃ ns : List Int, ds = [.slst (ns.map .int)] ∧ ns.length ≤ 63 ∧ ∀ p m, G p = none → 0 ≤ m → m < 2147483647 → Q (.ref p) (gup G p (.lst [.lst (ns.map .int), .int 0, .int 0, .int m]))
def Tstream : DSp := fun ds G Q _ => ∃ ns : List Int, ds = [.slst (ns.map .int)] ∧ ns.length ≤ 63 ∧ ∀ p, G p = none → Q (.ref p) (gup G p .strm)
def TdrawL : DSp := fun ds G Q _ => ∃ a many ns c k m, ds = [.ref a, .int many] ∧ 1 ≤ many ∧ many ≤ 65536 ∧ StrmOk ns c k m ∧ G a = some (.lst [.lst (ns.map .int), .int c, .int k, .int m]) ∧
  ∀ r c' k' m', 0 ≤ r → r < many → StrmOk ns c' k' m' → Q (.int r) (gup G a (.lst [.lst (ns.map .int), .int c', .int k', .int m']))
def Tdraw : DSp := fun ds G Q _ => ∃ a many, ds = [.ref a, .int many] ∧ 1 ≤ many ∧ many ≤ 65536 ∧ G a = some .strm ∧ ∀ r, 0 ≤ r → r < many → Q (.int r) G
theorem grep_strm {av : Addr → Prop} {H : Hp} {ho : HO} {ns : List Int} {c k m : Int} (ok : StrmOk ns c k m) (h : GRep Γ av H (.lst [.lst (ns.map .int), .int c, .int k, .int m]) ho) : GRep Γ av H .strm ho := by
  obtain ⟨vs, rfl, hz, rr⟩ := h
  obtain ⟨v1, r1, rfl, h1, rr⟩ := rr.cons_inv
  obtain ⟨v2, r2, rfl, h2, rr⟩ := rr.cons_inv
  obtain ⟨v3, r3, rfl, h3, rr⟩ := rr.cons_inv
  obtain ⟨v4, r4, rfl, h4, rr⟩ := rr.cons_inv
  obtain rfl := rr.nil_inv
  simp only [Rep] at h1 h2 h3 h4
  obtain ⟨p, us, rfl, ⟨hp, np⟩, _, ru⟩ := h1
  subst h2; subst h3; subst h4
  obtain rfl := ru.ints
  exact ⟨p, ns, c, k, m, rfl, hp, np, ok⟩
theorem strm_grep {av : Addr → Prop} {H : Hp} {ho : HO} (h : GRep Γ av H .strm ho) : ∃ ns c k m, StrmOk ns c k m ∧ GRep Γ av H (.lst [.lst (ns.map .int), .int c, .int k, .int m]) ho := by
  obtain ⟨q, ns, c, k, m, rfl, hq, nq, ok⟩ := h
  refine ⟨ns, c, k, m, ok, _, rfl, by rw [sizeLine_eq]; show 4 ≤ 16777216; omega, RepL.cons ?_ (RepL.cons (by simp only [Rep]) (RepL.cons (by simp only [Rep]) (RepL.cons (by simp only [Rep]) RepL.nil)))⟩
  simp only [Rep]
  exact ⟨q, _, rfl, ⟨hq, nq⟩, by rw [List.length_map, sizeLine_eq]; have := ok.1; omega, RepL.of_ints⟩
/-- the same addresses are tracked -/
theorem avG_same {G G2 : Gh} {X : Addr → Prop} (h : ∀ p, G p = none ↔ G2 p = none) : avG G X = avG G2 X := by
  funext p
  apply propext
  unfold avG
  have := h p
  constructor
  · rintro (z | z)
    · exact .inl fun w => z (this.mpr w)
    · exact .inr z
  · rintro (z | z)
    · exact .inl fun w => z (this.mp w)
    · exact .inr z
theorem gup_none {G : Gh} {p q : Addr} {o : GO} : gup G p o q = none ↔ q ≠ p ∧ G q = none := by
  by_cases e : q = p
  · subst e; rw [gup_same]; simp
  · rw [gup_ne e]; simp [e]
theorem stream_conv {vs : List V} {H : Hp} {Q : VK} {E : XK} (h : lift Γ Tstream vs H Q E) : lift Γ TstreamL vs H Q E := by
  obtain ⟨ds, G, X, Qd, Ed, g, dis, r, ⟨ns, rfl, hn, t⟩, c1, c2⟩ := h
  refine ⟨_, G, X, fun d G2 => ∃ p m, d = .ref p ∧ G p = none ∧ 0 ≤ m ∧ m < 2147483647 ∧ G2 = gup G p (.lst [.lst (ns.map .int), .int 0, .int 0, .int m]), Ed, g, dis, r, ⟨ns, rfl, hn, fun p m h1 h2 h3 => ⟨p, m, rfl, h1, h2, h3, rfl⟩⟩, ?_, c2⟩
  rintro d G2 v H2 k2 g2 r2 ⟨p, m, rfl, gp, m0, m1, rfl⟩
  have sm : avG (gup G p (.lst [.lst (ns.map .int), .int 0, .int 0, .int m])) X = avG (gup G p .strm) X := avG_same fun q => by rw [gup_none, gup_none]
  rw [sm] at g2 r2
  refine c1 (.ref p) (gup G p .strm) v H2 (fun q o h1 h2 => ?_) (fun q o hq => ?_) r2 (t p gp)
  · obtain ⟨a, b⟩ := k2 q o h1 h2
    exact ⟨a, gup_none.mpr (gup_none.mp b)⟩
  · by_cases e : q = p
    · subst e
      rw [gup_same] at hq
      cases hq
      obtain ⟨ho, h1, h2⟩ := g2 q _ gup_same
      exact ⟨ho, h1, grep_strm ⟨hn, by omega, by omega, by omega, m0, m1⟩ h2⟩
    · rw [gup_ne e] at hq
      exact g2 q o (by rw [gup_ne e]; exact hq)
theorem draw_conv {vs : List V} {H : Hp} {Q : VK} {E : XK} (h : lift Γ Tdraw vs H Q E) : lift Γ TdrawL vs H Q E := by
  obtain ⟨ds, G, X, Qd, Ed, g, dis, r, ⟨a, many, rfl, l1, l2, ga, t⟩, c1, c2⟩ := h
  obtain ⟨ho, h1, h2⟩ := g a _ ga
  obtain ⟨ns, c, k, m, ok, h3⟩ := strm_grep h2
  have gn : ∀ q, gup G a (.lst [.lst (ns.map .int), .int c, .int k, .int m]) q = none ↔ G q = none := fun q => by
    rw [gup_none]
    refine ⟨fun z => z.2, fun z => ⟨fun e => ?_, z⟩⟩
    rw [e, ga] at z; cases z
  have sm : avG (gup G a (.lst [.lst (ns.map .int), .int c, .int k, .int m])) X = avG G X := avG_same gn
  refine ⟨_, gup G a (.lst [.lst (ns.map .int), .int c, .int k, .int m]), X, fun d G2 => ∃ r c' k' m', d = .int r ∧ 0 ≤ r ∧ r < many ∧ StrmOk ns c' k' m' ∧ G2 = gup (gup G a (.lst [.lst (ns.map .int), .int c, .int k, .int m])) a (.lst [.lst (ns.map .int), .int c', .int k', .int m']), fun _ _ => False, ?_, fun p hp => ⟨(gn p).mpr (dis p hp).1, (dis p hp).2⟩, by rw [sm]; exact r,
    ⟨a, many, ns, c, k, m, rfl, l1, l2, ok, gup_same, fun r c' k' m' q1 q2 q3 => ⟨r, c', k', m', rfl, q1, q2, q3, rfl⟩⟩, ?_, fun x G2 cls d H2 _ _ _ z => z.elim⟩
  · rw [sm]
    intro q o hq
    by_cases e : q = a
    · subst e
      rw [gup_same] at hq
      cases hq
      exact ⟨ho, h1, h3⟩
    · rw [gup_ne e] at hq
      exact g q o hq
  · rintro d G2 v H2 k2 g2 r2 ⟨r', c', k', m', rfl, q1, q2, ok', rfl⟩
    have gn2 : ∀ q, gup (gup G a (.lst [.lst (ns.map .int), .int c, .int k, .int m])) a (.lst [.lst (ns.map .int), .int c', .int k', .int m']) q = none ↔ G q = none := fun q => by
      rw [gup_none, gn]
      refine ⟨fun z => z.2, fun z => ⟨fun e => ?_, z⟩⟩
      rw [e, ga] at z; cases z
    have sm2 := avG_same (X := X) gn2
    rw [sm2] at g2 r2
    refine c1 (.int r') G v H2 (fun q o e1 e2 => ?_) (fun q o hq => ?_) r2 (t r' q1 q2)
    · obtain ⟨x, y⟩ := k2 q o e1 ((gn q).mpr e2)
      exact ⟨x, e2⟩
    · by_cases e : q = a
      · subst e
        rw [ga] at hq
        cases hq
        obtain ⟨ho, x, y⟩ := g2 q _ gup_same
        exact ⟨ho, x, grep_strm ok' y⟩
      · exact g2 q o (by rw [gup_ne e, gup_ne e]; exact hq)

/-- the law's promise -/
def Tlaw : DSp := fun ds G Q _ => (∃ ns : List Int, ds = [.slst (ns.map .int)] ∧ ns.length ≤ 63) ∧ G = (fun _ => none) ∧ ∀ G', Q (.bl true) G'
theorem law_end {H : Hp} {a : Addr} {ns : List Int} (hl : ns.length ≤ 63) (hs : SqL Γ.K H a (ns.map V.int)) : lift Γ Tlaw [.ref a] H (fun v _ => v = .bl true) fun _ _ _ => False := by
  refine ⟨[.slst (ns.map .int)], fun _ => none, fun _ => False, fun d _ => d = .bl true, fun _ _ => False, (fun p o h => by cases h), (fun p h => False.elim h), RepL.cons ?_ RepL.nil, ⟨⟨ns, rfl, hl⟩, rfl, fun _ => rfl⟩, ?_, fun x G2 cls d H2 _ _ _ z => z⟩
  · simp only [Rep]
    refine ⟨a, _, rfl, ?_, by rw [List.length_map, sizeLine_eq]; omega, RepL.of_ints⟩
    have na : ¬ avG (fun _ => none) (fun _ => False) a := by
      rintro (z | z)
      · exact z rfl
      · exact z
    rcases hs with (h | ⟨o, h⟩) | h
    · exact .inl ⟨_, h, na, fun H' e => .inl e⟩
    · exact .inl ⟨_, h, na, fun H' e => .inr ⟨o, e⟩⟩
    · exact .inr h
  · rintro d G2 v H2 _ _ r rfl
    simpa only [Rep] using r
theorem cx_none {P : Program} {w : World} {H : Hp} {s : Shared} {e : Value} {s' : Shared} (h : L2.CX P w [] H s (fun _ _ _ => False) e s') : False := by
  obtain ⟨_, _, _, _, _, _, _, _, _, _, _, _, z⟩ := h
  exact z
end
end DL
namespace DL
open PySem

def noE : DX → Gh → Prop := fun _ _ => False
def locK (o : Option (Option SV)) (G : Gh) (Q : EV → Gh → Prop) : Prop := match o with
  | some (some (.d x)) => Q (.d x) G
  | some (some (.own xs)) => Q (.bor xs) G
  | _ => False
def negK (x : EV) (k : EV → Prop) : Prop := match x with
  | .d (.int i) => k (.d (.int (-i)))
  | _ => False
def iteK (c : Bool) (a b : Prop) : Prop := if c = true then a else b
def truK (x : EV) (k : Bool → Prop) : Prop := match truD x with
  | some c => k c
  | none => False
def anyK (o : Option D) (k : D → Prop) : Prop := match o with
  | some d => k d
  | none => False
def lstK (o : Option (List D)) (k : List D → Prop) : Prop := match o with
  | some d => k d
  | none => False
def keepK (x : EV) (k : EV → Prop) : Prop := ∃ y, asD x = some y ∧ k (.d y)
def gixK (x y : EV) (G : Gh) (Q : EV → Gh → Prop) : Prop := match x, y with
  | .d (.ref p), .d (.int k) => ∃ xs d, G p = some (.lst xs) ∧ L2.atI xs k = some d ∧ Q (.d d) G
  | _, _ => False
def gstK (x y z : EV) (G : Gh) (k : Gh → Prop) : Prop := match x, y, asD z with
  | .d (.ref a), .d (.int j), some d => ∃ xs n, G a = some (.lst xs) ∧ L2.ixN xs.length j = some n ∧ k (gup G a (.lst (xs.set n d)))
  | _, _, _ => False
def tyK (o : Option Bool) (k : Bool → Prop) : Prop := match o with
  | some c => k c
  | none => False
def intK (x : EV) (k : Int → Prop) : Prop := match x with
  | .d (.int i) => k i
  | _ => False
def datK (x : EV) (k : D → Prop) : Prop := match x with
  | .d d => k d
  | _ => False
def seqK (x : EV) (k : List D → Prop) : Prop := match asD x with
  | some (.lst xs) => k xs
  | some (.tup xs) => k xs
  | some (.slst xs) => k xs
  | _ => False
def enuK (x : EV) (k : List D → Prop) : Prop := match asD x with
  | some (.lst xs) => k xs
  | some (.tup xs) => k xs
  | _ => False
def zipK (x y : EV) (k : List D → List D → Prop) : Prop := match asD x, asD y with
  | some (.lst xs), some (.lst ys) => k xs ys
  | some (.tup xs), some (.tup ys) => k xs ys
  | _, _ => False
def ownK (o : Option (Option SV)) (k : List D → Prop) : Prop := match o with
  | some (some (.own xs)) => k xs
  | _ => False
def slotK (o : Option (Option SV)) (k : D → Prop) : Prop := match o with
  | some (some (.d x)) => k x
  | _ => False
def newK (x : EV) (G : Gh) (k : D → Gh → Prop) : Prop := match x with
  | .own xs => ∀ p, G p = none → k (.ref p) (gup G p (.lst xs))
  | _ => False
def compK (S : Sg) (t : CT) (ifs : CBs) (e : CE) (L0 : Loc) (items acc : List D) (G : Gh) (Q : List D → Gh → Prop) : Prop :=
  wpComp (bindT t) (fun L1 G2 k => wpBs S ifs (fun _ _ => False) L1 G2 k) (fun L1 G2 k => wpE S e (fun _ _ => False) L1 G2 k) L0 items acc G Q
def forK (S : Sg) (t : CT) (b : CSs) (items : List D) (R : En) (L : Loc) (G : Gh) : Prop := wpFor (bindT t) (wpSs S b) items R L G
def whN (S : Sg) (t : CB) (b : CSs) (n : Nat) (R : En) (L : Loc) (G : Gh) : Prop := wpWh (wpB S t) (wpSs S b) n R L G
def whK (S : Sg) (t : CB) (b : CSs) (R : En) (L : Loc) (G : Gh) : Prop := ∃ n, whN S t b n R L G
def R0 (Q : D → Gh → Prop) (E : DX → Gh → Prop) : En := { nx := fun _ G => Q .non G, rt := Q, bk := fun _ _ => False, ct := fun _ _ => False, ex := fun x _ G => E x G }
def Rn (S : Sg) (c : CSs) (R : En) : En := { R with nx := fun L1 G1 => wpSs S c R L1 G1 }
def Rf (S : Sg) (t : CT) (b : CSs) (ds : List D) (R : En) : En := { R with nx := fun L2 G2 => forK S t b ds R L2 G2, ct := fun L2 G2 => forK S t b ds R L2 G2, bk := R.nx }
def Rw (S : Sg) (t : CB) (b : CSs) (n : Nat) (R : En) : En := { R with nx := fun L2 G2 => whN S t b n R L2 G2, ct := fun L2 G2 => whN S t b n R L2 G2, bk := R.nx }
def idxK (xs : List D) (i : Int) (k : EV → Prop) : Prop := ∃ d, L2.atI xs i = some d ∧ k (.d d)

section
variable {S : Sg} {E : DX → Gh → Prop} {L : Loc} {G : Gh} {Q : EV → Gh → Prop} {R : En}
theorem e_loc {i : Nat} : wpE S (.loc i) E L G Q = locK L[i]? G Q := rfl
theorem e_cst {d : D} : wpE S (.cst d) E L G Q = Q (.d d) G := rfl
theorem e_gc {n : Nat} : wpE S (.gc n) E L G Q = Q (.d (S.gc n)) G := rfl
theorem e_bin {o : BOp} {a b : CE} : wpE S (.bin o a b) E L G Q = wpE S a E L G fun x G1 => wpE S b E L G1 fun y G2 => opB o x y fun z => Q z G2 := rfl
theorem e_neg {a : CE} : wpE S (.neg a) E L G Q = wpE S a E L G fun x G1 => negK x fun z => Q z G1 := rfl
theorem e_cmp {o : COp} {a b : CE} : wpE S (.cmp o a b) E L G Q = wpE S a E L G fun x G1 => wpE S b E L G1 fun y G2 => opC o x y fun z => Q (.d (.bl z)) G2 := rfl
theorem e_chn {o1 o2 : COp} {a b c : CE} : wpE S (.chn o1 o2 a b c) E L G Q = wpE S a E L G fun x G1 => wpE S b E L G1 fun y G2 => opC o1 x y fun z => iteK z (wpE S c E L G2 fun u G3 => opC o2 y u fun z2 => Q (.d (.bl z2)) G3) (Q (.d (.bl false)) G2) := rfl
theorem e_and {a b : CE} : wpE S (.and a b) E L G Q = wpE S a E L G fun x G1 => truK x fun c => iteK c (wpE S b E L G1 Q) (keepK x fun y => Q y G1) := rfl
theorem e_or {a b : CE} : wpE S (.or a b) E L G Q = wpE S a E L G fun x G1 => truK x fun c => iteK c (keepK x fun y => Q y G1) (wpE S b E L G1 Q) := rfl
theorem e_not {a : CE} : wpE S (.not a) E L G Q = wpE S a E L G fun x G1 => truK x fun c => Q (.d (.bl (!c))) G1 := rfl
theorem e_ite {t : CB} {a b : CE} : wpE S (.ite t a b) E L G Q = wpB S t E L G fun c G1 => iteK c (wpE S a E L G1 Q) (wpE S b E L G1 Q) := rfl
theorem e_idx {o : IOp} {a b : CE} : wpE S (.idx o a b) E L G Q = wpE S a E L G fun x G1 => wpE S b E L G1 fun y G2 => opI o x y fun z => Q z G2 := rfl
theorem e_gidx {a b : CE} : wpE S (.gidx a b) E L G Q = wpE S a E L G fun x G1 => wpE S b E L G1 fun y G2 => gixK x y G2 Q := rfl
theorem e_slc {o : SOp} {a : CE} {lo hi : CO} : wpE S (.slc o a lo hi) E L G Q = wpE S a E L G fun x G1 => wpO S lo E L G1 fun l G2 => wpO S hi E L G2 fun h G3 => opS o x l h fun z => Q z G3 := rfl
theorem e_tup {es : CEs} : wpE S (.tup es) E L G Q = wpEs S es E L G fun xs G1 => lstK (asDs xs) fun ds => ds.length ≤ 16777216 ∧ Q (.d (.tup ds)) G1 := rfl
theorem e_lst {es : CEs} : wpE S (.lst es) E L G Q = wpEs S es E L G fun xs G1 => lstK (asDs xs) fun ds => ds.length ≤ 16777216 ∧ Q (.own ds) G1 := rfl
theorem e_call {k : Nat} {es : CEs} : wpE S (.call k es) E L G Q = wpEs S es E L G fun xs G1 => lstK (asDs xs) fun ds => S.sp k ds G1 (fun d G2 => Q (.d d) G2) E := rfl
theorem e_bi {b : BI} {a : CE} : wpE S (.bi b a) E L G Q = wpE S a E L G fun x G1 => opBI b x fun z => Q z G1 := rfl
theorem e_inst {t : Ty} {a : CE} : wpE S (.inst t a) E L G Q = wpE S a E L G fun x G1 => tyK (isTy t (asR x)) fun c => Q (.d (.bl c)) G1 := rfl
theorem e_comp {t : CT} {it : CI} {ifs : CBs} {e : CE} {vs : List Nat} : wpE S (.comp t it ifs e vs) E L G Q = wpI S it E L G fun items G1 => compK S t ifs e (blkL L vs) items [] G1 fun ys G2 => Q (.own ys) G2 := rfl
theorem e_nev : wpE S .nev E L G Q = False := rfl
theorem e_nil {Q : List EV → Gh → Prop} : wpEs S .nil E L G Q = Q [] G := rfl
theorem e_cons {Q : List EV → Gh → Prop} {e : CE} {r : CEs} : wpEs S (.cons e r) E L G Q = wpE S e E L G fun x G1 => wpEs S r E L G1 fun xs G2 => Q (x :: xs) G2 := rfl
theorem e_no {Q : Option Int → Gh → Prop} : wpO S .no E L G Q = Q none G := rfl
theorem e_yes {Q : Option Int → Gh → Prop} {e : CE} : wpO S (.yes e) E L G Q = wpE S e E L G fun x G1 => intK x fun i => Q (some i) G1 := rfl
section
variable {Q : Bool → Gh → Prop}
theorem b_val {e : CE} : wpB S (.val e) E L G Q = wpE S e E L G fun x G1 => truK x fun c => Q c G1 := rfl
theorem b_cmp {o : COp} {a b : CE} : wpB S (.cmp o a b) E L G Q = wpE S a E L G fun x G1 => wpE S b E L G1 fun y G2 => opC o x y fun z => Q z G2 := rfl
theorem b_chn {o1 o2 : COp} {a b c : CE} : wpB S (.chn o1 o2 a b c) E L G Q = wpE S a E L G fun x G1 => wpE S b E L G1 fun y G2 => opC o1 x y fun z => iteK z (wpE S c E L G2 fun u G3 => opC o2 y u fun z2 => Q z2 G3) (Q false G2) := rfl
theorem b_and {a b : CB} : wpB S (.and a b) E L G Q = wpB S a E L G fun c G1 => iteK c (wpB S b E L G1 Q) (Q false G1) := rfl
theorem b_or {a b : CB} : wpB S (.or a b) E L G Q = wpB S a E L G fun c G1 => iteK c (Q true G1) (wpB S b E L G1 Q) := rfl
theorem b_not {a : CB} : wpB S (.not a) E L G Q = wpB S a E L G fun c G1 => Q (!c) G1 := rfl
theorem b_no : wpBs S .no E L G Q = Q true G := rfl
theorem b_one {t : CB} : wpBs S (.one t) E L G Q = wpB S t E L G Q := rfl
end
section
variable {Q : List D → Gh → Prop}
theorem i_seq {e : CE} : wpI S (.seq e) E L G Q = wpE S e E L G fun x G1 => seqK x fun xs => Q xs G1 := rfl
theorem i_rng1 {a : CE} : wpI S (.rng1 a) E L G Q = wpE S a E L G fun x G1 => intK x fun j => j ≤ 16777216 ∧ -16777216 ≤ j ∧ Q (rngD 0 j.toNat) G1 := rfl
theorem i_rng2 {a b : CE} : wpI S (.rng2 a b) E L G Q = wpE S a E L G fun x G1 => wpE S b E L G1 fun y G2 => intK x fun i => intK y fun j => -(2 ^ 61) ≤ i ∧ i ≤ 2 ^ 61 ∧ -(2 ^ 61) ≤ j ∧ j ≤ i + 16777216 ∧ Q (rngD i (j - i).toNat) G2 := by
  refine congrArg (wpE S a _ L G) (funext fun x => funext fun G1 => congrArg (wpE S b _ L G1) (funext fun y => funext fun G2 => ?_))
  cases x with
  | d x =>
    cases x with
    | int i =>
      cases y with
      | d y => cases y <;> rfl
      | _ => rfl
    | _ => rfl
  | _ => rfl
theorem i_enum {e : CE} : wpI S (.enum e) E L G Q = wpE S e E L G fun x G1 => enuK x fun xs => Q (enumD 0 xs) G1 := rfl
theorem i_zip {a b : CE} : wpI S (.zip a b) E L G Q = wpE S a E L G fun x G1 => wpE S b E L G1 fun y G2 => zipK x y fun xs ys => Q (zipD xs ys) G2 := rfl
end
theorem s_set {i : Nat} {e : CE} : wpS S (.set i e) R L G = wpE S e (fun x G => R.ex x L G) L G fun x G1 => setV i x L fun L1 => R.nx L1 G1 := rfl
theorem s_setF {i : Nat} {e : CE} : wpS S (.setF i e) R L G = wpE S e (fun x G => R.ex x L G) L G fun x G1 => anyK (asD x) fun d => R.nx (L.set i (some (.d d))) G1 := rfl
theorem s_asg {t : CT} {e : CE} : wpS S (.asg t e) R L G = wpE S e (fun x G => R.ex x L G) L G fun x G1 => datK x fun d => bindT t d L fun L1 => R.nx L1 G1 := rfl
theorem s_par {i j : Nat} {a b : CE} : wpS S (.par i j a b) R L G = wpE S a (fun x G => R.ex x L G) L G fun x G1 => wpE S b (fun x G => R.ex x L G) L G1 fun y G2 => anyK (asD x) fun x => anyK (asD y) fun y => R.nx ((L.set i (some (.d x))).set j (some (.d y))) G2 := by
  refine congrArg (wpE S a _ L G) (funext fun x => funext fun G1 => congrArg (wpE S b _ L G1) (funext fun y => funext fun G2 => ?_))
  cases asD x with
  | none => rfl
  | some x => cases asD y <;> rfl
theorem s_par3 {i j l : Nat} {a b c : CE} : wpS S (.par3 i j l a b c) R L G = wpE S a (fun x G => R.ex x L G) L G fun x G1 => wpE S b (fun x G => R.ex x L G) L G1 fun y G2 => wpE S c (fun x G => R.ex x L G) L G2 fun z G3 => anyK (asD x) fun x => anyK (asD y) fun y => anyK (asD z) fun z => R.nx (((L.set i (some (.d x))).set j (some (.d y))).set l (some (.d z))) G3 := by
  refine congrArg (wpE S a _ L G) (funext fun x => funext fun G1 => congrArg (wpE S b _ L G1) (funext fun y => funext fun G2 => congrArg (wpE S c _ L G2) (funext fun z => funext fun G3 => ?_)))
  cases asD x with
  | none => rfl
  | some x =>
    cases asD y with
    | none => rfl
    | some y => cases asD z <;> rfl
theorem s_aug {i : Nat} {o : BOp} {e : CE} : wpS S (.aug i o e) R L G = slotK L[i]? fun x => wpE S e (fun x G => R.ex x L G) L G fun y G1 => opB o (.d x) y fun z => datK z fun z => R.nx (L.set i (some (.d z))) G1 := rfl
theorem s_app {i : Nat} {e : CE} : wpS S (.app i e) R L G = ownK L[i]? fun xs => wpE S e (fun x G => R.ex x L G) L G fun x G1 => anyK (asD x) fun d => xs.length < 16777216 ∧ R.nx (L.set i (some (.own (xs ++ [d])))) G1 := rfl
theorem s_ext {i : Nat} {e : CE} : wpS S (.ext i e) R L G = ownK L[i]? fun xs => wpE S e (fun x G => R.ex x L G) L G fun x G1 => lstK (asL x) fun ys => xs.length + ys.length ≤ 16777216 ∧ R.nx (L.set i (some (.own (xs ++ ys)))) G1 := rfl
theorem s_pop {i : Nat} : wpS S (.pop i) R L G = ownK L[i]? fun xs => xs ≠ [] ∧ R.nx (L.set i (some (.own xs.dropLast))) G := rfl
theorem s_expr {e : CE} : wpS S (.expr e) R L G = wpE S e (fun x G => R.ex x L G) L G fun _ G1 => R.nx L G1 := rfl
theorem s_ret {e : CE} : wpS S (.ret e) R L G = wpE S e (fun x G => R.ex x L G) L G fun x G1 => R.rt (asR x) G1 := rfl
theorem s_retT {e : CE} : wpS S (.retT e) R L G = wpE S e (fun x G => R.ex x L G) L G fun x G1 => newK x G1 R.rt := rfl
theorem s_ite {t : CB} {a b : CSs} : wpS S (.ite t a b) R L G = wpB S t (fun x G => R.ex x L G) L G fun c G1 => iteK c (wpSs S a R L G1) (wpSs S b R L G1) := rfl
theorem s_whl {t : CB} {b : CSs} : wpS S (.whl t b) R L G = whK S t b R L G := rfl
theorem s_for {t : CT} {it : CI} {b : CSs} : wpS S (.for t it b) R L G = wpI S it (fun x G => R.ex x L G) L G fun items G1 => forK S t b items R L G1 := rfl
theorem s_gset {o i v : CE} : wpS S (.gset o i v) R L G = wpE S v (fun x G => R.ex x L G) L G fun z G1 => wpE S o (fun x G => R.ex x L G) L G1 fun x G2 => wpE S i (fun x G => R.ex x L G) L G2 fun y G3 => gstK x y z G3 fun G4 => R.nx L G4 := rfl
theorem s_brk : wpS S .brk R L G = R.bk L G := rfl
theorem s_cnt : wpS S .cnt R L G = R.ct L G := rfl
theorem s_nil : wpSs S .nil R L G = R.nx L G := rfl
theorem s_cons {s : CS} {r : CSs} : wpSs S (.cons s r) R L G = wpS S s (Rn S r R) L G := rfl
theorem s_frz {i : Nat} {r : CSs} : wpSs S (.frz i r) R L G = ownK L[i]? fun xs => wpSs S r R (L.set i (some (.d (.lst xs)))) G := rfl
theorem f_nil {t : CT} {b : CSs} : forK S t b [] R L G = R.nx L G := rfl
theorem f_cons {t : CT} {b : CSs} {d : D} {ds : List D} : forK S t b (d :: ds) R L G = bindT t d L fun L1 => wpSs S b (Rf S t b ds R) L1 G := rfl
theorem w_succ {t : CB} {b : CSs} {n : Nat} : whN S t b (n + 1) R L G = wpB S t (fun x G => R.ex x L G) L G fun c G1 => iteK c (wpSs S b (Rw S t b n R) L G1) (R.nx L G1) := rfl
theorem c_nil {t : CT} {ifs : CBs} {e : CE} {L0 : Loc} {acc : List D} {Q : List D → Gh → Prop} : compK S t ifs e L0 [] acc G Q = Q acc G := rfl
theorem c_cons {t : CT} {ifs : CBs} {e : CE} {L0 : Loc} {acc : List D} {Q : List D → Gh → Prop} {d : D} {ds : List D} : compK S t ifs e L0 (d :: ds) acc G Q = bindT t d L0 fun L1 => wpBs S ifs noE L1 G fun b G1 => iteK b (wpE S e noE L1 G1 fun x G2 => anyK (asD x) fun y => compK S t ifs e L0 ds (acc ++ [y]) G2 Q) (compK S t ifs e L0 ds acc G1 Q) := rfl
theorem t_name {i : Nat} {d : D} {k : Loc → Prop} : bindT (.name i) d L k = k (L.set i (some (.d d))) := rfl
theorem t_tup {ts : CTs} {ds : List D} {k : Loc → Prop} : bindT (.tup ts) (.tup ds) L k = (ds.length = CTs.len ts ∧ bindTs ts ds L k) := rfl
theorem t_nil {k : Loc → Prop} : bindTs .nil [] L k = k L := by simp only [bindTs, true_and]
theorem t_cons {t : CT} {r : CTs} {d : D} {ds : List D} {k : Loc → Prop} : bindTs (.cons t r) (d :: ds) L k = bindT t d L fun L1 => bindTs r ds L1 k := rfl
theorem t_len0 : CTs.len .nil = 0 := rfl
theorem t_len1 {t : CT} {r : CTs} : CTs.len (.cons t r) = CTs.len r + 1 := rfl
theorem k_locd {x : D} : locK (some (some (.d x))) G Q = Q (.d x) G := rfl
theorem k_loco {xs : List D} : locK (some (some (.own xs))) G Q = Q (.bor xs) G := rfl
theorem k_neg {i : Int} {k : EV → Prop} : negK (.d (.int i)) k = k (.d (.int (-i))) := rfl
theorem k_tt {a b : Prop} : iteK true a b = a := by simp [iteK]
theorem k_ff {a b : Prop} : iteK false a b = b := by simp [iteK]
theorem k_any {d : D} {k : D → Prop} : anyK (some d) k = k d := rfl
theorem k_lst {d : List D} {k : List D → Prop} : lstK (some d) k = k d := rfl
theorem k_int {i : Int} {k : Int → Prop} : intK (.d (.int i)) k = k i := rfl
theorem k_dat {d : D} {k : D → Prop} : datK (.d d) k = k d := rfl
theorem k_ty {c : Bool} {k : Bool → Prop} : tyK (some c) k = k c := rfl
theorem k_keep {d : D} {k : EV → Prop} : keepK (.d d) k = k (.d d) := by
  apply propext
  constructor
  · rintro ⟨y, e, h⟩; cases e; exact h
  · exact fun h => ⟨d, rfl, h⟩
theorem k_own {xs : List D} {k : List D → Prop} : ownK (some (some (.own xs))) k = k xs := rfl
theorem k_slot {x : D} {k : D → Prop} : slotK (some (some (.d x))) k = k x := rfl
theorem k_new {xs : List D} {k : D → Gh → Prop} : newK (.own xs) G k = ∀ p, G p = none → k (.ref p) (gup G p (.lst xs)) := rfl
theorem k_seqt {xs : List D} {k : List D → Prop} : seqK (.d (.tup xs)) k = k xs := rfl
theorem k_seql {xs : List D} {k : List D → Prop} : seqK (.d (.lst xs)) k = k xs := rfl
theorem k_seqs {xs : List D} {k : List D → Prop} : seqK (.d (.slst xs)) k = k xs := rfl
theorem k_seqo {xs : List D} {k : List D → Prop} : seqK (.own xs) k = k xs := rfl
theorem k_enut {xs : List D} {k : List D → Prop} : enuK (.d (.tup xs)) k = k xs := rfl
theorem k_enul {xs : List D} {k : List D → Prop} : enuK (.d (.lst xs)) k = k xs := rfl
theorem k_enuo {xs : List D} {k : List D → Prop} : enuK (.own xs) k = k xs := rfl
theorem k_zipt {xs ys : List D} {k : List D → List D → Prop} : zipK (.d (.tup xs)) (.d (.tup ys)) k = k xs ys := rfl
theorem k_zipl {xs ys : List D} {k : List D → List D → Prop} : zipK (.d (.lst xs)) (.d (.lst ys)) k = k xs ys := rfl
theorem k_gix {p : Addr} {i : Int} : gixK (.d (.ref p)) (.d (.int i)) G Q = ∃ xs d, G p = some (.lst xs) ∧ L2.atI xs i = some d ∧ Q (.d d) G := rfl
theorem k_gst {p : Addr} {i : Int} {d : D} {k : Gh → Prop} : gstK (.d (.ref p)) (.d (.int i)) (.d d) G k = ∃ xs n, G p = some (.lst xs) ∧ L2.ixN xs.length i = some n ∧ k (gup G p (.lst (xs.set n d))) := rfl
theorem k_setd {i : Nat} {x : D} {k : Loc → Prop} : setV i (.d x) L k = k (L.set i (some (.d x))) := rfl
theorem k_seto {i : Nat} {x : List D} {k : Loc → Prop} : setV i (.own x) L k = k (L.set i (some (.own x))) := rfl
theorem a_dd {x : D} : asD (.d x) = some x := rfl
theorem a_do {x : List D} : asD (.own x) = some (.lst x) := rfl
theorem a_rd {x : D} : asR (.d x) = x := rfl
theorem a_ro {x : List D} : asR (.own x) = .lst x := rfl
theorem a_rb {x : List D} : asR (.bor x) = .lst x := rfl
theorem a_nil : asDs [] = some [] := rfl
theorem a_d {x : D} {xs : List EV} : asDs (.d x :: xs) = (asDs xs).map (x :: ·) := by
  show (match asD (.d x), asDs xs with | some d, some ds => some (d :: ds) | _, _ => none) = _
  cases asDs xs <;> rfl
theorem a_o {x : List D} {xs : List EV} : asDs (.own x :: xs) = (asDs xs).map (.lst x :: ·) := by
  show (match asD (.own x), asDs xs with | some d, some ds => some (d :: ds) | _, _ => none) = _
  cases asDs xs <;> rfl
theorem a_l {x : List D} : asL (.d (.lst x)) = some x := rfl
theorem a_lo {x : List D} : asL (.own x) = some x := rfl
theorem a_lb {x : List D} : asL (.bor x) = some x := rfl
section
variable {k : EV → Prop} {kb : Bool → Prop}
theorem o_add {i j : Int} : opB .addP (.d (.int i)) (.d (.int j)) k = k (.d (.int (i + j))) := rfl
theorem o_addb {i : Int} {j : Bool} : opB .addP (.d (.int i)) (.d (.bl j)) k = k (.d (.int (i + if j = true then 1 else 0))) := rfl
theorem o_adds {i j : Str} : opB .addP (.d (.str i)) (.d (.str j)) k = (i.length + j.length ≤ sizeLine ∧ k (.d (.str (i ++ j)))) := rfl
theorem o_addt {i j : List D} : opB .addP (.d (.tup i)) (.d (.tup j)) k = (i.length + j.length ≤ sizeLine ∧ k (.d (.tup (i ++ j)))) := rfl
theorem o_sub {i j : Int} : opB .subP (.d (.int i)) (.d (.int j)) k = k (.d (.int (i - j))) := rfl
theorem o_subb {i : Int} {j : Bool} : opB .subP (.d (.int i)) (.d (.bl j)) k = k (.d (.int (i - if j = true then 1 else 0))) := rfl
theorem o_subbb {i j : Bool} : opB .subP (.d (.bl i)) (.d (.bl j)) k = k (.d (.int ((if i = true then 1 else 0) - if j = true then 1 else 0))) := rfl
theorem o_iadd {i j : Int} : opB .iaddP (.d (.int i)) (.d (.int j)) k = k (.d (.int (i + j))) := rfl
theorem o_iaddb {i : Int} {j : Bool} : opB .iaddP (.d (.int i)) (.d (.bl j)) k = k (.d (.int (i + if j = true then 1 else 0))) := rfl
theorem o_isub {i j : Int} : opB .isubP (.d (.int i)) (.d (.int j)) k = k (.d (.int (i - j))) := rfl
theorem o_isubb {i : Int} {j : Bool} : opB .isubP (.d (.int i)) (.d (.bl j)) k = k (.d (.int (i - if j = true then 1 else 0))) := rfl
theorem o_mul {i j : Int} : opB .mul (.d (.int i)) (.d (.int j)) k = (L2.CMulW i j ∧ k (.d (.int (i * j)))) := rfl
theorem o_fdiv {i j : Int} : opB .fdiv (.d (.int i)) (.d (.int j)) k = (DivOk i j ∧ k (.d (.int (i.fdiv j)))) := rfl
theorem o_mod {i j : Int} : opB .mod (.d (.int i)) (.d (.int j)) k = (j ≠ 0 ∧ k (.d (.int (i.fmod j)))) := rfl
theorem o_lt {i j : Int} : opC .lt (.d (.int i)) (.d (.int j)) kb = kb (decide (i < j)) := rfl
theorem o_le {i j : Int} : opC .le (.d (.int i)) (.d (.int j)) kb = kb (decide (i ≤ j)) := rfl
theorem o_gt {i j : Int} : opC .gt (.d (.int i)) (.d (.int j)) kb = kb (decide (j < i)) := rfl
theorem o_ge {i j : Int} : opC .ge (.d (.int i)) (.d (.int j)) kb = kb (decide (j ≤ i)) := rfl
theorem o_eq {x y : EV} : opC .eq x y kb = (eqOk (asR x) = true ∧ eqOk (asR y) = true ∧ kb (eqD (asR x) (asR y))) := by
  cases x <;> cases y <;> (try (rename_i a b; cases a <;> cases b <;> rfl)) <;> (try rfl)
theorem o_ne {x y : EV} : opC .ne x y kb = (eqOk (asR x) = true ∧ eqOk (asR y) = true ∧ kb (!eqD (asR x) (asR y))) := by
  cases x <;> cases y <;> (try (rename_i a b; cases a <;> cases b <;> rfl)) <;> (try rfl)
theorem o_isn {x : EV} : opC .isN x (.d .non) kb = kb (isNon (asR x)) := by
  cases x with
  | d x => cases x <;> rfl
  | _ => rfl
theorem o_notn {x : EV} : opC .notN x (.d .non) kb = kb (!isNon (asR x)) := by
  cases x with
  | d x => cases x <;> rfl
  | _ => rfl
theorem o_isb {i j : Bool} : opC .isB (.d (.bl i)) (.d (.bl j)) kb = kb (i == j) := rfl
theorem o_notb {i j : Bool} : opC .notB (.d (.bl i)) (.d (.bl j)) kb = kb (!(i == j)) := rfl
theorem eqD_int {i j : Int} : eqD (.int i) (.int j) = decide (i = j) := by
  show PyData.eqv (.int i) (.int j) = _
  simp only [PyData.eqv]
  rw [Bool.eq_iff_iff]; simp
theorem eqOk_int {i : Int} : eqOk (.int i) = true := by simp [eqOk, plainD, toPy, PyData.depth]
theorem o_idxt {xs : List D} {i : Int} : opI .any (.d (.tup xs)) (.d (.int i)) k = idxK xs i k := rfl
theorem o_idxl {xs : List D} {i : Int} : opI .any (.d (.lst xs)) (.d (.int i)) k = idxK xs i k := rfl
theorem o_idxo {xs : List D} {i : Int} : opI .any (.own xs) (.d (.int i)) k = idxK xs i k := rfl
theorem o_idxb {xs : List D} {i : Int} : opI .any (.bor xs) (.d (.int i)) k = idxK xs i k := rfl
theorem o_slct {xs : List D} {lo hi : Option Int} : opS .any (.d (.tup xs)) lo hi k = k (.d (.tup (cutD xs lo hi))) := rfl
theorem o_slcl {xs : List D} {lo hi : Option Int} : opS .any (.d (.lst xs)) lo hi k = k (.own (cutD xs lo hi)) := rfl
theorem o_slco {xs : List D} {lo hi : Option Int} : opS .any (.own xs) lo hi k = k (.own (cutD xs lo hi)) := rfl
theorem o_slcb {xs : List D} {lo hi : Option Int} : opS .any (.bor xs) lo hi k = k (.own (cutD xs lo hi)) := rfl
theorem o_rev {xs : List D} {lo hi : Option Int} : opS .revT (.d (.tup xs)) lo hi k = k (.d (.tup xs.reverse)) := rfl
theorem o_lent {xs : List D} : opBI .lenP (.d (.tup xs)) k = k (.d (.int xs.length)) := rfl
theorem o_lenl {xs : List D} : opBI .lenP (.d (.lst xs)) k = k (.d (.int xs.length)) := rfl
theorem o_lens {xs : List D} : opBI .lenP (.d (.slst xs)) k = k (.d (.int xs.length)) := rfl
theorem o_leno {xs : List D} : opBI .lenP (.own xs) k = k (.d (.int xs.length)) := rfl
theorem o_lenb {xs : List D} : opBI .lenP (.bor xs) k = k (.d (.int xs.length)) := rfl
theorem o_lenstr {z : Str} : opBI .lenP (.d (.str z)) k = (z.length ≤ sizeLine ∧ k (.d (.int z.length))) := rfl
theorem o_abs {i : Int} : opBI .abs (.d (.int i)) k = k (.d (.int (if i < 0 then -i else i))) := rfl
theorem o_int {i : Int} : opBI .int (.d (.int i)) k = k (.d (.int i)) := rfl
theorem o_intb {i : Bool} : opBI .int (.d (.bl i)) k = k (.d (.int (if i = true then 1 else 0))) := rfl
theorem o_tupo {xs : List D} : opBI .tuple (.own xs) k = k (.d (.tup xs)) := rfl
theorem o_tupl {xs : List D} : opBI .tuple (.d (.lst xs)) k = k (.d (.tup xs)) := rfl
theorem o_tupt {xs : List D} : opBI .tuple (.d (.tup xs)) k = k (.d (.tup xs)) := rfl
theorem o_tupb {xs : List D} : opBI .tuple (.bor xs) k = k (.d (.tup xs)) := rfl
theorem o_lso {xs : List D} : opBI .list (.own xs) k = k (.own xs) := rfl
theorem o_lsl {xs : List D} : opBI .list (.d (.lst xs)) k = k (.own xs) := rfl
theorem o_lst {xs : List D} : opBI .list (.d (.tup xs)) k = k (.own xs) := rfl
theorem o_lss {xs : List D} : opBI .list (.d (.slst xs)) k = k (.own xs) := rfl
theorem o_lsb {xs : List D} : opBI .list (.bor xs) k = k (.own xs) := rfl
theorem o_all {x : EV} : opBI .all x k = ∃ bs : List Bool, asL x = some (bs.map .bl) ∧ k (.d (.bl (bs.all id))) := rfl
theorem o_anyy {x : EV} : opBI .any x k = ∃ bs : List Bool, asL x = some (bs.map .bl) ∧ k (.d (.bl (bs.any id))) := rfl
theorem o_sum {x : EV} : opBI .sum x k = ∃ ns : List Int, asL x = some (ns.map .int) ∧ k (.d (.int ns.sum)) := rfl
theorem o_sorted {x : EV} : opBI .sorted x k = ∃ ns : List Int, asL x = some (ns.map .int) ∧ ns.length < 64 ∧ ∀ ms : List Int, ms.Perm ns → ms.Pairwise (· ≤ ·) → k (.own (ms.map .int)) := rfl
theorem u_bl {b : Bool} : truK (.d (.bl b)) kb = kb b := rfl
theorem u_int {i : Int} : truK (.d (.int i)) kb = kb (i != 0) := rfl
theorem u_non : truK (.d .non) kb = kb false := rfl
theorem u_tup {xs : List D} : truK (.d (.tup xs)) kb = kb (!xs.isEmpty) := rfl
theorem u_lst {xs : List D} : truK (.d (.lst xs)) kb = kb (!xs.isEmpty) := rfl
theorem u_own {xs : List D} : truK (.own xs) kb = kb (!xs.isEmpty) := rfl
theorem u_bor {xs : List D} : truK (.bor xs) kb = kb (!xs.isEmpty) := rfl
theorem x_0 {a : D} {l : List D} : idxK (a :: l) 0 k = k (.d a) := by
  apply propext
  constructor
  · rintro ⟨d, h, q⟩
    have : L2.atI (a :: l) 0 = some a := by simp [L2.atI, L2.ixN]
    rw [this] at h; cases h; exact q
  · exact fun q => ⟨a, by simp [L2.atI, L2.ixN], q⟩
theorem idx_of {xs : List D} {n : Nat} {d : D} (h : xs[n]? = some d) (q : k (.d d)) : idxK xs (n : Int) k := by
  refine ⟨d, ?_, q⟩
  have hl := (List.getElem?_eq_some_iff.mp h).1
  have h0 : (0 : Int) ≤ n := Int.natCast_nonneg n
  have h1 : (n : Int) < xs.length := by omega
  simp [L2.atI, L2.ixN, h, h0, h1]
theorem x_n {xs : List D} {n : Nat} {d : D} (h : xs[n]? = some d) : idxK xs (n : Int) k = k (.d d) := by
  apply propext
  constructor
  · rintro ⟨y, e, q⟩
    have hl := (List.getElem?_eq_some_iff.mp h).1
    have : L2.atI xs (n : Int) = some d := by
      have h0 : (0 : Int) ≤ n := Int.natCast_nonneg n
      have h1 : (n : Int) < xs.length := by omega
      simp [L2.atI, L2.ixN, h, h0, h1]
    rw [this] at e; cases e; exact q
  · exact fun q => idx_of h q
theorem x_1 {a b : D} {l : List D} : idxK (a :: b :: l) 1 k = k (.d b) := x_n (n := 1) rfl
theorem x_2 {a b c : D} {l : List D} : idxK (a :: b :: c :: l) 2 k = k (.d c) := x_n (n := 2) rfl
theorem x_3 {a b c e : D} {l : List D} : idxK (a :: b :: c :: e :: l) 3 k = k (.d e) := x_n (n := 3) rfl
theorem x_4 {a b c e f : D} {l : List D} : idxK (a :: b :: c :: e :: f :: l) 4 k = k (.d f) := x_n (n := 4) rfl
theorem x_5 {a b c e f g : D} {l : List D} : idxK (a :: b :: c :: e :: f :: g :: l) 5 k = k (.d g) := x_n (n := 5) rfl
end
theorem y_tuplenon  : isTy .tuple .non = some false := rfl
theorem y_tuplebl {b : Bool} : isTy .tuple (.bl b) = some false := rfl
theorem y_tupleint {i : Int} : isTy .tuple (.int i) = some false := rfl
theorem y_tuplestr {x : Str} : isTy .tuple (.str x) = some false := rfl
theorem y_tupletup {xs : List D} : isTy .tuple (.tup xs) = some true := rfl
theorem y_tuplelst {xs : List D} : isTy .tuple (.lst xs) = some false := rfl
theorem y_listnon  : isTy .list .non = some false := rfl
theorem y_listbl {b : Bool} : isTy .list (.bl b) = some false := rfl
theorem y_listint {i : Int} : isTy .list (.int i) = some false := rfl
theorem y_liststr {x : Str} : isTy .list (.str x) = some false := rfl
theorem y_listtup {xs : List D} : isTy .list (.tup xs) = some false := rfl
theorem y_listlst {xs : List D} : isTy .list (.lst xs) = some true := rfl
theorem y_dictnon  : isTy .dict .non = some false := rfl
theorem y_dictbl {b : Bool} : isTy .dict (.bl b) = some false := rfl
theorem y_dictint {i : Int} : isTy .dict (.int i) = some false := rfl
theorem y_dictstr {x : Str} : isTy .dict (.str x) = some false := rfl
theorem y_dicttup {xs : List D} : isTy .dict (.tup xs) = some false := rfl
theorem y_dictlst {xs : List D} : isTy .dict (.lst xs) = some false := rfl
theorem y_strnon  : isTy .str .non = some false := rfl
theorem y_strbl {b : Bool} : isTy .str (.bl b) = some false := rfl
theorem y_strint {i : Int} : isTy .str (.int i) = some false := rfl
theorem y_strstr {x : Str} : isTy .str (.str x) = some true := rfl
theorem y_strtup {xs : List D} : isTy .str (.tup xs) = some false := rfl
theorem y_strlst {xs : List D} : isTy .str (.lst xs) = some false := rfl
theorem y_intnon  : isTy .int .non = some false := rfl
theorem y_intbl {b : Bool} : isTy .int (.bl b) = some true := rfl
theorem y_intint {i : Int} : isTy .int (.int i) = some true := rfl
theorem y_intstr {x : Str} : isTy .int (.str x) = some false := rfl
theorem y_inttup {xs : List D} : isTy .int (.tup xs) = some false := rfl
theorem y_intlst {xs : List D} : isTy .int (.lst xs) = some false := rfl
theorem y_boolnon  : isTy .bool .non = some false := rfl
theorem y_boolbl {b : Bool} : isTy .bool (.bl b) = some true := rfl
theorem y_boolint {i : Int} : isTy .bool (.int i) = some false := rfl
theorem y_boolstr {x : Str} : isTy .bool (.str x) = some false := rfl
theorem y_booltup {xs : List D} : isTy .bool (.tup xs) = some false := rfl
theorem y_boollst {xs : List D} : isTy .bool (.lst xs) = some false := rfl
theorem iteK_of {c : Bool} {a b : Prop} (h1 : c = true → a) (h2 : c = false → b) : iteK c a b := by
  cases c with
  | true => exact h1 rfl
  | false => exact h2 rfl
theorem run_eq {N : List Str} {c : CSs} {ds : List D} {Q : D → Gh → Prop} : runB S N c ds G Q E = wpSs S c (R0 Q E) (startL N ds) G := rfl
section
variable {c : CSs} {t : CT} {tb : CB} {ds : List D} {n : Nat} {Q : D → Gh → Prop}
theorem j_n1 : (Rn S c R).nx L G = wpSs S c R L G := rfl
theorem j_n2 : (Rn S c R).rt = R.rt := rfl
theorem j_n3 : (Rn S c R).bk = R.bk := rfl
theorem j_n4 : (Rn S c R).ct = R.ct := rfl
theorem j_n5 : (Rn S c R).ex = R.ex := rfl
theorem j_f1 : (Rf S t c ds R).nx L G = forK S t c ds R L G := rfl
theorem j_f2 : (Rf S t c ds R).rt = R.rt := rfl
theorem j_f3 : (Rf S t c ds R).bk = R.nx := rfl
theorem j_f4 : (Rf S t c ds R).ct L G = forK S t c ds R L G := rfl
theorem j_f5 : (Rf S t c ds R).ex = R.ex := rfl
theorem j_w1 : (Rw S tb c n R).nx L G = whN S tb c n R L G := rfl
theorem j_w2 : (Rw S tb c n R).rt = R.rt := rfl
theorem j_w3 : (Rw S tb c n R).bk = R.nx := rfl
theorem j_w4 : (Rw S tb c n R).ct L G = whN S tb c n R L G := rfl
theorem j_w5 : (Rw S tb c n R).ex = R.ex := rfl
theorem j_01 : (R0 Q E).nx L G = Q .non G := rfl
theorem j_02 : (R0 Q E).rt = Q := rfl
theorem j_03 {x : DX} : (R0 Q E).ex x L G = E x G := rfl
theorem j_04 {d : D} : (R0 Q E).rt d G = Q d G := rfl
end
end
end DL
namespace DC
open PySem DL

def Bd (b : Nat) (i : Int) : Prop := i.natAbs < 2 ^ b
theorem log2_lt {n b : Nat} (h : n < 2 ^ b) : n.log2 ≤ b := by
  by_cases e : n = 0
  · subst e; simp
  · exact Nat.le_of_lt ((Nat.log2_lt e).mpr h)
theorem mulW {b c : Nat} {i j : Int} (h : Bd b i) (k : Bd c j) (hb : b + c < 1000000) : L2.CMulW i j := by
  have h1 := log2_lt h
  have h2 := log2_lt k
  unfold L2.CMulW
  omega
theorem divOk {c : Nat} {i j : Int} (h : j ≠ 0) (k : Bd c j) (hc : c < 8000) : DivOk i j := by
  refine ⟨h, ?_⟩
  unfold Builtin.divisionGoesByPylong
  have h2 := log2_lt k
  have : ¬ (j == 0) = true := by simpa using h
  simp only [Bool.and_eq_false_imp, decide_eq_true_eq]
  intro hh
  exfalso
  split at hh <;> omega
theorem Bd.mono {b c : Nat} {i : Int} (h : Bd b i) (k : b ≤ c) : Bd c i := Nat.lt_of_lt_of_le h (Nat.pow_le_pow_right (by decide) k)
theorem Bd.mul {b c : Nat} {i j : Int} (h : Bd b i) (k : Bd c j) : Bd (b + c) (i * j) := by
  unfold Bd at *
  rw [Int.natAbs_mul, Nat.pow_add]
  by_cases e : i.natAbs = 0
  · rw [e, Nat.zero_mul]; exact Nat.mul_pos (Nat.pos_of_ne_zero (by simp)) (Nat.pos_of_ne_zero (by simp))
  · exact Nat.mul_lt_mul_of_lt_of_le h (Nat.le_of_lt k) (Nat.pos_of_ne_zero (by simp))
theorem Bd.add {b : Nat} {i j : Int} (h : Bd b i) (k : Bd b j) : Bd (b + 1) (i + j) := by
  unfold Bd at *
  rw [Nat.pow_succ]
  omega
theorem Bd.sub {b : Nat} {i j : Int} (h : Bd b i) (k : Bd b j) : Bd (b + 1) (i - j) := by
  unfold Bd at *
  rw [Nat.pow_succ]
  omega
theorem Bd.neg {b : Nat} {i : Int} (h : Bd b i) : Bd b (-i) := by
  unfold Bd at *
  rw [Int.natAbs_neg]
  exact h

def nfD (q : Rat) : D := .tup [.int q.num, .int q.den]
def Sz (b : Nat) (q : Rat) : Prop := Bd b q.num ∧ Bd b (q.den : Int)

def Tcommon : DSp := fun ds G Q _ => ∃ a b : Int, ds = [.int a, .int b] ∧ Q (.int (Int.gcd a b : Nat)) G
def ccommon : CSs := (.cons (.whl (.val (.loc 1)) (.cons (.par 0 1 (.loc 1) (.bin .mod (.loc 0) (.loc 1))) .nil)) (.cons (.ret (.bi .abs (.loc 0))) .nil))
theorem gcd_fmod (a b : Int) : Int.gcd b (a.fmod b) = Int.gcd a b := by
  rw [Int.fmod_def]
  rw [Int.gcd_comm, Int.gcd_sub_mul_left_left]
theorem natAbs_fmod_lt (a : Int) {b : Int} (hb : b ≠ 0) : (a.fmod b).natAbs < b.natAbs := by
  by_cases h : 0 < b
  · have h1 := Int.fmod_lt_of_pos a h
    have h2 := Int.fmod_nonneg_of_pos a h
    omega
  · have h0 : 0 < -b := by omega
    have h1 := Int.fmod_lt_of_pos (-a) h0
    have h2 := Int.fmod_nonneg_of_pos (-a) h0
    rw [Int.neg_fmod_neg] at h1 h2
    omega
theorem run_common {S : Sg} {N : List Str} (hN : N.length = 2) : ∀ ds G Q E, Tcommon ds G Q E → runB S N ccommon ds G Q E := by
  rintro ds G Q E ⟨a, b, rfl, q⟩
  simp only [run_eq, startL, hN, ccommon, DL.e_loc, DL.e_cst, DL.e_gc, DL.e_bin, DL.e_neg, DL.e_cmp, DL.e_chn, DL.e_and, DL.e_or, DL.e_not, DL.e_ite, DL.e_idx, DL.e_gidx, DL.e_slc, DL.e_tup, DL.e_lst, DL.e_call, DL.e_bi, DL.e_inst, DL.e_comp, DL.e_nev, DL.e_nil, DL.e_cons, DL.e_no, DL.e_yes, DL.b_val, DL.b_cmp, DL.b_chn, DL.b_and, DL.b_or, DL.b_not, DL.b_no, DL.b_one, DL.i_seq, DL.i_rng1, DL.i_rng2, DL.i_enum, DL.i_zip, DL.s_set, DL.s_setF, DL.s_asg, DL.s_par, DL.s_par3, DL.s_aug, DL.s_app, DL.s_ext, DL.s_pop, DL.s_expr, DL.s_ret, DL.s_retT, DL.s_ite, DL.s_whl, DL.s_for, DL.s_gset, DL.s_brk, DL.s_cnt, DL.s_nil, DL.s_cons, DL.s_frz, DL.t_name, DL.t_tup, DL.t_nil, DL.t_cons, DL.t_len0, DL.t_len1, DL.k_locd, DL.k_loco, DL.k_neg, DL.k_tt, DL.k_ff, DL.k_any, DL.k_lst, DL.k_int, DL.k_dat, DL.k_ty, DL.k_keep, DL.k_own, DL.k_slot, DL.k_new, DL.k_seqt, DL.k_seql, DL.k_seqs, DL.k_seqo, DL.k_enut, DL.k_enul, DL.k_enuo, DL.k_zipt, DL.k_zipl, DL.k_gix, DL.k_gst, DL.k_setd, DL.k_seto, DL.a_dd, DL.a_do, DL.a_rd, DL.a_ro, DL.a_rb, DL.a_nil, DL.a_d, DL.a_o, DL.a_l, DL.a_lo, DL.a_lb, DL.o_add, DL.o_addb, DL.o_adds, DL.o_addt, DL.o_sub, DL.o_subb, DL.o_subbb, DL.o_iadd, DL.o_iaddb, DL.o_isub, DL.o_isubb, DL.o_mul, DL.o_fdiv, DL.o_mod, DL.o_lt, DL.o_le, DL.o_gt, DL.o_ge, DL.o_eq, DL.o_ne, DL.o_isn, DL.o_notn, DL.o_isb, DL.o_notb, DL.o_idxt, DL.o_idxl, DL.o_idxo, DL.o_idxb, DL.o_slct, DL.o_slcl, DL.o_slco, DL.o_slcb, DL.o_rev, DL.o_lent, DL.o_lenl, DL.o_lens, DL.o_leno, DL.o_lenb, DL.o_lenstr, DL.o_abs, DL.o_int, DL.o_intb, DL.o_tupo, DL.o_tupl, DL.o_tupt, DL.o_tupb, DL.o_lso, DL.o_lsl, DL.o_lst, DL.o_lss, DL.o_lsb, DL.o_all, DL.o_anyy, DL.o_sum, DL.o_sorted, DL.u_bl, DL.u_int, DL.u_non, DL.u_tup, DL.u_lst, DL.u_own, DL.u_bor, DL.x_0, DL.x_1, DL.x_2, DL.x_3, DL.x_4, DL.x_5, DL.y_tuplenon, DL.y_tuplebl, DL.y_tupleint, DL.y_tuplestr, DL.y_tupletup, DL.y_tuplelst, DL.y_listnon, DL.y_listbl, DL.y_listint, DL.y_liststr, DL.y_listtup, DL.y_listlst, DL.y_dictnon, DL.y_dictbl, DL.y_dictint, DL.y_dictstr, DL.y_dicttup, DL.y_dictlst, DL.y_strnon, DL.y_strbl, DL.y_strint, DL.y_strstr, DL.y_strtup, DL.y_strlst, DL.y_intnon, DL.y_intbl, DL.y_intint, DL.y_intstr, DL.y_inttup, DL.y_intlst, DL.y_boolnon, DL.y_boolbl, DL.y_boolint, DL.y_boolstr, DL.y_booltup, DL.y_boollst, DL.j_n1, DL.j_n2, DL.j_n3, DL.j_n4, DL.j_n5, DL.j_f1, DL.j_f2, DL.j_f3, DL.j_f4, DL.j_f5, DL.j_w1, DL.j_w2, DL.j_w3, DL.j_w4, DL.j_w5, DL.j_01, DL.j_02, DL.j_03, DL.eqD_int, DL.eqOk_int, List.getElem?_cons_zero, List.getElem?_cons_succ, List.set_cons_zero, List.set_cons_succ, List.length_cons, List.length_nil, Option.map_some, Option.map_none, true_and, eq_self, List.map_cons, List.map_nil, Nat.sub_self, List.replicate_zero, List.append_nil]
  generalize hg : (Int.gcd a b : Nat) = g at q
  obtain ⟨n, hn⟩ : ∃ n, b.natAbs ≤ n := ⟨_, Nat.le_refl _⟩
  refine ⟨n + 1, ?_⟩
  induction n generalizing a b with
  | zero =>
    have hb : b = 0 := by omega
    subst hb
    simp only [w_succ, DL.e_loc, DL.e_cst, DL.e_gc, DL.e_bin, DL.e_neg, DL.e_cmp, DL.e_chn, DL.e_and, DL.e_or, DL.e_not, DL.e_ite, DL.e_idx, DL.e_gidx, DL.e_slc, DL.e_tup, DL.e_lst, DL.e_call, DL.e_bi, DL.e_inst, DL.e_comp, DL.e_nev, DL.e_nil, DL.e_cons, DL.e_no, DL.e_yes, DL.b_val, DL.b_cmp, DL.b_chn, DL.b_and, DL.b_or, DL.b_not, DL.b_no, DL.b_one, DL.i_seq, DL.i_rng1, DL.i_rng2, DL.i_enum, DL.i_zip, DL.s_set, DL.s_setF, DL.s_asg, DL.s_par, DL.s_par3, DL.s_aug, DL.s_app, DL.s_ext, DL.s_pop, DL.s_expr, DL.s_ret, DL.s_retT, DL.s_ite, DL.s_whl, DL.s_for, DL.s_gset, DL.s_brk, DL.s_cnt, DL.s_nil, DL.s_cons, DL.s_frz, DL.t_name, DL.t_tup, DL.t_nil, DL.t_cons, DL.t_len0, DL.t_len1, DL.k_locd, DL.k_loco, DL.k_neg, DL.k_tt, DL.k_ff, DL.k_any, DL.k_lst, DL.k_int, DL.k_dat, DL.k_ty, DL.k_keep, DL.k_own, DL.k_slot, DL.k_new, DL.k_seqt, DL.k_seql, DL.k_seqs, DL.k_seqo, DL.k_enut, DL.k_enul, DL.k_enuo, DL.k_zipt, DL.k_zipl, DL.k_gix, DL.k_gst, DL.k_setd, DL.k_seto, DL.a_dd, DL.a_do, DL.a_rd, DL.a_ro, DL.a_rb, DL.a_nil, DL.a_d, DL.a_o, DL.a_l, DL.a_lo, DL.a_lb, DL.o_add, DL.o_addb, DL.o_adds, DL.o_addt, DL.o_sub, DL.o_subb, DL.o_subbb, DL.o_iadd, DL.o_iaddb, DL.o_isub, DL.o_isubb, DL.o_mul, DL.o_fdiv, DL.o_mod, DL.o_lt, DL.o_le, DL.o_gt, DL.o_ge, DL.o_eq, DL.o_ne, DL.o_isn, DL.o_notn, DL.o_isb, DL.o_notb, DL.o_idxt, DL.o_idxl, DL.o_idxo, DL.o_idxb, DL.o_slct, DL.o_slcl, DL.o_slco, DL.o_slcb, DL.o_rev, DL.o_lent, DL.o_lenl, DL.o_lens, DL.o_leno, DL.o_lenb, DL.o_lenstr, DL.o_abs, DL.o_int, DL.o_intb, DL.o_tupo, DL.o_tupl, DL.o_tupt, DL.o_tupb, DL.o_lso, DL.o_lsl, DL.o_lst, DL.o_lss, DL.o_lsb, DL.o_all, DL.o_anyy, DL.o_sum, DL.o_sorted, DL.u_bl, DL.u_int, DL.u_non, DL.u_tup, DL.u_lst, DL.u_own, DL.u_bor, DL.x_0, DL.x_1, DL.x_2, DL.x_3, DL.x_4, DL.x_5, DL.y_tuplenon, DL.y_tuplebl, DL.y_tupleint, DL.y_tuplestr, DL.y_tupletup, DL.y_tuplelst, DL.y_listnon, DL.y_listbl, DL.y_listint, DL.y_liststr, DL.y_listtup, DL.y_listlst, DL.y_dictnon, DL.y_dictbl, DL.y_dictint, DL.y_dictstr, DL.y_dicttup, DL.y_dictlst, DL.y_strnon, DL.y_strbl, DL.y_strint, DL.y_strstr, DL.y_strtup, DL.y_strlst, DL.y_intnon, DL.y_intbl, DL.y_intint, DL.y_intstr, DL.y_inttup, DL.y_intlst, DL.y_boolnon, DL.y_boolbl, DL.y_boolint, DL.y_boolstr, DL.y_booltup, DL.y_boollst, DL.j_n1, DL.j_n2, DL.j_n3, DL.j_n4, DL.j_n5, DL.j_f1, DL.j_f2, DL.j_f3, DL.j_f4, DL.j_f5, DL.j_w1, DL.j_w2, DL.j_w3, DL.j_w4, DL.j_w5, DL.j_01, DL.j_02, DL.j_03, DL.eqD_int, DL.eqOk_int, List.getElem?_cons_zero, List.getElem?_cons_succ, List.set_cons_zero, List.set_cons_succ, List.length_cons, List.length_nil, Option.map_some, Option.map_none, true_and, eq_self]
    have : (if a < 0 then -a else a) = (g : Int) := by
      rw [← hg, Int.gcd_zero]
      split <;> omega
    rw [this]
    exact q
  | succ n ih =>
    rw [w_succ]
    simp only [DL.e_loc, DL.e_cst, DL.e_gc, DL.e_bin, DL.e_neg, DL.e_cmp, DL.e_chn, DL.e_and, DL.e_or, DL.e_not, DL.e_ite, DL.e_idx, DL.e_gidx, DL.e_slc, DL.e_tup, DL.e_lst, DL.e_call, DL.e_bi, DL.e_inst, DL.e_comp, DL.e_nev, DL.e_nil, DL.e_cons, DL.e_no, DL.e_yes, DL.b_val, DL.b_cmp, DL.b_chn, DL.b_and, DL.b_or, DL.b_not, DL.b_no, DL.b_one, DL.i_seq, DL.i_rng1, DL.i_rng2, DL.i_enum, DL.i_zip, DL.s_set, DL.s_setF, DL.s_asg, DL.s_par, DL.s_par3, DL.s_aug, DL.s_app, DL.s_ext, DL.s_pop, DL.s_expr, DL.s_ret, DL.s_retT, DL.s_ite, DL.s_whl, DL.s_for, DL.s_gset, DL.s_brk, DL.s_cnt, DL.s_nil, DL.s_cons, DL.s_frz, DL.t_name, DL.t_tup, DL.t_nil, DL.t_cons, DL.t_len0, DL.t_len1, DL.k_locd, DL.k_loco, DL.k_neg, DL.k_tt, DL.k_ff, DL.k_any, DL.k_lst, DL.k_int, DL.k_dat, DL.k_ty, DL.k_keep, DL.k_own, DL.k_slot, DL.k_new, DL.k_seqt, DL.k_seql, DL.k_seqs, DL.k_seqo, DL.k_enut, DL.k_enul, DL.k_enuo, DL.k_zipt, DL.k_zipl, DL.k_gix, DL.k_gst, DL.k_setd, DL.k_seto, DL.a_dd, DL.a_do, DL.a_rd, DL.a_ro, DL.a_rb, DL.a_nil, DL.a_d, DL.a_o, DL.a_l, DL.a_lo, DL.a_lb, DL.o_add, DL.o_addb, DL.o_adds, DL.o_addt, DL.o_sub, DL.o_subb, DL.o_subbb, DL.o_iadd, DL.o_iaddb, DL.o_isub, DL.o_isubb, DL.o_mul, DL.o_fdiv, DL.o_mod, DL.o_lt, DL.o_le, DL.o_gt, DL.o_ge, DL.o_eq, DL.o_ne, DL.o_isn, DL.o_notn, DL.o_isb, DL.o_notb, DL.o_idxt, DL.o_idxl, DL.o_idxo, DL.o_idxb, DL.o_slct, DL.o_slcl, DL.o_slco, DL.o_slcb, DL.o_rev, DL.o_lent, DL.o_lenl, DL.o_lens, DL.o_leno, DL.o_lenb, DL.o_lenstr, DL.o_abs, DL.o_int, DL.o_intb, DL.o_tupo, DL.o_tupl, DL.o_tupt, DL.o_tupb, DL.o_lso, DL.o_lsl, DL.o_lst, DL.o_lss, DL.o_lsb, DL.o_all, DL.o_anyy, DL.o_sum, DL.o_sorted, DL.u_bl, DL.u_int, DL.u_non, DL.u_tup, DL.u_lst, DL.u_own, DL.u_bor, DL.x_0, DL.x_1, DL.x_2, DL.x_3, DL.x_4, DL.x_5, DL.y_tuplenon, DL.y_tuplebl, DL.y_tupleint, DL.y_tuplestr, DL.y_tupletup, DL.y_tuplelst, DL.y_listnon, DL.y_listbl, DL.y_listint, DL.y_liststr, DL.y_listtup, DL.y_listlst, DL.y_dictnon, DL.y_dictbl, DL.y_dictint, DL.y_dictstr, DL.y_dicttup, DL.y_dictlst, DL.y_strnon, DL.y_strbl, DL.y_strint, DL.y_strstr, DL.y_strtup, DL.y_strlst, DL.y_intnon, DL.y_intbl, DL.y_intint, DL.y_intstr, DL.y_inttup, DL.y_intlst, DL.y_boolnon, DL.y_boolbl, DL.y_boolint, DL.y_boolstr, DL.y_booltup, DL.y_boollst, DL.j_n1, DL.j_n2, DL.j_n3, DL.j_n4, DL.j_n5, DL.j_f1, DL.j_f2, DL.j_f3, DL.j_f4, DL.j_f5, DL.j_w1, DL.j_w2, DL.j_w3, DL.j_w4, DL.j_w5, DL.j_01, DL.j_02, DL.j_03, DL.eqD_int, DL.eqOk_int, List.getElem?_cons_zero, List.getElem?_cons_succ, List.set_cons_zero, List.set_cons_succ, List.length_cons, List.length_nil, Option.map_some, Option.map_none, true_and, eq_self]
    by_cases hb : b = 0
    · subst hb
      simp only [bne_self_eq_false, k_ff]
      have : (if a < 0 then -a else a) = (g : Int) := by
        rw [← hg, Int.gcd_zero]
        split <;> omega
      rw [this]
      exact q
    · have : (b != 0) = true := by simpa using hb
      rw [this, k_tt]
      refine ⟨hb, ih b (a.fmod b) (by rw [gcd_fmod]; exact hg) ?_⟩
      have h1 : (a.fmod b).natAbs < b.natAbs := natAbs_fmod_lt a hb
      omega

def Tfraction : DSp := fun ds G Q _ => ∃ n d : Int, ds = [.int n, .int d] ∧ d ≠ 0 ∧ Bd 7000 n ∧ Bd 7000 d ∧ Q (nfD (Rat.divInt n d)) G
def cfraction (k : Nat) : CSs := (.cons (.setF 2 (.call k (.cons (.loc 0) (.cons (.loc 1) .nil)))) (.cons (.ite (.cmp .lt (.loc 1) (.cst (.int 0))) (.cons (.setF 2 (.neg (.loc 2))) .nil) .nil) (.cons (.ret (.tup (.cons (.bin .fdiv (.loc 0) (.loc 2)) (.cons (.bin .fdiv (.loc 1) (.loc 2)) .nil)))) .nil)))
theorem gcd_bd {n d : Int} (hd : d ≠ 0) (h : Bd 7000 d) : Bd 7000 ((Int.gcd n d : Nat) : Int) := by
  unfold Bd at *
  refine Nat.lt_of_le_of_lt ?_ h
  rw [Int.natAbs_natCast]
  exact Nat.gcd_le_right _ (by omega)
theorem run_fraction {S : Sg} {N : List Str} {k : Nat} (hN : N.length = 3) (h0 : S.sp k = Tcommon) : ∀ ds G Q E, Tfraction ds G Q E → runB S N (cfraction k) ds G Q E := by
  rintro ds G Q E ⟨n, d, rfl, hd, bn, bd, q⟩
  simp only [run_eq, startL, hN, cfraction, DL.e_loc, DL.e_cst, DL.e_gc, DL.e_bin, DL.e_neg, DL.e_cmp, DL.e_chn, DL.e_and, DL.e_or, DL.e_not, DL.e_ite, DL.e_idx, DL.e_gidx, DL.e_slc, DL.e_tup, DL.e_lst, DL.e_call, DL.e_bi, DL.e_inst, DL.e_comp, DL.e_nev, DL.e_nil, DL.e_cons, DL.e_no, DL.e_yes, DL.b_val, DL.b_cmp, DL.b_chn, DL.b_and, DL.b_or, DL.b_not, DL.b_no, DL.b_one, DL.i_seq, DL.i_rng1, DL.i_rng2, DL.i_enum, DL.i_zip, DL.s_set, DL.s_setF, DL.s_asg, DL.s_par, DL.s_par3, DL.s_aug, DL.s_app, DL.s_ext, DL.s_pop, DL.s_expr, DL.s_ret, DL.s_retT, DL.s_ite, DL.s_whl, DL.s_for, DL.s_gset, DL.s_brk, DL.s_cnt, DL.s_nil, DL.s_cons, DL.s_frz, DL.t_name, DL.t_tup, DL.t_nil, DL.t_cons, DL.t_len0, DL.t_len1, DL.k_locd, DL.k_loco, DL.k_neg, DL.k_tt, DL.k_ff, DL.k_any, DL.k_lst, DL.k_int, DL.k_dat, DL.k_ty, DL.k_keep, DL.k_own, DL.k_slot, DL.k_new, DL.k_seqt, DL.k_seql, DL.k_seqs, DL.k_seqo, DL.k_enut, DL.k_enul, DL.k_enuo, DL.k_zipt, DL.k_zipl, DL.k_gix, DL.k_gst, DL.k_setd, DL.k_seto, DL.a_dd, DL.a_do, DL.a_rd, DL.a_ro, DL.a_rb, DL.a_nil, DL.a_d, DL.a_o, DL.a_l, DL.a_lo, DL.a_lb, DL.o_add, DL.o_addb, DL.o_adds, DL.o_addt, DL.o_sub, DL.o_subb, DL.o_subbb, DL.o_iadd, DL.o_iaddb, DL.o_isub, DL.o_isubb, DL.o_mul, DL.o_fdiv, DL.o_mod, DL.o_lt, DL.o_le, DL.o_gt, DL.o_ge, DL.o_eq, DL.o_ne, DL.o_isn, DL.o_notn, DL.o_isb, DL.o_notb, DL.o_idxt, DL.o_idxl, DL.o_idxo, DL.o_idxb, DL.o_slct, DL.o_slcl, DL.o_slco, DL.o_slcb, DL.o_rev, DL.o_lent, DL.o_lenl, DL.o_lens, DL.o_leno, DL.o_lenb, DL.o_lenstr, DL.o_abs, DL.o_int, DL.o_intb, DL.o_tupo, DL.o_tupl, DL.o_tupt, DL.o_tupb, DL.o_lso, DL.o_lsl, DL.o_lst, DL.o_lss, DL.o_lsb, DL.o_all, DL.o_anyy, DL.o_sum, DL.o_sorted, DL.u_bl, DL.u_int, DL.u_non, DL.u_tup, DL.u_lst, DL.u_own, DL.u_bor, DL.x_0, DL.x_1, DL.x_2, DL.x_3, DL.x_4, DL.x_5, DL.y_tuplenon, DL.y_tuplebl, DL.y_tupleint, DL.y_tuplestr, DL.y_tupletup, DL.y_tuplelst, DL.y_listnon, DL.y_listbl, DL.y_listint, DL.y_liststr, DL.y_listtup, DL.y_listlst, DL.y_dictnon, DL.y_dictbl, DL.y_dictint, DL.y_dictstr, DL.y_dicttup, DL.y_dictlst, DL.y_strnon, DL.y_strbl, DL.y_strint, DL.y_strstr, DL.y_strtup, DL.y_strlst, DL.y_intnon, DL.y_intbl, DL.y_intint, DL.y_intstr, DL.y_inttup, DL.y_intlst, DL.y_boolnon, DL.y_boolbl, DL.y_boolint, DL.y_boolstr, DL.y_booltup, DL.y_boollst, DL.j_n1, DL.j_n2, DL.j_n3, DL.j_n4, DL.j_n5, DL.j_f1, DL.j_f2, DL.j_f3, DL.j_f4, DL.j_f5, DL.j_w1, DL.j_w2, DL.j_w3, DL.j_w4, DL.j_w5, DL.j_01, DL.j_02, DL.j_03, DL.eqD_int, DL.eqOk_int, List.getElem?_cons_zero, List.getElem?_cons_succ, List.set_cons_zero, List.set_cons_succ, List.length_cons, List.length_nil, Option.map_some, Option.map_none, true_and, eq_self, List.map_cons, List.map_nil, List.replicate_zero, List.append_nil, h0]
  refine ⟨n, d, rfl, ?_⟩
  simp only [DL.e_loc, DL.e_cst, DL.e_gc, DL.e_bin, DL.e_neg, DL.e_cmp, DL.e_chn, DL.e_and, DL.e_or, DL.e_not, DL.e_ite, DL.e_idx, DL.e_gidx, DL.e_slc, DL.e_tup, DL.e_lst, DL.e_call, DL.e_bi, DL.e_inst, DL.e_comp, DL.e_nev, DL.e_nil, DL.e_cons, DL.e_no, DL.e_yes, DL.b_val, DL.b_cmp, DL.b_chn, DL.b_and, DL.b_or, DL.b_not, DL.b_no, DL.b_one, DL.i_seq, DL.i_rng1, DL.i_rng2, DL.i_enum, DL.i_zip, DL.s_set, DL.s_setF, DL.s_asg, DL.s_par, DL.s_par3, DL.s_aug, DL.s_app, DL.s_ext, DL.s_pop, DL.s_expr, DL.s_ret, DL.s_retT, DL.s_ite, DL.s_whl, DL.s_for, DL.s_gset, DL.s_brk, DL.s_cnt, DL.s_nil, DL.s_cons, DL.s_frz, DL.t_name, DL.t_tup, DL.t_nil, DL.t_cons, DL.t_len0, DL.t_len1, DL.k_locd, DL.k_loco, DL.k_neg, DL.k_tt, DL.k_ff, DL.k_any, DL.k_lst, DL.k_int, DL.k_dat, DL.k_ty, DL.k_keep, DL.k_own, DL.k_slot, DL.k_new, DL.k_seqt, DL.k_seql, DL.k_seqs, DL.k_seqo, DL.k_enut, DL.k_enul, DL.k_enuo, DL.k_zipt, DL.k_zipl, DL.k_gix, DL.k_gst, DL.k_setd, DL.k_seto, DL.a_dd, DL.a_do, DL.a_rd, DL.a_ro, DL.a_rb, DL.a_nil, DL.a_d, DL.a_o, DL.a_l, DL.a_lo, DL.a_lb, DL.o_add, DL.o_addb, DL.o_adds, DL.o_addt, DL.o_sub, DL.o_subb, DL.o_subbb, DL.o_iadd, DL.o_iaddb, DL.o_isub, DL.o_isubb, DL.o_mul, DL.o_fdiv, DL.o_mod, DL.o_lt, DL.o_le, DL.o_gt, DL.o_ge, DL.o_eq, DL.o_ne, DL.o_isn, DL.o_notn, DL.o_isb, DL.o_notb, DL.o_idxt, DL.o_idxl, DL.o_idxo, DL.o_idxb, DL.o_slct, DL.o_slcl, DL.o_slco, DL.o_slcb, DL.o_rev, DL.o_lent, DL.o_lenl, DL.o_lens, DL.o_leno, DL.o_lenb, DL.o_lenstr, DL.o_abs, DL.o_int, DL.o_intb, DL.o_tupo, DL.o_tupl, DL.o_tupt, DL.o_tupb, DL.o_lso, DL.o_lsl, DL.o_lst, DL.o_lss, DL.o_lsb, DL.o_all, DL.o_anyy, DL.o_sum, DL.o_sorted, DL.u_bl, DL.u_int, DL.u_non, DL.u_tup, DL.u_lst, DL.u_own, DL.u_bor, DL.x_0, DL.x_1, DL.x_2, DL.x_3, DL.x_4, DL.x_5, DL.y_tuplenon, DL.y_tuplebl, DL.y_tupleint, DL.y_tuplestr, DL.y_tupletup, DL.y_tuplelst, DL.y_listnon, DL.y_listbl, DL.y_listint, DL.y_liststr, DL.y_listtup, DL.y_listlst, DL.y_dictnon, DL.y_dictbl, DL.y_dictint, DL.y_dictstr, DL.y_dicttup, DL.y_dictlst, DL.y_strnon, DL.y_strbl, DL.y_strint, DL.y_strstr, DL.y_strtup, DL.y_strlst, DL.y_intnon, DL.y_intbl, DL.y_intint, DL.y_intstr, DL.y_inttup, DL.y_intlst, DL.y_boolnon, DL.y_boolbl, DL.y_boolint, DL.y_boolstr, DL.y_booltup, DL.y_boollst, DL.j_n1, DL.j_n2, DL.j_n3, DL.j_n4, DL.j_n5, DL.j_f1, DL.j_f2, DL.j_f3, DL.j_f4, DL.j_f5, DL.j_w1, DL.j_w2, DL.j_w3, DL.j_w4, DL.j_w5, DL.j_01, DL.j_02, DL.j_03, DL.eqD_int, DL.eqOk_int, List.getElem?_cons_zero, List.getElem?_cons_succ, List.set_cons_zero, List.set_cons_succ, List.length_cons, List.length_nil, Option.map_some, Option.map_none, true_and, eq_self, List.cons_append, List.nil_append, List.append_nil, List.map_cons, Nat.reduceAdd, Nat.reduceSub, List.replicate_succ, List.replicate_zero]
  have hg0 : ((Int.gcd n d : Nat) : Int) ≠ 0 := by
    have : Int.gcd n d ≠ 0 := fun e => hd (Int.gcd_eq_zero_iff.mp e).2
    omega
  have hgb := gcd_bd (n := n) hd bd
  have hgc : Int.gcd d n = Int.gcd n d := Int.gcd_comm d n
  have dn : ((Int.gcd n d : Nat) : Int) ∣ n := Int.gcd_dvd_left n d
  have dd : ((Int.gcd n d : Nat) : Int) ∣ d := Int.gcd_dvd_right n d
  have key : ∀ s : Int, (s = Int.gcd n d ∧ 0 < d) ∨ (s = -Int.gcd n d ∧ d < 0) → D.tup [.int (n.fdiv s), .int (d.fdiv s)] = nfD (Rat.divInt n d) := by
    intro s hs
    unfold nfD
    rw [Rat.num_divInt, Rat.den_divInt, if_neg hd, hgc]
    rcases hs with ⟨e, hp⟩ | ⟨e, hp⟩
    · rw [e, Int.fdiv_eq_ediv_of_nonneg _ (by omega), Int.fdiv_eq_ediv_of_nonneg _ (by omega), Int.sign_eq_one_of_pos hp, Int.one_mul]
      have : ((d.natAbs / Int.gcd n d : Nat) : Int) = d / (Int.gcd n d : Nat) := by
        rw [Int.natCast_ediv]
        congr 1
        omega
      rw [this]
    · rw [e, ← Int.neg_fdiv_neg n, ← Int.neg_fdiv_neg d, Int.neg_neg, Int.fdiv_eq_ediv_of_nonneg _ (by omega), Int.fdiv_eq_ediv_of_nonneg _ (by omega), Int.sign_eq_neg_one_of_neg hp, Int.neg_one_mul]
      have : ((d.natAbs / Int.gcd n d : Nat) : Int) = -d / (Int.gcd n d : Nat) := by
        rw [Int.natCast_ediv]
        congr 1
        omega
      rw [this]
  refine iteK_of (fun h => ?_) (fun h => ?_)
  · have hlt : d < 0 := by simpa using h
    refine ⟨divOk (c := 7000) (by omega) hgb.neg (by decide), divOk (c := 7000) (by omega) hgb.neg (by decide), by decide, ?_⟩
    rw [key _ (.inr ⟨rfl, hlt⟩)]
    exact q
  · have hlt : 0 < d := by
      have : ¬ d < 0 := by simpa using h
      omega
    refine ⟨divOk (c := 7000) hg0 hgb (by decide), divOk (c := 7000) hg0 hgb (by decide), by decide, ?_⟩
    rw [key _ (.inl ⟨rfl, hlt⟩)]
    exact q

theorem Sz.mono {b c : Nat} {q : Rat} (h : Sz b q) (k : b ≤ c) : Sz c q := ⟨h.1.mono k, h.2.mono k⟩
theorem sz_divInt {b : Nat} {n d : Int} (hd : d ≠ 0) (h : Bd b n) (k : Bd b d) : Sz b (Rat.divInt n d) := by
  unfold Sz Bd at *
  constructor
  · rw [Rat.num_divInt]
    refine Nat.lt_of_le_of_lt ?_ h
    rw [Int.natAbs_ediv_of_dvd]
    · refine Nat.le_trans (Nat.div_le_self _ _) ?_
      rw [Int.natAbs_mul, Int.natAbs_sign_of_ne_zero hd, Nat.one_mul]
      exact Nat.le_refl _
    · exact Int.dvd_mul_of_dvd_right (Int.gcd_dvd_right d n)
  · rw [Rat.den_divInt, if_neg hd]
    refine Nat.lt_of_le_of_lt ?_ k
    rw [Int.natAbs_natCast]
    exact Nat.div_le_self _ _
theorem den_ne (q : Rat) : (q.den : Int) ≠ 0 := by have := q.den_nz; omega
theorem Sz.sub {b c : Nat} {p q : Rat} (h : Sz b p) (k : Sz c q) : Sz (b + c + 1) (p - q) := by
  rw [Rat.sub_def', ← Rat.divInt_ofNat]
  refine sz_divInt ?_ (Bd.sub (h.1.mul k.2) ((k.1.mul h.2).mono (by omega))) ?_
  · have := p.den_nz; have := q.den_nz
    have : p.den * q.den ≠ 0 := Nat.mul_ne_zero p.den_nz q.den_nz
    omega
  · rw [Int.natCast_mul]; exact (h.2.mul k.2).mono (by omega)
theorem Sz.add {b c : Nat} {p q : Rat} (h : Sz b p) (k : Sz c q) : Sz (b + c + 1) (p + q) := by
  rw [Rat.add_def', ← Rat.divInt_ofNat]
  refine sz_divInt ?_ (Bd.add (h.1.mul k.2) ((k.1.mul h.2).mono (by omega))) ?_
  · have : p.den * q.den ≠ 0 := Nat.mul_ne_zero p.den_nz q.den_nz
    omega
  · rw [Int.natCast_mul]; exact (h.2.mul k.2).mono (by omega)
theorem Sz.mul {b c : Nat} {p q : Rat} (h : Sz b p) (k : Sz c q) : Sz (b + c) (p * q) := by
  rw [Rat.mul_def', ← Rat.divInt_ofNat]
  refine sz_divInt ?_ (h.1.mul k.1) ?_
  · have : p.den * q.den ≠ 0 := Nat.mul_ne_zero p.den_nz q.den_nz
    omega
  · rw [Int.natCast_mul]; exact h.2.mul k.2
theorem Sz.neg {b : Nat} {p : Rat} (h : Sz b p) : Sz b (-p) := by
  unfold Sz
  rw [Rat.neg_num, Rat.neg_den]
  exact ⟨h.1.neg, h.2⟩
/-- two numbers, each of at most 3000 bits -/
def T2 (f : Rat → Rat → Rat) : DSp := fun ds G Q _ => ∃ p q : Rat, ds = [nfD p, nfD q] ∧ Sz 3000 p ∧ Sz 3000 q ∧ Q (nfD (f p q)) G
def cminus (k : Nat) : CSs := (.cons (.ret (.call k (.cons (.bin .subP (.bin .mul (.idx .any (.loc 0) (.cst (.int 0))) (.idx .any (.loc 1) (.cst (.int 1)))) (.bin .mul (.idx .any (.loc 1) (.cst (.int 0))) (.idx .any (.loc 0) (.cst (.int 1))))) (.cons (.bin .mul (.idx .any (.loc 0) (.cst (.int 1))) (.idx .any (.loc 1) (.cst (.int 1)))) .nil)))) .nil)
def ctimes (k : Nat) : CSs := (.cons (.ret (.call k (.cons (.bin .mul (.idx .any (.loc 0) (.cst (.int 0))) (.idx .any (.loc 1) (.cst (.int 0)))) (.cons (.bin .mul (.idx .any (.loc 0) (.cst (.int 1))) (.idx .any (.loc 1) (.cst (.int 1)))) .nil)))) .nil)
def cplus (k : Nat) : CSs := (.cons (.ret (.call k (.cons (.bin .addP (.bin .mul (.idx .any (.loc 0) (.cst (.int 0))) (.idx .any (.loc 1) (.cst (.int 1)))) (.bin .mul (.idx .any (.loc 1) (.cst (.int 0))) (.idx .any (.loc 0) (.cst (.int 1))))) (.cons (.bin .mul (.idx .any (.loc 0) (.cst (.int 1))) (.idx .any (.loc 1) (.cst (.int 1)))) .nil)))) .nil)
def cneg : CSs := (.cons (.ret (.tup (.cons (.neg (.idx .any (.loc 0) (.cst (.int 0)))) (.cons (.idx .any (.loc 0) (.cst (.int 1))) .nil)))) .nil)
section
variable {S : Sg} {N : List Str} {k : Nat}
theorem run_minus (hN : N.length = 2) (h0 : S.sp k = Tfraction) : ∀ ds G Q E, T2 (· - ·) ds G Q E → runB S N (cminus k) ds G Q E := by
  rintro ds G Q E ⟨p, q, rfl, sp, sq, h⟩
  simp only [run_eq, startL, hN, cminus, DL.e_loc, DL.e_cst, DL.e_gc, DL.e_bin, DL.e_neg, DL.e_cmp, DL.e_chn, DL.e_and, DL.e_or, DL.e_not, DL.e_ite, DL.e_idx, DL.e_gidx, DL.e_slc, DL.e_tup, DL.e_lst, DL.e_call, DL.e_bi, DL.e_inst, DL.e_comp, DL.e_nev, DL.e_nil, DL.e_cons, DL.e_no, DL.e_yes, DL.b_val, DL.b_cmp, DL.b_chn, DL.b_and, DL.b_or, DL.b_not, DL.b_no, DL.b_one, DL.i_seq, DL.i_rng1, DL.i_rng2, DL.i_enum, DL.i_zip, DL.s_set, DL.s_setF, DL.s_asg, DL.s_par, DL.s_par3, DL.s_aug, DL.s_app, DL.s_ext, DL.s_pop, DL.s_expr, DL.s_ret, DL.s_retT, DL.s_ite, DL.s_whl, DL.s_for, DL.s_gset, DL.s_brk, DL.s_cnt, DL.s_nil, DL.s_cons, DL.s_frz, DL.t_name, DL.t_tup, DL.t_nil, DL.t_cons, DL.t_len0, DL.t_len1, DL.k_locd, DL.k_loco, DL.k_neg, DL.k_tt, DL.k_ff, DL.k_any, DL.k_lst, DL.k_int, DL.k_dat, DL.k_ty, DL.k_keep, DL.k_own, DL.k_slot, DL.k_new, DL.k_seqt, DL.k_seql, DL.k_seqs, DL.k_seqo, DL.k_enut, DL.k_enul, DL.k_enuo, DL.k_zipt, DL.k_zipl, DL.k_gix, DL.k_gst, DL.k_setd, DL.k_seto, DL.a_dd, DL.a_do, DL.a_rd, DL.a_ro, DL.a_rb, DL.a_nil, DL.a_d, DL.a_o, DL.a_l, DL.a_lo, DL.a_lb, DL.o_add, DL.o_addb, DL.o_adds, DL.o_addt, DL.o_sub, DL.o_subb, DL.o_subbb, DL.o_iadd, DL.o_iaddb, DL.o_isub, DL.o_isubb, DL.o_mul, DL.o_fdiv, DL.o_mod, DL.o_lt, DL.o_le, DL.o_gt, DL.o_ge, DL.o_eq, DL.o_ne, DL.o_isn, DL.o_notn, DL.o_isb, DL.o_notb, DL.o_idxt, DL.o_idxl, DL.o_idxo, DL.o_idxb, DL.o_slct, DL.o_slcl, DL.o_slco, DL.o_slcb, DL.o_rev, DL.o_lent, DL.o_lenl, DL.o_lens, DL.o_leno, DL.o_lenb, DL.o_lenstr, DL.o_abs, DL.o_int, DL.o_intb, DL.o_tupo, DL.o_tupl, DL.o_tupt, DL.o_tupb, DL.o_lso, DL.o_lsl, DL.o_lst, DL.o_lss, DL.o_lsb, DL.o_all, DL.o_anyy, DL.o_sum, DL.o_sorted, DL.u_bl, DL.u_int, DL.u_non, DL.u_tup, DL.u_lst, DL.u_own, DL.u_bor, DL.x_0, DL.x_1, DL.x_2, DL.x_3, DL.x_4, DL.x_5, DL.y_tuplenon, DL.y_tuplebl, DL.y_tupleint, DL.y_tuplestr, DL.y_tupletup, DL.y_tuplelst, DL.y_listnon, DL.y_listbl, DL.y_listint, DL.y_liststr, DL.y_listtup, DL.y_listlst, DL.y_dictnon, DL.y_dictbl, DL.y_dictint, DL.y_dictstr, DL.y_dicttup, DL.y_dictlst, DL.y_strnon, DL.y_strbl, DL.y_strint, DL.y_strstr, DL.y_strtup, DL.y_strlst, DL.y_intnon, DL.y_intbl, DL.y_intint, DL.y_intstr, DL.y_inttup, DL.y_intlst, DL.y_boolnon, DL.y_boolbl, DL.y_boolint, DL.y_boolstr, DL.y_booltup, DL.y_boollst, DL.j_n1, DL.j_n2, DL.j_n3, DL.j_n4, DL.j_n5, DL.j_f1, DL.j_f2, DL.j_f3, DL.j_f4, DL.j_f5, DL.j_w1, DL.j_w2, DL.j_w3, DL.j_w4, DL.j_w5, DL.j_01, DL.j_02, DL.j_03, DL.eqD_int, DL.eqOk_int, List.getElem?_cons_zero, List.getElem?_cons_succ, List.set_cons_zero, List.set_cons_succ, List.length_cons, List.length_nil, Option.map_some, Option.map_none, true_and, eq_self, List.map_cons, List.map_nil, Nat.sub_self, List.replicate_zero, List.append_nil, nfD, h0]
  refine ⟨mulW sp.1 sq.2 (by decide), mulW sq.1 sp.2 (by decide), mulW sp.2 sq.2 (by decide), _, _, rfl, ?_, (Bd.sub (sp.1.mul sq.2) (sq.1.mul sp.2)).mono (by decide), (sp.2.mul sq.2).mono (by decide), ?_⟩
  · rw [← Int.natCast_mul]
    have : p.den * q.den ≠ 0 := Nat.mul_ne_zero p.den_nz q.den_nz
    omega
  · simp only [DL.e_loc, DL.e_cst, DL.e_gc, DL.e_bin, DL.e_neg, DL.e_cmp, DL.e_chn, DL.e_and, DL.e_or, DL.e_not, DL.e_ite, DL.e_idx, DL.e_gidx, DL.e_slc, DL.e_tup, DL.e_lst, DL.e_call, DL.e_bi, DL.e_inst, DL.e_comp, DL.e_nev, DL.e_nil, DL.e_cons, DL.e_no, DL.e_yes, DL.b_val, DL.b_cmp, DL.b_chn, DL.b_and, DL.b_or, DL.b_not, DL.b_no, DL.b_one, DL.i_seq, DL.i_rng1, DL.i_rng2, DL.i_enum, DL.i_zip, DL.s_set, DL.s_setF, DL.s_asg, DL.s_par, DL.s_par3, DL.s_aug, DL.s_app, DL.s_ext, DL.s_pop, DL.s_expr, DL.s_ret, DL.s_retT, DL.s_ite, DL.s_whl, DL.s_for, DL.s_gset, DL.s_brk, DL.s_cnt, DL.s_nil, DL.s_cons, DL.s_frz, DL.t_name, DL.t_tup, DL.t_nil, DL.t_cons, DL.t_len0, DL.t_len1, DL.k_locd, DL.k_loco, DL.k_neg, DL.k_tt, DL.k_ff, DL.k_any, DL.k_lst, DL.k_int, DL.k_dat, DL.k_ty, DL.k_keep, DL.k_own, DL.k_slot, DL.k_new, DL.k_seqt, DL.k_seql, DL.k_seqs, DL.k_seqo, DL.k_enut, DL.k_enul, DL.k_enuo, DL.k_zipt, DL.k_zipl, DL.k_gix, DL.k_gst, DL.k_setd, DL.k_seto, DL.a_dd, DL.a_do, DL.a_rd, DL.a_ro, DL.a_rb, DL.a_nil, DL.a_d, DL.a_o, DL.a_l, DL.a_lo, DL.a_lb, DL.o_add, DL.o_addb, DL.o_adds, DL.o_addt, DL.o_sub, DL.o_subb, DL.o_subbb, DL.o_iadd, DL.o_iaddb, DL.o_isub, DL.o_isubb, DL.o_mul, DL.o_fdiv, DL.o_mod, DL.o_lt, DL.o_le, DL.o_gt, DL.o_ge, DL.o_eq, DL.o_ne, DL.o_isn, DL.o_notn, DL.o_isb, DL.o_notb, DL.o_idxt, DL.o_idxl, DL.o_idxo, DL.o_idxb, DL.o_slct, DL.o_slcl, DL.o_slco, DL.o_slcb, DL.o_rev, DL.o_lent, DL.o_lenl, DL.o_lens, DL.o_leno, DL.o_lenb, DL.o_lenstr, DL.o_abs, DL.o_int, DL.o_intb, DL.o_tupo, DL.o_tupl, DL.o_tupt, DL.o_tupb, DL.o_lso, DL.o_lsl, DL.o_lst, DL.o_lss, DL.o_lsb, DL.o_all, DL.o_anyy, DL.o_sum, DL.o_sorted, DL.u_bl, DL.u_int, DL.u_non, DL.u_tup, DL.u_lst, DL.u_own, DL.u_bor, DL.x_0, DL.x_1, DL.x_2, DL.x_3, DL.x_4, DL.x_5, DL.y_tuplenon, DL.y_tuplebl, DL.y_tupleint, DL.y_tuplestr, DL.y_tupletup, DL.y_tuplelst, DL.y_listnon, DL.y_listbl, DL.y_listint, DL.y_liststr, DL.y_listtup, DL.y_listlst, DL.y_dictnon, DL.y_dictbl, DL.y_dictint, DL.y_dictstr, DL.y_dicttup, DL.y_dictlst, DL.y_strnon, DL.y_strbl, DL.y_strint, DL.y_strstr, DL.y_strtup, DL.y_strlst, DL.y_intnon, DL.y_intbl, DL.y_intint, DL.y_intstr, DL.y_inttup, DL.y_intlst, DL.y_boolnon, DL.y_boolbl, DL.y_boolint, DL.y_boolstr, DL.y_booltup, DL.y_boollst, DL.j_n1, DL.j_n2, DL.j_n3, DL.j_n4, DL.j_n5, DL.j_f1, DL.j_f2, DL.j_f3, DL.j_f4, DL.j_f5, DL.j_w1, DL.j_w2, DL.j_w3, DL.j_w4, DL.j_w5, DL.j_01, DL.j_02, DL.j_03, DL.eqD_int, DL.eqOk_int, List.getElem?_cons_zero, List.getElem?_cons_succ, List.set_cons_zero, List.set_cons_succ, List.length_cons, List.length_nil, Option.map_some, Option.map_none, true_and, eq_self]
    rw [← Int.natCast_mul, Rat.divInt_ofNat, ← Rat.sub_def']
    exact h
theorem run_plus (hN : N.length = 2) (h0 : S.sp k = Tfraction) : ∀ ds G Q E, T2 (· + ·) ds G Q E → runB S N (cplus k) ds G Q E := by
  rintro ds G Q E ⟨p, q, rfl, sp, sq, h⟩
  simp only [run_eq, startL, hN, cplus, DL.e_loc, DL.e_cst, DL.e_gc, DL.e_bin, DL.e_neg, DL.e_cmp, DL.e_chn, DL.e_and, DL.e_or, DL.e_not, DL.e_ite, DL.e_idx, DL.e_gidx, DL.e_slc, DL.e_tup, DL.e_lst, DL.e_call, DL.e_bi, DL.e_inst, DL.e_comp, DL.e_nev, DL.e_nil, DL.e_cons, DL.e_no, DL.e_yes, DL.b_val, DL.b_cmp, DL.b_chn, DL.b_and, DL.b_or, DL.b_not, DL.b_no, DL.b_one, DL.i_seq, DL.i_rng1, DL.i_rng2, DL.i_enum, DL.i_zip, DL.s_set, DL.s_setF, DL.s_asg, DL.s_par, DL.s_par3, DL.s_aug, DL.s_app, DL.s_ext, DL.s_pop, DL.s_expr, DL.s_ret, DL.s_retT, DL.s_ite, DL.s_whl, DL.s_for, DL.s_gset, DL.s_brk, DL.s_cnt, DL.s_nil, DL.s_cons, DL.s_frz, DL.t_name, DL.t_tup, DL.t_nil, DL.t_cons, DL.t_len0, DL.t_len1, DL.k_locd, DL.k_loco, DL.k_neg, DL.k_tt, DL.k_ff, DL.k_any, DL.k_lst, DL.k_int, DL.k_dat, DL.k_ty, DL.k_keep, DL.k_own, DL.k_slot, DL.k_new, DL.k_seqt, DL.k_seql, DL.k_seqs, DL.k_seqo, DL.k_enut, DL.k_enul, DL.k_enuo, DL.k_zipt, DL.k_zipl, DL.k_gix, DL.k_gst, DL.k_setd, DL.k_seto, DL.a_dd, DL.a_do, DL.a_rd, DL.a_ro, DL.a_rb, DL.a_nil, DL.a_d, DL.a_o, DL.a_l, DL.a_lo, DL.a_lb, DL.o_add, DL.o_addb, DL.o_adds, DL.o_addt, DL.o_sub, DL.o_subb, DL.o_subbb, DL.o_iadd, DL.o_iaddb, DL.o_isub, DL.o_isubb, DL.o_mul, DL.o_fdiv, DL.o_mod, DL.o_lt, DL.o_le, DL.o_gt, DL.o_ge, DL.o_eq, DL.o_ne, DL.o_isn, DL.o_notn, DL.o_isb, DL.o_notb, DL.o_idxt, DL.o_idxl, DL.o_idxo, DL.o_idxb, DL.o_slct, DL.o_slcl, DL.o_slco, DL.o_slcb, DL.o_rev, DL.o_lent, DL.o_lenl, DL.o_lens, DL.o_leno, DL.o_lenb, DL.o_lenstr, DL.o_abs, DL.o_int, DL.o_intb, DL.o_tupo, DL.o_tupl, DL.o_tupt, DL.o_tupb, DL.o_lso, DL.o_lsl, DL.o_lst, DL.o_lss, DL.o_lsb, DL.o_all, DL.o_anyy, DL.o_sum, DL.o_sorted, DL.u_bl, DL.u_int, DL.u_non, DL.u_tup, DL.u_lst, DL.u_own, DL.u_bor, DL.x_0, DL.x_1, DL.x_2, DL.x_3, DL.x_4, DL.x_5, DL.y_tuplenon, DL.y_tuplebl, DL.y_tupleint, DL.y_tuplestr, DL.y_tupletup, DL.y_tuplelst, DL.y_listnon, DL.y_listbl, DL.y_listint, DL.y_liststr, DL.y_listtup, DL.y_listlst, DL.y_dictnon, DL.y_dictbl, DL.y_dictint, DL.y_dictstr, DL.y_dicttup, DL.y_dictlst, DL.y_strnon, DL.y_strbl, DL.y_strint, DL.y_strstr, DL.y_strtup, DL.y_strlst, DL.y_intnon, DL.y_intbl, DL.y_intint, DL.y_intstr, DL.y_inttup, DL.y_intlst, DL.y_boolnon, DL.y_boolbl, DL.y_boolint, DL.y_boolstr, DL.y_booltup, DL.y_boollst, DL.j_n1, DL.j_n2, DL.j_n3, DL.j_n4, DL.j_n5, DL.j_f1, DL.j_f2, DL.j_f3, DL.j_f4, DL.j_f5, DL.j_w1, DL.j_w2, DL.j_w3, DL.j_w4, DL.j_w5, DL.j_01, DL.j_02, DL.j_03, DL.eqD_int, DL.eqOk_int, List.getElem?_cons_zero, List.getElem?_cons_succ, List.set_cons_zero, List.set_cons_succ, List.length_cons, List.length_nil, Option.map_some, Option.map_none, true_and, eq_self, List.map_cons, List.map_nil, Nat.sub_self, List.replicate_zero, List.append_nil, nfD, h0]
  refine ⟨mulW sp.1 sq.2 (by decide), mulW sq.1 sp.2 (by decide), mulW sp.2 sq.2 (by decide), _, _, rfl, ?_, (Bd.add (sp.1.mul sq.2) (sq.1.mul sp.2)).mono (by decide), (sp.2.mul sq.2).mono (by decide), ?_⟩
  · rw [← Int.natCast_mul]
    have : p.den * q.den ≠ 0 := Nat.mul_ne_zero p.den_nz q.den_nz
    omega
  · simp only [DL.e_loc, DL.e_cst, DL.e_gc, DL.e_bin, DL.e_neg, DL.e_cmp, DL.e_chn, DL.e_and, DL.e_or, DL.e_not, DL.e_ite, DL.e_idx, DL.e_gidx, DL.e_slc, DL.e_tup, DL.e_lst, DL.e_call, DL.e_bi, DL.e_inst, DL.e_comp, DL.e_nev, DL.e_nil, DL.e_cons, DL.e_no, DL.e_yes, DL.b_val, DL.b_cmp, DL.b_chn, DL.b_and, DL.b_or, DL.b_not, DL.b_no, DL.b_one, DL.i_seq, DL.i_rng1, DL.i_rng2, DL.i_enum, DL.i_zip, DL.s_set, DL.s_setF, DL.s_asg, DL.s_par, DL.s_par3, DL.s_aug, DL.s_app, DL.s_ext, DL.s_pop, DL.s_expr, DL.s_ret, DL.s_retT, DL.s_ite, DL.s_whl, DL.s_for, DL.s_gset, DL.s_brk, DL.s_cnt, DL.s_nil, DL.s_cons, DL.s_frz, DL.t_name, DL.t_tup, DL.t_nil, DL.t_cons, DL.t_len0, DL.t_len1, DL.k_locd, DL.k_loco, DL.k_neg, DL.k_tt, DL.k_ff, DL.k_any, DL.k_lst, DL.k_int, DL.k_dat, DL.k_ty, DL.k_keep, DL.k_own, DL.k_slot, DL.k_new, DL.k_seqt, DL.k_seql, DL.k_seqs, DL.k_seqo, DL.k_enut, DL.k_enul, DL.k_enuo, DL.k_zipt, DL.k_zipl, DL.k_gix, DL.k_gst, DL.k_setd, DL.k_seto, DL.a_dd, DL.a_do, DL.a_rd, DL.a_ro, DL.a_rb, DL.a_nil, DL.a_d, DL.a_o, DL.a_l, DL.a_lo, DL.a_lb, DL.o_add, DL.o_addb, DL.o_adds, DL.o_addt, DL.o_sub, DL.o_subb, DL.o_subbb, DL.o_iadd, DL.o_iaddb, DL.o_isub, DL.o_isubb, DL.o_mul, DL.o_fdiv, DL.o_mod, DL.o_lt, DL.o_le, DL.o_gt, DL.o_ge, DL.o_eq, DL.o_ne, DL.o_isn, DL.o_notn, DL.o_isb, DL.o_notb, DL.o_idxt, DL.o_idxl, DL.o_idxo, DL.o_idxb, DL.o_slct, DL.o_slcl, DL.o_slco, DL.o_slcb, DL.o_rev, DL.o_lent, DL.o_lenl, DL.o_lens, DL.o_leno, DL.o_lenb, DL.o_lenstr, DL.o_abs, DL.o_int, DL.o_intb, DL.o_tupo, DL.o_tupl, DL.o_tupt, DL.o_tupb, DL.o_lso, DL.o_lsl, DL.o_lst, DL.o_lss, DL.o_lsb, DL.o_all, DL.o_anyy, DL.o_sum, DL.o_sorted, DL.u_bl, DL.u_int, DL.u_non, DL.u_tup, DL.u_lst, DL.u_own, DL.u_bor, DL.x_0, DL.x_1, DL.x_2, DL.x_3, DL.x_4, DL.x_5, DL.y_tuplenon, DL.y_tuplebl, DL.y_tupleint, DL.y_tuplestr, DL.y_tupletup, DL.y_tuplelst, DL.y_listnon, DL.y_listbl, DL.y_listint, DL.y_liststr, DL.y_listtup, DL.y_listlst, DL.y_dictnon, DL.y_dictbl, DL.y_dictint, DL.y_dictstr, DL.y_dicttup, DL.y_dictlst, DL.y_strnon, DL.y_strbl, DL.y_strint, DL.y_strstr, DL.y_strtup, DL.y_strlst, DL.y_intnon, DL.y_intbl, DL.y_intint, DL.y_intstr, DL.y_inttup, DL.y_intlst, DL.y_boolnon, DL.y_boolbl, DL.y_boolint, DL.y_boolstr, DL.y_booltup, DL.y_boollst, DL.j_n1, DL.j_n2, DL.j_n3, DL.j_n4, DL.j_n5, DL.j_f1, DL.j_f2, DL.j_f3, DL.j_f4, DL.j_f5, DL.j_w1, DL.j_w2, DL.j_w3, DL.j_w4, DL.j_w5, DL.j_01, DL.j_02, DL.j_03, DL.eqD_int, DL.eqOk_int, List.getElem?_cons_zero, List.getElem?_cons_succ, List.set_cons_zero, List.set_cons_succ, List.length_cons, List.length_nil, Option.map_some, Option.map_none, true_and, eq_self]
    rw [← Int.natCast_mul, Rat.divInt_ofNat, ← Rat.add_def']
    exact h
theorem run_times (hN : N.length = 2) (h0 : S.sp k = Tfraction) : ∀ ds G Q E, T2 (· * ·) ds G Q E → runB S N (ctimes k) ds G Q E := by
  rintro ds G Q E ⟨p, q, rfl, sp, sq, h⟩
  simp only [run_eq, startL, hN, ctimes, DL.e_loc, DL.e_cst, DL.e_gc, DL.e_bin, DL.e_neg, DL.e_cmp, DL.e_chn, DL.e_and, DL.e_or, DL.e_not, DL.e_ite, DL.e_idx, DL.e_gidx, DL.e_slc, DL.e_tup, DL.e_lst, DL.e_call, DL.e_bi, DL.e_inst, DL.e_comp, DL.e_nev, DL.e_nil, DL.e_cons, DL.e_no, DL.e_yes, DL.b_val, DL.b_cmp, DL.b_chn, DL.b_and, DL.b_or, DL.b_not, DL.b_no, DL.b_one, DL.i_seq, DL.i_rng1, DL.i_rng2, DL.i_enum, DL.i_zip, DL.s_set, DL.s_setF, DL.s_asg, DL.s_par, DL.s_par3, DL.s_aug, DL.s_app, DL.s_ext, DL.s_pop, DL.s_expr, DL.s_ret, DL.s_retT, DL.s_ite, DL.s_whl, DL.s_for, DL.s_gset, DL.s_brk, DL.s_cnt, DL.s_nil, DL.s_cons, DL.s_frz, DL.t_name, DL.t_tup, DL.t_nil, DL.t_cons, DL.t_len0, DL.t_len1, DL.k_locd, DL.k_loco, DL.k_neg, DL.k_tt, DL.k_ff, DL.k_any, DL.k_lst, DL.k_int, DL.k_dat, DL.k_ty, DL.k_keep, DL.k_own, DL.k_slot, DL.k_new, DL.k_seqt, DL.k_seql, DL.k_seqs, DL.k_seqo, DL.k_enut, DL.k_enul, DL.k_enuo, DL.k_zipt, DL.k_zipl, DL.k_gix, DL.k_gst, DL.k_setd, DL.k_seto, DL.a_dd, DL.a_do, DL.a_rd, DL.a_ro, DL.a_rb, DL.a_nil, DL.a_d, DL.a_o, DL.a_l, DL.a_lo, DL.a_lb, DL.o_add, DL.o_addb, DL.o_adds, DL.o_addt, DL.o_sub, DL.o_subb, DL.o_subbb, DL.o_iadd, DL.o_iaddb, DL.o_isub, DL.o_isubb, DL.o_mul, DL.o_fdiv, DL.o_mod, DL.o_lt, DL.o_le, DL.o_gt, DL.o_ge, DL.o_eq, DL.o_ne, DL.o_isn, DL.o_notn, DL.o_isb, DL.o_notb, DL.o_idxt, DL.o_idxl, DL.o_idxo, DL.o_idxb, DL.o_slct, DL.o_slcl, DL.o_slco, DL.o_slcb, DL.o_rev, DL.o_lent, DL.o_lenl, DL.o_lens, DL.o_leno, DL.o_lenb, DL.o_lenstr, DL.o_abs, DL.o_int, DL.o_intb, DL.o_tupo, DL.o_tupl, DL.o_tupt, DL.o_tupb, DL.o_lso, DL.o_lsl, DL.o_lst, DL.o_lss, DL.o_lsb, DL.o_all, DL.o_anyy, DL.o_sum, DL.o_sorted, DL.u_bl, DL.u_int, DL.u_non, DL.u_tup, DL.u_lst, DL.u_own, DL.u_bor, DL.x_0, DL.x_1, DL.x_2, DL.x_3, DL.x_4, DL.x_5, DL.y_tuplenon, DL.y_tuplebl, DL.y_tupleint, DL.y_tuplestr, DL.y_tupletup, DL.y_tuplelst, DL.y_listnon, DL.y_listbl, DL.y_listint, DL.y_liststr, DL.y_listtup, DL.y_listlst, DL.y_dictnon, DL.y_dictbl, DL.y_dictint, DL.y_dictstr, DL.y_dicttup, DL.y_dictlst, DL.y_strnon, DL.y_strbl, DL.y_strint, DL.y_strstr, DL.y_strtup, DL.y_strlst, DL.y_intnon, DL.y_intbl, DL.y_intint, DL.y_intstr, DL.y_inttup, DL.y_intlst, DL.y_boolnon, DL.y_boolbl, DL.y_boolint, DL.y_boolstr, DL.y_booltup, DL.y_boollst, DL.j_n1, DL.j_n2, DL.j_n3, DL.j_n4, DL.j_n5, DL.j_f1, DL.j_f2, DL.j_f3, DL.j_f4, DL.j_f5, DL.j_w1, DL.j_w2, DL.j_w3, DL.j_w4, DL.j_w5, DL.j_01, DL.j_02, DL.j_03, DL.eqD_int, DL.eqOk_int, List.getElem?_cons_zero, List.getElem?_cons_succ, List.set_cons_zero, List.set_cons_succ, List.length_cons, List.length_nil, Option.map_some, Option.map_none, true_and, eq_self, List.map_cons, List.map_nil, Nat.sub_self, List.replicate_zero, List.append_nil, nfD, h0]
  refine ⟨mulW sp.1 sq.1 (by decide), mulW sp.2 sq.2 (by decide), _, _, rfl, ?_, (sp.1.mul sq.1).mono (by decide), (sp.2.mul sq.2).mono (by decide), ?_⟩
  · rw [← Int.natCast_mul]
    have : p.den * q.den ≠ 0 := Nat.mul_ne_zero p.den_nz q.den_nz
    omega
  · simp only [DL.e_loc, DL.e_cst, DL.e_gc, DL.e_bin, DL.e_neg, DL.e_cmp, DL.e_chn, DL.e_and, DL.e_or, DL.e_not, DL.e_ite, DL.e_idx, DL.e_gidx, DL.e_slc, DL.e_tup, DL.e_lst, DL.e_call, DL.e_bi, DL.e_inst, DL.e_comp, DL.e_nev, DL.e_nil, DL.e_cons, DL.e_no, DL.e_yes, DL.b_val, DL.b_cmp, DL.b_chn, DL.b_and, DL.b_or, DL.b_not, DL.b_no, DL.b_one, DL.i_seq, DL.i_rng1, DL.i_rng2, DL.i_enum, DL.i_zip, DL.s_set, DL.s_setF, DL.s_asg, DL.s_par, DL.s_par3, DL.s_aug, DL.s_app, DL.s_ext, DL.s_pop, DL.s_expr, DL.s_ret, DL.s_retT, DL.s_ite, DL.s_whl, DL.s_for, DL.s_gset, DL.s_brk, DL.s_cnt, DL.s_nil, DL.s_cons, DL.s_frz, DL.t_name, DL.t_tup, DL.t_nil, DL.t_cons, DL.t_len0, DL.t_len1, DL.k_locd, DL.k_loco, DL.k_neg, DL.k_tt, DL.k_ff, DL.k_any, DL.k_lst, DL.k_int, DL.k_dat, DL.k_ty, DL.k_keep, DL.k_own, DL.k_slot, DL.k_new, DL.k_seqt, DL.k_seql, DL.k_seqs, DL.k_seqo, DL.k_enut, DL.k_enul, DL.k_enuo, DL.k_zipt, DL.k_zipl, DL.k_gix, DL.k_gst, DL.k_setd, DL.k_seto, DL.a_dd, DL.a_do, DL.a_rd, DL.a_ro, DL.a_rb, DL.a_nil, DL.a_d, DL.a_o, DL.a_l, DL.a_lo, DL.a_lb, DL.o_add, DL.o_addb, DL.o_adds, DL.o_addt, DL.o_sub, DL.o_subb, DL.o_subbb, DL.o_iadd, DL.o_iaddb, DL.o_isub, DL.o_isubb, DL.o_mul, DL.o_fdiv, DL.o_mod, DL.o_lt, DL.o_le, DL.o_gt, DL.o_ge, DL.o_eq, DL.o_ne, DL.o_isn, DL.o_notn, DL.o_isb, DL.o_notb, DL.o_idxt, DL.o_idxl, DL.o_idxo, DL.o_idxb, DL.o_slct, DL.o_slcl, DL.o_slco, DL.o_slcb, DL.o_rev, DL.o_lent, DL.o_lenl, DL.o_lens, DL.o_leno, DL.o_lenb, DL.o_lenstr, DL.o_abs, DL.o_int, DL.o_intb, DL.o_tupo, DL.o_tupl, DL.o_tupt, DL.o_tupb, DL.o_lso, DL.o_lsl, DL.o_lst, DL.o_lss, DL.o_lsb, DL.o_all, DL.o_anyy, DL.o_sum, DL.o_sorted, DL.u_bl, DL.u_int, DL.u_non, DL.u_tup, DL.u_lst, DL.u_own, DL.u_bor, DL.x_0, DL.x_1, DL.x_2, DL.x_3, DL.x_4, DL.x_5, DL.y_tuplenon, DL.y_tuplebl, DL.y_tupleint, DL.y_tuplestr, DL.y_tupletup, DL.y_tuplelst, DL.y_listnon, DL.y_listbl, DL.y_listint, DL.y_liststr, DL.y_listtup, DL.y_listlst, DL.y_dictnon, DL.y_dictbl, DL.y_dictint, DL.y_dictstr, DL.y_dicttup, DL.y_dictlst, DL.y_strnon, DL.y_strbl, DL.y_strint, DL.y_strstr, DL.y_strtup, DL.y_strlst, DL.y_intnon, DL.y_intbl, DL.y_intint, DL.y_intstr, DL.y_inttup, DL.y_intlst, DL.y_boolnon, DL.y_boolbl, DL.y_boolint, DL.y_boolstr, DL.y_booltup, DL.y_boollst, DL.j_n1, DL.j_n2, DL.j_n3, DL.j_n4, DL.j_n5, DL.j_f1, DL.j_f2, DL.j_f3, DL.j_f4, DL.j_f5, DL.j_w1, DL.j_w2, DL.j_w3, DL.j_w4, DL.j_w5, DL.j_01, DL.j_02, DL.j_03, DL.eqD_int, DL.eqOk_int, List.getElem?_cons_zero, List.getElem?_cons_succ, List.set_cons_zero, List.set_cons_succ, List.length_cons, List.length_nil, Option.map_some, Option.map_none, true_and, eq_self]
    rw [← Int.natCast_mul, Rat.divInt_ofNat, ← Rat.mul_def']
    exact h
def Tneg : DSp := fun ds G Q _ => ∃ p : Rat, ds = [nfD p] ∧ Q (nfD (-p)) G
theorem run_neg (hN : N.length = 1) : ∀ ds G Q E, Tneg ds G Q E → runB S N cneg ds G Q E := by
  rintro ds G Q E ⟨p, rfl, h⟩
  simp only [run_eq, startL, hN, cneg, DL.e_loc, DL.e_cst, DL.e_gc, DL.e_bin, DL.e_neg, DL.e_cmp, DL.e_chn, DL.e_and, DL.e_or, DL.e_not, DL.e_ite, DL.e_idx, DL.e_gidx, DL.e_slc, DL.e_tup, DL.e_lst, DL.e_call, DL.e_bi, DL.e_inst, DL.e_comp, DL.e_nev, DL.e_nil, DL.e_cons, DL.e_no, DL.e_yes, DL.b_val, DL.b_cmp, DL.b_chn, DL.b_and, DL.b_or, DL.b_not, DL.b_no, DL.b_one, DL.i_seq, DL.i_rng1, DL.i_rng2, DL.i_enum, DL.i_zip, DL.s_set, DL.s_setF, DL.s_asg, DL.s_par, DL.s_par3, DL.s_aug, DL.s_app, DL.s_ext, DL.s_pop, DL.s_expr, DL.s_ret, DL.s_retT, DL.s_ite, DL.s_whl, DL.s_for, DL.s_gset, DL.s_brk, DL.s_cnt, DL.s_nil, DL.s_cons, DL.s_frz, DL.t_name, DL.t_tup, DL.t_nil, DL.t_cons, DL.t_len0, DL.t_len1, DL.k_locd, DL.k_loco, DL.k_neg, DL.k_tt, DL.k_ff, DL.k_any, DL.k_lst, DL.k_int, DL.k_dat, DL.k_ty, DL.k_keep, DL.k_own, DL.k_slot, DL.k_new, DL.k_seqt, DL.k_seql, DL.k_seqs, DL.k_seqo, DL.k_enut, DL.k_enul, DL.k_enuo, DL.k_zipt, DL.k_zipl, DL.k_gix, DL.k_gst, DL.k_setd, DL.k_seto, DL.a_dd, DL.a_do, DL.a_rd, DL.a_ro, DL.a_rb, DL.a_nil, DL.a_d, DL.a_o, DL.a_l, DL.a_lo, DL.a_lb, DL.o_add, DL.o_addb, DL.o_adds, DL.o_addt, DL.o_sub, DL.o_subb, DL.o_subbb, DL.o_iadd, DL.o_iaddb, DL.o_isub, DL.o_isubb, DL.o_mul, DL.o_fdiv, DL.o_mod, DL.o_lt, DL.o_le, DL.o_gt, DL.o_ge, DL.o_eq, DL.o_ne, DL.o_isn, DL.o_notn, DL.o_isb, DL.o_notb, DL.o_idxt, DL.o_idxl, DL.o_idxo, DL.o_idxb, DL.o_slct, DL.o_slcl, DL.o_slco, DL.o_slcb, DL.o_rev, DL.o_lent, DL.o_lenl, DL.o_lens, DL.o_leno, DL.o_lenb, DL.o_lenstr, DL.o_abs, DL.o_int, DL.o_intb, DL.o_tupo, DL.o_tupl, DL.o_tupt, DL.o_tupb, DL.o_lso, DL.o_lsl, DL.o_lst, DL.o_lss, DL.o_lsb, DL.o_all, DL.o_anyy, DL.o_sum, DL.o_sorted, DL.u_bl, DL.u_int, DL.u_non, DL.u_tup, DL.u_lst, DL.u_own, DL.u_bor, DL.x_0, DL.x_1, DL.x_2, DL.x_3, DL.x_4, DL.x_5, DL.y_tuplenon, DL.y_tuplebl, DL.y_tupleint, DL.y_tuplestr, DL.y_tupletup, DL.y_tuplelst, DL.y_listnon, DL.y_listbl, DL.y_listint, DL.y_liststr, DL.y_listtup, DL.y_listlst, DL.y_dictnon, DL.y_dictbl, DL.y_dictint, DL.y_dictstr, DL.y_dicttup, DL.y_dictlst, DL.y_strnon, DL.y_strbl, DL.y_strint, DL.y_strstr, DL.y_strtup, DL.y_strlst, DL.y_intnon, DL.y_intbl, DL.y_intint, DL.y_intstr, DL.y_inttup, DL.y_intlst, DL.y_boolnon, DL.y_boolbl, DL.y_boolint, DL.y_boolstr, DL.y_booltup, DL.y_boollst, DL.j_n1, DL.j_n2, DL.j_n3, DL.j_n4, DL.j_n5, DL.j_f1, DL.j_f2, DL.j_f3, DL.j_f4, DL.j_f5, DL.j_w1, DL.j_w2, DL.j_w3, DL.j_w4, DL.j_w5, DL.j_01, DL.j_02, DL.j_03, DL.eqD_int, DL.eqOk_int, List.getElem?_cons_zero, List.getElem?_cons_succ, List.set_cons_zero, List.set_cons_succ, List.length_cons, List.length_nil, Option.map_some, Option.map_none, true_and, eq_self, List.map_cons, List.map_nil, Nat.sub_self, List.replicate_zero, List.append_nil, nfD]
  refine ⟨by decide, ?_⟩
  unfold nfD at h
  rw [Rat.neg_num, Rat.neg_den] at h
  exact h
def Tsign : DSp := fun ds G Q _ => ∃ p : Rat, ds = [nfD p] ∧ Q (.int p.num.sign) G
def csign : CSs := (.cons (.ret (.bin .subP (.cmp .gt (.idx .any (.loc 0) (.cst (.int 0))) (.cst (.int 0))) (.cmp .lt (.idx .any (.loc 0) (.cst (.int 0))) (.cst (.int 0))))) .nil)
theorem run_sign (hN : N.length = 1) : ∀ ds G Q E, Tsign ds G Q E → runB S N csign ds G Q E := by
  rintro ds G Q E ⟨p, rfl, h⟩
  simp only [run_eq, startL, hN, csign, DL.e_loc, DL.e_cst, DL.e_gc, DL.e_bin, DL.e_neg, DL.e_cmp, DL.e_chn, DL.e_and, DL.e_or, DL.e_not, DL.e_ite, DL.e_idx, DL.e_gidx, DL.e_slc, DL.e_tup, DL.e_lst, DL.e_call, DL.e_bi, DL.e_inst, DL.e_comp, DL.e_nev, DL.e_nil, DL.e_cons, DL.e_no, DL.e_yes, DL.b_val, DL.b_cmp, DL.b_chn, DL.b_and, DL.b_or, DL.b_not, DL.b_no, DL.b_one, DL.i_seq, DL.i_rng1, DL.i_rng2, DL.i_enum, DL.i_zip, DL.s_set, DL.s_setF, DL.s_asg, DL.s_par, DL.s_par3, DL.s_aug, DL.s_app, DL.s_ext, DL.s_pop, DL.s_expr, DL.s_ret, DL.s_retT, DL.s_ite, DL.s_whl, DL.s_for, DL.s_gset, DL.s_brk, DL.s_cnt, DL.s_nil, DL.s_cons, DL.s_frz, DL.t_name, DL.t_tup, DL.t_nil, DL.t_cons, DL.t_len0, DL.t_len1, DL.k_locd, DL.k_loco, DL.k_neg, DL.k_tt, DL.k_ff, DL.k_any, DL.k_lst, DL.k_int, DL.k_dat, DL.k_ty, DL.k_keep, DL.k_own, DL.k_slot, DL.k_new, DL.k_seqt, DL.k_seql, DL.k_seqs, DL.k_seqo, DL.k_enut, DL.k_enul, DL.k_enuo, DL.k_zipt, DL.k_zipl, DL.k_gix, DL.k_gst, DL.k_setd, DL.k_seto, DL.a_dd, DL.a_do, DL.a_rd, DL.a_ro, DL.a_rb, DL.a_nil, DL.a_d, DL.a_o, DL.a_l, DL.a_lo, DL.a_lb, DL.o_add, DL.o_addb, DL.o_adds, DL.o_addt, DL.o_sub, DL.o_subb, DL.o_subbb, DL.o_iadd, DL.o_iaddb, DL.o_isub, DL.o_isubb, DL.o_mul, DL.o_fdiv, DL.o_mod, DL.o_lt, DL.o_le, DL.o_gt, DL.o_ge, DL.o_eq, DL.o_ne, DL.o_isn, DL.o_notn, DL.o_isb, DL.o_notb, DL.o_idxt, DL.o_idxl, DL.o_idxo, DL.o_idxb, DL.o_slct, DL.o_slcl, DL.o_slco, DL.o_slcb, DL.o_rev, DL.o_lent, DL.o_lenl, DL.o_lens, DL.o_leno, DL.o_lenb, DL.o_lenstr, DL.o_abs, DL.o_int, DL.o_intb, DL.o_tupo, DL.o_tupl, DL.o_tupt, DL.o_tupb, DL.o_lso, DL.o_lsl, DL.o_lst, DL.o_lss, DL.o_lsb, DL.o_all, DL.o_anyy, DL.o_sum, DL.o_sorted, DL.u_bl, DL.u_int, DL.u_non, DL.u_tup, DL.u_lst, DL.u_own, DL.u_bor, DL.x_0, DL.x_1, DL.x_2, DL.x_3, DL.x_4, DL.x_5, DL.y_tuplenon, DL.y_tuplebl, DL.y_tupleint, DL.y_tuplestr, DL.y_tupletup, DL.y_tuplelst, DL.y_listnon, DL.y_listbl, DL.y_listint, DL.y_liststr, DL.y_listtup, DL.y_listlst, DL.y_dictnon, DL.y_dictbl, DL.y_dictint, DL.y_dictstr, DL.y_dicttup, DL.y_dictlst, DL.y_strnon, DL.y_strbl, DL.y_strint, DL.y_strstr, DL.y_strtup, DL.y_strlst, DL.y_intnon, DL.y_intbl, DL.y_intint, DL.y_intstr, DL.y_inttup, DL.y_intlst, DL.y_boolnon, DL.y_boolbl, DL.y_boolint, DL.y_boolstr, DL.y_booltup, DL.y_boollst, DL.j_n1, DL.j_n2, DL.j_n3, DL.j_n4, DL.j_n5, DL.j_f1, DL.j_f2, DL.j_f3, DL.j_f4, DL.j_f5, DL.j_w1, DL.j_w2, DL.j_w3, DL.j_w4, DL.j_w5, DL.j_01, DL.j_02, DL.j_03, DL.eqD_int, DL.eqOk_int, List.getElem?_cons_zero, List.getElem?_cons_succ, List.set_cons_zero, List.set_cons_succ, List.length_cons, List.length_nil, Option.map_some, Option.map_none, true_and, eq_self, List.map_cons, List.map_nil, Nat.sub_self, List.replicate_zero, List.append_nil, nfD]
  have : ((if decide (0 < p.num) = true then (1 : Int) else 0) - if decide (p.num < 0) = true then 1 else 0) = p.num.sign := by
    rcases Int.lt_trichotomy p.num 0 with e | e | e
    · rw [Int.sign_eq_neg_one_of_neg e]; simp; omega
    · rw [e]; rfl
    · rw [Int.sign_eq_one_of_pos e]; simp; omega
  rw [this]
  exact h
/-- a < b -/
def Tless : DSp := fun ds G Q _ => ∃ p q : Rat, ds = [nfD p, nfD q] ∧ Sz 3000 p ∧ Sz 3000 q ∧ Q (.bl (decide (p < q))) G
def cless : CSs := (.cons (.ret (.cmp .lt (.bin .mul (.idx .any (.loc 0) (.cst (.int 0))) (.idx .any (.loc 1) (.cst (.int 1)))) (.bin .mul (.idx .any (.loc 1) (.cst (.int 0))) (.idx .any (.loc 0) (.cst (.int 1)))))) .nil)
theorem run_less (hN : N.length = 2) : ∀ ds G Q E, Tless ds G Q E → runB S N cless ds G Q E := by
  rintro ds G Q E ⟨p, q, rfl, sp, sq, h⟩
  simp only [run_eq, startL, hN, cless, DL.e_loc, DL.e_cst, DL.e_gc, DL.e_bin, DL.e_neg, DL.e_cmp, DL.e_chn, DL.e_and, DL.e_or, DL.e_not, DL.e_ite, DL.e_idx, DL.e_gidx, DL.e_slc, DL.e_tup, DL.e_lst, DL.e_call, DL.e_bi, DL.e_inst, DL.e_comp, DL.e_nev, DL.e_nil, DL.e_cons, DL.e_no, DL.e_yes, DL.b_val, DL.b_cmp, DL.b_chn, DL.b_and, DL.b_or, DL.b_not, DL.b_no, DL.b_one, DL.i_seq, DL.i_rng1, DL.i_rng2, DL.i_enum, DL.i_zip, DL.s_set, DL.s_setF, DL.s_asg, DL.s_par, DL.s_par3, DL.s_aug, DL.s_app, DL.s_ext, DL.s_pop, DL.s_expr, DL.s_ret, DL.s_retT, DL.s_ite, DL.s_whl, DL.s_for, DL.s_gset, DL.s_brk, DL.s_cnt, DL.s_nil, DL.s_cons, DL.s_frz, DL.t_name, DL.t_tup, DL.t_nil, DL.t_cons, DL.t_len0, DL.t_len1, DL.k_locd, DL.k_loco, DL.k_neg, DL.k_tt, DL.k_ff, DL.k_any, DL.k_lst, DL.k_int, DL.k_dat, DL.k_ty, DL.k_keep, DL.k_own, DL.k_slot, DL.k_new, DL.k_seqt, DL.k_seql, DL.k_seqs, DL.k_seqo, DL.k_enut, DL.k_enul, DL.k_enuo, DL.k_zipt, DL.k_zipl, DL.k_gix, DL.k_gst, DL.k_setd, DL.k_seto, DL.a_dd, DL.a_do, DL.a_rd, DL.a_ro, DL.a_rb, DL.a_nil, DL.a_d, DL.a_o, DL.a_l, DL.a_lo, DL.a_lb, DL.o_add, DL.o_addb, DL.o_adds, DL.o_addt, DL.o_sub, DL.o_subb, DL.o_subbb, DL.o_iadd, DL.o_iaddb, DL.o_isub, DL.o_isubb, DL.o_mul, DL.o_fdiv, DL.o_mod, DL.o_lt, DL.o_le, DL.o_gt, DL.o_ge, DL.o_eq, DL.o_ne, DL.o_isn, DL.o_notn, DL.o_isb, DL.o_notb, DL.o_idxt, DL.o_idxl, DL.o_idxo, DL.o_idxb, DL.o_slct, DL.o_slcl, DL.o_slco, DL.o_slcb, DL.o_rev, DL.o_lent, DL.o_lenl, DL.o_lens, DL.o_leno, DL.o_lenb, DL.o_lenstr, DL.o_abs, DL.o_int, DL.o_intb, DL.o_tupo, DL.o_tupl, DL.o_tupt, DL.o_tupb, DL.o_lso, DL.o_lsl, DL.o_lst, DL.o_lss, DL.o_lsb, DL.o_all, DL.o_anyy, DL.o_sum, DL.o_sorted, DL.u_bl, DL.u_int, DL.u_non, DL.u_tup, DL.u_lst, DL.u_own, DL.u_bor, DL.x_0, DL.x_1, DL.x_2, DL.x_3, DL.x_4, DL.x_5, DL.y_tuplenon, DL.y_tuplebl, DL.y_tupleint, DL.y_tuplestr, DL.y_tupletup, DL.y_tuplelst, DL.y_listnon, DL.y_listbl, DL.y_listint, DL.y_liststr, DL.y_listtup, DL.y_listlst, DL.y_dictnon, DL.y_dictbl, DL.y_dictint, DL.y_dictstr, DL.y_dicttup, DL.y_dictlst, DL.y_strnon, DL.y_strbl, DL.y_strint, DL.y_strstr, DL.y_strtup, DL.y_strlst, DL.y_intnon, DL.y_intbl, DL.y_intint, DL.y_intstr, DL.y_inttup, DL.y_intlst, DL.y_boolnon, DL.y_boolbl, DL.y_boolint, DL.y_boolstr, DL.y_booltup, DL.y_boollst, DL.j_n1, DL.j_n2, DL.j_n3, DL.j_n4, DL.j_n5, DL.j_f1, DL.j_f2, DL.j_f3, DL.j_f4, DL.j_f5, DL.j_w1, DL.j_w2, DL.j_w3, DL.j_w4, DL.j_w5, DL.j_01, DL.j_02, DL.j_03, DL.eqD_int, DL.eqOk_int, List.getElem?_cons_zero, List.getElem?_cons_succ, List.set_cons_zero, List.set_cons_succ, List.length_cons, List.length_nil, Option.map_some, Option.map_none, true_and, eq_self, List.map_cons, List.map_nil, Nat.sub_self, List.replicate_zero, List.append_nil, nfD]
  refine ⟨mulW sp.1 sq.2 (by decide), mulW sq.1 sp.2 (by decide), ?_⟩
  have : decide (p.num * (q.den : Int) < q.num * (p.den : Int)) = decide (p < q) := by
    rw [decide_eq_decide]; exact (Rat.lt_iff p q).symm
  rw [this]
  exact h
end
end DC
namespace DC
open PySem DL
section
variable {S : Sg} {N : List Str} {k : Nat}
def cstr_4 : CSs := .cons (.retT (.lst (.cons (.bi .list (.loc 0)) (.cons (.cst (.int 0)) (.cons (.cst (.int 0)) (.cons (.loc 1) .nil)))))) .nil
def cstr_3 : CSs := .cons (.setF 1 (.bin .mod (.bi .int (.bin .addP (.bin .addP (.bin .mul (.loc 1) (.cst (.int 48271))) (.bin .mod (.bi .int (.loc 2)) (.cst (.int 65521)))) (.cst (.int 1)))) (.cst (.int 2147483647)))) .nil
def cstr_2 : CSs := .cons (.for (.name 2) (.seq (.loc 0)) cstr_3) cstr_4
def cstr_1 : CSs := .cons (.setF 1 (.cst (.int 17))) cstr_2
theorem run_stream (hN : N.length = 3) : ∀ ds G Q E, TstreamL ds G Q E → runB S N cstr_1 ds G Q E := by
  rintro ds G Q E ⟨ns, rfl, hn, h⟩
  simp only [run_eq, startL, hN, cstr_1, cstr_2, DL.e_loc, DL.e_cst, DL.e_gc, DL.e_bin, DL.e_neg, DL.e_cmp, DL.e_chn, DL.e_and, DL.e_or, DL.e_not, DL.e_ite, DL.e_idx, DL.e_gidx, DL.e_slc, DL.e_tup, DL.e_lst, DL.e_call, DL.e_bi, DL.e_inst, DL.e_comp, DL.e_nev, DL.e_nil, DL.e_cons, DL.e_no, DL.e_yes, DL.b_val, DL.b_cmp, DL.b_chn, DL.b_and, DL.b_or, DL.b_not, DL.b_no, DL.b_one, DL.i_seq, DL.i_rng1, DL.i_rng2, DL.i_enum, DL.i_zip, DL.s_set, DL.s_setF, DL.s_asg, DL.s_par, DL.s_par3, DL.s_aug, DL.s_app, DL.s_ext, DL.s_pop, DL.s_expr, DL.s_ret, DL.s_retT, DL.s_ite, DL.s_whl, DL.s_for, DL.s_gset, DL.s_brk, DL.s_cnt, DL.s_nil, DL.s_cons, DL.s_frz, DL.t_name, DL.t_tup, DL.t_nil, DL.t_cons, DL.t_len0, DL.t_len1, DL.k_locd, DL.k_loco, DL.k_neg, DL.k_tt, DL.k_ff, DL.k_any, DL.k_lst, DL.k_int, DL.k_dat, DL.k_ty, DL.k_keep, DL.k_own, DL.k_slot, DL.k_new, DL.k_seqt, DL.k_seql, DL.k_seqs, DL.k_seqo, DL.k_enut, DL.k_enul, DL.k_enuo, DL.k_zipt, DL.k_zipl, DL.k_gix, DL.k_gst, DL.k_setd, DL.k_seto, DL.a_dd, DL.a_do, DL.a_rd, DL.a_ro, DL.a_rb, DL.a_nil, DL.a_d, DL.a_o, DL.a_l, DL.a_lo, DL.a_lb, DL.o_add, DL.o_addb, DL.o_adds, DL.o_addt, DL.o_sub, DL.o_subb, DL.o_subbb, DL.o_iadd, DL.o_iaddb, DL.o_isub, DL.o_isubb, DL.o_mul, DL.o_fdiv, DL.o_mod, DL.o_lt, DL.o_le, DL.o_gt, DL.o_ge, DL.o_eq, DL.o_ne, DL.o_isn, DL.o_notn, DL.o_isb, DL.o_notb, DL.o_idxt, DL.o_idxl, DL.o_idxo, DL.o_idxb, DL.o_slct, DL.o_slcl, DL.o_slco, DL.o_slcb, DL.o_rev, DL.o_lent, DL.o_lenl, DL.o_lens, DL.o_leno, DL.o_lenb, DL.o_lenstr, DL.o_abs, DL.o_int, DL.o_intb, DL.o_tupo, DL.o_tupl, DL.o_tupt, DL.o_tupb, DL.o_lso, DL.o_lsl, DL.o_lst, DL.o_lss, DL.o_lsb, DL.o_all, DL.o_anyy, DL.o_sum, DL.o_sorted, DL.u_bl, DL.u_int, DL.u_non, DL.u_tup, DL.u_lst, DL.u_own, DL.u_bor, DL.x_0, DL.x_1, DL.x_2, DL.x_3, DL.x_4, DL.x_5, DL.y_tuplenon, DL.y_tuplebl, DL.y_tupleint, DL.y_tuplestr, DL.y_tupletup, DL.y_tuplelst, DL.y_listnon, DL.y_listbl, DL.y_listint, DL.y_liststr, DL.y_listtup, DL.y_listlst, DL.y_dictnon, DL.y_dictbl, DL.y_dictint, DL.y_dictstr, DL.y_dicttup, DL.y_dictlst, DL.y_strnon, DL.y_strbl, DL.y_strint, DL.y_strstr, DL.y_strtup, DL.y_strlst, DL.y_intnon, DL.y_intbl, DL.y_intint, DL.y_intstr, DL.y_inttup, DL.y_intlst, DL.y_boolnon, DL.y_boolbl, DL.y_boolint, DL.y_boolstr, DL.y_booltup, DL.y_boollst, DL.j_n1, DL.j_n2, DL.j_n3, DL.j_n4, DL.j_n5, DL.j_f1, DL.j_f2, DL.j_f3, DL.j_f4, DL.j_f5, DL.j_w1, DL.j_w2, DL.j_w3, DL.j_w4, DL.j_w5, DL.j_01, DL.j_02, DL.j_03, DL.eqD_int, DL.eqOk_int, List.getElem?_cons_zero, List.getElem?_cons_succ, List.set_cons_zero, List.set_cons_succ, List.length_cons, List.length_nil, Option.map_some, Option.map_none, true_and, eq_self, List.map_cons, List.map_nil, Nat.reduceAdd, Nat.reduceSub, List.replicate_succ, List.replicate_zero, List.append_nil, List.cons_append, List.nil_append]
  have key : ∀ (ms : List Int) (m : Int) (x : Option SV), 0 ≤ m → m < 2147483647 → forK S (.name 2) cstr_3 (ms.map .int)
      (Rn S cstr_4 (R0 Q E))
      [some (.d (.slst (ns.map .int))), some (.d (.int m)), x] G := by
    intro ms
    induction ms with
    | nil =>
      intro m x h0 h1
      simp only [List.map_nil, f_nil, cstr_4, DL.e_loc, DL.e_cst, DL.e_gc, DL.e_bin, DL.e_neg, DL.e_cmp, DL.e_chn, DL.e_and, DL.e_or, DL.e_not, DL.e_ite, DL.e_idx, DL.e_gidx, DL.e_slc, DL.e_tup, DL.e_lst, DL.e_call, DL.e_bi, DL.e_inst, DL.e_comp, DL.e_nev, DL.e_nil, DL.e_cons, DL.e_no, DL.e_yes, DL.b_val, DL.b_cmp, DL.b_chn, DL.b_and, DL.b_or, DL.b_not, DL.b_no, DL.b_one, DL.i_seq, DL.i_rng1, DL.i_rng2, DL.i_enum, DL.i_zip, DL.s_set, DL.s_setF, DL.s_asg, DL.s_par, DL.s_par3, DL.s_aug, DL.s_app, DL.s_ext, DL.s_pop, DL.s_expr, DL.s_ret, DL.s_retT, DL.s_ite, DL.s_whl, DL.s_for, DL.s_gset, DL.s_brk, DL.s_cnt, DL.s_nil, DL.s_cons, DL.s_frz, DL.t_name, DL.t_tup, DL.t_nil, DL.t_cons, DL.t_len0, DL.t_len1, DL.k_locd, DL.k_loco, DL.k_neg, DL.k_tt, DL.k_ff, DL.k_any, DL.k_lst, DL.k_int, DL.k_dat, DL.k_ty, DL.k_keep, DL.k_own, DL.k_slot, DL.k_new, DL.k_seqt, DL.k_seql, DL.k_seqs, DL.k_seqo, DL.k_enut, DL.k_enul, DL.k_enuo, DL.k_zipt, DL.k_zipl, DL.k_gix, DL.k_gst, DL.k_setd, DL.k_seto, DL.a_dd, DL.a_do, DL.a_rd, DL.a_ro, DL.a_rb, DL.a_nil, DL.a_d, DL.a_o, DL.a_l, DL.a_lo, DL.a_lb, DL.o_add, DL.o_addb, DL.o_adds, DL.o_addt, DL.o_sub, DL.o_subb, DL.o_subbb, DL.o_iadd, DL.o_iaddb, DL.o_isub, DL.o_isubb, DL.o_mul, DL.o_fdiv, DL.o_mod, DL.o_lt, DL.o_le, DL.o_gt, DL.o_ge, DL.o_eq, DL.o_ne, DL.o_isn, DL.o_notn, DL.o_isb, DL.o_notb, DL.o_idxt, DL.o_idxl, DL.o_idxo, DL.o_idxb, DL.o_slct, DL.o_slcl, DL.o_slco, DL.o_slcb, DL.o_rev, DL.o_lent, DL.o_lenl, DL.o_lens, DL.o_leno, DL.o_lenb, DL.o_lenstr, DL.o_abs, DL.o_int, DL.o_intb, DL.o_tupo, DL.o_tupl, DL.o_tupt, DL.o_tupb, DL.o_lso, DL.o_lsl, DL.o_lst, DL.o_lss, DL.o_lsb, DL.o_all, DL.o_anyy, DL.o_sum, DL.o_sorted, DL.u_bl, DL.u_int, DL.u_non, DL.u_tup, DL.u_lst, DL.u_own, DL.u_bor, DL.x_0, DL.x_1, DL.x_2, DL.x_3, DL.x_4, DL.x_5, DL.y_tuplenon, DL.y_tuplebl, DL.y_tupleint, DL.y_tuplestr, DL.y_tupletup, DL.y_tuplelst, DL.y_listnon, DL.y_listbl, DL.y_listint, DL.y_liststr, DL.y_listtup, DL.y_listlst, DL.y_dictnon, DL.y_dictbl, DL.y_dictint, DL.y_dictstr, DL.y_dicttup, DL.y_dictlst, DL.y_strnon, DL.y_strbl, DL.y_strint, DL.y_strstr, DL.y_strtup, DL.y_strlst, DL.y_intnon, DL.y_intbl, DL.y_intint, DL.y_intstr, DL.y_inttup, DL.y_intlst, DL.y_boolnon, DL.y_boolbl, DL.y_boolint, DL.y_boolstr, DL.y_booltup, DL.y_boollst, DL.j_n1, DL.j_n2, DL.j_n3, DL.j_n4, DL.j_n5, DL.j_f1, DL.j_f2, DL.j_f3, DL.j_f4, DL.j_f5, DL.j_w1, DL.j_w2, DL.j_w3, DL.j_w4, DL.j_w5, DL.j_01, DL.j_02, DL.j_03, DL.eqD_int, DL.eqOk_int, List.getElem?_cons_zero, List.getElem?_cons_succ, List.set_cons_zero, List.set_cons_succ, List.length_cons, List.length_nil, Option.map_some, Option.map_none, true_and, eq_self]
      exact ⟨by decide, fun p hp => h p m hp h0 h1⟩
    | cons z ms ih =>
      intro m x h0 h1
      simp only [List.map_cons, f_cons, cstr_3, DL.e_loc, DL.e_cst, DL.e_gc, DL.e_bin, DL.e_neg, DL.e_cmp, DL.e_chn, DL.e_and, DL.e_or, DL.e_not, DL.e_ite, DL.e_idx, DL.e_gidx, DL.e_slc, DL.e_tup, DL.e_lst, DL.e_call, DL.e_bi, DL.e_inst, DL.e_comp, DL.e_nev, DL.e_nil, DL.e_cons, DL.e_no, DL.e_yes, DL.b_val, DL.b_cmp, DL.b_chn, DL.b_and, DL.b_or, DL.b_not, DL.b_no, DL.b_one, DL.i_seq, DL.i_rng1, DL.i_rng2, DL.i_enum, DL.i_zip, DL.s_set, DL.s_setF, DL.s_asg, DL.s_par, DL.s_par3, DL.s_aug, DL.s_app, DL.s_ext, DL.s_pop, DL.s_expr, DL.s_ret, DL.s_retT, DL.s_ite, DL.s_whl, DL.s_for, DL.s_gset, DL.s_brk, DL.s_cnt, DL.s_nil, DL.s_cons, DL.s_frz, DL.t_name, DL.t_tup, DL.t_nil, DL.t_cons, DL.t_len0, DL.t_len1, DL.k_locd, DL.k_loco, DL.k_neg, DL.k_tt, DL.k_ff, DL.k_any, DL.k_lst, DL.k_int, DL.k_dat, DL.k_ty, DL.k_keep, DL.k_own, DL.k_slot, DL.k_new, DL.k_seqt, DL.k_seql, DL.k_seqs, DL.k_seqo, DL.k_enut, DL.k_enul, DL.k_enuo, DL.k_zipt, DL.k_zipl, DL.k_gix, DL.k_gst, DL.k_setd, DL.k_seto, DL.a_dd, DL.a_do, DL.a_rd, DL.a_ro, DL.a_rb, DL.a_nil, DL.a_d, DL.a_o, DL.a_l, DL.a_lo, DL.a_lb, DL.o_add, DL.o_addb, DL.o_adds, DL.o_addt, DL.o_sub, DL.o_subb, DL.o_subbb, DL.o_iadd, DL.o_iaddb, DL.o_isub, DL.o_isubb, DL.o_mul, DL.o_fdiv, DL.o_mod, DL.o_lt, DL.o_le, DL.o_gt, DL.o_ge, DL.o_eq, DL.o_ne, DL.o_isn, DL.o_notn, DL.o_isb, DL.o_notb, DL.o_idxt, DL.o_idxl, DL.o_idxo, DL.o_idxb, DL.o_slct, DL.o_slcl, DL.o_slco, DL.o_slcb, DL.o_rev, DL.o_lent, DL.o_lenl, DL.o_lens, DL.o_leno, DL.o_lenb, DL.o_lenstr, DL.o_abs, DL.o_int, DL.o_intb, DL.o_tupo, DL.o_tupl, DL.o_tupt, DL.o_tupb, DL.o_lso, DL.o_lsl, DL.o_lst, DL.o_lss, DL.o_lsb, DL.o_all, DL.o_anyy, DL.o_sum, DL.o_sorted, DL.u_bl, DL.u_int, DL.u_non, DL.u_tup, DL.u_lst, DL.u_own, DL.u_bor, DL.x_0, DL.x_1, DL.x_2, DL.x_3, DL.x_4, DL.x_5, DL.y_tuplenon, DL.y_tuplebl, DL.y_tupleint, DL.y_tuplestr, DL.y_tupletup, DL.y_tuplelst, DL.y_listnon, DL.y_listbl, DL.y_listint, DL.y_liststr, DL.y_listtup, DL.y_listlst, DL.y_dictnon, DL.y_dictbl, DL.y_dictint, DL.y_dictstr, DL.y_dicttup, DL.y_dictlst, DL.y_strnon, DL.y_strbl, DL.y_strint, DL.y_strstr, DL.y_strtup, DL.y_strlst, DL.y_intnon, DL.y_intbl, DL.y_intint, DL.y_intstr, DL.y_inttup, DL.y_intlst, DL.y_boolnon, DL.y_boolbl, DL.y_boolint, DL.y_boolstr, DL.y_booltup, DL.y_boollst, DL.j_n1, DL.j_n2, DL.j_n3, DL.j_n4, DL.j_n5, DL.j_f1, DL.j_f2, DL.j_f3, DL.j_f4, DL.j_f5, DL.j_w1, DL.j_w2, DL.j_w3, DL.j_w4, DL.j_w5, DL.j_01, DL.j_02, DL.j_03, DL.eqD_int, DL.eqOk_int, List.getElem?_cons_zero, List.getElem?_cons_succ, List.set_cons_zero, List.set_cons_succ, List.length_cons, List.length_nil, Option.map_some, Option.map_none, true_and, eq_self]
      have b1 : Bd 31 m := by unfold Bd; omega
      refine ⟨mulW (c := 17) b1 (by unfold Bd; decide) (by decide), by decide, by decide, ?_⟩
      exact ih _ _ (Int.fmod_nonneg_of_pos _ (by decide)) (Int.fmod_lt_of_pos _ (by decide))
  exact key ns 17 none (by decide) (by decide)
def cdrw_9 : CSs := .cons (.ret (.loc 2)) .nil
def cdrw_8 : CSs := .cons (.gset (.loc 0) (.cst (.int 1)) (.bin .fdiv (.gidx (.loc 0) (.cst (.int 1))) (.loc 1))) cdrw_9
def cdrw_7 : CSs := .cons (.setF 2 (.bin .mod (.bi .int (.gidx (.loc 0) (.cst (.int 1)))) (.loc 1))) cdrw_8
def cdrw_6 : CSs := .cons (.ret (.bin .mod (.bi .int (.bin .fdiv (.gidx (.loc 0) (.cst (.int 3))) (.cst (.int 97)))) (.loc 1))) .nil
def cdrw_5 : CSs := .cons (.gset (.loc 0) (.cst (.int 3)) (.bin .mod (.bi .int (.bin .addP (.bin .mul (.gidx (.loc 0) (.cst (.int 3))) (.cst (.int 48271))) (.cst (.int 11)))) (.cst (.int 2147483647)))) cdrw_6
def cdrw_4 : CSs := .cons (.ite (.cmp .eq (.gidx (.loc 0) (.cst (.int 1))) (.cst (.int 0))) cdrw_5 .nil) cdrw_7
def cdrw_3 : CSs := .cons (.gset (.loc 0) (.cst (.int 2)) (.bin .addP (.gidx (.loc 0) (.cst (.int 2))) (.cst (.int 1)))) .nil
def cdrw_2 : CSs := .cons (.gset (.loc 0) (.cst (.int 1)) (.bi .abs (.bi .int (.idx .any (.gidx (.loc 0) (.cst (.int 0))) (.gidx (.loc 0) (.cst (.int 2))))))) cdrw_3
def cdrw_1 : CSs := .cons (.ite (.and (.cmp .eq (.gidx (.loc 0) (.cst (.int 1))) (.cst (.int 0))) (.cmp .lt (.gidx (.loc 0) (.cst (.int 2))) (.bi .lenP (.gidx (.loc 0) (.cst (.int 0)))))) cdrw_2 .nil) cdrw_4
theorem gix_at {G : Gh} {p : Addr} {i : Int} {xs : List D} {d : D} {Q : EV → Gh → Prop} (h : G p = some (.lst xs)) (e : L2.atI xs i = some d) (q : Q (.d d) G) : gixK (.d (.ref p)) (.d (.int i)) G Q := ⟨xs, d, h, e, q⟩
theorem at0 {a b c d : D} : L2.atI [a, b, c, d] 0 = some a := rfl
theorem at1 {a b c d : D} : L2.atI [a, b, c, d] 1 = some b := rfl
theorem at2 {a b c d : D} : L2.atI [a, b, c, d] 2 = some c := rfl
theorem at3 {a b c d : D} : L2.atI [a, b, c, d] 3 = some d := rfl
theorem gup2 {G : Gh} {a : Addr} {x y : GO} : gup (gup G a x) a y = gup G a y := by
  funext b
  by_cases e : b = a
  · rw [e, gup_same, gup_same]
  · rw [gup_ne e, gup_ne e, gup_ne e]
theorem gst_at {G : Gh} {p : Addr} {i : Int} {j : Nat} {xs : List D} {d : D} {k : Gh → Prop} (h : G p = some (.lst xs)) (e : L2.ixN xs.length i = some j) (q : k (gup G p (.lst (xs.set j d)))) : gstK (.d (.ref p)) (.d (.int i)) (.d d) G k := ⟨xs, j, h, e, q⟩
theorem run_draw (hN : N.length = 3) : ∀ ds G Q E, TdrawL ds G Q E → runB S N cdrw_1 ds G Q E := by
  rintro ds G Q E ⟨a, many, ns, c, k, m, rfl, l1, l2, ⟨o1, o2, o3, o4, o5, o6⟩, ga, h⟩
  simp only [run_eq, startL, hN, cdrw_1, e_loc, e_cst, s_cons, s_ite, b_and, b_cmp, e_gidx, e_bi, List.map_cons, List.map_nil, Nat.reduceAdd, Nat.reduceSub, List.replicate_succ, List.replicate_zero, List.append_nil, List.cons_append, List.nil_append, List.length_cons, List.length_nil, List.getElem?_cons_zero, List.getElem?_cons_succ, k_locd]
  have bm : Bd 17 many := by unfold Bd; omega
  -- the second half
  have half : ∀ (c' k' : Int) (G' : Gh), G' = gup G a (.lst [.lst (ns.map .int), .int c', .int k', .int m]) → 0 ≤ c' → 0 ≤ k' → k' ≤ 64 → wpSs S cdrw_4 (R0 Q E)
      [some (.d (.ref a)), some (.d (.int many)), none] G' := by
    intro c' k' G' eG h0 h1 h2
    have gs : G' a = some (.lst [.lst (ns.map .int), .int c', .int k', .int m]) := by rw [eG, gup_same]
    simp only [cdrw_4, DL.e_loc, DL.e_cst, DL.e_gc, DL.e_bin, DL.e_neg, DL.e_cmp, DL.e_chn, DL.e_and, DL.e_or, DL.e_not, DL.e_ite, DL.e_idx, DL.e_gidx, DL.e_slc, DL.e_tup, DL.e_lst, DL.e_call, DL.e_bi, DL.e_inst, DL.e_comp, DL.e_nev, DL.e_nil, DL.e_cons, DL.e_no, DL.e_yes, DL.b_val, DL.b_cmp, DL.b_chn, DL.b_and, DL.b_or, DL.b_not, DL.b_no, DL.b_one, DL.i_seq, DL.i_rng1, DL.i_rng2, DL.i_enum, DL.i_zip, DL.s_set, DL.s_setF, DL.s_asg, DL.s_par, DL.s_par3, DL.s_aug, DL.s_app, DL.s_ext, DL.s_pop, DL.s_expr, DL.s_ret, DL.s_retT, DL.s_ite, DL.s_whl, DL.s_for, DL.s_gset, DL.s_brk, DL.s_cnt, DL.s_nil, DL.s_cons, DL.s_frz, DL.t_name, DL.t_tup, DL.t_nil, DL.t_cons, DL.t_len0, DL.t_len1, DL.k_locd, DL.k_loco, DL.k_neg, DL.k_tt, DL.k_ff, DL.k_any, DL.k_lst, DL.k_int, DL.k_dat, DL.k_ty, DL.k_keep, DL.k_own, DL.k_slot, DL.k_new, DL.k_seqt, DL.k_seql, DL.k_seqs, DL.k_seqo, DL.k_enut, DL.k_enul, DL.k_enuo, DL.k_zipt, DL.k_zipl, DL.k_gix, DL.k_gst, DL.k_setd, DL.k_seto, DL.a_dd, DL.a_do, DL.a_rd, DL.a_ro, DL.a_rb, DL.a_nil, DL.a_d, DL.a_o, DL.a_l, DL.a_lo, DL.a_lb, DL.o_add, DL.o_addb, DL.o_adds, DL.o_addt, DL.o_sub, DL.o_subb, DL.o_subbb, DL.o_iadd, DL.o_iaddb, DL.o_isub, DL.o_isubb, DL.o_mul, DL.o_fdiv, DL.o_mod, DL.o_lt, DL.o_le, DL.o_gt, DL.o_ge, DL.o_eq, DL.o_ne, DL.o_isn, DL.o_notn, DL.o_isb, DL.o_notb, DL.o_idxt, DL.o_idxl, DL.o_idxo, DL.o_idxb, DL.o_slct, DL.o_slcl, DL.o_slco, DL.o_slcb, DL.o_rev, DL.o_lent, DL.o_lenl, DL.o_lens, DL.o_leno, DL.o_lenb, DL.o_lenstr, DL.o_abs, DL.o_int, DL.o_intb, DL.o_tupo, DL.o_tupl, DL.o_tupt, DL.o_tupb, DL.o_lso, DL.o_lsl, DL.o_lst, DL.o_lss, DL.o_lsb, DL.o_all, DL.o_anyy, DL.o_sum, DL.o_sorted, DL.u_bl, DL.u_int, DL.u_non, DL.u_tup, DL.u_lst, DL.u_own, DL.u_bor, DL.x_0, DL.x_1, DL.x_2, DL.x_3, DL.x_4, DL.x_5, DL.y_tuplenon, DL.y_tuplebl, DL.y_tupleint, DL.y_tuplestr, DL.y_tupletup, DL.y_tuplelst, DL.y_listnon, DL.y_listbl, DL.y_listint, DL.y_liststr, DL.y_listtup, DL.y_listlst, DL.y_dictnon, DL.y_dictbl, DL.y_dictint, DL.y_dictstr, DL.y_dicttup, DL.y_dictlst, DL.y_strnon, DL.y_strbl, DL.y_strint, DL.y_strstr, DL.y_strtup, DL.y_strlst, DL.y_intnon, DL.y_intbl, DL.y_intint, DL.y_intstr, DL.y_inttup, DL.y_intlst, DL.y_boolnon, DL.y_boolbl, DL.y_boolint, DL.y_boolstr, DL.y_booltup, DL.y_boollst, DL.j_n1, DL.j_n2, DL.j_n3, DL.j_n4, DL.j_n5, DL.j_f1, DL.j_f2, DL.j_f3, DL.j_f4, DL.j_f5, DL.j_w1, DL.j_w2, DL.j_w3, DL.j_w4, DL.j_w5, DL.j_01, DL.j_02, DL.j_03, DL.eqD_int, DL.eqOk_int, List.getElem?_cons_zero, List.getElem?_cons_succ, List.set_cons_zero, List.set_cons_succ, List.length_cons, List.length_nil, Option.map_some, Option.map_none, true_and, eq_self]
    refine ⟨_, _, gs, at1, ?_⟩
    simp only [DL.e_loc, DL.e_cst, DL.e_gc, DL.e_bin, DL.e_neg, DL.e_cmp, DL.e_chn, DL.e_and, DL.e_or, DL.e_not, DL.e_ite, DL.e_idx, DL.e_gidx, DL.e_slc, DL.e_tup, DL.e_lst, DL.e_call, DL.e_bi, DL.e_inst, DL.e_comp, DL.e_nev, DL.e_nil, DL.e_cons, DL.e_no, DL.e_yes, DL.b_val, DL.b_cmp, DL.b_chn, DL.b_and, DL.b_or, DL.b_not, DL.b_no, DL.b_one, DL.i_seq, DL.i_rng1, DL.i_rng2, DL.i_enum, DL.i_zip, DL.s_set, DL.s_setF, DL.s_asg, DL.s_par, DL.s_par3, DL.s_aug, DL.s_app, DL.s_ext, DL.s_pop, DL.s_expr, DL.s_ret, DL.s_retT, DL.s_ite, DL.s_whl, DL.s_for, DL.s_gset, DL.s_brk, DL.s_cnt, DL.s_nil, DL.s_cons, DL.s_frz, DL.t_name, DL.t_tup, DL.t_nil, DL.t_cons, DL.t_len0, DL.t_len1, DL.k_locd, DL.k_loco, DL.k_neg, DL.k_tt, DL.k_ff, DL.k_any, DL.k_lst, DL.k_int, DL.k_dat, DL.k_ty, DL.k_keep, DL.k_own, DL.k_slot, DL.k_new, DL.k_seqt, DL.k_seql, DL.k_seqs, DL.k_seqo, DL.k_enut, DL.k_enul, DL.k_enuo, DL.k_zipt, DL.k_zipl, DL.k_gix, DL.k_gst, DL.k_setd, DL.k_seto, DL.a_dd, DL.a_do, DL.a_rd, DL.a_ro, DL.a_rb, DL.a_nil, DL.a_d, DL.a_o, DL.a_l, DL.a_lo, DL.a_lb, DL.o_add, DL.o_addb, DL.o_adds, DL.o_addt, DL.o_sub, DL.o_subb, DL.o_subbb, DL.o_iadd, DL.o_iaddb, DL.o_isub, DL.o_isubb, DL.o_mul, DL.o_fdiv, DL.o_mod, DL.o_lt, DL.o_le, DL.o_gt, DL.o_ge, DL.o_eq, DL.o_ne, DL.o_isn, DL.o_notn, DL.o_isb, DL.o_notb, DL.o_idxt, DL.o_idxl, DL.o_idxo, DL.o_idxb, DL.o_slct, DL.o_slcl, DL.o_slco, DL.o_slcb, DL.o_rev, DL.o_lent, DL.o_lenl, DL.o_lens, DL.o_leno, DL.o_lenb, DL.o_lenstr, DL.o_abs, DL.o_int, DL.o_intb, DL.o_tupo, DL.o_tupl, DL.o_tupt, DL.o_tupb, DL.o_lso, DL.o_lsl, DL.o_lst, DL.o_lss, DL.o_lsb, DL.o_all, DL.o_anyy, DL.o_sum, DL.o_sorted, DL.u_bl, DL.u_int, DL.u_non, DL.u_tup, DL.u_lst, DL.u_own, DL.u_bor, DL.x_0, DL.x_1, DL.x_2, DL.x_3, DL.x_4, DL.x_5, DL.y_tuplenon, DL.y_tuplebl, DL.y_tupleint, DL.y_tuplestr, DL.y_tupletup, DL.y_tuplelst, DL.y_listnon, DL.y_listbl, DL.y_listint, DL.y_liststr, DL.y_listtup, DL.y_listlst, DL.y_dictnon, DL.y_dictbl, DL.y_dictint, DL.y_dictstr, DL.y_dicttup, DL.y_dictlst, DL.y_strnon, DL.y_strbl, DL.y_strint, DL.y_strstr, DL.y_strtup, DL.y_strlst, DL.y_intnon, DL.y_intbl, DL.y_intint, DL.y_intstr, DL.y_inttup, DL.y_intlst, DL.y_boolnon, DL.y_boolbl, DL.y_boolint, DL.y_boolstr, DL.y_booltup, DL.y_boollst, DL.j_n1, DL.j_n2, DL.j_n3, DL.j_n4, DL.j_n5, DL.j_f1, DL.j_f2, DL.j_f3, DL.j_f4, DL.j_f5, DL.j_w1, DL.j_w2, DL.j_w3, DL.j_w4, DL.j_w5, DL.j_01, DL.j_02, DL.j_03, DL.eqD_int, DL.eqOk_int, List.getElem?_cons_zero, List.getElem?_cons_succ, List.set_cons_zero, List.set_cons_succ, List.length_cons, List.length_nil, Option.map_some, Option.map_none, true_and, eq_self]
    refine iteK_of (fun e => ?_) (fun e => ?_)
    · simp only [cdrw_5, DL.e_loc, DL.e_cst, DL.e_gc, DL.e_bin, DL.e_neg, DL.e_cmp, DL.e_chn, DL.e_and, DL.e_or, DL.e_not, DL.e_ite, DL.e_idx, DL.e_gidx, DL.e_slc, DL.e_tup, DL.e_lst, DL.e_call, DL.e_bi, DL.e_inst, DL.e_comp, DL.e_nev, DL.e_nil, DL.e_cons, DL.e_no, DL.e_yes, DL.b_val, DL.b_cmp, DL.b_chn, DL.b_and, DL.b_or, DL.b_not, DL.b_no, DL.b_one, DL.i_seq, DL.i_rng1, DL.i_rng2, DL.i_enum, DL.i_zip, DL.s_set, DL.s_setF, DL.s_asg, DL.s_par, DL.s_par3, DL.s_aug, DL.s_app, DL.s_ext, DL.s_pop, DL.s_expr, DL.s_ret, DL.s_retT, DL.s_ite, DL.s_whl, DL.s_for, DL.s_gset, DL.s_brk, DL.s_cnt, DL.s_nil, DL.s_cons, DL.s_frz, DL.t_name, DL.t_tup, DL.t_nil, DL.t_cons, DL.t_len0, DL.t_len1, DL.k_locd, DL.k_loco, DL.k_neg, DL.k_tt, DL.k_ff, DL.k_any, DL.k_lst, DL.k_int, DL.k_dat, DL.k_ty, DL.k_keep, DL.k_own, DL.k_slot, DL.k_new, DL.k_seqt, DL.k_seql, DL.k_seqs, DL.k_seqo, DL.k_enut, DL.k_enul, DL.k_enuo, DL.k_zipt, DL.k_zipl, DL.k_gix, DL.k_gst, DL.k_setd, DL.k_seto, DL.a_dd, DL.a_do, DL.a_rd, DL.a_ro, DL.a_rb, DL.a_nil, DL.a_d, DL.a_o, DL.a_l, DL.a_lo, DL.a_lb, DL.o_add, DL.o_addb, DL.o_adds, DL.o_addt, DL.o_sub, DL.o_subb, DL.o_subbb, DL.o_iadd, DL.o_iaddb, DL.o_isub, DL.o_isubb, DL.o_mul, DL.o_fdiv, DL.o_mod, DL.o_lt, DL.o_le, DL.o_gt, DL.o_ge, DL.o_eq, DL.o_ne, DL.o_isn, DL.o_notn, DL.o_isb, DL.o_notb, DL.o_idxt, DL.o_idxl, DL.o_idxo, DL.o_idxb, DL.o_slct, DL.o_slcl, DL.o_slco, DL.o_slcb, DL.o_rev, DL.o_lent, DL.o_lenl, DL.o_lens, DL.o_leno, DL.o_lenb, DL.o_lenstr, DL.o_abs, DL.o_int, DL.o_intb, DL.o_tupo, DL.o_tupl, DL.o_tupt, DL.o_tupb, DL.o_lso, DL.o_lsl, DL.o_lst, DL.o_lss, DL.o_lsb, DL.o_all, DL.o_anyy, DL.o_sum, DL.o_sorted, DL.u_bl, DL.u_int, DL.u_non, DL.u_tup, DL.u_lst, DL.u_own, DL.u_bor, DL.x_0, DL.x_1, DL.x_2, DL.x_3, DL.x_4, DL.x_5, DL.y_tuplenon, DL.y_tuplebl, DL.y_tupleint, DL.y_tuplestr, DL.y_tupletup, DL.y_tuplelst, DL.y_listnon, DL.y_listbl, DL.y_listint, DL.y_liststr, DL.y_listtup, DL.y_listlst, DL.y_dictnon, DL.y_dictbl, DL.y_dictint, DL.y_dictstr, DL.y_dicttup, DL.y_dictlst, DL.y_strnon, DL.y_strbl, DL.y_strint, DL.y_strstr, DL.y_strtup, DL.y_strlst, DL.y_intnon, DL.y_intbl, DL.y_intint, DL.y_intstr, DL.y_inttup, DL.y_intlst, DL.y_boolnon, DL.y_boolbl, DL.y_boolint, DL.y_boolstr, DL.y_booltup, DL.y_boollst, DL.j_n1, DL.j_n2, DL.j_n3, DL.j_n4, DL.j_n5, DL.j_f1, DL.j_f2, DL.j_f3, DL.j_f4, DL.j_f5, DL.j_w1, DL.j_w2, DL.j_w3, DL.j_w4, DL.j_w5, DL.j_01, DL.j_02, DL.j_03, DL.eqD_int, DL.eqOk_int, List.getElem?_cons_zero, List.getElem?_cons_succ, List.set_cons_zero, List.set_cons_succ, List.length_cons, List.length_nil, Option.map_some, Option.map_none, true_and, eq_self]
      refine ⟨_, _, gs, at3, ?_⟩
      simp only [DL.e_loc, DL.e_cst, DL.e_gc, DL.e_bin, DL.e_neg, DL.e_cmp, DL.e_chn, DL.e_and, DL.e_or, DL.e_not, DL.e_ite, DL.e_idx, DL.e_gidx, DL.e_slc, DL.e_tup, DL.e_lst, DL.e_call, DL.e_bi, DL.e_inst, DL.e_comp, DL.e_nev, DL.e_nil, DL.e_cons, DL.e_no, DL.e_yes, DL.b_val, DL.b_cmp, DL.b_chn, DL.b_and, DL.b_or, DL.b_not, DL.b_no, DL.b_one, DL.i_seq, DL.i_rng1, DL.i_rng2, DL.i_enum, DL.i_zip, DL.s_set, DL.s_setF, DL.s_asg, DL.s_par, DL.s_par3, DL.s_aug, DL.s_app, DL.s_ext, DL.s_pop, DL.s_expr, DL.s_ret, DL.s_retT, DL.s_ite, DL.s_whl, DL.s_for, DL.s_gset, DL.s_brk, DL.s_cnt, DL.s_nil, DL.s_cons, DL.s_frz, DL.t_name, DL.t_tup, DL.t_nil, DL.t_cons, DL.t_len0, DL.t_len1, DL.k_locd, DL.k_loco, DL.k_neg, DL.k_tt, DL.k_ff, DL.k_any, DL.k_lst, DL.k_int, DL.k_dat, DL.k_ty, DL.k_keep, DL.k_own, DL.k_slot, DL.k_new, DL.k_seqt, DL.k_seql, DL.k_seqs, DL.k_seqo, DL.k_enut, DL.k_enul, DL.k_enuo, DL.k_zipt, DL.k_zipl, DL.k_gix, DL.k_gst, DL.k_setd, DL.k_seto, DL.a_dd, DL.a_do, DL.a_rd, DL.a_ro, DL.a_rb, DL.a_nil, DL.a_d, DL.a_o, DL.a_l, DL.a_lo, DL.a_lb, DL.o_add, DL.o_addb, DL.o_adds, DL.o_addt, DL.o_sub, DL.o_subb, DL.o_subbb, DL.o_iadd, DL.o_iaddb, DL.o_isub, DL.o_isubb, DL.o_mul, DL.o_fdiv, DL.o_mod, DL.o_lt, DL.o_le, DL.o_gt, DL.o_ge, DL.o_eq, DL.o_ne, DL.o_isn, DL.o_notn, DL.o_isb, DL.o_notb, DL.o_idxt, DL.o_idxl, DL.o_idxo, DL.o_idxb, DL.o_slct, DL.o_slcl, DL.o_slco, DL.o_slcb, DL.o_rev, DL.o_lent, DL.o_lenl, DL.o_lens, DL.o_leno, DL.o_lenb, DL.o_lenstr, DL.o_abs, DL.o_int, DL.o_intb, DL.o_tupo, DL.o_tupl, DL.o_tupt, DL.o_tupb, DL.o_lso, DL.o_lsl, DL.o_lst, DL.o_lss, DL.o_lsb, DL.o_all, DL.o_anyy, DL.o_sum, DL.o_sorted, DL.u_bl, DL.u_int, DL.u_non, DL.u_tup, DL.u_lst, DL.u_own, DL.u_bor, DL.x_0, DL.x_1, DL.x_2, DL.x_3, DL.x_4, DL.x_5, DL.y_tuplenon, DL.y_tuplebl, DL.y_tupleint, DL.y_tuplestr, DL.y_tupletup, DL.y_tuplelst, DL.y_listnon, DL.y_listbl, DL.y_listint, DL.y_liststr, DL.y_listtup, DL.y_listlst, DL.y_dictnon, DL.y_dictbl, DL.y_dictint, DL.y_dictstr, DL.y_dicttup, DL.y_dictlst, DL.y_strnon, DL.y_strbl, DL.y_strint, DL.y_strstr, DL.y_strtup, DL.y_strlst, DL.y_intnon, DL.y_intbl, DL.y_intint, DL.y_intstr, DL.y_inttup, DL.y_intlst, DL.y_boolnon, DL.y_boolbl, DL.y_boolint, DL.y_boolstr, DL.y_booltup, DL.y_boollst, DL.j_n1, DL.j_n2, DL.j_n3, DL.j_n4, DL.j_n5, DL.j_f1, DL.j_f2, DL.j_f3, DL.j_f4, DL.j_f5, DL.j_w1, DL.j_w2, DL.j_w3, DL.j_w4, DL.j_w5, DL.j_01, DL.j_02, DL.j_03, DL.eqD_int, DL.eqOk_int, List.getElem?_cons_zero, List.getElem?_cons_succ, List.set_cons_zero, List.set_cons_succ, List.length_cons, List.length_nil, Option.map_some, Option.map_none, true_and, eq_self]
      refine ⟨mulW (b := 31) (c := 17) (by unfold Bd; omega) (by unfold Bd; decide) (by decide), by decide, _, 3, gs, rfl, ?_⟩
      simp only [cdrw_6, DL.e_loc, DL.e_cst, DL.e_gc, DL.e_bin, DL.e_neg, DL.e_cmp, DL.e_chn, DL.e_and, DL.e_or, DL.e_not, DL.e_ite, DL.e_idx, DL.e_gidx, DL.e_slc, DL.e_tup, DL.e_lst, DL.e_call, DL.e_bi, DL.e_inst, DL.e_comp, DL.e_nev, DL.e_nil, DL.e_cons, DL.e_no, DL.e_yes, DL.b_val, DL.b_cmp, DL.b_chn, DL.b_and, DL.b_or, DL.b_not, DL.b_no, DL.b_one, DL.i_seq, DL.i_rng1, DL.i_rng2, DL.i_enum, DL.i_zip, DL.s_set, DL.s_setF, DL.s_asg, DL.s_par, DL.s_par3, DL.s_aug, DL.s_app, DL.s_ext, DL.s_pop, DL.s_expr, DL.s_ret, DL.s_retT, DL.s_ite, DL.s_whl, DL.s_for, DL.s_gset, DL.s_brk, DL.s_cnt, DL.s_nil, DL.s_cons, DL.s_frz, DL.t_name, DL.t_tup, DL.t_nil, DL.t_cons, DL.t_len0, DL.t_len1, DL.k_locd, DL.k_loco, DL.k_neg, DL.k_tt, DL.k_ff, DL.k_any, DL.k_lst, DL.k_int, DL.k_dat, DL.k_ty, DL.k_keep, DL.k_own, DL.k_slot, DL.k_new, DL.k_seqt, DL.k_seql, DL.k_seqs, DL.k_seqo, DL.k_enut, DL.k_enul, DL.k_enuo, DL.k_zipt, DL.k_zipl, DL.k_gix, DL.k_gst, DL.k_setd, DL.k_seto, DL.a_dd, DL.a_do, DL.a_rd, DL.a_ro, DL.a_rb, DL.a_nil, DL.a_d, DL.a_o, DL.a_l, DL.a_lo, DL.a_lb, DL.o_add, DL.o_addb, DL.o_adds, DL.o_addt, DL.o_sub, DL.o_subb, DL.o_subbb, DL.o_iadd, DL.o_iaddb, DL.o_isub, DL.o_isubb, DL.o_mul, DL.o_fdiv, DL.o_mod, DL.o_lt, DL.o_le, DL.o_gt, DL.o_ge, DL.o_eq, DL.o_ne, DL.o_isn, DL.o_notn, DL.o_isb, DL.o_notb, DL.o_idxt, DL.o_idxl, DL.o_idxo, DL.o_idxb, DL.o_slct, DL.o_slcl, DL.o_slco, DL.o_slcb, DL.o_rev, DL.o_lent, DL.o_lenl, DL.o_lens, DL.o_leno, DL.o_lenb, DL.o_lenstr, DL.o_abs, DL.o_int, DL.o_intb, DL.o_tupo, DL.o_tupl, DL.o_tupt, DL.o_tupb, DL.o_lso, DL.o_lsl, DL.o_lst, DL.o_lss, DL.o_lsb, DL.o_all, DL.o_anyy, DL.o_sum, DL.o_sorted, DL.u_bl, DL.u_int, DL.u_non, DL.u_tup, DL.u_lst, DL.u_own, DL.u_bor, DL.x_0, DL.x_1, DL.x_2, DL.x_3, DL.x_4, DL.x_5, DL.y_tuplenon, DL.y_tuplebl, DL.y_tupleint, DL.y_tuplestr, DL.y_tupletup, DL.y_tuplelst, DL.y_listnon, DL.y_listbl, DL.y_listint, DL.y_liststr, DL.y_listtup, DL.y_listlst, DL.y_dictnon, DL.y_dictbl, DL.y_dictint, DL.y_dictstr, DL.y_dicttup, DL.y_dictlst, DL.y_strnon, DL.y_strbl, DL.y_strint, DL.y_strstr, DL.y_strtup, DL.y_strlst, DL.y_intnon, DL.y_intbl, DL.y_intint, DL.y_intstr, DL.y_inttup, DL.y_intlst, DL.y_boolnon, DL.y_boolbl, DL.y_boolint, DL.y_boolstr, DL.y_booltup, DL.y_boollst, DL.j_n1, DL.j_n2, DL.j_n3, DL.j_n4, DL.j_n5, DL.j_f1, DL.j_f2, DL.j_f3, DL.j_f4, DL.j_f5, DL.j_w1, DL.j_w2, DL.j_w3, DL.j_w4, DL.j_w5, DL.j_01, DL.j_02, DL.j_03, DL.eqD_int, DL.eqOk_int, List.getElem?_cons_zero, List.getElem?_cons_succ, List.set_cons_zero, List.set_cons_succ, List.length_cons, List.length_nil, Option.map_some, Option.map_none, true_and, eq_self]
      refine ⟨_, _, gup_same, at3, ?_⟩
      simp only [DL.e_loc, DL.e_cst, DL.e_gc, DL.e_bin, DL.e_neg, DL.e_cmp, DL.e_chn, DL.e_and, DL.e_or, DL.e_not, DL.e_ite, DL.e_idx, DL.e_gidx, DL.e_slc, DL.e_tup, DL.e_lst, DL.e_call, DL.e_bi, DL.e_inst, DL.e_comp, DL.e_nev, DL.e_nil, DL.e_cons, DL.e_no, DL.e_yes, DL.b_val, DL.b_cmp, DL.b_chn, DL.b_and, DL.b_or, DL.b_not, DL.b_no, DL.b_one, DL.i_seq, DL.i_rng1, DL.i_rng2, DL.i_enum, DL.i_zip, DL.s_set, DL.s_setF, DL.s_asg, DL.s_par, DL.s_par3, DL.s_aug, DL.s_app, DL.s_ext, DL.s_pop, DL.s_expr, DL.s_ret, DL.s_retT, DL.s_ite, DL.s_whl, DL.s_for, DL.s_gset, DL.s_brk, DL.s_cnt, DL.s_nil, DL.s_cons, DL.s_frz, DL.t_name, DL.t_tup, DL.t_nil, DL.t_cons, DL.t_len0, DL.t_len1, DL.k_locd, DL.k_loco, DL.k_neg, DL.k_tt, DL.k_ff, DL.k_any, DL.k_lst, DL.k_int, DL.k_dat, DL.k_ty, DL.k_keep, DL.k_own, DL.k_slot, DL.k_new, DL.k_seqt, DL.k_seql, DL.k_seqs, DL.k_seqo, DL.k_enut, DL.k_enul, DL.k_enuo, DL.k_zipt, DL.k_zipl, DL.k_gix, DL.k_gst, DL.k_setd, DL.k_seto, DL.a_dd, DL.a_do, DL.a_rd, DL.a_ro, DL.a_rb, DL.a_nil, DL.a_d, DL.a_o, DL.a_l, DL.a_lo, DL.a_lb, DL.o_add, DL.o_addb, DL.o_adds, DL.o_addt, DL.o_sub, DL.o_subb, DL.o_subbb, DL.o_iadd, DL.o_iaddb, DL.o_isub, DL.o_isubb, DL.o_mul, DL.o_fdiv, DL.o_mod, DL.o_lt, DL.o_le, DL.o_gt, DL.o_ge, DL.o_eq, DL.o_ne, DL.o_isn, DL.o_notn, DL.o_isb, DL.o_notb, DL.o_idxt, DL.o_idxl, DL.o_idxo, DL.o_idxb, DL.o_slct, DL.o_slcl, DL.o_slco, DL.o_slcb, DL.o_rev, DL.o_lent, DL.o_lenl, DL.o_lens, DL.o_leno, DL.o_lenb, DL.o_lenstr, DL.o_abs, DL.o_int, DL.o_intb, DL.o_tupo, DL.o_tupl, DL.o_tupt, DL.o_tupb, DL.o_lso, DL.o_lsl, DL.o_lst, DL.o_lss, DL.o_lsb, DL.o_all, DL.o_anyy, DL.o_sum, DL.o_sorted, DL.u_bl, DL.u_int, DL.u_non, DL.u_tup, DL.u_lst, DL.u_own, DL.u_bor, DL.x_0, DL.x_1, DL.x_2, DL.x_3, DL.x_4, DL.x_5, DL.y_tuplenon, DL.y_tuplebl, DL.y_tupleint, DL.y_tuplestr, DL.y_tupletup, DL.y_tuplelst, DL.y_listnon, DL.y_listbl, DL.y_listint, DL.y_liststr, DL.y_listtup, DL.y_listlst, DL.y_dictnon, DL.y_dictbl, DL.y_dictint, DL.y_dictstr, DL.y_dicttup, DL.y_dictlst, DL.y_strnon, DL.y_strbl, DL.y_strint, DL.y_strstr, DL.y_strtup, DL.y_strlst, DL.y_intnon, DL.y_intbl, DL.y_intint, DL.y_intstr, DL.y_inttup, DL.y_intlst, DL.y_boolnon, DL.y_boolbl, DL.y_boolint, DL.y_boolstr, DL.y_booltup, DL.y_boollst, DL.j_n1, DL.j_n2, DL.j_n3, DL.j_n4, DL.j_n5, DL.j_f1, DL.j_f2, DL.j_f3, DL.j_f4, DL.j_f5, DL.j_w1, DL.j_w2, DL.j_w3, DL.j_w4, DL.j_w5, DL.j_01, DL.j_02, DL.j_03, DL.eqD_int, DL.eqOk_int, List.getElem?_cons_zero, List.getElem?_cons_succ, List.set_cons_zero, List.set_cons_succ, List.length_cons, List.length_nil, Option.map_some, Option.map_none, true_and, eq_self]
      refine ⟨divOk (c := 17) (by decide) (by unfold Bd; decide) (by decide), by omega, ?_⟩
      rw [eG, gup2]
      exact h _ c' k' _ (Int.fmod_nonneg_of_pos _ (by omega)) (Int.fmod_lt_of_pos _ (by omega)) ⟨o1, h0, h1, h2, Int.fmod_nonneg_of_pos _ (by decide), Int.fmod_lt_of_pos _ (by decide)⟩
    · simp only [cdrw_7, DL.e_loc, DL.e_cst, DL.e_gc, DL.e_bin, DL.e_neg, DL.e_cmp, DL.e_chn, DL.e_and, DL.e_or, DL.e_not, DL.e_ite, DL.e_idx, DL.e_gidx, DL.e_slc, DL.e_tup, DL.e_lst, DL.e_call, DL.e_bi, DL.e_inst, DL.e_comp, DL.e_nev, DL.e_nil, DL.e_cons, DL.e_no, DL.e_yes, DL.b_val, DL.b_cmp, DL.b_chn, DL.b_and, DL.b_or, DL.b_not, DL.b_no, DL.b_one, DL.i_seq, DL.i_rng1, DL.i_rng2, DL.i_enum, DL.i_zip, DL.s_set, DL.s_setF, DL.s_asg, DL.s_par, DL.s_par3, DL.s_aug, DL.s_app, DL.s_ext, DL.s_pop, DL.s_expr, DL.s_ret, DL.s_retT, DL.s_ite, DL.s_whl, DL.s_for, DL.s_gset, DL.s_brk, DL.s_cnt, DL.s_nil, DL.s_cons, DL.s_frz, DL.t_name, DL.t_tup, DL.t_nil, DL.t_cons, DL.t_len0, DL.t_len1, DL.k_locd, DL.k_loco, DL.k_neg, DL.k_tt, DL.k_ff, DL.k_any, DL.k_lst, DL.k_int, DL.k_dat, DL.k_ty, DL.k_keep, DL.k_own, DL.k_slot, DL.k_new, DL.k_seqt, DL.k_seql, DL.k_seqs, DL.k_seqo, DL.k_enut, DL.k_enul, DL.k_enuo, DL.k_zipt, DL.k_zipl, DL.k_gix, DL.k_gst, DL.k_setd, DL.k_seto, DL.a_dd, DL.a_do, DL.a_rd, DL.a_ro, DL.a_rb, DL.a_nil, DL.a_d, DL.a_o, DL.a_l, DL.a_lo, DL.a_lb, DL.o_add, DL.o_addb, DL.o_adds, DL.o_addt, DL.o_sub, DL.o_subb, DL.o_subbb, DL.o_iadd, DL.o_iaddb, DL.o_isub, DL.o_isubb, DL.o_mul, DL.o_fdiv, DL.o_mod, DL.o_lt, DL.o_le, DL.o_gt, DL.o_ge, DL.o_eq, DL.o_ne, DL.o_isn, DL.o_notn, DL.o_isb, DL.o_notb, DL.o_idxt, DL.o_idxl, DL.o_idxo, DL.o_idxb, DL.o_slct, DL.o_slcl, DL.o_slco, DL.o_slcb, DL.o_rev, DL.o_lent, DL.o_lenl, DL.o_lens, DL.o_leno, DL.o_lenb, DL.o_lenstr, DL.o_abs, DL.o_int, DL.o_intb, DL.o_tupo, DL.o_tupl, DL.o_tupt, DL.o_tupb, DL.o_lso, DL.o_lsl, DL.o_lst, DL.o_lss, DL.o_lsb, DL.o_all, DL.o_anyy, DL.o_sum, DL.o_sorted, DL.u_bl, DL.u_int, DL.u_non, DL.u_tup, DL.u_lst, DL.u_own, DL.u_bor, DL.x_0, DL.x_1, DL.x_2, DL.x_3, DL.x_4, DL.x_5, DL.y_tuplenon, DL.y_tuplebl, DL.y_tupleint, DL.y_tuplestr, DL.y_tupletup, DL.y_tuplelst, DL.y_listnon, DL.y_listbl, DL.y_listint, DL.y_liststr, DL.y_listtup, DL.y_listlst, DL.y_dictnon, DL.y_dictbl, DL.y_dictint, DL.y_dictstr, DL.y_dicttup, DL.y_dictlst, DL.y_strnon, DL.y_strbl, DL.y_strint, DL.y_strstr, DL.y_strtup, DL.y_strlst, DL.y_intnon, DL.y_intbl, DL.y_intint, DL.y_intstr, DL.y_inttup, DL.y_intlst, DL.y_boolnon, DL.y_boolbl, DL.y_boolint, DL.y_boolstr, DL.y_booltup, DL.y_boollst, DL.j_n1, DL.j_n2, DL.j_n3, DL.j_n4, DL.j_n5, DL.j_f1, DL.j_f2, DL.j_f3, DL.j_f4, DL.j_f5, DL.j_w1, DL.j_w2, DL.j_w3, DL.j_w4, DL.j_w5, DL.j_01, DL.j_02, DL.j_03, DL.eqD_int, DL.eqOk_int, List.getElem?_cons_zero, List.getElem?_cons_succ, List.set_cons_zero, List.set_cons_succ, List.length_cons, List.length_nil, Option.map_some, Option.map_none, true_and, eq_self]
      refine ⟨_, _, gs, at1, ?_⟩
      simp only [DL.e_loc, DL.e_cst, DL.e_gc, DL.e_bin, DL.e_neg, DL.e_cmp, DL.e_chn, DL.e_and, DL.e_or, DL.e_not, DL.e_ite, DL.e_idx, DL.e_gidx, DL.e_slc, DL.e_tup, DL.e_lst, DL.e_call, DL.e_bi, DL.e_inst, DL.e_comp, DL.e_nev, DL.e_nil, DL.e_cons, DL.e_no, DL.e_yes, DL.b_val, DL.b_cmp, DL.b_chn, DL.b_and, DL.b_or, DL.b_not, DL.b_no, DL.b_one, DL.i_seq, DL.i_rng1, DL.i_rng2, DL.i_enum, DL.i_zip, DL.s_set, DL.s_setF, DL.s_asg, DL.s_par, DL.s_par3, DL.s_aug, DL.s_app, DL.s_ext, DL.s_pop, DL.s_expr, DL.s_ret, DL.s_retT, DL.s_ite, DL.s_whl, DL.s_for, DL.s_gset, DL.s_brk, DL.s_cnt, DL.s_nil, DL.s_cons, DL.s_frz, DL.t_name, DL.t_tup, DL.t_nil, DL.t_cons, DL.t_len0, DL.t_len1, DL.k_locd, DL.k_loco, DL.k_neg, DL.k_tt, DL.k_ff, DL.k_any, DL.k_lst, DL.k_int, DL.k_dat, DL.k_ty, DL.k_keep, DL.k_own, DL.k_slot, DL.k_new, DL.k_seqt, DL.k_seql, DL.k_seqs, DL.k_seqo, DL.k_enut, DL.k_enul, DL.k_enuo, DL.k_zipt, DL.k_zipl, DL.k_gix, DL.k_gst, DL.k_setd, DL.k_seto, DL.a_dd, DL.a_do, DL.a_rd, DL.a_ro, DL.a_rb, DL.a_nil, DL.a_d, DL.a_o, DL.a_l, DL.a_lo, DL.a_lb, DL.o_add, DL.o_addb, DL.o_adds, DL.o_addt, DL.o_sub, DL.o_subb, DL.o_subbb, DL.o_iadd, DL.o_iaddb, DL.o_isub, DL.o_isubb, DL.o_mul, DL.o_fdiv, DL.o_mod, DL.o_lt, DL.o_le, DL.o_gt, DL.o_ge, DL.o_eq, DL.o_ne, DL.o_isn, DL.o_notn, DL.o_isb, DL.o_notb, DL.o_idxt, DL.o_idxl, DL.o_idxo, DL.o_idxb, DL.o_slct, DL.o_slcl, DL.o_slco, DL.o_slcb, DL.o_rev, DL.o_lent, DL.o_lenl, DL.o_lens, DL.o_leno, DL.o_lenb, DL.o_lenstr, DL.o_abs, DL.o_int, DL.o_intb, DL.o_tupo, DL.o_tupl, DL.o_tupt, DL.o_tupb, DL.o_lso, DL.o_lsl, DL.o_lst, DL.o_lss, DL.o_lsb, DL.o_all, DL.o_anyy, DL.o_sum, DL.o_sorted, DL.u_bl, DL.u_int, DL.u_non, DL.u_tup, DL.u_lst, DL.u_own, DL.u_bor, DL.x_0, DL.x_1, DL.x_2, DL.x_3, DL.x_4, DL.x_5, DL.y_tuplenon, DL.y_tuplebl, DL.y_tupleint, DL.y_tuplestr, DL.y_tupletup, DL.y_tuplelst, DL.y_listnon, DL.y_listbl, DL.y_listint, DL.y_liststr, DL.y_listtup, DL.y_listlst, DL.y_dictnon, DL.y_dictbl, DL.y_dictint, DL.y_dictstr, DL.y_dicttup, DL.y_dictlst, DL.y_strnon, DL.y_strbl, DL.y_strint, DL.y_strstr, DL.y_strtup, DL.y_strlst, DL.y_intnon, DL.y_intbl, DL.y_intint, DL.y_intstr, DL.y_inttup, DL.y_intlst, DL.y_boolnon, DL.y_boolbl, DL.y_boolint, DL.y_boolstr, DL.y_booltup, DL.y_boollst, DL.j_n1, DL.j_n2, DL.j_n3, DL.j_n4, DL.j_n5, DL.j_f1, DL.j_f2, DL.j_f3, DL.j_f4, DL.j_f5, DL.j_w1, DL.j_w2, DL.j_w3, DL.j_w4, DL.j_w5, DL.j_01, DL.j_02, DL.j_03, DL.eqD_int, DL.eqOk_int, List.getElem?_cons_zero, List.getElem?_cons_succ, List.set_cons_zero, List.set_cons_succ, List.length_cons, List.length_nil, Option.map_some, Option.map_none, true_and, eq_self]
      refine ⟨by omega, ?_⟩
      simp only [cdrw_8, DL.e_loc, DL.e_cst, DL.e_gc, DL.e_bin, DL.e_neg, DL.e_cmp, DL.e_chn, DL.e_and, DL.e_or, DL.e_not, DL.e_ite, DL.e_idx, DL.e_gidx, DL.e_slc, DL.e_tup, DL.e_lst, DL.e_call, DL.e_bi, DL.e_inst, DL.e_comp, DL.e_nev, DL.e_nil, DL.e_cons, DL.e_no, DL.e_yes, DL.b_val, DL.b_cmp, DL.b_chn, DL.b_and, DL.b_or, DL.b_not, DL.b_no, DL.b_one, DL.i_seq, DL.i_rng1, DL.i_rng2, DL.i_enum, DL.i_zip, DL.s_set, DL.s_setF, DL.s_asg, DL.s_par, DL.s_par3, DL.s_aug, DL.s_app, DL.s_ext, DL.s_pop, DL.s_expr, DL.s_ret, DL.s_retT, DL.s_ite, DL.s_whl, DL.s_for, DL.s_gset, DL.s_brk, DL.s_cnt, DL.s_nil, DL.s_cons, DL.s_frz, DL.t_name, DL.t_tup, DL.t_nil, DL.t_cons, DL.t_len0, DL.t_len1, DL.k_locd, DL.k_loco, DL.k_neg, DL.k_tt, DL.k_ff, DL.k_any, DL.k_lst, DL.k_int, DL.k_dat, DL.k_ty, DL.k_keep, DL.k_own, DL.k_slot, DL.k_new, DL.k_seqt, DL.k_seql, DL.k_seqs, DL.k_seqo, DL.k_enut, DL.k_enul, DL.k_enuo, DL.k_zipt, DL.k_zipl, DL.k_gix, DL.k_gst, DL.k_setd, DL.k_seto, DL.a_dd, DL.a_do, DL.a_rd, DL.a_ro, DL.a_rb, DL.a_nil, DL.a_d, DL.a_o, DL.a_l, DL.a_lo, DL.a_lb, DL.o_add, DL.o_addb, DL.o_adds, DL.o_addt, DL.o_sub, DL.o_subb, DL.o_subbb, DL.o_iadd, DL.o_iaddb, DL.o_isub, DL.o_isubb, DL.o_mul, DL.o_fdiv, DL.o_mod, DL.o_lt, DL.o_le, DL.o_gt, DL.o_ge, DL.o_eq, DL.o_ne, DL.o_isn, DL.o_notn, DL.o_isb, DL.o_notb, DL.o_idxt, DL.o_idxl, DL.o_idxo, DL.o_idxb, DL.o_slct, DL.o_slcl, DL.o_slco, DL.o_slcb, DL.o_rev, DL.o_lent, DL.o_lenl, DL.o_lens, DL.o_leno, DL.o_lenb, DL.o_lenstr, DL.o_abs, DL.o_int, DL.o_intb, DL.o_tupo, DL.o_tupl, DL.o_tupt, DL.o_tupb, DL.o_lso, DL.o_lsl, DL.o_lst, DL.o_lss, DL.o_lsb, DL.o_all, DL.o_anyy, DL.o_sum, DL.o_sorted, DL.u_bl, DL.u_int, DL.u_non, DL.u_tup, DL.u_lst, DL.u_own, DL.u_bor, DL.x_0, DL.x_1, DL.x_2, DL.x_3, DL.x_4, DL.x_5, DL.y_tuplenon, DL.y_tuplebl, DL.y_tupleint, DL.y_tuplestr, DL.y_tupletup, DL.y_tuplelst, DL.y_listnon, DL.y_listbl, DL.y_listint, DL.y_liststr, DL.y_listtup, DL.y_listlst, DL.y_dictnon, DL.y_dictbl, DL.y_dictint, DL.y_dictstr, DL.y_dicttup, DL.y_dictlst, DL.y_strnon, DL.y_strbl, DL.y_strint, DL.y_strstr, DL.y_strtup, DL.y_strlst, DL.y_intnon, DL.y_intbl, DL.y_intint, DL.y_intstr, DL.y_inttup, DL.y_intlst, DL.y_boolnon, DL.y_boolbl, DL.y_boolint, DL.y_boolstr, DL.y_booltup, DL.y_boollst, DL.j_n1, DL.j_n2, DL.j_n3, DL.j_n4, DL.j_n5, DL.j_f1, DL.j_f2, DL.j_f3, DL.j_f4, DL.j_f5, DL.j_w1, DL.j_w2, DL.j_w3, DL.j_w4, DL.j_w5, DL.j_01, DL.j_02, DL.j_03, DL.eqD_int, DL.eqOk_int, List.getElem?_cons_zero, List.getElem?_cons_succ, List.set_cons_zero, List.set_cons_succ, List.length_cons, List.length_nil, Option.map_some, Option.map_none, true_and, eq_self]
      refine ⟨_, _, gs, at1, ?_⟩
      simp only [DL.e_loc, DL.e_cst, DL.e_gc, DL.e_bin, DL.e_neg, DL.e_cmp, DL.e_chn, DL.e_and, DL.e_or, DL.e_not, DL.e_ite, DL.e_idx, DL.e_gidx, DL.e_slc, DL.e_tup, DL.e_lst, DL.e_call, DL.e_bi, DL.e_inst, DL.e_comp, DL.e_nev, DL.e_nil, DL.e_cons, DL.e_no, DL.e_yes, DL.b_val, DL.b_cmp, DL.b_chn, DL.b_and, DL.b_or, DL.b_not, DL.b_no, DL.b_one, DL.i_seq, DL.i_rng1, DL.i_rng2, DL.i_enum, DL.i_zip, DL.s_set, DL.s_setF, DL.s_asg, DL.s_par, DL.s_par3, DL.s_aug, DL.s_app, DL.s_ext, DL.s_pop, DL.s_expr, DL.s_ret, DL.s_retT, DL.s_ite, DL.s_whl, DL.s_for, DL.s_gset, DL.s_brk, DL.s_cnt, DL.s_nil, DL.s_cons, DL.s_frz, DL.t_name, DL.t_tup, DL.t_nil, DL.t_cons, DL.t_len0, DL.t_len1, DL.k_locd, DL.k_loco, DL.k_neg, DL.k_tt, DL.k_ff, DL.k_any, DL.k_lst, DL.k_int, DL.k_dat, DL.k_ty, DL.k_keep, DL.k_own, DL.k_slot, DL.k_new, DL.k_seqt, DL.k_seql, DL.k_seqs, DL.k_seqo, DL.k_enut, DL.k_enul, DL.k_enuo, DL.k_zipt, DL.k_zipl, DL.k_gix, DL.k_gst, DL.k_setd, DL.k_seto, DL.a_dd, DL.a_do, DL.a_rd, DL.a_ro, DL.a_rb, DL.a_nil, DL.a_d, DL.a_o, DL.a_l, DL.a_lo, DL.a_lb, DL.o_add, DL.o_addb, DL.o_adds, DL.o_addt, DL.o_sub, DL.o_subb, DL.o_subbb, DL.o_iadd, DL.o_iaddb, DL.o_isub, DL.o_isubb, DL.o_mul, DL.o_fdiv, DL.o_mod, DL.o_lt, DL.o_le, DL.o_gt, DL.o_ge, DL.o_eq, DL.o_ne, DL.o_isn, DL.o_notn, DL.o_isb, DL.o_notb, DL.o_idxt, DL.o_idxl, DL.o_idxo, DL.o_idxb, DL.o_slct, DL.o_slcl, DL.o_slco, DL.o_slcb, DL.o_rev, DL.o_lent, DL.o_lenl, DL.o_lens, DL.o_leno, DL.o_lenb, DL.o_lenstr, DL.o_abs, DL.o_int, DL.o_intb, DL.o_tupo, DL.o_tupl, DL.o_tupt, DL.o_tupb, DL.o_lso, DL.o_lsl, DL.o_lst, DL.o_lss, DL.o_lsb, DL.o_all, DL.o_anyy, DL.o_sum, DL.o_sorted, DL.u_bl, DL.u_int, DL.u_non, DL.u_tup, DL.u_lst, DL.u_own, DL.u_bor, DL.x_0, DL.x_1, DL.x_2, DL.x_3, DL.x_4, DL.x_5, DL.y_tuplenon, DL.y_tuplebl, DL.y_tupleint, DL.y_tuplestr, DL.y_tupletup, DL.y_tuplelst, DL.y_listnon, DL.y_listbl, DL.y_listint, DL.y_liststr, DL.y_listtup, DL.y_listlst, DL.y_dictnon, DL.y_dictbl, DL.y_dictint, DL.y_dictstr, DL.y_dicttup, DL.y_dictlst, DL.y_strnon, DL.y_strbl, DL.y_strint, DL.y_strstr, DL.y_strtup, DL.y_strlst, DL.y_intnon, DL.y_intbl, DL.y_intint, DL.y_intstr, DL.y_inttup, DL.y_intlst, DL.y_boolnon, DL.y_boolbl, DL.y_boolint, DL.y_boolstr, DL.y_booltup, DL.y_boollst, DL.j_n1, DL.j_n2, DL.j_n3, DL.j_n4, DL.j_n5, DL.j_f1, DL.j_f2, DL.j_f3, DL.j_f4, DL.j_f5, DL.j_w1, DL.j_w2, DL.j_w3, DL.j_w4, DL.j_w5, DL.j_01, DL.j_02, DL.j_03, DL.eqD_int, DL.eqOk_int, List.getElem?_cons_zero, List.getElem?_cons_succ, List.set_cons_zero, List.set_cons_succ, List.length_cons, List.length_nil, Option.map_some, Option.map_none, true_and, eq_self]
      refine ⟨divOk (c := 17) (by omega) bm (by decide), _, 1, gs, rfl, ?_⟩
      simp only [cdrw_9, DL.e_loc, DL.e_cst, DL.e_gc, DL.e_bin, DL.e_neg, DL.e_cmp, DL.e_chn, DL.e_and, DL.e_or, DL.e_not, DL.e_ite, DL.e_idx, DL.e_gidx, DL.e_slc, DL.e_tup, DL.e_lst, DL.e_call, DL.e_bi, DL.e_inst, DL.e_comp, DL.e_nev, DL.e_nil, DL.e_cons, DL.e_no, DL.e_yes, DL.b_val, DL.b_cmp, DL.b_chn, DL.b_and, DL.b_or, DL.b_not, DL.b_no, DL.b_one, DL.i_seq, DL.i_rng1, DL.i_rng2, DL.i_enum, DL.i_zip, DL.s_set, DL.s_setF, DL.s_asg, DL.s_par, DL.s_par3, DL.s_aug, DL.s_app, DL.s_ext, DL.s_pop, DL.s_expr, DL.s_ret, DL.s_retT, DL.s_ite, DL.s_whl, DL.s_for, DL.s_gset, DL.s_brk, DL.s_cnt, DL.s_nil, DL.s_cons, DL.s_frz, DL.t_name, DL.t_tup, DL.t_nil, DL.t_cons, DL.t_len0, DL.t_len1, DL.k_locd, DL.k_loco, DL.k_neg, DL.k_tt, DL.k_ff, DL.k_any, DL.k_lst, DL.k_int, DL.k_dat, DL.k_ty, DL.k_keep, DL.k_own, DL.k_slot, DL.k_new, DL.k_seqt, DL.k_seql, DL.k_seqs, DL.k_seqo, DL.k_enut, DL.k_enul, DL.k_enuo, DL.k_zipt, DL.k_zipl, DL.k_gix, DL.k_gst, DL.k_setd, DL.k_seto, DL.a_dd, DL.a_do, DL.a_rd, DL.a_ro, DL.a_rb, DL.a_nil, DL.a_d, DL.a_o, DL.a_l, DL.a_lo, DL.a_lb, DL.o_add, DL.o_addb, DL.o_adds, DL.o_addt, DL.o_sub, DL.o_subb, DL.o_subbb, DL.o_iadd, DL.o_iaddb, DL.o_isub, DL.o_isubb, DL.o_mul, DL.o_fdiv, DL.o_mod, DL.o_lt, DL.o_le, DL.o_gt, DL.o_ge, DL.o_eq, DL.o_ne, DL.o_isn, DL.o_notn, DL.o_isb, DL.o_notb, DL.o_idxt, DL.o_idxl, DL.o_idxo, DL.o_idxb, DL.o_slct, DL.o_slcl, DL.o_slco, DL.o_slcb, DL.o_rev, DL.o_lent, DL.o_lenl, DL.o_lens, DL.o_leno, DL.o_lenb, DL.o_lenstr, DL.o_abs, DL.o_int, DL.o_intb, DL.o_tupo, DL.o_tupl, DL.o_tupt, DL.o_tupb, DL.o_lso, DL.o_lsl, DL.o_lst, DL.o_lss, DL.o_lsb, DL.o_all, DL.o_anyy, DL.o_sum, DL.o_sorted, DL.u_bl, DL.u_int, DL.u_non, DL.u_tup, DL.u_lst, DL.u_own, DL.u_bor, DL.x_0, DL.x_1, DL.x_2, DL.x_3, DL.x_4, DL.x_5, DL.y_tuplenon, DL.y_tuplebl, DL.y_tupleint, DL.y_tuplestr, DL.y_tupletup, DL.y_tuplelst, DL.y_listnon, DL.y_listbl, DL.y_listint, DL.y_liststr, DL.y_listtup, DL.y_listlst, DL.y_dictnon, DL.y_dictbl, DL.y_dictint, DL.y_dictstr, DL.y_dicttup, DL.y_dictlst, DL.y_strnon, DL.y_strbl, DL.y_strint, DL.y_strstr, DL.y_strtup, DL.y_strlst, DL.y_intnon, DL.y_intbl, DL.y_intint, DL.y_intstr, DL.y_inttup, DL.y_intlst, DL.y_boolnon, DL.y_boolbl, DL.y_boolint, DL.y_boolstr, DL.y_booltup, DL.y_boollst, DL.j_n1, DL.j_n2, DL.j_n3, DL.j_n4, DL.j_n5, DL.j_f1, DL.j_f2, DL.j_f3, DL.j_f4, DL.j_f5, DL.j_w1, DL.j_w2, DL.j_w3, DL.j_w4, DL.j_w5, DL.j_01, DL.j_02, DL.j_03, DL.eqD_int, DL.eqOk_int, List.getElem?_cons_zero, List.getElem?_cons_succ, List.set_cons_zero, List.set_cons_succ, List.length_cons, List.length_nil, Option.map_some, Option.map_none, true_and, eq_self]
      rw [eG, gup2]
      exact h _ _ k' m (Int.fmod_nonneg_of_pos _ (by omega)) (Int.fmod_lt_of_pos _ (by omega)) ⟨o1, Int.fdiv_nonneg h0 (by omega), h1, h2, o5, o6⟩
  have same : G = gup G a (.lst [.lst (ns.map .int), .int c, .int k, .int m]) := by
    funext b
    by_cases e : b = a
    · rw [e, gup_same, ga]
    · rw [gup_ne e]
  refine ⟨_, _, ga, at1, ?_⟩
  simp only [DL.e_loc, DL.e_cst, DL.e_gc, DL.e_bin, DL.e_neg, DL.e_cmp, DL.e_chn, DL.e_and, DL.e_or, DL.e_not, DL.e_ite, DL.e_idx, DL.e_gidx, DL.e_slc, DL.e_tup, DL.e_lst, DL.e_call, DL.e_bi, DL.e_inst, DL.e_comp, DL.e_nev, DL.e_nil, DL.e_cons, DL.e_no, DL.e_yes, DL.b_val, DL.b_cmp, DL.b_chn, DL.b_and, DL.b_or, DL.b_not, DL.b_no, DL.b_one, DL.i_seq, DL.i_rng1, DL.i_rng2, DL.i_enum, DL.i_zip, DL.s_set, DL.s_setF, DL.s_asg, DL.s_par, DL.s_par3, DL.s_aug, DL.s_app, DL.s_ext, DL.s_pop, DL.s_expr, DL.s_ret, DL.s_retT, DL.s_ite, DL.s_whl, DL.s_for, DL.s_gset, DL.s_brk, DL.s_cnt, DL.s_nil, DL.s_cons, DL.s_frz, DL.t_name, DL.t_tup, DL.t_nil, DL.t_cons, DL.t_len0, DL.t_len1, DL.k_locd, DL.k_loco, DL.k_neg, DL.k_tt, DL.k_ff, DL.k_any, DL.k_lst, DL.k_int, DL.k_dat, DL.k_ty, DL.k_keep, DL.k_own, DL.k_slot, DL.k_new, DL.k_seqt, DL.k_seql, DL.k_seqs, DL.k_seqo, DL.k_enut, DL.k_enul, DL.k_enuo, DL.k_zipt, DL.k_zipl, DL.k_gix, DL.k_gst, DL.k_setd, DL.k_seto, DL.a_dd, DL.a_do, DL.a_rd, DL.a_ro, DL.a_rb, DL.a_nil, DL.a_d, DL.a_o, DL.a_l, DL.a_lo, DL.a_lb, DL.o_add, DL.o_addb, DL.o_adds, DL.o_addt, DL.o_sub, DL.o_subb, DL.o_subbb, DL.o_iadd, DL.o_iaddb, DL.o_isub, DL.o_isubb, DL.o_mul, DL.o_fdiv, DL.o_mod, DL.o_lt, DL.o_le, DL.o_gt, DL.o_ge, DL.o_eq, DL.o_ne, DL.o_isn, DL.o_notn, DL.o_isb, DL.o_notb, DL.o_idxt, DL.o_idxl, DL.o_idxo, DL.o_idxb, DL.o_slct, DL.o_slcl, DL.o_slco, DL.o_slcb, DL.o_rev, DL.o_lent, DL.o_lenl, DL.o_lens, DL.o_leno, DL.o_lenb, DL.o_lenstr, DL.o_abs, DL.o_int, DL.o_intb, DL.o_tupo, DL.o_tupl, DL.o_tupt, DL.o_tupb, DL.o_lso, DL.o_lsl, DL.o_lst, DL.o_lss, DL.o_lsb, DL.o_all, DL.o_anyy, DL.o_sum, DL.o_sorted, DL.u_bl, DL.u_int, DL.u_non, DL.u_tup, DL.u_lst, DL.u_own, DL.u_bor, DL.x_0, DL.x_1, DL.x_2, DL.x_3, DL.x_4, DL.x_5, DL.y_tuplenon, DL.y_tuplebl, DL.y_tupleint, DL.y_tuplestr, DL.y_tupletup, DL.y_tuplelst, DL.y_listnon, DL.y_listbl, DL.y_listint, DL.y_liststr, DL.y_listtup, DL.y_listlst, DL.y_dictnon, DL.y_dictbl, DL.y_dictint, DL.y_dictstr, DL.y_dicttup, DL.y_dictlst, DL.y_strnon, DL.y_strbl, DL.y_strint, DL.y_strstr, DL.y_strtup, DL.y_strlst, DL.y_intnon, DL.y_intbl, DL.y_intint, DL.y_intstr, DL.y_inttup, DL.y_intlst, DL.y_boolnon, DL.y_boolbl, DL.y_boolint, DL.y_boolstr, DL.y_booltup, DL.y_boollst, DL.j_n1, DL.j_n2, DL.j_n3, DL.j_n4, DL.j_n5, DL.j_f1, DL.j_f2, DL.j_f3, DL.j_f4, DL.j_f5, DL.j_w1, DL.j_w2, DL.j_w3, DL.j_w4, DL.j_w5, DL.j_01, DL.j_02, DL.j_03, DL.eqD_int, DL.eqOk_int, List.getElem?_cons_zero, List.getElem?_cons_succ, List.set_cons_zero, List.set_cons_succ, List.length_cons, List.length_nil, Option.map_some, Option.map_none, true_and, eq_self]
  refine iteK_of (fun e => ?_) (fun e => half c k G same o2 o3 o4)
  refine ⟨_, _, ga, at2, ?_⟩
  refine ⟨_, _, ga, at0, ?_⟩
  simp only [DL.e_loc, DL.e_cst, DL.e_gc, DL.e_bin, DL.e_neg, DL.e_cmp, DL.e_chn, DL.e_and, DL.e_or, DL.e_not, DL.e_ite, DL.e_idx, DL.e_gidx, DL.e_slc, DL.e_tup, DL.e_lst, DL.e_call, DL.e_bi, DL.e_inst, DL.e_comp, DL.e_nev, DL.e_nil, DL.e_cons, DL.e_no, DL.e_yes, DL.b_val, DL.b_cmp, DL.b_chn, DL.b_and, DL.b_or, DL.b_not, DL.b_no, DL.b_one, DL.i_seq, DL.i_rng1, DL.i_rng2, DL.i_enum, DL.i_zip, DL.s_set, DL.s_setF, DL.s_asg, DL.s_par, DL.s_par3, DL.s_aug, DL.s_app, DL.s_ext, DL.s_pop, DL.s_expr, DL.s_ret, DL.s_retT, DL.s_ite, DL.s_whl, DL.s_for, DL.s_gset, DL.s_brk, DL.s_cnt, DL.s_nil, DL.s_cons, DL.s_frz, DL.t_name, DL.t_tup, DL.t_nil, DL.t_cons, DL.t_len0, DL.t_len1, DL.k_locd, DL.k_loco, DL.k_neg, DL.k_tt, DL.k_ff, DL.k_any, DL.k_lst, DL.k_int, DL.k_dat, DL.k_ty, DL.k_keep, DL.k_own, DL.k_slot, DL.k_new, DL.k_seqt, DL.k_seql, DL.k_seqs, DL.k_seqo, DL.k_enut, DL.k_enul, DL.k_enuo, DL.k_zipt, DL.k_zipl, DL.k_gix, DL.k_gst, DL.k_setd, DL.k_seto, DL.a_dd, DL.a_do, DL.a_rd, DL.a_ro, DL.a_rb, DL.a_nil, DL.a_d, DL.a_o, DL.a_l, DL.a_lo, DL.a_lb, DL.o_add, DL.o_addb, DL.o_adds, DL.o_addt, DL.o_sub, DL.o_subb, DL.o_subbb, DL.o_iadd, DL.o_iaddb, DL.o_isub, DL.o_isubb, DL.o_mul, DL.o_fdiv, DL.o_mod, DL.o_lt, DL.o_le, DL.o_gt, DL.o_ge, DL.o_eq, DL.o_ne, DL.o_isn, DL.o_notn, DL.o_isb, DL.o_notb, DL.o_idxt, DL.o_idxl, DL.o_idxo, DL.o_idxb, DL.o_slct, DL.o_slcl, DL.o_slco, DL.o_slcb, DL.o_rev, DL.o_lent, DL.o_lenl, DL.o_lens, DL.o_leno, DL.o_lenb, DL.o_lenstr, DL.o_abs, DL.o_int, DL.o_intb, DL.o_tupo, DL.o_tupl, DL.o_tupt, DL.o_tupb, DL.o_lso, DL.o_lsl, DL.o_lst, DL.o_lss, DL.o_lsb, DL.o_all, DL.o_anyy, DL.o_sum, DL.o_sorted, DL.u_bl, DL.u_int, DL.u_non, DL.u_tup, DL.u_lst, DL.u_own, DL.u_bor, DL.x_0, DL.x_1, DL.x_2, DL.x_3, DL.x_4, DL.x_5, DL.y_tuplenon, DL.y_tuplebl, DL.y_tupleint, DL.y_tuplestr, DL.y_tupletup, DL.y_tuplelst, DL.y_listnon, DL.y_listbl, DL.y_listint, DL.y_liststr, DL.y_listtup, DL.y_listlst, DL.y_dictnon, DL.y_dictbl, DL.y_dictint, DL.y_dictstr, DL.y_dicttup, DL.y_dictlst, DL.y_strnon, DL.y_strbl, DL.y_strint, DL.y_strstr, DL.y_strtup, DL.y_strlst, DL.y_intnon, DL.y_intbl, DL.y_intint, DL.y_intstr, DL.y_inttup, DL.y_intlst, DL.y_boolnon, DL.y_boolbl, DL.y_boolint, DL.y_boolstr, DL.y_booltup, DL.y_boollst, DL.j_n1, DL.j_n2, DL.j_n3, DL.j_n4, DL.j_n5, DL.j_f1, DL.j_f2, DL.j_f3, DL.j_f4, DL.j_f5, DL.j_w1, DL.j_w2, DL.j_w3, DL.j_w4, DL.j_w5, DL.j_01, DL.j_02, DL.j_03, DL.eqD_int, DL.eqOk_int, List.getElem?_cons_zero, List.getElem?_cons_succ, List.set_cons_zero, List.set_cons_succ, List.length_cons, List.length_nil, Option.map_some, Option.map_none, true_and, eq_self, List.length_map]
  refine iteK_of (fun e2 => ?_) (fun e2 => half c k G same o2 o3 o4)
  have hk : k < ns.length := by simpa using e2
  simp only [cdrw_2, DL.e_loc, DL.e_cst, DL.e_gc, DL.e_bin, DL.e_neg, DL.e_cmp, DL.e_chn, DL.e_and, DL.e_or, DL.e_not, DL.e_ite, DL.e_idx, DL.e_gidx, DL.e_slc, DL.e_tup, DL.e_lst, DL.e_call, DL.e_bi, DL.e_inst, DL.e_comp, DL.e_nev, DL.e_nil, DL.e_cons, DL.e_no, DL.e_yes, DL.b_val, DL.b_cmp, DL.b_chn, DL.b_and, DL.b_or, DL.b_not, DL.b_no, DL.b_one, DL.i_seq, DL.i_rng1, DL.i_rng2, DL.i_enum, DL.i_zip, DL.s_set, DL.s_setF, DL.s_asg, DL.s_par, DL.s_par3, DL.s_aug, DL.s_app, DL.s_ext, DL.s_pop, DL.s_expr, DL.s_ret, DL.s_retT, DL.s_ite, DL.s_whl, DL.s_for, DL.s_gset, DL.s_brk, DL.s_cnt, DL.s_nil, DL.s_cons, DL.s_frz, DL.t_name, DL.t_tup, DL.t_nil, DL.t_cons, DL.t_len0, DL.t_len1, DL.k_locd, DL.k_loco, DL.k_neg, DL.k_tt, DL.k_ff, DL.k_any, DL.k_lst, DL.k_int, DL.k_dat, DL.k_ty, DL.k_keep, DL.k_own, DL.k_slot, DL.k_new, DL.k_seqt, DL.k_seql, DL.k_seqs, DL.k_seqo, DL.k_enut, DL.k_enul, DL.k_enuo, DL.k_zipt, DL.k_zipl, DL.k_gix, DL.k_gst, DL.k_setd, DL.k_seto, DL.a_dd, DL.a_do, DL.a_rd, DL.a_ro, DL.a_rb, DL.a_nil, DL.a_d, DL.a_o, DL.a_l, DL.a_lo, DL.a_lb, DL.o_add, DL.o_addb, DL.o_adds, DL.o_addt, DL.o_sub, DL.o_subb, DL.o_subbb, DL.o_iadd, DL.o_iaddb, DL.o_isub, DL.o_isubb, DL.o_mul, DL.o_fdiv, DL.o_mod, DL.o_lt, DL.o_le, DL.o_gt, DL.o_ge, DL.o_eq, DL.o_ne, DL.o_isn, DL.o_notn, DL.o_isb, DL.o_notb, DL.o_idxt, DL.o_idxl, DL.o_idxo, DL.o_idxb, DL.o_slct, DL.o_slcl, DL.o_slco, DL.o_slcb, DL.o_rev, DL.o_lent, DL.o_lenl, DL.o_lens, DL.o_leno, DL.o_lenb, DL.o_lenstr, DL.o_abs, DL.o_int, DL.o_intb, DL.o_tupo, DL.o_tupl, DL.o_tupt, DL.o_tupb, DL.o_lso, DL.o_lsl, DL.o_lst, DL.o_lss, DL.o_lsb, DL.o_all, DL.o_anyy, DL.o_sum, DL.o_sorted, DL.u_bl, DL.u_int, DL.u_non, DL.u_tup, DL.u_lst, DL.u_own, DL.u_bor, DL.x_0, DL.x_1, DL.x_2, DL.x_3, DL.x_4, DL.x_5, DL.y_tuplenon, DL.y_tuplebl, DL.y_tupleint, DL.y_tuplestr, DL.y_tupletup, DL.y_tuplelst, DL.y_listnon, DL.y_listbl, DL.y_listint, DL.y_liststr, DL.y_listtup, DL.y_listlst, DL.y_dictnon, DL.y_dictbl, DL.y_dictint, DL.y_dictstr, DL.y_dicttup, DL.y_dictlst, DL.y_strnon, DL.y_strbl, DL.y_strint, DL.y_strstr, DL.y_strtup, DL.y_strlst, DL.y_intnon, DL.y_intbl, DL.y_intint, DL.y_intstr, DL.y_inttup, DL.y_intlst, DL.y_boolnon, DL.y_boolbl, DL.y_boolint, DL.y_boolstr, DL.y_booltup, DL.y_boollst, DL.j_n1, DL.j_n2, DL.j_n3, DL.j_n4, DL.j_n5, DL.j_f1, DL.j_f2, DL.j_f3, DL.j_f4, DL.j_f5, DL.j_w1, DL.j_w2, DL.j_w3, DL.j_w4, DL.j_w5, DL.j_01, DL.j_02, DL.j_03, DL.eqD_int, DL.eqOk_int, List.getElem?_cons_zero, List.getElem?_cons_succ, List.set_cons_zero, List.set_cons_succ, List.length_cons, List.length_nil, Option.map_some, Option.map_none, true_and, eq_self]
  refine ⟨_, _, ga, at0, ?_⟩
  refine ⟨_, _, ga, at2, ?_⟩
  obtain ⟨j, rfl⟩ : ∃ j : Nat, k = j := ⟨k.toNat, by omega⟩
  have hj : (ns.map D.int)[j]? = some (.int ns[j]) := by rw [List.getElem?_map, List.getElem?_eq_getElem (by omega)]; rfl
  simp only [DL.e_loc, DL.e_cst, DL.e_gc, DL.e_bin, DL.e_neg, DL.e_cmp, DL.e_chn, DL.e_and, DL.e_or, DL.e_not, DL.e_ite, DL.e_idx, DL.e_gidx, DL.e_slc, DL.e_tup, DL.e_lst, DL.e_call, DL.e_bi, DL.e_inst, DL.e_comp, DL.e_nev, DL.e_nil, DL.e_cons, DL.e_no, DL.e_yes, DL.b_val, DL.b_cmp, DL.b_chn, DL.b_and, DL.b_or, DL.b_not, DL.b_no, DL.b_one, DL.i_seq, DL.i_rng1, DL.i_rng2, DL.i_enum, DL.i_zip, DL.s_set, DL.s_setF, DL.s_asg, DL.s_par, DL.s_par3, DL.s_aug, DL.s_app, DL.s_ext, DL.s_pop, DL.s_expr, DL.s_ret, DL.s_retT, DL.s_ite, DL.s_whl, DL.s_for, DL.s_gset, DL.s_brk, DL.s_cnt, DL.s_nil, DL.s_cons, DL.s_frz, DL.t_name, DL.t_tup, DL.t_nil, DL.t_cons, DL.t_len0, DL.t_len1, DL.k_locd, DL.k_loco, DL.k_neg, DL.k_tt, DL.k_ff, DL.k_any, DL.k_lst, DL.k_int, DL.k_dat, DL.k_ty, DL.k_keep, DL.k_own, DL.k_slot, DL.k_new, DL.k_seqt, DL.k_seql, DL.k_seqs, DL.k_seqo, DL.k_enut, DL.k_enul, DL.k_enuo, DL.k_zipt, DL.k_zipl, DL.k_gix, DL.k_gst, DL.k_setd, DL.k_seto, DL.a_dd, DL.a_do, DL.a_rd, DL.a_ro, DL.a_rb, DL.a_nil, DL.a_d, DL.a_o, DL.a_l, DL.a_lo, DL.a_lb, DL.o_add, DL.o_addb, DL.o_adds, DL.o_addt, DL.o_sub, DL.o_subb, DL.o_subbb, DL.o_iadd, DL.o_iaddb, DL.o_isub, DL.o_isubb, DL.o_mul, DL.o_fdiv, DL.o_mod, DL.o_lt, DL.o_le, DL.o_gt, DL.o_ge, DL.o_eq, DL.o_ne, DL.o_isn, DL.o_notn, DL.o_isb, DL.o_notb, DL.o_idxt, DL.o_idxl, DL.o_idxo, DL.o_idxb, DL.o_slct, DL.o_slcl, DL.o_slco, DL.o_slcb, DL.o_rev, DL.o_lent, DL.o_lenl, DL.o_lens, DL.o_leno, DL.o_lenb, DL.o_lenstr, DL.o_abs, DL.o_int, DL.o_intb, DL.o_tupo, DL.o_tupl, DL.o_tupt, DL.o_tupb, DL.o_lso, DL.o_lsl, DL.o_lst, DL.o_lss, DL.o_lsb, DL.o_all, DL.o_anyy, DL.o_sum, DL.o_sorted, DL.u_bl, DL.u_int, DL.u_non, DL.u_tup, DL.u_lst, DL.u_own, DL.u_bor, DL.x_0, DL.x_1, DL.x_2, DL.x_3, DL.x_4, DL.x_5, DL.y_tuplenon, DL.y_tuplebl, DL.y_tupleint, DL.y_tuplestr, DL.y_tupletup, DL.y_tuplelst, DL.y_listnon, DL.y_listbl, DL.y_listint, DL.y_liststr, DL.y_listtup, DL.y_listlst, DL.y_dictnon, DL.y_dictbl, DL.y_dictint, DL.y_dictstr, DL.y_dicttup, DL.y_dictlst, DL.y_strnon, DL.y_strbl, DL.y_strint, DL.y_strstr, DL.y_strtup, DL.y_strlst, DL.y_intnon, DL.y_intbl, DL.y_intint, DL.y_intstr, DL.y_inttup, DL.y_intlst, DL.y_boolnon, DL.y_boolbl, DL.y_boolint, DL.y_boolstr, DL.y_booltup, DL.y_boollst, DL.j_n1, DL.j_n2, DL.j_n3, DL.j_n4, DL.j_n5, DL.j_f1, DL.j_f2, DL.j_f3, DL.j_f4, DL.j_f5, DL.j_w1, DL.j_w2, DL.j_w3, DL.j_w4, DL.j_w5, DL.j_01, DL.j_02, DL.j_03, DL.eqD_int, DL.eqOk_int, List.getElem?_cons_zero, List.getElem?_cons_succ, List.set_cons_zero, List.set_cons_succ, List.length_cons, List.length_nil, Option.map_some, Option.map_none, true_and, eq_self, x_n hj]
  refine ⟨_, 1, ga, rfl, ?_⟩
  simp only [cdrw_3, DL.e_loc, DL.e_cst, DL.e_gc, DL.e_bin, DL.e_neg, DL.e_cmp, DL.e_chn, DL.e_and, DL.e_or, DL.e_not, DL.e_ite, DL.e_idx, DL.e_gidx, DL.e_slc, DL.e_tup, DL.e_lst, DL.e_call, DL.e_bi, DL.e_inst, DL.e_comp, DL.e_nev, DL.e_nil, DL.e_cons, DL.e_no, DL.e_yes, DL.b_val, DL.b_cmp, DL.b_chn, DL.b_and, DL.b_or, DL.b_not, DL.b_no, DL.b_one, DL.i_seq, DL.i_rng1, DL.i_rng2, DL.i_enum, DL.i_zip, DL.s_set, DL.s_setF, DL.s_asg, DL.s_par, DL.s_par3, DL.s_aug, DL.s_app, DL.s_ext, DL.s_pop, DL.s_expr, DL.s_ret, DL.s_retT, DL.s_ite, DL.s_whl, DL.s_for, DL.s_gset, DL.s_brk, DL.s_cnt, DL.s_nil, DL.s_cons, DL.s_frz, DL.t_name, DL.t_tup, DL.t_nil, DL.t_cons, DL.t_len0, DL.t_len1, DL.k_locd, DL.k_loco, DL.k_neg, DL.k_tt, DL.k_ff, DL.k_any, DL.k_lst, DL.k_int, DL.k_dat, DL.k_ty, DL.k_keep, DL.k_own, DL.k_slot, DL.k_new, DL.k_seqt, DL.k_seql, DL.k_seqs, DL.k_seqo, DL.k_enut, DL.k_enul, DL.k_enuo, DL.k_zipt, DL.k_zipl, DL.k_gix, DL.k_gst, DL.k_setd, DL.k_seto, DL.a_dd, DL.a_do, DL.a_rd, DL.a_ro, DL.a_rb, DL.a_nil, DL.a_d, DL.a_o, DL.a_l, DL.a_lo, DL.a_lb, DL.o_add, DL.o_addb, DL.o_adds, DL.o_addt, DL.o_sub, DL.o_subb, DL.o_subbb, DL.o_iadd, DL.o_iaddb, DL.o_isub, DL.o_isubb, DL.o_mul, DL.o_fdiv, DL.o_mod, DL.o_lt, DL.o_le, DL.o_gt, DL.o_ge, DL.o_eq, DL.o_ne, DL.o_isn, DL.o_notn, DL.o_isb, DL.o_notb, DL.o_idxt, DL.o_idxl, DL.o_idxo, DL.o_idxb, DL.o_slct, DL.o_slcl, DL.o_slco, DL.o_slcb, DL.o_rev, DL.o_lent, DL.o_lenl, DL.o_lens, DL.o_leno, DL.o_lenb, DL.o_lenstr, DL.o_abs, DL.o_int, DL.o_intb, DL.o_tupo, DL.o_tupl, DL.o_tupt, DL.o_tupb, DL.o_lso, DL.o_lsl, DL.o_lst, DL.o_lss, DL.o_lsb, DL.o_all, DL.o_anyy, DL.o_sum, DL.o_sorted, DL.u_bl, DL.u_int, DL.u_non, DL.u_tup, DL.u_lst, DL.u_own, DL.u_bor, DL.x_0, DL.x_1, DL.x_2, DL.x_3, DL.x_4, DL.x_5, DL.y_tuplenon, DL.y_tuplebl, DL.y_tupleint, DL.y_tuplestr, DL.y_tupletup, DL.y_tuplelst, DL.y_listnon, DL.y_listbl, DL.y_listint, DL.y_liststr, DL.y_listtup, DL.y_listlst, DL.y_dictnon, DL.y_dictbl, DL.y_dictint, DL.y_dictstr, DL.y_dicttup, DL.y_dictlst, DL.y_strnon, DL.y_strbl, DL.y_strint, DL.y_strstr, DL.y_strtup, DL.y_strlst, DL.y_intnon, DL.y_intbl, DL.y_intint, DL.y_intstr, DL.y_inttup, DL.y_intlst, DL.y_boolnon, DL.y_boolbl, DL.y_boolint, DL.y_boolstr, DL.y_booltup, DL.y_boollst, DL.j_n1, DL.j_n2, DL.j_n3, DL.j_n4, DL.j_n5, DL.j_f1, DL.j_f2, DL.j_f3, DL.j_f4, DL.j_f5, DL.j_w1, DL.j_w2, DL.j_w3, DL.j_w4, DL.j_w5, DL.j_01, DL.j_02, DL.j_03, DL.eqD_int, DL.eqOk_int, List.getElem?_cons_zero, List.getElem?_cons_succ, List.set_cons_zero, List.set_cons_succ, List.length_cons, List.length_nil, Option.map_some, Option.map_none, true_and, eq_self]
  refine ⟨_, _, gup_same, at2, ?_⟩
  simp only [DL.e_loc, DL.e_cst, DL.e_gc, DL.e_bin, DL.e_neg, DL.e_cmp, DL.e_chn, DL.e_and, DL.e_or, DL.e_not, DL.e_ite, DL.e_idx, DL.e_gidx, DL.e_slc, DL.e_tup, DL.e_lst, DL.e_call, DL.e_bi, DL.e_inst, DL.e_comp, DL.e_nev, DL.e_nil, DL.e_cons, DL.e_no, DL.e_yes, DL.b_val, DL.b_cmp, DL.b_chn, DL.b_and, DL.b_or, DL.b_not, DL.b_no, DL.b_one, DL.i_seq, DL.i_rng1, DL.i_rng2, DL.i_enum, DL.i_zip, DL.s_set, DL.s_setF, DL.s_asg, DL.s_par, DL.s_par3, DL.s_aug, DL.s_app, DL.s_ext, DL.s_pop, DL.s_expr, DL.s_ret, DL.s_retT, DL.s_ite, DL.s_whl, DL.s_for, DL.s_gset, DL.s_brk, DL.s_cnt, DL.s_nil, DL.s_cons, DL.s_frz, DL.t_name, DL.t_tup, DL.t_nil, DL.t_cons, DL.t_len0, DL.t_len1, DL.k_locd, DL.k_loco, DL.k_neg, DL.k_tt, DL.k_ff, DL.k_any, DL.k_lst, DL.k_int, DL.k_dat, DL.k_ty, DL.k_keep, DL.k_own, DL.k_slot, DL.k_new, DL.k_seqt, DL.k_seql, DL.k_seqs, DL.k_seqo, DL.k_enut, DL.k_enul, DL.k_enuo, DL.k_zipt, DL.k_zipl, DL.k_gix, DL.k_gst, DL.k_setd, DL.k_seto, DL.a_dd, DL.a_do, DL.a_rd, DL.a_ro, DL.a_rb, DL.a_nil, DL.a_d, DL.a_o, DL.a_l, DL.a_lo, DL.a_lb, DL.o_add, DL.o_addb, DL.o_adds, DL.o_addt, DL.o_sub, DL.o_subb, DL.o_subbb, DL.o_iadd, DL.o_iaddb, DL.o_isub, DL.o_isubb, DL.o_mul, DL.o_fdiv, DL.o_mod, DL.o_lt, DL.o_le, DL.o_gt, DL.o_ge, DL.o_eq, DL.o_ne, DL.o_isn, DL.o_notn, DL.o_isb, DL.o_notb, DL.o_idxt, DL.o_idxl, DL.o_idxo, DL.o_idxb, DL.o_slct, DL.o_slcl, DL.o_slco, DL.o_slcb, DL.o_rev, DL.o_lent, DL.o_lenl, DL.o_lens, DL.o_leno, DL.o_lenb, DL.o_lenstr, DL.o_abs, DL.o_int, DL.o_intb, DL.o_tupo, DL.o_tupl, DL.o_tupt, DL.o_tupb, DL.o_lso, DL.o_lsl, DL.o_lst, DL.o_lss, DL.o_lsb, DL.o_all, DL.o_anyy, DL.o_sum, DL.o_sorted, DL.u_bl, DL.u_int, DL.u_non, DL.u_tup, DL.u_lst, DL.u_own, DL.u_bor, DL.x_0, DL.x_1, DL.x_2, DL.x_3, DL.x_4, DL.x_5, DL.y_tuplenon, DL.y_tuplebl, DL.y_tupleint, DL.y_tuplestr, DL.y_tupletup, DL.y_tuplelst, DL.y_listnon, DL.y_listbl, DL.y_listint, DL.y_liststr, DL.y_listtup, DL.y_listlst, DL.y_dictnon, DL.y_dictbl, DL.y_dictint, DL.y_dictstr, DL.y_dicttup, DL.y_dictlst, DL.y_strnon, DL.y_strbl, DL.y_strint, DL.y_strstr, DL.y_strtup, DL.y_strlst, DL.y_intnon, DL.y_intbl, DL.y_intint, DL.y_intstr, DL.y_inttup, DL.y_intlst, DL.y_boolnon, DL.y_boolbl, DL.y_boolint, DL.y_boolstr, DL.y_booltup, DL.y_boollst, DL.j_n1, DL.j_n2, DL.j_n3, DL.j_n4, DL.j_n5, DL.j_f1, DL.j_f2, DL.j_f3, DL.j_f4, DL.j_f5, DL.j_w1, DL.j_w2, DL.j_w3, DL.j_w4, DL.j_w5, DL.j_01, DL.j_02, DL.j_03, DL.eqD_int, DL.eqOk_int, List.getElem?_cons_zero, List.getElem?_cons_succ, List.set_cons_zero, List.set_cons_succ, List.length_cons, List.length_nil, Option.map_some, Option.map_none, true_and, eq_self]
  refine ⟨_, 2, gup_same, rfl, ?_⟩
  refine half _ _ _ gup2 ?_ ?_ ?_
  · split <;> omega
  · omega
  · omega

def cdvs_1 : CSs := (.cons (.whl (.cmp .ne (.loc 1) (.cst (.int 0))) (.cons (.par 0 1 (.loc 1) (.bin .mod (.bi .int (.loc 0)) (.loc 1))) .nil)) (.cons (.ret (.bi .abs (.loc 0))) .nil))
theorem run_dvs (hN : N.length = 2) : ∀ ds G Q E, Tcommon ds G Q E → runB S N cdvs_1 ds G Q E := by
  rintro ds G Q E ⟨a, b, rfl, q⟩
  simp only [run_eq, startL, hN, cdvs_1, DL.e_loc, DL.e_cst, DL.e_gc, DL.e_bin, DL.e_neg, DL.e_cmp, DL.e_chn, DL.e_and, DL.e_or, DL.e_not, DL.e_ite, DL.e_idx, DL.e_gidx, DL.e_slc, DL.e_tup, DL.e_lst, DL.e_call, DL.e_bi, DL.e_inst, DL.e_comp, DL.e_nev, DL.e_nil, DL.e_cons, DL.e_no, DL.e_yes, DL.b_val, DL.b_cmp, DL.b_chn, DL.b_and, DL.b_or, DL.b_not, DL.b_no, DL.b_one, DL.i_seq, DL.i_rng1, DL.i_rng2, DL.i_enum, DL.i_zip, DL.s_set, DL.s_setF, DL.s_asg, DL.s_par, DL.s_par3, DL.s_aug, DL.s_app, DL.s_ext, DL.s_pop, DL.s_expr, DL.s_ret, DL.s_retT, DL.s_ite, DL.s_whl, DL.s_for, DL.s_gset, DL.s_brk, DL.s_cnt, DL.s_nil, DL.s_cons, DL.s_frz, DL.t_name, DL.t_tup, DL.t_nil, DL.t_cons, DL.t_len0, DL.t_len1, DL.k_locd, DL.k_loco, DL.k_neg, DL.k_tt, DL.k_ff, DL.k_any, DL.k_lst, DL.k_int, DL.k_dat, DL.k_ty, DL.k_keep, DL.k_own, DL.k_slot, DL.k_new, DL.k_seqt, DL.k_seql, DL.k_seqs, DL.k_seqo, DL.k_enut, DL.k_enul, DL.k_enuo, DL.k_zipt, DL.k_zipl, DL.k_gix, DL.k_gst, DL.k_setd, DL.k_seto, DL.a_dd, DL.a_do, DL.a_rd, DL.a_ro, DL.a_rb, DL.a_nil, DL.a_d, DL.a_o, DL.a_l, DL.a_lo, DL.a_lb, DL.o_add, DL.o_addb, DL.o_adds, DL.o_addt, DL.o_sub, DL.o_subb, DL.o_subbb, DL.o_iadd, DL.o_iaddb, DL.o_isub, DL.o_isubb, DL.o_mul, DL.o_fdiv, DL.o_mod, DL.o_lt, DL.o_le, DL.o_gt, DL.o_ge, DL.o_eq, DL.o_ne, DL.o_isn, DL.o_notn, DL.o_isb, DL.o_notb, DL.o_idxt, DL.o_idxl, DL.o_idxo, DL.o_idxb, DL.o_slct, DL.o_slcl, DL.o_slco, DL.o_slcb, DL.o_rev, DL.o_lent, DL.o_lenl, DL.o_lens, DL.o_leno, DL.o_lenb, DL.o_lenstr, DL.o_abs, DL.o_int, DL.o_intb, DL.o_tupo, DL.o_tupl, DL.o_tupt, DL.o_tupb, DL.o_lso, DL.o_lsl, DL.o_lst, DL.o_lss, DL.o_lsb, DL.o_all, DL.o_anyy, DL.o_sum, DL.o_sorted, DL.u_bl, DL.u_int, DL.u_non, DL.u_tup, DL.u_lst, DL.u_own, DL.u_bor, DL.x_0, DL.x_1, DL.x_2, DL.x_3, DL.x_4, DL.x_5, DL.y_tuplenon, DL.y_tuplebl, DL.y_tupleint, DL.y_tuplestr, DL.y_tupletup, DL.y_tuplelst, DL.y_listnon, DL.y_listbl, DL.y_listint, DL.y_liststr, DL.y_listtup, DL.y_listlst, DL.y_dictnon, DL.y_dictbl, DL.y_dictint, DL.y_dictstr, DL.y_dicttup, DL.y_dictlst, DL.y_strnon, DL.y_strbl, DL.y_strint, DL.y_strstr, DL.y_strtup, DL.y_strlst, DL.y_intnon, DL.y_intbl, DL.y_intint, DL.y_intstr, DL.y_inttup, DL.y_intlst, DL.y_boolnon, DL.y_boolbl, DL.y_boolint, DL.y_boolstr, DL.y_booltup, DL.y_boollst, DL.j_n1, DL.j_n2, DL.j_n3, DL.j_n4, DL.j_n5, DL.j_f1, DL.j_f2, DL.j_f3, DL.j_f4, DL.j_f5, DL.j_w1, DL.j_w2, DL.j_w3, DL.j_w4, DL.j_w5, DL.j_01, DL.j_02, DL.j_03, DL.eqD_int, DL.eqOk_int, List.getElem?_cons_zero, List.getElem?_cons_succ, List.set_cons_zero, List.set_cons_succ, List.length_cons, List.length_nil, Option.map_some, Option.map_none, true_and, eq_self, List.map_cons, List.map_nil, Nat.sub_self, List.replicate_zero, List.append_nil]
  generalize hg : (Int.gcd a b : Nat) = g at q
  obtain ⟨n, hn⟩ : ∃ n, b.natAbs ≤ n := ⟨_, Nat.le_refl _⟩
  refine ⟨n + 1, ?_⟩
  have fin : Int.gcd a 0 = g → (if a < 0 then -a else a) = (g : Int) := fun h => by
    rw [← h, Int.gcd_zero]
    split <;> omega
  induction n generalizing a b with
  | zero =>
    have hb : b = 0 := by omega
    subst hb
    simp only [w_succ, DL.e_loc, DL.e_cst, DL.e_gc, DL.e_bin, DL.e_neg, DL.e_cmp, DL.e_chn, DL.e_and, DL.e_or, DL.e_not, DL.e_ite, DL.e_idx, DL.e_gidx, DL.e_slc, DL.e_tup, DL.e_lst, DL.e_call, DL.e_bi, DL.e_inst, DL.e_comp, DL.e_nev, DL.e_nil, DL.e_cons, DL.e_no, DL.e_yes, DL.b_val, DL.b_cmp, DL.b_chn, DL.b_and, DL.b_or, DL.b_not, DL.b_no, DL.b_one, DL.i_seq, DL.i_rng1, DL.i_rng2, DL.i_enum, DL.i_zip, DL.s_set, DL.s_setF, DL.s_asg, DL.s_par, DL.s_par3, DL.s_aug, DL.s_app, DL.s_ext, DL.s_pop, DL.s_expr, DL.s_ret, DL.s_retT, DL.s_ite, DL.s_whl, DL.s_for, DL.s_gset, DL.s_brk, DL.s_cnt, DL.s_nil, DL.s_cons, DL.s_frz, DL.t_name, DL.t_tup, DL.t_nil, DL.t_cons, DL.t_len0, DL.t_len1, DL.k_locd, DL.k_loco, DL.k_neg, DL.k_tt, DL.k_ff, DL.k_any, DL.k_lst, DL.k_int, DL.k_dat, DL.k_ty, DL.k_keep, DL.k_own, DL.k_slot, DL.k_new, DL.k_seqt, DL.k_seql, DL.k_seqs, DL.k_seqo, DL.k_enut, DL.k_enul, DL.k_enuo, DL.k_zipt, DL.k_zipl, DL.k_gix, DL.k_gst, DL.k_setd, DL.k_seto, DL.a_dd, DL.a_do, DL.a_rd, DL.a_ro, DL.a_rb, DL.a_nil, DL.a_d, DL.a_o, DL.a_l, DL.a_lo, DL.a_lb, DL.o_add, DL.o_addb, DL.o_adds, DL.o_addt, DL.o_sub, DL.o_subb, DL.o_subbb, DL.o_iadd, DL.o_iaddb, DL.o_isub, DL.o_isubb, DL.o_mul, DL.o_fdiv, DL.o_mod, DL.o_lt, DL.o_le, DL.o_gt, DL.o_ge, DL.o_eq, DL.o_ne, DL.o_isn, DL.o_notn, DL.o_isb, DL.o_notb, DL.o_idxt, DL.o_idxl, DL.o_idxo, DL.o_idxb, DL.o_slct, DL.o_slcl, DL.o_slco, DL.o_slcb, DL.o_rev, DL.o_lent, DL.o_lenl, DL.o_lens, DL.o_leno, DL.o_lenb, DL.o_lenstr, DL.o_abs, DL.o_int, DL.o_intb, DL.o_tupo, DL.o_tupl, DL.o_tupt, DL.o_tupb, DL.o_lso, DL.o_lsl, DL.o_lst, DL.o_lss, DL.o_lsb, DL.o_all, DL.o_anyy, DL.o_sum, DL.o_sorted, DL.u_bl, DL.u_int, DL.u_non, DL.u_tup, DL.u_lst, DL.u_own, DL.u_bor, DL.x_0, DL.x_1, DL.x_2, DL.x_3, DL.x_4, DL.x_5, DL.y_tuplenon, DL.y_tuplebl, DL.y_tupleint, DL.y_tuplestr, DL.y_tupletup, DL.y_tuplelst, DL.y_listnon, DL.y_listbl, DL.y_listint, DL.y_liststr, DL.y_listtup, DL.y_listlst, DL.y_dictnon, DL.y_dictbl, DL.y_dictint, DL.y_dictstr, DL.y_dicttup, DL.y_dictlst, DL.y_strnon, DL.y_strbl, DL.y_strint, DL.y_strstr, DL.y_strtup, DL.y_strlst, DL.y_intnon, DL.y_intbl, DL.y_intint, DL.y_intstr, DL.y_inttup, DL.y_intlst, DL.y_boolnon, DL.y_boolbl, DL.y_boolint, DL.y_boolstr, DL.y_booltup, DL.y_boollst, DL.j_n1, DL.j_n2, DL.j_n3, DL.j_n4, DL.j_n5, DL.j_f1, DL.j_f2, DL.j_f3, DL.j_f4, DL.j_f5, DL.j_w1, DL.j_w2, DL.j_w3, DL.j_w4, DL.j_w5, DL.j_01, DL.j_02, DL.j_03, DL.eqD_int, DL.eqOk_int, List.getElem?_cons_zero, List.getElem?_cons_succ, List.set_cons_zero, List.set_cons_succ, List.length_cons, List.length_nil, Option.map_some, Option.map_none, true_and, eq_self]
    rw [fin hg]
    exact q
  | succ n ih =>
    rw [w_succ]
    simp only [DL.e_loc, DL.e_cst, DL.e_gc, DL.e_bin, DL.e_neg, DL.e_cmp, DL.e_chn, DL.e_and, DL.e_or, DL.e_not, DL.e_ite, DL.e_idx, DL.e_gidx, DL.e_slc, DL.e_tup, DL.e_lst, DL.e_call, DL.e_bi, DL.e_inst, DL.e_comp, DL.e_nev, DL.e_nil, DL.e_cons, DL.e_no, DL.e_yes, DL.b_val, DL.b_cmp, DL.b_chn, DL.b_and, DL.b_or, DL.b_not, DL.b_no, DL.b_one, DL.i_seq, DL.i_rng1, DL.i_rng2, DL.i_enum, DL.i_zip, DL.s_set, DL.s_setF, DL.s_asg, DL.s_par, DL.s_par3, DL.s_aug, DL.s_app, DL.s_ext, DL.s_pop, DL.s_expr, DL.s_ret, DL.s_retT, DL.s_ite, DL.s_whl, DL.s_for, DL.s_gset, DL.s_brk, DL.s_cnt, DL.s_nil, DL.s_cons, DL.s_frz, DL.t_name, DL.t_tup, DL.t_nil, DL.t_cons, DL.t_len0, DL.t_len1, DL.k_locd, DL.k_loco, DL.k_neg, DL.k_tt, DL.k_ff, DL.k_any, DL.k_lst, DL.k_int, DL.k_dat, DL.k_ty, DL.k_keep, DL.k_own, DL.k_slot, DL.k_new, DL.k_seqt, DL.k_seql, DL.k_seqs, DL.k_seqo, DL.k_enut, DL.k_enul, DL.k_enuo, DL.k_zipt, DL.k_zipl, DL.k_gix, DL.k_gst, DL.k_setd, DL.k_seto, DL.a_dd, DL.a_do, DL.a_rd, DL.a_ro, DL.a_rb, DL.a_nil, DL.a_d, DL.a_o, DL.a_l, DL.a_lo, DL.a_lb, DL.o_add, DL.o_addb, DL.o_adds, DL.o_addt, DL.o_sub, DL.o_subb, DL.o_subbb, DL.o_iadd, DL.o_iaddb, DL.o_isub, DL.o_isubb, DL.o_mul, DL.o_fdiv, DL.o_mod, DL.o_lt, DL.o_le, DL.o_gt, DL.o_ge, DL.o_eq, DL.o_ne, DL.o_isn, DL.o_notn, DL.o_isb, DL.o_notb, DL.o_idxt, DL.o_idxl, DL.o_idxo, DL.o_idxb, DL.o_slct, DL.o_slcl, DL.o_slco, DL.o_slcb, DL.o_rev, DL.o_lent, DL.o_lenl, DL.o_lens, DL.o_leno, DL.o_lenb, DL.o_lenstr, DL.o_abs, DL.o_int, DL.o_intb, DL.o_tupo, DL.o_tupl, DL.o_tupt, DL.o_tupb, DL.o_lso, DL.o_lsl, DL.o_lst, DL.o_lss, DL.o_lsb, DL.o_all, DL.o_anyy, DL.o_sum, DL.o_sorted, DL.u_bl, DL.u_int, DL.u_non, DL.u_tup, DL.u_lst, DL.u_own, DL.u_bor, DL.x_0, DL.x_1, DL.x_2, DL.x_3, DL.x_4, DL.x_5, DL.y_tuplenon, DL.y_tuplebl, DL.y_tupleint, DL.y_tuplestr, DL.y_tupletup, DL.y_tuplelst, DL.y_listnon, DL.y_listbl, DL.y_listint, DL.y_liststr, DL.y_listtup, DL.y_listlst, DL.y_dictnon, DL.y_dictbl, DL.y_dictint, DL.y_dictstr, DL.y_dicttup, DL.y_dictlst, DL.y_strnon, DL.y_strbl, DL.y_strint, DL.y_strstr, DL.y_strtup, DL.y_strlst, DL.y_intnon, DL.y_intbl, DL.y_intint, DL.y_intstr, DL.y_inttup, DL.y_intlst, DL.y_boolnon, DL.y_boolbl, DL.y_boolint, DL.y_boolstr, DL.y_booltup, DL.y_boollst, DL.j_n1, DL.j_n2, DL.j_n3, DL.j_n4, DL.j_n5, DL.j_f1, DL.j_f2, DL.j_f3, DL.j_f4, DL.j_f5, DL.j_w1, DL.j_w2, DL.j_w3, DL.j_w4, DL.j_w5, DL.j_01, DL.j_02, DL.j_03, DL.eqD_int, DL.eqOk_int, List.getElem?_cons_zero, List.getElem?_cons_succ, List.set_cons_zero, List.set_cons_succ, List.length_cons, List.length_nil, Option.map_some, Option.map_none, true_and, eq_self]
    by_cases hb : b = 0
    · subst hb
      simp only [decide_true, Bool.not_true, k_ff]
      rw [fin hg]
      exact q
    · have : (!decide (b = 0)) = true := by simpa using hb
      rw [this, k_tt]
      refine ⟨hb, ih b (a.fmod b) (by rw [gcd_fmod]; exact hg) ?_ ?_⟩
      · have h1 : (a.fmod b).natAbs < b.natAbs := natAbs_fmod_lt a hb
        omega
      · intro h
        rw [← h, Int.gcd_zero]
        split <;> omega
/-- a / b, b not zero -/
def Tdivi : DSp := fun ds G Q _ => ∃ p q : Rat, ds = [nfD p, nfD q] ∧ q ≠ 0 ∧ Sz 3000 p ∧ Sz 3000 q ∧ Q (nfD (p / q)) G
def cdivi (k : Nat) : CSs := (.cons (.ret (.call k (.cons (.bin .addP (.bin .mul (.idx .any (.loc 0) (.cst (.int 0))) (.idx .any (.loc 1) (.cst (.int 1)))) (.bin .fdiv (.cst (.int 0)) (.idx .any (.loc 1) (.cst (.int 0))))) (.cons (.bin .mul (.idx .any (.loc 0) (.cst (.int 1))) (.idx .any (.loc 1) (.cst (.int 0)))) .nil)))) .nil)
theorem rat_div (p q : Rat) : p / q = Rat.divInt (p.num * q.den) (p.den * q.num) := by
  rw [Rat.div_def, Rat.inv_def]
  have : p = Rat.divInt p.num p.den := by rw [Rat.divInt_ofNat, Rat.mkRat_self]
  conv => lhs; lhs; rw [this]
  rw [Rat.divInt_mul_divInt]
theorem Sz.div {b c : Nat} {p q : Rat} (h : Sz b p) (k : Sz c q) (hq : q ≠ 0) : Sz (b + c) (p / q) := by
  have hn : q.num ≠ 0 := fun e => hq (Rat.num_eq_zero.mp e)
  rw [rat_div]
  exact sz_divInt (Int.mul_ne_zero (den_ne p) hn) (h.1.mul k.2) (h.2.mul k.1)
theorem run_divi (hN : N.length = 2) (h0 : S.sp k = Tfraction) : ∀ ds G Q E, Tdivi ds G Q E → runB S N (cdivi k) ds G Q E := by
  rintro ds G Q E ⟨p, q, rfl, hq, sp, sq, h⟩
  have hn : q.num ≠ 0 := fun e => hq (Rat.num_eq_zero.mp e)
  simp only [run_eq, startL, hN, cdivi, DL.e_loc, DL.e_cst, DL.e_gc, DL.e_bin, DL.e_neg, DL.e_cmp, DL.e_chn, DL.e_and, DL.e_or, DL.e_not, DL.e_ite, DL.e_idx, DL.e_gidx, DL.e_slc, DL.e_tup, DL.e_lst, DL.e_call, DL.e_bi, DL.e_inst, DL.e_comp, DL.e_nev, DL.e_nil, DL.e_cons, DL.e_no, DL.e_yes, DL.b_val, DL.b_cmp, DL.b_chn, DL.b_and, DL.b_or, DL.b_not, DL.b_no, DL.b_one, DL.i_seq, DL.i_rng1, DL.i_rng2, DL.i_enum, DL.i_zip, DL.s_set, DL.s_setF, DL.s_asg, DL.s_par, DL.s_par3, DL.s_aug, DL.s_app, DL.s_ext, DL.s_pop, DL.s_expr, DL.s_ret, DL.s_retT, DL.s_ite, DL.s_whl, DL.s_for, DL.s_gset, DL.s_brk, DL.s_cnt, DL.s_nil, DL.s_cons, DL.s_frz, DL.t_name, DL.t_tup, DL.t_nil, DL.t_cons, DL.t_len0, DL.t_len1, DL.k_locd, DL.k_loco, DL.k_neg, DL.k_tt, DL.k_ff, DL.k_any, DL.k_lst, DL.k_int, DL.k_dat, DL.k_ty, DL.k_keep, DL.k_own, DL.k_slot, DL.k_new, DL.k_seqt, DL.k_seql, DL.k_seqs, DL.k_seqo, DL.k_enut, DL.k_enul, DL.k_enuo, DL.k_zipt, DL.k_zipl, DL.k_gix, DL.k_gst, DL.k_setd, DL.k_seto, DL.a_dd, DL.a_do, DL.a_rd, DL.a_ro, DL.a_rb, DL.a_nil, DL.a_d, DL.a_o, DL.a_l, DL.a_lo, DL.a_lb, DL.o_add, DL.o_addb, DL.o_adds, DL.o_addt, DL.o_sub, DL.o_subb, DL.o_subbb, DL.o_iadd, DL.o_iaddb, DL.o_isub, DL.o_isubb, DL.o_mul, DL.o_fdiv, DL.o_mod, DL.o_lt, DL.o_le, DL.o_gt, DL.o_ge, DL.o_eq, DL.o_ne, DL.o_isn, DL.o_notn, DL.o_isb, DL.o_notb, DL.o_idxt, DL.o_idxl, DL.o_idxo, DL.o_idxb, DL.o_slct, DL.o_slcl, DL.o_slco, DL.o_slcb, DL.o_rev, DL.o_lent, DL.o_lenl, DL.o_lens, DL.o_leno, DL.o_lenb, DL.o_lenstr, DL.o_abs, DL.o_int, DL.o_intb, DL.o_tupo, DL.o_tupl, DL.o_tupt, DL.o_tupb, DL.o_lso, DL.o_lsl, DL.o_lst, DL.o_lss, DL.o_lsb, DL.o_all, DL.o_anyy, DL.o_sum, DL.o_sorted, DL.u_bl, DL.u_int, DL.u_non, DL.u_tup, DL.u_lst, DL.u_own, DL.u_bor, DL.x_0, DL.x_1, DL.x_2, DL.x_3, DL.x_4, DL.x_5, DL.y_tuplenon, DL.y_tuplebl, DL.y_tupleint, DL.y_tuplestr, DL.y_tupletup, DL.y_tuplelst, DL.y_listnon, DL.y_listbl, DL.y_listint, DL.y_liststr, DL.y_listtup, DL.y_listlst, DL.y_dictnon, DL.y_dictbl, DL.y_dictint, DL.y_dictstr, DL.y_dicttup, DL.y_dictlst, DL.y_strnon, DL.y_strbl, DL.y_strint, DL.y_strstr, DL.y_strtup, DL.y_strlst, DL.y_intnon, DL.y_intbl, DL.y_intint, DL.y_intstr, DL.y_inttup, DL.y_intlst, DL.y_boolnon, DL.y_boolbl, DL.y_boolint, DL.y_boolstr, DL.y_booltup, DL.y_boollst, DL.j_n1, DL.j_n2, DL.j_n3, DL.j_n4, DL.j_n5, DL.j_f1, DL.j_f2, DL.j_f3, DL.j_f4, DL.j_f5, DL.j_w1, DL.j_w2, DL.j_w3, DL.j_w4, DL.j_w5, DL.j_01, DL.j_02, DL.j_03, DL.eqD_int, DL.eqOk_int, List.getElem?_cons_zero, List.getElem?_cons_succ, List.set_cons_zero, List.set_cons_succ, List.length_cons, List.length_nil, Option.map_some, Option.map_none, true_and, eq_self, List.map_cons, List.map_nil, Nat.sub_self, List.replicate_zero, List.append_nil, nfD, h0, Int.zero_fdiv, Int.add_zero]
  refine ⟨mulW sp.1 sq.2 (by decide), divOk hn sq.1 (by decide), mulW sp.2 sq.1 (by decide), _, _, rfl, Int.mul_ne_zero (den_ne p) hn, (sp.1.mul sq.2).mono (by decide), (sp.2.mul sq.1).mono (by decide), ?_⟩
  simp only [DL.e_loc, DL.e_cst, DL.e_gc, DL.e_bin, DL.e_neg, DL.e_cmp, DL.e_chn, DL.e_and, DL.e_or, DL.e_not, DL.e_ite, DL.e_idx, DL.e_gidx, DL.e_slc, DL.e_tup, DL.e_lst, DL.e_call, DL.e_bi, DL.e_inst, DL.e_comp, DL.e_nev, DL.e_nil, DL.e_cons, DL.e_no, DL.e_yes, DL.b_val, DL.b_cmp, DL.b_chn, DL.b_and, DL.b_or, DL.b_not, DL.b_no, DL.b_one, DL.i_seq, DL.i_rng1, DL.i_rng2, DL.i_enum, DL.i_zip, DL.s_set, DL.s_setF, DL.s_asg, DL.s_par, DL.s_par3, DL.s_aug, DL.s_app, DL.s_ext, DL.s_pop, DL.s_expr, DL.s_ret, DL.s_retT, DL.s_ite, DL.s_whl, DL.s_for, DL.s_gset, DL.s_brk, DL.s_cnt, DL.s_nil, DL.s_cons, DL.s_frz, DL.t_name, DL.t_tup, DL.t_nil, DL.t_cons, DL.t_len0, DL.t_len1, DL.k_locd, DL.k_loco, DL.k_neg, DL.k_tt, DL.k_ff, DL.k_any, DL.k_lst, DL.k_int, DL.k_dat, DL.k_ty, DL.k_keep, DL.k_own, DL.k_slot, DL.k_new, DL.k_seqt, DL.k_seql, DL.k_seqs, DL.k_seqo, DL.k_enut, DL.k_enul, DL.k_enuo, DL.k_zipt, DL.k_zipl, DL.k_gix, DL.k_gst, DL.k_setd, DL.k_seto, DL.a_dd, DL.a_do, DL.a_rd, DL.a_ro, DL.a_rb, DL.a_nil, DL.a_d, DL.a_o, DL.a_l, DL.a_lo, DL.a_lb, DL.o_add, DL.o_addb, DL.o_adds, DL.o_addt, DL.o_sub, DL.o_subb, DL.o_subbb, DL.o_iadd, DL.o_iaddb, DL.o_isub, DL.o_isubb, DL.o_mul, DL.o_fdiv, DL.o_mod, DL.o_lt, DL.o_le, DL.o_gt, DL.o_ge, DL.o_eq, DL.o_ne, DL.o_isn, DL.o_notn, DL.o_isb, DL.o_notb, DL.o_idxt, DL.o_idxl, DL.o_idxo, DL.o_idxb, DL.o_slct, DL.o_slcl, DL.o_slco, DL.o_slcb, DL.o_rev, DL.o_lent, DL.o_lenl, DL.o_lens, DL.o_leno, DL.o_lenb, DL.o_lenstr, DL.o_abs, DL.o_int, DL.o_intb, DL.o_tupo, DL.o_tupl, DL.o_tupt, DL.o_tupb, DL.o_lso, DL.o_lsl, DL.o_lst, DL.o_lss, DL.o_lsb, DL.o_all, DL.o_anyy, DL.o_sum, DL.o_sorted, DL.u_bl, DL.u_int, DL.u_non, DL.u_tup, DL.u_lst, DL.u_own, DL.u_bor, DL.x_0, DL.x_1, DL.x_2, DL.x_3, DL.x_4, DL.x_5, DL.y_tuplenon, DL.y_tuplebl, DL.y_tupleint, DL.y_tuplestr, DL.y_tupletup, DL.y_tuplelst, DL.y_listnon, DL.y_listbl, DL.y_listint, DL.y_liststr, DL.y_listtup, DL.y_listlst, DL.y_dictnon, DL.y_dictbl, DL.y_dictint, DL.y_dictstr, DL.y_dicttup, DL.y_dictlst, DL.y_strnon, DL.y_strbl, DL.y_strint, DL.y_strstr, DL.y_strtup, DL.y_strlst, DL.y_intnon, DL.y_intbl, DL.y_intint, DL.y_intstr, DL.y_inttup, DL.y_intlst, DL.y_boolnon, DL.y_boolbl, DL.y_boolint, DL.y_boolstr, DL.y_booltup, DL.y_boollst, DL.j_n1, DL.j_n2, DL.j_n3, DL.j_n4, DL.j_n5, DL.j_f1, DL.j_f2, DL.j_f3, DL.j_f4, DL.j_f5, DL.j_w1, DL.j_w2, DL.j_w3, DL.j_w4, DL.j_w5, DL.j_01, DL.j_02, DL.j_03, DL.eqD_int, DL.eqOk_int, List.getElem?_cons_zero, List.getElem?_cons_succ, List.set_cons_zero, List.set_cons_succ, List.length_cons, List.length_nil, Option.map_some, Option.map_none, true_and, eq_self]
  rw [← rat_div]
  exact h
def Tpick : DSp := fun ds G Q _ => ∃ a r xs, ds = [.ref a, r] ∧ (r = .tup xs ∨ r = .lst xs) ∧ xs ≠ [] ∧ xs.length ≤ 65536 ∧ G a = some .strm ∧ ∀ d ∈ xs, Q d G
def cpick (k : Nat) : CSs := (.cons (.ret (.idx .any (.loc 1) (.call k (.cons (.loc 0) (.cons (.bi .lenP (.loc 1)) .nil))))) .nil)
theorem run_pick (hN : N.length = 2) (h0 : S.sp k = Tdraw) : ∀ ds G Q E, Tpick ds G Q E → runB S N (cpick k) ds G Q E := by
  rintro ds G Q E ⟨a, r, xs, rfl, hr, hx, hl, ga, h⟩
  have hp : 0 < xs.length := List.length_pos_iff.mpr hx
  have fin : ∀ (r : Int), 0 ≤ r → r < xs.length → idxK xs r fun z => Q (asR z) G := fun r h0 h1 => by
    obtain ⟨j, rfl⟩ : ∃ j : Nat, r = j := ⟨r.toNat, by omega⟩
    exact idx_of (List.getElem?_eq_getElem (by omega)) (h _ (List.getElem_mem _))
  rcases hr with rfl | rfl
  · simp only [run_eq, startL, hN, cpick, DL.e_loc, DL.e_cst, DL.e_gc, DL.e_bin, DL.e_neg, DL.e_cmp, DL.e_chn, DL.e_and, DL.e_or, DL.e_not, DL.e_ite, DL.e_idx, DL.e_gidx, DL.e_slc, DL.e_tup, DL.e_lst, DL.e_call, DL.e_bi, DL.e_inst, DL.e_comp, DL.e_nev, DL.e_nil, DL.e_cons, DL.e_no, DL.e_yes, DL.b_val, DL.b_cmp, DL.b_chn, DL.b_and, DL.b_or, DL.b_not, DL.b_no, DL.b_one, DL.i_seq, DL.i_rng1, DL.i_rng2, DL.i_enum, DL.i_zip, DL.s_set, DL.s_setF, DL.s_asg, DL.s_par, DL.s_par3, DL.s_aug, DL.s_app, DL.s_ext, DL.s_pop, DL.s_expr, DL.s_ret, DL.s_retT, DL.s_ite, DL.s_whl, DL.s_for, DL.s_gset, DL.s_brk, DL.s_cnt, DL.s_nil, DL.s_cons, DL.s_frz, DL.t_name, DL.t_tup, DL.t_nil, DL.t_cons, DL.t_len0, DL.t_len1, DL.k_locd, DL.k_loco, DL.k_neg, DL.k_tt, DL.k_ff, DL.k_any, DL.k_lst, DL.k_int, DL.k_dat, DL.k_ty, DL.k_keep, DL.k_own, DL.k_slot, DL.k_new, DL.k_seqt, DL.k_seql, DL.k_seqs, DL.k_seqo, DL.k_enut, DL.k_enul, DL.k_enuo, DL.k_zipt, DL.k_zipl, DL.k_gix, DL.k_gst, DL.k_setd, DL.k_seto, DL.a_dd, DL.a_do, DL.a_rd, DL.a_ro, DL.a_rb, DL.a_nil, DL.a_d, DL.a_o, DL.a_l, DL.a_lo, DL.a_lb, DL.o_add, DL.o_addb, DL.o_adds, DL.o_addt, DL.o_sub, DL.o_subb, DL.o_subbb, DL.o_iadd, DL.o_iaddb, DL.o_isub, DL.o_isubb, DL.o_mul, DL.o_fdiv, DL.o_mod, DL.o_lt, DL.o_le, DL.o_gt, DL.o_ge, DL.o_eq, DL.o_ne, DL.o_isn, DL.o_notn, DL.o_isb, DL.o_notb, DL.o_idxt, DL.o_idxl, DL.o_idxo, DL.o_idxb, DL.o_slct, DL.o_slcl, DL.o_slco, DL.o_slcb, DL.o_rev, DL.o_lent, DL.o_lenl, DL.o_lens, DL.o_leno, DL.o_lenb, DL.o_lenstr, DL.o_abs, DL.o_int, DL.o_intb, DL.o_tupo, DL.o_tupl, DL.o_tupt, DL.o_tupb, DL.o_lso, DL.o_lsl, DL.o_lst, DL.o_lss, DL.o_lsb, DL.o_all, DL.o_anyy, DL.o_sum, DL.o_sorted, DL.u_bl, DL.u_int, DL.u_non, DL.u_tup, DL.u_lst, DL.u_own, DL.u_bor, DL.x_0, DL.x_1, DL.x_2, DL.x_3, DL.x_4, DL.x_5, DL.y_tuplenon, DL.y_tuplebl, DL.y_tupleint, DL.y_tuplestr, DL.y_tupletup, DL.y_tuplelst, DL.y_listnon, DL.y_listbl, DL.y_listint, DL.y_liststr, DL.y_listtup, DL.y_listlst, DL.y_dictnon, DL.y_dictbl, DL.y_dictint, DL.y_dictstr, DL.y_dicttup, DL.y_dictlst, DL.y_strnon, DL.y_strbl, DL.y_strint, DL.y_strstr, DL.y_strtup, DL.y_strlst, DL.y_intnon, DL.y_intbl, DL.y_intint, DL.y_intstr, DL.y_inttup, DL.y_intlst, DL.y_boolnon, DL.y_boolbl, DL.y_boolint, DL.y_boolstr, DL.y_booltup, DL.y_boollst, DL.j_n1, DL.j_n2, DL.j_n3, DL.j_n4, DL.j_n5, DL.j_f1, DL.j_f2, DL.j_f3, DL.j_f4, DL.j_f5, DL.j_w1, DL.j_w2, DL.j_w3, DL.j_w4, DL.j_w5, DL.j_01, DL.j_02, DL.j_03, DL.eqD_int, DL.eqOk_int, List.getElem?_cons_zero, List.getElem?_cons_succ, List.set_cons_zero, List.set_cons_succ, List.length_cons, List.length_nil, Option.map_some, Option.map_none, true_and, eq_self, List.map_cons, List.map_nil, Nat.sub_self, List.replicate_zero, List.append_nil, h0]
    exact ⟨a, xs.length, rfl, by omega, by omega, ga, fun r q0 q1 => by simp only [DL.e_loc, DL.e_cst, DL.e_gc, DL.e_bin, DL.e_neg, DL.e_cmp, DL.e_chn, DL.e_and, DL.e_or, DL.e_not, DL.e_ite, DL.e_idx, DL.e_gidx, DL.e_slc, DL.e_tup, DL.e_lst, DL.e_call, DL.e_bi, DL.e_inst, DL.e_comp, DL.e_nev, DL.e_nil, DL.e_cons, DL.e_no, DL.e_yes, DL.b_val, DL.b_cmp, DL.b_chn, DL.b_and, DL.b_or, DL.b_not, DL.b_no, DL.b_one, DL.i_seq, DL.i_rng1, DL.i_rng2, DL.i_enum, DL.i_zip, DL.s_set, DL.s_setF, DL.s_asg, DL.s_par, DL.s_par3, DL.s_aug, DL.s_app, DL.s_ext, DL.s_pop, DL.s_expr, DL.s_ret, DL.s_retT, DL.s_ite, DL.s_whl, DL.s_for, DL.s_gset, DL.s_brk, DL.s_cnt, DL.s_nil, DL.s_cons, DL.s_frz, DL.t_name, DL.t_tup, DL.t_nil, DL.t_cons, DL.t_len0, DL.t_len1, DL.k_locd, DL.k_loco, DL.k_neg, DL.k_tt, DL.k_ff, DL.k_any, DL.k_lst, DL.k_int, DL.k_dat, DL.k_ty, DL.k_keep, DL.k_own, DL.k_slot, DL.k_new, DL.k_seqt, DL.k_seql, DL.k_seqs, DL.k_seqo, DL.k_enut, DL.k_enul, DL.k_enuo, DL.k_zipt, DL.k_zipl, DL.k_gix, DL.k_gst, DL.k_setd, DL.k_seto, DL.a_dd, DL.a_do, DL.a_rd, DL.a_ro, DL.a_rb, DL.a_nil, DL.a_d, DL.a_o, DL.a_l, DL.a_lo, DL.a_lb, DL.o_add, DL.o_addb, DL.o_adds, DL.o_addt, DL.o_sub, DL.o_subb, DL.o_subbb, DL.o_iadd, DL.o_iaddb, DL.o_isub, DL.o_isubb, DL.o_mul, DL.o_fdiv, DL.o_mod, DL.o_lt, DL.o_le, DL.o_gt, DL.o_ge, DL.o_eq, DL.o_ne, DL.o_isn, DL.o_notn, DL.o_isb, DL.o_notb, DL.o_idxt, DL.o_idxl, DL.o_idxo, DL.o_idxb, DL.o_slct, DL.o_slcl, DL.o_slco, DL.o_slcb, DL.o_rev, DL.o_lent, DL.o_lenl, DL.o_lens, DL.o_leno, DL.o_lenb, DL.o_lenstr, DL.o_abs, DL.o_int, DL.o_intb, DL.o_tupo, DL.o_tupl, DL.o_tupt, DL.o_tupb, DL.o_lso, DL.o_lsl, DL.o_lst, DL.o_lss, DL.o_lsb, DL.o_all, DL.o_anyy, DL.o_sum, DL.o_sorted, DL.u_bl, DL.u_int, DL.u_non, DL.u_tup, DL.u_lst, DL.u_own, DL.u_bor, DL.x_0, DL.x_1, DL.x_2, DL.x_3, DL.x_4, DL.x_5, DL.y_tuplenon, DL.y_tuplebl, DL.y_tupleint, DL.y_tuplestr, DL.y_tupletup, DL.y_tuplelst, DL.y_listnon, DL.y_listbl, DL.y_listint, DL.y_liststr, DL.y_listtup, DL.y_listlst, DL.y_dictnon, DL.y_dictbl, DL.y_dictint, DL.y_dictstr, DL.y_dicttup, DL.y_dictlst, DL.y_strnon, DL.y_strbl, DL.y_strint, DL.y_strstr, DL.y_strtup, DL.y_strlst, DL.y_intnon, DL.y_intbl, DL.y_intint, DL.y_intstr, DL.y_inttup, DL.y_intlst, DL.y_boolnon, DL.y_boolbl, DL.y_boolint, DL.y_boolstr, DL.y_booltup, DL.y_boollst, DL.j_n1, DL.j_n2, DL.j_n3, DL.j_n4, DL.j_n5, DL.j_f1, DL.j_f2, DL.j_f3, DL.j_f4, DL.j_f5, DL.j_w1, DL.j_w2, DL.j_w3, DL.j_w4, DL.j_w5, DL.j_01, DL.j_02, DL.j_03, DL.eqD_int, DL.eqOk_int, List.getElem?_cons_zero, List.getElem?_cons_succ, List.set_cons_zero, List.set_cons_succ, List.length_cons, List.length_nil, Option.map_some, Option.map_none, true_and, eq_self]; exact fin r q0 q1⟩
  · simp only [run_eq, startL, hN, cpick, DL.e_loc, DL.e_cst, DL.e_gc, DL.e_bin, DL.e_neg, DL.e_cmp, DL.e_chn, DL.e_and, DL.e_or, DL.e_not, DL.e_ite, DL.e_idx, DL.e_gidx, DL.e_slc, DL.e_tup, DL.e_lst, DL.e_call, DL.e_bi, DL.e_inst, DL.e_comp, DL.e_nev, DL.e_nil, DL.e_cons, DL.e_no, DL.e_yes, DL.b_val, DL.b_cmp, DL.b_chn, DL.b_and, DL.b_or, DL.b_not, DL.b_no, DL.b_one, DL.i_seq, DL.i_rng1, DL.i_rng2, DL.i_enum, DL.i_zip, DL.s_set, DL.s_setF, DL.s_asg, DL.s_par, DL.s_par3, DL.s_aug, DL.s_app, DL.s_ext, DL.s_pop, DL.s_expr, DL.s_ret, DL.s_retT, DL.s_ite, DL.s_whl, DL.s_for, DL.s_gset, DL.s_brk, DL.s_cnt, DL.s_nil, DL.s_cons, DL.s_frz, DL.t_name, DL.t_tup, DL.t_nil, DL.t_cons, DL.t_len0, DL.t_len1, DL.k_locd, DL.k_loco, DL.k_neg, DL.k_tt, DL.k_ff, DL.k_any, DL.k_lst, DL.k_int, DL.k_dat, DL.k_ty, DL.k_keep, DL.k_own, DL.k_slot, DL.k_new, DL.k_seqt, DL.k_seql, DL.k_seqs, DL.k_seqo, DL.k_enut, DL.k_enul, DL.k_enuo, DL.k_zipt, DL.k_zipl, DL.k_gix, DL.k_gst, DL.k_setd, DL.k_seto, DL.a_dd, DL.a_do, DL.a_rd, DL.a_ro, DL.a_rb, DL.a_nil, DL.a_d, DL.a_o, DL.a_l, DL.a_lo, DL.a_lb, DL.o_add, DL.o_addb, DL.o_adds, DL.o_addt, DL.o_sub, DL.o_subb, DL.o_subbb, DL.o_iadd, DL.o_iaddb, DL.o_isub, DL.o_isubb, DL.o_mul, DL.o_fdiv, DL.o_mod, DL.o_lt, DL.o_le, DL.o_gt, DL.o_ge, DL.o_eq, DL.o_ne, DL.o_isn, DL.o_notn, DL.o_isb, DL.o_notb, DL.o_idxt, DL.o_idxl, DL.o_idxo, DL.o_idxb, DL.o_slct, DL.o_slcl, DL.o_slco, DL.o_slcb, DL.o_rev, DL.o_lent, DL.o_lenl, DL.o_lens, DL.o_leno, DL.o_lenb, DL.o_lenstr, DL.o_abs, DL.o_int, DL.o_intb, DL.o_tupo, DL.o_tupl, DL.o_tupt, DL.o_tupb, DL.o_lso, DL.o_lsl, DL.o_lst, DL.o_lss, DL.o_lsb, DL.o_all, DL.o_anyy, DL.o_sum, DL.o_sorted, DL.u_bl, DL.u_int, DL.u_non, DL.u_tup, DL.u_lst, DL.u_own, DL.u_bor, DL.x_0, DL.x_1, DL.x_2, DL.x_3, DL.x_4, DL.x_5, DL.y_tuplenon, DL.y_tuplebl, DL.y_tupleint, DL.y_tuplestr, DL.y_tupletup, DL.y_tuplelst, DL.y_listnon, DL.y_listbl, DL.y_listint, DL.y_liststr, DL.y_listtup, DL.y_listlst, DL.y_dictnon, DL.y_dictbl, DL.y_dictint, DL.y_dictstr, DL.y_dicttup, DL.y_dictlst, DL.y_strnon, DL.y_strbl, DL.y_strint, DL.y_strstr, DL.y_strtup, DL.y_strlst, DL.y_intnon, DL.y_intbl, DL.y_intint, DL.y_intstr, DL.y_inttup, DL.y_intlst, DL.y_boolnon, DL.y_boolbl, DL.y_boolint, DL.y_boolstr, DL.y_booltup, DL.y_boollst, DL.j_n1, DL.j_n2, DL.j_n3, DL.j_n4, DL.j_n5, DL.j_f1, DL.j_f2, DL.j_f3, DL.j_f4, DL.j_f5, DL.j_w1, DL.j_w2, DL.j_w3, DL.j_w4, DL.j_w5, DL.j_01, DL.j_02, DL.j_03, DL.eqD_int, DL.eqOk_int, List.getElem?_cons_zero, List.getElem?_cons_succ, List.set_cons_zero, List.set_cons_succ, List.length_cons, List.length_nil, Option.map_some, Option.map_none, true_and, eq_self, List.map_cons, List.map_nil, Nat.sub_self, List.replicate_zero, List.append_nil, h0]
    exact ⟨a, xs.length, rfl, by omega, by omega, ga, fun r q0 q1 => by simp only [DL.e_loc, DL.e_cst, DL.e_gc, DL.e_bin, DL.e_neg, DL.e_cmp, DL.e_chn, DL.e_and, DL.e_or, DL.e_not, DL.e_ite, DL.e_idx, DL.e_gidx, DL.e_slc, DL.e_tup, DL.e_lst, DL.e_call, DL.e_bi, DL.e_inst, DL.e_comp, DL.e_nev, DL.e_nil, DL.e_cons, DL.e_no, DL.e_yes, DL.b_val, DL.b_cmp, DL.b_chn, DL.b_and, DL.b_or, DL.b_not, DL.b_no, DL.b_one, DL.i_seq, DL.i_rng1, DL.i_rng2, DL.i_enum, DL.i_zip, DL.s_set, DL.s_setF, DL.s_asg, DL.s_par, DL.s_par3, DL.s_aug, DL.s_app, DL.s_ext, DL.s_pop, DL.s_expr, DL.s_ret, DL.s_retT, DL.s_ite, DL.s_whl, DL.s_for, DL.s_gset, DL.s_brk, DL.s_cnt, DL.s_nil, DL.s_cons, DL.s_frz, DL.t_name, DL.t_tup, DL.t_nil, DL.t_cons, DL.t_len0, DL.t_len1, DL.k_locd, DL.k_loco, DL.k_neg, DL.k_tt, DL.k_ff, DL.k_any, DL.k_lst, DL.k_int, DL.k_dat, DL.k_ty, DL.k_keep, DL.k_own, DL.k_slot, DL.k_new, DL.k_seqt, DL.k_seql, DL.k_seqs, DL.k_seqo, DL.k_enut, DL.k_enul, DL.k_enuo, DL.k_zipt, DL.k_zipl, DL.k_gix, DL.k_gst, DL.k_setd, DL.k_seto, DL.a_dd, DL.a_do, DL.a_rd, DL.a_ro, DL.a_rb, DL.a_nil, DL.a_d, DL.a_o, DL.a_l, DL.a_lo, DL.a_lb, DL.o_add, DL.o_addb, DL.o_adds, DL.o_addt, DL.o_sub, DL.o_subb, DL.o_subbb, DL.o_iadd, DL.o_iaddb, DL.o_isub, DL.o_isubb, DL.o_mul, DL.o_fdiv, DL.o_mod, DL.o_lt, DL.o_le, DL.o_gt, DL.o_ge, DL.o_eq, DL.o_ne, DL.o_isn, DL.o_notn, DL.o_isb, DL.o_notb, DL.o_idxt, DL.o_idxl, DL.o_idxo, DL.o_idxb, DL.o_slct, DL.o_slcl, DL.o_slco, DL.o_slcb, DL.o_rev, DL.o_lent, DL.o_lenl, DL.o_lens, DL.o_leno, DL.o_lenb, DL.o_lenstr, DL.o_abs, DL.o_int, DL.o_intb, DL.o_tupo, DL.o_tupl, DL.o_tupt, DL.o_tupb, DL.o_lso, DL.o_lsl, DL.o_lst, DL.o_lss, DL.o_lsb, DL.o_all, DL.o_anyy, DL.o_sum, DL.o_sorted, DL.u_bl, DL.u_int, DL.u_non, DL.u_tup, DL.u_lst, DL.u_own, DL.u_bor, DL.x_0, DL.x_1, DL.x_2, DL.x_3, DL.x_4, DL.x_5, DL.y_tuplenon, DL.y_tuplebl, DL.y_tupleint, DL.y_tuplestr, DL.y_tupletup, DL.y_tuplelst, DL.y_listnon, DL.y_listbl, DL.y_listint, DL.y_liststr, DL.y_listtup, DL.y_listlst, DL.y_dictnon, DL.y_dictbl, DL.y_dictint, DL.y_dictstr, DL.y_dicttup, DL.y_dictlst, DL.y_strnon, DL.y_strbl, DL.y_strint, DL.y_strstr, DL.y_strtup, DL.y_strlst, DL.y_intnon, DL.y_intbl, DL.y_intint, DL.y_intstr, DL.y_inttup, DL.y_intlst, DL.y_boolnon, DL.y_boolbl, DL.y_boolint, DL.y_boolstr, DL.y_booltup, DL.y_boollst, DL.j_n1, DL.j_n2, DL.j_n3, DL.j_n4, DL.j_n5, DL.j_f1, DL.j_f2, DL.j_f3, DL.j_f4, DL.j_f5, DL.j_w1, DL.j_w2, DL.j_w3, DL.j_w4, DL.j_w5, DL.j_01, DL.j_02, DL.j_03, DL.eqD_int, DL.eqOk_int, List.getElem?_cons_zero, List.getElem?_cons_succ, List.set_cons_zero, List.set_cons_succ, List.length_cons, List.length_nil, Option.map_some, Option.map_none, true_and, eq_self]; exact fin r q0 q1⟩
def csame_9 : CSs := .cons (.ret (.and (.cmp .eq (.loc 0) (.loc 1)) (.cmp .eq (.inst .bool (.loc 0)) (.inst .bool (.loc 1))))) .nil
def csame_8 : CSs := .cons (.ret (.cst (.bl false))) .nil
def csame_7 : CSs := .cons (.ite (.or (.not (.val (.inst .int (.loc 0)))) (.not (.val (.inst .int (.loc 1))))) csame_8 .nil) csame_9
def csame_6 : CSs := .cons (.ret (.cmp .eq (.loc 0) (.loc 1))) .nil
def csame_5 : CSs := .cons (.ite (.or (.and (.val (.inst .str (.loc 0))) (.val (.inst .str (.loc 1)))) (.and (.cmp .isN (.loc 0) (.cst .non)) (.cmp .isN (.loc 1) (.cst .non)))) csame_6 .nil) csame_7
def csame_4 (k : Nat) : CSs := .cons (.ret (.and (.cmp .eq (.bi .lenP (.loc 0)) (.bi .lenP (.loc 1))) (.bi .all (.comp (.name 3) (.seq (.loc 0)) .no (.and (.nev) (.call k (.cons (.idx .any (.loc 0) (.loc 3)) (.cons (.idx .any (.loc 1) (.loc 3)) .nil)))) [3])))) .nil
def csame_3 (k : Nat) : CSs := .cons (.ite (.and (.val (.inst .dict (.loc 0))) (.val (.inst .dict (.loc 1)))) (csame_4 k) .nil) csame_5
def csame_2 (k : Nat) : CSs := .cons (.ret (.and (.cmp .eq (.bi .lenP (.loc 0)) (.bi .lenP (.loc 1))) (.bi .all (.comp (.name 2) (.rng1 (.bi .lenP (.loc 0))) .no (.call k (.cons (.idx .any (.loc 0) (.loc 2)) (.cons (.idx .any (.loc 1) (.loc 2)) .nil))) [2])))) .nil
def csame_1 (k : Nat) : CSs := .cons (.ite (.or (.and (.val (.inst .tuple (.loc 0))) (.val (.inst .tuple (.loc 1)))) (.and (.val (.inst .list (.loc 0))) (.val (.inst .list (.loc 1))))) (csame_2 k) .nil) (csame_3 k)
mutual
/-- plain data, nested less than n deep -/
def pd : Nat → D → Bool
  | _, .non => true
  | _, .bl _ => true
  | _, .int _ => true
  | _, .str x => PyData.strOk x
  | 0, .tup _ => false
  | 0, .lst _ => false
  | n + 1, .tup xs => xs.length ≤ 65536 && pdl n xs
  | n + 1, .lst xs => xs.length ≤ 65536 && pdl n xs
  | _, _ => false
def pdl : Nat → List D → Bool
  | _, [] => true
  | n, x :: xs => pd n x && pdl n xs
end
/-- the same value of the same type; n: how deep it goes -/
def Tsame (n : Nat) : DSp := fun ds G Q _ => ∃ x y, ds = [x, y] ∧ pd n x = true ∧ pd n y = true ∧ ∀ b, (b = true ↔ x = y) → Q (.bl b) G
end
end DC
namespace DC
open PySem DL
theorem eqOk_bl {b : Bool} : eqOk (.bl b) = true := by simp [eqOk, plainD, toPy, PyData.depth]
theorem eqOk_non : eqOk .non = true := by simp [eqOk, plainD, toPy, PyData.depth]
theorem eqOk_str {x : Str} (h : PyData.strOk x = true) : eqOk (.str x) = true := by simp [eqOk, plainD, toPy, PyData.depth, h]
theorem eqD_bl {a b : Bool} : eqD (.bl a) (.bl b) = (a == b) := by
  show PyData.eqv (.bool a) (.bool b) = _
  simp only [PyData.eqv]
theorem eqD_str {a b : Str} : eqD (.str a) (.str b) = decide (a = b) := by
  show PyData.eqv (.str a) (.str b) = _
  simp only [PyData.eqv]
  rw [Bool.eq_iff_iff]; simp
theorem eqD_ib {a : Int} {b : Bool} : eqOk (.int a) = true ∧ eqOk (.bl b) = true := ⟨eqOk_int, eqOk_bl⟩
section
variable {S : Sg} {N : List Str} {k : Nat}
theorem run_same0 (hN : N.length = 4) : ∀ ds G Q E, Tsame 0 ds G Q E → runB S N (csame_1 k) ds G Q E := by
  rintro ds G Q E ⟨x, y, rfl, px, py, h⟩
  have cx : (∃ i, x = .int i) ∨ (∃ b, x = .bl b) ∨ (∃ z, x = .str z ∧ PyData.strOk z = true) ∨ x = .non := by
    cases x <;> simp [pd] at px ⊢ <;> exact px
  have cy : (∃ i, y = .int i) ∨ (∃ b, y = .bl b) ∨ (∃ z, y = .str z ∧ PyData.strOk z = true) ∨ y = .non := by
    cases y <;> simp [pd] at py ⊢ <;> exact py
  have e1 := @eqOk_bl
  rcases cx with ⟨i, rfl⟩ | ⟨i, rfl⟩ | ⟨i, rfl, oi⟩ | rfl <;> rcases cy with ⟨j, rfl⟩ | ⟨j, rfl⟩ | ⟨j, rfl, oj⟩ | rfl
  all_goals
    simp only [run_eq, startL, hN, csame_1, csame_3, csame_5, csame_7, csame_8, csame_9, csame_6, DL.e_loc, DL.e_cst, DL.e_gc, DL.e_bin, DL.e_neg, DL.e_cmp, DL.e_chn, DL.e_and, DL.e_or, DL.e_not, DL.e_ite, DL.e_idx, DL.e_gidx, DL.e_slc, DL.e_tup, DL.e_lst, DL.e_call, DL.e_bi, DL.e_inst, DL.e_comp, DL.e_nev, DL.e_nil, DL.e_cons, DL.e_no, DL.e_yes, DL.b_val, DL.b_cmp, DL.b_chn, DL.b_and, DL.b_or, DL.b_not, DL.b_no, DL.b_one, DL.i_seq, DL.i_rng1, DL.i_rng2, DL.i_enum, DL.i_zip, DL.s_set, DL.s_setF, DL.s_asg, DL.s_par, DL.s_par3, DL.s_aug, DL.s_app, DL.s_ext, DL.s_pop, DL.s_expr, DL.s_ret, DL.s_retT, DL.s_ite, DL.s_whl, DL.s_for, DL.s_gset, DL.s_brk, DL.s_cnt, DL.s_nil, DL.s_cons, DL.s_frz, DL.t_name, DL.t_tup, DL.t_nil, DL.t_cons, DL.t_len0, DL.t_len1, DL.k_locd, DL.k_loco, DL.k_neg, DL.k_tt, DL.k_ff, DL.k_any, DL.k_lst, DL.k_int, DL.k_dat, DL.k_ty, DL.k_keep, DL.k_own, DL.k_slot, DL.k_new, DL.k_seqt, DL.k_seql, DL.k_seqs, DL.k_seqo, DL.k_enut, DL.k_enul, DL.k_enuo, DL.k_zipt, DL.k_zipl, DL.k_gix, DL.k_gst, DL.k_setd, DL.k_seto, DL.a_dd, DL.a_do, DL.a_rd, DL.a_ro, DL.a_rb, DL.a_nil, DL.a_d, DL.a_o, DL.a_l, DL.a_lo, DL.a_lb, DL.o_add, DL.o_addb, DL.o_adds, DL.o_addt, DL.o_sub, DL.o_subb, DL.o_subbb, DL.o_iadd, DL.o_iaddb, DL.o_isub, DL.o_isubb, DL.o_mul, DL.o_fdiv, DL.o_mod, DL.o_lt, DL.o_le, DL.o_gt, DL.o_ge, DL.o_eq, DL.o_ne, DL.o_isn, DL.o_notn, DL.o_isb, DL.o_notb, DL.o_idxt, DL.o_idxl, DL.o_idxo, DL.o_idxb, DL.o_slct, DL.o_slcl, DL.o_slco, DL.o_slcb, DL.o_rev, DL.o_lent, DL.o_lenl, DL.o_lens, DL.o_leno, DL.o_lenb, DL.o_lenstr, DL.o_abs, DL.o_int, DL.o_intb, DL.o_tupo, DL.o_tupl, DL.o_tupt, DL.o_tupb, DL.o_lso, DL.o_lsl, DL.o_lst, DL.o_lss, DL.o_lsb, DL.o_all, DL.o_anyy, DL.o_sum, DL.o_sorted, DL.u_bl, DL.u_int, DL.u_non, DL.u_tup, DL.u_lst, DL.u_own, DL.u_bor, DL.x_0, DL.x_1, DL.x_2, DL.x_3, DL.x_4, DL.x_5, DL.y_tuplenon, DL.y_tuplebl, DL.y_tupleint, DL.y_tuplestr, DL.y_tupletup, DL.y_tuplelst, DL.y_listnon, DL.y_listbl, DL.y_listint, DL.y_liststr, DL.y_listtup, DL.y_listlst, DL.y_dictnon, DL.y_dictbl, DL.y_dictint, DL.y_dictstr, DL.y_dicttup, DL.y_dictlst, DL.y_strnon, DL.y_strbl, DL.y_strint, DL.y_strstr, DL.y_strtup, DL.y_strlst, DL.y_intnon, DL.y_intbl, DL.y_intint, DL.y_intstr, DL.y_inttup, DL.y_intlst, DL.y_boolnon, DL.y_boolbl, DL.y_boolint, DL.y_boolstr, DL.y_booltup, DL.y_boollst, DL.j_n1, DL.j_n2, DL.j_n3, DL.j_n4, DL.j_n5, DL.j_f1, DL.j_f2, DL.j_f3, DL.j_f4, DL.j_f5, DL.j_w1, DL.j_w2, DL.j_w3, DL.j_w4, DL.j_w5, DL.j_01, DL.j_02, DL.j_03, DL.eqD_int, DL.eqOk_int, List.getElem?_cons_zero, List.getElem?_cons_succ, List.set_cons_zero, List.set_cons_succ, List.length_cons, List.length_nil, Option.map_some, Option.map_none, true_and, eq_self, List.map_cons, List.map_nil, Nat.reduceAdd, Nat.reduceSub, List.replicate_succ, List.replicate_zero, List.append_nil, List.cons_append, List.nil_append, isNon, Bool.not_true, Bool.not_false, eqOk_bl, eqOk_non, eqD_bl, eqD_str]
  all_goals first
    | (refine h _ ?_; simp; done)
    | (refine iteK_of (fun e => ?_) (fun e => ?_) <;> (refine h _ ?_; simp_all; done))
    | skip
  · exact ⟨eqOk_str oi, eqOk_str oj, h _ (by simp)⟩
  · exact h _ (by show (PyData.eqv .none .none = true ↔ _); simp [PyData.eqv])
end
end DC
namespace DC
open PySem DL
abbrev Pt := Rat × Rat
def ptD (p : Pt) : D := .tup [nfD p.1, nfD p.2]
def ringD (r : List Pt) : D := .tup (r.map ptD)
def ringsD (rs : List (List Pt)) : D := .tup (rs.map ringD)
def edgeD (e : Pt × Pt) : D := .tup [ptD e.1, ptD e.2]
def edgesFrom (f : Pt) : List Pt → List (Pt × Pt)
  | [] => []
  | [p] => [(p, f)]
  | p :: q :: r => (p, q) :: edgesFrom f (q :: r)
def edgesOf : List Pt → List (Pt × Pt)
  | [] => []
  | p :: r => edgesFrom p (p :: r)
def PtOk (b : Nat) (p : Pt) : Prop := Sz b p.1 ∧ Sz b p.2
def RgOk (b : Nat) (rs : List (List Pt)) : Prop := rs.length ≤ 1000 ∧ ∀ r ∈ rs, r.length ≤ 1000 ∧ ∀ p ∈ r, PtOk b p
def sideR (a b p : Pt) : Rat := (b.1 - a.1) * (p.2 - a.2) - (b.2 - a.2) * (p.1 - a.1)
def cross (p : Pt) (e : Pt × Pt) : Int :=
  if ¬ p.2 < e.1.2 ∧ p.2 < e.2.2 then (if 0 < sideR e.1 e.2 p then 1 else 0)
  else if ¬ p.2 < e.2.2 ∧ p.2 < e.1.2 then (if sideR e.1 e.2 p < 0 then -1 else 0) else 0
def wind (rs : List (List Pt)) (p : Pt) : Int := ((rs.flatMap edgesOf).map (cross p)).sum
def isIn (rs : List (List Pt)) (rule : Str) (p : Pt) : Bool := if rule = "whole" then decide (wind rs p ≠ 0) else decide ((wind rs p).fmod 2 = 1)

def sufE (ring suf : List Pt) : List D := match ring with
  | [] => []
  | f :: _ => (edgesFrom f suf).map edgeD
theorem T2_of {f : Rat → Rat → Rat} {p q : Rat} {G : Gh} {Q : D → Gh → Prop} {E : DX → Gh → Prop} (h1 : Sz 3000 p) (h2 : Sz 3000 q) (h : Q (nfD (f p q)) G) : T2 f [nfD p, nfD q] G Q E := ⟨p, q, rfl, h1, h2, h⟩
theorem Tless_of {p q : Rat} {G : Gh} {Q : D → Gh → Prop} {E : DX → Gh → Prop} (h1 : Sz 3000 p) (h2 : Sz 3000 q) (h : Q (.bl (decide (p < q))) G) : Tless [nfD p, nfD q] G Q E := ⟨p, q, rfl, h1, h2, h⟩
theorem sign_pos {q : Rat} : (0 < q.num.sign) = (0 < q) := by
  rw [Int.sign_pos_iff]
  apply propext
  rw [Rat.lt_iff]
  simp
theorem sign_neg' {q : Rat} : (q.num.sign < 0) = (q < 0) := by
  rw [Int.sign_neg_iff]
  apply propext
  rw [Rat.lt_iff]
  simp
section
variable {S : Sg} {N : List Str}
def cedg_5 : CSs := .cons (.ret (.loc 1)) .nil
def cedg_4 : CSs := .cons (.app 1 (.tup (.cons (.loc 4) (.cons (.idx .any (.loc 2) (.bin .mod (.bin .addP (.loc 3) (.cst (.int 1))) (.bi .lenP (.loc 2)))) .nil)))) .nil
def cedg_3 : CSs := .cons (.for (.tup (.cons (.name 3) (.cons (.name 4) .nil))) (.enum (.loc 2)) cedg_4) .nil
def cedg_2 : CSs := .cons (.for (.name 2) (.seq (.loc 0)) cedg_3) cedg_5
def cedg_1 : CSs := .cons (.set 1 (.lst .nil)) cedg_2
def Tedges : DSp := fun ds G Q _ => ∃ rs : List (List Pt), ds = [ringsD rs] ∧ rs.length ≤ 1000 ∧ (∀ r ∈ rs, r.length ≤ 1000) ∧ Q (.lst ((rs.flatMap edgesOf).map edgeD)) G
theorem edges_len (r : List Pt) : (edgesOf r).length = r.length := by
  have h : ∀ (f : Pt) (r : List Pt), (edgesFrom f r).length = r.length := by
    intro f r
    induction r with
    | nil => rfl
    | cons p r ih =>
      cases r with
      | nil => rfl
      | cons q r => simp only [edgesFrom, List.length_cons] at ih ⊢; rw [ih]
  cases r with
  | nil => rfl
  | cons p r => exact h p (p :: r)
theorem flat_len : ∀ (rs : List (List Pt)) (n : Nat), (∀ r ∈ rs, r.length ≤ n) → (rs.flatMap edgesOf).length ≤ n * rs.length
  | [], n, _ => by simp
  | r :: rs, n, h => by
    rw [List.flatMap_cons, List.length_append, edges_len, List.length_cons, Nat.mul_succ]
    have h1 := h r List.mem_cons_self
    have h2 := flat_len rs n fun r hr => h r (List.mem_cons_of_mem _ hr)
    omega
theorem run_edges (hN : N.length = 5) : ∀ ds G Q E, Tedges ds G Q E → runB S N cedg_1 ds G Q E := by
  rintro ds G Q E ⟨rs, rfl, hl, hr, h⟩
  simp only [run_eq, startL, hN, cedg_1, cedg_2, DL.e_loc, DL.e_cst, DL.e_gc, DL.e_bin, DL.e_neg, DL.e_cmp, DL.e_chn, DL.e_and, DL.e_or, DL.e_not, DL.e_ite, DL.e_idx, DL.e_gidx, DL.e_slc, DL.e_tup, DL.e_lst, DL.e_call, DL.e_bi, DL.e_inst, DL.e_comp, DL.e_nev, DL.e_nil, DL.e_cons, DL.e_no, DL.e_yes, DL.b_val, DL.b_cmp, DL.b_chn, DL.b_and, DL.b_or, DL.b_not, DL.b_no, DL.b_one, DL.i_seq, DL.i_rng1, DL.i_rng2, DL.i_enum, DL.i_zip, DL.s_set, DL.s_setF, DL.s_asg, DL.s_par, DL.s_par3, DL.s_aug, DL.s_app, DL.s_ext, DL.s_pop, DL.s_expr, DL.s_ret, DL.s_retT, DL.s_ite, DL.s_whl, DL.s_for, DL.s_gset, DL.s_brk, DL.s_cnt, DL.s_nil, DL.s_cons, DL.s_frz, DL.t_name, DL.t_tup, DL.t_nil, DL.t_cons, DL.t_len0, DL.t_len1, DL.k_locd, DL.k_loco, DL.k_neg, DL.k_tt, DL.k_ff, DL.k_any, DL.k_lst, DL.k_int, DL.k_dat, DL.k_ty, DL.k_keep, DL.k_own, DL.k_slot, DL.k_new, DL.k_seqt, DL.k_seql, DL.k_seqs, DL.k_seqo, DL.k_enut, DL.k_enul, DL.k_enuo, DL.k_zipt, DL.k_zipl, DL.k_gix, DL.k_gst, DL.k_setd, DL.k_seto, DL.a_dd, DL.a_do, DL.a_rd, DL.a_ro, DL.a_rb, DL.a_nil, DL.a_d, DL.a_o, DL.a_l, DL.a_lo, DL.a_lb, DL.o_add, DL.o_addb, DL.o_adds, DL.o_addt, DL.o_sub, DL.o_subb, DL.o_subbb, DL.o_iadd, DL.o_iaddb, DL.o_isub, DL.o_isubb, DL.o_mul, DL.o_fdiv, DL.o_mod, DL.o_lt, DL.o_le, DL.o_gt, DL.o_ge, DL.o_eq, DL.o_ne, DL.o_isn, DL.o_notn, DL.o_isb, DL.o_notb, DL.o_idxt, DL.o_idxl, DL.o_idxo, DL.o_idxb, DL.o_slct, DL.o_slcl, DL.o_slco, DL.o_slcb, DL.o_rev, DL.o_lent, DL.o_lenl, DL.o_lens, DL.o_leno, DL.o_lenb, DL.o_lenstr, DL.o_abs, DL.o_int, DL.o_intb, DL.o_tupo, DL.o_tupl, DL.o_tupt, DL.o_tupb, DL.o_lso, DL.o_lsl, DL.o_lst, DL.o_lss, DL.o_lsb, DL.o_all, DL.o_anyy, DL.o_sum, DL.o_sorted, DL.u_bl, DL.u_int, DL.u_non, DL.u_tup, DL.u_lst, DL.u_own, DL.u_bor, DL.x_0, DL.x_1, DL.x_2, DL.x_3, DL.x_4, DL.x_5, DL.y_tuplenon, DL.y_tuplebl, DL.y_tupleint, DL.y_tuplestr, DL.y_tupletup, DL.y_tuplelst, DL.y_listnon, DL.y_listbl, DL.y_listint, DL.y_liststr, DL.y_listtup, DL.y_listlst, DL.y_dictnon, DL.y_dictbl, DL.y_dictint, DL.y_dictstr, DL.y_dicttup, DL.y_dictlst, DL.y_strnon, DL.y_strbl, DL.y_strint, DL.y_strstr, DL.y_strtup, DL.y_strlst, DL.y_intnon, DL.y_intbl, DL.y_intint, DL.y_intstr, DL.y_inttup, DL.y_intlst, DL.y_boolnon, DL.y_boolbl, DL.y_boolint, DL.y_boolstr, DL.y_booltup, DL.y_boollst, DL.j_n1, DL.j_n2, DL.j_n3, DL.j_n4, DL.j_n5, DL.j_f1, DL.j_f2, DL.j_f3, DL.j_f4, DL.j_f5, DL.j_w1, DL.j_w2, DL.j_w3, DL.j_w4, DL.j_w5, DL.j_01, DL.j_02, DL.j_03, DL.eqD_int, DL.eqOk_int, List.getElem?_cons_zero, List.getElem?_cons_succ, List.set_cons_zero, List.set_cons_succ, List.length_cons, List.length_nil, Option.map_some, Option.map_none, true_and, eq_self, List.map_cons, List.map_nil, Nat.reduceAdd, Nat.reduceSub, List.replicate_succ, List.replicate_zero, List.append_nil, List.cons_append, List.nil_append, ringsD]
  refine ⟨by decide, ?_⟩
  generalize hX : D.tup (rs.map ringD) = X
  -- one ring
  have inner : ∀ (R : En) (ring : List Pt), ring.length ≤ 1000 → ∀ (suf pre : List Pt) (acc : List D) (y z : Option SV), ring = pre ++ suf → acc.length + suf.length ≤ 1000000 →
      (∀ y z, suf ≠ [] ∨ suf = [] → R.nx [some (.d X), some (.own (acc ++ sufE ring suf)), some (.d (ringD ring)), y, z] G) →
      forK S (.tup (.cons (.name 3) (.cons (.name 4) .nil))) cedg_4 (enumD pre.length (suf.map ptD)) R [some (.d X), some (.own acc), some (.d (ringD ring)), y, z] G := by
    intro R ring hring suf
    induction suf with
    | nil =>
      intro pre acc y z e1 e2 k
      simp only [List.map_nil, enumD, f_nil]
      have := k y z (.inr rfl)
      cases ring with
      | nil => simpa [sufE] using this
      | cons f r => simpa [edgesFrom, sufE] using this
    | cons p suf ih =>
      intro pre acc y z e1 e2 k
      simp only [List.map_cons, enumD, f_cons, cedg_4, DL.e_loc, DL.e_cst, DL.e_gc, DL.e_bin, DL.e_neg, DL.e_cmp, DL.e_chn, DL.e_and, DL.e_or, DL.e_not, DL.e_ite, DL.e_idx, DL.e_gidx, DL.e_slc, DL.e_tup, DL.e_lst, DL.e_call, DL.e_bi, DL.e_inst, DL.e_comp, DL.e_nev, DL.e_nil, DL.e_cons, DL.e_no, DL.e_yes, DL.b_val, DL.b_cmp, DL.b_chn, DL.b_and, DL.b_or, DL.b_not, DL.b_no, DL.b_one, DL.i_seq, DL.i_rng1, DL.i_rng2, DL.i_enum, DL.i_zip, DL.s_set, DL.s_setF, DL.s_asg, DL.s_par, DL.s_par3, DL.s_aug, DL.s_app, DL.s_ext, DL.s_pop, DL.s_expr, DL.s_ret, DL.s_retT, DL.s_ite, DL.s_whl, DL.s_for, DL.s_gset, DL.s_brk, DL.s_cnt, DL.s_nil, DL.s_cons, DL.s_frz, DL.t_name, DL.t_tup, DL.t_nil, DL.t_cons, DL.t_len0, DL.t_len1, DL.k_locd, DL.k_loco, DL.k_neg, DL.k_tt, DL.k_ff, DL.k_any, DL.k_lst, DL.k_int, DL.k_dat, DL.k_ty, DL.k_keep, DL.k_own, DL.k_slot, DL.k_new, DL.k_seqt, DL.k_seql, DL.k_seqs, DL.k_seqo, DL.k_enut, DL.k_enul, DL.k_enuo, DL.k_zipt, DL.k_zipl, DL.k_gix, DL.k_gst, DL.k_setd, DL.k_seto, DL.a_dd, DL.a_do, DL.a_rd, DL.a_ro, DL.a_rb, DL.a_nil, DL.a_d, DL.a_o, DL.a_l, DL.a_lo, DL.a_lb, DL.o_add, DL.o_addb, DL.o_adds, DL.o_addt, DL.o_sub, DL.o_subb, DL.o_subbb, DL.o_iadd, DL.o_iaddb, DL.o_isub, DL.o_isubb, DL.o_mul, DL.o_fdiv, DL.o_mod, DL.o_lt, DL.o_le, DL.o_gt, DL.o_ge, DL.o_eq, DL.o_ne, DL.o_isn, DL.o_notn, DL.o_isb, DL.o_notb, DL.o_idxt, DL.o_idxl, DL.o_idxo, DL.o_idxb, DL.o_slct, DL.o_slcl, DL.o_slco, DL.o_slcb, DL.o_rev, DL.o_lent, DL.o_lenl, DL.o_lens, DL.o_leno, DL.o_lenb, DL.o_lenstr, DL.o_abs, DL.o_int, DL.o_intb, DL.o_tupo, DL.o_tupl, DL.o_tupt, DL.o_tupb, DL.o_lso, DL.o_lsl, DL.o_lst, DL.o_lss, DL.o_lsb, DL.o_all, DL.o_anyy, DL.o_sum, DL.o_sorted, DL.u_bl, DL.u_int, DL.u_non, DL.u_tup, DL.u_lst, DL.u_own, DL.u_bor, DL.x_0, DL.x_1, DL.x_2, DL.x_3, DL.x_4, DL.x_5, DL.y_tuplenon, DL.y_tuplebl, DL.y_tupleint, DL.y_tuplestr, DL.y_tupletup, DL.y_tuplelst, DL.y_listnon, DL.y_listbl, DL.y_listint, DL.y_liststr, DL.y_listtup, DL.y_listlst, DL.y_dictnon, DL.y_dictbl, DL.y_dictint, DL.y_dictstr, DL.y_dicttup, DL.y_dictlst, DL.y_strnon, DL.y_strbl, DL.y_strint, DL.y_strstr, DL.y_strtup, DL.y_strlst, DL.y_intnon, DL.y_intbl, DL.y_intint, DL.y_intstr, DL.y_inttup, DL.y_intlst, DL.y_boolnon, DL.y_boolbl, DL.y_boolint, DL.y_boolstr, DL.y_booltup, DL.y_boollst, DL.j_n1, DL.j_n2, DL.j_n3, DL.j_n4, DL.j_n5, DL.j_f1, DL.j_f2, DL.j_f3, DL.j_f4, DL.j_f5, DL.j_w1, DL.j_w2, DL.j_w3, DL.j_w4, DL.j_w5, DL.j_01, DL.j_02, DL.j_03, DL.eqD_int, DL.eqOk_int, List.getElem?_cons_zero, List.getElem?_cons_succ, List.set_cons_zero, List.set_cons_succ, List.length_cons, List.length_nil, Option.map_some, Option.map_none, true_and, eq_self, ringD]
      have hn : ring.length = pre.length + suf.length + 1 := by rw [e1]; simp; omega
      have hrl : ((ring.map ptD).length : Int) = ring.length := by rw [List.length_map]
      refine ⟨by omega, ?_⟩
      -- the next point
      have nxt : ∃ (j : Nat) (q : Pt), (((pre.length : Nat) : Int) + 1).fmod ((ring.map ptD).length : Int) = j ∧ (ring.map ptD)[j]? = some (ptD q) ∧
          sufE ring (p :: suf) = edgeD (p, q) :: sufE ring suf := by
        rw [hrl, Int.fmod_eq_emod_of_nonneg _ (by omega)]
        cases suf with
        | nil =>
          cases ring with
          | nil => simp at hn
          | cons f r =>
            refine ⟨0, f, ?_, by simp, by simp [edgesFrom, sufE]⟩
            have : ((pre.length : Int) + 1) = ((f :: r).length : Nat) := by simp only [List.length_nil] at hn; omega
            rw [this]
            exact Int.emod_self
        | cons q r =>
          refine ⟨pre.length + 1, q, ?_, ?_, ?_⟩
          · rw [Int.emod_eq_of_lt (by omega) (by simp only [List.length_cons] at hn; omega)]
            omega
          · rw [List.getElem?_map, e1, List.getElem?_append_right (by omega)]
            simp
          · cases ring with
            | nil => simp at hn
            | cons f r' => simp [edgesFrom, sufE]
      obtain ⟨j, q, h1, h2, h3⟩ := nxt
      rw [h1, x_n h2]
      refine ⟨Nat.le_of_ble_eq_true rfl, by simp only [List.length_cons] at e2; omega, ?_⟩
      have e3 : ring = (pre ++ [p]) ++ suf := by rw [e1]; simp
      have := ih (pre ++ [p]) (acc ++ [edgeD (p, q)]) (some (.d (.int (pre.length : Nat)))) (some (.d (ptD p))) e3 (by simp only [List.length_append, List.length_cons, List.length_nil] at e2 ⊢; omega) (fun y z _ => by
        have := k y z (.inl (by simp))
        rw [h3] at this
        rw [List.append_assoc]
        exact this)
      rw [List.length_append, List.length_singleton] at this
      exact this
  have outer : ∀ (suf pre : List (List Pt)) (x y z : Option SV), rs = pre ++ suf → forK S (.name 2) cedg_3 (suf.map ringD) (Rn S cedg_5 (R0 Q E))
      [some (.d X), some (.own ((pre.flatMap edgesOf).map edgeD)), x, y, z] G := by
    intro suf
    induction suf with
    | nil =>
      intro pre x y z e
      simp only [List.map_nil, f_nil, cedg_5, DL.e_loc, DL.e_cst, DL.e_gc, DL.e_bin, DL.e_neg, DL.e_cmp, DL.e_chn, DL.e_and, DL.e_or, DL.e_not, DL.e_ite, DL.e_idx, DL.e_gidx, DL.e_slc, DL.e_tup, DL.e_lst, DL.e_call, DL.e_bi, DL.e_inst, DL.e_comp, DL.e_nev, DL.e_nil, DL.e_cons, DL.e_no, DL.e_yes, DL.b_val, DL.b_cmp, DL.b_chn, DL.b_and, DL.b_or, DL.b_not, DL.b_no, DL.b_one, DL.i_seq, DL.i_rng1, DL.i_rng2, DL.i_enum, DL.i_zip, DL.s_set, DL.s_setF, DL.s_asg, DL.s_par, DL.s_par3, DL.s_aug, DL.s_app, DL.s_ext, DL.s_pop, DL.s_expr, DL.s_ret, DL.s_retT, DL.s_ite, DL.s_whl, DL.s_for, DL.s_gset, DL.s_brk, DL.s_cnt, DL.s_nil, DL.s_cons, DL.s_frz, DL.t_name, DL.t_tup, DL.t_nil, DL.t_cons, DL.t_len0, DL.t_len1, DL.k_locd, DL.k_loco, DL.k_neg, DL.k_tt, DL.k_ff, DL.k_any, DL.k_lst, DL.k_int, DL.k_dat, DL.k_ty, DL.k_keep, DL.k_own, DL.k_slot, DL.k_new, DL.k_seqt, DL.k_seql, DL.k_seqs, DL.k_seqo, DL.k_enut, DL.k_enul, DL.k_enuo, DL.k_zipt, DL.k_zipl, DL.k_gix, DL.k_gst, DL.k_setd, DL.k_seto, DL.a_dd, DL.a_do, DL.a_rd, DL.a_ro, DL.a_rb, DL.a_nil, DL.a_d, DL.a_o, DL.a_l, DL.a_lo, DL.a_lb, DL.o_add, DL.o_addb, DL.o_adds, DL.o_addt, DL.o_sub, DL.o_subb, DL.o_subbb, DL.o_iadd, DL.o_iaddb, DL.o_isub, DL.o_isubb, DL.o_mul, DL.o_fdiv, DL.o_mod, DL.o_lt, DL.o_le, DL.o_gt, DL.o_ge, DL.o_eq, DL.o_ne, DL.o_isn, DL.o_notn, DL.o_isb, DL.o_notb, DL.o_idxt, DL.o_idxl, DL.o_idxo, DL.o_idxb, DL.o_slct, DL.o_slcl, DL.o_slco, DL.o_slcb, DL.o_rev, DL.o_lent, DL.o_lenl, DL.o_lens, DL.o_leno, DL.o_lenb, DL.o_lenstr, DL.o_abs, DL.o_int, DL.o_intb, DL.o_tupo, DL.o_tupl, DL.o_tupt, DL.o_tupb, DL.o_lso, DL.o_lsl, DL.o_lst, DL.o_lss, DL.o_lsb, DL.o_all, DL.o_anyy, DL.o_sum, DL.o_sorted, DL.u_bl, DL.u_int, DL.u_non, DL.u_tup, DL.u_lst, DL.u_own, DL.u_bor, DL.x_0, DL.x_1, DL.x_2, DL.x_3, DL.x_4, DL.x_5, DL.y_tuplenon, DL.y_tuplebl, DL.y_tupleint, DL.y_tuplestr, DL.y_tupletup, DL.y_tuplelst, DL.y_listnon, DL.y_listbl, DL.y_listint, DL.y_liststr, DL.y_listtup, DL.y_listlst, DL.y_dictnon, DL.y_dictbl, DL.y_dictint, DL.y_dictstr, DL.y_dicttup, DL.y_dictlst, DL.y_strnon, DL.y_strbl, DL.y_strint, DL.y_strstr, DL.y_strtup, DL.y_strlst, DL.y_intnon, DL.y_intbl, DL.y_intint, DL.y_intstr, DL.y_inttup, DL.y_intlst, DL.y_boolnon, DL.y_boolbl, DL.y_boolint, DL.y_boolstr, DL.y_booltup, DL.y_boollst, DL.j_n1, DL.j_n2, DL.j_n3, DL.j_n4, DL.j_n5, DL.j_f1, DL.j_f2, DL.j_f3, DL.j_f4, DL.j_f5, DL.j_w1, DL.j_w2, DL.j_w3, DL.j_w4, DL.j_w5, DL.j_01, DL.j_02, DL.j_03, DL.eqD_int, DL.eqOk_int, List.getElem?_cons_zero, List.getElem?_cons_succ, List.set_cons_zero, List.set_cons_succ, List.length_cons, List.length_nil, Option.map_some, Option.map_none, true_and, eq_self]
      rw [e, List.append_nil] at h
      exact h
    | cons r suf ih =>
      intro pre x y z e
      have hr1 : r.length ≤ 1000 := hr r (by rw [e]; simp)
      simp only [List.map_cons, f_cons, cedg_3, DL.e_loc, DL.e_cst, DL.e_gc, DL.e_bin, DL.e_neg, DL.e_cmp, DL.e_chn, DL.e_and, DL.e_or, DL.e_not, DL.e_ite, DL.e_idx, DL.e_gidx, DL.e_slc, DL.e_tup, DL.e_lst, DL.e_call, DL.e_bi, DL.e_inst, DL.e_comp, DL.e_nev, DL.e_nil, DL.e_cons, DL.e_no, DL.e_yes, DL.b_val, DL.b_cmp, DL.b_chn, DL.b_and, DL.b_or, DL.b_not, DL.b_no, DL.b_one, DL.i_seq, DL.i_rng1, DL.i_rng2, DL.i_enum, DL.i_zip, DL.s_set, DL.s_setF, DL.s_asg, DL.s_par, DL.s_par3, DL.s_aug, DL.s_app, DL.s_ext, DL.s_pop, DL.s_expr, DL.s_ret, DL.s_retT, DL.s_ite, DL.s_whl, DL.s_for, DL.s_gset, DL.s_brk, DL.s_cnt, DL.s_nil, DL.s_cons, DL.s_frz, DL.t_name, DL.t_tup, DL.t_nil, DL.t_cons, DL.t_len0, DL.t_len1, DL.k_locd, DL.k_loco, DL.k_neg, DL.k_tt, DL.k_ff, DL.k_any, DL.k_lst, DL.k_int, DL.k_dat, DL.k_ty, DL.k_keep, DL.k_own, DL.k_slot, DL.k_new, DL.k_seqt, DL.k_seql, DL.k_seqs, DL.k_seqo, DL.k_enut, DL.k_enul, DL.k_enuo, DL.k_zipt, DL.k_zipl, DL.k_gix, DL.k_gst, DL.k_setd, DL.k_seto, DL.a_dd, DL.a_do, DL.a_rd, DL.a_ro, DL.a_rb, DL.a_nil, DL.a_d, DL.a_o, DL.a_l, DL.a_lo, DL.a_lb, DL.o_add, DL.o_addb, DL.o_adds, DL.o_addt, DL.o_sub, DL.o_subb, DL.o_subbb, DL.o_iadd, DL.o_iaddb, DL.o_isub, DL.o_isubb, DL.o_mul, DL.o_fdiv, DL.o_mod, DL.o_lt, DL.o_le, DL.o_gt, DL.o_ge, DL.o_eq, DL.o_ne, DL.o_isn, DL.o_notn, DL.o_isb, DL.o_notb, DL.o_idxt, DL.o_idxl, DL.o_idxo, DL.o_idxb, DL.o_slct, DL.o_slcl, DL.o_slco, DL.o_slcb, DL.o_rev, DL.o_lent, DL.o_lenl, DL.o_lens, DL.o_leno, DL.o_lenb, DL.o_lenstr, DL.o_abs, DL.o_int, DL.o_intb, DL.o_tupo, DL.o_tupl, DL.o_tupt, DL.o_tupb, DL.o_lso, DL.o_lsl, DL.o_lst, DL.o_lss, DL.o_lsb, DL.o_all, DL.o_anyy, DL.o_sum, DL.o_sorted, DL.u_bl, DL.u_int, DL.u_non, DL.u_tup, DL.u_lst, DL.u_own, DL.u_bor, DL.x_0, DL.x_1, DL.x_2, DL.x_3, DL.x_4, DL.x_5, DL.y_tuplenon, DL.y_tuplebl, DL.y_tupleint, DL.y_tuplestr, DL.y_tupletup, DL.y_tuplelst, DL.y_listnon, DL.y_listbl, DL.y_listint, DL.y_liststr, DL.y_listtup, DL.y_listlst, DL.y_dictnon, DL.y_dictbl, DL.y_dictint, DL.y_dictstr, DL.y_dicttup, DL.y_dictlst, DL.y_strnon, DL.y_strbl, DL.y_strint, DL.y_strstr, DL.y_strtup, DL.y_strlst, DL.y_intnon, DL.y_intbl, DL.y_intint, DL.y_intstr, DL.y_inttup, DL.y_intlst, DL.y_boolnon, DL.y_boolbl, DL.y_boolint, DL.y_boolstr, DL.y_booltup, DL.y_boollst, DL.j_n1, DL.j_n2, DL.j_n3, DL.j_n4, DL.j_n5, DL.j_f1, DL.j_f2, DL.j_f3, DL.j_f4, DL.j_f5, DL.j_w1, DL.j_w2, DL.j_w3, DL.j_w4, DL.j_w5, DL.j_01, DL.j_02, DL.j_03, DL.eqD_int, DL.eqOk_int, List.getElem?_cons_zero, List.getElem?_cons_succ, List.set_cons_zero, List.set_cons_succ, List.length_cons, List.length_nil, Option.map_some, Option.map_none, true_and, eq_self]
      have er : ringD r = .tup (r.map ptD) := rfl
      rw [er, k_enut, ← er]
      have hlen : (pre.flatMap edgesOf).length ≤ 1000 * pre.length := flat_len pre 1000 fun r h => hr r (by rw [e]; simp [h])
      have hpl : pre.length + suf.length + 1 ≤ 1000 := by rw [e] at hl; simp at hl; omega
      refine inner _ r hr1 r [] _ y z rfl (by rw [List.length_map]; omega) (fun y z _ => ?_)
      have ee : (pre.flatMap edgesOf).map edgeD ++ sufE r r = ((pre ++ [r]).flatMap edgesOf).map edgeD := by
        rw [List.flatMap_append, List.map_append]
        congr 1
        cases r <;> simp [edgesOf, sufE]
      rw [ee]
      exact ih (pre ++ [r]) _ y z (by rw [e]; simp)
  have := outer rs [] none none none (by simp)
  simpa using this
end
end DC
namespace DC
open PySem DL
theorem Tneg_of {p : Rat} {G : Gh} {Q : D → Gh → Prop} {E : DX → Gh → Prop} (h : Q (nfD (-p)) G) : Tneg [nfD p] G Q E := ⟨p, rfl, h⟩
theorem Tsign_of {p : Rat} {G : Gh} {Q : D → Gh → Prop} {E : DX → Gh → Prop} (h : Q (.int p.num.sign) G) : Tsign [nfD p] G Q E := ⟨p, rfl, h⟩
theorem x_nf0 {q : Rat} {k : EV → Prop} : opI .any (.d (nfD q)) (.d (.int 0)) k = k (.d (.int q.num)) := by
  show idxK [.int q.num, .int q.den] 0 k = _
  rw [x_0]
theorem x_pt0 {p : Pt} {k : EV → Prop} : opI .any (.d (ptD p)) (.d (.int 0)) k = k (.d (nfD p.1)) := by
  show idxK [nfD p.1, nfD p.2] 0 k = _
  rw [x_0]
theorem x_pt1 {p : Pt} {k : EV → Prop} : opI .any (.d (ptD p)) (.d (.int 1)) k = k (.d (nfD p.2)) := by
  show idxK [nfD p.1, nfD p.2] 1 k = _
  rw [x_1]
theorem t_pt {ts : CTs} {p : Pt} {L : DL.Loc} {k : DL.Loc → Prop} : bindT (.tup ts) (ptD p) L k = (2 = CTs.len ts ∧ bindTs ts [nfD p.1, nfD p.2] L k) := rfl
theorem t_edge {ts : CTs} {e : Pt × Pt} {L : DL.Loc} {k : DL.Loc → Prop} : bindT (.tup ts) (edgeD e) L k = (2 = CTs.len ts ∧ bindTs ts [ptD e.1, ptD e.2] L k) := rfl
theorem k_seqr {r : List Pt} {k : List D → Prop} : seqK (.d (ringD r)) k = k (r.map ptD) := rfl
theorem k_seqrs {r : List (List Pt)} {k : List D → Prop} : seqK (.d (ringsD r)) k = k (r.map ringD) := rfl
theorem o_lenr {r : List Pt} {k : EV → Prop} : opBI .lenP (.d (ringD r)) k = k (.d (.int r.length)) := by
  show k (.d (.int ((r.map ptD).length : Nat))) = _
  rw [List.length_map]
theorem x_ring {r : List Pt} {n : Nat} {p : Pt} {k : EV → Prop} (h : r[n]? = some p) : opI .any (.d (ringD r)) (.d (.int n)) k = k (.d (ptD p)) := by
  show idxK (r.map ptD) n k = _
  exact x_n (by rw [List.getElem?_map, h]; rfl)
section
variable {S : Sg} {N : List Str} {k1 k2 k3 : Nat}
def Tside : DSp := fun ds G Q _ => ∃ a b p, ds = [ptD a, ptD b, ptD p] ∧ PtOk 100 a ∧ PtOk 100 b ∧ PtOk 100 p ∧ Q (.int (sideR a b p).num.sign) G
def csd_3 (k1 k2 k3 : Nat) : CSs := .cons (.ret (.call k3 (.cons (.call k1 (.cons (.loc 3) (.cons (.loc 4) .nil))) .nil))) .nil
def csd_2 (k1 k2 k3 : Nat) : CSs := .cons (.setF 4 (.call k2 (.cons (.call k1 (.cons (.idx .any (.loc 1) (.cst (.int 1))) (.cons (.idx .any (.loc 0) (.cst (.int 1))) .nil))) (.cons (.call k1 (.cons (.idx .any (.loc 2) (.cst (.int 0))) (.cons (.idx .any (.loc 0) (.cst (.int 0))) .nil))) .nil)))) (csd_3 k1 k2 k3)
def csd_1 (k1 k2 k3 : Nat) : CSs := .cons (.setF 3 (.call k2 (.cons (.call k1 (.cons (.idx .any (.loc 1) (.cst (.int 0))) (.cons (.idx .any (.loc 0) (.cst (.int 0))) .nil))) (.cons (.call k1 (.cons (.idx .any (.loc 2) (.cst (.int 1))) (.cons (.idx .any (.loc 0) (.cst (.int 1))) .nil))) .nil)))) (csd_2 k1 k2 k3)
theorem run_side (hN : N.length = 5) (h1 : S.sp k1 = T2 (· - ·)) (h2 : S.sp k2 = T2 (· * ·)) (h3 : S.sp k3 = Tsign) : ∀ ds G Q E, Tside ds G Q E → runB S N (csd_1 k1 k2 k3) ds G Q E := by
  rintro ds G Q E ⟨a, b, p, rfl, oa, ob, op, h⟩
  have s1 := (ob.1.sub oa.1); have s2 := (op.2.sub oa.2); have s3 := ob.2.sub oa.2; have s4 := op.1.sub oa.1
  simp only [run_eq, startL, hN, csd_1, DL.e_loc, DL.e_cst, DL.e_gc, DL.e_bin, DL.e_neg, DL.e_cmp, DL.e_chn, DL.e_and, DL.e_or, DL.e_not, DL.e_ite, DL.e_idx, DL.e_gidx, DL.e_slc, DL.e_tup, DL.e_lst, DL.e_call, DL.e_bi, DL.e_inst, DL.e_comp, DL.e_nev, DL.e_nil, DL.e_cons, DL.e_no, DL.e_yes, DL.b_val, DL.b_cmp, DL.b_chn, DL.b_and, DL.b_or, DL.b_not, DL.b_no, DL.b_one, DL.i_seq, DL.i_rng1, DL.i_rng2, DL.i_enum, DL.i_zip, DL.s_set, DL.s_setF, DL.s_asg, DL.s_par, DL.s_par3, DL.s_aug, DL.s_app, DL.s_ext, DL.s_pop, DL.s_expr, DL.s_ret, DL.s_retT, DL.s_ite, DL.s_whl, DL.s_for, DL.s_gset, DL.s_brk, DL.s_cnt, DL.s_nil, DL.s_cons, DL.s_frz, DL.t_name, DL.t_tup, DL.t_nil, DL.t_cons, DL.t_len0, DL.t_len1, DL.k_locd, DL.k_loco, DL.k_neg, DL.k_tt, DL.k_ff, DL.k_any, DL.k_lst, DL.k_int, DL.k_dat, DL.k_ty, DL.k_keep, DL.k_own, DL.k_slot, DL.k_new, DL.k_seqt, DL.k_seql, DL.k_seqs, DL.k_seqo, DL.k_enut, DL.k_enul, DL.k_enuo, DL.k_zipt, DL.k_zipl, DL.k_gix, DL.k_gst, DL.k_setd, DL.k_seto, DL.a_dd, DL.a_do, DL.a_rd, DL.a_ro, DL.a_rb, DL.a_nil, DL.a_d, DL.a_o, DL.a_l, DL.a_lo, DL.a_lb, DL.o_add, DL.o_addb, DL.o_adds, DL.o_addt, DL.o_sub, DL.o_subb, DL.o_subbb, DL.o_iadd, DL.o_iaddb, DL.o_isub, DL.o_isubb, DL.o_mul, DL.o_fdiv, DL.o_mod, DL.o_lt, DL.o_le, DL.o_gt, DL.o_ge, DL.o_eq, DL.o_ne, DL.o_isn, DL.o_notn, DL.o_isb, DL.o_notb, DL.o_idxt, DL.o_idxl, DL.o_idxo, DL.o_idxb, DL.o_slct, DL.o_slcl, DL.o_slco, DL.o_slcb, DL.o_rev, DL.o_lent, DL.o_lenl, DL.o_lens, DL.o_leno, DL.o_lenb, DL.o_lenstr, DL.o_abs, DL.o_int, DL.o_intb, DL.o_tupo, DL.o_tupl, DL.o_tupt, DL.o_tupb, DL.o_lso, DL.o_lsl, DL.o_lst, DL.o_lss, DL.o_lsb, DL.o_all, DL.o_anyy, DL.o_sum, DL.o_sorted, DL.u_bl, DL.u_int, DL.u_non, DL.u_tup, DL.u_lst, DL.u_own, DL.u_bor, DL.x_0, DL.x_1, DL.x_2, DL.x_3, DL.x_4, DL.x_5, DL.y_tuplenon, DL.y_tuplebl, DL.y_tupleint, DL.y_tuplestr, DL.y_tupletup, DL.y_tuplelst, DL.y_listnon, DL.y_listbl, DL.y_listint, DL.y_liststr, DL.y_listtup, DL.y_listlst, DL.y_dictnon, DL.y_dictbl, DL.y_dictint, DL.y_dictstr, DL.y_dicttup, DL.y_dictlst, DL.y_strnon, DL.y_strbl, DL.y_strint, DL.y_strstr, DL.y_strtup, DL.y_strlst, DL.y_intnon, DL.y_intbl, DL.y_intint, DL.y_intstr, DL.y_inttup, DL.y_intlst, DL.y_boolnon, DL.y_boolbl, DL.y_boolint, DL.y_boolstr, DL.y_booltup, DL.y_boollst, DL.j_n1, DL.j_n2, DL.j_n3, DL.j_n4, DL.j_n5, DL.j_f1, DL.j_f2, DL.j_f3, DL.j_f4, DL.j_f5, DL.j_w1, DL.j_w2, DL.j_w3, DL.j_w4, DL.j_w5, DL.j_01, DL.j_02, DL.j_03, DL.eqD_int, DL.eqOk_int, List.getElem?_cons_zero, List.getElem?_cons_succ, List.set_cons_zero, List.set_cons_succ, List.length_cons, List.length_nil, Option.map_some, Option.map_none, true_and, eq_self, List.map_cons, List.map_nil, Nat.reduceAdd, Nat.reduceSub, List.replicate_succ, List.replicate_zero, List.append_nil, List.cons_append, List.nil_append, x_pt0, x_pt1, h1, h2]
  refine T2_of (ob.1.mono (by decide)) (oa.1.mono (by decide)) (T2_of (op.2.mono (by decide)) (oa.2.mono (by decide)) (T2_of (s1.mono (by decide)) (s2.mono (by decide)) ?_))
  simp only [csd_2, DL.e_loc, DL.e_cst, DL.e_gc, DL.e_bin, DL.e_neg, DL.e_cmp, DL.e_chn, DL.e_and, DL.e_or, DL.e_not, DL.e_ite, DL.e_idx, DL.e_gidx, DL.e_slc, DL.e_tup, DL.e_lst, DL.e_call, DL.e_bi, DL.e_inst, DL.e_comp, DL.e_nev, DL.e_nil, DL.e_cons, DL.e_no, DL.e_yes, DL.b_val, DL.b_cmp, DL.b_chn, DL.b_and, DL.b_or, DL.b_not, DL.b_no, DL.b_one, DL.i_seq, DL.i_rng1, DL.i_rng2, DL.i_enum, DL.i_zip, DL.s_set, DL.s_setF, DL.s_asg, DL.s_par, DL.s_par3, DL.s_aug, DL.s_app, DL.s_ext, DL.s_pop, DL.s_expr, DL.s_ret, DL.s_retT, DL.s_ite, DL.s_whl, DL.s_for, DL.s_gset, DL.s_brk, DL.s_cnt, DL.s_nil, DL.s_cons, DL.s_frz, DL.t_name, DL.t_tup, DL.t_nil, DL.t_cons, DL.t_len0, DL.t_len1, DL.k_locd, DL.k_loco, DL.k_neg, DL.k_tt, DL.k_ff, DL.k_any, DL.k_lst, DL.k_int, DL.k_dat, DL.k_ty, DL.k_keep, DL.k_own, DL.k_slot, DL.k_new, DL.k_seqt, DL.k_seql, DL.k_seqs, DL.k_seqo, DL.k_enut, DL.k_enul, DL.k_enuo, DL.k_zipt, DL.k_zipl, DL.k_gix, DL.k_gst, DL.k_setd, DL.k_seto, DL.a_dd, DL.a_do, DL.a_rd, DL.a_ro, DL.a_rb, DL.a_nil, DL.a_d, DL.a_o, DL.a_l, DL.a_lo, DL.a_lb, DL.o_add, DL.o_addb, DL.o_adds, DL.o_addt, DL.o_sub, DL.o_subb, DL.o_subbb, DL.o_iadd, DL.o_iaddb, DL.o_isub, DL.o_isubb, DL.o_mul, DL.o_fdiv, DL.o_mod, DL.o_lt, DL.o_le, DL.o_gt, DL.o_ge, DL.o_eq, DL.o_ne, DL.o_isn, DL.o_notn, DL.o_isb, DL.o_notb, DL.o_idxt, DL.o_idxl, DL.o_idxo, DL.o_idxb, DL.o_slct, DL.o_slcl, DL.o_slco, DL.o_slcb, DL.o_rev, DL.o_lent, DL.o_lenl, DL.o_lens, DL.o_leno, DL.o_lenb, DL.o_lenstr, DL.o_abs, DL.o_int, DL.o_intb, DL.o_tupo, DL.o_tupl, DL.o_tupt, DL.o_tupb, DL.o_lso, DL.o_lsl, DL.o_lst, DL.o_lss, DL.o_lsb, DL.o_all, DL.o_anyy, DL.o_sum, DL.o_sorted, DL.u_bl, DL.u_int, DL.u_non, DL.u_tup, DL.u_lst, DL.u_own, DL.u_bor, DL.x_0, DL.x_1, DL.x_2, DL.x_3, DL.x_4, DL.x_5, DL.y_tuplenon, DL.y_tuplebl, DL.y_tupleint, DL.y_tuplestr, DL.y_tupletup, DL.y_tuplelst, DL.y_listnon, DL.y_listbl, DL.y_listint, DL.y_liststr, DL.y_listtup, DL.y_listlst, DL.y_dictnon, DL.y_dictbl, DL.y_dictint, DL.y_dictstr, DL.y_dicttup, DL.y_dictlst, DL.y_strnon, DL.y_strbl, DL.y_strint, DL.y_strstr, DL.y_strtup, DL.y_strlst, DL.y_intnon, DL.y_intbl, DL.y_intint, DL.y_intstr, DL.y_inttup, DL.y_intlst, DL.y_boolnon, DL.y_boolbl, DL.y_boolint, DL.y_boolstr, DL.y_booltup, DL.y_boollst, DL.j_n1, DL.j_n2, DL.j_n3, DL.j_n4, DL.j_n5, DL.j_f1, DL.j_f2, DL.j_f3, DL.j_f4, DL.j_f5, DL.j_w1, DL.j_w2, DL.j_w3, DL.j_w4, DL.j_w5, DL.j_01, DL.j_02, DL.j_03, DL.eqD_int, DL.eqOk_int, List.getElem?_cons_zero, List.getElem?_cons_succ, List.set_cons_zero, List.set_cons_succ, List.length_cons, List.length_nil, Option.map_some, Option.map_none, true_and, eq_self, x_pt0, x_pt1, h1, h2]
  refine T2_of (ob.2.mono (by decide)) (oa.2.mono (by decide)) (T2_of (op.1.mono (by decide)) (oa.1.mono (by decide)) (T2_of (s3.mono (by decide)) (s4.mono (by decide)) ?_))
  simp only [csd_3, DL.e_loc, DL.e_cst, DL.e_gc, DL.e_bin, DL.e_neg, DL.e_cmp, DL.e_chn, DL.e_and, DL.e_or, DL.e_not, DL.e_ite, DL.e_idx, DL.e_gidx, DL.e_slc, DL.e_tup, DL.e_lst, DL.e_call, DL.e_bi, DL.e_inst, DL.e_comp, DL.e_nev, DL.e_nil, DL.e_cons, DL.e_no, DL.e_yes, DL.b_val, DL.b_cmp, DL.b_chn, DL.b_and, DL.b_or, DL.b_not, DL.b_no, DL.b_one, DL.i_seq, DL.i_rng1, DL.i_rng2, DL.i_enum, DL.i_zip, DL.s_set, DL.s_setF, DL.s_asg, DL.s_par, DL.s_par3, DL.s_aug, DL.s_app, DL.s_ext, DL.s_pop, DL.s_expr, DL.s_ret, DL.s_retT, DL.s_ite, DL.s_whl, DL.s_for, DL.s_gset, DL.s_brk, DL.s_cnt, DL.s_nil, DL.s_cons, DL.s_frz, DL.t_name, DL.t_tup, DL.t_nil, DL.t_cons, DL.t_len0, DL.t_len1, DL.k_locd, DL.k_loco, DL.k_neg, DL.k_tt, DL.k_ff, DL.k_any, DL.k_lst, DL.k_int, DL.k_dat, DL.k_ty, DL.k_keep, DL.k_own, DL.k_slot, DL.k_new, DL.k_seqt, DL.k_seql, DL.k_seqs, DL.k_seqo, DL.k_enut, DL.k_enul, DL.k_enuo, DL.k_zipt, DL.k_zipl, DL.k_gix, DL.k_gst, DL.k_setd, DL.k_seto, DL.a_dd, DL.a_do, DL.a_rd, DL.a_ro, DL.a_rb, DL.a_nil, DL.a_d, DL.a_o, DL.a_l, DL.a_lo, DL.a_lb, DL.o_add, DL.o_addb, DL.o_adds, DL.o_addt, DL.o_sub, DL.o_subb, DL.o_subbb, DL.o_iadd, DL.o_iaddb, DL.o_isub, DL.o_isubb, DL.o_mul, DL.o_fdiv, DL.o_mod, DL.o_lt, DL.o_le, DL.o_gt, DL.o_ge, DL.o_eq, DL.o_ne, DL.o_isn, DL.o_notn, DL.o_isb, DL.o_notb, DL.o_idxt, DL.o_idxl, DL.o_idxo, DL.o_idxb, DL.o_slct, DL.o_slcl, DL.o_slco, DL.o_slcb, DL.o_rev, DL.o_lent, DL.o_lenl, DL.o_lens, DL.o_leno, DL.o_lenb, DL.o_lenstr, DL.o_abs, DL.o_int, DL.o_intb, DL.o_tupo, DL.o_tupl, DL.o_tupt, DL.o_tupb, DL.o_lso, DL.o_lsl, DL.o_lst, DL.o_lss, DL.o_lsb, DL.o_all, DL.o_anyy, DL.o_sum, DL.o_sorted, DL.u_bl, DL.u_int, DL.u_non, DL.u_tup, DL.u_lst, DL.u_own, DL.u_bor, DL.x_0, DL.x_1, DL.x_2, DL.x_3, DL.x_4, DL.x_5, DL.y_tuplenon, DL.y_tuplebl, DL.y_tupleint, DL.y_tuplestr, DL.y_tupletup, DL.y_tuplelst, DL.y_listnon, DL.y_listbl, DL.y_listint, DL.y_liststr, DL.y_listtup, DL.y_listlst, DL.y_dictnon, DL.y_dictbl, DL.y_dictint, DL.y_dictstr, DL.y_dicttup, DL.y_dictlst, DL.y_strnon, DL.y_strbl, DL.y_strint, DL.y_strstr, DL.y_strtup, DL.y_strlst, DL.y_intnon, DL.y_intbl, DL.y_intint, DL.y_intstr, DL.y_inttup, DL.y_intlst, DL.y_boolnon, DL.y_boolbl, DL.y_boolint, DL.y_boolstr, DL.y_booltup, DL.y_boollst, DL.j_n1, DL.j_n2, DL.j_n3, DL.j_n4, DL.j_n5, DL.j_f1, DL.j_f2, DL.j_f3, DL.j_f4, DL.j_f5, DL.j_w1, DL.j_w2, DL.j_w3, DL.j_w4, DL.j_w5, DL.j_01, DL.j_02, DL.j_03, DL.eqD_int, DL.eqOk_int, List.getElem?_cons_zero, List.getElem?_cons_succ, List.set_cons_zero, List.set_cons_succ, List.length_cons, List.length_nil, Option.map_some, Option.map_none, true_and, eq_self, h1, h3]
  exact T2_of ((s1.mul s2).mono (by decide)) ((s3.mul s4).mono (by decide)) (Tsign_of h)
def Tturns : DSp := fun ds G Q _ => ∃ rs p, ds = [ringsD rs, ptD p] ∧ RgOk 100 rs ∧ PtOk 100 p ∧ Q (.int (wind rs p)) G
def ctn_8 : CSs := .cons (.ret (.loc 2)) .nil
def ctn_5 (k3 : Nat) : CSs := .cons (.aug 2 .iaddP (.cmp .gt (.call k3 (.cons (.loc 5) (.cons (.loc 6) (.cons (.loc 1) .nil)))) (.cst (.int 0)))) .nil
def ctn_7 (k3 : Nat) : CSs := .cons (.aug 2 .isubP (.cmp .lt (.call k3 (.cons (.loc 5) (.cons (.loc 6) (.cons (.loc 1) .nil)))) (.cst (.int 0)))) .nil
def ctn_6 (k1 k3 : Nat) : CSs := .cons (.ite (.and (.not (.val (.call k1 (.cons (.loc 4) (.cons (.idx .any (.loc 6) (.cst (.int 1))) .nil))))) (.val (.call k1 (.cons (.loc 4) (.cons (.idx .any (.loc 5) (.cst (.int 1))) .nil))))) (ctn_7 k3) .nil) .nil
def ctn_4 (k1 k3 : Nat) : CSs := .cons (.ite (.and (.not (.val (.call k1 (.cons (.loc 4) (.cons (.idx .any (.loc 5) (.cst (.int 1))) .nil))))) (.val (.call k1 (.cons (.loc 4) (.cons (.idx .any (.loc 6) (.cst (.int 1))) .nil))))) (ctn_5 k3) (ctn_6 k1 k3)) .nil
def ctn_3 (k1 k2 k3 : Nat) : CSs := .cons (.for (.tup (.cons (.name 5) (.cons (.name 6) .nil))) (.seq (.call k2 (.cons (.loc 0) .nil))) (ctn_4 k1 k3)) ctn_8
def ctn_2 (k1 k2 k3 : Nat) : CSs := .cons (.asg (.tup (.cons (.name 3) (.cons (.name 4) .nil))) (.loc 1)) (ctn_3 k1 k2 k3)
def ctn_1 (k1 k2 k3 : Nat) : CSs := .cons (.setF 2 (.cst (.int 0))) (ctn_2 k1 k2 k3)
theorem mem_edges {f x y : Pt} : ∀ {r : List Pt}, (x, y) ∈ edgesFrom f r → x ∈ r ∧ (y ∈ r ∨ y = f)
  | [], h => by simp [edgesFrom] at h
  | [p], h => by simp [edgesFrom] at h; simp [h]
  | p :: q :: r, h => by
    simp only [edgesFrom, List.mem_cons] at h
    rcases h with h | h
    · cases h; simp
    · obtain ⟨h1, h2⟩ := mem_edges h
      refine ⟨List.mem_cons_of_mem _ h1, ?_⟩
      rcases h2 with h2 | h2
      · exact .inl (List.mem_cons_of_mem _ h2)
      · exact .inr h2
theorem mem_edgesOf {x y : Pt} {r : List Pt} (h : (x, y) ∈ edgesOf r) : x ∈ r ∧ y ∈ r := by
  cases r with
  | nil => simp [edgesOf] at h
  | cons p r =>
    obtain ⟨h1, h2⟩ := mem_edges h
    refine ⟨h1, ?_⟩
    rcases h2 with h2 | h2
    · exact h2
    · rw [h2]; exact List.mem_cons_self
theorem RgOk.edge {b : Nat} {rs : List (List Pt)} (h : RgOk b rs) {e : Pt × Pt} (he : e ∈ rs.flatMap edgesOf) : PtOk b e.1 ∧ PtOk b e.2 := by
  obtain ⟨r, h1, h2⟩ := List.mem_flatMap.mp he
  obtain ⟨a, c⟩ := e
  obtain ⟨h3, h4⟩ := mem_edgesOf h2
  exact ⟨(h.2 r h1).2 _ h3, (h.2 r h1).2 _ h4⟩
theorem run_turns (hN : N.length = 7) (h1 : S.sp k1 = Tless) (h2 : S.sp k2 = Tedges) (h3 : S.sp k3 = Tside) : ∀ ds G Q E, Tturns ds G Q E → runB S N (ctn_1 k1 k2 k3) ds G Q E := by
  rintro ds G Q E ⟨rs, p, rfl, ors, op, h⟩
  simp only [run_eq, startL, hN, ctn_1, ctn_2, ctn_3, DL.e_loc, DL.e_cst, DL.e_gc, DL.e_bin, DL.e_neg, DL.e_cmp, DL.e_chn, DL.e_and, DL.e_or, DL.e_not, DL.e_ite, DL.e_idx, DL.e_gidx, DL.e_slc, DL.e_tup, DL.e_lst, DL.e_call, DL.e_bi, DL.e_inst, DL.e_comp, DL.e_nev, DL.e_nil, DL.e_cons, DL.e_no, DL.e_yes, DL.b_val, DL.b_cmp, DL.b_chn, DL.b_and, DL.b_or, DL.b_not, DL.b_no, DL.b_one, DL.i_seq, DL.i_rng1, DL.i_rng2, DL.i_enum, DL.i_zip, DL.s_set, DL.s_setF, DL.s_asg, DL.s_par, DL.s_par3, DL.s_aug, DL.s_app, DL.s_ext, DL.s_pop, DL.s_expr, DL.s_ret, DL.s_retT, DL.s_ite, DL.s_whl, DL.s_for, DL.s_gset, DL.s_brk, DL.s_cnt, DL.s_nil, DL.s_cons, DL.s_frz, DL.t_name, DL.t_tup, DL.t_nil, DL.t_cons, DL.t_len0, DL.t_len1, DL.k_locd, DL.k_loco, DL.k_neg, DL.k_tt, DL.k_ff, DL.k_any, DL.k_lst, DL.k_int, DL.k_dat, DL.k_ty, DL.k_keep, DL.k_own, DL.k_slot, DL.k_new, DL.k_seqt, DL.k_seql, DL.k_seqs, DL.k_seqo, DL.k_enut, DL.k_enul, DL.k_enuo, DL.k_zipt, DL.k_zipl, DL.k_gix, DL.k_gst, DL.k_setd, DL.k_seto, DL.a_dd, DL.a_do, DL.a_rd, DL.a_ro, DL.a_rb, DL.a_nil, DL.a_d, DL.a_o, DL.a_l, DL.a_lo, DL.a_lb, DL.o_add, DL.o_addb, DL.o_adds, DL.o_addt, DL.o_sub, DL.o_subb, DL.o_subbb, DL.o_iadd, DL.o_iaddb, DL.o_isub, DL.o_isubb, DL.o_mul, DL.o_fdiv, DL.o_mod, DL.o_lt, DL.o_le, DL.o_gt, DL.o_ge, DL.o_eq, DL.o_ne, DL.o_isn, DL.o_notn, DL.o_isb, DL.o_notb, DL.o_idxt, DL.o_idxl, DL.o_idxo, DL.o_idxb, DL.o_slct, DL.o_slcl, DL.o_slco, DL.o_slcb, DL.o_rev, DL.o_lent, DL.o_lenl, DL.o_lens, DL.o_leno, DL.o_lenb, DL.o_lenstr, DL.o_abs, DL.o_int, DL.o_intb, DL.o_tupo, DL.o_tupl, DL.o_tupt, DL.o_tupb, DL.o_lso, DL.o_lsl, DL.o_lst, DL.o_lss, DL.o_lsb, DL.o_all, DL.o_anyy, DL.o_sum, DL.o_sorted, DL.u_bl, DL.u_int, DL.u_non, DL.u_tup, DL.u_lst, DL.u_own, DL.u_bor, DL.x_0, DL.x_1, DL.x_2, DL.x_3, DL.x_4, DL.x_5, DL.y_tuplenon, DL.y_tuplebl, DL.y_tupleint, DL.y_tuplestr, DL.y_tupletup, DL.y_tuplelst, DL.y_listnon, DL.y_listbl, DL.y_listint, DL.y_liststr, DL.y_listtup, DL.y_listlst, DL.y_dictnon, DL.y_dictbl, DL.y_dictint, DL.y_dictstr, DL.y_dicttup, DL.y_dictlst, DL.y_strnon, DL.y_strbl, DL.y_strint, DL.y_strstr, DL.y_strtup, DL.y_strlst, DL.y_intnon, DL.y_intbl, DL.y_intint, DL.y_intstr, DL.y_inttup, DL.y_intlst, DL.y_boolnon, DL.y_boolbl, DL.y_boolint, DL.y_boolstr, DL.y_booltup, DL.y_boollst, DL.j_n1, DL.j_n2, DL.j_n3, DL.j_n4, DL.j_n5, DL.j_f1, DL.j_f2, DL.j_f3, DL.j_f4, DL.j_f5, DL.j_w1, DL.j_w2, DL.j_w3, DL.j_w4, DL.j_w5, DL.j_01, DL.j_02, DL.j_03, DL.eqD_int, DL.eqOk_int, List.getElem?_cons_zero, List.getElem?_cons_succ, List.set_cons_zero, List.set_cons_succ, List.length_cons, List.length_nil, Option.map_some, Option.map_none, true_and, eq_self, List.map_cons, List.map_nil, Nat.reduceAdd, Nat.reduceSub, List.replicate_succ, List.replicate_zero, List.append_nil, List.cons_append, List.nil_append, t_pt, h2]
  refine ⟨rs, rfl, ors.1, fun r hr => (ors.2 r hr).1, ?_⟩
  simp only [DL.e_loc, DL.e_cst, DL.e_gc, DL.e_bin, DL.e_neg, DL.e_cmp, DL.e_chn, DL.e_and, DL.e_or, DL.e_not, DL.e_ite, DL.e_idx, DL.e_gidx, DL.e_slc, DL.e_tup, DL.e_lst, DL.e_call, DL.e_bi, DL.e_inst, DL.e_comp, DL.e_nev, DL.e_nil, DL.e_cons, DL.e_no, DL.e_yes, DL.b_val, DL.b_cmp, DL.b_chn, DL.b_and, DL.b_or, DL.b_not, DL.b_no, DL.b_one, DL.i_seq, DL.i_rng1, DL.i_rng2, DL.i_enum, DL.i_zip, DL.s_set, DL.s_setF, DL.s_asg, DL.s_par, DL.s_par3, DL.s_aug, DL.s_app, DL.s_ext, DL.s_pop, DL.s_expr, DL.s_ret, DL.s_retT, DL.s_ite, DL.s_whl, DL.s_for, DL.s_gset, DL.s_brk, DL.s_cnt, DL.s_nil, DL.s_cons, DL.s_frz, DL.t_name, DL.t_tup, DL.t_nil, DL.t_cons, DL.t_len0, DL.t_len1, DL.k_locd, DL.k_loco, DL.k_neg, DL.k_tt, DL.k_ff, DL.k_any, DL.k_lst, DL.k_int, DL.k_dat, DL.k_ty, DL.k_keep, DL.k_own, DL.k_slot, DL.k_new, DL.k_seqt, DL.k_seql, DL.k_seqs, DL.k_seqo, DL.k_enut, DL.k_enul, DL.k_enuo, DL.k_zipt, DL.k_zipl, DL.k_gix, DL.k_gst, DL.k_setd, DL.k_seto, DL.a_dd, DL.a_do, DL.a_rd, DL.a_ro, DL.a_rb, DL.a_nil, DL.a_d, DL.a_o, DL.a_l, DL.a_lo, DL.a_lb, DL.o_add, DL.o_addb, DL.o_adds, DL.o_addt, DL.o_sub, DL.o_subb, DL.o_subbb, DL.o_iadd, DL.o_iaddb, DL.o_isub, DL.o_isubb, DL.o_mul, DL.o_fdiv, DL.o_mod, DL.o_lt, DL.o_le, DL.o_gt, DL.o_ge, DL.o_eq, DL.o_ne, DL.o_isn, DL.o_notn, DL.o_isb, DL.o_notb, DL.o_idxt, DL.o_idxl, DL.o_idxo, DL.o_idxb, DL.o_slct, DL.o_slcl, DL.o_slco, DL.o_slcb, DL.o_rev, DL.o_lent, DL.o_lenl, DL.o_lens, DL.o_leno, DL.o_lenb, DL.o_lenstr, DL.o_abs, DL.o_int, DL.o_intb, DL.o_tupo, DL.o_tupl, DL.o_tupt, DL.o_tupb, DL.o_lso, DL.o_lsl, DL.o_lst, DL.o_lss, DL.o_lsb, DL.o_all, DL.o_anyy, DL.o_sum, DL.o_sorted, DL.u_bl, DL.u_int, DL.u_non, DL.u_tup, DL.u_lst, DL.u_own, DL.u_bor, DL.x_0, DL.x_1, DL.x_2, DL.x_3, DL.x_4, DL.x_5, DL.y_tuplenon, DL.y_tuplebl, DL.y_tupleint, DL.y_tuplestr, DL.y_tupletup, DL.y_tuplelst, DL.y_listnon, DL.y_listbl, DL.y_listint, DL.y_liststr, DL.y_listtup, DL.y_listlst, DL.y_dictnon, DL.y_dictbl, DL.y_dictint, DL.y_dictstr, DL.y_dicttup, DL.y_dictlst, DL.y_strnon, DL.y_strbl, DL.y_strint, DL.y_strstr, DL.y_strtup, DL.y_strlst, DL.y_intnon, DL.y_intbl, DL.y_intint, DL.y_intstr, DL.y_inttup, DL.y_intlst, DL.y_boolnon, DL.y_boolbl, DL.y_boolint, DL.y_boolstr, DL.y_booltup, DL.y_boollst, DL.j_n1, DL.j_n2, DL.j_n3, DL.j_n4, DL.j_n5, DL.j_f1, DL.j_f2, DL.j_f3, DL.j_f4, DL.j_f5, DL.j_w1, DL.j_w2, DL.j_w3, DL.j_w4, DL.j_w5, DL.j_01, DL.j_02, DL.j_03, DL.eqD_int, DL.eqOk_int, List.getElem?_cons_zero, List.getElem?_cons_succ, List.set_cons_zero, List.set_cons_succ, List.length_cons, List.length_nil, Option.map_some, Option.map_none, true_and, eq_self]
  have key : ∀ (es : List (Pt × Pt)) (n : Int) (x y : Option SV), (∀ e ∈ es, PtOk 100 e.1 ∧ PtOk 100 e.2) → n + (es.map (cross p)).sum = wind rs p →
      forK S (.tup (.cons (.name 5) (.cons (.name 6) .nil))) (ctn_4 k1 k3) (es.map edgeD) (Rn S ctn_8 (R0 Q E))
        [some (.d (ringsD rs)), some (.d (ptD p)), some (.d (.int n)), some (.d (nfD p.1)), some (.d (nfD p.2)), x, y] G := by
    intro es
    induction es with
    | nil =>
      intro n x y _ e
      simp only [List.map_nil, f_nil, ctn_8, DL.e_loc, DL.e_cst, DL.e_gc, DL.e_bin, DL.e_neg, DL.e_cmp, DL.e_chn, DL.e_and, DL.e_or, DL.e_not, DL.e_ite, DL.e_idx, DL.e_gidx, DL.e_slc, DL.e_tup, DL.e_lst, DL.e_call, DL.e_bi, DL.e_inst, DL.e_comp, DL.e_nev, DL.e_nil, DL.e_cons, DL.e_no, DL.e_yes, DL.b_val, DL.b_cmp, DL.b_chn, DL.b_and, DL.b_or, DL.b_not, DL.b_no, DL.b_one, DL.i_seq, DL.i_rng1, DL.i_rng2, DL.i_enum, DL.i_zip, DL.s_set, DL.s_setF, DL.s_asg, DL.s_par, DL.s_par3, DL.s_aug, DL.s_app, DL.s_ext, DL.s_pop, DL.s_expr, DL.s_ret, DL.s_retT, DL.s_ite, DL.s_whl, DL.s_for, DL.s_gset, DL.s_brk, DL.s_cnt, DL.s_nil, DL.s_cons, DL.s_frz, DL.t_name, DL.t_tup, DL.t_nil, DL.t_cons, DL.t_len0, DL.t_len1, DL.k_locd, DL.k_loco, DL.k_neg, DL.k_tt, DL.k_ff, DL.k_any, DL.k_lst, DL.k_int, DL.k_dat, DL.k_ty, DL.k_keep, DL.k_own, DL.k_slot, DL.k_new, DL.k_seqt, DL.k_seql, DL.k_seqs, DL.k_seqo, DL.k_enut, DL.k_enul, DL.k_enuo, DL.k_zipt, DL.k_zipl, DL.k_gix, DL.k_gst, DL.k_setd, DL.k_seto, DL.a_dd, DL.a_do, DL.a_rd, DL.a_ro, DL.a_rb, DL.a_nil, DL.a_d, DL.a_o, DL.a_l, DL.a_lo, DL.a_lb, DL.o_add, DL.o_addb, DL.o_adds, DL.o_addt, DL.o_sub, DL.o_subb, DL.o_subbb, DL.o_iadd, DL.o_iaddb, DL.o_isub, DL.o_isubb, DL.o_mul, DL.o_fdiv, DL.o_mod, DL.o_lt, DL.o_le, DL.o_gt, DL.o_ge, DL.o_eq, DL.o_ne, DL.o_isn, DL.o_notn, DL.o_isb, DL.o_notb, DL.o_idxt, DL.o_idxl, DL.o_idxo, DL.o_idxb, DL.o_slct, DL.o_slcl, DL.o_slco, DL.o_slcb, DL.o_rev, DL.o_lent, DL.o_lenl, DL.o_lens, DL.o_leno, DL.o_lenb, DL.o_lenstr, DL.o_abs, DL.o_int, DL.o_intb, DL.o_tupo, DL.o_tupl, DL.o_tupt, DL.o_tupb, DL.o_lso, DL.o_lsl, DL.o_lst, DL.o_lss, DL.o_lsb, DL.o_all, DL.o_anyy, DL.o_sum, DL.o_sorted, DL.u_bl, DL.u_int, DL.u_non, DL.u_tup, DL.u_lst, DL.u_own, DL.u_bor, DL.x_0, DL.x_1, DL.x_2, DL.x_3, DL.x_4, DL.x_5, DL.y_tuplenon, DL.y_tuplebl, DL.y_tupleint, DL.y_tuplestr, DL.y_tupletup, DL.y_tuplelst, DL.y_listnon, DL.y_listbl, DL.y_listint, DL.y_liststr, DL.y_listtup, DL.y_listlst, DL.y_dictnon, DL.y_dictbl, DL.y_dictint, DL.y_dictstr, DL.y_dicttup, DL.y_dictlst, DL.y_strnon, DL.y_strbl, DL.y_strint, DL.y_strstr, DL.y_strtup, DL.y_strlst, DL.y_intnon, DL.y_intbl, DL.y_intint, DL.y_intstr, DL.y_inttup, DL.y_intlst, DL.y_boolnon, DL.y_boolbl, DL.y_boolint, DL.y_boolstr, DL.y_booltup, DL.y_boollst, DL.j_n1, DL.j_n2, DL.j_n3, DL.j_n4, DL.j_n5, DL.j_f1, DL.j_f2, DL.j_f3, DL.j_f4, DL.j_f5, DL.j_w1, DL.j_w2, DL.j_w3, DL.j_w4, DL.j_w5, DL.j_01, DL.j_02, DL.j_03, DL.eqD_int, DL.eqOk_int, List.getElem?_cons_zero, List.getElem?_cons_succ, List.set_cons_zero, List.set_cons_succ, List.length_cons, List.length_nil, Option.map_some, Option.map_none, true_and, eq_self]
      simp only [List.map_nil, List.sum_nil, Int.add_zero] at e
      rw [e]; exact h
    | cons ed es ih =>
      intro n x y he e
      obtain ⟨oa, ob⟩ := he ed List.mem_cons_self
      have he' : ∀ e ∈ es, PtOk 100 e.1 ∧ PtOk 100 e.2 := fun e h => he e (List.mem_cons_of_mem _ h)
      rw [List.map_cons, List.sum_cons] at e
      simp only [List.map_cons, f_cons, t_edge, ctn_4, DL.e_loc, DL.e_cst, DL.e_gc, DL.e_bin, DL.e_neg, DL.e_cmp, DL.e_chn, DL.e_and, DL.e_or, DL.e_not, DL.e_ite, DL.e_idx, DL.e_gidx, DL.e_slc, DL.e_tup, DL.e_lst, DL.e_call, DL.e_bi, DL.e_inst, DL.e_comp, DL.e_nev, DL.e_nil, DL.e_cons, DL.e_no, DL.e_yes, DL.b_val, DL.b_cmp, DL.b_chn, DL.b_and, DL.b_or, DL.b_not, DL.b_no, DL.b_one, DL.i_seq, DL.i_rng1, DL.i_rng2, DL.i_enum, DL.i_zip, DL.s_set, DL.s_setF, DL.s_asg, DL.s_par, DL.s_par3, DL.s_aug, DL.s_app, DL.s_ext, DL.s_pop, DL.s_expr, DL.s_ret, DL.s_retT, DL.s_ite, DL.s_whl, DL.s_for, DL.s_gset, DL.s_brk, DL.s_cnt, DL.s_nil, DL.s_cons, DL.s_frz, DL.t_name, DL.t_tup, DL.t_nil, DL.t_cons, DL.t_len0, DL.t_len1, DL.k_locd, DL.k_loco, DL.k_neg, DL.k_tt, DL.k_ff, DL.k_any, DL.k_lst, DL.k_int, DL.k_dat, DL.k_ty, DL.k_keep, DL.k_own, DL.k_slot, DL.k_new, DL.k_seqt, DL.k_seql, DL.k_seqs, DL.k_seqo, DL.k_enut, DL.k_enul, DL.k_enuo, DL.k_zipt, DL.k_zipl, DL.k_gix, DL.k_gst, DL.k_setd, DL.k_seto, DL.a_dd, DL.a_do, DL.a_rd, DL.a_ro, DL.a_rb, DL.a_nil, DL.a_d, DL.a_o, DL.a_l, DL.a_lo, DL.a_lb, DL.o_add, DL.o_addb, DL.o_adds, DL.o_addt, DL.o_sub, DL.o_subb, DL.o_subbb, DL.o_iadd, DL.o_iaddb, DL.o_isub, DL.o_isubb, DL.o_mul, DL.o_fdiv, DL.o_mod, DL.o_lt, DL.o_le, DL.o_gt, DL.o_ge, DL.o_eq, DL.o_ne, DL.o_isn, DL.o_notn, DL.o_isb, DL.o_notb, DL.o_idxt, DL.o_idxl, DL.o_idxo, DL.o_idxb, DL.o_slct, DL.o_slcl, DL.o_slco, DL.o_slcb, DL.o_rev, DL.o_lent, DL.o_lenl, DL.o_lens, DL.o_leno, DL.o_lenb, DL.o_lenstr, DL.o_abs, DL.o_int, DL.o_intb, DL.o_tupo, DL.o_tupl, DL.o_tupt, DL.o_tupb, DL.o_lso, DL.o_lsl, DL.o_lst, DL.o_lss, DL.o_lsb, DL.o_all, DL.o_anyy, DL.o_sum, DL.o_sorted, DL.u_bl, DL.u_int, DL.u_non, DL.u_tup, DL.u_lst, DL.u_own, DL.u_bor, DL.x_0, DL.x_1, DL.x_2, DL.x_3, DL.x_4, DL.x_5, DL.y_tuplenon, DL.y_tuplebl, DL.y_tupleint, DL.y_tuplestr, DL.y_tupletup, DL.y_tuplelst, DL.y_listnon, DL.y_listbl, DL.y_listint, DL.y_liststr, DL.y_listtup, DL.y_listlst, DL.y_dictnon, DL.y_dictbl, DL.y_dictint, DL.y_dictstr, DL.y_dicttup, DL.y_dictlst, DL.y_strnon, DL.y_strbl, DL.y_strint, DL.y_strstr, DL.y_strtup, DL.y_strlst, DL.y_intnon, DL.y_intbl, DL.y_intint, DL.y_intstr, DL.y_inttup, DL.y_intlst, DL.y_boolnon, DL.y_boolbl, DL.y_boolint, DL.y_boolstr, DL.y_booltup, DL.y_boollst, DL.j_n1, DL.j_n2, DL.j_n3, DL.j_n4, DL.j_n5, DL.j_f1, DL.j_f2, DL.j_f3, DL.j_f4, DL.j_f5, DL.j_w1, DL.j_w2, DL.j_w3, DL.j_w4, DL.j_w5, DL.j_01, DL.j_02, DL.j_03, DL.eqD_int, DL.eqOk_int, List.getElem?_cons_zero, List.getElem?_cons_succ, List.set_cons_zero, List.set_cons_succ, List.length_cons, List.length_nil, Option.map_some, Option.map_none, true_and, eq_self, x_pt1, h1]
      have low : wpSs S (ctn_6 k1 k3) (Rf S (.tup (.cons (.name 5) (.cons (.name 6) .nil))) (ctn_4 k1 k3) (es.map edgeD) (Rn S ctn_8 (R0 Q E)))
          [some (.d (ringsD rs)), some (.d (ptD p)), some (.d (.int n)), some (.d (nfD p.1)), some (.d (nfD p.2)), some (.d (ptD ed.1)), some (.d (ptD ed.2))] G ∨ (¬ p.2 < ed.1.2 ∧ p.2 < ed.2.2) := by
        by_cases hc : ¬ p.2 < ed.1.2 ∧ p.2 < ed.2.2
        · exact .inr hc
        · refine .inl ?_
          simp only [ctn_6, DL.e_loc, DL.e_cst, DL.e_gc, DL.e_bin, DL.e_neg, DL.e_cmp, DL.e_chn, DL.e_and, DL.e_or, DL.e_not, DL.e_ite, DL.e_idx, DL.e_gidx, DL.e_slc, DL.e_tup, DL.e_lst, DL.e_call, DL.e_bi, DL.e_inst, DL.e_comp, DL.e_nev, DL.e_nil, DL.e_cons, DL.e_no, DL.e_yes, DL.b_val, DL.b_cmp, DL.b_chn, DL.b_and, DL.b_or, DL.b_not, DL.b_no, DL.b_one, DL.i_seq, DL.i_rng1, DL.i_rng2, DL.i_enum, DL.i_zip, DL.s_set, DL.s_setF, DL.s_asg, DL.s_par, DL.s_par3, DL.s_aug, DL.s_app, DL.s_ext, DL.s_pop, DL.s_expr, DL.s_ret, DL.s_retT, DL.s_ite, DL.s_whl, DL.s_for, DL.s_gset, DL.s_brk, DL.s_cnt, DL.s_nil, DL.s_cons, DL.s_frz, DL.t_name, DL.t_tup, DL.t_nil, DL.t_cons, DL.t_len0, DL.t_len1, DL.k_locd, DL.k_loco, DL.k_neg, DL.k_tt, DL.k_ff, DL.k_any, DL.k_lst, DL.k_int, DL.k_dat, DL.k_ty, DL.k_keep, DL.k_own, DL.k_slot, DL.k_new, DL.k_seqt, DL.k_seql, DL.k_seqs, DL.k_seqo, DL.k_enut, DL.k_enul, DL.k_enuo, DL.k_zipt, DL.k_zipl, DL.k_gix, DL.k_gst, DL.k_setd, DL.k_seto, DL.a_dd, DL.a_do, DL.a_rd, DL.a_ro, DL.a_rb, DL.a_nil, DL.a_d, DL.a_o, DL.a_l, DL.a_lo, DL.a_lb, DL.o_add, DL.o_addb, DL.o_adds, DL.o_addt, DL.o_sub, DL.o_subb, DL.o_subbb, DL.o_iadd, DL.o_iaddb, DL.o_isub, DL.o_isubb, DL.o_mul, DL.o_fdiv, DL.o_mod, DL.o_lt, DL.o_le, DL.o_gt, DL.o_ge, DL.o_eq, DL.o_ne, DL.o_isn, DL.o_notn, DL.o_isb, DL.o_notb, DL.o_idxt, DL.o_idxl, DL.o_idxo, DL.o_idxb, DL.o_slct, DL.o_slcl, DL.o_slco, DL.o_slcb, DL.o_rev, DL.o_lent, DL.o_lenl, DL.o_lens, DL.o_leno, DL.o_lenb, DL.o_lenstr, DL.o_abs, DL.o_int, DL.o_intb, DL.o_tupo, DL.o_tupl, DL.o_tupt, DL.o_tupb, DL.o_lso, DL.o_lsl, DL.o_lst, DL.o_lss, DL.o_lsb, DL.o_all, DL.o_anyy, DL.o_sum, DL.o_sorted, DL.u_bl, DL.u_int, DL.u_non, DL.u_tup, DL.u_lst, DL.u_own, DL.u_bor, DL.x_0, DL.x_1, DL.x_2, DL.x_3, DL.x_4, DL.x_5, DL.y_tuplenon, DL.y_tuplebl, DL.y_tupleint, DL.y_tuplestr, DL.y_tupletup, DL.y_tuplelst, DL.y_listnon, DL.y_listbl, DL.y_listint, DL.y_liststr, DL.y_listtup, DL.y_listlst, DL.y_dictnon, DL.y_dictbl, DL.y_dictint, DL.y_dictstr, DL.y_dicttup, DL.y_dictlst, DL.y_strnon, DL.y_strbl, DL.y_strint, DL.y_strstr, DL.y_strtup, DL.y_strlst, DL.y_intnon, DL.y_intbl, DL.y_intint, DL.y_intstr, DL.y_inttup, DL.y_intlst, DL.y_boolnon, DL.y_boolbl, DL.y_boolint, DL.y_boolstr, DL.y_booltup, DL.y_boollst, DL.j_n1, DL.j_n2, DL.j_n3, DL.j_n4, DL.j_n5, DL.j_f1, DL.j_f2, DL.j_f3, DL.j_f4, DL.j_f5, DL.j_w1, DL.j_w2, DL.j_w3, DL.j_w4, DL.j_w5, DL.j_01, DL.j_02, DL.j_03, DL.eqD_int, DL.eqOk_int, List.getElem?_cons_zero, List.getElem?_cons_succ, List.set_cons_zero, List.set_cons_succ, List.length_cons, List.length_nil, Option.map_some, Option.map_none, true_and, eq_self, x_pt1, h1]
          refine Tless_of (op.2.mono (by decide)) (ob.2.mono (by decide)) ?_
          simp only [DL.e_loc, DL.e_cst, DL.e_gc, DL.e_bin, DL.e_neg, DL.e_cmp, DL.e_chn, DL.e_and, DL.e_or, DL.e_not, DL.e_ite, DL.e_idx, DL.e_gidx, DL.e_slc, DL.e_tup, DL.e_lst, DL.e_call, DL.e_bi, DL.e_inst, DL.e_comp, DL.e_nev, DL.e_nil, DL.e_cons, DL.e_no, DL.e_yes, DL.b_val, DL.b_cmp, DL.b_chn, DL.b_and, DL.b_or, DL.b_not, DL.b_no, DL.b_one, DL.i_seq, DL.i_rng1, DL.i_rng2, DL.i_enum, DL.i_zip, DL.s_set, DL.s_setF, DL.s_asg, DL.s_par, DL.s_par3, DL.s_aug, DL.s_app, DL.s_ext, DL.s_pop, DL.s_expr, DL.s_ret, DL.s_retT, DL.s_ite, DL.s_whl, DL.s_for, DL.s_gset, DL.s_brk, DL.s_cnt, DL.s_nil, DL.s_cons, DL.s_frz, DL.t_name, DL.t_tup, DL.t_nil, DL.t_cons, DL.t_len0, DL.t_len1, DL.k_locd, DL.k_loco, DL.k_neg, DL.k_tt, DL.k_ff, DL.k_any, DL.k_lst, DL.k_int, DL.k_dat, DL.k_ty, DL.k_keep, DL.k_own, DL.k_slot, DL.k_new, DL.k_seqt, DL.k_seql, DL.k_seqs, DL.k_seqo, DL.k_enut, DL.k_enul, DL.k_enuo, DL.k_zipt, DL.k_zipl, DL.k_gix, DL.k_gst, DL.k_setd, DL.k_seto, DL.a_dd, DL.a_do, DL.a_rd, DL.a_ro, DL.a_rb, DL.a_nil, DL.a_d, DL.a_o, DL.a_l, DL.a_lo, DL.a_lb, DL.o_add, DL.o_addb, DL.o_adds, DL.o_addt, DL.o_sub, DL.o_subb, DL.o_subbb, DL.o_iadd, DL.o_iaddb, DL.o_isub, DL.o_isubb, DL.o_mul, DL.o_fdiv, DL.o_mod, DL.o_lt, DL.o_le, DL.o_gt, DL.o_ge, DL.o_eq, DL.o_ne, DL.o_isn, DL.o_notn, DL.o_isb, DL.o_notb, DL.o_idxt, DL.o_idxl, DL.o_idxo, DL.o_idxb, DL.o_slct, DL.o_slcl, DL.o_slco, DL.o_slcb, DL.o_rev, DL.o_lent, DL.o_lenl, DL.o_lens, DL.o_leno, DL.o_lenb, DL.o_lenstr, DL.o_abs, DL.o_int, DL.o_intb, DL.o_tupo, DL.o_tupl, DL.o_tupt, DL.o_tupb, DL.o_lso, DL.o_lsl, DL.o_lst, DL.o_lss, DL.o_lsb, DL.o_all, DL.o_anyy, DL.o_sum, DL.o_sorted, DL.u_bl, DL.u_int, DL.u_non, DL.u_tup, DL.u_lst, DL.u_own, DL.u_bor, DL.x_0, DL.x_1, DL.x_2, DL.x_3, DL.x_4, DL.x_5, DL.y_tuplenon, DL.y_tuplebl, DL.y_tupleint, DL.y_tuplestr, DL.y_tupletup, DL.y_tuplelst, DL.y_listnon, DL.y_listbl, DL.y_listint, DL.y_liststr, DL.y_listtup, DL.y_listlst, DL.y_dictnon, DL.y_dictbl, DL.y_dictint, DL.y_dictstr, DL.y_dicttup, DL.y_dictlst, DL.y_strnon, DL.y_strbl, DL.y_strint, DL.y_strstr, DL.y_strtup, DL.y_strlst, DL.y_intnon, DL.y_intbl, DL.y_intint, DL.y_intstr, DL.y_inttup, DL.y_intlst, DL.y_boolnon, DL.y_boolbl, DL.y_boolint, DL.y_boolstr, DL.y_booltup, DL.y_boollst, DL.j_n1, DL.j_n2, DL.j_n3, DL.j_n4, DL.j_n5, DL.j_f1, DL.j_f2, DL.j_f3, DL.j_f4, DL.j_f5, DL.j_w1, DL.j_w2, DL.j_w3, DL.j_w4, DL.j_w5, DL.j_01, DL.j_02, DL.j_03, DL.eqD_int, DL.eqOk_int, List.getElem?_cons_zero, List.getElem?_cons_succ, List.set_cons_zero, List.set_cons_succ, List.length_cons, List.length_nil, Option.map_some, Option.map_none, true_and, eq_self]
          refine iteK_of (fun c1 => ?_) (fun c1 => ?_)
          · refine Tless_of (op.2.mono (by decide)) (oa.2.mono (by decide)) ?_
            simp only [DL.e_loc, DL.e_cst, DL.e_gc, DL.e_bin, DL.e_neg, DL.e_cmp, DL.e_chn, DL.e_and, DL.e_or, DL.e_not, DL.e_ite, DL.e_idx, DL.e_gidx, DL.e_slc, DL.e_tup, DL.e_lst, DL.e_call, DL.e_bi, DL.e_inst, DL.e_comp, DL.e_nev, DL.e_nil, DL.e_cons, DL.e_no, DL.e_yes, DL.b_val, DL.b_cmp, DL.b_chn, DL.b_and, DL.b_or, DL.b_not, DL.b_no, DL.b_one, DL.i_seq, DL.i_rng1, DL.i_rng2, DL.i_enum, DL.i_zip, DL.s_set, DL.s_setF, DL.s_asg, DL.s_par, DL.s_par3, DL.s_aug, DL.s_app, DL.s_ext, DL.s_pop, DL.s_expr, DL.s_ret, DL.s_retT, DL.s_ite, DL.s_whl, DL.s_for, DL.s_gset, DL.s_brk, DL.s_cnt, DL.s_nil, DL.s_cons, DL.s_frz, DL.t_name, DL.t_tup, DL.t_nil, DL.t_cons, DL.t_len0, DL.t_len1, DL.k_locd, DL.k_loco, DL.k_neg, DL.k_tt, DL.k_ff, DL.k_any, DL.k_lst, DL.k_int, DL.k_dat, DL.k_ty, DL.k_keep, DL.k_own, DL.k_slot, DL.k_new, DL.k_seqt, DL.k_seql, DL.k_seqs, DL.k_seqo, DL.k_enut, DL.k_enul, DL.k_enuo, DL.k_zipt, DL.k_zipl, DL.k_gix, DL.k_gst, DL.k_setd, DL.k_seto, DL.a_dd, DL.a_do, DL.a_rd, DL.a_ro, DL.a_rb, DL.a_nil, DL.a_d, DL.a_o, DL.a_l, DL.a_lo, DL.a_lb, DL.o_add, DL.o_addb, DL.o_adds, DL.o_addt, DL.o_sub, DL.o_subb, DL.o_subbb, DL.o_iadd, DL.o_iaddb, DL.o_isub, DL.o_isubb, DL.o_mul, DL.o_fdiv, DL.o_mod, DL.o_lt, DL.o_le, DL.o_gt, DL.o_ge, DL.o_eq, DL.o_ne, DL.o_isn, DL.o_notn, DL.o_isb, DL.o_notb, DL.o_idxt, DL.o_idxl, DL.o_idxo, DL.o_idxb, DL.o_slct, DL.o_slcl, DL.o_slco, DL.o_slcb, DL.o_rev, DL.o_lent, DL.o_lenl, DL.o_lens, DL.o_leno, DL.o_lenb, DL.o_lenstr, DL.o_abs, DL.o_int, DL.o_intb, DL.o_tupo, DL.o_tupl, DL.o_tupt, DL.o_tupb, DL.o_lso, DL.o_lsl, DL.o_lst, DL.o_lss, DL.o_lsb, DL.o_all, DL.o_anyy, DL.o_sum, DL.o_sorted, DL.u_bl, DL.u_int, DL.u_non, DL.u_tup, DL.u_lst, DL.u_own, DL.u_bor, DL.x_0, DL.x_1, DL.x_2, DL.x_3, DL.x_4, DL.x_5, DL.y_tuplenon, DL.y_tuplebl, DL.y_tupleint, DL.y_tuplestr, DL.y_tupletup, DL.y_tuplelst, DL.y_listnon, DL.y_listbl, DL.y_listint, DL.y_liststr, DL.y_listtup, DL.y_listlst, DL.y_dictnon, DL.y_dictbl, DL.y_dictint, DL.y_dictstr, DL.y_dicttup, DL.y_dictlst, DL.y_strnon, DL.y_strbl, DL.y_strint, DL.y_strstr, DL.y_strtup, DL.y_strlst, DL.y_intnon, DL.y_intbl, DL.y_intint, DL.y_intstr, DL.y_inttup, DL.y_intlst, DL.y_boolnon, DL.y_boolbl, DL.y_boolint, DL.y_boolstr, DL.y_booltup, DL.y_boollst, DL.j_n1, DL.j_n2, DL.j_n3, DL.j_n4, DL.j_n5, DL.j_f1, DL.j_f2, DL.j_f3, DL.j_f4, DL.j_f5, DL.j_w1, DL.j_w2, DL.j_w3, DL.j_w4, DL.j_w5, DL.j_01, DL.j_02, DL.j_03, DL.eqD_int, DL.eqOk_int, List.getElem?_cons_zero, List.getElem?_cons_succ, List.set_cons_zero, List.set_cons_succ, List.length_cons, List.length_nil, Option.map_some, Option.map_none, true_and, eq_self]
            refine iteK_of (fun c2 => ?_) (fun c2 => ?_)
            · simp only [ctn_7, DL.e_loc, DL.e_cst, DL.e_gc, DL.e_bin, DL.e_neg, DL.e_cmp, DL.e_chn, DL.e_and, DL.e_or, DL.e_not, DL.e_ite, DL.e_idx, DL.e_gidx, DL.e_slc, DL.e_tup, DL.e_lst, DL.e_call, DL.e_bi, DL.e_inst, DL.e_comp, DL.e_nev, DL.e_nil, DL.e_cons, DL.e_no, DL.e_yes, DL.b_val, DL.b_cmp, DL.b_chn, DL.b_and, DL.b_or, DL.b_not, DL.b_no, DL.b_one, DL.i_seq, DL.i_rng1, DL.i_rng2, DL.i_enum, DL.i_zip, DL.s_set, DL.s_setF, DL.s_asg, DL.s_par, DL.s_par3, DL.s_aug, DL.s_app, DL.s_ext, DL.s_pop, DL.s_expr, DL.s_ret, DL.s_retT, DL.s_ite, DL.s_whl, DL.s_for, DL.s_gset, DL.s_brk, DL.s_cnt, DL.s_nil, DL.s_cons, DL.s_frz, DL.t_name, DL.t_tup, DL.t_nil, DL.t_cons, DL.t_len0, DL.t_len1, DL.k_locd, DL.k_loco, DL.k_neg, DL.k_tt, DL.k_ff, DL.k_any, DL.k_lst, DL.k_int, DL.k_dat, DL.k_ty, DL.k_keep, DL.k_own, DL.k_slot, DL.k_new, DL.k_seqt, DL.k_seql, DL.k_seqs, DL.k_seqo, DL.k_enut, DL.k_enul, DL.k_enuo, DL.k_zipt, DL.k_zipl, DL.k_gix, DL.k_gst, DL.k_setd, DL.k_seto, DL.a_dd, DL.a_do, DL.a_rd, DL.a_ro, DL.a_rb, DL.a_nil, DL.a_d, DL.a_o, DL.a_l, DL.a_lo, DL.a_lb, DL.o_add, DL.o_addb, DL.o_adds, DL.o_addt, DL.o_sub, DL.o_subb, DL.o_subbb, DL.o_iadd, DL.o_iaddb, DL.o_isub, DL.o_isubb, DL.o_mul, DL.o_fdiv, DL.o_mod, DL.o_lt, DL.o_le, DL.o_gt, DL.o_ge, DL.o_eq, DL.o_ne, DL.o_isn, DL.o_notn, DL.o_isb, DL.o_notb, DL.o_idxt, DL.o_idxl, DL.o_idxo, DL.o_idxb, DL.o_slct, DL.o_slcl, DL.o_slco, DL.o_slcb, DL.o_rev, DL.o_lent, DL.o_lenl, DL.o_lens, DL.o_leno, DL.o_lenb, DL.o_lenstr, DL.o_abs, DL.o_int, DL.o_intb, DL.o_tupo, DL.o_tupl, DL.o_tupt, DL.o_tupb, DL.o_lso, DL.o_lsl, DL.o_lst, DL.o_lss, DL.o_lsb, DL.o_all, DL.o_anyy, DL.o_sum, DL.o_sorted, DL.u_bl, DL.u_int, DL.u_non, DL.u_tup, DL.u_lst, DL.u_own, DL.u_bor, DL.x_0, DL.x_1, DL.x_2, DL.x_3, DL.x_4, DL.x_5, DL.y_tuplenon, DL.y_tuplebl, DL.y_tupleint, DL.y_tuplestr, DL.y_tupletup, DL.y_tuplelst, DL.y_listnon, DL.y_listbl, DL.y_listint, DL.y_liststr, DL.y_listtup, DL.y_listlst, DL.y_dictnon, DL.y_dictbl, DL.y_dictint, DL.y_dictstr, DL.y_dicttup, DL.y_dictlst, DL.y_strnon, DL.y_strbl, DL.y_strint, DL.y_strstr, DL.y_strtup, DL.y_strlst, DL.y_intnon, DL.y_intbl, DL.y_intint, DL.y_intstr, DL.y_inttup, DL.y_intlst, DL.y_boolnon, DL.y_boolbl, DL.y_boolint, DL.y_boolstr, DL.y_booltup, DL.y_boollst, DL.j_n1, DL.j_n2, DL.j_n3, DL.j_n4, DL.j_n5, DL.j_f1, DL.j_f2, DL.j_f3, DL.j_f4, DL.j_f5, DL.j_w1, DL.j_w2, DL.j_w3, DL.j_w4, DL.j_w5, DL.j_01, DL.j_02, DL.j_03, DL.eqD_int, DL.eqOk_int, List.getElem?_cons_zero, List.getElem?_cons_succ, List.set_cons_zero, List.set_cons_succ, List.length_cons, List.length_nil, Option.map_some, Option.map_none, true_and, eq_self, h3]
              refine ⟨ed.1, ed.2, p, rfl, oa, ob, op, ?_⟩
              simp only [DL.e_loc, DL.e_cst, DL.e_gc, DL.e_bin, DL.e_neg, DL.e_cmp, DL.e_chn, DL.e_and, DL.e_or, DL.e_not, DL.e_ite, DL.e_idx, DL.e_gidx, DL.e_slc, DL.e_tup, DL.e_lst, DL.e_call, DL.e_bi, DL.e_inst, DL.e_comp, DL.e_nev, DL.e_nil, DL.e_cons, DL.e_no, DL.e_yes, DL.b_val, DL.b_cmp, DL.b_chn, DL.b_and, DL.b_or, DL.b_not, DL.b_no, DL.b_one, DL.i_seq, DL.i_rng1, DL.i_rng2, DL.i_enum, DL.i_zip, DL.s_set, DL.s_setF, DL.s_asg, DL.s_par, DL.s_par3, DL.s_aug, DL.s_app, DL.s_ext, DL.s_pop, DL.s_expr, DL.s_ret, DL.s_retT, DL.s_ite, DL.s_whl, DL.s_for, DL.s_gset, DL.s_brk, DL.s_cnt, DL.s_nil, DL.s_cons, DL.s_frz, DL.t_name, DL.t_tup, DL.t_nil, DL.t_cons, DL.t_len0, DL.t_len1, DL.k_locd, DL.k_loco, DL.k_neg, DL.k_tt, DL.k_ff, DL.k_any, DL.k_lst, DL.k_int, DL.k_dat, DL.k_ty, DL.k_keep, DL.k_own, DL.k_slot, DL.k_new, DL.k_seqt, DL.k_seql, DL.k_seqs, DL.k_seqo, DL.k_enut, DL.k_enul, DL.k_enuo, DL.k_zipt, DL.k_zipl, DL.k_gix, DL.k_gst, DL.k_setd, DL.k_seto, DL.a_dd, DL.a_do, DL.a_rd, DL.a_ro, DL.a_rb, DL.a_nil, DL.a_d, DL.a_o, DL.a_l, DL.a_lo, DL.a_lb, DL.o_add, DL.o_addb, DL.o_adds, DL.o_addt, DL.o_sub, DL.o_subb, DL.o_subbb, DL.o_iadd, DL.o_iaddb, DL.o_isub, DL.o_isubb, DL.o_mul, DL.o_fdiv, DL.o_mod, DL.o_lt, DL.o_le, DL.o_gt, DL.o_ge, DL.o_eq, DL.o_ne, DL.o_isn, DL.o_notn, DL.o_isb, DL.o_notb, DL.o_idxt, DL.o_idxl, DL.o_idxo, DL.o_idxb, DL.o_slct, DL.o_slcl, DL.o_slco, DL.o_slcb, DL.o_rev, DL.o_lent, DL.o_lenl, DL.o_lens, DL.o_leno, DL.o_lenb, DL.o_lenstr, DL.o_abs, DL.o_int, DL.o_intb, DL.o_tupo, DL.o_tupl, DL.o_tupt, DL.o_tupb, DL.o_lso, DL.o_lsl, DL.o_lst, DL.o_lss, DL.o_lsb, DL.o_all, DL.o_anyy, DL.o_sum, DL.o_sorted, DL.u_bl, DL.u_int, DL.u_non, DL.u_tup, DL.u_lst, DL.u_own, DL.u_bor, DL.x_0, DL.x_1, DL.x_2, DL.x_3, DL.x_4, DL.x_5, DL.y_tuplenon, DL.y_tuplebl, DL.y_tupleint, DL.y_tuplestr, DL.y_tupletup, DL.y_tuplelst, DL.y_listnon, DL.y_listbl, DL.y_listint, DL.y_liststr, DL.y_listtup, DL.y_listlst, DL.y_dictnon, DL.y_dictbl, DL.y_dictint, DL.y_dictstr, DL.y_dicttup, DL.y_dictlst, DL.y_strnon, DL.y_strbl, DL.y_strint, DL.y_strstr, DL.y_strtup, DL.y_strlst, DL.y_intnon, DL.y_intbl, DL.y_intint, DL.y_intstr, DL.y_inttup, DL.y_intlst, DL.y_boolnon, DL.y_boolbl, DL.y_boolint, DL.y_boolstr, DL.y_booltup, DL.y_boollst, DL.j_n1, DL.j_n2, DL.j_n3, DL.j_n4, DL.j_n5, DL.j_f1, DL.j_f2, DL.j_f3, DL.j_f4, DL.j_f5, DL.j_w1, DL.j_w2, DL.j_w3, DL.j_w4, DL.j_w5, DL.j_01, DL.j_02, DL.j_03, DL.eqD_int, DL.eqOk_int, List.getElem?_cons_zero, List.getElem?_cons_succ, List.set_cons_zero, List.set_cons_succ, List.length_cons, List.length_nil, Option.map_some, Option.map_none, true_and, eq_self, sign_neg']
              have hcr : cross p ed = if sideR ed.1 ed.2 p < 0 then -1 else 0 := by
                unfold cross
                rw [if_neg hc, if_pos]
                simpa using And.intro c1 c2
              refine ih _ _ _ he' ?_
              rw [hcr] at e
              by_cases z : sideR ed.1 ed.2 p < 0
              · simp [z] at e ⊢; omega
              · simp [z] at e ⊢; omega
            · have hcr : cross p ed = 0 := by
                unfold cross
                rw [if_neg hc, if_neg]
                intro z
                have : ¬ p.2 < ed.1.2 := by simpa using c2
                exact this z.2
              refine ih _ _ _ he' ?_
              rw [hcr] at e; omega
          · have hcr : cross p ed = 0 := by
              unfold cross
              rw [if_neg hc, if_neg]
              intro z
              have : p.2 < ed.2.2 := by simpa using c1
              exact z.1 this
            refine ih _ _ _ he' ?_
            rw [hcr] at e; omega
      refine Tless_of (op.2.mono (by decide)) (oa.2.mono (by decide)) ?_
      simp only [DL.e_loc, DL.e_cst, DL.e_gc, DL.e_bin, DL.e_neg, DL.e_cmp, DL.e_chn, DL.e_and, DL.e_or, DL.e_not, DL.e_ite, DL.e_idx, DL.e_gidx, DL.e_slc, DL.e_tup, DL.e_lst, DL.e_call, DL.e_bi, DL.e_inst, DL.e_comp, DL.e_nev, DL.e_nil, DL.e_cons, DL.e_no, DL.e_yes, DL.b_val, DL.b_cmp, DL.b_chn, DL.b_and, DL.b_or, DL.b_not, DL.b_no, DL.b_one, DL.i_seq, DL.i_rng1, DL.i_rng2, DL.i_enum, DL.i_zip, DL.s_set, DL.s_setF, DL.s_asg, DL.s_par, DL.s_par3, DL.s_aug, DL.s_app, DL.s_ext, DL.s_pop, DL.s_expr, DL.s_ret, DL.s_retT, DL.s_ite, DL.s_whl, DL.s_for, DL.s_gset, DL.s_brk, DL.s_cnt, DL.s_nil, DL.s_cons, DL.s_frz, DL.t_name, DL.t_tup, DL.t_nil, DL.t_cons, DL.t_len0, DL.t_len1, DL.k_locd, DL.k_loco, DL.k_neg, DL.k_tt, DL.k_ff, DL.k_any, DL.k_lst, DL.k_int, DL.k_dat, DL.k_ty, DL.k_keep, DL.k_own, DL.k_slot, DL.k_new, DL.k_seqt, DL.k_seql, DL.k_seqs, DL.k_seqo, DL.k_enut, DL.k_enul, DL.k_enuo, DL.k_zipt, DL.k_zipl, DL.k_gix, DL.k_gst, DL.k_setd, DL.k_seto, DL.a_dd, DL.a_do, DL.a_rd, DL.a_ro, DL.a_rb, DL.a_nil, DL.a_d, DL.a_o, DL.a_l, DL.a_lo, DL.a_lb, DL.o_add, DL.o_addb, DL.o_adds, DL.o_addt, DL.o_sub, DL.o_subb, DL.o_subbb, DL.o_iadd, DL.o_iaddb, DL.o_isub, DL.o_isubb, DL.o_mul, DL.o_fdiv, DL.o_mod, DL.o_lt, DL.o_le, DL.o_gt, DL.o_ge, DL.o_eq, DL.o_ne, DL.o_isn, DL.o_notn, DL.o_isb, DL.o_notb, DL.o_idxt, DL.o_idxl, DL.o_idxo, DL.o_idxb, DL.o_slct, DL.o_slcl, DL.o_slco, DL.o_slcb, DL.o_rev, DL.o_lent, DL.o_lenl, DL.o_lens, DL.o_leno, DL.o_lenb, DL.o_lenstr, DL.o_abs, DL.o_int, DL.o_intb, DL.o_tupo, DL.o_tupl, DL.o_tupt, DL.o_tupb, DL.o_lso, DL.o_lsl, DL.o_lst, DL.o_lss, DL.o_lsb, DL.o_all, DL.o_anyy, DL.o_sum, DL.o_sorted, DL.u_bl, DL.u_int, DL.u_non, DL.u_tup, DL.u_lst, DL.u_own, DL.u_bor, DL.x_0, DL.x_1, DL.x_2, DL.x_3, DL.x_4, DL.x_5, DL.y_tuplenon, DL.y_tuplebl, DL.y_tupleint, DL.y_tuplestr, DL.y_tupletup, DL.y_tuplelst, DL.y_listnon, DL.y_listbl, DL.y_listint, DL.y_liststr, DL.y_listtup, DL.y_listlst, DL.y_dictnon, DL.y_dictbl, DL.y_dictint, DL.y_dictstr, DL.y_dicttup, DL.y_dictlst, DL.y_strnon, DL.y_strbl, DL.y_strint, DL.y_strstr, DL.y_strtup, DL.y_strlst, DL.y_intnon, DL.y_intbl, DL.y_intint, DL.y_intstr, DL.y_inttup, DL.y_intlst, DL.y_boolnon, DL.y_boolbl, DL.y_boolint, DL.y_boolstr, DL.y_booltup, DL.y_boollst, DL.j_n1, DL.j_n2, DL.j_n3, DL.j_n4, DL.j_n5, DL.j_f1, DL.j_f2, DL.j_f3, DL.j_f4, DL.j_f5, DL.j_w1, DL.j_w2, DL.j_w3, DL.j_w4, DL.j_w5, DL.j_01, DL.j_02, DL.j_03, DL.eqD_int, DL.eqOk_int, List.getElem?_cons_zero, List.getElem?_cons_succ, List.set_cons_zero, List.set_cons_succ, List.length_cons, List.length_nil, Option.map_some, Option.map_none, true_and, eq_self]
      refine iteK_of (fun c1 => ?_) (fun c1 => ?_)
      · refine Tless_of (op.2.mono (by decide)) (ob.2.mono (by decide)) ?_
        simp only [DL.e_loc, DL.e_cst, DL.e_gc, DL.e_bin, DL.e_neg, DL.e_cmp, DL.e_chn, DL.e_and, DL.e_or, DL.e_not, DL.e_ite, DL.e_idx, DL.e_gidx, DL.e_slc, DL.e_tup, DL.e_lst, DL.e_call, DL.e_bi, DL.e_inst, DL.e_comp, DL.e_nev, DL.e_nil, DL.e_cons, DL.e_no, DL.e_yes, DL.b_val, DL.b_cmp, DL.b_chn, DL.b_and, DL.b_or, DL.b_not, DL.b_no, DL.b_one, DL.i_seq, DL.i_rng1, DL.i_rng2, DL.i_enum, DL.i_zip, DL.s_set, DL.s_setF, DL.s_asg, DL.s_par, DL.s_par3, DL.s_aug, DL.s_app, DL.s_ext, DL.s_pop, DL.s_expr, DL.s_ret, DL.s_retT, DL.s_ite, DL.s_whl, DL.s_for, DL.s_gset, DL.s_brk, DL.s_cnt, DL.s_nil, DL.s_cons, DL.s_frz, DL.t_name, DL.t_tup, DL.t_nil, DL.t_cons, DL.t_len0, DL.t_len1, DL.k_locd, DL.k_loco, DL.k_neg, DL.k_tt, DL.k_ff, DL.k_any, DL.k_lst, DL.k_int, DL.k_dat, DL.k_ty, DL.k_keep, DL.k_own, DL.k_slot, DL.k_new, DL.k_seqt, DL.k_seql, DL.k_seqs, DL.k_seqo, DL.k_enut, DL.k_enul, DL.k_enuo, DL.k_zipt, DL.k_zipl, DL.k_gix, DL.k_gst, DL.k_setd, DL.k_seto, DL.a_dd, DL.a_do, DL.a_rd, DL.a_ro, DL.a_rb, DL.a_nil, DL.a_d, DL.a_o, DL.a_l, DL.a_lo, DL.a_lb, DL.o_add, DL.o_addb, DL.o_adds, DL.o_addt, DL.o_sub, DL.o_subb, DL.o_subbb, DL.o_iadd, DL.o_iaddb, DL.o_isub, DL.o_isubb, DL.o_mul, DL.o_fdiv, DL.o_mod, DL.o_lt, DL.o_le, DL.o_gt, DL.o_ge, DL.o_eq, DL.o_ne, DL.o_isn, DL.o_notn, DL.o_isb, DL.o_notb, DL.o_idxt, DL.o_idxl, DL.o_idxo, DL.o_idxb, DL.o_slct, DL.o_slcl, DL.o_slco, DL.o_slcb, DL.o_rev, DL.o_lent, DL.o_lenl, DL.o_lens, DL.o_leno, DL.o_lenb, DL.o_lenstr, DL.o_abs, DL.o_int, DL.o_intb, DL.o_tupo, DL.o_tupl, DL.o_tupt, DL.o_tupb, DL.o_lso, DL.o_lsl, DL.o_lst, DL.o_lss, DL.o_lsb, DL.o_all, DL.o_anyy, DL.o_sum, DL.o_sorted, DL.u_bl, DL.u_int, DL.u_non, DL.u_tup, DL.u_lst, DL.u_own, DL.u_bor, DL.x_0, DL.x_1, DL.x_2, DL.x_3, DL.x_4, DL.x_5, DL.y_tuplenon, DL.y_tuplebl, DL.y_tupleint, DL.y_tuplestr, DL.y_tupletup, DL.y_tuplelst, DL.y_listnon, DL.y_listbl, DL.y_listint, DL.y_liststr, DL.y_listtup, DL.y_listlst, DL.y_dictnon, DL.y_dictbl, DL.y_dictint, DL.y_dictstr, DL.y_dicttup, DL.y_dictlst, DL.y_strnon, DL.y_strbl, DL.y_strint, DL.y_strstr, DL.y_strtup, DL.y_strlst, DL.y_intnon, DL.y_intbl, DL.y_intint, DL.y_intstr, DL.y_inttup, DL.y_intlst, DL.y_boolnon, DL.y_boolbl, DL.y_boolint, DL.y_boolstr, DL.y_booltup, DL.y_boollst, DL.j_n1, DL.j_n2, DL.j_n3, DL.j_n4, DL.j_n5, DL.j_f1, DL.j_f2, DL.j_f3, DL.j_f4, DL.j_f5, DL.j_w1, DL.j_w2, DL.j_w3, DL.j_w4, DL.j_w5, DL.j_01, DL.j_02, DL.j_03, DL.eqD_int, DL.eqOk_int, List.getElem?_cons_zero, List.getElem?_cons_succ, List.set_cons_zero, List.set_cons_succ, List.length_cons, List.length_nil, Option.map_some, Option.map_none, true_and, eq_self]
        refine iteK_of (fun c2 => ?_) (fun c2 => ?_)
        · have hc : ¬ p.2 < ed.1.2 ∧ p.2 < ed.2.2 := by simpa using And.intro c1 c2
          simp only [ctn_5, DL.e_loc, DL.e_cst, DL.e_gc, DL.e_bin, DL.e_neg, DL.e_cmp, DL.e_chn, DL.e_and, DL.e_or, DL.e_not, DL.e_ite, DL.e_idx, DL.e_gidx, DL.e_slc, DL.e_tup, DL.e_lst, DL.e_call, DL.e_bi, DL.e_inst, DL.e_comp, DL.e_nev, DL.e_nil, DL.e_cons, DL.e_no, DL.e_yes, DL.b_val, DL.b_cmp, DL.b_chn, DL.b_and, DL.b_or, DL.b_not, DL.b_no, DL.b_one, DL.i_seq, DL.i_rng1, DL.i_rng2, DL.i_enum, DL.i_zip, DL.s_set, DL.s_setF, DL.s_asg, DL.s_par, DL.s_par3, DL.s_aug, DL.s_app, DL.s_ext, DL.s_pop, DL.s_expr, DL.s_ret, DL.s_retT, DL.s_ite, DL.s_whl, DL.s_for, DL.s_gset, DL.s_brk, DL.s_cnt, DL.s_nil, DL.s_cons, DL.s_frz, DL.t_name, DL.t_tup, DL.t_nil, DL.t_cons, DL.t_len0, DL.t_len1, DL.k_locd, DL.k_loco, DL.k_neg, DL.k_tt, DL.k_ff, DL.k_any, DL.k_lst, DL.k_int, DL.k_dat, DL.k_ty, DL.k_keep, DL.k_own, DL.k_slot, DL.k_new, DL.k_seqt, DL.k_seql, DL.k_seqs, DL.k_seqo, DL.k_enut, DL.k_enul, DL.k_enuo, DL.k_zipt, DL.k_zipl, DL.k_gix, DL.k_gst, DL.k_setd, DL.k_seto, DL.a_dd, DL.a_do, DL.a_rd, DL.a_ro, DL.a_rb, DL.a_nil, DL.a_d, DL.a_o, DL.a_l, DL.a_lo, DL.a_lb, DL.o_add, DL.o_addb, DL.o_adds, DL.o_addt, DL.o_sub, DL.o_subb, DL.o_subbb, DL.o_iadd, DL.o_iaddb, DL.o_isub, DL.o_isubb, DL.o_mul, DL.o_fdiv, DL.o_mod, DL.o_lt, DL.o_le, DL.o_gt, DL.o_ge, DL.o_eq, DL.o_ne, DL.o_isn, DL.o_notn, DL.o_isb, DL.o_notb, DL.o_idxt, DL.o_idxl, DL.o_idxo, DL.o_idxb, DL.o_slct, DL.o_slcl, DL.o_slco, DL.o_slcb, DL.o_rev, DL.o_lent, DL.o_lenl, DL.o_lens, DL.o_leno, DL.o_lenb, DL.o_lenstr, DL.o_abs, DL.o_int, DL.o_intb, DL.o_tupo, DL.o_tupl, DL.o_tupt, DL.o_tupb, DL.o_lso, DL.o_lsl, DL.o_lst, DL.o_lss, DL.o_lsb, DL.o_all, DL.o_anyy, DL.o_sum, DL.o_sorted, DL.u_bl, DL.u_int, DL.u_non, DL.u_tup, DL.u_lst, DL.u_own, DL.u_bor, DL.x_0, DL.x_1, DL.x_2, DL.x_3, DL.x_4, DL.x_5, DL.y_tuplenon, DL.y_tuplebl, DL.y_tupleint, DL.y_tuplestr, DL.y_tupletup, DL.y_tuplelst, DL.y_listnon, DL.y_listbl, DL.y_listint, DL.y_liststr, DL.y_listtup, DL.y_listlst, DL.y_dictnon, DL.y_dictbl, DL.y_dictint, DL.y_dictstr, DL.y_dicttup, DL.y_dictlst, DL.y_strnon, DL.y_strbl, DL.y_strint, DL.y_strstr, DL.y_strtup, DL.y_strlst, DL.y_intnon, DL.y_intbl, DL.y_intint, DL.y_intstr, DL.y_inttup, DL.y_intlst, DL.y_boolnon, DL.y_boolbl, DL.y_boolint, DL.y_boolstr, DL.y_booltup, DL.y_boollst, DL.j_n1, DL.j_n2, DL.j_n3, DL.j_n4, DL.j_n5, DL.j_f1, DL.j_f2, DL.j_f3, DL.j_f4, DL.j_f5, DL.j_w1, DL.j_w2, DL.j_w3, DL.j_w4, DL.j_w5, DL.j_01, DL.j_02, DL.j_03, DL.eqD_int, DL.eqOk_int, List.getElem?_cons_zero, List.getElem?_cons_succ, List.set_cons_zero, List.set_cons_succ, List.length_cons, List.length_nil, Option.map_some, Option.map_none, true_and, eq_self, h3]
          refine ⟨ed.1, ed.2, p, rfl, oa, ob, op, ?_⟩
          simp only [DL.e_loc, DL.e_cst, DL.e_gc, DL.e_bin, DL.e_neg, DL.e_cmp, DL.e_chn, DL.e_and, DL.e_or, DL.e_not, DL.e_ite, DL.e_idx, DL.e_gidx, DL.e_slc, DL.e_tup, DL.e_lst, DL.e_call, DL.e_bi, DL.e_inst, DL.e_comp, DL.e_nev, DL.e_nil, DL.e_cons, DL.e_no, DL.e_yes, DL.b_val, DL.b_cmp, DL.b_chn, DL.b_and, DL.b_or, DL.b_not, DL.b_no, DL.b_one, DL.i_seq, DL.i_rng1, DL.i_rng2, DL.i_enum, DL.i_zip, DL.s_set, DL.s_setF, DL.s_asg, DL.s_par, DL.s_par3, DL.s_aug, DL.s_app, DL.s_ext, DL.s_pop, DL.s_expr, DL.s_ret, DL.s_retT, DL.s_ite, DL.s_whl, DL.s_for, DL.s_gset, DL.s_brk, DL.s_cnt, DL.s_nil, DL.s_cons, DL.s_frz, DL.t_name, DL.t_tup, DL.t_nil, DL.t_cons, DL.t_len0, DL.t_len1, DL.k_locd, DL.k_loco, DL.k_neg, DL.k_tt, DL.k_ff, DL.k_any, DL.k_lst, DL.k_int, DL.k_dat, DL.k_ty, DL.k_keep, DL.k_own, DL.k_slot, DL.k_new, DL.k_seqt, DL.k_seql, DL.k_seqs, DL.k_seqo, DL.k_enut, DL.k_enul, DL.k_enuo, DL.k_zipt, DL.k_zipl, DL.k_gix, DL.k_gst, DL.k_setd, DL.k_seto, DL.a_dd, DL.a_do, DL.a_rd, DL.a_ro, DL.a_rb, DL.a_nil, DL.a_d, DL.a_o, DL.a_l, DL.a_lo, DL.a_lb, DL.o_add, DL.o_addb, DL.o_adds, DL.o_addt, DL.o_sub, DL.o_subb, DL.o_subbb, DL.o_iadd, DL.o_iaddb, DL.o_isub, DL.o_isubb, DL.o_mul, DL.o_fdiv, DL.o_mod, DL.o_lt, DL.o_le, DL.o_gt, DL.o_ge, DL.o_eq, DL.o_ne, DL.o_isn, DL.o_notn, DL.o_isb, DL.o_notb, DL.o_idxt, DL.o_idxl, DL.o_idxo, DL.o_idxb, DL.o_slct, DL.o_slcl, DL.o_slco, DL.o_slcb, DL.o_rev, DL.o_lent, DL.o_lenl, DL.o_lens, DL.o_leno, DL.o_lenb, DL.o_lenstr, DL.o_abs, DL.o_int, DL.o_intb, DL.o_tupo, DL.o_tupl, DL.o_tupt, DL.o_tupb, DL.o_lso, DL.o_lsl, DL.o_lst, DL.o_lss, DL.o_lsb, DL.o_all, DL.o_anyy, DL.o_sum, DL.o_sorted, DL.u_bl, DL.u_int, DL.u_non, DL.u_tup, DL.u_lst, DL.u_own, DL.u_bor, DL.x_0, DL.x_1, DL.x_2, DL.x_3, DL.x_4, DL.x_5, DL.y_tuplenon, DL.y_tuplebl, DL.y_tupleint, DL.y_tuplestr, DL.y_tupletup, DL.y_tuplelst, DL.y_listnon, DL.y_listbl, DL.y_listint, DL.y_liststr, DL.y_listtup, DL.y_listlst, DL.y_dictnon, DL.y_dictbl, DL.y_dictint, DL.y_dictstr, DL.y_dicttup, DL.y_dictlst, DL.y_strnon, DL.y_strbl, DL.y_strint, DL.y_strstr, DL.y_strtup, DL.y_strlst, DL.y_intnon, DL.y_intbl, DL.y_intint, DL.y_intstr, DL.y_inttup, DL.y_intlst, DL.y_boolnon, DL.y_boolbl, DL.y_boolint, DL.y_boolstr, DL.y_booltup, DL.y_boollst, DL.j_n1, DL.j_n2, DL.j_n3, DL.j_n4, DL.j_n5, DL.j_f1, DL.j_f2, DL.j_f3, DL.j_f4, DL.j_f5, DL.j_w1, DL.j_w2, DL.j_w3, DL.j_w4, DL.j_w5, DL.j_01, DL.j_02, DL.j_03, DL.eqD_int, DL.eqOk_int, List.getElem?_cons_zero, List.getElem?_cons_succ, List.set_cons_zero, List.set_cons_succ, List.length_cons, List.length_nil, Option.map_some, Option.map_none, true_and, eq_self, sign_pos]
          have hcr : cross p ed = if 0 < sideR ed.1 ed.2 p then 1 else 0 := by
            unfold cross
            rw [if_pos hc]
          refine ih _ _ _ he' ?_
          rw [hcr] at e
          by_cases z : 0 < sideR ed.1 ed.2 p
          · simp [z] at e ⊢; omega
          · simp [z] at e ⊢; omega
        · rcases low with low | hc
          · exact low
          · have : ¬ p.2 < ed.2.2 := by simpa using c2
            exact absurd hc.2 this
      · rcases low with low | hc
        · exact low
        · have : p.2 < ed.1.2 := by simpa using c1
          exact absurd this hc.1
  exact key _ 0 none none (fun e he => ors.edge he) (by rw [Int.zero_add]; rfl)
end
end DC
namespace DC
open PySem DL
def RuleOk (r : Str) : Prop := r = "whole" ∨ r = "odd"
theorem RuleOk.ok {r : Str} (h : RuleOk r) : PyData.strOk r = true := by
  rcases h with rfl | rfl <;> decide +kernel
def kindD (c : List (List Pt) × Str) : D := .tup [ringsD c.1, .str c.2]
structure Area where
  rings : List (List Pt)
  rule : Str
  clips : List (List (List Pt) × Str)
def areaD (a : Area) : D := .tup [ringsD a.rings, .str a.rule, .tup (a.clips.map kindD)]
def ArOk (b : Nat) (a : Area) : Prop := RgOk b a.rings ∧ RuleOk a.rule ∧ a.clips.length ≤ 1000 ∧ ∀ c ∈ a.clips, RgOk b c.1 ∧ RuleOk c.2
def hasA (a : Area) (p : Pt) : Bool := isIn a.rings a.rule p && a.clips.all fun c => isIn c.1 c.2 p
theorem t_kind {ts : CTs} {c : List (List Pt) × Str} {L : DL.Loc} {k : DL.Loc → Prop} : bindT (.tup ts) (kindD c) L k = (2 = CTs.len ts ∧ bindTs ts [ringsD c.1, .str c.2] L k) := rfl
theorem t_area {ts : CTs} {a : Area} {L : DL.Loc} {k : DL.Loc → Prop} : bindT (.tup ts) (areaD a) L k = (3 = CTs.len ts ∧ bindTs ts [ringsD a.rings, .str a.rule, .tup (a.clips.map kindD)] L k) := rfl
theorem x_ar0 {a : Area} {k : EV → Prop} : opI .any (.d (areaD a)) (.d (.int 0)) k = k (.d (ringsD a.rings)) := by
  show idxK [ringsD a.rings, .str a.rule, .tup (a.clips.map kindD)] 0 k = _
  rw [x_0]
theorem x_ar1 {a : Area} {k : EV → Prop} : opI .any (.d (areaD a)) (.d (.int 1)) k = k (.d (.str a.rule)) := by
  show idxK [ringsD a.rings, .str a.rule, .tup (a.clips.map kindD)] 1 k = _
  rw [x_1]
theorem x_ar2 {a : Area} {k : EV → Prop} : opI .any (.d (areaD a)) (.d (.int 2)) k = k (.d (.tup (a.clips.map kindD))) := by
  show idxK [ringsD a.rings, .str a.rule, .tup (a.clips.map kindD)] 2 k = _
  rw [x_2]
/-- the slots a comprehension sees -/
theorem blk_eq {L : DL.Loc} {vs : List Nat} : blkL L vs = wipeL (L.map noOwn) vs := rfl
theorem wipe_nil {L : DL.Loc} : wipeL L [] = L := rfl
theorem wipe_cons {L : DL.Loc} {v : Nat} {vs : List Nat} : wipeL L (v :: vs) = (wipeL L vs).set v none := rfl
theorem no_d {d : D} : noOwn (some (.d d)) = some (.d d) := rfl
theorem no_o {d : List D} : noOwn (some (.own d)) = none := rfl
theorem no_n : noOwn none = none := rfl
section
variable {S : Sg} {N : List Str} {k1 k2 k3 : Nat}
def Tisin : DSp := fun ds G Q _ => ∃ rs rule p, ds = [ringsD rs, .str rule, ptD p] ∧ RgOk 100 rs ∧ RuleOk rule ∧ PtOk 100 p ∧ Q (.bl (isIn rs rule p)) G
def cin_2 (g : Nat) : CSs := .cons (.ret (.ite (.cmp .eq (.loc 1) (.gc g)) (.cmp .ne (.loc 3) (.cst (.int 0))) (.cmp .eq (.bin .mod (.loc 3) (.cst (.int 2))) (.cst (.int 1))))) .nil
def cin_1 (k1 g : Nat) : CSs := .cons (.setF 3 (.call k1 (.cons (.loc 0) (.cons (.loc 2) .nil)))) (cin_2 g)
theorem run_isin (hN : N.length = 4) (h1 : S.sp k1 = Tturns) {g : Nat} (hg : S.gc g = .str "whole") : ∀ ds G Q E, Tisin ds G Q E → runB S N (cin_1 k1 g) ds G Q E := by
  rintro ds G Q E ⟨rs, rule, p, rfl, ors, or, op, h⟩
  simp only [run_eq, startL, hN, cin_1, DL.e_loc, DL.e_cst, DL.e_gc, DL.e_bin, DL.e_neg, DL.e_cmp, DL.e_chn, DL.e_and, DL.e_or, DL.e_not, DL.e_ite, DL.e_idx, DL.e_gidx, DL.e_slc, DL.e_tup, DL.e_lst, DL.e_call, DL.e_bi, DL.e_inst, DL.e_comp, DL.e_nev, DL.e_nil, DL.e_cons, DL.e_no, DL.e_yes, DL.b_val, DL.b_cmp, DL.b_chn, DL.b_and, DL.b_or, DL.b_not, DL.b_no, DL.b_one, DL.i_seq, DL.i_rng1, DL.i_rng2, DL.i_enum, DL.i_zip, DL.s_set, DL.s_setF, DL.s_asg, DL.s_par, DL.s_par3, DL.s_aug, DL.s_app, DL.s_ext, DL.s_pop, DL.s_expr, DL.s_ret, DL.s_retT, DL.s_ite, DL.s_whl, DL.s_for, DL.s_gset, DL.s_brk, DL.s_cnt, DL.s_nil, DL.s_cons, DL.s_frz, DL.t_name, DL.t_tup, DL.t_nil, DL.t_cons, DL.t_len0, DL.t_len1, DL.k_locd, DL.k_loco, DL.k_neg, DL.k_tt, DL.k_ff, DL.k_any, DL.k_lst, DL.k_int, DL.k_dat, DL.k_ty, DL.k_keep, DL.k_own, DL.k_slot, DL.k_new, DL.k_seqt, DL.k_seql, DL.k_seqs, DL.k_seqo, DL.k_enut, DL.k_enul, DL.k_enuo, DL.k_zipt, DL.k_zipl, DL.k_gix, DL.k_gst, DL.k_setd, DL.k_seto, DL.a_dd, DL.a_do, DL.a_rd, DL.a_ro, DL.a_rb, DL.a_nil, DL.a_d, DL.a_o, DL.a_l, DL.a_lo, DL.a_lb, DL.o_add, DL.o_addb, DL.o_adds, DL.o_addt, DL.o_sub, DL.o_subb, DL.o_subbb, DL.o_iadd, DL.o_iaddb, DL.o_isub, DL.o_isubb, DL.o_mul, DL.o_fdiv, DL.o_mod, DL.o_lt, DL.o_le, DL.o_gt, DL.o_ge, DL.o_eq, DL.o_ne, DL.o_isn, DL.o_notn, DL.o_isb, DL.o_notb, DL.o_idxt, DL.o_idxl, DL.o_idxo, DL.o_idxb, DL.o_slct, DL.o_slcl, DL.o_slco, DL.o_slcb, DL.o_rev, DL.o_lent, DL.o_lenl, DL.o_lens, DL.o_leno, DL.o_lenb, DL.o_lenstr, DL.o_abs, DL.o_int, DL.o_intb, DL.o_tupo, DL.o_tupl, DL.o_tupt, DL.o_tupb, DL.o_lso, DL.o_lsl, DL.o_lst, DL.o_lss, DL.o_lsb, DL.o_all, DL.o_anyy, DL.o_sum, DL.o_sorted, DL.u_bl, DL.u_int, DL.u_non, DL.u_tup, DL.u_lst, DL.u_own, DL.u_bor, DL.x_0, DL.x_1, DL.x_2, DL.x_3, DL.x_4, DL.x_5, DL.y_tuplenon, DL.y_tuplebl, DL.y_tupleint, DL.y_tuplestr, DL.y_tupletup, DL.y_tuplelst, DL.y_listnon, DL.y_listbl, DL.y_listint, DL.y_liststr, DL.y_listtup, DL.y_listlst, DL.y_dictnon, DL.y_dictbl, DL.y_dictint, DL.y_dictstr, DL.y_dicttup, DL.y_dictlst, DL.y_strnon, DL.y_strbl, DL.y_strint, DL.y_strstr, DL.y_strtup, DL.y_strlst, DL.y_intnon, DL.y_intbl, DL.y_intint, DL.y_intstr, DL.y_inttup, DL.y_intlst, DL.y_boolnon, DL.y_boolbl, DL.y_boolint, DL.y_boolstr, DL.y_booltup, DL.y_boollst, DL.j_n1, DL.j_n2, DL.j_n3, DL.j_n4, DL.j_n5, DL.j_f1, DL.j_f2, DL.j_f3, DL.j_f4, DL.j_f5, DL.j_w1, DL.j_w2, DL.j_w3, DL.j_w4, DL.j_w5, DL.j_01, DL.j_02, DL.j_03, DL.eqD_int, DL.eqOk_int, List.getElem?_cons_zero, List.getElem?_cons_succ, List.set_cons_zero, List.set_cons_succ, List.length_cons, List.length_nil, Option.map_some, Option.map_none, true_and, eq_self, List.map_cons, List.map_nil, Nat.reduceAdd, Nat.reduceSub, List.replicate_succ, List.replicate_zero, List.append_nil, List.cons_append, List.nil_append, h1]
  refine ⟨rs, p, rfl, ors, op, ?_⟩
  simp only [cin_2, DL.e_loc, DL.e_cst, DL.e_gc, DL.e_bin, DL.e_neg, DL.e_cmp, DL.e_chn, DL.e_and, DL.e_or, DL.e_not, DL.e_ite, DL.e_idx, DL.e_gidx, DL.e_slc, DL.e_tup, DL.e_lst, DL.e_call, DL.e_bi, DL.e_inst, DL.e_comp, DL.e_nev, DL.e_nil, DL.e_cons, DL.e_no, DL.e_yes, DL.b_val, DL.b_cmp, DL.b_chn, DL.b_and, DL.b_or, DL.b_not, DL.b_no, DL.b_one, DL.i_seq, DL.i_rng1, DL.i_rng2, DL.i_enum, DL.i_zip, DL.s_set, DL.s_setF, DL.s_asg, DL.s_par, DL.s_par3, DL.s_aug, DL.s_app, DL.s_ext, DL.s_pop, DL.s_expr, DL.s_ret, DL.s_retT, DL.s_ite, DL.s_whl, DL.s_for, DL.s_gset, DL.s_brk, DL.s_cnt, DL.s_nil, DL.s_cons, DL.s_frz, DL.t_name, DL.t_tup, DL.t_nil, DL.t_cons, DL.t_len0, DL.t_len1, DL.k_locd, DL.k_loco, DL.k_neg, DL.k_tt, DL.k_ff, DL.k_any, DL.k_lst, DL.k_int, DL.k_dat, DL.k_ty, DL.k_keep, DL.k_own, DL.k_slot, DL.k_new, DL.k_seqt, DL.k_seql, DL.k_seqs, DL.k_seqo, DL.k_enut, DL.k_enul, DL.k_enuo, DL.k_zipt, DL.k_zipl, DL.k_gix, DL.k_gst, DL.k_setd, DL.k_seto, DL.a_dd, DL.a_do, DL.a_rd, DL.a_ro, DL.a_rb, DL.a_nil, DL.a_d, DL.a_o, DL.a_l, DL.a_lo, DL.a_lb, DL.o_add, DL.o_addb, DL.o_adds, DL.o_addt, DL.o_sub, DL.o_subb, DL.o_subbb, DL.o_iadd, DL.o_iaddb, DL.o_isub, DL.o_isubb, DL.o_mul, DL.o_fdiv, DL.o_mod, DL.o_lt, DL.o_le, DL.o_gt, DL.o_ge, DL.o_eq, DL.o_ne, DL.o_isn, DL.o_notn, DL.o_isb, DL.o_notb, DL.o_idxt, DL.o_idxl, DL.o_idxo, DL.o_idxb, DL.o_slct, DL.o_slcl, DL.o_slco, DL.o_slcb, DL.o_rev, DL.o_lent, DL.o_lenl, DL.o_lens, DL.o_leno, DL.o_lenb, DL.o_lenstr, DL.o_abs, DL.o_int, DL.o_intb, DL.o_tupo, DL.o_tupl, DL.o_tupt, DL.o_tupb, DL.o_lso, DL.o_lsl, DL.o_lst, DL.o_lss, DL.o_lsb, DL.o_all, DL.o_anyy, DL.o_sum, DL.o_sorted, DL.u_bl, DL.u_int, DL.u_non, DL.u_tup, DL.u_lst, DL.u_own, DL.u_bor, DL.x_0, DL.x_1, DL.x_2, DL.x_3, DL.x_4, DL.x_5, DL.y_tuplenon, DL.y_tuplebl, DL.y_tupleint, DL.y_tuplestr, DL.y_tupletup, DL.y_tuplelst, DL.y_listnon, DL.y_listbl, DL.y_listint, DL.y_liststr, DL.y_listtup, DL.y_listlst, DL.y_dictnon, DL.y_dictbl, DL.y_dictint, DL.y_dictstr, DL.y_dicttup, DL.y_dictlst, DL.y_strnon, DL.y_strbl, DL.y_strint, DL.y_strstr, DL.y_strtup, DL.y_strlst, DL.y_intnon, DL.y_intbl, DL.y_intint, DL.y_intstr, DL.y_inttup, DL.y_intlst, DL.y_boolnon, DL.y_boolbl, DL.y_boolint, DL.y_boolstr, DL.y_booltup, DL.y_boollst, DL.j_n1, DL.j_n2, DL.j_n3, DL.j_n4, DL.j_n5, DL.j_f1, DL.j_f2, DL.j_f3, DL.j_f4, DL.j_f5, DL.j_w1, DL.j_w2, DL.j_w3, DL.j_w4, DL.j_w5, DL.j_01, DL.j_02, DL.j_03, DL.eqD_int, DL.eqOk_int, List.getElem?_cons_zero, List.getElem?_cons_succ, List.set_cons_zero, List.set_cons_succ, List.length_cons, List.length_nil, Option.map_some, Option.map_none, true_and, eq_self, hg, eqD_str]
  refine ⟨eqOk_str or.ok, eqOk_str (by decide +kernel), iteK_of (fun e => ?_) (fun e => ?_)⟩
  · have : rule = "whole" := of_decide_eq_true e
    unfold isIn at h
    rw [if_pos this] at h
    have e2 : (!decide (wind rs p = 0)) = decide (wind rs p ≠ 0) := by simp
    rw [e2]
    exact h
  · have : ¬ rule = "whole" := of_decide_eq_false e
    unfold isIn at h
    rw [if_neg this] at h
    exact ⟨by decide, h⟩
def Thas : DSp := fun ds G Q _ => ∃ a p, ds = [areaD a, ptD p] ∧ ArOk 100 a ∧ PtOk 100 p ∧ Q (.bl (hasA a p)) G
def chs_2 (k1 : Nat) : CSs := .cons (.ret (.and (.call k1 (.cons (.loc 2) (.cons (.loc 3) (.cons (.loc 1) .nil)))) (.bi .all (.comp (.tup (.cons (.name 5) (.cons (.name 6) .nil))) (.seq (.loc 4)) .no (.call k1 (.cons (.loc 5) (.cons (.loc 6) (.cons (.loc 1) .nil)))) [5, 6])))) .nil
def chs_1 (k1 : Nat) : CSs := .cons (.asg (.tup (.cons (.name 2) (.cons (.name 3) (.cons (.name 4) .nil)))) (.loc 0)) (chs_2 k1)
theorem run_has (hN : N.length = 7) (h1 : S.sp k1 = Tisin) : ∀ ds G Q E, Thas ds G Q E → runB S N (chs_1 k1) ds G Q E := by
  rintro ds G Q E ⟨a, p, rfl, oa, op, h⟩
  simp only [run_eq, startL, hN, chs_1, DL.e_loc, DL.e_cst, DL.e_gc, DL.e_bin, DL.e_neg, DL.e_cmp, DL.e_chn, DL.e_and, DL.e_or, DL.e_not, DL.e_ite, DL.e_idx, DL.e_gidx, DL.e_slc, DL.e_tup, DL.e_lst, DL.e_call, DL.e_bi, DL.e_inst, DL.e_comp, DL.e_nev, DL.e_nil, DL.e_cons, DL.e_no, DL.e_yes, DL.b_val, DL.b_cmp, DL.b_chn, DL.b_and, DL.b_or, DL.b_not, DL.b_no, DL.b_one, DL.i_seq, DL.i_rng1, DL.i_rng2, DL.i_enum, DL.i_zip, DL.s_set, DL.s_setF, DL.s_asg, DL.s_par, DL.s_par3, DL.s_aug, DL.s_app, DL.s_ext, DL.s_pop, DL.s_expr, DL.s_ret, DL.s_retT, DL.s_ite, DL.s_whl, DL.s_for, DL.s_gset, DL.s_brk, DL.s_cnt, DL.s_nil, DL.s_cons, DL.s_frz, DL.t_name, DL.t_tup, DL.t_nil, DL.t_cons, DL.t_len0, DL.t_len1, DL.k_locd, DL.k_loco, DL.k_neg, DL.k_tt, DL.k_ff, DL.k_any, DL.k_lst, DL.k_int, DL.k_dat, DL.k_ty, DL.k_keep, DL.k_own, DL.k_slot, DL.k_new, DL.k_seqt, DL.k_seql, DL.k_seqs, DL.k_seqo, DL.k_enut, DL.k_enul, DL.k_enuo, DL.k_zipt, DL.k_zipl, DL.k_gix, DL.k_gst, DL.k_setd, DL.k_seto, DL.a_dd, DL.a_do, DL.a_rd, DL.a_ro, DL.a_rb, DL.a_nil, DL.a_d, DL.a_o, DL.a_l, DL.a_lo, DL.a_lb, DL.o_add, DL.o_addb, DL.o_adds, DL.o_addt, DL.o_sub, DL.o_subb, DL.o_subbb, DL.o_iadd, DL.o_iaddb, DL.o_isub, DL.o_isubb, DL.o_mul, DL.o_fdiv, DL.o_mod, DL.o_lt, DL.o_le, DL.o_gt, DL.o_ge, DL.o_eq, DL.o_ne, DL.o_isn, DL.o_notn, DL.o_isb, DL.o_notb, DL.o_idxt, DL.o_idxl, DL.o_idxo, DL.o_idxb, DL.o_slct, DL.o_slcl, DL.o_slco, DL.o_slcb, DL.o_rev, DL.o_lent, DL.o_lenl, DL.o_lens, DL.o_leno, DL.o_lenb, DL.o_lenstr, DL.o_abs, DL.o_int, DL.o_intb, DL.o_tupo, DL.o_tupl, DL.o_tupt, DL.o_tupb, DL.o_lso, DL.o_lsl, DL.o_lst, DL.o_lss, DL.o_lsb, DL.o_all, DL.o_anyy, DL.o_sum, DL.o_sorted, DL.u_bl, DL.u_int, DL.u_non, DL.u_tup, DL.u_lst, DL.u_own, DL.u_bor, DL.x_0, DL.x_1, DL.x_2, DL.x_3, DL.x_4, DL.x_5, DL.y_tuplenon, DL.y_tuplebl, DL.y_tupleint, DL.y_tuplestr, DL.y_tupletup, DL.y_tuplelst, DL.y_listnon, DL.y_listbl, DL.y_listint, DL.y_liststr, DL.y_listtup, DL.y_listlst, DL.y_dictnon, DL.y_dictbl, DL.y_dictint, DL.y_dictstr, DL.y_dicttup, DL.y_dictlst, DL.y_strnon, DL.y_strbl, DL.y_strint, DL.y_strstr, DL.y_strtup, DL.y_strlst, DL.y_intnon, DL.y_intbl, DL.y_intint, DL.y_intstr, DL.y_inttup, DL.y_intlst, DL.y_boolnon, DL.y_boolbl, DL.y_boolint, DL.y_boolstr, DL.y_booltup, DL.y_boollst, DL.j_n1, DL.j_n2, DL.j_n3, DL.j_n4, DL.j_n5, DL.j_f1, DL.j_f2, DL.j_f3, DL.j_f4, DL.j_f5, DL.j_w1, DL.j_w2, DL.j_w3, DL.j_w4, DL.j_w5, DL.j_01, DL.j_02, DL.j_03, DL.eqD_int, DL.eqOk_int, List.getElem?_cons_zero, List.getElem?_cons_succ, List.set_cons_zero, List.set_cons_succ, List.length_cons, List.length_nil, Option.map_some, Option.map_none, true_and, eq_self, List.map_cons, List.map_nil, Nat.reduceAdd, Nat.reduceSub, List.replicate_succ, List.replicate_zero, List.append_nil, List.cons_append, List.nil_append, h1, t_area, chs_2]
  refine ⟨_, _, _, rfl, oa.1, oa.2.1, op, ?_⟩
  simp only [DL.e_loc, DL.e_cst, DL.e_gc, DL.e_bin, DL.e_neg, DL.e_cmp, DL.e_chn, DL.e_and, DL.e_or, DL.e_not, DL.e_ite, DL.e_idx, DL.e_gidx, DL.e_slc, DL.e_tup, DL.e_lst, DL.e_call, DL.e_bi, DL.e_inst, DL.e_comp, DL.e_nev, DL.e_nil, DL.e_cons, DL.e_no, DL.e_yes, DL.b_val, DL.b_cmp, DL.b_chn, DL.b_and, DL.b_or, DL.b_not, DL.b_no, DL.b_one, DL.i_seq, DL.i_rng1, DL.i_rng2, DL.i_enum, DL.i_zip, DL.s_set, DL.s_setF, DL.s_asg, DL.s_par, DL.s_par3, DL.s_aug, DL.s_app, DL.s_ext, DL.s_pop, DL.s_expr, DL.s_ret, DL.s_retT, DL.s_ite, DL.s_whl, DL.s_for, DL.s_gset, DL.s_brk, DL.s_cnt, DL.s_nil, DL.s_cons, DL.s_frz, DL.t_name, DL.t_tup, DL.t_nil, DL.t_cons, DL.t_len0, DL.t_len1, DL.k_locd, DL.k_loco, DL.k_neg, DL.k_tt, DL.k_ff, DL.k_any, DL.k_lst, DL.k_int, DL.k_dat, DL.k_ty, DL.k_keep, DL.k_own, DL.k_slot, DL.k_new, DL.k_seqt, DL.k_seql, DL.k_seqs, DL.k_seqo, DL.k_enut, DL.k_enul, DL.k_enuo, DL.k_zipt, DL.k_zipl, DL.k_gix, DL.k_gst, DL.k_setd, DL.k_seto, DL.a_dd, DL.a_do, DL.a_rd, DL.a_ro, DL.a_rb, DL.a_nil, DL.a_d, DL.a_o, DL.a_l, DL.a_lo, DL.a_lb, DL.o_add, DL.o_addb, DL.o_adds, DL.o_addt, DL.o_sub, DL.o_subb, DL.o_subbb, DL.o_iadd, DL.o_iaddb, DL.o_isub, DL.o_isubb, DL.o_mul, DL.o_fdiv, DL.o_mod, DL.o_lt, DL.o_le, DL.o_gt, DL.o_ge, DL.o_eq, DL.o_ne, DL.o_isn, DL.o_notn, DL.o_isb, DL.o_notb, DL.o_idxt, DL.o_idxl, DL.o_idxo, DL.o_idxb, DL.o_slct, DL.o_slcl, DL.o_slco, DL.o_slcb, DL.o_rev, DL.o_lent, DL.o_lenl, DL.o_lens, DL.o_leno, DL.o_lenb, DL.o_lenstr, DL.o_abs, DL.o_int, DL.o_intb, DL.o_tupo, DL.o_tupl, DL.o_tupt, DL.o_tupb, DL.o_lso, DL.o_lsl, DL.o_lst, DL.o_lss, DL.o_lsb, DL.o_all, DL.o_anyy, DL.o_sum, DL.o_sorted, DL.u_bl, DL.u_int, DL.u_non, DL.u_tup, DL.u_lst, DL.u_own, DL.u_bor, DL.x_0, DL.x_1, DL.x_2, DL.x_3, DL.x_4, DL.x_5, DL.y_tuplenon, DL.y_tuplebl, DL.y_tupleint, DL.y_tuplestr, DL.y_tupletup, DL.y_tuplelst, DL.y_listnon, DL.y_listbl, DL.y_listint, DL.y_liststr, DL.y_listtup, DL.y_listlst, DL.y_dictnon, DL.y_dictbl, DL.y_dictint, DL.y_dictstr, DL.y_dicttup, DL.y_dictlst, DL.y_strnon, DL.y_strbl, DL.y_strint, DL.y_strstr, DL.y_strtup, DL.y_strlst, DL.y_intnon, DL.y_intbl, DL.y_intint, DL.y_intstr, DL.y_inttup, DL.y_intlst, DL.y_boolnon, DL.y_boolbl, DL.y_boolint, DL.y_boolstr, DL.y_booltup, DL.y_boollst, DL.j_n1, DL.j_n2, DL.j_n3, DL.j_n4, DL.j_n5, DL.j_f1, DL.j_f2, DL.j_f3, DL.j_f4, DL.j_f5, DL.j_w1, DL.j_w2, DL.j_w3, DL.j_w4, DL.j_w5, DL.j_01, DL.j_02, DL.j_03, DL.eqD_int, DL.eqOk_int, List.getElem?_cons_zero, List.getElem?_cons_succ, List.set_cons_zero, List.set_cons_succ, List.length_cons, List.length_nil, Option.map_some, Option.map_none, true_and, eq_self]
  unfold hasA at h
  refine iteK_of (fun e => ?_) (fun e => ?_)
  · rw [e, Bool.true_and] at h
    simp only [blk_eq, wipe_cons, wipe_nil, no_d, no_n, List.map_cons, List.map_nil, Nat.reduceAdd, Nat.reduceSub, List.replicate_succ, List.replicate_zero, List.append_nil, List.cons_append, List.nil_append, DL.e_loc, DL.e_cst, DL.e_gc, DL.e_bin, DL.e_neg, DL.e_cmp, DL.e_chn, DL.e_and, DL.e_or, DL.e_not, DL.e_ite, DL.e_idx, DL.e_gidx, DL.e_slc, DL.e_tup, DL.e_lst, DL.e_call, DL.e_bi, DL.e_inst, DL.e_comp, DL.e_nev, DL.e_nil, DL.e_cons, DL.e_no, DL.e_yes, DL.b_val, DL.b_cmp, DL.b_chn, DL.b_and, DL.b_or, DL.b_not, DL.b_no, DL.b_one, DL.i_seq, DL.i_rng1, DL.i_rng2, DL.i_enum, DL.i_zip, DL.s_set, DL.s_setF, DL.s_asg, DL.s_par, DL.s_par3, DL.s_aug, DL.s_app, DL.s_ext, DL.s_pop, DL.s_expr, DL.s_ret, DL.s_retT, DL.s_ite, DL.s_whl, DL.s_for, DL.s_gset, DL.s_brk, DL.s_cnt, DL.s_nil, DL.s_cons, DL.s_frz, DL.t_name, DL.t_tup, DL.t_nil, DL.t_cons, DL.t_len0, DL.t_len1, DL.k_locd, DL.k_loco, DL.k_neg, DL.k_tt, DL.k_ff, DL.k_any, DL.k_lst, DL.k_int, DL.k_dat, DL.k_ty, DL.k_keep, DL.k_own, DL.k_slot, DL.k_new, DL.k_seqt, DL.k_seql, DL.k_seqs, DL.k_seqo, DL.k_enut, DL.k_enul, DL.k_enuo, DL.k_zipt, DL.k_zipl, DL.k_gix, DL.k_gst, DL.k_setd, DL.k_seto, DL.a_dd, DL.a_do, DL.a_rd, DL.a_ro, DL.a_rb, DL.a_nil, DL.a_d, DL.a_o, DL.a_l, DL.a_lo, DL.a_lb, DL.o_add, DL.o_addb, DL.o_adds, DL.o_addt, DL.o_sub, DL.o_subb, DL.o_subbb, DL.o_iadd, DL.o_iaddb, DL.o_isub, DL.o_isubb, DL.o_mul, DL.o_fdiv, DL.o_mod, DL.o_lt, DL.o_le, DL.o_gt, DL.o_ge, DL.o_eq, DL.o_ne, DL.o_isn, DL.o_notn, DL.o_isb, DL.o_notb, DL.o_idxt, DL.o_idxl, DL.o_idxo, DL.o_idxb, DL.o_slct, DL.o_slcl, DL.o_slco, DL.o_slcb, DL.o_rev, DL.o_lent, DL.o_lenl, DL.o_lens, DL.o_leno, DL.o_lenb, DL.o_lenstr, DL.o_abs, DL.o_int, DL.o_intb, DL.o_tupo, DL.o_tupl, DL.o_tupt, DL.o_tupb, DL.o_lso, DL.o_lsl, DL.o_lst, DL.o_lss, DL.o_lsb, DL.o_all, DL.o_anyy, DL.o_sum, DL.o_sorted, DL.u_bl, DL.u_int, DL.u_non, DL.u_tup, DL.u_lst, DL.u_own, DL.u_bor, DL.x_0, DL.x_1, DL.x_2, DL.x_3, DL.x_4, DL.x_5, DL.y_tuplenon, DL.y_tuplebl, DL.y_tupleint, DL.y_tuplestr, DL.y_tupletup, DL.y_tuplelst, DL.y_listnon, DL.y_listbl, DL.y_listint, DL.y_liststr, DL.y_listtup, DL.y_listlst, DL.y_dictnon, DL.y_dictbl, DL.y_dictint, DL.y_dictstr, DL.y_dicttup, DL.y_dictlst, DL.y_strnon, DL.y_strbl, DL.y_strint, DL.y_strstr, DL.y_strtup, DL.y_strlst, DL.y_intnon, DL.y_intbl, DL.y_intint, DL.y_intstr, DL.y_inttup, DL.y_intlst, DL.y_boolnon, DL.y_boolbl, DL.y_boolint, DL.y_boolstr, DL.y_booltup, DL.y_boollst, DL.j_n1, DL.j_n2, DL.j_n3, DL.j_n4, DL.j_n5, DL.j_f1, DL.j_f2, DL.j_f3, DL.j_f4, DL.j_f5, DL.j_w1, DL.j_w2, DL.j_w3, DL.j_w4, DL.j_w5, DL.j_01, DL.j_02, DL.j_03, DL.eqD_int, DL.eqOk_int, List.getElem?_cons_zero, List.getElem?_cons_succ, List.set_cons_zero, List.set_cons_succ, List.length_cons, List.length_nil, Option.map_some, Option.map_none, true_and, eq_self]
    have key : ∀ (cs : List (List (List Pt) × Str)) (acc : List Bool), (∀ c ∈ cs, RgOk 100 c.1 ∧ RuleOk c.2) → (acc.all id && cs.all fun c => isIn c.1 c.2 p) = (a.clips.all fun c => isIn c.1 c.2 p) →
        compK S (.tup (.cons (.name 5) (.cons (.name 6) .nil))) .no (.call k1 (.cons (.loc 5) (.cons (.loc 6) (.cons (.loc 1) .nil))))
          [some (.d (areaD a)), some (.d (ptD p)), some (.d (ringsD a.rings)), some (.d (.str a.rule)), some (.d (.tup (a.clips.map kindD))), none, none] (cs.map kindD) (acc.map .bl) G
          fun ys G2 => ∃ bs : List Bool, asL (.own ys) = some (bs.map .bl) ∧ Q (.bl (bs.all id)) G2 := by
      intro cs
      induction cs with
      | nil =>
        intro acc _ e
        simp only [List.map_nil, c_nil]
        refine ⟨acc, rfl, ?_⟩
        simp only [List.all_nil, Bool.and_true] at e
        rw [e]; exact h
      | cons c cs ih =>
        intro acc hc e
        simp only [List.map_cons, c_cons, t_kind, DL.e_loc, DL.e_cst, DL.e_gc, DL.e_bin, DL.e_neg, DL.e_cmp, DL.e_chn, DL.e_and, DL.e_or, DL.e_not, DL.e_ite, DL.e_idx, DL.e_gidx, DL.e_slc, DL.e_tup, DL.e_lst, DL.e_call, DL.e_bi, DL.e_inst, DL.e_comp, DL.e_nev, DL.e_nil, DL.e_cons, DL.e_no, DL.e_yes, DL.b_val, DL.b_cmp, DL.b_chn, DL.b_and, DL.b_or, DL.b_not, DL.b_no, DL.b_one, DL.i_seq, DL.i_rng1, DL.i_rng2, DL.i_enum, DL.i_zip, DL.s_set, DL.s_setF, DL.s_asg, DL.s_par, DL.s_par3, DL.s_aug, DL.s_app, DL.s_ext, DL.s_pop, DL.s_expr, DL.s_ret, DL.s_retT, DL.s_ite, DL.s_whl, DL.s_for, DL.s_gset, DL.s_brk, DL.s_cnt, DL.s_nil, DL.s_cons, DL.s_frz, DL.t_name, DL.t_tup, DL.t_nil, DL.t_cons, DL.t_len0, DL.t_len1, DL.k_locd, DL.k_loco, DL.k_neg, DL.k_tt, DL.k_ff, DL.k_any, DL.k_lst, DL.k_int, DL.k_dat, DL.k_ty, DL.k_keep, DL.k_own, DL.k_slot, DL.k_new, DL.k_seqt, DL.k_seql, DL.k_seqs, DL.k_seqo, DL.k_enut, DL.k_enul, DL.k_enuo, DL.k_zipt, DL.k_zipl, DL.k_gix, DL.k_gst, DL.k_setd, DL.k_seto, DL.a_dd, DL.a_do, DL.a_rd, DL.a_ro, DL.a_rb, DL.a_nil, DL.a_d, DL.a_o, DL.a_l, DL.a_lo, DL.a_lb, DL.o_add, DL.o_addb, DL.o_adds, DL.o_addt, DL.o_sub, DL.o_subb, DL.o_subbb, DL.o_iadd, DL.o_iaddb, DL.o_isub, DL.o_isubb, DL.o_mul, DL.o_fdiv, DL.o_mod, DL.o_lt, DL.o_le, DL.o_gt, DL.o_ge, DL.o_eq, DL.o_ne, DL.o_isn, DL.o_notn, DL.o_isb, DL.o_notb, DL.o_idxt, DL.o_idxl, DL.o_idxo, DL.o_idxb, DL.o_slct, DL.o_slcl, DL.o_slco, DL.o_slcb, DL.o_rev, DL.o_lent, DL.o_lenl, DL.o_lens, DL.o_leno, DL.o_lenb, DL.o_lenstr, DL.o_abs, DL.o_int, DL.o_intb, DL.o_tupo, DL.o_tupl, DL.o_tupt, DL.o_tupb, DL.o_lso, DL.o_lsl, DL.o_lst, DL.o_lss, DL.o_lsb, DL.o_all, DL.o_anyy, DL.o_sum, DL.o_sorted, DL.u_bl, DL.u_int, DL.u_non, DL.u_tup, DL.u_lst, DL.u_own, DL.u_bor, DL.x_0, DL.x_1, DL.x_2, DL.x_3, DL.x_4, DL.x_5, DL.y_tuplenon, DL.y_tuplebl, DL.y_tupleint, DL.y_tuplestr, DL.y_tupletup, DL.y_tuplelst, DL.y_listnon, DL.y_listbl, DL.y_listint, DL.y_liststr, DL.y_listtup, DL.y_listlst, DL.y_dictnon, DL.y_dictbl, DL.y_dictint, DL.y_dictstr, DL.y_dicttup, DL.y_dictlst, DL.y_strnon, DL.y_strbl, DL.y_strint, DL.y_strstr, DL.y_strtup, DL.y_strlst, DL.y_intnon, DL.y_intbl, DL.y_intint, DL.y_intstr, DL.y_inttup, DL.y_intlst, DL.y_boolnon, DL.y_boolbl, DL.y_boolint, DL.y_boolstr, DL.y_booltup, DL.y_boollst, DL.j_n1, DL.j_n2, DL.j_n3, DL.j_n4, DL.j_n5, DL.j_f1, DL.j_f2, DL.j_f3, DL.j_f4, DL.j_f5, DL.j_w1, DL.j_w2, DL.j_w3, DL.j_w4, DL.j_w5, DL.j_01, DL.j_02, DL.j_03, DL.eqD_int, DL.eqOk_int, List.getElem?_cons_zero, List.getElem?_cons_succ, List.set_cons_zero, List.set_cons_succ, List.length_cons, List.length_nil, Option.map_some, Option.map_none, true_and, eq_self, h1]
        refine ⟨_, _, _, rfl, (hc c List.mem_cons_self).1, (hc c List.mem_cons_self).2, op, ?_⟩
        simp only [DL.e_loc, DL.e_cst, DL.e_gc, DL.e_bin, DL.e_neg, DL.e_cmp, DL.e_chn, DL.e_and, DL.e_or, DL.e_not, DL.e_ite, DL.e_idx, DL.e_gidx, DL.e_slc, DL.e_tup, DL.e_lst, DL.e_call, DL.e_bi, DL.e_inst, DL.e_comp, DL.e_nev, DL.e_nil, DL.e_cons, DL.e_no, DL.e_yes, DL.b_val, DL.b_cmp, DL.b_chn, DL.b_and, DL.b_or, DL.b_not, DL.b_no, DL.b_one, DL.i_seq, DL.i_rng1, DL.i_rng2, DL.i_enum, DL.i_zip, DL.s_set, DL.s_setF, DL.s_asg, DL.s_par, DL.s_par3, DL.s_aug, DL.s_app, DL.s_ext, DL.s_pop, DL.s_expr, DL.s_ret, DL.s_retT, DL.s_ite, DL.s_whl, DL.s_for, DL.s_gset, DL.s_brk, DL.s_cnt, DL.s_nil, DL.s_cons, DL.s_frz, DL.t_name, DL.t_tup, DL.t_nil, DL.t_cons, DL.t_len0, DL.t_len1, DL.k_locd, DL.k_loco, DL.k_neg, DL.k_tt, DL.k_ff, DL.k_any, DL.k_lst, DL.k_int, DL.k_dat, DL.k_ty, DL.k_keep, DL.k_own, DL.k_slot, DL.k_new, DL.k_seqt, DL.k_seql, DL.k_seqs, DL.k_seqo, DL.k_enut, DL.k_enul, DL.k_enuo, DL.k_zipt, DL.k_zipl, DL.k_gix, DL.k_gst, DL.k_setd, DL.k_seto, DL.a_dd, DL.a_do, DL.a_rd, DL.a_ro, DL.a_rb, DL.a_nil, DL.a_d, DL.a_o, DL.a_l, DL.a_lo, DL.a_lb, DL.o_add, DL.o_addb, DL.o_adds, DL.o_addt, DL.o_sub, DL.o_subb, DL.o_subbb, DL.o_iadd, DL.o_iaddb, DL.o_isub, DL.o_isubb, DL.o_mul, DL.o_fdiv, DL.o_mod, DL.o_lt, DL.o_le, DL.o_gt, DL.o_ge, DL.o_eq, DL.o_ne, DL.o_isn, DL.o_notn, DL.o_isb, DL.o_notb, DL.o_idxt, DL.o_idxl, DL.o_idxo, DL.o_idxb, DL.o_slct, DL.o_slcl, DL.o_slco, DL.o_slcb, DL.o_rev, DL.o_lent, DL.o_lenl, DL.o_lens, DL.o_leno, DL.o_lenb, DL.o_lenstr, DL.o_abs, DL.o_int, DL.o_intb, DL.o_tupo, DL.o_tupl, DL.o_tupt, DL.o_tupb, DL.o_lso, DL.o_lsl, DL.o_lst, DL.o_lss, DL.o_lsb, DL.o_all, DL.o_anyy, DL.o_sum, DL.o_sorted, DL.u_bl, DL.u_int, DL.u_non, DL.u_tup, DL.u_lst, DL.u_own, DL.u_bor, DL.x_0, DL.x_1, DL.x_2, DL.x_3, DL.x_4, DL.x_5, DL.y_tuplenon, DL.y_tuplebl, DL.y_tupleint, DL.y_tuplestr, DL.y_tupletup, DL.y_tuplelst, DL.y_listnon, DL.y_listbl, DL.y_listint, DL.y_liststr, DL.y_listtup, DL.y_listlst, DL.y_dictnon, DL.y_dictbl, DL.y_dictint, DL.y_dictstr, DL.y_dicttup, DL.y_dictlst, DL.y_strnon, DL.y_strbl, DL.y_strint, DL.y_strstr, DL.y_strtup, DL.y_strlst, DL.y_intnon, DL.y_intbl, DL.y_intint, DL.y_intstr, DL.y_inttup, DL.y_intlst, DL.y_boolnon, DL.y_boolbl, DL.y_boolint, DL.y_boolstr, DL.y_booltup, DL.y_boollst, DL.j_n1, DL.j_n2, DL.j_n3, DL.j_n4, DL.j_n5, DL.j_f1, DL.j_f2, DL.j_f3, DL.j_f4, DL.j_f5, DL.j_w1, DL.j_w2, DL.j_w3, DL.j_w4, DL.j_w5, DL.j_01, DL.j_02, DL.j_03, DL.eqD_int, DL.eqOk_int, List.getElem?_cons_zero, List.getElem?_cons_succ, List.set_cons_zero, List.set_cons_succ, List.length_cons, List.length_nil, Option.map_some, Option.map_none, true_and, eq_self]
        have := ih (acc ++ [isIn c.1 c.2 p]) (fun x hx => hc x (List.mem_cons_of_mem _ hx)) (by
          rw [← e, List.all_append, List.all_cons]
          simp [Bool.and_assoc])
        rw [List.map_append] at this
        exact this
    exact key a.clips [] oa.2.2.2 (by simp)
  · rw [e, Bool.false_and] at h
    rw [e]; exact h

def Tlside : DSp := fun ds G Q _ => ∃ a b p, ds = [ptD a, ptD b, ptD p] ∧ PtOk 100 a ∧ PtOk 100 b ∧ PtOk 100 p ∧ Q (.int (sideR a b p).num) G
def cls_3 (k1 k2 k3 : Nat) : CSs := .cons (.ret (.idx .any (.call k1 (.cons (.loc 3) (.cons (.call k3 (.cons (.loc 4) .nil)) .nil))) (.cst (.int 0)))) .nil
def cls_2 (k1 k2 k3 : Nat) : CSs := .cons (.setF 4 (.call k2 (.cons (.call k1 (.cons (.idx .any (.loc 1) (.cst (.int 1))) (.cons (.call k3 (.cons (.idx .any (.loc 0) (.cst (.int 1))) .nil)) .nil))) (.cons (.call k1 (.cons (.idx .any (.loc 2) (.cst (.int 0))) (.cons (.call k3 (.cons (.idx .any (.loc 0) (.cst (.int 0))) .nil)) .nil))) .nil)))) (cls_3 k1 k2 k3)
def cls_1 (k1 k2 k3 : Nat) : CSs := .cons (.setF 3 (.call k2 (.cons (.call k1 (.cons (.idx .any (.loc 1) (.cst (.int 0))) (.cons (.call k3 (.cons (.idx .any (.loc 0) (.cst (.int 0))) .nil)) .nil))) (.cons (.call k1 (.cons (.idx .any (.loc 2) (.cst (.int 1))) (.cons (.call k3 (.cons (.idx .any (.loc 0) (.cst (.int 1))) .nil)) .nil))) .nil)))) (cls_2 k1 k2 k3)
theorem run_lside (hN : N.length = 5) (h1 : S.sp k1 = T2 (· + ·)) (h2 : S.sp k2 = T2 (· * ·)) (h3 : S.sp k3 = Tneg) : ∀ ds G Q E, Tlside ds G Q E → runB S N (cls_1 k1 k2 k3) ds G Q E := by
  rintro ds G Q E ⟨a, b, p, rfl, oa, ob, op, h⟩
  have s1 := (ob.1.add oa.1.neg); have s2 := (op.2.add oa.2.neg); have s3 := ob.2.add oa.2.neg; have s4 := op.1.add oa.1.neg
  simp only [run_eq, startL, hN, cls_1, DL.e_loc, DL.e_cst, DL.e_gc, DL.e_bin, DL.e_neg, DL.e_cmp, DL.e_chn, DL.e_and, DL.e_or, DL.e_not, DL.e_ite, DL.e_idx, DL.e_gidx, DL.e_slc, DL.e_tup, DL.e_lst, DL.e_call, DL.e_bi, DL.e_inst, DL.e_comp, DL.e_nev, DL.e_nil, DL.e_cons, DL.e_no, DL.e_yes, DL.b_val, DL.b_cmp, DL.b_chn, DL.b_and, DL.b_or, DL.b_not, DL.b_no, DL.b_one, DL.i_seq, DL.i_rng1, DL.i_rng2, DL.i_enum, DL.i_zip, DL.s_set, DL.s_setF, DL.s_asg, DL.s_par, DL.s_par3, DL.s_aug, DL.s_app, DL.s_ext, DL.s_pop, DL.s_expr, DL.s_ret, DL.s_retT, DL.s_ite, DL.s_whl, DL.s_for, DL.s_gset, DL.s_brk, DL.s_cnt, DL.s_nil, DL.s_cons, DL.s_frz, DL.t_name, DL.t_tup, DL.t_nil, DL.t_cons, DL.t_len0, DL.t_len1, DL.k_locd, DL.k_loco, DL.k_neg, DL.k_tt, DL.k_ff, DL.k_any, DL.k_lst, DL.k_int, DL.k_dat, DL.k_ty, DL.k_keep, DL.k_own, DL.k_slot, DL.k_new, DL.k_seqt, DL.k_seql, DL.k_seqs, DL.k_seqo, DL.k_enut, DL.k_enul, DL.k_enuo, DL.k_zipt, DL.k_zipl, DL.k_gix, DL.k_gst, DL.k_setd, DL.k_seto, DL.a_dd, DL.a_do, DL.a_rd, DL.a_ro, DL.a_rb, DL.a_nil, DL.a_d, DL.a_o, DL.a_l, DL.a_lo, DL.a_lb, DL.o_add, DL.o_addb, DL.o_adds, DL.o_addt, DL.o_sub, DL.o_subb, DL.o_subbb, DL.o_iadd, DL.o_iaddb, DL.o_isub, DL.o_isubb, DL.o_mul, DL.o_fdiv, DL.o_mod, DL.o_lt, DL.o_le, DL.o_gt, DL.o_ge, DL.o_eq, DL.o_ne, DL.o_isn, DL.o_notn, DL.o_isb, DL.o_notb, DL.o_idxt, DL.o_idxl, DL.o_idxo, DL.o_idxb, DL.o_slct, DL.o_slcl, DL.o_slco, DL.o_slcb, DL.o_rev, DL.o_lent, DL.o_lenl, DL.o_lens, DL.o_leno, DL.o_lenb, DL.o_lenstr, DL.o_abs, DL.o_int, DL.o_intb, DL.o_tupo, DL.o_tupl, DL.o_tupt, DL.o_tupb, DL.o_lso, DL.o_lsl, DL.o_lst, DL.o_lss, DL.o_lsb, DL.o_all, DL.o_anyy, DL.o_sum, DL.o_sorted, DL.u_bl, DL.u_int, DL.u_non, DL.u_tup, DL.u_lst, DL.u_own, DL.u_bor, DL.x_0, DL.x_1, DL.x_2, DL.x_3, DL.x_4, DL.x_5, DL.y_tuplenon, DL.y_tuplebl, DL.y_tupleint, DL.y_tuplestr, DL.y_tupletup, DL.y_tuplelst, DL.y_listnon, DL.y_listbl, DL.y_listint, DL.y_liststr, DL.y_listtup, DL.y_listlst, DL.y_dictnon, DL.y_dictbl, DL.y_dictint, DL.y_dictstr, DL.y_dicttup, DL.y_dictlst, DL.y_strnon, DL.y_strbl, DL.y_strint, DL.y_strstr, DL.y_strtup, DL.y_strlst, DL.y_intnon, DL.y_intbl, DL.y_intint, DL.y_intstr, DL.y_inttup, DL.y_intlst, DL.y_boolnon, DL.y_boolbl, DL.y_boolint, DL.y_boolstr, DL.y_booltup, DL.y_boollst, DL.j_n1, DL.j_n2, DL.j_n3, DL.j_n4, DL.j_n5, DL.j_f1, DL.j_f2, DL.j_f3, DL.j_f4, DL.j_f5, DL.j_w1, DL.j_w2, DL.j_w3, DL.j_w4, DL.j_w5, DL.j_01, DL.j_02, DL.j_03, DL.eqD_int, DL.eqOk_int, List.getElem?_cons_zero, List.getElem?_cons_succ, List.set_cons_zero, List.set_cons_succ, List.length_cons, List.length_nil, Option.map_some, Option.map_none, true_and, eq_self, List.map_cons, List.map_nil, Nat.reduceAdd, Nat.reduceSub, List.replicate_succ, List.replicate_zero, List.append_nil, List.cons_append, List.nil_append, x_pt0, x_pt1, h1, h2, h3]
  refine Tneg_of ?_
  try simp only [DL.e_loc, DL.e_cst, DL.e_gc, DL.e_bin, DL.e_neg, DL.e_cmp, DL.e_chn, DL.e_and, DL.e_or, DL.e_not, DL.e_ite, DL.e_idx, DL.e_gidx, DL.e_slc, DL.e_tup, DL.e_lst, DL.e_call, DL.e_bi, DL.e_inst, DL.e_comp, DL.e_nev, DL.e_nil, DL.e_cons, DL.e_no, DL.e_yes, DL.b_val, DL.b_cmp, DL.b_chn, DL.b_and, DL.b_or, DL.b_not, DL.b_no, DL.b_one, DL.i_seq, DL.i_rng1, DL.i_rng2, DL.i_enum, DL.i_zip, DL.s_set, DL.s_setF, DL.s_asg, DL.s_par, DL.s_par3, DL.s_aug, DL.s_app, DL.s_ext, DL.s_pop, DL.s_expr, DL.s_ret, DL.s_retT, DL.s_ite, DL.s_whl, DL.s_for, DL.s_gset, DL.s_brk, DL.s_cnt, DL.s_nil, DL.s_cons, DL.s_frz, DL.t_name, DL.t_tup, DL.t_nil, DL.t_cons, DL.t_len0, DL.t_len1, DL.k_locd, DL.k_loco, DL.k_neg, DL.k_tt, DL.k_ff, DL.k_any, DL.k_lst, DL.k_int, DL.k_dat, DL.k_ty, DL.k_keep, DL.k_own, DL.k_slot, DL.k_new, DL.k_seqt, DL.k_seql, DL.k_seqs, DL.k_seqo, DL.k_enut, DL.k_enul, DL.k_enuo, DL.k_zipt, DL.k_zipl, DL.k_gix, DL.k_gst, DL.k_setd, DL.k_seto, DL.a_dd, DL.a_do, DL.a_rd, DL.a_ro, DL.a_rb, DL.a_nil, DL.a_d, DL.a_o, DL.a_l, DL.a_lo, DL.a_lb, DL.o_add, DL.o_addb, DL.o_adds, DL.o_addt, DL.o_sub, DL.o_subb, DL.o_subbb, DL.o_iadd, DL.o_iaddb, DL.o_isub, DL.o_isubb, DL.o_mul, DL.o_fdiv, DL.o_mod, DL.o_lt, DL.o_le, DL.o_gt, DL.o_ge, DL.o_eq, DL.o_ne, DL.o_isn, DL.o_notn, DL.o_isb, DL.o_notb, DL.o_idxt, DL.o_idxl, DL.o_idxo, DL.o_idxb, DL.o_slct, DL.o_slcl, DL.o_slco, DL.o_slcb, DL.o_rev, DL.o_lent, DL.o_lenl, DL.o_lens, DL.o_leno, DL.o_lenb, DL.o_lenstr, DL.o_abs, DL.o_int, DL.o_intb, DL.o_tupo, DL.o_tupl, DL.o_tupt, DL.o_tupb, DL.o_lso, DL.o_lsl, DL.o_lst, DL.o_lss, DL.o_lsb, DL.o_all, DL.o_anyy, DL.o_sum, DL.o_sorted, DL.u_bl, DL.u_int, DL.u_non, DL.u_tup, DL.u_lst, DL.u_own, DL.u_bor, DL.x_0, DL.x_1, DL.x_2, DL.x_3, DL.x_4, DL.x_5, DL.y_tuplenon, DL.y_tuplebl, DL.y_tupleint, DL.y_tuplestr, DL.y_tupletup, DL.y_tuplelst, DL.y_listnon, DL.y_listbl, DL.y_listint, DL.y_liststr, DL.y_listtup, DL.y_listlst, DL.y_dictnon, DL.y_dictbl, DL.y_dictint, DL.y_dictstr, DL.y_dicttup, DL.y_dictlst, DL.y_strnon, DL.y_strbl, DL.y_strint, DL.y_strstr, DL.y_strtup, DL.y_strlst, DL.y_intnon, DL.y_intbl, DL.y_intint, DL.y_intstr, DL.y_inttup, DL.y_intlst, DL.y_boolnon, DL.y_boolbl, DL.y_boolint, DL.y_boolstr, DL.y_booltup, DL.y_boollst, DL.j_n1, DL.j_n2, DL.j_n3, DL.j_n4, DL.j_n5, DL.j_f1, DL.j_f2, DL.j_f3, DL.j_f4, DL.j_f5, DL.j_w1, DL.j_w2, DL.j_w3, DL.j_w4, DL.j_w5, DL.j_01, DL.j_02, DL.j_03, DL.eqD_int, DL.eqOk_int, List.getElem?_cons_zero, List.getElem?_cons_succ, List.set_cons_zero, List.set_cons_succ, List.length_cons, List.length_nil, Option.map_some, Option.map_none, true_and, eq_self, h1]
  refine T2_of (ob.1.mono (by decide)) (oa.1.neg.mono (by decide)) ?_
  try simp only [DL.e_loc, DL.e_cst, DL.e_gc, DL.e_bin, DL.e_neg, DL.e_cmp, DL.e_chn, DL.e_and, DL.e_or, DL.e_not, DL.e_ite, DL.e_idx, DL.e_gidx, DL.e_slc, DL.e_tup, DL.e_lst, DL.e_call, DL.e_bi, DL.e_inst, DL.e_comp, DL.e_nev, DL.e_nil, DL.e_cons, DL.e_no, DL.e_yes, DL.b_val, DL.b_cmp, DL.b_chn, DL.b_and, DL.b_or, DL.b_not, DL.b_no, DL.b_one, DL.i_seq, DL.i_rng1, DL.i_rng2, DL.i_enum, DL.i_zip, DL.s_set, DL.s_setF, DL.s_asg, DL.s_par, DL.s_par3, DL.s_aug, DL.s_app, DL.s_ext, DL.s_pop, DL.s_expr, DL.s_ret, DL.s_retT, DL.s_ite, DL.s_whl, DL.s_for, DL.s_gset, DL.s_brk, DL.s_cnt, DL.s_nil, DL.s_cons, DL.s_frz, DL.t_name, DL.t_tup, DL.t_nil, DL.t_cons, DL.t_len0, DL.t_len1, DL.k_locd, DL.k_loco, DL.k_neg, DL.k_tt, DL.k_ff, DL.k_any, DL.k_lst, DL.k_int, DL.k_dat, DL.k_ty, DL.k_keep, DL.k_own, DL.k_slot, DL.k_new, DL.k_seqt, DL.k_seql, DL.k_seqs, DL.k_seqo, DL.k_enut, DL.k_enul, DL.k_enuo, DL.k_zipt, DL.k_zipl, DL.k_gix, DL.k_gst, DL.k_setd, DL.k_seto, DL.a_dd, DL.a_do, DL.a_rd, DL.a_ro, DL.a_rb, DL.a_nil, DL.a_d, DL.a_o, DL.a_l, DL.a_lo, DL.a_lb, DL.o_add, DL.o_addb, DL.o_adds, DL.o_addt, DL.o_sub, DL.o_subb, DL.o_subbb, DL.o_iadd, DL.o_iaddb, DL.o_isub, DL.o_isubb, DL.o_mul, DL.o_fdiv, DL.o_mod, DL.o_lt, DL.o_le, DL.o_gt, DL.o_ge, DL.o_eq, DL.o_ne, DL.o_isn, DL.o_notn, DL.o_isb, DL.o_notb, DL.o_idxt, DL.o_idxl, DL.o_idxo, DL.o_idxb, DL.o_slct, DL.o_slcl, DL.o_slco, DL.o_slcb, DL.o_rev, DL.o_lent, DL.o_lenl, DL.o_lens, DL.o_leno, DL.o_lenb, DL.o_lenstr, DL.o_abs, DL.o_int, DL.o_intb, DL.o_tupo, DL.o_tupl, DL.o_tupt, DL.o_tupb, DL.o_lso, DL.o_lsl, DL.o_lst, DL.o_lss, DL.o_lsb, DL.o_all, DL.o_anyy, DL.o_sum, DL.o_sorted, DL.u_bl, DL.u_int, DL.u_non, DL.u_tup, DL.u_lst, DL.u_own, DL.u_bor, DL.x_0, DL.x_1, DL.x_2, DL.x_3, DL.x_4, DL.x_5, DL.y_tuplenon, DL.y_tuplebl, DL.y_tupleint, DL.y_tuplestr, DL.y_tupletup, DL.y_tuplelst, DL.y_listnon, DL.y_listbl, DL.y_listint, DL.y_liststr, DL.y_listtup, DL.y_listlst, DL.y_dictnon, DL.y_dictbl, DL.y_dictint, DL.y_dictstr, DL.y_dicttup, DL.y_dictlst, DL.y_strnon, DL.y_strbl, DL.y_strint, DL.y_strstr, DL.y_strtup, DL.y_strlst, DL.y_intnon, DL.y_intbl, DL.y_intint, DL.y_intstr, DL.y_inttup, DL.y_intlst, DL.y_boolnon, DL.y_boolbl, DL.y_boolint, DL.y_boolstr, DL.y_booltup, DL.y_boollst, DL.j_n1, DL.j_n2, DL.j_n3, DL.j_n4, DL.j_n5, DL.j_f1, DL.j_f2, DL.j_f3, DL.j_f4, DL.j_f5, DL.j_w1, DL.j_w2, DL.j_w3, DL.j_w4, DL.j_w5, DL.j_01, DL.j_02, DL.j_03, DL.eqD_int, DL.eqOk_int, List.getElem?_cons_zero, List.getElem?_cons_succ, List.set_cons_zero, List.set_cons_succ, List.length_cons, List.length_nil, Option.map_some, Option.map_none, true_and, eq_self, x_pt0, x_pt1, h1, h3]
  refine Tneg_of ?_
  try simp only [DL.e_loc, DL.e_cst, DL.e_gc, DL.e_bin, DL.e_neg, DL.e_cmp, DL.e_chn, DL.e_and, DL.e_or, DL.e_not, DL.e_ite, DL.e_idx, DL.e_gidx, DL.e_slc, DL.e_tup, DL.e_lst, DL.e_call, DL.e_bi, DL.e_inst, DL.e_comp, DL.e_nev, DL.e_nil, DL.e_cons, DL.e_no, DL.e_yes, DL.b_val, DL.b_cmp, DL.b_chn, DL.b_and, DL.b_or, DL.b_not, DL.b_no, DL.b_one, DL.i_seq, DL.i_rng1, DL.i_rng2, DL.i_enum, DL.i_zip, DL.s_set, DL.s_setF, DL.s_asg, DL.s_par, DL.s_par3, DL.s_aug, DL.s_app, DL.s_ext, DL.s_pop, DL.s_expr, DL.s_ret, DL.s_retT, DL.s_ite, DL.s_whl, DL.s_for, DL.s_gset, DL.s_brk, DL.s_cnt, DL.s_nil, DL.s_cons, DL.s_frz, DL.t_name, DL.t_tup, DL.t_nil, DL.t_cons, DL.t_len0, DL.t_len1, DL.k_locd, DL.k_loco, DL.k_neg, DL.k_tt, DL.k_ff, DL.k_any, DL.k_lst, DL.k_int, DL.k_dat, DL.k_ty, DL.k_keep, DL.k_own, DL.k_slot, DL.k_new, DL.k_seqt, DL.k_seql, DL.k_seqs, DL.k_seqo, DL.k_enut, DL.k_enul, DL.k_enuo, DL.k_zipt, DL.k_zipl, DL.k_gix, DL.k_gst, DL.k_setd, DL.k_seto, DL.a_dd, DL.a_do, DL.a_rd, DL.a_ro, DL.a_rb, DL.a_nil, DL.a_d, DL.a_o, DL.a_l, DL.a_lo, DL.a_lb, DL.o_add, DL.o_addb, DL.o_adds, DL.o_addt, DL.o_sub, DL.o_subb, DL.o_subbb, DL.o_iadd, DL.o_iaddb, DL.o_isub, DL.o_isubb, DL.o_mul, DL.o_fdiv, DL.o_mod, DL.o_lt, DL.o_le, DL.o_gt, DL.o_ge, DL.o_eq, DL.o_ne, DL.o_isn, DL.o_notn, DL.o_isb, DL.o_notb, DL.o_idxt, DL.o_idxl, DL.o_idxo, DL.o_idxb, DL.o_slct, DL.o_slcl, DL.o_slco, DL.o_slcb, DL.o_rev, DL.o_lent, DL.o_lenl, DL.o_lens, DL.o_leno, DL.o_lenb, DL.o_lenstr, DL.o_abs, DL.o_int, DL.o_intb, DL.o_tupo, DL.o_tupl, DL.o_tupt, DL.o_tupb, DL.o_lso, DL.o_lsl, DL.o_lst, DL.o_lss, DL.o_lsb, DL.o_all, DL.o_anyy, DL.o_sum, DL.o_sorted, DL.u_bl, DL.u_int, DL.u_non, DL.u_tup, DL.u_lst, DL.u_own, DL.u_bor, DL.x_0, DL.x_1, DL.x_2, DL.x_3, DL.x_4, DL.x_5, DL.y_tuplenon, DL.y_tuplebl, DL.y_tupleint, DL.y_tuplestr, DL.y_tupletup, DL.y_tuplelst, DL.y_listnon, DL.y_listbl, DL.y_listint, DL.y_liststr, DL.y_listtup, DL.y_listlst, DL.y_dictnon, DL.y_dictbl, DL.y_dictint, DL.y_dictstr, DL.y_dicttup, DL.y_dictlst, DL.y_strnon, DL.y_strbl, DL.y_strint, DL.y_strstr, DL.y_strtup, DL.y_strlst, DL.y_intnon, DL.y_intbl, DL.y_intint, DL.y_intstr, DL.y_inttup, DL.y_intlst, DL.y_boolnon, DL.y_boolbl, DL.y_boolint, DL.y_boolstr, DL.y_booltup, DL.y_boollst, DL.j_n1, DL.j_n2, DL.j_n3, DL.j_n4, DL.j_n5, DL.j_f1, DL.j_f2, DL.j_f3, DL.j_f4, DL.j_f5, DL.j_w1, DL.j_w2, DL.j_w3, DL.j_w4, DL.j_w5, DL.j_01, DL.j_02, DL.j_03, DL.eqD_int, DL.eqOk_int, List.getElem?_cons_zero, List.getElem?_cons_succ, List.set_cons_zero, List.set_cons_succ, List.length_cons, List.length_nil, Option.map_some, Option.map_none, true_and, eq_self, h1]
  refine T2_of (op.2.mono (by decide)) (oa.2.neg.mono (by decide)) ?_
  try simp only [DL.e_loc, DL.e_cst, DL.e_gc, DL.e_bin, DL.e_neg, DL.e_cmp, DL.e_chn, DL.e_and, DL.e_or, DL.e_not, DL.e_ite, DL.e_idx, DL.e_gidx, DL.e_slc, DL.e_tup, DL.e_lst, DL.e_call, DL.e_bi, DL.e_inst, DL.e_comp, DL.e_nev, DL.e_nil, DL.e_cons, DL.e_no, DL.e_yes, DL.b_val, DL.b_cmp, DL.b_chn, DL.b_and, DL.b_or, DL.b_not, DL.b_no, DL.b_one, DL.i_seq, DL.i_rng1, DL.i_rng2, DL.i_enum, DL.i_zip, DL.s_set, DL.s_setF, DL.s_asg, DL.s_par, DL.s_par3, DL.s_aug, DL.s_app, DL.s_ext, DL.s_pop, DL.s_expr, DL.s_ret, DL.s_retT, DL.s_ite, DL.s_whl, DL.s_for, DL.s_gset, DL.s_brk, DL.s_cnt, DL.s_nil, DL.s_cons, DL.s_frz, DL.t_name, DL.t_tup, DL.t_nil, DL.t_cons, DL.t_len0, DL.t_len1, DL.k_locd, DL.k_loco, DL.k_neg, DL.k_tt, DL.k_ff, DL.k_any, DL.k_lst, DL.k_int, DL.k_dat, DL.k_ty, DL.k_keep, DL.k_own, DL.k_slot, DL.k_new, DL.k_seqt, DL.k_seql, DL.k_seqs, DL.k_seqo, DL.k_enut, DL.k_enul, DL.k_enuo, DL.k_zipt, DL.k_zipl, DL.k_gix, DL.k_gst, DL.k_setd, DL.k_seto, DL.a_dd, DL.a_do, DL.a_rd, DL.a_ro, DL.a_rb, DL.a_nil, DL.a_d, DL.a_o, DL.a_l, DL.a_lo, DL.a_lb, DL.o_add, DL.o_addb, DL.o_adds, DL.o_addt, DL.o_sub, DL.o_subb, DL.o_subbb, DL.o_iadd, DL.o_iaddb, DL.o_isub, DL.o_isubb, DL.o_mul, DL.o_fdiv, DL.o_mod, DL.o_lt, DL.o_le, DL.o_gt, DL.o_ge, DL.o_eq, DL.o_ne, DL.o_isn, DL.o_notn, DL.o_isb, DL.o_notb, DL.o_idxt, DL.o_idxl, DL.o_idxo, DL.o_idxb, DL.o_slct, DL.o_slcl, DL.o_slco, DL.o_slcb, DL.o_rev, DL.o_lent, DL.o_lenl, DL.o_lens, DL.o_leno, DL.o_lenb, DL.o_lenstr, DL.o_abs, DL.o_int, DL.o_intb, DL.o_tupo, DL.o_tupl, DL.o_tupt, DL.o_tupb, DL.o_lso, DL.o_lsl, DL.o_lst, DL.o_lss, DL.o_lsb, DL.o_all, DL.o_anyy, DL.o_sum, DL.o_sorted, DL.u_bl, DL.u_int, DL.u_non, DL.u_tup, DL.u_lst, DL.u_own, DL.u_bor, DL.x_0, DL.x_1, DL.x_2, DL.x_3, DL.x_4, DL.x_5, DL.y_tuplenon, DL.y_tuplebl, DL.y_tupleint, DL.y_tuplestr, DL.y_tupletup, DL.y_tuplelst, DL.y_listnon, DL.y_listbl, DL.y_listint, DL.y_liststr, DL.y_listtup, DL.y_listlst, DL.y_dictnon, DL.y_dictbl, DL.y_dictint, DL.y_dictstr, DL.y_dicttup, DL.y_dictlst, DL.y_strnon, DL.y_strbl, DL.y_strint, DL.y_strstr, DL.y_strtup, DL.y_strlst, DL.y_intnon, DL.y_intbl, DL.y_intint, DL.y_intstr, DL.y_inttup, DL.y_intlst, DL.y_boolnon, DL.y_boolbl, DL.y_boolint, DL.y_boolstr, DL.y_booltup, DL.y_boollst, DL.j_n1, DL.j_n2, DL.j_n3, DL.j_n4, DL.j_n5, DL.j_f1, DL.j_f2, DL.j_f3, DL.j_f4, DL.j_f5, DL.j_w1, DL.j_w2, DL.j_w3, DL.j_w4, DL.j_w5, DL.j_01, DL.j_02, DL.j_03, DL.eqD_int, DL.eqOk_int, List.getElem?_cons_zero, List.getElem?_cons_succ, List.set_cons_zero, List.set_cons_succ, List.length_cons, List.length_nil, Option.map_some, Option.map_none, true_and, eq_self, h2]
  refine T2_of (s1.mono (by decide)) (s2.mono (by decide)) ?_
  simp only [cls_2, DL.e_loc, DL.e_cst, DL.e_gc, DL.e_bin, DL.e_neg, DL.e_cmp, DL.e_chn, DL.e_and, DL.e_or, DL.e_not, DL.e_ite, DL.e_idx, DL.e_gidx, DL.e_slc, DL.e_tup, DL.e_lst, DL.e_call, DL.e_bi, DL.e_inst, DL.e_comp, DL.e_nev, DL.e_nil, DL.e_cons, DL.e_no, DL.e_yes, DL.b_val, DL.b_cmp, DL.b_chn, DL.b_and, DL.b_or, DL.b_not, DL.b_no, DL.b_one, DL.i_seq, DL.i_rng1, DL.i_rng2, DL.i_enum, DL.i_zip, DL.s_set, DL.s_setF, DL.s_asg, DL.s_par, DL.s_par3, DL.s_aug, DL.s_app, DL.s_ext, DL.s_pop, DL.s_expr, DL.s_ret, DL.s_retT, DL.s_ite, DL.s_whl, DL.s_for, DL.s_gset, DL.s_brk, DL.s_cnt, DL.s_nil, DL.s_cons, DL.s_frz, DL.t_name, DL.t_tup, DL.t_nil, DL.t_cons, DL.t_len0, DL.t_len1, DL.k_locd, DL.k_loco, DL.k_neg, DL.k_tt, DL.k_ff, DL.k_any, DL.k_lst, DL.k_int, DL.k_dat, DL.k_ty, DL.k_keep, DL.k_own, DL.k_slot, DL.k_new, DL.k_seqt, DL.k_seql, DL.k_seqs, DL.k_seqo, DL.k_enut, DL.k_enul, DL.k_enuo, DL.k_zipt, DL.k_zipl, DL.k_gix, DL.k_gst, DL.k_setd, DL.k_seto, DL.a_dd, DL.a_do, DL.a_rd, DL.a_ro, DL.a_rb, DL.a_nil, DL.a_d, DL.a_o, DL.a_l, DL.a_lo, DL.a_lb, DL.o_add, DL.o_addb, DL.o_adds, DL.o_addt, DL.o_sub, DL.o_subb, DL.o_subbb, DL.o_iadd, DL.o_iaddb, DL.o_isub, DL.o_isubb, DL.o_mul, DL.o_fdiv, DL.o_mod, DL.o_lt, DL.o_le, DL.o_gt, DL.o_ge, DL.o_eq, DL.o_ne, DL.o_isn, DL.o_notn, DL.o_isb, DL.o_notb, DL.o_idxt, DL.o_idxl, DL.o_idxo, DL.o_idxb, DL.o_slct, DL.o_slcl, DL.o_slco, DL.o_slcb, DL.o_rev, DL.o_lent, DL.o_lenl, DL.o_lens, DL.o_leno, DL.o_lenb, DL.o_lenstr, DL.o_abs, DL.o_int, DL.o_intb, DL.o_tupo, DL.o_tupl, DL.o_tupt, DL.o_tupb, DL.o_lso, DL.o_lsl, DL.o_lst, DL.o_lss, DL.o_lsb, DL.o_all, DL.o_anyy, DL.o_sum, DL.o_sorted, DL.u_bl, DL.u_int, DL.u_non, DL.u_tup, DL.u_lst, DL.u_own, DL.u_bor, DL.x_0, DL.x_1, DL.x_2, DL.x_3, DL.x_4, DL.x_5, DL.y_tuplenon, DL.y_tuplebl, DL.y_tupleint, DL.y_tuplestr, DL.y_tupletup, DL.y_tuplelst, DL.y_listnon, DL.y_listbl, DL.y_listint, DL.y_liststr, DL.y_listtup, DL.y_listlst, DL.y_dictnon, DL.y_dictbl, DL.y_dictint, DL.y_dictstr, DL.y_dicttup, DL.y_dictlst, DL.y_strnon, DL.y_strbl, DL.y_strint, DL.y_strstr, DL.y_strtup, DL.y_strlst, DL.y_intnon, DL.y_intbl, DL.y_intint, DL.y_intstr, DL.y_inttup, DL.y_intlst, DL.y_boolnon, DL.y_boolbl, DL.y_boolint, DL.y_boolstr, DL.y_booltup, DL.y_boollst, DL.j_n1, DL.j_n2, DL.j_n3, DL.j_n4, DL.j_n5, DL.j_f1, DL.j_f2, DL.j_f3, DL.j_f4, DL.j_f5, DL.j_w1, DL.j_w2, DL.j_w3, DL.j_w4, DL.j_w5, DL.j_01, DL.j_02, DL.j_03, DL.eqD_int, DL.eqOk_int, List.getElem?_cons_zero, List.getElem?_cons_succ, List.set_cons_zero, List.set_cons_succ, List.length_cons, List.length_nil, Option.map_some, Option.map_none, true_and, eq_self, x_pt0, x_pt1, h3]
  refine Tneg_of ?_
  try simp only [DL.e_loc, DL.e_cst, DL.e_gc, DL.e_bin, DL.e_neg, DL.e_cmp, DL.e_chn, DL.e_and, DL.e_or, DL.e_not, DL.e_ite, DL.e_idx, DL.e_gidx, DL.e_slc, DL.e_tup, DL.e_lst, DL.e_call, DL.e_bi, DL.e_inst, DL.e_comp, DL.e_nev, DL.e_nil, DL.e_cons, DL.e_no, DL.e_yes, DL.b_val, DL.b_cmp, DL.b_chn, DL.b_and, DL.b_or, DL.b_not, DL.b_no, DL.b_one, DL.i_seq, DL.i_rng1, DL.i_rng2, DL.i_enum, DL.i_zip, DL.s_set, DL.s_setF, DL.s_asg, DL.s_par, DL.s_par3, DL.s_aug, DL.s_app, DL.s_ext, DL.s_pop, DL.s_expr, DL.s_ret, DL.s_retT, DL.s_ite, DL.s_whl, DL.s_for, DL.s_gset, DL.s_brk, DL.s_cnt, DL.s_nil, DL.s_cons, DL.s_frz, DL.t_name, DL.t_tup, DL.t_nil, DL.t_cons, DL.t_len0, DL.t_len1, DL.k_locd, DL.k_loco, DL.k_neg, DL.k_tt, DL.k_ff, DL.k_any, DL.k_lst, DL.k_int, DL.k_dat, DL.k_ty, DL.k_keep, DL.k_own, DL.k_slot, DL.k_new, DL.k_seqt, DL.k_seql, DL.k_seqs, DL.k_seqo, DL.k_enut, DL.k_enul, DL.k_enuo, DL.k_zipt, DL.k_zipl, DL.k_gix, DL.k_gst, DL.k_setd, DL.k_seto, DL.a_dd, DL.a_do, DL.a_rd, DL.a_ro, DL.a_rb, DL.a_nil, DL.a_d, DL.a_o, DL.a_l, DL.a_lo, DL.a_lb, DL.o_add, DL.o_addb, DL.o_adds, DL.o_addt, DL.o_sub, DL.o_subb, DL.o_subbb, DL.o_iadd, DL.o_iaddb, DL.o_isub, DL.o_isubb, DL.o_mul, DL.o_fdiv, DL.o_mod, DL.o_lt, DL.o_le, DL.o_gt, DL.o_ge, DL.o_eq, DL.o_ne, DL.o_isn, DL.o_notn, DL.o_isb, DL.o_notb, DL.o_idxt, DL.o_idxl, DL.o_idxo, DL.o_idxb, DL.o_slct, DL.o_slcl, DL.o_slco, DL.o_slcb, DL.o_rev, DL.o_lent, DL.o_lenl, DL.o_lens, DL.o_leno, DL.o_lenb, DL.o_lenstr, DL.o_abs, DL.o_int, DL.o_intb, DL.o_tupo, DL.o_tupl, DL.o_tupt, DL.o_tupb, DL.o_lso, DL.o_lsl, DL.o_lst, DL.o_lss, DL.o_lsb, DL.o_all, DL.o_anyy, DL.o_sum, DL.o_sorted, DL.u_bl, DL.u_int, DL.u_non, DL.u_tup, DL.u_lst, DL.u_own, DL.u_bor, DL.x_0, DL.x_1, DL.x_2, DL.x_3, DL.x_4, DL.x_5, DL.y_tuplenon, DL.y_tuplebl, DL.y_tupleint, DL.y_tuplestr, DL.y_tupletup, DL.y_tuplelst, DL.y_listnon, DL.y_listbl, DL.y_listint, DL.y_liststr, DL.y_listtup, DL.y_listlst, DL.y_dictnon, DL.y_dictbl, DL.y_dictint, DL.y_dictstr, DL.y_dicttup, DL.y_dictlst, DL.y_strnon, DL.y_strbl, DL.y_strint, DL.y_strstr, DL.y_strtup, DL.y_strlst, DL.y_intnon, DL.y_intbl, DL.y_intint, DL.y_intstr, DL.y_inttup, DL.y_intlst, DL.y_boolnon, DL.y_boolbl, DL.y_boolint, DL.y_boolstr, DL.y_booltup, DL.y_boollst, DL.j_n1, DL.j_n2, DL.j_n3, DL.j_n4, DL.j_n5, DL.j_f1, DL.j_f2, DL.j_f3, DL.j_f4, DL.j_f5, DL.j_w1, DL.j_w2, DL.j_w3, DL.j_w4, DL.j_w5, DL.j_01, DL.j_02, DL.j_03, DL.eqD_int, DL.eqOk_int, List.getElem?_cons_zero, List.getElem?_cons_succ, List.set_cons_zero, List.set_cons_succ, List.length_cons, List.length_nil, Option.map_some, Option.map_none, true_and, eq_self, h1]
  refine T2_of (ob.2.mono (by decide)) (oa.2.neg.mono (by decide)) ?_
  try simp only [DL.e_loc, DL.e_cst, DL.e_gc, DL.e_bin, DL.e_neg, DL.e_cmp, DL.e_chn, DL.e_and, DL.e_or, DL.e_not, DL.e_ite, DL.e_idx, DL.e_gidx, DL.e_slc, DL.e_tup, DL.e_lst, DL.e_call, DL.e_bi, DL.e_inst, DL.e_comp, DL.e_nev, DL.e_nil, DL.e_cons, DL.e_no, DL.e_yes, DL.b_val, DL.b_cmp, DL.b_chn, DL.b_and, DL.b_or, DL.b_not, DL.b_no, DL.b_one, DL.i_seq, DL.i_rng1, DL.i_rng2, DL.i_enum, DL.i_zip, DL.s_set, DL.s_setF, DL.s_asg, DL.s_par, DL.s_par3, DL.s_aug, DL.s_app, DL.s_ext, DL.s_pop, DL.s_expr, DL.s_ret, DL.s_retT, DL.s_ite, DL.s_whl, DL.s_for, DL.s_gset, DL.s_brk, DL.s_cnt, DL.s_nil, DL.s_cons, DL.s_frz, DL.t_name, DL.t_tup, DL.t_nil, DL.t_cons, DL.t_len0, DL.t_len1, DL.k_locd, DL.k_loco, DL.k_neg, DL.k_tt, DL.k_ff, DL.k_any, DL.k_lst, DL.k_int, DL.k_dat, DL.k_ty, DL.k_keep, DL.k_own, DL.k_slot, DL.k_new, DL.k_seqt, DL.k_seql, DL.k_seqs, DL.k_seqo, DL.k_enut, DL.k_enul, DL.k_enuo, DL.k_zipt, DL.k_zipl, DL.k_gix, DL.k_gst, DL.k_setd, DL.k_seto, DL.a_dd, DL.a_do, DL.a_rd, DL.a_ro, DL.a_rb, DL.a_nil, DL.a_d, DL.a_o, DL.a_l, DL.a_lo, DL.a_lb, DL.o_add, DL.o_addb, DL.o_adds, DL.o_addt, DL.o_sub, DL.o_subb, DL.o_subbb, DL.o_iadd, DL.o_iaddb, DL.o_isub, DL.o_isubb, DL.o_mul, DL.o_fdiv, DL.o_mod, DL.o_lt, DL.o_le, DL.o_gt, DL.o_ge, DL.o_eq, DL.o_ne, DL.o_isn, DL.o_notn, DL.o_isb, DL.o_notb, DL.o_idxt, DL.o_idxl, DL.o_idxo, DL.o_idxb, DL.o_slct, DL.o_slcl, DL.o_slco, DL.o_slcb, DL.o_rev, DL.o_lent, DL.o_lenl, DL.o_lens, DL.o_leno, DL.o_lenb, DL.o_lenstr, DL.o_abs, DL.o_int, DL.o_intb, DL.o_tupo, DL.o_tupl, DL.o_tupt, DL.o_tupb, DL.o_lso, DL.o_lsl, DL.o_lst, DL.o_lss, DL.o_lsb, DL.o_all, DL.o_anyy, DL.o_sum, DL.o_sorted, DL.u_bl, DL.u_int, DL.u_non, DL.u_tup, DL.u_lst, DL.u_own, DL.u_bor, DL.x_0, DL.x_1, DL.x_2, DL.x_3, DL.x_4, DL.x_5, DL.y_tuplenon, DL.y_tuplebl, DL.y_tupleint, DL.y_tuplestr, DL.y_tupletup, DL.y_tuplelst, DL.y_listnon, DL.y_listbl, DL.y_listint, DL.y_liststr, DL.y_listtup, DL.y_listlst, DL.y_dictnon, DL.y_dictbl, DL.y_dictint, DL.y_dictstr, DL.y_dicttup, DL.y_dictlst, DL.y_strnon, DL.y_strbl, DL.y_strint, DL.y_strstr, DL.y_strtup, DL.y_strlst, DL.y_intnon, DL.y_intbl, DL.y_intint, DL.y_intstr, DL.y_inttup, DL.y_intlst, DL.y_boolnon, DL.y_boolbl, DL.y_boolint, DL.y_boolstr, DL.y_booltup, DL.y_boollst, DL.j_n1, DL.j_n2, DL.j_n3, DL.j_n4, DL.j_n5, DL.j_f1, DL.j_f2, DL.j_f3, DL.j_f4, DL.j_f5, DL.j_w1, DL.j_w2, DL.j_w3, DL.j_w4, DL.j_w5, DL.j_01, DL.j_02, DL.j_03, DL.eqD_int, DL.eqOk_int, List.getElem?_cons_zero, List.getElem?_cons_succ, List.set_cons_zero, List.set_cons_succ, List.length_cons, List.length_nil, Option.map_some, Option.map_none, true_and, eq_self, x_pt0, x_pt1, h3]
  refine Tneg_of ?_
  try simp only [DL.e_loc, DL.e_cst, DL.e_gc, DL.e_bin, DL.e_neg, DL.e_cmp, DL.e_chn, DL.e_and, DL.e_or, DL.e_not, DL.e_ite, DL.e_idx, DL.e_gidx, DL.e_slc, DL.e_tup, DL.e_lst, DL.e_call, DL.e_bi, DL.e_inst, DL.e_comp, DL.e_nev, DL.e_nil, DL.e_cons, DL.e_no, DL.e_yes, DL.b_val, DL.b_cmp, DL.b_chn, DL.b_and, DL.b_or, DL.b_not, DL.b_no, DL.b_one, DL.i_seq, DL.i_rng1, DL.i_rng2, DL.i_enum, DL.i_zip, DL.s_set, DL.s_setF, DL.s_asg, DL.s_par, DL.s_par3, DL.s_aug, DL.s_app, DL.s_ext, DL.s_pop, DL.s_expr, DL.s_ret, DL.s_retT, DL.s_ite, DL.s_whl, DL.s_for, DL.s_gset, DL.s_brk, DL.s_cnt, DL.s_nil, DL.s_cons, DL.s_frz, DL.t_name, DL.t_tup, DL.t_nil, DL.t_cons, DL.t_len0, DL.t_len1, DL.k_locd, DL.k_loco, DL.k_neg, DL.k_tt, DL.k_ff, DL.k_any, DL.k_lst, DL.k_int, DL.k_dat, DL.k_ty, DL.k_keep, DL.k_own, DL.k_slot, DL.k_new, DL.k_seqt, DL.k_seql, DL.k_seqs, DL.k_seqo, DL.k_enut, DL.k_enul, DL.k_enuo, DL.k_zipt, DL.k_zipl, DL.k_gix, DL.k_gst, DL.k_setd, DL.k_seto, DL.a_dd, DL.a_do, DL.a_rd, DL.a_ro, DL.a_rb, DL.a_nil, DL.a_d, DL.a_o, DL.a_l, DL.a_lo, DL.a_lb, DL.o_add, DL.o_addb, DL.o_adds, DL.o_addt, DL.o_sub, DL.o_subb, DL.o_subbb, DL.o_iadd, DL.o_iaddb, DL.o_isub, DL.o_isubb, DL.o_mul, DL.o_fdiv, DL.o_mod, DL.o_lt, DL.o_le, DL.o_gt, DL.o_ge, DL.o_eq, DL.o_ne, DL.o_isn, DL.o_notn, DL.o_isb, DL.o_notb, DL.o_idxt, DL.o_idxl, DL.o_idxo, DL.o_idxb, DL.o_slct, DL.o_slcl, DL.o_slco, DL.o_slcb, DL.o_rev, DL.o_lent, DL.o_lenl, DL.o_lens, DL.o_leno, DL.o_lenb, DL.o_lenstr, DL.o_abs, DL.o_int, DL.o_intb, DL.o_tupo, DL.o_tupl, DL.o_tupt, DL.o_tupb, DL.o_lso, DL.o_lsl, DL.o_lst, DL.o_lss, DL.o_lsb, DL.o_all, DL.o_anyy, DL.o_sum, DL.o_sorted, DL.u_bl, DL.u_int, DL.u_non, DL.u_tup, DL.u_lst, DL.u_own, DL.u_bor, DL.x_0, DL.x_1, DL.x_2, DL.x_3, DL.x_4, DL.x_5, DL.y_tuplenon, DL.y_tuplebl, DL.y_tupleint, DL.y_tuplestr, DL.y_tupletup, DL.y_tuplelst, DL.y_listnon, DL.y_listbl, DL.y_listint, DL.y_liststr, DL.y_listtup, DL.y_listlst, DL.y_dictnon, DL.y_dictbl, DL.y_dictint, DL.y_dictstr, DL.y_dicttup, DL.y_dictlst, DL.y_strnon, DL.y_strbl, DL.y_strint, DL.y_strstr, DL.y_strtup, DL.y_strlst, DL.y_intnon, DL.y_intbl, DL.y_intint, DL.y_intstr, DL.y_inttup, DL.y_intlst, DL.y_boolnon, DL.y_boolbl, DL.y_boolint, DL.y_boolstr, DL.y_booltup, DL.y_boollst, DL.j_n1, DL.j_n2, DL.j_n3, DL.j_n4, DL.j_n5, DL.j_f1, DL.j_f2, DL.j_f3, DL.j_f4, DL.j_f5, DL.j_w1, DL.j_w2, DL.j_w3, DL.j_w4, DL.j_w5, DL.j_01, DL.j_02, DL.j_03, DL.eqD_int, DL.eqOk_int, List.getElem?_cons_zero, List.getElem?_cons_succ, List.set_cons_zero, List.set_cons_succ, List.length_cons, List.length_nil, Option.map_some, Option.map_none, true_and, eq_self, h1]
  refine T2_of (op.1.mono (by decide)) (oa.1.neg.mono (by decide)) ?_
  try simp only [DL.e_loc, DL.e_cst, DL.e_gc, DL.e_bin, DL.e_neg, DL.e_cmp, DL.e_chn, DL.e_and, DL.e_or, DL.e_not, DL.e_ite, DL.e_idx, DL.e_gidx, DL.e_slc, DL.e_tup, DL.e_lst, DL.e_call, DL.e_bi, DL.e_inst, DL.e_comp, DL.e_nev, DL.e_nil, DL.e_cons, DL.e_no, DL.e_yes, DL.b_val, DL.b_cmp, DL.b_chn, DL.b_and, DL.b_or, DL.b_not, DL.b_no, DL.b_one, DL.i_seq, DL.i_rng1, DL.i_rng2, DL.i_enum, DL.i_zip, DL.s_set, DL.s_setF, DL.s_asg, DL.s_par, DL.s_par3, DL.s_aug, DL.s_app, DL.s_ext, DL.s_pop, DL.s_expr, DL.s_ret, DL.s_retT, DL.s_ite, DL.s_whl, DL.s_for, DL.s_gset, DL.s_brk, DL.s_cnt, DL.s_nil, DL.s_cons, DL.s_frz, DL.t_name, DL.t_tup, DL.t_nil, DL.t_cons, DL.t_len0, DL.t_len1, DL.k_locd, DL.k_loco, DL.k_neg, DL.k_tt, DL.k_ff, DL.k_any, DL.k_lst, DL.k_int, DL.k_dat, DL.k_ty, DL.k_keep, DL.k_own, DL.k_slot, DL.k_new, DL.k_seqt, DL.k_seql, DL.k_seqs, DL.k_seqo, DL.k_enut, DL.k_enul, DL.k_enuo, DL.k_zipt, DL.k_zipl, DL.k_gix, DL.k_gst, DL.k_setd, DL.k_seto, DL.a_dd, DL.a_do, DL.a_rd, DL.a_ro, DL.a_rb, DL.a_nil, DL.a_d, DL.a_o, DL.a_l, DL.a_lo, DL.a_lb, DL.o_add, DL.o_addb, DL.o_adds, DL.o_addt, DL.o_sub, DL.o_subb, DL.o_subbb, DL.o_iadd, DL.o_iaddb, DL.o_isub, DL.o_isubb, DL.o_mul, DL.o_fdiv, DL.o_mod, DL.o_lt, DL.o_le, DL.o_gt, DL.o_ge, DL.o_eq, DL.o_ne, DL.o_isn, DL.o_notn, DL.o_isb, DL.o_notb, DL.o_idxt, DL.o_idxl, DL.o_idxo, DL.o_idxb, DL.o_slct, DL.o_slcl, DL.o_slco, DL.o_slcb, DL.o_rev, DL.o_lent, DL.o_lenl, DL.o_lens, DL.o_leno, DL.o_lenb, DL.o_lenstr, DL.o_abs, DL.o_int, DL.o_intb, DL.o_tupo, DL.o_tupl, DL.o_tupt, DL.o_tupb, DL.o_lso, DL.o_lsl, DL.o_lst, DL.o_lss, DL.o_lsb, DL.o_all, DL.o_anyy, DL.o_sum, DL.o_sorted, DL.u_bl, DL.u_int, DL.u_non, DL.u_tup, DL.u_lst, DL.u_own, DL.u_bor, DL.x_0, DL.x_1, DL.x_2, DL.x_3, DL.x_4, DL.x_5, DL.y_tuplenon, DL.y_tuplebl, DL.y_tupleint, DL.y_tuplestr, DL.y_tupletup, DL.y_tuplelst, DL.y_listnon, DL.y_listbl, DL.y_listint, DL.y_liststr, DL.y_listtup, DL.y_listlst, DL.y_dictnon, DL.y_dictbl, DL.y_dictint, DL.y_dictstr, DL.y_dicttup, DL.y_dictlst, DL.y_strnon, DL.y_strbl, DL.y_strint, DL.y_strstr, DL.y_strtup, DL.y_strlst, DL.y_intnon, DL.y_intbl, DL.y_intint, DL.y_intstr, DL.y_inttup, DL.y_intlst, DL.y_boolnon, DL.y_boolbl, DL.y_boolint, DL.y_boolstr, DL.y_booltup, DL.y_boollst, DL.j_n1, DL.j_n2, DL.j_n3, DL.j_n4, DL.j_n5, DL.j_f1, DL.j_f2, DL.j_f3, DL.j_f4, DL.j_f5, DL.j_w1, DL.j_w2, DL.j_w3, DL.j_w4, DL.j_w5, DL.j_01, DL.j_02, DL.j_03, DL.eqD_int, DL.eqOk_int, List.getElem?_cons_zero, List.getElem?_cons_succ, List.set_cons_zero, List.set_cons_succ, List.length_cons, List.length_nil, Option.map_some, Option.map_none, true_and, eq_self, h2]
  refine T2_of (s3.mono (by decide)) (s4.mono (by decide)) ?_
  simp only [cls_3, DL.e_loc, DL.e_cst, DL.e_gc, DL.e_bin, DL.e_neg, DL.e_cmp, DL.e_chn, DL.e_and, DL.e_or, DL.e_not, DL.e_ite, DL.e_idx, DL.e_gidx, DL.e_slc, DL.e_tup, DL.e_lst, DL.e_call, DL.e_bi, DL.e_inst, DL.e_comp, DL.e_nev, DL.e_nil, DL.e_cons, DL.e_no, DL.e_yes, DL.b_val, DL.b_cmp, DL.b_chn, DL.b_and, DL.b_or, DL.b_not, DL.b_no, DL.b_one, DL.i_seq, DL.i_rng1, DL.i_rng2, DL.i_enum, DL.i_zip, DL.s_set, DL.s_setF, DL.s_asg, DL.s_par, DL.s_par3, DL.s_aug, DL.s_app, DL.s_ext, DL.s_pop, DL.s_expr, DL.s_ret, DL.s_retT, DL.s_ite, DL.s_whl, DL.s_for, DL.s_gset, DL.s_brk, DL.s_cnt, DL.s_nil, DL.s_cons, DL.s_frz, DL.t_name, DL.t_tup, DL.t_nil, DL.t_cons, DL.t_len0, DL.t_len1, DL.k_locd, DL.k_loco, DL.k_neg, DL.k_tt, DL.k_ff, DL.k_any, DL.k_lst, DL.k_int, DL.k_dat, DL.k_ty, DL.k_keep, DL.k_own, DL.k_slot, DL.k_new, DL.k_seqt, DL.k_seql, DL.k_seqs, DL.k_seqo, DL.k_enut, DL.k_enul, DL.k_enuo, DL.k_zipt, DL.k_zipl, DL.k_gix, DL.k_gst, DL.k_setd, DL.k_seto, DL.a_dd, DL.a_do, DL.a_rd, DL.a_ro, DL.a_rb, DL.a_nil, DL.a_d, DL.a_o, DL.a_l, DL.a_lo, DL.a_lb, DL.o_add, DL.o_addb, DL.o_adds, DL.o_addt, DL.o_sub, DL.o_subb, DL.o_subbb, DL.o_iadd, DL.o_iaddb, DL.o_isub, DL.o_isubb, DL.o_mul, DL.o_fdiv, DL.o_mod, DL.o_lt, DL.o_le, DL.o_gt, DL.o_ge, DL.o_eq, DL.o_ne, DL.o_isn, DL.o_notn, DL.o_isb, DL.o_notb, DL.o_idxt, DL.o_idxl, DL.o_idxo, DL.o_idxb, DL.o_slct, DL.o_slcl, DL.o_slco, DL.o_slcb, DL.o_rev, DL.o_lent, DL.o_lenl, DL.o_lens, DL.o_leno, DL.o_lenb, DL.o_lenstr, DL.o_abs, DL.o_int, DL.o_intb, DL.o_tupo, DL.o_tupl, DL.o_tupt, DL.o_tupb, DL.o_lso, DL.o_lsl, DL.o_lst, DL.o_lss, DL.o_lsb, DL.o_all, DL.o_anyy, DL.o_sum, DL.o_sorted, DL.u_bl, DL.u_int, DL.u_non, DL.u_tup, DL.u_lst, DL.u_own, DL.u_bor, DL.x_0, DL.x_1, DL.x_2, DL.x_3, DL.x_4, DL.x_5, DL.y_tuplenon, DL.y_tuplebl, DL.y_tupleint, DL.y_tuplestr, DL.y_tupletup, DL.y_tuplelst, DL.y_listnon, DL.y_listbl, DL.y_listint, DL.y_liststr, DL.y_listtup, DL.y_listlst, DL.y_dictnon, DL.y_dictbl, DL.y_dictint, DL.y_dictstr, DL.y_dicttup, DL.y_dictlst, DL.y_strnon, DL.y_strbl, DL.y_strint, DL.y_strstr, DL.y_strtup, DL.y_strlst, DL.y_intnon, DL.y_intbl, DL.y_intint, DL.y_intstr, DL.y_inttup, DL.y_intlst, DL.y_boolnon, DL.y_boolbl, DL.y_boolint, DL.y_boolstr, DL.y_booltup, DL.y_boollst, DL.j_n1, DL.j_n2, DL.j_n3, DL.j_n4, DL.j_n5, DL.j_f1, DL.j_f2, DL.j_f3, DL.j_f4, DL.j_f5, DL.j_w1, DL.j_w2, DL.j_w3, DL.j_w4, DL.j_w5, DL.j_01, DL.j_02, DL.j_03, DL.eqD_int, DL.eqOk_int, List.getElem?_cons_zero, List.getElem?_cons_succ, List.set_cons_zero, List.set_cons_succ, List.length_cons, List.length_nil, Option.map_some, Option.map_none, true_and, eq_self, h3]
  refine Tneg_of ?_
  try simp only [DL.e_loc, DL.e_cst, DL.e_gc, DL.e_bin, DL.e_neg, DL.e_cmp, DL.e_chn, DL.e_and, DL.e_or, DL.e_not, DL.e_ite, DL.e_idx, DL.e_gidx, DL.e_slc, DL.e_tup, DL.e_lst, DL.e_call, DL.e_bi, DL.e_inst, DL.e_comp, DL.e_nev, DL.e_nil, DL.e_cons, DL.e_no, DL.e_yes, DL.b_val, DL.b_cmp, DL.b_chn, DL.b_and, DL.b_or, DL.b_not, DL.b_no, DL.b_one, DL.i_seq, DL.i_rng1, DL.i_rng2, DL.i_enum, DL.i_zip, DL.s_set, DL.s_setF, DL.s_asg, DL.s_par, DL.s_par3, DL.s_aug, DL.s_app, DL.s_ext, DL.s_pop, DL.s_expr, DL.s_ret, DL.s_retT, DL.s_ite, DL.s_whl, DL.s_for, DL.s_gset, DL.s_brk, DL.s_cnt, DL.s_nil, DL.s_cons, DL.s_frz, DL.t_name, DL.t_tup, DL.t_nil, DL.t_cons, DL.t_len0, DL.t_len1, DL.k_locd, DL.k_loco, DL.k_neg, DL.k_tt, DL.k_ff, DL.k_any, DL.k_lst, DL.k_int, DL.k_dat, DL.k_ty, DL.k_keep, DL.k_own, DL.k_slot, DL.k_new, DL.k_seqt, DL.k_seql, DL.k_seqs, DL.k_seqo, DL.k_enut, DL.k_enul, DL.k_enuo, DL.k_zipt, DL.k_zipl, DL.k_gix, DL.k_gst, DL.k_setd, DL.k_seto, DL.a_dd, DL.a_do, DL.a_rd, DL.a_ro, DL.a_rb, DL.a_nil, DL.a_d, DL.a_o, DL.a_l, DL.a_lo, DL.a_lb, DL.o_add, DL.o_addb, DL.o_adds, DL.o_addt, DL.o_sub, DL.o_subb, DL.o_subbb, DL.o_iadd, DL.o_iaddb, DL.o_isub, DL.o_isubb, DL.o_mul, DL.o_fdiv, DL.o_mod, DL.o_lt, DL.o_le, DL.o_gt, DL.o_ge, DL.o_eq, DL.o_ne, DL.o_isn, DL.o_notn, DL.o_isb, DL.o_notb, DL.o_idxt, DL.o_idxl, DL.o_idxo, DL.o_idxb, DL.o_slct, DL.o_slcl, DL.o_slco, DL.o_slcb, DL.o_rev, DL.o_lent, DL.o_lenl, DL.o_lens, DL.o_leno, DL.o_lenb, DL.o_lenstr, DL.o_abs, DL.o_int, DL.o_intb, DL.o_tupo, DL.o_tupl, DL.o_tupt, DL.o_tupb, DL.o_lso, DL.o_lsl, DL.o_lst, DL.o_lss, DL.o_lsb, DL.o_all, DL.o_anyy, DL.o_sum, DL.o_sorted, DL.u_bl, DL.u_int, DL.u_non, DL.u_tup, DL.u_lst, DL.u_own, DL.u_bor, DL.x_0, DL.x_1, DL.x_2, DL.x_3, DL.x_4, DL.x_5, DL.y_tuplenon, DL.y_tuplebl, DL.y_tupleint, DL.y_tuplestr, DL.y_tupletup, DL.y_tuplelst, DL.y_listnon, DL.y_listbl, DL.y_listint, DL.y_liststr, DL.y_listtup, DL.y_listlst, DL.y_dictnon, DL.y_dictbl, DL.y_dictint, DL.y_dictstr, DL.y_dicttup, DL.y_dictlst, DL.y_strnon, DL.y_strbl, DL.y_strint, DL.y_strstr, DL.y_strtup, DL.y_strlst, DL.y_intnon, DL.y_intbl, DL.y_intint, DL.y_intstr, DL.y_inttup, DL.y_intlst, DL.y_boolnon, DL.y_boolbl, DL.y_boolint, DL.y_boolstr, DL.y_booltup, DL.y_boollst, DL.j_n1, DL.j_n2, DL.j_n3, DL.j_n4, DL.j_n5, DL.j_f1, DL.j_f2, DL.j_f3, DL.j_f4, DL.j_f5, DL.j_w1, DL.j_w2, DL.j_w3, DL.j_w4, DL.j_w5, DL.j_01, DL.j_02, DL.j_03, DL.eqD_int, DL.eqOk_int, List.getElem?_cons_zero, List.getElem?_cons_succ, List.set_cons_zero, List.set_cons_succ, List.length_cons, List.length_nil, Option.map_some, Option.map_none, true_and, eq_self, h1]
  refine T2_of ((s1.mul s2).mono (by decide)) ((s3.mul s4).neg.mono (by decide)) ?_
  try simp only [DL.e_loc, DL.e_cst, DL.e_gc, DL.e_bin, DL.e_neg, DL.e_cmp, DL.e_chn, DL.e_and, DL.e_or, DL.e_not, DL.e_ite, DL.e_idx, DL.e_gidx, DL.e_slc, DL.e_tup, DL.e_lst, DL.e_call, DL.e_bi, DL.e_inst, DL.e_comp, DL.e_nev, DL.e_nil, DL.e_cons, DL.e_no, DL.e_yes, DL.b_val, DL.b_cmp, DL.b_chn, DL.b_and, DL.b_or, DL.b_not, DL.b_no, DL.b_one, DL.i_seq, DL.i_rng1, DL.i_rng2, DL.i_enum, DL.i_zip, DL.s_set, DL.s_setF, DL.s_asg, DL.s_par, DL.s_par3, DL.s_aug, DL.s_app, DL.s_ext, DL.s_pop, DL.s_expr, DL.s_ret, DL.s_retT, DL.s_ite, DL.s_whl, DL.s_for, DL.s_gset, DL.s_brk, DL.s_cnt, DL.s_nil, DL.s_cons, DL.s_frz, DL.t_name, DL.t_tup, DL.t_nil, DL.t_cons, DL.t_len0, DL.t_len1, DL.k_locd, DL.k_loco, DL.k_neg, DL.k_tt, DL.k_ff, DL.k_any, DL.k_lst, DL.k_int, DL.k_dat, DL.k_ty, DL.k_keep, DL.k_own, DL.k_slot, DL.k_new, DL.k_seqt, DL.k_seql, DL.k_seqs, DL.k_seqo, DL.k_enut, DL.k_enul, DL.k_enuo, DL.k_zipt, DL.k_zipl, DL.k_gix, DL.k_gst, DL.k_setd, DL.k_seto, DL.a_dd, DL.a_do, DL.a_rd, DL.a_ro, DL.a_rb, DL.a_nil, DL.a_d, DL.a_o, DL.a_l, DL.a_lo, DL.a_lb, DL.o_add, DL.o_addb, DL.o_adds, DL.o_addt, DL.o_sub, DL.o_subb, DL.o_subbb, DL.o_iadd, DL.o_iaddb, DL.o_isub, DL.o_isubb, DL.o_mul, DL.o_fdiv, DL.o_mod, DL.o_lt, DL.o_le, DL.o_gt, DL.o_ge, DL.o_eq, DL.o_ne, DL.o_isn, DL.o_notn, DL.o_isb, DL.o_notb, DL.o_idxt, DL.o_idxl, DL.o_idxo, DL.o_idxb, DL.o_slct, DL.o_slcl, DL.o_slco, DL.o_slcb, DL.o_rev, DL.o_lent, DL.o_lenl, DL.o_lens, DL.o_leno, DL.o_lenb, DL.o_lenstr, DL.o_abs, DL.o_int, DL.o_intb, DL.o_tupo, DL.o_tupl, DL.o_tupt, DL.o_tupb, DL.o_lso, DL.o_lsl, DL.o_lst, DL.o_lss, DL.o_lsb, DL.o_all, DL.o_anyy, DL.o_sum, DL.o_sorted, DL.u_bl, DL.u_int, DL.u_non, DL.u_tup, DL.u_lst, DL.u_own, DL.u_bor, DL.x_0, DL.x_1, DL.x_2, DL.x_3, DL.x_4, DL.x_5, DL.y_tuplenon, DL.y_tuplebl, DL.y_tupleint, DL.y_tuplestr, DL.y_tupletup, DL.y_tuplelst, DL.y_listnon, DL.y_listbl, DL.y_listint, DL.y_liststr, DL.y_listtup, DL.y_listlst, DL.y_dictnon, DL.y_dictbl, DL.y_dictint, DL.y_dictstr, DL.y_dicttup, DL.y_dictlst, DL.y_strnon, DL.y_strbl, DL.y_strint, DL.y_strstr, DL.y_strtup, DL.y_strlst, DL.y_intnon, DL.y_intbl, DL.y_intint, DL.y_intstr, DL.y_inttup, DL.y_intlst, DL.y_boolnon, DL.y_boolbl, DL.y_boolint, DL.y_boolstr, DL.y_booltup, DL.y_boollst, DL.j_n1, DL.j_n2, DL.j_n3, DL.j_n4, DL.j_n5, DL.j_f1, DL.j_f2, DL.j_f3, DL.j_f4, DL.j_f5, DL.j_w1, DL.j_w2, DL.j_w3, DL.j_w4, DL.j_w5, DL.j_01, DL.j_02, DL.j_03, DL.eqD_int, DL.eqOk_int, List.getElem?_cons_zero, List.getElem?_cons_succ, List.set_cons_zero, List.set_cons_succ, List.length_cons, List.length_nil, Option.map_some, Option.map_none, true_and, eq_self, x_nf0]
  have e : (b.1 + -a.1) * (p.2 + -a.2) + -((b.2 + -a.2) * (p.1 + -a.1)) = sideR a b p := by
    unfold sideR
    grind
  rw [e]
  exact h
theorem num_pos {q : Rat} : (0 < q.num) = (0 < q) := by
  apply propext
  rw [Rat.lt_iff]
  simp
theorem num_neg' {q : Rat} : (q.num < 0) = (q < 0) := by
  apply propext
  rw [Rat.lt_iff]
  simp
def clt_9 : CSs := .cons (.ret (.loc 2)) .nil
def clt_8 : CSs := .cons (.setF 2 (.bin .subP (.loc 2) (.cst (.int 1)))) .nil
def clt_7 (k1 k2 : Nat) : CSs := .cons (.ite (.and (.not (.val (.call k1 (.cons (.idx .any (.loc 1) (.cst (.int 1))) (.cons (.idx .any (.loc 6) (.cst (.int 1))) .nil))))) (.and (.val (.call k1 (.cons (.idx .any (.loc 1) (.cst (.int 1))) (.cons (.idx .any (.loc 5) (.cst (.int 1))) .nil)))) (.cmp .lt (.call k2 (.cons (.loc 5) (.cons (.loc 6) (.cons (.loc 1) .nil)))) (.cst (.int 0))))) clt_8 .nil) .nil
def clt_6 : CSs := .cons (.setF 2 (.bin .addP (.loc 2) (.cst (.int 1)))) .nil
def clt_5 (k1 k2 : Nat) : CSs := .cons (.ite (.and (.not (.val (.call k1 (.cons (.idx .any (.loc 1) (.cst (.int 1))) (.cons (.idx .any (.loc 5) (.cst (.int 1))) .nil))))) (.and (.val (.call k1 (.cons (.idx .any (.loc 1) (.cst (.int 1))) (.cons (.idx .any (.loc 6) (.cst (.int 1))) .nil)))) (.cmp .gt (.call k2 (.cons (.loc 5) (.cons (.loc 6) (.cons (.loc 1) .nil)))) (.cst (.int 0))))) clt_6 .nil) (clt_7 k1 k2)
def clt_4 (k1 k2 : Nat) : CSs := .cons (.par 5 6 (.idx .any (.loc 3) (.loc 4)) (.idx .any (.loc 3) (.bin .mod (.bin .addP (.loc 4) (.cst (.int 1))) (.bi .lenP (.loc 3))))) (clt_5 k1 k2)
def clt_3 (k1 k2 : Nat) : CSs := .cons (.for (.name 4) (.rng1 (.bi .lenP (.loc 3))) (clt_4 k1 k2)) .nil
def clt_2 (k1 k2 : Nat) : CSs := .cons (.for (.name 3) (.seq (.loc 0)) (clt_3 k1 k2)) clt_9
def clt_1 (k1 k2 : Nat) : CSs := .cons (.setF 2 (.cst (.int 0))) (clt_2 k1 k2)
/-- one edge, as the law tells it -/
theorem lt_turn (h1 : S.sp k1 = Tless) (h2 : S.sp k2 = Tlside) {R : En} {G : Gh} {x0 : Option SV} {p a b : Pt} {n : Int} {r v : Option SV} (oa : PtOk 100 a) (ob : PtOk 100 b) (op : PtOk 100 p)
    (h : R.nx [x0, some (.d (ptD p)), some (.d (.int (n + cross p (a, b)))), r, v, some (.d (ptD a)), some (.d (ptD b))] G) :
    wpSs S (clt_5 k1 k2) R [x0, some (.d (ptD p)), some (.d (.int n)), r, v, some (.d (ptD a)), some (.d (ptD b))] G := by
  -- the second half
  have low : ∀ m : Int, (m = n + cross p (a, b) ∧ (¬ p.2 < a.2 ∧ p.2 < b.2)) ∨ (m = n ∧ ¬ (¬ p.2 < a.2 ∧ p.2 < b.2)) ∨ (m = n ∧ (¬ p.2 < a.2 ∧ p.2 < b.2) ∧ cross p (a, b) = 0) →
      wpSs S (clt_7 k1 k2) R [x0, some (.d (ptD p)), some (.d (.int m)), r, v, some (.d (ptD a)), some (.d (ptD b))] G := by
    intro m hm
    have c0 : ¬ (¬ p.2 < a.2 ∧ p.2 < b.2) → cross p (a, b) = if ¬ p.2 < b.2 ∧ p.2 < a.2 then (if sideR a b p < 0 then -1 else 0) else 0 := fun hc => by
      unfold cross; rw [if_neg hc]
    have keep : (p.2 < b.2 ∨ ¬ p.2 < a.2 ∨ ¬ sideR a b p < 0) → m = n + cross p (a, b) := by
      intro z
      rcases hm with ⟨e, _⟩ | ⟨e, hc⟩ | ⟨e, _, e2⟩
      · exact e
      · rw [c0 hc, e]
        rcases z with z | z | z
        · rw [if_neg (fun y => y.1 z)]; omega
        · rw [if_neg (fun y => z y.2)]; omega
        · rw [if_neg z]; split <;> omega
      · omega
    simp only [clt_7, DL.e_loc, DL.e_cst, DL.e_gc, DL.e_bin, DL.e_neg, DL.e_cmp, DL.e_chn, DL.e_and, DL.e_or, DL.e_not, DL.e_ite, DL.e_idx, DL.e_gidx, DL.e_slc, DL.e_tup, DL.e_lst, DL.e_call, DL.e_bi, DL.e_inst, DL.e_comp, DL.e_nev, DL.e_nil, DL.e_cons, DL.e_no, DL.e_yes, DL.b_val, DL.b_cmp, DL.b_chn, DL.b_and, DL.b_or, DL.b_not, DL.b_no, DL.b_one, DL.i_seq, DL.i_rng1, DL.i_rng2, DL.i_enum, DL.i_zip, DL.s_set, DL.s_setF, DL.s_asg, DL.s_par, DL.s_par3, DL.s_aug, DL.s_app, DL.s_ext, DL.s_pop, DL.s_expr, DL.s_ret, DL.s_retT, DL.s_ite, DL.s_whl, DL.s_for, DL.s_gset, DL.s_brk, DL.s_cnt, DL.s_nil, DL.s_cons, DL.s_frz, DL.t_name, DL.t_tup, DL.t_nil, DL.t_cons, DL.t_len0, DL.t_len1, DL.k_locd, DL.k_loco, DL.k_neg, DL.k_tt, DL.k_ff, DL.k_any, DL.k_lst, DL.k_int, DL.k_dat, DL.k_ty, DL.k_keep, DL.k_own, DL.k_slot, DL.k_new, DL.k_seqt, DL.k_seql, DL.k_seqs, DL.k_seqo, DL.k_enut, DL.k_enul, DL.k_enuo, DL.k_zipt, DL.k_zipl, DL.k_gix, DL.k_gst, DL.k_setd, DL.k_seto, DL.a_dd, DL.a_do, DL.a_rd, DL.a_ro, DL.a_rb, DL.a_nil, DL.a_d, DL.a_o, DL.a_l, DL.a_lo, DL.a_lb, DL.o_add, DL.o_addb, DL.o_adds, DL.o_addt, DL.o_sub, DL.o_subb, DL.o_subbb, DL.o_iadd, DL.o_iaddb, DL.o_isub, DL.o_isubb, DL.o_mul, DL.o_fdiv, DL.o_mod, DL.o_lt, DL.o_le, DL.o_gt, DL.o_ge, DL.o_eq, DL.o_ne, DL.o_isn, DL.o_notn, DL.o_isb, DL.o_notb, DL.o_idxt, DL.o_idxl, DL.o_idxo, DL.o_idxb, DL.o_slct, DL.o_slcl, DL.o_slco, DL.o_slcb, DL.o_rev, DL.o_lent, DL.o_lenl, DL.o_lens, DL.o_leno, DL.o_lenb, DL.o_lenstr, DL.o_abs, DL.o_int, DL.o_intb, DL.o_tupo, DL.o_tupl, DL.o_tupt, DL.o_tupb, DL.o_lso, DL.o_lsl, DL.o_lst, DL.o_lss, DL.o_lsb, DL.o_all, DL.o_anyy, DL.o_sum, DL.o_sorted, DL.u_bl, DL.u_int, DL.u_non, DL.u_tup, DL.u_lst, DL.u_own, DL.u_bor, DL.x_0, DL.x_1, DL.x_2, DL.x_3, DL.x_4, DL.x_5, DL.y_tuplenon, DL.y_tuplebl, DL.y_tupleint, DL.y_tuplestr, DL.y_tupletup, DL.y_tuplelst, DL.y_listnon, DL.y_listbl, DL.y_listint, DL.y_liststr, DL.y_listtup, DL.y_listlst, DL.y_dictnon, DL.y_dictbl, DL.y_dictint, DL.y_dictstr, DL.y_dicttup, DL.y_dictlst, DL.y_strnon, DL.y_strbl, DL.y_strint, DL.y_strstr, DL.y_strtup, DL.y_strlst, DL.y_intnon, DL.y_intbl, DL.y_intint, DL.y_intstr, DL.y_inttup, DL.y_intlst, DL.y_boolnon, DL.y_boolbl, DL.y_boolint, DL.y_boolstr, DL.y_booltup, DL.y_boollst, DL.j_n1, DL.j_n2, DL.j_n3, DL.j_n4, DL.j_n5, DL.j_f1, DL.j_f2, DL.j_f3, DL.j_f4, DL.j_f5, DL.j_w1, DL.j_w2, DL.j_w3, DL.j_w4, DL.j_w5, DL.j_01, DL.j_02, DL.j_03, DL.eqD_int, DL.eqOk_int, List.getElem?_cons_zero, List.getElem?_cons_succ, List.set_cons_zero, List.set_cons_succ, List.length_cons, List.length_nil, Option.map_some, Option.map_none, true_and, eq_self, x_pt1, h1]
    refine Tless_of (op.2.mono (by decide)) (ob.2.mono (by decide)) ?_
    simp only [DL.e_loc, DL.e_cst, DL.e_gc, DL.e_bin, DL.e_neg, DL.e_cmp, DL.e_chn, DL.e_and, DL.e_or, DL.e_not, DL.e_ite, DL.e_idx, DL.e_gidx, DL.e_slc, DL.e_tup, DL.e_lst, DL.e_call, DL.e_bi, DL.e_inst, DL.e_comp, DL.e_nev, DL.e_nil, DL.e_cons, DL.e_no, DL.e_yes, DL.b_val, DL.b_cmp, DL.b_chn, DL.b_and, DL.b_or, DL.b_not, DL.b_no, DL.b_one, DL.i_seq, DL.i_rng1, DL.i_rng2, DL.i_enum, DL.i_zip, DL.s_set, DL.s_setF, DL.s_asg, DL.s_par, DL.s_par3, DL.s_aug, DL.s_app, DL.s_ext, DL.s_pop, DL.s_expr, DL.s_ret, DL.s_retT, DL.s_ite, DL.s_whl, DL.s_for, DL.s_gset, DL.s_brk, DL.s_cnt, DL.s_nil, DL.s_cons, DL.s_frz, DL.t_name, DL.t_tup, DL.t_nil, DL.t_cons, DL.t_len0, DL.t_len1, DL.k_locd, DL.k_loco, DL.k_neg, DL.k_tt, DL.k_ff, DL.k_any, DL.k_lst, DL.k_int, DL.k_dat, DL.k_ty, DL.k_keep, DL.k_own, DL.k_slot, DL.k_new, DL.k_seqt, DL.k_seql, DL.k_seqs, DL.k_seqo, DL.k_enut, DL.k_enul, DL.k_enuo, DL.k_zipt, DL.k_zipl, DL.k_gix, DL.k_gst, DL.k_setd, DL.k_seto, DL.a_dd, DL.a_do, DL.a_rd, DL.a_ro, DL.a_rb, DL.a_nil, DL.a_d, DL.a_o, DL.a_l, DL.a_lo, DL.a_lb, DL.o_add, DL.o_addb, DL.o_adds, DL.o_addt, DL.o_sub, DL.o_subb, DL.o_subbb, DL.o_iadd, DL.o_iaddb, DL.o_isub, DL.o_isubb, DL.o_mul, DL.o_fdiv, DL.o_mod, DL.o_lt, DL.o_le, DL.o_gt, DL.o_ge, DL.o_eq, DL.o_ne, DL.o_isn, DL.o_notn, DL.o_isb, DL.o_notb, DL.o_idxt, DL.o_idxl, DL.o_idxo, DL.o_idxb, DL.o_slct, DL.o_slcl, DL.o_slco, DL.o_slcb, DL.o_rev, DL.o_lent, DL.o_lenl, DL.o_lens, DL.o_leno, DL.o_lenb, DL.o_lenstr, DL.o_abs, DL.o_int, DL.o_intb, DL.o_tupo, DL.o_tupl, DL.o_tupt, DL.o_tupb, DL.o_lso, DL.o_lsl, DL.o_lst, DL.o_lss, DL.o_lsb, DL.o_all, DL.o_anyy, DL.o_sum, DL.o_sorted, DL.u_bl, DL.u_int, DL.u_non, DL.u_tup, DL.u_lst, DL.u_own, DL.u_bor, DL.x_0, DL.x_1, DL.x_2, DL.x_3, DL.x_4, DL.x_5, DL.y_tuplenon, DL.y_tuplebl, DL.y_tupleint, DL.y_tuplestr, DL.y_tupletup, DL.y_tuplelst, DL.y_listnon, DL.y_listbl, DL.y_listint, DL.y_liststr, DL.y_listtup, DL.y_listlst, DL.y_dictnon, DL.y_dictbl, DL.y_dictint, DL.y_dictstr, DL.y_dicttup, DL.y_dictlst, DL.y_strnon, DL.y_strbl, DL.y_strint, DL.y_strstr, DL.y_strtup, DL.y_strlst, DL.y_intnon, DL.y_intbl, DL.y_intint, DL.y_intstr, DL.y_inttup, DL.y_intlst, DL.y_boolnon, DL.y_boolbl, DL.y_boolint, DL.y_boolstr, DL.y_booltup, DL.y_boollst, DL.j_n1, DL.j_n2, DL.j_n3, DL.j_n4, DL.j_n5, DL.j_f1, DL.j_f2, DL.j_f3, DL.j_f4, DL.j_f5, DL.j_w1, DL.j_w2, DL.j_w3, DL.j_w4, DL.j_w5, DL.j_01, DL.j_02, DL.j_03, DL.eqD_int, DL.eqOk_int, List.getElem?_cons_zero, List.getElem?_cons_succ, List.set_cons_zero, List.set_cons_succ, List.length_cons, List.length_nil, Option.map_some, Option.map_none, true_and, eq_self]
    refine iteK_of (fun c1 => ?_) (fun c1 => ?_)
    · refine Tless_of (op.2.mono (by decide)) (oa.2.mono (by decide)) ?_
      simp only [DL.e_loc, DL.e_cst, DL.e_gc, DL.e_bin, DL.e_neg, DL.e_cmp, DL.e_chn, DL.e_and, DL.e_or, DL.e_not, DL.e_ite, DL.e_idx, DL.e_gidx, DL.e_slc, DL.e_tup, DL.e_lst, DL.e_call, DL.e_bi, DL.e_inst, DL.e_comp, DL.e_nev, DL.e_nil, DL.e_cons, DL.e_no, DL.e_yes, DL.b_val, DL.b_cmp, DL.b_chn, DL.b_and, DL.b_or, DL.b_not, DL.b_no, DL.b_one, DL.i_seq, DL.i_rng1, DL.i_rng2, DL.i_enum, DL.i_zip, DL.s_set, DL.s_setF, DL.s_asg, DL.s_par, DL.s_par3, DL.s_aug, DL.s_app, DL.s_ext, DL.s_pop, DL.s_expr, DL.s_ret, DL.s_retT, DL.s_ite, DL.s_whl, DL.s_for, DL.s_gset, DL.s_brk, DL.s_cnt, DL.s_nil, DL.s_cons, DL.s_frz, DL.t_name, DL.t_tup, DL.t_nil, DL.t_cons, DL.t_len0, DL.t_len1, DL.k_locd, DL.k_loco, DL.k_neg, DL.k_tt, DL.k_ff, DL.k_any, DL.k_lst, DL.k_int, DL.k_dat, DL.k_ty, DL.k_keep, DL.k_own, DL.k_slot, DL.k_new, DL.k_seqt, DL.k_seql, DL.k_seqs, DL.k_seqo, DL.k_enut, DL.k_enul, DL.k_enuo, DL.k_zipt, DL.k_zipl, DL.k_gix, DL.k_gst, DL.k_setd, DL.k_seto, DL.a_dd, DL.a_do, DL.a_rd, DL.a_ro, DL.a_rb, DL.a_nil, DL.a_d, DL.a_o, DL.a_l, DL.a_lo, DL.a_lb, DL.o_add, DL.o_addb, DL.o_adds, DL.o_addt, DL.o_sub, DL.o_subb, DL.o_subbb, DL.o_iadd, DL.o_iaddb, DL.o_isub, DL.o_isubb, DL.o_mul, DL.o_fdiv, DL.o_mod, DL.o_lt, DL.o_le, DL.o_gt, DL.o_ge, DL.o_eq, DL.o_ne, DL.o_isn, DL.o_notn, DL.o_isb, DL.o_notb, DL.o_idxt, DL.o_idxl, DL.o_idxo, DL.o_idxb, DL.o_slct, DL.o_slcl, DL.o_slco, DL.o_slcb, DL.o_rev, DL.o_lent, DL.o_lenl, DL.o_lens, DL.o_leno, DL.o_lenb, DL.o_lenstr, DL.o_abs, DL.o_int, DL.o_intb, DL.o_tupo, DL.o_tupl, DL.o_tupt, DL.o_tupb, DL.o_lso, DL.o_lsl, DL.o_lst, DL.o_lss, DL.o_lsb, DL.o_all, DL.o_anyy, DL.o_sum, DL.o_sorted, DL.u_bl, DL.u_int, DL.u_non, DL.u_tup, DL.u_lst, DL.u_own, DL.u_bor, DL.x_0, DL.x_1, DL.x_2, DL.x_3, DL.x_4, DL.x_5, DL.y_tuplenon, DL.y_tuplebl, DL.y_tupleint, DL.y_tuplestr, DL.y_tupletup, DL.y_tuplelst, DL.y_listnon, DL.y_listbl, DL.y_listint, DL.y_liststr, DL.y_listtup, DL.y_listlst, DL.y_dictnon, DL.y_dictbl, DL.y_dictint, DL.y_dictstr, DL.y_dicttup, DL.y_dictlst, DL.y_strnon, DL.y_strbl, DL.y_strint, DL.y_strstr, DL.y_strtup, DL.y_strlst, DL.y_intnon, DL.y_intbl, DL.y_intint, DL.y_intstr, DL.y_inttup, DL.y_intlst, DL.y_boolnon, DL.y_boolbl, DL.y_boolint, DL.y_boolstr, DL.y_booltup, DL.y_boollst, DL.j_n1, DL.j_n2, DL.j_n3, DL.j_n4, DL.j_n5, DL.j_f1, DL.j_f2, DL.j_f3, DL.j_f4, DL.j_f5, DL.j_w1, DL.j_w2, DL.j_w3, DL.j_w4, DL.j_w5, DL.j_01, DL.j_02, DL.j_03, DL.eqD_int, DL.eqOk_int, List.getElem?_cons_zero, List.getElem?_cons_succ, List.set_cons_zero, List.set_cons_succ, List.length_cons, List.length_nil, Option.map_some, Option.map_none, true_and, eq_self, h2]
      refine iteK_of (fun c2 => ?_) (fun c2 => ?_)
      · refine ⟨a, b, p, rfl, oa, ob, op, ?_⟩
        simp only [DL.e_loc, DL.e_cst, DL.e_gc, DL.e_bin, DL.e_neg, DL.e_cmp, DL.e_chn, DL.e_and, DL.e_or, DL.e_not, DL.e_ite, DL.e_idx, DL.e_gidx, DL.e_slc, DL.e_tup, DL.e_lst, DL.e_call, DL.e_bi, DL.e_inst, DL.e_comp, DL.e_nev, DL.e_nil, DL.e_cons, DL.e_no, DL.e_yes, DL.b_val, DL.b_cmp, DL.b_chn, DL.b_and, DL.b_or, DL.b_not, DL.b_no, DL.b_one, DL.i_seq, DL.i_rng1, DL.i_rng2, DL.i_enum, DL.i_zip, DL.s_set, DL.s_setF, DL.s_asg, DL.s_par, DL.s_par3, DL.s_aug, DL.s_app, DL.s_ext, DL.s_pop, DL.s_expr, DL.s_ret, DL.s_retT, DL.s_ite, DL.s_whl, DL.s_for, DL.s_gset, DL.s_brk, DL.s_cnt, DL.s_nil, DL.s_cons, DL.s_frz, DL.t_name, DL.t_tup, DL.t_nil, DL.t_cons, DL.t_len0, DL.t_len1, DL.k_locd, DL.k_loco, DL.k_neg, DL.k_tt, DL.k_ff, DL.k_any, DL.k_lst, DL.k_int, DL.k_dat, DL.k_ty, DL.k_keep, DL.k_own, DL.k_slot, DL.k_new, DL.k_seqt, DL.k_seql, DL.k_seqs, DL.k_seqo, DL.k_enut, DL.k_enul, DL.k_enuo, DL.k_zipt, DL.k_zipl, DL.k_gix, DL.k_gst, DL.k_setd, DL.k_seto, DL.a_dd, DL.a_do, DL.a_rd, DL.a_ro, DL.a_rb, DL.a_nil, DL.a_d, DL.a_o, DL.a_l, DL.a_lo, DL.a_lb, DL.o_add, DL.o_addb, DL.o_adds, DL.o_addt, DL.o_sub, DL.o_subb, DL.o_subbb, DL.o_iadd, DL.o_iaddb, DL.o_isub, DL.o_isubb, DL.o_mul, DL.o_fdiv, DL.o_mod, DL.o_lt, DL.o_le, DL.o_gt, DL.o_ge, DL.o_eq, DL.o_ne, DL.o_isn, DL.o_notn, DL.o_isb, DL.o_notb, DL.o_idxt, DL.o_idxl, DL.o_idxo, DL.o_idxb, DL.o_slct, DL.o_slcl, DL.o_slco, DL.o_slcb, DL.o_rev, DL.o_lent, DL.o_lenl, DL.o_lens, DL.o_leno, DL.o_lenb, DL.o_lenstr, DL.o_abs, DL.o_int, DL.o_intb, DL.o_tupo, DL.o_tupl, DL.o_tupt, DL.o_tupb, DL.o_lso, DL.o_lsl, DL.o_lst, DL.o_lss, DL.o_lsb, DL.o_all, DL.o_anyy, DL.o_sum, DL.o_sorted, DL.u_bl, DL.u_int, DL.u_non, DL.u_tup, DL.u_lst, DL.u_own, DL.u_bor, DL.x_0, DL.x_1, DL.x_2, DL.x_3, DL.x_4, DL.x_5, DL.y_tuplenon, DL.y_tuplebl, DL.y_tupleint, DL.y_tuplestr, DL.y_tupletup, DL.y_tuplelst, DL.y_listnon, DL.y_listbl, DL.y_listint, DL.y_liststr, DL.y_listtup, DL.y_listlst, DL.y_dictnon, DL.y_dictbl, DL.y_dictint, DL.y_dictstr, DL.y_dicttup, DL.y_dictlst, DL.y_strnon, DL.y_strbl, DL.y_strint, DL.y_strstr, DL.y_strtup, DL.y_strlst, DL.y_intnon, DL.y_intbl, DL.y_intint, DL.y_intstr, DL.y_inttup, DL.y_intlst, DL.y_boolnon, DL.y_boolbl, DL.y_boolint, DL.y_boolstr, DL.y_booltup, DL.y_boollst, DL.j_n1, DL.j_n2, DL.j_n3, DL.j_n4, DL.j_n5, DL.j_f1, DL.j_f2, DL.j_f3, DL.j_f4, DL.j_f5, DL.j_w1, DL.j_w2, DL.j_w3, DL.j_w4, DL.j_w5, DL.j_01, DL.j_02, DL.j_03, DL.eqD_int, DL.eqOk_int, List.getElem?_cons_zero, List.getElem?_cons_succ, List.set_cons_zero, List.set_cons_succ, List.length_cons, List.length_nil, Option.map_some, Option.map_none, true_and, eq_self, num_neg']
        refine iteK_of (fun c3 => ?_) (fun c3 => ?_)
        · simp only [clt_8, DL.e_loc, DL.e_cst, DL.e_gc, DL.e_bin, DL.e_neg, DL.e_cmp, DL.e_chn, DL.e_and, DL.e_or, DL.e_not, DL.e_ite, DL.e_idx, DL.e_gidx, DL.e_slc, DL.e_tup, DL.e_lst, DL.e_call, DL.e_bi, DL.e_inst, DL.e_comp, DL.e_nev, DL.e_nil, DL.e_cons, DL.e_no, DL.e_yes, DL.b_val, DL.b_cmp, DL.b_chn, DL.b_and, DL.b_or, DL.b_not, DL.b_no, DL.b_one, DL.i_seq, DL.i_rng1, DL.i_rng2, DL.i_enum, DL.i_zip, DL.s_set, DL.s_setF, DL.s_asg, DL.s_par, DL.s_par3, DL.s_aug, DL.s_app, DL.s_ext, DL.s_pop, DL.s_expr, DL.s_ret, DL.s_retT, DL.s_ite, DL.s_whl, DL.s_for, DL.s_gset, DL.s_brk, DL.s_cnt, DL.s_nil, DL.s_cons, DL.s_frz, DL.t_name, DL.t_tup, DL.t_nil, DL.t_cons, DL.t_len0, DL.t_len1, DL.k_locd, DL.k_loco, DL.k_neg, DL.k_tt, DL.k_ff, DL.k_any, DL.k_lst, DL.k_int, DL.k_dat, DL.k_ty, DL.k_keep, DL.k_own, DL.k_slot, DL.k_new, DL.k_seqt, DL.k_seql, DL.k_seqs, DL.k_seqo, DL.k_enut, DL.k_enul, DL.k_enuo, DL.k_zipt, DL.k_zipl, DL.k_gix, DL.k_gst, DL.k_setd, DL.k_seto, DL.a_dd, DL.a_do, DL.a_rd, DL.a_ro, DL.a_rb, DL.a_nil, DL.a_d, DL.a_o, DL.a_l, DL.a_lo, DL.a_lb, DL.o_add, DL.o_addb, DL.o_adds, DL.o_addt, DL.o_sub, DL.o_subb, DL.o_subbb, DL.o_iadd, DL.o_iaddb, DL.o_isub, DL.o_isubb, DL.o_mul, DL.o_fdiv, DL.o_mod, DL.o_lt, DL.o_le, DL.o_gt, DL.o_ge, DL.o_eq, DL.o_ne, DL.o_isn, DL.o_notn, DL.o_isb, DL.o_notb, DL.o_idxt, DL.o_idxl, DL.o_idxo, DL.o_idxb, DL.o_slct, DL.o_slcl, DL.o_slco, DL.o_slcb, DL.o_rev, DL.o_lent, DL.o_lenl, DL.o_lens, DL.o_leno, DL.o_lenb, DL.o_lenstr, DL.o_abs, DL.o_int, DL.o_intb, DL.o_tupo, DL.o_tupl, DL.o_tupt, DL.o_tupb, DL.o_lso, DL.o_lsl, DL.o_lst, DL.o_lss, DL.o_lsb, DL.o_all, DL.o_anyy, DL.o_sum, DL.o_sorted, DL.u_bl, DL.u_int, DL.u_non, DL.u_tup, DL.u_lst, DL.u_own, DL.u_bor, DL.x_0, DL.x_1, DL.x_2, DL.x_3, DL.x_4, DL.x_5, DL.y_tuplenon, DL.y_tuplebl, DL.y_tupleint, DL.y_tuplestr, DL.y_tupletup, DL.y_tuplelst, DL.y_listnon, DL.y_listbl, DL.y_listint, DL.y_liststr, DL.y_listtup, DL.y_listlst, DL.y_dictnon, DL.y_dictbl, DL.y_dictint, DL.y_dictstr, DL.y_dicttup, DL.y_dictlst, DL.y_strnon, DL.y_strbl, DL.y_strint, DL.y_strstr, DL.y_strtup, DL.y_strlst, DL.y_intnon, DL.y_intbl, DL.y_intint, DL.y_intstr, DL.y_inttup, DL.y_intlst, DL.y_boolnon, DL.y_boolbl, DL.y_boolint, DL.y_boolstr, DL.y_booltup, DL.y_boollst, DL.j_n1, DL.j_n2, DL.j_n3, DL.j_n4, DL.j_n5, DL.j_f1, DL.j_f2, DL.j_f3, DL.j_f4, DL.j_f5, DL.j_w1, DL.j_w2, DL.j_w3, DL.j_w4, DL.j_w5, DL.j_01, DL.j_02, DL.j_03, DL.eqD_int, DL.eqOk_int, List.getElem?_cons_zero, List.getElem?_cons_succ, List.set_cons_zero, List.set_cons_succ, List.length_cons, List.length_nil, Option.map_some, Option.map_none, true_and, eq_self]
          have d1 : ¬ p.2 < b.2 := by simpa using c1
          have d2 : p.2 < a.2 := by simpa using c2
          have d3 : sideR a b p < 0 := by simpa using c3
          have hc : ¬ (¬ p.2 < a.2 ∧ p.2 < b.2) := fun z => z.1 d2
          have : m - 1 = n + cross p (a, b) := by
            rw [c0 hc, if_pos ⟨d1, d2⟩, if_pos d3]
            rcases hm with ⟨_, z⟩ | ⟨e, _⟩ | ⟨e, z, _⟩
            · exact absurd z hc
            · omega
            · exact absurd z hc
          rw [this]; exact h
        · rw [keep (.inr (.inr (by simpa using c3)))]; exact h
      · rw [keep (.inr (.inl (by simpa using c2)))]; exact h
    · rw [keep (.inl (by simpa using c1))]; exact h
  have c1' : (¬ p.2 < a.2 ∧ p.2 < b.2) → cross p (a, b) = if 0 < sideR a b p then 1 else 0 := fun hc => by unfold cross; rw [if_pos hc]
  simp only [clt_5, DL.e_loc, DL.e_cst, DL.e_gc, DL.e_bin, DL.e_neg, DL.e_cmp, DL.e_chn, DL.e_and, DL.e_or, DL.e_not, DL.e_ite, DL.e_idx, DL.e_gidx, DL.e_slc, DL.e_tup, DL.e_lst, DL.e_call, DL.e_bi, DL.e_inst, DL.e_comp, DL.e_nev, DL.e_nil, DL.e_cons, DL.e_no, DL.e_yes, DL.b_val, DL.b_cmp, DL.b_chn, DL.b_and, DL.b_or, DL.b_not, DL.b_no, DL.b_one, DL.i_seq, DL.i_rng1, DL.i_rng2, DL.i_enum, DL.i_zip, DL.s_set, DL.s_setF, DL.s_asg, DL.s_par, DL.s_par3, DL.s_aug, DL.s_app, DL.s_ext, DL.s_pop, DL.s_expr, DL.s_ret, DL.s_retT, DL.s_ite, DL.s_whl, DL.s_for, DL.s_gset, DL.s_brk, DL.s_cnt, DL.s_nil, DL.s_cons, DL.s_frz, DL.t_name, DL.t_tup, DL.t_nil, DL.t_cons, DL.t_len0, DL.t_len1, DL.k_locd, DL.k_loco, DL.k_neg, DL.k_tt, DL.k_ff, DL.k_any, DL.k_lst, DL.k_int, DL.k_dat, DL.k_ty, DL.k_keep, DL.k_own, DL.k_slot, DL.k_new, DL.k_seqt, DL.k_seql, DL.k_seqs, DL.k_seqo, DL.k_enut, DL.k_enul, DL.k_enuo, DL.k_zipt, DL.k_zipl, DL.k_gix, DL.k_gst, DL.k_setd, DL.k_seto, DL.a_dd, DL.a_do, DL.a_rd, DL.a_ro, DL.a_rb, DL.a_nil, DL.a_d, DL.a_o, DL.a_l, DL.a_lo, DL.a_lb, DL.o_add, DL.o_addb, DL.o_adds, DL.o_addt, DL.o_sub, DL.o_subb, DL.o_subbb, DL.o_iadd, DL.o_iaddb, DL.o_isub, DL.o_isubb, DL.o_mul, DL.o_fdiv, DL.o_mod, DL.o_lt, DL.o_le, DL.o_gt, DL.o_ge, DL.o_eq, DL.o_ne, DL.o_isn, DL.o_notn, DL.o_isb, DL.o_notb, DL.o_idxt, DL.o_idxl, DL.o_idxo, DL.o_idxb, DL.o_slct, DL.o_slcl, DL.o_slco, DL.o_slcb, DL.o_rev, DL.o_lent, DL.o_lenl, DL.o_lens, DL.o_leno, DL.o_lenb, DL.o_lenstr, DL.o_abs, DL.o_int, DL.o_intb, DL.o_tupo, DL.o_tupl, DL.o_tupt, DL.o_tupb, DL.o_lso, DL.o_lsl, DL.o_lst, DL.o_lss, DL.o_lsb, DL.o_all, DL.o_anyy, DL.o_sum, DL.o_sorted, DL.u_bl, DL.u_int, DL.u_non, DL.u_tup, DL.u_lst, DL.u_own, DL.u_bor, DL.x_0, DL.x_1, DL.x_2, DL.x_3, DL.x_4, DL.x_5, DL.y_tuplenon, DL.y_tuplebl, DL.y_tupleint, DL.y_tuplestr, DL.y_tupletup, DL.y_tuplelst, DL.y_listnon, DL.y_listbl, DL.y_listint, DL.y_liststr, DL.y_listtup, DL.y_listlst, DL.y_dictnon, DL.y_dictbl, DL.y_dictint, DL.y_dictstr, DL.y_dicttup, DL.y_dictlst, DL.y_strnon, DL.y_strbl, DL.y_strint, DL.y_strstr, DL.y_strtup, DL.y_strlst, DL.y_intnon, DL.y_intbl, DL.y_intint, DL.y_intstr, DL.y_inttup, DL.y_intlst, DL.y_boolnon, DL.y_boolbl, DL.y_boolint, DL.y_boolstr, DL.y_booltup, DL.y_boollst, DL.j_n1, DL.j_n2, DL.j_n3, DL.j_n4, DL.j_n5, DL.j_f1, DL.j_f2, DL.j_f3, DL.j_f4, DL.j_f5, DL.j_w1, DL.j_w2, DL.j_w3, DL.j_w4, DL.j_w5, DL.j_01, DL.j_02, DL.j_03, DL.eqD_int, DL.eqOk_int, List.getElem?_cons_zero, List.getElem?_cons_succ, List.set_cons_zero, List.set_cons_succ, List.length_cons, List.length_nil, Option.map_some, Option.map_none, true_and, eq_self, x_pt1, h1]
  refine Tless_of (op.2.mono (by decide)) (oa.2.mono (by decide)) ?_
  simp only [DL.e_loc, DL.e_cst, DL.e_gc, DL.e_bin, DL.e_neg, DL.e_cmp, DL.e_chn, DL.e_and, DL.e_or, DL.e_not, DL.e_ite, DL.e_idx, DL.e_gidx, DL.e_slc, DL.e_tup, DL.e_lst, DL.e_call, DL.e_bi, DL.e_inst, DL.e_comp, DL.e_nev, DL.e_nil, DL.e_cons, DL.e_no, DL.e_yes, DL.b_val, DL.b_cmp, DL.b_chn, DL.b_and, DL.b_or, DL.b_not, DL.b_no, DL.b_one, DL.i_seq, DL.i_rng1, DL.i_rng2, DL.i_enum, DL.i_zip, DL.s_set, DL.s_setF, DL.s_asg, DL.s_par, DL.s_par3, DL.s_aug, DL.s_app, DL.s_ext, DL.s_pop, DL.s_expr, DL.s_ret, DL.s_retT, DL.s_ite, DL.s_whl, DL.s_for, DL.s_gset, DL.s_brk, DL.s_cnt, DL.s_nil, DL.s_cons, DL.s_frz, DL.t_name, DL.t_tup, DL.t_nil, DL.t_cons, DL.t_len0, DL.t_len1, DL.k_locd, DL.k_loco, DL.k_neg, DL.k_tt, DL.k_ff, DL.k_any, DL.k_lst, DL.k_int, DL.k_dat, DL.k_ty, DL.k_keep, DL.k_own, DL.k_slot, DL.k_new, DL.k_seqt, DL.k_seql, DL.k_seqs, DL.k_seqo, DL.k_enut, DL.k_enul, DL.k_enuo, DL.k_zipt, DL.k_zipl, DL.k_gix, DL.k_gst, DL.k_setd, DL.k_seto, DL.a_dd, DL.a_do, DL.a_rd, DL.a_ro, DL.a_rb, DL.a_nil, DL.a_d, DL.a_o, DL.a_l, DL.a_lo, DL.a_lb, DL.o_add, DL.o_addb, DL.o_adds, DL.o_addt, DL.o_sub, DL.o_subb, DL.o_subbb, DL.o_iadd, DL.o_iaddb, DL.o_isub, DL.o_isubb, DL.o_mul, DL.o_fdiv, DL.o_mod, DL.o_lt, DL.o_le, DL.o_gt, DL.o_ge, DL.o_eq, DL.o_ne, DL.o_isn, DL.o_notn, DL.o_isb, DL.o_notb, DL.o_idxt, DL.o_idxl, DL.o_idxo, DL.o_idxb, DL.o_slct, DL.o_slcl, DL.o_slco, DL.o_slcb, DL.o_rev, DL.o_lent, DL.o_lenl, DL.o_lens, DL.o_leno, DL.o_lenb, DL.o_lenstr, DL.o_abs, DL.o_int, DL.o_intb, DL.o_tupo, DL.o_tupl, DL.o_tupt, DL.o_tupb, DL.o_lso, DL.o_lsl, DL.o_lst, DL.o_lss, DL.o_lsb, DL.o_all, DL.o_anyy, DL.o_sum, DL.o_sorted, DL.u_bl, DL.u_int, DL.u_non, DL.u_tup, DL.u_lst, DL.u_own, DL.u_bor, DL.x_0, DL.x_1, DL.x_2, DL.x_3, DL.x_4, DL.x_5, DL.y_tuplenon, DL.y_tuplebl, DL.y_tupleint, DL.y_tuplestr, DL.y_tupletup, DL.y_tuplelst, DL.y_listnon, DL.y_listbl, DL.y_listint, DL.y_liststr, DL.y_listtup, DL.y_listlst, DL.y_dictnon, DL.y_dictbl, DL.y_dictint, DL.y_dictstr, DL.y_dicttup, DL.y_dictlst, DL.y_strnon, DL.y_strbl, DL.y_strint, DL.y_strstr, DL.y_strtup, DL.y_strlst, DL.y_intnon, DL.y_intbl, DL.y_intint, DL.y_intstr, DL.y_inttup, DL.y_intlst, DL.y_boolnon, DL.y_boolbl, DL.y_boolint, DL.y_boolstr, DL.y_booltup, DL.y_boollst, DL.j_n1, DL.j_n2, DL.j_n3, DL.j_n4, DL.j_n5, DL.j_f1, DL.j_f2, DL.j_f3, DL.j_f4, DL.j_f5, DL.j_w1, DL.j_w2, DL.j_w3, DL.j_w4, DL.j_w5, DL.j_01, DL.j_02, DL.j_03, DL.eqD_int, DL.eqOk_int, List.getElem?_cons_zero, List.getElem?_cons_succ, List.set_cons_zero, List.set_cons_succ, List.length_cons, List.length_nil, Option.map_some, Option.map_none, true_and, eq_self]
  refine iteK_of (fun c1 => ?_) (fun c1 => ?_)
  · refine Tless_of (op.2.mono (by decide)) (ob.2.mono (by decide)) ?_
    simp only [DL.e_loc, DL.e_cst, DL.e_gc, DL.e_bin, DL.e_neg, DL.e_cmp, DL.e_chn, DL.e_and, DL.e_or, DL.e_not, DL.e_ite, DL.e_idx, DL.e_gidx, DL.e_slc, DL.e_tup, DL.e_lst, DL.e_call, DL.e_bi, DL.e_inst, DL.e_comp, DL.e_nev, DL.e_nil, DL.e_cons, DL.e_no, DL.e_yes, DL.b_val, DL.b_cmp, DL.b_chn, DL.b_and, DL.b_or, DL.b_not, DL.b_no, DL.b_one, DL.i_seq, DL.i_rng1, DL.i_rng2, DL.i_enum, DL.i_zip, DL.s_set, DL.s_setF, DL.s_asg, DL.s_par, DL.s_par3, DL.s_aug, DL.s_app, DL.s_ext, DL.s_pop, DL.s_expr, DL.s_ret, DL.s_retT, DL.s_ite, DL.s_whl, DL.s_for, DL.s_gset, DL.s_brk, DL.s_cnt, DL.s_nil, DL.s_cons, DL.s_frz, DL.t_name, DL.t_tup, DL.t_nil, DL.t_cons, DL.t_len0, DL.t_len1, DL.k_locd, DL.k_loco, DL.k_neg, DL.k_tt, DL.k_ff, DL.k_any, DL.k_lst, DL.k_int, DL.k_dat, DL.k_ty, DL.k_keep, DL.k_own, DL.k_slot, DL.k_new, DL.k_seqt, DL.k_seql, DL.k_seqs, DL.k_seqo, DL.k_enut, DL.k_enul, DL.k_enuo, DL.k_zipt, DL.k_zipl, DL.k_gix, DL.k_gst, DL.k_setd, DL.k_seto, DL.a_dd, DL.a_do, DL.a_rd, DL.a_ro, DL.a_rb, DL.a_nil, DL.a_d, DL.a_o, DL.a_l, DL.a_lo, DL.a_lb, DL.o_add, DL.o_addb, DL.o_adds, DL.o_addt, DL.o_sub, DL.o_subb, DL.o_subbb, DL.o_iadd, DL.o_iaddb, DL.o_isub, DL.o_isubb, DL.o_mul, DL.o_fdiv, DL.o_mod, DL.o_lt, DL.o_le, DL.o_gt, DL.o_ge, DL.o_eq, DL.o_ne, DL.o_isn, DL.o_notn, DL.o_isb, DL.o_notb, DL.o_idxt, DL.o_idxl, DL.o_idxo, DL.o_idxb, DL.o_slct, DL.o_slcl, DL.o_slco, DL.o_slcb, DL.o_rev, DL.o_lent, DL.o_lenl, DL.o_lens, DL.o_leno, DL.o_lenb, DL.o_lenstr, DL.o_abs, DL.o_int, DL.o_intb, DL.o_tupo, DL.o_tupl, DL.o_tupt, DL.o_tupb, DL.o_lso, DL.o_lsl, DL.o_lst, DL.o_lss, DL.o_lsb, DL.o_all, DL.o_anyy, DL.o_sum, DL.o_sorted, DL.u_bl, DL.u_int, DL.u_non, DL.u_tup, DL.u_lst, DL.u_own, DL.u_bor, DL.x_0, DL.x_1, DL.x_2, DL.x_3, DL.x_4, DL.x_5, DL.y_tuplenon, DL.y_tuplebl, DL.y_tupleint, DL.y_tuplestr, DL.y_tupletup, DL.y_tuplelst, DL.y_listnon, DL.y_listbl, DL.y_listint, DL.y_liststr, DL.y_listtup, DL.y_listlst, DL.y_dictnon, DL.y_dictbl, DL.y_dictint, DL.y_dictstr, DL.y_dicttup, DL.y_dictlst, DL.y_strnon, DL.y_strbl, DL.y_strint, DL.y_strstr, DL.y_strtup, DL.y_strlst, DL.y_intnon, DL.y_intbl, DL.y_intint, DL.y_intstr, DL.y_inttup, DL.y_intlst, DL.y_boolnon, DL.y_boolbl, DL.y_boolint, DL.y_boolstr, DL.y_booltup, DL.y_boollst, DL.j_n1, DL.j_n2, DL.j_n3, DL.j_n4, DL.j_n5, DL.j_f1, DL.j_f2, DL.j_f3, DL.j_f4, DL.j_f5, DL.j_w1, DL.j_w2, DL.j_w3, DL.j_w4, DL.j_w5, DL.j_01, DL.j_02, DL.j_03, DL.eqD_int, DL.eqOk_int, List.getElem?_cons_zero, List.getElem?_cons_succ, List.set_cons_zero, List.set_cons_succ, List.length_cons, List.length_nil, Option.map_some, Option.map_none, true_and, eq_self, h2]
    have d1 : ¬ p.2 < a.2 := by simpa using c1
    refine iteK_of (fun c2 => ?_) (fun c2 => ?_)
    · have d2 : p.2 < b.2 := by simpa using c2
      refine ⟨a, b, p, rfl, oa, ob, op, ?_⟩
      simp only [DL.e_loc, DL.e_cst, DL.e_gc, DL.e_bin, DL.e_neg, DL.e_cmp, DL.e_chn, DL.e_and, DL.e_or, DL.e_not, DL.e_ite, DL.e_idx, DL.e_gidx, DL.e_slc, DL.e_tup, DL.e_lst, DL.e_call, DL.e_bi, DL.e_inst, DL.e_comp, DL.e_nev, DL.e_nil, DL.e_cons, DL.e_no, DL.e_yes, DL.b_val, DL.b_cmp, DL.b_chn, DL.b_and, DL.b_or, DL.b_not, DL.b_no, DL.b_one, DL.i_seq, DL.i_rng1, DL.i_rng2, DL.i_enum, DL.i_zip, DL.s_set, DL.s_setF, DL.s_asg, DL.s_par, DL.s_par3, DL.s_aug, DL.s_app, DL.s_ext, DL.s_pop, DL.s_expr, DL.s_ret, DL.s_retT, DL.s_ite, DL.s_whl, DL.s_for, DL.s_gset, DL.s_brk, DL.s_cnt, DL.s_nil, DL.s_cons, DL.s_frz, DL.t_name, DL.t_tup, DL.t_nil, DL.t_cons, DL.t_len0, DL.t_len1, DL.k_locd, DL.k_loco, DL.k_neg, DL.k_tt, DL.k_ff, DL.k_any, DL.k_lst, DL.k_int, DL.k_dat, DL.k_ty, DL.k_keep, DL.k_own, DL.k_slot, DL.k_new, DL.k_seqt, DL.k_seql, DL.k_seqs, DL.k_seqo, DL.k_enut, DL.k_enul, DL.k_enuo, DL.k_zipt, DL.k_zipl, DL.k_gix, DL.k_gst, DL.k_setd, DL.k_seto, DL.a_dd, DL.a_do, DL.a_rd, DL.a_ro, DL.a_rb, DL.a_nil, DL.a_d, DL.a_o, DL.a_l, DL.a_lo, DL.a_lb, DL.o_add, DL.o_addb, DL.o_adds, DL.o_addt, DL.o_sub, DL.o_subb, DL.o_subbb, DL.o_iadd, DL.o_iaddb, DL.o_isub, DL.o_isubb, DL.o_mul, DL.o_fdiv, DL.o_mod, DL.o_lt, DL.o_le, DL.o_gt, DL.o_ge, DL.o_eq, DL.o_ne, DL.o_isn, DL.o_notn, DL.o_isb, DL.o_notb, DL.o_idxt, DL.o_idxl, DL.o_idxo, DL.o_idxb, DL.o_slct, DL.o_slcl, DL.o_slco, DL.o_slcb, DL.o_rev, DL.o_lent, DL.o_lenl, DL.o_lens, DL.o_leno, DL.o_lenb, DL.o_lenstr, DL.o_abs, DL.o_int, DL.o_intb, DL.o_tupo, DL.o_tupl, DL.o_tupt, DL.o_tupb, DL.o_lso, DL.o_lsl, DL.o_lst, DL.o_lss, DL.o_lsb, DL.o_all, DL.o_anyy, DL.o_sum, DL.o_sorted, DL.u_bl, DL.u_int, DL.u_non, DL.u_tup, DL.u_lst, DL.u_own, DL.u_bor, DL.x_0, DL.x_1, DL.x_2, DL.x_3, DL.x_4, DL.x_5, DL.y_tuplenon, DL.y_tuplebl, DL.y_tupleint, DL.y_tuplestr, DL.y_tupletup, DL.y_tuplelst, DL.y_listnon, DL.y_listbl, DL.y_listint, DL.y_liststr, DL.y_listtup, DL.y_listlst, DL.y_dictnon, DL.y_dictbl, DL.y_dictint, DL.y_dictstr, DL.y_dicttup, DL.y_dictlst, DL.y_strnon, DL.y_strbl, DL.y_strint, DL.y_strstr, DL.y_strtup, DL.y_strlst, DL.y_intnon, DL.y_intbl, DL.y_intint, DL.y_intstr, DL.y_inttup, DL.y_intlst, DL.y_boolnon, DL.y_boolbl, DL.y_boolint, DL.y_boolstr, DL.y_booltup, DL.y_boollst, DL.j_n1, DL.j_n2, DL.j_n3, DL.j_n4, DL.j_n5, DL.j_f1, DL.j_f2, DL.j_f3, DL.j_f4, DL.j_f5, DL.j_w1, DL.j_w2, DL.j_w3, DL.j_w4, DL.j_w5, DL.j_01, DL.j_02, DL.j_03, DL.eqD_int, DL.eqOk_int, List.getElem?_cons_zero, List.getElem?_cons_succ, List.set_cons_zero, List.set_cons_succ, List.length_cons, List.length_nil, Option.map_some, Option.map_none, true_and, eq_self, num_pos]
      refine iteK_of (fun c3 => ?_) (fun c3 => ?_)
      · simp only [clt_6, DL.e_loc, DL.e_cst, DL.e_gc, DL.e_bin, DL.e_neg, DL.e_cmp, DL.e_chn, DL.e_and, DL.e_or, DL.e_not, DL.e_ite, DL.e_idx, DL.e_gidx, DL.e_slc, DL.e_tup, DL.e_lst, DL.e_call, DL.e_bi, DL.e_inst, DL.e_comp, DL.e_nev, DL.e_nil, DL.e_cons, DL.e_no, DL.e_yes, DL.b_val, DL.b_cmp, DL.b_chn, DL.b_and, DL.b_or, DL.b_not, DL.b_no, DL.b_one, DL.i_seq, DL.i_rng1, DL.i_rng2, DL.i_enum, DL.i_zip, DL.s_set, DL.s_setF, DL.s_asg, DL.s_par, DL.s_par3, DL.s_aug, DL.s_app, DL.s_ext, DL.s_pop, DL.s_expr, DL.s_ret, DL.s_retT, DL.s_ite, DL.s_whl, DL.s_for, DL.s_gset, DL.s_brk, DL.s_cnt, DL.s_nil, DL.s_cons, DL.s_frz, DL.t_name, DL.t_tup, DL.t_nil, DL.t_cons, DL.t_len0, DL.t_len1, DL.k_locd, DL.k_loco, DL.k_neg, DL.k_tt, DL.k_ff, DL.k_any, DL.k_lst, DL.k_int, DL.k_dat, DL.k_ty, DL.k_keep, DL.k_own, DL.k_slot, DL.k_new, DL.k_seqt, DL.k_seql, DL.k_seqs, DL.k_seqo, DL.k_enut, DL.k_enul, DL.k_enuo, DL.k_zipt, DL.k_zipl, DL.k_gix, DL.k_gst, DL.k_setd, DL.k_seto, DL.a_dd, DL.a_do, DL.a_rd, DL.a_ro, DL.a_rb, DL.a_nil, DL.a_d, DL.a_o, DL.a_l, DL.a_lo, DL.a_lb, DL.o_add, DL.o_addb, DL.o_adds, DL.o_addt, DL.o_sub, DL.o_subb, DL.o_subbb, DL.o_iadd, DL.o_iaddb, DL.o_isub, DL.o_isubb, DL.o_mul, DL.o_fdiv, DL.o_mod, DL.o_lt, DL.o_le, DL.o_gt, DL.o_ge, DL.o_eq, DL.o_ne, DL.o_isn, DL.o_notn, DL.o_isb, DL.o_notb, DL.o_idxt, DL.o_idxl, DL.o_idxo, DL.o_idxb, DL.o_slct, DL.o_slcl, DL.o_slco, DL.o_slcb, DL.o_rev, DL.o_lent, DL.o_lenl, DL.o_lens, DL.o_leno, DL.o_lenb, DL.o_lenstr, DL.o_abs, DL.o_int, DL.o_intb, DL.o_tupo, DL.o_tupl, DL.o_tupt, DL.o_tupb, DL.o_lso, DL.o_lsl, DL.o_lst, DL.o_lss, DL.o_lsb, DL.o_all, DL.o_anyy, DL.o_sum, DL.o_sorted, DL.u_bl, DL.u_int, DL.u_non, DL.u_tup, DL.u_lst, DL.u_own, DL.u_bor, DL.x_0, DL.x_1, DL.x_2, DL.x_3, DL.x_4, DL.x_5, DL.y_tuplenon, DL.y_tuplebl, DL.y_tupleint, DL.y_tuplestr, DL.y_tupletup, DL.y_tuplelst, DL.y_listnon, DL.y_listbl, DL.y_listint, DL.y_liststr, DL.y_listtup, DL.y_listlst, DL.y_dictnon, DL.y_dictbl, DL.y_dictint, DL.y_dictstr, DL.y_dicttup, DL.y_dictlst, DL.y_strnon, DL.y_strbl, DL.y_strint, DL.y_strstr, DL.y_strtup, DL.y_strlst, DL.y_intnon, DL.y_intbl, DL.y_intint, DL.y_intstr, DL.y_inttup, DL.y_intlst, DL.y_boolnon, DL.y_boolbl, DL.y_boolint, DL.y_boolstr, DL.y_booltup, DL.y_boollst, DL.j_n1, DL.j_n2, DL.j_n3, DL.j_n4, DL.j_n5, DL.j_f1, DL.j_f2, DL.j_f3, DL.j_f4, DL.j_f5, DL.j_w1, DL.j_w2, DL.j_w3, DL.j_w4, DL.j_w5, DL.j_01, DL.j_02, DL.j_03, DL.eqD_int, DL.eqOk_int, List.getElem?_cons_zero, List.getElem?_cons_succ, List.set_cons_zero, List.set_cons_succ, List.length_cons, List.length_nil, Option.map_some, Option.map_none, true_and, eq_self]
        have d3 : 0 < sideR a b p := by simpa using c3
        exact low _ (.inl ⟨by rw [c1' ⟨d1, d2⟩, if_pos d3], d1, d2⟩)
      · have d3 : ¬ 0 < sideR a b p := by simpa using c3
        exact low _ (.inr (.inr ⟨rfl, ⟨d1, d2⟩, by rw [c1' ⟨d1, d2⟩, if_neg d3]⟩))
    · have d2 : ¬ p.2 < b.2 := by simpa using c2
      exact low _ (.inr (.inl ⟨rfl, fun z => d2 z.2⟩))
  · have d1 : p.2 < a.2 := by simpa using c1
    exact low _ (.inr (.inl ⟨rfl, fun z => z.1 d1⟩))
end
end DC
namespace DC
open PySem DL
theorem rng_succ {lo : Int} {n : Nat} : rngD lo (n + 1) = .int lo :: rngD (lo + 1) n := rfl
theorem rng_zero {lo : Int} : rngD lo 0 = [] := rfl
/-- the edges from a place on -/
def sufP (ring suf : List Pt) : List (Pt × Pt) := match ring with
  | [] => []
  | f :: _ => edgesFrom f suf
theorem sufP_self (r : List Pt) : sufP r r = edgesOf r := by cases r <;> rfl
theorem sufP_nil (r : List Pt) : sufP r [] = [] := by cases r <;> rfl
/-- the next point -/
theorem next_pt {ring pre suf : List Pt} {p : Pt} (e : ring = pre ++ p :: suf) : ring[pre.length]? = some p ∧ ∃ (j : Nat) (q : Pt), (((pre.length : Nat) : Int) + 1).fmod (ring.length : Int) = j ∧ ring[j]? = some q ∧ sufP ring (p :: suf) = (p, q) :: sufP ring suf := by
  have hn : ring.length = pre.length + suf.length + 1 := by rw [e]; simp; omega
  refine ⟨by rw [e]; simp, ?_⟩
  rw [Int.fmod_eq_emod_of_nonneg _ (by omega)]
  cases suf with
  | nil =>
    cases ring with
    | nil => simp at hn
    | cons f r =>
      refine ⟨0, f, ?_, by simp, by simp [edgesFrom, sufP]⟩
      have : ((pre.length : Int) + 1) = ((f :: r).length : Nat) := by simp only [List.length_nil] at hn; omega
      rw [this]
      exact Int.emod_self
  | cons q r =>
    refine ⟨pre.length + 1, q, ?_, ?_, ?_⟩
    · rw [Int.emod_eq_of_lt (by omega) (by simp only [List.length_cons] at hn; omega)]
      omega
    · rw [e, List.getElem?_append_right (by omega)]
      simp
    · cases ring with
      | nil => simp at hn
      | cons f r' => simp [edgesFrom, sufP]
section
variable {S : Sg} {N : List Str} {k1 k2 k3 : Nat}
theorem run_lturns (hN : N.length = 7) (h1 : S.sp k1 = Tless) (h2 : S.sp k2 = Tlside) : ∀ ds G Q E, Tturns ds G Q E → runB S N (clt_1 k1 k2) ds G Q E := by
  rintro ds G Q E ⟨rs, p, rfl, ors, op, h⟩
  simp only [run_eq, startL, hN, clt_1, clt_2, DL.e_loc, DL.e_cst, DL.e_gc, DL.e_bin, DL.e_neg, DL.e_cmp, DL.e_chn, DL.e_and, DL.e_or, DL.e_not, DL.e_ite, DL.e_idx, DL.e_gidx, DL.e_slc, DL.e_tup, DL.e_lst, DL.e_call, DL.e_bi, DL.e_inst, DL.e_comp, DL.e_nev, DL.e_nil, DL.e_cons, DL.e_no, DL.e_yes, DL.b_val, DL.b_cmp, DL.b_chn, DL.b_and, DL.b_or, DL.b_not, DL.b_no, DL.b_one, DL.i_seq, DL.i_rng1, DL.i_rng2, DL.i_enum, DL.i_zip, DL.s_set, DL.s_setF, DL.s_asg, DL.s_par, DL.s_par3, DL.s_aug, DL.s_app, DL.s_ext, DL.s_pop, DL.s_expr, DL.s_ret, DL.s_retT, DL.s_ite, DL.s_whl, DL.s_for, DL.s_gset, DL.s_brk, DL.s_cnt, DL.s_nil, DL.s_cons, DL.s_frz, DL.t_name, DL.t_tup, DL.t_nil, DL.t_cons, DL.t_len0, DL.t_len1, DL.k_locd, DL.k_loco, DL.k_neg, DL.k_tt, DL.k_ff, DL.k_any, DL.k_lst, DL.k_int, DL.k_dat, DL.k_ty, DL.k_keep, DL.k_own, DL.k_slot, DL.k_new, DL.k_seqt, DL.k_seql, DL.k_seqs, DL.k_seqo, DL.k_enut, DL.k_enul, DL.k_enuo, DL.k_zipt, DL.k_zipl, DL.k_gix, DL.k_gst, DL.k_setd, DL.k_seto, DL.a_dd, DL.a_do, DL.a_rd, DL.a_ro, DL.a_rb, DL.a_nil, DL.a_d, DL.a_o, DL.a_l, DL.a_lo, DL.a_lb, DL.o_add, DL.o_addb, DL.o_adds, DL.o_addt, DL.o_sub, DL.o_subb, DL.o_subbb, DL.o_iadd, DL.o_iaddb, DL.o_isub, DL.o_isubb, DL.o_mul, DL.o_fdiv, DL.o_mod, DL.o_lt, DL.o_le, DL.o_gt, DL.o_ge, DL.o_eq, DL.o_ne, DL.o_isn, DL.o_notn, DL.o_isb, DL.o_notb, DL.o_idxt, DL.o_idxl, DL.o_idxo, DL.o_idxb, DL.o_slct, DL.o_slcl, DL.o_slco, DL.o_slcb, DL.o_rev, DL.o_lent, DL.o_lenl, DL.o_lens, DL.o_leno, DL.o_lenb, DL.o_lenstr, DL.o_abs, DL.o_int, DL.o_intb, DL.o_tupo, DL.o_tupl, DL.o_tupt, DL.o_tupb, DL.o_lso, DL.o_lsl, DL.o_lst, DL.o_lss, DL.o_lsb, DL.o_all, DL.o_anyy, DL.o_sum, DL.o_sorted, DL.u_bl, DL.u_int, DL.u_non, DL.u_tup, DL.u_lst, DL.u_own, DL.u_bor, DL.x_0, DL.x_1, DL.x_2, DL.x_3, DL.x_4, DL.x_5, DL.y_tuplenon, DL.y_tuplebl, DL.y_tupleint, DL.y_tuplestr, DL.y_tupletup, DL.y_tuplelst, DL.y_listnon, DL.y_listbl, DL.y_listint, DL.y_liststr, DL.y_listtup, DL.y_listlst, DL.y_dictnon, DL.y_dictbl, DL.y_dictint, DL.y_dictstr, DL.y_dicttup, DL.y_dictlst, DL.y_strnon, DL.y_strbl, DL.y_strint, DL.y_strstr, DL.y_strtup, DL.y_strlst, DL.y_intnon, DL.y_intbl, DL.y_intint, DL.y_intstr, DL.y_inttup, DL.y_intlst, DL.y_boolnon, DL.y_boolbl, DL.y_boolint, DL.y_boolstr, DL.y_booltup, DL.y_boollst, DL.j_n1, DL.j_n2, DL.j_n3, DL.j_n4, DL.j_n5, DL.j_f1, DL.j_f2, DL.j_f3, DL.j_f4, DL.j_f5, DL.j_w1, DL.j_w2, DL.j_w3, DL.j_w4, DL.j_w5, DL.j_01, DL.j_02, DL.j_03, DL.eqD_int, DL.eqOk_int, List.getElem?_cons_zero, List.getElem?_cons_succ, List.set_cons_zero, List.set_cons_succ, List.length_cons, List.length_nil, Option.map_some, Option.map_none, true_and, eq_self, List.map_cons, List.map_nil, Nat.reduceAdd, Nat.reduceSub, List.replicate_succ, List.replicate_zero, List.append_nil, List.cons_append, List.nil_append, k_seqrs]
  have inner : ∀ (R : En) (ring : List Pt), ring.length ≤ 1000 → (∀ x ∈ ring, PtOk 100 x) → ∀ (suf pre : List Pt) (n : Int) (v y z : Option SV), ring = pre ++ suf →
      (∀ v y z, R.nx [some (.d (ringsD rs)), some (.d (ptD p)), some (.d (.int (n + ((sufP ring suf).map (cross p)).sum))), some (.d (ringD ring)), v, y, z] G) →
      forK S (.name 4) (clt_4 k1 k2) (rngD pre.length suf.length) R [some (.d (ringsD rs)), some (.d (ptD p)), some (.d (.int n)), some (.d (ringD ring)), v, y, z] G := by
    intro R ring hl hp suf
    induction suf with
    | nil =>
      intro pre n v y z e k
      simp only [List.length_nil, rng_zero, f_nil]
      have := k v y z
      rw [sufP_nil] at this
      simpa using this
    | cons a suf ih =>
      intro pre n v y z e k
      obtain ⟨e0, j, b, e1, e2, e3⟩ := next_pt e
      have hn : ring.length = pre.length + suf.length + 1 := by rw [e]; simp; omega
      simp only [List.length_cons, rng_succ, f_cons, clt_4, DL.e_loc, DL.e_cst, DL.e_gc, DL.e_bin, DL.e_neg, DL.e_cmp, DL.e_chn, DL.e_and, DL.e_or, DL.e_not, DL.e_ite, DL.e_idx, DL.e_gidx, DL.e_slc, DL.e_tup, DL.e_lst, DL.e_call, DL.e_bi, DL.e_inst, DL.e_comp, DL.e_nev, DL.e_nil, DL.e_cons, DL.e_no, DL.e_yes, DL.b_val, DL.b_cmp, DL.b_chn, DL.b_and, DL.b_or, DL.b_not, DL.b_no, DL.b_one, DL.i_seq, DL.i_rng1, DL.i_rng2, DL.i_enum, DL.i_zip, DL.s_set, DL.s_setF, DL.s_asg, DL.s_par, DL.s_par3, DL.s_aug, DL.s_app, DL.s_ext, DL.s_pop, DL.s_expr, DL.s_ret, DL.s_retT, DL.s_ite, DL.s_whl, DL.s_for, DL.s_gset, DL.s_brk, DL.s_cnt, DL.s_nil, DL.s_cons, DL.s_frz, DL.t_name, DL.t_tup, DL.t_nil, DL.t_cons, DL.t_len0, DL.t_len1, DL.k_locd, DL.k_loco, DL.k_neg, DL.k_tt, DL.k_ff, DL.k_any, DL.k_lst, DL.k_int, DL.k_dat, DL.k_ty, DL.k_keep, DL.k_own, DL.k_slot, DL.k_new, DL.k_seqt, DL.k_seql, DL.k_seqs, DL.k_seqo, DL.k_enut, DL.k_enul, DL.k_enuo, DL.k_zipt, DL.k_zipl, DL.k_gix, DL.k_gst, DL.k_setd, DL.k_seto, DL.a_dd, DL.a_do, DL.a_rd, DL.a_ro, DL.a_rb, DL.a_nil, DL.a_d, DL.a_o, DL.a_l, DL.a_lo, DL.a_lb, DL.o_add, DL.o_addb, DL.o_adds, DL.o_addt, DL.o_sub, DL.o_subb, DL.o_subbb, DL.o_iadd, DL.o_iaddb, DL.o_isub, DL.o_isubb, DL.o_mul, DL.o_fdiv, DL.o_mod, DL.o_lt, DL.o_le, DL.o_gt, DL.o_ge, DL.o_eq, DL.o_ne, DL.o_isn, DL.o_notn, DL.o_isb, DL.o_notb, DL.o_idxt, DL.o_idxl, DL.o_idxo, DL.o_idxb, DL.o_slct, DL.o_slcl, DL.o_slco, DL.o_slcb, DL.o_rev, DL.o_lent, DL.o_lenl, DL.o_lens, DL.o_leno, DL.o_lenb, DL.o_lenstr, DL.o_abs, DL.o_int, DL.o_intb, DL.o_tupo, DL.o_tupl, DL.o_tupt, DL.o_tupb, DL.o_lso, DL.o_lsl, DL.o_lst, DL.o_lss, DL.o_lsb, DL.o_all, DL.o_anyy, DL.o_sum, DL.o_sorted, DL.u_bl, DL.u_int, DL.u_non, DL.u_tup, DL.u_lst, DL.u_own, DL.u_bor, DL.x_0, DL.x_1, DL.x_2, DL.x_3, DL.x_4, DL.x_5, DL.y_tuplenon, DL.y_tuplebl, DL.y_tupleint, DL.y_tuplestr, DL.y_tupletup, DL.y_tuplelst, DL.y_listnon, DL.y_listbl, DL.y_listint, DL.y_liststr, DL.y_listtup, DL.y_listlst, DL.y_dictnon, DL.y_dictbl, DL.y_dictint, DL.y_dictstr, DL.y_dicttup, DL.y_dictlst, DL.y_strnon, DL.y_strbl, DL.y_strint, DL.y_strstr, DL.y_strtup, DL.y_strlst, DL.y_intnon, DL.y_intbl, DL.y_intint, DL.y_intstr, DL.y_inttup, DL.y_intlst, DL.y_boolnon, DL.y_boolbl, DL.y_boolint, DL.y_boolstr, DL.y_booltup, DL.y_boollst, DL.j_n1, DL.j_n2, DL.j_n3, DL.j_n4, DL.j_n5, DL.j_f1, DL.j_f2, DL.j_f3, DL.j_f4, DL.j_f5, DL.j_w1, DL.j_w2, DL.j_w3, DL.j_w4, DL.j_w5, DL.j_01, DL.j_02, DL.j_03, DL.eqD_int, DL.eqOk_int, List.getElem?_cons_zero, List.getElem?_cons_succ, List.set_cons_zero, List.set_cons_succ, List.length_cons, List.length_nil, Option.map_some, Option.map_none, true_and, eq_self, x_ring e0, o_lenr]
      refine ⟨by omega, ?_⟩
      rw [e1]
      simp only [x_ring e2, DL.e_loc, DL.e_cst, DL.e_gc, DL.e_bin, DL.e_neg, DL.e_cmp, DL.e_chn, DL.e_and, DL.e_or, DL.e_not, DL.e_ite, DL.e_idx, DL.e_gidx, DL.e_slc, DL.e_tup, DL.e_lst, DL.e_call, DL.e_bi, DL.e_inst, DL.e_comp, DL.e_nev, DL.e_nil, DL.e_cons, DL.e_no, DL.e_yes, DL.b_val, DL.b_cmp, DL.b_chn, DL.b_and, DL.b_or, DL.b_not, DL.b_no, DL.b_one, DL.i_seq, DL.i_rng1, DL.i_rng2, DL.i_enum, DL.i_zip, DL.s_set, DL.s_setF, DL.s_asg, DL.s_par, DL.s_par3, DL.s_aug, DL.s_app, DL.s_ext, DL.s_pop, DL.s_expr, DL.s_ret, DL.s_retT, DL.s_ite, DL.s_whl, DL.s_for, DL.s_gset, DL.s_brk, DL.s_cnt, DL.s_nil, DL.s_cons, DL.s_frz, DL.t_name, DL.t_tup, DL.t_nil, DL.t_cons, DL.t_len0, DL.t_len1, DL.k_locd, DL.k_loco, DL.k_neg, DL.k_tt, DL.k_ff, DL.k_any, DL.k_lst, DL.k_int, DL.k_dat, DL.k_ty, DL.k_keep, DL.k_own, DL.k_slot, DL.k_new, DL.k_seqt, DL.k_seql, DL.k_seqs, DL.k_seqo, DL.k_enut, DL.k_enul, DL.k_enuo, DL.k_zipt, DL.k_zipl, DL.k_gix, DL.k_gst, DL.k_setd, DL.k_seto, DL.a_dd, DL.a_do, DL.a_rd, DL.a_ro, DL.a_rb, DL.a_nil, DL.a_d, DL.a_o, DL.a_l, DL.a_lo, DL.a_lb, DL.o_add, DL.o_addb, DL.o_adds, DL.o_addt, DL.o_sub, DL.o_subb, DL.o_subbb, DL.o_iadd, DL.o_iaddb, DL.o_isub, DL.o_isubb, DL.o_mul, DL.o_fdiv, DL.o_mod, DL.o_lt, DL.o_le, DL.o_gt, DL.o_ge, DL.o_eq, DL.o_ne, DL.o_isn, DL.o_notn, DL.o_isb, DL.o_notb, DL.o_idxt, DL.o_idxl, DL.o_idxo, DL.o_idxb, DL.o_slct, DL.o_slcl, DL.o_slco, DL.o_slcb, DL.o_rev, DL.o_lent, DL.o_lenl, DL.o_lens, DL.o_leno, DL.o_lenb, DL.o_lenstr, DL.o_abs, DL.o_int, DL.o_intb, DL.o_tupo, DL.o_tupl, DL.o_tupt, DL.o_tupb, DL.o_lso, DL.o_lsl, DL.o_lst, DL.o_lss, DL.o_lsb, DL.o_all, DL.o_anyy, DL.o_sum, DL.o_sorted, DL.u_bl, DL.u_int, DL.u_non, DL.u_tup, DL.u_lst, DL.u_own, DL.u_bor, DL.x_0, DL.x_1, DL.x_2, DL.x_3, DL.x_4, DL.x_5, DL.y_tuplenon, DL.y_tuplebl, DL.y_tupleint, DL.y_tuplestr, DL.y_tupletup, DL.y_tuplelst, DL.y_listnon, DL.y_listbl, DL.y_listint, DL.y_liststr, DL.y_listtup, DL.y_listlst, DL.y_dictnon, DL.y_dictbl, DL.y_dictint, DL.y_dictstr, DL.y_dicttup, DL.y_dictlst, DL.y_strnon, DL.y_strbl, DL.y_strint, DL.y_strstr, DL.y_strtup, DL.y_strlst, DL.y_intnon, DL.y_intbl, DL.y_intint, DL.y_intstr, DL.y_inttup, DL.y_intlst, DL.y_boolnon, DL.y_boolbl, DL.y_boolint, DL.y_boolstr, DL.y_booltup, DL.y_boollst, DL.j_n1, DL.j_n2, DL.j_n3, DL.j_n4, DL.j_n5, DL.j_f1, DL.j_f2, DL.j_f3, DL.j_f4, DL.j_f5, DL.j_w1, DL.j_w2, DL.j_w3, DL.j_w4, DL.j_w5, DL.j_01, DL.j_02, DL.j_03, DL.eqD_int, DL.eqOk_int, List.getElem?_cons_zero, List.getElem?_cons_succ, List.set_cons_zero, List.set_cons_succ, List.length_cons, List.length_nil, Option.map_some, Option.map_none, true_and, eq_self]
      have ha : a ∈ ring := by rw [e]; simp
      have hb : b ∈ ring := List.mem_of_getElem? e2
      refine lt_turn h1 h2 (hp a ha) (hp b hb) op ?_
      simp only [DL.e_loc, DL.e_cst, DL.e_gc, DL.e_bin, DL.e_neg, DL.e_cmp, DL.e_chn, DL.e_and, DL.e_or, DL.e_not, DL.e_ite, DL.e_idx, DL.e_gidx, DL.e_slc, DL.e_tup, DL.e_lst, DL.e_call, DL.e_bi, DL.e_inst, DL.e_comp, DL.e_nev, DL.e_nil, DL.e_cons, DL.e_no, DL.e_yes, DL.b_val, DL.b_cmp, DL.b_chn, DL.b_and, DL.b_or, DL.b_not, DL.b_no, DL.b_one, DL.i_seq, DL.i_rng1, DL.i_rng2, DL.i_enum, DL.i_zip, DL.s_set, DL.s_setF, DL.s_asg, DL.s_par, DL.s_par3, DL.s_aug, DL.s_app, DL.s_ext, DL.s_pop, DL.s_expr, DL.s_ret, DL.s_retT, DL.s_ite, DL.s_whl, DL.s_for, DL.s_gset, DL.s_brk, DL.s_cnt, DL.s_nil, DL.s_cons, DL.s_frz, DL.t_name, DL.t_tup, DL.t_nil, DL.t_cons, DL.t_len0, DL.t_len1, DL.k_locd, DL.k_loco, DL.k_neg, DL.k_tt, DL.k_ff, DL.k_any, DL.k_lst, DL.k_int, DL.k_dat, DL.k_ty, DL.k_keep, DL.k_own, DL.k_slot, DL.k_new, DL.k_seqt, DL.k_seql, DL.k_seqs, DL.k_seqo, DL.k_enut, DL.k_enul, DL.k_enuo, DL.k_zipt, DL.k_zipl, DL.k_gix, DL.k_gst, DL.k_setd, DL.k_seto, DL.a_dd, DL.a_do, DL.a_rd, DL.a_ro, DL.a_rb, DL.a_nil, DL.a_d, DL.a_o, DL.a_l, DL.a_lo, DL.a_lb, DL.o_add, DL.o_addb, DL.o_adds, DL.o_addt, DL.o_sub, DL.o_subb, DL.o_subbb, DL.o_iadd, DL.o_iaddb, DL.o_isub, DL.o_isubb, DL.o_mul, DL.o_fdiv, DL.o_mod, DL.o_lt, DL.o_le, DL.o_gt, DL.o_ge, DL.o_eq, DL.o_ne, DL.o_isn, DL.o_notn, DL.o_isb, DL.o_notb, DL.o_idxt, DL.o_idxl, DL.o_idxo, DL.o_idxb, DL.o_slct, DL.o_slcl, DL.o_slco, DL.o_slcb, DL.o_rev, DL.o_lent, DL.o_lenl, DL.o_lens, DL.o_leno, DL.o_lenb, DL.o_lenstr, DL.o_abs, DL.o_int, DL.o_intb, DL.o_tupo, DL.o_tupl, DL.o_tupt, DL.o_tupb, DL.o_lso, DL.o_lsl, DL.o_lst, DL.o_lss, DL.o_lsb, DL.o_all, DL.o_anyy, DL.o_sum, DL.o_sorted, DL.u_bl, DL.u_int, DL.u_non, DL.u_tup, DL.u_lst, DL.u_own, DL.u_bor, DL.x_0, DL.x_1, DL.x_2, DL.x_3, DL.x_4, DL.x_5, DL.y_tuplenon, DL.y_tuplebl, DL.y_tupleint, DL.y_tuplestr, DL.y_tupletup, DL.y_tuplelst, DL.y_listnon, DL.y_listbl, DL.y_listint, DL.y_liststr, DL.y_listtup, DL.y_listlst, DL.y_dictnon, DL.y_dictbl, DL.y_dictint, DL.y_dictstr, DL.y_dicttup, DL.y_dictlst, DL.y_strnon, DL.y_strbl, DL.y_strint, DL.y_strstr, DL.y_strtup, DL.y_strlst, DL.y_intnon, DL.y_intbl, DL.y_intint, DL.y_intstr, DL.y_inttup, DL.y_intlst, DL.y_boolnon, DL.y_boolbl, DL.y_boolint, DL.y_boolstr, DL.y_booltup, DL.y_boollst, DL.j_n1, DL.j_n2, DL.j_n3, DL.j_n4, DL.j_n5, DL.j_f1, DL.j_f2, DL.j_f3, DL.j_f4, DL.j_f5, DL.j_w1, DL.j_w2, DL.j_w3, DL.j_w4, DL.j_w5, DL.j_01, DL.j_02, DL.j_03, DL.eqD_int, DL.eqOk_int, List.getElem?_cons_zero, List.getElem?_cons_succ, List.set_cons_zero, List.set_cons_succ, List.length_cons, List.length_nil, Option.map_some, Option.map_none, true_and, eq_self]
      have := ih (pre ++ [a]) (n + cross p (a, b)) (some (.d (.int (pre.length : Nat)))) (some (.d (ptD a))) (some (.d (ptD b))) (by rw [e]; simp) (fun v y z => by
        have := k v y z
        rw [e3, List.map_cons, List.sum_cons, ← Int.add_assoc] at this
        exact this)
      rw [List.length_append, List.length_singleton] at this
      exact this
  have outer : ∀ (suf pre : List (List Pt)) (n : Int) (x v y z : Option SV), rs = pre ++ suf → n = wind pre p →
      forK S (.name 3) (clt_3 k1 k2) (suf.map ringD) (Rn S clt_9 (R0 Q E)) [some (.d (ringsD rs)), some (.d (ptD p)), some (.d (.int n)), x, v, y, z] G := by
    intro suf
    induction suf with
    | nil =>
      intro pre n x v y z e en
      simp only [List.map_nil, f_nil, clt_9, DL.e_loc, DL.e_cst, DL.e_gc, DL.e_bin, DL.e_neg, DL.e_cmp, DL.e_chn, DL.e_and, DL.e_or, DL.e_not, DL.e_ite, DL.e_idx, DL.e_gidx, DL.e_slc, DL.e_tup, DL.e_lst, DL.e_call, DL.e_bi, DL.e_inst, DL.e_comp, DL.e_nev, DL.e_nil, DL.e_cons, DL.e_no, DL.e_yes, DL.b_val, DL.b_cmp, DL.b_chn, DL.b_and, DL.b_or, DL.b_not, DL.b_no, DL.b_one, DL.i_seq, DL.i_rng1, DL.i_rng2, DL.i_enum, DL.i_zip, DL.s_set, DL.s_setF, DL.s_asg, DL.s_par, DL.s_par3, DL.s_aug, DL.s_app, DL.s_ext, DL.s_pop, DL.s_expr, DL.s_ret, DL.s_retT, DL.s_ite, DL.s_whl, DL.s_for, DL.s_gset, DL.s_brk, DL.s_cnt, DL.s_nil, DL.s_cons, DL.s_frz, DL.t_name, DL.t_tup, DL.t_nil, DL.t_cons, DL.t_len0, DL.t_len1, DL.k_locd, DL.k_loco, DL.k_neg, DL.k_tt, DL.k_ff, DL.k_any, DL.k_lst, DL.k_int, DL.k_dat, DL.k_ty, DL.k_keep, DL.k_own, DL.k_slot, DL.k_new, DL.k_seqt, DL.k_seql, DL.k_seqs, DL.k_seqo, DL.k_enut, DL.k_enul, DL.k_enuo, DL.k_zipt, DL.k_zipl, DL.k_gix, DL.k_gst, DL.k_setd, DL.k_seto, DL.a_dd, DL.a_do, DL.a_rd, DL.a_ro, DL.a_rb, DL.a_nil, DL.a_d, DL.a_o, DL.a_l, DL.a_lo, DL.a_lb, DL.o_add, DL.o_addb, DL.o_adds, DL.o_addt, DL.o_sub, DL.o_subb, DL.o_subbb, DL.o_iadd, DL.o_iaddb, DL.o_isub, DL.o_isubb, DL.o_mul, DL.o_fdiv, DL.o_mod, DL.o_lt, DL.o_le, DL.o_gt, DL.o_ge, DL.o_eq, DL.o_ne, DL.o_isn, DL.o_notn, DL.o_isb, DL.o_notb, DL.o_idxt, DL.o_idxl, DL.o_idxo, DL.o_idxb, DL.o_slct, DL.o_slcl, DL.o_slco, DL.o_slcb, DL.o_rev, DL.o_lent, DL.o_lenl, DL.o_lens, DL.o_leno, DL.o_lenb, DL.o_lenstr, DL.o_abs, DL.o_int, DL.o_intb, DL.o_tupo, DL.o_tupl, DL.o_tupt, DL.o_tupb, DL.o_lso, DL.o_lsl, DL.o_lst, DL.o_lss, DL.o_lsb, DL.o_all, DL.o_anyy, DL.o_sum, DL.o_sorted, DL.u_bl, DL.u_int, DL.u_non, DL.u_tup, DL.u_lst, DL.u_own, DL.u_bor, DL.x_0, DL.x_1, DL.x_2, DL.x_3, DL.x_4, DL.x_5, DL.y_tuplenon, DL.y_tuplebl, DL.y_tupleint, DL.y_tuplestr, DL.y_tupletup, DL.y_tuplelst, DL.y_listnon, DL.y_listbl, DL.y_listint, DL.y_liststr, DL.y_listtup, DL.y_listlst, DL.y_dictnon, DL.y_dictbl, DL.y_dictint, DL.y_dictstr, DL.y_dicttup, DL.y_dictlst, DL.y_strnon, DL.y_strbl, DL.y_strint, DL.y_strstr, DL.y_strtup, DL.y_strlst, DL.y_intnon, DL.y_intbl, DL.y_intint, DL.y_intstr, DL.y_inttup, DL.y_intlst, DL.y_boolnon, DL.y_boolbl, DL.y_boolint, DL.y_boolstr, DL.y_booltup, DL.y_boollst, DL.j_n1, DL.j_n2, DL.j_n3, DL.j_n4, DL.j_n5, DL.j_f1, DL.j_f2, DL.j_f3, DL.j_f4, DL.j_f5, DL.j_w1, DL.j_w2, DL.j_w3, DL.j_w4, DL.j_w5, DL.j_01, DL.j_02, DL.j_03, DL.eqD_int, DL.eqOk_int, List.getElem?_cons_zero, List.getElem?_cons_succ, List.set_cons_zero, List.set_cons_succ, List.length_cons, List.length_nil, Option.map_some, Option.map_none, true_and, eq_self]
      rw [e, List.append_nil, ← en] at h
      exact h
    | cons r suf ih =>
      intro pre n x v y z e en
      have hr := ors.2 r (by rw [e]; simp)
      simp only [List.map_cons, f_cons, clt_3, DL.e_loc, DL.e_cst, DL.e_gc, DL.e_bin, DL.e_neg, DL.e_cmp, DL.e_chn, DL.e_and, DL.e_or, DL.e_not, DL.e_ite, DL.e_idx, DL.e_gidx, DL.e_slc, DL.e_tup, DL.e_lst, DL.e_call, DL.e_bi, DL.e_inst, DL.e_comp, DL.e_nev, DL.e_nil, DL.e_cons, DL.e_no, DL.e_yes, DL.b_val, DL.b_cmp, DL.b_chn, DL.b_and, DL.b_or, DL.b_not, DL.b_no, DL.b_one, DL.i_seq, DL.i_rng1, DL.i_rng2, DL.i_enum, DL.i_zip, DL.s_set, DL.s_setF, DL.s_asg, DL.s_par, DL.s_par3, DL.s_aug, DL.s_app, DL.s_ext, DL.s_pop, DL.s_expr, DL.s_ret, DL.s_retT, DL.s_ite, DL.s_whl, DL.s_for, DL.s_gset, DL.s_brk, DL.s_cnt, DL.s_nil, DL.s_cons, DL.s_frz, DL.t_name, DL.t_tup, DL.t_nil, DL.t_cons, DL.t_len0, DL.t_len1, DL.k_locd, DL.k_loco, DL.k_neg, DL.k_tt, DL.k_ff, DL.k_any, DL.k_lst, DL.k_int, DL.k_dat, DL.k_ty, DL.k_keep, DL.k_own, DL.k_slot, DL.k_new, DL.k_seqt, DL.k_seql, DL.k_seqs, DL.k_seqo, DL.k_enut, DL.k_enul, DL.k_enuo, DL.k_zipt, DL.k_zipl, DL.k_gix, DL.k_gst, DL.k_setd, DL.k_seto, DL.a_dd, DL.a_do, DL.a_rd, DL.a_ro, DL.a_rb, DL.a_nil, DL.a_d, DL.a_o, DL.a_l, DL.a_lo, DL.a_lb, DL.o_add, DL.o_addb, DL.o_adds, DL.o_addt, DL.o_sub, DL.o_subb, DL.o_subbb, DL.o_iadd, DL.o_iaddb, DL.o_isub, DL.o_isubb, DL.o_mul, DL.o_fdiv, DL.o_mod, DL.o_lt, DL.o_le, DL.o_gt, DL.o_ge, DL.o_eq, DL.o_ne, DL.o_isn, DL.o_notn, DL.o_isb, DL.o_notb, DL.o_idxt, DL.o_idxl, DL.o_idxo, DL.o_idxb, DL.o_slct, DL.o_slcl, DL.o_slco, DL.o_slcb, DL.o_rev, DL.o_lent, DL.o_lenl, DL.o_lens, DL.o_leno, DL.o_lenb, DL.o_lenstr, DL.o_abs, DL.o_int, DL.o_intb, DL.o_tupo, DL.o_tupl, DL.o_tupt, DL.o_tupb, DL.o_lso, DL.o_lsl, DL.o_lst, DL.o_lss, DL.o_lsb, DL.o_all, DL.o_anyy, DL.o_sum, DL.o_sorted, DL.u_bl, DL.u_int, DL.u_non, DL.u_tup, DL.u_lst, DL.u_own, DL.u_bor, DL.x_0, DL.x_1, DL.x_2, DL.x_3, DL.x_4, DL.x_5, DL.y_tuplenon, DL.y_tuplebl, DL.y_tupleint, DL.y_tuplestr, DL.y_tupletup, DL.y_tuplelst, DL.y_listnon, DL.y_listbl, DL.y_listint, DL.y_liststr, DL.y_listtup, DL.y_listlst, DL.y_dictnon, DL.y_dictbl, DL.y_dictint, DL.y_dictstr, DL.y_dicttup, DL.y_dictlst, DL.y_strnon, DL.y_strbl, DL.y_strint, DL.y_strstr, DL.y_strtup, DL.y_strlst, DL.y_intnon, DL.y_intbl, DL.y_intint, DL.y_intstr, DL.y_inttup, DL.y_intlst, DL.y_boolnon, DL.y_boolbl, DL.y_boolint, DL.y_boolstr, DL.y_booltup, DL.y_boollst, DL.j_n1, DL.j_n2, DL.j_n3, DL.j_n4, DL.j_n5, DL.j_f1, DL.j_f2, DL.j_f3, DL.j_f4, DL.j_f5, DL.j_w1, DL.j_w2, DL.j_w3, DL.j_w4, DL.j_w5, DL.j_01, DL.j_02, DL.j_03, DL.eqD_int, DL.eqOk_int, List.getElem?_cons_zero, List.getElem?_cons_succ, List.set_cons_zero, List.set_cons_succ, List.length_cons, List.length_nil, Option.map_some, Option.map_none, true_and, eq_self, o_lenr]
      refine ⟨by omega, by omega, ?_⟩
      have : ((r.length : Nat) : Int).toNat = r.length := by omega
      rw [this]
      refine inner _ r hr.1 hr.2 r [] n v y z rfl fun v y z => ?_
      refine ih (pre ++ [r]) _ _ _ _ _ (by rw [e]; simp) ?_
      rw [sufP_self, en]
      unfold wind
      rw [List.flatMap_append, List.map_append, List.sum_append]
      simp
  exact outer rs [] 0 none none none none (by simp) (by simp [wind])
/-- has, as the laws tell it -/
def outB (c : List (List Pt) × Str) (p : Pt) : Prop := wind c.1 p = 0 ∨ (c.2 = "odd" ∧ (wind c.1 p).fmod 2 = 0)
theorem outB_iff {c : List (List Pt) × Str} {p : Pt} (h : RuleOk c.2) : outB c p ↔ isIn c.1 c.2 p = false := by
  unfold outB isIn
  rcases h with e | e
  · rw [e, if_pos rfl]
    have : ¬ (("whole" : Str) = "odd") := by decide +kernel
    simp [this]
  · have : ¬ (("odd" : Str) = "whole") := by decide +kernel
    rw [e, if_neg this]
    have h1 : 0 ≤ (wind c.1 p).fmod 2 := Int.fmod_nonneg_of_pos _ (by decide)
    have h2 : (wind c.1 p).fmod 2 < 2 := Int.fmod_lt_of_pos _ (by decide)
    simp only [true_and, decide_eq_false_iff_not]
    constructor
    · rintro (z | z)
      · rw [z]; decide
      · omega
    · intro z
      right; omega
def clh_5 : CSs := .cons (.ret (.cst (.bl true))) .nil
def clh_4 : CSs := .cons (.ret (.cst (.bl false))) .nil
def clh_3 : CSs := .cons (.ite (.or (.cmp .eq (.loc 4) (.cst (.int 0))) (.and (.cmp .eq (.loc 3) (.cst (.str "odd"))) (.cmp .eq (.bin .mod (.loc 4) (.cst (.int 2))) (.cst (.int 0))))) clh_4 .nil) .nil
def clh_2 (k1 : Nat) : CSs := .cons (.setF 4 (.call k1 (.cons (.loc 2) (.cons (.loc 1) .nil)))) clh_3
def clh_1 (k1 : Nat) : CSs := .cons (.for (.tup (.cons (.name 2) (.cons (.name 3) .nil))) (.seq (.bin .addP (.tup (.cons (.tup (.cons (.idx .any (.loc 0) (.cst (.int 0))) (.cons (.idx .any (.loc 0) (.cst (.int 1))) .nil))) .nil)) (.idx .any (.loc 0) (.cst (.int 2))))) (clh_2 k1)) clh_5
theorem run_lhas (hN : N.length = 5) (h1 : S.sp k1 = Tturns) : ∀ ds G Q E, Thas ds G Q E → runB S N (clh_1 k1) ds G Q E := by
  rintro ds G Q E ⟨a, p, rfl, oa, op, h⟩
  simp only [run_eq, startL, hN, clh_1, DL.e_loc, DL.e_cst, DL.e_gc, DL.e_bin, DL.e_neg, DL.e_cmp, DL.e_chn, DL.e_and, DL.e_or, DL.e_not, DL.e_ite, DL.e_idx, DL.e_gidx, DL.e_slc, DL.e_tup, DL.e_lst, DL.e_call, DL.e_bi, DL.e_inst, DL.e_comp, DL.e_nev, DL.e_nil, DL.e_cons, DL.e_no, DL.e_yes, DL.b_val, DL.b_cmp, DL.b_chn, DL.b_and, DL.b_or, DL.b_not, DL.b_no, DL.b_one, DL.i_seq, DL.i_rng1, DL.i_rng2, DL.i_enum, DL.i_zip, DL.s_set, DL.s_setF, DL.s_asg, DL.s_par, DL.s_par3, DL.s_aug, DL.s_app, DL.s_ext, DL.s_pop, DL.s_expr, DL.s_ret, DL.s_retT, DL.s_ite, DL.s_whl, DL.s_for, DL.s_gset, DL.s_brk, DL.s_cnt, DL.s_nil, DL.s_cons, DL.s_frz, DL.t_name, DL.t_tup, DL.t_nil, DL.t_cons, DL.t_len0, DL.t_len1, DL.k_locd, DL.k_loco, DL.k_neg, DL.k_tt, DL.k_ff, DL.k_any, DL.k_lst, DL.k_int, DL.k_dat, DL.k_ty, DL.k_keep, DL.k_own, DL.k_slot, DL.k_new, DL.k_seqt, DL.k_seql, DL.k_seqs, DL.k_seqo, DL.k_enut, DL.k_enul, DL.k_enuo, DL.k_zipt, DL.k_zipl, DL.k_gix, DL.k_gst, DL.k_setd, DL.k_seto, DL.a_dd, DL.a_do, DL.a_rd, DL.a_ro, DL.a_rb, DL.a_nil, DL.a_d, DL.a_o, DL.a_l, DL.a_lo, DL.a_lb, DL.o_add, DL.o_addb, DL.o_adds, DL.o_addt, DL.o_sub, DL.o_subb, DL.o_subbb, DL.o_iadd, DL.o_iaddb, DL.o_isub, DL.o_isubb, DL.o_mul, DL.o_fdiv, DL.o_mod, DL.o_lt, DL.o_le, DL.o_gt, DL.o_ge, DL.o_eq, DL.o_ne, DL.o_isn, DL.o_notn, DL.o_isb, DL.o_notb, DL.o_idxt, DL.o_idxl, DL.o_idxo, DL.o_idxb, DL.o_slct, DL.o_slcl, DL.o_slco, DL.o_slcb, DL.o_rev, DL.o_lent, DL.o_lenl, DL.o_lens, DL.o_leno, DL.o_lenb, DL.o_lenstr, DL.o_abs, DL.o_int, DL.o_intb, DL.o_tupo, DL.o_tupl, DL.o_tupt, DL.o_tupb, DL.o_lso, DL.o_lsl, DL.o_lst, DL.o_lss, DL.o_lsb, DL.o_all, DL.o_anyy, DL.o_sum, DL.o_sorted, DL.u_bl, DL.u_int, DL.u_non, DL.u_tup, DL.u_lst, DL.u_own, DL.u_bor, DL.x_0, DL.x_1, DL.x_2, DL.x_3, DL.x_4, DL.x_5, DL.y_tuplenon, DL.y_tuplebl, DL.y_tupleint, DL.y_tuplestr, DL.y_tupletup, DL.y_tuplelst, DL.y_listnon, DL.y_listbl, DL.y_listint, DL.y_liststr, DL.y_listtup, DL.y_listlst, DL.y_dictnon, DL.y_dictbl, DL.y_dictint, DL.y_dictstr, DL.y_dicttup, DL.y_dictlst, DL.y_strnon, DL.y_strbl, DL.y_strint, DL.y_strstr, DL.y_strtup, DL.y_strlst, DL.y_intnon, DL.y_intbl, DL.y_intint, DL.y_intstr, DL.y_inttup, DL.y_intlst, DL.y_boolnon, DL.y_boolbl, DL.y_boolint, DL.y_boolstr, DL.y_booltup, DL.y_boollst, DL.j_n1, DL.j_n2, DL.j_n3, DL.j_n4, DL.j_n5, DL.j_f1, DL.j_f2, DL.j_f3, DL.j_f4, DL.j_f5, DL.j_w1, DL.j_w2, DL.j_w3, DL.j_w4, DL.j_w5, DL.j_01, DL.j_02, DL.j_03, DL.eqD_int, DL.eqOk_int, List.getElem?_cons_zero, List.getElem?_cons_succ, List.set_cons_zero, List.set_cons_succ, List.length_cons, List.length_nil, Option.map_some, Option.map_none, true_and, eq_self, List.map_cons, List.map_nil, Nat.reduceAdd, Nat.reduceSub, List.replicate_succ, List.replicate_zero, List.append_nil, List.cons_append, List.nil_append, x_ar0, x_ar1, x_ar2]
  refine ⟨by decide, Nat.le_of_ble_eq_true rfl, ?_, ?_⟩
  · rw [List.length_map, sizeLine_eq]
    have := oa.2.2.1
    omega
  have ee : D.tup [ringsD a.rings, .str a.rule] :: a.clips.map kindD = ((a.rings, a.rule) :: a.clips).map kindD := rfl
  rw [ee]
  have hh : hasA a p = ((a.rings, a.rule) :: a.clips).all fun c => isIn c.1 c.2 p := by rw [List.all_cons]; rfl
  rw [hh] at h
  have key : ∀ (cs : List (List (List Pt) × Str)) (x y z : Option SV), (∀ c ∈ cs, RgOk 100 c.1 ∧ RuleOk c.2) → (∀ b, b = (cs.all fun c => isIn c.1 c.2 p) → Q (.bl b) G) →
      forK S (.tup (.cons (.name 2) (.cons (.name 3) .nil))) (clh_2 k1) (cs.map kindD) (Rn S clh_5 (R0 Q E)) [some (.d (areaD a)), some (.d (ptD p)), x, y, z] G := by
    intro cs
    induction cs with
    | nil =>
      intro x y z _ k
      simp only [List.map_nil, f_nil, clh_5, DL.e_loc, DL.e_cst, DL.e_gc, DL.e_bin, DL.e_neg, DL.e_cmp, DL.e_chn, DL.e_and, DL.e_or, DL.e_not, DL.e_ite, DL.e_idx, DL.e_gidx, DL.e_slc, DL.e_tup, DL.e_lst, DL.e_call, DL.e_bi, DL.e_inst, DL.e_comp, DL.e_nev, DL.e_nil, DL.e_cons, DL.e_no, DL.e_yes, DL.b_val, DL.b_cmp, DL.b_chn, DL.b_and, DL.b_or, DL.b_not, DL.b_no, DL.b_one, DL.i_seq, DL.i_rng1, DL.i_rng2, DL.i_enum, DL.i_zip, DL.s_set, DL.s_setF, DL.s_asg, DL.s_par, DL.s_par3, DL.s_aug, DL.s_app, DL.s_ext, DL.s_pop, DL.s_expr, DL.s_ret, DL.s_retT, DL.s_ite, DL.s_whl, DL.s_for, DL.s_gset, DL.s_brk, DL.s_cnt, DL.s_nil, DL.s_cons, DL.s_frz, DL.t_name, DL.t_tup, DL.t_nil, DL.t_cons, DL.t_len0, DL.t_len1, DL.k_locd, DL.k_loco, DL.k_neg, DL.k_tt, DL.k_ff, DL.k_any, DL.k_lst, DL.k_int, DL.k_dat, DL.k_ty, DL.k_keep, DL.k_own, DL.k_slot, DL.k_new, DL.k_seqt, DL.k_seql, DL.k_seqs, DL.k_seqo, DL.k_enut, DL.k_enul, DL.k_enuo, DL.k_zipt, DL.k_zipl, DL.k_gix, DL.k_gst, DL.k_setd, DL.k_seto, DL.a_dd, DL.a_do, DL.a_rd, DL.a_ro, DL.a_rb, DL.a_nil, DL.a_d, DL.a_o, DL.a_l, DL.a_lo, DL.a_lb, DL.o_add, DL.o_addb, DL.o_adds, DL.o_addt, DL.o_sub, DL.o_subb, DL.o_subbb, DL.o_iadd, DL.o_iaddb, DL.o_isub, DL.o_isubb, DL.o_mul, DL.o_fdiv, DL.o_mod, DL.o_lt, DL.o_le, DL.o_gt, DL.o_ge, DL.o_eq, DL.o_ne, DL.o_isn, DL.o_notn, DL.o_isb, DL.o_notb, DL.o_idxt, DL.o_idxl, DL.o_idxo, DL.o_idxb, DL.o_slct, DL.o_slcl, DL.o_slco, DL.o_slcb, DL.o_rev, DL.o_lent, DL.o_lenl, DL.o_lens, DL.o_leno, DL.o_lenb, DL.o_lenstr, DL.o_abs, DL.o_int, DL.o_intb, DL.o_tupo, DL.o_tupl, DL.o_tupt, DL.o_tupb, DL.o_lso, DL.o_lsl, DL.o_lst, DL.o_lss, DL.o_lsb, DL.o_all, DL.o_anyy, DL.o_sum, DL.o_sorted, DL.u_bl, DL.u_int, DL.u_non, DL.u_tup, DL.u_lst, DL.u_own, DL.u_bor, DL.x_0, DL.x_1, DL.x_2, DL.x_3, DL.x_4, DL.x_5, DL.y_tuplenon, DL.y_tuplebl, DL.y_tupleint, DL.y_tuplestr, DL.y_tupletup, DL.y_tuplelst, DL.y_listnon, DL.y_listbl, DL.y_listint, DL.y_liststr, DL.y_listtup, DL.y_listlst, DL.y_dictnon, DL.y_dictbl, DL.y_dictint, DL.y_dictstr, DL.y_dicttup, DL.y_dictlst, DL.y_strnon, DL.y_strbl, DL.y_strint, DL.y_strstr, DL.y_strtup, DL.y_strlst, DL.y_intnon, DL.y_intbl, DL.y_intint, DL.y_intstr, DL.y_inttup, DL.y_intlst, DL.y_boolnon, DL.y_boolbl, DL.y_boolint, DL.y_boolstr, DL.y_booltup, DL.y_boollst, DL.j_n1, DL.j_n2, DL.j_n3, DL.j_n4, DL.j_n5, DL.j_f1, DL.j_f2, DL.j_f3, DL.j_f4, DL.j_f5, DL.j_w1, DL.j_w2, DL.j_w3, DL.j_w4, DL.j_w5, DL.j_01, DL.j_02, DL.j_03, DL.eqD_int, DL.eqOk_int, List.getElem?_cons_zero, List.getElem?_cons_succ, List.set_cons_zero, List.set_cons_succ, List.length_cons, List.length_nil, Option.map_some, Option.map_none, true_and, eq_self]
      exact k true rfl
    | cons c cs ih =>
      intro x y z hc k
      obtain ⟨o1, o2⟩ := hc c List.mem_cons_self
      simp only [List.map_cons, f_cons, t_kind, clh_2, DL.e_loc, DL.e_cst, DL.e_gc, DL.e_bin, DL.e_neg, DL.e_cmp, DL.e_chn, DL.e_and, DL.e_or, DL.e_not, DL.e_ite, DL.e_idx, DL.e_gidx, DL.e_slc, DL.e_tup, DL.e_lst, DL.e_call, DL.e_bi, DL.e_inst, DL.e_comp, DL.e_nev, DL.e_nil, DL.e_cons, DL.e_no, DL.e_yes, DL.b_val, DL.b_cmp, DL.b_chn, DL.b_and, DL.b_or, DL.b_not, DL.b_no, DL.b_one, DL.i_seq, DL.i_rng1, DL.i_rng2, DL.i_enum, DL.i_zip, DL.s_set, DL.s_setF, DL.s_asg, DL.s_par, DL.s_par3, DL.s_aug, DL.s_app, DL.s_ext, DL.s_pop, DL.s_expr, DL.s_ret, DL.s_retT, DL.s_ite, DL.s_whl, DL.s_for, DL.s_gset, DL.s_brk, DL.s_cnt, DL.s_nil, DL.s_cons, DL.s_frz, DL.t_name, DL.t_tup, DL.t_nil, DL.t_cons, DL.t_len0, DL.t_len1, DL.k_locd, DL.k_loco, DL.k_neg, DL.k_tt, DL.k_ff, DL.k_any, DL.k_lst, DL.k_int, DL.k_dat, DL.k_ty, DL.k_keep, DL.k_own, DL.k_slot, DL.k_new, DL.k_seqt, DL.k_seql, DL.k_seqs, DL.k_seqo, DL.k_enut, DL.k_enul, DL.k_enuo, DL.k_zipt, DL.k_zipl, DL.k_gix, DL.k_gst, DL.k_setd, DL.k_seto, DL.a_dd, DL.a_do, DL.a_rd, DL.a_ro, DL.a_rb, DL.a_nil, DL.a_d, DL.a_o, DL.a_l, DL.a_lo, DL.a_lb, DL.o_add, DL.o_addb, DL.o_adds, DL.o_addt, DL.o_sub, DL.o_subb, DL.o_subbb, DL.o_iadd, DL.o_iaddb, DL.o_isub, DL.o_isubb, DL.o_mul, DL.o_fdiv, DL.o_mod, DL.o_lt, DL.o_le, DL.o_gt, DL.o_ge, DL.o_eq, DL.o_ne, DL.o_isn, DL.o_notn, DL.o_isb, DL.o_notb, DL.o_idxt, DL.o_idxl, DL.o_idxo, DL.o_idxb, DL.o_slct, DL.o_slcl, DL.o_slco, DL.o_slcb, DL.o_rev, DL.o_lent, DL.o_lenl, DL.o_lens, DL.o_leno, DL.o_lenb, DL.o_lenstr, DL.o_abs, DL.o_int, DL.o_intb, DL.o_tupo, DL.o_tupl, DL.o_tupt, DL.o_tupb, DL.o_lso, DL.o_lsl, DL.o_lst, DL.o_lss, DL.o_lsb, DL.o_all, DL.o_anyy, DL.o_sum, DL.o_sorted, DL.u_bl, DL.u_int, DL.u_non, DL.u_tup, DL.u_lst, DL.u_own, DL.u_bor, DL.x_0, DL.x_1, DL.x_2, DL.x_3, DL.x_4, DL.x_5, DL.y_tuplenon, DL.y_tuplebl, DL.y_tupleint, DL.y_tuplestr, DL.y_tupletup, DL.y_tuplelst, DL.y_listnon, DL.y_listbl, DL.y_listint, DL.y_liststr, DL.y_listtup, DL.y_listlst, DL.y_dictnon, DL.y_dictbl, DL.y_dictint, DL.y_dictstr, DL.y_dicttup, DL.y_dictlst, DL.y_strnon, DL.y_strbl, DL.y_strint, DL.y_strstr, DL.y_strtup, DL.y_strlst, DL.y_intnon, DL.y_intbl, DL.y_intint, DL.y_intstr, DL.y_inttup, DL.y_intlst, DL.y_boolnon, DL.y_boolbl, DL.y_boolint, DL.y_boolstr, DL.y_booltup, DL.y_boollst, DL.j_n1, DL.j_n2, DL.j_n3, DL.j_n4, DL.j_n5, DL.j_f1, DL.j_f2, DL.j_f3, DL.j_f4, DL.j_f5, DL.j_w1, DL.j_w2, DL.j_w3, DL.j_w4, DL.j_w5, DL.j_01, DL.j_02, DL.j_03, DL.eqD_int, DL.eqOk_int, List.getElem?_cons_zero, List.getElem?_cons_succ, List.set_cons_zero, List.set_cons_succ, List.length_cons, List.length_nil, Option.map_some, Option.map_none, true_and, eq_self, h1]
      refine ⟨c.1, p, rfl, o1, op, ?_⟩
      simp only [clh_3, clh_4, DL.e_loc, DL.e_cst, DL.e_gc, DL.e_bin, DL.e_neg, DL.e_cmp, DL.e_chn, DL.e_and, DL.e_or, DL.e_not, DL.e_ite, DL.e_idx, DL.e_gidx, DL.e_slc, DL.e_tup, DL.e_lst, DL.e_call, DL.e_bi, DL.e_inst, DL.e_comp, DL.e_nev, DL.e_nil, DL.e_cons, DL.e_no, DL.e_yes, DL.b_val, DL.b_cmp, DL.b_chn, DL.b_and, DL.b_or, DL.b_not, DL.b_no, DL.b_one, DL.i_seq, DL.i_rng1, DL.i_rng2, DL.i_enum, DL.i_zip, DL.s_set, DL.s_setF, DL.s_asg, DL.s_par, DL.s_par3, DL.s_aug, DL.s_app, DL.s_ext, DL.s_pop, DL.s_expr, DL.s_ret, DL.s_retT, DL.s_ite, DL.s_whl, DL.s_for, DL.s_gset, DL.s_brk, DL.s_cnt, DL.s_nil, DL.s_cons, DL.s_frz, DL.t_name, DL.t_tup, DL.t_nil, DL.t_cons, DL.t_len0, DL.t_len1, DL.k_locd, DL.k_loco, DL.k_neg, DL.k_tt, DL.k_ff, DL.k_any, DL.k_lst, DL.k_int, DL.k_dat, DL.k_ty, DL.k_keep, DL.k_own, DL.k_slot, DL.k_new, DL.k_seqt, DL.k_seql, DL.k_seqs, DL.k_seqo, DL.k_enut, DL.k_enul, DL.k_enuo, DL.k_zipt, DL.k_zipl, DL.k_gix, DL.k_gst, DL.k_setd, DL.k_seto, DL.a_dd, DL.a_do, DL.a_rd, DL.a_ro, DL.a_rb, DL.a_nil, DL.a_d, DL.a_o, DL.a_l, DL.a_lo, DL.a_lb, DL.o_add, DL.o_addb, DL.o_adds, DL.o_addt, DL.o_sub, DL.o_subb, DL.o_subbb, DL.o_iadd, DL.o_iaddb, DL.o_isub, DL.o_isubb, DL.o_mul, DL.o_fdiv, DL.o_mod, DL.o_lt, DL.o_le, DL.o_gt, DL.o_ge, DL.o_eq, DL.o_ne, DL.o_isn, DL.o_notn, DL.o_isb, DL.o_notb, DL.o_idxt, DL.o_idxl, DL.o_idxo, DL.o_idxb, DL.o_slct, DL.o_slcl, DL.o_slco, DL.o_slcb, DL.o_rev, DL.o_lent, DL.o_lenl, DL.o_lens, DL.o_leno, DL.o_lenb, DL.o_lenstr, DL.o_abs, DL.o_int, DL.o_intb, DL.o_tupo, DL.o_tupl, DL.o_tupt, DL.o_tupb, DL.o_lso, DL.o_lsl, DL.o_lst, DL.o_lss, DL.o_lsb, DL.o_all, DL.o_anyy, DL.o_sum, DL.o_sorted, DL.u_bl, DL.u_int, DL.u_non, DL.u_tup, DL.u_lst, DL.u_own, DL.u_bor, DL.x_0, DL.x_1, DL.x_2, DL.x_3, DL.x_4, DL.x_5, DL.y_tuplenon, DL.y_tuplebl, DL.y_tupleint, DL.y_tuplestr, DL.y_tupletup, DL.y_tuplelst, DL.y_listnon, DL.y_listbl, DL.y_listint, DL.y_liststr, DL.y_listtup, DL.y_listlst, DL.y_dictnon, DL.y_dictbl, DL.y_dictint, DL.y_dictstr, DL.y_dicttup, DL.y_dictlst, DL.y_strnon, DL.y_strbl, DL.y_strint, DL.y_strstr, DL.y_strtup, DL.y_strlst, DL.y_intnon, DL.y_intbl, DL.y_intint, DL.y_intstr, DL.y_inttup, DL.y_intlst, DL.y_boolnon, DL.y_boolbl, DL.y_boolint, DL.y_boolstr, DL.y_booltup, DL.y_boollst, DL.j_n1, DL.j_n2, DL.j_n3, DL.j_n4, DL.j_n5, DL.j_f1, DL.j_f2, DL.j_f3, DL.j_f4, DL.j_f5, DL.j_w1, DL.j_w2, DL.j_w3, DL.j_w4, DL.j_w5, DL.j_01, DL.j_02, DL.j_03, DL.eqD_int, DL.eqOk_int, List.getElem?_cons_zero, List.getElem?_cons_succ, List.set_cons_zero, List.set_cons_succ, List.length_cons, List.length_nil, Option.map_some, Option.map_none, true_and, eq_self, eqD_str]
      have out : outB c p → Q (.bl false) G := fun z => k false (by rw [List.all_cons, (outB_iff o2).mp z]; rfl)
      have inn : ¬ outB c p → forK S (.tup (.cons (.name 2) (.cons (.name 3) .nil))) (clh_2 k1) (cs.map kindD) (Rn S clh_5 (R0 Q E)) [some (.d (areaD a)), some (.d (ptD p)), some (.d (ringsD c.1)), some (.d (.str c.2)), some (.d (.int (wind c.1 p)))] G := fun z => by
        refine ih _ _ _ (fun c h => hc c (List.mem_cons_of_mem _ h)) fun b hb => k b ?_
        rw [List.all_cons, hb]
        have : isIn c.1 c.2 p = true := by
          cases q : isIn c.1 c.2 p with
          | true => rfl
          | false => exact absurd ((outB_iff o2).mpr q) z
        rw [this, Bool.true_and]
      refine iteK_of (fun e => ?_) (fun e => ?_)
      · exact out (.inl (of_decide_eq_true e))
      · have e0 : ¬ wind c.1 p = 0 := of_decide_eq_false e
        refine ⟨eqOk_str o2.ok, eqOk_str (by decide +kernel), iteK_of (fun e1 => ?_) (fun e1 => ?_)⟩
        · refine ⟨by decide, iteK_of (fun e2 => ?_) (fun e2 => ?_)⟩
          · exact out (.inr ⟨of_decide_eq_true e1, of_decide_eq_true e2⟩)
          · refine inn fun z => ?_
            rcases z with z | z
            · exact e0 z
            · exact (of_decide_eq_false e2) z.2
        · refine inn fun z => ?_
          rcases z with z | z
          · exact e0 z
          · exact (of_decide_eq_false e1) z.1
  exact key _ none none none (fun c hc => by
    rcases List.mem_cons.mp hc with e | e
    · subst e; exact ⟨oa.1, oa.2.1⟩
    · exact oa.2.2.2 c e) fun b hb => by rw [hb]; exact h
end
end DC
namespace DC
open PySem DL
theorem cross_anti (p a b : Pt) : cross p (b, a) = -cross p (a, b) := by
  have hs : sideR b a p = -sideR a b p := by unfold sideR; grind
  unfold cross
  simp only [hs]
  by_cases h1 : p.2 < a.2 <;> by_cases h2 : p.2 < b.2 <;> simp [h1, h2]
  · by_cases h3 : sideR a b p < 0
    · have : 0 < -sideR a b p := by grind
      simp [h3, this]
    · have : ¬ 0 < -sideR a b p := by grind
      simp [h3, this]
  · by_cases h3 : 0 < sideR a b p
    · have : -sideR a b p < 0 := by grind
      simp [h3, this]
    · have : ¬ -sideR a b p < 0 := by grind
      simp [h3, this]
def pathS (p : Pt) : List Pt → Int
  | a :: b :: r => cross p (a, b) + pathS p (b :: r)
  | _ => 0
def W (p : Pt) (r : List Pt) : Int := ((edgesOf r).map (cross p)).sum
theorem wind_one (r : List Pt) (p : Pt) : wind [r] p = W p r := by simp [wind, W]
theorem wind_nil (p : Pt) : wind [] p = 0 := rfl
theorem wind_cons (r : List Pt) (rs : List (List Pt)) (p : Pt) : wind (r :: rs) p = W p r + wind rs p := by simp [wind, W]
theorem path_split (p y : Pt) : ∀ (xs zs : List Pt), pathS p (xs ++ y :: zs) = pathS p (xs ++ [y]) + pathS p (y :: zs)
  | [], zs => by simp [pathS]
  | [x], zs => by simp [pathS]
  | x :: x2 :: xs, zs => by
    have := path_split p y (x2 :: xs) zs
    simp only [List.cons_append, pathS] at this ⊢
    omega
theorem edges_path (p f : Pt) : ∀ (r : List Pt), r ≠ [] → ((edgesFrom f r).map (cross p)).sum = pathS p (r ++ [f])
  | [], h => absurd rfl h
  | [a], _ => by simp [edgesFrom, pathS]
  | a :: b :: r, _ => by
    have := edges_path p f (b :: r) (by simp)
    simp only [edgesFrom, List.map_cons, List.sum_cons, List.cons_append, pathS] at this ⊢
    omega
theorem W_cons (p a : Pt) (r : List Pt) : W p (a :: r) = pathS p (a :: r ++ [a]) := edges_path p a (a :: r) (by simp)
theorem W_rot (p : Pt) (x y : List Pt) : W p (x ++ y) = W p (y ++ x) := by
  cases x with
  | nil => simp
  | cons a x =>
    cases y with
    | nil => simp
    | cons b y =>
      have g1 := W_cons p a (x ++ b :: y)
      have g2 := W_cons p b (y ++ a :: x)
      rw [List.cons_append, List.cons_append, g1, g2]
      have h1 := path_split p b (a :: x) (y ++ [a])
      have h2 := path_split p a (b :: y) (x ++ [b])
      simp only [List.cons_append, List.append_assoc] at h1 h2 ⊢
      omega
theorem path_rev (p : Pt) : ∀ r : List Pt, pathS p r.reverse = -pathS p r
  | [] => by simp [pathS]
  | [a] => by simp [pathS]
  | a :: b :: r => by
    have := path_rev p (b :: r)
    rw [List.reverse_cons] at this
    rw [List.reverse_cons, List.reverse_cons, List.append_assoc]
    have h := path_split p b r.reverse [a]
    simp only [List.cons_append, List.nil_append] at h ⊢
    rw [h, this]
    simp only [pathS]
    rw [cross_anti]
    omega
theorem W_rev (p : Pt) (r : List Pt) : W p r.reverse = -W p r := by
  cases r with
  | nil => simp [W, edgesOf]
  | cons a r =>
    rw [List.reverse_cons, W_rot, W_cons]
    simp only [List.cons_append, List.nil_append]
    rw [W_cons]
    have := path_rev p (a :: r ++ [a])
    rw [List.reverse_append, List.reverse_cons] at this
    simpa using this
theorem wind_rev (p : Pt) : ∀ rs : List (List Pt), wind (rs.map List.reverse) p = -wind rs p
  | [] => by simp [wind]
  | r :: rs => by
    rw [List.map_cons, wind_cons, wind_cons, W_rev, wind_rev p rs]
    omega
/-- a ring cut in two -/
theorem W_cut (p : Pt) (r : List Pt) (n : Nat) (h1 : 1 ≤ n) (h2 : n < r.length) : W p (r.take (n + 1)) + W p (r.drop n ++ r.take 1) = W p r := by
  cases r with
  | nil => simp at h2
  | cons a r =>
    obtain ⟨n, rfl⟩ : ∃ m, n = m + 1 := ⟨n - 1, by omega⟩
    have hn : n < r.length := by simpa using h2
    have ed : r.drop n = r[n] :: r.drop (n + 1) := List.drop_eq_getElem_cons hn
    have et : r.take (n + 1) = r.take n ++ [r[n]] := by rw [List.take_append_getElem]
    have er : r = r.take n ++ (r[n] :: r.drop (n + 1)) := by rw [← ed, List.take_append_drop]
    generalize hx : r.take n = x at *
    generalize hb : r[n] = b at *
    generalize hy : r.drop (n + 1) = y at *
    have e1 : (a :: r).take (n + 1 + 1) = a :: x ++ [b] := by rw [List.take_succ_cons, et]; rfl
    have e2 : (a :: r).drop (n + 1) = b :: y := by rw [List.drop_succ_cons, ed]
    have e3 : (a :: r).take 1 = [a] := rfl
    rw [e1, e2, e3]
    have hr : W p (a :: r) = pathS p (a :: x ++ (b :: y) ++ [a]) := by rw [er, W_cons]; simp
    rw [hr]
    simp only [List.cons_append]
    rw [W_cons, W_cons]
    have h1 := path_split p b (a :: x) [a]
    have h2 := path_split p a (b :: y) [b]
    have h3 := path_split p b (a :: x) (y ++ [a])
    have h4 := cross_anti p a b
    simp only [List.cons_append, List.append_assoc, List.nil_append, pathS] at h1 h2 h3 ⊢
    omega
theorem comp_draw {S : Sg} {t : CT} {e : CE} {L0 : DL.Loc} {G : Gh} {Q : List D → Gh → Prop} (P : D → Prop) (h : ∀ (d : D) (k : EV → Gh → Prop), (∀ y, P y → k (.d y) G) → bindT t d L0 fun L1 => wpE S e noE L1 G k) :
    ∀ (items acc : List D), (∀ ys : List D, ys.length = items.length → (∀ y ∈ ys, P y) → Q (acc ++ ys) G) → compK S t .no e L0 items acc G Q := by
  intro items
  induction items with
  | nil =>
    intro acc k
    rw [c_nil]
    simpa using k [] rfl (by simp)
  | cons d items ih =>
    intro acc k
    simp only [c_cons, b_no, k_tt]
    refine h d _ fun y hy => ?_
    simp only [a_dd, k_any]
    refine ih (acc ++ [y]) fun ys e1 e2 => ?_
    have := k (y :: ys) (by simp [e1]) (by
      intro z hz
      rcases List.mem_cons.mp hz with e | e
      · rw [e]; exact hy
      · exact e2 z e)
    simpa using this
theorem exists_map {α : Type} {f : α → D} {P : α → Prop} : ∀ (ys : List D), (∀ y ∈ ys, ∃ x, P x ∧ y = f x) → ∃ xs : List α, ys = xs.map f ∧ ∀ x ∈ xs, P x
  | [], _ => ⟨[], rfl, by simp⟩
  | y :: ys, h => by
    obtain ⟨x, hx, e⟩ := h y List.mem_cons_self
    obtain ⟨xs, e2, hxs⟩ := exists_map ys fun y hy => h y (List.mem_cons_of_mem _ hy)
    refine ⟨x :: xs, by rw [e, e2]; rfl, fun z hz => ?_⟩
    rcases List.mem_cons.mp hz with e | e
    · rw [e]; exact hx
    · exact hxs z e
theorem rng_len (lo : Int) (n : Nat) : (rngD lo n).length = n := rngD_length n lo
theorem nf_int (i : Int) : nfD (i : Rat) = .tup [.int i, .int 1] := rfl
theorem Tdraw_of {a : Addr} {many : Int} {G : Gh} {Q : D → Gh → Prop} {E : DX → Gh → Prop} (h1 : 1 ≤ many) (h2 : many ≤ 65536) (ga : G a = some .strm) (h : ∀ r, 0 ≤ r → r < many → Q (.int r) G) : Tdraw [.ref a, .int many] G Q E := ⟨a, many, rfl, h1, h2, ga, h⟩
theorem Tsame_eq {n : Nat} {x y : D} {G : Gh} {Q : D → Gh → Prop} {E : DX → Gh → Prop} (e : x = y) (h1 : pd n x = true) (h : Q (.bl true) G) : Tsame n [x, y] G Q E := by
  subst e
  exact ⟨x, x, rfl, h1, h1, fun b hb => by rw [hb.mpr rfl]; exact h⟩
end DC
namespace DL
open PySem PySem.Spec PyProof.Rows L2

def tbOf (FN GC : List Str) (n : Nat) : Tb := ⟨fun k => if k < n then FN[k]? else none, fun m => GC[m]?⟩
/-- a def as it stands behind the top -/
structure DefAt (K : PySem.W.Frag) (mg : Str → Option Value) (x : Str) (st : Stmt) (ps : List Str) : Prop where
  ex : ∃ f fd, Fun K x x st f fd ∧ mg x = some (.ref f) ∧ PySem.W.keepIn K (.ref f) = true ∧ ∀ us : List Value, us.length = ps.length → bindArgs fd ⟨us, []⟩ = pure (ps.zip us)
theorem def_mk {K : PySem.W.Frag} {h : Heap} {mg : Str → Option Value} {x : Str} {st : Stmt} {f : Addr} {ps : List Str} {od an : Option Addr} {sl : Array (Option Value)} {oc kV dc pm cd ct : Value} (X : K.In h) (G : h.Ns mainGlobals mg)
    (a : PySem.W.nsIn K mainGlobals x = some (some (.ref f))) (l : K.lookup f = some ⟨oc, od, .func (PySem.W.fnOf x x (defArgs st) (defBody st) (defScope st) .none kV dc pm an cd ct), sl⟩) (c : PySem.W.codeIn K cd x = true) (k : PySem.W.keepIn K (.ref f) = true)
    (b : ∀ us : List Value, us.length = ps.length → bindArgs (PySem.W.fnOf x x (defArgs st) (defBody st) (defScope st) .none kV dc pm an cd ct) ⟨us, []⟩ = pure (ps.zip us)) : DefAt K mg x st ps :=
  ⟨_, _, fun_mk l c k, PySem.W.mg_of X G a, k, b⟩
/-- a def that keeps its promise -/
def FnAt (Γ : Gam) (P : Program) (w : World) (mg : Str → Option Value) (base : Heap) (k : Nat) (x : Str) (T : DSp) : Prop :=
  ∃ f fd ps, FnOk P w Γ.K mg base (L2.CX P w) k f fd ps (lift Γ T) ∧ mg x = some (.ref f) ∧ PySem.W.keepIn Γ.K (.ref f) = true ∧ Binds Γ.K fd ps []
section
variable {Γ : Gam} {P : Program} {w : World} {mg : Str → Option Value} {base : Heap} {M : Tb} {S : Sg} {FN GC : List Str}
theorem def_ok {kk : Nat} {x : Str} {st : Stmt} {N ps : List Str} {c : CSs} {T : DSp} (D : DefAt Γ.K mg x st ps) (SC : FnScope N ps (defScope st)) (mod : Mod Γ P w mg base kk M S)
    (chk : chkSs M ⟨N, defScope st, fun _ => true⟩ c (defBody st) = true) (len : ∀ ds G Q E, T ds G Q E → ds.length = ps.length) (law : ∀ ds G Q E, T ds G Q E → runB S N c ds G Q E) : FnAt Γ P w mg base (kk + 1) x T := by
  obtain ⟨f, fd, F, hm, hk, hb⟩ := D.ex
  exact ⟨f, fd, ps, fn_ok F SC mod chk len law, hm, hk, Binds.all hb⟩
theorem FnAt.imp {k : Nat} {x : Str} {T T' : DSp} (F : FnAt Γ P w mg base k x T) (h : ∀ vs H Q E, lift Γ T' vs H Q E → lift Γ T vs H Q E) : FnAt Γ P w mg base k x T' := by
  obtain ⟨f, fd, ps, ok, r⟩ := F
  exact ⟨f, fd, ps, ok.imp h, r⟩
theorem FnAt.mono {k k2 : Nat} {x : Str} {T : DSp} (F : FnAt Γ P w mg base k x T) (h : k ≤ k2) : FnAt Γ P w mg base k2 x T := by
  obtain ⟨f, fd, ps, ok, r⟩ := F
  exact ⟨f, fd, ps, ok.mono h, r⟩
def Tnone : DSp := fun _ _ _ _ => False
theorem lift_none {vs : List V} {H : Hp} {Q : VK} {E : XK} (h : lift Γ Tnone vs H Q E) : False := by
  obtain ⟨_, _, _, _, _, _, _, _, z, _⟩ := h
  exact z
/-- a def of which nothing is wanted -/
theorem fn_none {x : Str} {st : Stmt} {ps : List Str} (D : DefAt Γ.K mg x st ps) (k : Nat) : FnAt Γ P w mg base k x Tnone := by
  obtain ⟨f, fd, F, hm, hk, hb⟩ := D.ex
  exact ⟨f, fd, ps, ⟨fun vs H Q E h => (lift_none h).elim, fun A outer s H args us vs Q E _ _ _ _ h => (lift_none h).elim⟩, hm, hk, Binds.all hb⟩
/-- a module's constants -/
def Consts (Γ : Gam) (mg : Str → Option Value) (GC : List Str) (gc : Nat → D) : Prop := ∀ n x, GC[n]? = some x → ∃ u v, mg x = some u ∧ RelV v u ∧ CRep Γ (gc n) v
theorem mod_zero (cs : Consts Γ mg GC S.gc) (blt : ∀ x ∈ bltNames, mg (Str.ofString x) = none) : Mod Γ P w mg base 0 (tbOf FN GC 0) S :=
  ⟨fun k x h => by simp [tbOf] at h, cs, blt⟩
/-- one def more -/
theorem mod_succ {n kk : Nat} {x : Str} {T : DSp} (m : Mod Γ P w mg base kk (tbOf FN GC n) S) (F : FnAt Γ P w mg base (kk + 1) x T) (hx : FN[n]? = some x) (hT : S.sp n = T) : Mod Γ P w mg base (kk + 1) (tbOf FN GC (n + 1)) S := by
  refine ⟨fun k y h => ?_, m.gcs, m.blt⟩
  by_cases e : k < n
  · have h2 : (tbOf FN GC n).fn k = some y := by
      show (if k < n then FN[k]? else none) = some y
      rw [if_pos e]
      have h' : (if k < n + 1 then FN[k]? else none) = some y := h
      rwa [if_pos (Nat.lt_succ_of_lt e)] at h'
    obtain ⟨f, fd, ps, j, hj, r⟩ := m.fns k y h2
    exact ⟨f, fd, ps, j, Nat.le_succ_of_le hj, r⟩
  · have h' : (if k < n + 1 then FN[k]? else none) = some y := h
    by_cases e2 : k < n + 1
    · have e3 : k = n := by omega
      subst e3
      rw [if_pos e2, hx] at h'
      cases h'
      obtain ⟨f, fd, ps, ok, r⟩ := F
      subst hT
      exact ⟨f, fd, ps, kk + 1, Nat.le_refl _, ok, r⟩
    · rw [if_neg e2] at h'
      cases h'
/-- the same module under other promises: the last def's is another -/
theorem mod_last {n kk : Nat} {x : Str} {S2 : Sg} (m : Mod Γ P w mg base kk (tbOf FN GC n) S) (F : FnAt Γ P w mg base kk x (S2.sp n)) (hx : FN[n]? = some x) (hs : ∀ k, k < n → S2.sp k = S.sp k) (hg : S2.gc = S.gc) : Mod Γ P w mg base kk (tbOf FN GC (n + 1)) S2 := by
  refine ⟨fun k y h => ?_, by rw [hg]; exact m.gcs, m.blt⟩
  by_cases e : k < n
  · have h2 : (tbOf FN GC n).fn k = some y := by
      show (if k < n then FN[k]? else none) = some y
      rw [if_pos e]
      have h' : (if k < n + 1 then FN[k]? else none) = some y := h
      rwa [if_pos (Nat.lt_succ_of_lt e)] at h'
    obtain ⟨f, fd, ps, j, hj, r⟩ := m.fns k y h2
    rw [← hs k e] at r
    exact ⟨f, fd, ps, j, hj, r⟩
  · have h' : (if k < n + 1 then FN[k]? else none) = some y := h
    by_cases e2 : k < n + 1
    · have e3 : k = n := by omega
      subst e3
      rw [if_pos e2, hx] at h'
      cases h'
      obtain ⟨f, fd, ps, ok, r⟩ := F
      exact ⟨f, fd, ps, kk, Nat.le_refl _, ok, r⟩
    · rw [if_neg e2] at h'
      cases h'
end
/-- the law's def, as its walk asks it -/
theorem law_fn {Γ : Gam} {P : Program} {w : World} {mg : Str → Option Value} {S : Sg} {FN GC : List Str} {n kk : Nat} {st : Stmt} {N : List Str} {c : CSs} {fa : Addr} {x : Str} (hmg : mg x = some (.ref fa)) (D : DefAt Γ.K mg x st ["script"]) (SC : FnScope N ["script"] (defScope st)) (mod : ∀ base, Mod Γ P w mg base kk (tbOf FN GC n) S)
    (chk : chkSs (tbOf FN GC n) ⟨N, defScope st, fun _ => true⟩ c (defBody st) = true) (law : ∀ ds G Q E, Tlaw ds G Q E → runB S N c ds G Q E) :
    ∃ fd : FuncData, (∀ (s : Shared) (u : Value), BindsTo s fd ⟨[u], []⟩ [("script", u)]) ∧ ∀ base : Heap, Γ.K.In base → base.Ns mainGlobals mg → FnOk P w Γ.K mg base (L2.CX P w) (kk + 1) fa fd ["script"] (lift Γ Tlaw) := by
  obtain ⟨f, fd, F, hm, hk, hb⟩ := D.ex
  rw [hm] at hmg
  cases hmg
  exact ⟨fd, fun s u => .of_eq (hb [u] rfl), fun base _ _ => fn_ok F SC (mod base) chk (fun ds G Q E h => by obtain ⟨⟨ns, rfl, _⟩, _⟩ := h; rfl) law⟩
def gamOf (K : PySem.W.Frag) : Gam := ⟨K, fun _ => none, fun _ => none⟩
/-- the law's walk from its def's promise -/
theorem law_walk {l : PySem.W.OpenLaw} {k : Nat} {q : Program} {loose : List Str} {XP : (Str → Option Value) → Heap → Prop} {YP : World → Heap → Prop} {d : DefRec} {K : Params → PySem.W.Frag} (hn : l.most = some 63) (hdf : d.params.defaults = []) (hr : Room k callerA)
    (hY : ∀ (w : World) (h : Heap), YP w h → (K w.params).In h)
    (F : ∀ (w : World) (mg : Str → Option Value) (fa : Addr) (h : Heap), (K w.params).In h → h.Ns mainGlobals mg → mg d.name = some (.ref fa) →
      ∃ fd : FuncData, (∀ (s : Shared) (u : Value), BindsTo s fd ⟨[u], []⟩ [("script", u)]) ∧ ∀ base : Heap, (K w.params).In base → base.Ns mainGlobals mg → FnOk l.prog w (K w.params) mg base (L2.CX l.prog w) k fa fd ["script"] (lift (gamOf (K w.params)) Tlaw)) :
    PySem.W.WalkO q loose XP YP l.row.toRowW d [] (fun f vs => PySem.call f vs) :=
  L2.walk_of (n := 63) (k := k) (x := "script") (CX := fun w => L2.CX l.prog w) (sp := fun w => lift (gamOf (K w.params)) Tlaw) hn (by decide) hdf hr hY F (fun w H a ns hl _ hS => law_end (Γ := gamOf (K w.params)) hl hS) fun w H s e s' z => cx_none z
end DL
namespace DC
open PySem DL
abbrev Len (T : DSp) (n : Nat) : Prop := ∀ ds G Q E, T ds G Q E → ds.length = n
theorem len_common : Len Tcommon 2 := by rintro _ _ _ _ ⟨_, _, rfl, _⟩; rfl
theorem len_fraction : Len Tfraction 2 := by rintro _ _ _ _ ⟨_, _, rfl, _⟩; rfl
theorem len_T2 {f : Rat → Rat → Rat} : Len (T2 f) 2 := by rintro _ _ _ _ ⟨_, _, rfl, _⟩; rfl
theorem len_sign : Len Tsign 1 := by rintro _ _ _ _ ⟨_, rfl, _⟩; rfl
theorem len_neg : Len Tneg 1 := by rintro _ _ _ _ ⟨_, rfl, _⟩; rfl
theorem len_less : Len Tless 2 := by rintro _ _ _ _ ⟨_, _, rfl, _⟩; rfl
theorem len_edges : Len Tedges 1 := by rintro _ _ _ _ ⟨_, rfl, _⟩; rfl
theorem len_side : Len Tside 3 := by rintro _ _ _ _ ⟨_, _, _, rfl, _⟩; rfl
theorem len_lside : Len Tlside 3 := by rintro _ _ _ _ ⟨_, _, _, rfl, _⟩; rfl
theorem len_turns : Len Tturns 2 := by rintro _ _ _ _ ⟨_, _, rfl, _⟩; rfl
theorem len_isin : Len Tisin 3 := by rintro _ _ _ _ ⟨_, _, _, rfl, _⟩; rfl
theorem len_has : Len Thas 2 := by rintro _ _ _ _ ⟨_, _, rfl, _⟩; rfl
theorem len_streamL : Len TstreamL 1 := by rintro _ _ _ _ ⟨_, rfl, _⟩; rfl
theorem len_drawL : Len TdrawL 2 := by rintro _ _ _ _ ⟨_, _, _, _, _, _, rfl, _⟩; rfl
theorem len_divi : Len Tdivi 2 := by rintro _ _ _ _ ⟨_, _, rfl, _⟩; rfl
theorem len_pick : Len Tpick 2 := by rintro _ _ _ _ ⟨_, _, _, rfl, _⟩; rfl
theorem len_same {n : Nat} : Len (Tsame n) 2 := by rintro _ _ _ _ ⟨_, _, rfl, _⟩; rfl
end DC
namespace K14
open PySem L2 DL
def top (i : Nat) : Stmt := PySem.Challenge.pw_pagehold_k14_whole_turns_of_rings.main.body.getD i (.Pass ⟨0, 0, 0, 0⟩)
def FN : List Str := ["common", "fraction", "minus", "times", "sign", "is_less", "edges", "side", "turns", "is_in", "has", "_law_stream", "_law_draw", "_law_divisor", "_law_f", "_law_add", "_law_mul", "_law_neg", "_law_div", "_law_pick", "_law_same", "_law_less", "_law_side", "_law_turns", "_law_has", "_law_number", "_law_point", "_law_ring", "_law_area", "_law_near", "law"]
def GC : List Str := ["WHOLE"]
/-- the first i defs, and the constants -/
abbrev M (i : Nat) : Tb := tbOf FN GC i
abbrev s0 : Stmt := top 1
def N0 : List Str := ["a", "b"]
def P0 : List Str := ["a", "b"]
def c0_3 : CSs := .cons (.ret (.bi .abs (.loc 0))) .nil
def c0_2 : CSs := .cons (.par 0 1 (.loc 1) (.bin .mod (.loc 0) (.loc 1))) .nil
def c0_1 : CSs := .cons (.whl (.val (.loc 1)) c0_2) c0_3
abbrev c0 : CSs := c0_1
theorem sc0 : FnScope N0 P0 (defScope s0) := ⟨rfl, rfl, rfl, by decide +kernel, rfl, by decide +kernel, by decide +kernel⟩
theorem ck0 : chkSs (M 0) ⟨N0, defScope s0, fun _ => true⟩ c0 (defBody s0) = true := by decide +kernel
abbrev s1 : Stmt := top 2
def N1 : List Str := ["n", "d", "shared"]
def P1 : List Str := ["n", "d"]
def c1_4 : CSs := .cons (.ret (.tup (.cons (.bin .fdiv (.loc 0) (.loc 2)) (.cons (.bin .fdiv (.loc 1) (.loc 2)) .nil)))) .nil
def c1_3 : CSs := .cons (.setF 2 (.neg (.loc 2))) .nil
def c1_2 : CSs := .cons (.ite (.cmp .lt (.loc 1) (.cst (.int 0))) c1_3 .nil) c1_4
def c1_1 : CSs := .cons (.setF 2 (.call 0 (.cons (.loc 0) (.cons (.loc 1) .nil)))) c1_2
abbrev c1 : CSs := c1_1
theorem sc1 : FnScope N1 P1 (defScope s1) := ⟨rfl, rfl, rfl, by decide +kernel, rfl, by decide +kernel, by decide +kernel⟩
theorem ck1 : chkSs (M 1) ⟨N1, defScope s1, fun _ => true⟩ c1 (defBody s1) = true := by decide +kernel
abbrev s2 : Stmt := top 3
def N2 : List Str := ["a", "b"]
def P2 : List Str := ["a", "b"]
def c2_1 : CSs := .cons (.ret (.call 1 (.cons (.bin .subP (.bin .mul (.idx .any (.loc 0) (.cst (.int 0))) (.idx .any (.loc 1) (.cst (.int 1)))) (.bin .mul (.idx .any (.loc 1) (.cst (.int 0))) (.idx .any (.loc 0) (.cst (.int 1))))) (.cons (.bin .mul (.idx .any (.loc 0) (.cst (.int 1))) (.idx .any (.loc 1) (.cst (.int 1)))) .nil)))) .nil
abbrev c2 : CSs := c2_1
theorem sc2 : FnScope N2 P2 (defScope s2) := ⟨rfl, rfl, rfl, by decide +kernel, rfl, by decide +kernel, by decide +kernel⟩
theorem ck2 : chkSs (M 2) ⟨N2, defScope s2, fun _ => true⟩ c2 (defBody s2) = true := by decide +kernel
abbrev s3 : Stmt := top 4
def N3 : List Str := ["a", "b"]
def P3 : List Str := ["a", "b"]
def c3_1 : CSs := .cons (.ret (.call 1 (.cons (.bin .mul (.idx .any (.loc 0) (.cst (.int 0))) (.idx .any (.loc 1) (.cst (.int 0)))) (.cons (.bin .mul (.idx .any (.loc 0) (.cst (.int 1))) (.idx .any (.loc 1) (.cst (.int 1)))) .nil)))) .nil
abbrev c3 : CSs := c3_1
theorem sc3 : FnScope N3 P3 (defScope s3) := ⟨rfl, rfl, rfl, by decide +kernel, rfl, by decide +kernel, by decide +kernel⟩
theorem ck3 : chkSs (M 3) ⟨N3, defScope s3, fun _ => true⟩ c3 (defBody s3) = true := by decide +kernel
abbrev s4 : Stmt := top 5
def N4 : List Str := ["a"]
def P4 : List Str := ["a"]
def c4_1 : CSs := .cons (.ret (.bin .subP (.cmp .gt (.idx .any (.loc 0) (.cst (.int 0))) (.cst (.int 0))) (.cmp .lt (.idx .any (.loc 0) (.cst (.int 0))) (.cst (.int 0))))) .nil
abbrev c4 : CSs := c4_1
theorem sc4 : FnScope N4 P4 (defScope s4) := ⟨rfl, rfl, rfl, by decide +kernel, rfl, by decide +kernel, by decide +kernel⟩
theorem ck4 : chkSs (M 4) ⟨N4, defScope s4, fun _ => true⟩ c4 (defBody s4) = true := by decide +kernel
abbrev s5 : Stmt := top 6
def N5 : List Str := ["a", "b"]
def P5 : List Str := ["a", "b"]
def c5_1 : CSs := .cons (.ret (.cmp .lt (.bin .mul (.idx .any (.loc 0) (.cst (.int 0))) (.idx .any (.loc 1) (.cst (.int 1)))) (.bin .mul (.idx .any (.loc 1) (.cst (.int 0))) (.idx .any (.loc 0) (.cst (.int 1)))))) .nil
abbrev c5 : CSs := c5_1
theorem sc5 : FnScope N5 P5 (defScope s5) := ⟨rfl, rfl, rfl, by decide +kernel, rfl, by decide +kernel, by decide +kernel⟩
theorem ck5 : chkSs (M 5) ⟨N5, defScope s5, fun _ => true⟩ c5 (defBody s5) = true := by decide +kernel
abbrev s6 : Stmt := top 9
def N6 : List Str := ["rings", "found", "ring", "at", "point"]
def P6 : List Str := ["rings"]
def c6_5 : CSs := .cons (.ret (.loc 1)) .nil
def c6_4 : CSs := .cons (.app 1 (.tup (.cons (.loc 4) (.cons (.idx .any (.loc 2) (.bin .mod (.bin .addP (.loc 3) (.cst (.int 1))) (.bi .lenP (.loc 2)))) .nil)))) .nil
def c6_3 : CSs := .cons (.for (.tup (.cons (.name 3) (.cons (.name 4) .nil))) (.enum (.loc 2)) c6_4) .nil
def c6_2 : CSs := .cons (.for (.name 2) (.seq (.loc 0)) c6_3) c6_5
def c6_1 : CSs := .cons (.set 1 (.lst .nil)) c6_2
abbrev c6 : CSs := c6_1
theorem sc6 : FnScope N6 P6 (defScope s6) := ⟨rfl, rfl, rfl, by decide +kernel, rfl, by decide +kernel, by decide +kernel⟩
theorem ck6 : chkSs (M 6) ⟨N6, defScope s6, fun _ => true⟩ c6 (defBody s6) = true := by decide +kernel
abbrev s7 : Stmt := top 10
def N7 : List Str := ["a", "b", "point", "one", "two"]
def P7 : List Str := ["a", "b", "point"]
def c7_3 : CSs := .cons (.ret (.call 4 (.cons (.call 2 (.cons (.loc 3) (.cons (.loc 4) .nil))) .nil))) .nil
def c7_2 : CSs := .cons (.setF 4 (.call 3 (.cons (.call 2 (.cons (.idx .any (.loc 1) (.cst (.int 1))) (.cons (.idx .any (.loc 0) (.cst (.int 1))) .nil))) (.cons (.call 2 (.cons (.idx .any (.loc 2) (.cst (.int 0))) (.cons (.idx .any (.loc 0) (.cst (.int 0))) .nil))) .nil)))) c7_3
def c7_1 : CSs := .cons (.setF 3 (.call 3 (.cons (.call 2 (.cons (.idx .any (.loc 1) (.cst (.int 0))) (.cons (.idx .any (.loc 0) (.cst (.int 0))) .nil))) (.cons (.call 2 (.cons (.idx .any (.loc 2) (.cst (.int 1))) (.cons (.idx .any (.loc 0) (.cst (.int 1))) .nil))) .nil)))) c7_2
abbrev c7 : CSs := c7_1
theorem sc7 : FnScope N7 P7 (defScope s7) := ⟨rfl, rfl, rfl, by decide +kernel, rfl, by decide +kernel, by decide +kernel⟩
theorem ck7 : chkSs (M 7) ⟨N7, defScope s7, fun _ => true⟩ c7 (defBody s7) = true := by decide +kernel
abbrev s8 : Stmt := top 11
def N8 : List Str := ["rings", "point", "found", "x", "y", "a", "b"]
def P8 : List Str := ["rings", "point"]
def c8_8 : CSs := .cons (.ret (.loc 2)) .nil
def c8_5 : CSs := .cons (.aug 2 .iaddP (.cmp .gt (.call 7 (.cons (.loc 5) (.cons (.loc 6) (.cons (.loc 1) .nil)))) (.cst (.int 0)))) .nil
def c8_7 : CSs := .cons (.aug 2 .isubP (.cmp .lt (.call 7 (.cons (.loc 5) (.cons (.loc 6) (.cons (.loc 1) .nil)))) (.cst (.int 0)))) .nil
def c8_6 : CSs := .cons (.ite (.and (.not (.val (.call 5 (.cons (.loc 4) (.cons (.idx .any (.loc 6) (.cst (.int 1))) .nil))))) (.val (.call 5 (.cons (.loc 4) (.cons (.idx .any (.loc 5) (.cst (.int 1))) .nil))))) c8_7 .nil) .nil
def c8_4 : CSs := .cons (.ite (.and (.not (.val (.call 5 (.cons (.loc 4) (.cons (.idx .any (.loc 5) (.cst (.int 1))) .nil))))) (.val (.call 5 (.cons (.loc 4) (.cons (.idx .any (.loc 6) (.cst (.int 1))) .nil))))) c8_5 c8_6) .nil
def c8_3 : CSs := .cons (.for (.tup (.cons (.name 5) (.cons (.name 6) .nil))) (.seq (.call 6 (.cons (.loc 0) .nil))) c8_4) c8_8
def c8_2 : CSs := .cons (.asg (.tup (.cons (.name 3) (.cons (.name 4) .nil))) (.loc 1)) c8_3
def c8_1 : CSs := .cons (.setF 2 (.cst (.int 0))) c8_2
abbrev c8 : CSs := c8_1
theorem sc8 : FnScope N8 P8 (defScope s8) := ⟨rfl, rfl, rfl, by decide +kernel, rfl, by decide +kernel, by decide +kernel⟩
theorem ck8 : chkSs (M 8) ⟨N8, defScope s8, fun _ => true⟩ c8 (defBody s8) = true := by decide +kernel
abbrev s9 : Stmt := top 12
def N9 : List Str := ["rings", "rule", "point", "found"]
def P9 : List Str := ["rings", "rule", "point"]
def c9_2 : CSs := .cons (.ret (.ite (.cmp .eq (.loc 1) (.gc 0)) (.cmp .ne (.loc 3) (.cst (.int 0))) (.cmp .eq (.bin .mod (.loc 3) (.cst (.int 2))) (.cst (.int 1))))) .nil
def c9_1 : CSs := .cons (.setF 3 (.call 8 (.cons (.loc 0) (.cons (.loc 2) .nil)))) c9_2
abbrev c9 : CSs := c9_1
theorem sc9 : FnScope N9 P9 (defScope s9) := ⟨rfl, rfl, rfl, by decide +kernel, rfl, by decide +kernel, by decide +kernel⟩
theorem ck9 : chkSs (M 9) ⟨N9, defScope s9, fun _ => true⟩ c9 (defBody s9) = true := by decide +kernel
abbrev s10 : Stmt := top 13
def N10 : List Str := ["area", "point", "rings", "rule", "clips", "other", "kind"]
def P10 : List Str := ["area", "point"]
def c10_2 : CSs := .cons (.ret (.and (.call 9 (.cons (.loc 2) (.cons (.loc 3) (.cons (.loc 1) .nil)))) (.bi .all (.comp (.tup (.cons (.name 5) (.cons (.name 6) .nil))) (.seq (.loc 4)) .no (.call 9 (.cons (.loc 5) (.cons (.loc 6) (.cons (.loc 1) .nil)))) [5, 6])))) .nil
def c10_1 : CSs := .cons (.asg (.tup (.cons (.name 2) (.cons (.name 3) (.cons (.name 4) .nil)))) (.loc 0)) c10_2
abbrev c10 : CSs := c10_1
theorem sc10 : FnScope N10 P10 (defScope s10) := ⟨rfl, rfl, rfl, by decide +kernel, rfl, by decide +kernel, by decide +kernel⟩
theorem ck10 : chkSs (M 10) ⟨N10, defScope s10, fun _ => true⟩ c10 (defBody s10) = true := by decide +kernel
abbrev s11 : Stmt := top 15
def N11 : List Str := ["script", "mixed", "cell"]
def P11 : List Str := ["script"]
def c11_4 : CSs := .cons (.retT (.lst (.cons (.bi .list (.loc 0)) (.cons (.cst (.int 0)) (.cons (.cst (.int 0)) (.cons (.loc 1) .nil)))))) .nil
def c11_3 : CSs := .cons (.setF 1 (.bin .mod (.bi .int (.bin .addP (.bin .addP (.bin .mul (.loc 1) (.cst (.int 48271))) (.bin .mod (.bi .int (.loc 2)) (.cst (.int 65521)))) (.cst (.int 1)))) (.cst (.int 2147483647)))) .nil
def c11_2 : CSs := .cons (.for (.name 2) (.seq (.loc 0)) c11_3) c11_4
def c11_1 : CSs := .cons (.setF 1 (.cst (.int 17))) c11_2
abbrev c11 : CSs := c11_1
theorem sc11 : FnScope N11 P11 (defScope s11) := ⟨rfl, rfl, rfl, by decide +kernel, rfl, by decide +kernel, by decide +kernel⟩
theorem ck11 : chkSs (M 11) ⟨N11, defScope s11, fun _ => true⟩ c11 (defBody s11) = true := by decide +kernel
abbrev s12 : Stmt := top 16
def N12 : List Str := ["stream", "many", "value"]
def P12 : List Str := ["stream", "many"]
def c12_9 : CSs := .cons (.ret (.loc 2)) .nil
def c12_8 : CSs := .cons (.gset (.loc 0) (.cst (.int 1)) (.bin .fdiv (.gidx (.loc 0) (.cst (.int 1))) (.loc 1))) c12_9
def c12_7 : CSs := .cons (.setF 2 (.bin .mod (.bi .int (.gidx (.loc 0) (.cst (.int 1)))) (.loc 1))) c12_8
def c12_6 : CSs := .cons (.ret (.bin .mod (.bi .int (.bin .fdiv (.gidx (.loc 0) (.cst (.int 3))) (.cst (.int 97)))) (.loc 1))) .nil
def c12_5 : CSs := .cons (.gset (.loc 0) (.cst (.int 3)) (.bin .mod (.bi .int (.bin .addP (.bin .mul (.gidx (.loc 0) (.cst (.int 3))) (.cst (.int 48271))) (.cst (.int 11)))) (.cst (.int 2147483647)))) c12_6
def c12_4 : CSs := .cons (.ite (.cmp .eq (.gidx (.loc 0) (.cst (.int 1))) (.cst (.int 0))) c12_5 .nil) c12_7
def c12_3 : CSs := .cons (.gset (.loc 0) (.cst (.int 2)) (.bin .addP (.gidx (.loc 0) (.cst (.int 2))) (.cst (.int 1)))) .nil
def c12_2 : CSs := .cons (.gset (.loc 0) (.cst (.int 1)) (.bi .abs (.bi .int (.idx .any (.gidx (.loc 0) (.cst (.int 0))) (.gidx (.loc 0) (.cst (.int 2))))))) c12_3
def c12_1 : CSs := .cons (.ite (.and (.cmp .eq (.gidx (.loc 0) (.cst (.int 1))) (.cst (.int 0))) (.cmp .lt (.gidx (.loc 0) (.cst (.int 2))) (.bi .lenP (.gidx (.loc 0) (.cst (.int 0)))))) c12_2 .nil) c12_4
abbrev c12 : CSs := c12_1
theorem sc12 : FnScope N12 P12 (defScope s12) := ⟨rfl, rfl, rfl, by decide +kernel, rfl, by decide +kernel, by decide +kernel⟩
theorem ck12 : chkSs (M 12) ⟨N12, defScope s12, fun _ => true⟩ c12 (defBody s12) = true := by decide +kernel
abbrev s13 : Stmt := top 17
def N13 : List Str := ["a", "b"]
def P13 : List Str := ["a", "b"]
def c13_3 : CSs := .cons (.ret (.bi .abs (.loc 0))) .nil
def c13_2 : CSs := .cons (.par 0 1 (.loc 1) (.bin .mod (.bi .int (.loc 0)) (.loc 1))) .nil
def c13_1 : CSs := .cons (.whl (.cmp .ne (.loc 1) (.cst (.int 0))) c13_2) c13_3
abbrev c13 : CSs := c13_1
theorem sc13 : FnScope N13 P13 (defScope s13) := ⟨rfl, rfl, rfl, by decide +kernel, rfl, by decide +kernel, by decide +kernel⟩
theorem ck13 : chkSs (M 13) ⟨N13, defScope s13, fun _ => true⟩ c13 (defBody s13) = true := by decide +kernel
abbrev s14 : Stmt := top 18
def N14 : List Str := ["n", "d", "g"]
def P14 : List Str := ["n", "d"]
def c14_4 : CSs := .cons (.ret (.tup (.cons (.bin .fdiv (.loc 0) (.loc 2)) (.cons (.bin .fdiv (.loc 1) (.loc 2)) .nil)))) .nil
def c14_3 : CSs := .cons (.setF 2 (.neg (.loc 2))) .nil
def c14_2 : CSs := .cons (.ite (.cmp .lt (.loc 1) (.cst (.int 0))) c14_3 .nil) c14_4
def c14_1 : CSs := .cons (.setF 2 (.call 13 (.cons (.loc 0) (.cons (.loc 1) .nil)))) c14_2
abbrev c14 : CSs := c14_1
theorem sc14 : FnScope N14 P14 (defScope s14) := ⟨rfl, rfl, rfl, by decide +kernel, rfl, by decide +kernel, by decide +kernel⟩
theorem ck14 : chkSs (M 14) ⟨N14, defScope s14, fun _ => true⟩ c14 (defBody s14) = true := by decide +kernel
abbrev s15 : Stmt := top 19
def N15 : List Str := ["a", "b"]
def P15 : List Str := ["a", "b"]
def c15_1 : CSs := .cons (.ret (.call 14 (.cons (.bin .addP (.bin .mul (.idx .any (.loc 0) (.cst (.int 0))) (.idx .any (.loc 1) (.cst (.int 1)))) (.bin .mul (.idx .any (.loc 1) (.cst (.int 0))) (.idx .any (.loc 0) (.cst (.int 1))))) (.cons (.bin .mul (.idx .any (.loc 0) (.cst (.int 1))) (.idx .any (.loc 1) (.cst (.int 1)))) .nil)))) .nil
abbrev c15 : CSs := c15_1
theorem sc15 : FnScope N15 P15 (defScope s15) := ⟨rfl, rfl, rfl, by decide +kernel, rfl, by decide +kernel, by decide +kernel⟩
theorem ck15 : chkSs (M 15) ⟨N15, defScope s15, fun _ => true⟩ c15 (defBody s15) = true := by decide +kernel
abbrev s16 : Stmt := top 20
def N16 : List Str := ["a", "b"]
def P16 : List Str := ["a", "b"]
def c16_1 : CSs := .cons (.ret (.call 14 (.cons (.bin .mul (.idx .any (.loc 0) (.cst (.int 0))) (.idx .any (.loc 1) (.cst (.int 0)))) (.cons (.bin .mul (.idx .any (.loc 0) (.cst (.int 1))) (.idx .any (.loc 1) (.cst (.int 1)))) .nil)))) .nil
abbrev c16 : CSs := c16_1
theorem sc16 : FnScope N16 P16 (defScope s16) := ⟨rfl, rfl, rfl, by decide +kernel, rfl, by decide +kernel, by decide +kernel⟩
theorem ck16 : chkSs (M 16) ⟨N16, defScope s16, fun _ => true⟩ c16 (defBody s16) = true := by decide +kernel
abbrev s17 : Stmt := top 21
def N17 : List Str := ["a"]
def P17 : List Str := ["a"]
def c17_1 : CSs := .cons (.ret (.tup (.cons (.neg (.idx .any (.loc 0) (.cst (.int 0)))) (.cons (.idx .any (.loc 0) (.cst (.int 1))) .nil)))) .nil
abbrev c17 : CSs := c17_1
theorem sc17 : FnScope N17 P17 (defScope s17) := ⟨rfl, rfl, rfl, by decide +kernel, rfl, by decide +kernel, by decide +kernel⟩
theorem ck17 : chkSs (M 17) ⟨N17, defScope s17, fun _ => true⟩ c17 (defBody s17) = true := by decide +kernel
abbrev s18 : Stmt := top 22
def N18 : List Str := ["a", "b"]
def P18 : List Str := ["a", "b"]
def c18_1 : CSs := .cons (.ret (.call 14 (.cons (.bin .addP (.bin .mul (.idx .any (.loc 0) (.cst (.int 0))) (.idx .any (.loc 1) (.cst (.int 1)))) (.bin .fdiv (.cst (.int 0)) (.idx .any (.loc 1) (.cst (.int 0))))) (.cons (.bin .mul (.idx .any (.loc 0) (.cst (.int 1))) (.idx .any (.loc 1) (.cst (.int 0)))) .nil)))) .nil
abbrev c18 : CSs := c18_1
theorem sc18 : FnScope N18 P18 (defScope s18) := ⟨rfl, rfl, rfl, by decide +kernel, rfl, by decide +kernel, by decide +kernel⟩
theorem ck18 : chkSs (M 18) ⟨N18, defScope s18, fun _ => true⟩ c18 (defBody s18) = true := by decide +kernel
abbrev s19 : Stmt := top 23
def N19 : List Str := ["stream", "rows"]
def P19 : List Str := ["stream", "rows"]
def c19_1 : CSs := .cons (.ret (.idx .any (.loc 1) (.call 12 (.cons (.loc 0) (.cons (.bi .lenP (.loc 1)) .nil))))) .nil
abbrev c19 : CSs := c19_1
theorem sc19 : FnScope N19 P19 (defScope s19) := ⟨rfl, rfl, rfl, by decide +kernel, rfl, by decide +kernel, by decide +kernel⟩
theorem ck19 : chkSs (M 19) ⟨N19, defScope s19, fun _ => true⟩ c19 (defBody s19) = true := by decide +kernel
abbrev s20 : Stmt := top 24
def N20 : List Str := ["one", "two", "k", "key"]
def P20 : List Str := ["one", "two"]
def c20_9 : CSs := .cons (.ret (.and (.cmp .eq (.loc 0) (.loc 1)) (.cmp .eq (.inst .bool (.loc 0)) (.inst .bool (.loc 1))))) .nil
def c20_8 : CSs := .cons (.ret (.cst (.bl false))) .nil
def c20_7 : CSs := .cons (.ite (.or (.not (.val (.inst .int (.loc 0)))) (.not (.val (.inst .int (.loc 1))))) c20_8 .nil) c20_9
def c20_6 : CSs := .cons (.ret (.cmp .eq (.loc 0) (.loc 1))) .nil
def c20_5 : CSs := .cons (.ite (.or (.and (.val (.inst .str (.loc 0))) (.val (.inst .str (.loc 1)))) (.and (.cmp .isN (.loc 0) (.cst .non)) (.cmp .isN (.loc 1) (.cst .non)))) c20_6 .nil) c20_7
def c20_4 : CSs := .cons (.ret (.and (.cmp .eq (.bi .lenP (.loc 0)) (.bi .lenP (.loc 1))) (.bi .all (.comp (.name 3) (.seq (.loc 0)) .no (.and (.nev) (.call 20 (.cons (.idx .any (.loc 0) (.loc 3)) (.cons (.idx .any (.loc 1) (.loc 3)) .nil)))) [3])))) .nil
def c20_3 : CSs := .cons (.ite (.and (.val (.inst .dict (.loc 0))) (.val (.inst .dict (.loc 1)))) c20_4 .nil) c20_5
def c20_2 : CSs := .cons (.ret (.and (.cmp .eq (.bi .lenP (.loc 0)) (.bi .lenP (.loc 1))) (.bi .all (.comp (.name 2) (.rng1 (.bi .lenP (.loc 0))) .no (.call 20 (.cons (.idx .any (.loc 0) (.loc 2)) (.cons (.idx .any (.loc 1) (.loc 2)) .nil))) [2])))) .nil
def c20_1 : CSs := .cons (.ite (.or (.and (.val (.inst .tuple (.loc 0))) (.val (.inst .tuple (.loc 1)))) (.and (.val (.inst .list (.loc 0))) (.val (.inst .list (.loc 1))))) c20_2 .nil) c20_3
abbrev c20 : CSs := c20_1
theorem sc20 : FnScope N20 P20 (defScope s20) := ⟨rfl, rfl, rfl, by decide +kernel, rfl, by decide +kernel, by decide +kernel⟩
theorem ck20 : chkSs (M 21) ⟨N20, defScope s20, fun _ => true⟩ c20 (defBody s20) = true := by decide +kernel
abbrev s21 : Stmt := top 25
def N21 : List Str := ["a", "b"]
def P21 : List Str := ["a", "b"]
def c21_1 : CSs := .cons (.ret (.cmp .lt (.bin .mul (.idx .any (.loc 0) (.cst (.int 0))) (.idx .any (.loc 1) (.cst (.int 1)))) (.bin .mul (.idx .any (.loc 1) (.cst (.int 0))) (.idx .any (.loc 0) (.cst (.int 1)))))) .nil
abbrev c21 : CSs := c21_1
theorem sc21 : FnScope N21 P21 (defScope s21) := ⟨rfl, rfl, rfl, by decide +kernel, rfl, by decide +kernel, by decide +kernel⟩
theorem ck21 : chkSs (M 21) ⟨N21, defScope s21, fun _ => true⟩ c21 (defBody s21) = true := by decide +kernel
abbrev s22 : Stmt := top 26
def N22 : List Str := ["a", "b", "p", "one", "two"]
def P22 : List Str := ["a", "b", "p"]
def c22_3 : CSs := .cons (.ret (.idx .any (.call 15 (.cons (.loc 3) (.cons (.call 17 (.cons (.loc 4) .nil)) .nil))) (.cst (.int 0)))) .nil
def c22_2 : CSs := .cons (.setF 4 (.call 16 (.cons (.call 15 (.cons (.idx .any (.loc 1) (.cst (.int 1))) (.cons (.call 17 (.cons (.idx .any (.loc 0) (.cst (.int 1))) .nil)) .nil))) (.cons (.call 15 (.cons (.idx .any (.loc 2) (.cst (.int 0))) (.cons (.call 17 (.cons (.idx .any (.loc 0) (.cst (.int 0))) .nil)) .nil))) .nil)))) c22_3
def c22_1 : CSs := .cons (.setF 3 (.call 16 (.cons (.call 15 (.cons (.idx .any (.loc 1) (.cst (.int 0))) (.cons (.call 17 (.cons (.idx .any (.loc 0) (.cst (.int 0))) .nil)) .nil))) (.cons (.call 15 (.cons (.idx .any (.loc 2) (.cst (.int 1))) (.cons (.call 17 (.cons (.idx .any (.loc 0) (.cst (.int 1))) .nil)) .nil))) .nil)))) c22_2
abbrev c22 : CSs := c22_1
theorem sc22 : FnScope N22 P22 (defScope s22) := ⟨rfl, rfl, rfl, by decide +kernel, rfl, by decide +kernel, by decide +kernel⟩
theorem ck22 : chkSs (M 22) ⟨N22, defScope s22, fun _ => true⟩ c22 (defBody s22) = true := by decide +kernel
abbrev s23 : Stmt := top 27
def N23 : List Str := ["rings", "p", "found", "ring", "k", "a", "b"]
def P23 : List Str := ["rings", "p"]
def c23_9 : CSs := .cons (.ret (.loc 2)) .nil
def c23_8 : CSs := .cons (.setF 2 (.bin .subP (.loc 2) (.cst (.int 1)))) .nil
def c23_7 : CSs := .cons (.ite (.and (.not (.val (.call 21 (.cons (.idx .any (.loc 1) (.cst (.int 1))) (.cons (.idx .any (.loc 6) (.cst (.int 1))) .nil))))) (.and (.val (.call 21 (.cons (.idx .any (.loc 1) (.cst (.int 1))) (.cons (.idx .any (.loc 5) (.cst (.int 1))) .nil)))) (.cmp .lt (.call 22 (.cons (.loc 5) (.cons (.loc 6) (.cons (.loc 1) .nil)))) (.cst (.int 0))))) c23_8 .nil) .nil
def c23_6 : CSs := .cons (.setF 2 (.bin .addP (.loc 2) (.cst (.int 1)))) .nil
def c23_5 : CSs := .cons (.ite (.and (.not (.val (.call 21 (.cons (.idx .any (.loc 1) (.cst (.int 1))) (.cons (.idx .any (.loc 5) (.cst (.int 1))) .nil))))) (.and (.val (.call 21 (.cons (.idx .any (.loc 1) (.cst (.int 1))) (.cons (.idx .any (.loc 6) (.cst (.int 1))) .nil)))) (.cmp .gt (.call 22 (.cons (.loc 5) (.cons (.loc 6) (.cons (.loc 1) .nil)))) (.cst (.int 0))))) c23_6 .nil) c23_7
def c23_4 : CSs := .cons (.par 5 6 (.idx .any (.loc 3) (.loc 4)) (.idx .any (.loc 3) (.bin .mod (.bin .addP (.loc 4) (.cst (.int 1))) (.bi .lenP (.loc 3))))) c23_5
def c23_3 : CSs := .cons (.for (.name 4) (.rng1 (.bi .lenP (.loc 3))) c23_4) .nil
def c23_2 : CSs := .cons (.for (.name 3) (.seq (.loc 0)) c23_3) c23_9
def c23_1 : CSs := .cons (.setF 2 (.cst (.int 0))) c23_2
abbrev c23 : CSs := c23_1
theorem sc23 : FnScope N23 P23 (defScope s23) := ⟨rfl, rfl, rfl, by decide +kernel, rfl, by decide +kernel, by decide +kernel⟩
theorem ck23 : chkSs (M 23) ⟨N23, defScope s23, fun _ => true⟩ c23 (defBody s23) = true := by decide +kernel
abbrev s24 : Stmt := top 28
def N24 : List Str := ["area", "p", "rings", "rule", "found"]
def P24 : List Str := ["area", "p"]
def c24_5 : CSs := .cons (.ret (.cst (.bl true))) .nil
def c24_4 : CSs := .cons (.ret (.cst (.bl false))) .nil
def c24_3 : CSs := .cons (.ite (.or (.cmp .eq (.loc 4) (.cst (.int 0))) (.and (.cmp .eq (.loc 3) (.cst (.str "odd"))) (.cmp .eq (.bin .mod (.loc 4) (.cst (.int 2))) (.cst (.int 0))))) c24_4 .nil) .nil
def c24_2 : CSs := .cons (.setF 4 (.call 23 (.cons (.loc 2) (.cons (.loc 1) .nil)))) c24_3
def c24_1 : CSs := .cons (.for (.tup (.cons (.name 2) (.cons (.name 3) .nil))) (.seq (.bin .addP (.tup (.cons (.tup (.cons (.idx .any (.loc 0) (.cst (.int 0))) (.cons (.idx .any (.loc 0) (.cst (.int 1))) .nil))) .nil)) (.idx .any (.loc 0) (.cst (.int 2))))) c24_2) c24_5
abbrev c24 : CSs := c24_1
theorem sc24 : FnScope N24 P24 (defScope s24) := ⟨rfl, rfl, rfl, by decide +kernel, rfl, by decide +kernel, by decide +kernel⟩
theorem ck24 : chkSs (M 24) ⟨N24, defScope s24, fun _ => true⟩ c24 (defBody s24) = true := by decide +kernel
abbrev s25 : Stmt := top 29
def N25 : List Str := ["stream"]
def P25 : List Str := ["stream"]
def c25_1 : CSs := .cons (.ret (.call 14 (.cons (.bin .subP (.call 12 (.cons (.loc 0) (.cons (.cst (.int 13)) .nil))) (.cst (.int 4))) (.cons (.bin .addP (.cst (.int 1)) (.call 12 (.cons (.loc 0) (.cons (.cst (.int 2)) .nil)))) .nil)))) .nil
abbrev c25 : CSs := c25_1
theorem sc25 : FnScope N25 P25 (defScope s25) := ⟨rfl, rfl, rfl, by decide +kernel, rfl, by decide +kernel, by decide +kernel⟩
theorem ck25 : chkSs (M 25) ⟨N25, defScope s25, fun _ => true⟩ c25 (defBody s25) = true := by decide +kernel
abbrev s26 : Stmt := top 30
def N26 : List Str := ["stream"]
def P26 : List Str := ["stream"]
def c26_1 : CSs := .cons (.ret (.tup (.cons (.call 25 (.cons (.loc 0) .nil)) (.cons (.call 25 (.cons (.loc 0) .nil)) .nil)))) .nil
abbrev c26 : CSs := c26_1
theorem sc26 : FnScope N26 P26 (defScope s26) := ⟨rfl, rfl, rfl, by decide +kernel, rfl, by decide +kernel, by decide +kernel⟩
theorem ck26 : chkSs (M 26) ⟨N26, defScope s26, fun _ => true⟩ c26 (defBody s26) = true := by decide +kernel
abbrev s27 : Stmt := top 31
def N27 : List Str := ["stream", "k"]
def P27 : List Str := ["stream"]
def c27_1 : CSs := .cons (.ret (.bi .tuple (.comp (.name 1) (.rng1 (.bin .addP (.cst (.int 3)) (.call 12 (.cons (.loc 0) (.cons (.cst (.int 3)) .nil))))) .no (.call 26 (.cons (.loc 0) .nil)) [1]))) .nil
abbrev c27 : CSs := c27_1
theorem sc27 : FnScope N27 P27 (defScope s27) := ⟨rfl, rfl, rfl, by decide +kernel, rfl, by decide +kernel, by decide +kernel⟩
theorem ck27 : chkSs (M 27) ⟨N27, defScope s27, fun _ => true⟩ c27 (defBody s27) = true := by decide +kernel
abbrev s28 : Stmt := top 32
def N28 : List Str := ["stream", "rings", "k", "clips"]
def P28 : List Str := ["stream"]
def c28_3 : CSs := .cons (.ret (.tup (.cons (.loc 1) (.cons (.call 19 (.cons (.loc 0) (.cons (.lst (.cons (.cst (.str "whole")) (.cons (.cst (.str "odd")) .nil))) .nil))) (.cons (.bi .tuple (.loc 3)) .nil))))) .nil
def c28_2 : CSs := .cons (.setF 3 (.comp (.name 2) (.rng1 (.bi .int (.cmp .eq (.call 12 (.cons (.loc 0) (.cons (.cst (.int 3)) .nil))) (.cst (.int 0))))) .no (.tup (.cons (.tup (.cons (.call 27 (.cons (.loc 0) .nil)) .nil)) (.cons (.call 19 (.cons (.loc 0) (.cons (.lst (.cons (.cst (.str "whole")) (.cons (.cst (.str "odd")) .nil))) .nil))) .nil))) [2])) c28_3
def c28_1 : CSs := .cons (.setF 1 (.bi .tuple (.comp (.name 2) (.rng1 (.bin .addP (.cst (.int 1)) (.call 12 (.cons (.loc 0) (.cons (.cst (.int 2)) .nil))))) .no (.call 27 (.cons (.loc 0) .nil)) [2]))) c28_2
abbrev c28 : CSs := c28_1
theorem sc28 : FnScope N28 P28 (defScope s28) := ⟨rfl, rfl, rfl, by decide +kernel, rfl, by decide +kernel, by decide +kernel⟩
theorem ck28 : chkSs (M 28) ⟨N28, defScope s28, fun _ => true⟩ c28 (defBody s28) = true := by decide +kernel
abbrev s29 : Stmt := top 33
def N29 : List Str := ["stream", "rings", "pick", "ring", "a", "b", "k"]
def P29 : List Str := ["stream", "rings"]
def c29_8 : CSs := .cons (.ret (.call 26 (.cons (.loc 0) .nil))) .nil
def c29_7 : CSs := .cons (.ret (.bi .tuple (.comp (.name 6) (.rng1 (.cst (.int 2))) .no (.call 18 (.cons (.call 15 (.cons (.idx .any (.loc 4) (.loc 6)) (.cons (.idx .any (.loc 5) (.loc 6)) .nil))) (.cons (.tup (.cons (.cst (.int 2)) (.cons (.cst (.int 1)) .nil))) .nil))) [6]))) .nil
def c29_6 : CSs := .cons (.ite (.cmp .eq (.loc 2) (.cst (.int 1))) c29_7 .nil) c29_8
def c29_5 : CSs := .cons (.ret (.loc 4)) .nil
def c29_4 : CSs := .cons (.ite (.cmp .eq (.loc 2) (.cst (.int 0))) c29_5 .nil) c29_6
def c29_3 : CSs := .cons (.asg (.tup (.cons (.name 4) (.cons (.name 5) .nil))) (.tup (.cons (.call 19 (.cons (.loc 0) (.cons (.loc 3) .nil))) (.cons (.call 19 (.cons (.loc 0) (.cons (.loc 3) .nil))) .nil)))) c29_4
def c29_2 : CSs := .cons (.setF 3 (.call 19 (.cons (.loc 0) (.cons (.loc 1) .nil)))) c29_3
def c29_1 : CSs := .cons (.setF 2 (.call 12 (.cons (.loc 0) (.cons (.cst (.int 3)) .nil)))) c29_2
abbrev c29 : CSs := c29_1
theorem sc29 : FnScope N29 P29 (defScope s29) := ⟨rfl, rfl, rfl, by decide +kernel, rfl, by decide +kernel, by decide +kernel⟩
theorem ck29 : chkSs (M 29) ⟨N29, defScope s29, fun _ => true⟩ c29 (defBody s29) = true := by decide +kernel
abbrev s30 : Stmt := top 34
def N30 : List Str := ["script", "stream", "area", "k", "p", "due", "turned", "ring", "at", "parts", "moved", "a", "b", "c", "xs", "boxes", "low", "high", "found", "box"]
def P30 : List Str := ["script"]
def c30_28 : CSs := .cons (.ret (.cmp .eq (.loc 18) (.bi .int (.and (.chn .le .lt (.idx .any (.loc 14) (.cst (.int 0))) (.idx .any (.idx .any (.loc 4) (.cst (.int 0))) (.cst (.int 0))) (.idx .any (.loc 14) (.cst (.int 2)))) (.cmp .lt (.idx .any (.idx .any (.loc 4) (.cst (.int 1))) (.cst (.int 0))) (.cst (.int 4))))))) .nil
def c30_27 : CSs := .cons (.setF 18 (.bi .sum (.comp (.name 19) (.seq (.loc 15)) .no (.bi .int (.call 10 (.cons (.tup (.cons (.tup (.cons (.loc 19) .nil)) (.cons (.cst (.str "whole")) (.cons (.tup .nil) .nil)))) (.cons (.loc 4) .nil)))) [19]))) c30_28
def c30_26 : CSs := .cons (.setF 4 (.tup (.cons (.tup (.cons (.call 12 (.cons (.loc 1) (.cons (.cst (.int 9)) .nil))) (.cons (.cst (.int 1)) .nil))) (.cons (.tup (.cons (.call 12 (.cons (.loc 1) (.cons (.cst (.int 5)) .nil))) (.cons (.cst (.int 1)) .nil))) .nil)))) c30_27
def c30_25 : CSs := .cons (.app 15 (.tup (.cons (.tup (.cons (.tup (.cons (.loc 16) (.cons (.cst (.int 1)) .nil))) (.cons (.tup (.cons (.cst (.int 0)) (.cons (.cst (.int 1)) .nil))) .nil))) (.cons (.tup (.cons (.tup (.cons (.loc 17) (.cons (.cst (.int 1)) .nil))) (.cons (.tup (.cons (.cst (.int 0)) (.cons (.cst (.int 1)) .nil))) .nil))) (.cons (.tup (.cons (.tup (.cons (.loc 17) (.cons (.cst (.int 1)) .nil))) (.cons (.tup (.cons (.cst (.int 4)) (.cons (.cst (.int 1)) .nil))) .nil))) (.cons (.tup (.cons (.tup (.cons (.loc 16) (.cons (.cst (.int 1)) .nil))) (.cons (.tup (.cons (.cst (.int 4)) (.cons (.cst (.int 1)) .nil))) .nil))) .nil)))))) .nil
def c30_24 : CSs := .cons (.for (.tup (.cons (.name 16) (.cons (.name 17) .nil))) (.seq (.tup (.cons (.tup (.cons (.idx .any (.loc 14) (.cst (.int 0))) (.cons (.idx .any (.loc 14) (.cst (.int 1))) .nil))) (.cons (.tup (.cons (.idx .any (.loc 14) (.cst (.int 1))) (.cons (.idx .any (.loc 14) (.cst (.int 2))) .nil))) .nil)))) c30_25) (.frz 15 c30_26)
def c30_23 : CSs := .cons (.set 15 (.lst .nil)) c30_24
def c30_22 : CSs := .cons (.setF 14 (.bi .sorted (.comp (.name 3) (.rng1 (.cst (.int 3))) .no (.call 12 (.cons (.loc 1) (.cons (.cst (.int 9)) .nil))) [3]))) c30_23
def c30_21 : CSs := .cons (.par3 11 12 13 (.call 26 (.cons (.loc 1) .nil)) (.call 26 (.cons (.loc 1) .nil)) (.call 26 (.cons (.loc 1) .nil))) c30_22
def c30_20 : CSs := .cons (.ret (.cst (.bl false))) .nil
def c30_19 : CSs := .cons (.ite (.not (.val (.call 20 (.cons (.call 8 (.cons (.tup (.cons (.loc 10) .nil)) (.cons (.loc 4) .nil))) (.cons (.call 8 (.cons (.tup (.cons (.loc 7) .nil)) (.cons (.loc 4) .nil))) .nil))))) c30_20 .nil) .nil
def c30_18 : CSs := .cons (.setF 10 (.bin .addP (.slc .any (.idx .any (.idx .any (.loc 2) (.cst (.int 0))) (.cst (.int 0))) (.yes (.loc 8)) .no) (.slc .any (.idx .any (.idx .any (.loc 2) (.cst (.int 0))) (.cst (.int 0))) .no (.yes (.loc 8))))) c30_19
def c30_17 : CSs := .cons (.ret (.cst (.bl false))) .nil
def c30_16 : CSs := .cons (.ite (.not (.val (.call 20 (.cons (.call 8 (.cons (.loc 9) (.cons (.loc 4) .nil))) (.cons (.call 8 (.cons (.tup (.cons (.loc 7) .nil)) (.cons (.loc 4) .nil))) .nil))))) c30_17 .nil) c30_18
def c30_15 : CSs := .cons (.setF 9 (.tup (.cons (.slc .any (.loc 7) .no (.yes (.bin .addP (.loc 8) (.cst (.int 1))))) (.cons (.bin .addP (.slc .any (.loc 7) (.yes (.loc 8)) .no) (.slc .any (.loc 7) .no (.yes (.cst (.int 1))))) .nil)))) c30_16
def c30_14 : CSs := .cons (.setF 8 (.bin .addP (.cst (.int 1)) (.call 12 (.cons (.loc 1) (.cons (.bin .subP (.bi .lenP (.loc 7)) (.cst (.int 1))) .nil))))) c30_15
def c30_13 : CSs := .cons (.setF 7 (.idx .any (.idx .any (.loc 2) (.cst (.int 0))) (.cst (.int 0)))) c30_14
def c30_12 : CSs := .cons (.ret (.cst (.bl false))) .nil
def c30_11 : CSs := .cons (.ite (.not (.val (.call 20 (.cons (.call 8 (.cons (.loc 6) (.cons (.loc 4) .nil))) (.cons (.neg (.loc 5)) .nil))))) c30_12 .nil) c30_13
def c30_10 : CSs := .cons (.setF 6 (.bi .tuple (.comp (.name 7) (.seq (.idx .any (.loc 2) (.cst (.int 0)))) .no (.slc .revT (.loc 7) .no .no) [7]))) c30_11
def c30_9 : CSs := .cons (.ret (.cst (.bl false))) .nil
def c30_8 : CSs := .cons (.ite (.or (.not (.val (.call 20 (.cons (.call 9 (.cons (.idx .any (.loc 2) (.cst (.int 0))) (.cons (.cst (.str "odd")) (.cons (.loc 4) .nil)))) (.cons (.cmp .eq (.bin .mod (.loc 5) (.cst (.int 2))) (.cst (.int 1))) .nil))))) (.not (.val (.call 20 (.cons (.call 9 (.cons (.idx .any (.loc 2) (.cst (.int 0))) (.cons (.cst (.str "whole")) (.cons (.loc 4) .nil)))) (.cons (.cmp .ne (.loc 5) (.cst (.int 0))) .nil)))))) c30_9 .nil) c30_10
def c30_7 : CSs := .cons (.ret (.cst (.bl false))) .nil
def c30_6 : CSs := .cons (.ite (.or (.not (.val (.call 20 (.cons (.call 8 (.cons (.idx .any (.loc 2) (.cst (.int 0))) (.cons (.loc 4) .nil))) (.cons (.loc 5) .nil))))) (.not (.val (.call 20 (.cons (.call 10 (.cons (.loc 2) (.cons (.loc 4) .nil))) (.cons (.call 24 (.cons (.loc 2) (.cons (.loc 4) .nil))) .nil)))))) c30_7 .nil) c30_8
def c30_5 : CSs := .cons (.setF 5 (.call 23 (.cons (.idx .any (.loc 2) (.cst (.int 0))) (.cons (.loc 4) .nil)))) c30_6
def c30_4 : CSs := .cons (.setF 4 (.call 29 (.cons (.loc 1) (.cons (.idx .any (.loc 2) (.cst (.int 0))) .nil)))) c30_5
def c30_3 : CSs := .cons (.for (.name 3) (.rng1 (.cst (.int 6))) c30_4) c30_21
def c30_2 : CSs := .cons (.setF 2 (.call 28 (.cons (.loc 1) .nil))) c30_3
def c30_1 : CSs := .cons (.setF 1 (.call 11 (.cons (.loc 0) .nil))) c30_2
abbrev c30 : CSs := c30_1
theorem sc30 : FnScope N30 P30 (defScope s30) := ⟨rfl, rfl, rfl, by decide +kernel, rfl, by decide +kernel, by decide +kernel⟩
theorem ck30 : chkSs (M 30) ⟨N30, defScope s30, fun _ => true⟩ c30 (defBody s30) = true := by decide +kernel
end K14
namespace K14
open PySem DL DC
def Tnumber : DSp := fun ds G Q _ => ∃ a, ds = [.ref a] ∧ G a = some .strm ∧ ∀ q : Rat, Sz 8 q → Q (nfD q) G
def Tpoint : DSp := fun ds G Q _ => ∃ a, ds = [.ref a] ∧ G a = some .strm ∧ ∀ p : Pt, PtOk 8 p → Q (ptD p) G
def RingOk (r : List Pt) : Prop := 3 ≤ r.length ∧ r.length ≤ 5 ∧ ∀ p ∈ r, PtOk 8 p
def Tring : DSp := fun ds G Q _ => ∃ a, ds = [.ref a] ∧ G a = some .strm ∧ ∀ r : List Pt, RingOk r → Q (ringD r) G
def AreaOk (a : Area) : Prop := (1 ≤ a.rings.length ∧ a.rings.length ≤ 2 ∧ ∀ r ∈ a.rings, RingOk r) ∧ RuleOk a.rule ∧ a.clips.length ≤ 1 ∧ ∀ c ∈ a.clips, (∃ r, c.1 = [r] ∧ RingOk r) ∧ RuleOk c.2
def Tarea : DSp := fun ds G Q _ => ∃ a, ds = [.ref a] ∧ G a = some .strm ∧ ∀ x : Area, AreaOk x → Q (areaD x) G
def Tnear : DSp := fun ds G Q _ => ∃ a rs, ds = [.ref a, ringsD rs] ∧ G a = some .strm ∧ (1 ≤ rs.length ∧ rs.length ≤ 2 ∧ ∀ r ∈ rs, RingOk r) ∧ ∀ p : Pt, PtOk 20 p → Q (ptD p) G
def sp : Nat → DSp
  | 0 => Tcommon | 1 => Tfraction | 2 => T2 (· - ·) | 3 => T2 (· * ·) | 4 => Tsign | 5 => Tless | 6 => Tedges | 7 => Tside | 8 => Tturns | 9 => Tisin | 10 => Thas | 11 => Tstream | 12 => Tdraw
  | 13 => Tcommon | 14 => Tfraction | 15 => T2 (· + ·) | 16 => T2 (· * ·) | 17 => Tneg | 18 => Tdivi | 19 => Tpick | 20 => Tsame 0 | 21 => Tless | 22 => Tlside | 23 => Tturns | 24 => Thas
  | 25 => Tnumber | 26 => Tpoint | 27 => Tring | 28 => Tarea | 29 => Tnear | 30 => Tlaw | _ => Tnone
def S : Sg := ⟨sp, fun _ => .str "whole"⟩
theorem h8 : S.sp 8 = Tturns := rfl
theorem h9 : S.sp 9 = Tisin := rfl
theorem h10 : S.sp 10 = Thas := rfl
theorem h11 : S.sp 11 = Tstream := rfl
theorem h12 : S.sp 12 = Tdraw := rfl
theorem h14 : S.sp 14 = Tfraction := rfl
theorem h15 : S.sp 15 = T2 (· + ·) := rfl
theorem h18 : S.sp 18 = Tdivi := rfl
theorem h19 : S.sp 19 = Tpick := rfl
theorem h20 : S.sp 20 = Tsame 0 := rfl
theorem h23 : S.sp 23 = Tturns := rfl
theorem h24 : S.sp 24 = Thas := rfl
theorem h25 : S.sp 25 = Tnumber := rfl
theorem h26 : S.sp 26 = Tpoint := rfl
theorem h27 : S.sp 27 = Tring := rfl
theorem h28 : S.sp 28 = Tarea := rfl
theorem h29 : S.sp 29 = Tnear := rfl
theorem run_number : ∀ ds G Q E, Tnumber ds G Q E → runB S N25 c25_1 ds G Q E := by
  rintro ds G Q E ⟨a, rfl, ga, h⟩
  simp only [run_eq, startL, N25, c25_1, DL.e_loc, DL.e_cst, DL.e_gc, DL.e_bin, DL.e_neg, DL.e_cmp, DL.e_chn, DL.e_and, DL.e_or, DL.e_not, DL.e_ite, DL.e_idx, DL.e_gidx, DL.e_slc, DL.e_tup, DL.e_lst, DL.e_call, DL.e_bi, DL.e_inst, DL.e_comp, DL.e_nev, DL.e_nil, DL.e_cons, DL.e_no, DL.e_yes, DL.b_val, DL.b_cmp, DL.b_chn, DL.b_and, DL.b_or, DL.b_not, DL.b_no, DL.b_one, DL.i_seq, DL.i_rng1, DL.i_rng2, DL.i_enum, DL.i_zip, DL.s_set, DL.s_setF, DL.s_asg, DL.s_par, DL.s_par3, DL.s_aug, DL.s_app, DL.s_ext, DL.s_pop, DL.s_expr, DL.s_ret, DL.s_retT, DL.s_ite, DL.s_whl, DL.s_for, DL.s_gset, DL.s_brk, DL.s_cnt, DL.s_nil, DL.s_cons, DL.s_frz, DL.t_name, DL.t_tup, DL.t_nil, DL.t_cons, DL.t_len0, DL.t_len1, DL.k_locd, DL.k_loco, DL.k_neg, DL.k_tt, DL.k_ff, DL.k_any, DL.k_lst, DL.k_int, DL.k_dat, DL.k_ty, DL.k_keep, DL.k_own, DL.k_slot, DL.k_new, DL.k_seqt, DL.k_seql, DL.k_seqs, DL.k_seqo, DL.k_enut, DL.k_enul, DL.k_enuo, DL.k_zipt, DL.k_zipl, DL.k_gix, DL.k_gst, DL.k_setd, DL.k_seto, DL.a_dd, DL.a_do, DL.a_rd, DL.a_ro, DL.a_rb, DL.a_nil, DL.a_d, DL.a_o, DL.a_l, DL.a_lo, DL.a_lb, DL.o_add, DL.o_addb, DL.o_adds, DL.o_addt, DL.o_sub, DL.o_subb, DL.o_subbb, DL.o_iadd, DL.o_iaddb, DL.o_isub, DL.o_isubb, DL.o_mul, DL.o_fdiv, DL.o_mod, DL.o_lt, DL.o_le, DL.o_gt, DL.o_ge, DL.o_eq, DL.o_ne, DL.o_isn, DL.o_notn, DL.o_isb, DL.o_notb, DL.o_idxt, DL.o_idxl, DL.o_idxo, DL.o_idxb, DL.o_slct, DL.o_slcl, DL.o_slco, DL.o_slcb, DL.o_rev, DL.o_lent, DL.o_lenl, DL.o_lens, DL.o_leno, DL.o_lenb, DL.o_lenstr, DL.o_abs, DL.o_int, DL.o_intb, DL.o_tupo, DL.o_tupl, DL.o_tupt, DL.o_tupb, DL.o_lso, DL.o_lsl, DL.o_lst, DL.o_lss, DL.o_lsb, DL.o_all, DL.o_anyy, DL.o_sum, DL.o_sorted, DL.u_bl, DL.u_int, DL.u_non, DL.u_tup, DL.u_lst, DL.u_own, DL.u_bor, DL.x_0, DL.x_1, DL.x_2, DL.x_3, DL.x_4, DL.x_5, DL.y_tuplenon, DL.y_tuplebl, DL.y_tupleint, DL.y_tuplestr, DL.y_tupletup, DL.y_tuplelst, DL.y_listnon, DL.y_listbl, DL.y_listint, DL.y_liststr, DL.y_listtup, DL.y_listlst, DL.y_dictnon, DL.y_dictbl, DL.y_dictint, DL.y_dictstr, DL.y_dicttup, DL.y_dictlst, DL.y_strnon, DL.y_strbl, DL.y_strint, DL.y_strstr, DL.y_strtup, DL.y_strlst, DL.y_intnon, DL.y_intbl, DL.y_intint, DL.y_intstr, DL.y_inttup, DL.y_intlst, DL.y_boolnon, DL.y_boolbl, DL.y_boolint, DL.y_boolstr, DL.y_booltup, DL.y_boollst, DL.j_n1, DL.j_n2, DL.j_n3, DL.j_n4, DL.j_n5, DL.j_f1, DL.j_f2, DL.j_f3, DL.j_f4, DL.j_f5, DL.j_w1, DL.j_w2, DL.j_w3, DL.j_w4, DL.j_w5, DL.j_01, DL.j_02, DL.j_03, DL.eqD_int, DL.eqOk_int, List.getElem?_cons_zero, List.getElem?_cons_succ, List.set_cons_zero, List.set_cons_succ, List.length_cons, List.length_nil, Option.map_some, Option.map_none, true_and, eq_self, List.map_cons, List.map_nil, Nat.reduceAdd, Nat.reduceSub, List.replicate_succ, List.replicate_zero, List.append_nil, List.cons_append, List.nil_append, h12, h14]
  refine Tdraw_of (by decide) (by decide) ga fun n n0 n1 => ?_
  simp only [DL.e_loc, DL.e_cst, DL.e_gc, DL.e_bin, DL.e_neg, DL.e_cmp, DL.e_chn, DL.e_and, DL.e_or, DL.e_not, DL.e_ite, DL.e_idx, DL.e_gidx, DL.e_slc, DL.e_tup, DL.e_lst, DL.e_call, DL.e_bi, DL.e_inst, DL.e_comp, DL.e_nev, DL.e_nil, DL.e_cons, DL.e_no, DL.e_yes, DL.b_val, DL.b_cmp, DL.b_chn, DL.b_and, DL.b_or, DL.b_not, DL.b_no, DL.b_one, DL.i_seq, DL.i_rng1, DL.i_rng2, DL.i_enum, DL.i_zip, DL.s_set, DL.s_setF, DL.s_asg, DL.s_par, DL.s_par3, DL.s_aug, DL.s_app, DL.s_ext, DL.s_pop, DL.s_expr, DL.s_ret, DL.s_retT, DL.s_ite, DL.s_whl, DL.s_for, DL.s_gset, DL.s_brk, DL.s_cnt, DL.s_nil, DL.s_cons, DL.s_frz, DL.t_name, DL.t_tup, DL.t_nil, DL.t_cons, DL.t_len0, DL.t_len1, DL.k_locd, DL.k_loco, DL.k_neg, DL.k_tt, DL.k_ff, DL.k_any, DL.k_lst, DL.k_int, DL.k_dat, DL.k_ty, DL.k_keep, DL.k_own, DL.k_slot, DL.k_new, DL.k_seqt, DL.k_seql, DL.k_seqs, DL.k_seqo, DL.k_enut, DL.k_enul, DL.k_enuo, DL.k_zipt, DL.k_zipl, DL.k_gix, DL.k_gst, DL.k_setd, DL.k_seto, DL.a_dd, DL.a_do, DL.a_rd, DL.a_ro, DL.a_rb, DL.a_nil, DL.a_d, DL.a_o, DL.a_l, DL.a_lo, DL.a_lb, DL.o_add, DL.o_addb, DL.o_adds, DL.o_addt, DL.o_sub, DL.o_subb, DL.o_subbb, DL.o_iadd, DL.o_iaddb, DL.o_isub, DL.o_isubb, DL.o_mul, DL.o_fdiv, DL.o_mod, DL.o_lt, DL.o_le, DL.o_gt, DL.o_ge, DL.o_eq, DL.o_ne, DL.o_isn, DL.o_notn, DL.o_isb, DL.o_notb, DL.o_idxt, DL.o_idxl, DL.o_idxo, DL.o_idxb, DL.o_slct, DL.o_slcl, DL.o_slco, DL.o_slcb, DL.o_rev, DL.o_lent, DL.o_lenl, DL.o_lens, DL.o_leno, DL.o_lenb, DL.o_lenstr, DL.o_abs, DL.o_int, DL.o_intb, DL.o_tupo, DL.o_tupl, DL.o_tupt, DL.o_tupb, DL.o_lso, DL.o_lsl, DL.o_lst, DL.o_lss, DL.o_lsb, DL.o_all, DL.o_anyy, DL.o_sum, DL.o_sorted, DL.u_bl, DL.u_int, DL.u_non, DL.u_tup, DL.u_lst, DL.u_own, DL.u_bor, DL.x_0, DL.x_1, DL.x_2, DL.x_3, DL.x_4, DL.x_5, DL.y_tuplenon, DL.y_tuplebl, DL.y_tupleint, DL.y_tuplestr, DL.y_tupletup, DL.y_tuplelst, DL.y_listnon, DL.y_listbl, DL.y_listint, DL.y_liststr, DL.y_listtup, DL.y_listlst, DL.y_dictnon, DL.y_dictbl, DL.y_dictint, DL.y_dictstr, DL.y_dicttup, DL.y_dictlst, DL.y_strnon, DL.y_strbl, DL.y_strint, DL.y_strstr, DL.y_strtup, DL.y_strlst, DL.y_intnon, DL.y_intbl, DL.y_intint, DL.y_intstr, DL.y_inttup, DL.y_intlst, DL.y_boolnon, DL.y_boolbl, DL.y_boolint, DL.y_boolstr, DL.y_booltup, DL.y_boollst, DL.j_n1, DL.j_n2, DL.j_n3, DL.j_n4, DL.j_n5, DL.j_f1, DL.j_f2, DL.j_f3, DL.j_f4, DL.j_f5, DL.j_w1, DL.j_w2, DL.j_w3, DL.j_w4, DL.j_w5, DL.j_01, DL.j_02, DL.j_03, DL.eqD_int, DL.eqOk_int, List.getElem?_cons_zero, List.getElem?_cons_succ, List.set_cons_zero, List.set_cons_succ, List.length_cons, List.length_nil, Option.map_some, Option.map_none, true_and, eq_self, h12]
  refine Tdraw_of (by decide) (by decide) ga fun d d0 d1 => ?_
  simp only [DL.e_loc, DL.e_cst, DL.e_gc, DL.e_bin, DL.e_neg, DL.e_cmp, DL.e_chn, DL.e_and, DL.e_or, DL.e_not, DL.e_ite, DL.e_idx, DL.e_gidx, DL.e_slc, DL.e_tup, DL.e_lst, DL.e_call, DL.e_bi, DL.e_inst, DL.e_comp, DL.e_nev, DL.e_nil, DL.e_cons, DL.e_no, DL.e_yes, DL.b_val, DL.b_cmp, DL.b_chn, DL.b_and, DL.b_or, DL.b_not, DL.b_no, DL.b_one, DL.i_seq, DL.i_rng1, DL.i_rng2, DL.i_enum, DL.i_zip, DL.s_set, DL.s_setF, DL.s_asg, DL.s_par, DL.s_par3, DL.s_aug, DL.s_app, DL.s_ext, DL.s_pop, DL.s_expr, DL.s_ret, DL.s_retT, DL.s_ite, DL.s_whl, DL.s_for, DL.s_gset, DL.s_brk, DL.s_cnt, DL.s_nil, DL.s_cons, DL.s_frz, DL.t_name, DL.t_tup, DL.t_nil, DL.t_cons, DL.t_len0, DL.t_len1, DL.k_locd, DL.k_loco, DL.k_neg, DL.k_tt, DL.k_ff, DL.k_any, DL.k_lst, DL.k_int, DL.k_dat, DL.k_ty, DL.k_keep, DL.k_own, DL.k_slot, DL.k_new, DL.k_seqt, DL.k_seql, DL.k_seqs, DL.k_seqo, DL.k_enut, DL.k_enul, DL.k_enuo, DL.k_zipt, DL.k_zipl, DL.k_gix, DL.k_gst, DL.k_setd, DL.k_seto, DL.a_dd, DL.a_do, DL.a_rd, DL.a_ro, DL.a_rb, DL.a_nil, DL.a_d, DL.a_o, DL.a_l, DL.a_lo, DL.a_lb, DL.o_add, DL.o_addb, DL.o_adds, DL.o_addt, DL.o_sub, DL.o_subb, DL.o_subbb, DL.o_iadd, DL.o_iaddb, DL.o_isub, DL.o_isubb, DL.o_mul, DL.o_fdiv, DL.o_mod, DL.o_lt, DL.o_le, DL.o_gt, DL.o_ge, DL.o_eq, DL.o_ne, DL.o_isn, DL.o_notn, DL.o_isb, DL.o_notb, DL.o_idxt, DL.o_idxl, DL.o_idxo, DL.o_idxb, DL.o_slct, DL.o_slcl, DL.o_slco, DL.o_slcb, DL.o_rev, DL.o_lent, DL.o_lenl, DL.o_lens, DL.o_leno, DL.o_lenb, DL.o_lenstr, DL.o_abs, DL.o_int, DL.o_intb, DL.o_tupo, DL.o_tupl, DL.o_tupt, DL.o_tupb, DL.o_lso, DL.o_lsl, DL.o_lst, DL.o_lss, DL.o_lsb, DL.o_all, DL.o_anyy, DL.o_sum, DL.o_sorted, DL.u_bl, DL.u_int, DL.u_non, DL.u_tup, DL.u_lst, DL.u_own, DL.u_bor, DL.x_0, DL.x_1, DL.x_2, DL.x_3, DL.x_4, DL.x_5, DL.y_tuplenon, DL.y_tuplebl, DL.y_tupleint, DL.y_tuplestr, DL.y_tupletup, DL.y_tuplelst, DL.y_listnon, DL.y_listbl, DL.y_listint, DL.y_liststr, DL.y_listtup, DL.y_listlst, DL.y_dictnon, DL.y_dictbl, DL.y_dictint, DL.y_dictstr, DL.y_dicttup, DL.y_dictlst, DL.y_strnon, DL.y_strbl, DL.y_strint, DL.y_strstr, DL.y_strtup, DL.y_strlst, DL.y_intnon, DL.y_intbl, DL.y_intint, DL.y_intstr, DL.y_inttup, DL.y_intlst, DL.y_boolnon, DL.y_boolbl, DL.y_boolint, DL.y_boolstr, DL.y_booltup, DL.y_boollst, DL.j_n1, DL.j_n2, DL.j_n3, DL.j_n4, DL.j_n5, DL.j_f1, DL.j_f2, DL.j_f3, DL.j_f4, DL.j_f5, DL.j_w1, DL.j_w2, DL.j_w3, DL.j_w4, DL.j_w5, DL.j_01, DL.j_02, DL.j_03, DL.eqD_int, DL.eqOk_int, List.getElem?_cons_zero, List.getElem?_cons_succ, List.set_cons_zero, List.set_cons_succ, List.length_cons, List.length_nil, Option.map_some, Option.map_none, true_and, eq_self, h14]
  have b1 : Bd 8 (n - 4) := by unfold Bd; omega
  have b2 : Bd 8 (1 + d) := by unfold Bd; omega
  exact ⟨_, _, rfl, by omega, b1.mono (by decide), b2.mono (by decide), h _ (sz_divInt (by omega) b1 b2)⟩
theorem run_point : ∀ ds G Q E, Tpoint ds G Q E → runB S N26 c26_1 ds G Q E := by
  rintro ds G Q E ⟨a, rfl, ga, h⟩
  simp only [run_eq, startL, N26, c26_1, DL.e_loc, DL.e_cst, DL.e_gc, DL.e_bin, DL.e_neg, DL.e_cmp, DL.e_chn, DL.e_and, DL.e_or, DL.e_not, DL.e_ite, DL.e_idx, DL.e_gidx, DL.e_slc, DL.e_tup, DL.e_lst, DL.e_call, DL.e_bi, DL.e_inst, DL.e_comp, DL.e_nev, DL.e_nil, DL.e_cons, DL.e_no, DL.e_yes, DL.b_val, DL.b_cmp, DL.b_chn, DL.b_and, DL.b_or, DL.b_not, DL.b_no, DL.b_one, DL.i_seq, DL.i_rng1, DL.i_rng2, DL.i_enum, DL.i_zip, DL.s_set, DL.s_setF, DL.s_asg, DL.s_par, DL.s_par3, DL.s_aug, DL.s_app, DL.s_ext, DL.s_pop, DL.s_expr, DL.s_ret, DL.s_retT, DL.s_ite, DL.s_whl, DL.s_for, DL.s_gset, DL.s_brk, DL.s_cnt, DL.s_nil, DL.s_cons, DL.s_frz, DL.t_name, DL.t_tup, DL.t_nil, DL.t_cons, DL.t_len0, DL.t_len1, DL.k_locd, DL.k_loco, DL.k_neg, DL.k_tt, DL.k_ff, DL.k_any, DL.k_lst, DL.k_int, DL.k_dat, DL.k_ty, DL.k_keep, DL.k_own, DL.k_slot, DL.k_new, DL.k_seqt, DL.k_seql, DL.k_seqs, DL.k_seqo, DL.k_enut, DL.k_enul, DL.k_enuo, DL.k_zipt, DL.k_zipl, DL.k_gix, DL.k_gst, DL.k_setd, DL.k_seto, DL.a_dd, DL.a_do, DL.a_rd, DL.a_ro, DL.a_rb, DL.a_nil, DL.a_d, DL.a_o, DL.a_l, DL.a_lo, DL.a_lb, DL.o_add, DL.o_addb, DL.o_adds, DL.o_addt, DL.o_sub, DL.o_subb, DL.o_subbb, DL.o_iadd, DL.o_iaddb, DL.o_isub, DL.o_isubb, DL.o_mul, DL.o_fdiv, DL.o_mod, DL.o_lt, DL.o_le, DL.o_gt, DL.o_ge, DL.o_eq, DL.o_ne, DL.o_isn, DL.o_notn, DL.o_isb, DL.o_notb, DL.o_idxt, DL.o_idxl, DL.o_idxo, DL.o_idxb, DL.o_slct, DL.o_slcl, DL.o_slco, DL.o_slcb, DL.o_rev, DL.o_lent, DL.o_lenl, DL.o_lens, DL.o_leno, DL.o_lenb, DL.o_lenstr, DL.o_abs, DL.o_int, DL.o_intb, DL.o_tupo, DL.o_tupl, DL.o_tupt, DL.o_tupb, DL.o_lso, DL.o_lsl, DL.o_lst, DL.o_lss, DL.o_lsb, DL.o_all, DL.o_anyy, DL.o_sum, DL.o_sorted, DL.u_bl, DL.u_int, DL.u_non, DL.u_tup, DL.u_lst, DL.u_own, DL.u_bor, DL.x_0, DL.x_1, DL.x_2, DL.x_3, DL.x_4, DL.x_5, DL.y_tuplenon, DL.y_tuplebl, DL.y_tupleint, DL.y_tuplestr, DL.y_tupletup, DL.y_tuplelst, DL.y_listnon, DL.y_listbl, DL.y_listint, DL.y_liststr, DL.y_listtup, DL.y_listlst, DL.y_dictnon, DL.y_dictbl, DL.y_dictint, DL.y_dictstr, DL.y_dicttup, DL.y_dictlst, DL.y_strnon, DL.y_strbl, DL.y_strint, DL.y_strstr, DL.y_strtup, DL.y_strlst, DL.y_intnon, DL.y_intbl, DL.y_intint, DL.y_intstr, DL.y_inttup, DL.y_intlst, DL.y_boolnon, DL.y_boolbl, DL.y_boolint, DL.y_boolstr, DL.y_booltup, DL.y_boollst, DL.j_n1, DL.j_n2, DL.j_n3, DL.j_n4, DL.j_n5, DL.j_f1, DL.j_f2, DL.j_f3, DL.j_f4, DL.j_f5, DL.j_w1, DL.j_w2, DL.j_w3, DL.j_w4, DL.j_w5, DL.j_01, DL.j_02, DL.j_03, DL.eqD_int, DL.eqOk_int, List.getElem?_cons_zero, List.getElem?_cons_succ, List.set_cons_zero, List.set_cons_succ, List.length_cons, List.length_nil, Option.map_some, Option.map_none, true_and, eq_self, List.map_cons, List.map_nil, Nat.reduceAdd, Nat.reduceSub, List.replicate_succ, List.replicate_zero, List.append_nil, List.cons_append, List.nil_append, h25]
  refine ⟨a, rfl, ga, fun x hx => ⟨a, rfl, ga, fun y hy => ?_⟩⟩
  exact ⟨Nat.le_of_ble_eq_true rfl, h (x, y) ⟨hx, hy⟩⟩
theorem run_ring : ∀ ds G Q E, Tring ds G Q E → runB S N27 c27_1 ds G Q E := by
  rintro ds G Q E ⟨a, rfl, ga, h⟩
  simp only [run_eq, startL, N27, c27_1, DL.e_loc, DL.e_cst, DL.e_gc, DL.e_bin, DL.e_neg, DL.e_cmp, DL.e_chn, DL.e_and, DL.e_or, DL.e_not, DL.e_ite, DL.e_idx, DL.e_gidx, DL.e_slc, DL.e_tup, DL.e_lst, DL.e_call, DL.e_bi, DL.e_inst, DL.e_comp, DL.e_nev, DL.e_nil, DL.e_cons, DL.e_no, DL.e_yes, DL.b_val, DL.b_cmp, DL.b_chn, DL.b_and, DL.b_or, DL.b_not, DL.b_no, DL.b_one, DL.i_seq, DL.i_rng1, DL.i_rng2, DL.i_enum, DL.i_zip, DL.s_set, DL.s_setF, DL.s_asg, DL.s_par, DL.s_par3, DL.s_aug, DL.s_app, DL.s_ext, DL.s_pop, DL.s_expr, DL.s_ret, DL.s_retT, DL.s_ite, DL.s_whl, DL.s_for, DL.s_gset, DL.s_brk, DL.s_cnt, DL.s_nil, DL.s_cons, DL.s_frz, DL.t_name, DL.t_tup, DL.t_nil, DL.t_cons, DL.t_len0, DL.t_len1, DL.k_locd, DL.k_loco, DL.k_neg, DL.k_tt, DL.k_ff, DL.k_any, DL.k_lst, DL.k_int, DL.k_dat, DL.k_ty, DL.k_keep, DL.k_own, DL.k_slot, DL.k_new, DL.k_seqt, DL.k_seql, DL.k_seqs, DL.k_seqo, DL.k_enut, DL.k_enul, DL.k_enuo, DL.k_zipt, DL.k_zipl, DL.k_gix, DL.k_gst, DL.k_setd, DL.k_seto, DL.a_dd, DL.a_do, DL.a_rd, DL.a_ro, DL.a_rb, DL.a_nil, DL.a_d, DL.a_o, DL.a_l, DL.a_lo, DL.a_lb, DL.o_add, DL.o_addb, DL.o_adds, DL.o_addt, DL.o_sub, DL.o_subb, DL.o_subbb, DL.o_iadd, DL.o_iaddb, DL.o_isub, DL.o_isubb, DL.o_mul, DL.o_fdiv, DL.o_mod, DL.o_lt, DL.o_le, DL.o_gt, DL.o_ge, DL.o_eq, DL.o_ne, DL.o_isn, DL.o_notn, DL.o_isb, DL.o_notb, DL.o_idxt, DL.o_idxl, DL.o_idxo, DL.o_idxb, DL.o_slct, DL.o_slcl, DL.o_slco, DL.o_slcb, DL.o_rev, DL.o_lent, DL.o_lenl, DL.o_lens, DL.o_leno, DL.o_lenb, DL.o_lenstr, DL.o_abs, DL.o_int, DL.o_intb, DL.o_tupo, DL.o_tupl, DL.o_tupt, DL.o_tupb, DL.o_lso, DL.o_lsl, DL.o_lst, DL.o_lss, DL.o_lsb, DL.o_all, DL.o_anyy, DL.o_sum, DL.o_sorted, DL.u_bl, DL.u_int, DL.u_non, DL.u_tup, DL.u_lst, DL.u_own, DL.u_bor, DL.x_0, DL.x_1, DL.x_2, DL.x_3, DL.x_4, DL.x_5, DL.y_tuplenon, DL.y_tuplebl, DL.y_tupleint, DL.y_tuplestr, DL.y_tupletup, DL.y_tuplelst, DL.y_listnon, DL.y_listbl, DL.y_listint, DL.y_liststr, DL.y_listtup, DL.y_listlst, DL.y_dictnon, DL.y_dictbl, DL.y_dictint, DL.y_dictstr, DL.y_dicttup, DL.y_dictlst, DL.y_strnon, DL.y_strbl, DL.y_strint, DL.y_strstr, DL.y_strtup, DL.y_strlst, DL.y_intnon, DL.y_intbl, DL.y_intint, DL.y_intstr, DL.y_inttup, DL.y_intlst, DL.y_boolnon, DL.y_boolbl, DL.y_boolint, DL.y_boolstr, DL.y_booltup, DL.y_boollst, DL.j_n1, DL.j_n2, DL.j_n3, DL.j_n4, DL.j_n5, DL.j_f1, DL.j_f2, DL.j_f3, DL.j_f4, DL.j_f5, DL.j_w1, DL.j_w2, DL.j_w3, DL.j_w4, DL.j_w5, DL.j_01, DL.j_02, DL.j_03, DL.eqD_int, DL.eqOk_int, List.getElem?_cons_zero, List.getElem?_cons_succ, List.set_cons_zero, List.set_cons_succ, List.length_cons, List.length_nil, Option.map_some, Option.map_none, true_and, eq_self, List.map_cons, List.map_nil, Nat.reduceAdd, Nat.reduceSub, List.replicate_succ, List.replicate_zero, List.append_nil, List.cons_append, List.nil_append, h12]
  refine Tdraw_of (by decide) (by decide) ga fun n n0 n1 => ?_
  simp only [DL.e_loc, DL.e_cst, DL.e_gc, DL.e_bin, DL.e_neg, DL.e_cmp, DL.e_chn, DL.e_and, DL.e_or, DL.e_not, DL.e_ite, DL.e_idx, DL.e_gidx, DL.e_slc, DL.e_tup, DL.e_lst, DL.e_call, DL.e_bi, DL.e_inst, DL.e_comp, DL.e_nev, DL.e_nil, DL.e_cons, DL.e_no, DL.e_yes, DL.b_val, DL.b_cmp, DL.b_chn, DL.b_and, DL.b_or, DL.b_not, DL.b_no, DL.b_one, DL.i_seq, DL.i_rng1, DL.i_rng2, DL.i_enum, DL.i_zip, DL.s_set, DL.s_setF, DL.s_asg, DL.s_par, DL.s_par3, DL.s_aug, DL.s_app, DL.s_ext, DL.s_pop, DL.s_expr, DL.s_ret, DL.s_retT, DL.s_ite, DL.s_whl, DL.s_for, DL.s_gset, DL.s_brk, DL.s_cnt, DL.s_nil, DL.s_cons, DL.s_frz, DL.t_name, DL.t_tup, DL.t_nil, DL.t_cons, DL.t_len0, DL.t_len1, DL.k_locd, DL.k_loco, DL.k_neg, DL.k_tt, DL.k_ff, DL.k_any, DL.k_lst, DL.k_int, DL.k_dat, DL.k_ty, DL.k_keep, DL.k_own, DL.k_slot, DL.k_new, DL.k_seqt, DL.k_seql, DL.k_seqs, DL.k_seqo, DL.k_enut, DL.k_enul, DL.k_enuo, DL.k_zipt, DL.k_zipl, DL.k_gix, DL.k_gst, DL.k_setd, DL.k_seto, DL.a_dd, DL.a_do, DL.a_rd, DL.a_ro, DL.a_rb, DL.a_nil, DL.a_d, DL.a_o, DL.a_l, DL.a_lo, DL.a_lb, DL.o_add, DL.o_addb, DL.o_adds, DL.o_addt, DL.o_sub, DL.o_subb, DL.o_subbb, DL.o_iadd, DL.o_iaddb, DL.o_isub, DL.o_isubb, DL.o_mul, DL.o_fdiv, DL.o_mod, DL.o_lt, DL.o_le, DL.o_gt, DL.o_ge, DL.o_eq, DL.o_ne, DL.o_isn, DL.o_notn, DL.o_isb, DL.o_notb, DL.o_idxt, DL.o_idxl, DL.o_idxo, DL.o_idxb, DL.o_slct, DL.o_slcl, DL.o_slco, DL.o_slcb, DL.o_rev, DL.o_lent, DL.o_lenl, DL.o_lens, DL.o_leno, DL.o_lenb, DL.o_lenstr, DL.o_abs, DL.o_int, DL.o_intb, DL.o_tupo, DL.o_tupl, DL.o_tupt, DL.o_tupb, DL.o_lso, DL.o_lsl, DL.o_lst, DL.o_lss, DL.o_lsb, DL.o_all, DL.o_anyy, DL.o_sum, DL.o_sorted, DL.u_bl, DL.u_int, DL.u_non, DL.u_tup, DL.u_lst, DL.u_own, DL.u_bor, DL.x_0, DL.x_1, DL.x_2, DL.x_3, DL.x_4, DL.x_5, DL.y_tuplenon, DL.y_tuplebl, DL.y_tupleint, DL.y_tuplestr, DL.y_tupletup, DL.y_tuplelst, DL.y_listnon, DL.y_listbl, DL.y_listint, DL.y_liststr, DL.y_listtup, DL.y_listlst, DL.y_dictnon, DL.y_dictbl, DL.y_dictint, DL.y_dictstr, DL.y_dicttup, DL.y_dictlst, DL.y_strnon, DL.y_strbl, DL.y_strint, DL.y_strstr, DL.y_strtup, DL.y_strlst, DL.y_intnon, DL.y_intbl, DL.y_intint, DL.y_intstr, DL.y_inttup, DL.y_intlst, DL.y_boolnon, DL.y_boolbl, DL.y_boolint, DL.y_boolstr, DL.y_booltup, DL.y_boollst, DL.j_n1, DL.j_n2, DL.j_n3, DL.j_n4, DL.j_n5, DL.j_f1, DL.j_f2, DL.j_f3, DL.j_f4, DL.j_f5, DL.j_w1, DL.j_w2, DL.j_w3, DL.j_w4, DL.j_w5, DL.j_01, DL.j_02, DL.j_03, DL.eqD_int, DL.eqOk_int, List.getElem?_cons_zero, List.getElem?_cons_succ, List.set_cons_zero, List.set_cons_succ, List.length_cons, List.length_nil, Option.map_some, Option.map_none, true_and, eq_self]
  refine ⟨by omega, by omega, ?_⟩
  refine comp_draw (fun y => ∃ p, PtOk 8 p ∧ y = ptD p) (fun d k hk => ?_) _ _ fun ys e hy => ?_
  · simp only [blk_eq, wipe_cons, wipe_nil, no_d, no_n, List.map_cons, List.map_nil, Nat.reduceAdd, Nat.reduceSub, List.replicate_succ, List.replicate_zero, List.append_nil, List.cons_append, List.nil_append, DL.e_loc, DL.e_cst, DL.e_gc, DL.e_bin, DL.e_neg, DL.e_cmp, DL.e_chn, DL.e_and, DL.e_or, DL.e_not, DL.e_ite, DL.e_idx, DL.e_gidx, DL.e_slc, DL.e_tup, DL.e_lst, DL.e_call, DL.e_bi, DL.e_inst, DL.e_comp, DL.e_nev, DL.e_nil, DL.e_cons, DL.e_no, DL.e_yes, DL.b_val, DL.b_cmp, DL.b_chn, DL.b_and, DL.b_or, DL.b_not, DL.b_no, DL.b_one, DL.i_seq, DL.i_rng1, DL.i_rng2, DL.i_enum, DL.i_zip, DL.s_set, DL.s_setF, DL.s_asg, DL.s_par, DL.s_par3, DL.s_aug, DL.s_app, DL.s_ext, DL.s_pop, DL.s_expr, DL.s_ret, DL.s_retT, DL.s_ite, DL.s_whl, DL.s_for, DL.s_gset, DL.s_brk, DL.s_cnt, DL.s_nil, DL.s_cons, DL.s_frz, DL.t_name, DL.t_tup, DL.t_nil, DL.t_cons, DL.t_len0, DL.t_len1, DL.k_locd, DL.k_loco, DL.k_neg, DL.k_tt, DL.k_ff, DL.k_any, DL.k_lst, DL.k_int, DL.k_dat, DL.k_ty, DL.k_keep, DL.k_own, DL.k_slot, DL.k_new, DL.k_seqt, DL.k_seql, DL.k_seqs, DL.k_seqo, DL.k_enut, DL.k_enul, DL.k_enuo, DL.k_zipt, DL.k_zipl, DL.k_gix, DL.k_gst, DL.k_setd, DL.k_seto, DL.a_dd, DL.a_do, DL.a_rd, DL.a_ro, DL.a_rb, DL.a_nil, DL.a_d, DL.a_o, DL.a_l, DL.a_lo, DL.a_lb, DL.o_add, DL.o_addb, DL.o_adds, DL.o_addt, DL.o_sub, DL.o_subb, DL.o_subbb, DL.o_iadd, DL.o_iaddb, DL.o_isub, DL.o_isubb, DL.o_mul, DL.o_fdiv, DL.o_mod, DL.o_lt, DL.o_le, DL.o_gt, DL.o_ge, DL.o_eq, DL.o_ne, DL.o_isn, DL.o_notn, DL.o_isb, DL.o_notb, DL.o_idxt, DL.o_idxl, DL.o_idxo, DL.o_idxb, DL.o_slct, DL.o_slcl, DL.o_slco, DL.o_slcb, DL.o_rev, DL.o_lent, DL.o_lenl, DL.o_lens, DL.o_leno, DL.o_lenb, DL.o_lenstr, DL.o_abs, DL.o_int, DL.o_intb, DL.o_tupo, DL.o_tupl, DL.o_tupt, DL.o_tupb, DL.o_lso, DL.o_lsl, DL.o_lst, DL.o_lss, DL.o_lsb, DL.o_all, DL.o_anyy, DL.o_sum, DL.o_sorted, DL.u_bl, DL.u_int, DL.u_non, DL.u_tup, DL.u_lst, DL.u_own, DL.u_bor, DL.x_0, DL.x_1, DL.x_2, DL.x_3, DL.x_4, DL.x_5, DL.y_tuplenon, DL.y_tuplebl, DL.y_tupleint, DL.y_tuplestr, DL.y_tupletup, DL.y_tuplelst, DL.y_listnon, DL.y_listbl, DL.y_listint, DL.y_liststr, DL.y_listtup, DL.y_listlst, DL.y_dictnon, DL.y_dictbl, DL.y_dictint, DL.y_dictstr, DL.y_dicttup, DL.y_dictlst, DL.y_strnon, DL.y_strbl, DL.y_strint, DL.y_strstr, DL.y_strtup, DL.y_strlst, DL.y_intnon, DL.y_intbl, DL.y_intint, DL.y_intstr, DL.y_inttup, DL.y_intlst, DL.y_boolnon, DL.y_boolbl, DL.y_boolint, DL.y_boolstr, DL.y_booltup, DL.y_boollst, DL.j_n1, DL.j_n2, DL.j_n3, DL.j_n4, DL.j_n5, DL.j_f1, DL.j_f2, DL.j_f3, DL.j_f4, DL.j_f5, DL.j_w1, DL.j_w2, DL.j_w3, DL.j_w4, DL.j_w5, DL.j_01, DL.j_02, DL.j_03, DL.eqD_int, DL.eqOk_int, List.getElem?_cons_zero, List.getElem?_cons_succ, List.set_cons_zero, List.set_cons_succ, List.length_cons, List.length_nil, Option.map_some, Option.map_none, true_and, eq_self, h26]
    exact ⟨a, rfl, ga, fun p hp => hk _ ⟨p, hp, rfl⟩⟩
  · obtain ⟨r, rfl, hr⟩ := exists_map ys hy
    rw [List.length_map, rng_len] at e
    simp only [List.nil_append, DL.e_loc, DL.e_cst, DL.e_gc, DL.e_bin, DL.e_neg, DL.e_cmp, DL.e_chn, DL.e_and, DL.e_or, DL.e_not, DL.e_ite, DL.e_idx, DL.e_gidx, DL.e_slc, DL.e_tup, DL.e_lst, DL.e_call, DL.e_bi, DL.e_inst, DL.e_comp, DL.e_nev, DL.e_nil, DL.e_cons, DL.e_no, DL.e_yes, DL.b_val, DL.b_cmp, DL.b_chn, DL.b_and, DL.b_or, DL.b_not, DL.b_no, DL.b_one, DL.i_seq, DL.i_rng1, DL.i_rng2, DL.i_enum, DL.i_zip, DL.s_set, DL.s_setF, DL.s_asg, DL.s_par, DL.s_par3, DL.s_aug, DL.s_app, DL.s_ext, DL.s_pop, DL.s_expr, DL.s_ret, DL.s_retT, DL.s_ite, DL.s_whl, DL.s_for, DL.s_gset, DL.s_brk, DL.s_cnt, DL.s_nil, DL.s_cons, DL.s_frz, DL.t_name, DL.t_tup, DL.t_nil, DL.t_cons, DL.t_len0, DL.t_len1, DL.k_locd, DL.k_loco, DL.k_neg, DL.k_tt, DL.k_ff, DL.k_any, DL.k_lst, DL.k_int, DL.k_dat, DL.k_ty, DL.k_keep, DL.k_own, DL.k_slot, DL.k_new, DL.k_seqt, DL.k_seql, DL.k_seqs, DL.k_seqo, DL.k_enut, DL.k_enul, DL.k_enuo, DL.k_zipt, DL.k_zipl, DL.k_gix, DL.k_gst, DL.k_setd, DL.k_seto, DL.a_dd, DL.a_do, DL.a_rd, DL.a_ro, DL.a_rb, DL.a_nil, DL.a_d, DL.a_o, DL.a_l, DL.a_lo, DL.a_lb, DL.o_add, DL.o_addb, DL.o_adds, DL.o_addt, DL.o_sub, DL.o_subb, DL.o_subbb, DL.o_iadd, DL.o_iaddb, DL.o_isub, DL.o_isubb, DL.o_mul, DL.o_fdiv, DL.o_mod, DL.o_lt, DL.o_le, DL.o_gt, DL.o_ge, DL.o_eq, DL.o_ne, DL.o_isn, DL.o_notn, DL.o_isb, DL.o_notb, DL.o_idxt, DL.o_idxl, DL.o_idxo, DL.o_idxb, DL.o_slct, DL.o_slcl, DL.o_slco, DL.o_slcb, DL.o_rev, DL.o_lent, DL.o_lenl, DL.o_lens, DL.o_leno, DL.o_lenb, DL.o_lenstr, DL.o_abs, DL.o_int, DL.o_intb, DL.o_tupo, DL.o_tupl, DL.o_tupt, DL.o_tupb, DL.o_lso, DL.o_lsl, DL.o_lst, DL.o_lss, DL.o_lsb, DL.o_all, DL.o_anyy, DL.o_sum, DL.o_sorted, DL.u_bl, DL.u_int, DL.u_non, DL.u_tup, DL.u_lst, DL.u_own, DL.u_bor, DL.x_0, DL.x_1, DL.x_2, DL.x_3, DL.x_4, DL.x_5, DL.y_tuplenon, DL.y_tuplebl, DL.y_tupleint, DL.y_tuplestr, DL.y_tupletup, DL.y_tuplelst, DL.y_listnon, DL.y_listbl, DL.y_listint, DL.y_liststr, DL.y_listtup, DL.y_listlst, DL.y_dictnon, DL.y_dictbl, DL.y_dictint, DL.y_dictstr, DL.y_dicttup, DL.y_dictlst, DL.y_strnon, DL.y_strbl, DL.y_strint, DL.y_strstr, DL.y_strtup, DL.y_strlst, DL.y_intnon, DL.y_intbl, DL.y_intint, DL.y_intstr, DL.y_inttup, DL.y_intlst, DL.y_boolnon, DL.y_boolbl, DL.y_boolint, DL.y_boolstr, DL.y_booltup, DL.y_boollst, DL.j_n1, DL.j_n2, DL.j_n3, DL.j_n4, DL.j_n5, DL.j_f1, DL.j_f2, DL.j_f3, DL.j_f4, DL.j_f5, DL.j_w1, DL.j_w2, DL.j_w3, DL.j_w4, DL.j_w5, DL.j_01, DL.j_02, DL.j_03, DL.eqD_int, DL.eqOk_int, List.getElem?_cons_zero, List.getElem?_cons_succ, List.set_cons_zero, List.set_cons_succ, List.length_cons, List.length_nil, Option.map_some, Option.map_none, true_and, eq_self]
    exact h r ⟨by omega, by omega, hr⟩
theorem rule_pick {G : Gh} {a : Addr} {Q : D → Gh → Prop} {E : DX → Gh → Prop} (ga : G a = some .strm) (h : ∀ r, RuleOk r → Q (.str r) G) : Tpick [.ref a, .lst [.str "whole", .str "odd"]] G Q E :=
  ⟨a, _, _, rfl, .inr rfl, by simp, by decide, ga, fun d hd => by
    simp only [List.mem_cons, List.not_mem_nil, or_false] at hd
    rcases hd with rfl | rfl
    · exact h _ (.inl rfl)
    · exact h _ (.inr rfl)⟩
theorem run_area : ∀ ds G Q E, Tarea ds G Q E → runB S N28 c28_1 ds G Q E := by
  rintro ds G Q E ⟨a, rfl, ga, h⟩
  simp only [run_eq, startL, N28, c28_1, DL.e_loc, DL.e_cst, DL.e_gc, DL.e_bin, DL.e_neg, DL.e_cmp, DL.e_chn, DL.e_and, DL.e_or, DL.e_not, DL.e_ite, DL.e_idx, DL.e_gidx, DL.e_slc, DL.e_tup, DL.e_lst, DL.e_call, DL.e_bi, DL.e_inst, DL.e_comp, DL.e_nev, DL.e_nil, DL.e_cons, DL.e_no, DL.e_yes, DL.b_val, DL.b_cmp, DL.b_chn, DL.b_and, DL.b_or, DL.b_not, DL.b_no, DL.b_one, DL.i_seq, DL.i_rng1, DL.i_rng2, DL.i_enum, DL.i_zip, DL.s_set, DL.s_setF, DL.s_asg, DL.s_par, DL.s_par3, DL.s_aug, DL.s_app, DL.s_ext, DL.s_pop, DL.s_expr, DL.s_ret, DL.s_retT, DL.s_ite, DL.s_whl, DL.s_for, DL.s_gset, DL.s_brk, DL.s_cnt, DL.s_nil, DL.s_cons, DL.s_frz, DL.t_name, DL.t_tup, DL.t_nil, DL.t_cons, DL.t_len0, DL.t_len1, DL.k_locd, DL.k_loco, DL.k_neg, DL.k_tt, DL.k_ff, DL.k_any, DL.k_lst, DL.k_int, DL.k_dat, DL.k_ty, DL.k_keep, DL.k_own, DL.k_slot, DL.k_new, DL.k_seqt, DL.k_seql, DL.k_seqs, DL.k_seqo, DL.k_enut, DL.k_enul, DL.k_enuo, DL.k_zipt, DL.k_zipl, DL.k_gix, DL.k_gst, DL.k_setd, DL.k_seto, DL.a_dd, DL.a_do, DL.a_rd, DL.a_ro, DL.a_rb, DL.a_nil, DL.a_d, DL.a_o, DL.a_l, DL.a_lo, DL.a_lb, DL.o_add, DL.o_addb, DL.o_adds, DL.o_addt, DL.o_sub, DL.o_subb, DL.o_subbb, DL.o_iadd, DL.o_iaddb, DL.o_isub, DL.o_isubb, DL.o_mul, DL.o_fdiv, DL.o_mod, DL.o_lt, DL.o_le, DL.o_gt, DL.o_ge, DL.o_eq, DL.o_ne, DL.o_isn, DL.o_notn, DL.o_isb, DL.o_notb, DL.o_idxt, DL.o_idxl, DL.o_idxo, DL.o_idxb, DL.o_slct, DL.o_slcl, DL.o_slco, DL.o_slcb, DL.o_rev, DL.o_lent, DL.o_lenl, DL.o_lens, DL.o_leno, DL.o_lenb, DL.o_lenstr, DL.o_abs, DL.o_int, DL.o_intb, DL.o_tupo, DL.o_tupl, DL.o_tupt, DL.o_tupb, DL.o_lso, DL.o_lsl, DL.o_lst, DL.o_lss, DL.o_lsb, DL.o_all, DL.o_anyy, DL.o_sum, DL.o_sorted, DL.u_bl, DL.u_int, DL.u_non, DL.u_tup, DL.u_lst, DL.u_own, DL.u_bor, DL.x_0, DL.x_1, DL.x_2, DL.x_3, DL.x_4, DL.x_5, DL.y_tuplenon, DL.y_tuplebl, DL.y_tupleint, DL.y_tuplestr, DL.y_tupletup, DL.y_tuplelst, DL.y_listnon, DL.y_listbl, DL.y_listint, DL.y_liststr, DL.y_listtup, DL.y_listlst, DL.y_dictnon, DL.y_dictbl, DL.y_dictint, DL.y_dictstr, DL.y_dicttup, DL.y_dictlst, DL.y_strnon, DL.y_strbl, DL.y_strint, DL.y_strstr, DL.y_strtup, DL.y_strlst, DL.y_intnon, DL.y_intbl, DL.y_intint, DL.y_intstr, DL.y_inttup, DL.y_intlst, DL.y_boolnon, DL.y_boolbl, DL.y_boolint, DL.y_boolstr, DL.y_booltup, DL.y_boollst, DL.j_n1, DL.j_n2, DL.j_n3, DL.j_n4, DL.j_n5, DL.j_f1, DL.j_f2, DL.j_f3, DL.j_f4, DL.j_f5, DL.j_w1, DL.j_w2, DL.j_w3, DL.j_w4, DL.j_w5, DL.j_01, DL.j_02, DL.j_03, DL.eqD_int, DL.eqOk_int, List.getElem?_cons_zero, List.getElem?_cons_succ, List.set_cons_zero, List.set_cons_succ, List.length_cons, List.length_nil, Option.map_some, Option.map_none, true_and, eq_self, List.map_cons, List.map_nil, Nat.reduceAdd, Nat.reduceSub, List.replicate_succ, List.replicate_zero, List.append_nil, List.cons_append, List.nil_append, h12]
  refine Tdraw_of (by decide) (by decide) ga fun n n0 n1 => ?_
  simp only [DL.e_loc, DL.e_cst, DL.e_gc, DL.e_bin, DL.e_neg, DL.e_cmp, DL.e_chn, DL.e_and, DL.e_or, DL.e_not, DL.e_ite, DL.e_idx, DL.e_gidx, DL.e_slc, DL.e_tup, DL.e_lst, DL.e_call, DL.e_bi, DL.e_inst, DL.e_comp, DL.e_nev, DL.e_nil, DL.e_cons, DL.e_no, DL.e_yes, DL.b_val, DL.b_cmp, DL.b_chn, DL.b_and, DL.b_or, DL.b_not, DL.b_no, DL.b_one, DL.i_seq, DL.i_rng1, DL.i_rng2, DL.i_enum, DL.i_zip, DL.s_set, DL.s_setF, DL.s_asg, DL.s_par, DL.s_par3, DL.s_aug, DL.s_app, DL.s_ext, DL.s_pop, DL.s_expr, DL.s_ret, DL.s_retT, DL.s_ite, DL.s_whl, DL.s_for, DL.s_gset, DL.s_brk, DL.s_cnt, DL.s_nil, DL.s_cons, DL.s_frz, DL.t_name, DL.t_tup, DL.t_nil, DL.t_cons, DL.t_len0, DL.t_len1, DL.k_locd, DL.k_loco, DL.k_neg, DL.k_tt, DL.k_ff, DL.k_any, DL.k_lst, DL.k_int, DL.k_dat, DL.k_ty, DL.k_keep, DL.k_own, DL.k_slot, DL.k_new, DL.k_seqt, DL.k_seql, DL.k_seqs, DL.k_seqo, DL.k_enut, DL.k_enul, DL.k_enuo, DL.k_zipt, DL.k_zipl, DL.k_gix, DL.k_gst, DL.k_setd, DL.k_seto, DL.a_dd, DL.a_do, DL.a_rd, DL.a_ro, DL.a_rb, DL.a_nil, DL.a_d, DL.a_o, DL.a_l, DL.a_lo, DL.a_lb, DL.o_add, DL.o_addb, DL.o_adds, DL.o_addt, DL.o_sub, DL.o_subb, DL.o_subbb, DL.o_iadd, DL.o_iaddb, DL.o_isub, DL.o_isubb, DL.o_mul, DL.o_fdiv, DL.o_mod, DL.o_lt, DL.o_le, DL.o_gt, DL.o_ge, DL.o_eq, DL.o_ne, DL.o_isn, DL.o_notn, DL.o_isb, DL.o_notb, DL.o_idxt, DL.o_idxl, DL.o_idxo, DL.o_idxb, DL.o_slct, DL.o_slcl, DL.o_slco, DL.o_slcb, DL.o_rev, DL.o_lent, DL.o_lenl, DL.o_lens, DL.o_leno, DL.o_lenb, DL.o_lenstr, DL.o_abs, DL.o_int, DL.o_intb, DL.o_tupo, DL.o_tupl, DL.o_tupt, DL.o_tupb, DL.o_lso, DL.o_lsl, DL.o_lst, DL.o_lss, DL.o_lsb, DL.o_all, DL.o_anyy, DL.o_sum, DL.o_sorted, DL.u_bl, DL.u_int, DL.u_non, DL.u_tup, DL.u_lst, DL.u_own, DL.u_bor, DL.x_0, DL.x_1, DL.x_2, DL.x_3, DL.x_4, DL.x_5, DL.y_tuplenon, DL.y_tuplebl, DL.y_tupleint, DL.y_tuplestr, DL.y_tupletup, DL.y_tuplelst, DL.y_listnon, DL.y_listbl, DL.y_listint, DL.y_liststr, DL.y_listtup, DL.y_listlst, DL.y_dictnon, DL.y_dictbl, DL.y_dictint, DL.y_dictstr, DL.y_dicttup, DL.y_dictlst, DL.y_strnon, DL.y_strbl, DL.y_strint, DL.y_strstr, DL.y_strtup, DL.y_strlst, DL.y_intnon, DL.y_intbl, DL.y_intint, DL.y_intstr, DL.y_inttup, DL.y_intlst, DL.y_boolnon, DL.y_boolbl, DL.y_boolint, DL.y_boolstr, DL.y_booltup, DL.y_boollst, DL.j_n1, DL.j_n2, DL.j_n3, DL.j_n4, DL.j_n5, DL.j_f1, DL.j_f2, DL.j_f3, DL.j_f4, DL.j_f5, DL.j_w1, DL.j_w2, DL.j_w3, DL.j_w4, DL.j_w5, DL.j_01, DL.j_02, DL.j_03, DL.eqD_int, DL.eqOk_int, List.getElem?_cons_zero, List.getElem?_cons_succ, List.set_cons_zero, List.set_cons_succ, List.length_cons, List.length_nil, Option.map_some, Option.map_none, true_and, eq_self]
  refine ⟨by omega, by omega, ?_⟩
  refine comp_draw (fun y => ∃ r, RingOk r ∧ y = ringD r) (fun d k hk => ?_) _ _ fun ys e hy => ?_
  · simp only [blk_eq, wipe_cons, wipe_nil, no_d, no_n, List.map_cons, List.map_nil, Nat.reduceAdd, Nat.reduceSub, List.replicate_succ, List.replicate_zero, List.append_nil, List.cons_append, List.nil_append, DL.e_loc, DL.e_cst, DL.e_gc, DL.e_bin, DL.e_neg, DL.e_cmp, DL.e_chn, DL.e_and, DL.e_or, DL.e_not, DL.e_ite, DL.e_idx, DL.e_gidx, DL.e_slc, DL.e_tup, DL.e_lst, DL.e_call, DL.e_bi, DL.e_inst, DL.e_comp, DL.e_nev, DL.e_nil, DL.e_cons, DL.e_no, DL.e_yes, DL.b_val, DL.b_cmp, DL.b_chn, DL.b_and, DL.b_or, DL.b_not, DL.b_no, DL.b_one, DL.i_seq, DL.i_rng1, DL.i_rng2, DL.i_enum, DL.i_zip, DL.s_set, DL.s_setF, DL.s_asg, DL.s_par, DL.s_par3, DL.s_aug, DL.s_app, DL.s_ext, DL.s_pop, DL.s_expr, DL.s_ret, DL.s_retT, DL.s_ite, DL.s_whl, DL.s_for, DL.s_gset, DL.s_brk, DL.s_cnt, DL.s_nil, DL.s_cons, DL.s_frz, DL.t_name, DL.t_tup, DL.t_nil, DL.t_cons, DL.t_len0, DL.t_len1, DL.k_locd, DL.k_loco, DL.k_neg, DL.k_tt, DL.k_ff, DL.k_any, DL.k_lst, DL.k_int, DL.k_dat, DL.k_ty, DL.k_keep, DL.k_own, DL.k_slot, DL.k_new, DL.k_seqt, DL.k_seql, DL.k_seqs, DL.k_seqo, DL.k_enut, DL.k_enul, DL.k_enuo, DL.k_zipt, DL.k_zipl, DL.k_gix, DL.k_gst, DL.k_setd, DL.k_seto, DL.a_dd, DL.a_do, DL.a_rd, DL.a_ro, DL.a_rb, DL.a_nil, DL.a_d, DL.a_o, DL.a_l, DL.a_lo, DL.a_lb, DL.o_add, DL.o_addb, DL.o_adds, DL.o_addt, DL.o_sub, DL.o_subb, DL.o_subbb, DL.o_iadd, DL.o_iaddb, DL.o_isub, DL.o_isubb, DL.o_mul, DL.o_fdiv, DL.o_mod, DL.o_lt, DL.o_le, DL.o_gt, DL.o_ge, DL.o_eq, DL.o_ne, DL.o_isn, DL.o_notn, DL.o_isb, DL.o_notb, DL.o_idxt, DL.o_idxl, DL.o_idxo, DL.o_idxb, DL.o_slct, DL.o_slcl, DL.o_slco, DL.o_slcb, DL.o_rev, DL.o_lent, DL.o_lenl, DL.o_lens, DL.o_leno, DL.o_lenb, DL.o_lenstr, DL.o_abs, DL.o_int, DL.o_intb, DL.o_tupo, DL.o_tupl, DL.o_tupt, DL.o_tupb, DL.o_lso, DL.o_lsl, DL.o_lst, DL.o_lss, DL.o_lsb, DL.o_all, DL.o_anyy, DL.o_sum, DL.o_sorted, DL.u_bl, DL.u_int, DL.u_non, DL.u_tup, DL.u_lst, DL.u_own, DL.u_bor, DL.x_0, DL.x_1, DL.x_2, DL.x_3, DL.x_4, DL.x_5, DL.y_tuplenon, DL.y_tuplebl, DL.y_tupleint, DL.y_tuplestr, DL.y_tupletup, DL.y_tuplelst, DL.y_listnon, DL.y_listbl, DL.y_listint, DL.y_liststr, DL.y_listtup, DL.y_listlst, DL.y_dictnon, DL.y_dictbl, DL.y_dictint, DL.y_dictstr, DL.y_dicttup, DL.y_dictlst, DL.y_strnon, DL.y_strbl, DL.y_strint, DL.y_strstr, DL.y_strtup, DL.y_strlst, DL.y_intnon, DL.y_intbl, DL.y_intint, DL.y_intstr, DL.y_inttup, DL.y_intlst, DL.y_boolnon, DL.y_boolbl, DL.y_boolint, DL.y_boolstr, DL.y_booltup, DL.y_boollst, DL.j_n1, DL.j_n2, DL.j_n3, DL.j_n4, DL.j_n5, DL.j_f1, DL.j_f2, DL.j_f3, DL.j_f4, DL.j_f5, DL.j_w1, DL.j_w2, DL.j_w3, DL.j_w4, DL.j_w5, DL.j_01, DL.j_02, DL.j_03, DL.eqD_int, DL.eqOk_int, List.getElem?_cons_zero, List.getElem?_cons_succ, List.set_cons_zero, List.set_cons_succ, List.length_cons, List.length_nil, Option.map_some, Option.map_none, true_and, eq_self, h27]
    exact ⟨a, rfl, ga, fun p hp => hk _ ⟨p, hp, rfl⟩⟩
  obtain ⟨rs, rfl, hrs⟩ := exists_map ys hy
  rw [List.length_map, rng_len] at e
  simp only [List.nil_append, DL.e_loc, DL.e_cst, DL.e_gc, DL.e_bin, DL.e_neg, DL.e_cmp, DL.e_chn, DL.e_and, DL.e_or, DL.e_not, DL.e_ite, DL.e_idx, DL.e_gidx, DL.e_slc, DL.e_tup, DL.e_lst, DL.e_call, DL.e_bi, DL.e_inst, DL.e_comp, DL.e_nev, DL.e_nil, DL.e_cons, DL.e_no, DL.e_yes, DL.b_val, DL.b_cmp, DL.b_chn, DL.b_and, DL.b_or, DL.b_not, DL.b_no, DL.b_one, DL.i_seq, DL.i_rng1, DL.i_rng2, DL.i_enum, DL.i_zip, DL.s_set, DL.s_setF, DL.s_asg, DL.s_par, DL.s_par3, DL.s_aug, DL.s_app, DL.s_ext, DL.s_pop, DL.s_expr, DL.s_ret, DL.s_retT, DL.s_ite, DL.s_whl, DL.s_for, DL.s_gset, DL.s_brk, DL.s_cnt, DL.s_nil, DL.s_cons, DL.s_frz, DL.t_name, DL.t_tup, DL.t_nil, DL.t_cons, DL.t_len0, DL.t_len1, DL.k_locd, DL.k_loco, DL.k_neg, DL.k_tt, DL.k_ff, DL.k_any, DL.k_lst, DL.k_int, DL.k_dat, DL.k_ty, DL.k_keep, DL.k_own, DL.k_slot, DL.k_new, DL.k_seqt, DL.k_seql, DL.k_seqs, DL.k_seqo, DL.k_enut, DL.k_enul, DL.k_enuo, DL.k_zipt, DL.k_zipl, DL.k_gix, DL.k_gst, DL.k_setd, DL.k_seto, DL.a_dd, DL.a_do, DL.a_rd, DL.a_ro, DL.a_rb, DL.a_nil, DL.a_d, DL.a_o, DL.a_l, DL.a_lo, DL.a_lb, DL.o_add, DL.o_addb, DL.o_adds, DL.o_addt, DL.o_sub, DL.o_subb, DL.o_subbb, DL.o_iadd, DL.o_iaddb, DL.o_isub, DL.o_isubb, DL.o_mul, DL.o_fdiv, DL.o_mod, DL.o_lt, DL.o_le, DL.o_gt, DL.o_ge, DL.o_eq, DL.o_ne, DL.o_isn, DL.o_notn, DL.o_isb, DL.o_notb, DL.o_idxt, DL.o_idxl, DL.o_idxo, DL.o_idxb, DL.o_slct, DL.o_slcl, DL.o_slco, DL.o_slcb, DL.o_rev, DL.o_lent, DL.o_lenl, DL.o_lens, DL.o_leno, DL.o_lenb, DL.o_lenstr, DL.o_abs, DL.o_int, DL.o_intb, DL.o_tupo, DL.o_tupl, DL.o_tupt, DL.o_tupb, DL.o_lso, DL.o_lsl, DL.o_lst, DL.o_lss, DL.o_lsb, DL.o_all, DL.o_anyy, DL.o_sum, DL.o_sorted, DL.u_bl, DL.u_int, DL.u_non, DL.u_tup, DL.u_lst, DL.u_own, DL.u_bor, DL.x_0, DL.x_1, DL.x_2, DL.x_3, DL.x_4, DL.x_5, DL.y_tuplenon, DL.y_tuplebl, DL.y_tupleint, DL.y_tuplestr, DL.y_tupletup, DL.y_tuplelst, DL.y_listnon, DL.y_listbl, DL.y_listint, DL.y_liststr, DL.y_listtup, DL.y_listlst, DL.y_dictnon, DL.y_dictbl, DL.y_dictint, DL.y_dictstr, DL.y_dicttup, DL.y_dictlst, DL.y_strnon, DL.y_strbl, DL.y_strint, DL.y_strstr, DL.y_strtup, DL.y_strlst, DL.y_intnon, DL.y_intbl, DL.y_intint, DL.y_intstr, DL.y_inttup, DL.y_intlst, DL.y_boolnon, DL.y_boolbl, DL.y_boolint, DL.y_boolstr, DL.y_booltup, DL.y_boollst, DL.j_n1, DL.j_n2, DL.j_n3, DL.j_n4, DL.j_n5, DL.j_f1, DL.j_f2, DL.j_f3, DL.j_f4, DL.j_f5, DL.j_w1, DL.j_w2, DL.j_w3, DL.j_w4, DL.j_w5, DL.j_01, DL.j_02, DL.j_03, DL.eqD_int, DL.eqOk_int, List.getElem?_cons_zero, List.getElem?_cons_succ, List.set_cons_zero, List.set_cons_succ, List.length_cons, List.length_nil, Option.map_some, Option.map_none, true_and, eq_self, c28_2, h12]
  refine Tdraw_of (by decide) (by decide) ga fun m m0 m1 => ?_
  simp only [DL.e_loc, DL.e_cst, DL.e_gc, DL.e_bin, DL.e_neg, DL.e_cmp, DL.e_chn, DL.e_and, DL.e_or, DL.e_not, DL.e_ite, DL.e_idx, DL.e_gidx, DL.e_slc, DL.e_tup, DL.e_lst, DL.e_call, DL.e_bi, DL.e_inst, DL.e_comp, DL.e_nev, DL.e_nil, DL.e_cons, DL.e_no, DL.e_yes, DL.b_val, DL.b_cmp, DL.b_chn, DL.b_and, DL.b_or, DL.b_not, DL.b_no, DL.b_one, DL.i_seq, DL.i_rng1, DL.i_rng2, DL.i_enum, DL.i_zip, DL.s_set, DL.s_setF, DL.s_asg, DL.s_par, DL.s_par3, DL.s_aug, DL.s_app, DL.s_ext, DL.s_pop, DL.s_expr, DL.s_ret, DL.s_retT, DL.s_ite, DL.s_whl, DL.s_for, DL.s_gset, DL.s_brk, DL.s_cnt, DL.s_nil, DL.s_cons, DL.s_frz, DL.t_name, DL.t_tup, DL.t_nil, DL.t_cons, DL.t_len0, DL.t_len1, DL.k_locd, DL.k_loco, DL.k_neg, DL.k_tt, DL.k_ff, DL.k_any, DL.k_lst, DL.k_int, DL.k_dat, DL.k_ty, DL.k_keep, DL.k_own, DL.k_slot, DL.k_new, DL.k_seqt, DL.k_seql, DL.k_seqs, DL.k_seqo, DL.k_enut, DL.k_enul, DL.k_enuo, DL.k_zipt, DL.k_zipl, DL.k_gix, DL.k_gst, DL.k_setd, DL.k_seto, DL.a_dd, DL.a_do, DL.a_rd, DL.a_ro, DL.a_rb, DL.a_nil, DL.a_d, DL.a_o, DL.a_l, DL.a_lo, DL.a_lb, DL.o_add, DL.o_addb, DL.o_adds, DL.o_addt, DL.o_sub, DL.o_subb, DL.o_subbb, DL.o_iadd, DL.o_iaddb, DL.o_isub, DL.o_isubb, DL.o_mul, DL.o_fdiv, DL.o_mod, DL.o_lt, DL.o_le, DL.o_gt, DL.o_ge, DL.o_eq, DL.o_ne, DL.o_isn, DL.o_notn, DL.o_isb, DL.o_notb, DL.o_idxt, DL.o_idxl, DL.o_idxo, DL.o_idxb, DL.o_slct, DL.o_slcl, DL.o_slco, DL.o_slcb, DL.o_rev, DL.o_lent, DL.o_lenl, DL.o_lens, DL.o_leno, DL.o_lenb, DL.o_lenstr, DL.o_abs, DL.o_int, DL.o_intb, DL.o_tupo, DL.o_tupl, DL.o_tupt, DL.o_tupb, DL.o_lso, DL.o_lsl, DL.o_lst, DL.o_lss, DL.o_lsb, DL.o_all, DL.o_anyy, DL.o_sum, DL.o_sorted, DL.u_bl, DL.u_int, DL.u_non, DL.u_tup, DL.u_lst, DL.u_own, DL.u_bor, DL.x_0, DL.x_1, DL.x_2, DL.x_3, DL.x_4, DL.x_5, DL.y_tuplenon, DL.y_tuplebl, DL.y_tupleint, DL.y_tuplestr, DL.y_tupletup, DL.y_tuplelst, DL.y_listnon, DL.y_listbl, DL.y_listint, DL.y_liststr, DL.y_listtup, DL.y_listlst, DL.y_dictnon, DL.y_dictbl, DL.y_dictint, DL.y_dictstr, DL.y_dicttup, DL.y_dictlst, DL.y_strnon, DL.y_strbl, DL.y_strint, DL.y_strstr, DL.y_strtup, DL.y_strlst, DL.y_intnon, DL.y_intbl, DL.y_intint, DL.y_intstr, DL.y_inttup, DL.y_intlst, DL.y_boolnon, DL.y_boolbl, DL.y_boolint, DL.y_boolstr, DL.y_booltup, DL.y_boollst, DL.j_n1, DL.j_n2, DL.j_n3, DL.j_n4, DL.j_n5, DL.j_f1, DL.j_f2, DL.j_f3, DL.j_f4, DL.j_f5, DL.j_w1, DL.j_w2, DL.j_w3, DL.j_w4, DL.j_w5, DL.j_01, DL.j_02, DL.j_03, DL.eqD_int, DL.eqOk_int, List.getElem?_cons_zero, List.getElem?_cons_succ, List.set_cons_zero, List.set_cons_succ, List.length_cons, List.length_nil, Option.map_some, Option.map_none, true_and, eq_self]
  refine ⟨by split <;> omega, by split <;> omega, ?_⟩
  refine comp_draw (fun y => ∃ c : List (List Pt) × Str, ((∃ r, c.1 = [r] ∧ RingOk r) ∧ RuleOk c.2) ∧ y = kindD c) (fun d k hk => ?_) _ _ fun ys e2 hy => ?_
  · simp only [blk_eq, wipe_cons, wipe_nil, no_d, no_n, List.map_cons, List.map_nil, Nat.reduceAdd, Nat.reduceSub, List.replicate_succ, List.replicate_zero, List.append_nil, List.cons_append, List.nil_append, DL.e_loc, DL.e_cst, DL.e_gc, DL.e_bin, DL.e_neg, DL.e_cmp, DL.e_chn, DL.e_and, DL.e_or, DL.e_not, DL.e_ite, DL.e_idx, DL.e_gidx, DL.e_slc, DL.e_tup, DL.e_lst, DL.e_call, DL.e_bi, DL.e_inst, DL.e_comp, DL.e_nev, DL.e_nil, DL.e_cons, DL.e_no, DL.e_yes, DL.b_val, DL.b_cmp, DL.b_chn, DL.b_and, DL.b_or, DL.b_not, DL.b_no, DL.b_one, DL.i_seq, DL.i_rng1, DL.i_rng2, DL.i_enum, DL.i_zip, DL.s_set, DL.s_setF, DL.s_asg, DL.s_par, DL.s_par3, DL.s_aug, DL.s_app, DL.s_ext, DL.s_pop, DL.s_expr, DL.s_ret, DL.s_retT, DL.s_ite, DL.s_whl, DL.s_for, DL.s_gset, DL.s_brk, DL.s_cnt, DL.s_nil, DL.s_cons, DL.s_frz, DL.t_name, DL.t_tup, DL.t_nil, DL.t_cons, DL.t_len0, DL.t_len1, DL.k_locd, DL.k_loco, DL.k_neg, DL.k_tt, DL.k_ff, DL.k_any, DL.k_lst, DL.k_int, DL.k_dat, DL.k_ty, DL.k_keep, DL.k_own, DL.k_slot, DL.k_new, DL.k_seqt, DL.k_seql, DL.k_seqs, DL.k_seqo, DL.k_enut, DL.k_enul, DL.k_enuo, DL.k_zipt, DL.k_zipl, DL.k_gix, DL.k_gst, DL.k_setd, DL.k_seto, DL.a_dd, DL.a_do, DL.a_rd, DL.a_ro, DL.a_rb, DL.a_nil, DL.a_d, DL.a_o, DL.a_l, DL.a_lo, DL.a_lb, DL.o_add, DL.o_addb, DL.o_adds, DL.o_addt, DL.o_sub, DL.o_subb, DL.o_subbb, DL.o_iadd, DL.o_iaddb, DL.o_isub, DL.o_isubb, DL.o_mul, DL.o_fdiv, DL.o_mod, DL.o_lt, DL.o_le, DL.o_gt, DL.o_ge, DL.o_eq, DL.o_ne, DL.o_isn, DL.o_notn, DL.o_isb, DL.o_notb, DL.o_idxt, DL.o_idxl, DL.o_idxo, DL.o_idxb, DL.o_slct, DL.o_slcl, DL.o_slco, DL.o_slcb, DL.o_rev, DL.o_lent, DL.o_lenl, DL.o_lens, DL.o_leno, DL.o_lenb, DL.o_lenstr, DL.o_abs, DL.o_int, DL.o_intb, DL.o_tupo, DL.o_tupl, DL.o_tupt, DL.o_tupb, DL.o_lso, DL.o_lsl, DL.o_lst, DL.o_lss, DL.o_lsb, DL.o_all, DL.o_anyy, DL.o_sum, DL.o_sorted, DL.u_bl, DL.u_int, DL.u_non, DL.u_tup, DL.u_lst, DL.u_own, DL.u_bor, DL.x_0, DL.x_1, DL.x_2, DL.x_3, DL.x_4, DL.x_5, DL.y_tuplenon, DL.y_tuplebl, DL.y_tupleint, DL.y_tuplestr, DL.y_tupletup, DL.y_tuplelst, DL.y_listnon, DL.y_listbl, DL.y_listint, DL.y_liststr, DL.y_listtup, DL.y_listlst, DL.y_dictnon, DL.y_dictbl, DL.y_dictint, DL.y_dictstr, DL.y_dicttup, DL.y_dictlst, DL.y_strnon, DL.y_strbl, DL.y_strint, DL.y_strstr, DL.y_strtup, DL.y_strlst, DL.y_intnon, DL.y_intbl, DL.y_intint, DL.y_intstr, DL.y_inttup, DL.y_intlst, DL.y_boolnon, DL.y_boolbl, DL.y_boolint, DL.y_boolstr, DL.y_booltup, DL.y_boollst, DL.j_n1, DL.j_n2, DL.j_n3, DL.j_n4, DL.j_n5, DL.j_f1, DL.j_f2, DL.j_f3, DL.j_f4, DL.j_f5, DL.j_w1, DL.j_w2, DL.j_w3, DL.j_w4, DL.j_w5, DL.j_01, DL.j_02, DL.j_03, DL.eqD_int, DL.eqOk_int, List.getElem?_cons_zero, List.getElem?_cons_succ, List.set_cons_zero, List.set_cons_succ, List.length_cons, List.length_nil, Option.map_some, Option.map_none, true_and, eq_self, h27, h19]
    refine ⟨a, rfl, ga, fun r hr => ⟨Nat.le_of_ble_eq_true rfl, Nat.le_of_ble_eq_true rfl, ?_⟩⟩
    refine rule_pick ga fun z hz => ⟨Nat.le_of_ble_eq_true rfl, hk _ ⟨([r], z), ⟨⟨r, rfl, hr⟩, hz⟩, rfl⟩⟩
  obtain ⟨cs, rfl, hcs⟩ := exists_map ys hy
  rw [List.length_map, rng_len] at e2
  simp only [List.nil_append, DL.e_loc, DL.e_cst, DL.e_gc, DL.e_bin, DL.e_neg, DL.e_cmp, DL.e_chn, DL.e_and, DL.e_or, DL.e_not, DL.e_ite, DL.e_idx, DL.e_gidx, DL.e_slc, DL.e_tup, DL.e_lst, DL.e_call, DL.e_bi, DL.e_inst, DL.e_comp, DL.e_nev, DL.e_nil, DL.e_cons, DL.e_no, DL.e_yes, DL.b_val, DL.b_cmp, DL.b_chn, DL.b_and, DL.b_or, DL.b_not, DL.b_no, DL.b_one, DL.i_seq, DL.i_rng1, DL.i_rng2, DL.i_enum, DL.i_zip, DL.s_set, DL.s_setF, DL.s_asg, DL.s_par, DL.s_par3, DL.s_aug, DL.s_app, DL.s_ext, DL.s_pop, DL.s_expr, DL.s_ret, DL.s_retT, DL.s_ite, DL.s_whl, DL.s_for, DL.s_gset, DL.s_brk, DL.s_cnt, DL.s_nil, DL.s_cons, DL.s_frz, DL.t_name, DL.t_tup, DL.t_nil, DL.t_cons, DL.t_len0, DL.t_len1, DL.k_locd, DL.k_loco, DL.k_neg, DL.k_tt, DL.k_ff, DL.k_any, DL.k_lst, DL.k_int, DL.k_dat, DL.k_ty, DL.k_keep, DL.k_own, DL.k_slot, DL.k_new, DL.k_seqt, DL.k_seql, DL.k_seqs, DL.k_seqo, DL.k_enut, DL.k_enul, DL.k_enuo, DL.k_zipt, DL.k_zipl, DL.k_gix, DL.k_gst, DL.k_setd, DL.k_seto, DL.a_dd, DL.a_do, DL.a_rd, DL.a_ro, DL.a_rb, DL.a_nil, DL.a_d, DL.a_o, DL.a_l, DL.a_lo, DL.a_lb, DL.o_add, DL.o_addb, DL.o_adds, DL.o_addt, DL.o_sub, DL.o_subb, DL.o_subbb, DL.o_iadd, DL.o_iaddb, DL.o_isub, DL.o_isubb, DL.o_mul, DL.o_fdiv, DL.o_mod, DL.o_lt, DL.o_le, DL.o_gt, DL.o_ge, DL.o_eq, DL.o_ne, DL.o_isn, DL.o_notn, DL.o_isb, DL.o_notb, DL.o_idxt, DL.o_idxl, DL.o_idxo, DL.o_idxb, DL.o_slct, DL.o_slcl, DL.o_slco, DL.o_slcb, DL.o_rev, DL.o_lent, DL.o_lenl, DL.o_lens, DL.o_leno, DL.o_lenb, DL.o_lenstr, DL.o_abs, DL.o_int, DL.o_intb, DL.o_tupo, DL.o_tupl, DL.o_tupt, DL.o_tupb, DL.o_lso, DL.o_lsl, DL.o_lst, DL.o_lss, DL.o_lsb, DL.o_all, DL.o_anyy, DL.o_sum, DL.o_sorted, DL.u_bl, DL.u_int, DL.u_non, DL.u_tup, DL.u_lst, DL.u_own, DL.u_bor, DL.x_0, DL.x_1, DL.x_2, DL.x_3, DL.x_4, DL.x_5, DL.y_tuplenon, DL.y_tuplebl, DL.y_tupleint, DL.y_tuplestr, DL.y_tupletup, DL.y_tuplelst, DL.y_listnon, DL.y_listbl, DL.y_listint, DL.y_liststr, DL.y_listtup, DL.y_listlst, DL.y_dictnon, DL.y_dictbl, DL.y_dictint, DL.y_dictstr, DL.y_dicttup, DL.y_dictlst, DL.y_strnon, DL.y_strbl, DL.y_strint, DL.y_strstr, DL.y_strtup, DL.y_strlst, DL.y_intnon, DL.y_intbl, DL.y_intint, DL.y_intstr, DL.y_inttup, DL.y_intlst, DL.y_boolnon, DL.y_boolbl, DL.y_boolint, DL.y_boolstr, DL.y_booltup, DL.y_boollst, DL.j_n1, DL.j_n2, DL.j_n3, DL.j_n4, DL.j_n5, DL.j_f1, DL.j_f2, DL.j_f3, DL.j_f4, DL.j_f5, DL.j_w1, DL.j_w2, DL.j_w3, DL.j_w4, DL.j_w5, DL.j_01, DL.j_02, DL.j_03, DL.eqD_int, DL.eqOk_int, List.getElem?_cons_zero, List.getElem?_cons_succ, List.set_cons_zero, List.set_cons_succ, List.length_cons, List.length_nil, Option.map_some, Option.map_none, true_and, eq_self, c28_3, h19]
  refine ⟨Nat.le_of_ble_eq_true rfl, rule_pick ga fun z hz => ⟨Nat.le_of_ble_eq_true rfl, ?_⟩⟩
  refine h ⟨rs, z, cs⟩ ⟨⟨by show 1 ≤ rs.length; omega, by show rs.length ≤ 2; omega, hrs⟩, hz, ?_, hcs⟩
  show cs.length ≤ 1
  rw [e2]
  split <;> decide
theorem ringD_pick {G : Gh} {a : Addr} {Q : D → Gh → Prop} {E : DX → Gh → Prop} {r : List Pt} (ga : G a = some .strm) (hr : RingOk r) (h : ∀ p, PtOk 8 p → Q (ptD p) G) : Tpick [.ref a, ringD r] G Q E :=
  ⟨a, _, r.map ptD, rfl, .inl rfl, fun e => by have := hr.1; rw [List.map_eq_nil_iff] at e; rw [e] at this; simp at this, by rw [List.length_map]; have := hr.2.1; omega, ga, fun d hd => by
    obtain ⟨p, hp, rfl⟩ := List.mem_map.mp hd
    exact h p (hr.2.2 p hp)⟩
theorem two_nf : D.tup [.int 2, .int 1] = nfD 2 := rfl
theorem run_near : ∀ ds G Q E, Tnear ds G Q E → runB S N29 c29_1 ds G Q E := by
  rintro ds G Q E ⟨a, rs, rfl, ga, hrs, h⟩
  simp only [run_eq, startL, N29, c29_1, DL.e_loc, DL.e_cst, DL.e_gc, DL.e_bin, DL.e_neg, DL.e_cmp, DL.e_chn, DL.e_and, DL.e_or, DL.e_not, DL.e_ite, DL.e_idx, DL.e_gidx, DL.e_slc, DL.e_tup, DL.e_lst, DL.e_call, DL.e_bi, DL.e_inst, DL.e_comp, DL.e_nev, DL.e_nil, DL.e_cons, DL.e_no, DL.e_yes, DL.b_val, DL.b_cmp, DL.b_chn, DL.b_and, DL.b_or, DL.b_not, DL.b_no, DL.b_one, DL.i_seq, DL.i_rng1, DL.i_rng2, DL.i_enum, DL.i_zip, DL.s_set, DL.s_setF, DL.s_asg, DL.s_par, DL.s_par3, DL.s_aug, DL.s_app, DL.s_ext, DL.s_pop, DL.s_expr, DL.s_ret, DL.s_retT, DL.s_ite, DL.s_whl, DL.s_for, DL.s_gset, DL.s_brk, DL.s_cnt, DL.s_nil, DL.s_cons, DL.s_frz, DL.t_name, DL.t_tup, DL.t_nil, DL.t_cons, DL.t_len0, DL.t_len1, DL.k_locd, DL.k_loco, DL.k_neg, DL.k_tt, DL.k_ff, DL.k_any, DL.k_lst, DL.k_int, DL.k_dat, DL.k_ty, DL.k_keep, DL.k_own, DL.k_slot, DL.k_new, DL.k_seqt, DL.k_seql, DL.k_seqs, DL.k_seqo, DL.k_enut, DL.k_enul, DL.k_enuo, DL.k_zipt, DL.k_zipl, DL.k_gix, DL.k_gst, DL.k_setd, DL.k_seto, DL.a_dd, DL.a_do, DL.a_rd, DL.a_ro, DL.a_rb, DL.a_nil, DL.a_d, DL.a_o, DL.a_l, DL.a_lo, DL.a_lb, DL.o_add, DL.o_addb, DL.o_adds, DL.o_addt, DL.o_sub, DL.o_subb, DL.o_subbb, DL.o_iadd, DL.o_iaddb, DL.o_isub, DL.o_isubb, DL.o_mul, DL.o_fdiv, DL.o_mod, DL.o_lt, DL.o_le, DL.o_gt, DL.o_ge, DL.o_eq, DL.o_ne, DL.o_isn, DL.o_notn, DL.o_isb, DL.o_notb, DL.o_idxt, DL.o_idxl, DL.o_idxo, DL.o_idxb, DL.o_slct, DL.o_slcl, DL.o_slco, DL.o_slcb, DL.o_rev, DL.o_lent, DL.o_lenl, DL.o_lens, DL.o_leno, DL.o_lenb, DL.o_lenstr, DL.o_abs, DL.o_int, DL.o_intb, DL.o_tupo, DL.o_tupl, DL.o_tupt, DL.o_tupb, DL.o_lso, DL.o_lsl, DL.o_lst, DL.o_lss, DL.o_lsb, DL.o_all, DL.o_anyy, DL.o_sum, DL.o_sorted, DL.u_bl, DL.u_int, DL.u_non, DL.u_tup, DL.u_lst, DL.u_own, DL.u_bor, DL.x_0, DL.x_1, DL.x_2, DL.x_3, DL.x_4, DL.x_5, DL.y_tuplenon, DL.y_tuplebl, DL.y_tupleint, DL.y_tuplestr, DL.y_tupletup, DL.y_tuplelst, DL.y_listnon, DL.y_listbl, DL.y_listint, DL.y_liststr, DL.y_listtup, DL.y_listlst, DL.y_dictnon, DL.y_dictbl, DL.y_dictint, DL.y_dictstr, DL.y_dicttup, DL.y_dictlst, DL.y_strnon, DL.y_strbl, DL.y_strint, DL.y_strstr, DL.y_strtup, DL.y_strlst, DL.y_intnon, DL.y_intbl, DL.y_intint, DL.y_intstr, DL.y_inttup, DL.y_intlst, DL.y_boolnon, DL.y_boolbl, DL.y_boolint, DL.y_boolstr, DL.y_booltup, DL.y_boollst, DL.j_n1, DL.j_n2, DL.j_n3, DL.j_n4, DL.j_n5, DL.j_f1, DL.j_f2, DL.j_f3, DL.j_f4, DL.j_f5, DL.j_w1, DL.j_w2, DL.j_w3, DL.j_w4, DL.j_w5, DL.j_01, DL.j_02, DL.j_03, DL.eqD_int, DL.eqOk_int, List.getElem?_cons_zero, List.getElem?_cons_succ, List.set_cons_zero, List.set_cons_succ, List.length_cons, List.length_nil, Option.map_some, Option.map_none, true_and, eq_self, List.map_cons, List.map_nil, Nat.reduceAdd, Nat.reduceSub, List.replicate_succ, List.replicate_zero, List.append_nil, List.cons_append, List.nil_append, h12]
  refine Tdraw_of (by decide) (by decide) ga fun n n0 n1 => ?_
  simp only [DL.e_loc, DL.e_cst, DL.e_gc, DL.e_bin, DL.e_neg, DL.e_cmp, DL.e_chn, DL.e_and, DL.e_or, DL.e_not, DL.e_ite, DL.e_idx, DL.e_gidx, DL.e_slc, DL.e_tup, DL.e_lst, DL.e_call, DL.e_bi, DL.e_inst, DL.e_comp, DL.e_nev, DL.e_nil, DL.e_cons, DL.e_no, DL.e_yes, DL.b_val, DL.b_cmp, DL.b_chn, DL.b_and, DL.b_or, DL.b_not, DL.b_no, DL.b_one, DL.i_seq, DL.i_rng1, DL.i_rng2, DL.i_enum, DL.i_zip, DL.s_set, DL.s_setF, DL.s_asg, DL.s_par, DL.s_par3, DL.s_aug, DL.s_app, DL.s_ext, DL.s_pop, DL.s_expr, DL.s_ret, DL.s_retT, DL.s_ite, DL.s_whl, DL.s_for, DL.s_gset, DL.s_brk, DL.s_cnt, DL.s_nil, DL.s_cons, DL.s_frz, DL.t_name, DL.t_tup, DL.t_nil, DL.t_cons, DL.t_len0, DL.t_len1, DL.k_locd, DL.k_loco, DL.k_neg, DL.k_tt, DL.k_ff, DL.k_any, DL.k_lst, DL.k_int, DL.k_dat, DL.k_ty, DL.k_keep, DL.k_own, DL.k_slot, DL.k_new, DL.k_seqt, DL.k_seql, DL.k_seqs, DL.k_seqo, DL.k_enut, DL.k_enul, DL.k_enuo, DL.k_zipt, DL.k_zipl, DL.k_gix, DL.k_gst, DL.k_setd, DL.k_seto, DL.a_dd, DL.a_do, DL.a_rd, DL.a_ro, DL.a_rb, DL.a_nil, DL.a_d, DL.a_o, DL.a_l, DL.a_lo, DL.a_lb, DL.o_add, DL.o_addb, DL.o_adds, DL.o_addt, DL.o_sub, DL.o_subb, DL.o_subbb, DL.o_iadd, DL.o_iaddb, DL.o_isub, DL.o_isubb, DL.o_mul, DL.o_fdiv, DL.o_mod, DL.o_lt, DL.o_le, DL.o_gt, DL.o_ge, DL.o_eq, DL.o_ne, DL.o_isn, DL.o_notn, DL.o_isb, DL.o_notb, DL.o_idxt, DL.o_idxl, DL.o_idxo, DL.o_idxb, DL.o_slct, DL.o_slcl, DL.o_slco, DL.o_slcb, DL.o_rev, DL.o_lent, DL.o_lenl, DL.o_lens, DL.o_leno, DL.o_lenb, DL.o_lenstr, DL.o_abs, DL.o_int, DL.o_intb, DL.o_tupo, DL.o_tupl, DL.o_tupt, DL.o_tupb, DL.o_lso, DL.o_lsl, DL.o_lst, DL.o_lss, DL.o_lsb, DL.o_all, DL.o_anyy, DL.o_sum, DL.o_sorted, DL.u_bl, DL.u_int, DL.u_non, DL.u_tup, DL.u_lst, DL.u_own, DL.u_bor, DL.x_0, DL.x_1, DL.x_2, DL.x_3, DL.x_4, DL.x_5, DL.y_tuplenon, DL.y_tuplebl, DL.y_tupleint, DL.y_tuplestr, DL.y_tupletup, DL.y_tuplelst, DL.y_listnon, DL.y_listbl, DL.y_listint, DL.y_liststr, DL.y_listtup, DL.y_listlst, DL.y_dictnon, DL.y_dictbl, DL.y_dictint, DL.y_dictstr, DL.y_dicttup, DL.y_dictlst, DL.y_strnon, DL.y_strbl, DL.y_strint, DL.y_strstr, DL.y_strtup, DL.y_strlst, DL.y_intnon, DL.y_intbl, DL.y_intint, DL.y_intstr, DL.y_inttup, DL.y_intlst, DL.y_boolnon, DL.y_boolbl, DL.y_boolint, DL.y_boolstr, DL.y_booltup, DL.y_boollst, DL.j_n1, DL.j_n2, DL.j_n3, DL.j_n4, DL.j_n5, DL.j_f1, DL.j_f2, DL.j_f3, DL.j_f4, DL.j_f5, DL.j_w1, DL.j_w2, DL.j_w3, DL.j_w4, DL.j_w5, DL.j_01, DL.j_02, DL.j_03, DL.eqD_int, DL.eqOk_int, List.getElem?_cons_zero, List.getElem?_cons_succ, List.set_cons_zero, List.set_cons_succ, List.length_cons, List.length_nil, Option.map_some, Option.map_none, true_and, eq_self, c29_2, h19]
  refine ⟨a, _, rs.map ringD, rfl, .inl rfl, fun e => ?_, ?_, ga, fun d hd => ?_⟩
  · rw [List.map_eq_nil_iff] at e; rw [e] at hrs; simp at hrs
  · rw [List.length_map]; omega
  obtain ⟨r, hr, rfl⟩ := List.mem_map.mp hd
  have ok := hrs.2.2 r hr
  simp only [DL.e_loc, DL.e_cst, DL.e_gc, DL.e_bin, DL.e_neg, DL.e_cmp, DL.e_chn, DL.e_and, DL.e_or, DL.e_not, DL.e_ite, DL.e_idx, DL.e_gidx, DL.e_slc, DL.e_tup, DL.e_lst, DL.e_call, DL.e_bi, DL.e_inst, DL.e_comp, DL.e_nev, DL.e_nil, DL.e_cons, DL.e_no, DL.e_yes, DL.b_val, DL.b_cmp, DL.b_chn, DL.b_and, DL.b_or, DL.b_not, DL.b_no, DL.b_one, DL.i_seq, DL.i_rng1, DL.i_rng2, DL.i_enum, DL.i_zip, DL.s_set, DL.s_setF, DL.s_asg, DL.s_par, DL.s_par3, DL.s_aug, DL.s_app, DL.s_ext, DL.s_pop, DL.s_expr, DL.s_ret, DL.s_retT, DL.s_ite, DL.s_whl, DL.s_for, DL.s_gset, DL.s_brk, DL.s_cnt, DL.s_nil, DL.s_cons, DL.s_frz, DL.t_name, DL.t_tup, DL.t_nil, DL.t_cons, DL.t_len0, DL.t_len1, DL.k_locd, DL.k_loco, DL.k_neg, DL.k_tt, DL.k_ff, DL.k_any, DL.k_lst, DL.k_int, DL.k_dat, DL.k_ty, DL.k_keep, DL.k_own, DL.k_slot, DL.k_new, DL.k_seqt, DL.k_seql, DL.k_seqs, DL.k_seqo, DL.k_enut, DL.k_enul, DL.k_enuo, DL.k_zipt, DL.k_zipl, DL.k_gix, DL.k_gst, DL.k_setd, DL.k_seto, DL.a_dd, DL.a_do, DL.a_rd, DL.a_ro, DL.a_rb, DL.a_nil, DL.a_d, DL.a_o, DL.a_l, DL.a_lo, DL.a_lb, DL.o_add, DL.o_addb, DL.o_adds, DL.o_addt, DL.o_sub, DL.o_subb, DL.o_subbb, DL.o_iadd, DL.o_iaddb, DL.o_isub, DL.o_isubb, DL.o_mul, DL.o_fdiv, DL.o_mod, DL.o_lt, DL.o_le, DL.o_gt, DL.o_ge, DL.o_eq, DL.o_ne, DL.o_isn, DL.o_notn, DL.o_isb, DL.o_notb, DL.o_idxt, DL.o_idxl, DL.o_idxo, DL.o_idxb, DL.o_slct, DL.o_slcl, DL.o_slco, DL.o_slcb, DL.o_rev, DL.o_lent, DL.o_lenl, DL.o_lens, DL.o_leno, DL.o_lenb, DL.o_lenstr, DL.o_abs, DL.o_int, DL.o_intb, DL.o_tupo, DL.o_tupl, DL.o_tupt, DL.o_tupb, DL.o_lso, DL.o_lsl, DL.o_lst, DL.o_lss, DL.o_lsb, DL.o_all, DL.o_anyy, DL.o_sum, DL.o_sorted, DL.u_bl, DL.u_int, DL.u_non, DL.u_tup, DL.u_lst, DL.u_own, DL.u_bor, DL.x_0, DL.x_1, DL.x_2, DL.x_3, DL.x_4, DL.x_5, DL.y_tuplenon, DL.y_tuplebl, DL.y_tupleint, DL.y_tuplestr, DL.y_tupletup, DL.y_tuplelst, DL.y_listnon, DL.y_listbl, DL.y_listint, DL.y_liststr, DL.y_listtup, DL.y_listlst, DL.y_dictnon, DL.y_dictbl, DL.y_dictint, DL.y_dictstr, DL.y_dicttup, DL.y_dictlst, DL.y_strnon, DL.y_strbl, DL.y_strint, DL.y_strstr, DL.y_strtup, DL.y_strlst, DL.y_intnon, DL.y_intbl, DL.y_intint, DL.y_intstr, DL.y_inttup, DL.y_intlst, DL.y_boolnon, DL.y_boolbl, DL.y_boolint, DL.y_boolstr, DL.y_booltup, DL.y_boollst, DL.j_n1, DL.j_n2, DL.j_n3, DL.j_n4, DL.j_n5, DL.j_f1, DL.j_f2, DL.j_f3, DL.j_f4, DL.j_f5, DL.j_w1, DL.j_w2, DL.j_w3, DL.j_w4, DL.j_w5, DL.j_01, DL.j_02, DL.j_03, DL.eqD_int, DL.eqOk_int, List.getElem?_cons_zero, List.getElem?_cons_succ, List.set_cons_zero, List.set_cons_succ, List.length_cons, List.length_nil, Option.map_some, Option.map_none, true_and, eq_self, c29_3, h19]
  refine ringD_pick ga ok fun p hp => ringD_pick ga ok fun q hq => ?_
  refine ⟨Nat.le_of_ble_eq_true rfl, rfl, ?_⟩
  simp only [DL.e_loc, DL.e_cst, DL.e_gc, DL.e_bin, DL.e_neg, DL.e_cmp, DL.e_chn, DL.e_and, DL.e_or, DL.e_not, DL.e_ite, DL.e_idx, DL.e_gidx, DL.e_slc, DL.e_tup, DL.e_lst, DL.e_call, DL.e_bi, DL.e_inst, DL.e_comp, DL.e_nev, DL.e_nil, DL.e_cons, DL.e_no, DL.e_yes, DL.b_val, DL.b_cmp, DL.b_chn, DL.b_and, DL.b_or, DL.b_not, DL.b_no, DL.b_one, DL.i_seq, DL.i_rng1, DL.i_rng2, DL.i_enum, DL.i_zip, DL.s_set, DL.s_setF, DL.s_asg, DL.s_par, DL.s_par3, DL.s_aug, DL.s_app, DL.s_ext, DL.s_pop, DL.s_expr, DL.s_ret, DL.s_retT, DL.s_ite, DL.s_whl, DL.s_for, DL.s_gset, DL.s_brk, DL.s_cnt, DL.s_nil, DL.s_cons, DL.s_frz, DL.t_name, DL.t_tup, DL.t_nil, DL.t_cons, DL.t_len0, DL.t_len1, DL.k_locd, DL.k_loco, DL.k_neg, DL.k_tt, DL.k_ff, DL.k_any, DL.k_lst, DL.k_int, DL.k_dat, DL.k_ty, DL.k_keep, DL.k_own, DL.k_slot, DL.k_new, DL.k_seqt, DL.k_seql, DL.k_seqs, DL.k_seqo, DL.k_enut, DL.k_enul, DL.k_enuo, DL.k_zipt, DL.k_zipl, DL.k_gix, DL.k_gst, DL.k_setd, DL.k_seto, DL.a_dd, DL.a_do, DL.a_rd, DL.a_ro, DL.a_rb, DL.a_nil, DL.a_d, DL.a_o, DL.a_l, DL.a_lo, DL.a_lb, DL.o_add, DL.o_addb, DL.o_adds, DL.o_addt, DL.o_sub, DL.o_subb, DL.o_subbb, DL.o_iadd, DL.o_iaddb, DL.o_isub, DL.o_isubb, DL.o_mul, DL.o_fdiv, DL.o_mod, DL.o_lt, DL.o_le, DL.o_gt, DL.o_ge, DL.o_eq, DL.o_ne, DL.o_isn, DL.o_notn, DL.o_isb, DL.o_notb, DL.o_idxt, DL.o_idxl, DL.o_idxo, DL.o_idxb, DL.o_slct, DL.o_slcl, DL.o_slco, DL.o_slcb, DL.o_rev, DL.o_lent, DL.o_lenl, DL.o_lens, DL.o_leno, DL.o_lenb, DL.o_lenstr, DL.o_abs, DL.o_int, DL.o_intb, DL.o_tupo, DL.o_tupl, DL.o_tupt, DL.o_tupb, DL.o_lso, DL.o_lsl, DL.o_lst, DL.o_lss, DL.o_lsb, DL.o_all, DL.o_anyy, DL.o_sum, DL.o_sorted, DL.u_bl, DL.u_int, DL.u_non, DL.u_tup, DL.u_lst, DL.u_own, DL.u_bor, DL.x_0, DL.x_1, DL.x_2, DL.x_3, DL.x_4, DL.x_5, DL.y_tuplenon, DL.y_tuplebl, DL.y_tupleint, DL.y_tuplestr, DL.y_tupletup, DL.y_tuplelst, DL.y_listnon, DL.y_listbl, DL.y_listint, DL.y_liststr, DL.y_listtup, DL.y_listlst, DL.y_dictnon, DL.y_dictbl, DL.y_dictint, DL.y_dictstr, DL.y_dicttup, DL.y_dictlst, DL.y_strnon, DL.y_strbl, DL.y_strint, DL.y_strstr, DL.y_strtup, DL.y_strlst, DL.y_intnon, DL.y_intbl, DL.y_intint, DL.y_intstr, DL.y_inttup, DL.y_intlst, DL.y_boolnon, DL.y_boolbl, DL.y_boolint, DL.y_boolstr, DL.y_booltup, DL.y_boollst, DL.j_n1, DL.j_n2, DL.j_n3, DL.j_n4, DL.j_n5, DL.j_f1, DL.j_f2, DL.j_f3, DL.j_f4, DL.j_f5, DL.j_w1, DL.j_w2, DL.j_w3, DL.j_w4, DL.j_w5, DL.j_01, DL.j_02, DL.j_03, DL.eqD_int, DL.eqOk_int, List.getElem?_cons_zero, List.getElem?_cons_succ, List.set_cons_zero, List.set_cons_succ, List.length_cons, List.length_nil, Option.map_some, Option.map_none, true_and, eq_self, c29_4, c29_5, c29_6, c29_8, h26]
  refine iteK_of (fun e => ?_) (fun e => iteK_of (fun e => ?_) (fun e => ?_))
  · exact h p ⟨hp.1.mono (by decide), hp.2.mono (by decide)⟩
  · simp only [DL.e_loc, DL.e_cst, DL.e_gc, DL.e_bin, DL.e_neg, DL.e_cmp, DL.e_chn, DL.e_and, DL.e_or, DL.e_not, DL.e_ite, DL.e_idx, DL.e_gidx, DL.e_slc, DL.e_tup, DL.e_lst, DL.e_call, DL.e_bi, DL.e_inst, DL.e_comp, DL.e_nev, DL.e_nil, DL.e_cons, DL.e_no, DL.e_yes, DL.b_val, DL.b_cmp, DL.b_chn, DL.b_and, DL.b_or, DL.b_not, DL.b_no, DL.b_one, DL.i_seq, DL.i_rng1, DL.i_rng2, DL.i_enum, DL.i_zip, DL.s_set, DL.s_setF, DL.s_asg, DL.s_par, DL.s_par3, DL.s_aug, DL.s_app, DL.s_ext, DL.s_pop, DL.s_expr, DL.s_ret, DL.s_retT, DL.s_ite, DL.s_whl, DL.s_for, DL.s_gset, DL.s_brk, DL.s_cnt, DL.s_nil, DL.s_cons, DL.s_frz, DL.t_name, DL.t_tup, DL.t_nil, DL.t_cons, DL.t_len0, DL.t_len1, DL.k_locd, DL.k_loco, DL.k_neg, DL.k_tt, DL.k_ff, DL.k_any, DL.k_lst, DL.k_int, DL.k_dat, DL.k_ty, DL.k_keep, DL.k_own, DL.k_slot, DL.k_new, DL.k_seqt, DL.k_seql, DL.k_seqs, DL.k_seqo, DL.k_enut, DL.k_enul, DL.k_enuo, DL.k_zipt, DL.k_zipl, DL.k_gix, DL.k_gst, DL.k_setd, DL.k_seto, DL.a_dd, DL.a_do, DL.a_rd, DL.a_ro, DL.a_rb, DL.a_nil, DL.a_d, DL.a_o, DL.a_l, DL.a_lo, DL.a_lb, DL.o_add, DL.o_addb, DL.o_adds, DL.o_addt, DL.o_sub, DL.o_subb, DL.o_subbb, DL.o_iadd, DL.o_iaddb, DL.o_isub, DL.o_isubb, DL.o_mul, DL.o_fdiv, DL.o_mod, DL.o_lt, DL.o_le, DL.o_gt, DL.o_ge, DL.o_eq, DL.o_ne, DL.o_isn, DL.o_notn, DL.o_isb, DL.o_notb, DL.o_idxt, DL.o_idxl, DL.o_idxo, DL.o_idxb, DL.o_slct, DL.o_slcl, DL.o_slco, DL.o_slcb, DL.o_rev, DL.o_lent, DL.o_lenl, DL.o_lens, DL.o_leno, DL.o_lenb, DL.o_lenstr, DL.o_abs, DL.o_int, DL.o_intb, DL.o_tupo, DL.o_tupl, DL.o_tupt, DL.o_tupb, DL.o_lso, DL.o_lsl, DL.o_lst, DL.o_lss, DL.o_lsb, DL.o_all, DL.o_anyy, DL.o_sum, DL.o_sorted, DL.u_bl, DL.u_int, DL.u_non, DL.u_tup, DL.u_lst, DL.u_own, DL.u_bor, DL.x_0, DL.x_1, DL.x_2, DL.x_3, DL.x_4, DL.x_5, DL.y_tuplenon, DL.y_tuplebl, DL.y_tupleint, DL.y_tuplestr, DL.y_tupletup, DL.y_tuplelst, DL.y_listnon, DL.y_listbl, DL.y_listint, DL.y_liststr, DL.y_listtup, DL.y_listlst, DL.y_dictnon, DL.y_dictbl, DL.y_dictint, DL.y_dictstr, DL.y_dicttup, DL.y_dictlst, DL.y_strnon, DL.y_strbl, DL.y_strint, DL.y_strstr, DL.y_strtup, DL.y_strlst, DL.y_intnon, DL.y_intbl, DL.y_intint, DL.y_intstr, DL.y_inttup, DL.y_intlst, DL.y_boolnon, DL.y_boolbl, DL.y_boolint, DL.y_boolstr, DL.y_booltup, DL.y_boollst, DL.j_n1, DL.j_n2, DL.j_n3, DL.j_n4, DL.j_n5, DL.j_f1, DL.j_f2, DL.j_f3, DL.j_f4, DL.j_f5, DL.j_w1, DL.j_w2, DL.j_w3, DL.j_w4, DL.j_w5, DL.j_01, DL.j_02, DL.j_03, DL.eqD_int, DL.eqOk_int, List.getElem?_cons_zero, List.getElem?_cons_succ, List.set_cons_zero, List.set_cons_succ, List.length_cons, List.length_nil, Option.map_some, Option.map_none, true_and, eq_self, c29_7]
    refine ⟨by decide, by decide, ?_⟩
    simp only [blk_eq, wipe_cons, wipe_nil, no_d, no_n, List.map_cons, List.map_nil, Nat.reduceAdd, Nat.reduceSub, List.replicate_succ, List.replicate_zero, List.append_nil, List.cons_append, List.nil_append]
    have h2 : (2 : Rat) ≠ 0 := by decide
    have s2 : Sz 2 (2 : Rat) := ⟨by unfold Bd; decide, by unfold Bd; decide⟩
    have a1 := hp.1.add hq.1
    have a2 := hp.2.add hq.2
    have e0 : rngD 0 (Int.toNat 2) = [.int 0, .int 1] := rfl
    rw [e0]
    simp only [c_cons, c_nil, DL.e_loc, DL.e_cst, DL.e_gc, DL.e_bin, DL.e_neg, DL.e_cmp, DL.e_chn, DL.e_and, DL.e_or, DL.e_not, DL.e_ite, DL.e_idx, DL.e_gidx, DL.e_slc, DL.e_tup, DL.e_lst, DL.e_call, DL.e_bi, DL.e_inst, DL.e_comp, DL.e_nev, DL.e_nil, DL.e_cons, DL.e_no, DL.e_yes, DL.b_val, DL.b_cmp, DL.b_chn, DL.b_and, DL.b_or, DL.b_not, DL.b_no, DL.b_one, DL.i_seq, DL.i_rng1, DL.i_rng2, DL.i_enum, DL.i_zip, DL.s_set, DL.s_setF, DL.s_asg, DL.s_par, DL.s_par3, DL.s_aug, DL.s_app, DL.s_ext, DL.s_pop, DL.s_expr, DL.s_ret, DL.s_retT, DL.s_ite, DL.s_whl, DL.s_for, DL.s_gset, DL.s_brk, DL.s_cnt, DL.s_nil, DL.s_cons, DL.s_frz, DL.t_name, DL.t_tup, DL.t_nil, DL.t_cons, DL.t_len0, DL.t_len1, DL.k_locd, DL.k_loco, DL.k_neg, DL.k_tt, DL.k_ff, DL.k_any, DL.k_lst, DL.k_int, DL.k_dat, DL.k_ty, DL.k_keep, DL.k_own, DL.k_slot, DL.k_new, DL.k_seqt, DL.k_seql, DL.k_seqs, DL.k_seqo, DL.k_enut, DL.k_enul, DL.k_enuo, DL.k_zipt, DL.k_zipl, DL.k_gix, DL.k_gst, DL.k_setd, DL.k_seto, DL.a_dd, DL.a_do, DL.a_rd, DL.a_ro, DL.a_rb, DL.a_nil, DL.a_d, DL.a_o, DL.a_l, DL.a_lo, DL.a_lb, DL.o_add, DL.o_addb, DL.o_adds, DL.o_addt, DL.o_sub, DL.o_subb, DL.o_subbb, DL.o_iadd, DL.o_iaddb, DL.o_isub, DL.o_isubb, DL.o_mul, DL.o_fdiv, DL.o_mod, DL.o_lt, DL.o_le, DL.o_gt, DL.o_ge, DL.o_eq, DL.o_ne, DL.o_isn, DL.o_notn, DL.o_isb, DL.o_notb, DL.o_idxt, DL.o_idxl, DL.o_idxo, DL.o_idxb, DL.o_slct, DL.o_slcl, DL.o_slco, DL.o_slcb, DL.o_rev, DL.o_lent, DL.o_lenl, DL.o_lens, DL.o_leno, DL.o_lenb, DL.o_lenstr, DL.o_abs, DL.o_int, DL.o_intb, DL.o_tupo, DL.o_tupl, DL.o_tupt, DL.o_tupb, DL.o_lso, DL.o_lsl, DL.o_lst, DL.o_lss, DL.o_lsb, DL.o_all, DL.o_anyy, DL.o_sum, DL.o_sorted, DL.u_bl, DL.u_int, DL.u_non, DL.u_tup, DL.u_lst, DL.u_own, DL.u_bor, DL.x_0, DL.x_1, DL.x_2, DL.x_3, DL.x_4, DL.x_5, DL.y_tuplenon, DL.y_tuplebl, DL.y_tupleint, DL.y_tuplestr, DL.y_tupletup, DL.y_tuplelst, DL.y_listnon, DL.y_listbl, DL.y_listint, DL.y_liststr, DL.y_listtup, DL.y_listlst, DL.y_dictnon, DL.y_dictbl, DL.y_dictint, DL.y_dictstr, DL.y_dicttup, DL.y_dictlst, DL.y_strnon, DL.y_strbl, DL.y_strint, DL.y_strstr, DL.y_strtup, DL.y_strlst, DL.y_intnon, DL.y_intbl, DL.y_intint, DL.y_intstr, DL.y_inttup, DL.y_intlst, DL.y_boolnon, DL.y_boolbl, DL.y_boolint, DL.y_boolstr, DL.y_booltup, DL.y_boollst, DL.j_n1, DL.j_n2, DL.j_n3, DL.j_n4, DL.j_n5, DL.j_f1, DL.j_f2, DL.j_f3, DL.j_f4, DL.j_f5, DL.j_w1, DL.j_w2, DL.j_w3, DL.j_w4, DL.j_w5, DL.j_01, DL.j_02, DL.j_03, DL.eqD_int, DL.eqOk_int, List.getElem?_cons_zero, List.getElem?_cons_succ, List.set_cons_zero, List.set_cons_succ, List.length_cons, List.length_nil, Option.map_some, Option.map_none, true_and, eq_self, x_pt0, x_pt1, h15, h18, two_nf]
    refine T2_of (hp.1.mono (by decide)) (hq.1.mono (by decide)) ?_
    refine ⟨Nat.le_of_ble_eq_true rfl, _, _, rfl, h2, a1.mono (by decide), s2.mono (by decide), ?_⟩
    refine T2_of (hp.2.mono (by decide)) (hq.2.mono (by decide)) ?_
    refine ⟨Nat.le_of_ble_eq_true rfl, _, _, rfl, h2, a2.mono (by decide), s2.mono (by decide), ?_⟩
    exact h ((p.1 + q.1) / 2, (p.2 + q.2) / 2) ⟨(a1.div s2 h2).mono (by decide), (a2.div s2 h2).mono (by decide)⟩
  · exact ⟨a, rfl, ga, fun p hp => h p ⟨hp.1.mono (by decide), hp.2.mono (by decide)⟩⟩
end K14
namespace K14
open PySem DL DC
theorem rg_of {rs : List (List Pt)} (h : rs.length ≤ 2 ∧ ∀ r ∈ rs, RingOk r) : RgOk 100 rs :=
  ⟨by omega, fun r hr => ⟨by have := (h.2 r hr).2.1; omega, fun p hp => ⟨((h.2 r hr).2.2 p hp).1.mono (by decide), ((h.2 r hr).2.2 p hp).2.mono (by decide)⟩⟩⟩
theorem ar_of {a : Area} (h : AreaOk a) : ArOk 100 a :=
  ⟨rg_of ⟨h.1.2.1, h.1.2.2⟩, h.2.1, by have := h.2.2.1; omega, fun c hc => by
    obtain ⟨⟨r, e, hr⟩, h2⟩ := h.2.2.2 c hc
    refine ⟨?_, h2⟩
    rw [e]
    exact rg_of ⟨by simp, by simpa using hr⟩⟩
theorem Tturns_of {rs : List (List Pt)} {p : Pt} {G : Gh} {Q : D → Gh → Prop} {E : DX → Gh → Prop} (h1 : RgOk 100 rs) (h2 : PtOk 100 p) (h : Q (.int (wind rs p)) G) : Tturns [ringsD rs, ptD p] G Q E := ⟨rs, p, rfl, h1, h2, h⟩
theorem Tisin_of {rs : List (List Pt)} {p : Pt} {rule : Str} {G : Gh} {Q : D → Gh → Prop} {E : DX → Gh → Prop} (h1 : RgOk 100 rs) (h3 : RuleOk rule) (h2 : PtOk 100 p) (h : Q (.bl (isIn rs rule p)) G) : Tisin [ringsD rs, .str rule, ptD p] G Q E := ⟨rs, rule, p, rfl, h1, h3, h2, h⟩
theorem Thas_of {a : Area} {p : Pt} {G : Gh} {Q : D → Gh → Prop} {E : DX → Gh → Prop} (h1 : ArOk 100 a) (h2 : PtOk 100 p) (h : Q (.bl (hasA a p)) G) : Thas [areaD a, ptD p] G Q E := ⟨a, p, rfl, h1, h2, h⟩
theorem comp_pure {S : Sg} {t : CT} {e : CE} {L0 : DL.Loc} {G : Gh} {Q : List D → Gh → Prop} {α : Type} {item f : α → D} : ∀ (xs : List α) (acc : List D), (∀ x ∈ xs, ∀ k : EV → Gh → Prop, k (.d (f x)) G → bindT t (item x) L0 fun L1 => wpE S e noE L1 G k) →
    Q (acc ++ xs.map f) G → compK S t .no e L0 (xs.map item) acc G Q := by
  intro xs
  induction xs with
  | nil =>
    intro acc _ h
    rw [List.map_nil, c_nil]
    simpa using h
  | cons x xs ih =>
    intro acc hx h
    simp only [List.map_cons, c_cons, b_no, k_tt]
    refine hx x List.mem_cons_self _ ?_
    simp only [a_dd, k_any]
    exact ih _ (fun y hy => hx y (List.mem_cons_of_mem _ hy)) (by simpa using h)
theorem cut_to {xs : List D} {n : Nat} (h : n ≤ xs.length) : cutD xs none (some (n : Int)) = xs.take n := by
  unfold cutD
  rw [HT.sIx_nat, HT.sIx_none, Nat.min_eq_left h]
  simp
theorem cut_from {xs : List D} {n : Nat} (h : n ≤ xs.length) : cutD xs (some (n : Int)) none = xs.drop n := by
  unfold cutD
  rw [HT.sIx_nat, HT.sIx_none, Nat.min_eq_left h]
  rw [← List.length_drop, List.take_length]
theorem slc_to {r : List Pt} {n : Nat} {k : EV → Prop} (h : n ≤ r.length) : opS .any (.d (ringD r)) none (some (n : Int)) k = k (.d (ringD (r.take n))) := by
  show k (.d (.tup (cutD (r.map ptD) none (some (n : Int))))) = _
  rw [cut_to (by rw [List.length_map]; exact h), ← List.map_take]
  rfl
theorem slc_from {r : List Pt} {n : Nat} {k : EV → Prop} (h : n ≤ r.length) : opS .any (.d (ringD r)) (some (n : Int)) none k = k (.d (ringD (r.drop n))) := by
  show k (.d (.tup (cutD (r.map ptD) (some (n : Int)) none))) = _
  rw [cut_from (by rw [List.length_map]; exact h), ← List.map_drop]
  rfl
theorem slc_one {r : List Pt} {k : EV → Prop} (h : 1 ≤ r.length) : opS .any (.d (ringD r)) none (some 1) k = k (.d (ringD (r.take 1))) := slc_to (n := 1) h
theorem add_ring {x y : List Pt} {k : EV → Prop} : opB .addP (.d (ringD x)) (.d (ringD y)) k = (x.length + y.length ≤ sizeLine ∧ k (.d (ringD (x ++ y)))) := by
  show ((x.map ptD).length + (y.map ptD).length ≤ sizeLine ∧ k (.d (.tup (x.map ptD ++ y.map ptD)))) = _
  rw [List.length_map, List.length_map, ← List.map_append]
  rfl
theorem rev_ring {x : List Pt} {lo hi : Option Int} {k : EV → Prop} : opS .revT (.d (ringD x)) lo hi k = k (.d (ringD x.reverse)) := by
  show k (.d (.tup (x.map ptD).reverse)) = _
  rw [← List.map_reverse]
  rfl
theorem x_rs0 {r : List Pt} {rs : List (List Pt)} {k : EV → Prop} : opI .any (.d (ringsD (r :: rs))) (.d (.int 0)) k = k (.d (ringD r)) := by
  show idxK (ringD r :: rs.map ringD) 0 k = _
  rw [x_0]
theorem rings1 {r : List Pt} : D.tup [ringD r] = ringsD [r] := rfl
theorem rings2 {r s : List Pt} : D.tup [ringD r, ringD s] = ringsD [r, s] := rfl
theorem tup_rings {rs : List (List Pt)} : D.tup (rs.map ringD) = ringsD rs := rfl
theorem pd_int {i : Int} {n : Nat} : pd n (.int i) = true := by cases n <;> rfl
theorem pd_bl {i : Bool} {n : Nat} : pd n (.bl i) = true := by cases n <;> rfl

/-- the law's turns: all of them pass -/
theorem turn_all {R : En} {G : Gh} {a : Addr} {x0 : Option SV} {ar : Area} (ga : G a = some .strm) (oa : AreaOk ar) :
    ∀ (items : List D) (x3 x4 x5 x6 x7 x8 x9 x10 : Option SV), (∀ x3 x4 x5 x6 x7 x8 x9 x10 : Option SV, R.nx [x0, some (.d (.ref a)), some (.d (areaD ar)), x3, x4, x5, x6, x7, x8, x9, x10, none, none, none, none, none, none, none, none, none] G) →
      forK S (.name 3) c30_4 items R [x0, some (.d (.ref a)), some (.d (areaD ar)), x3, x4, x5, x6, x7, x8, x9, x10, none, none, none, none, none, none, none, none, none] G := by
  intro items
  induction items with
  | nil => intro x3 x4 x5 x6 x7 x8 x9 x10 h; rw [f_nil]; exact h _ _ _ _ _ _ _ _
  | cons d items ih =>
    intro x3 x4 x5 x6 x7 x8 x9 x10 h
    have og := rg_of ⟨oa.1.2.1, oa.1.2.2⟩
    have oA := ar_of oa
    simp only [f_cons, c30_4, DL.e_loc, DL.e_cst, DL.e_gc, DL.e_bin, DL.e_neg, DL.e_cmp, DL.e_chn, DL.e_and, DL.e_or, DL.e_not, DL.e_ite, DL.e_idx, DL.e_gidx, DL.e_slc, DL.e_tup, DL.e_lst, DL.e_call, DL.e_bi, DL.e_inst, DL.e_comp, DL.e_nev, DL.e_nil, DL.e_cons, DL.e_no, DL.e_yes, DL.b_val, DL.b_cmp, DL.b_chn, DL.b_and, DL.b_or, DL.b_not, DL.b_no, DL.b_one, DL.i_seq, DL.i_rng1, DL.i_rng2, DL.i_enum, DL.i_zip, DL.s_set, DL.s_setF, DL.s_asg, DL.s_par, DL.s_par3, DL.s_aug, DL.s_app, DL.s_ext, DL.s_pop, DL.s_expr, DL.s_ret, DL.s_retT, DL.s_ite, DL.s_whl, DL.s_for, DL.s_gset, DL.s_brk, DL.s_cnt, DL.s_nil, DL.s_cons, DL.s_frz, DL.t_name, DL.t_tup, DL.t_nil, DL.t_cons, DL.t_len0, DL.t_len1, DL.k_locd, DL.k_loco, DL.k_neg, DL.k_tt, DL.k_ff, DL.k_any, DL.k_lst, DL.k_int, DL.k_dat, DL.k_ty, DL.k_keep, DL.k_own, DL.k_slot, DL.k_new, DL.k_seqt, DL.k_seql, DL.k_seqs, DL.k_seqo, DL.k_enut, DL.k_enul, DL.k_enuo, DL.k_zipt, DL.k_zipl, DL.k_gix, DL.k_gst, DL.k_setd, DL.k_seto, DL.a_dd, DL.a_do, DL.a_rd, DL.a_ro, DL.a_rb, DL.a_nil, DL.a_d, DL.a_o, DL.a_l, DL.a_lo, DL.a_lb, DL.o_add, DL.o_addb, DL.o_adds, DL.o_addt, DL.o_sub, DL.o_subb, DL.o_subbb, DL.o_iadd, DL.o_iaddb, DL.o_isub, DL.o_isubb, DL.o_mul, DL.o_fdiv, DL.o_mod, DL.o_lt, DL.o_le, DL.o_gt, DL.o_ge, DL.o_eq, DL.o_ne, DL.o_isn, DL.o_notn, DL.o_isb, DL.o_notb, DL.o_idxt, DL.o_idxl, DL.o_idxo, DL.o_idxb, DL.o_slct, DL.o_slcl, DL.o_slco, DL.o_slcb, DL.o_rev, DL.o_lent, DL.o_lenl, DL.o_lens, DL.o_leno, DL.o_lenb, DL.o_lenstr, DL.o_abs, DL.o_int, DL.o_intb, DL.o_tupo, DL.o_tupl, DL.o_tupt, DL.o_tupb, DL.o_lso, DL.o_lsl, DL.o_lst, DL.o_lss, DL.o_lsb, DL.o_all, DL.o_anyy, DL.o_sum, DL.o_sorted, DL.u_bl, DL.u_int, DL.u_non, DL.u_tup, DL.u_lst, DL.u_own, DL.u_bor, DL.x_0, DL.x_1, DL.x_2, DL.x_3, DL.x_4, DL.x_5, DL.y_tuplenon, DL.y_tuplebl, DL.y_tupleint, DL.y_tuplestr, DL.y_tupletup, DL.y_tuplelst, DL.y_listnon, DL.y_listbl, DL.y_listint, DL.y_liststr, DL.y_listtup, DL.y_listlst, DL.y_dictnon, DL.y_dictbl, DL.y_dictint, DL.y_dictstr, DL.y_dicttup, DL.y_dictlst, DL.y_strnon, DL.y_strbl, DL.y_strint, DL.y_strstr, DL.y_strtup, DL.y_strlst, DL.y_intnon, DL.y_intbl, DL.y_intint, DL.y_intstr, DL.y_inttup, DL.y_intlst, DL.y_boolnon, DL.y_boolbl, DL.y_boolint, DL.y_boolstr, DL.y_booltup, DL.y_boollst, DL.j_n1, DL.j_n2, DL.j_n3, DL.j_n4, DL.j_n5, DL.j_f1, DL.j_f2, DL.j_f3, DL.j_f4, DL.j_f5, DL.j_w1, DL.j_w2, DL.j_w3, DL.j_w4, DL.j_w5, DL.j_01, DL.j_02, DL.j_03, DL.eqD_int, DL.eqOk_int, List.getElem?_cons_zero, List.getElem?_cons_succ, List.set_cons_zero, List.set_cons_succ, List.length_cons, List.length_nil, Option.map_some, Option.map_none, true_and, eq_self, x_ar0, h29]
    refine ⟨a, ar.rings, rfl, ga, oa.1, fun p hp => ?_⟩
    have op : PtOk 100 p := ⟨hp.1.mono (by decide), hp.2.mono (by decide)⟩
    simp only [c30_5, DL.e_loc, DL.e_cst, DL.e_gc, DL.e_bin, DL.e_neg, DL.e_cmp, DL.e_chn, DL.e_and, DL.e_or, DL.e_not, DL.e_ite, DL.e_idx, DL.e_gidx, DL.e_slc, DL.e_tup, DL.e_lst, DL.e_call, DL.e_bi, DL.e_inst, DL.e_comp, DL.e_nev, DL.e_nil, DL.e_cons, DL.e_no, DL.e_yes, DL.b_val, DL.b_cmp, DL.b_chn, DL.b_and, DL.b_or, DL.b_not, DL.b_no, DL.b_one, DL.i_seq, DL.i_rng1, DL.i_rng2, DL.i_enum, DL.i_zip, DL.s_set, DL.s_setF, DL.s_asg, DL.s_par, DL.s_par3, DL.s_aug, DL.s_app, DL.s_ext, DL.s_pop, DL.s_expr, DL.s_ret, DL.s_retT, DL.s_ite, DL.s_whl, DL.s_for, DL.s_gset, DL.s_brk, DL.s_cnt, DL.s_nil, DL.s_cons, DL.s_frz, DL.t_name, DL.t_tup, DL.t_nil, DL.t_cons, DL.t_len0, DL.t_len1, DL.k_locd, DL.k_loco, DL.k_neg, DL.k_tt, DL.k_ff, DL.k_any, DL.k_lst, DL.k_int, DL.k_dat, DL.k_ty, DL.k_keep, DL.k_own, DL.k_slot, DL.k_new, DL.k_seqt, DL.k_seql, DL.k_seqs, DL.k_seqo, DL.k_enut, DL.k_enul, DL.k_enuo, DL.k_zipt, DL.k_zipl, DL.k_gix, DL.k_gst, DL.k_setd, DL.k_seto, DL.a_dd, DL.a_do, DL.a_rd, DL.a_ro, DL.a_rb, DL.a_nil, DL.a_d, DL.a_o, DL.a_l, DL.a_lo, DL.a_lb, DL.o_add, DL.o_addb, DL.o_adds, DL.o_addt, DL.o_sub, DL.o_subb, DL.o_subbb, DL.o_iadd, DL.o_iaddb, DL.o_isub, DL.o_isubb, DL.o_mul, DL.o_fdiv, DL.o_mod, DL.o_lt, DL.o_le, DL.o_gt, DL.o_ge, DL.o_eq, DL.o_ne, DL.o_isn, DL.o_notn, DL.o_isb, DL.o_notb, DL.o_idxt, DL.o_idxl, DL.o_idxo, DL.o_idxb, DL.o_slct, DL.o_slcl, DL.o_slco, DL.o_slcb, DL.o_rev, DL.o_lent, DL.o_lenl, DL.o_lens, DL.o_leno, DL.o_lenb, DL.o_lenstr, DL.o_abs, DL.o_int, DL.o_intb, DL.o_tupo, DL.o_tupl, DL.o_tupt, DL.o_tupb, DL.o_lso, DL.o_lsl, DL.o_lst, DL.o_lss, DL.o_lsb, DL.o_all, DL.o_anyy, DL.o_sum, DL.o_sorted, DL.u_bl, DL.u_int, DL.u_non, DL.u_tup, DL.u_lst, DL.u_own, DL.u_bor, DL.x_0, DL.x_1, DL.x_2, DL.x_3, DL.x_4, DL.x_5, DL.y_tuplenon, DL.y_tuplebl, DL.y_tupleint, DL.y_tuplestr, DL.y_tupletup, DL.y_tuplelst, DL.y_listnon, DL.y_listbl, DL.y_listint, DL.y_liststr, DL.y_listtup, DL.y_listlst, DL.y_dictnon, DL.y_dictbl, DL.y_dictint, DL.y_dictstr, DL.y_dicttup, DL.y_dictlst, DL.y_strnon, DL.y_strbl, DL.y_strint, DL.y_strstr, DL.y_strtup, DL.y_strlst, DL.y_intnon, DL.y_intbl, DL.y_intint, DL.y_intstr, DL.y_inttup, DL.y_intlst, DL.y_boolnon, DL.y_boolbl, DL.y_boolint, DL.y_boolstr, DL.y_booltup, DL.y_boollst, DL.j_n1, DL.j_n2, DL.j_n3, DL.j_n4, DL.j_n5, DL.j_f1, DL.j_f2, DL.j_f3, DL.j_f4, DL.j_f5, DL.j_w1, DL.j_w2, DL.j_w3, DL.j_w4, DL.j_w5, DL.j_01, DL.j_02, DL.j_03, DL.eqD_int, DL.eqOk_int, List.getElem?_cons_zero, List.getElem?_cons_succ, List.set_cons_zero, List.set_cons_succ, List.length_cons, List.length_nil, Option.map_some, Option.map_none, true_and, eq_self, x_ar0, h23]
    refine Tturns_of og op ?_
    simp only [c30_6, DL.e_loc, DL.e_cst, DL.e_gc, DL.e_bin, DL.e_neg, DL.e_cmp, DL.e_chn, DL.e_and, DL.e_or, DL.e_not, DL.e_ite, DL.e_idx, DL.e_gidx, DL.e_slc, DL.e_tup, DL.e_lst, DL.e_call, DL.e_bi, DL.e_inst, DL.e_comp, DL.e_nev, DL.e_nil, DL.e_cons, DL.e_no, DL.e_yes, DL.b_val, DL.b_cmp, DL.b_chn, DL.b_and, DL.b_or, DL.b_not, DL.b_no, DL.b_one, DL.i_seq, DL.i_rng1, DL.i_rng2, DL.i_enum, DL.i_zip, DL.s_set, DL.s_setF, DL.s_asg, DL.s_par, DL.s_par3, DL.s_aug, DL.s_app, DL.s_ext, DL.s_pop, DL.s_expr, DL.s_ret, DL.s_retT, DL.s_ite, DL.s_whl, DL.s_for, DL.s_gset, DL.s_brk, DL.s_cnt, DL.s_nil, DL.s_cons, DL.s_frz, DL.t_name, DL.t_tup, DL.t_nil, DL.t_cons, DL.t_len0, DL.t_len1, DL.k_locd, DL.k_loco, DL.k_neg, DL.k_tt, DL.k_ff, DL.k_any, DL.k_lst, DL.k_int, DL.k_dat, DL.k_ty, DL.k_keep, DL.k_own, DL.k_slot, DL.k_new, DL.k_seqt, DL.k_seql, DL.k_seqs, DL.k_seqo, DL.k_enut, DL.k_enul, DL.k_enuo, DL.k_zipt, DL.k_zipl, DL.k_gix, DL.k_gst, DL.k_setd, DL.k_seto, DL.a_dd, DL.a_do, DL.a_rd, DL.a_ro, DL.a_rb, DL.a_nil, DL.a_d, DL.a_o, DL.a_l, DL.a_lo, DL.a_lb, DL.o_add, DL.o_addb, DL.o_adds, DL.o_addt, DL.o_sub, DL.o_subb, DL.o_subbb, DL.o_iadd, DL.o_iaddb, DL.o_isub, DL.o_isubb, DL.o_mul, DL.o_fdiv, DL.o_mod, DL.o_lt, DL.o_le, DL.o_gt, DL.o_ge, DL.o_eq, DL.o_ne, DL.o_isn, DL.o_notn, DL.o_isb, DL.o_notb, DL.o_idxt, DL.o_idxl, DL.o_idxo, DL.o_idxb, DL.o_slct, DL.o_slcl, DL.o_slco, DL.o_slcb, DL.o_rev, DL.o_lent, DL.o_lenl, DL.o_lens, DL.o_leno, DL.o_lenb, DL.o_lenstr, DL.o_abs, DL.o_int, DL.o_intb, DL.o_tupo, DL.o_tupl, DL.o_tupt, DL.o_tupb, DL.o_lso, DL.o_lsl, DL.o_lst, DL.o_lss, DL.o_lsb, DL.o_all, DL.o_anyy, DL.o_sum, DL.o_sorted, DL.u_bl, DL.u_int, DL.u_non, DL.u_tup, DL.u_lst, DL.u_own, DL.u_bor, DL.x_0, DL.x_1, DL.x_2, DL.x_3, DL.x_4, DL.x_5, DL.y_tuplenon, DL.y_tuplebl, DL.y_tupleint, DL.y_tuplestr, DL.y_tupletup, DL.y_tuplelst, DL.y_listnon, DL.y_listbl, DL.y_listint, DL.y_liststr, DL.y_listtup, DL.y_listlst, DL.y_dictnon, DL.y_dictbl, DL.y_dictint, DL.y_dictstr, DL.y_dicttup, DL.y_dictlst, DL.y_strnon, DL.y_strbl, DL.y_strint, DL.y_strstr, DL.y_strtup, DL.y_strlst, DL.y_intnon, DL.y_intbl, DL.y_intint, DL.y_intstr, DL.y_inttup, DL.y_intlst, DL.y_boolnon, DL.y_boolbl, DL.y_boolint, DL.y_boolstr, DL.y_booltup, DL.y_boollst, DL.j_n1, DL.j_n2, DL.j_n3, DL.j_n4, DL.j_n5, DL.j_f1, DL.j_f2, DL.j_f3, DL.j_f4, DL.j_f5, DL.j_w1, DL.j_w2, DL.j_w3, DL.j_w4, DL.j_w5, DL.j_01, DL.j_02, DL.j_03, DL.eqD_int, DL.eqOk_int, List.getElem?_cons_zero, List.getElem?_cons_succ, List.set_cons_zero, List.set_cons_succ, List.length_cons, List.length_nil, Option.map_some, Option.map_none, true_and, eq_self, x_ar0, h8, h10, h20, h24]
    refine Tturns_of og op (Tsame_eq rfl pd_int ?_)
    simp only [Bool.not_true, k_ff, DL.e_loc, DL.e_cst, DL.e_gc, DL.e_bin, DL.e_neg, DL.e_cmp, DL.e_chn, DL.e_and, DL.e_or, DL.e_not, DL.e_ite, DL.e_idx, DL.e_gidx, DL.e_slc, DL.e_tup, DL.e_lst, DL.e_call, DL.e_bi, DL.e_inst, DL.e_comp, DL.e_nev, DL.e_nil, DL.e_cons, DL.e_no, DL.e_yes, DL.b_val, DL.b_cmp, DL.b_chn, DL.b_and, DL.b_or, DL.b_not, DL.b_no, DL.b_one, DL.i_seq, DL.i_rng1, DL.i_rng2, DL.i_enum, DL.i_zip, DL.s_set, DL.s_setF, DL.s_asg, DL.s_par, DL.s_par3, DL.s_aug, DL.s_app, DL.s_ext, DL.s_pop, DL.s_expr, DL.s_ret, DL.s_retT, DL.s_ite, DL.s_whl, DL.s_for, DL.s_gset, DL.s_brk, DL.s_cnt, DL.s_nil, DL.s_cons, DL.s_frz, DL.t_name, DL.t_tup, DL.t_nil, DL.t_cons, DL.t_len0, DL.t_len1, DL.k_locd, DL.k_loco, DL.k_neg, DL.k_tt, DL.k_ff, DL.k_any, DL.k_lst, DL.k_int, DL.k_dat, DL.k_ty, DL.k_keep, DL.k_own, DL.k_slot, DL.k_new, DL.k_seqt, DL.k_seql, DL.k_seqs, DL.k_seqo, DL.k_enut, DL.k_enul, DL.k_enuo, DL.k_zipt, DL.k_zipl, DL.k_gix, DL.k_gst, DL.k_setd, DL.k_seto, DL.a_dd, DL.a_do, DL.a_rd, DL.a_ro, DL.a_rb, DL.a_nil, DL.a_d, DL.a_o, DL.a_l, DL.a_lo, DL.a_lb, DL.o_add, DL.o_addb, DL.o_adds, DL.o_addt, DL.o_sub, DL.o_subb, DL.o_subbb, DL.o_iadd, DL.o_iaddb, DL.o_isub, DL.o_isubb, DL.o_mul, DL.o_fdiv, DL.o_mod, DL.o_lt, DL.o_le, DL.o_gt, DL.o_ge, DL.o_eq, DL.o_ne, DL.o_isn, DL.o_notn, DL.o_isb, DL.o_notb, DL.o_idxt, DL.o_idxl, DL.o_idxo, DL.o_idxb, DL.o_slct, DL.o_slcl, DL.o_slco, DL.o_slcb, DL.o_rev, DL.o_lent, DL.o_lenl, DL.o_lens, DL.o_leno, DL.o_lenb, DL.o_lenstr, DL.o_abs, DL.o_int, DL.o_intb, DL.o_tupo, DL.o_tupl, DL.o_tupt, DL.o_tupb, DL.o_lso, DL.o_lsl, DL.o_lst, DL.o_lss, DL.o_lsb, DL.o_all, DL.o_anyy, DL.o_sum, DL.o_sorted, DL.u_bl, DL.u_int, DL.u_non, DL.u_tup, DL.u_lst, DL.u_own, DL.u_bor, DL.x_0, DL.x_1, DL.x_2, DL.x_3, DL.x_4, DL.x_5, DL.y_tuplenon, DL.y_tuplebl, DL.y_tupleint, DL.y_tuplestr, DL.y_tupletup, DL.y_tuplelst, DL.y_listnon, DL.y_listbl, DL.y_listint, DL.y_liststr, DL.y_listtup, DL.y_listlst, DL.y_dictnon, DL.y_dictbl, DL.y_dictint, DL.y_dictstr, DL.y_dicttup, DL.y_dictlst, DL.y_strnon, DL.y_strbl, DL.y_strint, DL.y_strstr, DL.y_strtup, DL.y_strlst, DL.y_intnon, DL.y_intbl, DL.y_intint, DL.y_intstr, DL.y_inttup, DL.y_intlst, DL.y_boolnon, DL.y_boolbl, DL.y_boolint, DL.y_boolstr, DL.y_booltup, DL.y_boollst, DL.j_n1, DL.j_n2, DL.j_n3, DL.j_n4, DL.j_n5, DL.j_f1, DL.j_f2, DL.j_f3, DL.j_f4, DL.j_f5, DL.j_w1, DL.j_w2, DL.j_w3, DL.j_w4, DL.j_w5, DL.j_01, DL.j_02, DL.j_03, DL.eqD_int, DL.eqOk_int, List.getElem?_cons_zero, List.getElem?_cons_succ, List.set_cons_zero, List.set_cons_succ, List.length_cons, List.length_nil, Option.map_some, Option.map_none, true_and, eq_self, h10, h20, h24]
    refine Thas_of oA op (Thas_of oA op (Tsame_eq rfl pd_bl ?_))
    simp only [Bool.not_true, k_ff, DL.e_loc, DL.e_cst, DL.e_gc, DL.e_bin, DL.e_neg, DL.e_cmp, DL.e_chn, DL.e_and, DL.e_or, DL.e_not, DL.e_ite, DL.e_idx, DL.e_gidx, DL.e_slc, DL.e_tup, DL.e_lst, DL.e_call, DL.e_bi, DL.e_inst, DL.e_comp, DL.e_nev, DL.e_nil, DL.e_cons, DL.e_no, DL.e_yes, DL.b_val, DL.b_cmp, DL.b_chn, DL.b_and, DL.b_or, DL.b_not, DL.b_no, DL.b_one, DL.i_seq, DL.i_rng1, DL.i_rng2, DL.i_enum, DL.i_zip, DL.s_set, DL.s_setF, DL.s_asg, DL.s_par, DL.s_par3, DL.s_aug, DL.s_app, DL.s_ext, DL.s_pop, DL.s_expr, DL.s_ret, DL.s_retT, DL.s_ite, DL.s_whl, DL.s_for, DL.s_gset, DL.s_brk, DL.s_cnt, DL.s_nil, DL.s_cons, DL.s_frz, DL.t_name, DL.t_tup, DL.t_nil, DL.t_cons, DL.t_len0, DL.t_len1, DL.k_locd, DL.k_loco, DL.k_neg, DL.k_tt, DL.k_ff, DL.k_any, DL.k_lst, DL.k_int, DL.k_dat, DL.k_ty, DL.k_keep, DL.k_own, DL.k_slot, DL.k_new, DL.k_seqt, DL.k_seql, DL.k_seqs, DL.k_seqo, DL.k_enut, DL.k_enul, DL.k_enuo, DL.k_zipt, DL.k_zipl, DL.k_gix, DL.k_gst, DL.k_setd, DL.k_seto, DL.a_dd, DL.a_do, DL.a_rd, DL.a_ro, DL.a_rb, DL.a_nil, DL.a_d, DL.a_o, DL.a_l, DL.a_lo, DL.a_lb, DL.o_add, DL.o_addb, DL.o_adds, DL.o_addt, DL.o_sub, DL.o_subb, DL.o_subbb, DL.o_iadd, DL.o_iaddb, DL.o_isub, DL.o_isubb, DL.o_mul, DL.o_fdiv, DL.o_mod, DL.o_lt, DL.o_le, DL.o_gt, DL.o_ge, DL.o_eq, DL.o_ne, DL.o_isn, DL.o_notn, DL.o_isb, DL.o_notb, DL.o_idxt, DL.o_idxl, DL.o_idxo, DL.o_idxb, DL.o_slct, DL.o_slcl, DL.o_slco, DL.o_slcb, DL.o_rev, DL.o_lent, DL.o_lenl, DL.o_lens, DL.o_leno, DL.o_lenb, DL.o_lenstr, DL.o_abs, DL.o_int, DL.o_intb, DL.o_tupo, DL.o_tupl, DL.o_tupt, DL.o_tupb, DL.o_lso, DL.o_lsl, DL.o_lst, DL.o_lss, DL.o_lsb, DL.o_all, DL.o_anyy, DL.o_sum, DL.o_sorted, DL.u_bl, DL.u_int, DL.u_non, DL.u_tup, DL.u_lst, DL.u_own, DL.u_bor, DL.x_0, DL.x_1, DL.x_2, DL.x_3, DL.x_4, DL.x_5, DL.y_tuplenon, DL.y_tuplebl, DL.y_tupleint, DL.y_tuplestr, DL.y_tupletup, DL.y_tuplelst, DL.y_listnon, DL.y_listbl, DL.y_listint, DL.y_liststr, DL.y_listtup, DL.y_listlst, DL.y_dictnon, DL.y_dictbl, DL.y_dictint, DL.y_dictstr, DL.y_dicttup, DL.y_dictlst, DL.y_strnon, DL.y_strbl, DL.y_strint, DL.y_strstr, DL.y_strtup, DL.y_strlst, DL.y_intnon, DL.y_intbl, DL.y_intint, DL.y_intstr, DL.y_inttup, DL.y_intlst, DL.y_boolnon, DL.y_boolbl, DL.y_boolint, DL.y_boolstr, DL.y_booltup, DL.y_boollst, DL.j_n1, DL.j_n2, DL.j_n3, DL.j_n4, DL.j_n5, DL.j_f1, DL.j_f2, DL.j_f3, DL.j_f4, DL.j_f5, DL.j_w1, DL.j_w2, DL.j_w3, DL.j_w4, DL.j_w5, DL.j_01, DL.j_02, DL.j_03, DL.eqD_int, DL.eqOk_int, List.getElem?_cons_zero, List.getElem?_cons_succ, List.set_cons_zero, List.set_cons_succ, List.length_cons, List.length_nil, Option.map_some, Option.map_none, true_and, eq_self, c30_8, x_ar0, h9, h20]
    refine Tisin_of og (.inr rfl) op ?_
    have e1 : isIn ar.rings "odd" p = decide ((wind ar.rings p).fmod 2 = 1) := by
      unfold isIn
      rw [if_neg (by decide +kernel)]
    have e2 : isIn ar.rings "whole" p = !decide (wind ar.rings p = 0) := by
      unfold isIn
      rw [if_pos rfl]
      simp
    refine ⟨by decide, ?_⟩
    refine Tsame_eq (by rw [e1]) pd_bl ?_
    simp only [Bool.not_true, k_ff, DL.e_loc, DL.e_cst, DL.e_gc, DL.e_bin, DL.e_neg, DL.e_cmp, DL.e_chn, DL.e_and, DL.e_or, DL.e_not, DL.e_ite, DL.e_idx, DL.e_gidx, DL.e_slc, DL.e_tup, DL.e_lst, DL.e_call, DL.e_bi, DL.e_inst, DL.e_comp, DL.e_nev, DL.e_nil, DL.e_cons, DL.e_no, DL.e_yes, DL.b_val, DL.b_cmp, DL.b_chn, DL.b_and, DL.b_or, DL.b_not, DL.b_no, DL.b_one, DL.i_seq, DL.i_rng1, DL.i_rng2, DL.i_enum, DL.i_zip, DL.s_set, DL.s_setF, DL.s_asg, DL.s_par, DL.s_par3, DL.s_aug, DL.s_app, DL.s_ext, DL.s_pop, DL.s_expr, DL.s_ret, DL.s_retT, DL.s_ite, DL.s_whl, DL.s_for, DL.s_gset, DL.s_brk, DL.s_cnt, DL.s_nil, DL.s_cons, DL.s_frz, DL.t_name, DL.t_tup, DL.t_nil, DL.t_cons, DL.t_len0, DL.t_len1, DL.k_locd, DL.k_loco, DL.k_neg, DL.k_tt, DL.k_ff, DL.k_any, DL.k_lst, DL.k_int, DL.k_dat, DL.k_ty, DL.k_keep, DL.k_own, DL.k_slot, DL.k_new, DL.k_seqt, DL.k_seql, DL.k_seqs, DL.k_seqo, DL.k_enut, DL.k_enul, DL.k_enuo, DL.k_zipt, DL.k_zipl, DL.k_gix, DL.k_gst, DL.k_setd, DL.k_seto, DL.a_dd, DL.a_do, DL.a_rd, DL.a_ro, DL.a_rb, DL.a_nil, DL.a_d, DL.a_o, DL.a_l, DL.a_lo, DL.a_lb, DL.o_add, DL.o_addb, DL.o_adds, DL.o_addt, DL.o_sub, DL.o_subb, DL.o_subbb, DL.o_iadd, DL.o_iaddb, DL.o_isub, DL.o_isubb, DL.o_mul, DL.o_fdiv, DL.o_mod, DL.o_lt, DL.o_le, DL.o_gt, DL.o_ge, DL.o_eq, DL.o_ne, DL.o_isn, DL.o_notn, DL.o_isb, DL.o_notb, DL.o_idxt, DL.o_idxl, DL.o_idxo, DL.o_idxb, DL.o_slct, DL.o_slcl, DL.o_slco, DL.o_slcb, DL.o_rev, DL.o_lent, DL.o_lenl, DL.o_lens, DL.o_leno, DL.o_lenb, DL.o_lenstr, DL.o_abs, DL.o_int, DL.o_intb, DL.o_tupo, DL.o_tupl, DL.o_tupt, DL.o_tupb, DL.o_lso, DL.o_lsl, DL.o_lst, DL.o_lss, DL.o_lsb, DL.o_all, DL.o_anyy, DL.o_sum, DL.o_sorted, DL.u_bl, DL.u_int, DL.u_non, DL.u_tup, DL.u_lst, DL.u_own, DL.u_bor, DL.x_0, DL.x_1, DL.x_2, DL.x_3, DL.x_4, DL.x_5, DL.y_tuplenon, DL.y_tuplebl, DL.y_tupleint, DL.y_tuplestr, DL.y_tupletup, DL.y_tuplelst, DL.y_listnon, DL.y_listbl, DL.y_listint, DL.y_liststr, DL.y_listtup, DL.y_listlst, DL.y_dictnon, DL.y_dictbl, DL.y_dictint, DL.y_dictstr, DL.y_dicttup, DL.y_dictlst, DL.y_strnon, DL.y_strbl, DL.y_strint, DL.y_strstr, DL.y_strtup, DL.y_strlst, DL.y_intnon, DL.y_intbl, DL.y_intint, DL.y_intstr, DL.y_inttup, DL.y_intlst, DL.y_boolnon, DL.y_boolbl, DL.y_boolint, DL.y_boolstr, DL.y_booltup, DL.y_boollst, DL.j_n1, DL.j_n2, DL.j_n3, DL.j_n4, DL.j_n5, DL.j_f1, DL.j_f2, DL.j_f3, DL.j_f4, DL.j_f5, DL.j_w1, DL.j_w2, DL.j_w3, DL.j_w4, DL.j_w5, DL.j_01, DL.j_02, DL.j_03, DL.eqD_int, DL.eqOk_int, List.getElem?_cons_zero, List.getElem?_cons_succ, List.set_cons_zero, List.set_cons_succ, List.length_cons, List.length_nil, Option.map_some, Option.map_none, true_and, eq_self, h9, h20]
    refine Tisin_of og (.inl rfl) op (Tsame_eq (by rw [e2]) pd_bl ?_)
    simp only [Bool.not_true, k_ff, DL.e_loc, DL.e_cst, DL.e_gc, DL.e_bin, DL.e_neg, DL.e_cmp, DL.e_chn, DL.e_and, DL.e_or, DL.e_not, DL.e_ite, DL.e_idx, DL.e_gidx, DL.e_slc, DL.e_tup, DL.e_lst, DL.e_call, DL.e_bi, DL.e_inst, DL.e_comp, DL.e_nev, DL.e_nil, DL.e_cons, DL.e_no, DL.e_yes, DL.b_val, DL.b_cmp, DL.b_chn, DL.b_and, DL.b_or, DL.b_not, DL.b_no, DL.b_one, DL.i_seq, DL.i_rng1, DL.i_rng2, DL.i_enum, DL.i_zip, DL.s_set, DL.s_setF, DL.s_asg, DL.s_par, DL.s_par3, DL.s_aug, DL.s_app, DL.s_ext, DL.s_pop, DL.s_expr, DL.s_ret, DL.s_retT, DL.s_ite, DL.s_whl, DL.s_for, DL.s_gset, DL.s_brk, DL.s_cnt, DL.s_nil, DL.s_cons, DL.s_frz, DL.t_name, DL.t_tup, DL.t_nil, DL.t_cons, DL.t_len0, DL.t_len1, DL.k_locd, DL.k_loco, DL.k_neg, DL.k_tt, DL.k_ff, DL.k_any, DL.k_lst, DL.k_int, DL.k_dat, DL.k_ty, DL.k_keep, DL.k_own, DL.k_slot, DL.k_new, DL.k_seqt, DL.k_seql, DL.k_seqs, DL.k_seqo, DL.k_enut, DL.k_enul, DL.k_enuo, DL.k_zipt, DL.k_zipl, DL.k_gix, DL.k_gst, DL.k_setd, DL.k_seto, DL.a_dd, DL.a_do, DL.a_rd, DL.a_ro, DL.a_rb, DL.a_nil, DL.a_d, DL.a_o, DL.a_l, DL.a_lo, DL.a_lb, DL.o_add, DL.o_addb, DL.o_adds, DL.o_addt, DL.o_sub, DL.o_subb, DL.o_subbb, DL.o_iadd, DL.o_iaddb, DL.o_isub, DL.o_isubb, DL.o_mul, DL.o_fdiv, DL.o_mod, DL.o_lt, DL.o_le, DL.o_gt, DL.o_ge, DL.o_eq, DL.o_ne, DL.o_isn, DL.o_notn, DL.o_isb, DL.o_notb, DL.o_idxt, DL.o_idxl, DL.o_idxo, DL.o_idxb, DL.o_slct, DL.o_slcl, DL.o_slco, DL.o_slcb, DL.o_rev, DL.o_lent, DL.o_lenl, DL.o_lens, DL.o_leno, DL.o_lenb, DL.o_lenstr, DL.o_abs, DL.o_int, DL.o_intb, DL.o_tupo, DL.o_tupl, DL.o_tupt, DL.o_tupb, DL.o_lso, DL.o_lsl, DL.o_lst, DL.o_lss, DL.o_lsb, DL.o_all, DL.o_anyy, DL.o_sum, DL.o_sorted, DL.u_bl, DL.u_int, DL.u_non, DL.u_tup, DL.u_lst, DL.u_own, DL.u_bor, DL.x_0, DL.x_1, DL.x_2, DL.x_3, DL.x_4, DL.x_5, DL.y_tuplenon, DL.y_tuplebl, DL.y_tupleint, DL.y_tuplestr, DL.y_tupletup, DL.y_tuplelst, DL.y_listnon, DL.y_listbl, DL.y_listint, DL.y_liststr, DL.y_listtup, DL.y_listlst, DL.y_dictnon, DL.y_dictbl, DL.y_dictint, DL.y_dictstr, DL.y_dicttup, DL.y_dictlst, DL.y_strnon, DL.y_strbl, DL.y_strint, DL.y_strstr, DL.y_strtup, DL.y_strlst, DL.y_intnon, DL.y_intbl, DL.y_intint, DL.y_intstr, DL.y_inttup, DL.y_intlst, DL.y_boolnon, DL.y_boolbl, DL.y_boolint, DL.y_boolstr, DL.y_booltup, DL.y_boollst, DL.j_n1, DL.j_n2, DL.j_n3, DL.j_n4, DL.j_n5, DL.j_f1, DL.j_f2, DL.j_f3, DL.j_f4, DL.j_f5, DL.j_w1, DL.j_w2, DL.j_w3, DL.j_w4, DL.j_w5, DL.j_01, DL.j_02, DL.j_03, DL.eqD_int, DL.eqOk_int, List.getElem?_cons_zero, List.getElem?_cons_succ, List.set_cons_zero, List.set_cons_succ, List.length_cons, List.length_nil, Option.map_some, Option.map_none, true_and, eq_self, c30_10, x_ar0, k_seqrs]
    simp only [blk_eq, wipe_cons, wipe_nil, no_d, no_n, List.map_cons, List.map_nil, Nat.reduceAdd, Nat.reduceSub, List.replicate_succ, List.replicate_zero, List.append_nil, List.cons_append, List.nil_append, DL.e_loc, DL.e_cst, DL.e_gc, DL.e_bin, DL.e_neg, DL.e_cmp, DL.e_chn, DL.e_and, DL.e_or, DL.e_not, DL.e_ite, DL.e_idx, DL.e_gidx, DL.e_slc, DL.e_tup, DL.e_lst, DL.e_call, DL.e_bi, DL.e_inst, DL.e_comp, DL.e_nev, DL.e_nil, DL.e_cons, DL.e_no, DL.e_yes, DL.b_val, DL.b_cmp, DL.b_chn, DL.b_and, DL.b_or, DL.b_not, DL.b_no, DL.b_one, DL.i_seq, DL.i_rng1, DL.i_rng2, DL.i_enum, DL.i_zip, DL.s_set, DL.s_setF, DL.s_asg, DL.s_par, DL.s_par3, DL.s_aug, DL.s_app, DL.s_ext, DL.s_pop, DL.s_expr, DL.s_ret, DL.s_retT, DL.s_ite, DL.s_whl, DL.s_for, DL.s_gset, DL.s_brk, DL.s_cnt, DL.s_nil, DL.s_cons, DL.s_frz, DL.t_name, DL.t_tup, DL.t_nil, DL.t_cons, DL.t_len0, DL.t_len1, DL.k_locd, DL.k_loco, DL.k_neg, DL.k_tt, DL.k_ff, DL.k_any, DL.k_lst, DL.k_int, DL.k_dat, DL.k_ty, DL.k_keep, DL.k_own, DL.k_slot, DL.k_new, DL.k_seqt, DL.k_seql, DL.k_seqs, DL.k_seqo, DL.k_enut, DL.k_enul, DL.k_enuo, DL.k_zipt, DL.k_zipl, DL.k_gix, DL.k_gst, DL.k_setd, DL.k_seto, DL.a_dd, DL.a_do, DL.a_rd, DL.a_ro, DL.a_rb, DL.a_nil, DL.a_d, DL.a_o, DL.a_l, DL.a_lo, DL.a_lb, DL.o_add, DL.o_addb, DL.o_adds, DL.o_addt, DL.o_sub, DL.o_subb, DL.o_subbb, DL.o_iadd, DL.o_iaddb, DL.o_isub, DL.o_isubb, DL.o_mul, DL.o_fdiv, DL.o_mod, DL.o_lt, DL.o_le, DL.o_gt, DL.o_ge, DL.o_eq, DL.o_ne, DL.o_isn, DL.o_notn, DL.o_isb, DL.o_notb, DL.o_idxt, DL.o_idxl, DL.o_idxo, DL.o_idxb, DL.o_slct, DL.o_slcl, DL.o_slco, DL.o_slcb, DL.o_rev, DL.o_lent, DL.o_lenl, DL.o_lens, DL.o_leno, DL.o_lenb, DL.o_lenstr, DL.o_abs, DL.o_int, DL.o_intb, DL.o_tupo, DL.o_tupl, DL.o_tupt, DL.o_tupb, DL.o_lso, DL.o_lsl, DL.o_lst, DL.o_lss, DL.o_lsb, DL.o_all, DL.o_anyy, DL.o_sum, DL.o_sorted, DL.u_bl, DL.u_int, DL.u_non, DL.u_tup, DL.u_lst, DL.u_own, DL.u_bor, DL.x_0, DL.x_1, DL.x_2, DL.x_3, DL.x_4, DL.x_5, DL.y_tuplenon, DL.y_tuplebl, DL.y_tupleint, DL.y_tuplestr, DL.y_tupletup, DL.y_tuplelst, DL.y_listnon, DL.y_listbl, DL.y_listint, DL.y_liststr, DL.y_listtup, DL.y_listlst, DL.y_dictnon, DL.y_dictbl, DL.y_dictint, DL.y_dictstr, DL.y_dicttup, DL.y_dictlst, DL.y_strnon, DL.y_strbl, DL.y_strint, DL.y_strstr, DL.y_strtup, DL.y_strlst, DL.y_intnon, DL.y_intbl, DL.y_intint, DL.y_intstr, DL.y_inttup, DL.y_intlst, DL.y_boolnon, DL.y_boolbl, DL.y_boolint, DL.y_boolstr, DL.y_booltup, DL.y_boollst, DL.j_n1, DL.j_n2, DL.j_n3, DL.j_n4, DL.j_n5, DL.j_f1, DL.j_f2, DL.j_f3, DL.j_f4, DL.j_f5, DL.j_w1, DL.j_w2, DL.j_w3, DL.j_w4, DL.j_w5, DL.j_01, DL.j_02, DL.j_03, DL.eqD_int, DL.eqOk_int, List.getElem?_cons_zero, List.getElem?_cons_succ, List.set_cons_zero, List.set_cons_succ, List.length_cons, List.length_nil, Option.map_some, Option.map_none, true_and, eq_self]
    refine comp_pure (f := fun r => ringD r.reverse) ar.rings [] (fun r hr k hk => ?_) ?_
    · simp only [DL.e_loc, DL.e_cst, DL.e_gc, DL.e_bin, DL.e_neg, DL.e_cmp, DL.e_chn, DL.e_and, DL.e_or, DL.e_not, DL.e_ite, DL.e_idx, DL.e_gidx, DL.e_slc, DL.e_tup, DL.e_lst, DL.e_call, DL.e_bi, DL.e_inst, DL.e_comp, DL.e_nev, DL.e_nil, DL.e_cons, DL.e_no, DL.e_yes, DL.b_val, DL.b_cmp, DL.b_chn, DL.b_and, DL.b_or, DL.b_not, DL.b_no, DL.b_one, DL.i_seq, DL.i_rng1, DL.i_rng2, DL.i_enum, DL.i_zip, DL.s_set, DL.s_setF, DL.s_asg, DL.s_par, DL.s_par3, DL.s_aug, DL.s_app, DL.s_ext, DL.s_pop, DL.s_expr, DL.s_ret, DL.s_retT, DL.s_ite, DL.s_whl, DL.s_for, DL.s_gset, DL.s_brk, DL.s_cnt, DL.s_nil, DL.s_cons, DL.s_frz, DL.t_name, DL.t_tup, DL.t_nil, DL.t_cons, DL.t_len0, DL.t_len1, DL.k_locd, DL.k_loco, DL.k_neg, DL.k_tt, DL.k_ff, DL.k_any, DL.k_lst, DL.k_int, DL.k_dat, DL.k_ty, DL.k_keep, DL.k_own, DL.k_slot, DL.k_new, DL.k_seqt, DL.k_seql, DL.k_seqs, DL.k_seqo, DL.k_enut, DL.k_enul, DL.k_enuo, DL.k_zipt, DL.k_zipl, DL.k_gix, DL.k_gst, DL.k_setd, DL.k_seto, DL.a_dd, DL.a_do, DL.a_rd, DL.a_ro, DL.a_rb, DL.a_nil, DL.a_d, DL.a_o, DL.a_l, DL.a_lo, DL.a_lb, DL.o_add, DL.o_addb, DL.o_adds, DL.o_addt, DL.o_sub, DL.o_subb, DL.o_subbb, DL.o_iadd, DL.o_iaddb, DL.o_isub, DL.o_isubb, DL.o_mul, DL.o_fdiv, DL.o_mod, DL.o_lt, DL.o_le, DL.o_gt, DL.o_ge, DL.o_eq, DL.o_ne, DL.o_isn, DL.o_notn, DL.o_isb, DL.o_notb, DL.o_idxt, DL.o_idxl, DL.o_idxo, DL.o_idxb, DL.o_slct, DL.o_slcl, DL.o_slco, DL.o_slcb, DL.o_rev, DL.o_lent, DL.o_lenl, DL.o_lens, DL.o_leno, DL.o_lenb, DL.o_lenstr, DL.o_abs, DL.o_int, DL.o_intb, DL.o_tupo, DL.o_tupl, DL.o_tupt, DL.o_tupb, DL.o_lso, DL.o_lsl, DL.o_lst, DL.o_lss, DL.o_lsb, DL.o_all, DL.o_anyy, DL.o_sum, DL.o_sorted, DL.u_bl, DL.u_int, DL.u_non, DL.u_tup, DL.u_lst, DL.u_own, DL.u_bor, DL.x_0, DL.x_1, DL.x_2, DL.x_3, DL.x_4, DL.x_5, DL.y_tuplenon, DL.y_tuplebl, DL.y_tupleint, DL.y_tuplestr, DL.y_tupletup, DL.y_tuplelst, DL.y_listnon, DL.y_listbl, DL.y_listint, DL.y_liststr, DL.y_listtup, DL.y_listlst, DL.y_dictnon, DL.y_dictbl, DL.y_dictint, DL.y_dictstr, DL.y_dicttup, DL.y_dictlst, DL.y_strnon, DL.y_strbl, DL.y_strint, DL.y_strstr, DL.y_strtup, DL.y_strlst, DL.y_intnon, DL.y_intbl, DL.y_intint, DL.y_intstr, DL.y_inttup, DL.y_intlst, DL.y_boolnon, DL.y_boolbl, DL.y_boolint, DL.y_boolstr, DL.y_booltup, DL.y_boollst, DL.j_n1, DL.j_n2, DL.j_n3, DL.j_n4, DL.j_n5, DL.j_f1, DL.j_f2, DL.j_f3, DL.j_f4, DL.j_f5, DL.j_w1, DL.j_w2, DL.j_w3, DL.j_w4, DL.j_w5, DL.j_01, DL.j_02, DL.j_03, DL.eqD_int, DL.eqOk_int, List.getElem?_cons_zero, List.getElem?_cons_succ, List.set_cons_zero, List.set_cons_succ, List.length_cons, List.length_nil, Option.map_some, Option.map_none, true_and, eq_self, rev_ring]; exact hk
    have e3 : [] ++ ar.rings.map (fun r => ringD r.reverse) = (ar.rings.map List.reverse).map ringD := by simp
    rw [e3]
    have og2 : RgOk 100 (ar.rings.map List.reverse) := ⟨by rw [List.length_map]; exact og.1, fun r hr => by
      obtain ⟨r', h1, rfl⟩ := List.mem_map.mp hr
      exact ⟨by rw [List.length_reverse]; exact (og.2 r' h1).1, fun q hq => (og.2 r' h1).2 q (List.mem_reverse.mp hq)⟩⟩
    simp only [DL.e_loc, DL.e_cst, DL.e_gc, DL.e_bin, DL.e_neg, DL.e_cmp, DL.e_chn, DL.e_and, DL.e_or, DL.e_not, DL.e_ite, DL.e_idx, DL.e_gidx, DL.e_slc, DL.e_tup, DL.e_lst, DL.e_call, DL.e_bi, DL.e_inst, DL.e_comp, DL.e_nev, DL.e_nil, DL.e_cons, DL.e_no, DL.e_yes, DL.b_val, DL.b_cmp, DL.b_chn, DL.b_and, DL.b_or, DL.b_not, DL.b_no, DL.b_one, DL.i_seq, DL.i_rng1, DL.i_rng2, DL.i_enum, DL.i_zip, DL.s_set, DL.s_setF, DL.s_asg, DL.s_par, DL.s_par3, DL.s_aug, DL.s_app, DL.s_ext, DL.s_pop, DL.s_expr, DL.s_ret, DL.s_retT, DL.s_ite, DL.s_whl, DL.s_for, DL.s_gset, DL.s_brk, DL.s_cnt, DL.s_nil, DL.s_cons, DL.s_frz, DL.t_name, DL.t_tup, DL.t_nil, DL.t_cons, DL.t_len0, DL.t_len1, DL.k_locd, DL.k_loco, DL.k_neg, DL.k_tt, DL.k_ff, DL.k_any, DL.k_lst, DL.k_int, DL.k_dat, DL.k_ty, DL.k_keep, DL.k_own, DL.k_slot, DL.k_new, DL.k_seqt, DL.k_seql, DL.k_seqs, DL.k_seqo, DL.k_enut, DL.k_enul, DL.k_enuo, DL.k_zipt, DL.k_zipl, DL.k_gix, DL.k_gst, DL.k_setd, DL.k_seto, DL.a_dd, DL.a_do, DL.a_rd, DL.a_ro, DL.a_rb, DL.a_nil, DL.a_d, DL.a_o, DL.a_l, DL.a_lo, DL.a_lb, DL.o_add, DL.o_addb, DL.o_adds, DL.o_addt, DL.o_sub, DL.o_subb, DL.o_subbb, DL.o_iadd, DL.o_iaddb, DL.o_isub, DL.o_isubb, DL.o_mul, DL.o_fdiv, DL.o_mod, DL.o_lt, DL.o_le, DL.o_gt, DL.o_ge, DL.o_eq, DL.o_ne, DL.o_isn, DL.o_notn, DL.o_isb, DL.o_notb, DL.o_idxt, DL.o_idxl, DL.o_idxo, DL.o_idxb, DL.o_slct, DL.o_slcl, DL.o_slco, DL.o_slcb, DL.o_rev, DL.o_lent, DL.o_lenl, DL.o_lens, DL.o_leno, DL.o_lenb, DL.o_lenstr, DL.o_abs, DL.o_int, DL.o_intb, DL.o_tupo, DL.o_tupl, DL.o_tupt, DL.o_tupb, DL.o_lso, DL.o_lsl, DL.o_lst, DL.o_lss, DL.o_lsb, DL.o_all, DL.o_anyy, DL.o_sum, DL.o_sorted, DL.u_bl, DL.u_int, DL.u_non, DL.u_tup, DL.u_lst, DL.u_own, DL.u_bor, DL.x_0, DL.x_1, DL.x_2, DL.x_3, DL.x_4, DL.x_5, DL.y_tuplenon, DL.y_tuplebl, DL.y_tupleint, DL.y_tuplestr, DL.y_tupletup, DL.y_tuplelst, DL.y_listnon, DL.y_listbl, DL.y_listint, DL.y_liststr, DL.y_listtup, DL.y_listlst, DL.y_dictnon, DL.y_dictbl, DL.y_dictint, DL.y_dictstr, DL.y_dicttup, DL.y_dictlst, DL.y_strnon, DL.y_strbl, DL.y_strint, DL.y_strstr, DL.y_strtup, DL.y_strlst, DL.y_intnon, DL.y_intbl, DL.y_intint, DL.y_intstr, DL.y_inttup, DL.y_intlst, DL.y_boolnon, DL.y_boolbl, DL.y_boolint, DL.y_boolstr, DL.y_booltup, DL.y_boollst, DL.j_n1, DL.j_n2, DL.j_n3, DL.j_n4, DL.j_n5, DL.j_f1, DL.j_f2, DL.j_f3, DL.j_f4, DL.j_f5, DL.j_w1, DL.j_w2, DL.j_w3, DL.j_w4, DL.j_w5, DL.j_01, DL.j_02, DL.j_03, DL.eqD_int, DL.eqOk_int, List.getElem?_cons_zero, List.getElem?_cons_succ, List.set_cons_zero, List.set_cons_succ, List.length_cons, List.length_nil, Option.map_some, Option.map_none, true_and, eq_self, tup_rings, c30_11, h8, h20]
    refine Tturns_of og2 op (Tsame_eq (by rw [wind_rev]) pd_int ?_)
    simp only [Bool.not_true, k_ff, DL.e_loc, DL.e_cst, DL.e_gc, DL.e_bin, DL.e_neg, DL.e_cmp, DL.e_chn, DL.e_and, DL.e_or, DL.e_not, DL.e_ite, DL.e_idx, DL.e_gidx, DL.e_slc, DL.e_tup, DL.e_lst, DL.e_call, DL.e_bi, DL.e_inst, DL.e_comp, DL.e_nev, DL.e_nil, DL.e_cons, DL.e_no, DL.e_yes, DL.b_val, DL.b_cmp, DL.b_chn, DL.b_and, DL.b_or, DL.b_not, DL.b_no, DL.b_one, DL.i_seq, DL.i_rng1, DL.i_rng2, DL.i_enum, DL.i_zip, DL.s_set, DL.s_setF, DL.s_asg, DL.s_par, DL.s_par3, DL.s_aug, DL.s_app, DL.s_ext, DL.s_pop, DL.s_expr, DL.s_ret, DL.s_retT, DL.s_ite, DL.s_whl, DL.s_for, DL.s_gset, DL.s_brk, DL.s_cnt, DL.s_nil, DL.s_cons, DL.s_frz, DL.t_name, DL.t_tup, DL.t_nil, DL.t_cons, DL.t_len0, DL.t_len1, DL.k_locd, DL.k_loco, DL.k_neg, DL.k_tt, DL.k_ff, DL.k_any, DL.k_lst, DL.k_int, DL.k_dat, DL.k_ty, DL.k_keep, DL.k_own, DL.k_slot, DL.k_new, DL.k_seqt, DL.k_seql, DL.k_seqs, DL.k_seqo, DL.k_enut, DL.k_enul, DL.k_enuo, DL.k_zipt, DL.k_zipl, DL.k_gix, DL.k_gst, DL.k_setd, DL.k_seto, DL.a_dd, DL.a_do, DL.a_rd, DL.a_ro, DL.a_rb, DL.a_nil, DL.a_d, DL.a_o, DL.a_l, DL.a_lo, DL.a_lb, DL.o_add, DL.o_addb, DL.o_adds, DL.o_addt, DL.o_sub, DL.o_subb, DL.o_subbb, DL.o_iadd, DL.o_iaddb, DL.o_isub, DL.o_isubb, DL.o_mul, DL.o_fdiv, DL.o_mod, DL.o_lt, DL.o_le, DL.o_gt, DL.o_ge, DL.o_eq, DL.o_ne, DL.o_isn, DL.o_notn, DL.o_isb, DL.o_notb, DL.o_idxt, DL.o_idxl, DL.o_idxo, DL.o_idxb, DL.o_slct, DL.o_slcl, DL.o_slco, DL.o_slcb, DL.o_rev, DL.o_lent, DL.o_lenl, DL.o_lens, DL.o_leno, DL.o_lenb, DL.o_lenstr, DL.o_abs, DL.o_int, DL.o_intb, DL.o_tupo, DL.o_tupl, DL.o_tupt, DL.o_tupb, DL.o_lso, DL.o_lsl, DL.o_lst, DL.o_lss, DL.o_lsb, DL.o_all, DL.o_anyy, DL.o_sum, DL.o_sorted, DL.u_bl, DL.u_int, DL.u_non, DL.u_tup, DL.u_lst, DL.u_own, DL.u_bor, DL.x_0, DL.x_1, DL.x_2, DL.x_3, DL.x_4, DL.x_5, DL.y_tuplenon, DL.y_tuplebl, DL.y_tupleint, DL.y_tuplestr, DL.y_tupletup, DL.y_tuplelst, DL.y_listnon, DL.y_listbl, DL.y_listint, DL.y_liststr, DL.y_listtup, DL.y_listlst, DL.y_dictnon, DL.y_dictbl, DL.y_dictint, DL.y_dictstr, DL.y_dicttup, DL.y_dictlst, DL.y_strnon, DL.y_strbl, DL.y_strint, DL.y_strstr, DL.y_strtup, DL.y_strlst, DL.y_intnon, DL.y_intbl, DL.y_intint, DL.y_intstr, DL.y_inttup, DL.y_intlst, DL.y_boolnon, DL.y_boolbl, DL.y_boolint, DL.y_boolstr, DL.y_booltup, DL.y_boollst, DL.j_n1, DL.j_n2, DL.j_n3, DL.j_n4, DL.j_n5, DL.j_f1, DL.j_f2, DL.j_f3, DL.j_f4, DL.j_f5, DL.j_w1, DL.j_w2, DL.j_w3, DL.j_w4, DL.j_w5, DL.j_01, DL.j_02, DL.j_03, DL.eqD_int, DL.eqOk_int, List.getElem?_cons_zero, List.getElem?_cons_succ, List.set_cons_zero, List.set_cons_succ, List.length_cons, List.length_nil, Option.map_some, Option.map_none, true_and, eq_self, c30_13, x_ar0]
    obtain ⟨r, rs, er⟩ : ∃ r rs, ar.rings = r :: rs := by
      cases hh : ar.rings with
      | nil => have := oa.1.1; rw [hh] at this; simp at this
      | cons r rs => exact ⟨r, rs, rfl⟩
    have or : RingOk r := oa.1.2.2 r (by rw [er]; simp)
    have org : RgOk 100 [r] := rg_of ⟨by simp, by simpa using or⟩
    have lr := or.1
    have lr2 := or.2.1
    have okm : ∀ q ∈ r, PtOk 100 q := fun q hq => (org.2 r (by simp)).2 q hq
    have rok : ∀ z : List Pt, z.length ≤ 10 → (∀ q ∈ z, q ∈ r) → RgOk 100 [z] := fun z hz hm => ⟨by simp, by simp only [List.mem_singleton]; rintro _ rfl; exact ⟨by omega, fun q hq => okm q (hm q hq)⟩⟩
    simp only [er, x_rs0, DL.e_loc, DL.e_cst, DL.e_gc, DL.e_bin, DL.e_neg, DL.e_cmp, DL.e_chn, DL.e_and, DL.e_or, DL.e_not, DL.e_ite, DL.e_idx, DL.e_gidx, DL.e_slc, DL.e_tup, DL.e_lst, DL.e_call, DL.e_bi, DL.e_inst, DL.e_comp, DL.e_nev, DL.e_nil, DL.e_cons, DL.e_no, DL.e_yes, DL.b_val, DL.b_cmp, DL.b_chn, DL.b_and, DL.b_or, DL.b_not, DL.b_no, DL.b_one, DL.i_seq, DL.i_rng1, DL.i_rng2, DL.i_enum, DL.i_zip, DL.s_set, DL.s_setF, DL.s_asg, DL.s_par, DL.s_par3, DL.s_aug, DL.s_app, DL.s_ext, DL.s_pop, DL.s_expr, DL.s_ret, DL.s_retT, DL.s_ite, DL.s_whl, DL.s_for, DL.s_gset, DL.s_brk, DL.s_cnt, DL.s_nil, DL.s_cons, DL.s_frz, DL.t_name, DL.t_tup, DL.t_nil, DL.t_cons, DL.t_len0, DL.t_len1, DL.k_locd, DL.k_loco, DL.k_neg, DL.k_tt, DL.k_ff, DL.k_any, DL.k_lst, DL.k_int, DL.k_dat, DL.k_ty, DL.k_keep, DL.k_own, DL.k_slot, DL.k_new, DL.k_seqt, DL.k_seql, DL.k_seqs, DL.k_seqo, DL.k_enut, DL.k_enul, DL.k_enuo, DL.k_zipt, DL.k_zipl, DL.k_gix, DL.k_gst, DL.k_setd, DL.k_seto, DL.a_dd, DL.a_do, DL.a_rd, DL.a_ro, DL.a_rb, DL.a_nil, DL.a_d, DL.a_o, DL.a_l, DL.a_lo, DL.a_lb, DL.o_add, DL.o_addb, DL.o_adds, DL.o_addt, DL.o_sub, DL.o_subb, DL.o_subbb, DL.o_iadd, DL.o_iaddb, DL.o_isub, DL.o_isubb, DL.o_mul, DL.o_fdiv, DL.o_mod, DL.o_lt, DL.o_le, DL.o_gt, DL.o_ge, DL.o_eq, DL.o_ne, DL.o_isn, DL.o_notn, DL.o_isb, DL.o_notb, DL.o_idxt, DL.o_idxl, DL.o_idxo, DL.o_idxb, DL.o_slct, DL.o_slcl, DL.o_slco, DL.o_slcb, DL.o_rev, DL.o_lent, DL.o_lenl, DL.o_lens, DL.o_leno, DL.o_lenb, DL.o_lenstr, DL.o_abs, DL.o_int, DL.o_intb, DL.o_tupo, DL.o_tupl, DL.o_tupt, DL.o_tupb, DL.o_lso, DL.o_lsl, DL.o_lst, DL.o_lss, DL.o_lsb, DL.o_all, DL.o_anyy, DL.o_sum, DL.o_sorted, DL.u_bl, DL.u_int, DL.u_non, DL.u_tup, DL.u_lst, DL.u_own, DL.u_bor, DL.x_0, DL.x_1, DL.x_2, DL.x_3, DL.x_4, DL.x_5, DL.y_tuplenon, DL.y_tuplebl, DL.y_tupleint, DL.y_tuplestr, DL.y_tupletup, DL.y_tuplelst, DL.y_listnon, DL.y_listbl, DL.y_listint, DL.y_liststr, DL.y_listtup, DL.y_listlst, DL.y_dictnon, DL.y_dictbl, DL.y_dictint, DL.y_dictstr, DL.y_dicttup, DL.y_dictlst, DL.y_strnon, DL.y_strbl, DL.y_strint, DL.y_strstr, DL.y_strtup, DL.y_strlst, DL.y_intnon, DL.y_intbl, DL.y_intint, DL.y_intstr, DL.y_inttup, DL.y_intlst, DL.y_boolnon, DL.y_boolbl, DL.y_boolint, DL.y_boolstr, DL.y_booltup, DL.y_boollst, DL.j_n1, DL.j_n2, DL.j_n3, DL.j_n4, DL.j_n5, DL.j_f1, DL.j_f2, DL.j_f3, DL.j_f4, DL.j_f5, DL.j_w1, DL.j_w2, DL.j_w3, DL.j_w4, DL.j_w5, DL.j_01, DL.j_02, DL.j_03, DL.eqD_int, DL.eqOk_int, List.getElem?_cons_zero, List.getElem?_cons_succ, List.set_cons_zero, List.set_cons_succ, List.length_cons, List.length_nil, Option.map_some, Option.map_none, true_and, eq_self, c30_14, o_lenr, h12]
    refine Tdraw_of (by omega) (by omega) ga fun n n0 n1 => ?_
    simp only [DL.e_loc, DL.e_cst, DL.e_gc, DL.e_bin, DL.e_neg, DL.e_cmp, DL.e_chn, DL.e_and, DL.e_or, DL.e_not, DL.e_ite, DL.e_idx, DL.e_gidx, DL.e_slc, DL.e_tup, DL.e_lst, DL.e_call, DL.e_bi, DL.e_inst, DL.e_comp, DL.e_nev, DL.e_nil, DL.e_cons, DL.e_no, DL.e_yes, DL.b_val, DL.b_cmp, DL.b_chn, DL.b_and, DL.b_or, DL.b_not, DL.b_no, DL.b_one, DL.i_seq, DL.i_rng1, DL.i_rng2, DL.i_enum, DL.i_zip, DL.s_set, DL.s_setF, DL.s_asg, DL.s_par, DL.s_par3, DL.s_aug, DL.s_app, DL.s_ext, DL.s_pop, DL.s_expr, DL.s_ret, DL.s_retT, DL.s_ite, DL.s_whl, DL.s_for, DL.s_gset, DL.s_brk, DL.s_cnt, DL.s_nil, DL.s_cons, DL.s_frz, DL.t_name, DL.t_tup, DL.t_nil, DL.t_cons, DL.t_len0, DL.t_len1, DL.k_locd, DL.k_loco, DL.k_neg, DL.k_tt, DL.k_ff, DL.k_any, DL.k_lst, DL.k_int, DL.k_dat, DL.k_ty, DL.k_keep, DL.k_own, DL.k_slot, DL.k_new, DL.k_seqt, DL.k_seql, DL.k_seqs, DL.k_seqo, DL.k_enut, DL.k_enul, DL.k_enuo, DL.k_zipt, DL.k_zipl, DL.k_gix, DL.k_gst, DL.k_setd, DL.k_seto, DL.a_dd, DL.a_do, DL.a_rd, DL.a_ro, DL.a_rb, DL.a_nil, DL.a_d, DL.a_o, DL.a_l, DL.a_lo, DL.a_lb, DL.o_add, DL.o_addb, DL.o_adds, DL.o_addt, DL.o_sub, DL.o_subb, DL.o_subbb, DL.o_iadd, DL.o_iaddb, DL.o_isub, DL.o_isubb, DL.o_mul, DL.o_fdiv, DL.o_mod, DL.o_lt, DL.o_le, DL.o_gt, DL.o_ge, DL.o_eq, DL.o_ne, DL.o_isn, DL.o_notn, DL.o_isb, DL.o_notb, DL.o_idxt, DL.o_idxl, DL.o_idxo, DL.o_idxb, DL.o_slct, DL.o_slcl, DL.o_slco, DL.o_slcb, DL.o_rev, DL.o_lent, DL.o_lenl, DL.o_lens, DL.o_leno, DL.o_lenb, DL.o_lenstr, DL.o_abs, DL.o_int, DL.o_intb, DL.o_tupo, DL.o_tupl, DL.o_tupt, DL.o_tupb, DL.o_lso, DL.o_lsl, DL.o_lst, DL.o_lss, DL.o_lsb, DL.o_all, DL.o_anyy, DL.o_sum, DL.o_sorted, DL.u_bl, DL.u_int, DL.u_non, DL.u_tup, DL.u_lst, DL.u_own, DL.u_bor, DL.x_0, DL.x_1, DL.x_2, DL.x_3, DL.x_4, DL.x_5, DL.y_tuplenon, DL.y_tuplebl, DL.y_tupleint, DL.y_tuplestr, DL.y_tupletup, DL.y_tuplelst, DL.y_listnon, DL.y_listbl, DL.y_listint, DL.y_liststr, DL.y_listtup, DL.y_listlst, DL.y_dictnon, DL.y_dictbl, DL.y_dictint, DL.y_dictstr, DL.y_dicttup, DL.y_dictlst, DL.y_strnon, DL.y_strbl, DL.y_strint, DL.y_strstr, DL.y_strtup, DL.y_strlst, DL.y_intnon, DL.y_intbl, DL.y_intint, DL.y_intstr, DL.y_inttup, DL.y_intlst, DL.y_boolnon, DL.y_boolbl, DL.y_boolint, DL.y_boolstr, DL.y_booltup, DL.y_boollst, DL.j_n1, DL.j_n2, DL.j_n3, DL.j_n4, DL.j_n5, DL.j_f1, DL.j_f2, DL.j_f3, DL.j_f4, DL.j_f5, DL.j_w1, DL.j_w2, DL.j_w3, DL.j_w4, DL.j_w5, DL.j_01, DL.j_02, DL.j_03, DL.eqD_int, DL.eqOk_int, List.getElem?_cons_zero, List.getElem?_cons_succ, List.set_cons_zero, List.set_cons_succ, List.length_cons, List.length_nil, Option.map_some, Option.map_none, true_and, eq_self, c30_15]
    obtain ⟨m, hm⟩ : ∃ m : Nat, 1 + n = m := ⟨(1 + n).toNat, by omega⟩
    have m1 : 1 ≤ m := by omega
    have m2 : m < r.length := by omega
    have hm2 : (m : Int) + 1 = ((m + 1 : Nat) : Int) := rfl
    have one : (1 : Int) = ((1 : Nat) : Int) := rfl
    have l1 : m ≤ r.length := by omega
    have l2 : m + 1 ≤ r.length := by omega
    have l3 : 1 ≤ r.length := by omega
    simp only [hm, hm2, slc_to l1, slc_to l2, slc_from l1, slc_one l3, add_ring, DL.e_loc, DL.e_cst, DL.e_gc, DL.e_bin, DL.e_neg, DL.e_cmp, DL.e_chn, DL.e_and, DL.e_or, DL.e_not, DL.e_ite, DL.e_idx, DL.e_gidx, DL.e_slc, DL.e_tup, DL.e_lst, DL.e_call, DL.e_bi, DL.e_inst, DL.e_comp, DL.e_nev, DL.e_nil, DL.e_cons, DL.e_no, DL.e_yes, DL.b_val, DL.b_cmp, DL.b_chn, DL.b_and, DL.b_or, DL.b_not, DL.b_no, DL.b_one, DL.i_seq, DL.i_rng1, DL.i_rng2, DL.i_enum, DL.i_zip, DL.s_set, DL.s_setF, DL.s_asg, DL.s_par, DL.s_par3, DL.s_aug, DL.s_app, DL.s_ext, DL.s_pop, DL.s_expr, DL.s_ret, DL.s_retT, DL.s_ite, DL.s_whl, DL.s_for, DL.s_gset, DL.s_brk, DL.s_cnt, DL.s_nil, DL.s_cons, DL.s_frz, DL.t_name, DL.t_tup, DL.t_nil, DL.t_cons, DL.t_len0, DL.t_len1, DL.k_locd, DL.k_loco, DL.k_neg, DL.k_tt, DL.k_ff, DL.k_any, DL.k_lst, DL.k_int, DL.k_dat, DL.k_ty, DL.k_keep, DL.k_own, DL.k_slot, DL.k_new, DL.k_seqt, DL.k_seql, DL.k_seqs, DL.k_seqo, DL.k_enut, DL.k_enul, DL.k_enuo, DL.k_zipt, DL.k_zipl, DL.k_gix, DL.k_gst, DL.k_setd, DL.k_seto, DL.a_dd, DL.a_do, DL.a_rd, DL.a_ro, DL.a_rb, DL.a_nil, DL.a_d, DL.a_o, DL.a_l, DL.a_lo, DL.a_lb, DL.o_add, DL.o_addb, DL.o_adds, DL.o_addt, DL.o_sub, DL.o_subb, DL.o_subbb, DL.o_iadd, DL.o_iaddb, DL.o_isub, DL.o_isubb, DL.o_mul, DL.o_fdiv, DL.o_mod, DL.o_lt, DL.o_le, DL.o_gt, DL.o_ge, DL.o_eq, DL.o_ne, DL.o_isn, DL.o_notn, DL.o_isb, DL.o_notb, DL.o_idxt, DL.o_idxl, DL.o_idxo, DL.o_idxb, DL.o_slct, DL.o_slcl, DL.o_slco, DL.o_slcb, DL.o_rev, DL.o_lent, DL.o_lenl, DL.o_lens, DL.o_leno, DL.o_lenb, DL.o_lenstr, DL.o_abs, DL.o_int, DL.o_intb, DL.o_tupo, DL.o_tupl, DL.o_tupt, DL.o_tupb, DL.o_lso, DL.o_lsl, DL.o_lst, DL.o_lss, DL.o_lsb, DL.o_all, DL.o_anyy, DL.o_sum, DL.o_sorted, DL.u_bl, DL.u_int, DL.u_non, DL.u_tup, DL.u_lst, DL.u_own, DL.u_bor, DL.x_0, DL.x_1, DL.x_2, DL.x_3, DL.x_4, DL.x_5, DL.y_tuplenon, DL.y_tuplebl, DL.y_tupleint, DL.y_tuplestr, DL.y_tupletup, DL.y_tuplelst, DL.y_listnon, DL.y_listbl, DL.y_listint, DL.y_liststr, DL.y_listtup, DL.y_listlst, DL.y_dictnon, DL.y_dictbl, DL.y_dictint, DL.y_dictstr, DL.y_dicttup, DL.y_dictlst, DL.y_strnon, DL.y_strbl, DL.y_strint, DL.y_strstr, DL.y_strtup, DL.y_strlst, DL.y_intnon, DL.y_intbl, DL.y_intint, DL.y_intstr, DL.y_inttup, DL.y_intlst, DL.y_boolnon, DL.y_boolbl, DL.y_boolint, DL.y_boolstr, DL.y_booltup, DL.y_boollst, DL.j_n1, DL.j_n2, DL.j_n3, DL.j_n4, DL.j_n5, DL.j_f1, DL.j_f2, DL.j_f3, DL.j_f4, DL.j_f5, DL.j_w1, DL.j_w2, DL.j_w3, DL.j_w4, DL.j_w5, DL.j_01, DL.j_02, DL.j_03, DL.eqD_int, DL.eqOk_int, List.getElem?_cons_zero, List.getElem?_cons_succ, List.set_cons_zero, List.set_cons_succ, List.length_cons, List.length_nil, Option.map_some, Option.map_none, true_and, eq_self, rings2]
    have ld : (r.drop m).length = r.length - m := List.length_drop
    have lt : (r.take 1).length = 1 := by rw [List.length_take]; omega
    refine ⟨by rw [ld, lt, sizeLine_eq]; omega, Nat.le_of_ble_eq_true rfl, ?_⟩
    simp only [c30_16, DL.e_loc, DL.e_cst, DL.e_gc, DL.e_bin, DL.e_neg, DL.e_cmp, DL.e_chn, DL.e_and, DL.e_or, DL.e_not, DL.e_ite, DL.e_idx, DL.e_gidx, DL.e_slc, DL.e_tup, DL.e_lst, DL.e_call, DL.e_bi, DL.e_inst, DL.e_comp, DL.e_nev, DL.e_nil, DL.e_cons, DL.e_no, DL.e_yes, DL.b_val, DL.b_cmp, DL.b_chn, DL.b_and, DL.b_or, DL.b_not, DL.b_no, DL.b_one, DL.i_seq, DL.i_rng1, DL.i_rng2, DL.i_enum, DL.i_zip, DL.s_set, DL.s_setF, DL.s_asg, DL.s_par, DL.s_par3, DL.s_aug, DL.s_app, DL.s_ext, DL.s_pop, DL.s_expr, DL.s_ret, DL.s_retT, DL.s_ite, DL.s_whl, DL.s_for, DL.s_gset, DL.s_brk, DL.s_cnt, DL.s_nil, DL.s_cons, DL.s_frz, DL.t_name, DL.t_tup, DL.t_nil, DL.t_cons, DL.t_len0, DL.t_len1, DL.k_locd, DL.k_loco, DL.k_neg, DL.k_tt, DL.k_ff, DL.k_any, DL.k_lst, DL.k_int, DL.k_dat, DL.k_ty, DL.k_keep, DL.k_own, DL.k_slot, DL.k_new, DL.k_seqt, DL.k_seql, DL.k_seqs, DL.k_seqo, DL.k_enut, DL.k_enul, DL.k_enuo, DL.k_zipt, DL.k_zipl, DL.k_gix, DL.k_gst, DL.k_setd, DL.k_seto, DL.a_dd, DL.a_do, DL.a_rd, DL.a_ro, DL.a_rb, DL.a_nil, DL.a_d, DL.a_o, DL.a_l, DL.a_lo, DL.a_lb, DL.o_add, DL.o_addb, DL.o_adds, DL.o_addt, DL.o_sub, DL.o_subb, DL.o_subbb, DL.o_iadd, DL.o_iaddb, DL.o_isub, DL.o_isubb, DL.o_mul, DL.o_fdiv, DL.o_mod, DL.o_lt, DL.o_le, DL.o_gt, DL.o_ge, DL.o_eq, DL.o_ne, DL.o_isn, DL.o_notn, DL.o_isb, DL.o_notb, DL.o_idxt, DL.o_idxl, DL.o_idxo, DL.o_idxb, DL.o_slct, DL.o_slcl, DL.o_slco, DL.o_slcb, DL.o_rev, DL.o_lent, DL.o_lenl, DL.o_lens, DL.o_leno, DL.o_lenb, DL.o_lenstr, DL.o_abs, DL.o_int, DL.o_intb, DL.o_tupo, DL.o_tupl, DL.o_tupt, DL.o_tupb, DL.o_lso, DL.o_lsl, DL.o_lst, DL.o_lss, DL.o_lsb, DL.o_all, DL.o_anyy, DL.o_sum, DL.o_sorted, DL.u_bl, DL.u_int, DL.u_non, DL.u_tup, DL.u_lst, DL.u_own, DL.u_bor, DL.x_0, DL.x_1, DL.x_2, DL.x_3, DL.x_4, DL.x_5, DL.y_tuplenon, DL.y_tuplebl, DL.y_tupleint, DL.y_tuplestr, DL.y_tupletup, DL.y_tuplelst, DL.y_listnon, DL.y_listbl, DL.y_listint, DL.y_liststr, DL.y_listtup, DL.y_listlst, DL.y_dictnon, DL.y_dictbl, DL.y_dictint, DL.y_dictstr, DL.y_dicttup, DL.y_dictlst, DL.y_strnon, DL.y_strbl, DL.y_strint, DL.y_strstr, DL.y_strtup, DL.y_strlst, DL.y_intnon, DL.y_intbl, DL.y_intint, DL.y_intstr, DL.y_inttup, DL.y_intlst, DL.y_boolnon, DL.y_boolbl, DL.y_boolint, DL.y_boolstr, DL.y_booltup, DL.y_boollst, DL.j_n1, DL.j_n2, DL.j_n3, DL.j_n4, DL.j_n5, DL.j_f1, DL.j_f2, DL.j_f3, DL.j_f4, DL.j_f5, DL.j_w1, DL.j_w2, DL.j_w3, DL.j_w4, DL.j_w5, DL.j_01, DL.j_02, DL.j_03, DL.eqD_int, DL.eqOk_int, List.getElem?_cons_zero, List.getElem?_cons_succ, List.set_cons_zero, List.set_cons_succ, List.length_cons, List.length_nil, Option.map_some, Option.map_none, true_and, eq_self, h8, h20, rings1]
    have og3 : RgOk 100 [r.take (m + 1), r.drop m ++ r.take 1] := ⟨by simp, fun z hz => by
      simp only [List.mem_cons, List.not_mem_nil, or_false] at hz
      rcases hz with rfl | rfl
      · exact ⟨by rw [List.length_take]; omega, fun q hq => okm q (List.mem_of_mem_take hq)⟩
      · refine ⟨by rw [List.length_append, ld, lt]; omega, fun q hq => ?_⟩
        rcases List.mem_append.mp hq with hq | hq
        · exact okm q (List.mem_of_mem_drop hq)
        · exact okm q (List.mem_of_mem_take hq)⟩
    refine Tturns_of og3 op ⟨Nat.le_of_ble_eq_true rfl, Tturns_of org op (Tsame_eq ?_ pd_int ?_)⟩
    · rw [wind_cons, wind_one, wind_one, W_cut p r m m1 m2]
    simp only [Bool.not_true, k_ff, DL.e_loc, DL.e_cst, DL.e_gc, DL.e_bin, DL.e_neg, DL.e_cmp, DL.e_chn, DL.e_and, DL.e_or, DL.e_not, DL.e_ite, DL.e_idx, DL.e_gidx, DL.e_slc, DL.e_tup, DL.e_lst, DL.e_call, DL.e_bi, DL.e_inst, DL.e_comp, DL.e_nev, DL.e_nil, DL.e_cons, DL.e_no, DL.e_yes, DL.b_val, DL.b_cmp, DL.b_chn, DL.b_and, DL.b_or, DL.b_not, DL.b_no, DL.b_one, DL.i_seq, DL.i_rng1, DL.i_rng2, DL.i_enum, DL.i_zip, DL.s_set, DL.s_setF, DL.s_asg, DL.s_par, DL.s_par3, DL.s_aug, DL.s_app, DL.s_ext, DL.s_pop, DL.s_expr, DL.s_ret, DL.s_retT, DL.s_ite, DL.s_whl, DL.s_for, DL.s_gset, DL.s_brk, DL.s_cnt, DL.s_nil, DL.s_cons, DL.s_frz, DL.t_name, DL.t_tup, DL.t_nil, DL.t_cons, DL.t_len0, DL.t_len1, DL.k_locd, DL.k_loco, DL.k_neg, DL.k_tt, DL.k_ff, DL.k_any, DL.k_lst, DL.k_int, DL.k_dat, DL.k_ty, DL.k_keep, DL.k_own, DL.k_slot, DL.k_new, DL.k_seqt, DL.k_seql, DL.k_seqs, DL.k_seqo, DL.k_enut, DL.k_enul, DL.k_enuo, DL.k_zipt, DL.k_zipl, DL.k_gix, DL.k_gst, DL.k_setd, DL.k_seto, DL.a_dd, DL.a_do, DL.a_rd, DL.a_ro, DL.a_rb, DL.a_nil, DL.a_d, DL.a_o, DL.a_l, DL.a_lo, DL.a_lb, DL.o_add, DL.o_addb, DL.o_adds, DL.o_addt, DL.o_sub, DL.o_subb, DL.o_subbb, DL.o_iadd, DL.o_iaddb, DL.o_isub, DL.o_isubb, DL.o_mul, DL.o_fdiv, DL.o_mod, DL.o_lt, DL.o_le, DL.o_gt, DL.o_ge, DL.o_eq, DL.o_ne, DL.o_isn, DL.o_notn, DL.o_isb, DL.o_notb, DL.o_idxt, DL.o_idxl, DL.o_idxo, DL.o_idxb, DL.o_slct, DL.o_slcl, DL.o_slco, DL.o_slcb, DL.o_rev, DL.o_lent, DL.o_lenl, DL.o_lens, DL.o_leno, DL.o_lenb, DL.o_lenstr, DL.o_abs, DL.o_int, DL.o_intb, DL.o_tupo, DL.o_tupl, DL.o_tupt, DL.o_tupb, DL.o_lso, DL.o_lsl, DL.o_lst, DL.o_lss, DL.o_lsb, DL.o_all, DL.o_anyy, DL.o_sum, DL.o_sorted, DL.u_bl, DL.u_int, DL.u_non, DL.u_tup, DL.u_lst, DL.u_own, DL.u_bor, DL.x_0, DL.x_1, DL.x_2, DL.x_3, DL.x_4, DL.x_5, DL.y_tuplenon, DL.y_tuplebl, DL.y_tupleint, DL.y_tuplestr, DL.y_tupletup, DL.y_tuplelst, DL.y_listnon, DL.y_listbl, DL.y_listint, DL.y_liststr, DL.y_listtup, DL.y_listlst, DL.y_dictnon, DL.y_dictbl, DL.y_dictint, DL.y_dictstr, DL.y_dicttup, DL.y_dictlst, DL.y_strnon, DL.y_strbl, DL.y_strint, DL.y_strstr, DL.y_strtup, DL.y_strlst, DL.y_intnon, DL.y_intbl, DL.y_intint, DL.y_intstr, DL.y_inttup, DL.y_intlst, DL.y_boolnon, DL.y_boolbl, DL.y_boolint, DL.y_boolstr, DL.y_booltup, DL.y_boollst, DL.j_n1, DL.j_n2, DL.j_n3, DL.j_n4, DL.j_n5, DL.j_f1, DL.j_f2, DL.j_f3, DL.j_f4, DL.j_f5, DL.j_w1, DL.j_w2, DL.j_w3, DL.j_w4, DL.j_w5, DL.j_01, DL.j_02, DL.j_03, DL.eqD_int, DL.eqOk_int, List.getElem?_cons_zero, List.getElem?_cons_succ, List.set_cons_zero, List.set_cons_succ, List.length_cons, List.length_nil, Option.map_some, Option.map_none, true_and, eq_self, c30_18, x_ar0, er, x_rs0, slc_to l1, slc_from l1, add_ring]
    have lk : (r.take m).length = m := by rw [List.length_take]; omega
    refine ⟨by rw [ld, lk, sizeLine_eq]; omega, ?_⟩
    simp only [c30_19, DL.e_loc, DL.e_cst, DL.e_gc, DL.e_bin, DL.e_neg, DL.e_cmp, DL.e_chn, DL.e_and, DL.e_or, DL.e_not, DL.e_ite, DL.e_idx, DL.e_gidx, DL.e_slc, DL.e_tup, DL.e_lst, DL.e_call, DL.e_bi, DL.e_inst, DL.e_comp, DL.e_nev, DL.e_nil, DL.e_cons, DL.e_no, DL.e_yes, DL.b_val, DL.b_cmp, DL.b_chn, DL.b_and, DL.b_or, DL.b_not, DL.b_no, DL.b_one, DL.i_seq, DL.i_rng1, DL.i_rng2, DL.i_enum, DL.i_zip, DL.s_set, DL.s_setF, DL.s_asg, DL.s_par, DL.s_par3, DL.s_aug, DL.s_app, DL.s_ext, DL.s_pop, DL.s_expr, DL.s_ret, DL.s_retT, DL.s_ite, DL.s_whl, DL.s_for, DL.s_gset, DL.s_brk, DL.s_cnt, DL.s_nil, DL.s_cons, DL.s_frz, DL.t_name, DL.t_tup, DL.t_nil, DL.t_cons, DL.t_len0, DL.t_len1, DL.k_locd, DL.k_loco, DL.k_neg, DL.k_tt, DL.k_ff, DL.k_any, DL.k_lst, DL.k_int, DL.k_dat, DL.k_ty, DL.k_keep, DL.k_own, DL.k_slot, DL.k_new, DL.k_seqt, DL.k_seql, DL.k_seqs, DL.k_seqo, DL.k_enut, DL.k_enul, DL.k_enuo, DL.k_zipt, DL.k_zipl, DL.k_gix, DL.k_gst, DL.k_setd, DL.k_seto, DL.a_dd, DL.a_do, DL.a_rd, DL.a_ro, DL.a_rb, DL.a_nil, DL.a_d, DL.a_o, DL.a_l, DL.a_lo, DL.a_lb, DL.o_add, DL.o_addb, DL.o_adds, DL.o_addt, DL.o_sub, DL.o_subb, DL.o_subbb, DL.o_iadd, DL.o_iaddb, DL.o_isub, DL.o_isubb, DL.o_mul, DL.o_fdiv, DL.o_mod, DL.o_lt, DL.o_le, DL.o_gt, DL.o_ge, DL.o_eq, DL.o_ne, DL.o_isn, DL.o_notn, DL.o_isb, DL.o_notb, DL.o_idxt, DL.o_idxl, DL.o_idxo, DL.o_idxb, DL.o_slct, DL.o_slcl, DL.o_slco, DL.o_slcb, DL.o_rev, DL.o_lent, DL.o_lenl, DL.o_lens, DL.o_leno, DL.o_lenb, DL.o_lenstr, DL.o_abs, DL.o_int, DL.o_intb, DL.o_tupo, DL.o_tupl, DL.o_tupt, DL.o_tupb, DL.o_lso, DL.o_lsl, DL.o_lst, DL.o_lss, DL.o_lsb, DL.o_all, DL.o_anyy, DL.o_sum, DL.o_sorted, DL.u_bl, DL.u_int, DL.u_non, DL.u_tup, DL.u_lst, DL.u_own, DL.u_bor, DL.x_0, DL.x_1, DL.x_2, DL.x_3, DL.x_4, DL.x_5, DL.y_tuplenon, DL.y_tuplebl, DL.y_tupleint, DL.y_tuplestr, DL.y_tupletup, DL.y_tuplelst, DL.y_listnon, DL.y_listbl, DL.y_listint, DL.y_liststr, DL.y_listtup, DL.y_listlst, DL.y_dictnon, DL.y_dictbl, DL.y_dictint, DL.y_dictstr, DL.y_dicttup, DL.y_dictlst, DL.y_strnon, DL.y_strbl, DL.y_strint, DL.y_strstr, DL.y_strtup, DL.y_strlst, DL.y_intnon, DL.y_intbl, DL.y_intint, DL.y_intstr, DL.y_inttup, DL.y_intlst, DL.y_boolnon, DL.y_boolbl, DL.y_boolint, DL.y_boolstr, DL.y_booltup, DL.y_boollst, DL.j_n1, DL.j_n2, DL.j_n3, DL.j_n4, DL.j_n5, DL.j_f1, DL.j_f2, DL.j_f3, DL.j_f4, DL.j_f5, DL.j_w1, DL.j_w2, DL.j_w3, DL.j_w4, DL.j_w5, DL.j_01, DL.j_02, DL.j_03, DL.eqD_int, DL.eqOk_int, List.getElem?_cons_zero, List.getElem?_cons_succ, List.set_cons_zero, List.set_cons_succ, List.length_cons, List.length_nil, Option.map_some, Option.map_none, true_and, eq_self, h8, h20, rings1]
    have og4 : RgOk 100 [r.drop m ++ r.take m] := rok _ (by rw [List.length_append, ld, lk]; omega) (fun q hq => by
      rcases List.mem_append.mp hq with hq | hq
      · exact List.mem_of_mem_drop hq
      · exact List.mem_of_mem_take hq)
    refine ⟨Nat.le_of_ble_eq_true rfl, Tturns_of og4 op ⟨Nat.le_of_ble_eq_true rfl, Tturns_of org op (Tsame_eq ?_ pd_int ?_)⟩⟩
    · rw [wind_one, wind_one, W_rot, List.take_append_drop]
    simp only [Bool.not_true, k_ff, DL.e_loc, DL.e_cst, DL.e_gc, DL.e_bin, DL.e_neg, DL.e_cmp, DL.e_chn, DL.e_and, DL.e_or, DL.e_not, DL.e_ite, DL.e_idx, DL.e_gidx, DL.e_slc, DL.e_tup, DL.e_lst, DL.e_call, DL.e_bi, DL.e_inst, DL.e_comp, DL.e_nev, DL.e_nil, DL.e_cons, DL.e_no, DL.e_yes, DL.b_val, DL.b_cmp, DL.b_chn, DL.b_and, DL.b_or, DL.b_not, DL.b_no, DL.b_one, DL.i_seq, DL.i_rng1, DL.i_rng2, DL.i_enum, DL.i_zip, DL.s_set, DL.s_setF, DL.s_asg, DL.s_par, DL.s_par3, DL.s_aug, DL.s_app, DL.s_ext, DL.s_pop, DL.s_expr, DL.s_ret, DL.s_retT, DL.s_ite, DL.s_whl, DL.s_for, DL.s_gset, DL.s_brk, DL.s_cnt, DL.s_nil, DL.s_cons, DL.s_frz, DL.t_name, DL.t_tup, DL.t_nil, DL.t_cons, DL.t_len0, DL.t_len1, DL.k_locd, DL.k_loco, DL.k_neg, DL.k_tt, DL.k_ff, DL.k_any, DL.k_lst, DL.k_int, DL.k_dat, DL.k_ty, DL.k_keep, DL.k_own, DL.k_slot, DL.k_new, DL.k_seqt, DL.k_seql, DL.k_seqs, DL.k_seqo, DL.k_enut, DL.k_enul, DL.k_enuo, DL.k_zipt, DL.k_zipl, DL.k_gix, DL.k_gst, DL.k_setd, DL.k_seto, DL.a_dd, DL.a_do, DL.a_rd, DL.a_ro, DL.a_rb, DL.a_nil, DL.a_d, DL.a_o, DL.a_l, DL.a_lo, DL.a_lb, DL.o_add, DL.o_addb, DL.o_adds, DL.o_addt, DL.o_sub, DL.o_subb, DL.o_subbb, DL.o_iadd, DL.o_iaddb, DL.o_isub, DL.o_isubb, DL.o_mul, DL.o_fdiv, DL.o_mod, DL.o_lt, DL.o_le, DL.o_gt, DL.o_ge, DL.o_eq, DL.o_ne, DL.o_isn, DL.o_notn, DL.o_isb, DL.o_notb, DL.o_idxt, DL.o_idxl, DL.o_idxo, DL.o_idxb, DL.o_slct, DL.o_slcl, DL.o_slco, DL.o_slcb, DL.o_rev, DL.o_lent, DL.o_lenl, DL.o_lens, DL.o_leno, DL.o_lenb, DL.o_lenstr, DL.o_abs, DL.o_int, DL.o_intb, DL.o_tupo, DL.o_tupl, DL.o_tupt, DL.o_tupb, DL.o_lso, DL.o_lsl, DL.o_lst, DL.o_lss, DL.o_lsb, DL.o_all, DL.o_anyy, DL.o_sum, DL.o_sorted, DL.u_bl, DL.u_int, DL.u_non, DL.u_tup, DL.u_lst, DL.u_own, DL.u_bor, DL.x_0, DL.x_1, DL.x_2, DL.x_3, DL.x_4, DL.x_5, DL.y_tuplenon, DL.y_tuplebl, DL.y_tupleint, DL.y_tuplestr, DL.y_tupletup, DL.y_tuplelst, DL.y_listnon, DL.y_listbl, DL.y_listint, DL.y_liststr, DL.y_listtup, DL.y_listlst, DL.y_dictnon, DL.y_dictbl, DL.y_dictint, DL.y_dictstr, DL.y_dicttup, DL.y_dictlst, DL.y_strnon, DL.y_strbl, DL.y_strint, DL.y_strstr, DL.y_strtup, DL.y_strlst, DL.y_intnon, DL.y_intbl, DL.y_intint, DL.y_intstr, DL.y_inttup, DL.y_intlst, DL.y_boolnon, DL.y_boolbl, DL.y_boolint, DL.y_boolstr, DL.y_booltup, DL.y_boollst, DL.j_n1, DL.j_n2, DL.j_n3, DL.j_n4, DL.j_n5, DL.j_f1, DL.j_f2, DL.j_f3, DL.j_f4, DL.j_f5, DL.j_w1, DL.j_w2, DL.j_w3, DL.j_w4, DL.j_w5, DL.j_01, DL.j_02, DL.j_03, DL.eqD_int, DL.eqOk_int, List.getElem?_cons_zero, List.getElem?_cons_succ, List.set_cons_zero, List.set_cons_succ, List.length_cons, List.length_nil, Option.map_some, Option.map_none, true_and, eq_self]
    exact ih _ _ _ _ _ _ _ _ h

def boxR (l h : Int) : List Pt := [((l : Rat), 0), ((h : Rat), 0), ((h : Rat), 4), ((l : Rat), 4)]
theorem box_wind (l h x y : Int) (hy : 0 ≤ y) : wind [boxR l h] ((x : Rat), (y : Rat)) = if y < 4 then (if x < h then 1 else 0) - (if x < l then 1 else 0) else 0 := by
  have c0 : ((0 : Int) : Rat) = 0 := rfl
  have c4 : ((4 : Int) : Rat) = 4 := rfl
  have y0 : ¬ ((y : Rat) < 0) := by rw [← c0, Rat.intCast_lt_intCast]; omega
  have y4 : ((y : Rat) < 4) ↔ y < 4 := by rw [← c4, Rat.intCast_lt_intCast]
  have s1 : (0 < sideR ((h : Rat), 0) ((h : Rat), 4) ((x : Rat), (y : Rat))) ↔ x < h := by
    rw [← Rat.intCast_lt_intCast]
    unfold sideR
    simp only
    constructor
    · intro z; grind
    · intro z; grind
  have s2 : (sideR ((l : Rat), 4) ((l : Rat), 0) ((x : Rat), (y : Rat)) < 0) ↔ x < l := by
    rw [← Rat.intCast_lt_intCast]
    unfold sideR
    simp only
    constructor
    · intro z; grind
    · intro z; grind
  simp only [wind_one, W, boxR, edgesOf, edgesFrom, List.map_cons, List.map_nil, List.sum_cons, List.sum_nil, cross, y0, y4, s1, s2]
  by_cases h1 : y < 4 <;> by_cases h2 : x < h <;> by_cases h3 : x < l <;> simp [h1, h2, h3]
theorem box_sum (a b c x y : Int) (h1 : a ≤ b) (h2 : b ≤ c) (hy : 0 ≤ y) :
    ((if isIn [boxR a b] "whole" ((x : Rat), (y : Rat)) = true then (1 : Int) else 0) + (if isIn [boxR b c] "whole" ((x : Rat), (y : Rat)) = true then 1 else 0)) = if a ≤ x ∧ x < c ∧ y < 4 then 1 else 0 := by
  have e : ∀ l h : Int, isIn [boxR l h] "whole" ((x : Rat), (y : Rat)) = decide (wind [boxR l h] ((x : Rat), (y : Rat)) ≠ 0) := fun l h => by unfold isIn; rw [if_pos rfl]
  rw [e, e, box_wind _ _ _ _ hy, box_wind _ _ _ _ hy]
  by_cases q1 : y < 4 <;> by_cases q2 : x < a <;> by_cases q3 : x < b <;> by_cases q4 : x < c <;> simp [q1, q2, q3, q4] <;> omega
theorem run_law : ∀ ds G Q E, Tlaw ds G Q E → runB S N30 c30_1 ds G Q E := by
  rintro ds G Q E ⟨⟨ns, rfl, hn⟩, rfl, h⟩
  simp only [run_eq, startL, N30, c30_1, DL.e_loc, DL.e_cst, DL.e_gc, DL.e_bin, DL.e_neg, DL.e_cmp, DL.e_chn, DL.e_and, DL.e_or, DL.e_not, DL.e_ite, DL.e_idx, DL.e_gidx, DL.e_slc, DL.e_tup, DL.e_lst, DL.e_call, DL.e_bi, DL.e_inst, DL.e_comp, DL.e_nev, DL.e_nil, DL.e_cons, DL.e_no, DL.e_yes, DL.b_val, DL.b_cmp, DL.b_chn, DL.b_and, DL.b_or, DL.b_not, DL.b_no, DL.b_one, DL.i_seq, DL.i_rng1, DL.i_rng2, DL.i_enum, DL.i_zip, DL.s_set, DL.s_setF, DL.s_asg, DL.s_par, DL.s_par3, DL.s_aug, DL.s_app, DL.s_ext, DL.s_pop, DL.s_expr, DL.s_ret, DL.s_retT, DL.s_ite, DL.s_whl, DL.s_for, DL.s_gset, DL.s_brk, DL.s_cnt, DL.s_nil, DL.s_cons, DL.s_frz, DL.t_name, DL.t_tup, DL.t_nil, DL.t_cons, DL.t_len0, DL.t_len1, DL.k_locd, DL.k_loco, DL.k_neg, DL.k_tt, DL.k_ff, DL.k_any, DL.k_lst, DL.k_int, DL.k_dat, DL.k_ty, DL.k_keep, DL.k_own, DL.k_slot, DL.k_new, DL.k_seqt, DL.k_seql, DL.k_seqs, DL.k_seqo, DL.k_enut, DL.k_enul, DL.k_enuo, DL.k_zipt, DL.k_zipl, DL.k_gix, DL.k_gst, DL.k_setd, DL.k_seto, DL.a_dd, DL.a_do, DL.a_rd, DL.a_ro, DL.a_rb, DL.a_nil, DL.a_d, DL.a_o, DL.a_l, DL.a_lo, DL.a_lb, DL.o_add, DL.o_addb, DL.o_adds, DL.o_addt, DL.o_sub, DL.o_subb, DL.o_subbb, DL.o_iadd, DL.o_iaddb, DL.o_isub, DL.o_isubb, DL.o_mul, DL.o_fdiv, DL.o_mod, DL.o_lt, DL.o_le, DL.o_gt, DL.o_ge, DL.o_eq, DL.o_ne, DL.o_isn, DL.o_notn, DL.o_isb, DL.o_notb, DL.o_idxt, DL.o_idxl, DL.o_idxo, DL.o_idxb, DL.o_slct, DL.o_slcl, DL.o_slco, DL.o_slcb, DL.o_rev, DL.o_lent, DL.o_lenl, DL.o_lens, DL.o_leno, DL.o_lenb, DL.o_lenstr, DL.o_abs, DL.o_int, DL.o_intb, DL.o_tupo, DL.o_tupl, DL.o_tupt, DL.o_tupb, DL.o_lso, DL.o_lsl, DL.o_lst, DL.o_lss, DL.o_lsb, DL.o_all, DL.o_anyy, DL.o_sum, DL.o_sorted, DL.u_bl, DL.u_int, DL.u_non, DL.u_tup, DL.u_lst, DL.u_own, DL.u_bor, DL.x_0, DL.x_1, DL.x_2, DL.x_3, DL.x_4, DL.x_5, DL.y_tuplenon, DL.y_tuplebl, DL.y_tupleint, DL.y_tuplestr, DL.y_tupletup, DL.y_tuplelst, DL.y_listnon, DL.y_listbl, DL.y_listint, DL.y_liststr, DL.y_listtup, DL.y_listlst, DL.y_dictnon, DL.y_dictbl, DL.y_dictint, DL.y_dictstr, DL.y_dicttup, DL.y_dictlst, DL.y_strnon, DL.y_strbl, DL.y_strint, DL.y_strstr, DL.y_strtup, DL.y_strlst, DL.y_intnon, DL.y_intbl, DL.y_intint, DL.y_intstr, DL.y_inttup, DL.y_intlst, DL.y_boolnon, DL.y_boolbl, DL.y_boolint, DL.y_boolstr, DL.y_booltup, DL.y_boollst, DL.j_n1, DL.j_n2, DL.j_n3, DL.j_n4, DL.j_n5, DL.j_f1, DL.j_f2, DL.j_f3, DL.j_f4, DL.j_f5, DL.j_w1, DL.j_w2, DL.j_w3, DL.j_w4, DL.j_w5, DL.j_01, DL.j_02, DL.j_03, DL.eqD_int, DL.eqOk_int, List.getElem?_cons_zero, List.getElem?_cons_succ, List.set_cons_zero, List.set_cons_succ, List.length_cons, List.length_nil, Option.map_some, Option.map_none, true_and, eq_self, List.map_cons, List.map_nil, Nat.reduceAdd, Nat.reduceSub, List.replicate_succ, List.replicate_zero, List.append_nil, List.cons_append, List.nil_append, h11]
  refine ⟨ns, rfl, hn, fun a _ => ?_⟩
  have ga : gup (fun _ => none) a .strm a = some .strm := gup_same
  generalize gup (fun _ => none) a .strm = G at *
  simp only [DL.e_loc, DL.e_cst, DL.e_gc, DL.e_bin, DL.e_neg, DL.e_cmp, DL.e_chn, DL.e_and, DL.e_or, DL.e_not, DL.e_ite, DL.e_idx, DL.e_gidx, DL.e_slc, DL.e_tup, DL.e_lst, DL.e_call, DL.e_bi, DL.e_inst, DL.e_comp, DL.e_nev, DL.e_nil, DL.e_cons, DL.e_no, DL.e_yes, DL.b_val, DL.b_cmp, DL.b_chn, DL.b_and, DL.b_or, DL.b_not, DL.b_no, DL.b_one, DL.i_seq, DL.i_rng1, DL.i_rng2, DL.i_enum, DL.i_zip, DL.s_set, DL.s_setF, DL.s_asg, DL.s_par, DL.s_par3, DL.s_aug, DL.s_app, DL.s_ext, DL.s_pop, DL.s_expr, DL.s_ret, DL.s_retT, DL.s_ite, DL.s_whl, DL.s_for, DL.s_gset, DL.s_brk, DL.s_cnt, DL.s_nil, DL.s_cons, DL.s_frz, DL.t_name, DL.t_tup, DL.t_nil, DL.t_cons, DL.t_len0, DL.t_len1, DL.k_locd, DL.k_loco, DL.k_neg, DL.k_tt, DL.k_ff, DL.k_any, DL.k_lst, DL.k_int, DL.k_dat, DL.k_ty, DL.k_keep, DL.k_own, DL.k_slot, DL.k_new, DL.k_seqt, DL.k_seql, DL.k_seqs, DL.k_seqo, DL.k_enut, DL.k_enul, DL.k_enuo, DL.k_zipt, DL.k_zipl, DL.k_gix, DL.k_gst, DL.k_setd, DL.k_seto, DL.a_dd, DL.a_do, DL.a_rd, DL.a_ro, DL.a_rb, DL.a_nil, DL.a_d, DL.a_o, DL.a_l, DL.a_lo, DL.a_lb, DL.o_add, DL.o_addb, DL.o_adds, DL.o_addt, DL.o_sub, DL.o_subb, DL.o_subbb, DL.o_iadd, DL.o_iaddb, DL.o_isub, DL.o_isubb, DL.o_mul, DL.o_fdiv, DL.o_mod, DL.o_lt, DL.o_le, DL.o_gt, DL.o_ge, DL.o_eq, DL.o_ne, DL.o_isn, DL.o_notn, DL.o_isb, DL.o_notb, DL.o_idxt, DL.o_idxl, DL.o_idxo, DL.o_idxb, DL.o_slct, DL.o_slcl, DL.o_slco, DL.o_slcb, DL.o_rev, DL.o_lent, DL.o_lenl, DL.o_lens, DL.o_leno, DL.o_lenb, DL.o_lenstr, DL.o_abs, DL.o_int, DL.o_intb, DL.o_tupo, DL.o_tupl, DL.o_tupt, DL.o_tupb, DL.o_lso, DL.o_lsl, DL.o_lst, DL.o_lss, DL.o_lsb, DL.o_all, DL.o_anyy, DL.o_sum, DL.o_sorted, DL.u_bl, DL.u_int, DL.u_non, DL.u_tup, DL.u_lst, DL.u_own, DL.u_bor, DL.x_0, DL.x_1, DL.x_2, DL.x_3, DL.x_4, DL.x_5, DL.y_tuplenon, DL.y_tuplebl, DL.y_tupleint, DL.y_tuplestr, DL.y_tupletup, DL.y_tuplelst, DL.y_listnon, DL.y_listbl, DL.y_listint, DL.y_liststr, DL.y_listtup, DL.y_listlst, DL.y_dictnon, DL.y_dictbl, DL.y_dictint, DL.y_dictstr, DL.y_dicttup, DL.y_dictlst, DL.y_strnon, DL.y_strbl, DL.y_strint, DL.y_strstr, DL.y_strtup, DL.y_strlst, DL.y_intnon, DL.y_intbl, DL.y_intint, DL.y_intstr, DL.y_inttup, DL.y_intlst, DL.y_boolnon, DL.y_boolbl, DL.y_boolint, DL.y_boolstr, DL.y_booltup, DL.y_boollst, DL.j_n1, DL.j_n2, DL.j_n3, DL.j_n4, DL.j_n5, DL.j_f1, DL.j_f2, DL.j_f3, DL.j_f4, DL.j_f5, DL.j_w1, DL.j_w2, DL.j_w3, DL.j_w4, DL.j_w5, DL.j_01, DL.j_02, DL.j_03, DL.eqD_int, DL.eqOk_int, List.getElem?_cons_zero, List.getElem?_cons_succ, List.set_cons_zero, List.set_cons_succ, List.length_cons, List.length_nil, Option.map_some, Option.map_none, true_and, eq_self, c30_2, h28]
  refine ⟨a, rfl, ga, fun ar oa => ?_⟩
  simp only [DL.e_loc, DL.e_cst, DL.e_gc, DL.e_bin, DL.e_neg, DL.e_cmp, DL.e_chn, DL.e_and, DL.e_or, DL.e_not, DL.e_ite, DL.e_idx, DL.e_gidx, DL.e_slc, DL.e_tup, DL.e_lst, DL.e_call, DL.e_bi, DL.e_inst, DL.e_comp, DL.e_nev, DL.e_nil, DL.e_cons, DL.e_no, DL.e_yes, DL.b_val, DL.b_cmp, DL.b_chn, DL.b_and, DL.b_or, DL.b_not, DL.b_no, DL.b_one, DL.i_seq, DL.i_rng1, DL.i_rng2, DL.i_enum, DL.i_zip, DL.s_set, DL.s_setF, DL.s_asg, DL.s_par, DL.s_par3, DL.s_aug, DL.s_app, DL.s_ext, DL.s_pop, DL.s_expr, DL.s_ret, DL.s_retT, DL.s_ite, DL.s_whl, DL.s_for, DL.s_gset, DL.s_brk, DL.s_cnt, DL.s_nil, DL.s_cons, DL.s_frz, DL.t_name, DL.t_tup, DL.t_nil, DL.t_cons, DL.t_len0, DL.t_len1, DL.k_locd, DL.k_loco, DL.k_neg, DL.k_tt, DL.k_ff, DL.k_any, DL.k_lst, DL.k_int, DL.k_dat, DL.k_ty, DL.k_keep, DL.k_own, DL.k_slot, DL.k_new, DL.k_seqt, DL.k_seql, DL.k_seqs, DL.k_seqo, DL.k_enut, DL.k_enul, DL.k_enuo, DL.k_zipt, DL.k_zipl, DL.k_gix, DL.k_gst, DL.k_setd, DL.k_seto, DL.a_dd, DL.a_do, DL.a_rd, DL.a_ro, DL.a_rb, DL.a_nil, DL.a_d, DL.a_o, DL.a_l, DL.a_lo, DL.a_lb, DL.o_add, DL.o_addb, DL.o_adds, DL.o_addt, DL.o_sub, DL.o_subb, DL.o_subbb, DL.o_iadd, DL.o_iaddb, DL.o_isub, DL.o_isubb, DL.o_mul, DL.o_fdiv, DL.o_mod, DL.o_lt, DL.o_le, DL.o_gt, DL.o_ge, DL.o_eq, DL.o_ne, DL.o_isn, DL.o_notn, DL.o_isb, DL.o_notb, DL.o_idxt, DL.o_idxl, DL.o_idxo, DL.o_idxb, DL.o_slct, DL.o_slcl, DL.o_slco, DL.o_slcb, DL.o_rev, DL.o_lent, DL.o_lenl, DL.o_lens, DL.o_leno, DL.o_lenb, DL.o_lenstr, DL.o_abs, DL.o_int, DL.o_intb, DL.o_tupo, DL.o_tupl, DL.o_tupt, DL.o_tupb, DL.o_lso, DL.o_lsl, DL.o_lst, DL.o_lss, DL.o_lsb, DL.o_all, DL.o_anyy, DL.o_sum, DL.o_sorted, DL.u_bl, DL.u_int, DL.u_non, DL.u_tup, DL.u_lst, DL.u_own, DL.u_bor, DL.x_0, DL.x_1, DL.x_2, DL.x_3, DL.x_4, DL.x_5, DL.y_tuplenon, DL.y_tuplebl, DL.y_tupleint, DL.y_tuplestr, DL.y_tupletup, DL.y_tuplelst, DL.y_listnon, DL.y_listbl, DL.y_listint, DL.y_liststr, DL.y_listtup, DL.y_listlst, DL.y_dictnon, DL.y_dictbl, DL.y_dictint, DL.y_dictstr, DL.y_dicttup, DL.y_dictlst, DL.y_strnon, DL.y_strbl, DL.y_strint, DL.y_strstr, DL.y_strtup, DL.y_strlst, DL.y_intnon, DL.y_intbl, DL.y_intint, DL.y_intstr, DL.y_inttup, DL.y_intlst, DL.y_boolnon, DL.y_boolbl, DL.y_boolint, DL.y_boolstr, DL.y_booltup, DL.y_boollst, DL.j_n1, DL.j_n2, DL.j_n3, DL.j_n4, DL.j_n5, DL.j_f1, DL.j_f2, DL.j_f3, DL.j_f4, DL.j_f5, DL.j_w1, DL.j_w2, DL.j_w3, DL.j_w4, DL.j_w5, DL.j_01, DL.j_02, DL.j_03, DL.eqD_int, DL.eqOk_int, List.getElem?_cons_zero, List.getElem?_cons_succ, List.set_cons_zero, List.set_cons_succ, List.length_cons, List.length_nil, Option.map_some, Option.map_none, true_and, eq_self, c30_3]
  refine ⟨by decide, by decide, ?_⟩
  refine turn_all ga oa _ _ _ _ _ _ _ _ _ fun x3 x4 x5 x6 x7 x8 x9 x10 => ?_
  simp only [DL.e_loc, DL.e_cst, DL.e_gc, DL.e_bin, DL.e_neg, DL.e_cmp, DL.e_chn, DL.e_and, DL.e_or, DL.e_not, DL.e_ite, DL.e_idx, DL.e_gidx, DL.e_slc, DL.e_tup, DL.e_lst, DL.e_call, DL.e_bi, DL.e_inst, DL.e_comp, DL.e_nev, DL.e_nil, DL.e_cons, DL.e_no, DL.e_yes, DL.b_val, DL.b_cmp, DL.b_chn, DL.b_and, DL.b_or, DL.b_not, DL.b_no, DL.b_one, DL.i_seq, DL.i_rng1, DL.i_rng2, DL.i_enum, DL.i_zip, DL.s_set, DL.s_setF, DL.s_asg, DL.s_par, DL.s_par3, DL.s_aug, DL.s_app, DL.s_ext, DL.s_pop, DL.s_expr, DL.s_ret, DL.s_retT, DL.s_ite, DL.s_whl, DL.s_for, DL.s_gset, DL.s_brk, DL.s_cnt, DL.s_nil, DL.s_cons, DL.s_frz, DL.t_name, DL.t_tup, DL.t_nil, DL.t_cons, DL.t_len0, DL.t_len1, DL.k_locd, DL.k_loco, DL.k_neg, DL.k_tt, DL.k_ff, DL.k_any, DL.k_lst, DL.k_int, DL.k_dat, DL.k_ty, DL.k_keep, DL.k_own, DL.k_slot, DL.k_new, DL.k_seqt, DL.k_seql, DL.k_seqs, DL.k_seqo, DL.k_enut, DL.k_enul, DL.k_enuo, DL.k_zipt, DL.k_zipl, DL.k_gix, DL.k_gst, DL.k_setd, DL.k_seto, DL.a_dd, DL.a_do, DL.a_rd, DL.a_ro, DL.a_rb, DL.a_nil, DL.a_d, DL.a_o, DL.a_l, DL.a_lo, DL.a_lb, DL.o_add, DL.o_addb, DL.o_adds, DL.o_addt, DL.o_sub, DL.o_subb, DL.o_subbb, DL.o_iadd, DL.o_iaddb, DL.o_isub, DL.o_isubb, DL.o_mul, DL.o_fdiv, DL.o_mod, DL.o_lt, DL.o_le, DL.o_gt, DL.o_ge, DL.o_eq, DL.o_ne, DL.o_isn, DL.o_notn, DL.o_isb, DL.o_notb, DL.o_idxt, DL.o_idxl, DL.o_idxo, DL.o_idxb, DL.o_slct, DL.o_slcl, DL.o_slco, DL.o_slcb, DL.o_rev, DL.o_lent, DL.o_lenl, DL.o_lens, DL.o_leno, DL.o_lenb, DL.o_lenstr, DL.o_abs, DL.o_int, DL.o_intb, DL.o_tupo, DL.o_tupl, DL.o_tupt, DL.o_tupb, DL.o_lso, DL.o_lsl, DL.o_lst, DL.o_lss, DL.o_lsb, DL.o_all, DL.o_anyy, DL.o_sum, DL.o_sorted, DL.u_bl, DL.u_int, DL.u_non, DL.u_tup, DL.u_lst, DL.u_own, DL.u_bor, DL.x_0, DL.x_1, DL.x_2, DL.x_3, DL.x_4, DL.x_5, DL.y_tuplenon, DL.y_tuplebl, DL.y_tupleint, DL.y_tuplestr, DL.y_tupletup, DL.y_tuplelst, DL.y_listnon, DL.y_listbl, DL.y_listint, DL.y_liststr, DL.y_listtup, DL.y_listlst, DL.y_dictnon, DL.y_dictbl, DL.y_dictint, DL.y_dictstr, DL.y_dicttup, DL.y_dictlst, DL.y_strnon, DL.y_strbl, DL.y_strint, DL.y_strstr, DL.y_strtup, DL.y_strlst, DL.y_intnon, DL.y_intbl, DL.y_intint, DL.y_intstr, DL.y_inttup, DL.y_intlst, DL.y_boolnon, DL.y_boolbl, DL.y_boolint, DL.y_boolstr, DL.y_booltup, DL.y_boollst, DL.j_n1, DL.j_n2, DL.j_n3, DL.j_n4, DL.j_n5, DL.j_f1, DL.j_f2, DL.j_f3, DL.j_f4, DL.j_f5, DL.j_w1, DL.j_w2, DL.j_w3, DL.j_w4, DL.j_w5, DL.j_01, DL.j_02, DL.j_03, DL.eqD_int, DL.eqOk_int, List.getElem?_cons_zero, List.getElem?_cons_succ, List.set_cons_zero, List.set_cons_succ, List.length_cons, List.length_nil, Option.map_some, Option.map_none, true_and, eq_self, c30_21, h26]
  refine ⟨a, rfl, ga, fun _ _ => ⟨a, rfl, ga, fun _ _ => ⟨a, rfl, ga, fun _ _ => ?_⟩⟩⟩
  simp only [DL.e_loc, DL.e_cst, DL.e_gc, DL.e_bin, DL.e_neg, DL.e_cmp, DL.e_chn, DL.e_and, DL.e_or, DL.e_not, DL.e_ite, DL.e_idx, DL.e_gidx, DL.e_slc, DL.e_tup, DL.e_lst, DL.e_call, DL.e_bi, DL.e_inst, DL.e_comp, DL.e_nev, DL.e_nil, DL.e_cons, DL.e_no, DL.e_yes, DL.b_val, DL.b_cmp, DL.b_chn, DL.b_and, DL.b_or, DL.b_not, DL.b_no, DL.b_one, DL.i_seq, DL.i_rng1, DL.i_rng2, DL.i_enum, DL.i_zip, DL.s_set, DL.s_setF, DL.s_asg, DL.s_par, DL.s_par3, DL.s_aug, DL.s_app, DL.s_ext, DL.s_pop, DL.s_expr, DL.s_ret, DL.s_retT, DL.s_ite, DL.s_whl, DL.s_for, DL.s_gset, DL.s_brk, DL.s_cnt, DL.s_nil, DL.s_cons, DL.s_frz, DL.t_name, DL.t_tup, DL.t_nil, DL.t_cons, DL.t_len0, DL.t_len1, DL.k_locd, DL.k_loco, DL.k_neg, DL.k_tt, DL.k_ff, DL.k_any, DL.k_lst, DL.k_int, DL.k_dat, DL.k_ty, DL.k_keep, DL.k_own, DL.k_slot, DL.k_new, DL.k_seqt, DL.k_seql, DL.k_seqs, DL.k_seqo, DL.k_enut, DL.k_enul, DL.k_enuo, DL.k_zipt, DL.k_zipl, DL.k_gix, DL.k_gst, DL.k_setd, DL.k_seto, DL.a_dd, DL.a_do, DL.a_rd, DL.a_ro, DL.a_rb, DL.a_nil, DL.a_d, DL.a_o, DL.a_l, DL.a_lo, DL.a_lb, DL.o_add, DL.o_addb, DL.o_adds, DL.o_addt, DL.o_sub, DL.o_subb, DL.o_subbb, DL.o_iadd, DL.o_iaddb, DL.o_isub, DL.o_isubb, DL.o_mul, DL.o_fdiv, DL.o_mod, DL.o_lt, DL.o_le, DL.o_gt, DL.o_ge, DL.o_eq, DL.o_ne, DL.o_isn, DL.o_notn, DL.o_isb, DL.o_notb, DL.o_idxt, DL.o_idxl, DL.o_idxo, DL.o_idxb, DL.o_slct, DL.o_slcl, DL.o_slco, DL.o_slcb, DL.o_rev, DL.o_lent, DL.o_lenl, DL.o_lens, DL.o_leno, DL.o_lenb, DL.o_lenstr, DL.o_abs, DL.o_int, DL.o_intb, DL.o_tupo, DL.o_tupl, DL.o_tupt, DL.o_tupb, DL.o_lso, DL.o_lsl, DL.o_lst, DL.o_lss, DL.o_lsb, DL.o_all, DL.o_anyy, DL.o_sum, DL.o_sorted, DL.u_bl, DL.u_int, DL.u_non, DL.u_tup, DL.u_lst, DL.u_own, DL.u_bor, DL.x_0, DL.x_1, DL.x_2, DL.x_3, DL.x_4, DL.x_5, DL.y_tuplenon, DL.y_tuplebl, DL.y_tupleint, DL.y_tuplestr, DL.y_tupletup, DL.y_tuplelst, DL.y_listnon, DL.y_listbl, DL.y_listint, DL.y_liststr, DL.y_listtup, DL.y_listlst, DL.y_dictnon, DL.y_dictbl, DL.y_dictint, DL.y_dictstr, DL.y_dicttup, DL.y_dictlst, DL.y_strnon, DL.y_strbl, DL.y_strint, DL.y_strstr, DL.y_strtup, DL.y_strlst, DL.y_intnon, DL.y_intbl, DL.y_intint, DL.y_intstr, DL.y_inttup, DL.y_intlst, DL.y_boolnon, DL.y_boolbl, DL.y_boolint, DL.y_boolstr, DL.y_booltup, DL.y_boollst, DL.j_n1, DL.j_n2, DL.j_n3, DL.j_n4, DL.j_n5, DL.j_f1, DL.j_f2, DL.j_f3, DL.j_f4, DL.j_f5, DL.j_w1, DL.j_w2, DL.j_w3, DL.j_w4, DL.j_w5, DL.j_01, DL.j_02, DL.j_03, DL.eqD_int, DL.eqOk_int, List.getElem?_cons_zero, List.getElem?_cons_succ, List.set_cons_zero, List.set_cons_succ, List.length_cons, List.length_nil, Option.map_some, Option.map_none, true_and, eq_self, c30_22]
  refine ⟨by decide, by decide, ?_⟩
  refine comp_draw (fun y => ∃ i : Int, (0 ≤ i ∧ i < 9) ∧ y = .int i) (fun d k hk => ?_) _ _ fun ys e hy => ?_
  · simp only [blk_eq, wipe_cons, wipe_nil, no_d, no_n, List.map_cons, List.map_nil, Nat.reduceAdd, Nat.reduceSub, List.replicate_succ, List.replicate_zero, List.append_nil, List.cons_append, List.nil_append, DL.e_loc, DL.e_cst, DL.e_gc, DL.e_bin, DL.e_neg, DL.e_cmp, DL.e_chn, DL.e_and, DL.e_or, DL.e_not, DL.e_ite, DL.e_idx, DL.e_gidx, DL.e_slc, DL.e_tup, DL.e_lst, DL.e_call, DL.e_bi, DL.e_inst, DL.e_comp, DL.e_nev, DL.e_nil, DL.e_cons, DL.e_no, DL.e_yes, DL.b_val, DL.b_cmp, DL.b_chn, DL.b_and, DL.b_or, DL.b_not, DL.b_no, DL.b_one, DL.i_seq, DL.i_rng1, DL.i_rng2, DL.i_enum, DL.i_zip, DL.s_set, DL.s_setF, DL.s_asg, DL.s_par, DL.s_par3, DL.s_aug, DL.s_app, DL.s_ext, DL.s_pop, DL.s_expr, DL.s_ret, DL.s_retT, DL.s_ite, DL.s_whl, DL.s_for, DL.s_gset, DL.s_brk, DL.s_cnt, DL.s_nil, DL.s_cons, DL.s_frz, DL.t_name, DL.t_tup, DL.t_nil, DL.t_cons, DL.t_len0, DL.t_len1, DL.k_locd, DL.k_loco, DL.k_neg, DL.k_tt, DL.k_ff, DL.k_any, DL.k_lst, DL.k_int, DL.k_dat, DL.k_ty, DL.k_keep, DL.k_own, DL.k_slot, DL.k_new, DL.k_seqt, DL.k_seql, DL.k_seqs, DL.k_seqo, DL.k_enut, DL.k_enul, DL.k_enuo, DL.k_zipt, DL.k_zipl, DL.k_gix, DL.k_gst, DL.k_setd, DL.k_seto, DL.a_dd, DL.a_do, DL.a_rd, DL.a_ro, DL.a_rb, DL.a_nil, DL.a_d, DL.a_o, DL.a_l, DL.a_lo, DL.a_lb, DL.o_add, DL.o_addb, DL.o_adds, DL.o_addt, DL.o_sub, DL.o_subb, DL.o_subbb, DL.o_iadd, DL.o_iaddb, DL.o_isub, DL.o_isubb, DL.o_mul, DL.o_fdiv, DL.o_mod, DL.o_lt, DL.o_le, DL.o_gt, DL.o_ge, DL.o_eq, DL.o_ne, DL.o_isn, DL.o_notn, DL.o_isb, DL.o_notb, DL.o_idxt, DL.o_idxl, DL.o_idxo, DL.o_idxb, DL.o_slct, DL.o_slcl, DL.o_slco, DL.o_slcb, DL.o_rev, DL.o_lent, DL.o_lenl, DL.o_lens, DL.o_leno, DL.o_lenb, DL.o_lenstr, DL.o_abs, DL.o_int, DL.o_intb, DL.o_tupo, DL.o_tupl, DL.o_tupt, DL.o_tupb, DL.o_lso, DL.o_lsl, DL.o_lst, DL.o_lss, DL.o_lsb, DL.o_all, DL.o_anyy, DL.o_sum, DL.o_sorted, DL.u_bl, DL.u_int, DL.u_non, DL.u_tup, DL.u_lst, DL.u_own, DL.u_bor, DL.x_0, DL.x_1, DL.x_2, DL.x_3, DL.x_4, DL.x_5, DL.y_tuplenon, DL.y_tuplebl, DL.y_tupleint, DL.y_tuplestr, DL.y_tupletup, DL.y_tuplelst, DL.y_listnon, DL.y_listbl, DL.y_listint, DL.y_liststr, DL.y_listtup, DL.y_listlst, DL.y_dictnon, DL.y_dictbl, DL.y_dictint, DL.y_dictstr, DL.y_dicttup, DL.y_dictlst, DL.y_strnon, DL.y_strbl, DL.y_strint, DL.y_strstr, DL.y_strtup, DL.y_strlst, DL.y_intnon, DL.y_intbl, DL.y_intint, DL.y_intstr, DL.y_inttup, DL.y_intlst, DL.y_boolnon, DL.y_boolbl, DL.y_boolint, DL.y_boolstr, DL.y_booltup, DL.y_boollst, DL.j_n1, DL.j_n2, DL.j_n3, DL.j_n4, DL.j_n5, DL.j_f1, DL.j_f2, DL.j_f3, DL.j_f4, DL.j_f5, DL.j_w1, DL.j_w2, DL.j_w3, DL.j_w4, DL.j_w5, DL.j_01, DL.j_02, DL.j_03, DL.eqD_int, DL.eqOk_int, List.getElem?_cons_zero, List.getElem?_cons_succ, List.set_cons_zero, List.set_cons_succ, List.length_cons, List.length_nil, Option.map_some, Option.map_none, true_and, eq_self, h12]
    exact Tdraw_of (by decide) (by decide) ga fun r r0 r1 => hk _ ⟨r, ⟨r0, r1⟩, rfl⟩
  obtain ⟨zs, rfl, hzs⟩ := exists_map ys hy
  rw [List.length_map, rng_len] at e
  have e : zs.length = 3 := e
  simp only [List.nil_append, DL.e_loc, DL.e_cst, DL.e_gc, DL.e_bin, DL.e_neg, DL.e_cmp, DL.e_chn, DL.e_and, DL.e_or, DL.e_not, DL.e_ite, DL.e_idx, DL.e_gidx, DL.e_slc, DL.e_tup, DL.e_lst, DL.e_call, DL.e_bi, DL.e_inst, DL.e_comp, DL.e_nev, DL.e_nil, DL.e_cons, DL.e_no, DL.e_yes, DL.b_val, DL.b_cmp, DL.b_chn, DL.b_and, DL.b_or, DL.b_not, DL.b_no, DL.b_one, DL.i_seq, DL.i_rng1, DL.i_rng2, DL.i_enum, DL.i_zip, DL.s_set, DL.s_setF, DL.s_asg, DL.s_par, DL.s_par3, DL.s_aug, DL.s_app, DL.s_ext, DL.s_pop, DL.s_expr, DL.s_ret, DL.s_retT, DL.s_ite, DL.s_whl, DL.s_for, DL.s_gset, DL.s_brk, DL.s_cnt, DL.s_nil, DL.s_cons, DL.s_frz, DL.t_name, DL.t_tup, DL.t_nil, DL.t_cons, DL.t_len0, DL.t_len1, DL.k_locd, DL.k_loco, DL.k_neg, DL.k_tt, DL.k_ff, DL.k_any, DL.k_lst, DL.k_int, DL.k_dat, DL.k_ty, DL.k_keep, DL.k_own, DL.k_slot, DL.k_new, DL.k_seqt, DL.k_seql, DL.k_seqs, DL.k_seqo, DL.k_enut, DL.k_enul, DL.k_enuo, DL.k_zipt, DL.k_zipl, DL.k_gix, DL.k_gst, DL.k_setd, DL.k_seto, DL.a_dd, DL.a_do, DL.a_rd, DL.a_ro, DL.a_rb, DL.a_nil, DL.a_d, DL.a_o, DL.a_l, DL.a_lo, DL.a_lb, DL.o_add, DL.o_addb, DL.o_adds, DL.o_addt, DL.o_sub, DL.o_subb, DL.o_subbb, DL.o_iadd, DL.o_iaddb, DL.o_isub, DL.o_isubb, DL.o_mul, DL.o_fdiv, DL.o_mod, DL.o_lt, DL.o_le, DL.o_gt, DL.o_ge, DL.o_eq, DL.o_ne, DL.o_isn, DL.o_notn, DL.o_isb, DL.o_notb, DL.o_idxt, DL.o_idxl, DL.o_idxo, DL.o_idxb, DL.o_slct, DL.o_slcl, DL.o_slco, DL.o_slcb, DL.o_rev, DL.o_lent, DL.o_lenl, DL.o_lens, DL.o_leno, DL.o_lenb, DL.o_lenstr, DL.o_abs, DL.o_int, DL.o_intb, DL.o_tupo, DL.o_tupl, DL.o_tupt, DL.o_tupb, DL.o_lso, DL.o_lsl, DL.o_lst, DL.o_lss, DL.o_lsb, DL.o_all, DL.o_anyy, DL.o_sum, DL.o_sorted, DL.u_bl, DL.u_int, DL.u_non, DL.u_tup, DL.u_lst, DL.u_own, DL.u_bor, DL.x_0, DL.x_1, DL.x_2, DL.x_3, DL.x_4, DL.x_5, DL.y_tuplenon, DL.y_tuplebl, DL.y_tupleint, DL.y_tuplestr, DL.y_tupletup, DL.y_tuplelst, DL.y_listnon, DL.y_listbl, DL.y_listint, DL.y_liststr, DL.y_listtup, DL.y_listlst, DL.y_dictnon, DL.y_dictbl, DL.y_dictint, DL.y_dictstr, DL.y_dicttup, DL.y_dictlst, DL.y_strnon, DL.y_strbl, DL.y_strint, DL.y_strstr, DL.y_strtup, DL.y_strlst, DL.y_intnon, DL.y_intbl, DL.y_intint, DL.y_intstr, DL.y_inttup, DL.y_intlst, DL.y_boolnon, DL.y_boolbl, DL.y_boolint, DL.y_boolstr, DL.y_booltup, DL.y_boollst, DL.j_n1, DL.j_n2, DL.j_n3, DL.j_n4, DL.j_n5, DL.j_f1, DL.j_f2, DL.j_f3, DL.j_f4, DL.j_f5, DL.j_w1, DL.j_w2, DL.j_w3, DL.j_w4, DL.j_w5, DL.j_01, DL.j_02, DL.j_03, DL.eqD_int, DL.eqOk_int, List.getElem?_cons_zero, List.getElem?_cons_succ, List.set_cons_zero, List.set_cons_succ, List.length_cons, List.length_nil, Option.map_some, Option.map_none, true_and, eq_self]
  refine ⟨zs, rfl, by omega, fun ms pm sm => ?_⟩
  have lm : ms.length = 3 := by rw [pm.length_eq]; exact e
  obtain ⟨l, m, u, rfl⟩ : ∃ l m u, ms = [l, m, u] := by
    match ms, lm with
    | [l, m, u], _ => exact ⟨l, m, u, rfl⟩
  have bd : ∀ i ∈ [l, m, u], 0 ≤ i ∧ i < 9 := fun i hi => hzs i (pm.mem_iff.mp hi)
  have bl := bd l (by simp); have bm := bd m (by simp); have bu := bd u (by simp)
  simp at sm
  obtain ⟨⟨lm1, _⟩, mu⟩ := sm
  simp only [DL.e_loc, DL.e_cst, DL.e_gc, DL.e_bin, DL.e_neg, DL.e_cmp, DL.e_chn, DL.e_and, DL.e_or, DL.e_not, DL.e_ite, DL.e_idx, DL.e_gidx, DL.e_slc, DL.e_tup, DL.e_lst, DL.e_call, DL.e_bi, DL.e_inst, DL.e_comp, DL.e_nev, DL.e_nil, DL.e_cons, DL.e_no, DL.e_yes, DL.b_val, DL.b_cmp, DL.b_chn, DL.b_and, DL.b_or, DL.b_not, DL.b_no, DL.b_one, DL.i_seq, DL.i_rng1, DL.i_rng2, DL.i_enum, DL.i_zip, DL.s_set, DL.s_setF, DL.s_asg, DL.s_par, DL.s_par3, DL.s_aug, DL.s_app, DL.s_ext, DL.s_pop, DL.s_expr, DL.s_ret, DL.s_retT, DL.s_ite, DL.s_whl, DL.s_for, DL.s_gset, DL.s_brk, DL.s_cnt, DL.s_nil, DL.s_cons, DL.s_frz, DL.t_name, DL.t_tup, DL.t_nil, DL.t_cons, DL.t_len0, DL.t_len1, DL.k_locd, DL.k_loco, DL.k_neg, DL.k_tt, DL.k_ff, DL.k_any, DL.k_lst, DL.k_int, DL.k_dat, DL.k_ty, DL.k_keep, DL.k_own, DL.k_slot, DL.k_new, DL.k_seqt, DL.k_seql, DL.k_seqs, DL.k_seqo, DL.k_enut, DL.k_enul, DL.k_enuo, DL.k_zipt, DL.k_zipl, DL.k_gix, DL.k_gst, DL.k_setd, DL.k_seto, DL.a_dd, DL.a_do, DL.a_rd, DL.a_ro, DL.a_rb, DL.a_nil, DL.a_d, DL.a_o, DL.a_l, DL.a_lo, DL.a_lb, DL.o_add, DL.o_addb, DL.o_adds, DL.o_addt, DL.o_sub, DL.o_subb, DL.o_subbb, DL.o_iadd, DL.o_iaddb, DL.o_isub, DL.o_isubb, DL.o_mul, DL.o_fdiv, DL.o_mod, DL.o_lt, DL.o_le, DL.o_gt, DL.o_ge, DL.o_eq, DL.o_ne, DL.o_isn, DL.o_notn, DL.o_isb, DL.o_notb, DL.o_idxt, DL.o_idxl, DL.o_idxo, DL.o_idxb, DL.o_slct, DL.o_slcl, DL.o_slco, DL.o_slcb, DL.o_rev, DL.o_lent, DL.o_lenl, DL.o_lens, DL.o_leno, DL.o_lenb, DL.o_lenstr, DL.o_abs, DL.o_int, DL.o_intb, DL.o_tupo, DL.o_tupl, DL.o_tupt, DL.o_tupb, DL.o_lso, DL.o_lsl, DL.o_lst, DL.o_lss, DL.o_lsb, DL.o_all, DL.o_anyy, DL.o_sum, DL.o_sorted, DL.u_bl, DL.u_int, DL.u_non, DL.u_tup, DL.u_lst, DL.u_own, DL.u_bor, DL.x_0, DL.x_1, DL.x_2, DL.x_3, DL.x_4, DL.x_5, DL.y_tuplenon, DL.y_tuplebl, DL.y_tupleint, DL.y_tuplestr, DL.y_tupletup, DL.y_tuplelst, DL.y_listnon, DL.y_listbl, DL.y_listint, DL.y_liststr, DL.y_listtup, DL.y_listlst, DL.y_dictnon, DL.y_dictbl, DL.y_dictint, DL.y_dictstr, DL.y_dicttup, DL.y_dictlst, DL.y_strnon, DL.y_strbl, DL.y_strint, DL.y_strstr, DL.y_strtup, DL.y_strlst, DL.y_intnon, DL.y_intbl, DL.y_intint, DL.y_intstr, DL.y_inttup, DL.y_intlst, DL.y_boolnon, DL.y_boolbl, DL.y_boolint, DL.y_boolstr, DL.y_booltup, DL.y_boollst, DL.j_n1, DL.j_n2, DL.j_n3, DL.j_n4, DL.j_n5, DL.j_f1, DL.j_f2, DL.j_f3, DL.j_f4, DL.j_f5, DL.j_w1, DL.j_w2, DL.j_w3, DL.j_w4, DL.j_w5, DL.j_01, DL.j_02, DL.j_03, DL.eqD_int, DL.eqOk_int, List.getElem?_cons_zero, List.getElem?_cons_succ, List.set_cons_zero, List.set_cons_succ, List.length_cons, List.length_nil, Option.map_some, Option.map_none, true_and, eq_self, c30_23, c30_24, List.map_cons, List.map_nil]
  refine ⟨Nat.le_of_ble_eq_true rfl, Nat.le_of_ble_eq_true rfl, Nat.le_of_ble_eq_true rfl, Nat.le_of_ble_eq_true rfl, ?_⟩
  simp only [f_cons, f_nil, DL.e_loc, DL.e_cst, DL.e_gc, DL.e_bin, DL.e_neg, DL.e_cmp, DL.e_chn, DL.e_and, DL.e_or, DL.e_not, DL.e_ite, DL.e_idx, DL.e_gidx, DL.e_slc, DL.e_tup, DL.e_lst, DL.e_call, DL.e_bi, DL.e_inst, DL.e_comp, DL.e_nev, DL.e_nil, DL.e_cons, DL.e_no, DL.e_yes, DL.b_val, DL.b_cmp, DL.b_chn, DL.b_and, DL.b_or, DL.b_not, DL.b_no, DL.b_one, DL.i_seq, DL.i_rng1, DL.i_rng2, DL.i_enum, DL.i_zip, DL.s_set, DL.s_setF, DL.s_asg, DL.s_par, DL.s_par3, DL.s_aug, DL.s_app, DL.s_ext, DL.s_pop, DL.s_expr, DL.s_ret, DL.s_retT, DL.s_ite, DL.s_whl, DL.s_for, DL.s_gset, DL.s_brk, DL.s_cnt, DL.s_nil, DL.s_cons, DL.s_frz, DL.t_name, DL.t_tup, DL.t_nil, DL.t_cons, DL.t_len0, DL.t_len1, DL.k_locd, DL.k_loco, DL.k_neg, DL.k_tt, DL.k_ff, DL.k_any, DL.k_lst, DL.k_int, DL.k_dat, DL.k_ty, DL.k_keep, DL.k_own, DL.k_slot, DL.k_new, DL.k_seqt, DL.k_seql, DL.k_seqs, DL.k_seqo, DL.k_enut, DL.k_enul, DL.k_enuo, DL.k_zipt, DL.k_zipl, DL.k_gix, DL.k_gst, DL.k_setd, DL.k_seto, DL.a_dd, DL.a_do, DL.a_rd, DL.a_ro, DL.a_rb, DL.a_nil, DL.a_d, DL.a_o, DL.a_l, DL.a_lo, DL.a_lb, DL.o_add, DL.o_addb, DL.o_adds, DL.o_addt, DL.o_sub, DL.o_subb, DL.o_subbb, DL.o_iadd, DL.o_iaddb, DL.o_isub, DL.o_isubb, DL.o_mul, DL.o_fdiv, DL.o_mod, DL.o_lt, DL.o_le, DL.o_gt, DL.o_ge, DL.o_eq, DL.o_ne, DL.o_isn, DL.o_notn, DL.o_isb, DL.o_notb, DL.o_idxt, DL.o_idxl, DL.o_idxo, DL.o_idxb, DL.o_slct, DL.o_slcl, DL.o_slco, DL.o_slcb, DL.o_rev, DL.o_lent, DL.o_lenl, DL.o_lens, DL.o_leno, DL.o_lenb, DL.o_lenstr, DL.o_abs, DL.o_int, DL.o_intb, DL.o_tupo, DL.o_tupl, DL.o_tupt, DL.o_tupb, DL.o_lso, DL.o_lsl, DL.o_lst, DL.o_lss, DL.o_lsb, DL.o_all, DL.o_anyy, DL.o_sum, DL.o_sorted, DL.u_bl, DL.u_int, DL.u_non, DL.u_tup, DL.u_lst, DL.u_own, DL.u_bor, DL.x_0, DL.x_1, DL.x_2, DL.x_3, DL.x_4, DL.x_5, DL.y_tuplenon, DL.y_tuplebl, DL.y_tupleint, DL.y_tuplestr, DL.y_tupletup, DL.y_tuplelst, DL.y_listnon, DL.y_listbl, DL.y_listint, DL.y_liststr, DL.y_listtup, DL.y_listlst, DL.y_dictnon, DL.y_dictbl, DL.y_dictint, DL.y_dictstr, DL.y_dicttup, DL.y_dictlst, DL.y_strnon, DL.y_strbl, DL.y_strint, DL.y_strstr, DL.y_strtup, DL.y_strlst, DL.y_intnon, DL.y_intbl, DL.y_intint, DL.y_intstr, DL.y_inttup, DL.y_intlst, DL.y_boolnon, DL.y_boolbl, DL.y_boolint, DL.y_boolstr, DL.y_booltup, DL.y_boollst, DL.j_n1, DL.j_n2, DL.j_n3, DL.j_n4, DL.j_n5, DL.j_f1, DL.j_f2, DL.j_f3, DL.j_f4, DL.j_f5, DL.j_w1, DL.j_w2, DL.j_w3, DL.j_w4, DL.j_w5, DL.j_01, DL.j_02, DL.j_03, DL.eqD_int, DL.eqOk_int, List.getElem?_cons_zero, List.getElem?_cons_succ, List.set_cons_zero, List.set_cons_succ, List.length_cons, List.length_nil, Option.map_some, Option.map_none, true_and, eq_self, c30_25, Nat.reduceAdd, Nat.reduceLeDiff, Nat.reduceLT, List.nil_append, List.cons_append]
  have eb : ∀ l h : Int, D.tup [.tup [.tup [.int l, .int 1], .tup [.int 0, .int 1]], .tup [.tup [.int h, .int 1], .tup [.int 0, .int 1]], .tup [.tup [.int h, .int 1], .tup [.int 4, .int 1]], .tup [.tup [.int l, .int 1], .tup [.int 4, .int 1]]] = ringD (boxR l h) := fun _ _ => rfl
  simp only [eb, c30_26, DL.e_loc, DL.e_cst, DL.e_gc, DL.e_bin, DL.e_neg, DL.e_cmp, DL.e_chn, DL.e_and, DL.e_or, DL.e_not, DL.e_ite, DL.e_idx, DL.e_gidx, DL.e_slc, DL.e_tup, DL.e_lst, DL.e_call, DL.e_bi, DL.e_inst, DL.e_comp, DL.e_nev, DL.e_nil, DL.e_cons, DL.e_no, DL.e_yes, DL.b_val, DL.b_cmp, DL.b_chn, DL.b_and, DL.b_or, DL.b_not, DL.b_no, DL.b_one, DL.i_seq, DL.i_rng1, DL.i_rng2, DL.i_enum, DL.i_zip, DL.s_set, DL.s_setF, DL.s_asg, DL.s_par, DL.s_par3, DL.s_aug, DL.s_app, DL.s_ext, DL.s_pop, DL.s_expr, DL.s_ret, DL.s_retT, DL.s_ite, DL.s_whl, DL.s_for, DL.s_gset, DL.s_brk, DL.s_cnt, DL.s_nil, DL.s_cons, DL.s_frz, DL.t_name, DL.t_tup, DL.t_nil, DL.t_cons, DL.t_len0, DL.t_len1, DL.k_locd, DL.k_loco, DL.k_neg, DL.k_tt, DL.k_ff, DL.k_any, DL.k_lst, DL.k_int, DL.k_dat, DL.k_ty, DL.k_keep, DL.k_own, DL.k_slot, DL.k_new, DL.k_seqt, DL.k_seql, DL.k_seqs, DL.k_seqo, DL.k_enut, DL.k_enul, DL.k_enuo, DL.k_zipt, DL.k_zipl, DL.k_gix, DL.k_gst, DL.k_setd, DL.k_seto, DL.a_dd, DL.a_do, DL.a_rd, DL.a_ro, DL.a_rb, DL.a_nil, DL.a_d, DL.a_o, DL.a_l, DL.a_lo, DL.a_lb, DL.o_add, DL.o_addb, DL.o_adds, DL.o_addt, DL.o_sub, DL.o_subb, DL.o_subbb, DL.o_iadd, DL.o_iaddb, DL.o_isub, DL.o_isubb, DL.o_mul, DL.o_fdiv, DL.o_mod, DL.o_lt, DL.o_le, DL.o_gt, DL.o_ge, DL.o_eq, DL.o_ne, DL.o_isn, DL.o_notn, DL.o_isb, DL.o_notb, DL.o_idxt, DL.o_idxl, DL.o_idxo, DL.o_idxb, DL.o_slct, DL.o_slcl, DL.o_slco, DL.o_slcb, DL.o_rev, DL.o_lent, DL.o_lenl, DL.o_lens, DL.o_leno, DL.o_lenb, DL.o_lenstr, DL.o_abs, DL.o_int, DL.o_intb, DL.o_tupo, DL.o_tupl, DL.o_tupt, DL.o_tupb, DL.o_lso, DL.o_lsl, DL.o_lst, DL.o_lss, DL.o_lsb, DL.o_all, DL.o_anyy, DL.o_sum, DL.o_sorted, DL.u_bl, DL.u_int, DL.u_non, DL.u_tup, DL.u_lst, DL.u_own, DL.u_bor, DL.x_0, DL.x_1, DL.x_2, DL.x_3, DL.x_4, DL.x_5, DL.y_tuplenon, DL.y_tuplebl, DL.y_tupleint, DL.y_tuplestr, DL.y_tupletup, DL.y_tuplelst, DL.y_listnon, DL.y_listbl, DL.y_listint, DL.y_liststr, DL.y_listtup, DL.y_listlst, DL.y_dictnon, DL.y_dictbl, DL.y_dictint, DL.y_dictstr, DL.y_dicttup, DL.y_dictlst, DL.y_strnon, DL.y_strbl, DL.y_strint, DL.y_strstr, DL.y_strtup, DL.y_strlst, DL.y_intnon, DL.y_intbl, DL.y_intint, DL.y_intstr, DL.y_inttup, DL.y_intlst, DL.y_boolnon, DL.y_boolbl, DL.y_boolint, DL.y_boolstr, DL.y_booltup, DL.y_boollst, DL.j_n1, DL.j_n2, DL.j_n3, DL.j_n4, DL.j_n5, DL.j_f1, DL.j_f2, DL.j_f3, DL.j_f4, DL.j_f5, DL.j_w1, DL.j_w2, DL.j_w3, DL.j_w4, DL.j_w5, DL.j_01, DL.j_02, DL.j_03, DL.eqD_int, DL.eqOk_int, List.getElem?_cons_zero, List.getElem?_cons_succ, List.set_cons_zero, List.set_cons_succ, List.length_cons, List.length_nil, Option.map_some, Option.map_none, true_and, eq_self, h12]
  refine Tdraw_of (by decide) (by decide) ga fun x x0 x1 => ?_
  simp only [DL.e_loc, DL.e_cst, DL.e_gc, DL.e_bin, DL.e_neg, DL.e_cmp, DL.e_chn, DL.e_and, DL.e_or, DL.e_not, DL.e_ite, DL.e_idx, DL.e_gidx, DL.e_slc, DL.e_tup, DL.e_lst, DL.e_call, DL.e_bi, DL.e_inst, DL.e_comp, DL.e_nev, DL.e_nil, DL.e_cons, DL.e_no, DL.e_yes, DL.b_val, DL.b_cmp, DL.b_chn, DL.b_and, DL.b_or, DL.b_not, DL.b_no, DL.b_one, DL.i_seq, DL.i_rng1, DL.i_rng2, DL.i_enum, DL.i_zip, DL.s_set, DL.s_setF, DL.s_asg, DL.s_par, DL.s_par3, DL.s_aug, DL.s_app, DL.s_ext, DL.s_pop, DL.s_expr, DL.s_ret, DL.s_retT, DL.s_ite, DL.s_whl, DL.s_for, DL.s_gset, DL.s_brk, DL.s_cnt, DL.s_nil, DL.s_cons, DL.s_frz, DL.t_name, DL.t_tup, DL.t_nil, DL.t_cons, DL.t_len0, DL.t_len1, DL.k_locd, DL.k_loco, DL.k_neg, DL.k_tt, DL.k_ff, DL.k_any, DL.k_lst, DL.k_int, DL.k_dat, DL.k_ty, DL.k_keep, DL.k_own, DL.k_slot, DL.k_new, DL.k_seqt, DL.k_seql, DL.k_seqs, DL.k_seqo, DL.k_enut, DL.k_enul, DL.k_enuo, DL.k_zipt, DL.k_zipl, DL.k_gix, DL.k_gst, DL.k_setd, DL.k_seto, DL.a_dd, DL.a_do, DL.a_rd, DL.a_ro, DL.a_rb, DL.a_nil, DL.a_d, DL.a_o, DL.a_l, DL.a_lo, DL.a_lb, DL.o_add, DL.o_addb, DL.o_adds, DL.o_addt, DL.o_sub, DL.o_subb, DL.o_subbb, DL.o_iadd, DL.o_iaddb, DL.o_isub, DL.o_isubb, DL.o_mul, DL.o_fdiv, DL.o_mod, DL.o_lt, DL.o_le, DL.o_gt, DL.o_ge, DL.o_eq, DL.o_ne, DL.o_isn, DL.o_notn, DL.o_isb, DL.o_notb, DL.o_idxt, DL.o_idxl, DL.o_idxo, DL.o_idxb, DL.o_slct, DL.o_slcl, DL.o_slco, DL.o_slcb, DL.o_rev, DL.o_lent, DL.o_lenl, DL.o_lens, DL.o_leno, DL.o_lenb, DL.o_lenstr, DL.o_abs, DL.o_int, DL.o_intb, DL.o_tupo, DL.o_tupl, DL.o_tupt, DL.o_tupb, DL.o_lso, DL.o_lsl, DL.o_lst, DL.o_lss, DL.o_lsb, DL.o_all, DL.o_anyy, DL.o_sum, DL.o_sorted, DL.u_bl, DL.u_int, DL.u_non, DL.u_tup, DL.u_lst, DL.u_own, DL.u_bor, DL.x_0, DL.x_1, DL.x_2, DL.x_3, DL.x_4, DL.x_5, DL.y_tuplenon, DL.y_tuplebl, DL.y_tupleint, DL.y_tuplestr, DL.y_tupletup, DL.y_tuplelst, DL.y_listnon, DL.y_listbl, DL.y_listint, DL.y_liststr, DL.y_listtup, DL.y_listlst, DL.y_dictnon, DL.y_dictbl, DL.y_dictint, DL.y_dictstr, DL.y_dicttup, DL.y_dictlst, DL.y_strnon, DL.y_strbl, DL.y_strint, DL.y_strstr, DL.y_strtup, DL.y_strlst, DL.y_intnon, DL.y_intbl, DL.y_intint, DL.y_intstr, DL.y_inttup, DL.y_intlst, DL.y_boolnon, DL.y_boolbl, DL.y_boolint, DL.y_boolstr, DL.y_booltup, DL.y_boollst, DL.j_n1, DL.j_n2, DL.j_n3, DL.j_n4, DL.j_n5, DL.j_f1, DL.j_f2, DL.j_f3, DL.j_f4, DL.j_f5, DL.j_w1, DL.j_w2, DL.j_w3, DL.j_w4, DL.j_w5, DL.j_01, DL.j_02, DL.j_03, DL.eqD_int, DL.eqOk_int, List.getElem?_cons_zero, List.getElem?_cons_succ, List.set_cons_zero, List.set_cons_succ, List.length_cons, List.length_nil, Option.map_some, Option.map_none, true_and, eq_self, h12, Nat.reduceAdd, Nat.reduceLeDiff]
  refine Tdraw_of (by decide) (by decide) ga fun y y0 y1 => ?_
  have ep : D.tup [.tup [.int x, .int 1], .tup [.int y, .int 1]] = ptD ((x : Rat), (y : Rat)) := rfl
  have small : ∀ i : Int, 0 ≤ i → i < 9 → Sz 4 (i : Rat) := fun i i0 i1 => ⟨by show Bd 4 i; unfold Bd; omega, by show Bd 4 1; unfold Bd; decide⟩
  have op : PtOk 100 ((x : Rat), (y : Rat)) := ⟨(small x x0 x1).mono (by decide), (small y y0 (by omega)).mono (by decide)⟩
  have obx : ∀ l h : Int, 0 ≤ l ∧ l < 9 → 0 ≤ h ∧ h < 9 → ArOk 100 ⟨[boxR l h], "whole", []⟩ := fun l h hl hh => by
    have z0 : Sz 100 (0 : Rat) := (small 0 (by decide) (by decide)).mono (by decide)
    have z4 : Sz 100 (4 : Rat) := (small 4 (by decide) (by decide)).mono (by decide)
    have zl := (small l hl.1 hl.2).mono (c := 100) (by decide)
    have zh := (small h hh.1 hh.2).mono (c := 100) (by decide)
    refine ⟨⟨by show [boxR l h].length ≤ 1000; simp, fun r hr => ?_⟩, .inl rfl, by show ([] : List (List (List Pt) × Str)).length ≤ 1000; simp, fun c hc => by cases hc⟩
    have hr : r = boxR l h := by simpa using hr
    subst hr
    refine ⟨by show 4 ≤ 1000; decide, fun p hp => ?_⟩
    simp only [boxR, List.mem_cons, List.not_mem_nil, or_false] at hp
    rcases hp with rfl | rfl | rfl | rfl
    · exact ⟨zl, z0⟩
    · exact ⟨zh, z0⟩
    · exact ⟨zh, z4⟩
    · exact ⟨zl, z4⟩
  simp only [DL.e_loc, DL.e_cst, DL.e_gc, DL.e_bin, DL.e_neg, DL.e_cmp, DL.e_chn, DL.e_and, DL.e_or, DL.e_not, DL.e_ite, DL.e_idx, DL.e_gidx, DL.e_slc, DL.e_tup, DL.e_lst, DL.e_call, DL.e_bi, DL.e_inst, DL.e_comp, DL.e_nev, DL.e_nil, DL.e_cons, DL.e_no, DL.e_yes, DL.b_val, DL.b_cmp, DL.b_chn, DL.b_and, DL.b_or, DL.b_not, DL.b_no, DL.b_one, DL.i_seq, DL.i_rng1, DL.i_rng2, DL.i_enum, DL.i_zip, DL.s_set, DL.s_setF, DL.s_asg, DL.s_par, DL.s_par3, DL.s_aug, DL.s_app, DL.s_ext, DL.s_pop, DL.s_expr, DL.s_ret, DL.s_retT, DL.s_ite, DL.s_whl, DL.s_for, DL.s_gset, DL.s_brk, DL.s_cnt, DL.s_nil, DL.s_cons, DL.s_frz, DL.t_name, DL.t_tup, DL.t_nil, DL.t_cons, DL.t_len0, DL.t_len1, DL.k_locd, DL.k_loco, DL.k_neg, DL.k_tt, DL.k_ff, DL.k_any, DL.k_lst, DL.k_int, DL.k_dat, DL.k_ty, DL.k_keep, DL.k_own, DL.k_slot, DL.k_new, DL.k_seqt, DL.k_seql, DL.k_seqs, DL.k_seqo, DL.k_enut, DL.k_enul, DL.k_enuo, DL.k_zipt, DL.k_zipl, DL.k_gix, DL.k_gst, DL.k_setd, DL.k_seto, DL.a_dd, DL.a_do, DL.a_rd, DL.a_ro, DL.a_rb, DL.a_nil, DL.a_d, DL.a_o, DL.a_l, DL.a_lo, DL.a_lb, DL.o_add, DL.o_addb, DL.o_adds, DL.o_addt, DL.o_sub, DL.o_subb, DL.o_subbb, DL.o_iadd, DL.o_iaddb, DL.o_isub, DL.o_isubb, DL.o_mul, DL.o_fdiv, DL.o_mod, DL.o_lt, DL.o_le, DL.o_gt, DL.o_ge, DL.o_eq, DL.o_ne, DL.o_isn, DL.o_notn, DL.o_isb, DL.o_notb, DL.o_idxt, DL.o_idxl, DL.o_idxo, DL.o_idxb, DL.o_slct, DL.o_slcl, DL.o_slco, DL.o_slcb, DL.o_rev, DL.o_lent, DL.o_lenl, DL.o_lens, DL.o_leno, DL.o_lenb, DL.o_lenstr, DL.o_abs, DL.o_int, DL.o_intb, DL.o_tupo, DL.o_tupl, DL.o_tupt, DL.o_tupb, DL.o_lso, DL.o_lsl, DL.o_lst, DL.o_lss, DL.o_lsb, DL.o_all, DL.o_anyy, DL.o_sum, DL.o_sorted, DL.u_bl, DL.u_int, DL.u_non, DL.u_tup, DL.u_lst, DL.u_own, DL.u_bor, DL.x_0, DL.x_1, DL.x_2, DL.x_3, DL.x_4, DL.x_5, DL.y_tuplenon, DL.y_tuplebl, DL.y_tupleint, DL.y_tuplestr, DL.y_tupletup, DL.y_tuplelst, DL.y_listnon, DL.y_listbl, DL.y_listint, DL.y_liststr, DL.y_listtup, DL.y_listlst, DL.y_dictnon, DL.y_dictbl, DL.y_dictint, DL.y_dictstr, DL.y_dicttup, DL.y_dictlst, DL.y_strnon, DL.y_strbl, DL.y_strint, DL.y_strstr, DL.y_strtup, DL.y_strlst, DL.y_intnon, DL.y_intbl, DL.y_intint, DL.y_intstr, DL.y_inttup, DL.y_intlst, DL.y_boolnon, DL.y_boolbl, DL.y_boolint, DL.y_boolstr, DL.y_booltup, DL.y_boollst, DL.j_n1, DL.j_n2, DL.j_n3, DL.j_n4, DL.j_n5, DL.j_f1, DL.j_f2, DL.j_f3, DL.j_f4, DL.j_f5, DL.j_w1, DL.j_w2, DL.j_w3, DL.j_w4, DL.j_w5, DL.j_01, DL.j_02, DL.j_03, DL.eqD_int, DL.eqOk_int, List.getElem?_cons_zero, List.getElem?_cons_succ, List.set_cons_zero, List.set_cons_succ, List.length_cons, List.length_nil, Option.map_some, Option.map_none, true_and, eq_self, Nat.reduceAdd, Nat.reduceLeDiff, ep, c30_27]
  simp only [blk_eq, wipe_cons, wipe_nil, no_d, no_n, List.map_cons, List.map_nil, Nat.reduceAdd, Nat.reduceSub, List.replicate_succ, List.replicate_zero, List.append_nil, List.cons_append, List.nil_append, DL.e_loc, DL.e_cst, DL.e_gc, DL.e_bin, DL.e_neg, DL.e_cmp, DL.e_chn, DL.e_and, DL.e_or, DL.e_not, DL.e_ite, DL.e_idx, DL.e_gidx, DL.e_slc, DL.e_tup, DL.e_lst, DL.e_call, DL.e_bi, DL.e_inst, DL.e_comp, DL.e_nev, DL.e_nil, DL.e_cons, DL.e_no, DL.e_yes, DL.b_val, DL.b_cmp, DL.b_chn, DL.b_and, DL.b_or, DL.b_not, DL.b_no, DL.b_one, DL.i_seq, DL.i_rng1, DL.i_rng2, DL.i_enum, DL.i_zip, DL.s_set, DL.s_setF, DL.s_asg, DL.s_par, DL.s_par3, DL.s_aug, DL.s_app, DL.s_ext, DL.s_pop, DL.s_expr, DL.s_ret, DL.s_retT, DL.s_ite, DL.s_whl, DL.s_for, DL.s_gset, DL.s_brk, DL.s_cnt, DL.s_nil, DL.s_cons, DL.s_frz, DL.t_name, DL.t_tup, DL.t_nil, DL.t_cons, DL.t_len0, DL.t_len1, DL.k_locd, DL.k_loco, DL.k_neg, DL.k_tt, DL.k_ff, DL.k_any, DL.k_lst, DL.k_int, DL.k_dat, DL.k_ty, DL.k_keep, DL.k_own, DL.k_slot, DL.k_new, DL.k_seqt, DL.k_seql, DL.k_seqs, DL.k_seqo, DL.k_enut, DL.k_enul, DL.k_enuo, DL.k_zipt, DL.k_zipl, DL.k_gix, DL.k_gst, DL.k_setd, DL.k_seto, DL.a_dd, DL.a_do, DL.a_rd, DL.a_ro, DL.a_rb, DL.a_nil, DL.a_d, DL.a_o, DL.a_l, DL.a_lo, DL.a_lb, DL.o_add, DL.o_addb, DL.o_adds, DL.o_addt, DL.o_sub, DL.o_subb, DL.o_subbb, DL.o_iadd, DL.o_iaddb, DL.o_isub, DL.o_isubb, DL.o_mul, DL.o_fdiv, DL.o_mod, DL.o_lt, DL.o_le, DL.o_gt, DL.o_ge, DL.o_eq, DL.o_ne, DL.o_isn, DL.o_notn, DL.o_isb, DL.o_notb, DL.o_idxt, DL.o_idxl, DL.o_idxo, DL.o_idxb, DL.o_slct, DL.o_slcl, DL.o_slco, DL.o_slcb, DL.o_rev, DL.o_lent, DL.o_lenl, DL.o_lens, DL.o_leno, DL.o_lenb, DL.o_lenstr, DL.o_abs, DL.o_int, DL.o_intb, DL.o_tupo, DL.o_tupl, DL.o_tupt, DL.o_tupb, DL.o_lso, DL.o_lsl, DL.o_lst, DL.o_lss, DL.o_lsb, DL.o_all, DL.o_anyy, DL.o_sum, DL.o_sorted, DL.u_bl, DL.u_int, DL.u_non, DL.u_tup, DL.u_lst, DL.u_own, DL.u_bor, DL.x_0, DL.x_1, DL.x_2, DL.x_3, DL.x_4, DL.x_5, DL.y_tuplenon, DL.y_tuplebl, DL.y_tupleint, DL.y_tuplestr, DL.y_tupletup, DL.y_tuplelst, DL.y_listnon, DL.y_listbl, DL.y_listint, DL.y_liststr, DL.y_listtup, DL.y_listlst, DL.y_dictnon, DL.y_dictbl, DL.y_dictint, DL.y_dictstr, DL.y_dicttup, DL.y_dictlst, DL.y_strnon, DL.y_strbl, DL.y_strint, DL.y_strstr, DL.y_strtup, DL.y_strlst, DL.y_intnon, DL.y_intbl, DL.y_intint, DL.y_intstr, DL.y_inttup, DL.y_intlst, DL.y_boolnon, DL.y_boolbl, DL.y_boolint, DL.y_boolstr, DL.y_booltup, DL.y_boollst, DL.j_n1, DL.j_n2, DL.j_n3, DL.j_n4, DL.j_n5, DL.j_f1, DL.j_f2, DL.j_f3, DL.j_f4, DL.j_f5, DL.j_w1, DL.j_w2, DL.j_w3, DL.j_w4, DL.j_w5, DL.j_01, DL.j_02, DL.j_03, DL.eqD_int, DL.eqOk_int, List.getElem?_cons_zero, List.getElem?_cons_succ, List.set_cons_zero, List.set_cons_succ, List.length_cons, List.length_nil, Option.map_some, Option.map_none, true_and, eq_self, c_cons, c_nil, h10]
  have ea : ∀ l h : Int, D.tup [.tup [ringD (boxR l h)], .str "whole", .tup []] = areaD ⟨[boxR l h], "whole", []⟩ := fun _ _ => rfl
  have hb : ∀ l h : Int, hasA ⟨[boxR l h], "whole", []⟩ ((x : Rat), (y : Rat)) = isIn [boxR l h] "whole" ((x : Rat), (y : Rat)) := fun _ _ => by simp [hasA]
  refine ⟨by decide, by decide, by decide, ?_⟩
  rw [ea]
  refine Thas_of (obx _ _ bl bm) op ?_
  simp only [DL.e_loc, DL.e_cst, DL.e_gc, DL.e_bin, DL.e_neg, DL.e_cmp, DL.e_chn, DL.e_and, DL.e_or, DL.e_not, DL.e_ite, DL.e_idx, DL.e_gidx, DL.e_slc, DL.e_tup, DL.e_lst, DL.e_call, DL.e_bi, DL.e_inst, DL.e_comp, DL.e_nev, DL.e_nil, DL.e_cons, DL.e_no, DL.e_yes, DL.b_val, DL.b_cmp, DL.b_chn, DL.b_and, DL.b_or, DL.b_not, DL.b_no, DL.b_one, DL.i_seq, DL.i_rng1, DL.i_rng2, DL.i_enum, DL.i_zip, DL.s_set, DL.s_setF, DL.s_asg, DL.s_par, DL.s_par3, DL.s_aug, DL.s_app, DL.s_ext, DL.s_pop, DL.s_expr, DL.s_ret, DL.s_retT, DL.s_ite, DL.s_whl, DL.s_for, DL.s_gset, DL.s_brk, DL.s_cnt, DL.s_nil, DL.s_cons, DL.s_frz, DL.t_name, DL.t_tup, DL.t_nil, DL.t_cons, DL.t_len0, DL.t_len1, DL.k_locd, DL.k_loco, DL.k_neg, DL.k_tt, DL.k_ff, DL.k_any, DL.k_lst, DL.k_int, DL.k_dat, DL.k_ty, DL.k_keep, DL.k_own, DL.k_slot, DL.k_new, DL.k_seqt, DL.k_seql, DL.k_seqs, DL.k_seqo, DL.k_enut, DL.k_enul, DL.k_enuo, DL.k_zipt, DL.k_zipl, DL.k_gix, DL.k_gst, DL.k_setd, DL.k_seto, DL.a_dd, DL.a_do, DL.a_rd, DL.a_ro, DL.a_rb, DL.a_nil, DL.a_d, DL.a_o, DL.a_l, DL.a_lo, DL.a_lb, DL.o_add, DL.o_addb, DL.o_adds, DL.o_addt, DL.o_sub, DL.o_subb, DL.o_subbb, DL.o_iadd, DL.o_iaddb, DL.o_isub, DL.o_isubb, DL.o_mul, DL.o_fdiv, DL.o_mod, DL.o_lt, DL.o_le, DL.o_gt, DL.o_ge, DL.o_eq, DL.o_ne, DL.o_isn, DL.o_notn, DL.o_isb, DL.o_notb, DL.o_idxt, DL.o_idxl, DL.o_idxo, DL.o_idxb, DL.o_slct, DL.o_slcl, DL.o_slco, DL.o_slcb, DL.o_rev, DL.o_lent, DL.o_lenl, DL.o_lens, DL.o_leno, DL.o_lenb, DL.o_lenstr, DL.o_abs, DL.o_int, DL.o_intb, DL.o_tupo, DL.o_tupl, DL.o_tupt, DL.o_tupb, DL.o_lso, DL.o_lsl, DL.o_lst, DL.o_lss, DL.o_lsb, DL.o_all, DL.o_anyy, DL.o_sum, DL.o_sorted, DL.u_bl, DL.u_int, DL.u_non, DL.u_tup, DL.u_lst, DL.u_own, DL.u_bor, DL.x_0, DL.x_1, DL.x_2, DL.x_3, DL.x_4, DL.x_5, DL.y_tuplenon, DL.y_tuplebl, DL.y_tupleint, DL.y_tuplestr, DL.y_tupletup, DL.y_tuplelst, DL.y_listnon, DL.y_listbl, DL.y_listint, DL.y_liststr, DL.y_listtup, DL.y_listlst, DL.y_dictnon, DL.y_dictbl, DL.y_dictint, DL.y_dictstr, DL.y_dicttup, DL.y_dictlst, DL.y_strnon, DL.y_strbl, DL.y_strint, DL.y_strstr, DL.y_strtup, DL.y_strlst, DL.y_intnon, DL.y_intbl, DL.y_intint, DL.y_intstr, DL.y_inttup, DL.y_intlst, DL.y_boolnon, DL.y_boolbl, DL.y_boolint, DL.y_boolstr, DL.y_booltup, DL.y_boollst, DL.j_n1, DL.j_n2, DL.j_n3, DL.j_n4, DL.j_n5, DL.j_f1, DL.j_f2, DL.j_f3, DL.j_f4, DL.j_f5, DL.j_w1, DL.j_w2, DL.j_w3, DL.j_w4, DL.j_w5, DL.j_01, DL.j_02, DL.j_03, DL.eqD_int, DL.eqOk_int, List.getElem?_cons_zero, List.getElem?_cons_succ, List.set_cons_zero, List.set_cons_succ, List.length_cons, List.length_nil, Option.map_some, Option.map_none, true_and, eq_self]
  refine ⟨by decide, by decide, by decide, ?_⟩
  rw [ea]
  refine Thas_of (obx _ _ bm bu) op ?_
  simp only [DL.e_loc, DL.e_cst, DL.e_gc, DL.e_bin, DL.e_neg, DL.e_cmp, DL.e_chn, DL.e_and, DL.e_or, DL.e_not, DL.e_ite, DL.e_idx, DL.e_gidx, DL.e_slc, DL.e_tup, DL.e_lst, DL.e_call, DL.e_bi, DL.e_inst, DL.e_comp, DL.e_nev, DL.e_nil, DL.e_cons, DL.e_no, DL.e_yes, DL.b_val, DL.b_cmp, DL.b_chn, DL.b_and, DL.b_or, DL.b_not, DL.b_no, DL.b_one, DL.i_seq, DL.i_rng1, DL.i_rng2, DL.i_enum, DL.i_zip, DL.s_set, DL.s_setF, DL.s_asg, DL.s_par, DL.s_par3, DL.s_aug, DL.s_app, DL.s_ext, DL.s_pop, DL.s_expr, DL.s_ret, DL.s_retT, DL.s_ite, DL.s_whl, DL.s_for, DL.s_gset, DL.s_brk, DL.s_cnt, DL.s_nil, DL.s_cons, DL.s_frz, DL.t_name, DL.t_tup, DL.t_nil, DL.t_cons, DL.t_len0, DL.t_len1, DL.k_locd, DL.k_loco, DL.k_neg, DL.k_tt, DL.k_ff, DL.k_any, DL.k_lst, DL.k_int, DL.k_dat, DL.k_ty, DL.k_keep, DL.k_own, DL.k_slot, DL.k_new, DL.k_seqt, DL.k_seql, DL.k_seqs, DL.k_seqo, DL.k_enut, DL.k_enul, DL.k_enuo, DL.k_zipt, DL.k_zipl, DL.k_gix, DL.k_gst, DL.k_setd, DL.k_seto, DL.a_dd, DL.a_do, DL.a_rd, DL.a_ro, DL.a_rb, DL.a_nil, DL.a_d, DL.a_o, DL.a_l, DL.a_lo, DL.a_lb, DL.o_add, DL.o_addb, DL.o_adds, DL.o_addt, DL.o_sub, DL.o_subb, DL.o_subbb, DL.o_iadd, DL.o_iaddb, DL.o_isub, DL.o_isubb, DL.o_mul, DL.o_fdiv, DL.o_mod, DL.o_lt, DL.o_le, DL.o_gt, DL.o_ge, DL.o_eq, DL.o_ne, DL.o_isn, DL.o_notn, DL.o_isb, DL.o_notb, DL.o_idxt, DL.o_idxl, DL.o_idxo, DL.o_idxb, DL.o_slct, DL.o_slcl, DL.o_slco, DL.o_slcb, DL.o_rev, DL.o_lent, DL.o_lenl, DL.o_lens, DL.o_leno, DL.o_lenb, DL.o_lenstr, DL.o_abs, DL.o_int, DL.o_intb, DL.o_tupo, DL.o_tupl, DL.o_tupt, DL.o_tupb, DL.o_lso, DL.o_lsl, DL.o_lst, DL.o_lss, DL.o_lsb, DL.o_all, DL.o_anyy, DL.o_sum, DL.o_sorted, DL.u_bl, DL.u_int, DL.u_non, DL.u_tup, DL.u_lst, DL.u_own, DL.u_bor, DL.x_0, DL.x_1, DL.x_2, DL.x_3, DL.x_4, DL.x_5, DL.y_tuplenon, DL.y_tuplebl, DL.y_tupleint, DL.y_tuplestr, DL.y_tupletup, DL.y_tuplelst, DL.y_listnon, DL.y_listbl, DL.y_listint, DL.y_liststr, DL.y_listtup, DL.y_listlst, DL.y_dictnon, DL.y_dictbl, DL.y_dictint, DL.y_dictstr, DL.y_dicttup, DL.y_dictlst, DL.y_strnon, DL.y_strbl, DL.y_strint, DL.y_strstr, DL.y_strtup, DL.y_strlst, DL.y_intnon, DL.y_intbl, DL.y_intint, DL.y_intstr, DL.y_inttup, DL.y_intlst, DL.y_boolnon, DL.y_boolbl, DL.y_boolint, DL.y_boolstr, DL.y_booltup, DL.y_boollst, DL.j_n1, DL.j_n2, DL.j_n3, DL.j_n4, DL.j_n5, DL.j_f1, DL.j_f2, DL.j_f3, DL.j_f4, DL.j_f5, DL.j_w1, DL.j_w2, DL.j_w3, DL.j_w4, DL.j_w5, DL.j_01, DL.j_02, DL.j_03, DL.eqD_int, DL.eqOk_int, List.getElem?_cons_zero, List.getElem?_cons_succ, List.set_cons_zero, List.set_cons_succ, List.length_cons, List.length_nil, Option.map_some, Option.map_none, true_and, eq_self, hb]
  refine ⟨[_, _], rfl, ?_⟩
  have sm := box_sum l m u x y lm1 mu y0
  simp only [List.sum_cons, List.sum_nil, Int.add_zero, sm]
  have fin : ∀ b : Bool, b = decide (l ≤ x ∧ x < u ∧ y < 4) → Q (.bl (decide ((if l ≤ x ∧ x < u ∧ y < 4 then (1 : Int) else 0) = if b = true then 1 else 0))) G := fun b hb => by
    have : decide ((if l ≤ x ∧ x < u ∧ y < 4 then (1 : Int) else 0) = if b = true then 1 else 0) = true := by
      rw [hb]
      by_cases q : l ≤ x ∧ x < u ∧ y < 4 <;> simp [q]
    rw [this]
    exact h G
  simp only [c30_28, DL.e_loc, DL.e_cst, DL.e_gc, DL.e_bin, DL.e_neg, DL.e_cmp, DL.e_chn, DL.e_and, DL.e_or, DL.e_not, DL.e_ite, DL.e_idx, DL.e_gidx, DL.e_slc, DL.e_tup, DL.e_lst, DL.e_call, DL.e_bi, DL.e_inst, DL.e_comp, DL.e_nev, DL.e_nil, DL.e_cons, DL.e_no, DL.e_yes, DL.b_val, DL.b_cmp, DL.b_chn, DL.b_and, DL.b_or, DL.b_not, DL.b_no, DL.b_one, DL.i_seq, DL.i_rng1, DL.i_rng2, DL.i_enum, DL.i_zip, DL.s_set, DL.s_setF, DL.s_asg, DL.s_par, DL.s_par3, DL.s_aug, DL.s_app, DL.s_ext, DL.s_pop, DL.s_expr, DL.s_ret, DL.s_retT, DL.s_ite, DL.s_whl, DL.s_for, DL.s_gset, DL.s_brk, DL.s_cnt, DL.s_nil, DL.s_cons, DL.s_frz, DL.t_name, DL.t_tup, DL.t_nil, DL.t_cons, DL.t_len0, DL.t_len1, DL.k_locd, DL.k_loco, DL.k_neg, DL.k_tt, DL.k_ff, DL.k_any, DL.k_lst, DL.k_int, DL.k_dat, DL.k_ty, DL.k_keep, DL.k_own, DL.k_slot, DL.k_new, DL.k_seqt, DL.k_seql, DL.k_seqs, DL.k_seqo, DL.k_enut, DL.k_enul, DL.k_enuo, DL.k_zipt, DL.k_zipl, DL.k_gix, DL.k_gst, DL.k_setd, DL.k_seto, DL.a_dd, DL.a_do, DL.a_rd, DL.a_ro, DL.a_rb, DL.a_nil, DL.a_d, DL.a_o, DL.a_l, DL.a_lo, DL.a_lb, DL.o_add, DL.o_addb, DL.o_adds, DL.o_addt, DL.o_sub, DL.o_subb, DL.o_subbb, DL.o_iadd, DL.o_iaddb, DL.o_isub, DL.o_isubb, DL.o_mul, DL.o_fdiv, DL.o_mod, DL.o_lt, DL.o_le, DL.o_gt, DL.o_ge, DL.o_eq, DL.o_ne, DL.o_isn, DL.o_notn, DL.o_isb, DL.o_notb, DL.o_idxt, DL.o_idxl, DL.o_idxo, DL.o_idxb, DL.o_slct, DL.o_slcl, DL.o_slco, DL.o_slcb, DL.o_rev, DL.o_lent, DL.o_lenl, DL.o_lens, DL.o_leno, DL.o_lenb, DL.o_lenstr, DL.o_abs, DL.o_int, DL.o_intb, DL.o_tupo, DL.o_tupl, DL.o_tupt, DL.o_tupb, DL.o_lso, DL.o_lsl, DL.o_lst, DL.o_lss, DL.o_lsb, DL.o_all, DL.o_anyy, DL.o_sum, DL.o_sorted, DL.u_bl, DL.u_int, DL.u_non, DL.u_tup, DL.u_lst, DL.u_own, DL.u_bor, DL.x_0, DL.x_1, DL.x_2, DL.x_3, DL.x_4, DL.x_5, DL.y_tuplenon, DL.y_tuplebl, DL.y_tupleint, DL.y_tuplestr, DL.y_tupletup, DL.y_tuplelst, DL.y_listnon, DL.y_listbl, DL.y_listint, DL.y_liststr, DL.y_listtup, DL.y_listlst, DL.y_dictnon, DL.y_dictbl, DL.y_dictint, DL.y_dictstr, DL.y_dicttup, DL.y_dictlst, DL.y_strnon, DL.y_strbl, DL.y_strint, DL.y_strstr, DL.y_strtup, DL.y_strlst, DL.y_intnon, DL.y_intbl, DL.y_intint, DL.y_intstr, DL.y_inttup, DL.y_intlst, DL.y_boolnon, DL.y_boolbl, DL.y_boolint, DL.y_boolstr, DL.y_booltup, DL.y_boollst, DL.j_n1, DL.j_n2, DL.j_n3, DL.j_n4, DL.j_n5, DL.j_f1, DL.j_f2, DL.j_f3, DL.j_f4, DL.j_f5, DL.j_w1, DL.j_w2, DL.j_w3, DL.j_w4, DL.j_w5, DL.j_01, DL.j_02, DL.j_03, DL.eqD_int, DL.eqOk_int, List.getElem?_cons_zero, List.getElem?_cons_succ, List.set_cons_zero, List.set_cons_succ, List.length_cons, List.length_nil, Option.map_some, Option.map_none, true_and, eq_self, x_pt0, x_pt1, x_nf0]
  have nx : ((x : Rat)).num = x := rfl
  have ny : ((y : Rat)).num = y := rfl
  rw [nx, ny]
  refine iteK_of (fun q1 => iteK_of (fun q2 => ?_) (fun q2 => ?_)) (fun q1 => ?_)
  · exact fin _ (by rw [decide_eq_decide]; exact ⟨fun z => ⟨of_decide_eq_true q1, of_decide_eq_true q2, z⟩, fun z => z.2.2⟩)
  · exact fin _ (by rw [decide_eq_decide]; exact ⟨fun z => absurd z (of_decide_eq_false q2), fun z => z.2.1⟩)
  · exact fin _ (by symm; rw [decide_eq_false_iff_not]; exact fun z => (of_decide_eq_false q1) z.1)
end K14
namespace K14
open PySem PySem.Spec PyProof.Rows L2 DL DC
def S2 : Sg := ⟨fun k => if k = 20 then Tnone else sp k, S.gc⟩
section
variable {K : PySem.W.Frag} {P : Program} {w : World} {mg : Str → Option Value} {base : Heap}
theorem chain (cs : Consts (gamOf K) mg GC S.gc) (blt : ∀ x ∈ bltNames, mg (Str.ofString x) = none)
    (d0 : DefAt K mg "common" s0 P0) (d1 : DefAt K mg "fraction" s1 P1) (d2 : DefAt K mg "minus" s2 P2) (d3 : DefAt K mg "times" s3 P3) (d4 : DefAt K mg "sign" s4 P4) (d5 : DefAt K mg "is_less" s5 P5)
    (d6 : DefAt K mg "edges" s6 P6) (d7 : DefAt K mg "side" s7 P7) (d8 : DefAt K mg "turns" s8 P8) (d9 : DefAt K mg "is_in" s9 P9) (d10 : DefAt K mg "has" s10 P10) (d11 : DefAt K mg "_law_stream" s11 P11)
    (d12 : DefAt K mg "_law_draw" s12 P12) (d13 : DefAt K mg "_law_divisor" s13 P13) (d14 : DefAt K mg "_law_f" s14 P14) (d15 : DefAt K mg "_law_add" s15 P15) (d16 : DefAt K mg "_law_mul" s16 P16) (d17 : DefAt K mg "_law_neg" s17 P17)
    (d18 : DefAt K mg "_law_div" s18 P18) (d19 : DefAt K mg "_law_pick" s19 P19) (d20 : DefAt K mg "_law_same" s20 P20) (d21 : DefAt K mg "_law_less" s21 P21) (d22 : DefAt K mg "_law_side" s22 P22) (d23 : DefAt K mg "_law_turns" s23 P23)
    (d24 : DefAt K mg "_law_has" s24 P24) (d25 : DefAt K mg "_law_number" s25 P25) (d26 : DefAt K mg "_law_point" s26 P26) (d27 : DefAt K mg "_law_ring" s27 P27) (d28 : DefAt K mg "_law_area" s28 P28) (d29 : DefAt K mg "_law_near" s29 P29) :
    Mod (gamOf K) P w mg base 30 (tbOf FN GC 30) S := by
  have m0 : Mod (gamOf K) P w mg base 0 (tbOf FN GC 0) S := mod_zero cs blt
  have m1 := mod_succ m0 (def_ok d0 sc0 m0 ck0 len_common (run_common rfl)) rfl rfl
  have m2 := mod_succ m1 (def_ok d1 sc1 m1 ck1 len_fraction (run_fraction (k := 0) rfl rfl)) rfl rfl
  have m3 := mod_succ m2 (def_ok d2 sc2 m2 ck2 len_T2 (run_minus (k := 1) rfl rfl)) rfl rfl
  have m4 := mod_succ m3 (def_ok d3 sc3 m3 ck3 len_T2 (run_times (k := 1) rfl rfl)) rfl rfl
  have m5 := mod_succ m4 (def_ok d4 sc4 m4 ck4 len_sign (run_sign rfl)) rfl rfl
  have m6 := mod_succ m5 (def_ok d5 sc5 m5 ck5 len_less (run_less rfl)) rfl rfl
  have m7 := mod_succ m6 (def_ok d6 sc6 m6 ck6 len_edges (run_edges rfl)) rfl rfl
  have m8 := mod_succ m7 (def_ok d7 sc7 m7 ck7 len_side (run_side (k1 := 2) (k2 := 3) (k3 := 4) rfl rfl rfl rfl)) rfl rfl
  have m9 := mod_succ m8 (def_ok d8 sc8 m8 ck8 len_turns (run_turns (k1 := 5) (k2 := 6) (k3 := 7) rfl rfl rfl rfl)) rfl rfl
  have m10 := mod_succ m9 (def_ok d9 sc9 m9 ck9 len_isin (run_isin (k1 := 8) rfl rfl (g := 0) rfl)) rfl rfl
  have m11 := mod_succ m10 (def_ok d10 sc10 m10 ck10 len_has (run_has (k1 := 9) rfl rfl)) rfl rfl
  have m12 := mod_succ m11 ((def_ok d11 sc11 m11 ck11 len_streamL (run_stream rfl)).imp fun _ _ _ _ => stream_conv) rfl rfl
  have m13 := mod_succ m12 ((def_ok d12 sc12 m12 ck12 len_drawL (run_draw rfl)).imp fun _ _ _ _ => draw_conv) rfl rfl
  have m14 := mod_succ m13 (def_ok d13 sc13 m13 ck13 len_common (run_dvs rfl)) rfl rfl
  have m15 := mod_succ m14 (def_ok d14 sc14 m14 ck14 len_fraction (run_fraction (k := 13) rfl rfl)) rfl rfl
  have m16 := mod_succ m15 (def_ok d15 sc15 m15 ck15 len_T2 (run_plus (k := 14) rfl rfl)) rfl rfl
  have m17 := mod_succ m16 (def_ok d16 sc16 m16 ck16 len_T2 (run_times (k := 14) rfl rfl)) rfl rfl
  have m18 := mod_succ m17 (def_ok d17 sc17 m17 ck17 len_neg (run_neg rfl)) rfl rfl
  have m19 := mod_succ m18 (def_ok d18 sc18 m18 ck18 len_divi (run_divi (k := 14) rfl rfl)) rfl rfl
  have m20 := mod_succ m19 (def_ok d19 sc19 m19 ck19 len_pick (run_pick (k := 12) rfl rfl)) rfl rfl
  have m20s : Mod (gamOf K) P w mg base 20 (tbOf FN GC 21) S2 := mod_last m20 (fn_none d20 20) rfl (fun k h => if_neg (by omega)) rfl
  have m21 := mod_succ m20 (def_ok d20 sc20 m20s ck20 len_same (run_same0 (k := 20) rfl)) rfl rfl
  have m22 := mod_succ m21 (def_ok d21 sc21 m21 ck21 len_less (run_less rfl)) rfl rfl
  have m23 := mod_succ m22 (def_ok d22 sc22 m22 ck22 len_lside (run_lside (k1 := 15) (k2 := 16) (k3 := 17) rfl rfl rfl rfl)) rfl rfl
  have m24 := mod_succ m23 (def_ok d23 sc23 m23 ck23 len_turns (run_lturns (k1 := 21) (k2 := 22) rfl rfl rfl)) rfl rfl
  have m25 := mod_succ m24 (def_ok d24 sc24 m24 ck24 len_has (run_lhas (k1 := 23) rfl rfl)) rfl rfl
  have m26 := mod_succ m25 (def_ok d25 sc25 m25 ck25 (by rintro _ _ _ _ ⟨_, rfl, _⟩; rfl) run_number) rfl rfl
  have m27 := mod_succ m26 (def_ok d26 sc26 m26 ck26 (by rintro _ _ _ _ ⟨_, rfl, _⟩; rfl) run_point) rfl rfl
  have m28 := mod_succ m27 (def_ok d27 sc27 m27 ck27 (by rintro _ _ _ _ ⟨_, rfl, _⟩; rfl) run_ring) rfl rfl
  have m29 := mod_succ m28 (def_ok d28 sc28 m28 ck28 (by rintro _ _ _ _ ⟨_, rfl, _⟩; rfl) run_area) rfl rfl
  exact mod_succ m29 (def_ok d29 sc29 m29 ck29 (by rintro _ _ _ _ ⟨_, _, rfl, _⟩; rfl) run_near) rfl rfl
theorem law_all {fa : Addr} {tk : Tok} (hmg : mg "law" = some (.ref fa)) (blt : ∀ x ∈ bltNames, mg (Str.ofString x) = none) (g0 : mg "WHOLE" = some (.str "whole" tk))
    (d0 : DefAt K mg "common" s0 P0) (d1 : DefAt K mg "fraction" s1 P1) (d2 : DefAt K mg "minus" s2 P2) (d3 : DefAt K mg "times" s3 P3) (d4 : DefAt K mg "sign" s4 P4) (d5 : DefAt K mg "is_less" s5 P5)
    (d6 : DefAt K mg "edges" s6 P6) (d7 : DefAt K mg "side" s7 P7) (d8 : DefAt K mg "turns" s8 P8) (d9 : DefAt K mg "is_in" s9 P9) (d10 : DefAt K mg "has" s10 P10) (d11 : DefAt K mg "_law_stream" s11 P11)
    (d12 : DefAt K mg "_law_draw" s12 P12) (d13 : DefAt K mg "_law_divisor" s13 P13) (d14 : DefAt K mg "_law_f" s14 P14) (d15 : DefAt K mg "_law_add" s15 P15) (d16 : DefAt K mg "_law_mul" s16 P16) (d17 : DefAt K mg "_law_neg" s17 P17)
    (d18 : DefAt K mg "_law_div" s18 P18) (d19 : DefAt K mg "_law_pick" s19 P19) (d20 : DefAt K mg "_law_same" s20 P20) (d21 : DefAt K mg "_law_less" s21 P21) (d22 : DefAt K mg "_law_side" s22 P22) (d23 : DefAt K mg "_law_turns" s23 P23)
    (d24 : DefAt K mg "_law_has" s24 P24) (d25 : DefAt K mg "_law_number" s25 P25) (d26 : DefAt K mg "_law_point" s26 P26) (d27 : DefAt K mg "_law_ring" s27 P27) (d28 : DefAt K mg "_law_area" s28 P28) (d29 : DefAt K mg "_law_near" s29 P29) (d30 : DefAt K mg "law" s30 P30) :
    ∃ fd : FuncData, (∀ (s : Shared) (u : Value), BindsTo s fd ⟨[u], []⟩ [("script", u)]) ∧ ∀ base : Heap, K.In base → base.Ns mainGlobals mg → FnOk P w K mg base (L2.CX P w) 31 fa fd ["script"] (lift (gamOf K) Tlaw) := by
  have cs : Consts (gamOf K) mg GC S.gc := fun n x h => by
    cases n with
    | zero =>
      cases h
      exact ⟨_, .str "whole", g0, ⟨_, rfl⟩, fun a H => by show Rep _ _ _ (.str "whole") _; simp only [Rep]⟩
    | succ n => simp [GC] at h
  exact law_fn (Γ := gamOf K) hmg d30 sc30 (fun base => chain cs blt d0 d1 d2 d3 d4 d5 d6 d7 d8 d9 d10 d11 d12 d13 d14 d15 d16 d17 d18 d19 d20 d21 d22 d23 d24 d25 d26 d27 d28 d29) ck30 run_law
end
end K14
open PySem PySem.W PyProof.Rows L2 DL in
set_option maxRecDepth 100000 in
set_option maxHeartbeats 0 in
theorem PySem.Challenge.cw_pagehold_k14_whole_turns_of_rings_holds : PySem.Challenge.rw_pagehold_k14_whole_turns_of_rings.Holds := by
  w_on; o_law; k_head; (case hw => w_witness2)
  k_fill
  refine DL.law_walk (l := PySem.Challenge.rw_pagehold_k14_whole_turns_of_rings) (k := 31) rfl rfl ⟨rfl, by decide, by decide⟩ (fun w h Y => PySem.W.kIn_of Y) ?F
  case F =>
    intro w mg fa h KX G hmg
    refine' K14.law_all hmg ?blt ?zg0 ?zd0 ?zd1 ?zd2 ?zd3 ?zd4 ?zd5 ?zd6 ?zd7 ?zd8 ?zd9 ?zd10 ?zd11 ?zd12 ?zd13 ?zd14 ?zd15 ?zd16 ?zd17 ?zd18 ?zd19 ?zd20 ?zd21 ?zd22 ?zd23 ?zd24 ?zd25 ?zd26 ?zd27 ?zd28 ?zd29 ?zd30
    case blt =>
      intro x hx
      simp only [bltNames, List.mem_cons, List.not_mem_nil, or_false] at hx
      rcases hx with rfl | rfl | rfl | rfl | rfl | rfl | rfl | rfl | rfl | rfl | rfl | rfl | rfl | rfl | rfl | rfl | rfl | rfl | rfl | rfl <;> exact PySem.W.mg_none_of KX G (by k_is)
    case zg0 =>
      refine' PySem.W.mg_of KX G ?a
      (case a => k_is)
    case zd0 =>
      refine' def_mk KX G ?a ?l ?c ?k ?b
      (case a => k_is)
      (case l => k_is)
      (case c => k_is)
      (case k => k_is)
      (case b => exact fun us hl => match us, hl with | [_, _], _ => rfl)
    case zd1 =>
      refine' def_mk KX G ?a ?l ?c ?k ?b
      (case a => k_is)
      (case l => k_is)
      (case c => k_is)
      (case k => k_is)
      (case b => exact fun us hl => match us, hl with | [_, _], _ => rfl)
    case zd2 =>
      refine' def_mk KX G ?a ?l ?c ?k ?b
      (case a => k_is)
      (case l => k_is)
      (case c => k_is)
      (case k => k_is)
      (case b => exact fun us hl => match us, hl with | [_, _], _ => rfl)
    case zd3 =>
      refine' def_mk KX G ?a ?l ?c ?k ?b
      (case a => k_is)
      (case l => k_is)
      (case c => k_is)
      (case k => k_is)
      (case b => exact fun us hl => match us, hl with | [_, _], _ => rfl)
    case zd4 =>
      refine' def_mk KX G ?a ?l ?c ?k ?b
      (case a => k_is)
      (case l => k_is)
      (case c => k_is)
      (case k => k_is)
      (case b => exact fun us hl => match us, hl with | [_], _ => rfl)
    case zd5 =>
      refine' def_mk KX G ?a ?l ?c ?k ?b
      (case a => k_is)
      (case l => k_is)
      (case c => k_is)
      (case k => k_is)
      (case b => exact fun us hl => match us, hl with | [_, _], _ => rfl)
    case zd6 =>
      refine' def_mk KX G ?a ?l ?c ?k ?b
      (case a => k_is)
      (case l => k_is)
      (case c => k_is)
      (case k => k_is)
      (case b => exact fun us hl => match us, hl with | [_], _ => rfl)
    case zd7 =>
      refine' def_mk KX G ?a ?l ?c ?k ?b
      (case a => k_is)
      (case l => k_is)
      (case c => k_is)
      (case k => k_is)
      (case b => exact fun us hl => match us, hl with | [_, _, _], _ => rfl)
    case zd8 =>
      refine' def_mk KX G ?a ?l ?c ?k ?b
      (case a => k_is)
      (case l => k_is)
      (case c => k_is)
      (case k => k_is)
      (case b => exact fun us hl => match us, hl with | [_, _], _ => rfl)
    case zd9 =>
      refine' def_mk KX G ?a ?l ?c ?k ?b
      (case a => k_is)
      (case l => k_is)
      (case c => k_is)
      (case k => k_is)
      (case b => exact fun us hl => match us, hl with | [_, _, _], _ => rfl)
    case zd10 =>
      refine' def_mk KX G ?a ?l ?c ?k ?b
      (case a => k_is)
      (case l => k_is)
      (case c => k_is)
      (case k => k_is)
      (case b => exact fun us hl => match us, hl with | [_, _], _ => rfl)
    case zd11 =>
      refine' def_mk KX G ?a ?l ?c ?k ?b
      (case a => k_is)
      (case l => k_is)
      (case c => k_is)
      (case k => k_is)
      (case b => exact fun us hl => match us, hl with | [_], _ => rfl)
    case zd12 =>
      refine' def_mk KX G ?a ?l ?c ?k ?b
      (case a => k_is)
      (case l => k_is)
      (case c => k_is)
      (case k => k_is)
      (case b => exact fun us hl => match us, hl with | [_, _], _ => rfl)
    case zd13 =>
      refine' def_mk KX G ?a ?l ?c ?k ?b
      (case a => k_is)
      (case l => k_is)
      (case c => k_is)
      (case k => k_is)
      (case b => exact fun us hl => match us, hl with | [_, _], _ => rfl)
    case zd14 =>
      refine' def_mk KX G ?a ?l ?c ?k ?b
      (case a => k_is)
      (case l => k_is)
      (case c => k_is)
      (case k => k_is)
      (case b => exact fun us hl => match us, hl with | [_, _], _ => rfl)
    case zd15 =>
      refine' def_mk KX G ?a ?l ?c ?k ?b
      (case a => k_is)
      (case l => k_is)
      (case c => k_is)
      (case k => k_is)
      (case b => exact fun us hl => match us, hl with | [_, _], _ => rfl)
    case zd16 =>
      refine' def_mk KX G ?a ?l ?c ?k ?b
      (case a => k_is)
      (case l => k_is)
      (case c => k_is)
      (case k => k_is)
      (case b => exact fun us hl => match us, hl with | [_, _], _ => rfl)
    case zd17 =>
      refine' def_mk KX G ?a ?l ?c ?k ?b
      (case a => k_is)
      (case l => k_is)
      (case c => k_is)
      (case k => k_is)
      (case b => exact fun us hl => match us, hl with | [_], _ => rfl)
    case zd18 =>
      refine' def_mk KX G ?a ?l ?c ?k ?b
      (case a => k_is)
      (case l => k_is)
      (case c => k_is)
      (case k => k_is)
      (case b => exact fun us hl => match us, hl with | [_, _], _ => rfl)
    case zd19 =>
      refine' def_mk KX G ?a ?l ?c ?k ?b
      (case a => k_is)
      (case l => k_is)
      (case c => k_is)
      (case k => k_is)
      (case b => exact fun us hl => match us, hl with | [_, _], _ => rfl)
    case zd20 =>
      refine' def_mk KX G ?a ?l ?c ?k ?b
      (case a => k_is)
      (case l => k_is)
      (case c => k_is)
      (case k => k_is)
      (case b => exact fun us hl => match us, hl with | [_, _], _ => rfl)
    case zd21 =>
      refine' def_mk KX G ?a ?l ?c ?k ?b
      (case a => k_is)
      (case l => k_is)
      (case c => k_is)
      (case k => k_is)
      (case b => exact fun us hl => match us, hl with | [_, _], _ => rfl)
    case zd22 =>
      refine' def_mk KX G ?a ?l ?c ?k ?b
      (case a => k_is)
      (case l => k_is)
      (case c => k_is)
      (case k => k_is)
      (case b => exact fun us hl => match us, hl with | [_, _, _], _ => rfl)
    case zd23 =>
      refine' def_mk KX G ?a ?l ?c ?k ?b
      (case a => k_is)
      (case l => k_is)
      (case c => k_is)
      (case k => k_is)
      (case b => exact fun us hl => match us, hl with | [_, _], _ => rfl)
    case zd24 =>
      refine' def_mk KX G ?a ?l ?c ?k ?b
      (case a => k_is)
      (case l => k_is)
      (case c => k_is)
      (case k => k_is)
      (case b => exact fun us hl => match us, hl with | [_, _], _ => rfl)
    case zd25 =>
      refine' def_mk KX G ?a ?l ?c ?k ?b
      (case a => k_is)
      (case l => k_is)
      (case c => k_is)
      (case k => k_is)
      (case b => exact fun us hl => match us, hl with | [_], _ => rfl)
    case zd26 =>
      refine' def_mk KX G ?a ?l ?c ?k ?b
      (case a => k_is)
      (case l => k_is)
      (case c => k_is)
      (case k => k_is)
      (case b => exact fun us hl => match us, hl with | [_], _ => rfl)
    case zd27 =>
      refine' def_mk KX G ?a ?l ?c ?k ?b
      (case a => k_is)
      (case l => k_is)
      (case c => k_is)
      (case k => k_is)
      (case b => exact fun us hl => match us, hl with | [_], _ => rfl)
    case zd28 =>
      refine' def_mk KX G ?a ?l ?c ?k ?b
      (case a => k_is)
      (case l => k_is)
      (case c => k_is)
      (case k => k_is)
      (case b => exact fun us hl => match us, hl with | [_], _ => rfl)
    case zd29 =>
      refine' def_mk KX G ?a ?l ?c ?k ?b
      (case a => k_is)
      (case l => k_is)
      (case c => k_is)
      (case k => k_is)
      (case b => exact fun us hl => match us, hl with | [_, _], _ => rfl)
    case zd30 =>
      refine' def_mk KX G ?a ?l ?c ?k ?b
      (case a => k_is)
      (case l => k_is)
      (case c => k_is)
      (case k => k_is)
      (case b => exact fun us hl => match us, hl with | [_], _ => rfl)
#print axioms PySem.Challenge.cw_pagehold_k14_whole_turns_of_rings_holds
