import PyProof.Rows.All
import Wide.All
import OpenK.AllK
import Wide.FinOn
import HandS.ForMost
import HandS.Strs
import HandS.SetFor
import HandS.Zip
import KE.SortData
import KE.DataMinMax
import KE.GoesEnum
import KE.KDictKeyed
import HandS.Defaults
import HandS.Deep
import HandS.IsInst
import HandS.TupAny
import HandS.Style
import HandS.Property
import HandS.Codes
import PySem.Challenge.RW_suretexts_k31_whole_tables_and_products
set_option Elab.async false
set_option linter.all false
set_option maxRecDepth 100000
set_option maxHeartbeats 4000000
/-! Tarjan's search, in plain Lean: frames with their segments, the invariant, the parts at the end. -/
namespace Tj

inductive Rch (E : List (Nat × Nat)) : Nat → Nat → Prop
  | refl (a : Nat) : Rch E a a
  | step {a b c : Nat} : Rch E a b → (b, c) ∈ E → Rch E a c

variable {E : List (Nat × Nat)} {n : Nat}

theorem Rch.edge {a b : Nat} (h : (a, b) ∈ E) : Rch E a b := .step (.refl a) h
theorem Rch.trans {a b c : Nat} (h : Rch E a b) (k : Rch E b c) : Rch E a c := by
  induction k with
  | refl => exact h
  | step _ e ih => exact .step ih e

/-- a set that the edges do not leave -/
theorem Rch.stays {P : Nat → Prop} (hP : ∀ a b, P a → (a, b) ∈ E → P b) {a b : Nat} (h : Rch E a b) : P a → P b := by
  induction h with
  | refl => exact id
  | step _ e ih => exact fun p => hP _ _ (ih p) e

def Mut (E : List (Nat × Nat)) (a b : Nat) : Prop := Rch E a b ∧ Rch E b a
theorem Mut.refl (a : Nat) : Mut E a a := ⟨.refl a, .refl a⟩
theorem Mut.symm {a b : Nat} (h : Mut E a b) : Mut E b a := ⟨h.2, h.1⟩
theorem Mut.trans {a b c : Nat} (h : Mut E a b) (k : Mut E b c) : Mut E a c := ⟨h.1.trans k.1, k.2.trans h.2⟩

def src (E : List (Nat × Nat)) (e : Nat) : Nat := (E.getD e (0, 0)).1
def tgt (E : List (Nat × Nat)) (e : Nat) : Nat := (E.getD e (0, 0)).2
theorem edge_mem {e : Nat} (h : e < E.length) : (src E e, tgt E e) ∈ E := by
  unfold src tgt
  rw [List.getD_eq_getElem?_getD, List.getElem?_eq_getElem h]
  exact List.getElem_mem h
theorem mem_edge {a b : Nat} (h : (a, b) ∈ E) : ∃ e, e < E.length ∧ src E e = a ∧ tgt E e = b := by
  obtain ⟨e, he, q⟩ := List.getElem_of_mem h
  refine ⟨e, he, ?_, ?_⟩
  · unfold src; rw [List.getD_eq_getElem?_getD, List.getElem?_eq_getElem he, Option.getD_some, q]
  · unfold tgt; rw [List.getD_eq_getElem?_getD, List.getElem?_eq_getElem he, Option.getD_some, q]

/-- the numbers below i of the ties from v -/
def adjTo (E : List (Nat × Nat)) (i v : Nat) : List Nat := (List.range i).filter fun e => decide (src E e = v)
def adj (E : List (Nat × Nat)) (v : Nat) : List Nat := adjTo E E.length v
theorem mem_adj {e v : Nat} : e ∈ adj E v ↔ e < E.length ∧ src E e = v := by
  unfold adj adjTo
  rw [List.mem_filter, List.mem_range, decide_eq_true_iff]
theorem adjTo_succ (i v : Nat) : adjTo E (i + 1) v = if src E i = v then adjTo E i v ++ [i] else adjTo E i v := by
  unfold adjTo
  rw [List.range_succ, List.filter_append]
  by_cases h : src E i = v
  · rw [if_pos h, List.filter_cons_of_pos (by rw [h]; simp), List.filter_nil]
  · rw [if_neg h, List.filter_cons_of_neg (by simp [h]), List.filter_nil, List.append_nil]

structure Fr where
  v : Nat
  left : List Nat
  seg : List Nat

def opn : List Fr → List Nat
  | [] => []
  | f :: r => opn r ++ f.seg

def up (f : Nat → Nat) (b x : Nat) : Nat → Nat := fun v => if v = b then x else f v
theorem up_same {f : Nat → Nat} {b x : Nat} : up f b x b = x := if_pos rfl
theorem up_ne {f : Nat → Nat} {b x v : Nat} (h : v ≠ b) : up f b x v = f v := if_neg h

structure St where
  ord : List Nat
  num : Nat → Nat
  low : Nat → Nat
  fr : List Fr
  parts : List (List Nat)

/-- one frame is right -/
structure FrOk (E : List (Nat × Nat)) (S : St) (f : Fr) : Prop where
  head : ∃ r, f.seg = f.v :: r
  comp : ∀ u ∈ f.seg, Mut E f.v u
  lowle : S.low f.v ≤ S.num f.v
  lowat : ∃ w ∈ opn S.fr, S.num w = S.low f.v ∧ Rch E f.v w
  left : ∀ e ∈ f.left, e < E.length ∧ src E e = f.v
  done : ∀ u ∈ f.seg, ∀ e, e < E.length → src E e = u → (u = f.v ∧ e ∈ f.left) ∨ (tgt E e ∈ S.ord ∧ (tgt E e ∈ opn S.fr → S.low f.v ≤ S.num (tgt E e)))

def Chain (E : List (Nat × Nat)) : List Fr → Prop
  | f :: g :: r => (g.v, f.v) ∈ E ∧ Chain E (g :: r)
  | _ => True

structure Inv (n : Nat) (E : List (Nat × Nat)) (S : St) : Prop where
  nd : S.ord.Nodup
  lt : ∀ v ∈ S.ord, v < n
  numlt : ∀ v ∈ S.ord, S.num v < S.ord.length
  sub : ∀ v ∈ opn S.fr, v ∈ S.ord
  srt : (opn S.fr).Pairwise fun a b => S.num a < S.num b
  frs : ∀ f ∈ S.fr, FrOk E S f
  chain : Chain E S.fr
  closed : ∀ u ∈ S.ord, u ∉ opn S.fr → ∀ e, e < E.length → src E e = u → tgt E e ∈ S.ord ∧ tgt E e ∉ opn S.fr
  pcls : ∀ p ∈ S.parts, ∃ a, a ∈ p ∧ p.Pairwise (· < ·) ∧ ∀ x, x ∈ p ↔ Mut E a x
  pmem : ∀ p ∈ S.parts, ∀ x ∈ p, x ∈ S.ord ∧ x ∉ opn S.fr
  pall : ∀ u ∈ S.ord, u ∉ opn S.fr → ∃ p ∈ S.parts, u ∈ p
  pdis : S.parts.Pairwise fun p q => ∀ x ∈ p, x ∉ q

theorem mem_opn {fs : List Fr} {u : Nat} : u ∈ opn fs ↔ ∃ f ∈ fs, u ∈ f.seg := by
  induction fs with
  | nil => simp [opn]
  | cons f r ih => simp [opn, ih, or_comm]

theorem FrOk.vin {S : St} {f : Fr} (h : FrOk E S f) : f.v ∈ f.seg := by
  obtain ⟨r, e⟩ := h.head
  rw [e]; exact List.mem_cons_self
theorem Inv.opnd {S : St} (I : Inv n E S) : (opn S.fr).Nodup :=
  I.srt.imp fun h e => by rw [e] at h; exact Nat.lt_irrefl _ h
theorem Inv.vord {S : St} (I : Inv n E S) {f : Fr} (hf : f ∈ S.fr) : f.v ∈ S.ord := I.sub _ (mem_opn.mpr ⟨f, hf, (I.frs f hf).vin⟩)

/-- who stands in a frame's segment leads up to the top's node -/
theorem chain_up {S : St} : ∀ {fs : List Fr} {f : Fr}, Chain E (f :: fs) → (∀ g ∈ f :: fs, FrOk E S g) → ∀ u ∈ opn (f :: fs), Rch E u f.v
  | [], f, _, ok, u, hu => by
    have hu' : u ∈ f.seg := by simpa [opn] using hu
    exact ((ok f List.mem_cons_self).comp u hu').2
  | g :: r, f, c, ok, u, hu => by
    have hu' : u ∈ opn (g :: r) ∨ u ∈ f.seg := by
      rw [opn, List.mem_append] at hu; exact hu
    rcases hu' with q | q
    · exact (chain_up c.2 (fun x hx => ok x (List.mem_cons_of_mem _ hx)) u q).trans (.edge c.1)
    · exact ((ok f List.mem_cons_self).comp u q).2

/-- a node is met as a new top frame -/
def pushed (E : List (Nat × Nat)) (S : St) (fs : List Fr) (b : Nat) : St :=
  { ord := S.ord ++ [b], num := up S.num b S.ord.length, low := up S.low b S.ord.length, fr := ⟨b, adj E b, [b]⟩ :: fs, parts := S.parts }

theorem opn_pushed {fs : List Fr} {b : Nat} : opn (⟨b, adj E b, [b]⟩ :: fs) = opn fs ++ [b] := rfl

/-- what a push needs of the frames below, said of the state ahead -/
theorem Inv.push_gen {S : St} (I : Inv n E S) {fs : List Fr} {b : Nat} (hb : b ∉ S.ord) (hbn : b < n) (ho : opn fs = opn S.fr)
    (hf : ∀ f ∈ fs, (∃ r, f.seg = f.v :: r) ∧ (∀ u ∈ f.seg, Mut E f.v u) ∧ S.low f.v ≤ S.num f.v ∧ (∃ w ∈ opn S.fr, S.num w = S.low f.v ∧ Rch E f.v w) ∧ (∀ e ∈ f.left, e < E.length ∧ src E e = f.v) ∧
      ∀ u ∈ f.seg, ∀ e, e < E.length → src E e = u → (u = f.v ∧ e ∈ f.left) ∨ tgt E e = b ∨ (tgt E e ∈ S.ord ∧ (tgt E e ∈ opn S.fr → S.low f.v ≤ S.num (tgt E e))))
    (hc : Chain E (⟨b, adj E b, [b]⟩ :: fs)) : Inv n E (pushed E S fs b) := by
  have hob : b ∉ opn S.fr := fun h => hb (I.sub _ h)
  have hne : ∀ u ∈ S.ord, u ≠ b := fun u hu e => hb (e ▸ hu)
  have hno : ∀ u ∈ S.ord, up S.num b S.ord.length u = S.num u := fun u hu => up_ne (hne u hu)
  have hop : opn (pushed E S fs b).fr = opn S.fr ++ [b] := by
    show opn (⟨b, adj E b, [b]⟩ :: fs) = _
    rw [opn_pushed, ho]
  have hmo : ∀ x, x ∈ (pushed E S fs b).ord ↔ x ∈ S.ord ∨ x = b := fun x => by
    show x ∈ S.ord ++ [b] ↔ _
    rw [List.mem_append, List.mem_singleton]
  have hmp : ∀ x, x ∈ opn (pushed E S fs b).fr ↔ x ∈ opn S.fr ∨ x = b := fun x => by
    rw [hop, List.mem_append, List.mem_singleton]
  refine ⟨?_, ?_, ?_, ?_, ?_, ?_, hc, ?_, I.pcls, ?_, ?_, I.pdis⟩
  · show (S.ord ++ [b]).Nodup
    rw [List.nodup_append]
    exact ⟨I.nd, by simp, fun a ha c hc' => by rw [List.mem_singleton] at hc'; rw [hc']; exact hne a ha⟩
  · intro v hv
    rcases (hmo v).mp hv with q | q
    · exact I.lt v q
    · rw [q]; exact hbn
  · intro v hv
    show up S.num b S.ord.length v < (S.ord ++ [b]).length
    rw [List.length_append, List.length_singleton]
    rcases (hmo v).mp hv with q | q
    · rw [hno v q]; have := I.numlt v q; omega
    · rw [q, up_same]; omega
  · intro v hv
    rcases (hmp v).mp hv with q | q
    · exact (hmo v).mpr (.inl (I.sub v q))
    · exact (hmo v).mpr (.inr q)
  · rw [hop, List.pairwise_append]
    refine ⟨?_, List.pairwise_singleton _ _, ?_⟩
    · refine I.srt.imp_of_mem fun {a c} ha hc' h => ?_
      show up S.num b S.ord.length a < up S.num b S.ord.length c
      rw [hno a (I.sub a ha), hno c (I.sub c hc')]; exact h
    · intro a ha c hc'
      rw [List.mem_singleton] at hc'
      show up S.num b S.ord.length a < up S.num b S.ord.length c
      rw [hc', up_same, hno a (I.sub a ha)]; exact I.numlt a (I.sub a ha)
  · intro f hfm
    rcases List.mem_cons.mp hfm with rfl | hfm
    · refine ⟨⟨[], rfl⟩, ?_, ?_, ?_, fun e he => mem_adj.mp he, ?_⟩
      · intro u hu
        rw [List.mem_singleton] at hu
        rw [hu]; exact Mut.refl _
      · show up S.low b S.ord.length b ≤ up S.num b S.ord.length b
        rw [up_same, up_same]; exact Nat.le_refl _
      · refine ⟨b, (hmp b).mpr (.inr rfl), ?_, .refl b⟩
        show up S.num b S.ord.length b = up S.low b S.ord.length b
        rw [up_same, up_same]
      · intro u hu e he hs
        rw [List.mem_singleton] at hu
        exact .inl ⟨hu, mem_adj.mpr ⟨he, hs.trans hu⟩⟩
    · obtain ⟨h1, h2, h3, ⟨w, hw, h4, h5⟩, h6, h7⟩ := hf f hfm
      have hv : f.v ∈ S.ord := by
        obtain ⟨r, e⟩ := h1
        refine I.sub _ ?_
        rw [← ho]
        exact mem_opn.mpr ⟨f, hfm, by rw [e]; exact List.mem_cons_self⟩
      have hlo : up S.low b S.ord.length f.v = S.low f.v := up_ne (hne _ hv)
      refine ⟨h1, h2, ?_, ⟨w, (hmp w).mpr (.inl hw), ?_, h5⟩, h6, ?_⟩
      · show up S.low b S.ord.length f.v ≤ up S.num b S.ord.length f.v
        rw [hlo, hno _ hv]; exact h3
      · show up S.num b S.ord.length w = up S.low b S.ord.length f.v
        rw [hlo, hno _ (I.sub _ hw)]; exact h4
      · intro u hu e he hs
        rcases h7 u hu e he hs with q | q | ⟨q1, q2⟩
        · exact .inl q
        · refine .inr ⟨(hmo _).mpr (.inr q), fun _ => ?_⟩
          show up S.low b S.ord.length f.v ≤ up S.num b S.ord.length (tgt E e)
          rw [hlo, q, up_same]
          have := I.numlt _ hv
          omega
        · refine .inr ⟨(hmo _).mpr (.inl q1), fun hm => ?_⟩
          show up S.low b S.ord.length f.v ≤ up S.num b S.ord.length (tgt E e)
          rw [hlo, hno _ q1]
          rcases (hmp _).mp hm with z | z
          · exact q2 z
          · exact absurd z (hne _ q1)
  · intro u hu hun e he hs
    have hun' : u ∉ opn S.fr ∧ u ≠ b := ⟨fun h => hun ((hmp u).mpr (.inl h)), fun h => hun ((hmp u).mpr (.inr h))⟩
    have hu' : u ∈ S.ord := ((hmo u).mp hu).resolve_right hun'.2
    obtain ⟨q1, q2⟩ := I.closed u hu' hun'.1 e he hs
    exact ⟨(hmo _).mpr (.inl q1), fun h => ((hmp _).mp h).elim q2 (hne _ q1)⟩
  · intro p hp x hx
    obtain ⟨q1, q2⟩ := I.pmem p hp x hx
    exact ⟨(hmo x).mpr (.inl q1), fun h => ((hmp x).mp h).elim q2 (hne x q1)⟩
  · intro u hu hun
    have hun' : u ∉ opn S.fr ∧ u ≠ b := ⟨fun h => hun ((hmp u).mpr (.inl h)), fun h => hun ((hmp u).mpr (.inr h))⟩
    exact I.pall u (((hmo u).mp hu).resolve_right hun'.2) hun'.1

/-- a search begins at a node that was not met -/
theorem Inv.start {S : St} (I : Inv n E S) (h0 : S.fr = []) {b : Nat} (hb : b ∉ S.ord) (hbn : b < n) : Inv n E (pushed E S [] b) :=
  I.push_gen hb hbn (by rw [h0]) (fun f hf => by cases hf) trivial

/-- a tie to a node that was not met -/
theorem Inv.push {S : St} (I : Inv n E S) {v : Nat} {l : List Nat} {e0 : Nat} {sg : List Nat} {r : List Fr} (h0 : S.fr = ⟨v, l ++ [e0], sg⟩ :: r) (hb : tgt E e0 ∉ S.ord) (hbn : tgt E e0 < n) :
    Inv n E (pushed E S (⟨v, l, sg⟩ :: r) (tgt E e0)) := by
  have ht := I.frs ⟨v, l ++ [e0], sg⟩ (by rw [h0]; exact List.mem_cons_self)
  have he0 := ht.left e0 (List.mem_append_right _ (List.mem_singleton.mpr rfl))
  refine I.push_gen hb hbn (by rw [h0]; rfl) (fun f hf => ?_) ⟨?_, ?_⟩
  · rcases List.mem_cons.mp hf with rfl | hf
    · refine ⟨ht.head, ht.comp, ht.lowle, ht.lowat, fun e he => ht.left e (List.mem_append_left _ he), fun u hu e he hs => ?_⟩
      rcases ht.done u hu e he hs with ⟨q1, q2⟩ | q
      · rcases List.mem_append.mp q2 with z | z
        · exact .inl ⟨q1, z⟩
        · rw [List.mem_singleton] at z
          exact .inr (.inl (by rw [z]))
      · exact .inr (.inr q)
    · have ok := I.frs f (by rw [h0]; exact List.mem_cons_of_mem _ hf)
      exact ⟨ok.head, ok.comp, ok.lowle, ok.lowat, ok.left, fun u hu e he hs => (ok.done u hu e he hs).imp id .inr⟩
  · have := edge_mem he0.1
    rw [he0.2] at this
    exact this
  · have c := I.chain
    rw [h0] at c
    cases r with
    | nil => trivial
    | cons g r => exact c

/-- the same frames but for the top's ties left, and its low: what the other frames say stays -/
theorem Inv.top_gen {S : St} (I : Inv n E S) {v : Nat} {l : List Nat} {e0 x : Nat} {sg : List Nat} {r : List Fr} (h0 : S.fr = ⟨v, l ++ [e0], sg⟩ :: r) (hx : x ≤ S.low v)
    (hw : ∃ w ∈ opn S.fr, S.num w = x ∧ Rch E v w) (hd : tgt E e0 ∈ S.ord ∧ (tgt E e0 ∈ opn S.fr → x ≤ S.num (tgt E e0))) :
    Inv n E { S with low := up S.low v x, fr := ⟨v, l, sg⟩ :: r } := by
  have ht := I.frs ⟨v, l ++ [e0], sg⟩ (by rw [h0]; exact List.mem_cons_self)
  have ho : opn (⟨v, l, sg⟩ :: r) = opn S.fr := by rw [h0]; rfl
  have hvs : v ∈ sg := ht.vin
  have hnv : ∀ f ∈ r, f.v ≠ v := fun f hf e => by
    have h1 : f.v ∈ opn r := mem_opn.mpr ⟨f, hf, (I.frs f (by rw [h0]; exact List.mem_cons_of_mem _ hf)).vin⟩
    have nd := I.opnd
    rw [h0, opn, List.nodup_append] at nd
    exact nd.2.2 _ h1 _ hvs e
  refine ⟨I.nd, I.lt, I.numlt, by rw [ho]; exact I.sub, by rw [ho]; exact I.srt, fun f hf => ?_, ?_, by rw [ho]; exact I.closed, I.pcls, by rw [ho]; exact I.pmem, by rw [ho]; exact I.pall, I.pdis⟩
  · rcases List.mem_cons.mp hf with rfl | hf
    · refine ⟨ht.head, ht.comp, ?_, ?_, fun e he => ht.left e (List.mem_append_left _ he), fun u hu e he hs => ?_⟩
      · show up S.low v x v ≤ S.num v
        rw [up_same]; exact Nat.le_trans hx ht.lowle
      · show ∃ w ∈ opn (⟨v, l, sg⟩ :: r), S.num w = up S.low v x v ∧ Rch E v w
        rw [ho, up_same]; exact hw
      · show (u = v ∧ e ∈ l) ∨ (tgt E e ∈ S.ord ∧ (tgt E e ∈ opn (⟨v, l, sg⟩ :: r) → up S.low v x v ≤ S.num (tgt E e)))
        rw [ho, up_same]
        rcases ht.done u hu e he hs with ⟨q1, q2⟩ | ⟨q1, q2⟩
        · rcases List.mem_append.mp q2 with z | z
          · exact .inl ⟨q1, z⟩
          · rw [List.mem_singleton] at z
            rw [z]; exact .inr hd
        · exact .inr ⟨q1, fun z => Nat.le_trans hx (q2 z)⟩
    · have ok := I.frs f (by rw [h0]; exact List.mem_cons_of_mem _ hf)
      have el : up S.low v x f.v = S.low f.v := up_ne (hnv f hf)
      refine ⟨ok.head, ok.comp, ?_, ?_, ok.left, ?_⟩
      · show up S.low v x f.v ≤ S.num f.v
        rw [el]; exact ok.lowle
      · show ∃ w ∈ opn (⟨v, l, sg⟩ :: r), S.num w = up S.low v x f.v ∧ Rch E f.v w
        rw [ho, el]; exact ok.lowat
      · show ∀ u ∈ f.seg, ∀ e, e < E.length → src E e = u → (u = f.v ∧ e ∈ f.left) ∨ (tgt E e ∈ S.ord ∧ (tgt E e ∈ opn (⟨v, l, sg⟩ :: r) → up S.low v x f.v ≤ S.num (tgt E e)))
        rw [ho, el]; exact ok.done
  · have c := I.chain
    rw [h0] at c
    cases r with
    | nil => trivial
    | cons g r => exact c

theorem up_self (f : Nat → Nat) (v : Nat) : up f v (f v) = f := by
  funext u
  unfold up
  split
  · rename_i h; rw [h]
  · rfl

/-- a tie to a node of a part that is done -/
theorem Inv.old {S : St} (I : Inv n E S) {v : Nat} {l : List Nat} {e0 : Nat} {sg : List Nat} {r : List Fr} (h0 : S.fr = ⟨v, l ++ [e0], sg⟩ :: r) (hb : tgt E e0 ∈ S.ord) (hn : tgt E e0 ∉ opn S.fr) :
    Inv n E { S with fr := ⟨v, l, sg⟩ :: r } := by
  have ht := I.frs ⟨v, l ++ [e0], sg⟩ (by rw [h0]; exact List.mem_cons_self)
  have t := I.top_gen h0 (x := S.low v) (Nat.le_refl _) ht.lowat ⟨hb, fun z => absurd z hn⟩
  rw [up_self] at t
  exact t

/-- a tie to an open node -/
theorem Inv.back {S : St} (I : Inv n E S) {v : Nat} {l : List Nat} {e0 : Nat} {sg : List Nat} {r : List Fr} (h0 : S.fr = ⟨v, l ++ [e0], sg⟩ :: r) (hb : tgt E e0 ∈ opn S.fr) :
    Inv n E { S with low := up S.low v (min (S.low v) (S.num (tgt E e0))), fr := ⟨v, l, sg⟩ :: r } := by
  have ht := I.frs ⟨v, l ++ [e0], sg⟩ (by rw [h0]; exact List.mem_cons_self)
  have he0 := ht.left e0 (List.mem_append_right _ (List.mem_singleton.mpr rfl))
  have hE := edge_mem he0.1
  rw [he0.2] at hE
  refine I.top_gen h0 (Nat.min_le_left _ _) ?_ ⟨I.sub _ hb, fun _ => Nat.min_le_right _ _⟩
  by_cases h : S.low v ≤ S.num (tgt E e0)
  · rw [Nat.min_eq_left h]; exact ht.lowat
  · rw [Nat.min_eq_right (by omega)]
    exact ⟨_, hb, rfl, .edge hE⟩

/-- all nodes of the top's segment are done: where its ties lead -/
theorem Inv.top_done {S : St} (I : Inv n E S) {v : Nat} {sg : List Nat} {r : List Fr} (h0 : S.fr = ⟨v, [], sg⟩ :: r) {u e : Nat} (hu : u ∈ sg) (he : e < E.length) (hs : src E e = u) :
    tgt E e ∈ S.ord ∧ (tgt E e ∈ opn S.fr → S.low v ≤ S.num (tgt E e)) := by
  have ht := I.frs ⟨v, [], sg⟩ (by rw [h0]; exact List.mem_cons_self)
  rcases ht.done u hu e he hs with ⟨_, q⟩ | q
  · cases q
  · exact q

/-- who stands below the top's segment has a lesser number than each node of it -/
theorem Inv.below {S : St} (I : Inv n E S) {f : Fr} {r : List Fr} (h0 : S.fr = f :: r) {a b : Nat} (ha : a ∈ opn r) (hb : b ∈ f.seg) : S.num a < S.num b := by
  have q := I.srt
  rw [h0, opn, List.pairwise_append] at q
  exact q.2.2 a ha b hb
theorem Inv.first {S : St} (I : Inv n E S) {f : Fr} {r : List Fr} (h0 : S.fr = f :: r) {b : Nat} (hb : b ∈ f.seg) : S.num f.v ≤ S.num b := by
  have q := I.srt
  rw [h0, opn, List.pairwise_append] at q
  obtain ⟨t, e⟩ := (I.frs f (by rw [h0]; exact List.mem_cons_self)).head
  rw [e] at hb
  rcases List.mem_cons.mp hb with z | z
  · rw [z]; exact Nat.le_refl _
  · have q2 := q.2.1
    rw [e, List.pairwise_cons] at q2
    exact Nat.le_of_lt (q2.1 b z)

/-- the top is left, and its segment is a part -/
theorem Inv.close {S : St} (I : Inv n E S) {v : Nat} {sg : List Nat} {r : List Fr} (h0 : S.fr = ⟨v, [], sg⟩ :: r) (hl : S.low v = S.num v) {p : List Nat} (hp : p.Pairwise (· < ·)) (hm : ∀ x, x ∈ p ↔ x ∈ sg) :
    Inv n E { S with fr := r, parts := S.parts ++ [p] } := by
  have ht := I.frs ⟨v, [], sg⟩ (by rw [h0]; exact List.mem_cons_self)
  have ho : opn S.fr = opn r ++ sg := by rw [h0]; rfl
  have hmo : ∀ x, x ∈ opn S.fr ↔ x ∈ opn r ∨ x ∈ sg := fun x => by rw [ho, List.mem_append]
  have ndo := I.opnd
  rw [ho, List.nodup_append] at ndo
  have hdis : ∀ x ∈ sg, x ∉ opn r := fun x h1 h2 => ndo.2.2 x h2 x h1 rfl
  -- from the segment a tie leads into it, or to a part that is done
  have hleave : ∀ u e, u ∈ sg → e < E.length → src E e = u → tgt E e ∈ sg ∨ (tgt E e ∈ S.ord ∧ tgt E e ∉ opn S.fr) := fun u e hu he hs => by
    obtain ⟨q1, q2⟩ := I.top_done h0 hu he hs
    by_cases h : tgt E e ∈ opn S.fr
    · rcases (hmo _).mp h with z | z
      · have := q2 h
        have := I.below h0 z ht.vin
        have e' : S.num (Fr.v ⟨v, [], sg⟩) = S.num v := rfl
        omega
      · exact .inl z
    · exact .inr ⟨q1, h⟩
  -- whom v reaches
  have hreach : ∀ x, Rch E v x → x ∈ sg ∨ (x ∈ S.ord ∧ x ∉ opn S.fr) := fun x hx => by
    refine Rch.stays (P := fun x => x ∈ sg ∨ (x ∈ S.ord ∧ x ∉ opn S.fr)) (fun a b ha hab => ?_) hx (.inl ht.vin)
    obtain ⟨e, he, hs, rfl⟩ := mem_edge hab
    rcases ha with ha | ⟨ha1, ha2⟩
    · exact hleave a e ha he hs
    · exact .inr (I.closed a ha1 ha2 e he hs)
  have hcl : ∀ x, (x ∈ S.ord ∧ x ∉ opn S.fr) → ∀ y, Rch E x y → y ∈ S.ord ∧ y ∉ opn S.fr := fun x hx y hxy =>
    Rch.stays (P := fun x => x ∈ S.ord ∧ x ∉ opn S.fr) (fun a b ha hab => by
      obtain ⟨e, he, hs, rfl⟩ := mem_edge hab
      exact I.closed a ha.1 ha.2 e he hs) hxy hx
  have hcls : ∀ x, x ∈ sg ↔ Mut E v x := fun x => by
    refine ⟨fun h => ht.comp x h, fun h => ?_⟩
    rcases hreach x h.1 with z | z
    · exact z
    · have := (hcl x z v h.2).2
      exact absurd ((hmo v).mpr (.inr ht.vin)) this
  have hnot : ∀ x, x ∉ opn r ↔ (x ∉ opn S.fr ∨ x ∈ sg) := fun x => by
    rw [hmo]
    by_cases a : x ∈ opn r
    · simp [a]; exact fun h => hdis x h a
    · by_cases b : x ∈ sg <;> simp [a, b]
  refine ⟨I.nd, I.lt, I.numlt, fun x hx => I.sub x ((hmo x).mpr (.inl hx)), ?_, fun f hf => ?_, ?_, ?_, ?_, ?_, ?_, ?_⟩
  · have q := I.srt
    rw [ho, List.pairwise_append] at q
    exact q.1
  · have hf' : f ∈ S.fr := by rw [h0]; exact List.mem_cons_of_mem _ hf
    have ok := I.frs f hf'
    have hvr : f.v ∈ opn r := mem_opn.mpr ⟨f, hf, ok.vin⟩
    refine ⟨ok.head, ok.comp, ok.lowle, ?_, ok.left, fun u hu e he hs => ?_⟩
    · obtain ⟨w, hw, e1, e2⟩ := ok.lowat
      refine ⟨w, ?_, e1, e2⟩
      rcases (hmo w).mp hw with z | z
      · exact z
      · have h1 := I.below h0 hvr z
        have h2 := ok.lowle
        omega
    · rcases ok.done u hu e he hs with q | ⟨q1, q2⟩
      · exact .inl q
      · exact .inr ⟨q1, fun z => q2 ((hmo _).mpr (.inl z))⟩
  · have c := I.chain
    rw [h0] at c
    cases r with
    | nil => trivial
    | cons g r => exact c.2
  · intro u hu hun e he hs
    show tgt E e ∈ S.ord ∧ tgt E e ∉ opn r
    rcases (hnot u).mp hun with z | z
    · obtain ⟨q1, q2⟩ := I.closed u hu z e he hs
      exact ⟨q1, (hnot _).mpr (.inl q2)⟩
    · rcases hleave u e z he hs with y | ⟨y1, y2⟩
      · exact ⟨I.sub _ ((hmo _).mpr (.inr y)), hdis _ y⟩
      · exact ⟨y1, (hnot _).mpr (.inl y2)⟩
  · intro q hq
    rcases List.mem_append.mp hq with z | z
    · exact I.pcls q z
    · rw [List.mem_singleton] at z
      subst z
      exact ⟨v, (hm v).mpr ht.vin, hp, fun x => (hm x).trans (hcls x)⟩
  · intro q hq x hx
    show x ∈ S.ord ∧ x ∉ opn r
    rcases List.mem_append.mp hq with z | z
    · obtain ⟨q1, q2⟩ := I.pmem q z x hx
      exact ⟨q1, (hnot x).mpr (.inl q2)⟩
    · rw [List.mem_singleton] at z
      subst z
      have hxs := (hm x).mp hx
      exact ⟨I.sub x ((hmo x).mpr (.inr hxs)), hdis x hxs⟩
  · intro u hu hun
    rcases (hnot u).mp hun with z | z
    · obtain ⟨q, hq, huq⟩ := I.pall u hu z
      exact ⟨q, List.mem_append_left _ hq, huq⟩
    · exact ⟨p, List.mem_append_right _ (List.mem_singleton.mpr rfl), (hm u).mpr z⟩
  · show (S.parts ++ [p]).Pairwise _
    rw [List.pairwise_append]
    refine ⟨I.pdis, List.pairwise_singleton _ _, fun q hq p' hp' x hx hx' => ?_⟩
    rw [List.mem_singleton] at hp'
    subst hp'
    exact (I.pmem q hq x hx).2 ((hmo x).mpr (.inr ((hm x).mp hx')))

/-- the top is left without a part: there is a frame below, and it takes the segment over -/
theorem Inv.merge {S : St} (I : Inv n E S) {v : Nat} {sg : List Nat} {r : List Fr} (h0 : S.fr = ⟨v, [], sg⟩ :: r) (hl : S.low v ≠ S.num v) :
    ∃ g r', r = g :: r' ∧ Inv n E { S with low := up S.low g.v (min (S.low g.v) (S.low v)), fr := ⟨g.v, g.left, g.seg ++ sg⟩ :: r' } := by
  have ht := I.frs ⟨v, [], sg⟩ (by rw [h0]; exact List.mem_cons_self)
  have ho : opn S.fr = opn r ++ sg := by rw [h0]; rfl
  have hmo : ∀ x, x ∈ opn S.fr ↔ x ∈ opn r ∨ x ∈ sg := fun x => by rw [ho, List.mem_append]
  obtain ⟨w, hw, hwn, hvw⟩ := ht.lowat
  have hlow : S.low v < S.num v := by
    have : S.low v ≤ S.num v := ht.lowle
    omega
  have hwr : w ∈ opn r := by
    rcases (hmo w).mp hw with z | z
    · exact z
    · have h1 : S.num v ≤ S.num w := I.first h0 z
      have h2 : S.num w = S.low v := hwn
      omega
  cases r with
  | nil => simp [opn] at hwr
  | cons g r' =>
    refine ⟨g, r', rfl, ?_⟩
    have hg : g ∈ S.fr := by rw [h0]; exact List.mem_cons_of_mem _ List.mem_cons_self
    have okg := I.frs g hg
    have c := I.chain
    rw [h0] at c
    have hgv : (g.v, v) ∈ E := c.1
    have hwg : Rch E w g.v := chain_up c.2 (fun f hf => I.frs f (by rw [h0]; exact List.mem_cons_of_mem _ hf)) w hwr
    have hmut : Mut E g.v v := ⟨.edge hgv, hvw.trans hwg⟩
    have hopn : opn (⟨g.v, g.left, g.seg ++ sg⟩ :: r') = opn S.fr := by
      rw [ho]
      show opn r' ++ (g.seg ++ sg) = (opn r' ++ g.seg) ++ sg
      rw [List.append_assoc]
    have hnv : ∀ f ∈ r', f.v ≠ g.v := fun f hf e => by
      have h1 : f.v ∈ opn r' := mem_opn.mpr ⟨f, hf, (I.frs f (by rw [h0]; exact List.mem_cons_of_mem _ (List.mem_cons_of_mem _ hf))).vin⟩
      have nd := I.opnd
      rw [ho, opn, List.append_assoc, List.nodup_append] at nd
      exact nd.2.2 _ h1 _ (List.mem_append_left _ okg.vin) e
    have hlt : S.num g.v < S.num v := I.below h0 (mem_opn.mpr ⟨g, List.mem_cons_self, okg.vin⟩) ht.vin
    refine ⟨I.nd, I.lt, I.numlt, by rw [hopn]; exact I.sub, by rw [hopn]; exact I.srt, fun f hf => ?_, ?_, by rw [hopn]; exact I.closed, I.pcls, by rw [hopn]; exact I.pmem, by rw [hopn]; exact I.pall, I.pdis⟩
    · rcases List.mem_cons.mp hf with rfl | hf
      · refine ⟨?_, ?_, ?_, ?_, okg.left, fun u hu e he hs => ?_⟩
        · obtain ⟨t, e⟩ := okg.head
          exact ⟨t ++ sg, by show g.seg ++ sg = _; rw [e]; rfl⟩
        · intro u hu
          rcases List.mem_append.mp hu with z | z
          · exact okg.comp u z
          · exact hmut.trans (ht.comp u z)
        · show up S.low g.v (min (S.low g.v) (S.low v)) g.v ≤ S.num g.v
          rw [up_same]; exact Nat.le_trans (Nat.min_le_left _ _) okg.lowle
        · show ∃ w ∈ opn (⟨g.v, g.left, g.seg ++ sg⟩ :: r'), S.num w = up S.low g.v (min (S.low g.v) (S.low v)) g.v ∧ Rch E g.v w
          rw [hopn, up_same]
          by_cases h : S.low g.v ≤ S.low v
          · rw [Nat.min_eq_left h]; exact okg.lowat
          · rw [Nat.min_eq_right (by omega)]
            exact ⟨w, hw, hwn, hmut.1.trans hvw⟩
        · show (u = g.v ∧ e ∈ g.left) ∨ (tgt E e ∈ S.ord ∧ (tgt E e ∈ opn (⟨g.v, g.left, g.seg ++ sg⟩ :: r') → up S.low g.v (min (S.low g.v) (S.low v)) g.v ≤ S.num (tgt E e)))
          rw [hopn, up_same]
          rcases List.mem_append.mp hu with z | z
          · rcases okg.done u z e he hs with q | ⟨q1, q2⟩
            · exact .inl q
            · exact .inr ⟨q1, fun y => Nat.le_trans (Nat.min_le_left _ _) (q2 y)⟩
          · obtain ⟨q1, q2⟩ := I.top_done h0 z he hs
            exact .inr ⟨q1, fun y => Nat.le_trans (Nat.min_le_right _ _) (q2 y)⟩
      · have ok := I.frs f (by rw [h0]; exact List.mem_cons_of_mem _ (List.mem_cons_of_mem _ hf))
        have el : up S.low g.v (min (S.low g.v) (S.low v)) f.v = S.low f.v := up_ne (hnv f hf)
        refine ⟨ok.head, ok.comp, ?_, ?_, ok.left, ?_⟩
        · show up S.low g.v (min (S.low g.v) (S.low v)) f.v ≤ S.num f.v
          rw [el]; exact ok.lowle
        · show ∃ w ∈ opn (⟨g.v, g.left, g.seg ++ sg⟩ :: r'), S.num w = up S.low g.v (min (S.low g.v) (S.low v)) f.v ∧ Rch E f.v w
          rw [hopn, el]; exact ok.lowat
        · show ∀ u ∈ f.seg, ∀ e, e < E.length → src E e = u → (u = f.v ∧ e ∈ f.left) ∨ (tgt E e ∈ S.ord ∧ (tgt E e ∈ opn (⟨g.v, g.left, g.seg ++ sg⟩ :: r') → up S.low g.v (min (S.low g.v) (S.low v)) f.v ≤ S.num (tgt E e)))
          rw [hopn, el]; exact ok.done
    · cases r' with
      | nil => trivial
      | cons g' r'' => exact c.2

/-- nothing is met -/
def St.new : St := ⟨[], fun _ => 0, fun _ => 0, [], []⟩
theorem Inv.new : Inv n E St.new :=
  ⟨List.nodup_nil, fun _ h => (by cases h), fun _ h => (by cases h), fun _ h => (by cases h), .nil, fun _ h => (by cases h), trivial, fun _ h => (by cases h), fun _ h => (by cases h), fun _ h => (by cases h), fun _ h => (by cases h), .nil⟩

/-! ### the measure -/
/-- what the nodes not met will cost -/
def rest (n : Nat) (E : List (Nat × Nat)) (ord : List Nat) : Nat := (((List.range n).filter fun v => decide (v ∉ ord)).map fun v => (adj E v).length + 1).sum
def frs (fs : List Fr) : Nat := (fs.map fun f => f.left.length + 1).sum
def cost (n : Nat) (E : List (Nat × Nat)) (S : St) : Nat := rest n E S.ord + frs S.fr

theorem rest_met {ord : List Nat} {b : Nat} (hb : b ∉ ord) (hbn : b < n) : rest n E (ord ++ [b]) + ((adj E b).length + 1) = rest n E ord := by
  unfold rest
  have key : ∀ l : List Nat, l.Nodup → b ∈ l →
      ((l.filter fun v => decide (v ∉ ord ++ [b])).map fun v => (adj E v).length + 1).sum + ((adj E b).length + 1) = ((l.filter fun v => decide (v ∉ ord)).map fun v => (adj E v).length + 1).sum := by
    intro l
    induction l with
    | nil => intro _ h; cases h
    | cons a t ih =>
      intro nd hm
      obtain ⟨hat, ndt⟩ := List.nodup_cons.mp nd
      by_cases hab : a = b
      · subst hab
        have e1 : (t.filter fun v => decide (v ∉ ord ++ [a])) = t.filter fun v => decide (v ∉ ord) := List.filter_congr fun v hv => by
          have : v ≠ a := fun e => hat (e ▸ hv)
          simp [this]
        rw [List.filter_cons_of_neg (by simp), List.filter_cons_of_pos (by simp [hb]), e1, List.map_cons, List.sum_cons]
        omega
      · have hm' : b ∈ t := (List.mem_cons.mp hm).resolve_left fun e => hab e.symm
        have := ih ndt hm'
        by_cases ho : a ∈ ord
        · rw [List.filter_cons_of_neg (by simp [ho]), List.filter_cons_of_neg (by simp [ho])]
          exact this
        · rw [List.filter_cons_of_pos (by simp [ho, hab]), List.filter_cons_of_pos (by simp [ho]), List.map_cons, List.map_cons, List.sum_cons, List.sum_cons]
          omega
  exact key _ List.nodup_range (List.mem_range.mpr hbn)

theorem cost_push {S : St} {v : Nat} {l : List Nat} {e0 : Nat} {sg : List Nat} {r : List Fr} (h0 : S.fr = ⟨v, l ++ [e0], sg⟩ :: r) (hb : tgt E e0 ∉ S.ord) (hbn : tgt E e0 < n) :
    cost n E (pushed E S (⟨v, l, sg⟩ :: r) (tgt E e0)) < cost n E S := by
  have := rest_met (E := E) hb hbn
  unfold cost
  rw [h0]
  show rest n E (S.ord ++ [tgt E e0]) + frs (⟨tgt E e0, adj E (tgt E e0), [tgt E e0]⟩ :: ⟨v, l, sg⟩ :: r) < rest n E S.ord + frs (⟨v, l ++ [e0], sg⟩ :: r)
  simp only [frs, List.map_cons, List.sum_cons, List.length_append, List.length_singleton]
  omega

/-! ### the end -/
open Classical in
/-- the nodes below n that come to a and back -/
noncomputable def cls (n : Nat) (E : List (Nat × Nat)) (a : Nat) : List Nat := (List.range n).filter fun x => decide (Mut E a x)
open Classical in
/-- all parts, by their least nodes -/
noncomputable def reps (n : Nat) (E : List (Nat × Nat)) : List Nat := (List.range n).filter fun a => decide (∀ b, b < a → ¬ Mut E a b)
noncomputable def sccs (n : Nat) (E : List (Nat × Nat)) : List (List Nat) := (reps n E).map (cls n E)

theorem mem_cls {a x : Nat} : x ∈ cls n E a ↔ x < n ∧ Mut E a x := by
  unfold cls
  rw [List.mem_filter, List.mem_range]
  simp only [decide_eq_true_eq]
theorem cls_sorted (a : Nat) : (cls n E a).Pairwise (· < ·) := List.Pairwise.filter _ List.pairwise_lt_range
theorem mem_reps {a : Nat} : a ∈ reps n E ↔ a < n ∧ ∀ b, b < a → ¬ Mut E a b := by
  unfold reps
  rw [List.mem_filter, List.mem_range]
  simp only [decide_eq_true_eq]
theorem reps_sorted : (reps n E).Pairwise (· < ·) := List.Pairwise.filter _ List.pairwise_lt_range
theorem cls_congr {a b : Nat} (h : Mut E a b) : cls n E a = cls n E b := by
  unfold cls
  exact List.filter_congr fun x _ => decide_eq_decide.mpr ⟨fun k => h.symm.trans k, fun k => h.trans k⟩
/-- a list that rises is told by its members -/
theorem sorted_ext {l m : List Nat} (hl : l.Pairwise (· < ·)) (hm : m.Pairwise (· < ·)) (h : ∀ x, x ∈ l ↔ x ∈ m) : l = m := by
  have p : l.Perm m := (List.perm_ext_iff_of_nodup (hl.imp fun h => Nat.ne_of_lt h) (hm.imp fun h => Nat.ne_of_lt h)).mpr h
  exact p.eq_of_pairwise (le := fun a b => a < b) (fun a b _ _ h1 h2 => absurd h1 (Nat.lt_asymm h2)) hl hm
/-- the head of the part of a least node is that node -/
theorem cls_head {a : Nat} (h : a ∈ reps n E) : ∃ r, cls n E a = a :: r := by
  obtain ⟨han, hmin⟩ := mem_reps.mp h
  have hm : a ∈ cls n E a := mem_cls.mpr ⟨han, Mut.refl a⟩
  cases e : cls n E a with
  | nil => rw [e] at hm; cases hm
  | cons x r =>
    have hx : x ∈ cls n E a := by rw [e]; exact List.mem_cons_self
    have hs := cls_sorted (n := n) (E := E) a
    rw [e, List.pairwise_cons] at hs
    rw [e] at hm
    rcases List.mem_cons.mp hm with z | z
    · exact ⟨r, by rw [z]⟩
    · exact absurd (mem_cls.mp hx).2 (hmin x (hs.1 a z))
theorem rep_of {a : Nat} (h : a < n) : ∃ m, m ∈ reps n E ∧ Mut E a m := by
  have : ∀ k a, a ≤ k → a < n → ∃ m, m ∈ reps n E ∧ Mut E a m := by
    intro k
    induction k with
    | zero =>
      intro a hk ha
      have : a = 0 := by omega
      subst this
      exact ⟨0, mem_reps.mpr ⟨ha, fun b hb => by omega⟩, Mut.refl 0⟩
    | succ k ih =>
      intro a hk ha
      by_cases hmin : ∀ b, b < a → ¬ Mut E a b
      · exact ⟨a, mem_reps.mpr ⟨ha, hmin⟩, Mut.refl a⟩
      · have : ∃ b, b < a ∧ Mut E a b := Classical.byContradiction fun hc => hmin fun b hb hm => hc ⟨b, hb, hm⟩
        obtain ⟨b, hb, hm⟩ := this
        obtain ⟨m, h1, h2⟩ := ih b (by omega) (by omega)
        exact ⟨m, h1, hm.trans h2⟩
  exact this a a (Nat.le_refl _) h
theorem rep_one {a b : Nat} (ha : a ∈ reps n E) (hb : b ∈ reps n E) (h : Mut E a b) : a = b := by
  rcases Nat.lt_trichotomy a b with z | z | z
  · exact absurd h.symm ((mem_reps.mp hb).2 a z)
  · exact z
  · exact absurd h ((mem_reps.mp ha).2 b z)
theorem sccs_nodup : (sccs n E).Nodup := by
  unfold sccs
  show List.Pairwise (· ≠ ·) _
  rw [List.pairwise_map]
  refine (reps_sorted (n := n) (E := E)).imp_of_mem fun {a b} ha hb hlt e => ?_
  obtain ⟨r, h1⟩ := cls_head ha
  obtain ⟨t, h2⟩ := cls_head hb
  rw [h1, h2] at e
  have := (List.cons.inj e).1
  omega

theorem Inv.perm {S : St} (I : Inv n E S) (h0 : S.fr = []) (hall : ∀ v, v < n → v ∈ S.ord) : S.parts.Perm (sccs n E) := by
  have hop : ∀ x, x ∉ opn S.fr := fun x => by rw [h0]; simp [opn]
  have hcl : ∀ p ∈ S.parts, ∃ a, a < n ∧ p = cls n E a := fun p hp => by
    obtain ⟨a, ha, hs, hm⟩ := I.pcls p hp
    refine ⟨a, I.lt a (I.pmem p hp a ha).1, sorted_ext hs (cls_sorted a) fun x => ?_⟩
    rw [mem_cls]
    exact ⟨fun h => ⟨I.lt x (I.pmem p hp x h).1, (hm x).mp h⟩, fun h => (hm x).mpr h.2⟩
  refine (List.perm_ext_iff_of_nodup ?_ sccs_nodup).mpr fun p => ⟨fun hp => ?_, fun hp => ?_⟩
  · refine I.pdis.imp_of_mem fun {p q} hp _ hd e => ?_
    obtain ⟨a, ha, _⟩ := I.pcls p hp
    exact hd a ha (e ▸ ha)
  · obtain ⟨a, han, rfl⟩ := hcl p hp
    obtain ⟨m, hm, hmut⟩ := rep_of (E := E) han
    rw [cls_congr hmut]
    exact List.mem_map.mpr ⟨m, hm, rfl⟩
  · obtain ⟨m, hm, rfl⟩ := List.mem_map.mp hp
    have hmn := (mem_reps.mp hm).1
    obtain ⟨q, hq, hmq⟩ := I.pall m (hall m hmn) (hop m)
    obtain ⟨a, han, rfl⟩ := hcl q hq
    rw [← cls_congr (mem_cls.mp hmq).2]
    exact hq
end Tj
namespace K31
open PySem PySem.Spec PyProof.Rows L2

/-! ### sorted(xs) of data -/
section
variable {X : Cx} {pins : List (Addr × Obj)} {σ : L2.St} {H : Hp} {s : Shared}

theorem each_in {β : Type} {enc : β → PyData} {K : PySem.W.Frag} : ∀ {xs : List V} {its : List Value} {bs : List β}, Vals xs its → DpAll K H xs (bs.map enc) →
    PySem.W.EachIs (fun (v : Value) (b : β) => ∃ x : V, RelV x v ∧ Dp K H x (enc b)) its bs
  | _, _, [], .nil, .nil => .nil
  | _, _, b :: bs, .cons r rs, .cons d ds => .cons ⟨_, r, d⟩ (each_in rs ds)

theorem each_out {β : Type} {enc : β → PyData} {K : PySem.W.Frag} : ∀ {its : List Value} {bs : List β},
    PySem.W.EachIs (fun (v : Value) (b : β) => ∃ x : V, RelV x v ∧ Dp K H x (enc b)) its bs → ∃ ys : List V, Vals ys its ∧ DpAll K H ys (bs.map enc)
  | _, _, .nil => ⟨[], .nil, .nil⟩
  | _, _, .cons ⟨x, r, d⟩ t => by
    obtain ⟨ys, h1, h2⟩ := each_out t
    exact ⟨x :: ys, .cons r h1, .cons d h2⟩

theorem each_reads (I : Inv X pins σ H s) {β : Type} {enc : β → PyData} : ∀ {its : List Value} {bs : List β},
    PySem.W.EachIs (fun (v : Value) (b : β) => ∃ x : V, RelV x v ∧ Dp X.K H x (enc b)) its bs → PySem.W.EachIs (fun v b => ∃ as, Reads s.heap v (enc b) as) its bs
  | _, _, .nil => .nil
  | _, _, .cons ⟨x, r, d⟩ t => .cons (Dp.reads I _ _ _ d r) (each_reads I t)

def rSortD (K : PySem.W.Frag) : List V → Hp → VK → Prop := fun vs H Q => ∃ (β : Type) (bs : List β) (enc : β → PyData) (a : Addr) (xs : List V),
  vs = [V.ref a] ∧ SqL K H a xs ∧ DpAll K H xs (bs.map enc) ∧ PySem.W.AllAlike (bs.map enc) ∧ PySem.W.Sortable (bs.map enc) ∧ (∀ b ∈ bs, (enc b).depth ≤ 60) ∧
  ∀ (ys : List V) (p : Addr), DpAll K H ys ((bs.mergeSort (PySem.W.dataLe false enc)).map enc) → ys.length = xs.length → H p = none → Q (.ref p) (upd H p (.lst ys))

theorem cr_sortedD (hu : X.A.units + 64 < cLine) : CallR X (.builtin "sorted") (rSortD X.K) := by
  intro pins s σ H vs us Q I r h
  obtain ⟨β, bs, enc, a, xs, rfl, hs, hd, hal, hk, hdep, q⟩ := h
  obtain ⟨its, rv, hl, hz⟩ := I.list hs
  rw [Vals.ref1 r]
  have e := each_in rv hd
  have er := each_reads I e
  have hlen := e.length
  have hvl := rv.length
  refine PySem.W.sorted_data (R := fun (v : Value) (b : β) => ∃ x : V, RelV x v ∧ Dp X.K H x (enc b)) hl.isList e er hal hk (by omega) (fun b hb => ?_) fun out h1 h2 => ?_
  · have := hdep b hb
    omega
  · obtain ⟨ys, v1, v2⟩ := each_out h2
    obtain ⟨ep, he'⟩ := PyProof.Rows.sortedAll_at s.heap its out.toArray
    have hy := v1.length
    have hyl : ys.length = xs.length := by omega
    exact ⟨.ref _, upd H (s.heap.objs.size + 1) (.lst ys), I.laid (t' := s.toks) (fun _ _ => PyProof.Rows.sortedAll_old) (Nat.le_succ _) ⟨by omega, out, ep, v1, he'⟩, rfl, q ys _ v2 hyl (I.hok.fresh (Nat.le_succ _))⟩

/-! ### max(t) of a tuple of ints -/
def rMaxT (K : PySem.W.Frag) : List V → Hp → VK → Prop := fun vs H Q => ∃ (a : Addr) (n : Int) (ns : List Int), vs = [V.ref a] ∧ SqT K H a ((n :: ns).map V.int) ∧ Q (.int (ns.foldl max n)) H
theorem dp_ints {K : PySem.W.Frag} {H : Hp} : ∀ ns : List Int, DpAll K H (ns.map V.int) (ns.map PyData.int)
  | [] => .nil
  | n :: ns => .cons (.int n) (dp_ints ns)
theorem depthAll_ints : ∀ ns : List Int, PyData.depthAll (ns.map .int) = 0 := PySem.W.depth_ints
theorem cr_maxT (hc : X.calm = true) (hu : X.A.units + 64 < cLine) : CallR X (.builtin "max") (rMaxT X.K) := by
  intro pins s σ H vs us Q I r h
  obtain ⟨a, n, ns, rfl, hs, q⟩ := h
  obtain ⟨its, rv, ht, _⟩ := I.tuple hs
  rw [Vals.ref1 r]
  obtain ⟨as, hr⟩ := Dp.readsAll I ((n :: ns).map PyData.int) _ its (dp_ints (n :: ns)) rv
  refine PySem.W.max_tuple_data (x := .int n) (xs := ns.map .int) (I.ok.hd hc) (vs := its.toArray) ht (by simpa using hr) ⟨?_, ?_⟩ ?_ fun i v h' tk bs hi hrd hk => ?_
  · intro x hx y hy
    rw [← List.map_cons] at hx hy
    obtain ⟨i, _, rfl⟩ := List.mem_map.mp hx
    obtain ⟨j, _, rfl⟩ := List.mem_map.mp hy
    rfl
  · intro x hx e
    rw [← List.map_cons] at hx
    obtain ⟨i, _, rfl⟩ := List.mem_map.mp hx
    cases e
  · rw [← List.map_cons, depthAll_ints]
    omega
  · rw [PySem.W.maxD_ints] at hrd
    cases hrd
    exact ⟨.int _, H, I.kept hk, ⟨_, rfl⟩, q⟩
end
end K31
namespace K31
open PySem PySem.Spec PyProof.Rows L2

/-! ### enumerate(t) of a tuple -/
def Iet (K : PySem.W.Frag) (a : Addr) : It :=
  ⟨fun i H => ∃ (xs : List V) (x : V), SqT K H a xs ∧ xs[i]? = some x,
   fun i H v H' => ∃ T x, v = .ref T ∧ H T = none ∧ H' = upd H T (.tup [.int (i : Nat), x]) ∧ ∀ xs, SqT K H a xs → xs[i]? = some x,
   fun i H => ∃ xs : List V, SqT K H a xs ∧ i = xs.length⟩

theorem turn_enumT {P : Program} {w : World} {K : PySem.W.Frag} {elts : List Expr} {kk : Nat} {tpos : Pos} (a e it : Addr) (hai : a ≠ it) (hae : a ≠ e) :
    Turn P w K (.Tuple elts kk tpos) (Iet K a) [e, it] e (fun i h => (∃ old, IsEnum h e it ((i : Nat) : Int) old) ∧ h.IsTupleIter it a i ∧ e ≠ it) where
  mem := List.mem_cons_self
  obj := fun i h st b hb => by
    obtain ⟨⟨old, he⟩, ⟨o, ho, _, hd⟩, _⟩ := st
    rcases List.mem_cons.mp hb with z | z
    · subst z
      exact ⟨_, he, fun v q => nomatch q⟩
    · rw [List.mem_singleton] at z
      subst z
      exact ⟨o, ho, fun v q => by rw [hd] at q; cases q⟩
  keep := fun i h h' st k => by
    obtain ⟨⟨old, he⟩, hi, hne⟩ := st
    exact ⟨⟨old, k e List.mem_cons_self _ he⟩, hi.at fun o q => k it (List.mem_cons_of_mem _ List.mem_cons_self) o q, hne⟩
  item := by
    intro X hP hw hK hc i pins s σ H E I hf st hg
    subst hP hw hK
    obtain ⟨⟨old, he⟩, hit, hne⟩ := st
    obtain ⟨xs, x, hq, hx⟩ := hg
    obtain ⟨its, rv, ht, hz⟩ := I.tuple hq
    obtain ⟨u, hu, ru⟩ := rv.get hx
    have hel : e < s.heap.objs.size := Heap.lt_size he
    have hil : it < s.heap.objs.size := by
      obtain ⟨_, q, _⟩ := hit
      exact Heap.lt_size q
    have hlt : i < its.toArray.size := by
      have := (List.getElem?_eq_some_iff.mp hu).1
      rw [List.size_toArray]
      exact this
    have hd0 : X.A.in1.handled = none := by
      have := I.ok.hd hc
      simpa using this
    have hef : e ∉ [it, a] := by
      simp only [List.mem_cons, List.not_mem_nil, or_false, not_or]
      exact ⟨hne, fun z => hae z.symm⟩
    refine wpAny_pyNext_enum_itemD (Draws.tuple hd0 it a hai its.toArray) he ⟨hit, ht⟩ hlt hne hef fun y h' tk hy ho hst hT hsz hk => ?_
    have ey : y = u := by
      have : its[i]? = some y := by simpa using hy
      rw [hu] at this
      exact (Option.some.inj this).symm
    subst ey
    refine ⟨_, rfl, wpAny_letOwnedTupleGo_enum (s := { s with heap := h', toks := tk + 1 }) ho fun h2 he2 sb => ?_⟩
    have hT2 : h2.get? s.heap.objs.size = some { cls := .type "tuple", data := .seq #[.int i tk, y] } := (sb.2 _ (Nat.ne_of_gt hel)).trans hT
    have new : ObjOk X.prog X.w (upd H s.heap.objs.size (.tup [.int (i : Nat), x])) h2 s.heap.objs.size (.tup [.int (i : Nat), x]) :=
      ⟨by show 2 ≤ sizeLine; decide, [.int i tk, y], .cons ⟨_, rfl⟩ (.cons ru .nil), ⟨_, hT2, rfl, _, rfl⟩⟩
    have hold : ∀ b ob, b ∉ [e, it] → s.heap.get? b = some ob → h2.get? b = some ob := fun b ob hb q => by
      have n1 : b ≠ e := fun z => hb (by rw [z]; exact List.mem_cons_self)
      have n2 : b ≠ it := fun z => hb (by rw [z]; exact List.mem_cons_of_mem _ List.mem_cons_self)
      exact (sb.2 b n1).trans (hk b ob n1 n2 q)
    have I1 : Inv X pins σ (upd H s.heap.objs.size (.tup [.int (i : Nat), x])) { s with heap := h2, toks := tk + 1 } :=
      I.turnedNew (ch := [e, it]) hold hf (Nat.le_refl _) new
    refine ⟨.ref s.heap.objs.size, _, I1, rfl, ⟨_, x, rfl, I.hok.fresh (Nat.le_refl _), rfl, fun ys hy => by rw [I.tuple_inj hy hq]; exact hx⟩, ⟨⟨y, ?_⟩, hst.1.at fun o q => (sb.2 it (Ne.symm hne)).trans q, hne⟩, fun b hb => ?_⟩
    · have e1 : ((i + 1 : Nat) : Int) = (i : Int) + 1 := by omega
      rw [e1]
      exact he2
    · have hb' : b < s.heap.objs.size := by
        rcases List.mem_cons.mp hb with z | z
        · rw [z]; exact hel
        · rw [List.mem_singleton] at z
          rw [z]; exact hil
      rw [upd_ne (Nat.ne_of_lt hb')]
      exact (hf b hb).1
  done := by
    intro X hP hw hK hc i pins s σ H E I hf st hg
    subst hP hw hK
    obtain ⟨⟨old, he⟩, hit, hne⟩ := st
    obtain ⟨xs, hq, hx⟩ := hg
    obtain ⟨its, rv, ht, hz⟩ := I.tuple hq
    have hd0 : X.A.in1.handled = none := by
      have := I.ok.hd hc
      simpa using this
    obtain ⟨f0, f1, f2, f3, f4, f5⟩ := hf it (List.mem_cons_of_mem _ List.mem_cons_self)
    have ei : i = its.toArray.size := by rw [hx, rv.length, List.size_toArray]
    subst ei
    refine wpAny_pyNext_enum_endD (Draws.tuple hd0 it a hai its.toArray) he ⟨hit, ht⟩ fun h' eb => ⟨rfl, I.turned (t' := s.toks) (fun b o hb q => eb b o hb q) f0 f1 f3 f4 f5⟩
  self := fun A i s Q E st h => by
    obtain ⟨⟨_, he⟩, _⟩ := st
    exact wpAny_pyIter_enum he h

theorem new_enumT (l : Addr) (items : Array Value) (n : Nat) (dct : Option Addr) (sl : Array (Option Value)) :
    Meets (Builtin.«enumerate.__new__» ⟨[.type "enumerate", .ref l], []⟩) (fun _ R s =>
      s.heap.get? l = some { cls := .type "tuple", dict := dct, data := .seq items n, slots := sl } ∧
      R (.ok (.ret (.ref (s.heap.push { cls := .type "tuple_iterator", data := .fields #[.ref l, .int 0 0] }).objs.size)))
        { s with heap := (s.heap.push { cls := .type "tuple_iterator", data := .fields #[.ref l, .int 0 0] }).push { cls := .type "enumerate", data := .fields #[.none, .bool false, .ref s.heap.objs.size, rawInt 0, .none, .none] } }) :=
  .of_wp fun prog w A R s h => by
    obtain ⟨hp, g, d, tk, os⟩ := s
    obtain ⟨hl, h⟩ := h
    have hsub := sub_enumerate
    have hT : Heap.IsTuple (Shared.heap ⟨hp, g, d, tk, os⟩) l items := ⟨_, hl, rfl, n, rfl⟩
    wp_walk using AutoSeq1.wpAny_loadPart' hl
    refine wpAny_stack_any fun st => wpAny_pure ?_
    split
    · rename_i c _ _ _ _ _
      cases (c == Value.type "enumerate") <;>
        (wp_walk using AutoSeq1.wpAny_loadPart' hl, wpAny_pyIter_tuple hT
         exact ⟨_, rfl, h⟩)
    · wp_walk using AutoSeq1.wpAny_loadPart' hl, wpAny_pyIter_tuple hT
      exact ⟨_, rfl, h⟩

theorem call_enumT {prog : Program} {w : World} {A : Around} {E : Value → Shared → Prop} {s : Shared} {l : Addr} {items : Array Value} {Q : Value → Shared → Prop} (hL : s.heap.IsTuple l items)
    (h : ∀ h', IsEnum h' (s.heap.objs.size + 1) s.heap.objs.size 0 .none → h'.IsTupleIter s.heap.objs.size l 0 →
      (∀ b o, s.heap.get? b = some o → h'.get? b = some o) → Q (.ref (s.heap.objs.size + 1)) { s with heap := h' }) :
    wpAny (model prog w) A (call (.type "enumerate") [.ref l]) Q E s := by
  obtain ⟨⟨c, dct, dt, sl⟩, hl, hc, n, hd⟩ := hL
  replace hc : c = .type "tuple" := hc
  replace hd : dt = .seq items n := hd
  subst hc hd
  refine callType_new F.called_enumerate (by decide) (F.typeCall_enumerate_1 _) (F.newCall_enumerate_1 _) (fun obj => F.args_object_init_2 obj _) F.entry_enumerate_new (new_enumT l items n dct sl) ⟨hl, ?_⟩
  have hz : (s.heap.push { cls := .type "tuple_iterator", data := .fields #[.ref l, .int 0 0] }).objs.size = s.heap.objs.size + 1 := Heap.size_push ..
  show _ ∧ _
  rw [hz]
  have he : IsEnum ((s.heap.push { cls := .type "tuple_iterator", data := .fields #[.ref l, .int 0 0] }).push { cls := .type "enumerate", data := .fields #[.none, .bool false, .ref s.heap.objs.size, rawInt 0, .none, .none] }) (s.heap.objs.size + 1) s.heap.objs.size 0 .none := by
    have q := Heap.get?_push_size (s.heap.push { cls := .type "tuple_iterator", data := .fields #[.ref l, .int 0 0] })
      (o := { cls := .type "enumerate", data := .fields #[.none, .bool false, .ref s.heap.objs.size, rawInt 0, .none, .none] }) rfl
    rw [hz] at q
    exact q
  exact ⟨⟨_, he, rfl⟩, h _ he ⟨{ cls := .type "tuple_iterator", data := .fields #[.ref l, .int 0 0] }, Heap.get?_push_of_some _ (Heap.get?_push_size _ rfl), rfl, rfl⟩ fun b o x => Heap.get?_push_of_some _ (Heap.get?_push_of_some _ x)⟩

def iEnumT (K : PySem.W.Frag) (ta : TA) : TI := fun σ H R => ta σ H fun vs H1 => ∃ a xs, vs = [.ref a] ∧ SqT K H1 a xs ∧ R (Iet K a) H1
theorem pi_enumT {X : Cx} {e : Expr} {ta : TA} {p pos tpos : Pos} {elts : List Expr} {kk : Nat} (hg : Gl X "enumerate") (hm : X.mg "enumerate" = none) (ha : PA X [e] ta) (hs : starEach [e] X.env = [(false, eval e X.env)] := by rfl) :
    PI X (.Tuple elts kk tpos) (.Call (.Name "enumerate" p) [e] [] pos) (iEnumT X.K ta) := by
  refine ⟨fun pins s σ H R I h => ?_⟩
  refine Call_ (ld_blt I hg hm boot_enumerate (PyProof.Rows.callWith_type1 (thn (ha.run pos pins s σ H _ I h) fun us s1 ⟨vs, H1, I1, r1, q1⟩ => ?_) hs rfl))
  obtain ⟨a, xs, ex, hq, q⟩ := q1
  subst ex
  rw [Vals.ref1 r1]
  obtain ⟨its, rv, ht, hz⟩ := I1.tuple hq
  have hal : a < s1.heap.objs.size := by
    obtain ⟨o, ho, _⟩ := ht
    exact Heap.lt_size ho
  refine call_enumT ht fun h' he hit hk => wpAny_pyIter_enum he ?_
  have I2 : Inv X pins σ H1 { s1 with heap := h' } := I1.kept (t' := s1.toks) hk
  refine ⟨s1.heap.objs.size + 1, [s1.heap.objs.size + 1, s1.heap.objs.size], _, _, H1, rfl, I2,
    turn_enumT a (s1.heap.objs.size + 1) s1.heap.objs.size (Nat.ne_of_lt hal) (Nat.ne_of_lt (Nat.lt_succ_of_lt hal)), ⟨⟨.none, he⟩, hit, Nat.succ_ne_self _⟩, fun b hb => ?_, q⟩
  have hle : s1.heap.objs.size ≤ b := by
    rcases List.mem_cons.mp hb with z | z
    · rw [z]
      exact Nat.le_add_right _ _
    · rw [List.mem_singleton] at z
      rw [z]
      exact Nat.le_refl _
  exact I1.fpOk hle (I1.hok.fresh hle)
end K31
namespace K31
open PySem PySem.Spec PyProof.Rows L2
open L2 (SetR)

/-! ### set(xs) of a list of ints -/
abbrev set0 (w : World) : Obj := { cls := .type "set", dict := none, data := .set #[] 0 (.fresh 0 0 (!w.params.followText "set-order")) }

theorem call_set_listR {P : Program} {w : World} {A : Around} {E : Value → Shared → Prop} {s : Shared} {l : Addr} {items : Array Value} (ns : List Int) {Q : Value → Shared → Prop}
    (hh : A.handled = none) (hl : s.heap.IsList l items) (hit : IntsAre items.toList ns) (hb : ns.length + 1 < scanBound)
    (h : ∀ (h' : Heap) (tk c : Nat), SetR w h' s.heap.objs.size (fun j => decide (j ∈ ns)) c → c ≤ ns.length →
      (∀ b o, s.heap.get? b = some o → h'.get? b = some o) → Q (.ref s.heap.objs.size) { s with heap := h', toks := tk }) :
    wpAny (model P w) A (call (.type "set") [.ref l]) Q E s := by
  have hisz : items.size = ns.length := by
    rw [← IntsAre.length hit, Array.length_toList]
  obtain ⟨c, tl, hmro⟩ := F.called_set.mro
  have hmade := F.called_set.made
  have hsub := F.called_set.sub
  refine wpAny_call (codeAny_of_tree ?_)
  show wpAny _ _ (callAny (.type "set") _) _ _ _
  refine wpAny_pure ⟨Code.quiet_builtin _ (by decide +kernel), codeAny_builtin F.entry_type_call ?_⟩
  rw [Around.under_plain (weight_type_call_type "set" [.ref l] []) rfl]
  have h1 := F.called_set.notType
  have h2 := F.called_set.canCreate
  have hct := F.typeCall_set_1 (.ref l)
  repeat (any_goals (first | assumption | wp_step))
  refine codeAny_mono (code_set_led1 (.ref l) (E := E) (Q₁ := fun obj s1 => obj = .ref s.heap.objs.size ∧ s1 = { s with heap := s.heap.push (set0 w) }) ⟨rfl, rfl⟩) fun r s1 hr => ?_
  cases r with
  | error e => exact hr
  | ok fl =>
    cases fl with
    | ret obj =>
      obtain ⟨rfl, rfl⟩ := hr
      have hS : (s.heap.push (set0 w)).get? s.heap.objs.size = some (set0 w) := Heap.get?_push_size _ rfl
      have hT : Shared.TypeIs { s with heap := s.heap.push (set0 w) } (.ref s.heap.objs.size) "set" := ⟨_, hS, rfl⟩
      have hli := F.called_set.init.lookup
      have hbi := F.called_set.init.bind (.ref s.heap.objs.size)
      repeat (any_goals (first | assumption | wp_step))
      refine codeAny_mono (codeAny_call_builtin (R := wants (fun r s2 => r = .none ∧ ∃ h' tk c, s2 = { s with heap := h', toks := tk } ∧
          SetR w h' s.heap.objs.size (fun j => decide (j ∈ ns)) c ∧ c ≤ ns.length ∧ (∀ b o, s.heap.get? b = some o → h'.get? b = some o)) E)
          F.called_set.init.plain F.entry_set_init (check_set_init_1 hT ?_)) fun r2 s2 hr2 => ?_
      · obtain ⟨ol, hol, hcl, nl, hdl⟩ := hl
        obtain ⟨ocls, odict, odata, oslots⟩ := ol
        simp only at hcl hdl
        subst hcl
        subst hdl
        have hol' : (s.heap.push (set0 w)).get? l = some { cls := .type "list", dict := odict, data := .seq items nl, slots := oslots } := Heap.get?_push_of_some _ hol
        have hsls := F.sub_list_set
        have hslf := F.sub_list_frozenset
        have hne : (Value.type "list" == Value.type "dict") = false := by decide
        have hl1 : (s.heap.push (set0 w)).IsList l items := ⟨_, hol', rfl, nl, rfl⟩
        unfold Builtin.«set.__init__» noKeywords Builtin.Frozenset.updateFrom
        generalize hPI : pyIter = PI
        wp_walk
        subst hPI
        refine wpAny_pyIter_list hl1 ?_
        refine wpAny_bind (wpAny_runValue ?_)
        have hlS : l < s.heap.objs.size := Heap.lt_size hol
        have hh3 : A.in1.in1.in1.handled = none := by simp [hh]
        have hz : (s.heap.push (set0 w)).objs.size = s.heap.objs.size + 1 := Heap.size_push ..
        have hneI : l ≠ (s.heap.push (set0 w)).objs.size := by
          rw [hz]
          exact Nat.ne_of_lt (Nat.lt_succ_of_lt hlS)
        have hSf : s.heap.objs.size ∉ [(s.heap.push (set0 w)).objs.size, l] := by
          rw [hz]
          intro hm
          rcases List.mem_cons.mp hm with e | hm
          · exact Nat.ne_of_lt (Nat.lt_succ_self _) e
          · rw [List.mem_singleton] at hm
            exact Nat.ne_of_gt hlS hm
        have hval : ∀ (i : Nat) (v : Value), items[i]? = some v → ∃ k t, ns[i]? = some k ∧ v = .int k t := fun i v hv => by
          have hi : i < ns.length := by
            rw [← hisz]
            exact (Array.getElem?_eq_some_iff.mp hv).1
          obtain ⟨t, e⟩ := PyProof.Rows.IntsAre.int_at hit i v (by rw [Array.getElem?_toList]; exact hv)
          refine ⟨ns[i], t, List.getElem?_eq_getElem hi, ?_⟩
          rw [e, List.getD_eq_getElem?_getD, List.getElem?_eq_getElem hi]
          rfl
        refine set_update_ints ((Walks.list hh3 _ l hneI items).toS) s.heap.objs.size hSf ns hisz hb hval (items.size - 0) 0 _ (by omega) (Nat.zero_le _)
          ⟨⟨_, Heap.get?_push_size _ rfl, rfl, rfl⟩, (hl1.push _)⟩ ?hS0 ?hR
        case hS0 => exact ⟨0, Nat.le_refl 0, setR_new_at (Heap.get?_push_of_some _ hS)⟩
        case hR =>
          intro s' c' hm hc' hS'
          obtain ⟨h', g2, d', tk', os'⟩ := s'
          have eg : g2 = s.gens := hm.gens
          have ed : d' = s.drawn := hm.drawn
          have eo : os' = s.os := hm.os
          subst eg
          subst ed
          subst eo
          show wpAny _ _ _ _ _ _
          refine wpAny_pure ?_
          show wpAny _ _ (ret Value.none) _ _ _
          rw [hisz] at hc'
          refine wpAny_pure ⟨rfl, h', tk', c', rfl, hS', hc', fun b o e => ?_⟩
          have hb0 : b < s.heap.objs.size := Heap.lt_size e
          refine hm.heap b o (fun hmem => ?_) (Heap.get?_push_of_some _ (Heap.get?_push_of_some _ e))
          rcases List.mem_cons.mp hmem with z | z
          · exact Nat.ne_of_lt hb0 z
          · rw [List.mem_singleton, hz] at z
            exact Nat.ne_of_lt (Nat.lt_succ_of_lt hb0) z
      · cases r2 with
        | error e => exact hr2
        | ok fl2 =>
          cases fl2 with
          | ret r =>
            obtain ⟨rfl, h', tk, c', rfl, hS', hc', hk'⟩ := hr2
            repeat (any_goals (first | assumption | wp_step))
            exact h _ _ _ hS' hc' hk'
          | _ => exact hr2.elim
    | _ => exact hr.elim

section
variable {X : Cx}
def rSetI (K : PySem.W.Frag) (w : World) : List V → Hp → VK → Prop := fun vs H Q => ∃ (a : Addr) (ns : List Int), vs = [V.ref a] ∧ SqL K H a (ns.map V.int) ∧ ns.length ≤ 1000 ∧
  ∀ (p : Addr) (c : Nat), c ≤ ns.length → H p = none → Q (.ref p) (upd H p (SetO w p (fun j => decide (j ∈ ns)) c))
theorem cr_setI (hc : X.calm = true) : CallR X (.type "set") (rSetI X.K X.w) := by
  intro pins s σ H vs us Q I r h
  obtain ⟨a, ns, rfl, hs, hn, q⟩ := h
  obtain ⟨its, rv, hl, hz⟩ := I.list hs
  rw [Vals.ref1 r]
  refine call_set_listR ns (I.ok.hd hc) hl.isList (by simpa using rv.ints) (by unfold scanBound; omega) fun h' tk c R hcn hk => ?_
  exact ⟨.ref _, upd H s.heap.objs.size (SetO X.w s.heap.objs.size (fun j => decide (j ∈ ns)) c), I.laid (t' := tk) hk (Nat.le_refl _) (setO_new R), rfl, q _ c hcn (I.hok.fresh (Nat.le_refl _))⟩
end
end K31
namespace K31
open PySem PySem.Spec PyProof.Rows L2

/-! ### dict(xs), xs a list of pairs (tuple, value), the tuples unlike -/
/-- one pair: the pair's address, its key's address, the key, the value -/
structure PairE where
  t : Addr
  b : Addr
  k : List L2.Key
  v : V

section
variable {X : Cx} {pins : List (Addr × Obj)} {σ : L2.St} {H : Hp} {s : Shared}

theorem pairs_in (I : Inv X pins σ H s) : ∀ (L : List PairE), (∀ x ∈ L, SqT X.K H x.t [.ref x.b, x.v] ∧ H x.b = some (.tup (x.k.map kV))) →
    ∃ us : List Value, Paired (fun (x : PairE) (u : Value) => RelV x.v u ∧ PairAt s.heap x.t (.ref x.b) u) L us
  | [], _ => ⟨[], .nil⟩
  | x :: L, h => by
    obtain ⟨us, hp⟩ := pairs_in I L fun y hy => h y (List.mem_cons_of_mem _ hy)
    obtain ⟨h1, _⟩ := h x List.mem_cons_self
    obtain ⟨its, rv, ht, _⟩ := I.tuple h1
    cases rv with
    | cons r1 rr =>
      cases rr with
      | cons r2 rr =>
        cases rr
        cases r1
        exact ⟨_ :: us, .cons ⟨r2, .inl ht⟩ hp⟩

theorem paired_get {α β : Type} {F : α → β → Prop} : ∀ {l : List α} {m : List β}, Paired F l m → ∀ (j : Nat) (y : β), m[j]? = some y → ∃ x, l[j]? = some x ∧ F x y
  | _, _, .nil, j, y, h => by simp at h
  | _, _, .cons r t, 0, y, h => by
    have e := Option.some.inj h
    exact ⟨_, rfl, e ▸ r⟩
  | _, _, .cons r t, j + 1, y, h => paired_get t j y h

/-- the entries as the model keeps them -/
def entsOf : List PairE → List Value → List (List L2.Key × Addr × Value)
  | x :: L, u :: us => (x.k, x.b, u) :: entsOf L us
  | _, _ => []
theorem entsOf_len : ∀ {L : List PairE} {us : List Value}, L.length = us.length → (entsOf L us).length = L.length
  | [], [], _ => rfl
  | [], _ :: _, h => by simp at h
  | _ :: _, [], h => by simp at h
  | x :: L, u :: us, h => by
    show (entsOf L us).length + 1 = L.length + 1
    rw [entsOf_len (L := L) (us := us) (by simpa using h)]
theorem entsOf_keys : ∀ {L : List PairE} {us : List Value}, L.length = us.length → (entsOf L us).map (·.1) = L.map (·.k)
  | [], [], _ => rfl
  | [], _ :: _, h => by simp at h
  | _ :: _, [], h => by simp at h
  | x :: L, u :: us, h => by
    show x.k :: (entsOf L us).map (·.1) = x.k :: L.map (·.k)
    rw [entsOf_keys (L := L) (us := us) (by simpa using h)]
theorem entsOf_get : ∀ {L : List PairE} {us : List Value} {j : Nat} {x : PairE} {u : Value}, L[j]? = some x → us[j]? = some u → (entsOf L us)[j]? = some (x.k, x.b, u)
  | [], _, j, x, u, h, _ => by simp at h
  | _ :: _, [], j, x, u, _, h => by simp at h
  | y :: L, v :: us, 0, x, u, h, h' => by
    rw [Option.some.inj (show some y = some x from h), Option.some.inj (show some v = some u from h')]
    rfl
  | y :: L, v :: us, j + 1, x, u, h, h' => entsOf_get (L := L) (us := us) (j := j) h h'
theorem entsOf_mem : ∀ {L : List PairE} {us : List Value} {e : List L2.Key × Addr × Value}, e ∈ entsOf L us → ∃ x ∈ L, e.1 = x.k ∧ e.2.1 = x.b
  | [], us, e, h => by cases us <;> cases h
  | _ :: _, [], e, h => by cases h
  | x :: L, u :: us, e, h => by
    rcases List.mem_cons.mp h with rfl | h
    · exact ⟨x, List.mem_cons_self, rfl, rfl⟩
    · obtain ⟨y, hy, q⟩ := entsOf_mem h
      exact ⟨y, List.mem_cons_of_mem _ hy, q⟩
theorem entsOf_pair {G : HO → Prop} : ∀ {L : List PairE} {us : List Value} {h : Heap}, Paired (fun (x : PairE) (u : Value) => RelV x.v u ∧ PairAt h x.t (.ref x.b) u) L us → (∀ x ∈ L, H x.b = some (.tup (x.k.map kV))) →
    Paired (fun (p : List L2.Key × V) (q : List L2.Key × Addr × Value) => p.1 = q.1 ∧ H q.2.1 = some (.tup (p.1.map kV)) ∧ RelV p.2 q.2.2) (L.map fun x => (x.k, x.v)) (entsOf L us)
  | _, _, _, .nil, _ => .nil
  | _, _, _, .cons r t, hH => .cons ⟨rfl, hH _ List.mem_cons_self, r.1⟩ (entsOf_pair (G := G) t fun x hx => hH x (List.mem_cons_of_mem _ hx))

theorem storedAll_new : ∀ (ps xs : List (List L2.Key × Addr × Value)), ((xs ++ ps).map (·.1)).Nodup → storedAllH xs ps = xs ++ ps
  | [], xs, _ => by rw [List.append_nil]; rfl
  | p :: ps, xs, h => by
    have hn : atKey xs p.1 = none := by
      cases e : atKey xs p.1 with
      | none => rfl
      | some q =>
        exfalso
        rw [List.map_append, List.nodup_append] at h
        have hm : p.1 ∈ xs.map (·.1) := by
          unfold atKey at e
          obtain ⟨y, hy, _⟩ := Option.map_eq_some_iff.mp e
          have h1 := List.mem_of_find?_eq_some hy
          have h2 := List.find?_some hy
          exact List.mem_map.mpr ⟨y, h1, by simpa using h2⟩
        exact h.2.2 _ hm _ (by rw [List.map_cons]; exact List.mem_cons_self) rfl
    show storedAllH (storedH xs p.1 p.2.1 p.2.2) ps = xs ++ p :: ps
    rw [storedH_new hn, storedAll_new ps _ (by simpa using h)]
    simp

def rDictT (K : PySem.W.Frag) : List V → Hp → VK → Prop := fun vs H Q => ∃ (a : Addr) (L : List PairE), vs = [V.ref a] ∧ SqL K H a (L.map fun x => V.ref x.t) ∧
  (∀ x ∈ L, SqT K H x.t [.ref x.b, x.v] ∧ H x.b = some (.tup (x.k.map kV))) ∧ (L.map (·.k)).Nodup ∧ ∀ p, H p = none → Q (.ref p) (upd H p (.dT (L.map fun x => (x.k, x.v))))

theorem refs_in : ∀ {L : List PairE} {us : List Value}, Vals (L.map fun x => V.ref x.t) us → us = L.map fun x => Value.ref x.t
  | [], _, .nil => rfl
  | x :: L, _, .cons r t => by
    cases r
    rw [List.map_cons, ← refs_in t]

theorem cr_dictT (hc : X.calm = true) (hu : X.A.units + 64 < cLine) : CallR X (.type "dict") (rDictT X.K) := by
  intro pins s σ H vs us Q I r h
  obtain ⟨a, L, rfl, hs, hx, hnd, q⟩ := h
  obtain ⟨its, rv, hl, hz⟩ := I.list hs
  rw [Vals.ref1 r]
  have ei := refs_in rv
  obtain ⟨ws, hp⟩ := pairs_in I L hx
  have hwl : L.length = ws.length := Paired.length hp
  rw [List.length_map] at hz
  let Ts : Nat → Addr := fun j => (L[j]?.map (·.t)).getD 0
  let ps : List (Value × Value) := (entsOf L ws).map fun e => (Value.ref e.2.1, e.2.2)
  have hpl : ps.length = L.length := by
    show (List.map _ (entsOf L ws)).length = _
    rw [List.length_map, entsOf_len hwl]
  have ha : PlainSeq "list" s.heap a its.toArray := hl
  have hitems : PairItems s.heap its.toArray Ts ps := by
    refine ⟨?_, fun j k v hj => ?_⟩
    · rw [hpl, List.size_toArray, ei, List.length_map]
    · obtain ⟨e, he, hkv⟩ : ∃ e, (entsOf L ws)[j]? = some e ∧ (Value.ref e.2.1, e.2.2) = (k, v) := by
        rw [List.getElem?_map] at hj
        cases q2 : (entsOf L ws)[j]? with
        | none => rw [q2] at hj; cases hj
        | some e => rw [q2] at hj; exact ⟨e, rfl, Option.some.inj hj⟩
      have hjl : j < L.length := by
        rw [← entsOf_len hwl]
        exact (List.getElem?_eq_some_iff.mp he).1
      obtain ⟨u, hu2⟩ : ∃ u, ws[j]? = some u := ⟨ws[j]'(by omega), List.getElem?_eq_getElem (by omega)⟩
      obtain ⟨x, hx1, hx2, hx3⟩ := paired_get hp j u hu2
      have ee := entsOf_get hx1 hu2
      rw [he] at ee
      cases Option.some.inj ee
      cases hkv
      have hT : Ts j = x.t := by
        show (L[j]?.map (·.t)).getD 0 = x.t
        rw [hx1]
        rfl
      refine ⟨?_, by rw [hT]; exact hx3⟩
      rw [ei, hT]
      simp [hx1]
  have hkeys : PairsHaveH (tupleKind (mixKind X.prog X.w)) ps.length (PairRel ps) (entsOf L ws) := by
    refine ⟨by show _ = (List.map _ (entsOf L ws)).length; rw [List.length_map], fun i key v hr => ?_⟩
    have hr' : ps[i]? = some (key, v) := hr
    have : ((entsOf L ws).map fun e => (Value.ref e.2.1, e.2.2))[i]? = some (key, v) := hr'
    rw [List.getElem?_map] at this
    cases q2 : (entsOf L ws)[i]? with
    | none => rw [q2] at this; cases this
    | some e =>
      rw [q2] at this
      cases Option.some.inj this
      exact ⟨e.1, e.2.1, rfl, rfl⟩
  have hst : KeysStay (tupleKind (mixKind X.prog X.w)) s.heap s.heap.objs.size [] (entsOf L ws) := by
    intro h' hk e he
    obtain ⟨x, hxm, e1, e2⟩ := entsOf_mem he
    rw [e1, e2]
    obtain ⟨o, items, n, h1, h2, h3, h4⟩ := key_of I.hok (hx x hxm).2
    exact ⟨o, items, n, hk _ _ (Nat.ne_of_lt (Heap.lt_size h1)) (fun z => nomatch z) h1, h2, h3, h4⟩
  refine call_dict_pairsH (knd := tupleKind (mixKind X.prog X.w)) (PairArg.list a its.toArray Ts ps) (I.ok.hd hc) (show X.A.units + 1 + 1 < cLine by omega) ⟨ha, hitems⟩ hkeys hst (by rw [hpl]; exact hz) fun h' tk hd hk => ?_
  have hk' : ∀ b o, s.heap.get? b = some o → h'.get? b = some o := fun b o e => hk b o (fun z => nomatch z) e
  have hst2 : storedAllH [] (entsOf L ws) = entsOf L ws := storedAll_new _ [] (by rw [List.nil_append, entsOf_keys hwl]; exact hnd)
  rw [hst2] at hd
  have hm : (s.heap.objs.size == sysModules) = false := beq_eq_false_iff_ne.mpr (Nat.ne_of_gt I.big)
  have hn : H s.heap.objs.size = none := I.hok.fresh (Nat.le_refl _)
  have hH : ∀ x ∈ L, (upd H s.heap.objs.size (.dT (L.map fun x => (x.k, x.v)))) x.b = some (.tup (x.k.map kV)) := fun x hxm => by
    rw [upd_ne (ne_of_none (hx x hxm).2 hn)]
    exact (hx x hxm).2
  obtain ⟨o, es, ep, h1, h2, h3, h4, _, h5⟩ := hd
  have new : ObjOk X.prog X.w (upd H s.heap.objs.size (.dT (L.map fun x => (x.k, x.v)))) h' s.heap.objs.size (.dT (L.map fun x => (x.k, x.v))) :=
    ⟨by rw [List.length_map]; exact hz, hm, entsOf L ws, entsOf_pair (G := fun _ => True) hp hH, o, es, ep, h1, h2, h3, h4, h5⟩
  exact ⟨.ref _, _, I.laid (t' := tk) hk' (Nat.le_refl _) new, rfl, q _ hn⟩
end
end K31
namespace K31
open PySem PySem.Spec PyProof.Rows L2

/-! ### f(k = v, ..), no positional argument -/
section
variable {X : Cx} {CX : CXT} {k : Nat} {f : Addr} {fd : FuncData} {ps ks : List Str} {sp : Sp} {E : XK} {x : Str} {p pos : Pos} {kws : List Keyword} {tk : TA} {g : List Value → List Value → List Value} {gV : List V → List V → List V}
theorem pe_callN0 (F : FnOk X.prog X.w X.K X.mg X.base CX k f fd ps sp) (hr : Room k X.A) (hg : Gl X x) (hm : X.mg x = some (.ref f)) (hk : PySem.W.keepIn X.K (.ref f) = true)
    (hb : KBn X.K fd ps 0 ks g gV) (hx : Passes CX X E) (hkw : PK X kws tk)
    (hall : (backToKw pos (keywordEach kws X.env)).all (·.1.isSome) = true := by rfl) (hks : (backToKw pos (keywordEach kws X.env)).filterMap (·.1) = ks := by rfl)
    (hdb : (x == ("__debug__" : Str)) = false := by decide)
    (hpl : ((backTo pos (starEach [] X.env)).any (·.1) || (backToKw pos (keywordEach kws X.env)).any (·.1.isNone)) = false := by rfl) :
    PE X (.Call (.Name x p) [] kws pos) (tCallN 0 ks.length sp gV E tNil tk) := by
  refine ⟨fun pins s σ H Q I h => wpAny_Call_Name_kw (ld_glob I hg hm ?_ hdb)⟩
  refine PySem.W.callWith_KW0 (h₀ := X.base) I.ok.mod.kin hk hall ?_ hpl
  refine thn (hkw.run pos pins s σ H _ I h) fun ws s2 q => ?_
  obtain ⟨zs, H2, I2, rz, l1, l2, q2⟩ := q
  refine ⟨I2.kIn, ?_⟩
  rw [hks]
  exact run_fnN (us := []) (vs := []) F hr hb hx I2 .nil rz rfl l2 q2
end
theorem kbn_all {K : PySem.W.Frag} {x qual : Str} {st : Stmt} {f : Addr} {fd : FuncData} {ps ks : List Str} (F : Fun K x qual st f fd)
    (h : ∀ (kV doc pm : Value) (an : Option Addr) (cdv ct : Value) (ws : List Value), ws.length = ks.length →
      bindArgs (PySem.W.fnOf x qual (defArgs st) (defBody st) (defScope st) .none kV doc pm an cdv ct) ⟨[], ks.zip ws⟩ = pure (ps.zip ws)) :
    KBn K fd ps 0 ks (fun _ ws => ws) (fun _ zs => zs) := by
  obtain ⟨oc, od, kV, doc, pm, an, cdv, ct, osl, rfl, lk, hcd⟩ := F.ex
  refine ⟨fun s us ws _ l1 l2 => ?_, fun _ r => r⟩
  cases us with
  | nil => exact .of_eq (h kV doc pm an cdv ct ws l2)
  | cons _ _ => cases l1
end K31
namespace K31
open PySem L2
def top (i : Nat) : Stmt := PySem.Challenge.pw_suretexts_k31_whole_tables_and_products.main.body.getD i (.Pass ⟨0, 0, 0, 0⟩)
abbrev s_is_integer : Stmt := top 10
abbrev N_is_integer : List PySem.Str := ["value"]
theorem sc_is_integer : FnScope N_is_integer ["value"] (defScope s_is_integer) := ⟨rfl, rfl, rfl, by decide +kernel, rfl, by decide +kernel, by decide +kernel⟩
abbrev s_is_count : Stmt := top 11
abbrev N_is_count : List PySem.Str := ["value"]
theorem sc_is_count : FnScope N_is_count ["value"] (defScope s_is_count) := ⟨rfl, rfl, rfl, by decide +kernel, rfl, by decide +kernel, by decide +kernel⟩
abbrev s_is_list : Stmt := top 12
abbrev N_is_list : List PySem.Str := ["value"]
theorem sc_is_list : FnScope N_is_list ["value"] (defScope s_is_list) := ⟨rfl, rfl, rfl, by decide +kernel, rfl, by decide +kernel, by decide +kernel⟩
abbrev s_is_tie_value : Stmt := top 17
abbrev N_is_tie_value : List PySem.Str := ["places", "value", "one"]
theorem sc_is_tie_value : FnScope N_is_tie_value ["places", "value"] (defScope s_is_tie_value) := ⟨rfl, rfl, rfl, by decide +kernel, rfl, by decide +kernel, by decide +kernel⟩
abbrev s_Web_init : Stmt := inClass (top 18) 0
abbrev N_Web_init : List PySem.Str := ["self", "places", "ties", "tie", "place", "number", "begin", "end"]
theorem sc_Web_init : FnScope N_Web_init ["self", "places", "ties"] (defScope s_Web_init) := ⟨rfl, rfl, rfl, by decide +kernel, rfl, by decide +kernel, by decide +kernel⟩
abbrev s_Web_many : Stmt := inClass (top 18) 2
abbrev N_Web_many : List PySem.Str := ["self"]
theorem sc_Web_many : FnScope N_Web_many ["self"] (defScope s_Web_many) := ⟨rfl, rfl, rfl, by decide +kernel, rfl, by decide +kernel, by decide +kernel⟩
abbrev s_want_web : Stmt := top 19
abbrev N_want_web : List PySem.Str := ["value"]
theorem sc_want_web : FnScope N_want_web ["value"] (defScope s_want_web) := ⟨rfl, rfl, rfl, by decide +kernel, rfl, by decide +kernel, by decide +kernel⟩
abbrev s_are_joined_ties : Stmt := top 20
abbrev N_are_joined_ties : List PySem.Str := ["web", "value", "most", "one", "near", "far"]
theorem sc_are_joined_ties : FnScope N_are_joined_ties ["web", "value", "most"] (defScope s_are_joined_ties) := ⟨rfl, rfl, rfl, by decide +kernel, rfl, by decide +kernel, by decide +kernel⟩
abbrev s_is_walk_value : Stmt := top 21
abbrev N_is_walk_value : List PySem.Str := ["web", "value"]
theorem sc_is_walk_value : FnScope N_is_walk_value ["web", "value"] (defScope s_is_walk_value) := ⟨rfl, rfl, rfl, by decide +kernel, rfl, by decide +kernel, by decide +kernel⟩
abbrev s_want_walk : Stmt := top 22
abbrev N_want_walk : List PySem.Str := ["web", "value"]
theorem sc_want_walk : FnScope N_want_walk ["web", "value"] (defScope s_want_walk) := ⟨rfl, rfl, rfl, by decide +kernel, rfl, by decide +kernel, by decide +kernel⟩
abbrev s_Search_init : Stmt := inClass (top 24) 0
abbrev N_Search_init : List PySem.Str := ["self", "web"]
theorem sc_Search_init : FnScope N_Search_init ["self", "web"] (defScope s_Search_init) := ⟨rfl, rfl, rfl, by decide +kernel, rfl, by decide +kernel, by decide +kernel⟩
abbrev s_Search_meet : Stmt := inClass (top 24) 1
abbrev N_Search_meet : List PySem.Str := ["self", "place"]
theorem sc_Search_meet : FnScope N_Search_meet ["self", "place"] (defScope s_Search_meet) := ⟨rfl, rfl, rfl, by decide +kernel, rfl, by decide +kernel, by decide +kernel⟩
abbrev s_Search_close_part : Stmt := inClass (top 24) 2
abbrev N_Search_close_part : List PySem.Str := ["self", "place", "at"]
theorem sc_Search_close_part : FnScope N_Search_close_part ["self", "place"] (defScope s_Search_close_part) := ⟨rfl, rfl, rfl, by decide +kernel, rfl, by decide +kernel, by decide +kernel⟩
abbrev s_Search_go_from : Stmt := inClass (top 24) 3
abbrev N_Search_go_from : List PySem.Str := ["self", "begin", "stack", "here", "left", "above", "end"]
theorem sc_Search_go_from : FnScope N_Search_go_from ["self", "begin"] (defScope s_Search_go_from) := ⟨rfl, rfl, rfl, by decide +kernel, rfl, by decide +kernel, by decide +kernel⟩
abbrev s_parts_by_search : Stmt := top 25
abbrev N_parts_by_search : List PySem.Str := ["web", "search", "place"]
theorem sc_parts_by_search : FnScope N_parts_by_search ["web"] (defScope s_parts_by_search) := ⟨rfl, rfl, rfl, by decide +kernel, rfl, by decide +kernel, by decide +kernel⟩
abbrev s_is_close_web : Stmt := top 26
abbrev N_is_close_web : List PySem.Str := ["web"]
theorem sc_is_close_web : FnScope N_is_close_web ["web"] (defScope s_is_close_web) := ⟨rfl, rfl, rfl, by decide +kernel, rfl, by decide +kernel, by decide +kernel⟩
abbrev s_want_close : Stmt := top 27
abbrev N_want_close : List PySem.Str := ["web"]
theorem sc_want_close : FnScope N_want_close ["web"] (defScope s_want_close) := ⟨rfl, rfl, rfl, by decide +kernel, rfl, by decide +kernel, by decide +kernel⟩
abbrev s_fall_row : Stmt := top 29
abbrev N_fall_row : List PySem.Str := ["walk", "found", "state", "fall"]
theorem sc_fall_row : FnScope N_fall_row ["walk"] (defScope s_fall_row) := ⟨rfl, rfl, rfl, by decide +kernel, rfl, by decide +kernel, by decide +kernel⟩
abbrev s_table_rows : Stmt := top 30
abbrev N_table_rows : List PySem.Str := ["walk", "many", "falls_told", "found", "state", "tie", "row"]
theorem sc_table_rows : FnScope N_table_rows ["walk", "many"] (defScope s_table_rows) := ⟨rfl, rfl, rfl, by decide +kernel, rfl, by decide +kernel, by decide +kernel⟩
abbrev s_state_by_trying : Stmt := top 31
abbrev N_state_by_trying : List PySem.Str := ["walk", "state", "tie", "read", "length"]
theorem sc_state_by_trying : FnScope N_state_by_trying ["walk", "state", "tie"] (defScope s_state_by_trying) := ⟨rfl, rfl, rfl, by decide +kernel, rfl, by decide +kernel, by decide +kernel⟩
abbrev s_plain_table : Stmt := top 32
abbrev N_plain_table : List PySem.Str := ["web", "walk", "told", "ties", "tie", "state"]
theorem sc_plain_table : FnScope N_plain_table ["web", "walk"] (defScope s_plain_table) := ⟨rfl, rfl, rfl, by decide +kernel, rfl, by decide +kernel, by decide +kernel⟩
abbrev s_table : Stmt := top 33
abbrev N_table : List PySem.Str := ["web", "walk", "told"]
theorem sc_table : FnScope N_table ["web", "walk"] (defScope s_table) := ⟨rfl, rfl, rfl, by decide +kernel, rfl, by decide +kernel, by decide +kernel⟩
abbrev s_falls : Stmt := top 34
abbrev N_falls : List PySem.Str := ["web", "walk"]
theorem sc_falls : FnScope N_falls ["web", "walk"] (defScope s_falls) := ⟨rfl, rfl, rfl, by decide +kernel, rfl, by decide +kernel, by decide +kernel⟩
abbrev s_Steps_init : Stmt := inClass (top 36) 0
abbrev N_Steps_init : List PySem.Str := ["self", "standings", "steps", "near", "far", "tie", "standing", "number"]
theorem sc_Steps_init : FnScope N_Steps_init ["self", "standings", "steps"] (defScope s_Steps_init) := ⟨rfl, rfl, rfl, by decide +kernel, rfl, by decide +kernel, by decide +kernel⟩
abbrev s_standings_from : Stmt := top 37
abbrev N_standings_from : List PySem.Str := ["web", "walk", "rows", "found", "place", "known", "steps", "at", "standing", "state", "tie", "later"]
theorem sc_standings_from : FnScope N_standings_from ["web", "walk"] (defScope s_standings_from) := ⟨rfl, rfl, rfl, by decide +kernel, rfl, by decide +kernel, by decide +kernel⟩
abbrev s_product_of : Stmt := top 38
abbrev N_product_of : List PySem.Str := ["web", "walk", "found", "steps", "standings", "places", "at", "standing", "near", "far", "tie"]
theorem sc_product_of : FnScope N_product_of ["web", "walk"] (defScope s_product_of) := ⟨rfl, rfl, rfl, by decide +kernel, rfl, by decide +kernel, by decide +kernel⟩
abbrev s_steps_within : Stmt := top 39
abbrev N_steps_within : List PySem.Str := ["told", "part", "there", "at", "step"]
theorem sc_steps_within : FnScope N_steps_within ["told", "part"] (defScope s_steps_within) := ⟨rfl, rfl, rfl, by decide +kernel, rfl, by decide +kernel, by decide +kernel⟩
abbrev s_parts_of_product : Stmt := top 40
abbrev N_parts_of_product : List PySem.Str := ["told", "found", "part", "inner", "step"]
theorem sc_parts_of_product : FnScope N_parts_of_product ["told"] (defScope s_parts_of_product) := ⟨rfl, rfl, rfl, by decide +kernel, rfl, by decide +kernel, by decide +kernel⟩
abbrev s_want_asked : Stmt := top 41
abbrev N_want_asked : List PySem.Str := ["web", "walk", "told", "ties"]
theorem sc_want_asked : FnScope N_want_asked ["web", "walk"] (defScope s_want_asked) := ⟨rfl, rfl, rfl, by decide +kernel, rfl, by decide +kernel, by decide +kernel⟩
abbrev s_product : Stmt := top 42
abbrev N_product : List PySem.Str := ["web", "walk", "told", "ties"]
theorem sc_product : FnScope N_product ["web", "walk"] (defScope s_product) := ⟨rfl, rfl, rfl, by decide +kernel, rfl, by decide +kernel, by decide +kernel⟩
abbrev s_parts_without : Stmt := top 43
abbrev N_parts_without : List PySem.Str := ["web", "walk", "told", "ties"]
theorem sc_parts_without : FnScope N_parts_without ["web", "walk"] (defScope s_parts_without) := ⟨rfl, rfl, rfl, by decide +kernel, rfl, by decide +kernel, by decide +kernel⟩
abbrev s__law_pot : Stmt := top 45
abbrev N__law_pot : List PySem.Str := ["_law_script", "_law_k", "_law_cell", "_law_mixed"]
theorem sc__law_pot : FnScope N__law_pot ["_law_script", "_law_k"] (defScope s__law_pot) := ⟨rfl, rfl, rfl, by decide +kernel, rfl, by decide +kernel, by decide +kernel⟩
abbrev s__law_draw : Stmt := top 46
abbrev N__law_draw : List PySem.Str := ["_law_pot_here", "_law_sides", "_law_digit"]
theorem sc__law_draw : FnScope N__law_draw ["_law_pot_here", "_law_sides"] (defScope s__law_draw) := ⟨rfl, rfl, rfl, by decide +kernel, rfl, by decide +kernel, by decide +kernel⟩
abbrev s__law_pick : Stmt := top 47
abbrev N__law_pick : List PySem.Str := ["_law_pot_here", "_law_some"]
theorem sc__law_pick : FnScope N__law_pick ["_law_pot_here", "_law_some"] (defScope s__law_pick) := ⟨rfl, rfl, rfl, by decide +kernel, rfl, by decide +kernel, by decide +kernel⟩
abbrev s__law_ties : Stmt := top 48
abbrev N__law_ties : List PySem.Str := ["_law_pot_here", "_law_places", "_law_more", "_law_ties_here", "_law_place", "_law_turn", "_law_found"]
theorem sc__law_ties : FnScope N__law_ties ["_law_pot_here", "_law_places", "_law_more"] (defScope s__law_ties) := ⟨rfl, rfl, rfl, by decide +kernel, rfl, by decide +kernel, by decide +kernel⟩
abbrev s__law_walk : Stmt := top 49
abbrev N__law_walk : List PySem.Str := ["_law_pot_here", "_law_ties_here", "_law_many", "_law_found", "_law_turn", "_law_here", "_law_some", "_law_tie"]
theorem sc__law_walk : FnScope N__law_walk ["_law_pot_here", "_law_ties_here", "_law_many"] (defScope s__law_walk) := ⟨rfl, rfl, rfl, by decide +kernel, rfl, by decide +kernel, by decide +kernel⟩
abbrev s__law_state : Stmt := top 50
abbrev N__law_state : List PySem.Str := ["_law_walk_here", "_law_read", "_law_most", "_law_many"]
theorem sc__law_state : FnScope N__law_state ["_law_walk_here", "_law_read", "_law_most"] (defScope s__law_state) := ⟨rfl, rfl, rfl, by decide +kernel, rfl, by decide +kernel, by decide +kernel⟩
abbrev s__law_table : Stmt := top 51
abbrev N__law_table : List PySem.Str := ["_law_walk_here", "_law_many", "_law_found", "_law_state_here", "_law_tie"]
theorem sc__law_table : FnScope N__law_table ["_law_walk_here", "_law_many"] (defScope s__law_table) := ⟨rfl, rfl, rfl, by decide +kernel, rfl, by decide +kernel, by decide +kernel⟩
abbrev s__law_whole : Stmt := top 52
abbrev N__law_whole : List PySem.Str := ["_law_places", "_law_ties_here", "_law_walk_here", "_law_rows", "_law_known", "_law_at", "_law_steps", "_law_place", "_law_state_here", "_law_tie", "_law_near", "_law_far", "_law_later"]
theorem sc__law_whole : FnScope N__law_whole ["_law_places", "_law_ties_here", "_law_walk_here", "_law_rows"] (defScope s__law_whole) := ⟨rfl, rfl, rfl, by decide +kernel, rfl, by decide +kernel, by decide +kernel⟩
abbrev s__law_reach : Stmt := top 53
abbrev N__law_reach : List PySem.Str := ["_law_steps", "_law_here", "_law_met", "_law_row", "_law_near", "_law_one", "_law_other", "_law_tie"]
theorem sc__law_reach : FnScope N__law_reach ["_law_steps", "_law_here"] (defScope s__law_reach) := ⟨rfl, rfl, rfl, by decide +kernel, rfl, by decide +kernel, by decide +kernel⟩
abbrev s__law_parts : Stmt := top 54
abbrev N__law_parts : List PySem.Str := ["_law_standings", "_law_steps", "_law_reaches", "_law_at", "_law_found", "_law_seen", "_law_part", "_law_other", "_law_ties_here", "_law_near", "_law_far", "_law_tie"]
theorem sc__law_parts : FnScope N__law_parts ["_law_standings", "_law_steps"] (defScope s__law_parts) := ⟨rfl, rfl, rfl, by decide +kernel, rfl, by decide +kernel, by decide +kernel⟩
abbrev s__law_right : Stmt := top 55
abbrev N__law_right : List PySem.Str := ["_law_pot_here", "_law_places", "_law_ties_here", "_law_walk_here", "_law_web", "_law_rows", "_law_due", "_law_state_here", "_law_known", "_law_steps", "_law_standings", "_law_spots", "_law_at", "_law_one", "_law_told", "_law_near", "_law_far", "_law_tie", "_law_place"]
theorem sc__law_right : FnScope N__law_right ["_law_pot_here"] (defScope s__law_right) := ⟨rfl, rfl, rfl, by decide +kernel, rfl, by decide +kernel, by decide +kernel⟩
abbrev s_law : Stmt := top 56
abbrev N_law : List PySem.Str := ["_law_script"]
theorem sc_law : FnScope N_law ["_law_script"] (defScope s_law) := ⟨rfl, rfl, rfl, by decide +kernel, rfl, by decide +kernel, by decide +kernel⟩
/-- a def of the top, as it stands behind the top -/
structure Df (K : PySem.W.Frag) (mg : PySem.Str → Option Value) (x qual : PySem.Str) (st : Stmt) (ps : List PySem.Str) where
  f : Addr
  fd : FuncData
  F : Fun K x qual st f fd
  b : Binds K fd ps []
  g : mg x = some (.ref f)
/-- a method of the class at C -/
structure Dm (K : PySem.W.Frag) (C : Addr) (x qual : PySem.Str) (st : Stmt) (ps : List PySem.Str) where
  f : Addr
  fd : FuncData
  F : Fun K x qual st f fd
  b : Binds K fd ps []
  m : Meth K C x f
/-- all that is used of what the top leaves -/
structure Tx (K : PySem.W.Frag) (mg : PySem.Str → Option Value) where
  Web : Addr
  Search : Addr
  Steps : Addr
  is_integer : Df K mg "is_integer" "is_integer" s_is_integer ["value"]
  is_count : Df K mg "is_count" "is_count" s_is_count ["value"]
  is_list : Df K mg "is_list" "is_list" s_is_list ["value"]
  is_tie_value : Df K mg "is_tie_value" "is_tie_value" s_is_tie_value ["places", "value"]
  Web_init : Dm K Web "__init__" "Web.__init__" s_Web_init ["self", "places", "ties"]
  want_web : Df K mg "want_web" "want_web" s_want_web ["value"]
  are_joined_ties : Df K mg "are_joined_ties" "are_joined_ties" s_are_joined_ties ["web", "value", "most"]
  is_walk_value : Df K mg "is_walk_value" "is_walk_value" s_is_walk_value ["web", "value"]
  want_walk : Df K mg "want_walk" "want_walk" s_want_walk ["web", "value"]
  Search_init : Dm K Search "__init__" "Search.__init__" s_Search_init ["self", "web"]
  Search_meet : Dm K Search "meet" "Search.meet" s_Search_meet ["self", "place"]
  Search_close_part : Dm K Search "close_part" "Search.close_part" s_Search_close_part ["self", "place"]
  Search_go_from : Dm K Search "go_from" "Search.go_from" s_Search_go_from ["self", "begin"]
  parts_by_search : Df K mg "parts_by_search" "parts_by_search" s_parts_by_search ["web"]
  is_close_web : Df K mg "is_close_web" "is_close_web" s_is_close_web ["web"]
  want_close : Df K mg "want_close" "want_close" s_want_close ["web"]
  fall_row : Df K mg "fall_row" "fall_row" s_fall_row ["walk"]
  table_rows : Df K mg "table_rows" "table_rows" s_table_rows ["walk", "many"]
  state_by_trying : Df K mg "state_by_trying" "state_by_trying" s_state_by_trying ["walk", "state", "tie"]
  plain_table : Df K mg "plain_table" "plain_table" s_plain_table ["web", "walk"]
  table : Df K mg "table" "table" s_table ["web", "walk"]
  falls : Df K mg "falls" "falls" s_falls ["web", "walk"]
  Steps_init : Dm K Steps "__init__" "Steps.__init__" s_Steps_init ["self", "standings", "steps"]
  standings_from : Df K mg "standings_from" "standings_from" s_standings_from ["web", "walk"]
  product_of : Df K mg "product_of" "product_of" s_product_of ["web", "walk"]
  steps_within : Df K mg "steps_within" "steps_within" s_steps_within ["told", "part"]
  parts_of_product : Df K mg "parts_of_product" "parts_of_product" s_parts_of_product ["told"]
  want_asked : Df K mg "want_asked" "want_asked" s_want_asked ["web", "walk"]
  product : Df K mg "product" "product" s_product ["web", "walk"]
  parts_without : Df K mg "parts_without" "parts_without" s_parts_without ["web", "walk"]
  _law_pot : Df K mg "_law_pot" "_law_pot" s__law_pot ["_law_script", "_law_k"]
  _law_draw : Df K mg "_law_draw" "_law_draw" s__law_draw ["_law_pot_here", "_law_sides"]
  _law_pick : Df K mg "_law_pick" "_law_pick" s__law_pick ["_law_pot_here", "_law_some"]
  _law_ties : Df K mg "_law_ties" "_law_ties" s__law_ties ["_law_pot_here", "_law_places", "_law_more"]
  _law_walk : Df K mg "_law_walk" "_law_walk" s__law_walk ["_law_pot_here", "_law_ties_here", "_law_many"]
  _law_state : Df K mg "_law_state" "_law_state" s__law_state ["_law_walk_here", "_law_read", "_law_most"]
  _law_table : Df K mg "_law_table" "_law_table" s__law_table ["_law_walk_here", "_law_many"]
  _law_whole : Df K mg "_law_whole" "_law_whole" s__law_whole ["_law_places", "_law_ties_here", "_law_walk_here", "_law_rows"]
  _law_reach : Df K mg "_law_reach" "_law_reach" s__law_reach ["_law_steps", "_law_here"]
  _law_parts : Df K mg "_law_parts" "_law_parts" s__law_parts ["_law_standings", "_law_steps"]
  _law_right : Df K mg "_law_right" "_law_right" s__law_right ["_law_pot_here"]
  law : Df K mg "law" "law" s_law ["_law_script"]
  many_f : Addr
  many_fd : FuncData
  many_F : Fun K "many" "Web.many" s_Web_many many_f many_fd
  many_b : Binds K many_fd ["self"] []
  many_p : Addr
  p_many : PropOf K Web "many" many_p many_f
  gWeb : mg "Web" = some (.ref Web)
  clWeb : Cls K Web
  mkWeb : Mk K Web Web_init.f
  noWeb_own_places : NoAttr K Web "own_places"
  noWeb_own_ties : NoAttr K Web "own_ties"
  noWeb_own_from : NoAttr K Web "own_from"
  noWeb_own_to : NoAttr K Web "own_to"
  gSearch : mg "Search" = some (.ref Search)
  clSearch : Cls K Search
  mkSearch : Mk K Search Search_init.f
  noSearch_own_web : NoAttr K Search "own_web"
  noSearch_own_met : NoAttr K Search "own_met"
  noSearch_own_low : NoAttr K Search "own_low"
  noSearch_own_open : NoAttr K Search "own_open"
  noSearch_own_parts : NoAttr K Search "own_parts"
  gSteps : mg "Steps" = some (.ref Steps)
  clSteps : Cls K Steps
  mkSteps : Mk K Steps Steps_init.f
  noSteps_own_standings : NoAttr K Steps "own_standings"
  noSteps_own_told : NoAttr K Steps "own_told"
  noSteps_own_places : NoAttr K Steps "own_places"
  noSteps_own_ties : NoAttr K Steps "own_ties"
  noSteps_own_from : NoAttr K Steps "own_from"
  insWeb : C8.InsC K Web
  n_abs : mg "abs" = none
  n_all : mg "all" = none
  n_bool : mg "bool" = none
  n_dict : mg "dict" = none
  n_divmod : mg "divmod" = none
  n_enumerate : mg "enumerate" = none
  n_int : mg "int" = none
  n_isinstance : mg "isinstance" = none
  n_len : mg "len" = none
  n_list : mg "list" = none
  n_max : mg "max" = none
  n_min : mg "min" = none
  n_range : mg "range" = none
  n_set : mg "set" = none
  n_sorted : mg "sorted" = none
  n_tuple : mg "tuple" = none
  n_zip : mg "zip" = none
  tk_MOST_PLACES : Tok
  MOST_PLACES : mg "MOST_PLACES" = some (.int 60 tk_MOST_PLACES)
  tk_MOST_TIES : Tok
  MOST_TIES : mg "MOST_TIES" = some (.int 80 tk_MOST_TIES)
  tk_MOST_WALK : Tok
  MOST_WALK : mg "MOST_WALK" = some (.int 400 tk_MOST_WALK)
end K31
namespace K31
open PySem L2
/-! The rules that change the heap, each with the heap behind it as a letter. -/
/-- a new object -/
structure New (H : Hp) (p : Addr) (o : HO) (H' : Hp) : Prop where
  free : H p = none
  eq : H' = upd H p o
/-- an object written at -/
structure Wr (H : Hp) (p : Addr) (o : HO) (H' : Hp) : Prop where
  eq : H' = upd H p o
section
variable {H H' : Hp} {p b : Addr} {o u : HO}
theorem New.at (n : New H p o H') : H' p = some o := by rw [n.eq, upd_same]
theorem New.same (n : New H p o H') : Same H H' := fun c y e => by rw [n.eq, upd_ne (ne_of_none e n.free)]; exact e
theorem New.ne (n : New H p o H') (e : H b = some u) : b ≠ p := ne_of_none e n.free
theorem New.old (n : New H p o H') (h : b ≠ p) : H' b = H b := by rw [n.eq, upd_ne h]
theorem New.mk' (h : H p = none) : New H p o (upd H p o) := ⟨h, rfl⟩
theorem Wr.at (n : Wr H p o H') : H' p = some o := by rw [n.eq, upd_same]
theorem Wr.old (n : Wr H p o H') (h : b ≠ p) : H' b = H b := by rw [n.eq, upd_ne h]
theorem Wr.mk' : Wr H p o (upd H p o) := ⟨rfl⟩
end

section
variable {X : Cx}
theorem _root_.L2.PE.imp {e : Expr} {t t' : TE} (h : PE X e t) (k : ∀ σ H Q, t' σ H Q → t σ H Q) : PE X e t' := ⟨fun pins s σ H Q I q => h.run pins s σ H Q I (k σ H Q q)⟩
theorem _root_.L2.PS.imp {st : Stmt} {t t' : TS} (h : PS X st t) (k : ∀ D σ H, t' D σ H → t D σ H) : PS X st t' := ⟨fun pins s σ H D I q => h.run pins s σ H D I (k D σ H q)⟩
/-- upward closures -/
def clE (t : TE) : TE := fun σ H Q => ∃ R : VK, t σ H R ∧ ∀ v H', R v H' → Q v H'
def clA (t : TA) : TA := fun σ H Q => ∃ R : List V → Hp → Prop, t σ H R ∧ ∀ v H', R v H' → Q v H'
theorem _root_.L2.PE.cl {e : Expr} {t : TE} (h : PE X e t) : PE X e (clE t) := ⟨fun pins s σ H Q I q => by
  obtain ⟨R, hR, k⟩ := q
  refine thn (h.run pins s σ H R I hR) fun u s' z => ?_
  obtain ⟨v, H', a, b, c⟩ := z
  exact ⟨v, H', a, b, k v H' c⟩⟩
theorem _root_.L2.PA.cl {es : List Expr} {t : TA} (h : PA X es t) : PA X es (clA t) := ⟨fun pos pins s σ H Q I q => by
  obtain ⟨R, hR, k⟩ := q
  refine thn (h.run pos pins s σ H R I hR) fun u s' z => ?_
  obtain ⟨v, H', a, b, c⟩ := z
  exact ⟨v, H', a, b, k v H' c⟩⟩

variable {es : List Expr} {t : TA} {e o i value : Expr} {ta tv td ty : TE} {pos pos' : Pos} {f : PySem.Str}
def uTup (t : TA) : TE := fun σ H Q => t σ H fun xs H1 => xs.length ≤ sizeLine ∧ ∀ p H', New H1 p (.tup xs) H' → Q (.ref p) H'
def uLst (t : TA) : TE := fun σ H Q => t σ H fun xs H1 => xs.length ≤ sizeLine ∧ ∀ p H', New H1 p (.lst xs) H' → Q (.ref p) H'
theorem pe_tupU {x1} (h : PA X es t) : PE X (.Tuple es x1 pos) (uTup t) := PE.imp (pe_tup h.cl) fun σ H Q q => ⟨_, q, fun xs H1 z => ⟨z.1, fun p hp => z.2 p _ (.mk' hp)⟩⟩
theorem pe_lstU (h : PA X es t) : PE X (.List es pos) (uLst t) := PE.imp (pe_lst h.cl) fun σ H Q q => ⟨_, q, fun xs H1 z => ⟨z.1, fun p hp => z.2 p _ (.mk' hp)⟩⟩
def uNewK : TE := fun _ H Q => ∀ p H', New H p (.dK []) H' → Q (.ref p) H'
def uNewT : TE := fun _ H Q => ∀ p H', New H p (.dT []) H' → Q (.ref p) H'
theorem pe_dnewKU : PE X (.Dict [] [] pos) uNewK := PE.imp pe_dnewK fun σ H Q q p hp => q p _ (.mk' hp)
theorem pe_dnewTU : PE X (.Dict [] [] pos) uNewT := PE.imp pe_dnewT fun σ H Q q p hp => q p _ (.mk' hp)
def uFld (K : PySem.W.Frag) (ta tv : TE) (f : PySem.Str) : TS := fun D σ H => tv σ H fun y H1 => ta σ H1 fun x H2 => ∃ a C dx fs, x = .ref a ∧ H2 a = some (.ins C dx fs) ∧ Cls K C ∧ NoAttr K C f ∧ fs.length < 1000 ∧
  ∀ H', Wr H2 a (.ins C dx (putF f y fs)) H' → D.nx σ H'
theorem ps_fldU (ha : PE X o ta) (hv : PE X value tv) (hs : swapsWith value (some (.Attribute o f pos')) pos.line X.env = pure false) : PS X (.Assign [.Attribute o f pos'] value pos) (uFld X.K ta tv f) :=
  PS.imp (ps_fld ha.cl hv.cl hs) fun D σ H q => ⟨_, q, fun y H1 q1 => ⟨_, q1, fun x H2 q2 => by
    obtain ⟨a, C, dx, fs, e, h1, h2, h3, h4, h5⟩ := q2
    exact ⟨a, C, dx, fs, e, h1, h2, h3, h4, h5 _ .mk'⟩⟩⟩
def uPutK (td ty tv : TE) : TS := fun D σ H => tv σ H fun v H1 => td σ H1 fun x H2 => ty σ H2 fun y H3 => ∃ a kvs k, x = .ref a ∧ H3 a = some (.dK kvs) ∧ y = kV k ∧ kvs.length < sizeLine ∧ ∀ H', Wr H3 a (.dK (putK kvs k v)) H' → D.nx σ H'
def uPutT (td ty tv : TE) : TS := fun D σ H => tv σ H fun v H1 => td σ H1 fun x H2 => ty σ H2 fun y H3 => ∃ a kvs k b, x = .ref a ∧ y = .ref b ∧ H3 a = some (.dT kvs) ∧ H3 b = some (.tup (k.map kV)) ∧ kvs.length < sizeLine ∧ ∀ H', Wr H3 a (.dT (putK kvs k v)) H' → D.nx σ H'
theorem ps_dputK (hu : X.A.units + 1 < cLine) (ho : PE X o td) (hi : PE X i ty) (hv : PE X value tv) (hs : swapsWith value (some (.Subscript o i pos')) pos.line X.env = pure false) :
    PS X (.Assign [.Subscript o i pos'] value pos) (uPutK td ty tv) :=
  PS.imp (ps_dput hu ho.cl hi.cl hv.cl hs) fun D σ H q => ⟨_, q, fun v H1 q1 => ⟨_, q1, fun x H2 q2 => ⟨_, q2, fun y H3 q3 => by
    obtain ⟨a, kvs, k, e, h1, e2, h2, h3⟩ := q3
    exact ⟨a, _, e, .inl ⟨kvs, k, h1, e2, h2, rfl⟩, h3 _ .mk'⟩⟩⟩⟩
theorem ps_dputT (hu : X.A.units + 1 < cLine) (ho : PE X o td) (hi : PE X i ty) (hv : PE X value tv) (hs : swapsWith value (some (.Subscript o i pos')) pos.line X.env = pure false) :
    PS X (.Assign [.Subscript o i pos'] value pos) (uPutT td ty tv) :=
  PS.imp (ps_dput hu ho.cl hi.cl hv.cl hs) fun D σ H q => ⟨_, q, fun v H1 q1 => ⟨_, q1, fun x H2 q2 => ⟨_, q2, fun y H3 q3 => by
    obtain ⟨a, kvs, k, b, e, e2, h1, h1b, h2, h3⟩ := q3
    exact ⟨a, _, e, .inr ⟨kvs, k, b, h1, e2, h1b, h2, rfl⟩, h3 _ .mk'⟩⟩⟩⟩
/-- reads of dicts, by their sort -/
theorem dget_k {H : Hp} {a : Addr} {kvs : List (Key × V)} {k : Key} {v : V} (e : H a = some (.dK kvs)) (h : valV kvs k = some v) : DGet H a (kV k) (some v) := by
  have := DGet.k (k := k) e
  rw [h] at this
  exact this
theorem dget_t {H : Hp} {a b : Addr} {kvs : List (List Key × V)} {k : List Key} {v : V} (e : H a = some (.dT kvs)) (eb : H b = some (.tup (k.map kV))) (h : valV kvs k = some v) : DGet H a (.ref b) (some v) := by
  have := DGet.t e eb
  rw [h] at this
  exact this

/-! leaves -/
theorem OpR.imp {f : Value → Value → Sem Value} {r r' : R2} (h : OpR X f r) (k : ∀ x y H Q, r' x y H Q → r x y H Q) : OpR X f r' := fun pins s σ H x y v u Q I rx ry q => h pins s σ H x y v u Q I rx ry (k _ _ _ _ q)
theorem CallR.imp {f : Value} {r r' : List V → Hp → VK → Prop} (h : CallR X f r) (k : ∀ xs H Q, r' xs H Q → r xs H Q) : CallR X f r' := fun pins s σ H xs us Q I rx q => h pins s σ H xs us Q I rx (k _ _ _ q)
theorem MtR.imp {id : String} {r r' : V → List V → Hp → VK → Prop} (h : MtR X id r) (k : ∀ x xs H Q, r' x xs H Q → r x xs H Q) : MtR X id r' := fun pins s σ H x xs v us Q I rx rxs q => h pins s σ H x xs v us Q I rx rxs (k _ _ _ _ q)
theorem SlR.imp {r r' : V → Option Int → Option Int → Hp → VK → Prop} (h : SlR X r) (k : ∀ x lo hi H Q, r' x lo hi H Q → r x lo hi H Q) : SlR X r' := fun pins s σ H x v vl vu lo hi sl Q I a b c d q => h pins s σ H x v vl vu lo hi sl Q I a b c d (k _ _ _ _ _ q)

theorem set_listU : PSet X fun o i v H Q => ∃ p xs k j, o = .ref p ∧ i = .int k ∧ H p = some (.lst xs) ∧ ixN xs.length k = some j ∧ ∀ H', Wr H p (.lst (xs.set j v)) H' → Q H' :=
  fun pins s σ H o i v ov iv u Q I a b c q => set_list pins s σ H o i v ov iv u Q I a b c (by
    obtain ⟨p, xs, k, j, e1, e2, h1, h2, h3⟩ := q
    exact ⟨p, xs, k, j, e1, e2, h1, h2, h3 _ .mk'⟩)
theorem mt_appendU : MtR X "list.append" fun x vs H Q => ∃ l xs y, x = .ref l ∧ vs = [y] ∧ H l = some (.lst xs) ∧ xs.length < sizeLine ∧ ∀ H', Wr H l (.lst (xs ++ [y])) H' → Q .non H' :=
  MtR.imp mt_append fun x vs H Q q => by
    obtain ⟨l, xs, y, e1, e2, h1, h2, h3⟩ := q
    exact ⟨l, xs, y, e1, e2, h1, h2, h3 _ .mk'⟩
theorem mt_popU : MtR X "list.pop" fun x vs H Q => ∃ l xs y, x = .ref l ∧ vs = [] ∧ H l = some (.lst (xs ++ [y])) ∧ ∀ H', Wr H l (.lst xs) H' → Q y H' :=
  MtR.imp mt_pop fun x vs H Q q => by
    obtain ⟨l, xs, y, e1, e2, h1, h3⟩ := q
    refine ⟨l, xs ++ [y], y, e1, e2, h1, ?_, ?_⟩
    · rw [List.length_append, List.length_singleton, Nat.add_sub_cancel, List.getElem?_append_right (Nat.le_refl _), Nat.sub_self]
      rfl
    · rw [List.dropLast_concat]
      exact h3 _ .mk'
theorem mt_popAtU : MtR X "list.pop" fun x vs H Q => ∃ (l : Addr) (xs : List V) (k : Nat) (y : V), x = .ref l ∧ vs = [.int (k : Int)] ∧ H l = some (.lst xs) ∧ k < 2 ^ 62 ∧ xs[k]? = some y ∧ ∀ H', Wr H l (.lst (xs.eraseIdx k)) H' → Q y H' :=
  MtR.imp mt_popAt fun x vs H Q q => by
    obtain ⟨l, xs, k, y, e1, e2, h1, hk, h2, h3⟩ := q
    have hlt := (List.getElem?_eq_some_iff.mp h2).1
    refine ⟨l, xs, k, k, y, e1, e2, h1, by omega, by omega, ?_, h2, h3 _ .mk'⟩
    unfold seqIndex?
    rw [if_neg (show ¬ ((k : Nat) : Int) < 0 by omega)]
    show (if (decide (0 ≤ ((k : Nat) : Int)) && decide (((k : Nat) : Int) < (xs.length : Int))) = true then some ((k : Nat) : Int).toNat else none) = some k
    rw [decide_eq_true (show 0 ≤ ((k : Nat) : Int) by omega), decide_eq_true (show ((k : Nat) : Int) < (xs.length : Int) by omega), Int.toNat_natCast]
    rfl
theorem op_catU : OpR X (binaryOp .Add) fun x y H Q => ∃ l b xs zs, x = .ref l ∧ y = .ref b ∧ H l = some (.lst xs) ∧ H b = some (.lst zs) ∧ xs.length + zs.length ≤ sizeLine ∧ ∀ p H', New H p (.lst (xs ++ zs)) H' → Q (.ref p) H' :=
  OpR.imp op_cat fun x y H Q q => by
    obtain ⟨l, b, xs, zs, e1, e2, h1, h2, h3, h4⟩ := q
    exact ⟨l, b, xs, zs, e1, e2, h1, h2, h3, fun p hp => h4 p _ (.mk' hp)⟩
theorem rep_flat (v : V) : ∀ n : Nat, (List.replicate n [v]).flatten = List.replicate n v
  | 0 => rfl
  | n + 1 => by
    rw [List.replicate_succ, List.flatten_cons, rep_flat v n, List.replicate_succ]
    rfl
/-- [v] * n -/
theorem op_repU : OpR X (binaryOp .Mult) fun x y H Q => ∃ (l : Addr) (n : Nat) (v : V), x = .ref l ∧ y = .int (n : Int) ∧ H l = some (.lst [v]) ∧ n ≤ 1000 ∧ ∀ p H', New H p (.lst (List.replicate n v)) H' → Q (.ref p) H' :=
  OpR.imp op_rep fun x y H Q q => by
    obtain ⟨l, n, v, e1, e2, h1, h2, h3⟩ := q
    refine ⟨l, n, [v], e1, e2, h1, by omega, by omega, ?_, fun p hp => ?_⟩
    · show 1 * ((n : Int)).toNat ≤ sizeLine
      rw [Nat.one_mul, Int.toNat_natCast]
      exact Nat.le_trans h2 (by decide)
    · rw [Int.toNat_natCast, rep_flat]
      exact h3 p _ (.mk' hp)
theorem cut_take (xs : List V) (k : Nat) : cutV xs none (some (k : Int)) = xs.take k := by
  unfold cutV
  rw [HT.sIx_none, HT.sIx_nat, List.drop_zero, Nat.sub_zero]
  by_cases h : k ≤ xs.length
  · rw [Nat.min_eq_left h]
  · rw [Nat.min_eq_right (by omega), List.take_length, List.take_of_length_le (by omega)]
theorem cut_drop (xs : List V) (k : Nat) : cutV xs (some (k : Int)) none = xs.drop k := by
  unfold cutV
  rw [HT.sIx_none, HT.sIx_nat]
  by_cases h : k ≤ xs.length
  · rw [Nat.min_eq_left h, List.take_of_length_le (by rw [List.length_drop]; omega)]
  · rw [Nat.min_eq_right (by omega), Nat.sub_self, List.take_zero, List.drop_of_length_le (by omega)]
theorem sl_takeU : SlR X fun x lo hi H Q => ∃ (a : Addr) (xs : List V) (k : Nat), x = .ref a ∧ lo = none ∧ hi = some (k : Int) ∧ H a = some (.lst xs) ∧ ∀ p H', New H p (.lst (xs.take k)) H' → Q (.ref p) H' :=
  SlR.imp sl_list fun x lo hi H Q q => by
    obtain ⟨a, xs, k, e1, e2, e3, h1, h2⟩ := q
    refine ⟨a, xs, e1, SqL.of h1, fun p hp => ?_⟩
    rw [e2, e3, cut_take]
    exact h2 p _ (.mk' hp)
theorem sl_dropU : SlR X fun x lo hi H Q => ∃ (a : Addr) (xs : List V) (k : Nat), x = .ref a ∧ lo = some (k : Int) ∧ hi = none ∧ H a = some (.lst xs) ∧ ∀ p H', New H p (.lst (xs.drop k)) H' → Q (.ref p) H' :=
  SlR.imp sl_list fun x lo hi H Q q => by
    obtain ⟨a, xs, k, e1, e2, e3, h1, h2⟩ := q
    refine ⟨a, xs, e1, SqL.of h1, fun p hp => ?_⟩
    rw [e2, e3, cut_drop]
    exact h2 p _ (.mk' hp)
/-- t[k:] of a tuple, 0 < k <= its length -/
theorem sl_dropTU : SlR X fun x lo hi H Q => ∃ (a : Addr) (xs : List V) (k : Nat), x = .ref a ∧ lo = some (k : Int) ∧ hi = none ∧ H a = some (.tup xs) ∧ 0 < k ∧ k ≤ xs.length ∧ ∀ p H', New H p (.tup (xs.drop k)) H' → Q (.ref p) H' :=
  SlR.imp sl_tupA fun x lo hi H Q q => by
    obtain ⟨a, xs, k, e1, e2, e3, h1, h3, h4, h2⟩ := q
    subst e2 e3
    refine ⟨a, xs, e1, SqT.of h1, fun hw => ?_, fun _ p hp => ?_⟩
    · rw [HT.sIx_nat, Nat.min_eq_left h4] at hw
      omega
    · rw [cut_drop]
      exact h2 p _ (.mk' hp)
theorem call_list_ofU : CallR X (.type "list") fun xs H Q => ∃ p ys, xs = [.ref p] ∧ (H p = some (.lst ys) ∨ H p = some (.tup ys)) ∧ ∀ l H', New H l (.lst ys) H' → Q (.ref l) H' :=
  CallR.imp call_list_of fun xs H Q q => by
    obtain ⟨p, ys, e, h1, h2⟩ := q
    exact ⟨p, ys, e, h1.imp SqL.of SqT.of, fun l hl => h2 l _ (.mk' hl)⟩
theorem call_tuple_ofU : CallR X (.type "tuple") fun xs H Q => ∃ p ys, xs = [.ref p] ∧ H p = some (.lst ys) ∧ ∀ l H', New H l (.tup ys) H' → Q (.ref l) H' :=
  CallR.imp call_tuple_of fun xs H Q q => by
    obtain ⟨p, ys, e, h1, h2⟩ := q
    exact ⟨p, ys, e, .inl ⟨SqL.of h1, fun l hl => h2 l _ (.mk' hl)⟩⟩
theorem call_divmodU : CallR X (.builtin "divmod") fun xs H Q => ∃ i j, xs = [.int i, .int j] ∧ 0 < j ∧ j < 1073741824 ∧ ∀ p H', New H p (.tup [.int (i / j), .int (i % j)]) H' → Q (.ref p) H' :=
  CallR.imp call_divmod fun xs H Q q => by
    obtain ⟨i, j, e, h1, h2, h3⟩ := q
    exact ⟨i, j, e, ⟨h1, h2⟩, fun p hp => h3 p _ (.mk' hp)⟩
/-- sorted(xs) -/
theorem cr_sortedU (hu : X.A.units + 64 < cLine) : CallR X (.builtin "sorted") fun vs H Q => ∃ (β : Type) (bs : List β) (enc : β → PyData) (a : Addr) (xs : List V),
    vs = [V.ref a] ∧ H a = some (.lst xs) ∧ DpAll X.K H xs (bs.map enc) ∧ PySem.W.AllAlike (bs.map enc) ∧ PySem.W.Sortable (bs.map enc) ∧ (∀ b ∈ bs, (enc b).depth ≤ 60) ∧
    ∀ (ys : List V) (p : Addr) (H' : Hp), DpAll X.K H ys ((bs.mergeSort (PySem.W.dataLe false enc)).map enc) → New H p (.lst ys) H' → Q (.ref p) H' :=
  CallR.imp (cr_sortedD hu) fun vs H Q q => by
    obtain ⟨β, bs, enc, a, xs, e, h1, h2, h3, h4, h5, h6⟩ := q
    exact ⟨β, bs, enc, a, xs, e, SqL.of h1, h2, h3, h4, h5, fun ys p hy _ hp => h6 ys p _ hy (.mk' hp)⟩
def uMake (C : Addr) (sp : Sp) (dvs : List V) (E : XK) (t : TA) : TE := fun σ H Q => t σ H fun vs H1 => ∀ x dx H', H1 x = none → H1 dx = none → dx ≠ x → H' = upd (upd H1 dx (.own x)) x (.ins C dx []) →
  sp (.ref x :: (vs ++ dvs)) H' (fun v H2 => v = .non ∧ Q (.ref x) H2) E
theorem pe_mk {C : Addr} {sp : Sp} {dvs : List V} {E : XK} {t : TA} {e : Expr} (h : PE X e (tMake C sp dvs E (clA t))) : PE X e (uMake C sp dvs E t) :=
  PE.imp h fun σ H Q q => ⟨_, q, fun vs H1 k x dx h1 h2 h3 => k x dx _ h1 h2 h3 rfl⟩
end
end K31
namespace K31
open PySem L2
/-! Data at values of the tracked heap; the heaps of loops. -/
abbrev vn (n : Nat) : V := .int (n : Int)

mutual
inductive Rp (H : Hp) : V → PyData → Prop
  | int (i : Int) : Rp H (.int i) (.int i)
  | bl (b : Bool) : Rp H (.bl b) (.bool b)
  | lst {a : Addr} {xs : List V} {ds : List PyData} : H a = some (.lst xs) → RpAll H xs ds → Rp H (.ref a) (.list ds)
  | tup {a : Addr} {xs : List V} {ds : List PyData} : H a = some (.tup xs) → RpAll H xs ds → Rp H (.ref a) (.tuple ds)
inductive RpAll (H : Hp) : List V → List PyData → Prop
  | nil : RpAll H [] []
  | cons {v : V} {vs : List V} {d : PyData} {ds : List PyData} : Rp H v d → RpAll H vs ds → RpAll H (v :: vs) (d :: ds)
end

mutual
theorem Rp.same {H G : Hp} (s : Same H G) : ∀ (d : PyData) (v : V), Rp H v d → Rp G v d
  | .int _, _, .int i => .int i
  | .bool _, _, .bl b => .bl b
  | .list _, _, .lst h a => .lst (s _ _ h) (RpAll.same s _ _ a)
  | .tuple _, _, .tup h a => .tup (s _ _ h) (RpAll.same s _ _ a)
theorem RpAll.same {H G : Hp} (s : Same H G) : ∀ (ds : List PyData) (vs : List V), RpAll H vs ds → RpAll G vs ds
  | [], _, .nil => .nil
  | _ :: _, _, .cons h a => .cons (Rp.same s _ _ h) (RpAll.same s _ _ a)
end
mutual
theorem Rp.dp {H : Hp} {K : PySem.W.Frag} : ∀ (d : PyData) (v : V), Rp H v d → Dp K H v d
  | .int _, _, .int i => .int i
  | .bool _, _, .bl b => .bl b
  | .list _, _, .lst h a => .lst (SqL.of h) (RpAll.dp _ _ a)
  | .tuple _, _, .tup h a => .tup (SqT.of h) (RpAll.dp _ _ a)
theorem RpAll.dp {H : Hp} {K : PySem.W.Frag} : ∀ (ds : List PyData) (vs : List V), RpAll H vs ds → DpAll K H vs ds
  | [], _, .nil => .nil
  | _ :: _, _, .cons h a => .cons (Rp.dp _ _ h) (RpAll.dp _ _ a)
end
mutual
/-- what is read of tracked lists and tuples alone -/
theorem Rp.of_dp {H : Hp} {K : PySem.W.Frag} {G : Hp} (hG : Same G H) : ∀ (d : PyData) (v : V), Rp G v d → Rp H v d
  | d, v, h => Rp.same hG d v h
end
theorem Rp.s {H G : Hp} {v : V} {d : PyData} (h : Rp H v d) (s : Same H G) : Rp G v d := Rp.same s d v h
theorem RpAll.s {H G : Hp} {vs : List V} {ds : List PyData} (h : RpAll H vs ds) (s : Same H G) : RpAll G vs ds := RpAll.same s ds vs h
theorem Rp.d {H : Hp} {v : V} {d : PyData} (K : PySem.W.Frag) (h : Rp H v d) : Dp K H v d := Rp.dp d v h
theorem RpAll.d {H : Hp} {vs : List V} {ds : List PyData} (K : PySem.W.Frag) (h : RpAll H vs ds) : DpAll K H vs ds := RpAll.dp ds vs h

theorem Rp.int_inv {H : Hp} {v : V} {i : Int} (h : Rp H v (.int i)) : v = .int i := by
  cases h
  rfl
theorem Rp.list_inv {H : Hp} {v : V} {ds : List PyData} (h : Rp H v (.list ds)) : ∃ a xs, v = .ref a ∧ H a = some (.lst xs) ∧ RpAll H xs ds := by
  cases h with
  | lst e a => exact ⟨_, _, rfl, e, a⟩
theorem Rp.tup_inv {H : Hp} {v : V} {ds : List PyData} (h : Rp H v (.tuple ds)) : ∃ a xs, v = .ref a ∧ H a = some (.tup xs) ∧ RpAll H xs ds := by
  cases h with
  | tup e a => exact ⟨_, _, rfl, e, a⟩

section
variable {H : Hp}
theorem RpAll.len : ∀ {vs : List V} {ds : List PyData}, RpAll H vs ds → vs.length = ds.length
  | _, _, .nil => rfl
  | _, _, .cons _ a => by rw [List.length_cons, List.length_cons, a.len]
theorem RpAll.at : ∀ {vs : List V} {ds : List PyData}, RpAll H vs ds → ∀ {i : Nat} {d : PyData}, ds[i]? = some d → ∃ v, vs[i]? = some v ∧ Rp H v d
  | _, _, .nil, i, d, e => by simp at e
  | _, _, .cons h a, 0, d, e => by
    cases Option.some.inj e
    exact ⟨_, rfl, h⟩
  | _, _, .cons h a, i + 1, d, e => a.at (i := i) e
theorem RpAll.at' : ∀ {vs : List V} {ds : List PyData}, RpAll H vs ds → ∀ {i : Nat} {v : V}, vs[i]? = some v → ∃ d, ds[i]? = some d ∧ Rp H v d
  | _, _, .nil, i, v, e => by simp at e
  | _, _, .cons h a, 0, v, e => by
    cases Option.some.inj e
    exact ⟨_, rfl, h⟩
  | _, _, .cons h a, i + 1, v, e => a.at' (i := i) e
theorem RpAll.app : ∀ {vs ws : List V} {ds es : List PyData}, RpAll H vs ds → RpAll H ws es → RpAll H (vs ++ ws) (ds ++ es)
  | _, _, _, _, .nil, b => b
  | _, _, _, _, .cons h a, b => .cons h (a.app b)
theorem RpAll.one {v : V} {d : PyData} (h : Rp H v d) : RpAll H [v] [d] := .cons h .nil
theorem RpAll.take : ∀ {vs : List V} {ds : List PyData} (n : Nat), RpAll H vs ds → RpAll H (vs.take n) (ds.take n)
  | _, _, 0, _ => .nil
  | _, _, n + 1, .nil => .nil
  | _, _, n + 1, .cons h a => .cons h (a.take n)
theorem RpAll.drop : ∀ {vs : List V} {ds : List PyData} (n : Nat), RpAll H vs ds → RpAll H (vs.drop n) (ds.drop n)
  | _, _, 0, a => a
  | _, _, n + 1, .nil => .nil
  | _, _, n + 1, .cons h a => a.drop n
theorem RpAll.erase : ∀ {vs : List V} {ds : List PyData} (n : Nat), RpAll H vs ds → RpAll H (vs.eraseIdx n) (ds.eraseIdx n)
  | _, _, n, .nil => .nil
  | _, _, 0, .cons h a => a
  | _, _, n + 1, .cons h a => .cons h (a.erase n)
theorem RpAll.ints : ∀ {vs : List V} {ns : List Int}, RpAll H vs (ns.map .int) → vs = ns.map V.int
  | _, [], .nil => rfl
  | _, n :: ns, .cons h a => by
    rw [Rp.int_inv h, a.ints]
    rfl
theorem RpAll.of_ints : ∀ (ns : List Int), RpAll H (ns.map V.int) (ns.map .int)
  | [] => .nil
  | n :: ns => .cons (.int n) (RpAll.of_ints ns)
end

/-! ### the data of this law -/
abbrev eN (n : Nat) : PyData := .int (n : Int)
abbrev eNs (l : List Nat) : PyData := .list (l.map eN)
abbrev eP (p : Nat × Nat) : PyData := .tuple [eN p.1, eN p.2]
abbrev eT (t : Nat × Nat × Nat) : PyData := .tuple [eN t.1, eN t.2.1, eN t.2.2]
abbrev eS (t : (Nat × Nat) × (Nat × Nat) × Nat) : PyData := .tuple [eP t.1, eP t.2.1, eN t.2.2]
abbrev eRows (l : List (List Nat)) : PyData := .list (l.map eNs)
abbrev ePs (l : List (Nat × Nat)) : PyData := .list (l.map eP)
abbrev eTs (l : List (Nat × Nat × Nat)) : PyData := .list (l.map eT)
abbrev eSs (l : List ((Nat × Nat) × (Nat × Nat) × Nat)) : PyData := .list (l.map eS)
abbrev ePart (p : List Nat × List Nat) : PyData := .tuple [eNs p.1, eNs p.2]
abbrev eParts (l : List (List Nat × List Nat)) : PyData := .list (l.map ePart)
abbrev vns (l : List Nat) : List V := l.map vn

theorem map_cast (l : List Nat) : l.map eN = (l.map fun n : Nat => (n : Int)).map PyData.int := by rw [List.map_map]; rfl
theorem vns_cast (l : List Nat) : vns l = (l.map fun n : Nat => (n : Int)).map V.int := by rw [List.map_map]; rfl
theorem RpAll.nats {H : Hp} {vs : List V} {l : List Nat} (h : RpAll H vs (l.map eN)) : vs = vns l := by
  rw [map_cast] at h
  rw [h.ints, vns_cast]
theorem RpAll.of_nats {H : Hp} (l : List Nat) : RpAll H (vns l) (l.map eN) := by
  rw [map_cast, vns_cast]
  exact .of_ints _
theorem Rp.ns_inv {H : Hp} {v : V} {l : List Nat} (h : Rp H v (eNs l)) : ∃ a, v = .ref a ∧ H a = some (.lst (vns l)) := by
  obtain ⟨a, xs, e, h1, h2⟩ := h.list_inv
  exact ⟨a, e, by rw [h1, h2.nats]⟩
theorem Rp.of_ns {H : Hp} {a : Addr} {l : List Nat} (h : H a = some (.lst (vns l))) : Rp H (.ref a) (eNs l) := .lst h (.of_nats l)
theorem Rp.p_inv {H : Hp} {v : V} {p : Nat × Nat} (h : Rp H v (eP p)) : ∃ a, v = .ref a ∧ H a = some (.tup [vn p.1, vn p.2]) := by
  obtain ⟨a, xs, e, h1, h2⟩ := h.tup_inv
  cases h2 with
  | cons k1 r =>
    cases r with
    | cons k2 r =>
      cases r
      exact ⟨a, e, by rw [h1, k1.int_inv, k2.int_inv]⟩
theorem Rp.of_p {H : Hp} {a : Addr} {p : Nat × Nat} (h : H a = some (.tup [vn p.1, vn p.2])) : Rp H (.ref a) (eP p) := .tup h (.cons (.int _) (.cons (.int _) .nil))
theorem Rp.t_inv {H : Hp} {v : V} {p : Nat × Nat × Nat} (h : Rp H v (eT p)) : ∃ a, v = .ref a ∧ H a = some (.tup [vn p.1, vn p.2.1, vn p.2.2]) := by
  obtain ⟨a, xs, e, h1, h2⟩ := h.tup_inv
  cases h2 with
  | cons k1 r =>
    cases r with
    | cons k2 r =>
      cases r with
      | cons k3 r =>
        cases r
        exact ⟨a, e, by rw [h1, k1.int_inv, k2.int_inv, k3.int_inv]⟩
theorem Rp.of_t {H : Hp} {a : Addr} {p : Nat × Nat × Nat} (h : H a = some (.tup [vn p.1, vn p.2.1, vn p.2.2])) : Rp H (.ref a) (eT p) := .tup h (.cons (.int _) (.cons (.int _) (.cons (.int _) .nil)))
theorem Rp.s_inv {H : Hp} {v : V} {p : (Nat × Nat) × (Nat × Nat) × Nat} (h : Rp H v (eS p)) : ∃ a b c, v = .ref a ∧ H a = some (.tup [.ref b, .ref c, vn p.2.2]) ∧ H b = some (.tup [vn p.1.1, vn p.1.2]) ∧ H c = some (.tup [vn p.2.1.1, vn p.2.1.2]) := by
  obtain ⟨a, xs, e, h1, h2⟩ := h.tup_inv
  cases h2 with
  | cons k1 r =>
    cases r with
    | cons k2 r =>
      cases r with
      | cons k3 r =>
        cases r
        obtain ⟨b, rfl, hb⟩ := k1.p_inv
        obtain ⟨c, rfl, hc⟩ := k2.p_inv
        exact ⟨a, b, c, e, by rw [h1, k3.int_inv], hb, hc⟩

/-! ### shape, equality -/
theorem canLay_map {α : Type} {f : α → PyData} (h : ∀ x, (f x).canLay0 = true) : ∀ l : List α, PyData.canLayAll0 (l.map f) = true
  | [] => rfl
  | x :: l => by
    rw [List.map_cons, PyData.canLayAll0, h x, canLay_map h l]
    rfl
theorem depth_map {α : Type} {f : α → PyData} {k : Nat} (h : ∀ x, (f x).depth ≤ k) : ∀ l : List α, PyData.depthAll (l.map f) ≤ k
  | [] => by rw [List.map_nil, PyData.depthAll]; exact Nat.zero_le _
  | x :: l => by
    rw [List.map_cons, PyData.depthAll]
    exact Nat.max_le.mpr ⟨h x, depth_map h l⟩
/-- small and plain -/
def Sh (k : Nat) (d : PyData) : Prop := d.canLay0 = true ∧ d.depth ≤ k
theorem Sh.int (i : Int) : Sh 0 (.int i) := ⟨rfl, Nat.le_refl _⟩
theorem Sh.lst {α : Type} {f : α → PyData} {k : Nat} (h : ∀ x, Sh k (f x)) (l : List α) : Sh (k + 1) (.list (l.map f)) :=
  ⟨by rw [PyData.canLay0]; exact canLay_map (fun x => (h x).1) l, by rw [PyData.depth]; exact Nat.succ_le_succ (depth_map (fun x => (h x).2) l)⟩
theorem Sh.mono {j k : Nat} {d : PyData} (h : Sh j d) (hjk : j ≤ k) : Sh k d := ⟨h.1, Nat.le_trans h.2 hjk⟩
theorem Sh.tup2 {k : Nat} {a b : PyData} (ha : Sh k a) (hb : Sh k b) : Sh (k + 1) (.tuple [a, b]) := by
  refine ⟨?_, ?_⟩
  · rw [PyData.canLay0, PyData.canLayAll0, PyData.canLayAll0, PyData.canLayAll0, ha.1, hb.1]; rfl
  · rw [PyData.depth, PyData.depthAll, PyData.depthAll, PyData.depthAll]
    have := ha.2; have := hb.2; omega
theorem Sh.tup3 {k : Nat} {a b c : PyData} (ha : Sh k a) (hb : Sh k b) (hc : Sh k c) : Sh (k + 1) (.tuple [a, b, c]) := by
  refine ⟨?_, ?_⟩
  · rw [PyData.canLay0, PyData.canLayAll0, PyData.canLayAll0, PyData.canLayAll0, PyData.canLayAll0, ha.1, hb.1, hc.1]; rfl
  · rw [PyData.depth, PyData.depthAll, PyData.depthAll, PyData.depthAll, PyData.depthAll]
    have := ha.2; have := hb.2; have := hc.2; omega
theorem Sh.ok {k : Nat} {d : PyData} (h : Sh k d) (hk : k ≤ 64 := by decide) : SeqAt.shaped d = true := by
  unfold SeqAt.shaped
  rw [h.1, decide_eq_true (Nat.le_trans h.2 hk)]
  rfl
theorem sh_n (n : Nat) : Sh 0 (eN n) := .int _
theorem sh_ns (l : List Nat) : Sh 1 (eNs l) := .lst sh_n l
theorem sh_p (p : Nat × Nat) : Sh 1 (eP p) := .tup2 (sh_n _) (sh_n _)
theorem sh_t (p : Nat × Nat × Nat) : Sh 1 (eT p) := .tup3 (sh_n _) (sh_n _) (sh_n _)
theorem sh_rows (l : List (List Nat)) : Sh 2 (eRows l) := .lst sh_ns l
theorem sh_ps (l : List (Nat × Nat)) : Sh 2 (ePs l) := .lst sh_p l
theorem sh_ts (l : List (Nat × Nat × Nat)) : Sh 2 (eTs l) := .lst sh_t l
theorem sh_part (p : List Nat × List Nat) : Sh 2 (ePart p) := .tup2 (sh_ns _) (sh_ns _)
theorem sh_parts (l : List (List Nat × List Nat)) : Sh 3 (eParts l) := .lst sh_part l
theorem sh_nil : Sh 1 (.list []) := sh_ns []

theorem eqvAll_map {α : Type} [DecidableEq α] {f : α → PyData} (h : ∀ x y, PyData.eqv (f x) (f y) = decide (x = y)) : ∀ l m : List α, PyData.eqvAll (l.map f) (m.map f) = decide (l = m)
  | [], [] => rfl
  | [], y :: m => by
    rw [List.map_nil, List.map_cons, PyData.eqvAll]
    exact (decide_eq_false (fun e => by cases e)).symm
  | x :: l, [] => by
    rw [List.map_nil, List.map_cons, PyData.eqvAll]
    exact (decide_eq_false (fun e => by cases e)).symm
  | x :: l, y :: m => by
    rw [List.map_cons, List.map_cons, PyData.eqvAll, h, eqvAll_map h l m]
    by_cases e1 : x = y
    · by_cases e2 : l = m
      · rw [decide_eq_true e1, decide_eq_true e2, decide_eq_true (by rw [e1, e2])]; rfl
      · rw [decide_eq_true e1, decide_eq_false e2, decide_eq_false (fun e => e2 (List.cons.inj e).2)]; rfl
    · rw [decide_eq_false e1, decide_eq_false (fun e => e1 (List.cons.inj e).1)]; rfl
theorem eqv_n (a b : Nat) : PyData.eqv (eN a) (eN b) = decide (a = b) := by
  show ((a : Int) == (b : Int)) = decide (a = b)
  by_cases e : a = b
  · rw [e, decide_eq_true rfl]; simp
  · rw [decide_eq_false e]; simp; omega
theorem eqv_ns (l m : List Nat) : PyData.eqv (eNs l) (eNs m) = decide (l = m) := by
  show PyData.eqv (.list _) (.list _) = _
  rw [PyData.eqv]
  exact eqvAll_map eqv_n l m
theorem eqv_p (p q : Nat × Nat) : PyData.eqv (eP p) (eP q) = decide (p = q) := by
  show PyData.eqv (.tuple _) (.tuple _) = _
  rw [PyData.eqv, PyData.eqvAll, PyData.eqvAll, PyData.eqvAll, eqv_n, eqv_n]
  obtain ⟨a, b⟩ := p
  obtain ⟨c, d⟩ := q
  by_cases e1 : a = c <;> by_cases e2 : b = d <;> simp [e1, e2]
theorem eqv_t (p q : Nat × Nat × Nat) : PyData.eqv (eT p) (eT q) = decide (p = q) := by
  show PyData.eqv (.tuple _) (.tuple _) = _
  rw [PyData.eqv, PyData.eqvAll, PyData.eqvAll, PyData.eqvAll, PyData.eqvAll, eqv_n, eqv_n, eqv_n]
  obtain ⟨a, b, x⟩ := p
  obtain ⟨c, d, y⟩ := q
  by_cases e1 : a = c <;> by_cases e2 : b = d <;> by_cases e3 : x = y <;> simp [e1, e2, e3]
/-- against the empty list -/
theorem eqv_nil {α : Type} (f : α → PyData) : ∀ l : List α, PyData.eqv (.list (l.map f)) (.list []) = l.isEmpty
  | [] => rfl
  | x :: l => by
    rw [PyData.eqv, List.map_cons, PyData.eqvAll]
    rfl
theorem eqv_self {k : Nat} {d : PyData} (h : Sh k d) : PyData.eqv d d = true := SeqAt.eqv_refl d h.1
theorem any_p (l : List (Nat × Nat)) (p : Nat × Nat) : ((l.map eP).any fun z => PyData.eqv z (eP p)) = decide (p ∈ l) := by
  induction l with
  | nil => simp
  | cons q l ih =>
    rw [List.map_cons, List.any_cons, ih, eqv_p]
    by_cases e : q = p
    · subst e; simp
    · have e' : ¬ p = q := fun z => e z.symm
      simp [e, e']

/-! ### flat values -/
theorem eqV_n (a b : Nat) : eqV (vn a) (vn b) = decide (a = b) := eqv_n a b
theorem flat_vns : ∀ l : List Nat, (vns l).all flatV = true
  | [] => rfl
  | x :: l => by
    show (flatV (vn x) && (vns l).all flatV) = true
    rw [flat_vns l]
    rfl
theorem inV_n (a : Nat) (l : List Nat) : inV (vn a) (vns l) = decide (a ∈ l) := by
  unfold inV
  induction l with
  | nil => simp
  | cons b l ih =>
    show (eqV (vn b) (vn a) || (vns l).any fun y => eqV y (vn a)) = _
    rw [ih, eqV_n]
    by_cases e : b = a
    · subst e; simp
    · have e' : ¬ a = b := fun z => e z.symm
      simp [e, e']

/-! ### heaps -/
theorem _root_.L2.Same.new {H : Hp} {p : Addr} {o : HO} (h : H p = none) : Same H (upd H p o) := fun b u e => by
  rw [upd_ne (ne_of_none e h)]
  exact e
theorem _root_.L2.Same.past {M H : Hp} {p : Addr} {o : HO} (s : Same M H) (h : M p = none) : Same M (upd H p o) := fun b u e => by
  rw [upd_ne (ne_of_none e h)]
  exact s _ _ e
theorem _root_.L2.Same.both {M H : Hp} {p : Addr} {o : HO} (s : Same M H) : Same (upd M p o) (upd H p o) := fun b u e => by
  by_cases hb : b = p
  · rw [hb, upd_same] at e
    rw [hb, upd_same]
    exact e
  · rw [upd_ne hb] at e
    rw [upd_ne hb]
    exact s _ _ e
theorem _root_.L2.Same.put {M H : Hp} {p : Addr} {o : HO} (s : Same M H) (h : H p = some o) : Same (upd M p o) H := fun b u e => by
  by_cases hb : b = p
  · rw [hb, upd_same] at e
    rw [hb, h]
    exact e
  · rw [upd_ne hb] at e
    exact s _ _ e
theorem _root_.L2.Same.none {M H : Hp} {p : Addr} (s : Same M H) (h : H p = Option.none) : M p = Option.none := s.free h
theorem upd_none {H : Hp} {p q : Addr} {o : HO} (h : H q = none) (n : q ≠ p) : upd H p o q = none := by
  rw [upd_ne n]
  exact h
theorem upd_some {H : Hp} {p q : Addr} {o u : HO} (h : H q = some u) (n : H p = none) : upd H p o q = some u := by
  rw [upd_ne (ne_of_none h n)]
  exact h
/-- a fresh place is none of those that stand -/
theorem ne_fresh {H : Hp} {p q : Addr} {o : HO} (h : H p = some o) (n : H q = none) : q ≠ p := fun e => by
  rw [e, h] at n
  cases n
theorem bl_true {Q : VK} {H : Hp} {b : Bool} (e : b = true) (q : Q (.bl true) H) : Q (.bl b) H := by rw [e]; exact q
theorem bl_false {Q : VK} {H : Hp} {b : Bool} (e : b = false) (q : Q (.bl false) H) : Q (.bl b) H := by rw [e]; exact q
theorem hu65 {A : Around} {k : Nat} (hr : Room k A) : A.units + 65 < cLine := by
  have := hr.un
  omega
end K31
namespace K31
open PySem L2
/-! The rules that read, over tracked objects alone (no word of the written part). -/
section
variable {X : Cx}
theorem IxR.imp {r r' : R2} (h : IxR X r) (k : ∀ x y H Q, r' x y H Q → r x y H Q) : IxR X r' := fun value slice pins s σ H x y v u Q I rx ry q hs => h value slice pins s σ H x y v u Q I rx ry (k _ _ _ _ q) hs
/-- xs[i], 0 <= i -/
def uIxL : R2 := fun x y H Q => ∃ (p : Addr) (xs : List V) (i : Nat) (v : V), x = .ref p ∧ y = .int (i : Int) ∧ H p = some (.lst xs) ∧ xs[i]? = some v ∧ Q v H
def uIxT : R2 := fun x y H Q => ∃ (p : Addr) (xs : List V) (i : Nat) (v : V), x = .ref p ∧ y = .int (i : Int) ∧ H p = some (.tup xs) ∧ xs[i]? = some v ∧ Q v H
/-- xs[-1] -/
def uIxLast : R2 := fun x y H Q => ∃ (p : Addr) (xs : List V) (v : V), x = .ref p ∧ y = .int (-1) ∧ H p = some (.lst (xs ++ [v])) ∧ Q v H
theorem ix_listU : IxR X uIxL := IxR.imp ix_list fun x y H Q q => by
  obtain ⟨p, xs, i, v, e1, e2, h1, h2, h3⟩ := q
  exact ⟨p, xs, i, v, e1, e2, SqL.of h1, atI_nat h2, h3⟩
theorem ix_tupU : IxR X uIxT := IxR.imp ix_tup fun x y H Q q => by
  obtain ⟨p, xs, i, v, e1, e2, h1, h2, h3⟩ := q
  exact ⟨p, xs, i, v, e1, e2, SqT.of h1, atI_nat h2, h3⟩
theorem ix_seqU : IxR X fun x y H Q => uIxL x y H Q ∨ uIxT x y H Q := ix_listU.or ix_tupU
theorem ix_lastU : IxR X uIxLast := IxR.imp ix_list fun x y H Q q => by
  obtain ⟨p, xs, v, e1, e2, h1, h3⟩ := q
  exact ⟨p, xs ++ [v], -1, v, e1, e2, SqL.of h1, atI_last _ _, h3⟩
theorem call_lenU : CallR X (.builtin "len") fun xs H Q => ∃ p ys, xs = [.ref p] ∧ (H p = some (.lst ys) ∨ H p = some (.tup ys)) ∧ Q (vn ys.length) H := CallR.imp call_len_seq fun xs H Q q => by
  obtain ⟨p, ys, e, h1, h2⟩ := q
  exact ⟨p, ys, e, h1.imp SqL.of SqT.of, h2⟩
theorem cr_allU (hc : X.calm = true) : CallR X (.builtin "all") fun vs H Q => ∃ (a : Addr) (bs : List Bool), vs = [V.ref a] ∧ H a = some (.lst (bs.map V.bl)) ∧ Q (.bl (bs.all id)) H := CallR.imp (cr_all hc) fun xs H Q q => by
  obtain ⟨a, bs, e, h1, h2⟩ := q
  exact ⟨a, bs, e, SqL.of h1, h2⟩
theorem cr_maxU (hc : X.calm = true) : CallR X (.builtin "max") fun vs H Q => ∃ (a : Addr) (l : List Nat), vs = [V.ref a] ∧ H a = some (.lst (vns l)) ∧ l ≠ [] ∧ ∀ m : Nat, m ∈ l → Q (vn m) H := CallR.imp (cr_max hc) fun xs H Q q => by
  obtain ⟨a, l, e, h1, h2, h3⟩ := q
  refine ⟨a, l.map (fun n : Nat => (n : Int)), e, SqL.of (by rw [h1, vns_cast]), ?_, fun m hm _ => ?_⟩
  · rw [List.length_map]
    cases l with
    | nil => exact absurd rfl h2
    | cons _ _ => simp
  · obtain ⟨k, hk, rfl⟩ := List.mem_map.mp hm
    exact h3 k hk
theorem foldl_max_mem (n : Int) : ∀ ns : List Int, ns.foldl max n ∈ n :: ns := by
  intro ns
  induction ns generalizing n with
  | nil => simp
  | cons k r ih =>
    rw [List.foldl_cons]
    have := ih (max n k)
    rcases List.mem_cons.mp this with z | z
    · rw [z]
      rcases Int.le_total n k with c | c
      · rw [Int.max_eq_right c]; simp
      · rw [Int.max_eq_left c]; simp
    · simp [z]
theorem cr_maxTU (hc : X.calm = true) (hu : X.A.units + 64 < cLine) : CallR X (.builtin "max") fun vs H Q => ∃ (a : Addr) (l : List Nat), vs = [V.ref a] ∧ H a = some (.tup (vns l)) ∧ l ≠ [] ∧ ∀ m : Nat, m ∈ l → Q (vn m) H := CallR.imp (cr_maxT hc hu) fun xs H Q q => by
  obtain ⟨a, l, e, h1, h2, h3⟩ := q
  obtain ⟨l0, lr, el⟩ : ∃ l0 lr, l = l0 :: lr := by
    cases l with
    | nil => exact absurd rfl h2
    | cons a b => exact ⟨a, b, rfl⟩
  have hm := foldl_max_mem (l0 : Int) (lr.map (fun n : Nat => (n : Int)))
  rw [show (l0 : Int) :: lr.map (fun n : Nat => (n : Int)) = l.map (fun n : Nat => (n : Int)) by rw [el]; rfl] at hm
  refine ⟨a, l0, lr.map (fun n : Nat => (n : Int)), e, SqT.of (by rw [h1, vns_cast, el]; rfl), ?_⟩
  generalize (lr.map (fun n : Nat => (n : Int))).foldl max (l0 : Int) = mx at hm ⊢
  obtain ⟨k, hk, rfl⟩ := List.mem_map.mp hm
  exact h3 k hk
/-- n in xs, n not in xs -/
theorem op_inU : OpR X (compareOp .In) fun x y H Q => ∃ (n : Nat) (p : Addr) (l : List Nat), x = vn n ∧ y = .ref p ∧ H p = some (.lst (vns l)) ∧ Q (.bl (decide (n ∈ l))) H := OpR.imp op_in_seq fun x y H Q q => by
  obtain ⟨n, p, l, rfl, rfl, h1, h2⟩ := q
  refine ⟨p, vns l, rfl, .inl (SqL.of h1), rfl, flat_vns l, ?_⟩
  rw [inV_n]
  exact h2
theorem op_notInU : OpR X (compareOp .NotIn) fun x y H Q => ∃ (n : Nat) (p : Addr) (l : List Nat), x = vn n ∧ y = .ref p ∧ H p = some (.lst (vns l)) ∧ Q (.bl (!decide (n ∈ l))) H := OpR.imp op_notIn_seq fun x y H Q q => by
  obtain ⟨n, p, l, rfl, rfl, h1, h2⟩ := q
  refine ⟨p, vns l, rfl, .inl (SqL.of h1), rfl, flat_vns l, ?_⟩
  rw [inV_n]
  exact h2
/-- a pair not in a list of pairs -/
theorem op_notInP (hu : X.A.units + 65 < cLine) : OpR X (compareOp .NotIn) fun x y H Q => ∃ (p : Nat × Nat) (l : List (Nat × Nat)), Rp H x (eP p) ∧ Rp H y (ePs l) ∧ Q (.bl (!decide (p ∈ l))) H := OpR.imp (op_notInD hu) fun x y H Q q => by
  obtain ⟨p, l, h1, h2, h3⟩ := q
  refine ⟨eP p, l.map eP, h1.d _, h2.d _, (sh_p p).ok, (sh_ps l).ok, ?_⟩
  rw [any_p]
  exact h3
theorem op_eqU (hu : X.A.units + 64 < cLine) : OpR X (compareOp .Eq) fun x y H Q => ∃ d e, Rp H x d ∧ Rp H y e ∧ SeqAt.shaped d = true ∧ SeqAt.shaped e = true ∧ Q (.bl (PyData.eqv d e)) H := OpR.imp (op_eqD hu) fun x y H Q q => by
  obtain ⟨d, e, h1, h2, h3⟩ := q
  exact ⟨d, e, h1.d _, h2.d _, h3⟩
theorem op_neU (hu : X.A.units + 64 < cLine) : OpR X (compareOp .NotEq) fun x y H Q => ∃ d e, Rp H x d ∧ Rp H y e ∧ SeqAt.shaped d = true ∧ SeqAt.shaped e = true ∧ Q (.bl (!PyData.eqv d e)) H := OpR.imp (op_neD hu) fun x y H Q q => by
  obtain ⟨d, e, h1, h2, h3⟩ := q
  exact ⟨d, e, h1.d _, h2.d _, h3⟩
theorem idx_first (n : Nat) : ∀ (l : List Nat) (j : Nat), j < l.idxOf n → l[j]? ≠ some n
  | [], j, h => by simp at h
  | b :: l, j, h => by
    rw [List.idxOf_cons] at h
    by_cases e : b = n
    · subst e
      simp at h
    · rw [show (b == n) = false from beq_false_of_ne e, cond_false] at h
      cases j with
      | zero => simpa using e
      | succ j => exact idx_first n l j (by omega)
/-- xs.index(n), n in xs: its first place -/
theorem mt_indexU : MtR X "list.index" fun x xs H Q => ∃ (a : Addr) (l : List Nat) (n : Nat), x = V.ref a ∧ xs = [vn n] ∧ H a = some (.lst (vns l)) ∧ n ∈ l ∧ Q (vn (l.idxOf n)) H := MtR.imp mt_index fun x xs H Q q => by
  obtain ⟨a, l, n, e1, e2, h1, h2, h3⟩ := q
  have hlt : l.idxOf n < l.length := List.idxOf_lt_length_of_mem h2
  refine ⟨a, vns l, vn n, l.idxOf n, vn n, e1, e2, SqL.of h1, rfl, flat_vns l, ?_, by rw [eqV_n]; simp, fun m z hm hz => ?_, h3⟩
  · rw [List.getElem?_map, List.getElem?_eq_getElem hlt, List.getElem_idxOf hlt]
    rfl
  · rw [List.getElem?_map] at hz
    obtain ⟨k, hk, rfl⟩ := Option.map_eq_some_iff.mp hz
    rw [eqV_n]
    refine decide_eq_false fun e => ?_
    subst e
    exact idx_first _ _ _ hm hk
/-- a, b = e -/
def gTupU (n : Nat) (t : TGs) : TG := fun v σ H Q => ∃ a xs, v = .ref a ∧ H a = some (.tup xs) ∧ xs.length = n ∧ t xs σ H Q
theorem PG.imp {e : Expr} {t t' : TG} (h : PG X e t) (k : ∀ v σ H Q, t' v σ H Q → t v σ H Q) : PG X e t' := ⟨fun pins s σ H v u Q I r q => h.run pins s σ H v u Q I r (k v σ H Q q)⟩
theorem pg_tupU {es : List Expr} {k : Nat} {pos : Pos} {t : TGs} {n : Nat} (hc : X.calm = true) (h : PGs X es t) (hn : (assignEach es X.env).length = n := by rfl) (hst : (assignEach es X.env).findIdx? (·.1) = none := by rfl) : PG X (.Tuple es k pos) (gTupU n t) :=
  PG.imp (pg_tup hc h hn hst) fun v σ H Q q => by
    obtain ⟨a, xs, e, h1, h2, h3⟩ := q
    exact ⟨a, xs, e, SqT.of h1, h2, h3⟩
/-- o.f, K as a letter -/
theorem pe_fldK {K : PySem.W.Frag} {e : Expr} {ta : TE} {f : PySem.Str} {pos : Pos} (hK : X.K = K) (he : PE X e ta) (hb : attributeBase e f X.env (eval e X.env) = eval e X.env) : PE X (.Attribute e f pos) (tFld K ta f) := by
  subst hK
  exact pe_fld he hb
end
end K31
namespace K31
open PySem L2
/-! The ghost heap M: the part of the heap that nobody writes at. Ext M H M' H': from H the call (or loop) came to H', and M grew to M' by objects that are new. -/
structure Ext (M H M' H' : Hp) : Prop where
  hh : Same H H'
  mm : Same M M'
  mh : Same M' H'
  new : ∀ b o, M' b = some o → M b = some o ∨ H b = none

section
variable {M H M1 H1 M2 H2 : Hp} {p q : Addr} {o u : HO}
theorem Ext.refl (s : Same M H) : Ext M H M H := ⟨.refl _, .refl _, s, fun _ _ h => .inl h⟩
theorem Ext.trans (a : Ext M H M1 H1) (b : Ext M1 H1 M2 H2) : Ext M H M2 H2 :=
  ⟨a.hh.trans b.hh, a.mm.trans b.mm, b.mh, fun x y h => by
    rcases b.new x y h with k | k
    · exact a.new x y k
    · exact .inr (a.hh.free k)⟩
theorem Ext.of (s : Same M H) (h : Same H H1) : Ext M H M H1 := ⟨h, .refl _, s.trans h, fun _ _ k => .inl k⟩
/-- a new object that will not be written at -/
theorem Ext.grow (s : Same M H) (h : H p = none) : Ext M H (upd M p o) (upd H p o) :=
  ⟨.new h, .new (s.free h), s.both, fun b y k => by
    by_cases hb : b = p
    · rw [hb]
      exact .inr h
    · rw [upd_ne hb] at k
      exact .inl k⟩
/-- a new object of one's own -/
theorem Ext.own (s : Same M H) (h : H p = none) : Ext M H M (upd H p o) := .of s (.new h)
/-- one's own object is written at -/
theorem Ext.write (a : Ext M H M1 H1) (h0 : H p = none) (h1 : M1 p = none) : Ext M H M1 (upd H1 p o) :=
  ⟨a.hh.past h0, a.mm, a.mh.past h1, a.new⟩
/-- one's own object will be written at no more -/
theorem Ext.put (a : Ext M H M1 H1) (h0 : H p = none) (h1 : M1 p = none) (e : H1 p = some o) : Ext M H (upd M1 p o) H1 :=
  ⟨a.hh, a.mm.past (by
      cases k : M p with
      | none => rfl
      | some y => rw [a.mm _ _ k] at h1; cases h1), a.mh.put e, fun b y k => by
    by_cases hb : b = p
    · rw [hb]
      exact .inr h0
    · rw [upd_ne hb] at k
      exact a.new b y k⟩
/-- one's own object is none of the new ones of a callee -/
theorem Ext.off (a : Ext M H M1 H1) (h : M p = none) (e : H p = some o) : M1 p = none := by
  cases k : M1 p with
  | none => rfl
  | some y =>
    rcases a.new p y k with z | z
    · rw [h] at z; cases z
    · rw [e] at z; cases z
theorem Ext.at (a : Ext M H M1 H1) (e : H p = some o) : H1 p = some o := a.hh _ _ e
theorem Ext.rp (a : Ext M H M1 H1) {v : V} {d : PyData} (h : Rp M v d) : Rp M1 v d := h.s a.mm
theorem Ext.rpa (a : Ext M H M1 H1) {v : List V} {d : List PyData} (h : RpAll M v d) : RpAll M1 v d := h.s a.mm
theorem Ext.mh0 (a : Ext M H M1 H1) : Same M H1 := a.mm.trans a.mh
theorem Ext.free (a : Ext M H M1 H1) (h : H1 p = none) : H p = none := a.hh.free h
end

/-! ### comprehensions -/
section
variable {K : PySem.W.Frag} {g : TG} {tt : TT} {te : TE} {vs : List Nat} {σ : St} {M1 H1 : Hp} {D : Addr} {Qd : Hp → Prop}
/-- what stands at D between two turns -/
def LcInv (M1 H1 : Hp) (D : Addr) (ds : Nat → List PyData) (i : Nat) (H : Hp) : Prop :=
  ∃ (M : Hp) (acc : List V), Ext M1 H1 M H ∧ M D = none ∧ H D = some (.lst acc) ∧ RpAll M acc (ds i) ∧ acc.length ≤ i
/-- one turn, told by what follows -/
def LcTurn (g : TG) (tt : TT) (te : TE) (vs : List Nat) (σ : St) (M1 H1 : Hp) (D : Addr) (ds : Nat → List PyData) (i : Nat) (x : V) (M H : Hp) : Prop :=
  ∀ (Yes : V → Hp → Prop) (No : Hp → Prop), (∀ y H4 M4 d, Ext M H M4 H4 → Rp M4 y d → ds (i + 1) = ds i ++ [d] → Yes y H4) → (∀ H4, Same H H4 → ds (i + 1) = ds i → No H4) →
    g x (wipe σ vs) H fun σ2 H2 => wipe σ2 vs = wipe σ vs ∧ tt σ2 H2 fun b H3 => if b = true then te σ2 H3 Yes else No H3
theorem lc_start (s1 : Same M1 H1) (hD : H1 D = none) {ds : Nat → List PyData} (h0 : ds 0 = []) : LcInv M1 H1 D ds 0 (upd H1 D (.lst [])) :=
  ⟨M1, [], .own s1 hD, s1.free hD, upd_same, by rw [h0]; exact .nil, Nat.le_refl _⟩
theorem lc_yes {ds : Nat → List PyData} {i : Nat} {M H M4 H4 : Hp} {acc : List V} {y : V} {d : PyData} (hD : H1 D = none) (hi : i < sizeLine) (a : Ext M1 H1 M H) (hm : M D = none) (hl : H D = some (.lst acc)) (ha : RpAll M acc (ds i)) (hn : acc.length ≤ i)
    (b : Ext M H M4 H4) (r : Rp M4 y d) (e : ds (i + 1) = ds i ++ [d]) : ∃ acc, H4 D = some (.lst acc) ∧ acc.length < sizeLine ∧ LcInv M1 H1 D ds (i + 1) (upd H4 D (.lst (acc ++ [y]))) := by
  have hm4 := b.off hm hl
  refine ⟨acc, b.at hl, Nat.lt_of_le_of_lt hn hi, M4, acc ++ [y], (a.trans b).write hD hm4, hm4, upd_same, ?_, ?_⟩
  · rw [e]
    exact (b.rpa ha).app (.one r)
  · rw [List.length_append, List.length_singleton]
    omega
theorem lc_no {ds : Nat → List PyData} {i : Nat} {M H H4 : Hp} {acc : List V} (a : Ext M1 H1 M H) (hm : M D = none) (hl : H D = some (.lst acc)) (ha : RpAll M acc (ds i)) (hn : acc.length ≤ i)
    (b : Same H H4) (e : ds (i + 1) = ds i) : LcInv M1 H1 D ds (i + 1) H4 :=
  ⟨M, acc, a.trans (.of a.mh b), hm, b _ _ hl, by rw [e]; exact ha, by omega⟩

/-- the end: the list is one's own no more -/
theorem lc_end {ds : Nat → List PyData} {n : Nat} {H : Hp} (hD : H1 D = none) (h : LcInv M1 H1 D ds n H) : ∃ (M : Hp) (acc : List V), Ext M1 H1 M H ∧ H D = some (.lst acc) ∧ M D = none ∧ Ext M1 H1 (upd M D (.lst acc)) H ∧ RpAll M acc (ds n) ∧ Rp (upd M D (.lst acc)) (.ref D) (.list (ds n)) := by
  obtain ⟨M, acc, a, hm, hl, ha, hn⟩ := h
  exact ⟨M, acc, a, hl, hm, a.put hD hm hl, ha, .lst upd_same (ha.s (.new hm))⟩

theorem lc_listM {a : Addr} {xs : List V} (s1 : Same M1 H1) (hD : H1 D = none) (ha : H1 a = some (.lst xs)) (hz : xs.length < sizeLine) (ds : Nat → List PyData) (h0 : ds 0 = [])
    (hs : ∀ i x M H, xs[i]? = some x → Ext M1 H1 M H → M D = none → LcTurn g tt te vs σ M1 H1 D ds i x M H) (hd : ∀ H, LcInv M1 H1 D ds xs.length H → Qd H) :
    ∃ W : Nat → Nat → Hp → Prop, (∃ m, W 0 m (upd H1 D (.lst []))) ∧ ∀ i m H, W i m H →
      ((Itl K a).stop i H ∧ Qd H) ∨ ((Itl K a).go i H ∧ ∃ Nx : Hp → Prop, (∀ H', Nx H' → ∃ m', m' < m ∧ W (i + 1) m' H') ∧ ∀ x H', (Itl K a).yld i H x H' → g x (wipe σ vs) H' fun σ2 H2 => wipe σ2 vs = wipe σ vs ∧ tt σ2 H2 fun b H3 =>
        if b = true then te σ2 H3 fun y H4 => ∃ acc, H4 D = some (.lst acc) ∧ acc.length < sizeLine ∧ Nx (upd H4 D (.lst (acc ++ [y]))) else Nx H3) := by
  refine lc_list (K := K) (a := a) (xs := xs) (LcInv M1 H1 D ds) (lc_start s1 hD h0) (fun i H _ h => ?_) (fun i x H hx h => ?_) hd
  · obtain ⟨M, acc, e, _⟩ := h
    exact SqL.of (e.at ha)
  · obtain ⟨M, acc, e, hm, hl, hr, hn⟩ := h
    have hi : i < sizeLine := Nat.lt_trans (List.getElem?_eq_some_iff.mp hx).1 hz
    exact hs i x M H hx e hm _ _ (fun y H4 M4 d b r ed => lc_yes hD hi e hm hl hr hn b r ed) (fun H4 b ed => lc_no e hm hl hr hn b ed)
theorem lc_tupM {a : Addr} {xs : List V} (s1 : Same M1 H1) (hD : H1 D = none) (ha : H1 a = some (.tup xs)) (hz : xs.length < sizeLine) (ds : Nat → List PyData) (h0 : ds 0 = [])
    (hs : ∀ i x M H, xs[i]? = some x → Ext M1 H1 M H → M D = none → LcTurn g tt te vs σ M1 H1 D ds i x M H) (hd : ∀ H, LcInv M1 H1 D ds xs.length H → Qd H) :
    ∃ W : Nat → Nat → Hp → Prop, (∃ m, W 0 m (upd H1 D (.lst []))) ∧ ∀ i m H, W i m H →
      ((Itt K a).stop i H ∧ Qd H) ∨ ((Itt K a).go i H ∧ ∃ Nx : Hp → Prop, (∀ H', Nx H' → ∃ m', m' < m ∧ W (i + 1) m' H') ∧ ∀ x H', (Itt K a).yld i H x H' → g x (wipe σ vs) H' fun σ2 H2 => wipe σ2 vs = wipe σ vs ∧ tt σ2 H2 fun b H3 =>
        if b = true then te σ2 H3 fun y H4 => ∃ acc, H4 D = some (.lst acc) ∧ acc.length < sizeLine ∧ Nx (upd H4 D (.lst (acc ++ [y]))) else Nx H3) := by
  refine lc_tup (K := K) (a := a) (xs := xs) (LcInv M1 H1 D ds) (lc_start s1 hD h0) (fun i H _ h => ?_) (fun i x H hx h => ?_) hd
  · obtain ⟨M, acc, e, _⟩ := h
    exact SqT.of (e.at ha)
  · obtain ⟨M, acc, e, hm, hl, hr, hn⟩ := h
    have hi : i < sizeLine := Nat.lt_trans (List.getElem?_eq_some_iff.mp hx).1 hz
    exact hs i x M H hx e hm _ _ (fun y H4 M4 d b r ed => lc_yes hD hi e hm hl hr hn b r ed) (fun H4 b ed => lc_no e hm hl hr hn b ed)
theorem lc_rangeM {lo : Int} {n : Nat} (s1 : Same M1 H1) (hD : H1 D = none) (hz : n < sizeLine) (ds : Nat → List PyData) (h0 : ds 0 = [])
    (hs : ∀ i M H, i < n → Ext M1 H1 M H → M D = none → LcTurn g tt te vs σ M1 H1 D ds i (.int (lo + i)) M H) (hd : ∀ H, LcInv M1 H1 D ds n H → Qd H) :
    ∃ W : Nat → Nat → Hp → Prop, (∃ m, W 0 m (upd H1 D (.lst []))) ∧ ∀ i m H, W i m H →
      ((Itr lo n).stop i H ∧ Qd H) ∨ ((Itr lo n).go i H ∧ ∃ Nx : Hp → Prop, (∀ H', Nx H' → ∃ m', m' < m ∧ W (i + 1) m' H') ∧ ∀ x H', (Itr lo n).yld i H x H' → g x (wipe σ vs) H' fun σ2 H2 => wipe σ2 vs = wipe σ vs ∧ tt σ2 H2 fun b H3 =>
        if b = true then te σ2 H3 fun y H4 => ∃ acc, H4 D = some (.lst acc) ∧ acc.length < sizeLine ∧ Nx (upd H4 D (.lst (acc ++ [y]))) else Nx H3) := by
  refine lc_range (LcInv M1 H1 D ds) (lc_start s1 hD h0) (fun i H hi h => ?_) hd
  obtain ⟨M, acc, e, hm, hl, hr, hn⟩ := h
  exact hs i M H hi e hm _ _ (fun y H4 M4 d b r ed => lc_yes hD (Nat.lt_trans hi hz) e hm hl hr hn b r ed) (fun H4 b ed => lc_no e hm hl hr hn b ed)
/-- over enumerate(list): each pair a new tuple, not to be written at -/
theorem lc_enumM {a : Addr} {xs : List V} (s1 : Same M1 H1) (hD : H1 D = none) (ha : H1 a = some (.lst xs)) (hz : xs.length < sizeLine) (ds : Nat → List PyData) (h0 : ds 0 = [])
    (hs : ∀ i x T M H, xs[i]? = some x → H T = some (.tup [.int (i : Nat), x]) → Ext M1 H1 M H → M D = none → LcTurn g tt te vs σ M1 H1 D ds i (.ref T) M H) (hd : ∀ H, LcInv M1 H1 D ds xs.length H → Qd H) :
    ∃ W : Nat → Nat → Hp → Prop, (∃ m, W 0 m (upd H1 D (.lst []))) ∧ ∀ i m H, W i m H →
      ((Ite K a).stop i H ∧ Qd H) ∨ ((Ite K a).go i H ∧ ∃ Nx : Hp → Prop, (∀ H', Nx H' → ∃ m', m' < m ∧ W (i + 1) m' H') ∧ ∀ x H', (Ite K a).yld i H x H' → g x (wipe σ vs) H' fun σ2 H2 => wipe σ2 vs = wipe σ vs ∧ tt σ2 H2 fun b H3 =>
        if b = true then te σ2 H3 fun y H4 => ∃ acc, H4 D = some (.lst acc) ∧ acc.length < sizeLine ∧ Nx (upd H4 D (.lst (acc ++ [y]))) else Nx H3) := by
  refine ⟨fun i m H => m = xs.length - i ∧ i ≤ xs.length ∧ LcInv M1 H1 D ds i H, ⟨xs.length, by simp, Nat.zero_le _, lc_start s1 hD h0⟩, ?_⟩
  rintro i m H ⟨rfl, hi, M, acc, e, hm, hl, hr, hn⟩
  have q : SqL K H a xs := SqL.of (e.at ha)
  by_cases hlt : i < xs.length
  · refine .inr ⟨⟨xs, xs[i], q, by simp [hlt]⟩, LcInv M1 H1 D ds (i + 1), fun H' p' => ⟨xs.length - (i + 1), by omega, rfl, hlt, p'⟩, fun x H' y => ?_⟩
    obtain ⟨T, z, rfl, hT, rfl, f⟩ := y
    have hx := f xs q
    have b : Ext M H M (upd H T (.tup [.int (i : Nat), z])) := .own e.mh hT
    have hl' := b.at hl
    exact hs i z T M _ hx upd_same (e.trans b) hm _ _ (fun y H4 M4 d b' r ed => lc_yes hD (Nat.lt_trans hlt hz) (e.trans b) hm hl' hr hn b' r ed) (fun H4 b' ed => lc_no (e.trans b) hm hl' hr hn b' ed)
  · have ei : i = xs.length := by omega
    subst ei
    exact .inl ⟨⟨xs, q, Nat.le_refl _⟩, hd H ⟨M, acc, e, hm, hl, hr, hn⟩⟩
theorem RpAll.trues {M : Hp} : ∀ {n : Nat} {acc : List V}, RpAll M acc (List.replicate n (.bool true)) → acc = (List.replicate n true).map V.bl
  | 0, _, .nil => rfl
  | n + 1, _, h => by
    rw [List.replicate_succ] at h
    cases h with
    | cons h1 h2 =>
      cases h1
      rw [RpAll.trues h2]
      rfl
/-- all([.. for ..]), each one true -/
theorem all_end {n : Nat} {H : Hp} (h : LcInv M1 H1 D (fun i => List.replicate i (.bool true)) n H) : ∃ bs : List Bool, H D = some (.lst (bs.map V.bl)) ∧ bs.all id = true ∧ Same H1 H := by
  obtain ⟨M, acc, a, hm, hl, ha, hn⟩ := h
  refine ⟨List.replicate n true, by rw [hl, ha.trues], ?_, a.hh⟩
  rw [List.all_eq_true]
  intro x hx
  rw [(List.mem_replicate.mp hx).2]
  rfl
theorem rep_succ {α : Type} (i : Nat) (d : α) : List.replicate (i + 1) d = List.replicate i d ++ [d] := List.replicate_succ'
end
end K31
namespace K31
open PySem L2

/-! ### comprehensions over zip -/
/-- the items of two sequences, in new pairs; S says what reads as a sequence -/
def Zg (S : Hp → Addr → List V → Prop) (a b : Addr) : It :=
  ⟨fun i H => ∃ (xs ys : List V) (x y : V), S H a xs ∧ S H b ys ∧ xs[i]? = some x ∧ ys[i]? = some y,
   fun i H v H' => ∃ T x y, v = .ref T ∧ H T = none ∧ H' = upd H T (.tup [x, y]) ∧ (∀ xs, S H a xs → xs[i]? = some x) ∧ ∀ ys, S H b ys → ys[i]? = some y,
   fun i H => ∃ xs ys : List V, S H a xs ∧ S H b ys ∧ (xs.length ≤ i ∨ ys.length ≤ i)⟩
theorem zg_list (K : PySem.W.Frag) (a b : Addr) : Itz K a b = Zg (SqL K) a b := rfl
theorem zg_tup (K : PySem.W.Frag) (a b : Addr) : RZ.ItzT K a b = Zg (SqT K) a b := rfl
theorem lc_zipM {S : Hp → Addr → List V → Prop} {g : TG} {tt : TT} {te : TE} {vs : List Nat} {σ : L2.St} {M1 H1 : Hp} {D : Addr} {Qd : Hp → Prop} {a b : Addr} {xs ys : List V} (s1 : Same M1 H1) (hD : H1 D = none)
    (ha : ∀ H, Same H1 H → S H a xs ∧ S H b ys) (hz : xs.length < sizeLine) (ds : Nat → List PyData) (h0 : ds 0 = [])
    (hs : ∀ i x y T M H, xs[i]? = some x → ys[i]? = some y → H T = some (.tup [x, y]) → Ext M1 H1 M H → M D = none → LcTurn g tt te vs σ M1 H1 D ds i (.ref T) M H)
    (hd : ∀ H, LcInv M1 H1 D ds (min xs.length ys.length) H → Qd H) :
    ∃ W : Nat → Nat → Hp → Prop, (∃ m, W 0 m (upd H1 D (.lst []))) ∧ ∀ i m H, W i m H →
      ((Zg S a b).stop i H ∧ Qd H) ∨ ((Zg S a b).go i H ∧ ∃ Nx : Hp → Prop, (∀ H', Nx H' → ∃ m', m' < m ∧ W (i + 1) m' H') ∧ ∀ x H', (Zg S a b).yld i H x H' → g x (wipe σ vs) H' fun σ2 H2 => wipe σ2 vs = wipe σ vs ∧ tt σ2 H2 fun b H3 =>
        if b = true then te σ2 H3 fun y H4 => ∃ acc, H4 D = some (.lst acc) ∧ acc.length < sizeLine ∧ Nx (upd H4 D (.lst (acc ++ [y]))) else Nx H3) := by
  refine ⟨fun i m H => m = min xs.length ys.length - i ∧ i ≤ min xs.length ys.length ∧ LcInv M1 H1 D ds i H, ⟨_, rfl, Nat.zero_le _, lc_start s1 hD h0⟩, ?_⟩
  rintro i m H ⟨rfl, hi, M, acc, e, hm, hl, hr, hn⟩
  obtain ⟨qa, qb⟩ := ha H e.hh
  by_cases hlt : i < min xs.length ys.length
  · have h1 : i < xs.length := by omega
    have h2 : i < ys.length := by omega
    refine .inr ⟨⟨xs, ys, xs[i], ys[i], qa, qb, by simp [h1], by simp [h2]⟩, LcInv M1 H1 D ds (i + 1), fun H' p' => ⟨min xs.length ys.length - (i + 1), by omega, rfl, hlt, p'⟩, fun x H' y => ?_⟩
    obtain ⟨T, z, u, rfl, hT, rfl, f1, f2⟩ := y
    have b : Ext M H M (upd H T (.tup [z, u])) := .own e.mh hT
    have hl' := b.at hl
    exact hs i z u T M _ (f1 xs qa) (f2 ys qb) upd_same (e.trans b) hm _ _ (fun y H4 M4 d b' r ed => lc_yes hD (Nat.lt_trans h1 hz) (e.trans b) hm hl' hr hn b' r ed) (fun H4 b' ed => lc_no (e.trans b) hm hl' hr hn b' ed)
  · have ei : i = min xs.length ys.length := by omega
    subst ei
    exact .inl ⟨⟨xs, ys, qa, qb, by omega⟩, hd H ⟨M, acc, e, hm, hl, hr, hn⟩⟩

/-! ### freezing several objects -/
open Classical in
/-- M, and at L what stands in H -/
noncomputable def frz (M H : Hp) (L : List Addr) : Hp := fun b => if b ∈ L then H b else M b
section
variable {M H M0 H0 : Hp} {L : List Addr} {p : Addr}
theorem frz_in (h : p ∈ L) : frz M H L p = H p := if_pos h
theorem frz_out (h : p ∉ L) : frz M H L p = M p := if_neg h
theorem Ext.puts (a : Ext M0 H0 M H) (h : ∀ q ∈ L, H0 q = none ∧ M q = none) : Ext M0 H0 (frz M H L) H := by
  refine ⟨a.hh, fun b o e => ?_, fun b o e => ?_, fun b o e => ?_⟩
  · by_cases hb : b ∈ L
    · have := (h b hb).2
      rw [a.mm _ _ e] at this
      cases this
    · rw [frz_out hb]
      exact a.mm _ _ e
  · by_cases hb : b ∈ L
    · rw [frz_in hb] at e
      exact e
    · rw [frz_out hb] at e
      exact a.mh _ _ e
  · by_cases hb : b ∈ L
    · exact .inr (h b hb).1
    · rw [frz_out hb] at e
      exact a.new _ _ e
theorem frz_same (h : ∀ q ∈ L, M q = none) : Same M (frz M H L) := fun b o e => by
  by_cases hb : b ∈ L
  · rw [h b hb] at e
    cases e
  · rw [frz_out hb]
    exact e
end

/-! ### for over enumerate -/
section
variable {K : PySem.W.Frag} {a : Addr} {xs : List V} {g : TG} {tb : TS} {D : Ends} {σ : L2.St} {H : Hp}
theorem for_enumT (Pv : Nat → L2.St → Hp → Prop) (h0 : Pv 0 σ H) (hl : ∀ i σ H, i ≤ xs.length → Pv i σ H → SqT K H a xs)
    (hs : ∀ i x T σ H, xs[i]? = some x → Pv i σ H → ∀ H', New H T (.tup [.int (i : Nat), x]) H' → g (.ref T) σ H' fun σ2 H2 => tb { D with nx := Pv (i + 1), ct := Pv (i + 1), bk := D.nx } σ2 H2)
    (hd : ∀ σ H, Pv xs.length σ H → D.nx σ H) :
    ∃ W : Nat → Nat → L2.St → Hp → Prop, (∃ m, W 0 m σ H) ∧ ∀ i m σ H, W i m σ H → ((Iet K a).stop i H ∧ D.nx σ H) ∨
      ((Iet K a).go i H ∧ ∃ N : L2.St → Hp → Prop, (∀ σ' H', N σ' H' → ∃ m', m' < m ∧ W (i + 1) m' σ' H') ∧ ∀ x H', (Iet K a).yld i H x H' → g x σ H' fun σ2 H2 => tb { D with nx := N, ct := N, bk := D.nx } σ2 H2) := by
  refine ⟨fun i m σ H => m = xs.length - i ∧ i ≤ xs.length ∧ Pv i σ H, ⟨xs.length, by simp, Nat.zero_le _, h0⟩, ?_⟩
  rintro i m σ H ⟨rfl, hi, p⟩
  have q := hl i σ H hi p
  by_cases hlt : i < xs.length
  · refine .inr ⟨⟨xs, xs[i], q, by simp [hlt]⟩, Pv (i + 1), fun σ' H' p' => ⟨xs.length - (i + 1), by omega, rfl, hlt, p'⟩, fun x H' y => ?_⟩
    obtain ⟨T, z, rfl, hT, rfl, f⟩ := y
    exact hs i z T σ H (f xs q) p _ (.mk' hT)
  · have ei : i = xs.length := by omega
    subst ei
    exact .inl ⟨⟨xs, q, rfl⟩, hd σ H p⟩
theorem for_enumL (Pv : Nat → L2.St → Hp → Prop) (h0 : Pv 0 σ H) (hl : ∀ i σ H, i ≤ xs.length → Pv i σ H → SqL K H a xs)
    (hs : ∀ i x T σ H, xs[i]? = some x → Pv i σ H → ∀ H', New H T (.tup [.int (i : Nat), x]) H' → g (.ref T) σ H' fun σ2 H2 => tb { D with nx := Pv (i + 1), ct := Pv (i + 1), bk := D.nx } σ2 H2)
    (hd : ∀ σ H, Pv xs.length σ H → D.nx σ H) :
    ∃ W : Nat → Nat → L2.St → Hp → Prop, (∃ m, W 0 m σ H) ∧ ∀ i m σ H, W i m σ H → ((Ite K a).stop i H ∧ D.nx σ H) ∨
      ((Ite K a).go i H ∧ ∃ N : L2.St → Hp → Prop, (∀ σ' H', N σ' H' → ∃ m', m' < m ∧ W (i + 1) m' σ' H') ∧ ∀ x H', (Ite K a).yld i H x H' → g x σ H' fun σ2 H2 => tb { D with nx := N, ct := N, bk := D.nx } σ2 H2) := by
  refine ⟨fun i m σ H => m = xs.length - i ∧ i ≤ xs.length ∧ Pv i σ H, ⟨xs.length, by simp, Nat.zero_le _, h0⟩, ?_⟩
  rintro i m σ H ⟨rfl, hi, p⟩
  have q := hl i σ H hi p
  by_cases hlt : i < xs.length
  · refine .inr ⟨⟨xs, xs[i], q, by simp [hlt]⟩, Pv (i + 1), fun σ' H' p' => ⟨xs.length - (i + 1), by omega, rfl, hlt, p'⟩, fun x H' y => ?_⟩
    obtain ⟨T, z, rfl, hT, rfl, f⟩ := y
    exact hs i z T σ H (f xs q) p _ (.mk' hT)
  · have ei : i = xs.length := by omega
    subst ei
    exact .inl ⟨⟨xs, q, Nat.le_refl _⟩, hd σ H p⟩
end

/-! ### [[] for .. in ..]: new empty lists, each its own -/
/-- behind i turns: the rows qs are new since H1 -/
def RowsInv (H1 : Hp) (D : Addr) (i : Nat) (H : Hp) : Prop :=
  ∃ qs : List Addr, Same H1 H ∧ H D = some (.lst (qs.map V.ref)) ∧ qs.length = i ∧ qs.Nodup ∧ ∀ q ∈ qs, H1 q = none ∧ q ≠ D ∧ H q = some (.lst [])
section
variable {H1 : Hp} {D : Addr}
theorem rows_start (hD : H1 D = none) : RowsInv H1 D 0 (upd H1 D (.lst [])) :=
  ⟨[], .new hD, upd_same, rfl, List.nodup_nil, fun _ h => by cases h⟩
theorem rows_turn {i : Nat} {H H' : Hp} {p : Addr} (hD : H1 D = none) (hi : i < sizeLine) (h : RowsInv H1 D i H) (n : New H p (.lst []) H') :
    ∃ acc, H' D = some (.lst acc) ∧ acc.length < sizeLine ∧ RowsInv H1 D (i + 1) (upd H' D (.lst (acc ++ [.ref p]))) := by
  obtain ⟨qs, s, hd, hl, nd, hq⟩ := h
  have hpD : p ≠ D := (n.ne hd).symm
  have hpq : ∀ q ∈ qs, q ≠ p := fun q hm => n.ne (hq q hm).2.2
  refine ⟨qs.map V.ref, n.same _ _ hd, by rw [List.length_map, hl]; exact hi, qs ++ [p], (s.trans n.same).past hD, ?_, ?_, ?_, fun q hm => ?_⟩
  · rw [upd_same, List.map_append]
    rfl
  · rw [List.length_append, hl]
    rfl
  · rw [List.nodup_append]
    exact ⟨nd, by simp, fun x hx y hy => by rw [List.mem_singleton] at hy; rw [hy]; exact hpq x hx⟩
  · rcases List.mem_append.mp hm with z | z
    · obtain ⟨a, b, c⟩ := hq q z
      exact ⟨a, b, by rw [upd_ne b]; exact n.same _ _ c⟩
    · rw [List.mem_singleton] at z
      subst z
      exact ⟨s.free n.free, hpD, by rw [upd_ne hpD]; exact n.at⟩
end

/-! ### the object of a web, and what a search asks of a web -/
abbrev fl (s : PySem.Str) (v : V) : PySem.Str × V := (s, v)
def webF (n : Nat) (t f g : Addr) : List (PySem.Str × V) := [fl "own_places" (vn n), fl "own_ties" (.ref t), fl "own_from" (.ref f), fl "own_to" (.ref g)]
/-- the rows of the numbers of ties, place by place -/
def eAdj (n : Nat) (E : List (Nat × Nat)) : PyData := eRows ((List.range n).map (Tj.adj E))
structure WebAt (W : Addr) (M : Hp) (x : Addr) (n : Nat) (E : List (Nat × Nat)) : Prop where
  ex : ∃ (dx t f g : Addr), M x = some (.ins W dx (webF n t f g)) ∧ Rp M (.ref t) (.tuple (E.map eP)) ∧ Rp M (.ref f) (eAdj n E)
theorem WebAt.same {W x : Addr} {M M' : Hp} {n : Nat} {E : List (Nat × Nat)} (h : WebAt W M x n E) (s : Same M M') : WebAt W M' x n E := by
  obtain ⟨dx, t, f, g, h1, h2, h3⟩ := h.ex
  exact ⟨dx, t, f, g, s _ _ h1, h2.s s, h3.s s⟩
/-- a web or a product's steps: what a search reads -/
structure GraphAt (K : PySem.W.Frag) (M : Hp) (x : Addr) (n : Nat) (E : List (Nat × Nat)) : Prop where
  ex : ∃ (C dx t f : Addr) (fs : List (PySem.Str × V)) (ts : List V), M x = some (.ins C dx fs) ∧ Cls K C ∧ NoAttr K C "own_places" ∧ NoAttr K C "own_ties" ∧ NoAttr K C "own_from" ∧
    List.lookup ("own_places" : PySem.Str) fs = some (vn n) ∧ List.lookup ("own_ties" : PySem.Str) fs = some (V.ref t) ∧ List.lookup ("own_from" : PySem.Str) fs = some (V.ref f) ∧
    (M t = some (.tup ts) ∨ M t = some (.lst ts)) ∧ RpAll M ts (E.map eP) ∧ Rp M (.ref f) (eAdj n E)
theorem GraphAt.same {K : PySem.W.Frag} {x : Addr} {M M' : Hp} {n : Nat} {E : List (Nat × Nat)} (h : GraphAt K M x n E) (s : Same M M') : GraphAt K M' x n E := by
  obtain ⟨C, dx, t, f, fs, ts, h1, h2, h3, h4, h5, h6, h7, h8, h9, h10, h11⟩ := h.ex
  exact ⟨C, dx, t, f, fs, ts, s _ _ h1, h2, h3, h4, h5, h6, h7, h8, h9.imp (s _ _) (s _ _), h10.s s, h11.s s⟩
theorem WebAt.graph {K : PySem.W.Frag} {mg : PySem.Str → Option Value} (T : Tx K mg) {x : Addr} {M : Hp} {n : Nat} {E : List (Nat × Nat)} (h : WebAt T.Web M x n E) : GraphAt K M x n E := by
  obtain ⟨dx, t, f, g, h1, h2, h3⟩ := h.ex
  obtain ⟨a, ts, e, h4, h5⟩ := h2.tup_inv
  cases e
  exact ⟨T.Web, dx, t, f, _, ts, h1, T.clWeb, T.noWeb_own_places, T.noWeb_own_ties, T.noWeb_own_from, rfl, rfl, rfl, .inl h4, h5, h3⟩
/-- the reading of a row of ties -/
theorem adj_at {M : Hp} {f : Addr} {n : Nat} {E : List (Nat × Nat)} (h : Rp M (.ref f) (eAdj n E)) : ∃ qs : List V, M f = some (.lst qs) ∧ qs.length = n ∧ ∀ v, v < n → ∃ q, qs[v]? = some (.ref q) ∧ M q = some (.lst (vns (Tj.adj E v))) := by
  obtain ⟨a, xs, e, h1, h2⟩ := h.list_inv
  cases e
  refine ⟨xs, h1, by rw [h2.len]; simp, fun v hv => ?_⟩
  have : (((List.range n).map (Tj.adj E)).map eNs)[v]? = some (eNs (Tj.adj E v)) := by simp [hv]
  obtain ⟨y, hy, ry⟩ := h2.at this
  obtain ⟨q, rfl, hq⟩ := ry.ns_inv
  exact ⟨q, hy, hq⟩
end K31
namespace K31
open PySem L2
/-! Rules on natural numbers; loops. -/
section
variable {X : Cx}
def rN (g : Nat → Nat → V) : R2 := fun x y H Q => ∃ a b : Nat, x = vn a ∧ y = vn b ∧ Q (g a b) H
def rNB (g : Nat → Nat → Bool) : R2 := fun x y H Q => ∃ a b : Nat, x = vn a ∧ y = vn b ∧ Q (.bl (g a b)) H
theorem op_addN : OpR X (binaryOp .Add) (rN fun a b => vn (a + b)) := OpR.imp op_add fun x y H Q q => by
  obtain ⟨a, b, e1, e2, h⟩ := q
  refine ⟨a, b, e1, e2, ?_⟩
  show Q (.int ((a : Int) + (b : Int))) H
  rw [← Int.natCast_add]
  exact h
theorem op_subN : OpR X (binaryOp .Sub) fun x y H Q => ∃ a b : Nat, x = vn a ∧ y = vn b ∧ b ≤ a ∧ Q (vn (a - b)) H := OpR.imp op_sub fun x y H Q q => by
  obtain ⟨a, b, e1, e2, hb, h⟩ := q
  refine ⟨a, b, e1, e2, ?_⟩
  show Q (.int ((a : Int) - (b : Int))) H
  rw [← Int.ofNat_sub hb]
  exact h
theorem op_modU : OpR X (binaryOp .Mod) fun x y H Q => ∃ a b : Nat, x = vn a ∧ y = vn b ∧ 0 < b ∧ Q (vn (a % b)) H := OpR.imp op_mod fun x y H Q q => by
  obtain ⟨a, b, e1, e2, hb, h⟩ := q
  refine ⟨a, b, e1, e2, by show (0 : Int) < (b : Int); omega, ?_⟩
  show Q (.int ((a : Int) % (b : Int))) H
  rw [← Int.natCast_emod]
  exact h
theorem op_ltN : OpR X (compareOp .Lt) (rNB fun a b => decide (a < b)) := OpR.imp op_lt fun x y H Q q => by
  obtain ⟨a, b, e1, e2, h⟩ := q
  refine ⟨a, b, e1, e2, ?_⟩
  show Q (.bl (decide ((a : Int) < (b : Int)))) H
  rw [show decide ((a : Int) < (b : Int)) = decide (a < b) by simp]
  exact h
theorem op_leN : OpR X (compareOp .LtE) (rNB fun a b => decide (a ≤ b)) := OpR.imp op_le fun x y H Q q => by
  obtain ⟨a, b, e1, e2, h⟩ := q
  refine ⟨a, b, e1, e2, ?_⟩
  show Q (.bl (decide ((a : Int) ≤ (b : Int)))) H
  rw [show decide ((a : Int) ≤ (b : Int)) = decide (a ≤ b) by simp]
  exact h
theorem op_gtN : OpR X (compareOp .Gt) (rNB fun a b => decide (b < a)) := OpR.imp op_gt fun x y H Q q => by
  obtain ⟨a, b, e1, e2, h⟩ := q
  refine ⟨a, b, e1, e2, ?_⟩
  show Q (.bl (decide ((b : Int) < (a : Int)))) H
  rw [show decide ((b : Int) < (a : Int)) = decide (b < a) by simp]
  exact h
theorem op_geN : OpR X (compareOp .GtE) (rNB fun a b => decide (b ≤ a)) := OpR.imp op_ge fun x y H Q q => by
  obtain ⟨a, b, e1, e2, h⟩ := q
  refine ⟨a, b, e1, e2, ?_⟩
  show Q (.bl (decide ((b : Int) ≤ (a : Int)))) H
  rw [show decide ((b : Int) ≤ (a : Int)) = decide (b ≤ a) by simp]
  exact h
theorem vn_dec (a b : Nat) : decide (vn a = vn b) = decide (a = b) := by
  by_cases e : a = b
  · subst e; simp
  · rw [decide_eq_false e]; exact decide_eq_false fun z => e (Int.ofNat.inj (V.int.inj z))
theorem op_eqN : OpR X (compareOp .Eq) (rNB fun a b => decide (a = b)) := OpR.imp op_eq fun x y H Q q => by
  obtain ⟨a, b, rfl, rfl, h⟩ := q
  refine ⟨rfl, ?_⟩
  rw [vn_dec]
  exact h
theorem op_neN : OpR X (compareOp .NotEq) (rNB fun a b => !decide (a = b)) := OpR.imp op_ne fun x y H Q q => by
  obtain ⟨a, b, rfl, rfl, h⟩ := q
  refine ⟨rfl, ?_⟩
  rw [vn_dec]
  exact h
theorem call_min2N (hc : X.calm = true) : CallR X (.builtin "min") fun xs H Q => ∃ a b : Nat, xs = [vn a, vn b] ∧ Q (vn (min a b)) H := CallR.imp (call_min2 hc) fun xs H Q q => by
  obtain ⟨a, b, e, h⟩ := q
  refine ⟨a, b, e, ?_⟩
  show Q (.int (if (b : Int) < (a : Int) then (b : Int) else (a : Int))) H
  rw [show (if (b : Int) < (a : Int) then (b : Int) else (a : Int)) = ((min a b : Nat) : Int) by split <;> omega]
  exact h
end

section
variable {c : TT} {tb : TS} {D : Ends} {σ : L2.St} {H : Hp} {g : TG} {tt : TT} {te : TE} {vs : List Nat}
/-- while: what a turn does, told to the test -/
theorem while_at (Pv : L2.St → Hp → Prop) (μ : L2.St → Hp → Nat) (h0 : Pv σ H)
    (hs : ∀ σ H, Pv σ H → ∀ Q : Bool → Hp → Prop, (∀ H1, tb { D with nx := fun σ' H' => Pv σ' H' ∧ μ σ' H' < μ σ H, ct := fun σ' H' => Pv σ' H' ∧ μ σ' H' < μ σ H, bk := D.nx } σ H1 → Q true H1) → (∀ H1, D.nx σ H1 → Q false H1) → c σ H Q) : tWhile c tb D σ H := by
  refine ⟨fun m σ H => m = μ σ H ∧ Pv σ H, ⟨_, rfl, h0⟩, ?_⟩
  rintro m σ H ⟨rfl, p⟩
  refine hs σ H p _ (fun H1 q => ?_) (fun H1 q => q)
  exact ⟨_, fun σ' H' ⟨p', l⟩ => ⟨_, l, rfl, p'⟩, q⟩
theorem for_rangeN {n : Nat} (Pv : Nat → L2.St → Hp → Prop) (h0 : Pv 0 σ H)
    (hs : ∀ i σ H, i < n → Pv i σ H → g (vn i) σ H fun σ2 H2 => tb { D with nx := Pv (i + 1), ct := Pv (i + 1), bk := D.nx } σ2 H2) (hd : ∀ σ H, Pv n σ H → D.nx σ H) :
    ∃ W : Nat → Nat → L2.St → Hp → Prop, (∃ m, W 0 m σ H) ∧ ∀ i m σ H, W i m σ H →
      ((Itr 0 n).stop i H ∧ D.nx σ H) ∨ ((Itr 0 n).go i H ∧ ∃ N : L2.St → Hp → Prop, (∀ σ' H', N σ' H' → ∃ m', m' < m ∧ W (i + 1) m' σ' H') ∧ ∀ x H', (Itr 0 n).yld i H x H' → g x σ H' fun σ2 H2 => tb { D with nx := N, ct := N, bk := D.nx } σ2 H2) :=
  for_range Pv h0 (fun i σ H hi h => by
    rw [show ((0 : Int) + (i : Int)) = (i : Int) by omega]
    exact hs i σ H hi h) hd
theorem lc_rangeN {M1 H1 : Hp} {D : Addr} {Qd : Hp → Prop} {n : Nat} (s1 : Same M1 H1) (hD : H1 D = none) (hz : n < sizeLine) (ds : Nat → List PyData) (h0 : ds 0 = [])
    (hs : ∀ i M H, i < n → Ext M1 H1 M H → M D = none → LcTurn g tt te vs σ M1 H1 D ds i (vn i) M H) (hd : ∀ H, LcInv M1 H1 D ds n H → Qd H) :
    ∃ W : Nat → Nat → Hp → Prop, (∃ m, W 0 m (upd H1 D (.lst []))) ∧ ∀ i m H, W i m H →
      ((Itr 0 n).stop i H ∧ Qd H) ∨ ((Itr 0 n).go i H ∧ ∃ Nx : Hp → Prop, (∀ H', Nx H' → ∃ m', m' < m ∧ W (i + 1) m' H') ∧ ∀ x H', (Itr 0 n).yld i H x H' → g x (wipe σ vs) H' fun σ2 H2 => wipe σ2 vs = wipe σ vs ∧ tt σ2 H2 fun b H3 =>
        if b = true then te σ2 H3 fun y H4 => ∃ acc, H4 D = some (.lst acc) ∧ acc.length < sizeLine ∧ Nx (upd H4 D (.lst (acc ++ [y]))) else Nx H3) :=
  lc_rangeM s1 hD hz ds h0 (fun i M H hi e hm => by
    rw [show ((0 : Int) + (i : Int)) = (i : Int) by omega]
    exact hs i M H hi e hm) hd
/-- range(n) as a list of what is made of each -/
theorem map_range_succ {α : Type} (f : Nat → α) (i : Nat) : (List.range (i + 1)).map f = (List.range i).map f ++ [f i] := by
  rw [List.range_succ, List.map_append]
  rfl
end
/-- the rule of a range going down to 1 -/
theorem rg_down {n : Nat} (h : n ≤ 1000) : RgC (n : Int) 0 (-1) n := by
  have := RgC.neg (i := (n : Int)) (j := 0) (by omega) (by omega) (by omega) (by omega)
  rw [show ((n : Int) - 0).toNat = n by omega] at this
  exact this
theorem vns_at {l : List Nat} {i : Nat} (h : i < l.length) : (vns l)[i]? = some (vn (l.getD i 0)) := by
  rw [List.getElem?_map, List.getD_eq_getElem?_getD, List.getElem?_eq_getElem h]
  rfl
theorem vns_get {l : List Nat} {i : Nat} {y : V} (h : (vns l)[i]? = some y) : ∃ k, l[i]? = some k ∧ y = vn k := by
  rw [List.getElem?_map] at h
  obtain ⟨k, hk, e⟩ := Option.map_eq_some_iff.mp h
  exact ⟨k, hk, e.symm⟩
theorem vns_len (l : List Nat) : (vns l).length = l.length := List.length_map _
theorem small400 {n : Nat} (h : n ≤ 1000) : n < sizeLine := Nat.lt_of_le_of_lt h (by decide)
end K31
namespace Km
/-! Plain Lean: the greatest start of a walk that ends what is read. -/
/-- the greatest m, 0 < m <= n, with p m; 0 if there is none -/
def big (p : Nat → Bool) : Nat → Nat
  | 0 => 0
  | n + 1 => if p (n + 1) = true then n + 1 else big p n
theorem big_le (p : Nat → Bool) : ∀ n, big p n ≤ n
  | 0 => Nat.le_refl _
  | n + 1 => by
    unfold big
    split
    · exact Nat.le_refl _
    · exact Nat.le_succ_of_le (big_le p n)
theorem big_yes (p : Nat → Bool) : ∀ n, big p n = 0 ∨ p (big p n) = true
  | 0 => .inl rfl
  | n + 1 => by
    unfold big
    split
    · rename_i h; exact .inr h
    · exact big_yes p n
theorem big_max (p : Nat → Bool) : ∀ n k, big p n < k → k ≤ n → p k = false
  | 0, k, h, hk => by omega
  | n + 1, k, h, hk => by
    unfold big at h
    split at h
    · omega
    · rename_i hn
      by_cases e : k = n + 1
      · subst e; simpa using hn
      · exact big_max p n k h (by omega)
theorem big_eq {p : Nat → Bool} {n m : Nat} (h1 : m ≤ n) (h2 : m = 0 ∨ p m = true) (h3 : ∀ k, m < k → k ≤ n → p k = false) : big p n = m := by
  have a := big_le p n
  have b := big_yes p n
  have c := big_max p n
  rcases Nat.lt_trichotomy (big p n) m with z | z | z
  · rcases h2 with e | e
    · omega
    · rw [c m z h1] at e; cases e
  · exact z
  · rcases b with e | e
    · omega
    · rw [h3 _ z a] at e; cases e
theorem big_congr {p q : Nat → Bool} {n : Nat} (h : ∀ m, 0 < m → m ≤ n → p m = q m) : big p n = big q n := by
  induction n with
  | zero => rfl
  | succ n ih =>
    unfold big
    rw [h (n + 1) (by omega) (Nat.le_refl _), ih fun m a b => h m a (by omega)]
/-- a loop down from n, that has found nothing so far -/
theorem big_down {p : Nat → Bool} {n i : Nat} (hi : i < n) (h : p (n - i) = false) (e : big p n = big p (n - i)) : big p n = big p (n - (i + 1)) := by
  rw [e]
  obtain ⟨k, hk⟩ : ∃ k, n - i = k + 1 := ⟨n - i - 1, by omega⟩
  rw [hk] at h
  rw [show n - (i + 1) = k by omega, hk]
  show (if p (k + 1) = true then k + 1 else big p k) = _
  rw [if_neg (by simpa using h)]
theorem big_hit {p : Nat → Bool} {n : Nat} (hn : 0 < n) (h : p n = true) : big p n = n := by
  obtain ⟨k, rfl⟩ : ∃ k, n = k + 1 := ⟨n - 1, by omega⟩
  unfold big
  rw [if_pos h]

def fit (w read : List Nat) (m : Nat) : Bool := decide (w.take m = read.drop (read.length - m))
/-- the state behind tie e at state s -/
def stepW (w : List Nat) (s e : Nat) : Nat := big (fit w (w.take s ++ [e])) (s + 1)
def fallW (w : List Nat) (s : Nat) : Nat := big (fit w (w.take s)) (s - 1)
def Bd (w : List Nat) (s m : Nat) : Prop := w.take m = (w.take s).drop (s - m)

variable {w : List Nat} {s m e f k t : Nat}
theorem take_succ (h : m < w.length) : w.take (m + 1) = w.take m ++ [w.getD m 0] := by
  rw [List.take_add_one, List.getElem?_eq_getElem h, List.getD_eq_getElem?_getD, List.getElem?_eq_getElem h]
  rfl
theorem fit_bd (h : s ≤ w.length) : fit w (w.take s) m = true ↔ Bd w s m := by
  unfold fit Bd
  rw [List.length_take, Nat.min_eq_left h]
  simp
theorem fit_succ (hs : s < w.length) (hm : m ≤ s) : fit w (w.take s ++ [e]) (m + 1) = true ↔ Bd w s m ∧ w.getD m 0 = e := by
  unfold fit Bd
  have hl : (w.take s ++ [e]).length = s + 1 := by rw [List.length_append, List.length_take, Nat.min_eq_left (by omega)]; rfl
  rw [hl, show s + 1 - (m + 1) = s - m by omega, take_succ (by omega), List.drop_append_of_le_length (by rw [List.length_take, Nat.min_eq_left (by omega)]; omega)]
  simp
theorem bd_succ (hs : s < w.length) (hm : m ≤ s) : Bd w (s + 1) (m + 1) ↔ Bd w s m ∧ w.getD m 0 = w.getD s 0 := by
  rw [← fit_bd (by omega), take_succ hs]
  exact fit_succ hs hm
theorem bd_zero (h : s ≤ w.length) : Bd w s 0 := by
  unfold Bd
  rw [List.take_zero, Nat.sub_zero, List.drop_of_length_le (by rw [List.length_take, Nat.min_eq_left h]; exact Nat.le_refl _)]
theorem bd_trans (hf : f ≤ s) (hk : k ≤ f) (h : Bd w s f) : Bd w s k ↔ Bd w f k := by
  unfold Bd at *
  rw [h, List.drop_drop, show s - f + (f - k) = s - k by omega]
theorem fall_lt (h : 0 < s) : fallW w s < s := by
  have := big_le (fit w (w.take s)) (s - 1)
  unfold fallW
  omega
theorem fall_bd (h : s ≤ w.length) : Bd w s (fallW w s) := by
  rcases big_yes (fit w (w.take s)) (s - 1) with z | z
  · unfold fallW; rw [z]; exact bd_zero h
  · exact (fit_bd h).mp z
theorem fall_max (h : s ≤ w.length) (h1 : fallW w s < k) (h2 : k < s) : ¬ Bd w s k := fun c => by
  have := big_max (fit w (w.take s)) (s - 1) k h1 (by omega)
  rw [(fit_bd h).mpr c] at this
  cases this
theorem fall_one : fallW w 1 = 0 := rfl
theorem fall_zero : fallW w 0 = 0 := rfl

/-- what stands while the fall of t + 1 is sought: f is an end of the first t, and none above f can go on -/
structure Fa (w : List Nat) (t f : Nat) : Prop where
  lt : f < t
  bd : Bd w t f
  no : ∀ m, f < m → m < t → ¬ (Bd w t m ∧ w.getD m 0 = w.getD t 0)
theorem Fa.start (ht : 0 < t) (h : t < w.length) : Fa w t (fallW w t) :=
  ⟨fall_lt ht, fall_bd (by omega), fun m a b c => fall_max (by omega) a b c.1⟩
theorem Fa.fall (h : t < w.length) (a : Fa w t f) (hf : 0 < f) (ne : w.getD t 0 ≠ w.getD f 0) : Fa w t (fallW w f) := by
  have hl := fall_lt (w := w) hf
  have hft := a.lt
  have hb := fall_bd (w := w) (s := f) (by omega)
  refine ⟨by omega, (bd_trans (by omega) (by omega) a.bd).mpr hb, fun m h1 h2 c => ?_⟩
  rcases Nat.lt_trichotomy m f with z | z | z
  · exact fall_max (by omega) h1 z ((bd_trans (by omega) (by omega) a.bd).mp c.1)
  · subst z; exact ne c.2.symm
  · exact a.no m z h2 c
theorem Fa.done (h : t < w.length) (a : Fa w t f) (hz : f = 0 ∨ w.getD t 0 = w.getD f 0) : fallW w (t + 1) = if w.getD t 0 = w.getD f 0 then f + 1 else 0 := by
  have hft := a.lt
  unfold fallW
  refine big_eq ?_ ?_ fun k h1 h2 => ?_
  · split <;> omega
  · by_cases e : w.getD t 0 = w.getD f 0
    · rw [if_pos e]
      exact .inr ((fit_bd (by omega)).mpr ((bd_succ h (by omega)).mpr ⟨a.bd, e.symm⟩))
    · rw [if_neg e]; exact .inl rfl
  · refine Bool.eq_false_iff.mpr fun c => ?_
    obtain ⟨m, rfl⟩ : ∃ m, k = m + 1 := ⟨k - 1, by omega⟩
    have c2 := (bd_succ h (by omega)).mp ((fit_bd (by omega)).mp c)
    by_cases e : w.getD t 0 = w.getD f 0
    · rw [if_pos e] at h1
      exact a.no m (by omega) (by omega) c2
    · by_cases em : m = f
      · subst em; exact e c2.2.symm
      · have : f = 0 := by rcases hz with z | z; exact z; exact absurd z e
        exact a.no m (by omega) (by omega) c2

theorem step_here (hs : s < w.length) : stepW w s (w.getD s 0) = s + 1 := big_hit (by omega) ((fit_succ hs (Nat.le_refl _)).mpr ⟨by unfold Bd; simp, rfl⟩)
theorem step_zero (h : 0 < w.length) (ne : e ≠ w.getD 0 0) : stepW w 0 e = 0 := by
  unfold stepW
  refine big_eq (by omega) (.inl rfl) fun k h1 h2 => Bool.eq_false_iff.mpr fun c => ?_
  obtain rfl : k = 0 + 1 := by omega
  exact ne ((fit_succ h (Nat.le_refl _)).mp c).2.symm
theorem step_fall (h0 : 0 < s) (hs : s < w.length) (ne : e ≠ w.getD s 0) : stepW w s e = stepW w (fallW w s) e := by
  have hl := fall_lt (w := w) h0
  have hb := fall_bd (w := w) (s := s) (by omega)
  have a := big_le (fit w (w.take (fallW w s) ++ [e])) (fallW w s + 1)
  have b := big_yes (fit w (w.take (fallW w s) ++ [e])) (fallW w s + 1)
  have c := big_max (fit w (w.take (fallW w s) ++ [e])) (fallW w s + 1)
  show big _ _ = stepW w (fallW w s) e
  unfold stepW at *
  generalize big (fit w (w.take (fallW w s) ++ [e])) (fallW w s + 1) = r at a b c
  refine big_eq (by omega) ?_ fun k h1 h2 => Bool.eq_false_iff.mpr fun z => ?_
  · rcases b with b | b
    · exact .inl b
    · by_cases hr : r = 0
      · exact .inl hr
      · obtain ⟨m, rfl⟩ : ∃ m, r = m + 1 := ⟨r - 1, by omega⟩
        obtain ⟨b1, b2⟩ := (fit_succ (by omega) (by omega)).mp b
        exact .inr ((fit_succ hs (by omega)).mpr ⟨(bd_trans (by omega) (by omega) hb).mpr b1, b2⟩)
  · obtain ⟨m, rfl⟩ : ∃ m, k = m + 1 := ⟨k - 1, by omega⟩
    obtain ⟨z1, z2⟩ := (fit_succ hs (by omega)).mp z
    by_cases e1 : m = s
    · subst e1; exact ne z2.symm
    · by_cases e2 : fallW w s < m
      · exact fall_max (by omega) e2 (by omega) z1
      · have := c (m + 1) h1 (by omega)
        rw [(fit_succ (by omega) (by omega)).mpr ⟨(bd_trans (by omega) (by omega) hb).mp z1, z2⟩] at this
        cases this
theorem step_le : stepW w s e ≤ s + 1 := big_le _ _
/-- the state tells the last tie -/
theorem step_last (hs : s < w.length) (h : 0 < stepW w s e) : w.getD (stepW w s e - 1) 0 = e := by
  have a := step_le (w := w) (s := s) (e := e)
  rcases big_yes (fit w (w.take s ++ [e])) (s + 1) with z | z
  · unfold stepW at h; omega
  · unfold stepW at *
    generalize big (fit w (w.take s ++ [e])) (s + 1) = r at *
    obtain ⟨m, rfl⟩ : ∃ m, r = m + 1 := ⟨r - 1, by omega⟩
    exact ((fit_succ hs (by omega)).mp z).2

/-- a row of the table -/
def rowW (w : List Nat) (n s : Nat) : List Nat := (List.range n).map (stepW w s)
def tabW (w : List Nat) (n : Nat) : List (List Nat) := (List.range w.length).map (rowW w n)
def fallsW (w : List Nat) : List Nat := (List.range w.length).map (fallW w)
theorem row_len {n : Nat} : (rowW w n s).length = n := by unfold rowW; rw [List.length_map, List.length_range]
theorem row_zero {n : Nat} (h : 0 < w.length) : (List.replicate n 0).set (w.getD 0 0) 1 = rowW w n 0 := by
  unfold rowW
  refine List.ext_getElem (by simp) fun i h1 h2 => ?_
  simp only [List.getElem_set, List.getElem_replicate, List.getElem_map, List.getElem_range]
  by_cases e : w.getD 0 0 = i
  · subst e; rw [if_pos rfl]; exact (step_here h).symm
  · rw [if_neg e]; exact (step_zero h (Ne.symm e)).symm
theorem row_fall {n : Nat} (h0 : 0 < s) (h : s < w.length) : (rowW w n (fallW w s)).set (w.getD s 0) (s + 1) = rowW w n s := by
  unfold rowW
  refine List.ext_getElem (by simp) fun i h1 h2 => ?_
  simp only [List.getElem_set, List.getElem_map, List.getElem_range]
  by_cases e : w.getD s 0 = i
  · subst e; rw [if_pos rfl]; exact (step_here h).symm
  · rw [if_neg e]; exact (step_fall h0 h (Ne.symm e)).symm
end Km
namespace K31
open PySem PySem.Spec PyProof.Rows L2
/-! sorted() of tracked data; orders. -/
section
variable {X : Cx} {pins : List (Addr × Obj)} {σ : L2.St} {H : Hp} {s : Shared}
theorem each_inR {β : Type} {enc : β → PyData} : ∀ {xs : List V} {its : List Value} {bs : List β}, Vals xs its → RpAll H xs (bs.map enc) →
    PySem.W.EachIs (fun (v : Value) (b : β) => ∃ x : V, RelV x v ∧ Rp H x (enc b)) its bs
  | _, _, [], .nil, .nil => .nil
  | _, _, b :: bs, .cons r rs, .cons d ds => .cons ⟨_, r, d⟩ (each_inR rs ds)
theorem each_outR {β : Type} {enc : β → PyData} : ∀ {its : List Value} {bs : List β},
    PySem.W.EachIs (fun (v : Value) (b : β) => ∃ x : V, RelV x v ∧ Rp H x (enc b)) its bs → ∃ ys : List V, Vals ys its ∧ RpAll H ys (bs.map enc)
  | _, _, .nil => ⟨[], .nil, .nil⟩
  | _, _, .cons ⟨x, r, d⟩ t => by
    obtain ⟨ys, h1, h2⟩ := each_outR t
    exact ⟨x :: ys, .cons r h1, .cons d h2⟩
theorem each_readsR (I : Inv X pins σ H s) {M : Hp} (sm : Same M H) {β : Type} {enc : β → PyData} : ∀ {its : List Value} {bs : List β},
    PySem.W.EachIs (fun (v : Value) (b : β) => ∃ x : V, RelV x v ∧ Rp M x (enc b)) its bs → PySem.W.EachIs (fun v b => ∃ as, Reads s.heap v (enc b) as) its bs
  | _, _, .nil => .nil
  | _, _, .cons ⟨x, r, d⟩ t => .cons (Dp.reads I _ _ _ ((d.s sm).d _) r) (each_readsR I sm t)
theorem cr_sortR (hu : X.A.units + 64 < cLine) : CallR X (.builtin "sorted") fun vs H Q => ∃ (M : Hp) (β : Type) (bs : List β) (enc : β → PyData) (a : Addr) (xs : List V),
    vs = [V.ref a] ∧ H a = some (.lst xs) ∧ Same M H ∧ RpAll M xs (bs.map enc) ∧ PySem.W.AllAlike (bs.map enc) ∧ PySem.W.Sortable (bs.map enc) ∧ (∀ b ∈ bs, (enc b).depth ≤ 60) ∧
    ∀ (ys : List V) (p : Addr) (H' : Hp), RpAll M ys ((bs.mergeSort (PySem.W.dataLe false enc)).map enc) → New H p (.lst ys) H' → Q (.ref p) H' := by
  intro pins s σ H vs us Q I r h
  obtain ⟨M, β, bs, enc, a, xs, rfl, hs, sm, hd, hal, hk, hdep, q⟩ := h
  obtain ⟨its, rv, hl, hz⟩ := I.list (SqL.of hs)
  rw [Vals.ref1 r]
  have e := each_inR rv hd
  have er := each_readsR I sm e
  have hlen := e.length
  have hvl := rv.length
  refine PySem.W.sorted_data (R := fun (v : Value) (b : β) => ∃ x : V, RelV x v ∧ Rp M x (enc b)) hl.isList e er hal hk (by omega) (fun b hb => ?_) fun out h1 h2 => ?_
  · have := hdep b hb
    omega
  · obtain ⟨ys, v1, v2⟩ := each_outR h2
    obtain ⟨ep, he'⟩ := PyProof.Rows.sortedAll_at s.heap its out.toArray
    have hy := v1.length
    have hyl : ys.length = xs.length := by omega
    exact ⟨.ref _, upd H (s.heap.objs.size + 1) (.lst ys), I.laid (t' := s.toks) (fun _ _ => PyProof.Rows.sortedAll_old) (Nat.le_succ _) ⟨by omega, out, ep, v1, he'⟩, rfl, q ys _ _ v2 (.mk' (I.hok.fresh (Nat.le_succ _)))⟩
end
/-- sorted(list of naturals), rows, pairs: the leaf rules by kind -/
def srt (l : List Nat) : List Nat := l.mergeSort (PySem.W.dataLe false eN)
def srtR (l : List (List Nat)) : List (List Nat) := l.mergeSort (PySem.W.dataLe false eNs)
def srtP (l : List (Nat × Nat)) : List (Nat × Nat) := l.mergeSort (PySem.W.dataLe false eP)
def srtT (l : List (Nat × Nat × Nat)) : List (Nat × Nat × Nat) := l.mergeSort (PySem.W.dataLe false eT)
def srtQ (l : List (List Nat × List Nat)) : List (List Nat × List Nat) := l.mergeSort (PySem.W.dataLe false ePart)
section
variable {X : Cx}
theorem alike_ns (l m : List Nat) : PySem.W.alikeAll (l.map eN) (m.map eN) = true := by
  rw [map_cast, map_cast]
  exact PySem.W.alike_ints _ _
theorem cr_sortN (hu : X.A.units + 64 < cLine) : CallR X (.builtin "sorted") fun vs H Q => ∃ (l : List Nat) (a : Addr), vs = [V.ref a] ∧ H a = some (.lst (vns l)) ∧ ∀ (p : Addr) (H' : Hp), New H p (.lst (vns (srt l))) H' → Q (.ref p) H' :=
  CallR.imp (cr_sortR hu) fun vs H Q q => by
    obtain ⟨l, a, e, h, k⟩ := q
    refine ⟨H, Nat, l, eN, a, vns l, e, h, .refl H, .of_nats l, .of fun _ _ => rfl, .others fun b => ⟨by simp, by simp⟩, fun b _ => Nat.zero_le _, fun ys p H' hy n => ?_⟩
    rw [RpAll.nats (l := l.mergeSort (PySem.W.dataLe false eN)) hy] at n
    exact k p H' n
theorem cr_sortRow (hu : X.A.units + 64 < cLine) : CallR X (.builtin "sorted") fun vs H Q => ∃ (M : Hp) (l : List (List Nat)) (a : Addr) (xs : List V), vs = [V.ref a] ∧ H a = some (.lst xs) ∧ Same M H ∧ RpAll M xs (l.map eNs) ∧ ∀ (ys : List V) (p : Addr) (H' : Hp), RpAll M ys ((srtR l).map eNs) → New H p (.lst ys) H' → Q (.ref p) H' :=
  CallR.imp (cr_sortR hu) fun vs H Q q => by
    obtain ⟨M, l, a, xs, e, h, sm, r, k⟩ := q
    exact ⟨M, _, l, eNs, a, xs, e, h, sm, r, .of fun b c => alike_ns b c, .others fun b => ⟨by simp, by simp⟩, fun b _ => Nat.le_trans (sh_ns b).2 (by decide), k⟩
theorem cr_sortP (hu : X.A.units + 64 < cLine) : CallR X (.builtin "sorted") fun vs H Q => ∃ (M : Hp) (l : List (Nat × Nat)) (a : Addr) (xs : List V), vs = [V.ref a] ∧ H a = some (.lst xs) ∧ Same M H ∧ RpAll M xs (l.map eP) ∧ ∀ (ys : List V) (p : Addr) (H' : Hp), RpAll M ys ((srtP l).map eP) → New H p (.lst ys) H' → Q (.ref p) H' :=
  CallR.imp (cr_sortR hu) fun vs H Q q => by
    obtain ⟨M, l, a, xs, e, h, sm, r, k⟩ := q
    exact ⟨M, _, l, eP, a, xs, e, h, sm, r, .of fun b c => rfl, .tuples fun b => ⟨_, _, rfl⟩, fun b _ => Nat.le_trans (sh_p b).2 (by decide), k⟩
theorem cr_sortT (hu : X.A.units + 64 < cLine) : CallR X (.builtin "sorted") fun vs H Q => ∃ (M : Hp) (l : List (Nat × Nat × Nat)) (a : Addr) (xs : List V), vs = [V.ref a] ∧ H a = some (.lst xs) ∧ Same M H ∧ RpAll M xs (l.map eT) ∧ ∀ (ys : List V) (p : Addr) (H' : Hp), RpAll M ys ((srtT l).map eT) → New H p (.lst ys) H' → Q (.ref p) H' :=
  CallR.imp (cr_sortR hu) fun vs H Q q => by
    obtain ⟨M, l, a, xs, e, h, sm, r, k⟩ := q
    exact ⟨M, _, l, eT, a, xs, e, h, sm, r, .of fun b c => rfl, .tuples fun b => ⟨_, _, rfl⟩, fun b _ => Nat.le_trans (sh_t b).2 (by decide), k⟩
theorem cr_sortPart (hu : X.A.units + 64 < cLine) : CallR X (.builtin "sorted") fun vs H Q => ∃ (M : Hp) (l : List (List Nat × List Nat)) (a : Addr) (xs : List V), vs = [V.ref a] ∧ H a = some (.lst xs) ∧ Same M H ∧ RpAll M xs (l.map ePart) ∧ ∀ (ys : List V) (p : Addr) (H' : Hp), RpAll M ys ((srtQ l).map ePart) → New H p (.lst ys) H' → Q (.ref p) H' :=
  CallR.imp (cr_sortR hu) fun vs H Q q => by
    obtain ⟨M, l, a, xs, e, h, sm, r, k⟩ := q
    refine ⟨M, _, l, ePart, a, xs, e, h, sm, r, .of fun b c => ?_, .tuples fun b => ⟨_, _, rfl⟩, fun b _ => Nat.le_trans (sh_part b).2 (by decide), k⟩
    show (PySem.W.alikeAll (b.1.map eN) (c.1.map eN) && (PySem.W.alikeAll (b.2.map eN) (c.2.map eN) && true)) = true
    rw [alike_ns, alike_ns]
    rfl
end
theorem le_n : PySem.W.dataLe false eN = fun a b : Nat => decide (a ≤ b) := by
  have := PySem.W.dataLe_int fun n : Nat => (n : Int)
  refine this.trans ?_
  funext a b
  simp
theorem srt_perm (l : List Nat) : (srt l).Perm l := List.mergeSort_perm _ _
theorem srt_le (l : List Nat) : (srt l).Pairwise (· ≤ ·) := by
  unfold srt
  rw [le_n]
  have := List.pairwise_mergeSort (le := fun a b : Nat => decide (a ≤ b)) (fun a b c h1 h2 => by simp at *; omega) (fun a b => by simp; omega) l
  exact this.imp fun h => by simpa using h
theorem srt_lt {l : List Nat} (h : l.Nodup) : (srt l).Pairwise (· < ·) := by
  have nd : (srt l).Nodup := (srt_perm l).nodup_iff.mpr h
  exact (List.Pairwise.and (srt_le l) nd).imp fun ⟨a, b⟩ => by omega
theorem srt_mem {l : List Nat} {x : Nat} : x ∈ srt l ↔ x ∈ l := (srt_perm l).mem_iff
theorem srt_id {l : List Nat} (h : l.Pairwise (· < ·)) : srt l = l := Tj.sorted_ext (srt_lt (h.imp fun h => by omega)) h fun x => srt_mem
/-- rows with rising heads stay as they are -/
theorem le_rows : PySem.W.dataLe false eNs = fun a b : List Nat => decide ((a.map fun n : Nat => (n : Int)) ≤ b.map fun n : Nat => (n : Int)) := by
  have := PySem.W.dataLe_rows fun l : List Nat => l.map fun n : Nat => (n : Int)
  refine Eq.trans ?_ this
  congr 1
  funext l
  show PyData.list (l.map eN) = _
  rw [map_cast]
theorem srtR_eq {l m : List (List Nat)} (hp : l.Perm m) (hm : m.Pairwise fun a b => ((a.map fun n : Nat => (n : Int)) < b.map fun n : Nat => (n : Int))) : srtR l = m := by
  unfold srtR
  rw [le_rows]
  have hs := List.pairwise_mergeSort (le := fun a b : List Nat => decide ((a.map fun n : Nat => (n : Int)) ≤ b.map fun n : Nat => (n : Int)))
    (fun a b c h1 h2 => by simp only [decide_eq_true_eq] at *; exact List.le_trans h1 h2) (fun a b => by simp only [Bool.or_eq_true, decide_eq_true_eq]; exact List.le_total _ _) l
  have h1 := (List.mergeSort_perm l (fun a b : List Nat => decide ((a.map fun n : Nat => (n : Int)) ≤ b.map fun n : Nat => (n : Int)))).trans hp
  refine h1.eq_of_pairwise (le := fun a b => (a.map fun n : Nat => (n : Int)) ≤ b.map fun n : Nat => (n : Int)) (fun a b _ _ h1 h2 => ?_) (hs.imp fun h => by simpa using h) (hm.imp fun h => List.le_of_lt h)
  have := List.le_antisymm h1 h2
  exact List.map_inj_right (fun x y h => Int.ofNat.inj h) |>.mp this
end K31
namespace K31
open PySem L2
section
variable {P : Program} {w : World} {K : PySem.W.Frag} {mg : PySem.Str → Option Value} {base : Heap}

def sp_is_integer : Sp := fun vs H Q _ => ∃ i : Int, vs = [.int i] ∧ Q (.bl true) H
theorem ok_is_integer (T : Tx K mg) : FnOk P w K mg base CX0 1 T.is_integer.f T.is_integer.fd ["value"] sp_is_integer := by
  refine T.is_integer.F.ok sc_is_integer (fun vs H Q E h => ?_) (fun cdv A outer s H vs Q E hr h => ?_)
  · obtain ⟨i, rfl, _⟩ := h
    rfl
  · obtain ⟨i, rfl, q⟩ := h
    refine ⟨_, (pss_one (ps_ret (pe_and (pe_callB call_isi (by rfl) T.n_isinstance (by decide +kernel) (pa_cons (pv 0) (pa_cons (pe_bltn (v := .ty "int") (by rfl) T.n_int (by decide +kernel) rfl) pa_nil))) (pe_one (pe_not (pe_callB call_isi (by rfl) T.n_isinstance (by decide +kernel) (pa_cons (pv 0) (pa_cons (pe_bltn (v := .ty "bool") (by rfl) T.n_bool (by decide +kernel) rfl) pa_nil)))))))), ?_⟩
    refine ⟨.int i, rfl, .int i, .ty "int", .type "int", .type "int", true, rfl, .ty "int", .base (.int i), kit_ty (by decide +kernel), true, rfl, iteT ?_⟩
    exact ⟨.int i, rfl, .int i, .ty "bool", .type "int", .type "bool", false, rfl, .ty "bool", .base (.int i), kit_ty (by decide +kernel), false, rfl, q⟩

def sp_is_count : Sp := fun vs H Q _ => ∃ n : Nat, vs = [vn n] ∧ Q (.bl true) H
theorem ok_is_count (T : Tx K mg) : FnOk P w K mg base CX0 2 T.is_count.f T.is_count.fd ["value"] sp_is_count := by
  refine T.is_count.F.ok sc_is_count (fun vs H Q E h => ?_) (fun cdv A outer s H vs Q E hr h => ?_)
  · obtain ⟨i, rfl, _⟩ := h
    rfl
  · obtain ⟨n, rfl, q⟩ := h
    refine ⟨_, (pss_one (ps_ret (pe_and (pe_call (ok_is_integer T) (hr.mono (by decide)) (by rfl) T.is_integer.g T.is_integer.F.kp T.is_integer.b .nil pass0 (pa_cons (pv 0) pa_nil)) (pe_one (pe_cmpR op_ge (pv 0) pe_int (nomark _)))))), ?_⟩
    refine ⟨vn n, rfl, n, rfl, true, rfl, iteT ?_⟩
    exact ⟨vn n, rfl, n, 0, rfl, rfl, bl_true (decide_eq_true (show (0 : Int) ≤ (n : Int) by omega)) q⟩

def sp_is_list : Sp := fun vs H Q _ => ∃ a, vs = [.ref a] ∧ ((∃ xs, H a = some (.lst xs)) ∨ ∃ xs, H a = some (.tup xs)) ∧ ∀ H', Same H H' → Q (.bl true) H'
theorem ok_is_list (T : Tx K mg) : FnOk P w K mg base CX0 1 T.is_list.f T.is_list.fd ["value"] sp_is_list := by
  refine T.is_list.F.ok sc_is_list (fun vs H Q E h => ?_) (fun cdv A outer s H vs Q E hr h => ?_)
  · obtain ⟨i, rfl, _⟩ := h
    rfl
  · obtain ⟨a, rfl, ha, q⟩ := h
    refine ⟨_, (pss_one (ps_ret (pe_callB call_isiT (by rfl) T.n_isinstance (by decide +kernel) (pa_cons (pv 0) (pa_cons (pe_tupU (pa_cons (pe_bltn (v := .ty "list") (by rfl) T.n_list (by decide +kernel) rfl) (pa_cons (pe_bltn (v := .ty "tuple") (by rfl) T.n_tuple (by decide +kernel) rfl) pa_nil))) pa_nil))))), ?_⟩
    refine ⟨.ref a, rfl, by show 2 ≤ sizeLine; decide, fun p Hp1 n1 => ?_⟩
    have hcl : Paired ClsV [.ty "list", .ty "tuple"] [.type "list", .type "tuple"] := .cons (.ty _) (.cons (.ty _) .nil)
    have q1 := q _ n1.same
    rcases ha with ⟨xs, ha⟩ | ⟨xs, ha⟩
    · exact ⟨.ref a, p, [.ty "list", .ty "tuple"], .type "list", [.type "list", .type "tuple"], true, rfl, n1.at, hcl, .base (.lst (n1.same _ _ ha)),
        kitAny_cons (kit_ty (a := "list") (b := "list") (r := true) (by decide +kernel)) (fun e => by cases e) (fun _ => rfl), q1⟩
    · exact ⟨.ref a, p, [.ty "list", .ty "tuple"], .type "tuple", [.type "list", .type "tuple"], true, rfl, n1.at, hcl, .base (.tup (n1.same _ _ ha)),
        kitAny_cons (kit_ty (a := "tuple") (b := "list") (r := false) (by decide +kernel)) (fun _ => kitAny_cons (kit_ty (a := "tuple") (b := "tuple") (r := true) (by decide +kernel)) (fun e => by cases e) (fun _ => rfl)) (fun e => by cases e), q1⟩

def sp_want_web (W : Addr) : Sp := fun vs H Q _ => ∃ a dx fs, vs = [.ref a] ∧ H a = some (.ins W dx fs) ∧ Q (.ref a) H
theorem ok_want_web (T : Tx K mg) : FnOk P w K mg base CX0 1 T.want_web.f T.want_web.fd ["value"] (sp_want_web T.Web) := by
  refine T.want_web.F.ok sc_want_web (fun vs H Q E h => ?_) (fun cdv A outer s H vs Q E hr h => ?_)
  · obtain ⟨a, dx, fs, rfl, _⟩ := h
    rfl
  · obtain ⟨a, dx, fs, rfl, ha, q⟩ := h
    refine ⟨_, (pss_cons (ps_if (pt_not (pt_val (pe_callB (C8.call_isC T.insWeb) (by rfl) T.n_isinstance (by decide +kernel) (pa_cons (pv 0) (pa_cons (pe_glob (v := .ref T.Web) rfl T.gWeb rfl) pa_nil))))) (pss_one ps_never) pss_nil)
    (pss_one (ps_ret (pv 0)))), ?_⟩
    refine ⟨.ref a, rfl, a, dx, fs, rfl, ha, true, rfl, ?_⟩
    exact iteF ⟨.ref a, rfl, q⟩
end
end K31
namespace K31
open PySem L2
section
variable {P : Program} {w : World} {K : PySem.W.Frag} {mg : PySem.Str → Option Value} {base : Heap}

def sp_is_tie_value : Sp := fun vs H Q _ => ∃ (n : Nat) (a : Addr) (p : Nat × Nat), vs = [vn n, .ref a] ∧ H a = some (.tup [vn p.1, vn p.2]) ∧ p.1 < n ∧ p.2 < n ∧ ∀ H', Same H H' → Q (.bl true) H'
theorem ok_is_tie_value (T : Tx K mg) : FnOk P w K mg base CX0 3 T.is_tie_value.f T.is_tie_value.fd ["places", "value"] sp_is_tie_value := by
  refine T.is_tie_value.F.ok sc_is_tie_value (fun vs H Q E h => ?_) (fun cdv A outer s H vs Q E hr h => ?_)
  · obtain ⟨n, a, p, rfl, _⟩ := h
    rfl
  · obtain ⟨n, a, p, rfl, ha, h1, h2, q⟩ := h
    refine ⟨_, (pss_cons (ps_if (PW.pt (pw_or (pt_not (pt_val (pe_callB call_isi (by rfl) T.n_isinstance (by decide +kernel) (pa_cons (pv 1) (pa_cons (pe_bltn (v := .ty "tuple") (by rfl) T.n_tuple (by decide +kernel) rfl) pa_nil))))) (pw_or (pt_cmpR op_ne (pe_callB call_lenU (by rfl) T.n_len PySem.boot_len (pa_cons (pv 1) pa_nil)) pe_int (nomark _)) (pw_or1 (pt_not (pt_val (pe_callB (cr_allU rfl) (by rfl) T.n_all (by decide +kernel) (pa_cons (pe_lc (own := [("one", 2)]) rfl sc_is_tie_value.nd (pi_tup (pv 1)) (blkOk_by (N := N_is_tie_value) (sc := defScope s_is_tie_value) (by decide +kernel)) (fun _ _ _ _ _ => (pg_name (i := 2) sc_is_tie_value.nd rfl (by first | exact Or.inl rfl | exact Or.inr rfl))) (fun _ _ _ _ _ => pts_nil) (fun _ _ _ _ _ => (pe_call (ok_is_count T) (hr.mono (by decide)) (by rfl) T.is_count.g T.is_count.F.kp T.is_count.b .nil pass0 (pa_cons (pv 2) pa_nil)))) pa_nil)))))))) (pss_one (ps_ret pe_bl)) pss_nil)
    (pss_one (ps_ret (pe_cmpR op_lt (pe_callB (cr_maxTU rfl hr.units) (by rfl) T.n_max (by decide +kernel) (pa_cons (pv 1) pa_nil)) (pv 0) (nomark _))))), ?_⟩
    refine ⟨.ref a, rfl, .ref a, .ty "tuple", .type "tuple", .type "tuple", true, rfl, .ty _, .base (.tup ha), kit_ty (by decide +kernel), true, rfl, ?_⟩
    refine iteF ?_
    refine ⟨.ref a, rfl, a, _, rfl, .inr ha, rfl, _, rfl, iteNS rfl ?_⟩
    refine ⟨.ref a, rfl, a, rfl, ⟨_, SqT.of ha⟩, fun D hD => ?_⟩
    refine lc_tupM (K := K) (a := a) (Same.refl H) hD ha (by show 2 < sizeLine; decide) (fun i => List.replicate i (.bool true)) rfl (fun i x M H2 hx e hm Yes No y n => ?_) (fun H2 h => ?_)
    · refine ⟨rfl, ?_⟩
      have hx2 : ∃ k : Nat, x = vn k := by
        cases i with
        | zero => exact ⟨p.1, (Option.some.inj hx).symm⟩
        | succ i =>
          cases i with
          | zero => exact ⟨p.2, (Option.some.inj hx).symm⟩
          | succ i => simp at hx
      obtain ⟨k, rfl⟩ := hx2
      exact ⟨vn k, rfl, k, rfl, y _ _ M (.bool true) (.refl e.mh) (.bl true) (rep_succ _ _)⟩
    · obtain ⟨bs, hb, eb, sm⟩ := all_end h
      refine ⟨D, bs, rfl, hb, true, by rw [eb], ?_⟩
      refine iteF ?_
      refine ⟨.ref a, rfl, a, [p.1, p.2], rfl, sm _ _ ha, by simp, fun m hm => ⟨vn n, rfl, _, _, rfl, rfl, ?_⟩⟩
      refine bl_true (decide_eq_true ?_) (q _ sm)
      have : m = p.1 ∨ m = p.2 := by simpa using hm
      omega
end
end K31
namespace K31
open PySem L2
section
variable {P : Program} {w : World} {K : PySem.W.Frag} {mg : PySem.Str → Option Value} {base : Heap}

theorem nd_get {α : Type} {l : List α} (hN : l.Nodup) {i j : Nat} {x : α} (a : l[i]? = some x) (b : l[j]? = some x) : i = j := by
  obtain ⟨h1, e1⟩ := List.getElem?_eq_some_iff.mp a
  obtain ⟨h2, e2⟩ := List.getElem?_eq_some_iff.mp b
  have key := List.pairwise_iff_getElem.mp hN
  rcases Nat.lt_trichotomy i j with z | z | z
  · exact absurd (e1.trans e2.symm) (key i j h1 h2 z)
  · exact z
  · exact absurd (e2.trans e1.symm) (key j i h2 h1 z)
theorem vns_app (l : List Nat) (i : Nat) : vns l ++ [vn i] = vns (l ++ [i]) := by
  unfold vns
  rw [List.map_append]
  rfl

/-- the object while it is made: all that is new stands apart from H1, and M lies in H1 -/
structure WebMk (W : Addr) (M H1 : Hp) (x : Addr) (H : Hp) (fs : List (PySem.Str × V)) : Prop where
  s : Same H1 H
  sM : Same M H1
  x0 : H1 x = none
  at_ : ∃ dx, H x = some (.ins W dx fs)
theorem WebMk.mh {W x : Addr} {M H1 H : Hp} {fs : List (PySem.Str × V)} (h : WebMk W M H1 x H fs) : Same M H := h.sM.trans h.s
theorem WebMk.same {W x : Addr} {M H1 H H' : Hp} {fs : List (PySem.Str × V)} (h : WebMk W M H1 x H fs) (s : Same H H') : WebMk W M H1 x H' fs := by
  obtain ⟨dx, e⟩ := h.at_
  exact ⟨h.s.trans s, h.sM, h.x0, dx, s _ _ e⟩
theorem WebMk.fld {W x dx : Addr} {M H1 H H' : Hp} {fs gs : List (PySem.Str × V)} (h : WebMk W M H1 x H fs) (n : Wr H x (.ins W dx gs) H') : WebMk W M H1 x H' gs :=
  ⟨by rw [n.eq]; exact h.s.past h.x0, h.sM, h.x0, dx, n.at⟩

/-- the whole object while the ties are gone through, i of them done; the heap H1 stood before -/
structure WebLoop (W : Addr) (H1 : Hp) (x tt f g : Addr) (qs rs : List Addr) (n : Nat) (E : List (Nat × Nat)) (ts : List V) (i : Nat) (H : Hp) : Prop where
  s : Same H1 H
  x_ : ∃ dx, H x = some (.ins W dx (webF n tt f g))
  t_ : H tt = some (.tup ts)
  f_ : H f = some (.lst (qs.map V.ref))
  g_ : H g = some (.lst (rs.map V.ref))
  q_ : ∀ v q, qs[v]? = some q → H q = some (.lst (vns (Tj.adjTo E i v)))
  r_ : ∀ r ∈ rs, ∃ l : List V, l.length ≤ i ∧ H r = some (.lst l)

def sp_Web_init (W : Addr) : Sp := fun vs H Q _ => ∃ (M H1 : Hp) (x t : Addr) (n : Nat) (E : List (Nat × Nat)), vs = [.ref x, vn n, .ref t] ∧ WebMk W M H1 x H [] ∧
  Rp M (.ref t) (ePs E) ∧ 1 ≤ n ∧ n ≤ 60 ∧ E.length ≤ 80 ∧ (∀ p ∈ E, p.1 < n ∧ p.2 < n) ∧ ∀ M' H', Ext M H1 M' H' → WebAt W M' x n E → Q .non H'
theorem ok_Web_init (T : Tx K mg) : FnOk P w K mg base CX0 4 T.Web_init.f T.Web_init.fd ["self", "places", "ties"] (sp_Web_init T.Web) := by
  refine T.Web_init.F.ok sc_Web_init (fun vs H Q E h => ?_) (fun cdv A outer s H vs Q E hr h => ?_)
  · obtain ⟨M, H1, x, t, n, E, rfl, _⟩ := h
    rfl
  · obtain ⟨M, H1, x, t, n, E, rfl, mk0, ht, hn1, hn60, hE80, hE, q⟩ := h
    obtain ⟨ta, ts, e, htl, hts⟩ := ht.list_inv
    cases e
    have htlen : ts.length = E.length := by rw [hts.len, List.length_map]
    refine ⟨_, (pss_cons (ps_if (PW.pt (pw_or (pt_not (pt_val (pe_call (ok_is_count T) (hr.mono (by decide)) (by rfl) T.is_count.g T.is_count.F.kp T.is_count.b .nil pass0 (pa_cons (pv 1) pa_nil)))) (pw_or1 (pt_not (pt_chain op_le op_le pe_int (pv 1) (pe_glob (v := .int 60) rfl T.MOST_PLACES ⟨_, rfl⟩)))))) (pss_one ps_never) pss_nil)
    (pss_cons (ps_if (PW.pt (pw_or (pt_not (pt_val (pe_call (ok_is_list T) (hr.mono (by decide)) (by rfl) T.is_list.g T.is_list.F.kp T.is_list.b .nil pass0 (pa_cons (pv 2) pa_nil)))) (pw_or (pt_cmpR op_gt (pe_callB call_lenU (by rfl) T.n_len PySem.boot_len (pa_cons (pv 2) pa_nil)) (pe_glob (v := .int 80) rfl T.MOST_TIES ⟨_, rfl⟩) (nomark _)) (pw_or1 (pt_not (pt_val (pe_callB (cr_allU rfl) (by rfl) T.n_all (by decide +kernel) (pa_cons (pe_lc (own := [("tie", 3)]) rfl sc_Web_init.nd (pi_list (pv 2)) (blkOk_by (N := N_Web_init) (sc := defScope s_Web_init) (by decide +kernel)) (fun _ _ _ _ _ => (pg_name (i := 3) sc_Web_init.nd rfl (by first | exact Or.inl rfl | exact Or.inr rfl))) (fun _ _ _ _ _ => pts_nil) (fun _ _ _ _ _ => (pe_call (ok_is_tie_value T) (hr.mono (by decide)) (by rfl) T.is_tie_value.g T.is_tie_value.F.kp T.is_tie_value.b .nil pass0 (pa_cons (pv 1) (pa_cons (pv 3) pa_nil))))) pa_nil)))))))) (pss_one ps_never) pss_nil)
    (pss_cons (ps_fldU (pv 0) (pv 1) rfl)
    (pss_cons (ps_fldU (pv 0) (pe_callTy call_tuple_ofU (by rfl) T.n_tuple (by decide +kernel) (pa_cons (pv 2) pa_nil)) rfl)
    (pss_cons (ps_fldU (pv 0) (pe_lc (own := [("place", 4)]) rfl sc_Web_init.nd (pi_range1 (by rfl) T.n_range (pa_cons (pv 1) pa_nil)) (blkOk_by (N := N_Web_init) (sc := defScope s_Web_init) (by decide +kernel)) (fun _ _ _ _ _ => (pg_name (i := 4) sc_Web_init.nd rfl (by first | exact Or.inl rfl | exact Or.inr rfl))) (fun _ _ _ _ _ => pts_nil) (fun _ _ _ _ _ => (pe_lstU pa_nil))) rfl)
    (pss_cons (ps_fldU (pv 0) (pe_lc (own := [("place", 4)]) rfl sc_Web_init.nd (pi_range1 (by rfl) T.n_range (pa_cons (pv 1) pa_nil)) (blkOk_by (N := N_Web_init) (sc := defScope s_Web_init) (by decide +kernel)) (fun _ _ _ _ _ => (pg_name (i := 4) sc_Web_init.nd rfl (by first | exact Or.inl rfl | exact Or.inr rfl))) (fun _ _ _ _ _ => pts_nil) (fun _ _ _ _ _ => (pe_lstU pa_nil))) rfl)
    (pss_one (ps_for PassesOwn.never rfl (pi_enumT (by rfl) T.n_enumerate (pa_cons (pe_fldK (K := K) rfl (pv 0) rfl) pa_nil)) (pg_tupU (by rfl) (pgs_cons (pg_name (i := 5) sc_Web_init.nd rfl (Or.inl rfl)) (pgs_cons (pg_tupU (by rfl) (pgs_cons (pg_name (i := 6) sc_Web_init.nd rfl (Or.inl rfl)) (pgs_cons (pg_name (i := 7) sc_Web_init.nd rfl (Or.inl rfl)) pgs_nil))) pgs_nil)))
      (pss_cons (ps_expr (pe_bm PySem.F.plainAttrs_list PySem.F.slot_list_append PySem.F.type_list_append mt_appendU (pe_ix ix_listU (pe_fldK (K := K) rfl (pv 0) rfl) (pv 6) (fun _ _ => rfl)) (pa_cons (pv 5) pa_nil)))
    (pss_one (ps_expr (pe_bm PySem.F.plainAttrs_list PySem.F.slot_list_append PySem.F.type_list_append mt_appendU (pe_ix ix_listU (pe_fldK (K := K) rfl (pv 0) rfl) (pv 7) (fun _ _ => rfl)) (pa_cons (pv 5) pa_nil))))))))))))), ?_⟩
    -- is_count(places), 1 <= places <= 60
    refine ⟨vn n, rfl, n, rfl, true, rfl, ?_⟩
    refine iteF ?_
    refine ⟨vn n, rfl, 1, n, rfl, rfl, true, congrArg V.bl (decide_eq_true (show (1 : Int) ≤ (n : Int) by omega)), ?_⟩
    refine iteT ?_
    refine ⟨n, 60, rfl, rfl, true, congrArg V.bl (decide_eq_true (show (n : Int) ≤ 60 by omega)), ?_⟩
    refine iteF ?_
    -- is_list(ties), len(ties) > 80, all(..)
    refine ⟨.ref t, rfl, t, rfl, .inl ⟨_, mk0.mh _ _ htl⟩, fun H2 s2 => ⟨true, rfl, ?_⟩⟩
    have mk2 := mk0.same s2
    refine iteF ?_
    refine ⟨.ref t, rfl, t, ts, rfl, .inl (mk2.mh _ _ htl), ts.length, 80, rfl, rfl, false, congrArg V.bl (decide_eq_false (show ¬ (80 : Int) < (ts.length : Int) by omega)), ?_⟩
    refine iteF ?_
    refine ⟨.ref t, rfl, t, rfl, ⟨_, SqL.of (mk2.mh _ _ htl)⟩, fun D hD => ?_⟩
    refine lc_listM (K := K) (a := t) mk2.mh hD (mk2.mh _ _ htl) (by rw [htlen]; exact Nat.lt_of_le_of_lt hE80 (by decide)) (fun i => List.replicate i (.bool true)) rfl (fun i y M3 H3 hy e3 hm3 Yes No yes no => ?_) (fun H3 h3 => ?_)
    · obtain ⟨d, hd, rd⟩ := hts.at' hy
      rw [List.getElem?_map] at hd
      obtain ⟨p, hp, rfl⟩ := Option.map_eq_some_iff.mp hd
      obtain ⟨a, rfl, ha⟩ := rd.p_inv
      have hpm := hE p (List.mem_of_getElem? hp)
      refine ⟨rfl, ?_⟩
      refine ⟨vn n, rfl, .ref a, rfl, n, a, p, rfl, e3.mh0 _ _ ha, hpm.1, hpm.2, fun H4 s4 => yes _ _ M3 (.bool true) (.of e3.mh s4) (.bl true) (rep_succ _ _)⟩
    obtain ⟨bs, hb, eb, sm⟩ := all_end h3
    have mk3 := mk2.same sm
    refine ⟨D, bs, rfl, hb, true, by rw [eb], ?_⟩
    refine iteF ?_
    -- self.own_places = places; self.own_ties = tuple(ties)
    obtain ⟨d3, a3⟩ := mk3.at_
    refine ⟨vn n, rfl, .ref x, rfl, x, T.Web, d3, [], rfl, a3, T.clWeb, T.noWeb_own_places, by show 0 < 1000; decide, fun H4 w4 => ?_⟩
    have mk4 := mk3.fld w4
    refine ⟨.ref t, rfl, t, ts, rfl, mk4.mh _ _ htl, fun tt H5 n5 => ?_⟩
    have mk5 := mk4.same n5.same
    obtain ⟨d5, a5⟩ := mk5.at_
    refine ⟨.ref x, rfl, x, T.Web, d5, _, rfl, a5, T.clWeb, T.noWeb_own_ties, by show 1 < 1000; decide, fun H6 w6 => ?_⟩
    have mk6 := mk5.fld w6
    have htt0 : H1 tt = none := mk4.s.free n5.free
    have ttx : tt ≠ x := ne_of n5.at a5 (fun z => by cases z)
    have t6 : H6 tt = some (.tup ts) := by rw [w6.old ttx]; exact n5.at
    -- self.own_from = [[] ..]
    refine ⟨vn n, rfl, n, rfl, by omega, by omega, fun f hf => ?_⟩
    refine lc_range (lo := 0) (n := ((n : Nat) : Int).toNat) (RowsInv _ f) (rows_start hf) (fun i H7 hi h7 => ⟨rfl, Nat.zero_le _, fun p H' np => rows_turn hf (Nat.lt_trans hi (Nat.lt_of_le_of_lt (show ((n : Nat) : Int).toNat ≤ 60 by omega) (by decide))) h7 np⟩) (fun H7 h7 => ?_)
    obtain ⟨qs, s7, f7, ql, qnd, q7⟩ := h7
    have mk7 := mk6.same s7
    obtain ⟨d7, a7⟩ := mk7.at_
    refine ⟨.ref x, rfl, x, T.Web, d7, _, rfl, a7, T.clWeb, T.noWeb_own_from, by show 2 < 1000; decide, fun H8 w8 => ?_⟩
    have hf0 : H1 f = none := mk6.s.free hf
    have fx : f ≠ x := ne_of f7 a7 (fun z => by cases z)
    have qx : ∀ q ∈ qs, q ≠ x := fun q hq => ne_of (q7 q hq).2.2 a7 (fun z => by cases z)
    have q0 : ∀ q ∈ qs, H1 q = none := fun q hq => mk6.s.free (q7 q hq).1
    have mk8 := mk7.fld w8
    have t8 : H8 tt = some (.tup ts) := by rw [w8.old ttx]; exact s7 _ _ t6
    have f8 : H8 f = some (.lst (qs.map V.ref)) := by rw [w8.old fx]; exact f7
    have q8 : ∀ q ∈ qs, H8 q = some (.lst []) := fun q hq => by rw [w8.old (qx q hq)]; exact (q7 q hq).2.2
    have qf : ∀ q ∈ qs, q ≠ f := fun q hq => (q7 q hq).2.1
    -- self.own_to = [[] ..]
    refine ⟨vn n, rfl, n, rfl, by omega, by omega, fun g hg => ?_⟩
    refine lc_range (lo := 0) (n := ((n : Nat) : Int).toNat) (RowsInv _ g) (rows_start hg) (fun i H7 hi h7 => ⟨rfl, Nat.zero_le _, fun p H' np => rows_turn hg (Nat.lt_trans hi (Nat.lt_of_le_of_lt (show ((n : Nat) : Int).toNat ≤ 60 by omega) (by decide))) h7 np⟩) (fun H9 h9 => ?_)
    obtain ⟨rs, s9, g9, rl, rnd, r9⟩ := h9
    have mk9 := mk8.same s9
    obtain ⟨d9, a9⟩ := mk9.at_
    refine ⟨.ref x, rfl, x, T.Web, d9, _, rfl, a9, T.clWeb, T.noWeb_own_to, by show 3 < 1000; decide, fun H10 w10 => ?_⟩
    have hg0 : H1 g = none := mk8.s.free hg
    have gx : g ≠ x := ne_of g9 a9 (fun z => by cases z)
    have rx : ∀ q ∈ rs, q ≠ x := fun q hq => ne_of (r9 q hq).2.2 a9 (fun z => by cases z)
    have r0 : ∀ q ∈ rs, H1 q = none := fun q hq => mk8.s.free (r9 q hq).1
    have mk10 := mk9.fld w10
    have gf : g ≠ f := fun z => by rw [z, f8] at hg; cases hg
    have gq : ∀ q ∈ qs, q ≠ g := fun q hq z => by rw [← z, q8 q hq] at hg; cases hg
    have rf : ∀ r ∈ rs, r ≠ f := fun r hr z => by have := (r9 r hr).1; rw [z, f8] at this; cases this
    have rg : ∀ r ∈ rs, r ≠ g := fun r hr => (r9 r hr).2.1
    have rq : ∀ r ∈ rs, ∀ q ∈ qs, r ≠ q := fun r hr q hq z => by have := (r9 r hr).1; rw [z, q8 q hq] at this; cases this
    have hql : qs.length = n := by omega
    have hrl : rs.length = n := by omega
    have loop0 : WebLoop T.Web H1 x tt f g qs rs n E ts 0 H10 := by
      refine ⟨mk10.s, mk10.at_, by rw [w10.old ttx]; exact s9 _ _ t8, by rw [w10.old fx]; exact s9 _ _ f8, by rw [w10.old gx]; exact g9, fun v q hv => ?_, fun r hr => ⟨[], Nat.le_refl _, ?_⟩⟩
      · have hm := List.mem_of_getElem? hv
        rw [w10.old (qx q hm)]
        exact s9 _ _ (q8 q hm)
      · rw [w10.old (rx r hr)]
        exact (r9 r hr).2.2
    obtain ⟨d10, a10⟩ := mk10.at_
    -- the loop
    refine ⟨.ref x, rfl, x, T.Web, d10, _, .ref tt, rfl, a10, T.clWeb, T.noWeb_own_ties, rfl, tt, ts, rfl, SqT.of loop0.t_, ?_⟩
    refine for_enumT (K := K) (a := tt) (xs := ts) (fun i σ H => (∃ v5 v6 v7, σ = [some (.ref x), some (vn n), some (.ref t), none, none, v5, v6, v7]) ∧ WebLoop T.Web H1 x tt f g qs rs n E ts i H)
      ⟨⟨none, none, none, rfl⟩, loop0⟩ (fun i σ H _ h => SqT.of h.2.t_) (fun i y Ta σ H hy h H' nT => ?_) (fun σ H h => ?_)
    · obtain ⟨⟨v5, v6, v7, rfl⟩, lp⟩ := h
      obtain ⟨d, hd, rd⟩ := hts.at' hy
      rw [List.getElem?_map] at hd
      obtain ⟨p, hp, rfl⟩ := Option.map_eq_some_iff.mp hd
      obtain ⟨a, rfl, ha⟩ := rd.p_inv
      have hpm := hE p (List.mem_of_getElem? hp)
      have hiE : i < E.length := (List.getElem?_eq_some_iff.mp hp).1
      have haH : H' a = some (.tup [vn p.1, vn p.2]) := nT.same _ _ (lp.s _ _ (mk0.sM _ _ ha))
      obtain ⟨dx, ax⟩ := lp.x_
      have hsrc : Tj.src E i = p.1 := by
        unfold Tj.src
        rw [List.getD_eq_getElem?_getD, hp]
        rfl
      obtain ⟨qb, hqb⟩ : ∃ qb, qs[p.1]? = some qb := ⟨qs[p.1]'(by omega), List.getElem?_eq_getElem (by omega)⟩
      obtain ⟨rb, hrb⟩ : ∃ rb, rs[p.2]? = some rb := ⟨rs[p.2]'(by omega), List.getElem?_eq_getElem (by omega)⟩
      have hqm := List.mem_of_getElem? hqb
      have hrm := List.mem_of_getElem? hrb
      obtain ⟨lr, hlr, hrH⟩ := lp.r_ rb hrm
      have hadj : (vns (Tj.adjTo E i p.1)).length ≤ i := by
        rw [List.length_map]
        unfold Tj.adjTo
        exact Nat.le_trans (List.length_filter_le _ _) (by rw [List.length_range]; exact Nat.le_refl _)
      refine ⟨Ta, _, rfl, nT.at, rfl, _, _, rfl, _, _, rfl, ⟨a, _, rfl, haH, rfl, _, _, rfl, _, _, rfl, rfl, rfl, ?_⟩⟩
      -- self.own_from[begin].append(number)
      refine ⟨.ref x, rfl, x, T.Web, dx, _, .ref f, rfl, nT.same _ _ ax, T.clWeb, T.noWeb_own_from, rfl, vn p.1, rfl, f, qs.map V.ref, p.1, .ref qb, rfl, rfl, nT.same _ _ lp.f_, by rw [List.getElem?_map, hqb]; rfl, ?_⟩
      refine ⟨.inl ⟨rfl, _, SqL.of (nT.same _ _ (lp.q_ _ _ hqb))⟩, vn i, rfl, qb, _, vn i, rfl, rfl, nT.same _ _ (lp.q_ _ _ hqb), Nat.lt_of_le_of_lt hadj (Nat.lt_of_le_of_lt (show i ≤ 80 by omega) (by decide)), fun H2 w2 => ?_⟩
      have fqb : f ≠ qb := fun z => qf qb hqm z.symm
      have gqb : g ≠ qb := fun z => gq qb hqm z.symm
      have xqb : x ≠ qb := fun z => qx qb hqm z.symm
      -- self.own_to[end].append(number)
      refine ⟨.ref x, rfl, x, T.Web, dx, _, .ref g, rfl, by rw [w2.old xqb]; exact nT.same _ _ ax, T.clWeb, T.noWeb_own_to, rfl, vn p.2, rfl, g, rs.map V.ref, p.2, .ref rb, rfl, rfl, by rw [w2.old gqb]; exact nT.same _ _ lp.g_, by rw [List.getElem?_map, hrb]; rfl, ?_⟩
      have rbqb := rq rb hrm qb hqm
      have hr2 : H2 rb = some (.lst lr) := by rw [w2.old rbqb]; exact nT.same _ _ hrH
      refine ⟨.inl ⟨rfl, _, SqL.of hr2⟩, vn i, rfl, rb, _, vn i, rfl, rfl, hr2, Nat.lt_of_le_of_lt hlr (Nat.lt_of_le_of_lt (show i ≤ 80 by omega) (by decide)), fun H3 w3 => ?_⟩
      have old : ∀ b o, b ≠ qb → b ≠ rb → H b = some o → H3 b = some o := fun b o h1 h2 e => by
        rw [w3.old h2, w2.old h1]
        exact nT.same _ _ e
      have frb : f ≠ rb := fun z => rf rb hrm z.symm
      have grb : g ≠ rb := fun z => rg rb hrm z.symm
      have xrb : x ≠ rb := fun z => rx rb hrm z.symm
      refine ⟨⟨_, _, _, rfl⟩, ?_⟩
      refine ⟨fun b o e => old b o (fun z => by rw [z, q0 qb hqm] at e; cases e) (fun z => by rw [z, r0 rb hrm] at e; cases e) (lp.s _ _ e), ⟨dx, old _ _ xqb xrb ax⟩,
        old _ _ (ne_of lp.t_ (lp.q_ _ _ hqb) (fun z => by cases z)) (ne_of lp.t_ hrH (fun z => by cases z)) lp.t_, old _ _ fqb frb lp.f_, old _ _ gqb grb lp.g_, fun v q' hv => ?_, fun r hr => ?_⟩
      · have hvm := List.mem_of_getElem? hv
        rw [Tj.adjTo_succ, hsrc]
        by_cases hvp : p.1 = v
        · subst hvp
          rw [hqb] at hv
          cases Option.some.inj hv
          rw [if_pos rfl, w3.old (rbqb.symm), w2.at, vns_app]
        · rw [if_neg hvp]
          refine old _ _ (fun z => hvp ?_) (fun z => rq rb hrm q' hvm z.symm) (lp.q_ _ _ hv)
          rw [z] at hv
          exact nd_get qnd hqb hv
      · by_cases hrr : r = rb
        · rw [hrr]
          exact ⟨lr ++ [vn i], by rw [List.length_append, List.length_singleton]; omega, w3.at⟩
        · obtain ⟨l, h1, h2⟩ := lp.r_ r hr
          exact ⟨l, by omega, old _ _ (rq r hr qb hqm) hrr h2⟩
    · obtain ⟨_, lp⟩ := h
      obtain ⟨dx, ax⟩ := lp.x_
      have fin : Ext M H1 (frz M H (x :: tt :: f :: qs)) H := by
        refine (Ext.of mk0.sM lp.s).puts fun b hb => ?_
        have h1 : H1 b = none := by
          rcases List.mem_cons.mp hb with z | hb
          · rw [z]; exact mk0.x0
          rcases List.mem_cons.mp hb with z | hb
          · rw [z]; exact htt0
          rcases List.mem_cons.mp hb with z | hb
          · rw [z]; exact hf0
          · exact q0 b hb
        exact ⟨h1, mk0.sM.free h1⟩
      have inx : ∀ b ∈ x :: tt :: f :: qs, frz M H (x :: tt :: f :: qs) b = H b := fun b hb => frz_in hb
      refine q _ _ fin ⟨dx, tt, f, g, ?_, ?_, ?_⟩
      · rw [inx x (by simp)]; exact ax
      · exact .tup (by rw [inx tt (by simp)]; exact lp.t_) (hts.s fin.mm)
      · refine .lst (xs := qs.map V.ref) (by rw [inx f (by simp)]; exact lp.f_) ?_
        have gen : ∀ (l : List Addr) (k : Nat), (∀ j q', l[j]? = some q' → q' ∈ qs ∧ H q' = some (.lst (vns (Tj.adj E (k + j))))) → RpAll (frz M H (x :: tt :: f :: qs)) (l.map V.ref) (((List.range' k l.length).map (Tj.adj E)).map eNs) := by
          intro l
          induction l with
          | nil => intro k _; exact .nil
          | cons q' l ih =>
            intro k hk
            rw [List.length_cons, List.range'_succ]
            refine .cons (.of_ns ?_) (ih (k + 1) fun j q2 hj => ?_)
            · obtain ⟨h1, h2⟩ := hk 0 q' rfl
              rw [inx q' (by simp [h1])]
              exact h2
            · have := hk (j + 1) q2 hj
              rw [show k + 1 + j = k + (j + 1) by omega]
              exact this
        have key := gen qs 0 fun j q' hj => ⟨List.mem_of_getElem? hj, by
          rw [Nat.zero_add]
          have := lp.q_ j q' hj
          rw [htlen] at this
          exact this⟩
        rw [hql, ← List.range_eq_range'] at key
        exact key
end
end K31
namespace K31
open PySem L2
section
variable {P : Program} {w : World} {K : PySem.W.Frag} {mg : PySem.Str → Option Value} {base : Heap}

/-- the reading of a web -/
theorem WebAt.get {W x : Addr} {M H : Hp} {n : Nat} {E : List (Nat × Nat)} (h : WebAt W M x n E) (s : Same M H) : ∃ (dx t f g : Addr) (ts qs : List V), H x = some (.ins W dx (webF n t f g)) ∧ H t = some (.tup ts) ∧ ts.length = E.length ∧
    (∀ e, e < E.length → ∃ a, ts[e]? = some (.ref a) ∧ H a = some (.tup [vn (Tj.src E e), vn (Tj.tgt E e)])) ∧ H f = some (.lst qs) ∧ qs.length = n ∧ ∀ v, v < n → ∃ q, qs[v]? = some (.ref q) ∧ H q = some (.lst (vns (Tj.adj E v))) := by
  obtain ⟨dx, t, f, g, h1, h2, h3⟩ := h.ex
  obtain ⟨a, ts, e, h4, h5⟩ := h2.tup_inv
  cases e
  obtain ⟨qs, h6, h7, h8⟩ := adj_at h3
  refine ⟨dx, t, f, g, ts, qs, s _ _ h1, s _ _ h4, by rw [h5.len, List.length_map], fun e he => ?_, s _ _ h6, h7, fun v hv => ?_⟩
  · have hd : (E.map eP)[e]? = some (eP E[e]) := by rw [List.getElem?_map, List.getElem?_eq_getElem he]; rfl
    obtain ⟨y, hy, ry⟩ := h5.at hd
    obtain ⟨b, rfl, hb⟩ := ry.p_inv
    refine ⟨b, hy, ?_⟩
    have hg : E.getD e (0, 0) = E[e] := by rw [List.getD_eq_getElem?_getD, List.getElem?_eq_getElem he]; rfl
    unfold Tj.src Tj.tgt
    rw [hg]
    exact s _ _ hb
  · obtain ⟨q, hq1, hq2⟩ := h8 v hv
    exact ⟨q, hq1, s _ _ hq2⟩

def sp_Web_many (W : Addr) : Sp := fun vs H Q _ => ∃ (M : Hp) (x : Addr) (n : Nat) (E : List (Nat × Nat)), vs = [.ref x] ∧ Same M H ∧ WebAt W M x n E ∧ Q (vn E.length) H
theorem ok_Web_many (T : Tx K mg) : FnOk P w K mg base CX0 1 T.many_f T.many_fd ["self"] (sp_Web_many T.Web) := by
  refine T.many_F.ok sc_Web_many (fun vs H Q E h => ?_) (fun cdv A outer s H vs Q E hr h => ?_)
  · obtain ⟨M, x, n, E, rfl, _⟩ := h
    rfl
  · obtain ⟨M, x, n, E, rfl, sm, hw, q⟩ := h
    refine ⟨_, (pss_one (ps_ret (pe_callB call_lenU (by rfl) T.n_len PySem.boot_len (pa_cons (pe_fldK (K := K) rfl (pv 0) rfl) pa_nil)))), ?_⟩
    obtain ⟨dx, t, f, g, ts, qs, h1, h2, h3, h4, h5, h6, h7⟩ := hw.get sm
    refine ⟨.ref x, rfl, x, T.Web, dx, _, .ref t, rfl, h1, T.clWeb, T.noWeb_own_ties, rfl, t, ts, rfl, .inr h2, ?_⟩
    show Q (vn ts.length) H
    rw [h3]
    exact q

/-- a walk: each tie from where the one ahead leads -/
structure Jn (E : List (Nat × Nat)) (l : List Nat) : Prop where
  lt : ∀ e ∈ l, e < E.length
  jn : ∀ (i a b : Nat), l[i]? = some a → l[i + 1]? = some b → Tj.tgt E a = Tj.src E b
  ne : l ≠ []
def sp_joined (W : Addr) : Sp := fun vs H Q _ => ∃ (M : Hp) (x a : Addr) (n m : Nat) (E : List (Nat × Nat)) (l : List Nat), vs = [.ref x, .ref a, vn m] ∧ Same M H ∧ WebAt W M x n E ∧ (M a = some (.lst (vns l)) ∨ M a = some (.tup (vns l))) ∧
  Jn E l ∧ l.length ≤ m ∧ m ≤ 400 ∧ ∀ H', Same H H' → Q (.bl true) H'

theorem ok_are_joined_ties (T : Tx K mg) : FnOk P w K mg base CX0 3 T.are_joined_ties.f T.are_joined_ties.fd ["web", "value", "most"] (sp_joined T.Web) := by
  refine T.are_joined_ties.F.ok sc_are_joined_ties (fun vs H Q E h => ?_) (fun cdv A outer s H vs Q E hr h => ?_)
  · obtain ⟨M, x, a, n, m, E, l, rfl, _⟩ := h
    rfl
  · obtain ⟨M, x, a, n, m, E, l, rfl, sm, hw, ha, hj, hlm, hm4, q⟩ := h
    have hl1 : 1 ≤ l.length := by
      cases l with
      | nil => exact absurd rfl hj.ne
      | cons _ _ => simp
    have hvl : (vns l).length = l.length := List.length_map _
    have hat : ∀ (i : Nat) (y : V), (vns l)[i]? = some y → ∃ k, l[i]? = some k ∧ y = vn k := fun i y hy => by
      rw [List.getElem?_map] at hy
      obtain ⟨k, hk, e⟩ := Option.map_eq_some_iff.mp hy
      exact ⟨k, hk, e.symm⟩
    rcases ha with ha | ha
    · refine ⟨_, (pss_cons (ps_if (PW.pt (pw_or (pt_not (pt_val (pe_call (ok_is_list T) (hr.mono (by decide)) (by rfl) T.is_list.g T.is_list.F.kp T.is_list.b .nil pass0 (pa_cons (pv 1) pa_nil)))) (pw_or (pt_not (pt_chain op_le op_le pe_int (pe_callB call_lenU (by rfl) T.n_len PySem.boot_len (pa_cons (pv 1) pa_nil)) (pv 2))) (pw_or1 (pt_not (pt_val (pe_callB (cr_allU rfl) (by rfl) T.n_all (by decide +kernel) (pa_cons (pe_lc (own := [("one", 3)]) rfl sc_are_joined_ties.nd (pi_list (pv 1)) (blkOk_by (N := N_are_joined_ties) (sc := defScope s_are_joined_ties) (by decide +kernel)) (fun _ _ _ _ _ => (pg_name (i := 3) sc_are_joined_ties.nd rfl (by first | exact Or.inl rfl | exact Or.inr rfl))) (fun _ _ _ _ _ => pts_nil) (fun _ _ _ _ _ => (pe_call (ok_is_count T) (hr.mono (by decide)) (by rfl) T.is_count.g T.is_count.F.kp T.is_count.b .nil pass0 (pa_cons (pv 3) pa_nil)))) pa_nil)))))))) (pss_one (ps_ret pe_bl)) pss_nil)
    (pss_cons (ps_if (pt_cmpR op_ge (pe_callB (cr_maxU rfl) (by rfl) T.n_max (by decide +kernel) (pa_cons (pv 1) pa_nil)) (pe_callB call_lenU (by rfl) T.n_len PySem.boot_len (pa_cons (pe_fldK (K := K) rfl (pv 0) rfl) pa_nil)) (nomark _)) (pss_one (ps_ret pe_bl)) pss_nil)
    (pss_one (ps_ret (pe_callB (cr_allU rfl) (by rfl) T.n_all (by decide +kernel) (pa_cons (pe_lc (own := [("near", 4), ("far", 5)]) rfl sc_are_joined_ties.nd (RZ.pi_zipA (by rfl) T.n_zip (pa_cons (pv 1) (pa_cons (pe_slice sl_dropU (pv 1) (po_some pe_int) po_none) pa_nil))) (blkOk_by (N := N_are_joined_ties) (sc := defScope s_are_joined_ties) (by decide +kernel)) (fun _ _ _ _ _ => (pg_tupU (n := 2) (by rfl) (pgs_cons (pg_name (i := 4) sc_are_joined_ties.nd rfl (by first | exact Or.inl rfl | exact Or.inr rfl)) (pgs_cons (pg_name (i := 5) sc_are_joined_ties.nd rfl (by first | exact Or.inl rfl | exact Or.inr rfl)) pgs_nil)))) (fun _ _ _ _ _ => pts_nil) (fun _ _ _ _ _ => (pe_cmpR op_eq (pe_ix ix_tupU (pe_ix ix_tupU (pe_fldK (K := K) rfl (pv 0) rfl) (pv 4) (fun _ _ => rfl)) pe_int (fun _ _ => rfl)) (pe_ix ix_tupU (pe_ix ix_tupU (pe_fldK (K := K) rfl (pv 0) rfl) (pv 5) (fun _ _ => rfl)) pe_int (fun _ _ => rfl)) (nomark _)))) pa_nil)))))), ?_⟩
      refine ⟨.ref a, rfl, a, rfl, .inl ⟨_, sm _ _ ha⟩, fun H2 s2 => ⟨true, rfl, ?_⟩⟩
      refine iteF ?_
      have a2 := s2 _ _ (sm _ _ ha)
      refine ⟨.ref a, rfl, a, _, rfl, .inl a2, 1, (vns l).length, rfl, rfl, true, congrArg V.bl (decide_eq_true (show (1 : Int) ≤ ((vns l).length : Int) by omega)), ?_⟩
      refine iteT ?_
      refine ⟨vn m, rfl, (vns l).length, m, rfl, rfl, true, congrArg V.bl (decide_eq_true (show ((vns l).length : Int) ≤ (m : Int) by omega)), ?_⟩
      refine iteF ?_
      refine ⟨.ref a, rfl, a, rfl, ⟨_, SqL.of a2⟩, fun D hD => ?_⟩
      refine lc_listM (K := K) (a := a) (sm.trans s2) hD a2 (by rw [hvl]; exact Nat.lt_of_le_of_lt (show l.length ≤ 400 by omega) (by decide)) (fun i => List.replicate i (.bool true)) rfl (fun i y M3 H3 hy e3 hm3 Yes No yes no => ?_) (fun H3 h3 => ?_)
      · obtain ⟨k, _, rfl⟩ := hat i y hy
        exact ⟨rfl, vn k, rfl, k, rfl, yes _ _ M3 (.bool true) (.refl e3.mh) (.bl true) (rep_succ _ _)⟩
      obtain ⟨bs, hb, eb, s3⟩ := all_end h3
      refine ⟨D, bs, rfl, hb, true, by rw [eb], ?_⟩
      refine iteF ?_
      have a3 := s3 _ _ a2
      obtain ⟨dx, t, f, g, ts, qs, w1, w2, w3, w4, w5, w6, w7⟩ := hw.get ((sm.trans s2).trans s3)
      refine ⟨.ref a, rfl, a, l, rfl, a3, hj.ne, fun k hk => ?_⟩
      have hkE := hj.lt k hk
      refine ⟨.ref x, rfl, x, T.Web, dx, _, .ref t, rfl, w1, T.clWeb, T.noWeb_own_ties, rfl, t, ts, rfl, .inr w2, k, ts.length, rfl, rfl, false, congrArg V.bl (decide_eq_false (show ¬ ((ts.length : Nat) : Int) ≤ (k : Int) by omega)), ?_⟩
      refine iteF ?_
      refine ⟨.ref a, rfl, .ref a, rfl, 1, rfl, a, _, 1, rfl, rfl, rfl, a3, fun c H4 n4 => ?_⟩
      refine ⟨a, c, _, _, rfl, .inl ⟨SqL.of (n4.same _ _ a3), SqL.of n4.at, fun D hD => ?_⟩⟩
      rw [zg_list]
      refine lc_zipM (S := SqL K) (xs := vns l) (ys := (vns l).drop 1) (((sm.trans s2).trans s3).trans n4.same) hD (fun H5 s5 => ⟨SqL.of (s5 _ _ (n4.same _ _ a3)), SqL.of (s5 _ _ n4.at)⟩) (by rw [hvl]; exact Nat.lt_of_le_of_lt (show l.length ≤ 400 by omega) (by decide)) (fun i => List.replicate i (.bool true)) rfl (fun i y z Ta M5 H5 hy hz hT e5 hm5 Yes No yes no => ?_) (fun H5 h5 => ?_)
      · obtain ⟨k1, hk1, rfl⟩ := hat i y hy
        rw [List.getElem?_drop, Nat.add_comm] at hz
        obtain ⟨k2, hk2, rfl⟩ := hat (i + 1) z hz
        have e12 := hj.jn i k1 k2 hk1 hk2
        obtain ⟨dx', t', f', g', ts', qs', v1, v2, v3, v4, v5, v6, v7⟩ := hw.get (((sm.trans s2).trans s3).trans (n4.same.trans e5.hh))
        obtain ⟨p1, hp1, hp2⟩ := v4 k1 (hj.lt k1 (List.mem_of_getElem? hk1))
        obtain ⟨p2, hp3, hp4⟩ := v4 k2 (hj.lt k2 (List.mem_of_getElem? hk2))
        refine ⟨Ta, _, rfl, hT, rfl, _, _, rfl, _, _, rfl, rfl, rfl, ?_⟩
        refine ⟨.ref x, rfl, x, T.Web, dx', _, .ref t', rfl, v1, T.clWeb, T.noWeb_own_ties, rfl, vn k1, rfl, t', ts', k1, .ref p1, rfl, rfl, v2, hp1, p1, _, 1, _, rfl, rfl, hp2, rfl, ?_⟩
        refine ⟨.ref x, rfl, x, T.Web, dx', _, .ref t', rfl, v1, T.clWeb, T.noWeb_own_ties, rfl, vn k2, rfl, t', ts', k2, .ref p2, rfl, rfl, v2, hp3, p2, _, 0, _, rfl, rfl, hp4, rfl, rfl, ?_⟩
        refine yes _ _ M5 (.bool true) (.refl e5.mh) ?_ (rep_succ _ _)
        rw [decide_eq_true (show vn (Tj.tgt E k1) = vn (Tj.src E k2) by rw [e12])]
        exact .bl true
      · obtain ⟨bs2, hb2, eb2, s6⟩ := all_end h5
        refine ⟨D, bs2, rfl, hb2, ?_⟩
        rw [eb2]
        exact q _ (((s2.trans s3).trans n4.same).trans s6)
    · refine ⟨_, (pss_cons (ps_if (PW.pt (pw_or (pt_not (pt_val (pe_call (ok_is_list T) (hr.mono (by decide)) (by rfl) T.is_list.g T.is_list.F.kp T.is_list.b .nil pass0 (pa_cons (pv 1) pa_nil)))) (pw_or (pt_not (pt_chain op_le op_le pe_int (pe_callB call_lenU (by rfl) T.n_len PySem.boot_len (pa_cons (pv 1) pa_nil)) (pv 2))) (pw_or1 (pt_not (pt_val (pe_callB (cr_allU rfl) (by rfl) T.n_all (by decide +kernel) (pa_cons (pe_lc (own := [("one", 3)]) rfl sc_are_joined_ties.nd (pi_tup (pv 1)) (blkOk_by (N := N_are_joined_ties) (sc := defScope s_are_joined_ties) (by decide +kernel)) (fun _ _ _ _ _ => (pg_name (i := 3) sc_are_joined_ties.nd rfl (by first | exact Or.inl rfl | exact Or.inr rfl))) (fun _ _ _ _ _ => pts_nil) (fun _ _ _ _ _ => (pe_call (ok_is_count T) (hr.mono (by decide)) (by rfl) T.is_count.g T.is_count.F.kp T.is_count.b .nil pass0 (pa_cons (pv 3) pa_nil)))) pa_nil)))))))) (pss_one (ps_ret pe_bl)) pss_nil)
    (pss_cons (ps_if (pt_cmpR op_ge (pe_callB (cr_maxTU rfl hr.units) (by rfl) T.n_max (by decide +kernel) (pa_cons (pv 1) pa_nil)) (pe_callB call_lenU (by rfl) T.n_len PySem.boot_len (pa_cons (pe_fldK (K := K) rfl (pv 0) rfl) pa_nil)) (nomark _)) (pss_one (ps_ret pe_bl)) pss_nil)
    (pss_one (ps_ret (pe_callB (cr_allU rfl) (by rfl) T.n_all (by decide +kernel) (pa_cons (pe_lc (own := [("near", 4), ("far", 5)]) rfl sc_are_joined_ties.nd (RZ.pi_zipA (by rfl) T.n_zip (pa_cons (pv 1) (pa_cons (pe_slice sl_dropTU (pv 1) (po_some pe_int) po_none) pa_nil))) (blkOk_by (N := N_are_joined_ties) (sc := defScope s_are_joined_ties) (by decide +kernel)) (fun _ _ _ _ _ => (pg_tupU (n := 2) (by rfl) (pgs_cons (pg_name (i := 4) sc_are_joined_ties.nd rfl (by first | exact Or.inl rfl | exact Or.inr rfl)) (pgs_cons (pg_name (i := 5) sc_are_joined_ties.nd rfl (by first | exact Or.inl rfl | exact Or.inr rfl)) pgs_nil)))) (fun _ _ _ _ _ => pts_nil) (fun _ _ _ _ _ => (pe_cmpR op_eq (pe_ix ix_tupU (pe_ix ix_tupU (pe_fldK (K := K) rfl (pv 0) rfl) (pv 4) (fun _ _ => rfl)) pe_int (fun _ _ => rfl)) (pe_ix ix_tupU (pe_ix ix_tupU (pe_fldK (K := K) rfl (pv 0) rfl) (pv 5) (fun _ _ => rfl)) pe_int (fun _ _ => rfl)) (nomark _)))) pa_nil)))))), ?_⟩
      refine ⟨.ref a, rfl, a, rfl, .inr ⟨_, sm _ _ ha⟩, fun H2 s2 => ⟨true, rfl, ?_⟩⟩
      refine iteF ?_
      have a2 := s2 _ _ (sm _ _ ha)
      refine ⟨.ref a, rfl, a, _, rfl, .inr a2, 1, (vns l).length, rfl, rfl, true, congrArg V.bl (decide_eq_true (show (1 : Int) ≤ ((vns l).length : Int) by omega)), ?_⟩
      refine iteT ?_
      refine ⟨vn m, rfl, (vns l).length, m, rfl, rfl, true, congrArg V.bl (decide_eq_true (show ((vns l).length : Int) ≤ (m : Int) by omega)), ?_⟩
      refine iteF ?_
      refine ⟨.ref a, rfl, a, rfl, ⟨_, SqT.of a2⟩, fun D hD => ?_⟩
      refine lc_tupM (K := K) (a := a) (sm.trans s2) hD a2 (by rw [hvl]; exact Nat.lt_of_le_of_lt (show l.length ≤ 400 by omega) (by decide)) (fun i => List.replicate i (.bool true)) rfl (fun i y M3 H3 hy e3 hm3 Yes No yes no => ?_) (fun H3 h3 => ?_)
      · obtain ⟨k, _, rfl⟩ := hat i y hy
        exact ⟨rfl, vn k, rfl, k, rfl, yes _ _ M3 (.bool true) (.refl e3.mh) (.bl true) (rep_succ _ _)⟩
      obtain ⟨bs, hb, eb, s3⟩ := all_end h3
      refine ⟨D, bs, rfl, hb, true, by rw [eb], ?_⟩
      refine iteF ?_
      have a3 := s3 _ _ a2
      obtain ⟨dx, t, f, g, ts, qs, w1, w2, w3, w4, w5, w6, w7⟩ := hw.get ((sm.trans s2).trans s3)
      refine ⟨.ref a, rfl, a, l, rfl, a3, hj.ne, fun k hk => ?_⟩
      have hkE := hj.lt k hk
      refine ⟨.ref x, rfl, x, T.Web, dx, _, .ref t, rfl, w1, T.clWeb, T.noWeb_own_ties, rfl, t, ts, rfl, .inr w2, k, ts.length, rfl, rfl, false, congrArg V.bl (decide_eq_false (show ¬ ((ts.length : Nat) : Int) ≤ (k : Int) by omega)), ?_⟩
      refine iteF ?_
      refine ⟨.ref a, rfl, .ref a, rfl, 1, rfl, a, _, 1, rfl, rfl, rfl, a3, by omega, by omega, fun c H4 n4 => ?_⟩
      refine ⟨a, c, _, _, rfl, .inr ⟨SqT.of (n4.same _ _ a3), SqT.of n4.at, fun D hD => ?_⟩⟩
      rw [zg_tup]
      refine lc_zipM (S := SqT K) (xs := vns l) (ys := (vns l).drop 1) (((sm.trans s2).trans s3).trans n4.same) hD (fun H5 s5 => ⟨SqT.of (s5 _ _ (n4.same _ _ a3)), SqT.of (s5 _ _ n4.at)⟩) (by rw [hvl]; exact Nat.lt_of_le_of_lt (show l.length ≤ 400 by omega) (by decide)) (fun i => List.replicate i (.bool true)) rfl (fun i y z Ta M5 H5 hy hz hT e5 hm5 Yes No yes no => ?_) (fun H5 h5 => ?_)
      · obtain ⟨k1, hk1, rfl⟩ := hat i y hy
        rw [List.getElem?_drop, Nat.add_comm] at hz
        obtain ⟨k2, hk2, rfl⟩ := hat (i + 1) z hz
        have e12 := hj.jn i k1 k2 hk1 hk2
        obtain ⟨dx', t', f', g', ts', qs', v1, v2, v3, v4, v5, v6, v7⟩ := hw.get (((sm.trans s2).trans s3).trans (n4.same.trans e5.hh))
        obtain ⟨p1, hp1, hp2⟩ := v4 k1 (hj.lt k1 (List.mem_of_getElem? hk1))
        obtain ⟨p2, hp3, hp4⟩ := v4 k2 (hj.lt k2 (List.mem_of_getElem? hk2))
        refine ⟨Ta, _, rfl, hT, rfl, _, _, rfl, _, _, rfl, rfl, rfl, ?_⟩
        refine ⟨.ref x, rfl, x, T.Web, dx', _, .ref t', rfl, v1, T.clWeb, T.noWeb_own_ties, rfl, vn k1, rfl, t', ts', k1, .ref p1, rfl, rfl, v2, hp1, p1, _, 1, _, rfl, rfl, hp2, rfl, ?_⟩
        refine ⟨.ref x, rfl, x, T.Web, dx', _, .ref t', rfl, v1, T.clWeb, T.noWeb_own_ties, rfl, vn k2, rfl, t', ts', k2, .ref p2, rfl, rfl, v2, hp3, p2, _, 0, _, rfl, rfl, hp4, rfl, rfl, ?_⟩
        refine yes _ _ M5 (.bool true) (.refl e5.mh) ?_ (rep_succ _ _)
        rw [decide_eq_true (show vn (Tj.tgt E k1) = vn (Tj.src E k2) by rw [e12])]
        exact .bl true
      · obtain ⟨bs2, hb2, eb2, s6⟩ := all_end h5
        refine ⟨D, bs2, rfl, hb2, ?_⟩
        rw [eb2]
        exact q _ (((s2.trans s3).trans n4.same).trans s6)

def sp_walk_value (W : Addr) : Sp := fun vs H Q _ => ∃ (M : Hp) (x a : Addr) (n : Nat) (E : List (Nat × Nat)) (l : List Nat), vs = [.ref x, .ref a] ∧ Same M H ∧ WebAt W M x n E ∧ (M a = some (.lst (vns l)) ∨ M a = some (.tup (vns l))) ∧
  Jn E l ∧ l.length ≤ 400 ∧ ∀ H', Same H H' → Q (.bl true) H'
theorem ok_is_walk_value (T : Tx K mg) : FnOk P w K mg base CX0 4 T.is_walk_value.f T.is_walk_value.fd ["web", "value"] (sp_walk_value T.Web) := by
  refine T.is_walk_value.F.ok sc_is_walk_value (fun vs H Q E h => ?_) (fun cdv A outer s H vs Q E hr h => ?_)
  · obtain ⟨M, x, a, n, E, l, rfl, _⟩ := h
    rfl
  · obtain ⟨M, x, a, n, E, l, rfl, sm, hw, ha, hj, hl, q⟩ := h
    refine ⟨_, (pss_one (ps_ret (pe_call (ok_are_joined_ties T) (hr.mono (by decide)) (by rfl) T.are_joined_ties.g T.are_joined_ties.F.kp T.are_joined_ties.b .nil pass0 (pa_cons (pv 0) (pa_cons (pv 1) (pa_cons (pe_glob (v := .int 400) rfl T.MOST_WALK ⟨_, rfl⟩) pa_nil)))))), ?_⟩
    exact ⟨.ref x, rfl, .ref a, rfl, M, x, a, n, 400, E, l, rfl, sm, hw, ha, hj, hl, Nat.le_refl _, q⟩

/-- the walk as a new list -/
def sp_want_walk (W : Addr) : Sp := fun vs H Q _ => ∃ (M : Hp) (x a : Addr) (n : Nat) (E : List (Nat × Nat)) (l : List Nat), vs = [.ref x, .ref a] ∧ Same M H ∧ WebAt W M x n E ∧ (M a = some (.lst (vns l)) ∨ M a = some (.tup (vns l))) ∧
  Jn E l ∧ l.length ≤ 400 ∧ ∀ H' p, Same H H' → H p = none → H' p = some (.lst (vns l)) → Q (.ref p) H'
theorem ok_want_walk (T : Tx K mg) : FnOk P w K mg base CX0 5 T.want_walk.f T.want_walk.fd ["web", "value"] (sp_want_walk T.Web) := by
  refine T.want_walk.F.ok sc_want_walk (fun vs H Q E h => ?_) (fun cdv A outer s H vs Q E hr h => ?_)
  · obtain ⟨M, x, a, n, E, l, rfl, _⟩ := h
    rfl
  · obtain ⟨M, x, a, n, E, l, rfl, sm, hw, ha, hj, hl, q⟩ := h
    refine ⟨_, (pss_cons (ps_if (pt_not (pt_val (pe_call (ok_is_walk_value T) (hr.mono (by decide)) (by rfl) T.is_walk_value.g T.is_walk_value.F.kp T.is_walk_value.b .nil pass0 (pa_cons (pv 0) (pa_cons (pv 1) pa_nil))))) (pss_one ps_never) pss_nil)
    (pss_one (ps_ret (pe_callTy call_list_ofU (by rfl) T.n_list (by decide +kernel) (pa_cons (pv 1) pa_nil))))), ?_⟩
    refine ⟨.ref x, rfl, .ref a, rfl, M, x, a, n, E, l, rfl, sm, hw, ha, hj, hl, fun H2 s2 => ⟨true, rfl, ?_⟩⟩
    refine iteF ?_
    refine ⟨.ref a, rfl, a, vns l, rfl, ha.imp (fun e => s2 _ _ (sm _ _ e)) (fun e => s2 _ _ (sm _ _ e)), fun p H3 n3 => ?_⟩
    exact q _ _ (s2.trans n3.same) (s2.free n3.free) n3.at
end
end K31
namespace K31
open PySem L2 Km
section
variable {P : Program} {w : World} {K : PySem.W.Frag} {mg : PySem.Str → Option Value} {base : Heap}

/-- while the falls are found: i + 1 of them -/
structure FallLoop (H0 : Hp) (p : Addr) (l : List Nat) (i : Nat) (H : Hp) : Prop where
  s : Same H0 H
  f : H0 p = none
  at_ : H p = some (.lst (vns ((List.range (i + 1)).map (fallW l))))
def sp_fall_row : Sp := fun vs H Q _ => ∃ (a : Addr) (l : List Nat), vs = [.ref a] ∧ H a = some (.lst (vns l)) ∧ l ≠ [] ∧ l.length ≤ 400 ∧ ∀ H' p, Same H H' → H p = none → H' p = some (.lst (vns (fallsW l))) → Q (.ref p) H'
theorem ok_fall_row (T : Tx K mg) : FnOk P w K mg base CX0 1 T.fall_row.f T.fall_row.fd ["walk"] sp_fall_row := by
  refine T.fall_row.F.ok sc_fall_row (fun vs H Q E h => ?_) (fun cdv A outer s H vs Q E hr h => ?_)
  · obtain ⟨a, l, rfl, _⟩ := h
    rfl
  · obtain ⟨a, l, rfl, ha, hne, hl4, q⟩ := h
    have hl1 : 1 ≤ l.length := by
      cases l with
      | nil => exact absurd rfl hne
      | cons _ _ => simp
    refine ⟨_, (pss_cons (ps_set (i := 1) sc_fall_row.nd rfl (Or.inl rfl) (pe_lstU (pa_cons pe_int pa_nil)))
    (pss_cons (ps_for PassesOwn.never rfl (pi_range2 (by rfl) T.n_range (pa_cons pe_int (pa_cons (pe_callB call_lenU (by rfl) T.n_len PySem.boot_len (pa_cons (pv 0) pa_nil)) pa_nil))) (pg_name (i := 2) sc_fall_row.nd rfl (Or.inl rfl))
      (pss_cons (ps_set (i := 3) sc_fall_row.nd rfl (Or.inl rfl) (pe_ifExp (pt_cmpR op_gtN (pv 2) pe_int (nomark _)) (pe_ix ix_listU (pv 1) (pe_op op_subN (pv 2) pe_int) (fun _ _ => rfl)) pe_int))
    (pss_cons (ps_while PassesOwn.never (PW.pt (pw_and (pt_cmpR op_gtN (pv 3) pe_int (nomark _)) (pw_and1 (pt_cmpR op_neN (pe_ix ix_listU (pv 0) (pe_op op_subN (pv 2) pe_int) (fun _ _ => rfl)) (pe_ix ix_listU (pv 0) (pv 3) (fun _ _ => rfl)) (nomark _)))))
      (pss_one (ps_set (i := 3) sc_fall_row.nd rfl (Or.inl rfl) (pe_ix ix_listU (pv 1) (pv 3) (fun _ _ => rfl)))))
    (pss_one (ps_expr (pe_bm PySem.F.plainAttrs_list PySem.F.slot_list_append PySem.F.type_list_append mt_appendU (pv 1) (pa_cons (pe_ifExp (PW.pt (pw_and (pt_cmpR op_gtN (pv 2) pe_int (nomark _)) (pw_and1 (pt_cmpR op_eqN (pe_ix ix_listU (pv 0) (pe_op op_subN (pv 2) pe_int) (fun _ _ => rfl)) (pe_ix ix_listU (pv 0) (pv 3) (fun _ _ => rfl)) (nomark _))))) (pe_op op_addN (pv 3) pe_int) pe_int) pa_nil)))))))
    (pss_one (ps_ret (pv 1))))), ?_⟩
    refine ⟨by show 1 ≤ sizeLine; decide, fun p H1 n1 => ?_⟩
    refine ⟨.ref a, rfl, a, _, rfl, .inl (n1.same _ _ ha), 1, ((vns l).length : Nat), rfl, ⟨by omega, by omega, by omega, by rw [vns_len]; omega⟩, ?_⟩
    refine for_range (lo := 1) (fun i σ H => (∃ v2 v3, σ = [some (.ref a), some (.ref p), v2, v3]) ∧ FallLoop _ p l i H) ⟨⟨none, none, rfl⟩, n1.same, n1.free, n1.at⟩ (fun i σ H2 hi h => ?_) (fun σ H2 h => ?_)
    · rw [vns_len] at hi
      have hi1 : i + 1 < l.length := by omega
      rw [show ((1 : Int) + (i : Int)) = ((i + 1 : Nat) : Int) by omega]
      obtain ⟨⟨v2, v3, rfl⟩, lp⟩ := h
      have fin : ∀ H3, Wr H2 p (.lst (vns ((List.range (i + 1)).map (fallW l)) ++ [vn (fallW l (i + 1))])) H3 → FallLoop H p l (i + 1) H3 := fun H3 w3 =>
        ⟨by rw [w3.eq]; exact lp.s.past lp.f, lp.f, by rw [w3.at, vns_app, ← map_range_succ]⟩
      have hlen : (vns ((List.range (i + 1)).map (fallW l))).length = i + 1 := by rw [vns_len, List.length_map, List.length_range]
      have ha2 := lp.s _ _ ha
      rcases Nat.eq_zero_or_pos i with rfl | hi0
      · refine ⟨_, rfl, 1, 1, rfl, rfl, false, rfl, ?_⟩
        refine iteF ?_
        refine while_at (fun σ H' => σ = [some (.ref a), some (.ref p), some (vn 1), some (vn 0)] ∧ H' = H2) (fun _ _ => 0) ⟨rfl, rfl⟩ (fun σ H' h Q yes no => ?_)
        obtain ⟨rfl, rfl⟩ := h
        refine ⟨vn 0, rfl, 0, 0, rfl, rfl, false, rfl, ?_⟩
        refine iteF (no _ ?_)
        refine ⟨.ref p, rfl, .inl ⟨rfl, _, SqL.of lp.at_⟩, vn 1, rfl, 1, 1, rfl, rfl, false, rfl, iteF (iteF ?_)⟩
        exact ⟨p, _, vn 0, rfl, rfl, lp.at_, small400 (by rw [hlen]; omega), fun H3 w3 => ⟨⟨_, _, rfl⟩, fin H3 w3⟩⟩
      · refine ⟨vn (i + 1), rfl, i + 1, 1, rfl, rfl, true, congrArg V.bl (decide_eq_true (by omega)), ?_⟩
        refine iteT ?_
        refine ⟨.ref p, rfl, vn (i + 1), rfl, i + 1, 1, rfl, rfl, by omega, p, _, i, _, rfl, rfl, lp.at_, vns_at (by rw [List.length_map, List.length_range]; omega), ?_⟩
        have hfl : ∀ f, f ≤ i → ((List.range (i + 1)).map (fallW l)).getD f 0 = fallW l f := fun f hf => by
          rw [List.getD_eq_getElem?_getD, List.getElem?_map, List.getElem?_range (by omega)]
          rfl
        rw [hfl i (Nat.le_refl _)]
        refine while_at (fun σ H' => (∃ f, σ = [some (.ref a), some (.ref p), some (vn (i + 1)), some (vn f)] ∧ Fa l i f) ∧ H' = H2) (fun σ _ => match σ with | [_, _, _, some (.int f)] => f.toNat | _ => 0) ⟨⟨_, rfl, Fa.start hi0 (by omega)⟩, rfl⟩ (fun σ H' h Q yes no => ?_)
        obtain ⟨⟨f, rfl, fa⟩, rfl⟩ := h
        have hfi := fa.lt
        have ex : ∀ hz : f = 0 ∨ l.getD i 0 = l.getD f 0, Q false H' := fun hz => by
          have hd := fa.done (by omega) hz
          refine no _ ?_
          refine ⟨.ref p, rfl, .inl ⟨rfl, _, SqL.of lp.at_⟩, vn (i + 1), rfl, i + 1, 1, rfl, rfl, true, congrArg V.bl (decide_eq_true (by omega)), iteT ?_⟩
          refine ⟨.ref a, rfl, vn (i + 1), rfl, i + 1, 1, rfl, rfl, by omega, a, _, i, _, rfl, rfl, ha2, vns_at (by omega), .ref a, rfl, vn f, rfl, a, _, f, _, rfl, rfl, ha2, vns_at (by omega), _, _, rfl, rfl, decide (l.getD i 0 = l.getD f 0), rfl, ?_⟩
          by_cases e : l.getD i 0 = l.getD f 0
          · rw [if_pos e] at hd
            rw [decide_eq_true e]
            refine iteT ⟨vn f, rfl, f, 1, rfl, rfl, p, _, vn (f + 1), rfl, rfl, lp.at_, small400 (by rw [hlen]; omega), fun H3 w3 => ⟨⟨_, _, rfl⟩, fin H3 (by rw [hd]; exact w3)⟩⟩
          · rw [if_neg e] at hd
            rw [decide_eq_false e]
            exact iteF ⟨p, _, vn 0, rfl, rfl, lp.at_, small400 (by rw [hlen]; omega), fun H3 w3 => ⟨⟨_, _, rfl⟩, fin H3 (by rw [hd]; exact w3)⟩⟩
        rcases Nat.eq_zero_or_pos f with hf | hf
        · refine ⟨vn f, rfl, f, 0, rfl, rfl, false, congrArg V.bl (decide_eq_false (by omega)), ?_⟩
          exact iteF (ex (.inl hf))
        · refine ⟨vn f, rfl, f, 0, rfl, rfl, true, congrArg V.bl (decide_eq_true (by omega)), ?_⟩
          refine iteT ?_
          refine ⟨.ref a, rfl, vn (i + 1), rfl, i + 1, 1, rfl, rfl, by omega, a, _, i, _, rfl, rfl, ha2, vns_at (by omega), .ref a, rfl, vn f, rfl, a, _, f, _, rfl, rfl, ha2, vns_at (by omega), _, _, rfl, rfl, !decide (l.getD i 0 = l.getD f 0), rfl, ?_⟩
          by_cases e : l.getD i 0 = l.getD f 0
          · rw [decide_eq_true e]
            exact ex (.inr e)
          · rw [decide_eq_false e]
            refine yes _ ?_
            refine ⟨.ref p, rfl, vn f, rfl, p, _, f, _, rfl, rfl, lp.at_, vns_at (by rw [List.length_map, List.length_range]; omega), ?_⟩
            rw [hfl f (by omega)]
            refine ⟨⟨⟨_, rfl, fa.fall (by omega) hf e⟩, rfl⟩, ?_⟩
            exact fall_lt hf
    · obtain ⟨⟨v2, v3, rfl⟩, lp⟩ := h
      refine ⟨.ref p, rfl, q _ _ lp.s lp.f ?_⟩
      rw [lp.at_, vns_len, show ((l.length : Int) - 1).toNat + 1 = l.length by omega]
      rfl
end
end K31
namespace K31
open PySem L2 Km
section
variable {P : Program} {w : World} {K : PySem.W.Frag} {mg : PySem.Str → Option Value} {base : Heap}
theorem ixN_nat {n e : Nat} (h : e < n) : ixN n (e : Int) = some e := by
  unfold ixN
  rw [if_pos (show (0 : Int) ≤ (e : Int) by omega), if_pos (show (e : Int) < (n : Int) by omega), Int.toNat_natCast]
theorem vns_set (l : List Nat) (i v : Nat) : (vns l).set i (vn v) = vns (l.set i v) := by
  unfold vns
  rw [List.map_set]
/-- while the table is built: i rows -/
structure TabLoop (M0 H0 : Hp) (p : Addr) (l : List Nat) (n i : Nat) (H : Hp) : Prop where
  ex : ∃ (M : Hp) (rs : List V), Ext M0 H0 M H ∧ M p = none ∧ H p = some (.lst rs) ∧ RpAll M rs (((List.range i).map (rowW l n)).map eNs)
  f : H0 p = none
theorem TabLoop.add {M0 H0 M H3 H4 H5 : Hp} {H : Hp} {p r : Addr} {l : List Nat} {n i : Nat} {rs : List V} (f : H0 p = none) (e : Ext M0 H0 M H) (hm : M p = none) (hp : H p = some (.lst rs)) (hr : RpAll M rs (((List.range i).map (rowW l n)).map eNs))
    (h0 : H r = none) (s : Same H H3) (w4 : Wr H3 r (.lst (vns (rowW l n i))) H4) (w5 : Wr H4 p (.lst (rs ++ [.ref r])) H5) : TabLoop M0 H0 p l n (i + 1) H5 := by
  have m0 := e.mh.free h0
  have e1 : Ext M H M H4 := by rw [w4.eq]; exact (Ext.of e.mh s).write h0 m0
  have e2 := e1.put h0 m0 w4.at
  have pr : p ≠ r := ne_of_none hp h0
  have mp : upd M r (.lst (vns (rowW l n i))) p = none := by rw [upd_ne pr]; exact hm
  refine ⟨⟨_, _, by rw [w5.eq]; exact (e.trans e2).write f mp, mp, w5.at, ?_⟩, f⟩
  rw [map_range_succ, List.map_append]
  exact (e2.rpa hr).app (.one (.of_ns upd_same))
def sp_table_rows : Sp := fun vs H Q _ => ∃ (M : Hp) (a : Addr) (l : List Nat) (n : Nat), vs = [.ref a, vn n] ∧ Same M H ∧ H a = some (.lst (vns l)) ∧ l ≠ [] ∧ l.length ≤ 400 ∧ n ≤ 100 ∧ (∀ e ∈ l, e < n) ∧
  ∀ M' H' v, Ext M H M' H' → Rp M' v (eRows (tabW l n)) → Q v H'
theorem ok_table_rows (T : Tx K mg) : FnOk P w K mg base CX0 2 T.table_rows.f T.table_rows.fd ["walk", "many"] sp_table_rows := by
  refine T.table_rows.F.ok sc_table_rows (fun vs H Q E h => ?_) (fun cdv A outer s H vs Q E hr h => ?_)
  · obtain ⟨M, a, l, n, rfl, _⟩ := h
    rfl
  · obtain ⟨M, a, l, n, rfl, sm, ha, hne, hl4, hn, hl, q⟩ := h
    have hl1 : 1 ≤ l.length := by
      cases l with
      | nil => exact absurd rfl hne
      | cons _ _ => simp
    refine ⟨_, (pss_cons (ps_par (i := 2) (j := 3) (by rfl) sc_table_rows.nd rfl rfl (by decide) rfl rfl (pa_cons (pe_call (ok_fall_row T) (hr.mono (by decide)) (by rfl) T.fall_row.g T.fall_row.F.kp T.fall_row.b .nil pass0 (pa_cons (pv 0) pa_nil)) (pa_cons (pe_lstU pa_nil) pa_nil)) (by rfl))
    (pss_cons (ps_for PassesOwn.never rfl (pi_enum (by rfl) T.n_enumerate (pa_cons (pv 0) pa_nil)) (pg_tupU (n := 2) (by rfl) (pgs_cons (pg_name (i := 4) sc_table_rows.nd rfl (Or.inl rfl)) (pgs_cons (pg_name (i := 5) sc_table_rows.nd rfl (Or.inl rfl)) pgs_nil)))
      (pss_cons (ps_set (i := 6) sc_table_rows.nd rfl (Or.inl rfl) (pe_ifExp (pt_cmpR op_gtN (pv 4) pe_int (nomark _)) (pe_callTy call_list_ofU (by rfl) T.n_list (by decide +kernel) (pa_cons (pe_ix ix_listU (pv 3) (pe_ix ix_listU (pv 2) (pv 4) (fun _ _ => rfl)) (fun _ _ => rfl)) pa_nil)) (pe_op op_repU (pe_lstU (pa_cons pe_int pa_nil)) (pv 1))))
    (pss_cons (ps_asg (pe_op op_addN (pv 4) pe_int) (pg_sub (pv 6) (pv 5) set_listU))
    (pss_one (ps_expr (pe_bm PySem.F.plainAttrs_list PySem.F.slot_list_append PySem.F.type_list_append mt_appendU (pv 3) (pa_cons (pv 6) pa_nil)))))))
    (pss_one (ps_ret (pv 3))))), ?_⟩
    refine ⟨.ref a, rfl, a, l, rfl, ha, hne, hl4, fun H1 ft s1 f1 h1 => ?_⟩
    refine ⟨Nat.zero_le _, fun p H2 n2 => ⟨_, _, rfl, ?_⟩⟩
    have a2 : H2 a = some (.lst (vns l)) := n2.same _ _ (s1 _ _ ha)
    have ft2 : H2 ft = some (.lst (vns (fallsW l))) := n2.same _ _ h1
    have loop0 : TabLoop M H1 p l n 0 H2 := ⟨⟨M, [], .of (sm.trans s1) n2.same, (sm.trans s1).free n2.free, n2.at, .nil⟩, n2.free⟩
    refine ⟨.ref a, rfl, a, _, rfl, SqL.of a2, ?_⟩
    refine for_enumL (K := K) (a := a) (xs := vns l) (fun i σ H => (∃ v4 v5 v6, σ = [some (.ref a), some (vn n), some (.ref ft), some (.ref p), v4, v5, v6]) ∧ TabLoop M H1 p l n i H)
      ⟨⟨none, none, none, rfl⟩, loop0⟩ (fun i σ H _ h => SqL.of ?_) (fun i y Ta σ H3 hy h H4 nT => ?_) (fun σ H3 h => ?_)
    · obtain ⟨_, ⟨M', rs, e, _⟩, _⟩ := h
      exact e.at (s1 _ _ ha)
    · obtain ⟨⟨v4, v5, v6, rfl⟩, ⟨M', rs, e, hm, hp, hrs⟩, f⟩ := h
      obtain ⟨k, hk, rfl⟩ := vns_get hy
      have hi : i < l.length := (List.getElem?_eq_some_iff.mp hk).1
      have hkd : l.getD i 0 = k := by rw [List.getD_eq_getElem?_getD, hk]; rfl
      have hkn := hl k (List.mem_of_getElem? hk)
      have hrl : rs.length = i := by rw [hrs.len]; simp
      refine ⟨Ta, _, rfl, nT.at, rfl, _, _, rfl, _, _, rfl, rfl, ?_⟩
      rcases Nat.eq_zero_or_pos i with rfl | hi0
      · refine ⟨vn 0, rfl, 0, 0, rfl, rfl, false, rfl, iteF ?_⟩
        refine ⟨by show 1 ≤ sizeLine; decide, fun b H5 n5 => ⟨vn n, rfl, b, n, vn 0, rfl, rfl, n5.at, by omega, fun r H6 n6 => ?_⟩⟩
        refine ⟨vn 0, rfl, 0, 1, rfl, rfl, .ref r, rfl, vn k, rfl, r, _, k, k, rfl, rfl, n6.at, ixN_nat (by rw [List.length_replicate]; exact hkn), fun H7 w7 => ?_⟩
        have hpr : H7 p = some (.lst rs) := by
          rw [w7.old (n6.ne (n5.same _ _ (nT.same _ _ hp)))]
          exact n6.same _ _ (n5.same _ _ (nT.same _ _ hp))
        refine ⟨.ref p, rfl, .inl ⟨rfl, _, SqL.of hpr⟩, .ref r, rfl, p, _, .ref r, rfl, rfl, hpr, small400 (by omega), fun H8 w8 => ⟨⟨_, _, _, rfl⟩, ?_⟩⟩
        refine TabLoop.add f e hm hp hrs (nT.same.free (n5.same.free n6.free)) ((nT.same.trans n5.same).trans n6.same) ?_ w8
        rw [← row_zero hi, hkd, ← vns_set]
        rw [show vns (List.replicate n 0) = List.replicate n (vn 0) from List.map_replicate]
        exact w7
      · have hft : H4 ft = some (.lst (vns (fallsW l))) := nT.same _ _ (e.at h1)
        have hfi : (fallsW l).getD i 0 = fallW l i := by
          unfold fallsW
          rw [List.getD_eq_getElem?_getD, List.getElem?_map, List.getElem?_range hi]
          rfl
        have hfl := fall_lt (w := l) hi0
        have hd : (((List.range i).map (rowW l n)).map eNs)[fallW l i]? = some (eNs (rowW l n (fallW l i))) := by simp [hfl]
        obtain ⟨y, hy1, ry⟩ := hrs.at hd
        obtain ⟨qa, rfl, hq⟩ := ry.ns_inv
        have hp4 : H4 p = some (.lst rs) := nT.same _ _ hp
        refine ⟨vn i, rfl, i, 0, rfl, rfl, true, congrArg V.bl (decide_eq_true hi0), iteT ?_⟩
        refine ⟨.ref p, rfl, .ref ft, rfl, vn i, rfl, ft, _, i, _, rfl, rfl, hft, vns_at (by unfold fallsW; rw [List.length_map, List.length_range]; exact hi), p, rs, fallW l i, .ref qa, rfl, congrArg vn hfi, hp4, hy1, qa, _, rfl, .inl (nT.same _ _ (e.mh _ _ hq)), fun r H6 n6 => ?_⟩
        refine ⟨vn i, rfl, i, 1, rfl, rfl, .ref r, rfl, vn k, rfl, r, _, k, k, rfl, rfl, n6.at, ixN_nat (by rw [vns_len, row_len]; exact hkn), fun H7 w7 => ?_⟩
        have hpr : H7 p = some (.lst rs) := by
          rw [w7.old (n6.ne hp4)]
          exact n6.same _ _ hp4
        refine ⟨.ref p, rfl, .inl ⟨rfl, _, SqL.of hpr⟩, .ref r, rfl, p, _, .ref r, rfl, rfl, hpr, small400 (by omega), fun H8 w8 => ⟨⟨_, _, _, rfl⟩, ?_⟩⟩
        refine TabLoop.add f e hm hp hrs (nT.same.free n6.free) (nT.same.trans n6.same) ?_ w8
        rw [← row_fall hi0 hi, hkd, ← vns_set]
        exact w7
    · obtain ⟨⟨v4, v5, v6, rfl⟩, ⟨M', rs, e, hm, hp, hrs⟩, f⟩ := h
      have e0 : Ext M H M H1 := .of sm s1
      refine ⟨.ref p, rfl, q _ _ _ (e0.trans (e.put f hm hp)) (.lst upd_same (ds := (tabW l n).map eNs) ?_)⟩
      rw [vns_len] at hrs
      exact hrs.s (.new hm)

/-- the search from the greatest down -/
def sp_state_by_trying : Sp := fun vs H Q _ => ∃ (a : Addr) (l : List Nat) (i e : Nat), vs = [.ref a, vn i, vn e] ∧ H a = some (.lst (vns l)) ∧ i < l.length ∧ l.length ≤ 400 ∧ ∀ H', Same H H' → Q (vn (stepW l i e)) H'
theorem ok_state_by_trying (T : Tx K mg) : FnOk P w K mg base CX0 1 T.state_by_trying.f T.state_by_trying.fd ["walk", "state", "tie"] sp_state_by_trying := by
  refine T.state_by_trying.F.ok sc_state_by_trying (fun vs H Q E h => ?_) (fun cdv A outer s H vs Q E hr h => ?_)
  · obtain ⟨a, l, i, e, rfl, _⟩ := h
    rfl
  · obtain ⟨a, l, i, e, rfl, ha, hi, hl4, q⟩ := h
    refine ⟨_, (pss_cons (ps_set (i := 3) sc_state_by_trying.nd rfl (Or.inl rfl) (pe_op op_catU (pe_slice sl_takeU (pv 0) po_none (po_some (pv 1))) (pe_lstU (pa_cons (pv 2) pa_nil))))
    (pss_cons (ps_for PassesOwn.never rfl (pi_range3 (by rfl) T.n_range (pa_cons (pe_callB call_lenU (by rfl) T.n_len PySem.boot_len (pa_cons (pv 3) pa_nil)) (pa_cons pe_int (pa_cons (pe_un un_neg pe_int) pa_nil)))) (pg_name (i := 4) sc_state_by_trying.nd rfl (Or.inl rfl))
      (pss_one (ps_if (pt_cmpR (op_eqU hr.units) (pe_slice sl_takeU (pv 0) po_none (po_some (pv 4))) (pe_slice sl_dropU (pv 3) (po_some (pe_op op_subN (pe_callB call_lenU (by rfl) T.n_len PySem.boot_len (pa_cons (pv 3) pa_nil)) (pv 4))) po_none) (nomark _)) (pss_one (ps_ret (pv 4))) pss_nil)))
    (pss_one (ps_ret pe_int)))), ?_⟩
    refine ⟨.ref a, rfl, vn i, rfl, i, rfl, a, _, i, rfl, rfl, rfl, ha, fun b H2 n2 => ⟨vn e, rfl, by show 1 ≤ sizeLine; decide, fun c H3 n3 => ⟨b, c, _, _, rfl, rfl, n3.same _ _ n2.at, n3.at, ?_, fun rd H4 n4 => ?_⟩⟩⟩
    · exact Nat.le_of_lt (small400 (by rw [List.length_take, vns_len, Nat.min_eq_left (by omega)]; show i + 1 ≤ 1000; omega))
    have hrd : H4 rd = some (.lst (vns (l.take i ++ [e]))) := by
      rw [n4.at]
      unfold vns
      rw [List.map_append, List.map_take]
      rfl
    have s4 : Same H H4 := (n2.same.trans n3.same).trans n4.same
    have hrl : (l.take i ++ [e]).length = i + 1 := by rw [List.length_append, List.length_take, Nat.min_eq_left (by omega)]; rfl
    refine ⟨.ref rd, rfl, rd, _, rfl, .inl hrd, 1, rfl, _, _, _, i + 1, rfl, by rw [vns_len, hrl]; exact rg_down (by omega), ?_⟩
    refine for_rangeC (fun k σ H' => (∃ v4, σ = [some (.ref a), some (vn i), some (vn e), some (.ref rd), v4]) ∧ Same H4 H' ∧ stepW l i e = big (fit l (l.take i ++ [e])) (i + 1 - k)) ⟨⟨none, rfl⟩, .refl _, rfl⟩ (fun k σ H5 hk h => ?_) (fun σ H5 h => ?_)
    · obtain ⟨⟨v4, rfl⟩, s5, hb⟩ := h
      rw [vns_len, hrl, show (((i + 1 : Nat) : Int) + (k : Int) * -1) = ((i + 1 - k : Nat) : Int) by omega]
      have a5 := s5 _ _ (s4 _ _ ha)
      refine ⟨.ref a, rfl, vn (i + 1 - k), rfl, _, rfl, a, _, i + 1 - k, rfl, rfl, rfl, a5, fun t H6 n6 => ?_⟩
      refine ⟨.ref rd, rfl, .ref rd, rfl, rd, _, rfl, .inl (n6.same _ _ (s5 _ _ hrd)), vn (i + 1 - k), rfl, i + 1, i + 1 - k, congrArg vn (by rw [vns_len, hrl]), rfl, by omega, _, rfl, rd, _, i + 1 - (i + 1 - k), rfl, rfl, rfl, n6.same _ _ (s5 _ _ hrd), fun u H7 n7 => ?_⟩
      have ht : H7 t = some (.lst (vns (l.take (i + 1 - k)))) := n7.same _ _ (by rw [n6.at]; unfold vns; rw [List.map_take])
      have hu : H7 u = some (.lst (vns ((l.take i ++ [e]).drop (i + 1 - (i + 1 - k))))) := by rw [n7.at]; unfold vns; rw [List.map_drop]
      refine ⟨_, _, .of_ns ht, .of_ns hu, (sh_ns _).ok, (sh_ns _).ok, fit l (l.take i ++ [e]) (i + 1 - k), by rw [eqv_ns]; unfold fit; rw [hrl], ?_⟩
      have s7 : Same H4 H7 := s5.trans (n6.same.trans n7.same)
      by_cases hf : fit l (l.take i ++ [e]) (i + 1 - k) = true
      · rw [hf]
        refine iteT ⟨vn (i + 1 - k), rfl, ?_⟩
        have := big_hit (by omega) hf
        rw [← hb] at this
        rw [← this]
        exact q _ (s4.trans s7)
      · rw [Bool.eq_false_iff.mpr hf]
        refine iteF ⟨⟨_, rfl⟩, s7, ?_⟩
        rw [show stepW l i e = big (fit l (l.take i ++ [e])) (i + 1) from rfl] at hb ⊢
        exact big_down hk (Bool.eq_false_iff.mpr hf) hb
    · obtain ⟨⟨v4, rfl⟩, s5, hb⟩ := h
      rw [Nat.sub_self] at hb
      have := q _ (s4.trans s5)
      rw [hb] at this
      exact this
end
end K31
namespace K31
open PySem L2 Km
section
variable {P : Program} {w : World} {K : PySem.W.Frag} {mg : PySem.Str → Option Value} {base : Heap}

def sp_table (W : Addr) : Sp := fun vs H Q _ => ∃ (M : Hp) (x a : Addr) (n : Nat) (E : List (Nat × Nat)) (l : List Nat), vs = [.ref x, .ref a] ∧ Same M H ∧ WebAt W M x n E ∧ (M a = some (.lst (vns l)) ∨ M a = some (.tup (vns l))) ∧
  Jn E l ∧ l.length ≤ 400 ∧ E.length ≤ 100 ∧ ∀ M' H' v, Ext M H M' H' → Rp M' v (eRows (tabW l E.length)) → Q v H'
theorem ok_table (T : Tx K mg) : FnOk P w K mg base CX0 6 T.table.f T.table.fd ["web", "walk"] (sp_table T.Web) := by
  refine T.table.F.ok sc_table (fun vs H Q E h => ?_) (fun cdv A outer s H vs Q E hr h => ?_)
  · obtain ⟨M, x, a, n, E, l, rfl, _⟩ := h
    rfl
  · obtain ⟨M, x, a, n, E, l, rfl, sm, hw, ha, hj, hl, hE, q⟩ := h
    obtain ⟨dx, t, f, g, ts, qs, w1, w2, w3, w4, w5, w6, w7⟩ := hw.get sm
    refine ⟨_, (pss_cons (ps_set (i := 2) sc_table.nd rfl (Or.inl rfl) (pe_call (ok_want_web T) (hr.mono (by decide)) (by rfl) T.want_web.g T.want_web.F.kp T.want_web.b .nil pass0 (pa_cons (pv 0) pa_nil)))
    (pss_one (ps_ret (pe_call (ok_table_rows T) (hr.mono (by decide)) (by rfl) T.table_rows.g T.table_rows.F.kp T.table_rows.b .nil pass0 (pa_cons (pe_call (ok_want_walk T) (hr.mono (by decide)) (by rfl) T.want_walk.g T.want_walk.F.kp T.want_walk.b .nil pass0 (pa_cons (pv 2) (pa_cons (pv 1) pa_nil))) (pa_cons (pe_prop (pv 2) T.clWeb T.p_many (ok_Web_many T) (hr.mono (by decide)) T.many_b .nil pass0 rfl) pa_nil)))))), ?_⟩
    refine ⟨.ref x, rfl, x, dx, _, rfl, w1, ?_⟩
    refine ⟨.ref x, rfl, .ref a, rfl, M, x, a, n, E, l, rfl, sm, hw, ha, hj, hl, fun H2 p s2 f2 h2 => ?_⟩
    obtain ⟨dx', t', f', g', ts', qs', v1, _⟩ := hw.get (sm.trans s2)
    refine ⟨.ref x, rfl, x, dx', _, rfl, v1, M, x, n, E, rfl, sm.trans s2, hw, ?_⟩
    refine ⟨M, p, l, E.length, rfl, sm.trans s2, h2, hj.ne, hl, hE, hj.lt, fun M' H' v e r => q _ _ _ ((Ext.of sm s2).trans e) r⟩

def sp_falls (W : Addr) : Sp := fun vs H Q _ => ∃ (M : Hp) (x a : Addr) (n : Nat) (E : List (Nat × Nat)) (l : List Nat), vs = [.ref x, .ref a] ∧ Same M H ∧ WebAt W M x n E ∧ (M a = some (.lst (vns l)) ∨ M a = some (.tup (vns l))) ∧
  Jn E l ∧ l.length ≤ 400 ∧ ∀ H' p, Same H H' → H p = none → H' p = some (.lst (vns (fallsW l))) → Q (.ref p) H'
theorem ok_falls (T : Tx K mg) : FnOk P w K mg base CX0 6 T.falls.f T.falls.fd ["web", "walk"] (sp_falls T.Web) := by
  refine T.falls.F.ok sc_falls (fun vs H Q E h => ?_) (fun cdv A outer s H vs Q E hr h => ?_)
  · obtain ⟨M, x, a, n, E, l, rfl, _⟩ := h
    rfl
  · obtain ⟨M, x, a, n, E, l, rfl, sm, hw, ha, hj, hl, q⟩ := h
    obtain ⟨dx, t, f, g, ts, qs, w1, w2, w3, w4, w5, w6, w7⟩ := hw.get sm
    refine ⟨_, (pss_one (ps_ret (pe_call (ok_fall_row T) (hr.mono (by decide)) (by rfl) T.fall_row.g T.fall_row.F.kp T.fall_row.b .nil pass0 (pa_cons (pe_call (ok_want_walk T) (hr.mono (by decide)) (by rfl) T.want_walk.g T.want_walk.F.kp T.want_walk.b .nil pass0 (pa_cons (pe_call (ok_want_web T) (hr.mono (by decide)) (by rfl) T.want_web.g T.want_web.F.kp T.want_web.b .nil pass0 (pa_cons (pv 0) pa_nil)) (pa_cons (pv 1) pa_nil))) pa_nil)))), ?_⟩
    refine ⟨.ref x, rfl, x, dx, _, rfl, w1, ?_⟩
    refine ⟨.ref a, rfl, M, x, a, n, E, l, rfl, sm, hw, ha, hj, hl, fun H2 p s2 f2 h2 => ?_⟩
    exact ⟨p, l, rfl, h2, hj.ne, hl, fun H3 r s3 f3 h3 => q _ _ (s2.trans s3) (s2.free f3) h3⟩

abbrev sci_plain_table : Scope := { kind := .function, names := [(".0", .local), ("state", .cell), ("range", .globalImplicit), ("ties", .cell), ("told", .cell)], isGenerator := false, isCoroutine := false }
def sp_plain_table (W : Addr) : Sp := sp_table W
theorem ok_plain_table (T : Tx K mg) : FnOk P w K mg base CX0 6 T.plain_table.f T.plain_table.fd ["web", "walk"] (sp_plain_table T.Web) := by
  refine T.plain_table.F.ok sc_plain_table (fun vs H Q E h => ?_) (fun cdv A outer s H vs Q E hr h => ?_)
  · obtain ⟨M, x, a, n, E, l, rfl, _⟩ := h
    rfl
  · obtain ⟨M, x, a, n, E, l, rfl, sm, hw, ha, hj, hl, hE, q⟩ := h
    obtain ⟨dx, t, f, g, ts, qs, w1, w2, w3, w4, w5, w6, w7⟩ := hw.get sm
    refine ⟨_, (pss_cons (ps_set (i := 2) sc_plain_table.nd rfl (Or.inr rfl) (pe_call (ok_want_web T) (hr.mono (by decide)) (by rfl) T.want_web.g T.want_web.F.kp T.want_web.b .nil pass0 (pa_cons (pv 0) pa_nil)))
    (pss_cons (ps_set (i := 3) sc_plain_table.nd rfl (Or.inr rfl) (pe_call (ok_want_walk T) (hr.mono (by decide)) (by rfl) T.want_walk.g T.want_walk.F.kp T.want_walk.b .nil pass0 (pa_cons (pv 2) (pa_cons (pv 1) pa_nil))))
    (pss_one (ps_ret (pe_lc (own := [("state", 5)]) rfl sc_plain_table.nd (pi_range1 (by rfl) T.n_range (pa_cons (pe_callB call_lenU (by rfl) T.n_len PySem.boot_len (pa_cons (pv 3) pa_nil)) pa_nil)) (blkOk_by (N := N_plain_table) (sc := defScope s_plain_table) (by decide +kernel)) (fun _ _ _ _ _ => (pg_name (i := 5) sc_plain_table.nd rfl (by first | exact Or.inl rfl | exact Or.inr rfl))) (fun _ _ _ _ _ => pts_nil) (fun _ _ _ _ _ => (pe_lc (own := [("tie", 4)]) rfl sc_plain_table.nd (pi_range1 (by rfl) T.n_range (pa_cons (pe_prop (pv 2) T.clWeb T.p_many (ok_Web_many T) (hr.mono (by decide)) T.many_b .nil pass0 rfl) pa_nil)) (blkOk_by (N := N_plain_table) (sc := sci_plain_table) (by decide +kernel)) (fun _ _ _ _ _ => (pg_name (i := 4) sc_plain_table.nd rfl (by first | exact Or.inl rfl | exact Or.inr rfl))) (fun _ _ _ _ _ => pts_nil) (fun _ _ _ _ _ => (pe_call (ok_state_by_trying T) (hr.mono (by decide)) (by rfl) T.state_by_trying.g T.state_by_trying.F.kp T.state_by_trying.b .nil pass0 (pa_cons (pv 3) (pa_cons (pv 5) (pa_cons (pv 4) pa_nil)))))))))))), ?_⟩
    refine ⟨.ref x, rfl, x, dx, _, rfl, w1, ?_⟩
    refine ⟨.ref x, rfl, .ref a, rfl, M, x, a, n, E, l, rfl, sm, hw, ha, hj, hl, fun H2 p s2 f2 h2 => ?_⟩
    refine ⟨.ref p, rfl, p, _, rfl, .inl h2, (vns l).length, rfl, by rw [vns_len]; omega, by rw [vns_len]; omega, fun D hD => ?_⟩
    refine lc_rangeN (n := (vns l).length) (sm.trans s2) hD (by rw [vns_len]; exact small400 (by omega)) (fun i => ((List.range i).map (rowW l E.length)).map eNs) rfl (fun i M3 H3 hi e3 hm3 Yes No yes no => ?_) (fun H3 h3 => ?_)
    · rw [vns_len] at hi
      refine ⟨rfl, ?_⟩
      obtain ⟨dx', t', f', g', ts', qs', v1, _⟩ := hw.get (e3.mh0)
      refine ⟨.ref x, rfl, x, dx', _, rfl, v1, M, x, n, E, rfl, e3.mh0, hw, E.length, rfl, by omega, by omega, fun D2 hD2 => ?_⟩
      refine lc_rangeN (n := E.length) e3.mh hD2 (small400 (by omega)) (fun j => ((List.range j).map (stepW l i)).map eN) rfl (fun j M4 H4 hj e4 hm4 Yes2 No2 yes2 no2 => ?_) (fun H4 h4 => ?_)
      · refine ⟨rfl, ?_⟩
        refine ⟨.ref p, rfl, vn i, rfl, vn j, rfl, p, l, i, j, rfl, e4.hh _ _ (e3.hh _ _ h2), hi, hl, fun H5 s5 => ?_⟩
        exact yes2 _ _ M4 (eN _) (.of e4.mh s5) (.int _) (by dsimp only; rw [map_range_succ, List.map_append]; rfl)
      · obtain ⟨M4, acc, _, _, _, e4, _, r4⟩ := lc_end hD2 h4
        exact yes _ _ _ (eNs (rowW l E.length i)) e4 r4 (by dsimp only; rw [map_range_succ, List.map_append]; rfl)
    · obtain ⟨M4, acc, _, _, _, e4, _, r4⟩ := lc_end hD h3
      rw [vns_len] at r4
      exact q _ _ _ ((Ext.of sm s2).trans e4) r4
end
end K31
namespace K31
open PySem L2 Tj
/-! The object of a search. -/
abbrev kn (v : Nat) : Key := .inl (v : Int)
def kv (ord : List Nat) (f : Nat → Nat) : List (Key × V) := ord.map fun v => (kn v, vn (f v))
theorem kn_inj {a b : Nat} (h : kn a = kn b) : a = b := Int.ofNat.inj (Sum.inl.inj h)
theorem kv_len (ord : List Nat) (f : Nat → Nat) : (kv ord f).length = ord.length := List.length_map _
theorem kv_get (f : Nat → Nat) (v : Nat) : ∀ ord : List Nat, valV (kv ord f) (kn v) = if v ∈ ord then some (vn (f v)) else none
  | [] => by rw [if_neg (by simp)]; rfl
  | u :: ord => by
    by_cases e : u = v
    · subst e
      rw [if_pos (by simp)]
      exact valV_pos (p := (kn u, vn (f u))) rfl
    · have := valV_neg (p := (kn u, vn (f u))) (r := kv ord f) (k := kn v) (fun z => e (kn_inj z))
      rw [show kv (u :: ord) f = (kn u, vn (f u)) :: kv ord f from rfl, this, kv_get f v ord]
      have e' : ¬ v = u := fun z => e z.symm
      simp [e']
theorem kv_at {f : Nat → Nat} {v : Nat} {ord : List Nat} (h : v ∈ ord) : valV (kv ord f) (kn v) = some (vn (f v)) := by rw [kv_get, if_pos h]
theorem kv_not {f : Nat → Nat} {v : Nat} {ord : List Nat} (h : v ∉ ord) : valV (kv ord f) (kn v) = none := by rw [kv_get, if_neg h]
theorem kv_congr {f g : Nat → Nat} {ord : List Nat} (h : ∀ v ∈ ord, f v = g v) : kv ord f = kv ord g := List.map_congr_left fun v hv => by rw [h v hv]
theorem kv_new {f : Nat → Nat} {v x : Nat} {ord : List Nat} (h : v ∉ ord) : putK (kv ord f) (kn v) (vn x) = kv (ord ++ [v]) (up f v x) := by
  rw [putK_new _ (kv_not h)]
  unfold kv
  rw [List.map_append]
  congr 1
  · refine List.map_congr_left fun u hu => ?_
    rw [up_ne (show u ≠ v from fun z => h (by rw [← z]; exact hu))]
  · show [(kn v, vn x)] = [(kn v, vn (up f v x v))]
    rw [up_same]
theorem kv_old {f : Nat → Nat} {v x : Nat} {ord : List Nat} (h : v ∈ ord) : putK (kv ord f) (kn v) (vn x) = kv ord (up f v x) := by
  unfold putK
  rw [if_pos (by rw [valV_any, kv_at h]; rfl)]
  unfold kv
  rw [List.map_map]
  refine List.map_congr_left fun u hu => ?_
  show (if kn u = kn v then (kn u, vn x) else (kn u, vn (f u))) = _
  by_cases e : u = v
  · subst e
    rw [if_pos rfl, up_same]
  · rw [if_neg fun z => e (kn_inj z), up_ne e]
theorem dget_v {H : Hp} {a : Addr} {kvs : List (Key × V)} {k : Key} (e : H a = some (.dK kvs)) : DGet H a (kV k) (valV kvs k) := DGet.k (k := k) e

theorem dget_n {H : Hp} {a : Addr} {kvs : List (Key × V)} {v : Nat} {x : V} (e : H a = some (.dK kvs)) (h : valV kvs (kn v) = some x) : DGet H a (vn v) (some x) := dget_k e h
structure SA where
  (s dx x dm dl op pt : Addr)
def SA.L (a : SA) : List Addr := [a.s, a.dm, a.dl, a.op, a.pt]
def SA.fs (a : SA) : List (PySem.Str × V) := [fl "own_web" (.ref a.x), fl "own_met" (.ref a.dm), fl "own_low" (.ref a.dl), fl "own_open" (.ref a.op), fl "own_parts" (.ref a.pt)]
structure Sr (C : Addr) (M1 H1 M H : Hp) (a : SA) (ord : List Nat) (num low : Nat → Nat) (o : List Nat) (parts : List (List Nat)) : Prop where
  e : Ext M1 H1 M H
  h0 : ∀ b ∈ a.L, H1 b = none
  s_ : H a.s = some (.ins C a.dx a.fs)
  m_ : H a.dm = some (.dK (kv ord num))
  l_ : H a.dl = some (.dK (kv ord low))
  o_ : H a.op = some (.lst (vns o))
  p_ : ∃ ps, H a.pt = some (.lst ps) ∧ RpAll M ps (parts.map eNs)
  m0 : ∀ b ∈ a.L, M b = none
  dml : a.dm ≠ a.dl
  dop : a.op ≠ a.pt
/-- what a method leaves: all but the search's own objects -/
structure Fr (L : List Addr) (H H' : Hp) : Prop where
  fr : ∀ b o, b ∉ L → H b = some o → H' b = some o
  dom : ∀ b, H' b = none → H b = none
theorem Fr.refl (L : List Addr) (H : Hp) : Fr L H H := ⟨fun _ _ _ h => h, fun _ h => h⟩
theorem Fr.trans {L : List Addr} {H H1 H2 : Hp} (a : Fr L H H1) (b : Fr L H1 H2) : Fr L H H2 := ⟨fun x o n h => b.fr x o n (a.fr x o n h), fun x h => a.dom x (b.dom x h)⟩
theorem Fr.wr {L : List Addr} {H H' : Hp} {p : Addr} {o : HO} (w : Wr H p o H') (h : p ∈ L) : Fr L H H' :=
  ⟨fun b x n e => by rw [w.old (show b ≠ p from fun z => n (by rw [z]; exact h))]; exact e, fun b e => by
    by_cases z : b = p
    · rw [z, w.at] at e; cases e
    · rw [w.old z] at e; exact e⟩
theorem Fr.same {L : List Addr} {H H' : Hp} (s : Same H H') : Fr L H H' := ⟨fun b o _ e => s _ _ e, fun b e => s.free e⟩

section
variable {C : Addr} {M1 H1 M H H' : Hp} {a : SA} {ord : List Nat} {num low : Nat → Nat} {o : List Nat} {parts : List (List Nat)}
theorem Sr.sm (R : Sr C M1 H1 M H a ord num low o parts) : a.s ≠ a.dm ∧ a.s ≠ a.dl ∧ a.s ≠ a.op ∧ a.s ≠ a.pt ∧ a.dm ≠ a.op ∧ a.dm ≠ a.pt ∧ a.dl ≠ a.op ∧ a.dl ≠ a.pt := by
  obtain ⟨ps, hp, _⟩ := R.p_
  exact ⟨ne_of R.s_ R.m_ (fun z => by cases z), ne_of R.s_ R.l_ (fun z => by cases z), ne_of R.s_ R.o_ (fun z => by cases z), ne_of R.s_ hp (fun z => by cases z),
    ne_of R.m_ R.o_ (fun z => by cases z), ne_of R.m_ hp (fun z => by cases z), ne_of R.l_ R.o_ (fun z => by cases z), ne_of R.l_ hp (fun z => by cases z)⟩
theorem Sr.same (R : Sr C M1 H1 M H a ord num low o parts) (s : Same H H') : Sr C M1 H1 M H' a ord num low o parts := by
  obtain ⟨ps, hp, hr⟩ := R.p_
  exact ⟨R.e.trans (.of R.e.mh s), R.h0, s _ _ R.s_, s _ _ R.m_, s _ _ R.l_, s _ _ R.o_, ⟨ps, s _ _ hp, hr⟩, R.m0, R.dml, R.dop⟩
/-- other objects are written at -/
theorem Sr.past (R : Sr C M1 H1 M H a ord num low o parts) (F : ∀ b o, (b ∈ a.L ∨ H1 b ≠ none ∨ M b ≠ none) → H b = some o → H' b = some o) : Sr C M1 H1 M H' a ord num low o parts := by
  obtain ⟨ps, hp, hr⟩ := R.p_
  refine ⟨⟨fun b u e => F _ _ (.inr (.inl (by rw [e]; simp))) (R.e.hh _ _ e), R.e.mm, fun b u e => F _ _ (.inr (.inr (by rw [e]; simp))) (R.e.mh _ _ e), R.e.new⟩, R.h0, F _ _ (.inl (by simp [SA.L])) R.s_, F _ _ (.inl (by simp [SA.L])) R.m_, F _ _ (.inl (by simp [SA.L])) R.l_, F _ _ (.inl (by simp [SA.L])) R.o_, ⟨ps, F _ _ (.inl (by simp [SA.L])) hp, hr⟩, R.m0, R.dml, R.dop⟩
theorem Sr.wr {p : Addr} {u : HO} (R : Sr C M1 H1 M H a ord num low o parts) (hp : p ∈ a.L) (w : Wr H p u H') : Ext M1 H1 M H' := by
  rw [w.eq]
  exact R.e.write (R.h0 p hp) (R.m0 p hp)
theorem Sr.wm (R : Sr C M1 H1 M H a ord num low o parts) {f : Nat → Nat} {ord' : List Nat} (w : Wr H a.dm (.dK (kv ord' f)) H') (hl : H a.dl = some (.dK (kv ord low))) :
    H' a.s = some (.ins C a.dx a.fs) ∧ H' a.dm = some (.dK (kv ord' f)) ∧ H' a.dl = some (.dK (kv ord low)) ∧ H' a.op = some (.lst (vns o)) ∧ ∃ ps, H' a.pt = some (.lst ps) ∧ RpAll M ps (parts.map eNs) := by
  obtain ⟨k1, k2, k3, k4, k5, k6, k7, k8⟩ := R.sm
  obtain ⟨ps, hp, hr⟩ := R.p_
  refine ⟨?_, w.at, ?_, ?_, ps, ?_, hr⟩
  · rw [w.old k1]; exact R.s_
  · rw [w.old R.dml.symm]; exact R.l_
  · rw [w.old k5.symm]; exact R.o_
  · rw [w.old k6.symm]; exact hp
/-- low[..] = .. -/
theorem Sr.wl (R : Sr C M1 H1 M H a ord num low o parts) {f : Nat → Nat} (w : Wr H a.dl (.dK (kv ord f)) H') : Sr C M1 H1 M H' a ord num f o parts := by
  obtain ⟨k1, k2, k3, k4, k5, k6, k7, k8⟩ := R.sm
  obtain ⟨ps, hp, hr⟩ := R.p_
  refine ⟨R.wr (by simp [SA.L]) w, R.h0, ?_, ?_, w.at, ?_, ⟨ps, ?_, hr⟩, R.m0, R.dml, R.dop⟩
  · rw [w.old k2]; exact R.s_
  · rw [w.old R.dml]; exact R.m_
  · rw [w.old k7.symm]; exact R.o_
  · rw [w.old k8.symm]; exact hp
end

section
variable {P : Program} {w : World} {K : PySem.W.Frag} {mg : PySem.Str → Option Value} {base : Heap}

/-- the object is new, without fields; the heap H1 stood before -/
def sp_Search_init (C : Addr) : Sp := fun vs H Q _ => ∃ (M1 H1 : Hp) (s dx x : Addr), vs = [.ref s, .ref x] ∧ Same M1 H1 ∧ Same H1 H ∧ H1 s = none ∧ H s = some (.ins C dx []) ∧
  ∀ H' a, a.s = s → a.x = x → Sr C M1 H1 M1 H' a [] (fun _ => 0) (fun _ => 0) [] [] → Q .non H'
theorem ok_Search_init (T : Tx K mg) : FnOk P w K mg base CX0 1 T.Search_init.f T.Search_init.fd ["self", "web"] (sp_Search_init T.Search) := by
  refine T.Search_init.F.ok sc_Search_init (fun vs H Q E h => ?_) (fun cdv A outer s H vs Q E hr h => ?_)
  · obtain ⟨M1, H1, s, dx, x, rfl, _⟩ := h
    rfl
  · obtain ⟨M1, H1, s, dx, x, rfl, m1, s1, s0, hs, q⟩ := h
    refine ⟨_, (pss_cons (ps_fldU (pv 0) (pv 1) rfl)
    (pss_cons (ps_fldU (pv 0) pe_dnewKU rfl)
    (pss_cons (ps_fldU (pv 0) pe_dnewKU rfl)
    (pss_cons (ps_fldU (pv 0) (pe_lstU pa_nil) rfl)
    (pss_one (ps_fldU (pv 0) (pe_lstU pa_nil) rfl)))))), ?_⟩
    refine ⟨.ref x, rfl, .ref s, rfl, s, T.Search, dx, [], rfl, hs, T.clSearch, T.noSearch_own_web, by show 0 < 1000; decide, fun H2 w2 => ?_⟩
    have x2 : Same H1 H2 := by rw [w2.eq]; exact s1.past s0
    refine fun dm H3 n3 => ⟨.ref s, rfl, s, T.Search, dx, _, rfl, n3.same _ _ w2.at, T.clSearch, T.noSearch_own_met, by show 1 < 1000; decide, fun H4 w4 => ?_⟩
    have x4 : Same H1 H4 := by rw [w4.eq]; exact (x2.trans n3.same).past s0
    have e1 : dm ≠ s := (n3.ne w2.at).symm
    refine fun dl H5 n5 => ⟨.ref s, rfl, s, T.Search, dx, _, rfl, n5.same _ _ w4.at, T.clSearch, T.noSearch_own_low, by show 2 < 1000; decide, fun H6 w6 => ?_⟩
    have x6 : Same H1 H6 := by rw [w6.eq]; exact (x4.trans n5.same).past s0
    have e2 : dl ≠ s := (n5.ne w4.at).symm
    have m4 : H4 dm = some (.dK []) := by rw [w4.old e1]; exact n3.at
    have e3 : dm ≠ dl := n5.ne m4
    refine ⟨Nat.zero_le _, fun op H7 n7 => ⟨.ref s, rfl, s, T.Search, dx, _, rfl, n7.same _ _ w6.at, T.clSearch, T.noSearch_own_open, by show 3 < 1000; decide, fun H8 w8 => ?_⟩⟩
    have x8 : Same H1 H8 := by rw [w8.eq]; exact (x6.trans n7.same).past s0
    have e4 : op ≠ s := (n7.ne w6.at).symm
    have l6 : H6 dl = some (.dK []) := by rw [w6.old e2]; exact n5.at
    have m6 : H6 dm = some (.dK []) := by rw [w6.old e1]; exact n5.same _ _ m4
    refine ⟨Nat.zero_le _, fun pt H9 n9 => ⟨.ref s, rfl, s, T.Search, dx, _, rfl, n9.same _ _ w8.at, T.clSearch, T.noSearch_own_parts, by show 4 < 1000; decide, fun H10 w10 => ?_⟩⟩
    have x10 : Same H1 H10 := by rw [w10.eq]; exact (x8.trans n9.same).past s0
    have e5 : pt ≠ s := (n9.ne w8.at).symm
    have o8 : H8 op = some (.lst []) := by rw [w8.old e4]; exact n7.at
    have h0 : ∀ b ∈ (SA.mk s dx x dm dl op pt).L, H1 b = none := by
      intro b hb
      simp only [SA.L, List.mem_cons, List.not_mem_nil, or_false] at hb
      rcases hb with rfl | rfl | rfl | rfl | rfl
      · exact s0
      · exact x2.free n3.free
      · exact x4.free n5.free
      · exact x6.free n7.free
      · exact x8.free n9.free
    refine q H10 ⟨s, dx, x, dm, dl, op, pt⟩ rfl rfl ⟨.of m1 x10, h0, w10.at, ?_, ?_, ?_, ⟨[], ?_, .nil⟩, fun b hb => m1.free (h0 b hb), e3, n9.ne o8⟩
    · show H10 dm = _
      rw [w10.old e1]
      refine n9.same _ _ ?_
      rw [w8.old e1]
      exact n7.same _ _ m6
    · show H10 dl = _
      rw [w10.old e2]
      refine n9.same _ _ ?_
      rw [w8.old e2]
      exact n7.same _ _ l6
    · show H10 op = _
      rw [w10.old e4]
      exact n9.same _ _ o8
    · show H10 pt = _
      rw [w10.old e5]
      exact n9.at

def sp_meet (C : Addr) : Sp := fun vs H Q _ => ∃ (M1 H1 M : Hp) (a : SA) (b : Nat) (ord : List Nat) (num low : Nat → Nat) (o : List Nat) (parts : List (List Nat)), vs = [.ref a.s, vn b] ∧ Sr C M1 H1 M H a ord num low o parts ∧ b ∉ ord ∧
  ord.length ≤ 1000 ∧ o.length ≤ 1000 ∧ ∀ H', Fr a.L H H' → Sr C M1 H1 M H' a (ord ++ [b]) (up num b ord.length) (up low b ord.length) (o ++ [b]) parts → Q .non H'
theorem ok_Search_meet (T : Tx K mg) : FnOk P w K mg base CX0 1 T.Search_meet.f T.Search_meet.fd ["self", "place"] (sp_meet T.Search) := by
  refine T.Search_meet.F.ok sc_Search_meet (fun vs H Q E h => ?_) (fun cdv A outer s H vs Q E hr h => ?_)
  · obtain ⟨M1, H1, M, a, b, ord, num, low, o, parts, rfl, _⟩ := h
    rfl
  · obtain ⟨M1, H1, M, a, b, ord, num, low, o, parts, rfl, R, hb, ho1, ho2, q⟩ := h
    refine ⟨_, (pss_cons (ps_dputK (hu_of hr) (pe_fldK (K := K) rfl (pv 0) rfl) (pv 1) (pe_callB call_lenD (by rfl) T.n_len PySem.boot_len (pa_cons (pe_fldK (K := K) rfl (pv 0) rfl) pa_nil)) rfl)
    (pss_cons (ps_dputK (hu_of hr) (pe_fldK (K := K) rfl (pv 0) rfl) (pv 1) (pe_dget (hu_of hr) (pe_fldK (K := K) rfl (pv 0) rfl) (pv 1) (fun _ _ => rfl)) rfl)
    (pss_one (ps_expr (pe_bm PySem.F.plainAttrs_list PySem.F.slot_list_append PySem.F.type_list_append mt_appendU (pe_fldK (K := K) rfl (pv 0) rfl) (pa_cons (pv 1) pa_nil)))))), ?_⟩
    refine ⟨.ref a.s, rfl, a.s, T.Search, a.dx, _, .ref a.dm, rfl, R.s_, T.clSearch, T.noSearch_own_met, rfl, a.dm, _, rfl, R.m_, .ref a.s, rfl, a.s, T.Search, a.dx, _, .ref a.dm, rfl, R.s_, T.clSearch, T.noSearch_own_met, rfl, vn b, rfl, a.dm, _, kn b, rfl, R.m_, rfl, small400 (by rw [kv_len]; exact ho1), fun H2 w2 => ?_⟩
    rw [kv_len, kv_new hb] at w2
    obtain ⟨s2, m2, l2, o2, ps, p2, r2⟩ := R.wm w2 R.l_
    refine ⟨.ref a.s, rfl, a.s, T.Search, a.dx, _, .ref a.dm, rfl, s2, T.clSearch, T.noSearch_own_met, rfl, vn b, rfl, a.dm, vn ord.length, rfl, dget_n m2 (by rw [kv_at (by simp), up_same]), .ref a.s, rfl, a.s, T.Search, a.dx, _, .ref a.dl, rfl, s2, T.clSearch, T.noSearch_own_low, rfl, vn b, rfl, a.dl, _, kn b, rfl, l2, rfl, small400 (by rw [kv_len]; exact ho1), fun H3 w3 => ?_⟩
    rw [kv_new hb] at w3
    obtain ⟨k1, k2, k3, k4, k5, k6, k7, k8⟩ := R.sm
    have s3 : H3 a.s = some (.ins T.Search a.dx a.fs) := by rw [w3.old k2]; exact s2
    have o3 : H3 a.op = some (.lst (vns o)) := by rw [w3.old k7.symm]; exact o2
    refine ⟨.ref a.s, rfl, a.s, T.Search, a.dx, _, .ref a.op, rfl, s3, T.clSearch, T.noSearch_own_open, rfl, .inl ⟨rfl, _, SqL.of o3⟩, vn b, rfl, a.op, _, vn b, rfl, rfl, o3, small400 (by rw [vns_len]; exact ho2), fun H4 w4 => ?_⟩
    rw [vns_app] at w4
    have inL : ∀ b, b ∈ a.L ↔ b = a.s ∨ b = a.dm ∨ b = a.dl ∨ b = a.op ∨ b = a.pt := fun b => by simp [SA.L]
    have e2 : Ext M1 H1 M H2 := R.wr (by simp [SA.L]) w2
    have e3 : Ext M1 H1 M H3 := by rw [w3.eq]; exact e2.write (R.h0 _ (by simp [SA.L])) (R.m0 _ (by simp [SA.L]))
    have e4 : Ext M1 H1 M H4 := by rw [w4.eq]; exact e3.write (R.h0 _ (by simp [SA.L])) (R.m0 _ (by simp [SA.L]))
    refine q H4 (((Fr.wr w2 (by simp [SA.L])).trans (Fr.wr w3 (by simp [SA.L]))).trans (Fr.wr w4 (by simp [SA.L]))) ⟨e4, R.h0, ?_, ?_, ?_, w4.at, ⟨ps, ?_, r2⟩, R.m0, R.dml, R.dop⟩
    · rw [w4.old k3]; exact s3
    · rw [w4.old k5, w3.old R.dml]; exact m2
    · rw [w4.old k7]; exact w3.at
    · rw [w4.old R.dop.symm, w3.old k8.symm]; exact p2

/-- what closing leaves: nothing new, or one part more -/
def CloseRes (C : Addr) (M1 H1 M H : Hp) (a : SA) (v : Nat) (ord : List Nat) (num low : Nat → Nat) (o sg : List Nat) (parts : List (List Nat)) (H' : Hp) : Prop :=
  ∃ (M' : Hp) (a' : SA) (o' : List Nat) (parts' : List (List Nat)), Fr a.L H H' ∧ (∀ b u, M' b = some u → M b = some u ∨ H b = none) ∧ a'.s = a.s ∧ a'.x = a.x ∧ (∀ b ∈ a'.L, b ∈ a.L ∨ H b = none) ∧
    Sr C M1 H1 M' H' a' ord num low o' parts' ∧ ((low v ≠ num v ∧ o' = o ++ sg ∧ parts' = parts) ∨ (low v = num v ∧ o' = o ∧ parts' = parts ++ [srt sg]))
def sp_close_part (C : Addr) : Sp := fun vs H Q _ => ∃ (M1 H1 M : Hp) (a : SA) (v : Nat) (ord : List Nat) (num low : Nat → Nat) (o sg r : List Nat) (parts : List (List Nat)), vs = [.ref a.s, vn v] ∧ Sr C M1 H1 M H a ord num low (o ++ sg) parts ∧ v ∈ ord ∧
  sg = v :: r ∧ v ∉ o ∧ parts.length ≤ 1000 ∧ ∀ H', CloseRes C M1 H1 M H a v ord num low o sg parts H' → Q .non H'
theorem ok_Search_close_part (T : Tx K mg) : FnOk P w K mg base CX0 1 T.Search_close_part.f T.Search_close_part.fd ["self", "place"] (sp_close_part T.Search) := by
  refine T.Search_close_part.F.ok sc_Search_close_part (fun vs H Q E h => ?_) (fun cdv A outer s H vs Q E hr h => ?_)
  · obtain ⟨M1, H1, M, a, v, ord, num, low, o, sg, r, parts, rfl, _⟩ := h
    rfl
  · obtain ⟨M1, H1, M, a, v, ord, num, low, o, sg, r, parts, rfl, R, hv, hsg, hvo, hpl, q⟩ := h
    refine ⟨_, (pss_one (ps_if (pt_cmpR op_eqN (pe_dget (hu_of hr) (pe_fldK (K := K) rfl (pv 0) rfl) (pv 1) (fun _ _ => rfl)) (pe_dget (hu_of hr) (pe_fldK (K := K) rfl (pv 0) rfl) (pv 1) (fun _ _ => rfl)) (nomark _)) (pss_cons (ps_set (i := 2) sc_Search_close_part.nd rfl (Or.inl rfl) (pe_bm PySem.F.plainAttrs_list PySem.F.slot_list_index PySem.F.type_list_index mt_indexU (pe_fldK (K := K) rfl (pv 0) rfl) (pa_cons (pv 1) pa_nil)))
    (pss_cons (ps_expr (pe_bm PySem.F.plainAttrs_list PySem.F.slot_list_append PySem.F.type_list_append mt_appendU (pe_fldK (K := K) rfl (pv 0) rfl) (pa_cons (pe_callB (cr_sortN hr.units) (by rfl) T.n_sorted (by decide +kernel) (pa_cons (pe_slice sl_dropU (pe_fldK (K := K) rfl (pv 0) rfl) (po_some (pv 2)) po_none) pa_nil)) pa_nil)))
    (pss_one (ps_fldU (pv 0) (pe_slice sl_takeU (pe_fldK (K := K) rfl (pv 0) rfl) po_none (po_some (pv 2))) rfl)))) pss_nil)), ?_⟩
    refine ⟨.ref a.s, rfl, a.s, T.Search, a.dx, _, .ref a.dl, rfl, R.s_, T.clSearch, T.noSearch_own_low, rfl, vn v, rfl, a.dl, vn (low v), rfl, dget_n R.l_ (kv_at hv), .ref a.s, rfl, a.s, T.Search, a.dx, _, .ref a.dm, rfl, R.s_, T.clSearch, T.noSearch_own_met, rfl, vn v, rfl, a.dm, vn (num v), rfl, dget_n R.m_ (kv_at hv), low v, num v, rfl, rfl, decide (low v = num v), rfl, ?_⟩
    by_cases hl : low v = num v
    · rw [decide_eq_true hl]
      refine iteT ?_
      have hidx : (o ++ sg).idxOf v = o.length := by
        rw [List.idxOf_append, if_neg hvo, hsg, List.idxOf_cons_self, Nat.zero_add]
      refine ⟨.ref a.s, rfl, a.s, T.Search, a.dx, _, .ref a.op, rfl, R.s_, T.clSearch, T.noSearch_own_open, rfl, .inl ⟨rfl, _, SqL.of R.o_⟩, vn v, rfl, a.op, _, v, rfl, rfl, R.o_, by rw [hsg]; simp, ?_⟩
      rw [hidx]
      obtain ⟨ps, hp, hr⟩ := R.p_
      have hpsl : ps.length = parts.length := by rw [hr.len, List.length_map]
      refine ⟨.ref a.s, rfl, a.s, T.Search, a.dx, _, .ref a.pt, rfl, R.s_, T.clSearch, T.noSearch_own_parts, rfl, .inl ⟨rfl, _, SqL.of hp⟩, .ref a.s, rfl, a.s, T.Search, a.dx, _, .ref a.op, rfl, R.s_, T.clSearch, T.noSearch_own_open, rfl, vn o.length, rfl, _, rfl, a.op, _, o.length, rfl, rfl, rfl, R.o_, fun c H2 n2 => ?_⟩
      refine ⟨sg, c, rfl, by rw [n2.at]; unfold vns; rw [List.map_append, List.drop_append_of_le_length (by rw [List.length_map]; exact Nat.le_refl _), List.drop_of_length_le (by rw [List.length_map]; exact Nat.le_refl _)]; rfl, fun p H3 n3 => ?_⟩
      have p3 : H3 a.pt = some (.lst ps) := n3.same _ _ (n2.same _ _ hp)
      refine ⟨a.pt, ps, .ref p, rfl, rfl, p3, small400 (by omega), fun H4 w4 => ?_⟩
      have R3 := (R.same n2.same).same n3.same
      obtain ⟨k1, k2, k3, k4, k5, k6, k7, k8⟩ := R.sm
      have s4 : H4 a.s = some (.ins T.Search a.dx a.fs) := by rw [w4.old k4]; exact R3.s_
      have o4 : H4 a.op = some (.lst (vns (o ++ sg))) := by rw [w4.old R.dop]; exact R3.o_
      refine ⟨.ref a.s, rfl, a.s, T.Search, a.dx, _, .ref a.op, rfl, s4, T.clSearch, T.noSearch_own_open, rfl, vn o.length, rfl, _, rfl, a.op, _, o.length, rfl, rfl, rfl, o4, fun op' H5 n5 => ?_⟩
      have s5 := n5.same _ _ s4
      refine ⟨.ref a.s, rfl, a.s, T.Search, a.dx, a.fs, rfl, s5, T.clSearch, T.noSearch_own_open, by show 5 < 1000; decide, fun H6 w6 => ?_⟩
      -- the new part is frozen
      have p0 : H p = none := n2.same.free n3.free
      have e4 : Ext M1 H1 M H4 := R3.wr (by simp [SA.L]) w4
      have e5 : Ext M1 H1 M H5 := e4.trans (.of e4.mh n5.same)
      have e6 : Ext M1 H1 M H6 := by rw [w6.eq]; exact e5.write (R.h0 _ (by simp [SA.L])) (R.m0 _ (by simp [SA.L]))
      have pH1 : H1 p = none := R.e.hh.free p0
      have pM : M p = none := R.e.mh.free p0
      have ppt : p ≠ a.pt := fun z => by rw [z, hp] at p0; cases p0
      have ps' : p ≠ a.s := fun z => by rw [z, R.s_] at p0; cases p0
      have h6p : H6 p = some (.lst (vns (srt sg))) := by
        rw [w6.old ps']
        refine n5.same _ _ ?_
        rw [w4.old ppt]
        exact n3.at
      have e7 := e6.put pH1 pM h6p
      have fr4 : Fr a.L H H4 := ((Fr.same n2.same).trans (Fr.same n3.same)).trans (Fr.wr w4 (by simp [SA.L]))
      have op0 : H op' = none := fr4.dom _ n5.free
      have h0' : ∀ b ∈ (SA.mk a.s a.dx a.x a.dm a.dl op' a.pt).L, b ∈ a.L ∨ b = op' := by
        intro b hb
        simp only [SA.L, List.mem_cons, List.not_mem_nil, or_false] at hb ⊢
        rcases hb with z | z | z | z | z <;> simp [z]
      have pop : p ≠ op' := fun z => by
        have := n5.free
        rw [← z, w4.old ppt, n3.at] at this
        cases this
      refine q H6 ⟨_, ⟨a.s, a.dx, a.x, a.dm, a.dl, op', a.pt⟩, _, _, (fr4.trans (Fr.same n5.same)).trans (Fr.wr w6 (by simp [SA.L])), fun b u hb => ?_, rfl, rfl, fun b hb => (h0' b hb).imp id (fun z => by rw [z]; exact op0), ⟨e7, fun b hb => ?_, w6.at, ?_, ?_, ?_, ⟨ps ++ [.ref p], ?_, ?_⟩, fun b hb => ?_, R.dml, ?_⟩, .inr ⟨hl, rfl, rfl⟩⟩
      · by_cases z : b = p
        · rw [z]; exact .inr p0
        · rw [upd_ne z] at hb; exact .inl hb
      · rcases h0' b hb with z | z
        · exact R.h0 b z
        · rw [z]; exact R.e.hh.free op0
      · show H6 a.dm = _
        rw [w6.old k1.symm]
        refine n5.same _ _ ?_
        rw [w4.old k6]
        exact R3.m_
      · show H6 a.dl = _
        rw [w6.old k2.symm]
        refine n5.same _ _ ?_
        rw [w4.old k8]
        exact R3.l_
      · show H6 op' = _
        rw [w6.old (fun z => by rw [z, R.s_] at op0; cases op0), n5.at]
        unfold vns
        rw [List.map_append, List.take_append_of_le_length (by rw [List.length_map]; exact Nat.le_refl _), List.take_of_length_le (by rw [List.length_map]; exact Nat.le_refl _)]
      · show H6 a.pt = _
        rw [w6.old k4.symm]
        exact n5.same _ _ w4.at
      · rw [List.map_append]
        exact (hr.s (.new pM)).app (.one (.of_ns upd_same))
      · rcases h0' b hb with z | z
        · by_cases y : b = p
          · subst y
            exact absurd z (fun z => by
              have := R.h0 b z
              simp only [SA.L, List.mem_cons, List.not_mem_nil, or_false] at z
              rcases z with z | z | z | z | z
              · exact ps' z
              · rw [z, R.m_] at p0; cases p0
              · rw [z, R.l_] at p0; cases p0
              · rw [z, R.o_] at p0; cases p0
              · exact ppt z)
          · rw [upd_ne y]; exact R.m0 b z
        · rw [z, upd_ne pop.symm]
          exact R.e.mh.free op0
      · show op' ≠ a.pt
        exact fun z => by rw [z, hp] at op0; cases op0
    · rw [decide_eq_false hl]
      exact iteF (q H ⟨M, a, _, _, .refl _ _, fun b u hb => .inl hb, rfl, rfl, fun b hb => .inl hb, R, .inl ⟨hl, rfl, rfl⟩⟩)
end
end K31
namespace K31
open PySem L2 Tj
/-! The stack of a search. -/
theorem Wr.keep {H H' : Hp} {p b : Addr} {o u : HO} (n : Wr H p o H') (h : b ≠ p) (e : H b = some u) : H' b = some u := by rw [n.old h]; exact e
theorem len_le : ∀ (n : Nat) (l : List Nat), l.Nodup → (∀ x ∈ l, x < n) → l.length ≤ n
  | 0, l, _, h => by
    cases l with
    | nil => exact Nat.le_refl _
    | cons a _ => exact absurd (h a (by simp)) (by omega)
  | n + 1, l, nd, h => by
    have h1 := len_le n (l.erase n) (nd.erase n) fun x hx => by
      have := (nd.mem_erase_iff).mp hx
      have := h x this.2
      omega
    rw [List.length_erase] at h1
    split at h1 <;> omega
theorem fr_le {E : List (Nat × Nat)} {S : Tj.St} : ∀ fs : List Tj.Fr, (∀ f ∈ fs, FrOk E S f) → fs.length ≤ (opn fs).length
  | [], _ => Nat.le_refl _
  | f :: fs, h => by
    have ih := fr_le fs fun g hg => h g (List.mem_cons_of_mem _ hg)
    obtain ⟨r, e⟩ := (h f List.mem_cons_self).head
    show fs.length + 1 ≤ (opn fs ++ f.seg).length
    rw [List.length_append, e, List.length_cons]
    omega
theorem parts_le {n : Nat} : ∀ ps : List (List Nat), (∀ p ∈ ps, ∃ a, a ∈ p) → (∀ p ∈ ps, ∀ x ∈ p, x < n) → (ps.Pairwise fun p q => ∀ x ∈ p, x ∉ q) → ps.length ≤ n := by
  intro ps h1 h2 h3
  have key : ∀ ps : List (List Nat), (∀ p ∈ ps, ∃ a, a ∈ p) → (ps.Pairwise fun p q => ∀ x ∈ p, x ∉ q) → ∃ hs : List Nat, hs.length = ps.length ∧ hs.Nodup ∧ ∀ x ∈ hs, ∃ p ∈ ps, x ∈ p := by
    intro ps
    induction ps with
    | nil => intro _ _; exact ⟨[], rfl, .nil, fun x h => by cases h⟩
    | cons p ps ih =>
      intro h1 h3
      obtain ⟨hp, hr⟩ := List.pairwise_cons.mp h3
      obtain ⟨hs, a1, a2, a3⟩ := ih (fun q hq => h1 q (List.mem_cons_of_mem _ hq)) hr
      obtain ⟨a, ha⟩ := h1 p List.mem_cons_self
      refine ⟨a :: hs, by rw [List.length_cons, List.length_cons, a1], List.nodup_cons.mpr ⟨fun z => ?_, a2⟩, fun x hx => ?_⟩
      · obtain ⟨q, hq, hx⟩ := a3 a z
        exact hp q hq a ha hx
      · rcases List.mem_cons.mp hx with rfl | hx
        · exact ⟨p, List.mem_cons_self, ha⟩
        · obtain ⟨q, hq, hx⟩ := a3 x hx
          exact ⟨q, List.mem_cons_of_mem _ hq, hx⟩
  obtain ⟨hs, a1, a2, a3⟩ := key ps h1 h3
  rw [← a1]
  exact len_le n hs a2 fun x hx => by
    obtain ⟨p, hp, hx⟩ := a3 x hx
    exact h2 p hp x hx
theorem small_inv {n : Nat} {E : List (Nat × Nat)} {S : Tj.St} (I : Tj.Inv n E S) : S.ord.length ≤ n ∧ (opn S.fr).length ≤ n ∧ S.fr.length ≤ n ∧ S.parts.length ≤ n := by
  have h1 := len_le n _ I.opnd fun x hx => I.lt x (I.sub x hx)
  refine ⟨len_le n _ I.nd I.lt, h1, Nat.le_trans (fr_le _ I.frs) h1, parts_le _ (fun p hp => ?_) (fun p hp x hx => I.lt x (I.pmem p hp x hx).1) I.pdis⟩
  obtain ⟨a, ha, _⟩ := I.pcls p hp
  exact ⟨a, ha⟩

abbrev eFr (f : Tj.Fr) : PyData := .tuple [eN f.v, eNs f.left]
theorem sh_fr (f : Tj.Fr) : Sh 2 (eFr f) := .tup2 ((sh_n _).mono (by decide)) (sh_ns _)
inductive StkAll (H : Hp) : List (Addr × Addr) → List Tj.Fr → Prop
  | nil : StkAll H [] []
  | cons {c : Addr × Addr} {f : Tj.Fr} {cs : List (Addr × Addr)} {fs : List Tj.Fr} : H c.1 = some (.tup [vn f.v, .ref c.2]) → H c.2 = some (.lst (vns f.left)) → StkAll H cs fs → StkAll H (c :: cs) (f :: fs)
section
variable {H H' H1 M M' : Hp} {L L' : List Addr} {st : Addr} {cs : List (Addr × Addr)} {fs : List Tj.Fr} {c : Addr × Addr} {f : Tj.Fr}
theorem StkAll.imp (h : StkAll H cs fs) (k : ∀ b o, (b ∈ cs.map (·.1) ∨ b ∈ cs.map (·.2)) → H b = some o → H' b = some o) : StkAll H' cs fs := by
  induction h with
  | nil => exact .nil
  | cons h1 h2 _ ih => exact .cons (k _ _ (by simp) h1) (k _ _ (by simp) h2) (ih fun b o hb e => k b o (by rcases hb with z | z <;> simp [z]) e)
theorem StkAll.len (h : StkAll H cs fs) : cs.length = fs.length := by
  induction h with
  | nil => rfl
  | cons _ _ _ ih => rw [List.length_cons, List.length_cons, ih]
theorem StkAll.rp (h : StkAll H cs fs) : RpAll H (cs.map fun c => V.ref c.1) (fs.map eFr) := by
  induction h with
  | nil => exact .nil
  | cons h1 h2 _ ih => exact .cons (.tup h1 (.cons (.int _) (.cons (.of_ns h2) .nil))) ih
theorem RpAll.rev {vs : List V} {ds : List PyData} (h : RpAll H vs ds) : RpAll H vs.reverse ds.reverse := by
  induction vs generalizing ds with
  | nil =>
    cases h
    exact .nil
  | cons v vs ih =>
    cases h with
    | cons a b =>
      rw [List.reverse_cons, List.reverse_cons]
      exact (ih b).app (.one a)
theorem StkAll.cls (h : StkAll H cs fs) : ∀ b ∈ cs.map (·.2), ∃ l, H b = some (.lst l) := by
  induction h with
  | nil => intro b hb; cases hb
  | cons h1 h2 _ ih =>
    intro b hb
    rcases List.mem_cons.mp hb with z | z
    · rw [z]; exact ⟨_, h2⟩
    · exact ih b z
theorem StkAll.tups (h : StkAll H cs fs) : ∀ b ∈ cs.map (·.1), ∃ l, H b = some (.tup l) := by
  induction h with
  | nil => intro b hb; cases hb
  | cons h1 h2 _ ih =>
    intro b hb
    rcases List.mem_cons.mp hb with z | z
    · rw [z]; exact ⟨_, h1⟩
    · exact ih b z

structure Stk (H1 M H : Hp) (L : List Addr) (st : Addr) (cs : List (Addr × Addr)) (fs : List Tj.Fr) : Prop where
  st_ : H st = some (.lst (cs.map fun c => V.ref c.1).reverse)
  all : StkAll H cs fs
  own : ∀ b ∈ st :: cs.map (·.2), b ∉ L ∧ H1 b = none ∧ M b = none
  tl : ∀ b ∈ cs.map (·.1), b ∉ L
  nd : (st :: cs.map (·.2)).Nodup
theorem Stk.has (S : Stk H1 M H L st cs fs) : ∀ b ∈ st :: cs.map (·.2), ∃ l, H b = some (.lst l) := fun b hb => by
  rcases List.mem_cons.mp hb with z | z
  · rw [z]; exact ⟨_, S.st_⟩
  · exact S.all.cls b z
theorem Stk.frame (S : Stk H1 M H L st cs fs) (F : Fr L H H') (hM : ∀ b u, M' b = some u → M b = some u ∨ H b = none) (hL : ∀ b ∈ L', b ∈ L ∨ H b = none) : Stk H1 M' H' L' st cs fs := by
  have own : ∀ b ∈ st :: cs.map (·.2), b ∉ L := fun b hb => (S.own b hb).1
  refine ⟨F.fr _ _ (own st (by simp)) S.st_, S.all.imp fun b o hb e => F.fr _ _ ?_ e, fun b hb => ⟨fun z => ?_, (S.own b hb).2.1, ?_⟩, fun b hb z => ?_, S.nd⟩
  · rcases hb with z | z
    · exact S.tl b z
    · exact own b (by simp [z])
  · obtain ⟨l, hl⟩ := S.has b hb
    rcases hL b z with y | y
    · exact own b hb y
    · rw [hl] at y; cases y
  · obtain ⟨l, hl⟩ := S.has b hb
    cases k : M' b with
    | none => rfl
    | some u =>
      rcases hM b u k with y | y
      · rw [(S.own b hb).2.2] at y; cases y
      · rw [hl] at y; cases y
  · obtain ⟨l, hl⟩ := S.all.tups b hb
    rcases hL b z with y | y
    · exact S.tl b hb y
    · rw [hl] at y; cases y
theorem Stk.same (S : Stk H1 M H L st cs fs) (s : Same H H') : Stk H1 M H' L st cs fs := S.frame (.same s) (fun b u h => .inl h) (fun b h => .inl h)
theorem Stk.stc (S : Stk H1 M H L st (c :: cs) (f :: fs)) : st ≠ c.1 ∧ st ≠ c.2 ∧ c.1 ≠ c.2 ∧ ∀ b ∈ cs.map (·.2), b ≠ c.2 := by
  cases S.all with
  | cons h1 h2 h3 =>
    have nd := S.nd
    rw [List.map_cons, List.nodup_cons, List.nodup_cons] at nd
    exact ⟨ne_of S.st_ h1 (fun z => by cases z), fun z => nd.1 (by rw [z]; simp), ne_of h1 h2 (fun z => by cases z), fun b hb z => nd.2.1 (by rw [← z]; exact hb)⟩
/-- the top is taken off -/
theorem Stk.pop (S : Stk H1 M H L st (c :: cs) (f :: fs)) (w : Wr H st (.lst (cs.map fun c => V.ref c.1).reverse) H') : Stk H1 M H' L st cs fs := by
  have nd := S.nd
  rw [List.map_cons, List.nodup_cons, List.nodup_cons] at nd
  cases S.all with
  | cons h1 h2 h3 =>
    refine ⟨w.at, h3.imp fun b o hb e => w.keep (fun z => ?_) e, fun b hb => S.own b (by rcases List.mem_cons.mp hb with z | z <;> simp [z]), fun b hb => S.tl b (by simp [hb]), ?_⟩
    · rcases hb with y | y
      · obtain ⟨l, hl⟩ := h3.tups b y
        rw [z, S.st_] at hl
        cases hl
      · exact nd.1 (by rw [← z]; exact List.mem_cons_of_mem _ y)
    · rw [List.nodup_cons]
      exact ⟨fun z => nd.1 (List.mem_cons_of_mem _ z), nd.2.2⟩
/-- what is left at the top is written -/
theorem Stk.left {l : List Nat} (S : Stk H1 M H L st (c :: cs) (f :: fs)) (w : Wr H c.2 (.lst (vns l)) H') : Stk H1 M H' L st (c :: cs) (⟨f.v, l, f.seg⟩ :: fs) := by
  obtain ⟨k1, k2, k3, k4⟩ := S.stc
  cases S.all with
  | cons h1 h2 h3 =>
    refine ⟨by rw [w.old k2]; exact S.st_, .cons (by rw [w.old k3]; exact h1) w.at (h3.imp fun b o hb e => w.keep (fun z => ?_) e), S.own, S.tl, S.nd⟩
    rcases hb with y | y
    · obtain ⟨l, hl⟩ := h3.tups b y
      rw [z, h2] at hl
      cases hl
    · exact k4 b y z
theorem Stk.merge {g : Tj.Fr} {sg : List Nat} (S : Stk H1 M H L st cs (g :: fs)) : Stk H1 M H L st cs (⟨g.v, g.left, sg⟩ :: fs) := by
  refine ⟨S.st_, ?_, S.own, S.tl, S.nd⟩
  have a := S.all
  cases a with
  | cons h1 h2 h3 => exact .cons h1 h2 h3
/-- a new top -/
theorem Stk.push {v : Nat} {l sg : List Nat} {ca la : Addr} (S : Stk H1 M H L st cs fs) (hc : H ca = some (.tup [vn v, .ref la])) (hl : H la = some (.lst (vns l))) (hn : la ∉ st :: cs.map (·.2)) (ho : la ∉ L ∧ H1 la = none ∧ M la = none) (hcL : ca ∉ L)
    (w : Wr H st (.lst ((cs.map fun c => V.ref c.1).reverse ++ [.ref ca])) H') : Stk H1 M H' L st ((ca, la) :: cs) (⟨v, l, sg⟩ :: fs) := by
  have nd := List.nodup_cons.mp S.nd
  have e1 : ca ≠ st := ne_of hc S.st_ (fun z => by cases z)
  have e2 : la ≠ st := fun z => hn (by rw [z]; simp)
  refine ⟨by rw [w.at, List.map_cons, List.reverse_cons], .cons (by rw [w.old e1]; exact hc) (by rw [w.old e2]; exact hl) (S.all.imp fun b o hb e => w.keep (fun z => ?_) e), fun b hb => ?_, fun b hb => ?_, ?_⟩
  · rcases hb with y | y
    · obtain ⟨l, hl⟩ := S.all.tups b y
      rw [z, S.st_] at hl
      cases hl
    · exact nd.1 (by rw [← z]; exact y)
  · rcases List.mem_cons.mp hb with z | z
    · exact S.own b (by rw [z]; simp)
    · rcases List.mem_cons.mp z with z | z
      · rw [z]; exact ho
      · exact S.own b (by simp [z])
  · rcases List.mem_cons.mp hb with z | z
    · rw [z]; exact hcL
    · exact S.tl b z
  · rw [List.map_cons, List.nodup_cons, List.nodup_cons]
    refine ⟨fun z => ?_, fun z => hn (List.mem_cons_of_mem _ z), nd.2⟩
    rcases List.mem_cons.mp z with z | z
    · exact e2 z.symm
    · exact nd.1 z
end
/-- a search's objects while another's is written -/
theorem Sr.off {C : Addr} {M1 H1 M H H' : Hp} {a : SA} {ord : List Nat} {num low : Nat → Nat} {o : List Nat} {parts : List (List Nat)} {p : Addr} {u : HO} (R : Sr C M1 H1 M H a ord num low o parts) (w : Wr H p u H') (h : p ∉ a.L ∧ H1 p = none ∧ M p = none) : Sr C M1 H1 M H' a ord num low o parts :=
  R.past fun b o hb e => by
    refine w.keep (fun z => ?_) e
    rw [z] at hb
    rcases hb with y | y | y
    · exact h.1 y
    · exact y h.2.1
    · exact y h.2.2
/-- the reading of a graph -/
theorem GraphAt.get {K : PySem.W.Frag} {M H : Hp} {x : Addr} {n : Nat} {E : List (Nat × Nat)} (h : GraphAt K M x n E) (s : Same M H) : ∃ (C dx t f : Addr) (fs : List (PySem.Str × V)) (ts qs : List V), H x = some (.ins C dx fs) ∧ Cls K C ∧ NoAttr K C "own_places" ∧ NoAttr K C "own_ties" ∧ NoAttr K C "own_from" ∧
    List.lookup ("own_places" : PySem.Str) fs = some (vn n) ∧ List.lookup ("own_ties" : PySem.Str) fs = some (V.ref t) ∧ List.lookup ("own_from" : PySem.Str) fs = some (V.ref f) ∧ (H t = some (.tup ts) ∨ H t = some (.lst ts)) ∧
    (∀ e, e < E.length → ∃ a, ts[e]? = some (.ref a) ∧ H a = some (.tup [vn (Tj.src E e), vn (Tj.tgt E e)])) ∧ H f = some (.lst qs) ∧ qs.length = n ∧ ∀ v, v < n → ∃ q, qs[v]? = some (.ref q) ∧ H q = some (.lst (vns (Tj.adj E v))) := by
  obtain ⟨C, dx, t, f, fs, ts, h1, h2, h3, h4, h5, h6, h7, h8, h9, h10, h11⟩ := h.ex
  obtain ⟨qs, g6, g7, g8⟩ := adj_at h11
  refine ⟨C, dx, t, f, fs, ts, qs, s _ _ h1, h2, h3, h4, h5, h6, h7, h8, h9.imp (s _ _) (s _ _), fun e he => ?_, s _ _ g6, g7, fun v hv => ?_⟩
  · have hd : (E.map eP)[e]? = some (eP E[e]) := by rw [List.getElem?_map, List.getElem?_eq_getElem he]; rfl
    obtain ⟨y, hy, ry⟩ := h10.at hd
    obtain ⟨b, rfl, hb⟩ := ry.p_inv
    refine ⟨b, hy, ?_⟩
    have hg : E.getD e (0, 0) = E[e] := by rw [List.getD_eq_getElem?_getD, List.getElem?_eq_getElem he]; rfl
    unfold Tj.src Tj.tgt
    rw [hg]
    exact s _ _ hb
  · obtain ⟨q, hq1, hq2⟩ := g8 v hv
    exact ⟨q, hq1, s _ _ hq2⟩
section
variable {c : TT} {tb : TS} {D : Ends} {σ : L2.St} {H : Hp}
/-- while, the measure in the word -/
theorem while_m (Pv : Nat → L2.St → Hp → Prop) (m0 : Nat) (h0 : Pv m0 σ H)
    (hs : ∀ m σ H, Pv m σ H → ∀ Q : Bool → Hp → Prop, (∀ H1, tb { D with nx := fun σ' H' => ∃ m', m' < m ∧ Pv m' σ' H', ct := fun σ' H' => ∃ m', m' < m ∧ Pv m' σ' H', bk := D.nx } σ H1 → Q true H1) → (∀ H1, D.nx σ H1 → Q false H1) → c σ H Q) : tWhile c tb D σ H := by
  refine ⟨fun m σ H => Pv m σ H, ⟨_, h0⟩, ?_⟩
  intro m σ H p
  refine hs m σ H p _ (fun H1 q => ?_) (fun H1 q => q)
  exact ⟨_, fun σ' H' p' => p', q⟩
end
end K31
namespace K31
open PySem L2 Tj
theorem dget_g {H : Hp} {a : Addr} {kvs : List (Key × V)} (v : Nat) (e : H a = some (.dK kvs)) : DGet H a (vn v) (valV kvs (kn v)) := dget_v (k := kn v) e
theorem uIx_any {p : Addr} {xs : List V} {i : Nat} {v : V} {H : Hp} {Q : VK} (h : H p = some (.tup xs) ∨ H p = some (.lst xs)) (hx : xs[i]? = some v) (q : Q v H) : uIxL (.ref p) (vn i) H Q ∨ uIxT (.ref p) (vn i) H Q :=
  h.symm.imp (fun e => ⟨p, xs, i, v, rfl, rfl, e, hx, q⟩) (fun e => ⟨p, xs, i, v, rfl, rfl, e, hx, q⟩)
theorem Sr.fresh {C : Addr} {M1 H1 M H : Hp} {a : SA} {ord : List Nat} {num low : Nat → Nat} {o : List Nat} {parts : List (List Nat)} {p : Addr} (R : Sr C M1 H1 M H a ord num low o parts) (h : H p = none) : p ∉ a.L ∧ H1 p = none ∧ M p = none := by
  refine ⟨fun z => ?_, R.e.hh.free h, R.e.mh.free h⟩
  obtain ⟨ps, hp, _⟩ := R.p_
  simp only [SA.L, List.mem_cons, List.not_mem_nil, or_false] at z
  rcases z with z | z | z | z | z
  · rw [z, R.s_] at h; cases h
  · rw [z, R.m_] at h; cases h
  · rw [z, R.l_] at h; cases h
  · rw [z, R.o_] at h; cases h
  · rw [z, hp] at h; cases h
theorem frs_cons (f : Tj.Fr) (r : List Tj.Fr) : Tj.frs (f :: r) = f.left.length + 1 + Tj.frs r := by unfold Tj.frs; rw [List.map_cons, List.sum_cons]
/-- while a search goes on -/
def GoInv (C : Addr) (M1 H1 : Hp) (s x st : Addr) (n : Nat) (E : List (Nat × Nat)) (S0 : List Nat) (m : Nat) (H : Hp) : Prop :=
  ∃ (M : Hp) (a : SA) (S : Tj.St) (cs : List (Addr × Addr)), a.s = s ∧ a.x = x ∧ Sr C M1 H1 M H a S.ord S.num S.low (opn S.fr) S.parts ∧ Stk H1 M H a.L st cs S.fr ∧ Tj.Inv n E S ∧ (∀ v ∈ S0, v ∈ S.ord) ∧ m = cost n E S
section
variable {P : Program} {w : World} {K : PySem.W.Frag} {mg : PySem.Str → Option Value} {base : Heap}

def sp_go_from (K : PySem.W.Frag) (C : Addr) : Sp := fun vs H Q _ => ∃ (M1 H1 M : Hp) (a : SA) (s x : Addr) (n : Nat) (E : List (Nat × Nat)) (S : Tj.St) (b : Nat), vs = [.ref s, vn b] ∧ a.s = s ∧ a.x = x ∧ Sr C M1 H1 M H a S.ord S.num S.low (opn S.fr) S.parts ∧ GraphAt K M1 x n E ∧
  Tj.Inv n E S ∧ S.fr = [] ∧ b ∉ S.ord ∧ b < n ∧ n ≤ 100 ∧ (∀ e, e < E.length → tgt E e < n) ∧
  ∀ M' H' a' S', a'.s = s → a'.x = x → Sr C M1 H1 M' H' a' S'.ord S'.num S'.low (opn S'.fr) S'.parts → Tj.Inv n E S' → S'.fr = [] → (∀ v ∈ S.ord, v ∈ S'.ord) → b ∈ S'.ord → Q .non H'
theorem ok_Search_go_from (T : Tx K mg) : FnOk P w K mg base CX0 2 T.Search_go_from.f T.Search_go_from.fd ["self", "begin"] (sp_go_from K T.Search) := by
  refine T.Search_go_from.F.ok sc_Search_go_from (fun vs H Q E h => ?_) (fun cdv A outer s' H vs Q E' hr h => ?_)
  · obtain ⟨M1, H1, M, a, s, x, n, E, S, b, rfl, _⟩ := h
    rfl
  · obtain ⟨M1, H1, M, a, s, x, n, E, S, b, rfl, es, ex, R, hg, I, h0, hb, hbn, hn, hE, q⟩ := h
    obtain ⟨C', dxg, t, fg, fsg, ts, qs, g1, g2, g3, g4, g5, g6, g7, g8, g9, g10, g11, g12, g13⟩ := hg.get (Same.refl M1)
    obtain ⟨z1, z2, z3, z4⟩ := small_inv I
    refine ⟨_, (pss_cons (ps_expr (pe_meth (pv 0) T.clSearch T.Search_meet.m (ok_Search_meet T) (hr.mono (by decide)) T.Search_meet.b .nil pass0 (pa_cons (pv 1) pa_nil)))
    (pss_cons (ps_set (i := 2) sc_Search_go_from.nd rfl (Or.inl rfl) (pe_lstU (pa_cons (pe_tupU (pa_cons (pv 1) (pa_cons (pe_callTy call_list_ofU (by rfl) T.n_list (by decide +kernel) (pa_cons (pe_ix ix_listU (pe_fldK (K := K) rfl (pe_fldK (K := K) rfl (pv 0) rfl) rfl) (pv 1) (fun _ _ => rfl)) pa_nil)) pa_nil))) pa_nil)))
    (pss_one (ps_while PassesOwn.never (pt_cmpR (op_neU hr.units) (pv 2) (pe_lstU pa_nil) (nomark _))
      (pss_cons (ps_asg (pe_ix ix_lastU (pv 2) (pe_un un_neg pe_int) (fun _ _ => rfl)) (pg_tupU (n := 2) (by rfl) (pgs_cons (pg_name (i := 3) sc_Search_go_from.nd rfl (Or.inl rfl)) (pgs_cons (pg_name (i := 4) sc_Search_go_from.nd rfl (Or.inl rfl)) pgs_nil))))
    (pss_cons (ps_if (pt_cmpR (op_eqU hr.units) (pv 4) (pe_lstU pa_nil) (nomark _)) (pss_cons (ps_expr (pe_bm0 PySem.F.plainAttrs_list PySem.F.slot_list_pop PySem.F.type_list_pop mt_popU (pv 2)))
    (pss_cons (ps_expr (pe_meth (pv 0) T.clSearch T.Search_close_part.m (ok_Search_close_part T) (hr.mono (by decide)) T.Search_close_part.b .nil pass0 (pa_cons (pv 3) pa_nil)))
    (pss_cons (ps_if (pt_cmpR (op_neU hr.units) (pv 2) (pe_lstU pa_nil) (nomark _)) (pss_cons (ps_set (i := 5) sc_Search_go_from.nd rfl (Or.inl rfl) (pe_ix ix_tupU (pe_ix ix_lastU (pv 2) (pe_un un_neg pe_int) (fun _ _ => rfl)) pe_int (fun _ _ => rfl)))
    (pss_one (ps_dputK (hu_of hr) (pe_fldK (K := K) rfl (pv 0) rfl) (pv 5) (pe_callB (call_min2N rfl) (by rfl) T.n_min (by decide +kernel) (pa_cons (pe_dget (hu_of hr) (pe_fldK (K := K) rfl (pv 0) rfl) (pv 5) (fun _ _ => rfl)) (pa_cons (pe_dget (hu_of hr) (pe_fldK (K := K) rfl (pv 0) rfl) (pv 3) (fun _ _ => rfl)) pa_nil))) rfl))) pss_nil)
    (pss_one ps_continue)))) pss_nil)
    (pss_cons (ps_set (i := 6) sc_Search_go_from.nd rfl (Or.inl rfl) (pe_ix ix_tupU (pe_ix ix_seqU (pe_fldK (K := K) rfl (pe_fldK (K := K) rfl (pv 0) rfl) rfl) (pe_bm0 PySem.F.plainAttrs_list PySem.F.slot_list_pop PySem.F.type_list_pop mt_popU (pv 4)) (fun _ _ => rfl)) pe_int (fun _ _ => rfl)))
    (pss_one (ps_if (pt_cmp (pc_dnotin (hu_of hr) (pv 6) (pe_fldK (K := K) rfl (pv 0) rfl)) rfl) (pss_cons (ps_expr (pe_meth (pv 0) T.clSearch T.Search_meet.m (ok_Search_meet T) (hr.mono (by decide)) T.Search_meet.b .nil pass0 (pa_cons (pv 6) pa_nil)))
    (pss_one (ps_expr (pe_bm PySem.F.plainAttrs_list PySem.F.slot_list_append PySem.F.type_list_append mt_appendU (pv 2) (pa_cons (pe_tupU (pa_cons (pv 6) (pa_cons (pe_callTy call_list_ofU (by rfl) T.n_list (by decide +kernel) (pa_cons (pe_ix ix_listU (pe_fldK (K := K) rfl (pe_fldK (K := K) rfl (pv 0) rfl) rfl) (pv 6) (fun _ _ => rfl)) pa_nil)) pa_nil))) pa_nil))))) (pss_one (ps_if (pt_cmpR op_inU (pv 6) (pe_fldK (K := K) rfl (pv 0) rfl) (by rfl)) (pss_one (ps_dputK (hu_of hr) (pe_fldK (K := K) rfl (pv 0) rfl) (pv 3) (pe_callB (call_min2N rfl) (by rfl) T.n_min (by decide +kernel) (pa_cons (pe_dget (hu_of hr) (pe_fldK (K := K) rfl (pv 0) rfl) (pv 3) (fun _ _ => rfl)) (pa_cons (pe_dget (hu_of hr) (pe_fldK (K := K) rfl (pv 0) rfl) (pv 6) (fun _ _ => rfl)) pa_nil))) rfl)) pss_nil))))))))))), ?_⟩
    refine ⟨.ref s, rfl, s, a.dx, a.fs, rfl, by rw [← es]; exact R.s_, rfl, vn b, rfl, M1, H1, M, a, b, S.ord, S.num, S.low, opn S.fr, S.parts, by rw [es]; rfl, R, hb, by omega, by omega, fun H2 fr2 R2 => ?_⟩
    have sm2 : Same M1 H2 := R2.e.mh0
    obtain ⟨q2, hq2, hqq2⟩ := g13 b hbn
    have s2 : H2 s = some (.ins T.Search a.dx a.fs) := by rw [← es]; exact R2.s_
    refine ⟨vn b, rfl, .ref s, rfl, s, T.Search, a.dx, _, .ref a.x, rfl, s2, T.clSearch, T.noSearch_own_web, rfl, a.x, C', dxg, fsg, .ref fg, rfl, by rw [ex]; exact sm2 _ _ g1, g2, g5, g8, vn b, rfl, fg, qs, b, .ref q2, rfl, rfl, sm2 _ _ g11, hq2, q2, _, rfl, .inl (sm2 _ _ hqq2), fun la H3 n3 => ⟨by show 2 ≤ sizeLine; decide, fun ca H4 n4 => ⟨by show 1 ≤ sizeLine; decide, fun st H5 n5 => ?_⟩⟩⟩
    have R3 := R2.same n3.same
    have R4 := R3.same n4.same
    have R5 := R4.same n5.same
    have st0 : Stk H1 M H5 a.L st [(ca, la)] [⟨b, adj E b, [b]⟩] := by
      refine ⟨n5.at, .cons (n5.same _ _ n4.at) (n5.same _ _ (n4.same _ _ n3.at)) .nil, fun y hy => ?_, fun y hy => ?_, ?_⟩
      · simp only [List.map_cons, List.map_nil, List.mem_cons, List.not_mem_nil, or_false] at hy
        rcases hy with rfl | rfl
        · exact R4.fresh n5.free
        · exact R2.fresh n3.free
      · simp only [List.map_cons, List.map_nil, List.mem_cons, List.not_mem_nil, or_false] at hy
        subst hy
        exact (R3.fresh n4.free).1
      · have : la ≠ st := n5.ne (n4.same _ _ n3.at)
        simp [this.symm]
    rw [h0] at R5
    refine while_m (fun m σ H => (∃ v3 v4 v5 v6, σ = [some (.ref s), some (vn b), some (.ref st), v3, v4, v5, v6]) ∧ GoInv T.Search M1 H1 s x st n E (S.ord ++ [b]) m H) (cost n E (pushed E S [] b))
      ⟨⟨none, none, none, none, rfl⟩, M, a, pushed E S [] b, [(ca, la)], es, ex, R5, st0, I.start h0 hb hbn, fun v hv => hv, rfl⟩ (fun m σ H6 h Q yes no => ?_)
    clear st0 R5 R4 R3 R2 s2 sm2 n3 n4 n5
    obtain ⟨⟨v3, v4, v5, v6, rfl⟩, M2, a2, S2, cs, ea, ex2, R, ST, I2, hS, rfl⟩ := h
    subst ea ex2
    obtain ⟨z1, z2, z3, z4⟩ := small_inv I2
    refine ⟨.ref st, rfl, Nat.zero_le _, fun p H7 n7 => ?_⟩
    refine ⟨.list ((S2.fr.map eFr).reverse), .list [], .lst (n7.same _ _ ST.st_) ((ST.all.rp.rev).s n7.same), .lst n7.at .nil, by rw [← List.map_reverse]; exact (Sh.lst sh_fr _).ok, sh_nil.ok, !S2.fr.isEmpty, by rw [← List.map_reverse, eqv_nil, List.isEmpty_reverse], ?_⟩
    have R7 := R.same n7.same
    have ST7 := ST.same n7.same
    cases hfr : S2.fr with
    | nil => exact no H7 (q M2 H7 a2 S2 rfl rfl R7 I2 hfr (fun v hv => hS v (List.mem_append_left _ hv)) (hS b (by simp)))
    | cons f r =>
      refine yes H7 ?_
      obtain ⟨v, lf, sg⟩ := f
      have hf : (⟨v, lf, sg⟩ : Tj.Fr) ∈ S2.fr := by rw [hfr]; exact List.mem_cons_self
      have hv := I2.vord hf
      have hv : v ∈ S2.ord := hv
      rw [hfr] at ST7
      obtain ⟨c, cr, rfl⟩ : ∃ c cr, cs = c :: cr := by
        cases cs with
        | nil => cases ST7.all
        | cons c cr => exact ⟨c, cr, rfl⟩
      have hc1 : H7 c.1 = some (.tup [vn v, .ref c.2]) := by cases ST7.all with | cons h1 h2 h3 => exact h1
      have hc2 : H7 c.2 = some (.lst (vns lf)) := by cases ST7.all with | cons h1 h2 h3 => exact h2
      have hst : ∀ {H}, Stk H1 M2 H a2.L st (c :: cr) (⟨v, lf, sg⟩ :: r) → H st = some (.lst ((cr.map fun c => V.ref c.1).reverse ++ [.ref c.1])) := fun h => by
        have := h.st_
        rw [List.map_cons, List.reverse_cons] at this
        exact this
      refine ⟨.ref st, rfl, 1, rfl, st, _, .ref c.1, rfl, rfl, hst ST7, c.1, _, rfl, hc1, rfl, _, _, rfl, _, _, rfl, rfl, ?_⟩
      refine ⟨.ref c.2, rfl, Nat.zero_le _, fun p2 H8 n8 => ?_⟩
      refine ⟨eNs lf, .list [], (Rp.of_ns hc2).s n8.same, .lst n8.at .nil, (sh_ns _).ok, sh_nil.ok, lf.isEmpty, by rw [eqv_nil], ?_⟩
      have R8 := R7.same n8.same
      have ST8 := ST7.same n8.same
      have hc2' := n8.same _ _ hc2
      have ho : opn S2.fr = opn r ++ sg := by rw [hfr]; rfl
      rcases List.eq_nil_or_concat lf with hl | ⟨l, e0, hl⟩
      · subst hl
        refine iteT ?_
        -- stack.pop(); self.close_part(here)
        refine ⟨.ref st, rfl, .inl ⟨rfl, _, SqL.of (hst ST8)⟩, st, (cr.map fun c => V.ref c.1).reverse, .ref c.1, rfl, rfl, hst ST8, fun H9 w9 => ?_⟩
        have R9 := R8.off w9 (ST8.own st (by simp))
        have ST9 := ST8.pop w9
        obtain ⟨r', er⟩ := (I2.frs _ hf).head
        have er : sg = v :: r' := er
        have nd := I2.opnd
        rw [ho] at R9 nd
        have hvo : v ∉ opn r := fun z => (List.nodup_append.mp nd).2.2 v z v (by rw [er]; simp) rfl
        refine ⟨.ref a2.s, rfl, a2.s, a2.dx, a2.fs, rfl, R9.s_, rfl, vn v, rfl, M1, H1, M2, a2, v, S2.ord, S2.num, S2.low, opn r, sg, r', S2.parts, rfl, R9, hv, er, hvo, by omega, fun H10 res => ?_⟩
        obtain ⟨M', ⟨s3, dx3, x3, dm3, dl3, op3, pt3⟩, o', parts', fr10, nw10, e_s, e_x, e_L, R10, alt⟩ := res
        have e_s : s3 = a2.s := e_s
        have e_x : x3 = a2.x := e_x
        subst e_s e_x
        have ST10 := ST9.frame fr10 nw10 e_L
        refine ⟨.ref st, rfl, Nat.zero_le _, fun p3 H11 n11 => ?_⟩
        refine ⟨.list ((r.map eFr).reverse), .list [], .lst (n11.same _ _ ST10.st_) ((ST10.all.rp.rev).s n11.same), .lst n11.at .nil, by rw [← List.map_reverse]; exact (Sh.lst sh_fr _).ok, sh_nil.ok, !r.isEmpty, by rw [← List.map_reverse, eqv_nil, List.isEmpty_reverse], ?_⟩
        have R11 := R10.same n11.same
        have ST11 := ST10.same n11.same
        have hpw : (srt sg).Pairwise (· < ·) := srt_lt (List.nodup_append.mp nd).2.1
        cases r with
        | nil =>
          refine iteF ?_
          rcases alt with ⟨hne, rfl, rfl⟩ | ⟨heq, rfl, rfl⟩
          · obtain ⟨g, r0, e, _⟩ := I2.merge hfr hne
            cases e
          · refine ⟨cost n E { S2 with fr := [], parts := S2.parts ++ [srt sg] }, ?_, ⟨_, _, _, _, rfl⟩, M', SA.mk a2.s dx3 a2.x dm3 dl3 op3 pt3, { S2 with fr := [], parts := S2.parts ++ [srt sg] }, cr, rfl, rfl, R11, ST11, I2.close hfr heq hpw (fun x => srt_mem), hS, rfl⟩
            unfold cost
            rw [hfr, frs_cons]
            show rest n E S2.ord + Tj.frs [] < _
            omega
        | cons g r2 =>
          refine iteT ?_
          obtain ⟨d, dr, rfl⟩ : ∃ d dr, cr = d :: dr := by
            cases cr with
            | nil => cases ST11.all
            | cons c cr => exact ⟨c, cr, rfl⟩
          have hd1 : H11 d.1 = some (.tup [vn g.v, .ref d.2]) := by cases ST11.all with | cons h1 h2 h3 => exact h1
          have hst11 : H11 st = some (.lst ((dr.map fun c => V.ref c.1).reverse ++ [.ref d.1])) := by
            have := ST11.st_
            rw [List.map_cons, List.reverse_cons] at this
            exact this
          have hgm : g ∈ S2.fr := by rw [hfr]; simp
          have hgv : g.v ∈ S2.ord := I2.vord hgm
          refine ⟨.ref st, rfl, 1, rfl, st, _, .ref d.1, rfl, rfl, hst11, d.1, _, 0, vn g.v, rfl, rfl, hd1, rfl, ?_⟩
          refine ⟨.ref (SA.mk a2.s dx3 a2.x dm3 dl3 op3 pt3).s, rfl, (SA.mk a2.s dx3 a2.x dm3 dl3 op3 pt3).s, T.Search, (SA.mk a2.s dx3 a2.x dm3 dl3 op3 pt3).dx, _, .ref (SA.mk a2.s dx3 a2.x dm3 dl3 op3 pt3).dl, rfl, R11.s_, T.clSearch, T.noSearch_own_low, rfl, vn g.v, rfl, dl3, vn (S2.low g.v), rfl, dget_n R11.l_ (kv_at hgv), .ref (SA.mk a2.s dx3 a2.x dm3 dl3 op3 pt3).s, rfl, (SA.mk a2.s dx3 a2.x dm3 dl3 op3 pt3).s, T.Search, (SA.mk a2.s dx3 a2.x dm3 dl3 op3 pt3).dx, _, .ref (SA.mk a2.s dx3 a2.x dm3 dl3 op3 pt3).dl, rfl, R11.s_, T.clSearch, T.noSearch_own_low, rfl, vn v, rfl, dl3, vn (S2.low v), rfl, dget_n R11.l_ (kv_at hv), S2.low g.v, S2.low v, rfl,
            .ref (SA.mk a2.s dx3 a2.x dm3 dl3 op3 pt3).s, rfl, (SA.mk a2.s dx3 a2.x dm3 dl3 op3 pt3).s, T.Search, (SA.mk a2.s dx3 a2.x dm3 dl3 op3 pt3).dx, _, .ref (SA.mk a2.s dx3 a2.x dm3 dl3 op3 pt3).dl, rfl, R11.s_, T.clSearch, T.noSearch_own_low, rfl, vn g.v, rfl, dl3, _, kn g.v, rfl, R11.l_, rfl, small400 (by rw [kv_len]; omega), fun H12 w12 => ?_⟩
          rw [kv_old hgv] at w12
          have R12 := R11.wl w12
          have ST12 : Stk H1 M' H12 (SA.mk a2.s dx3 a2.x dm3 dl3 op3 pt3).L st (d :: dr) (g :: r2) := ST11.frame (Fr.wr w12 (by simp [SA.L])) (fun b u h => .inl h) (fun b h => .inl h)
          rcases alt with ⟨hne, rfl, rfl⟩ | ⟨heq, rfl, rfl⟩
          · obtain ⟨g0, r0, e, I3⟩ := I2.merge hfr hne
            cases e
            refine ⟨cost n E { S2 with low := up S2.low g.v (min (S2.low g.v) (S2.low v)), fr := ⟨g.v, g.left, g.seg ++ sg⟩ :: r2 }, ?_, ⟨_, _, _, _, rfl⟩, M', SA.mk a2.s dx3 a2.x dm3 dl3 op3 pt3, { S2 with low := up S2.low g.v (min (S2.low g.v) (S2.low v)), fr := ⟨g.v, g.left, g.seg ++ sg⟩ :: r2 }, d :: dr, rfl, rfl, ?_, ST12.merge, I3, hS, rfl⟩
            · unfold cost
              rw [hfr, frs_cons, frs_cons, frs_cons]
              show rest n E S2.ord + (g.left.length + 1 + Tj.frs r2) < _
              omega
            · have : opn (⟨g.v, g.left, g.seg ++ sg⟩ :: r2) = opn (g :: r2) ++ sg := by
                show opn r2 ++ (g.seg ++ sg) = (opn r2 ++ g.seg) ++ sg
                rw [List.append_assoc]
              show Sr _ _ _ _ _ _ _ _ _ (opn (⟨g.v, g.left, g.seg ++ sg⟩ :: r2)) _
              rw [this]
              exact R12
          · have lo : min (S2.low g.v) (S2.low v) = S2.low g.v := by
              have h1 := (I2.frs g hgm).lowle
              have h2 : S2.num g.v < S2.num v := I2.below hfr (mem_opn.mpr ⟨g, List.mem_cons_self, (I2.frs g hgm).vin⟩) (by show v ∈ sg; rw [er]; simp)
              rw [heq]
              omega
            rw [lo, up_self] at R12
            refine ⟨cost n E { S2 with fr := g :: r2, parts := S2.parts ++ [srt sg] }, ?_, ⟨_, _, _, _, rfl⟩, M', SA.mk a2.s dx3 a2.x dm3 dl3 op3 pt3, { S2 with fr := g :: r2, parts := S2.parts ++ [srt sg] }, d :: dr, rfl, rfl, R12, ST12, I2.close hfr heq hpw (fun x => srt_mem), hS, rfl⟩
            unfold cost
            rw [hfr, frs_cons ⟨v, [], sg⟩]
            show rest n E S2.ord + Tj.frs (g :: r2) < rest n E S2.ord + (0 + 1 + Tj.frs (g :: r2))
            omega
      · rw [List.concat_eq_append] at hl
        subst hl
        rw [show (l ++ [e0]).isEmpty = false by simp]
        refine iteF ?_
        have he0 := (I2.frs _ hf).left e0 (by simp)
        obtain ⟨pa, hpa, hpp⟩ := g10 e0 he0.1
        have hbn2 := hE e0 he0.1
        have hc28 : H8 c.2 = some (.lst (vns l ++ [vn e0])) := by rw [hc2', vns_app]
        have sm8 : Same M1 H8 := R8.e.mh0
        have own2 := ST8.own c.2 (by simp)
        have kp : ∀ {H9}, Wr H8 c.2 (.lst (vns l)) H9 → Same M1 H9 := fun w9 => (R8.off w9 own2).e.mh0
        refine ⟨.ref a2.s, rfl, a2.s, T.Search, a2.dx, _, .ref a2.x, rfl, R8.s_, T.clSearch, T.noSearch_own_web, rfl, a2.x, C', dxg, fsg, .ref t, rfl, sm8 _ _ g1, g2, g4, g7, .ref c.2, rfl, .inl ⟨rfl, _, SqL.of hc28⟩, c.2, vns l, vn e0, rfl, rfl, hc28, fun H9 w9 => uIx_any (p := t) (xs := ts) (g9.imp (kp w9 _ _) (kp w9 _ _)) hpa ⟨pa, _, 1, vn (tgt E e0), rfl, rfl, kp w9 _ _ hpp, rfl, ?_⟩⟩
        have R9 := R8.off w9 own2
        have ST9 := ST8.left w9
        refine ⟨vn (tgt E e0), rfl, .ref a2.s, rfl, a2.s, T.Search, a2.dx, _, .ref a2.dm, rfl, R9.s_, T.clSearch, T.noSearch_own_met, rfl, a2.dm, _, rfl, dget_g (tgt E e0) R9.m_, !decide (tgt E e0 ∈ S2.ord), by rw [kv_get]; by_cases z : tgt E e0 ∈ S2.ord <;> simp [z], ?_⟩
        by_cases hb2 : tgt E e0 ∈ S2.ord
        · rw [decide_eq_true hb2]
          refine iteF ?_
          refine ⟨vn (tgt E e0), rfl, .ref a2.s, rfl, a2.s, T.Search, a2.dx, _, .ref a2.op, rfl, R9.s_, T.clSearch, T.noSearch_own_open, rfl, tgt E e0, a2.op, _, rfl, rfl, R9.o_, decide (tgt E e0 ∈ opn S2.fr), rfl, ?_⟩
          have ho9 : opn S2.fr = opn (⟨v, l, sg⟩ :: r) := ho
          by_cases hbo : tgt E e0 ∈ opn S2.fr
          · rw [decide_eq_true hbo]
            refine iteT ?_
            refine ⟨.ref a2.s, rfl, a2.s, T.Search, a2.dx, _, .ref a2.dl, rfl, R9.s_, T.clSearch, T.noSearch_own_low, rfl, vn v, rfl, a2.dl, vn (S2.low v), rfl, dget_n R9.l_ (kv_at hv), .ref a2.s, rfl, a2.s, T.Search, a2.dx, _, .ref a2.dm, rfl, R9.s_, T.clSearch, T.noSearch_own_met, rfl, vn (tgt E e0), rfl, a2.dm, vn (S2.num (tgt E e0)), rfl, dget_n R9.m_ (kv_at hb2), S2.low v, S2.num (tgt E e0), rfl, .ref a2.s, rfl, a2.s, T.Search, a2.dx, _, .ref a2.dl, rfl, R9.s_, T.clSearch, T.noSearch_own_low, rfl, vn v, rfl, a2.dl, _, kn v, rfl, R9.l_, rfl, small400 (by rw [kv_len]; omega), fun H10 w10 => ?_⟩
            rw [kv_old hv] at w10
            have R10 := R9.wl w10
            rw [ho9] at R10
            refine ⟨cost n E { S2 with low := up S2.low v (min (S2.low v) (S2.num (tgt E e0))), fr := ⟨v, l, sg⟩ :: r }, ?_, ⟨_, _, _, _, rfl⟩, M2, a2, _, c :: cr, rfl, rfl, R10, ST9.frame (Fr.wr w10 (by simp [SA.L])) (fun b u h => .inl h) (fun b h => .inl h), I2.back hfr hbo, hS, rfl⟩
            unfold cost
            rw [hfr, frs_cons, frs_cons]
            show rest n E S2.ord + (l.length + 1 + Tj.frs r) < rest n E S2.ord + ((l ++ [e0]).length + 1 + Tj.frs r)
            rw [List.length_append, List.length_singleton]
            omega
          · rw [decide_eq_false hbo]
            refine iteF ?_
            rw [ho9] at R9
            refine ⟨cost n E { S2 with fr := ⟨v, l, sg⟩ :: r }, ?_, ⟨_, _, _, _, rfl⟩, M2, a2, _, c :: cr, rfl, rfl, R9, ST9, I2.old hfr hb2 hbo, hS, rfl⟩
            unfold cost
            rw [hfr, frs_cons, frs_cons]
            show rest n E S2.ord + (l.length + 1 + Tj.frs r) < rest n E S2.ord + ((l ++ [e0]).length + 1 + Tj.frs r)
            rw [List.length_append, List.length_singleton]
            omega
        · rw [decide_eq_false hb2]
          refine iteT ?_
          refine ⟨.ref a2.s, rfl, a2.s, a2.dx, a2.fs, rfl, R9.s_, rfl, vn (tgt E e0), rfl, M1, H1, M2, a2, tgt E e0, S2.ord, S2.num, S2.low, opn S2.fr, S2.parts, rfl, R9, hb2, by omega, by omega, fun H10 fr10 R10 => ?_⟩
          have ST10 : Stk H1 M2 H10 a2.L st (c :: cr) (⟨v, l, sg⟩ :: r) := ST9.frame fr10 (fun b u h => .inl h) (fun b h => .inl h)
          have sm10 : Same M1 H10 := R10.e.mh0
          obtain ⟨q3, hq3, hqq3⟩ := g13 (tgt E e0) hbn2
          have hlen : (((c :: cr).map fun c => V.ref c.1).reverse).length ≤ 1000 := by
            rw [List.length_reverse, List.length_map, ST10.all.len, List.length_cons]
            have : S2.fr.length = r.length + 1 := by rw [hfr]; rfl
            omega
          refine ⟨.ref st, rfl, .inl ⟨rfl, _, SqL.of ST10.st_⟩, vn (tgt E e0), rfl, .ref a2.s, rfl, a2.s, T.Search, a2.dx, _, .ref a2.x, rfl, R10.s_, T.clSearch, T.noSearch_own_web, rfl, a2.x, C', dxg, fsg, .ref fg, rfl, sm10 _ _ g1, g2, g5, g8, vn (tgt E e0), rfl, fg, qs, tgt E e0, .ref q3, rfl, rfl, sm10 _ _ g11, hq3, q3, _, rfl, .inl (sm10 _ _ hqq3), fun la H11 n11 => ⟨by show 2 ≤ sizeLine; decide, fun ca H12 n12 => ?_⟩⟩
          have R11 := R10.same n11.same
          have R12 := R11.same n12.same
          have ST11 := ST10.same n11.same
          have ST12 := ST11.same n12.same
          refine ⟨st, _, .ref ca, rfl, rfl, ST12.st_, small400 hlen, fun H13 w13 => ?_⟩
          have R13 := R12.off w13 (ST12.own st (by simp))
          have ST13 := ST12.push (sg := [tgt E e0]) n12.at (n12.same _ _ n11.at) (fun z => by
            obtain ⟨y, hy⟩ := ST10.has _ z
            have := n11.free
            rw [hy] at this
            cases this) (R10.fresh n11.free) (R11.fresh n12.free).1 w13
          rw [ho] at R13
          refine ⟨cost n E (pushed E S2 (⟨v, l, sg⟩ :: r) (tgt E e0)), cost_push hfr hb2 hbn2, ⟨_, _, _, _, rfl⟩, M2, a2, _, (ca, la) :: c :: cr, rfl, rfl, R13, ST13, I2.push hfr hb2 hbn2, fun u hu => List.mem_append_left _ (hS u hu), rfl⟩
end
end K31
namespace K31
open PySem L2 Tj
theorem sccs_lt (n : Nat) (E : List (Nat × Nat)) : (sccs n E).Pairwise fun a b => ((a.map fun n : Nat => (n : Int)) < b.map fun n : Nat => (n : Int)) := by
  unfold sccs
  rw [List.pairwise_map]
  refine List.Pairwise.imp_of_mem (R := (· < ·)) (fun {a b} ha hb hab => ?_) reps_sorted
  obtain ⟨r1, e1⟩ := cls_head ha
  obtain ⟨r2, e2⟩ := cls_head hb
  rw [e1, e2, List.map_cons, List.map_cons]
  exact List.cons_lt_cons_iff.mpr (.inl (by omega))
theorem srt_sccs {n : Nat} {E : List (Nat × Nat)} {S : Tj.St} (I : Tj.Inv n E S) (h0 : S.fr = []) (hall : ∀ v, v < n → v ∈ S.ord) : srtR S.parts = sccs n E := srtR_eq (I.perm h0 hall) (sccs_lt n E)
section
variable {P : Program} {w : World} {K : PySem.W.Frag} {mg : PySem.Str → Option Value} {base : Heap}

def PbInv (C : Addr) (M1 H1 : Hp) (s x : Addr) (n : Nat) (E : List (Nat × Nat)) (i : Nat) (H : Hp) : Prop :=
  ∃ (M : Hp) (a : SA) (S : Tj.St), a.s = s ∧ a.x = x ∧ Sr C M1 H1 M H a S.ord S.num S.low (opn S.fr) S.parts ∧ Tj.Inv n E S ∧ S.fr = [] ∧ ∀ v, v < i → v ∈ S.ord
def sp_parts (K : PySem.W.Frag) : Sp := fun vs H Q _ => ∃ (M : Hp) (x : Addr) (n : Nat) (E : List (Nat × Nat)), vs = [.ref x] ∧ Same M H ∧ GraphAt K M x n E ∧ n ≤ 100 ∧ (∀ e, e < E.length → tgt E e < n) ∧
  ∀ M' H' v, Ext M H M' H' → Rp M' v (eRows (sccs n E)) → Q v H'
theorem ok_parts_by_search (T : Tx K mg) : FnOk P w K mg base CX0 3 T.parts_by_search.f T.parts_by_search.fd ["web"] (sp_parts K) := by
  refine T.parts_by_search.F.ok sc_parts_by_search (fun vs H Q E h => ?_) (fun cdv A outer s' H vs Q E' hr h => ?_)
  · obtain ⟨M, x, n, E, rfl, _⟩ := h
    rfl
  · obtain ⟨M, x, n, E, rfl, sm, hg, hn, hE, q⟩ := h
    obtain ⟨C', dxg, t, fg, fsg, ts, qs, g1, g2, g3, g4, g5, g6, g7, g8, g9, g10, g11, g12, g13⟩ := hg.get (Same.refl M)
    refine ⟨_, (pss_cons (ps_set (i := 1) sc_parts_by_search.nd rfl (Or.inl rfl) (pe_mk (pe_make T.mkSearch (ok_Search_init T) (hr.mono (by decide)) rfl T.gSearch T.Search_init.b .nil pass0 (PA.cl (pa_cons (pv 0) pa_nil)))))
    (pss_cons (ps_for PassesOwn.never rfl (pi_range1 (by rfl) T.n_range (pa_cons (pe_fldK (K := K) rfl (pv 0) rfl) pa_nil)) (pg_name (i := 2) sc_parts_by_search.nd rfl (Or.inl rfl))
      (pss_one (ps_if (pt_cmp (pc_dnotin (hu_of hr) (pv 2) (pe_fldK (K := K) rfl (pv 1) rfl)) rfl) (pss_one (ps_expr (pe_meth (pv 1) T.clSearch T.Search_go_from.m (ok_Search_go_from T) (hr.mono (by decide)) T.Search_go_from.b .nil pass0 (pa_cons (pv 2) pa_nil)))) pss_nil)))
    (pss_one (ps_ret (pe_callB (cr_sortRow hr.units) (by rfl) T.n_sorted (by decide +kernel) (pa_cons (pe_fldK (K := K) rfl (pv 1) rfl) pa_nil)))))), ?_⟩
    refine ⟨.ref x, rfl, fun s dx H1 f1 f2 ne eH => ?_⟩
    have sH : Same H H1 := by rw [eH]; exact (Same.new f2).trans (.new (by rw [upd_ne ne.symm]; exact f1))
    refine ⟨M, H, s, dx, x, rfl, sm, sH, f1, by rw [eH, upd_same], fun H2 a ea ex R => ⟨rfl, ?_⟩⟩
    refine ⟨.ref x, rfl, x, C', dxg, fsg, vn n, rfl, R.e.mh0 _ _ g1, g2, g3, g6, n, rfl, by omega, by omega, ?_⟩
    refine for_rangeN (n := n) (fun i σ H' => (∃ v2, σ = [some (.ref x), some (.ref s), v2]) ∧ PbInv T.Search M H s x n E i H') ⟨⟨none, rfl⟩, M, a, St.new, ea, ex, R, Inv.new, rfl, fun v hv => by omega⟩ (fun i σ H3 hi h => ?_) (fun σ H3 h => ?_)
    · obtain ⟨⟨v2, rfl⟩, M2, a2, S, ea, ex, R, I, h0, hS⟩ := h
      subst ea ex
      refine ⟨vn i, rfl, .ref a2.s, rfl, a2.s, T.Search, a2.dx, _, .ref a2.dm, rfl, R.s_, T.clSearch, T.noSearch_own_met, rfl, a2.dm, _, rfl, dget_g i R.m_, !decide (i ∈ S.ord), by rw [kv_get]; by_cases z : i ∈ S.ord <;> simp [z], ?_⟩
      by_cases hi2 : i ∈ S.ord
      · rw [decide_eq_true hi2]
        refine iteF ⟨⟨_, rfl⟩, M2, a2, S, rfl, rfl, R, I, h0, fun v hv => ?_⟩
        by_cases e : v = i
        · rw [e]; exact hi2
        · exact hS v (by omega)
      · rw [decide_eq_false hi2]
        refine iteT ?_
        refine ⟨.ref a2.s, rfl, a2.s, a2.dx, a2.fs, rfl, R.s_, rfl, vn i, rfl, M, H, M2, a2, a2.s, a2.x, n, E, S, i, rfl, rfl, rfl, R, hg, I, h0, hi2, hi, hn, hE, fun M3 H4 a3 S3 ea3 ex3 R3 I3 h03 hs3 hi3 => ?_⟩
        refine ⟨⟨_, rfl⟩, M3, a3, S3, ea3, ex3, R3, I3, h03, fun v hv => ?_⟩
        by_cases e : v = i
        · rw [e]; exact hi3
        · exact hs3 v (hS v (by omega))
    · obtain ⟨⟨v2, rfl⟩, M2, a2, S, ea, ex, R, I, h0, hS⟩ := h
      subst ea ex
      obtain ⟨ps, hp, hpr⟩ := R.p_
      refine ⟨.ref a2.s, rfl, a2.s, T.Search, a2.dx, _, .ref a2.pt, rfl, R.s_, T.clSearch, T.noSearch_own_parts, rfl, M2, S.parts, a2.pt, ps, rfl, hp, R.e.mh, hpr, fun ys p H4 hy n4 => ?_⟩
      rw [srt_sccs I h0 hS] at hy
      have e4 : Ext M H (upd M2 p (.lst ys)) H4 := by rw [n4.eq]; exact R.e.trans (.grow R.e.mh n4.free)
      exact q _ _ _ e4 (.lst upd_same (hy.s (.new (R.e.mh.free n4.free))))

/-- a web in one part -/
def sp_close (W : Addr) : Sp := fun vs H Q _ => ∃ (M : Hp) (x : Addr) (n : Nat) (E : List (Nat × Nat)), vs = [.ref x] ∧ Same M H ∧ WebAt W M x n E ∧ n ≤ 100 ∧ (∀ e, e < E.length → tgt E e < n) ∧ 0 < E.length ∧ (sccs n E).length = 1 ∧ ∀ H', Same H H' → Q (.bl true) H'
theorem ok_is_close_web (T : Tx K mg) : FnOk P w K mg base CX0 4 T.is_close_web.f T.is_close_web.fd ["web"] (sp_close T.Web) := by
  refine T.is_close_web.F.ok sc_is_close_web (fun vs H Q E h => ?_) (fun cdv A outer s' H vs Q E' hr h => ?_)
  · obtain ⟨M, x, n, E, rfl, _⟩ := h
    rfl
  · obtain ⟨M, x, n, E, rfl, sm, hw, hn, hE, h0, h1, q⟩ := h
    obtain ⟨dx, t, f, g, ts, qs, w1, w2, w3, w4, w5, w6, w7⟩ := hw.get sm
    refine ⟨_, (pss_one (ps_ret (pe_and (pe_cmpR op_gtN (pe_callB call_lenU (by rfl) T.n_len PySem.boot_len (pa_cons (pe_fldK (K := K) rfl (pv 0) rfl) pa_nil)) pe_int (nomark _)) (pe_one (pe_cmpR op_eqN (pe_callB call_lenU (by rfl) T.n_len PySem.boot_len (pa_cons (pe_call (ok_parts_by_search T) (hr.mono (by decide)) (by rfl) T.parts_by_search.g T.parts_by_search.F.kp T.parts_by_search.b .nil pass0 (pa_cons (pv 0) pa_nil)) pa_nil)) pe_int (nomark _)))))), ?_⟩
    refine ⟨.ref x, rfl, x, T.Web, dx, _, .ref t, rfl, w1, T.clWeb, T.noWeb_own_ties, rfl, t, ts, rfl, .inr w2, ts.length, 0, rfl, rfl, true, congrArg V.bl (decide_eq_true (by omega)), ?_⟩
    refine iteT ?_
    refine ⟨.ref x, rfl, M, x, n, E, rfl, sm, hw.graph T, hn, hE, fun M' H' v e r => ?_⟩
    obtain ⟨a, xs, rfl, ha, hxs⟩ := r.list_inv
    refine ⟨a, xs, rfl, .inl (e.mh _ _ ha), xs.length, 1, rfl, rfl, ?_⟩
    rw [hxs.len, List.length_map, h1]
    exact q _ e.hh
def sp_want_close (W : Addr) : Sp := fun vs H Q _ => ∃ (M : Hp) (x : Addr) (n : Nat) (E : List (Nat × Nat)), vs = [.ref x] ∧ Same M H ∧ WebAt W M x n E ∧ n ≤ 100 ∧ (∀ e, e < E.length → tgt E e < n) ∧ 0 < E.length ∧ (sccs n E).length = 1 ∧ ∀ H', Same H H' → Q .non H'
theorem ok_want_close (T : Tx K mg) : FnOk P w K mg base CX0 5 T.want_close.f T.want_close.fd ["web"] (sp_want_close T.Web) := by
  refine T.want_close.F.ok sc_want_close (fun vs H Q E h => ?_) (fun cdv A outer s' H vs Q E' hr h => ?_)
  · obtain ⟨M, x, n, E, rfl, _⟩ := h
    rfl
  · obtain ⟨M, x, n, E, rfl, sm, hw, hn, hE, h0, h1, q⟩ := h
    refine ⟨_, (pss_one (ps_if (pt_not (pt_val (pe_call (ok_is_close_web T) (hr.mono (by decide)) (by rfl) T.is_close_web.g T.is_close_web.F.kp T.is_close_web.b .nil pass0 (pa_cons (pv 0) pa_nil)))) (pss_one ps_never) pss_nil)), ?_⟩
    refine ⟨.ref x, rfl, M, x, n, E, rfl, sm, hw, hn, hE, h0, h1, fun H2 s2 => ⟨true, rfl, ?_⟩⟩
    exact iteF (q _ s2)
end
end K31
namespace Pd
open Tj Km
/-! Plain Lean: standings and steps. -/
abbrev Sd := Nat × Nat
abbrev Stp := Sd × Sd × Nat
variable {n : Nat} {E : List (Nat × Nat)} {w : List Nat}
def later (E : List (Nat × Nat)) (w : List Nat) (p : Sd) (e : Nat) : Sd := (tgt E e, stepW w p.2 e)
def turn (E : List (Nat × Nat)) (w : List Nat) (p : Sd) (st : List Sd × List Stp) (e : Nat) : List Sd × List Stp :=
  if (later E w p e).2 < w.length then (if later E w p e ∈ st.1 then st.1 else st.1 ++ [later E w p e], st.2 ++ [(p, later E w p e, e)]) else st
def stand (E : List (Nat × Nat)) (w : List Nat) (p : Sd) (st : List Sd × List Stp) : List Sd × List Stp := (adj E p.1).foldl (turn E w p) st
def start (n : Nat) : List Sd := (List.range n).map fun p => (p, 0)
def iter (n : Nat) (E : List (Nat × Nat)) (w : List Nat) : Nat → List Sd × List Stp
  | 0 => (start n, [])
  | k + 1 => stand E w ((iter n E w k).1.getD k (0, 0)) (iter n E w k)
structure Fin (n : Nat) (E : List (Nat × Nat)) (w : List Nat) (N : Nat) : Prop where
  go : ∀ j, j < N → j < (iter n E w j).1.length
  stop : (iter n E w N).1.length ≤ N
theorem Fin.one {N N' : Nat} (a : Fin n E w N) (b : Fin n E w N') : N = N' := by
  rcases Nat.lt_trichotomy N N' with z | z | z
  · have := b.go N z; have := a.stop; omega
  · exact z
  · have := a.go N' z; have := b.stop; omega
/-- what always stands -/
structure Ok (n : Nat) (E : List (Nat × Nat)) (w : List Nat) (st : List Sd × List Stp) : Prop where
  nd : st.1.Nodup
  lt : ∀ q ∈ st.1, q.1 < n ∧ q.2 < w.length
  pre : ∃ g, st.1 = start n ++ g ∧ ∀ q ∈ g, 0 < q.2 ∧ tgt E (w.getD (q.2 - 1) 0) = q.1
  steps : ∀ t ∈ st.2, t.1 ∈ st.1 ∧ t.2.1 ∈ st.1 ∧ t.2.2 < E.length ∧ src E t.2.2 = t.1.1
theorem start_nd (n : Nat) : (start n).Nodup := by
  unfold start
  rw [List.Nodup, List.pairwise_map]
  exact List.nodup_range.imp fun h z => h (Prod.mk.inj z).1
theorem start_len (n : Nat) : (start n).length = n := by unfold start; rw [List.length_map, List.length_range]
theorem mem_start {n : Nat} {q : Sd} : q ∈ start n ↔ q.1 < n ∧ q.2 = 0 := by
  unfold start
  rw [List.mem_map]
  constructor
  · rintro ⟨p, hp, rfl⟩
    exact ⟨List.mem_range.mp hp, rfl⟩
  · rintro ⟨h1, h2⟩
    exact ⟨q.1, List.mem_range.mpr h1, by rw [← h2]⟩
theorem Ok.first (hw : 0 < w.length) : Ok n E w (start n, []) :=
  ⟨start_nd n, fun q hq => by obtain ⟨a, b⟩ := mem_start.mp hq; exact ⟨a, by omega⟩, ⟨[], by simp, fun q h => by cases h⟩, fun t h => by cases h⟩
/-- the ties of a web of n places -/
structure Web (n : Nat) (E : List (Nat × Nat)) : Prop where
  t : ∀ e, e < E.length → tgt E e < n
  s : ∀ e, e < E.length → src E e < n
theorem Ok.turn (hE : Web n E) {p : Sd} {st : List Sd × List Stp} {e : Nat} (o : Ok n E w st) (hp : p ∈ st.1) (he : e ∈ adj E p.1) : Ok n E w (turn E w p st e) := by
  obtain ⟨he1, he2⟩ := mem_adj.mp he
  unfold Pd.turn
  split
  · rename_i hl
    have hlt : (later E w p e).1 < n := hE.t e he1
    have hps := (o.lt p hp).2
    by_cases hm : later E w p e ∈ st.1
    · rw [if_pos hm]
      refine ⟨o.nd, o.lt, o.pre, fun t ht => ?_⟩
      rcases List.mem_append.mp ht with z | z
      · exact o.steps t z
      · rw [List.mem_singleton] at z
        subst z
        exact ⟨hp, hm, he1, he2⟩
    · rw [if_neg hm]
      obtain ⟨g, e1, e2⟩ := o.pre
      have hpos : 0 < (later E w p e).2 := by
        rcases Nat.eq_zero_or_pos (later E w p e).2 with z | z
        · exfalso
          refine hm ?_
          rw [e1]
          exact List.mem_append_left _ (mem_start.mpr ⟨hlt, z⟩)
        · exact z
      refine ⟨?_, fun q hq => ?_, ⟨g ++ [later E w p e], by rw [e1, List.append_assoc], fun q hq => ?_⟩, fun t ht => ?_⟩
      · show (st.1 ++ [later E w p e]).Nodup
        rw [List.nodup_append]
        exact ⟨o.nd, by simp, fun a ha b hb => by rw [List.mem_singleton] at hb; rw [hb]; exact fun z => hm (z ▸ ha)⟩
      · rcases List.mem_append.mp hq with z | z
        · exact o.lt q z
        · rw [List.mem_singleton] at z
          rw [z]
          exact ⟨hlt, hl⟩
      · rcases List.mem_append.mp hq with z | z
        · exact e2 q z
        · rw [List.mem_singleton] at z
          rw [z]
          refine ⟨hpos, ?_⟩
          show tgt E (w.getD (stepW w p.2 e - 1) 0) = tgt E e
          rw [step_last hps hpos]
      · rcases List.mem_append.mp ht with z | z
        · obtain ⟨a, b, c⟩ := o.steps t z
          exact ⟨List.mem_append_left _ a, List.mem_append_left _ b, c⟩
        · rw [List.mem_singleton] at z
          subst z
          exact ⟨List.mem_append_left _ hp, by simp, he1, he2⟩
  · exact o
theorem turn_grow (E : List (Nat × Nat)) (w : List Nat) (p : Sd) (st : List Sd × List Stp) (e : Nat) : ∀ q ∈ st.1, q ∈ (turn E w p st e).1 := by
  intro q hq
  unfold turn
  split
  · show q ∈ if _ then _ else _
    split
    · exact hq
    · exact List.mem_append_left _ hq
  · exact hq
theorem fold_ok (hE : Web n E) {p : Sd} : ∀ (l : List Nat) {st : List Sd × List Stp}, (∀ e ∈ l, e ∈ adj E p.1) → Ok n E w st → p ∈ st.1 → Ok n E w (l.foldl (turn E w p) st) ∧ ∀ q ∈ st.1, q ∈ (l.foldl (turn E w p) st).1
  | [], st, _, o, _ => ⟨o, fun q h => h⟩
  | e :: l, st, h, o, hp => by
    obtain ⟨a, b⟩ := fold_ok hE l (fun e he => h e (List.mem_cons_of_mem _ he)) (o.turn hE hp (h e (by simp))) (turn_grow _ _ _ _ _ p hp)
    exact ⟨a, fun q hq => b q (turn_grow _ _ _ _ _ q hq)⟩
theorem getD_mem {f : List Sd} {k : Nat} (h : k < f.length) : f.getD k (0, 0) ∈ f := by
  rw [List.getD_eq_getElem?_getD, List.getElem?_eq_getElem h]
  exact List.getElem_mem h
theorem iter_ok (hE : Web n E) (hw : 0 < w.length) : ∀ k, (∀ j, j < k → j < (iter n E w j).1.length) → Ok n E w (iter n E w k)
  | 0, _ => .first hw
  | k + 1, h => (fold_ok hE _ (fun e he => he) (iter_ok hE hw k fun j hj => h j (by omega)) (getD_mem (h k (by omega)))).1
theorem Ok.len {st : List Sd × List Stp} (o : Ok n E w st) : st.1.length ≤ n + w.length := by
  obtain ⟨g, e1, e2⟩ := o.pre
  have nd := o.nd
  rw [e1, List.nodup_append] at nd
  have h1 : (g.map (·.2)).Nodup := by
    rw [List.Nodup, List.pairwise_map]
    refine List.Pairwise.imp_of_mem (R := (· ≠ ·)) (fun {a b} ha hb hab z => hab ?_) nd.2.1
    have h1 := (e2 a ha).2
    have h2 := (e2 b hb).2
    rw [z, h2] at h1
    exact Prod.ext h1.symm z
  have h2 := K31.len_le w.length _ h1 fun x hx => by
    obtain ⟨q, hq, rfl⟩ := List.mem_map.mp hx
    exact (o.lt q (by rw [e1]; exact List.mem_append_right _ hq)).2
  rw [List.length_map] at h2
  rw [e1, List.length_append, start_len]
  omega
theorem turn_len (E : List (Nat × Nat)) (w : List Nat) (p : Sd) (st : List Sd × List Stp) (e : Nat) : (turn E w p st e).2.length ≤ st.2.length + 1 := by
  unfold turn
  split
  · show (st.2 ++ [_]).length ≤ _
    rw [List.length_append]
    exact Nat.le_refl _
  · omega
theorem fold_len (p : Sd) : ∀ (l : List Nat) (st : List Sd × List Stp), (l.foldl (turn E w p) st).2.length ≤ st.2.length + l.length
  | [], _ => Nat.le_refl _
  | e :: l, st => by
    have h1 := fold_len p l (turn E w p st e)
    have h2 := turn_len E w p st e
    rw [List.foldl_cons, List.length_cons]
    omega
theorem adj_len (E : List (Nat × Nat)) (v : Nat) : (adj E v).length ≤ E.length := by
  unfold adj adjTo
  exact Nat.le_trans (List.length_filter_le _ _) (by rw [List.length_range]; exact Nat.le_refl _)
theorem iter_len (n : Nat) (E : List (Nat × Nat)) (w : List Nat) : ∀ k, (iter n E w k).2.length ≤ k * E.length
  | 0 => Nat.zero_le _
  | k + 1 => by
    have h1 := fold_len (E := E) (w := w) ((iter n E w k).1.getD k (0, 0)) (adj E ((iter n E w k).1.getD k (0, 0)).1) (iter n E w k)
    have h2 := iter_len n E w k
    have h3 := adj_len E ((iter n E w k).1.getD k (0, 0)).1
    show (stand E w _ _).2.length ≤ _
    unfold stand
    rw [Nat.succ_mul]
    omega
theorem fold_take {α β : Type} (f : α → β → α) (st : α) (l : List β) (i : Nat) (x : β) (h : l[i]? = some x) : (l.take (i + 1)).foldl f st = f ((l.take i).foldl f st) x := by
  rw [List.take_add_one, h, List.foldl_append]
  rfl
/-- only the states of the walk count: the check of the law -/
theorem Ok.states {st : List Sd × List Stp} (o : Ok n E w st) {f : List Sd} (hp : f.Perm st.1) : ((f.filter fun q => decide (0 < q.2)).map (·.2)).Nodup ∧ ((f.filter fun q => decide (0 < q.2)).map (·.2)).length = f.length - n := by
  obtain ⟨g, e1, e2⟩ := o.pre
  have nd := o.nd
  rw [e1, List.nodup_append] at nd
  have h1 : (g.map (·.2)).Nodup := by
    rw [List.Nodup, List.pairwise_map]
    refine List.Pairwise.imp_of_mem (R := (· ≠ ·)) (fun {a b} ha hb hab z => hab ?_) nd.2.1
    have h1 := (e2 a ha).2
    have h2 := (e2 b hb).2
    rw [z, h2] at h1
    exact Prod.ext h1.symm z
  have hf : (st.1.filter fun q => decide (0 < q.2)) = g := by
    rw [e1, List.filter_append, List.filter_eq_nil_iff.mpr fun q hq => by have := (mem_start.mp hq).2; simp [this], List.filter_eq_self.mpr fun q hq => by simpa using (e2 q hq).1]
    rfl
  have hpm := (hp.filter fun q => decide (0 < q.2)).map (·.2)
  rw [hf] at hpm
  refine ⟨hpm.nodup_iff.mpr h1, ?_⟩
  rw [hpm.length_eq, List.length_map, hp.length_eq, e1, List.length_append, start_len]
  omega
end Pd
namespace K31
open PySem PySem.Spec PyProof.Rows L2 Pd
/-! sets of small numbers -/
def dis (l : List Nat) : List Nat := (List.range 64).filter fun e => decide (e ∈ l)
theorem dis_lt (l : List Nat) : (dis l).Pairwise (· < ·) := List.Pairwise.filter _ List.pairwise_lt_range
theorem mem_dis {l : List Nat} (h : ∀ x ∈ l, x < 64) {x : Nat} : x ∈ dis l ↔ x ∈ l := by
  unfold dis
  rw [List.mem_filter, List.mem_range, decide_eq_true_eq]
  exact ⟨fun z => z.2, fun z => ⟨h x z, z⟩⟩
abbrev setS (l : List Nat) : Int → Bool := fun j => decide (j ∈ l.map fun n : Nat => (n : Int))
section
variable {X : Cx}
theorem setR_small {w : World} {h : Heap} {a : Addr} {l : List Nat} {c : Nat} (R : SetR w h a (setS l) c) (hl : ∀ x ∈ l, x < 64) : c < 65 := by
  obtain ⟨o, es, ep, t, _, _, _, _, nd, hS, _, _, hc, _⟩ := R
  have h1 : (es.toList.map keyOf).length = c := by rw [List.length_map, Array.length_toList]; exact hc
  have hm : ∀ k ∈ es.toList.map keyOf, ∃ x : Nat, x < 64 ∧ k = (x : Int) := fun k hk => by
    have := (hS k).mpr hk
    obtain ⟨x, hx, rfl⟩ := List.mem_map.mp (of_decide_eq_true this)
    exact ⟨x, hl x hx, rfl⟩
  have h2 : ((es.toList.map keyOf).map Int.toNat).Nodup := by
    rw [List.Nodup, List.pairwise_map]
    refine List.Pairwise.imp_of_mem (R := (· ≠ ·)) (fun {a b} ha hb hab z => hab ?_) nd
    obtain ⟨x, _, rfl⟩ := hm a ha
    obtain ⟨y, _, rfl⟩ := hm b hb
    rw [Int.toNat_natCast, Int.toNat_natCast] at z
    rw [z]
  have h3 := len_le 64 _ h2 fun x hx => by
    obtain ⟨k, hk, rfl⟩ := List.mem_map.mp hx
    obtain ⟨y, hy, rfl⟩ := hm k hk
    rw [Int.toNat_natCast]
    exact hy
  rw [List.length_map] at h3
  omega
theorem setR_small' {w : World} {h : Heap} {a : Addr} {l : List Nat} {c m : Nat} (R : SetR w h a (setS l) c) (hl : ∀ x ∈ l, x < m) : c ≤ m := by
  obtain ⟨o, es, ep, t, _, _, _, _, nd, hS, _, _, hc, _⟩ := R
  have h1 : (es.toList.map keyOf).length = c := by rw [List.length_map, Array.length_toList]; exact hc
  have hm : ∀ k ∈ es.toList.map keyOf, ∃ x : Nat, x < m ∧ k = (x : Int) := fun k hk => by
    have := (hS k).mpr hk
    obtain ⟨x, hx, rfl⟩ := List.mem_map.mp (of_decide_eq_true this)
    exact ⟨x, hl x hx, rfl⟩
  have h2 : ((es.toList.map keyOf).map Int.toNat).Nodup := by
    rw [List.Nodup, List.pairwise_map]
    refine List.Pairwise.imp_of_mem (R := (· ≠ ·)) (fun {a b} ha hb hab z => hab ?_) nd
    obtain ⟨x, _, rfl⟩ := hm a ha
    obtain ⟨y, _, rfl⟩ := hm b hb
    rw [Int.toNat_natCast, Int.toNat_natCast] at z
    rw [z]
  have h3 := len_le m _ h2 fun x hx => by
    obtain ⟨k, hk, rfl⟩ := List.mem_map.mp hx
    obtain ⟨y, hy, rfl⟩ := hm k hk
    rw [Int.toNat_natCast]
    exact hy
  rw [List.length_map] at h3
  omega
theorem cr_setN (hc : X.calm = true) : CallR X (.type "set") fun vs H Q => ∃ (a : Addr) (l : List Nat), vs = [V.ref a] ∧ H a = some (.lst (vns l)) ∧ l.length ≤ 1000 ∧ (∀ x ∈ l, x < 63) ∧
    ∀ (p : Addr) (c : Nat) (H' : Hp), c < 64 → New H p (SetO X.w p (setS l) c) H' → Q (.ref p) H' := by
  intro pins s σ H vs us Q I r h
  obtain ⟨a, l, rfl, hs, hn, hm, q⟩ := h
  rw [vns_cast] at hs
  obtain ⟨its, rv, hl, hz⟩ := I.list (SqL.of hs)
  rw [Vals.ref1 r]
  refine call_set_listR (l.map fun n : Nat => (n : Int)) (I.ok.hd hc) hl.isList (by simpa using rv.ints) (by rw [List.length_map]; unfold scanBound; omega) fun h' tk c R hcn hk => ?_
  exact ⟨.ref _, upd H s.heap.objs.size (SetO X.w s.heap.objs.size (setS l) c), I.laid (t' := tk) hk (Nat.le_refl _) (setO_new R), rfl, q _ c _ (by have := setR_small' R hm; omega) (.mk' (I.hok.fresh (Nat.le_refl _)))⟩
theorem cr_sortSetN (hc : X.calm = true) : CallR X (.builtin "sorted") fun vs H Q => ∃ (a : Addr) (l : List Nat) (c : Nat), vs = [V.ref a] ∧ H a = some (SetO X.w a (setS l) c) ∧ c < 64 ∧ (∀ x ∈ l, x < 64) ∧
    ∀ (p : Addr) (H' : Hp), New H p (.lst (vns (dis l))) H' → Q (.ref p) H' := CallR.imp (cr_sortedSet hc) fun vs H Q q => by
  obtain ⟨a, l, c, e, h, h64, hl, k⟩ := q
  refine ⟨a, _, c, e, h, h64, fun ns p h1 h2 h3 hp => ?_⟩
  have hnn : ∀ k ∈ ns, ∃ x : Nat, k = (x : Int) := fun k hk => by
    obtain ⟨x, _, rfl⟩ := List.mem_map.mp (of_decide_eq_true ((h2 k).mp hk))
    exact ⟨x, rfl⟩
  have e1 : ns = (ns.map Int.toNat).map fun n : Nat => (n : Int) := by
    rw [List.map_map]
    conv => lhs; rw [← List.map_id ns]
    refine List.map_congr_left fun k hk => ?_
    obtain ⟨x, rfl⟩ := hnn k hk
    show ((x : Int)) = ((Int.toNat (x : Int) : Nat) : Int)
    rw [Int.toNat_natCast]
  have e2 : ns.map Int.toNat = dis l := by
    refine Tj.sorted_ext ?_ (dis_lt l) fun x => ?_
    · rw [List.pairwise_map]
      refine List.Pairwise.imp_of_mem (R := (· < ·)) (fun {a b} ha hb hab => ?_) h1
      obtain ⟨x, rfl⟩ := hnn a ha
      obtain ⟨y, rfl⟩ := hnn b hb
      rw [Int.toNat_natCast, Int.toNat_natCast]
      omega
    · rw [mem_dis hl, List.mem_map]
      constructor
      · rintro ⟨k, hk, rfl⟩
        obtain ⟨x, hx, rfl⟩ := List.mem_map.mp (of_decide_eq_true ((h2 k).mp hk))
        rw [Int.toNat_natCast]
        exact hx
      · intro hx
        exact ⟨(x : Int), (h2 _).mpr (decide_eq_true (List.mem_map.mpr ⟨x, hx, rfl⟩)), Int.toNat_natCast x⟩
  rw [e2] at e1
  rw [e1, ← vns_cast]
  exact k p _ (.mk' hp)
end

/-! dicts keyed by pairs -/
abbrev kp (q : Sd) : List Key := [kn q.1, kn q.2]
theorem kp_inj {p q : Sd} (h : kp p = kp q) : p = q := by
  have h1 := (List.cons.inj h).1
  have h2 := (List.cons.inj (List.cons.inj h).2).1
  exact Prod.ext (kn_inj h1) (kn_inj h2)
def dkv (f : List Sd) : List (List Key × V) := f.map fun q => (kp q, V.bl true)
theorem dkv_get (q : Sd) : ∀ f : List Sd, valV (dkv f) (kp q) = if q ∈ f then some (V.bl true) else none
  | [] => by rw [if_neg (by simp)]; rfl
  | p :: f => by
    by_cases e : p = q
    · subst e
      rw [if_pos (by simp)]
      exact valV_pos (p := (kp p, V.bl true)) rfl
    · have := valV_neg (p := (kp p, V.bl true)) (r := dkv f) (k := kp q) (fun z => e (kp_inj z))
      rw [show dkv (p :: f) = (kp p, V.bl true) :: dkv f from rfl, this, dkv_get q f]
      have e' : ¬ q = p := fun z => e z.symm
      simp [e']
theorem dkv_new {f : List Sd} {q : Sd} (h : q ∉ f) : putK (dkv f) (kp q) (.bl true) = dkv (f ++ [q]) := by
  rw [putK_new _ (by rw [dkv_get, if_neg h])]
  unfold dkv
  rw [List.map_append]
  rfl
theorem dkv_len (f : List Sd) : (dkv f).length = f.length := List.length_map _
/-- places by their numbers: i of them -/
def pkv (f : List Sd) (i : Nat) : List (List Key × V) := (List.range i).map fun j => (kp (f.getD j (0, 0)), vn j)
theorem pkv_get {f : List Sd} (nd : f.Nodup) {q : Sd} : ∀ i, i ≤ f.length → valV (pkv f i) (kp q) = if f.idxOf q < i then some (vn (f.idxOf q)) else none
  | 0, _ => by rw [if_neg (by omega)]; rfl
  | i + 1, hi => by
    have ih := pkv_get nd (q := q) i (by omega)
    have hgi : f.getD i (0, 0) = f[i]'(by omega) := by rw [List.getD_eq_getElem?_getD, List.getElem?_eq_getElem (by omega)]; rfl
    have hidx : f.idxOf (f[i]'(by omega)) = i := nd.idxOf_getElem i (by omega)
    have hput : pkv f (i + 1) = pkv f i ++ [(kp (f.getD i (0, 0)), vn i)] := by unfold pkv; rw [List.range_succ, List.map_append]; rfl
    have hnone : valV (pkv f i) (kp (f.getD i (0, 0))) = none := by
      rw [pkv_get nd i (by omega), hgi, hidx, if_neg (by omega)]
    rw [hput, valV_snoc _ _ _ _ hnone, ih]
    by_cases e : q = f.getD i (0, 0)
    · have hq : f.idxOf q = i := by rw [e, hgi]; exact hidx
      rw [if_pos (by rw [e]), hq, if_pos (by omega)]
    · rw [if_neg (fun z => e (kp_inj z))]
      by_cases z : f.idxOf q < i
      · rw [if_pos z, if_pos (by omega)]
      · rw [if_neg z, if_neg]
        intro z2
        have z3 : f.idxOf q = i := by omega
        refine e ?_
        rw [hgi]
        have := List.getElem_idxOf (xs := f) (x := q) (by omega)
        rw [← this]
        congr 1
theorem pkv_put {f : List Sd} (nd : f.Nodup) {i : Nat} (hi : i < f.length) : putK (pkv f i) (kp (f.getD i (0, 0))) (vn i) = pkv f (i + 1) := by
  have hgi : f.getD i (0, 0) = f[i]'hi := by rw [List.getD_eq_getElem?_getD, List.getElem?_eq_getElem hi]; rfl
  rw [putK_new]
  · unfold pkv
    rw [List.range_succ, List.map_append]
    rfl
  · rw [pkv_get nd i (by omega), hgi, nd.idxOf_getElem i hi, if_neg (by omega)]
theorem pkv_len (f : List Sd) (i : Nat) : (pkv f i).length = i := by unfold pkv; rw [List.length_map, List.length_range]
theorem dget_p {H : Hp} {a b : Addr} {kvs : List (List Key × V)} {q : Sd} {r : Option V} (e : H a = some (.dT kvs)) (eb : H b = some (.tup [vn q.1, vn q.2])) (h : valV kvs (kp q) = r) : DGet H a (.ref b) r := by
  have := DGet.t (k := kp q) e eb
  rw [h] at this
  exact this

/-! the lists of standings and steps while they are found -/
structure Sf (M0 H0 M H : Hp) (fo ko so : Addr) (fs ss : List V) (f : List Sd) (s : List Stp) : Prop where
  e : Ext M0 H0 M H
  f0 : H0 fo = none
  k0 : H0 ko = none
  s0 : H0 so = none
  fm : M fo = none
  km : M ko = none
  sm : M so = none
  f_ : H fo = some (.lst fs)
  k_ : H ko = some (.dT (dkv f))
  s_ : H so = some (.lst ss)
  fr : RpAll M fs (f.map eP)
  sr : RpAll M ss (s.map eS)
  ne : fo ≠ so
section
variable {M0 H0 M H H' H2 : Hp} {fo ko so p : Addr} {fs ss : List V} {f : List Sd} {s : List Stp} {o : HO}
theorem Sf.ne2 (S : Sf M0 H0 M H fo ko so fs ss f s) : fo ≠ ko ∧ so ≠ ko := ⟨ne_of S.f_ S.k_ (fun z => by cases z), ne_of S.s_ S.k_ (fun z => by cases z)⟩
theorem Sf.same (S : Sf M0 H0 M H fo ko so fs ss f s) (h : Same H H') : Sf M0 H0 M H' fo ko so fs ss f s :=
  ⟨S.e.trans (.of S.e.mh h), S.f0, S.k0, S.s0, S.fm, S.km, S.sm, h _ _ S.f_, h _ _ S.k_, h _ _ S.s_, S.fr, S.sr, S.ne⟩
/-- a new object, not to be written at -/
theorem Sf.new (S : Sf M0 H0 M H fo ko so fs ss f s) (n : New H p o H') : Sf M0 H0 (upd M p o) H' fo ko so fs ss f s := by
  have e := Ext.grow (o := o) S.e.mh n.free
  rw [← n.eq] at e
  refine ⟨S.e.trans e, S.f0, S.k0, S.s0, ?_, ?_, ?_, n.same _ _ S.f_, n.same _ _ S.k_, n.same _ _ S.s_, e.rpa S.fr, e.rpa S.sr, S.ne⟩
  · rw [upd_ne (n.ne S.f_)]; exact S.fm
  · rw [upd_ne (n.ne S.k_)]; exact S.km
  · rw [upd_ne (n.ne S.s_)]; exact S.sm
theorem Sf.addS {v : V} {t : Stp} (S : Sf M0 H0 M H fo ko so fs ss f s) (w : Wr H so (.lst (ss ++ [v])) H') (r : Rp M v (eS t)) : Sf M0 H0 M H' fo ko so fs (ss ++ [v]) f (s ++ [t]) := by
  refine ⟨by rw [w.eq]; exact S.e.write S.s0 S.sm, S.f0, S.k0, S.s0, S.fm, S.km, S.sm, w.keep S.ne S.f_, w.keep S.ne2.2.symm S.k_, w.at, S.fr, ?_, S.ne⟩
  rw [List.map_append]
  exact S.sr.app (.one r)
theorem Sf.addF {v : V} {q : Sd} (S : Sf M0 H0 M H fo ko so fs ss f s) (w : Wr H ko (.dT (dkv (f ++ [q]))) H') (w2 : Wr H' fo (.lst (fs ++ [v])) H2) (r : Rp M v (eP q)) : Sf M0 H0 M H2 fo ko so (fs ++ [v]) ss (f ++ [q]) s := by
  obtain ⟨n1, n2⟩ := S.ne2
  have e1 : Ext M0 H0 M H' := by rw [w.eq]; exact S.e.write S.k0 S.km
  refine ⟨by rw [w2.eq]; exact e1.write S.f0 S.fm, S.f0, S.k0, S.s0, S.fm, S.km, S.sm, w2.at, w2.keep n1.symm w.at, w2.keep S.ne.symm (w.keep n2 S.s_), ?_, S.sr, S.ne⟩
  rw [List.map_append]
  exact S.fr.app (.one r)
end
end K31
namespace K31
open PySem L2 Pd
section
variable {P : Program} {w : World} {K : PySem.W.Frag} {mg : PySem.Str → Option Value} {base : Heap}
abbrev Tr := Nat × Nat × Nat
def edges (ss : List Tr) : List (Nat × Nat) := ss.map fun t => (t.1, t.2.1)
def stepsF (n : Nat) (a b t f : Addr) : List (PySem.Str × V) := [fl "own_standings" (.ref a), fl "own_told" (.ref b), fl "own_places" (vn n), fl "own_ties" (.ref t), fl "own_from" (.ref f)]
structure StepsLoop (W : Addr) (H1 : Hp) (x a b tt f : Addr) (qs : List Addr) (n : Nat) (E : List (Nat × Nat)) (ts : List V) (i : Nat) (H : Hp) : Prop where
  s : Same H1 H
  x_ : ∃ dx, H x = some (.ins W dx (stepsF n a b tt f))
  f_ : H f = some (.lst (qs.map V.ref))
  q_ : ∀ v q, qs[v]? = some q → H q = some (.lst (vns (Tj.adjTo E i v)))

def sp_Steps_init (K : PySem.W.Frag) (W : Addr) : Sp := fun vs H Q _ => ∃ (M H1 : Hp) (x a b : Addr) (st : List Sd) (ss : List Tr), vs = [.ref x, .ref a, .ref b] ∧ WebMk W M H1 x H [] ∧
  Rp M (.ref a) (ePs st) ∧ Rp M (.ref b) (eTs ss) ∧ st.length ≤ 100 ∧ ss.length ≤ 10000 ∧ (∀ p ∈ ss, p.1 < st.length) ∧ ∀ M' H', Ext M H1 M' H' → GraphAt K M' x st.length (edges ss) → Q .non H'
theorem ok_Steps_init (T : Tx K mg) : FnOk P w K mg base CX0 1 T.Steps_init.f T.Steps_init.fd ["self", "standings", "steps"] (sp_Steps_init K T.Steps) := by
  refine T.Steps_init.F.ok sc_Steps_init (fun vs H Q E h => ?_) (fun cdv A outer s H vs Q E' hr h => ?_)
  · obtain ⟨M, H1, x, a, b, st, ss, rfl, _⟩ := h
    rfl
  · obtain ⟨M, H1, x, a, b, st, ss, rfl, mk0, ha, hb, hn, hm, hE, q⟩ := h
    obtain ⟨a', as, e, hal, has⟩ := ha.list_inv
    cases e
    obtain ⟨b', bs, e, hbl, hbs⟩ := hb.list_inv
    cases e
    have hasl : as.length = st.length := by rw [has.len, List.length_map]
    have hbsl : bs.length = ss.length := by rw [hbs.len, List.length_map]
    have small : ∀ {k : Nat}, k ≤ 10000 → k < sizeLine := fun h => Nat.lt_of_le_of_lt h (by decide)
    refine ⟨_, (pss_cons (ps_fldU (pv 0) (pv 1) rfl)
    (pss_cons (ps_fldU (pv 0) (pv 2) rfl)
    (pss_cons (ps_fldU (pv 0) (pe_callB call_lenU (by rfl) T.n_len PySem.boot_len (pa_cons (pv 1) pa_nil)) rfl)
    (pss_cons (ps_fldU (pv 0) (pe_lc (own := [("near", 3), ("far", 4), ("tie", 5)]) rfl sc_Steps_init.nd (pi_list (pv 2)) (blkOk_by (N := N_Steps_init) (sc := defScope s_Steps_init) (by decide +kernel)) (fun _ _ _ _ _ => (pg_tupU (n := 3) (by rfl) (pgs_cons (pg_name (i := 3) sc_Steps_init.nd rfl (by first | exact Or.inl rfl | exact Or.inr rfl)) (pgs_cons (pg_name (i := 4) sc_Steps_init.nd rfl (by first | exact Or.inl rfl | exact Or.inr rfl)) (pgs_cons (pg_name (i := 5) sc_Steps_init.nd rfl (by first | exact Or.inl rfl | exact Or.inr rfl)) pgs_nil))))) (fun _ _ _ _ _ => pts_nil) (fun _ _ _ _ _ => (pe_tupU (pa_cons (pv 3) (pa_cons (pv 4) pa_nil))))) rfl)
    (pss_cons (ps_fldU (pv 0) (pe_lc (own := [("standing", 6)]) rfl sc_Steps_init.nd (pi_list (pv 1)) (blkOk_by (N := N_Steps_init) (sc := defScope s_Steps_init) (by decide +kernel)) (fun _ _ _ _ _ => (pg_name (i := 6) sc_Steps_init.nd rfl (by first | exact Or.inl rfl | exact Or.inr rfl))) (fun _ _ _ _ _ => pts_nil) (fun _ _ _ _ _ => (pe_lstU pa_nil))) rfl)
    (pss_one (ps_for PassesOwn.never rfl (pi_enum (by rfl) T.n_enumerate (pa_cons (pv 2) pa_nil)) (pg_tupU (n := 2) (by rfl) (pgs_cons (pg_name (i := 7) sc_Steps_init.nd rfl (Or.inl rfl)) (pgs_cons (pg_tupU (n := 3) (by rfl) (pgs_cons (pg_name (i := 3) sc_Steps_init.nd rfl (Or.inl rfl)) (pgs_cons (pg_name (i := 4) sc_Steps_init.nd rfl (Or.inl rfl)) (pgs_cons (pg_name (i := 5) sc_Steps_init.nd rfl (Or.inl rfl)) pgs_nil)))) pgs_nil)))
      (pss_one (ps_expr (pe_bm PySem.F.plainAttrs_list PySem.F.slot_list_append PySem.F.type_list_append mt_appendU (pe_ix ix_listU (pe_fldK (K := K) rfl (pv 0) rfl) (pv 3) (fun _ _ => rfl)) (pa_cons (pv 7) pa_nil))))))))))), ?_⟩
    obtain ⟨d0, a0⟩ := mk0.at_
    refine ⟨.ref a, rfl, .ref x, rfl, x, T.Steps, d0, [], rfl, a0, T.clSteps, T.noSteps_own_standings, by show 0 < 1000; decide, fun H2 w2 => ?_⟩
    have mk2 := mk0.fld w2
    refine ⟨.ref b, rfl, .ref x, rfl, x, T.Steps, d0, _, rfl, w2.at, T.clSteps, T.noSteps_own_told, by show 1 < 1000; decide, fun H3 w3 => ?_⟩
    have mk3 := mk2.fld w3
    refine ⟨.ref a, rfl, a, as, rfl, .inl (mk3.mh _ _ hal), .ref x, rfl, x, T.Steps, d0, _, rfl, w3.at, T.clSteps, T.noSteps_own_places, by show 2 < 1000; decide, fun H4 w4 => ?_⟩
    rw [hasl] at w4
    have mk4 := mk3.fld w4
    -- own_ties
    refine ⟨.ref b, rfl, b, rfl, ⟨_, SqL.of (mk4.mh _ _ hbl)⟩, fun tt htt => ?_⟩
    refine lc_listM (K := K) (a := b) mk4.mh htt (mk4.mh _ _ hbl) (by rw [hbsl]; exact small hm) (fun i => ((edges ss).take i).map eP) rfl (fun i y M5 H5 hy e5 hm5 Yes No yes no => ?_) (fun H5 h5 => ?_)
    · obtain ⟨d, hd, rd⟩ := hbs.at' hy
      rw [List.getElem?_map] at hd
      obtain ⟨p, hp, rfl⟩ := Option.map_eq_some_iff.mp hd
      obtain ⟨pa, rfl, hpa⟩ := rd.t_inv
      refine ⟨pa, _, rfl, e5.mh0 _ _ hpa, rfl, _, _, rfl, _, _, rfl, _, _, rfl, rfl, rfl, ?_⟩
      refine ⟨vn p.1, rfl, vn p.2.1, rfl, by show 2 ≤ sizeLine; decide, fun c H6 n6 => ?_⟩
      have e6 := Ext.grow (o := .tup [vn p.1, vn p.2.1]) e5.mh n6.free
      rw [← n6.eq] at e6
      refine yes _ _ _ (eP (p.1, p.2.1)) e6 (.of_p upd_same) ?_
      have he : (edges ss)[i]? = some (p.1, p.2.1) := by unfold edges; rw [List.getElem?_map, hp]; rfl
      dsimp only
      rw [List.take_add_one, he, List.map_append]
      rfl
    obtain ⟨M5, acc, e5, l5, m5, ep5, ra5, rp5⟩ := lc_end htt h5
    have tt0 : H1 tt = none := mk4.s.free htt
    obtain ⟨d5, a5⟩ := (mk4.same e5.hh).at_
    have hee : (edges ss).take bs.length = edges ss := List.take_of_length_le (by unfold edges; rw [List.length_map, hbsl]; exact Nat.le_refl _)
    rw [hee] at ra5
    refine ⟨.ref x, rfl, x, T.Steps, d0, _, rfl, e5.at w4.at, T.clSteps, T.noSteps_own_ties, by show 3 < 1000; decide, fun H6 w6 => ?_⟩
    have ttx : tt ≠ x := ne_of l5 (e5.at w4.at) (fun z => by cases z)
    have xm : M x = none := mk0.sM.free mk0.x0
    have eM5 : Ext M H1 M5 H5 := (Ext.of mk0.sM mk4.s).trans e5
    have m5x : M5 x = none := e5.off xm w4.at
    have e6 : Ext M H1 M5 H6 := by rw [w6.eq]; exact eM5.write mk0.x0 m5x
    have l6 : H6 tt = some (.lst acc) := w6.keep ttx l5
    -- own_from
    have hal6 : H6 a = some (.lst as) := e6.mh0 _ _ hal
    refine ⟨.ref a, rfl, a, rfl, ⟨_, SqL.of hal6⟩, fun f hf => ?_⟩
    refine lc_list (K := K) (a := a) (xs := as) (RowsInv _ f) (rows_start hf) (fun i H7 _ h7 => SqL.of ?_) (fun i y H7 hy h7 => ⟨rfl, Nat.zero_le _, fun p H' np => rows_turn hf (small (by have := (List.getElem?_eq_some_iff.mp hy).1; omega)) h7 np⟩) (fun H7 h7 => ?_)
    · obtain ⟨qs, s7, _⟩ := h7
      exact s7 _ _ hal6
    obtain ⟨qs, s7, f7, ql, qnd, q7⟩ := h7
    have x7 := s7 _ _ w6.at
    refine ⟨.ref x, rfl, x, T.Steps, d0, _, rfl, x7, T.clSteps, T.noSteps_own_from, by show 4 < 1000; decide, fun H8 w8 => ?_⟩
    have f0 : H1 f = none := e6.hh.free hf
    have fx : f ≠ x := ne_of f7 x7 (fun z => by cases z)
    have qx : ∀ q ∈ qs, q ≠ x := fun q hq => ne_of (q7 q hq).2.2 x7 (fun z => by cases z)
    have q0 : ∀ q ∈ qs, H1 q = none := fun q hq => e6.hh.free (q7 q hq).1
    have qf : ∀ q ∈ qs, q ≠ f := fun q hq => (q7 q hq).2.1
    have s8 : Same H1 H8 := by rw [w8.eq]; exact (e6.hh.trans s7).past mk0.x0
    have hbl8 : H8 b = some (.lst bs) := s8 _ _ (mk0.sM _ _ hbl)
    have hql : qs.length = st.length := by omega
    have loop0 : StepsLoop T.Steps H1 x a b tt f qs st.length (edges ss) bs 0 H8 := ⟨s8, ⟨d0, w8.at⟩, w8.keep fx f7, fun v q hv => w8.keep (qx q (List.mem_of_getElem? hv)) (q7 q (List.mem_of_getElem? hv)).2.2⟩
    have tq : ∀ q ∈ qs, tt ≠ q := fun q hq z => by have := (q7 q hq).1; rw [← z, l6] at this; cases this
    have ttf : tt ≠ f := fun z => by rw [← z, l6] at hf; cases hf
    have e8 : Ext M H1 M5 H8 := by rw [w8.eq]; exact (e6.trans (.of e6.mh s7)).write mk0.x0 m5x
    -- the loop
    refine ⟨.ref b, rfl, b, _, rfl, SqL.of hbl8, ?_⟩
    refine for_enumL (K := K) (a := b) (xs := bs) (fun i σ H => (∃ v3 v4 v5 v6 v7, σ = [some (.ref x), some (.ref a), some (.ref b), v3, v4, v5, v6, v7]) ∧ StepsLoop T.Steps H1 x a b tt f qs st.length (edges ss) bs i H ∧ Ext M H1 M5 H ∧ H tt = some (.lst acc))
      ⟨⟨none, none, none, none, none, rfl⟩, loop0, e8, w8.keep ttx (s7 _ _ l6)⟩ (fun i σ H _ h => SqL.of (h.2.1.s _ _ (mk0.sM _ _ hbl))) (fun i y Ta σ H hy h H' nT => ?_) (fun σ H h => ?_)
    · obtain ⟨⟨v3, v4, v5, v6, v7, rfl⟩, lp, eH, lt⟩ := h
      obtain ⟨d, hd, rd⟩ := hbs.at' hy
      rw [List.getElem?_map] at hd
      obtain ⟨p, hp, rfl⟩ := Option.map_eq_some_iff.mp hd
      obtain ⟨pa, rfl, hpa⟩ := rd.t_inv
      have hpm := hE p (List.mem_of_getElem? hp)
      have hiE : i < ss.length := (List.getElem?_eq_some_iff.mp hp).1
      have haH : H' pa = some (.tup [vn p.1, vn p.2.1, vn p.2.2]) := nT.same _ _ (eH.mh0 _ _ hpa)
      obtain ⟨dx, ax⟩ := lp.x_
      have hsrc : Tj.src (edges ss) i = p.1 := by
        unfold Tj.src edges
        rw [List.getD_eq_getElem?_getD, List.getElem?_map, hp]
        rfl
      obtain ⟨qb, hqb⟩ : ∃ qb, qs[p.1]? = some qb := ⟨qs[p.1]'(by omega), List.getElem?_eq_getElem (by omega)⟩
      have hqm := List.mem_of_getElem? hqb
      have hadj : (vns (Tj.adjTo (edges ss) i p.1)).length ≤ i := by
        rw [List.length_map]
        unfold Tj.adjTo
        exact Nat.le_trans (List.length_filter_le _ _) (by rw [List.length_range]; exact Nat.le_refl _)
      refine ⟨Ta, _, rfl, nT.at, rfl, _, _, rfl, _, _, rfl, ⟨pa, _, rfl, haH, rfl, _, _, rfl, _, _, rfl, _, _, rfl, rfl, rfl, ?_⟩⟩
      refine ⟨.ref x, rfl, x, T.Steps, dx, _, .ref f, rfl, nT.same _ _ ax, T.clSteps, T.noSteps_own_from, rfl, vn p.1, rfl, f, qs.map V.ref, p.1, .ref qb, rfl, rfl, nT.same _ _ lp.f_, by rw [List.getElem?_map, hqb]; rfl, ?_⟩
      refine ⟨.inl ⟨rfl, _, SqL.of (nT.same _ _ (lp.q_ _ _ hqb))⟩, vn i, rfl, qb, _, vn i, rfl, rfl, nT.same _ _ (lp.q_ _ _ hqb), small (by omega), fun H2 w2 => ?_⟩
      have qbm : M5 qb = none := by
        cases k : M5 qb with
        | none => rfl
        | some u =>
          have := e6.mh _ _ k
          rw [(q7 qb hqm).1] at this
          cases this
      have eT : Ext M H1 M5 H' := eH.trans (.of eH.mh nT.same)
      refine ⟨⟨_, _, _, _, _, rfl⟩, ⟨by rw [w2.eq]; exact (lp.s.trans nT.same).past (q0 qb hqm), ⟨dx, w2.keep (fun z => qx qb hqm z.symm) (nT.same _ _ ax)⟩, w2.keep (fun z => qf qb hqm z.symm) (nT.same _ _ lp.f_), fun v q' hv => ?_⟩, by rw [w2.eq]; exact eT.write (q0 qb hqm) qbm, w2.keep (tq qb hqm) (nT.same _ _ lt)⟩
      have hvm := List.mem_of_getElem? hv
      rw [Tj.adjTo_succ, hsrc]
      by_cases hvp : p.1 = v
      · subst hvp
        rw [hqb] at hv
        cases Option.some.inj hv
        rw [if_pos rfl, w2.at, vns_app]
      · rw [if_neg hvp]
        refine w2.keep (fun z => hvp ?_) (nT.same _ _ (lp.q_ _ _ hv))
        rw [z] at hv
        exact nd_get qnd hqb hv
    · obtain ⟨_, lp, eH, lt⟩ := h
      obtain ⟨dx, ax⟩ := lp.x_
      have fin : Ext M H1 (frz M5 H (x :: tt :: f :: qs)) H := by
        refine eH.puts fun y hy => ?_
        rcases List.mem_cons.mp hy with z | hy
        · rw [z]; exact ⟨mk0.x0, m5x⟩
        rcases List.mem_cons.mp hy with z | hy
        · rw [z]; exact ⟨tt0, m5⟩
        rcases List.mem_cons.mp hy with z | hy
        · rw [z]
          refine ⟨f0, ?_⟩
          cases k : M5 f with
          | none => rfl
          | some u =>
            have := e6.mh _ _ k
            rw [hf] at this
            cases this
        · refine ⟨q0 y hy, ?_⟩
          cases k : M5 y with
          | none => rfl
          | some u =>
            have := e6.mh _ _ k
            rw [(q7 y hy).1] at this
            cases this
      have m5n : ∀ y ∈ x :: tt :: f :: qs, M5 y = none := fun y hy => by
        rcases List.mem_cons.mp hy with z | hy
        · rw [z]; exact m5x
        rcases List.mem_cons.mp hy with z | hy
        · rw [z]; exact m5
        rcases List.mem_cons.mp hy with z | hy
        · rw [z]
          cases k : M5 f with
          | none => rfl
          | some u =>
            have := e6.mh _ _ k
            rw [hf] at this
            cases this
        · cases k : M5 y with
          | none => rfl
          | some u =>
            have := e6.mh _ _ k
            rw [(q7 y hy).1] at this
            cases this
      have inx : ∀ y ∈ x :: tt :: f :: qs, frz M5 H (x :: tt :: f :: qs) y = H y := fun y hy => frz_in hy
      refine q _ _ fin ⟨T.Steps, dx, tt, f, stepsF st.length a b tt f, acc, ?_, T.clSteps, T.noSteps_own_places, T.noSteps_own_ties, T.noSteps_own_from, rfl, rfl, rfl, .inr ?_, ra5.s (frz_same m5n), ?_⟩
      · rw [inx x (by simp)]; exact ax
      · rw [inx tt (by simp)]; exact lt
      · refine .lst (xs := qs.map V.ref) (by rw [inx f (by simp)]; exact lp.f_) ?_
        have gen : ∀ (l : List Addr) (k : Nat), (∀ j q', l[j]? = some q' → q' ∈ qs ∧ H q' = some (.lst (vns (Tj.adj (edges ss) (k + j))))) → RpAll (frz M5 H (x :: tt :: f :: qs)) (l.map V.ref) (((List.range' k l.length).map (Tj.adj (edges ss))).map eNs) := by
          intro l
          induction l with
          | nil => intro k _; exact .nil
          | cons q' l ih =>
            intro k hk
            rw [List.length_cons, List.range'_succ]
            refine .cons (.of_ns ?_) (ih (k + 1) fun j q2 hj => ?_)
            · obtain ⟨h1, h2⟩ := hk 0 q' rfl
              rw [inx q' (by simp [h1])]
              exact h2
            · have := hk (j + 1) q2 hj
              rw [show k + 1 + j = k + (j + 1) by omega]
              exact this
        have key := gen qs 0 fun j q' hj => ⟨List.mem_of_getElem? hj, by
          rw [Nat.zero_add]
          have := lp.q_ j q' hj
          rw [hbsl, show ss.length = (edges ss).length by unfold edges; rw [List.length_map]] at this
          exact this⟩
        rw [hql, ← List.range_eq_range'] at key
        exact key
end
end K31
namespace K31
open PySem L2 Pd Km
section
variable {P : Program} {w : World} {K : PySem.W.Frag} {mg : PySem.Str → Option Value} {base : Heap}
theorem putK_le {κ : Type} [DecidableEq κ] (c : List (κ × V)) (k : κ) (x : V) : (putK c k x).length ≤ c.length + 1 := by
  unfold putK
  split
  · rw [List.length_map]; omega
  · rw [List.length_append]; exact Nat.le_refl _
def within (p : List Nat) (ss : List Tr) : List Tr := ss.filter fun t => decide (t.1 ∈ p) && decide (t.2.1 ∈ p)
theorem within_take {p : List Nat} {ss : List Tr} {i : Nat} {t : Tr} (h : ss[i]? = some t) : within p (ss.take (i + 1)) = within p (ss.take i) ++ if (decide (t.1 ∈ p) && decide (t.2.1 ∈ p)) = true then [t] else [] := by
  unfold within
  rw [List.take_add_one, h, List.filter_append]
  congr 1
  show List.filter _ [t] = _
  rw [List.filter_cons, List.filter_nil]
theorem Rp.tt_inv {H : Hp} {v : V} {d e : PyData} (h : Rp H v (.tuple [d, e])) : ∃ a x y, v = .ref a ∧ H a = some (.tup [x, y]) ∧ Rp H x d ∧ Rp H y e := by
  obtain ⟨a, xs, e, h1, h2⟩ := h.tup_inv
  cases h2 with
  | cons k1 r =>
    cases r with
    | cons k2 r =>
      cases r
      exact ⟨a, _, _, e, h1, k1, k2⟩
def sp_steps_within : Sp := fun vs H Q _ => ∃ (M : Hp) (v : V) (b : Addr) (st : List Sd) (ss : List Tr) (p : List Nat), vs = [v, .ref b] ∧ Same M H ∧ Rp M v (.tuple [ePs st, eTs ss]) ∧ M b = some (.lst (vns p)) ∧ p.length ≤ 1000 ∧ ss.length ≤ 10000 ∧
  ∀ M' H' v, Ext M H M' H' → Rp M' v (eTs (within p ss)) → Q v H'
theorem ok_steps_within (T : Tx K mg) : FnOk P w K mg base CX0 1 T.steps_within.f T.steps_within.fd ["told", "part"] sp_steps_within := by
  refine T.steps_within.F.ok sc_steps_within (fun vs H Q E h => ?_) (fun cdv A outer s H vs Q E hr h => ?_)
  · obtain ⟨M, v, b, st, ss, p, rfl, _⟩ := h
    rfl
  · obtain ⟨M, v, b, st, ss, p, rfl, sm, hv, hb, hp, hs, q⟩ := h
    obtain ⟨tl, x1, x2, rfl, htl, hx1, hx2⟩ := hv.tt_inv
    obtain ⟨b2, bs, rfl, hbl, hbs⟩ := hx2.list_inv
    have hbsl : bs.length = ss.length := by rw [hbs.len, List.length_map]
    refine ⟨_, (pss_cons (ps_set (i := 2) sc_steps_within.nd rfl (Or.inr rfl) pe_dnewKU)
    (pss_cons (ps_for PassesOwn.never rfl (pi_list (pv 1)) (pg_name (i := 3) sc_steps_within.nd rfl (Or.inl rfl))
      (pss_one (ps_dputK (hu_of hr) (pv 2) (pv 3) pe_bl rfl)))
    (pss_one (ps_ret (pe_lc (own := [("step", 4)]) rfl sc_steps_within.nd (pi_list (pe_ix ix_tupU (pv 0) pe_int (fun _ _ => rfl))) (blkOk_by (N := N_steps_within) (sc := defScope s_steps_within) (by decide +kernel)) (fun _ _ _ _ _ => (pg_name (i := 4) sc_steps_within.nd rfl (by first | exact Or.inl rfl | exact Or.inr rfl))) (fun _ _ _ _ _ => (pts_one (PW.pt (pw_and (pt_cmp (pc_din (hu_of hr) (pe_ix ix_tupU (pv 4) pe_int (fun _ _ => rfl)) (pv 2)) rfl) (pw_and1 (pt_cmp (pc_din (hu_of hr) (pe_ix ix_tupU (pv 4) pe_int (fun _ _ => rfl)) (pv 2)) rfl)))))) (fun _ _ _ _ _ => (pv 4))))))), ?_⟩
    refine fun d H1 n1 => ?_
    have e1 : Ext M H M H1 := .of sm n1.same
    refine ⟨.ref b, rfl, b, rfl, ⟨_, SqL.of (e1.mh0 _ _ hb)⟩, ?_⟩
    refine for_list (K := K) (a := b) (xs := vns p) (fun i σ H' => (∃ v3 v4, σ = [some (.ref tl), some (.ref b), some (.ref d), v3, v4]) ∧ Ext M H M H' ∧ ∃ kvs, H' d = some (.dK kvs) ∧ kvs.length ≤ i ∧ ∀ x : Nat, valV kvs (kn x) = if x ∈ p.take i then some (V.bl true) else none)
      ⟨⟨none, none, rfl⟩, e1, [], n1.at, Nat.le_refl _, fun x => by rw [List.take_zero, if_neg (by simp)]; rfl⟩ (fun i σ H' _ h => SqL.of (h.2.1.mh0 _ _ hb)) (fun i x σ H2 hx h => ?_) (fun σ H2 h => ?_)
    · obtain ⟨⟨v3, v4, rfl⟩, e2, kvs, hd, hl, hg⟩ := h
      obtain ⟨k, hk, rfl⟩ := vns_get hx
      have hi : i < p.length := (List.getElem?_eq_some_iff.mp hk).1
      refine ⟨.ref d, rfl, vn k, rfl, d, kvs, kn k, rfl, hd, rfl, small400 (by omega), fun H3 w3 => ⟨⟨_, _, rfl⟩, by rw [w3.eq]; exact e2.write n1.free (sm.free n1.free), _, w3.at, Nat.le_trans (putK_le _ _ _) (by omega), fun x => ?_⟩⟩
      rw [valV_put, hg, List.take_add_one, hk]
      by_cases e : x = k
      · subst e
        rw [if_pos rfl, if_pos (by simp)]
      · rw [if_neg fun z => e (kn_inj z)]
        by_cases e2 : x ∈ p.take i
        · rw [if_pos e2, if_pos (List.mem_append_left _ e2)]
        · rw [if_neg e2, if_neg]
          intro z
          rcases List.mem_append.mp z with z | z
          · exact e2 z
          · simp at z
            exact e z
    · obtain ⟨⟨v3, v4, rfl⟩, e2, kvs, hd, hl, hg⟩ := h
      rw [vns_len, List.take_of_length_le (Nat.le_refl _)] at hg
      refine ⟨.ref tl, rfl, tl, _, 1, .ref b2, rfl, rfl, e2.mh0 _ _ htl, rfl, b2, rfl, ⟨_, SqL.of (e2.mh0 _ _ hbl)⟩, fun D hD => ?_⟩
      refine lc_listM (K := K) (a := b2) e2.mh hD (e2.mh0 _ _ hbl) (by rw [hbsl]; exact Nat.lt_of_le_of_lt hs (by decide)) (fun i => (within p (ss.take i)).map eT) rfl (fun i y M3 H3 hy e3 hm3 Yes No yes no => ?_) (fun H3 h3 => ?_)
      · obtain ⟨d', hd', rd⟩ := hbs.at' hy
        rw [List.getElem?_map] at hd'
        obtain ⟨t, ht, rfl⟩ := Option.map_eq_some_iff.mp hd'
        obtain ⟨pa, rfl, hpa⟩ := rd.t_inv
        have hpa3 := e3.hh _ _ (e2.mh0 _ _ hpa)
        have hd3 := e3.hh _ _ hd
        have hds := within_take (p := p) ht
        refine ⟨rfl, ?_⟩
        refine ⟨.ref pa, rfl, pa, _, 0, vn t.1, rfl, rfl, hpa3, rfl, .ref d, rfl, d, _, rfl, dget_g t.1 hd3, decide (t.1 ∈ p), by rw [hg]; by_cases z : t.1 ∈ p <;> simp [z], ?_⟩
        by_cases z1 : t.1 ∈ p
        · rw [decide_eq_true z1]
          refine ⟨.ref pa, rfl, pa, _, 1, vn t.2.1, rfl, rfl, hpa3, rfl, .ref d, rfl, d, _, rfl, dget_g t.2.1 hd3, decide (t.2.1 ∈ p), by rw [hg]; by_cases z : t.2.1 ∈ p <;> simp [z], ?_⟩
          by_cases z2 : t.2.1 ∈ p
          · rw [decide_eq_true z2]
            refine ⟨.ref pa, rfl, yes _ _ M3 (eT t) (.refl e3.mh) (.of_t ?_) ?_⟩
            · exact e3.mm _ _ hpa
            · dsimp only
              rw [hds, decide_eq_true z1, decide_eq_true z2, List.map_append]
              rfl
          · rw [decide_eq_false z2]
            refine no _ (.refl _) ?_
            dsimp only
            rw [hds, decide_eq_false z2, Bool.and_false, if_neg (by decide), List.append_nil]
        · rw [decide_eq_false z1]
          refine no _ (.refl _) ?_
          dsimp only
          rw [hds, decide_eq_false z1, Bool.false_and, if_neg (by decide), List.append_nil]
      · obtain ⟨M4, acc, _, _, _, e4, _, r4⟩ := lc_end hD h3
        rw [hbsl, List.take_of_length_le (Nat.le_refl _)] at r4
        exact q _ _ _ (e2.trans e4) r4

def sp_standings (W : Addr) : Sp := fun vs H Q _ => ∃ (M : Hp) (x a : Addr) (n : Nat) (E : List (Nat × Nat)) (l : List Nat), vs = [.ref x, .ref a] ∧ Same M H ∧ WebAt W M x n E ∧ M a = some (.lst (vns l)) ∧
  Jn E l ∧ Pd.Web n E ∧ n ≤ 10 ∧ E.length ≤ 20 ∧ l.length ≤ 20 ∧ ∀ N, Fin n E l N → ∀ M' H' v, Ext M H M' H' → Rp M' v (.tuple [ePs (iter n E l N).1, eSs (iter n E l N).2]) → Q v H'
theorem ok_standings_from (T : Tx K mg) : FnOk P w K mg base CX0 3 T.standings_from.f T.standings_from.fd ["web", "walk"] (sp_standings T.Web) := by
  refine T.standings_from.F.ok sc_standings_from (fun vs H Q E h => ?_) (fun cdv A outer s H vs Q E' hr h => ?_)
  · obtain ⟨M, x, a, n, E, l, rfl, _⟩ := h
    rfl
  · obtain ⟨M, x, a, n, E, l, rfl, sm, hw, ha, hj, hE, hn, hE20, hl20, q⟩ := h
    obtain ⟨dx, t, f, g, ts, qs, w1, w2, w3, w4, w5, w6, w7⟩ := hw.get (Same.refl M)
    have hl1 : 0 < l.length := by
      cases l with
      | nil => exact absurd rfl hj.ne
      | cons _ _ => simp
    refine ⟨_, (pss_cons (ps_set (i := 2) sc_standings_from.nd rfl (Or.inl rfl) (pe_call (ok_table_rows T) (hr.mono (by decide)) (by rfl) T.table_rows.g T.table_rows.F.kp T.table_rows.b .nil pass0 (pa_cons (pv 1) (pa_cons (pe_callB call_lenU (by rfl) T.n_len PySem.boot_len (pa_cons (pe_fldK (K := K) rfl (pv 0) rfl) pa_nil)) pa_nil))))
    (pss_cons (ps_setLc (i := 3) (own := [("place", 4)]) rfl sc_standings_from.nd rfl rfl (sw_true rfl rfl rfl (by decide +kernel)) (pi_range1 (by rfl) T.n_range (pa_cons (pe_fldK (K := K) rfl (pv 0) rfl) pa_nil)) (blkOk_by (N := N_standings_from) (sc := defScope s_standings_from) (by decide +kernel)) (fun _ _ _ _ _ => (pg_name (i := 4) sc_standings_from.nd rfl (by first | exact Or.inl rfl | exact Or.inr rfl))) (fun _ _ _ _ _ => pts_nil) (fun _ _ _ _ _ => (pe_tupU (pa_cons (pv 4) (pa_cons pe_int pa_nil)))))
    (pss_cons (ps_par3 (i := 5) (j := 6) (l := 7) (by rfl) sc_standings_from.nd rfl rfl rfl (by decide) (by decide) (by decide) rfl rfl rfl (pa_cons pe_dnewTU (pa_cons (pe_lstU pa_nil) (pa_cons pe_int pa_nil))) (by rfl))
    (pss_cons (ps_for PassesOwn.never rfl (pi_list (pv 3)) (pg_name (i := 8) sc_standings_from.nd rfl (Or.inl rfl))
      (pss_one (ps_dputT (hu_of hr) (pv 5) (pv 8) pe_bl rfl)))
    (pss_cons (ps_while PassesOwn.never (pt_cmpR op_ltN (pv 7) (pe_callB call_lenU (by rfl) T.n_len PySem.boot_len (pa_cons (pv 3) pa_nil)) (nomark _))
      (pss_cons (ps_asg (pe_ix ix_listU (pv 3) (pv 7) (fun _ _ => rfl)) (pg_tupU (n := 2) (by rfl) (pgs_cons (pg_name (i := 4) sc_standings_from.nd rfl (Or.inl rfl)) (pgs_cons (pg_name (i := 9) sc_standings_from.nd rfl (Or.inl rfl)) pgs_nil))))
    (pss_cons (ps_set (i := 7) sc_standings_from.nd rfl (Or.inl rfl) (pe_op op_addN (pv 7) pe_int))
    (pss_one (ps_for PassesOwn.never rfl (pi_list (pe_ix ix_listU (pe_fldK (K := K) rfl (pv 0) rfl) (pv 4) (fun _ _ => rfl))) (pg_name (i := 10) sc_standings_from.nd rfl (Or.inl rfl))
      (pss_cons (ps_set (i := 11) sc_standings_from.nd rfl (Or.inl rfl) (pe_tupU (pa_cons (pe_ix ix_tupU (pe_ix ix_tupU (pe_fldK (K := K) rfl (pv 0) rfl) (pv 10) (fun _ _ => rfl)) pe_int (fun _ _ => rfl)) (pa_cons (pe_ix ix_listU (pe_ix ix_listU (pv 2) (pv 9) (fun _ _ => rfl)) (pv 10) (fun _ _ => rfl)) pa_nil))))
    (pss_one (ps_if (pt_cmpR op_ltN (pe_ix ix_tupU (pv 11) pe_int (fun _ _ => rfl)) (pe_callB call_lenU (by rfl) T.n_len PySem.boot_len (pa_cons (pv 1) pa_nil)) (nomark _)) (pss_cons (ps_expr (pe_bm PySem.F.plainAttrs_list PySem.F.slot_list_append PySem.F.type_list_append mt_appendU (pv 6) (pa_cons (pe_tupU (pa_cons (pe_tupU (pa_cons (pv 4) (pa_cons (pv 9) pa_nil))) (pa_cons (pv 11) (pa_cons (pv 10) pa_nil)))) pa_nil)))
    (pss_one (ps_if (pt_cmp (pc_dnotin (hu_of hr) (pv 11) (pv 5)) rfl) (pss_cons (ps_dputT (hu_of hr) (pv 5) (pv 11) pe_bl rfl)
    (pss_one (ps_expr (pe_bm PySem.F.plainAttrs_list PySem.F.slot_list_append PySem.F.type_list_append mt_appendU (pv 3) (pa_cons (pv 11) pa_nil))))) pss_nil))) pss_nil))))))))
    (pss_one (ps_ret (pe_tupU (pa_cons (pv 3) (pa_cons (pv 6) pa_nil)))))))))), ?_⟩
    refine ⟨.ref a, rfl, .ref x, rfl, x, T.Web, dx, _, .ref t, rfl, sm _ _ w1, T.clWeb, T.noWeb_own_ties, rfl, t, ts, rfl, .inr (sm _ _ w2), M, a, l, E.length, by rw [w3]; rfl, sm, sm _ _ ha, hj.ne, by omega, by omega, hj.lt, fun M1 H1 v e1 r1 => ?_⟩
    obtain ⟨ra, rs, rfl, hra, hrs⟩ := r1.list_inv
    have sm1 : Same M H1 := e1.mh0
    have row : ∀ {s e : Nat}, s < l.length → e < E.length → ∃ rq, rs[s]? = some (.ref rq) ∧ M1 rq = some (.lst (vns (rowW l E.length s))) := fun {s e} hs he => by
      have hd : ((tabW l E.length).map eNs)[s]? = some (eNs (rowW l E.length s)) := by unfold tabW; simp [hs]
      obtain ⟨y, hy1, ry⟩ := hrs.at hd
      obtain ⟨qa, rfl, hq⟩ := ry.ns_inv
      exact ⟨qa, hy1, hq⟩
    have rowv : ∀ {s e : Nat}, e < E.length → (vns (rowW l E.length s))[e]? = some (vn (stepW l s e)) := fun {s e} he => by
      unfold rowW
      simp [he]
    -- found
    refine ⟨.ref x, rfl, x, T.Web, dx, _, vn n, rfl, sm1 _ _ w1, T.clWeb, T.noWeb_own_places, rfl, n, rfl, by omega, by omega, fun fo hfo => ?_⟩
    refine lc_rangeN (n := n) e1.mh hfo (small400 (by omega)) (fun i => ((List.range i).map fun p => (p, 0)).map eP) rfl (fun i M2 H2 hi e2 hm2 Yes No yes no => ?_) (fun H2 h2 => ?_)
    · refine ⟨rfl, vn i, rfl, by show 2 ≤ sizeLine; decide, fun c H3 n3 => ?_⟩
      have e3 := Ext.grow (o := .tup [vn i, .int 0]) e2.mh n3.free
      rw [← n3.eq] at e3
      exact yes _ _ _ (eP (i, 0)) e3 (.of_p upd_same) (by dsimp only; rw [map_range_succ, List.map_append]; rfl)
    obtain ⟨M2, acc, e2, l2, m2, _, ra2, _⟩ := lc_end hfo h2
    have hacc : acc.length = n := by rw [ra2.len]; simp
    -- known, steps, at
    refine fun ko H3 n3 => ⟨Nat.zero_le _, fun so H4 n4 => ⟨_, _, _, rfl, ?_⟩⟩
    have e3 : Ext M1 H1 M2 H3 := e2.trans (.of e2.mh n3.same)
    have e4 : Ext M1 H1 M2 H4 := e3.trans (.of e3.mh n4.same)
    have k0 : H1 ko = none := e2.hh.free n3.free
    have km : M2 ko = none := e2.mh.free n3.free
    have so0 : H1 so = none := e3.hh.free n4.free
    have som : M2 so = none := e3.mh.free n4.free
    have l3 := n3.same _ _ l2
    have l4 := n4.same _ _ l3
    have fso : fo ≠ so := n4.ne l3
    have kso : ko ≠ so := n4.ne n3.at
    have fko : fo ≠ ko := n3.ne l2
    have hst : ∀ {i : Nat} {y : V}, acc[i]? = some y → ∃ b, y = .ref b ∧ M2 b = some (.tup [vn i, vn 0]) ∧ i < n := fun {i y} hy => by
      obtain ⟨d, hd, rd⟩ := ra2.at' hy
      have hi : i < n := by have := (List.getElem?_eq_some_iff.mp hy).1; omega
      rw [List.getElem?_map, List.getElem?_map, List.getElem?_range hi] at hd
      cases Option.some.inj hd
      obtain ⟨b, e, hb⟩ := rd.p_inv
      exact ⟨b, e, hb, hi⟩
    refine ⟨.ref fo, rfl, fo, rfl, ⟨_, SqL.of l4⟩, ?_⟩
    refine for_list (K := K) (a := fo) (xs := acc) (fun i σ H' => (∃ v4 v8 v9 v10 v11, σ = [some (.ref x), some (.ref a), some (.ref ra), some (.ref fo), v4, some (.ref ko), some (.ref so), some (vn 0), v8, v9, v10, v11]) ∧ Ext M1 H1 M2 H' ∧ H' fo = some (.lst acc) ∧ H' so = some (.lst []) ∧ H' ko = some (.dT (dkv ((Pd.start n).take i))))
      ⟨⟨none, none, none, none, none, rfl⟩, e4, l4, n4.at, n4.same _ _ n3.at⟩ (fun i σ H' _ h => SqL.of h.2.2.1) (fun i y σ H5 hy h => ?_) (fun σ H5 h => ?_)
    · obtain ⟨⟨v4, v8, v9, v10, v11, rfl⟩, e5, f5, s5, k5⟩ := h
      obtain ⟨b, rfl, hb, hi⟩ := hst hy
      have hnew : (i, 0) ∉ (Pd.start n).take i := fun z => by
        unfold Pd.start at z
        rw [← List.map_take, List.mem_map] at z
        obtain ⟨p, hp, e⟩ := z
        have : p = i := (Prod.mk.inj e).1
        subst this
        rw [List.take_range] at hp
        have := List.mem_range.mp hp
        omega
      have htk : (Pd.start n).take (i + 1) = (Pd.start n).take i ++ [(i, 0)] := by
        rw [List.take_add_one]
        unfold Pd.start
        rw [List.getElem?_map, List.getElem?_range hi]
        rfl
      refine ⟨.ref ko, rfl, .ref b, rfl, ko, _, kp (i, 0), b, rfl, rfl, k5, e5.mh _ _ hb, small400 (by rw [dkv_len, List.length_take, start_len]; omega), fun H6 w6 => ⟨⟨_, _, _, _, _, rfl⟩, by rw [w6.eq]; exact e5.write k0 km, w6.keep fko f5, w6.keep kso.symm s5, ?_⟩⟩
      rw [w6.at, dkv_new hnew, htk]
    obtain ⟨⟨v4, v8, v9, v10, v11, rfl⟩, e5, f5, s5, k5⟩ := h
    rw [hacc, List.take_of_length_le (by rw [start_len]; exact Nat.le_refl _)] at k5
    have S0 : Sf M1 H1 M2 H5 fo ko so acc [] (iter n E l 0).1 (iter n E l 0).2 := ⟨e5, hfo, k0, so0, m2, km, som, f5, k5, s5, ra2, .nil, fso⟩
    clear h2 n3 n4 e3 e4 l3 l4 e5 f5 s5 k5 hst ra2 hacc
    refine while_m (fun m σ H => ∃ at_ : Nat, (∃ v4 v8 v9 v10 v11, σ = [some (.ref x), some (.ref a), some (.ref ra), some (.ref fo), v4, some (.ref ko), some (.ref so), some (vn at_), v8, v9, v10, v11]) ∧ (∀ j, j < at_ → j < (iter n E l j).1.length) ∧
      (∃ M fs ss, Sf M1 H1 M H fo ko so fs ss (iter n E l at_).1 (iter n E l at_).2) ∧ m = n + l.length + 1 - at_) (n + l.length + 1) ⟨0, ⟨_, _, _, _, _, rfl⟩, fun j hj => by omega, ⟨M2, acc, [], S0⟩, rfl⟩ (fun m σ H6 h Q yes no => ?_)
    clear S0
    obtain ⟨at_, ⟨v4, v8, v9, v10, v11, rfl⟩, hgo, ⟨M6, fs, ss, S⟩, rfl⟩ := h
    have hfsl : fs.length = (iter n E l at_).1.length := by rw [S.fr.len, List.length_map]
    have ok := iter_ok hE hl1 at_ hgo
    have okl := ok.len
    have okst := iter_len n E l at_
    refine ⟨vn at_, rfl, .ref fo, rfl, fo, fs, rfl, .inl S.f_, at_, fs.length, rfl, rfl, decide (at_ < fs.length), rfl, ?_⟩
    by_cases hat : at_ < fs.length
    · rw [decide_eq_true hat]
      refine yes _ ?_
      have hat' : at_ < (iter n E l at_).1.length := by omega
      have hm6 : Same M6 H6 := S.e.mh
      have hd : ((iter n E l at_).1.map eP)[at_]? = some (eP ((iter n E l at_).1.getD at_ (0, 0))) := by
        rw [List.getElem?_map, List.getD_eq_getElem?_getD, List.getElem?_eq_getElem hat']
        rfl
      obtain ⟨y, hy, ry⟩ := S.fr.at hd
      obtain ⟨pa, rfl, hpa⟩ := ry.p_inv
      have hpm := getD_mem hat'
      have hiter : iter n E l (at_ + 1) = stand E l ((iter n E l at_).1.getD at_ (0, 0)) (iter n E l at_) := rfl
      generalize (iter n E l at_).1.getD at_ (0, 0) = p at hpa hpm hiter
      have hplt := ok.lt p hpm
      refine ⟨.ref fo, rfl, vn at_, rfl, fo, fs, at_, .ref pa, rfl, rfl, S.f_, hy, pa, _, rfl, hm6 _ _ hpa, rfl, _, _, rfl, _, _, rfl, rfl, ?_⟩
      refine ⟨vn at_, rfl, at_, 1, rfl, rfl, ?_⟩
      have sm6 : Same M H6 := sm1.trans S.e.hh
      obtain ⟨qa, hqa, hqq⟩ := w7 p.1 hplt.1
      refine ⟨.ref x, rfl, x, T.Web, dx, _, .ref f, rfl, sm6 _ _ w1, T.clWeb, T.noWeb_own_from, rfl, vn p.1, rfl, f, qs, p.1, .ref qa, rfl, rfl, sm6 _ _ w5, hqa, qa, rfl, ⟨_, SqL.of (sm6 _ _ hqq)⟩, ?_⟩
      have hfold : ∀ i, Ok n E l (((Tj.adj E p.1).take i).foldl (turn E l p) (iter n E l at_)) ∧ ∀ q ∈ (iter n E l at_).1, q ∈ (((Tj.adj E p.1).take i).foldl (turn E l p) (iter n E l at_)).1 := fun i => fold_ok hE _ (fun e he => List.mem_of_mem_take he) ok hpm
      refine for_list (K := K) (a := qa) (xs := vns (Tj.adj E p.1)) (fun i σ H => (∃ v8 v10 v11, σ = [some (.ref x), some (.ref a), some (.ref ra), some (.ref fo), some (vn p.1), some (.ref ko), some (.ref so), some (vn (at_ + 1)), v8, some (vn p.2), v10, v11]) ∧
        ∃ M fs ss, Sf M1 H1 M H fo ko so fs ss (((Tj.adj E p.1).take i).foldl (turn E l p) (iter n E l at_)).1 (((Tj.adj E p.1).take i).foldl (turn E l p) (iter n E l at_)).2)
        ⟨⟨_, _, _, rfl⟩, M6, fs, ss, S⟩ (fun i σ H _ h => SqL.of ?_) (fun i y σ H7 hy h => ?_) (fun σ H7 h => ?_)
      · obtain ⟨_, M7, fs7, ss7, S7⟩ := h
        exact S7.e.hh _ _ (sm1 _ _ hqq)
      · obtain ⟨⟨v8, v10, v11, rfl⟩, M7, fs7, ss7, S7⟩ := h
        obtain ⟨e, he, rfl⟩ := vns_get hy
        obtain ⟨he1, he2⟩ := Tj.mem_adj.mp (List.mem_of_getElem? he)
        have hft := fold_take (turn E l p) (iter n E l at_) (Tj.adj E p.1) i e he
        have okf := (hfold i).1
        have okfl := okf.len
        have hss7 : ss7.length ≤ 1000 := by
          rw [S7.sr.len, List.length_map]
          have h1 := fold_len (E := E) (w := l) p ((Tj.adj E p.1).take i) (iter n E l at_)
          have h2 := adj_len E p.1
          have h3 : ((Tj.adj E p.1).take i).length ≤ (Tj.adj E p.1).length := by rw [List.length_take]; omega
          have h4 : at_ * E.length ≤ 30 * 20 := Nat.mul_le_mul (by omega) hE20
          omega
        have hfs7 : fs7.length ≤ 1000 := by
          rw [S7.fr.len, List.length_map]
          omega
        rw [hft]
        have hdk : (dkv (((Tj.adj E p.1).take i).foldl (turn E l p) (iter n E l at_)).1).length ≤ 1000 := by rw [dkv_len]; omega
        have hpin := (hfold i).2 p hpm
        generalize ((Tj.adj E p.1).take i).foldl (turn E l p) (iter n E l at_) = st at S7 okf hdk hpin ⊢
        have sm7 : Same M H7 := sm1.trans S7.e.hh
        obtain ⟨ea, hea, hee⟩ := w4 e he1
        obtain ⟨rq, hrq, hrr⟩ := row (e := e) hplt.2 he1
        have m17 : Same M1 H7 := S7.e.mh0
        refine ⟨.ref x, rfl, x, T.Web, dx, _, .ref t, rfl, sm7 _ _ w1, T.clWeb, T.noWeb_own_ties, rfl, vn e, rfl, t, ts, e, .ref ea, rfl, rfl, sm7 _ _ w2, hea, ea, _, 1, vn (Tj.tgt E e), rfl, rfl, sm7 _ _ hee, rfl,
          .ref ra, rfl, vn p.2, rfl, ra, rs, p.2, .ref rq, rfl, rfl, m17 _ _ hra, hrq, vn e, rfl, rq, _, e, vn (stepW l p.2 e), rfl, rfl, m17 _ _ hrr, rowv he1, by show 2 ≤ sizeLine; decide, fun la H8 n8 => ?_⟩
        have S8 := S7.new n8
        have hla8 : upd M7 la (.tup [vn (Tj.tgt E e), vn (stepW l p.2 e)]) la = some (.tup [vn (Tj.tgt E e), vn (stepW l p.2 e)]) := upd_same
        generalize upd M7 la (.tup [vn (Tj.tgt E e), vn (stepW l p.2 e)]) = M8 at S8 hla8
        have ha8 : H8 a = some (.lst (vns l)) := n8.same _ _ (sm7 _ _ ha)
        refine ⟨.ref la, rfl, la, _, 1, vn (stepW l p.2 e), rfl, rfl, n8.at, rfl, .ref a, rfl, a, _, rfl, .inl ha8, stepW l p.2 e, (vns l).length, rfl, rfl, decide (stepW l p.2 e < l.length), by rw [vns_len], ?_⟩
        by_cases hlt : stepW l p.2 e < l.length
        · rw [decide_eq_true hlt]
          refine iteT ?_
          have htn : turn E l p st e = (if later E l p e ∈ st.1 then st.1 else st.1 ++ [later E l p e], st.2 ++ [(p, later E l p e, e)]) := by
            unfold turn
            rw [if_pos (show (later E l p e).2 < l.length from hlt)]
          refine ⟨.ref so, rfl, .inl ⟨rfl, _, SqL.of S8.s_⟩, vn p.1, rfl, vn p.2, rfl, by show 2 ≤ sizeLine; decide, fun c1 H9 n9 => ⟨.ref la, rfl, vn e, rfl, by show 3 ≤ sizeLine; decide, fun c2 H10 n10 => ?_⟩⟩
          have S9 := S8.new n9
          have e89 : Same M8 (upd M8 c1 (.tup [vn p.1, vn p.2])) := .new (S8.e.mh.free n9.free)
          have hc19 : upd M8 c1 (.tup [vn p.1, vn p.2]) c1 = some (.tup [vn p.1, vn p.2]) := upd_same
          have hla9 := e89 _ _ hla8
          generalize upd M8 c1 (.tup [vn p.1, vn p.2]) = M9 at S9 e89 hc19 hla9
          have S10 := S9.new n10
          have e910 : Same M9 (upd M9 c2 (.tup [.ref c1, .ref la, vn e])) := .new (S9.e.mh.free n10.free)
          have hc210 : upd M9 c2 (.tup [.ref c1, .ref la, vn e]) c2 = some (.tup [.ref c1, .ref la, vn e]) := upd_same
          have hc110 := e910 _ _ hc19
          have hla10 := e910 _ _ hla9
          generalize upd M9 c2 (.tup [.ref c1, .ref la, vn e]) = M10 at S10 e910 hc110 hla10 hc210
          refine ⟨so, ss7, .ref c2, rfl, rfl, S10.s_, small400 hss7, fun H11 w11 => ?_⟩
          have rla : Rp M10 (.ref la) (eP (later E l p e)) := .of_p hla10
          have S11 := S10.addS (t := (p, later E l p e, e)) w11 (.tup hc210 (.cons (.of_p hc110) (.cons rla (.cons (.int _) .nil))))
          have hla11 : H11 la = some (.tup [vn (later E l p e).1, vn (later E l p e).2]) := S11.e.mh _ _ hla10
          rw [htn]
          refine ⟨.ref la, rfl, .ref ko, rfl, ko, _, rfl, dget_p S11.k_ hla11 rfl, !decide (later E l p e ∈ st.1), by rw [dkv_get]; by_cases z : later E l p e ∈ st.1 <;> simp [z], ?_⟩
          by_cases hmem : later E l p e ∈ st.1
          · rw [decide_eq_true hmem, if_pos hmem]
            exact iteF ⟨⟨_, _, _, rfl⟩, M10, fs7, _, S11⟩
          · rw [decide_eq_false hmem, if_neg hmem]
            refine iteT ?_
            refine ⟨.ref ko, rfl, .ref la, rfl, ko, _, kp (later E l p e), la, rfl, rfl, S11.k_, hla11, small400 hdk, fun H12 w12 => ?_⟩
            rw [dkv_new hmem] at w12
            have hfo12 : H12 fo = some (.lst fs7) := w12.keep S11.ne2.1 S11.f_
            refine ⟨.ref fo, rfl, .inl ⟨rfl, _, SqL.of hfo12⟩, .ref la, rfl, fo, fs7, .ref la, rfl, rfl, hfo12, small400 hfs7, fun H13 w13 => ?_⟩
            exact ⟨⟨_, _, _, rfl⟩, M10, _, _, S11.addF w12 w13 rla⟩
        · rw [decide_eq_false hlt]
          have htn : turn E l p st e = st := by
            unfold turn
            rw [if_neg (show ¬ (later E l p e).2 < l.length from hlt)]
          rw [htn]
          exact iteF ⟨⟨_, _, _, rfl⟩, M8, fs7, ss7, S8⟩
      · obtain ⟨⟨v8, v10, v11, rfl⟩, M7, fs7, ss7, S7⟩ := h
        rw [vns_len, List.take_of_length_le (Nat.le_refl _)] at S7
        refine ⟨n + l.length + 1 - (at_ + 1), by omega, at_ + 1, ⟨_, _, _, _, _, rfl⟩, fun j hj => ?_, ⟨M7, fs7, ss7, ?_⟩, rfl⟩
        · by_cases e : j = at_
          · rw [e]; exact hat'
          · exact hgo j (by omega)
        · rw [hiter]
          exact S7
    · rw [decide_eq_false hat]
      refine no _ ?_
      refine ⟨.ref fo, rfl, .ref so, rfl, by show 2 ≤ sizeLine; decide, fun rt H7 n7 => ?_⟩
      have ef : Ext M1 H1 (frz M6 H6 [fo, so]) H6 := S.e.puts fun y hy => by
        rcases List.mem_cons.mp hy with z | hy
        · rw [z]; exact ⟨S.f0, S.fm⟩
        · rw [List.mem_singleton] at hy
          rw [hy]; exact ⟨S.s0, S.sm⟩
      have sfr : Same M6 (frz M6 H6 [fo, so]) := frz_same fun y hy => by
        rcases List.mem_cons.mp hy with z | hy
        · rw [z]; exact S.fm
        · rw [List.mem_singleton] at hy
          rw [hy]; exact S.sm
      have hfo' : frz M6 H6 [fo, so] fo = some (.lst fs) := by rw [frz_in (by simp)]; exact S.f_
      have hso' : frz M6 H6 [fo, so] so = some (.lst ss) := by rw [frz_in (by simp)]; exact S.s_
      have eg := Ext.grow (o := .tup [.ref fo, .ref so]) ef.mh n7.free
      rw [← n7.eq] at eg
      have sg : Same (frz M6 H6 [fo, so]) (upd (frz M6 H6 [fo, so]) rt (.tup [.ref fo, .ref so])) := .new (ef.mh.free n7.free)
      refine q at_ ⟨hgo, by omega⟩ _ _ _ (e1.trans (ef.trans eg)) (.tup upd_same (.cons ?_ (.cons ?_ .nil)))
      · exact .lst (sg _ _ hfo') ((S.fr.s sfr).s sg)
      · exact .lst (sg _ _ hso') ((S.sr.s sfr).s sg)
end
end K31
namespace K31
open PySem L2 Pd Km
def numT (S : List Sd) (ss : List Stp) : List Tr := ss.map fun t => (S.idxOf t.1, S.idxOf t.2.1, t.2.2)
def prodS (n : Nat) (E : List (Nat × Nat)) (l : List Nat) (N : Nat) : List Sd := srtP (iter n E l N).1
def prodT (n : Nat) (E : List (Nat × Nat)) (l : List Nat) (N : Nat) : List Tr := srtT (numT (prodS n E l N) (iter n E l N).2)
theorem srtP_perm (l : List Sd) : (srtP l).Perm l := List.mergeSort_perm _ _
theorem srtT_perm (l : List Tr) : (srtT l).Perm l := List.mergeSort_perm _ _
theorem fin_le {n : Nat} {E : List (Nat × Nat)} {l : List Nat} {N : Nat} (hE : Pd.Web n E) (hl : 0 < l.length) (h : Fin n E l N) : N ≤ n + l.length := by
  cases N with
  | zero => exact Nat.zero_le _
  | succ k =>
    have h1 := h.go k (by omega)
    have h2 := (iter_ok hE hl k fun j hj => h.go j (by omega)).len
    omega
theorem idx_lt {S : List Sd} {q : Sd} (h : q ∈ S) : S.idxOf q < S.length := List.idxOf_lt_length_of_mem h
def pOf (ss : List Tr) (p : List Nat) : Option (List Nat × List Nat) := if within p ss = [] then none else some (p, dis ((within p ss).map (·.2.2)))
def partsOf (ss : List Tr) (ps : List (List Nat)) : List (List Nat × List Nat) := ps.filterMap (pOf ss)
noncomputable def partsW (n : Nat) (ss : List Tr) : List (List Nat × List Nat) := partsOf ss (Tj.sccs n (edges ss))
theorem partsOf_take {ss : List Tr} {ps : List (List Nat)} {i : Nat} {p : List Nat} (h : ps[i]? = some p) : partsOf ss (ps.take (i + 1)) = partsOf ss (ps.take i) ++ (pOf ss p).toList := by
  unfold partsOf
  rw [List.take_add_one, h, List.filterMap_append]
  congr 1
section
variable {P : Program} {w : World} {K : PySem.W.Frag} {mg : PySem.Str → Option Value} {base : Heap}

def sp_product_of (W : Addr) : Sp := fun vs H Q _ => ∃ (M : Hp) (x a : Addr) (n : Nat) (E : List (Nat × Nat)) (l : List Nat), vs = [.ref x, .ref a] ∧ Same M H ∧ WebAt W M x n E ∧ M a = some (.lst (vns l)) ∧
  Jn E l ∧ Pd.Web n E ∧ n ≤ 10 ∧ E.length ≤ 20 ∧ l.length ≤ 20 ∧ ∀ N, Fin n E l N → ∀ M' H' v, Ext M H M' H' → Rp M' v (.tuple [ePs (prodS n E l N), eTs (prodT n E l N)]) → Q v H'
theorem ok_product_of (T : Tx K mg) : FnOk P w K mg base CX0 4 T.product_of.f T.product_of.fd ["web", "walk"] (sp_product_of T.Web) := by
  refine T.product_of.F.ok sc_product_of (fun vs H Q E h => ?_) (fun cdv A outer s H vs Q E' hr h => ?_)
  · obtain ⟨M, x, a, n, E, l, rfl, _⟩ := h
    rfl
  · obtain ⟨M, x, a, n, E, l, rfl, sm, hw, ha, hj, hE, hn, hE20, hl20, q⟩ := h
    have hl1 : 0 < l.length := by
      cases l with
      | nil => exact absurd rfl hj.ne
      | cons _ _ => simp
    refine ⟨_, (pss_cons (ps_asg (pe_call (ok_standings_from T) (hr.mono (by decide)) (by rfl) T.standings_from.g T.standings_from.F.kp T.standings_from.b .nil pass0 (pa_cons (pv 0) (pa_cons (pv 1) pa_nil))) (pg_tupU (n := 2) (by rfl) (pgs_cons (pg_name (i := 2) sc_product_of.nd rfl (Or.inl rfl)) (pgs_cons (pg_name (i := 3) sc_product_of.nd rfl (Or.inl rfl)) pgs_nil))))
    (pss_cons (ps_asg (pe_tupU (pa_cons (pe_callB (cr_sortP hr.units) (by rfl) T.n_sorted (by decide +kernel) (pa_cons (pv 2) pa_nil)) (pa_cons pe_dnewTU pa_nil))) (pg_tupU (n := 2) (by rfl) (pgs_cons (pg_name (i := 4) sc_product_of.nd rfl (Or.inl rfl)) (pgs_cons (pg_name (i := 5) sc_product_of.nd rfl (Or.inr rfl)) pgs_nil))))
    (pss_cons (ps_for PassesOwn.never rfl (pi_enum (by rfl) T.n_enumerate (pa_cons (pv 4) pa_nil)) (pg_tupU (n := 2) (by rfl) (pgs_cons (pg_name (i := 6) sc_product_of.nd rfl (Or.inl rfl)) (pgs_cons (pg_name (i := 7) sc_product_of.nd rfl (Or.inl rfl)) pgs_nil)))
      (pss_one (ps_dputT (hu_of hr) (pv 5) (pv 7) (pv 6) rfl)))
    (pss_one (ps_ret (pe_tupU (pa_cons (pv 4) (pa_cons (pe_callB (cr_sortT hr.units) (by rfl) T.n_sorted (by decide +kernel) (pa_cons (pe_lc (own := [("near", 8), ("far", 9), ("tie", 10)]) rfl sc_product_of.nd (pi_list (pv 3)) (blkOk_by (N := N_product_of) (sc := defScope s_product_of) (by decide +kernel)) (fun _ _ _ _ _ => (pg_tupU (n := 3) (by rfl) (pgs_cons (pg_name (i := 8) sc_product_of.nd rfl (by first | exact Or.inl rfl | exact Or.inr rfl)) (pgs_cons (pg_name (i := 9) sc_product_of.nd rfl (by first | exact Or.inl rfl | exact Or.inr rfl)) (pgs_cons (pg_name (i := 10) sc_product_of.nd rfl (by first | exact Or.inl rfl | exact Or.inr rfl)) pgs_nil))))) (fun _ _ _ _ _ => pts_nil) (fun _ _ _ _ _ => (pe_tupU (pa_cons (pe_dget (hu_of hr) (pv 5) (pv 8) (fun _ _ => rfl)) (pa_cons (pe_dget (hu_of hr) (pv 5) (pv 9) (fun _ _ => rfl)) (pa_cons (pv 10) pa_nil)))))) pa_nil)) pa_nil)))))))), ?_⟩
    refine ⟨.ref x, rfl, .ref a, rfl, M, x, a, n, E, l, rfl, sm, hw, ha, hj, hE, hn, hE20, hl20, fun N hN M1 H1 v e1 r1 => ?_⟩
    obtain ⟨tl, x1, x2, rfl, htl, hx1, hx2⟩ := r1.tt_inv
    obtain ⟨fo, fs, rfl, hfo, hfs⟩ := hx1.list_inv
    obtain ⟨so, ss, rfl, hso, hss⟩ := hx2.list_inv
    have ok := iter_ok hE hl1 N hN.go
    have okl := ok.len
    have hNl := fin_le hE hl1 hN
    have hil := iter_len n E l N
    have hil2 : N * E.length ≤ 30 * 20 := Nat.mul_le_mul (by omega) hE20
    have hssl : ss.length = (iter n E l N).2.length := by rw [hss.len, List.length_map]
    have q := q N hN
    have hSp : (prodS n E l N).Perm (iter n E l N).1 := srtP_perm _
    have hSnd : (prodS n E l N).Nodup := hSp.nodup_iff.mpr ok.nd
    have hSl : (prodS n E l N).length ≤ 30 := by rw [hSp.length_eq]; omega
    refine ⟨tl, _, rfl, e1.mh _ _ htl, rfl, _, _, rfl, _, _, rfl, rfl, ?_⟩
    refine ⟨.ref fo, rfl, M1, (iter n E l N).1, fo, fs, rfl, e1.mh _ _ hfo, e1.mh, hfs, fun ys p H2 hy n2 => fun d H3 n3 => ⟨by show 2 ≤ sizeLine; decide, fun tp H4 n4 => ⟨tp, _, rfl, n4.at, rfl, _, _, rfl, _, _, rfl, rfl, ?_⟩⟩⟩
    change RpAll M1 ys ((prodS n E l N).map eP) at hy
    have e2 := Ext.grow (o := .lst ys) e1.mh n2.free
    rw [← n2.eq] at e2
    have hyl : ys.length = (prodS n E l N).length := by rw [hy.len, List.length_map]
    have hp2 : upd M1 p (.lst ys) p = some (.lst ys) := upd_same
    have hy2 := e2.rpa hy
    have m12 : Same M1 (upd M1 p (.lst ys)) := e2.mm
    generalize upd M1 p (.lst ys) = M2 at e2 hp2 hy2 m12
    have e4 : Ext M2 H2 M2 H4 := .of e2.mh (n3.same.trans n4.same)
    have dm : M2 d = none := e2.mh.free n3.free
    refine ⟨.ref p, rfl, p, _, rfl, SqL.of (e4.mh _ _ hp2), ?_⟩
    refine for_enumL (K := K) (a := p) (xs := ys) (fun i σ H => (∃ v6 v7 v8 v9 v10, σ = [some (.ref x), some (.ref a), some (.ref fo), some (.ref so), some (.ref p), some (.ref d), v6, v7, v8, v9, v10]) ∧ Ext M2 H2 M2 H ∧ H d = some (.dT (pkv (prodS n E l N) i)))
      ⟨⟨_, _, _, _, _, rfl⟩, e4, n4.same _ _ n3.at⟩ (fun i σ H _ h => SqL.of (h.2.1.mh _ _ hp2)) (fun i y Ta σ H hy' h H' nT => ?_) (fun σ H5 h => ?_)
    · obtain ⟨⟨v6, v7, v8, v9, v10, rfl⟩, e5, hd⟩ := h
      obtain ⟨dd, hdd, rd⟩ := hy2.at' hy'
      rw [List.getElem?_map] at hdd
      obtain ⟨pp, hpp, rfl⟩ := Option.map_eq_some_iff.mp hdd
      obtain ⟨b, rfl, hb⟩ := rd.p_inv
      have hi : i < (prodS n E l N).length := (List.getElem?_eq_some_iff.mp hpp).1
      have hgd : (prodS n E l N).getD i (0, 0) = pp := by rw [List.getD_eq_getElem?_getD, hpp]; rfl
      have eT : Ext M2 H2 M2 H' := e5.trans (.of e5.mh nT.same)
      refine ⟨Ta, _, rfl, nT.at, rfl, _, _, rfl, _, _, rfl, rfl, ?_⟩
      refine ⟨vn i, rfl, .ref d, rfl, .ref b, rfl, d, _, kp pp, b, rfl, rfl, nT.same _ _ hd, eT.mh _ _ hb, small400 (by rw [pkv_len]; omega), fun H6 w6 => ⟨⟨_, _, _, _, _, rfl⟩, by rw [w6.eq]; exact eT.write n3.free dm, ?_⟩⟩
      rw [w6.at, ← hgd, pkv_put hSnd hi]
    · obtain ⟨⟨v6, v7, v8, v9, v10, rfl⟩, e5, hd⟩ := h
      rw [hyl] at hd
      refine ⟨.ref p, rfl, .ref so, rfl, so, rfl, ⟨_, SqL.of (e5.mh _ _ (m12 _ _ hso))⟩, fun D hD => ?_⟩
      refine lc_listM (K := K) (a := so) e5.mh hD (e5.mh _ _ (m12 _ _ hso)) (small400 (by omega)) (fun i => (numT (prodS n E l N) ((iter n E l N).2.take i)).map eT) rfl (fun i y M6 H6 hy' e6 hm6 Yes No yes no => ?_) (fun H6 h6 => ?_)
      · obtain ⟨dd, hdd, rd⟩ := hss.at' hy'
        rw [List.getElem?_map] at hdd
        obtain ⟨t, ht, rfl⟩ := Option.map_eq_some_iff.mp hdd
        obtain ⟨ta, b1, b2, rfl, hta, hb1, hb2⟩ := rd.s_inv
        have m16 : Same M1 H6 := m12.trans e6.mh0
        obtain ⟨o1, o2, _⟩ := ok.steps t (List.mem_of_getElem? ht)
        have i1 := idx_lt (hSp.mem_iff.mpr o1)
        have i2 := idx_lt (hSp.mem_iff.mpr o2)
        refine ⟨ta, _, rfl, m16 _ _ hta, rfl, _, _, rfl, _, _, rfl, _, _, rfl, rfl, rfl, ?_⟩
        refine ⟨.ref d, rfl, .ref b1, rfl, d, vn ((prodS n E l N).idxOf t.1), rfl, dget_p (e6.hh _ _ hd) (m16 _ _ hb1) (by rw [pkv_get hSnd _ (Nat.le_refl _), if_pos i1]), .ref d, rfl, .ref b2, rfl, d, vn ((prodS n E l N).idxOf t.2.1), rfl, dget_p (e6.hh _ _ hd) (m16 _ _ hb2) (by rw [pkv_get hSnd _ (Nat.le_refl _), if_pos i2]), vn t.2.2, rfl, by show 3 ≤ sizeLine; decide, fun c H7 n7 => ?_⟩
        have e7 := Ext.grow (o := .tup [vn ((prodS n E l N).idxOf t.1), vn ((prodS n E l N).idxOf t.2.1), vn t.2.2]) e6.mh n7.free
        rw [← n7.eq] at e7
        refine yes _ _ _ (eT ((prodS n E l N).idxOf t.1, (prodS n E l N).idxOf t.2.1, t.2.2)) e7 (.of_t upd_same) ?_
        dsimp only
        rw [List.take_add_one, ht]
        unfold numT
        rw [List.map_append, List.map_append]
        rfl
      · obtain ⟨M6, acc, e6, l6, _, _, ra6, _⟩ := lc_end hD h6
        rw [hssl, List.take_of_length_le (Nat.le_refl _)] at ra6
        refine ⟨M6, numT (prodS n E l N) (iter n E l N).2, D, acc, rfl, l6, e6.mh, ra6, fun ys2 p2 H7 hy2' n7 => ⟨by show 2 ≤ sizeLine; decide, fun rt H8 n8 => ?_⟩⟩
        have e7 := Ext.grow (o := .lst ys2) e6.mh n7.free
        rw [← n7.eq] at e7
        have e8 := Ext.grow (o := .tup [.ref p, .ref p2]) e7.mh n8.free
        rw [← n8.eq] at e8
        refine q _ _ _ (e1.trans (e2.trans (e5.trans (e6.trans (e7.trans e8))))) (.tup upd_same (.cons ?_ (.cons ?_ .nil)))
        · exact .lst (e8.mm _ _ (e7.mm _ _ (e6.mm _ _ hp2))) (e8.rpa (e7.rpa (e6.rpa hy2)))
        · exact .lst (e8.mm _ _ upd_same) (e8.rpa (e7.rpa hy2'))

def sp_parts_of (W : Addr) : Sp := fun vs H Q _ => ∃ (M : Hp) (v : V) (st : List Sd) (ss : List Tr), vs = [v] ∧ Same M H ∧ Rp M v (.tuple [ePs st, eTs ss]) ∧ st.length ≤ 100 ∧ ss.length ≤ 1000 ∧ (∀ t ∈ ss, t.1 < st.length ∧ t.2.1 < st.length ∧ t.2.2 < 63) ∧
  ∀ M' H' v, Ext M H M' H' → Rp M' v (eParts (partsW st.length ss)) → Q v H'
theorem ok_parts_of_product (T : Tx K mg) : FnOk P w K mg base CX0 4 T.parts_of_product.f T.parts_of_product.fd ["told"] (sp_parts_of T.Web) := by
  refine T.parts_of_product.F.ok sc_parts_of_product (fun vs H Q E h => ?_) (fun cdv A outer s H vs Q E' hr h => ?_)
  · obtain ⟨M, v, st, ss, rfl, _⟩ := h
    rfl
  · obtain ⟨M, v, st, ss, rfl, sm, hv, hst, hss, hlt, q⟩ := h
    obtain ⟨tl, x1, x2, rfl, htl, hx1, hx2⟩ := id hv.tt_inv
    obtain ⟨a, as, rfl, _⟩ := id hx1.list_inv
    obtain ⟨b, bs, rfl, _⟩ := id hx2.list_inv
    refine ⟨_, (pss_cons (ps_set (i := 1) sc_parts_of_product.nd rfl (Or.inl rfl) (pe_lstU pa_nil))
    (pss_cons (ps_for PassesOwn.never rfl (pi_list (pe_call (ok_parts_by_search T) (hr.mono (by decide)) (by rfl) T.parts_by_search.g T.parts_by_search.F.kp T.parts_by_search.b .nil pass0 (pa_cons (pe_mk (pe_make T.mkSteps (ok_Steps_init T) (hr.mono (by decide)) rfl T.gSteps T.Steps_init.b .nil pass0 (PA.cl (pa_cons (pe_ix ix_tupU (pv 0) pe_int (fun _ _ => rfl)) (pa_cons (pe_ix ix_tupU (pv 0) pe_int (fun _ _ => rfl)) pa_nil))))) pa_nil))) (pg_name (i := 2) sc_parts_of_product.nd rfl (Or.inl rfl))
      (pss_cons (ps_set (i := 3) sc_parts_of_product.nd rfl (Or.inl rfl) (pe_call (ok_steps_within T) (hr.mono (by decide)) (by rfl) T.steps_within.g T.steps_within.F.kp T.steps_within.b .nil pass0 (pa_cons (pv 0) (pa_cons (pv 2) pa_nil))))
    (pss_one (ps_if (pt_cmpR (op_neU hr.units) (pv 3) (pe_lstU pa_nil) (nomark _)) (pss_one (ps_expr (pe_bm PySem.F.plainAttrs_list PySem.F.slot_list_append PySem.F.type_list_append mt_appendU (pv 1) (pa_cons (pe_tupU (pa_cons (pv 2) (pa_cons (pe_callB (cr_sortSetN rfl) (by rfl) T.n_sorted (by decide +kernel) (pa_cons (pe_callTy (cr_setN rfl) (by rfl) T.n_set (by decide +kernel) (pa_cons (pe_lc (own := [("step", 4)]) rfl sc_parts_of_product.nd (pi_list (pv 3)) (blkOk_by (N := N_parts_of_product) (sc := defScope s_parts_of_product) (by decide +kernel)) (fun _ _ _ _ _ => (pg_name (i := 4) sc_parts_of_product.nd rfl (by first | exact Or.inl rfl | exact Or.inr rfl))) (fun _ _ _ _ _ => pts_nil) (fun _ _ _ _ _ => (pe_ix ix_tupU (pv 4) pe_int (fun _ _ => rfl)))) pa_nil)) pa_nil)) pa_nil))) pa_nil)))) pss_nil))))
    (pss_one (ps_ret (pv 1))))), ?_⟩
    refine ⟨Nat.zero_le _, fun fo H1 n1 => ?_⟩
    have s1 : Same M H1 := sm.trans n1.same
    refine ⟨.ref tl, rfl, tl, _, 0, .ref a, rfl, rfl, s1 _ _ htl, rfl, .ref tl, rfl, tl, _, 1, .ref b, rfl, rfl, s1 _ _ htl, rfl, fun x dx H2 f1 f2 ne eH => ?_⟩
    have sH : Same H1 H2 := by rw [eH]; exact (Same.new f2).trans (.new (by rw [upd_ne ne.symm]; exact f1))
    refine ⟨M, H1, x, a, b, st, ss, rfl, ⟨sH, s1, f1, dx, by rw [eH, upd_same]⟩, hx1, hx2, hst, by omega, fun t ht => (hlt t ht).1, fun M3 H3 e3 g3 => ⟨rfl, ?_⟩⟩
    have hedge : ∀ e, e < (edges ss).length → Tj.tgt (edges ss) e < st.length := fun e he => by
      have he' : e < ss.length := by unfold edges at he; rwa [List.length_map] at he
      unfold Tj.tgt edges
      rw [List.getD_eq_getElem?_getD, List.getElem?_map, List.getElem?_eq_getElem he']
      exact (hlt _ (List.getElem_mem he')).2.1
    refine ⟨M3, x, st.length, edges ss, rfl, e3.mh, g3, hst, hedge, fun M4 H4 v e4 r4 => ?_⟩
    obtain ⟨pt, ps, rfl, hpt, hps⟩ := r4.list_inv
    have e14 := e3.trans e4
    have hfo4 := e14.hh _ _ n1.at
    have fm4 : M4 fo = none := e14.off (sm.free n1.free) n1.at
    have e04 : Ext M H M4 H4 := (Ext.of sm n1.same).trans e14
    have hpsl : ps.length = (Tj.sccs st.length (edges ss)).length := by rw [hps.len, List.length_map]
    have hscl : (Tj.sccs st.length (edges ss)).length ≤ 100 := by
      unfold Tj.sccs Tj.reps
      rw [List.length_map]
      exact Nat.le_trans (List.length_filter_le _ _) (by rw [List.length_range]; exact hst)
    refine ⟨pt, rfl, ⟨_, SqL.of (e4.mh _ _ hpt)⟩, ?_⟩
    refine for_list (K := K) (a := pt) (xs := ps) (fun i σ H' => (∃ v2 v3 v4, σ = [some (.ref tl), some (.ref fo), v2, v3, v4]) ∧ ∃ M' fs, Ext M H M' H' ∧ Same M4 M' ∧ M' fo = none ∧ H' fo = some (.lst fs) ∧ fs.length ≤ i ∧ RpAll M' fs ((partsOf ss ((Tj.sccs st.length (edges ss)).take i)).map ePart))
      ⟨⟨_, _, _, rfl⟩, M4, [], e04, .refl _, fm4, hfo4, Nat.le_refl _, .nil⟩ (fun i σ H' _ h => SqL.of ?_) (fun i y σ H5 hy h => ?_) (fun σ H5 h => ?_)
    · obtain ⟨_, M', fs, e, m4, _⟩ := h
      exact e.mh _ _ (m4 _ _ hpt)
    · obtain ⟨⟨v2, v3, v4, rfl⟩, M5, fs, e5, m45, fm, hfo, hfl, hfs⟩ := h
      obtain ⟨dd, hdd, rd⟩ := hps.at' hy
      rw [List.getElem?_map] at hdd
      obtain ⟨p, hp, rfl⟩ := Option.map_eq_some_iff.mp hdd
      obtain ⟨pb, rfl, hpb⟩ := rd.ns_inv
      have hi : i < ps.length := (List.getElem?_eq_some_iff.mp hy).1
      have hpl : p.length ≤ 100 := by
        have := List.mem_of_getElem? hp
        unfold Tj.sccs at this
        obtain ⟨r, _, rfl⟩ := List.mem_map.mp this
        unfold Tj.cls
        exact Nat.le_trans (List.length_filter_le _ _) (by rw [List.length_range]; exact hst)
      have htk := partsOf_take (ss := ss) hp
      refine ⟨.ref tl, rfl, .ref pb, rfl, M5, .ref tl, pb, st, ss, p, rfl, e5.mh, e5.rp hv, m45 _ _ hpb, by omega, by omega, fun M6 H6 v e6 r6 => ?_⟩
      obtain ⟨ib, ixs, rfl, hib, hixs⟩ := r6.list_inv
      have fm6 : M6 fo = none := e6.off fm hfo
      have hfo6 := e6.hh _ _ hfo
      refine ⟨.ref ib, rfl, Nat.zero_le _, fun z H7 n7 => ?_⟩
      refine ⟨eTs (within p ss), .list [], r6.s (e6.mh.trans n7.same), .lst n7.at .nil, (sh_ts _).ok, sh_nil.ok, !(within p ss).isEmpty, by rw [eqv_nil], ?_⟩
      have e7 : Ext M H M6 H7 := (e5.trans e6).trans (.of e6.mh n7.same)
      have hfo7 := n7.same _ _ hfo6
      by_cases hw0 : within p ss = []
      · rw [show (within p ss).isEmpty = true by rw [hw0]; rfl]
        refine iteF ⟨⟨_, _, _, rfl⟩, M6, fs, e7, m45.trans e6.mm, fm6, hfo7, by omega, ?_⟩
        rw [htk, show pOf ss p = none from if_pos hw0]
        rw [show (none : Option (List Nat × List Nat)).toList = [] from rfl, List.append_nil]
        exact e6.rpa hfs
      · rw [show (within p ss).isEmpty = false by simpa using hw0]
        refine iteT ?_
        have hwl : (within p ss).length ≤ 1000 := Nat.le_trans (List.length_filter_le _ _) hss
        have hixl : ixs.length = (within p ss).length := by rw [hixs.len, List.length_map]
        have m07 : Same M6 H7 := e7.mh
        refine ⟨.ref fo, rfl, .inl ⟨rfl, _, SqL.of hfo7⟩, .ref pb, rfl, .ref ib, rfl, ib, rfl, ⟨_, SqL.of (m07 _ _ hib)⟩, fun D hD => ?_⟩
        refine lc_listM (K := K) (a := ib) m07 hD (m07 _ _ hib) (small400 (by omega)) (fun j => (((within p ss).take j).map (·.2.2)).map eN) rfl (fun j y M8 H8 hy' e8 hm8 Yes No yes no => ?_) (fun H8 h8 => ?_)
        · obtain ⟨dd, hdd, rd⟩ := hixs.at' hy'
          rw [List.getElem?_map] at hdd
          obtain ⟨t, ht, rfl⟩ := Option.map_eq_some_iff.mp hdd
          obtain ⟨ta, rfl, hta⟩ := rd.t_inv
          refine ⟨rfl, .ref ta, rfl, ta, _, 2, vn t.2.2, rfl, rfl, e8.mh0 _ _ hta, rfl, ?_⟩
          refine yes _ _ M8 (eN t.2.2) (.refl e8.mh) (.int _) ?_
          dsimp only
          rw [List.take_add_one, ht, List.map_append, List.map_append]
          rfl
        · obtain ⟨M8, acc, e8, l8, _, _, ra8, _⟩ := lc_end hD h8
          rw [hixl, List.take_of_length_le (Nat.le_refl _)] at ra8
          have hacc := ra8.nats
          subst hacc
          have hb63 : ∀ x ∈ (within p ss).map (·.2.2), x < 63 := fun x hx => by
            obtain ⟨t, ht, rfl⟩ := List.mem_map.mp hx
            exact (hlt t ((List.mem_filter.mp ht).1)).2.2
          refine ⟨D, (within p ss).map (·.2.2), rfl, l8, by rw [List.length_map]; exact hwl, hb63, fun sa c H9 hc n9 => ?_⟩
          refine ⟨sa, (within p ss).map (·.2.2), c, rfl, n9.at, hc, fun x hx => by have := hb63 x hx; omega, fun da H10 n10 => ⟨by show 2 ≤ sizeLine; decide, fun tp H11 n11 => ?_⟩⟩
          have e8' : Ext M H M8 H8 := e7.trans e8
          have fm8 : M8 fo = none := e8.off fm6 hfo7
          have hfo8 := e8.hh _ _ hfo7
          have e9 : Ext M H M8 H9 := e8'.trans (.of e8'.mh n9.same)
          have g10 := Ext.grow (o := .lst (vns (dis ((within p ss).map (·.2.2))))) e9.mh n10.free
          rw [← n10.eq] at g10
          have e10 := e9.trans g10
          have g11 := Ext.grow (o := .tup [.ref pb, .ref da]) e10.mh n11.free
          rw [← n11.eq] at g11
          have e11 := e10.trans g11
          have hfo9 := n9.same _ _ hfo8
          have hfo10 := n10.same _ _ hfo9
          have hfo11 := n11.same _ _ hfo10
          have fm11 := g11.off (g10.off fm8 hfo9) hfo10
          have mm : Same M5 (upd (upd M8 da (.lst (vns (dis ((within p ss).map (·.2.2)))))) tp (.tup [.ref pb, .ref da])) := ((e6.mm.trans e8.mm).trans g10.mm).trans g11.mm
          refine ⟨fo, fs, .ref tp, rfl, rfl, hfo11, small400 (by omega), fun H12 w12 => ⟨⟨_, _, _, rfl⟩, _, _, by rw [w12.eq]; exact e11.write n1.free fm11, m45.trans mm, fm11, w12.at, ?_, ?_⟩⟩
          · rw [List.length_append, List.length_singleton]
            omega
          · rw [htk, show pOf ss p = some (p, dis ((within p ss).map (·.2.2))) from if_neg hw0, List.map_append]
            refine (hfs.s mm).app (.one (.tup upd_same (.cons (.of_ns (mm _ _ (m45 _ _ hpb))) (.cons (.of_ns (g11.mm _ _ upd_same)) .nil))))
    · obtain ⟨⟨v2, v3, v4, rfl⟩, M5, fs, e5, m45, fm, hfo, hfl, hfs⟩ := h
      rw [hpsl, List.take_of_length_le (Nat.le_refl _)] at hfs
      exact ⟨.ref fo, rfl, q _ _ _ (e5.put n1.free fm hfo) (.lst upd_same (hfs.s (.new fm)))⟩

def sp_want_asked (W : Addr) : Sp := fun vs H Q _ => ∃ (M : Hp) (x a : Addr) (n : Nat) (E : List (Nat × Nat)) (l : List Nat), vs = [.ref x, .ref a] ∧ Same M H ∧ WebAt W M x n E ∧ (M a = some (.lst (vns l)) ∨ M a = some (.tup (vns l))) ∧
  Jn E l ∧ l.length ≤ 400 ∧ n ≤ 100 ∧ (∀ e, e < E.length → Tj.tgt E e < n) ∧ 0 < E.length ∧ (Tj.sccs n E).length = 1 ∧ ∀ M' H' t p, Ext M H M' H' → M' t = some (.tup [.ref x, .ref p]) → M' p = some (.lst (vns l)) → Q (.ref t) H'
theorem ok_want_asked (T : Tx K mg) : FnOk P w K mg base CX0 6 T.want_asked.f T.want_asked.fd ["web", "walk"] (sp_want_asked T.Web) := by
  refine T.want_asked.F.ok sc_want_asked (fun vs H Q E h => ?_) (fun cdv A outer s H vs Q E' hr h => ?_)
  · obtain ⟨M, x, a, n, E, l, rfl, _⟩ := h
    rfl
  · obtain ⟨M, x, a, n, E, l, rfl, sm, hw, ha, hj, hl, hn, hE, hE0, h1, q⟩ := h
    obtain ⟨dx, t, f, g, ts, qs, w1, w2, w3, w4, w5, w6, w7⟩ := hw.get sm
    refine ⟨_, (pss_cons (ps_set (i := 2) sc_want_asked.nd rfl (Or.inl rfl) (pe_call (ok_want_web T) (hr.mono (by decide)) (by rfl) T.want_web.g T.want_web.F.kp T.want_web.b .nil pass0 (pa_cons (pv 0) pa_nil)))
    (pss_cons (ps_set (i := 3) sc_want_asked.nd rfl (Or.inl rfl) (pe_call (ok_want_walk T) (hr.mono (by decide)) (by rfl) T.want_walk.g T.want_walk.F.kp T.want_walk.b .nil pass0 (pa_cons (pv 2) (pa_cons (pv 1) pa_nil))))
    (pss_cons (ps_expr (pe_call (ok_want_close T) (hr.mono (by decide)) (by rfl) T.want_close.g T.want_close.F.kp T.want_close.b .nil pass0 (pa_cons (pv 2) pa_nil)))
    (pss_one (ps_ret (pe_tupU (pa_cons (pv 2) (pa_cons (pv 3) pa_nil)))))))), ?_⟩
    refine ⟨.ref x, rfl, x, dx, _, rfl, w1, ?_⟩
    refine ⟨.ref x, rfl, .ref a, rfl, M, x, a, n, E, l, rfl, sm, hw, ha, hj, hl, fun H2 p s2 f2 h2 => ?_⟩
    refine ⟨.ref x, rfl, M, x, n, E, rfl, sm.trans s2, hw, hn, hE, hE0, h1, fun H3 s3 => ?_⟩
    refine ⟨.ref x, rfl, .ref p, rfl, by show 2 ≤ sizeLine; decide, fun t H4 n4 => ?_⟩
    have e3 : Ext M H M H3 := .of sm (s2.trans s3)
    have e3' := e3.put f2 (sm.free f2) (s3 _ _ h2)
    have e4 := Ext.grow (o := .tup [.ref x, .ref p]) e3'.mh n4.free
    rw [← n4.eq] at e4
    exact q _ _ t p (e3'.trans e4) upd_same (e4.mm _ _ upd_same)

def sp_product (W : Addr) : Sp := fun vs H Q _ => ∃ (M : Hp) (x a : Addr) (n : Nat) (E : List (Nat × Nat)) (l : List Nat), vs = [.ref x, .ref a] ∧ Same M H ∧ WebAt W M x n E ∧ (M a = some (.lst (vns l)) ∨ M a = some (.tup (vns l))) ∧
  Jn E l ∧ Pd.Web n E ∧ n ≤ 10 ∧ E.length ≤ 20 ∧ l.length ≤ 20 ∧ 0 < E.length ∧ (Tj.sccs n E).length = 1 ∧ ∀ N, Fin n E l N → ∀ M' H' v, Ext M H M' H' → Rp M' v (.tuple [ePs (prodS n E l N), eTs (prodT n E l N)]) → Q v H'
theorem ok_product (T : Tx K mg) : FnOk P w K mg base CX0 7 T.product.f T.product.fd ["web", "walk"] (sp_product T.Web) := by
  refine T.product.F.ok sc_product (fun vs H Q E h => ?_) (fun cdv A outer s H vs Q E' hr h => ?_)
  · obtain ⟨M, x, a, n, E, l, rfl, _⟩ := h
    rfl
  · obtain ⟨M, x, a, n, E, l, rfl, sm, hw, ha, hj, hE, hn, hE20, hl20, hE0, h1, q⟩ := h
    refine ⟨_, (pss_cons (ps_asg (pe_call (ok_want_asked T) (hr.mono (by decide)) (by rfl) T.want_asked.g T.want_asked.F.kp T.want_asked.b .nil pass0 (pa_cons (pv 0) (pa_cons (pv 1) pa_nil))) (pg_tupU (n := 2) (by rfl) (pgs_cons (pg_name (i := 2) sc_product.nd rfl (Or.inl rfl)) (pgs_cons (pg_name (i := 3) sc_product.nd rfl (Or.inl rfl)) pgs_nil))))
    (pss_one (ps_ret (pe_call (ok_product_of T) (hr.mono (by decide)) (by rfl) T.product_of.g T.product_of.F.kp T.product_of.b .nil pass0 (pa_cons (pv 2) (pa_cons (pv 3) pa_nil)))))), ?_⟩
    refine ⟨.ref x, rfl, .ref a, rfl, M, x, a, n, E, l, rfl, sm, hw, ha, hj, by omega, by omega, hE.t, hE0, h1, fun M2 H2 t p e2 ht hp => ?_⟩
    refine ⟨t, _, rfl, e2.mh _ _ ht, rfl, _, _, rfl, _, _, rfl, rfl, ?_⟩
    refine ⟨.ref x, rfl, .ref p, rfl, M2, x, p, n, E, l, rfl, e2.mh, hw.same e2.mm, hp, hj, hE, hn, hE20, hl20, fun N hN M3 H3 v e3 r3 => ?_⟩
    exact q N hN _ _ _ (e2.trans e3) r3

def sp_parts_without (W : Addr) : Sp := fun vs H Q _ => ∃ (M : Hp) (x a : Addr) (n : Nat) (E : List (Nat × Nat)) (l : List Nat), vs = [.ref x, .ref a] ∧ Same M H ∧ WebAt W M x n E ∧ (M a = some (.lst (vns l)) ∨ M a = some (.tup (vns l))) ∧
  Jn E l ∧ Pd.Web n E ∧ n ≤ 10 ∧ E.length ≤ 20 ∧ l.length ≤ 20 ∧ 0 < E.length ∧ (Tj.sccs n E).length = 1 ∧ ∀ N, Fin n E l N → ∀ M' H' v, Ext M H M' H' → Rp M' v (eParts (partsW (prodS n E l N).length (prodT n E l N))) → Q v H'
theorem prod_ok {n : Nat} {E : List (Nat × Nat)} {l : List Nat} {N : Nat} (hE : Pd.Web n E) (hl1 : 0 < l.length) (hn : n ≤ 10) (hE20 : E.length ≤ 20) (hl20 : l.length ≤ 20) (hN : Fin n E l N) :
    (prodS n E l N).length ≤ 30 ∧ (prodT n E l N).length ≤ 600 ∧ ∀ t ∈ prodT n E l N, t.1 < (prodS n E l N).length ∧ t.2.1 < (prodS n E l N).length ∧ t.2.2 < 63 := by
  have ok := iter_ok hE hl1 N hN.go
  have okl := ok.len
  have hNl := fin_le hE hl1 hN
  have hil := iter_len n E l N
  have hil2 : N * E.length ≤ 30 * 20 := Nat.mul_le_mul (by omega) hE20
  have hSp : (prodS n E l N).Perm (iter n E l N).1 := srtP_perm _
  have hTp : (prodT n E l N).Perm (numT (prodS n E l N) (iter n E l N).2) := srtT_perm _
  refine ⟨by rw [hSp.length_eq]; omega, by rw [hTp.length_eq]; unfold numT; rw [List.length_map]; omega, fun t ht => ?_⟩
  have := hTp.mem_iff.mp ht
  unfold numT at this
  obtain ⟨u, hu, rfl⟩ := List.mem_map.mp this
  obtain ⟨o1, o2, o3, _⟩ := ok.steps u hu
  exact ⟨idx_lt (hSp.mem_iff.mpr o1), idx_lt (hSp.mem_iff.mpr o2), by show u.2.2 < 63; omega⟩
theorem ok_parts_without (T : Tx K mg) : FnOk P w K mg base CX0 7 T.parts_without.f T.parts_without.fd ["web", "walk"] (sp_parts_without T.Web) := by
  refine T.parts_without.F.ok sc_parts_without (fun vs H Q E h => ?_) (fun cdv A outer s H vs Q E' hr h => ?_)
  · obtain ⟨M, x, a, n, E, l, rfl, _⟩ := h
    rfl
  · obtain ⟨M, x, a, n, E, l, rfl, sm, hw, ha, hj, hE, hn, hE20, hl20, hE0, h1, q⟩ := h
    have hl1 : 0 < l.length := by
      cases l with
      | nil => exact absurd rfl hj.ne
      | cons _ _ => simp
    refine ⟨_, (pss_cons (ps_asg (pe_call (ok_want_asked T) (hr.mono (by decide)) (by rfl) T.want_asked.g T.want_asked.F.kp T.want_asked.b .nil pass0 (pa_cons (pv 0) (pa_cons (pv 1) pa_nil))) (pg_tupU (n := 2) (by rfl) (pgs_cons (pg_name (i := 2) sc_parts_without.nd rfl (Or.inl rfl)) (pgs_cons (pg_name (i := 3) sc_parts_without.nd rfl (Or.inl rfl)) pgs_nil))))
    (pss_one (ps_ret (pe_call (ok_parts_of_product T) (hr.mono (by decide)) (by rfl) T.parts_of_product.g T.parts_of_product.F.kp T.parts_of_product.b .nil pass0 (pa_cons (pe_call (ok_product_of T) (hr.mono (by decide)) (by rfl) T.product_of.g T.product_of.F.kp T.product_of.b .nil pass0 (pa_cons (pv 2) (pa_cons (pv 3) pa_nil))) pa_nil))))), ?_⟩
    refine ⟨.ref x, rfl, .ref a, rfl, M, x, a, n, E, l, rfl, sm, hw, ha, hj, by omega, by omega, hE.t, hE0, h1, fun M2 H2 t p e2 ht hp => ?_⟩
    refine ⟨t, _, rfl, e2.mh _ _ ht, rfl, _, _, rfl, _, _, rfl, rfl, ?_⟩
    refine ⟨.ref x, rfl, .ref p, rfl, M2, x, p, n, E, l, rfl, e2.mh, hw.same e2.mm, hp, hj, hE, hn, hE20, hl20, fun N hN M3 H3 v e3 r3 => ?_⟩
    obtain ⟨o1, o2, o3⟩ := prod_ok hE hl1 hn hE20 hl20 hN
    refine ⟨M3, v, prodS n E l N, prodT n E l N, rfl, e3.mh, r3, by omega, by omega, o3, fun M4 H4 v e4 r4 => ?_⟩
    exact q N hN _ _ _ ((e2.trans e3).trans e4) r4
end
end K31
namespace K31
open PySem L2
/-! The law's own defs: the pot. -/
def PotAt (H : Hp) (p : Addr) : Prop := ∃ x y : Int, H p = some (.lst [.int x, .int y]) ∧ 0 ≤ x ∧ 0 ≤ y ∧ y < 2147483564
theorem PotAt.fr {H H' : Hp} {p : Addr} {L : List Addr} (h : PotAt H p) (f : Fr L H H') (hp : p ∉ L) : PotAt H' p := by
  obtain ⟨x, y, e, r⟩ := h
  exact ⟨x, y, f.fr _ _ hp e, r⟩
theorem PotAt.same {H H' : Hp} {p : Addr} (h : PotAt H p) (s : Same H H') : PotAt H' p := by
  obtain ⟨x, y, e, r⟩ := h
  exact ⟨x, y, s _ _ e, r⟩
theorem PotAt.some {H : Hp} {p : Addr} (h : PotAt H p) : ∃ o, H p = some o := by
  obtain ⟨x, y, e, _⟩ := h
  exact ⟨_, e⟩
/-- the pot is written at, and else nothing of old -/
structure Pt (p : Addr) (M H M' H' : Hp) : Prop where
  fr : Fr [p] H H'
  mm : Same M M'
  mh : Same M' H'
  new : ∀ b o, M' b = some o → M b = some o ∨ H b = none
theorem Pt.of_ext {p : Addr} {M H M' H' : Hp} (e : Ext M H M' H') : Pt p M H M' H' := ⟨.same e.hh, e.mm, e.mh, e.new⟩
theorem Pt.of_fr {p : Addr} {M H H' : Hp} (f : Fr [p] H H') (s : Same M H) (hm : M p = none) : Pt p M H M H' :=
  ⟨f, .refl _, fun b o e => f.fr b o (fun z => by rw [List.mem_singleton] at z; rw [z, hm] at e; cases e) (s _ _ e), fun b o e => .inl e⟩
theorem Pt.trans {p : Addr} {M H M1 H1 M2 H2 : Hp} (a : Pt p M H M1 H1) (b : Pt p M1 H1 M2 H2) : Pt p M H M2 H2 :=
  ⟨a.fr.trans b.fr, a.mm.trans b.mm, b.mh, fun x y h => by
    rcases b.new x y h with k | k
    · exact a.new x y k
    · exact .inr (a.fr.dom x k)⟩
theorem Pt.off {p q : Addr} {M H M' H' : Hp} {o : HO} (a : Pt p M H M' H') (h : M q = none) (e : H q = some o) : M' q = none := by
  cases k : M' q with
  | none => rfl
  | some y =>
    rcases a.new q y k with z | z
    · rw [h] at z; cases z
    · rw [e] at z; cases z
theorem Pt.keep {p q : Addr} {M H M' H' : Hp} {o : HO} (a : Pt p M H M' H') (h : q ≠ p) (e : H q = some o) : H' q = some o := a.fr.fr _ _ (by rw [List.mem_singleton]; exact h) e
/-- one's own object is written at -/
theorem Pt.write {p q : Addr} {M H M' H' : Hp} {o : HO} (a : Pt p M H M' H') (h0 : H q = none) (h1 : M' q = none) : Pt p M H M' (upd H' q o) :=
  ⟨⟨fun b u n e => by
      rw [upd_ne (show b ≠ q from fun z => by rw [z, h0] at e; cases e)]
      exact a.fr.fr b u n e, fun b e => by
      by_cases z : b = q
      · rw [z]; exact h0
      · rw [upd_ne z] at e; exact a.fr.dom b e⟩, a.mm, a.mh.past h1, a.new⟩
theorem Pt.put {p q : Addr} {M H M' H' : Hp} {o : HO} (a : Pt p M H M' H') (h0 : H q = none) (h1 : M' q = none) (e : H' q = some o) : Pt p M H (upd M' q o) H' :=
  ⟨a.fr, a.mm.past (by
      cases k : M q with
      | none => rfl
      | some y => rw [a.mm _ _ k] at h1; cases h1), a.mh.put e, fun b y k => by
    by_cases hb : b = q
    · rw [hb]; exact .inr h0
    · rw [upd_ne hb] at k
      exact a.new b y k⟩
section
variable {P : Program} {w : World} {K : PySem.W.Frag} {mg : PySem.Str → Option Value} {base : Heap}

def sp_pot (K : PySem.W.Frag) : Sp := fun vs H Q _ => ∃ (a : Addr) (ns : List Int), vs = [.ref a, .int 0] ∧ SqL K H a (ns.map V.int) ∧ ∀ p H', Same H H' → H p = none → PotAt H' p → Q (.ref p) H'
theorem ok__law_pot (T : Tx K mg) : FnOk P w K mg base CX0 1 T._law_pot.f T._law_pot.fd ["_law_script", "_law_k"] (sp_pot K) := by
  refine T._law_pot.F.ok sc__law_pot (fun vs H Q E h => ?_) (fun cdv A outer s H vs Q E hr h => ?_)
  · obtain ⟨a, ns, rfl, _⟩ := h
    rfl
  · obtain ⟨a, ns, rfl, ha, q⟩ := h
    refine ⟨_, (pss_cons (ps_set (i := 2) sc__law_pot.nd rfl (Or.inl rfl) (pe_ifExp (pt_cmpR op_lt (pv 1) (pe_callB call_len_seq (by rfl) T.n_len PySem.boot_len (pa_cons (pv 0) pa_nil)) (nomark _)) (pe_callB call_abs (by rfl) T.n_abs (by decide +kernel) (pa_cons (pe_ix ix_list (pv 0) (pv 1) (fun _ _ => rfl)) pa_nil)) (pe_op op_add (pe_op op_mul pe_int (pv 1)) pe_int)))
    (pss_cons (ps_set (i := 3) sc__law_pot.nd rfl (Or.inl rfl) (pe_op op_add (pe_op op_mod (pe_callTy call_int1 (by rfl) T.n_int (by decide +kernel) (pa_cons (pe_op op_add (pe_op op_add (pe_op op_mul (pe_op op_mod (pe_callTy call_int1 (by rfl) T.n_int (by decide +kernel) (pa_cons (pv 2) pa_nil)) pe_int) pe_int) (pe_op op_mul pe_int (pv 1))) pe_int) pa_nil)) pe_int) pe_int))
    (pss_one (ps_ret (pe_lstU (pa_cons (pe_callB (call_max2 rfl) (by rfl) T.n_max (by decide +kernel) (pa_cons pe_int (pa_cons (pe_op op_sub (pv 2) (pe_op op_pow pe_int pe_int)) pa_nil))) (pa_cons (pv 3) pa_nil))))))), ?_⟩
    cases ns with
    | nil =>
      refine ⟨.int 0, rfl, .ref a, rfl, a, _, rfl, .inl ha, 0, 0, rfl, rfl, false, rfl, iteF ?_⟩
      refine ⟨.int 0, rfl, 1031, 0, rfl, rfl, .inl ⟨by decide, by decide⟩, _, 727, rfl, rfl, ?_⟩
      refine ⟨_, rfl, .inl ⟨_, rfl, _, 2147483549, rfl, rfl, show (0 : Int) < 2147483549 by decide, _, 41257, rfl, rfl, .inr ⟨by decide, by decide⟩, .int 0, rfl, 7187, 0, rfl, rfl, .inl ⟨by decide, by decide⟩, _, _, rfl, rfl, _, 659, rfl, rfl, .inl ⟨_, rfl, _, 2147483563, rfl, rfl, show (0 : Int) < 2147483563 by decide, _, 1, rfl, rfl, ?_⟩⟩⟩
      refine ⟨_, rfl, 10, 18, rfl, rfl, ⟨by decide, by decide, by decide⟩, _, _, rfl, rfl, 0, _, rfl, _, rfl, by show 2 ≤ sizeLine; decide, fun p H1 n1 => q _ _ n1.same n1.free ⟨_, _, n1.at, by split <;> omega, ?_, ?_⟩⟩
      · omega
      · omega
    | cons x r =>
      refine ⟨.int 0, rfl, .ref a, rfl, a, _, rfl, .inl ha, 0, _, rfl, rfl, true, congrArg V.bl (decide_eq_true (by simp)), iteT ?_⟩
      refine ⟨.ref a, rfl, .int 0, rfl, a, _, 0, .int x, rfl, rfl, ha, atI_nat (j := 0) rfl, x, rfl, ?_⟩
      generalize (if x < 0 then -x else x) = c
      refine ⟨_, rfl, .inl ⟨_, rfl, _, 2147483549, rfl, rfl, show (0 : Int) < 2147483549 by decide, _, 41257, rfl, rfl, .inr ⟨by decide, by decide⟩, .int 0, rfl, 7187, 0, rfl, rfl, .inl ⟨by decide, by decide⟩, _, _, rfl, rfl, _, 659, rfl, rfl, .inl ⟨_, rfl, _, 2147483563, rfl, rfl, show (0 : Int) < 2147483563 by decide, _, 1, rfl, rfl, ?_⟩⟩⟩
      refine ⟨_, rfl, 10, 18, rfl, rfl, ⟨by decide, by decide, by decide⟩, _, _, rfl, rfl, 0, _, rfl, _, rfl, by show 2 ≤ sizeLine; decide, fun p H1 n1 => q _ _ n1.same n1.free ⟨_, _, n1.at, by split <;> omega, ?_, ?_⟩⟩
      · omega
      · omega

def sp_draw : Sp := fun vs H Q _ => ∃ (p : Addr) (k : Nat), vs = [.ref p, vn k] ∧ 0 < k ∧ k < 1000000 ∧ PotAt H p ∧ ∀ d H', d < k → Fr [p] H H' → PotAt H' p → Q (vn d) H'
theorem ok__law_draw (T : Tx K mg) : FnOk P w K mg base CX0 1 T._law_draw.f T._law_draw.fd ["_law_pot_here", "_law_sides"] sp_draw := by
  refine T._law_draw.F.ok sc__law_draw (fun vs H Q E h => ?_) (fun cdv A outer s H vs Q E hr h => ?_)
  · obtain ⟨p, k, rfl, _⟩ := h
    rfl
  · obtain ⟨p, k, rfl, hk0, hk, ⟨x, y, hp, hx, hy0, hy⟩, q⟩ := h
    refine ⟨_, (pss_cons (ps_if (pt_cmpR op_gt (pe_ix ix_listU (pv 0) pe_int (fun _ _ => rfl)) pe_int (nomark _)) (pss_cons (ps_asg (pe_callB call_divmodU (by rfl) T.n_divmod (by decide +kernel) (pa_cons (pe_ix ix_listU (pv 0) pe_int (fun _ _ => rfl)) (pa_cons (pv 1) pa_nil))) (pg_tupU (n := 2) (by rfl) (pgs_cons (pg_sub (pv 0) pe_int set_listU) (pgs_cons (pg_name (i := 2) sc__law_draw.nd rfl (Or.inl rfl)) pgs_nil))))
    (pss_one (ps_ret (pv 2)))) pss_nil)
    (pss_cons (ps_asg (pe_op op_mod (pe_callTy call_int1 (by rfl) T.n_int (by decide +kernel) (pa_cons (pe_op op_add (pe_op op_mul (pe_ix ix_listU (pv 0) pe_int (fun _ _ => rfl)) pe_int) pe_int) pa_nil)) pe_int) (pg_sub (pv 0) pe_int set_listU))
    (pss_one (ps_ret (pe_op op_mod (pe_callTy call_int1 (by rfl) T.n_int (by decide +kernel) (pa_cons (pe_op op_fdiv (pe_op op_mod (pe_callTy call_int1 (by rfl) T.n_int (by decide +kernel) (pa_cons (pe_op op_mul (pe_ix ix_listU (pv 0) pe_int (fun _ _ => rfl)) (pe_ix ix_listU (pv 0) pe_int (fun _ _ => rfl))) pa_nil)) pe_int) pe_int) pa_nil)) (pv 1)))))), ?_⟩
    refine ⟨.ref p, rfl, p, _, 0, .int x, rfl, rfl, hp, rfl, x, 0, rfl, rfl, decide (0 < x), rfl, ?_⟩
    by_cases hx0 : 0 < x
    · rw [decide_eq_true hx0]
      refine iteT ?_
      refine ⟨.ref p, rfl, p, _, 0, .int x, rfl, rfl, hp, rfl, vn k, rfl, x, k, rfl, by omega, by omega, fun t H1 n1 => ?_⟩
      refine ⟨t, _, rfl, n1.at, rfl, _, _, rfl, .ref p, rfl, p, _, 0, 0, rfl, rfl, n1.same _ _ hp, rfl, fun H2 w2 => ⟨_, _, rfl, rfl, ?_⟩⟩
      have e : x % (k : Int) = ((x % (k : Int)).toNat : Int) := by have := Int.emod_nonneg x (show (k : Int) ≠ 0 by omega); omega
      refine ⟨_, rfl, ?_⟩
      have h1 := Int.emod_lt_of_pos x (show (0 : Int) < k by omega)
      rw [e]
      exact q _ _ (by omega) ((Fr.same n1.same).trans (Fr.wr w2 (by simp))) ⟨_, _, w2.at, Int.ediv_nonneg hx (by omega), hy0, hy⟩
    · rw [decide_eq_false hx0]
      refine iteF ?_
      refine ⟨.ref p, rfl, p, _, 1, .int y, rfl, rfl, hp, rfl, y, 40639, rfl, rfl, .inr ⟨by decide, by decide⟩, _, 30047, rfl, rfl, .inl ⟨_, rfl, _, 2147483563, rfl, rfl, show (0 : Int) < 2147483563 by decide, .ref p, rfl, p, _, 1, 1, rfl, rfl, hp, rfl, fun H1 w1 => ?_⟩⟩
      have w1 : Wr H p (.lst [.int x, .int ((y * 40639 + 30047) % 2147483563)]) H1 := w1
      have b1 : 0 ≤ (y * 40639 + 30047) % 2147483563 := by omega
      have b2 : (y * 40639 + 30047) % 2147483563 < 2147483563 := by omega
      generalize (y * 40639 + 30047) % 2147483563 = z at w1 b1 b2
      have h1 : H1 p = some (.lst [.int x, .int z]) := w1.at
      refine ⟨.ref p, rfl, p, _, 1, .int z, rfl, rfl, h1, rfl, .ref p, rfl, p, _, 1, .int z, rfl, rfl, h1, rfl, z, z, rfl, rfl, .inl ⟨by omega, by omega⟩, .inl ⟨_, rfl, _, 2147483549, rfl, rfl, show (0 : Int) < 2147483549 by decide, _, 23, rfl, rfl, ⟨by decide, by decide⟩, .inl ⟨_, rfl, vn k, rfl, _, (k : Int), rfl, rfl, by show (0 : Int) < (k : Int); omega, ?_⟩⟩⟩
      generalize z * z % 2147483549 / 23 = d
      have e : d % (k : Int) = ((d % (k : Int)).toNat : Int) := by have := Int.emod_nonneg d (show (k : Int) ≠ 0 by omega); omega
      have h2 := Int.emod_lt_of_pos d (show (0 : Int) < k by omega)
      show Q (.int (d % (k : Int))) H1
      rw [e]
      exact q _ _ (by omega) (Fr.wr w1 (by simp)) ⟨_, _, h1, hx, b1, by omega⟩

def sp_pick : Sp := fun vs H Q _ => ∃ (p a : Addr) (l : List Nat), vs = [.ref p, .ref a] ∧ a ≠ p ∧ H a = some (.lst (vns l)) ∧ l ≠ [] ∧ l.length ≤ 1000 ∧ PotAt H p ∧ ∀ e H', e ∈ l → Fr [p] H H' → PotAt H' p → Q (vn e) H'
theorem ok__law_pick (T : Tx K mg) : FnOk P w K mg base CX0 2 T._law_pick.f T._law_pick.fd ["_law_pot_here", "_law_some"] sp_pick := by
  refine T._law_pick.F.ok sc__law_pick (fun vs H Q E h => ?_) (fun cdv A outer s H vs Q E hr h => ?_)
  · obtain ⟨p, a, l, rfl, _⟩ := h
    rfl
  · obtain ⟨p, a, l, rfl, hap, ha, hne, hl, hp, q⟩ := h
    have hl1 : 0 < l.length := by
      cases l with
      | nil => exact absurd rfl hne
      | cons _ _ => simp
    refine ⟨_, (pss_one (ps_ret (pe_ix ix_listU (pv 1) (pe_call (ok__law_draw T) (hr.mono (by decide)) (by rfl) T._law_draw.g T._law_draw.F.kp T._law_draw.b .nil pass0 (pa_cons (pv 0) (pa_cons (pe_callB call_lenU (by rfl) T.n_len PySem.boot_len (pa_cons (pv 1) pa_nil)) pa_nil))) (fun _ _ => rfl)))), ?_⟩
    refine ⟨.ref a, rfl, .ref p, rfl, .ref a, rfl, a, _, rfl, .inl ha, p, l.length, by rw [vns_len]; rfl, hl1, by omega, hp, fun d H1 hd fr hp1 => ?_⟩
    refine ⟨a, _, d, _, rfl, rfl, fr.fr _ _ (by rw [List.mem_singleton]; exact hap) ha, vns_at hd, q _ _ ?_ fr hp1⟩
    rw [List.getD_eq_getElem?_getD, List.getElem?_eq_getElem hd]
    exact List.getElem_mem hd
end
end K31
namespace K31
open PySem L2
theorem erase_map {α β : Type} (f : α → β) : ∀ (l : List α) (i : Nat), (l.map f).eraseIdx i = (l.eraseIdx i).map f
  | [], i => rfl
  | a :: l, 0 => rfl
  | a :: l, i + 1 => by
    show f a :: (l.map f).eraseIdx i = f a :: (l.eraseIdx i).map f
    rw [erase_map f l i]
theorem erase_perm {α : Type} : ∀ (l : List α) (i : Nat) (h : i < l.length), (l[i] :: l.eraseIdx i).Perm l
  | a :: l, 0, h => .refl _
  | a :: l, i + 1, h => by
    have := erase_perm l i (by simpa using h)
    show (l[i]'(by simpa using h) :: a :: l.eraseIdx i).Perm (a :: l)
    exact (List.Perm.swap _ _ _).trans (this.cons a)
theorem Jn.snoc {E : List (Nat × Nat)} {l : List Nat} {e e' : Nat} (h : Jn E (l ++ [e])) (he : e' < E.length) (hj : Tj.tgt E e = Tj.src E e') : Jn E (l ++ [e] ++ [e']) := by
  refine ⟨fun b hb => ?_, fun j a b h1 h2 => ?_, by simp⟩
  · rcases List.mem_append.mp hb with z | z
    · exact h.lt b z
    · rw [List.mem_singleton] at z
      rw [z]; exact he
  · have hlen : (l ++ [e]).length = l.length + 1 := by rw [List.length_append]; rfl
    by_cases z : j + 1 < (l ++ [e]).length
    · rw [List.getElem?_append_left (by omega)] at h1 h2
      exact h.jn j a b h1 h2
    · rw [List.getElem?_append_right (by omega)] at h2
      have hj0 : j + 1 - (l ++ [e]).length = 0 := by
        have := (List.getElem?_eq_some_iff.mp h2).1
        simp at this
        omega
      rw [hj0] at h2
      cases Option.some.inj h2
      rw [List.getElem?_append_left (by omega), List.getElem?_append_right (by omega), show j - l.length = 0 by omega] at h1
      cases Option.some.inj h1
      exact hj
/-- ties with the whole ring among them -/
structure Ring (n : Nat) (E : List (Nat × Nat)) : Prop where
  lt : ∀ q ∈ E, q.1 < n ∧ q.2 < n
  ring : ∀ i, i < n → (i, (i + 1) % n) ∈ E
theorem Ring.perm {n : Nat} {E F : List (Nat × Nat)} (h : Ring n E) (p : F.Perm E) : Ring n F := ⟨fun q hq => h.lt q (p.mem_iff.mp hq), fun i hi => p.mem_iff.mpr (h.ring i hi)⟩
theorem tie_at {M : Hp} {a : Addr} {E : List (Nat × Nat)} (h : Rp M (.ref a) (ePs E)) : ∃ ts, M a = some (.lst ts) ∧ ts.length = E.length ∧ ∀ e, e < E.length → ∃ b, ts[e]? = some (.ref b) ∧ M b = some (.tup [vn (Tj.src E e), vn (Tj.tgt E e)]) := by
  obtain ⟨a', ts, e, h4, h5⟩ := h.list_inv
  cases e
  refine ⟨ts, h4, by rw [h5.len, List.length_map], fun e he => ?_⟩
  have hd : (E.map eP)[e]? = some (eP E[e]) := by rw [List.getElem?_map, List.getElem?_eq_getElem he]; rfl
  obtain ⟨y, hy, ry⟩ := h5.at hd
  obtain ⟨b, rfl, hb⟩ := ry.p_inv
  refine ⟨b, hy, ?_⟩
  have hg : E.getD e (0, 0) = E[e] := by rw [List.getD_eq_getElem?_getD, List.getElem?_eq_getElem he]; rfl
  unfold Tj.src Tj.tgt
  rw [hg]
  exact hb
section
variable {P : Program} {w : World} {K : PySem.W.Frag} {mg : PySem.Str → Option Value} {base : Heap}
def sp_law_ties : Sp := fun vs H Q _ => ∃ (M : Hp) (p : Addr) (n m : Nat), vs = [.ref p, vn n, vn m] ∧ Same M H ∧ M p = none ∧ PotAt H p ∧ 1 ≤ n ∧ n ≤ 10 ∧ m ≤ 10 ∧
  ∀ E M' H' v, Ring n E → E.length = n + m → Pt p M H M' H' → PotAt H' p → Rp M' v (ePs E) → Q v H'
theorem ok__law_ties (T : Tx K mg) : FnOk P w K mg base CX0 2 T._law_ties.f T._law_ties.fd ["_law_pot_here", "_law_places", "_law_more"] sp_law_ties := by
  refine T._law_ties.F.ok sc__law_ties (fun vs H Q E h => ?_) (fun cdv A outer s H vs Q E hr h => ?_)
  · obtain ⟨M, p, n, m, rfl, _⟩ := h
    rfl
  · obtain ⟨M, p, n, m, rfl, sm, pm, pot, hn1, hn, hm, q⟩ := h
    obtain ⟨po, hpo⟩ := pot.some
    refine ⟨_, (pss_cons (ps_setLc (i := 3) (own := [("_law_place", 4)]) rfl sc__law_ties.nd rfl rfl (sw_true rfl rfl rfl (by decide +kernel)) (pi_range1 (by rfl) T.n_range (pa_cons (pv 1) pa_nil)) (blkOk_by (N := N__law_ties) (sc := defScope s__law_ties) (by decide +kernel)) (fun _ _ _ _ _ => (pg_name (i := 4) sc__law_ties.nd rfl (by first | exact Or.inl rfl | exact Or.inr rfl))) (fun _ _ _ _ _ => pts_nil) (fun _ _ _ _ _ => (pe_tupU (pa_cons (pv 4) (pa_cons (pe_op op_modU (pe_op op_addN (pv 4) pe_int) (pv 1)) pa_nil)))))
    (pss_cons (ps_for PassesOwn.never rfl (pi_range1 (by rfl) T.n_range (pa_cons (pv 2) pa_nil)) (pg_name (i := 5) sc__law_ties.nd rfl (Or.inl rfl))
      (pss_one (ps_expr (pe_bm PySem.F.plainAttrs_list PySem.F.slot_list_append PySem.F.type_list_append mt_appendU (pv 3) (pa_cons (pe_tupU (pa_cons (pe_call (ok__law_draw T) (hr.mono (by decide)) (by rfl) T._law_draw.g T._law_draw.F.kp T._law_draw.b .nil pass0 (pa_cons (pv 0) (pa_cons (pv 1) pa_nil))) (pa_cons (pe_call (ok__law_draw T) (hr.mono (by decide)) (by rfl) T._law_draw.g T._law_draw.F.kp T._law_draw.b .nil pass0 (pa_cons (pv 0) (pa_cons (pv 1) pa_nil))) pa_nil))) pa_nil)))))
    (pss_cons (ps_set (i := 6) sc__law_ties.nd rfl (Or.inl rfl) (pe_lstU pa_nil))
    (pss_cons (ps_while PassesOwn.never (pt_cmpR (op_neU hr.units) (pv 3) (pe_lstU pa_nil) (nomark _))
      (pss_one (ps_expr (pe_bm PySem.F.plainAttrs_list PySem.F.slot_list_append PySem.F.type_list_append mt_appendU (pv 6) (pa_cons (pe_bm PySem.F.plainAttrs_list PySem.F.slot_list_pop PySem.F.type_list_pop mt_popAtU (pv 3) (pa_cons (pe_call (ok__law_draw T) (hr.mono (by decide)) (by rfl) T._law_draw.g T._law_draw.F.kp T._law_draw.b .nil pass0 (pa_cons (pv 0) (pa_cons (pe_callB call_lenU (by rfl) T.n_len PySem.boot_len (pa_cons (pv 3) pa_nil)) pa_nil))) pa_nil)) pa_nil)))))
    (pss_one (ps_ret (pv 6))))))), ?_⟩
    refine ⟨vn n, rfl, n, rfl, by omega, by omega, fun r hr0 => ?_⟩
    refine lc_rangeN (n := n) sm hr0 (small400 (by omega)) (fun i => ((List.range i).map fun j => (j, (j + 1) % n)).map eP) rfl (fun i M2 H2 hi e2 hm2 Yes No yes no => ?_) (fun H1 h1 => ?_)
    · refine ⟨rfl, vn i, rfl, vn i, rfl, i, 1, rfl, rfl, vn n, rfl, i + 1, n, rfl, rfl, by omega, by show 2 ≤ sizeLine; decide, fun c H3 n3 => ?_⟩
      have e3 := Ext.grow (o := .tup [vn i, vn ((i + 1) % n)]) e2.mh n3.free
      rw [← n3.eq] at e3
      exact yes _ _ _ (eP (i, (i + 1) % n)) e3 (.of_p upd_same) (by dsimp only; rw [map_range_succ, List.map_append]; rfl)
    obtain ⟨M1, acc, e1, l1, m1, _, ra1, _⟩ := lc_end hr0 h1
    have rp : r ≠ p := fun z => by rw [z, hpo] at hr0; cases hr0
    refine ⟨vn m, rfl, m, rfl, by omega, by omega, ?_⟩
    refine for_rangeN (n := m) (fun i σ H' => (∃ v4 v5 v6, σ = [some (.ref p), some (vn n), some (vn m), some (.ref r), v4, v5, v6]) ∧ ∃ M' rs R, Pt p M H M' H' ∧ PotAt H' p ∧ M' r = none ∧ H' r = some (.lst rs) ∧ RpAll M' rs (R.map eP) ∧ R.length = n + i ∧ Ring n R)
      ⟨⟨_, _, _, rfl⟩, M1, acc, (List.range n).map fun j => (j, (j + 1) % n), .of_ext e1, pot.same e1.hh, m1, l1, ra1, by simp, ?_, ?_⟩ (fun i σ H2 hi h => ?_) (fun σ H2 h => ?_)
    · intro q hq
      obtain ⟨j, hj, rfl⟩ := List.mem_map.mp hq
      exact ⟨List.mem_range.mp hj, Nat.mod_lt _ (by omega)⟩
    · intro i hi
      exact List.mem_map.mpr ⟨i, List.mem_range.mpr hi, rfl⟩
    · obtain ⟨⟨v4, v5, v6, rfl⟩, M2, rs, R, pt2, pot2, m2, l2, r2, hR, ring⟩ := h
      have hrs : rs.length = R.length := by rw [r2.len, List.length_map]
      refine ⟨.ref r, rfl, .inl ⟨rfl, _, SqL.of l2⟩, .ref p, rfl, vn n, rfl, p, n, rfl, by omega, by omega, pot2, fun d1 H3 hd1 f3 pot3 => ⟨.ref p, rfl, vn n, rfl, p, n, rfl, by omega, by omega, pot3, fun d2 H4 hd2 f4 pot4 => ⟨by show 2 ≤ sizeLine; decide, fun c H5 n5 => ?_⟩⟩⟩
      have pm2 : M2 p = none := pt2.off pm hpo
      have pt3 : Pt p M2 H2 M2 H3 := .of_fr f3 pt2.mh pm2
      have pt4 : Pt p M2 H3 M2 H4 := .of_fr f4 pt3.mh pm2
      have pt24 := pt3.trans pt4
      have g5 := Ext.grow (o := .tup [vn d1, vn d2]) pt24.mh n5.free
      rw [← n5.eq] at g5
      have pt5 := pt24.trans (.of_ext g5)
      have l5 := pt5.keep rp l2
      have m5 := pt5.off m2 l2
      refine ⟨r, rs, .ref c, rfl, rfl, l5, small400 (by omega), fun H6 w6 => ⟨⟨_, _, _, rfl⟩, _, _, R ++ [(d1, d2)], by rw [w6.eq]; exact (pt2.trans pt5).write hr0 m5, ?_, m5, w6.at, ?_, by rw [List.length_append, List.length_singleton]; omega, fun q hq => ?_, fun j hj => List.mem_append_left _ (ring.ring j hj)⟩⟩
      · obtain ⟨x, y, e, z⟩ := pot4.same n5.same
        exact ⟨x, y, w6.keep rp.symm e, z⟩
      · rw [List.map_append]
        exact (r2.s pt5.mm).app (.one (.of_p (p := (d1, d2)) upd_same))
      · rcases List.mem_append.mp hq with z | z
        · exact ring.lt q z
        · rw [List.mem_singleton] at z
          rw [z]
          exact ⟨hd1, hd2⟩
    · obtain ⟨⟨v4, v5, v6, rfl⟩, M2, rs, E0, pt2, pot2, m2, l2, r2, hE0, ring⟩ := h
      refine ⟨Nat.zero_le _, fun fo H3 n3 => ?_⟩
      have fo0 : H fo = none := pt2.fr.dom _ n3.free
      have fom : M2 fo = none := pt2.mh.free n3.free
      have l3 := n3.same _ _ l2
      have rf : r ≠ fo := n3.ne l2
      have fp : fo ≠ p := fun z => by rw [z, hpo] at fo0; cases fo0
      refine while_m (fun m' σ H' => (∃ v4 v5, σ = [some (.ref p), some (vn n), some (vn m), some (.ref r), v4, v5, some (.ref fo)]) ∧ ∃ M' rs fs R F, Pt p M H M' H' ∧ PotAt H' p ∧ M' r = none ∧ M' fo = none ∧ H' r = some (.lst rs) ∧ H' fo = some (.lst fs) ∧ RpAll M' rs (R.map eP) ∧ RpAll M' fs (F.map eP) ∧ (F ++ R).Perm E0 ∧ m' = R.length) E0.length
        ⟨⟨_, _, rfl⟩, M2, rs, [], E0, [], pt2.trans (.of_ext (.of pt2.mh n3.same)), pot2.same n3.same, m2, fom, l3, n3.at, r2, .nil, .refl _, rfl⟩ (fun m' σ H4 h Q yes no => ?_)
      obtain ⟨⟨v4, v5, rfl⟩, M4, rs, fs, R, F, pt4, pot4, m4, fm4, l4, f4, r4, rf4, perm, rfl⟩ := h
      have hrs : rs.length = R.length := by rw [r4.len, List.length_map]
      have hfs : fs.length = F.length := by rw [rf4.len, List.length_map]
      have hlen : F.length + R.length = E0.length := by rw [← List.length_append]; exact perm.length_eq
      refine ⟨.ref r, rfl, Nat.zero_le _, fun z H5 n5 => ?_⟩
      refine ⟨ePs R, .list [], .lst (n5.same _ _ l4) (r4.s (pt4.mh.trans n5.same)), .lst n5.at .nil, (sh_ps _).ok, sh_nil.ok, !R.isEmpty, by rw [eqv_nil], ?_⟩
      have pt5 := pt4.trans (.of_ext (.of pt4.mh n5.same))
      have pot5 := pot4.same n5.same
      have l5 := n5.same _ _ l4
      have f5 := n5.same _ _ f4
      cases R with
      | nil =>
        refine no _ ⟨.ref fo, rfl, ?_⟩
        rw [List.append_nil] at perm
        exact q F _ _ _ (ring.perm perm) (by rw [perm.length_eq]; exact hE0) (pt5.put fo0 fm4 f5) pot5 (.lst upd_same (rf4.s (.new fm4)))
      | cons x R' =>
        refine yes _ ?_
        refine ⟨.ref fo, rfl, .inl ⟨rfl, _, SqL.of f5⟩, .ref r, rfl, .inl ⟨rfl, _, SqL.of l5⟩, .ref p, rfl, .ref r, rfl, r, _, rfl, .inl l5, p, (x :: R').length, by rw [hrs]; rfl, by simp, by omega, pot5, fun d H6 hd f6 pot6 => ?_⟩
        have pm4 : M4 p = none := pt4.off pm hpo
        have pt6 : Pt p M4 H5 M4 H6 := .of_fr f6 pt5.mh pm4
        have l6 := pt6.keep rp l5
        have f6' := pt6.keep fp f5
        have hd2 : ((x :: R').map eP)[d]? = some (eP ((x :: R')[d]'hd)) := by rw [List.getElem?_map, List.getElem?_eq_getElem hd]; rfl
        obtain ⟨y, hy, ry⟩ := r4.at hd2
        refine ⟨r, rs, d, y, rfl, rfl, l6, by omega, hy, fun H7 w7 => ?_⟩
        refine ⟨fo, fs, y, rfl, rfl, w7.keep rf.symm f6', small400 (by omega), fun H8 w8 => ?_⟩
        have pt7 : Pt p M H M4 H7 := by rw [w7.eq]; exact (pt5.trans pt6).write hr0 m4
        have pt8 : Pt p M H M4 H8 := by rw [w8.eq]; exact pt7.write fo0 fm4
        refine ⟨((x :: R').eraseIdx d).length, ?_, ⟨_, _, rfl⟩, M4, _, _, (x :: R').eraseIdx d, F ++ [(x :: R')[d]'hd], pt8, ?_, m4, fm4, w8.keep rf w7.at, w8.at, ?_, ?_, ?_, rfl⟩
        · rw [List.length_eraseIdx, if_pos hd]
          have : 0 < (x :: R').length := by simp
          omega
        · obtain ⟨x1, y1, e, zz⟩ := pot6
          exact ⟨x1, y1, w8.keep fp.symm (w7.keep rp.symm e), zz⟩
        · have := r4.erase d
          rw [erase_map] at this
          exact this
        · rw [List.map_append]
          exact rf4.app (.one ry)
        · refine List.Perm.trans ?_ perm
          rw [List.append_assoc]
          exact (erase_perm _ d hd).append_left F

def sp_law_walk : Sp := fun vs H Q _ => ∃ (M : Hp) (p a : Addr) (n : Nat) (E : List (Nat × Nat)) (k : Nat), vs = [.ref p, .ref a, vn k] ∧ Same M H ∧ M p = none ∧ PotAt H p ∧ Rp M (.ref a) (ePs E) ∧ Ring n E ∧ 1 ≤ n ∧ E.length ≤ 100 ∧ 0 < E.length ∧ 1 ≤ k ∧ k ≤ 100 ∧
  ∀ l M' H' q, Jn E l → l.length = k → Pt p M H M' H' → PotAt H' p → M' q = some (.lst (vns l)) → Q (.ref q) H'
theorem ok__law_walk (T : Tx K mg) : FnOk P w K mg base CX0 3 T._law_walk.f T._law_walk.fd ["_law_pot_here", "_law_ties_here", "_law_many"] sp_law_walk := by
  refine T._law_walk.F.ok sc__law_walk (fun vs H Q E h => ?_) (fun cdv A outer s H vs Q E' hr h => ?_)
  · obtain ⟨M, p, a, n, E, k, rfl, _⟩ := h
    rfl
  · obtain ⟨M, p, a, n, E, k, rfl, sm, pm, pot, ha, ring, hn1, hE, hE0, hk1, hk, q⟩ := h
    obtain ⟨po, hpo⟩ := pot.some
    obtain ⟨ts, ta, tl, tt⟩ := tie_at ha
    have hsrc : ∀ e, e < E.length → Tj.src E e < n ∧ Tj.tgt E e < n := fun e he => by
      have := ring.lt _ (Tj.edge_mem he)
      exact this
    refine ⟨_, (pss_cons (ps_set (i := 3) sc__law_walk.nd rfl (Or.inl rfl) (pe_lstU (pa_cons (pe_call (ok__law_draw T) (hr.mono (by decide)) (by rfl) T._law_draw.g T._law_draw.F.kp T._law_draw.b .nil pass0 (pa_cons (pv 0) (pa_cons (pe_callB call_lenU (by rfl) T.n_len PySem.boot_len (pa_cons (pv 1) pa_nil)) pa_nil))) pa_nil)))
    (pss_cons (ps_for PassesOwn.never rfl (pi_range1 (by rfl) T.n_range (pa_cons (pe_op op_subN (pv 2) pe_int) pa_nil)) (pg_name (i := 4) sc__law_walk.nd rfl (Or.inl rfl))
      (pss_cons (ps_set (i := 5) sc__law_walk.nd rfl (Or.inr rfl) (pe_ix ix_tupU (pe_ix ix_listU (pv 1) (pe_ix ix_lastU (pv 3) (pe_un un_neg pe_int) (fun _ _ => rfl)) (fun _ _ => rfl)) pe_int (fun _ _ => rfl)))
    (pss_cons (ps_setLc (i := 6) (own := [("_law_tie", 7)]) rfl sc__law_walk.nd rfl rfl (sw_true rfl rfl rfl (by decide +kernel)) (pi_range1 (by rfl) T.n_range (pa_cons (pe_callB call_lenU (by rfl) T.n_len PySem.boot_len (pa_cons (pv 1) pa_nil)) pa_nil)) (blkOk_by (N := N__law_walk) (sc := defScope s__law_walk) (by decide +kernel)) (fun _ _ _ _ _ => (pg_name (i := 7) sc__law_walk.nd rfl (by first | exact Or.inl rfl | exact Or.inr rfl))) (fun _ _ _ _ _ => (pts_one (pt_cmpR op_eqN (pe_ix ix_tupU (pe_ix ix_listU (pv 1) (pv 7) (fun _ _ => rfl)) pe_int (fun _ _ => rfl)) (pv 5) (nomark _)))) (fun _ _ _ _ _ => (pv 7)))
    (pss_one (ps_expr (pe_bm PySem.F.plainAttrs_list PySem.F.slot_list_append PySem.F.type_list_append mt_appendU (pv 3) (pa_cons (pe_call (ok__law_pick T) (hr.mono (by decide)) (by rfl) T._law_pick.g T._law_pick.F.kp T._law_pick.b .nil pass0 (pa_cons (pv 0) (pa_cons (pv 6) pa_nil))) pa_nil)))))))
    (pss_one (ps_ret (pv 3))))), ?_⟩
    refine ⟨.ref p, rfl, .ref a, rfl, a, _, rfl, .inl (sm _ _ ta), p, E.length, by rw [tl]; rfl, hE0, by omega, pot, fun d H1 hd f1 pot1 => ⟨by show 1 ≤ sizeLine; decide, fun fo H2 n2 => ?_⟩⟩
    have pt1 : Pt p M H M H1 := .of_fr f1 sm pm
    have pt2 := pt1.trans (.of_ext (.of pt1.mh n2.same))
    have fo0 : H fo = none := pt1.fr.dom _ n2.free
    have fom : M fo = none := sm.free fo0
    have fp : fo ≠ p := fun z => by rw [z, hpo] at fo0; cases fo0
    refine ⟨vn k, rfl, k, 1, rfl, rfl, hk1, (k - 1 : Nat), rfl, by omega, by omega, ?_⟩
    refine for_rangeN (n := k - 1) (fun i σ H' => (∃ v4 v5 v6 v7, σ = [some (.ref p), some (.ref a), some (vn k), some (.ref fo), v4, v5, v6, v7]) ∧ ∃ l, Pt p M H M H' ∧ PotAt H' p ∧ H' fo = some (.lst (vns l)) ∧ l.length = i + 1 ∧ Jn E l)
      ⟨⟨_, _, _, _, rfl⟩, [d], pt2, pot1.same n2.same, n2.at, rfl, ⟨fun e he => by rw [List.mem_singleton] at he; rw [he]; exact hd, fun i a b h1 h2 => by simp at h2, by simp⟩⟩ (fun i σ H3 hi h => ?_) (fun σ H3 h => ?_)
    · obtain ⟨⟨v4, v5, v6, v7, rfl⟩, l, pt3, pot3, l3, hl, hj⟩ := h
      rcases List.eq_nil_or_concat l with z | ⟨l0, e, z⟩
      · exact absurd z hj.ne
      rw [List.concat_eq_append] at z
      subst z
      have he := hj.lt e (by simp)
      obtain ⟨pe, hpe, hpp⟩ := tt e he
      have l3' : H3 fo = some (.lst (vns l0 ++ [vn e])) := by rw [l3, vns_app]
      refine ⟨.ref a, rfl, .ref fo, rfl, 1, rfl, fo, vns l0, vn e, rfl, rfl, l3', a, ts, e, .ref pe, rfl, rfl, pt3.mh _ _ ta, hpe, pe, _, 1, vn (Tj.tgt E e), rfl, rfl, pt3.mh _ _ hpp, rfl, ?_⟩
      have hhn := (hsrc e he).2
      have hg : ∀ b, b ∈ Tj.adj E (Tj.tgt E e) → b < E.length ∧ Tj.src E b = Tj.tgt E e := fun b hb => Tj.mem_adj.mp hb
      have hne : Tj.adj E (Tj.tgt E e) ≠ [] := by
        obtain ⟨b, hb, hbs, _⟩ := Tj.mem_edge (ring.ring _ hhn)
        exact List.ne_nil_of_mem (Tj.mem_adj.mpr ⟨hb, hbs⟩)
      generalize hgen : Tj.tgt E e = hh at hhn hg hne
      refine ⟨.ref a, rfl, a, _, rfl, .inl (pt3.mh _ _ ta), ts.length, rfl, by omega, by omega, fun so hso => ?_⟩
      refine lc_rangeN (n := ts.length) pt3.mh hso (small400 (by omega)) (fun j => (Tj.adjTo E j hh).map eN) rfl (fun j M5 H5 hj' e5 hm5 Yes No yes no => ?_) (fun H5 h5 => ?_)
      · obtain ⟨pj, hpj, hpjj⟩ := tt j (by omega)
        refine ⟨rfl, .ref a, rfl, vn j, rfl, a, ts, j, .ref pj, rfl, rfl, e5.mh0 _ _ ta, hpj, pj, _, 0, vn (Tj.src E j), rfl, rfl, e5.mh0 _ _ hpjj, rfl, vn hh, rfl, Tj.src E j, hh, rfl, rfl, decide (Tj.src E j = hh), rfl, ?_⟩
        by_cases z : Tj.src E j = hh
        · rw [decide_eq_true z]
          refine ⟨vn j, rfl, yes _ _ M5 (eN j) (.refl e5.mh) (.int _) ?_⟩
          dsimp only
          rw [Tj.adjTo_succ, if_pos z, List.map_append]
          rfl
        · rw [decide_eq_false z]
          refine no _ (.refl _) ?_
          dsimp only
          rw [Tj.adjTo_succ, if_neg z]
      · obtain ⟨M5, acc, e5, l5, m5, _, ra5, _⟩ := lc_end hso h5
        have hacc : acc = vns (Tj.adj E hh) := by
          rw [tl] at ra5
          exact ra5.nats
        subst hacc
        have sop : so ≠ p := fun z => by
          obtain ⟨o, ho⟩ := pot3.some
          rw [z, ho] at hso
          cases hso
        have fo5 := e5.hh _ _ l3
        refine ⟨.ref fo, rfl, .inl ⟨rfl, _, SqL.of fo5⟩, .ref p, rfl, .ref so, rfl, p, so, Tj.adj E hh, rfl, sop, l5, hne, by have := Pd.adj_len E hh; omega, pot3.same e5.hh, fun e' H6 he' f6 pot6 => ?_⟩
        have pt5 : Pt p M H M H5 := pt3.trans (.of_ext (.of pt3.mh e5.hh))
        have pt6 : Pt p M H M H6 := pt5.trans (.of_fr f6 pt5.mh pm)
        have fo6 := f6.fr _ _ (by rw [List.mem_singleton]; exact fp) fo5
        refine ⟨fo, _, vn e', rfl, rfl, fo6, small400 (by rw [vns_len]; omega), fun H7 w7 => ⟨⟨_, _, _, _, rfl⟩, l0 ++ [e] ++ [e'], by rw [w7.eq]; exact pt6.write fo0 fom, ?_, by rw [w7.at, vns_app], by rw [List.length_append, hl]; rfl, hj.snoc (hg e' he').1 (by rw [hgen, (hg e' he').2])⟩⟩
        · obtain ⟨x1, y1, e, zz⟩ := pot6
          exact ⟨x1, y1, w7.keep fp.symm e, zz⟩
    · obtain ⟨⟨v4, v5, v6, v7, rfl⟩, l, pt3, pot3, l3, hl, hj⟩ := h
      exact ⟨.ref fo, rfl, q l _ _ _ hj (by omega) (pt3.put fo0 fom l3) pot3 upd_same⟩
end
end K31
namespace K31
open PySem L2 Km Pd
section
variable {P : Program} {w : World} {K : PySem.W.Frag} {mg : PySem.Str → Option Value} {base : Heap}
def sp_law_state : Sp := fun vs H Q _ => ∃ (a b : Addr) (l rd : List Nat) (m : Int) (k : Nat), vs = [.ref a, .ref b, .int m] ∧ H a = some (.lst (vns l)) ∧ H b = some (.lst (vns rd)) ∧ rd.length ≤ 400 ∧ -1000 ≤ m ∧ m ≤ 1000 ∧ k = (min m rd.length).toNat ∧
  ∀ H', Same H H' → Q (vn (big (fit l rd) k)) H'
theorem ok__law_state (T : Tx K mg) : FnOk P w K mg base CX0 1 T._law_state.f T._law_state.fd ["_law_walk_here", "_law_read", "_law_most"] sp_law_state := by
  refine T._law_state.F.ok sc__law_state (fun vs H Q E h => ?_) (fun cdv A outer s H vs Q E hr h => ?_)
  · obtain ⟨a, b, l, rd, m, k, rfl, _⟩ := h
    rfl
  · obtain ⟨a, b, l, rd, m, k, rfl, ha, hb, hrd, hm1, hm2, hk, q⟩ := h
    refine ⟨_, (pss_cons (ps_for PassesOwn.never rfl (pi_range3 (by rfl) T.n_range (pa_cons (pe_callB (call_min2 rfl) (by rfl) T.n_min (by decide +kernel) (pa_cons (pv 2) (pa_cons (pe_callB call_lenU (by rfl) T.n_len PySem.boot_len (pa_cons (pv 1) pa_nil)) pa_nil))) (pa_cons pe_int (pa_cons (pe_un un_neg pe_int) pa_nil)))) (pg_name (i := 3) sc__law_state.nd rfl (Or.inl rfl))
      (pss_one (ps_if (pt_cmpR (op_eqU hr.units) (pe_slice sl_dropU (pv 1) (po_some (pe_op op_subN (pe_callB call_lenU (by rfl) T.n_len PySem.boot_len (pa_cons (pv 1) pa_nil)) (pv 3))) po_none) (pe_slice sl_takeU (pv 0) po_none (po_some (pv 3))) (nomark _)) (pss_one (ps_ret (pv 3))) pss_nil)))
    (pss_one (ps_ret pe_int))), ?_⟩
    have hmin : (if ((vns rd).length : Int) < m then ((vns rd).length : Int) else m) = min m rd.length := by rw [vns_len]; split <;> omega
    refine ⟨.int m, rfl, .ref b, rfl, b, _, rfl, .inl hb, m, (vns rd).length, rfl, 1, rfl, _, _, _, k, rfl, ?_, ?_⟩
    · have e : (if ((vns rd).length : Int) < m then ((vns rd).length : Int) else m) = min m rd.length := hmin
      rw [e]
      have := RgC.neg (i := min m rd.length) (j := 0) (by omega) (by omega) (by omega) (by omega)
      rw [show (min m (rd.length : Int) - 0).toNat = k by omega] at this
      exact this
    · refine for_rangeC (fun i σ H' => (∃ v3, σ = [some (.ref a), some (.ref b), some (.int m), v3]) ∧ Same H H' ∧ big (fit l rd) k = big (fit l rd) (k - i)) ⟨⟨none, rfl⟩, .refl _, rfl⟩ (fun i σ H5 hi h => ?_) (fun σ H5 h => ?_)
      · obtain ⟨⟨v3, rfl⟩, s5, hbg⟩ := h
        rw [show ((if ((vns rd).length : Int) < m then ((vns rd).length : Int) else m) + (i : Int) * -1) = ((k - i : Nat) : Int) by rw [hmin]; omega]
        have hkr : k ≤ rd.length := by omega
        have a5 := s5 _ _ ha
        have b5 := s5 _ _ hb
        refine ⟨.ref b, rfl, .ref b, rfl, b, _, rfl, .inl b5, vn (k - i), rfl, rd.length, k - i, congrArg vn (vns_len rd), rfl, by omega, _, rfl, b, _, rd.length - (k - i), rfl, rfl, rfl, b5, fun u H6 n6 => ?_⟩
        refine ⟨.ref a, rfl, vn (k - i), rfl, _, rfl, a, _, k - i, rfl, rfl, rfl, n6.same _ _ a5, fun t H7 n7 => ?_⟩
        have hu : H7 u = some (.lst (vns (rd.drop (rd.length - (k - i))))) := n7.same _ _ (by rw [n6.at]; unfold vns; rw [List.map_drop])
        have ht : H7 t = some (.lst (vns (l.take (k - i)))) := by rw [n7.at]; unfold vns; rw [List.map_take]
        refine ⟨_, _, .of_ns hu, .of_ns ht, (sh_ns _).ok, (sh_ns _).ok, fit l rd (k - i), by rw [eqv_ns]; unfold fit; rw [decide_eq_decide.mpr eq_comm], ?_⟩
        have s7 : Same H H7 := s5.trans (n6.same.trans n7.same)
        by_cases hf : fit l rd (k - i) = true
        · rw [hf]
          refine iteT ⟨vn (k - i), rfl, ?_⟩
          have := big_hit (by omega) hf
          rw [← hbg] at this
          rw [← this]
          exact q _ s7
        · rw [Bool.eq_false_iff.mpr hf]
          exact iteF ⟨⟨_, rfl⟩, s7, big_down hi (Bool.eq_false_iff.mpr hf) hbg⟩
      · obtain ⟨⟨v3, rfl⟩, s5, hbg⟩ := h
        rw [Nat.sub_self] at hbg
        have := q _ s5
        rw [hbg] at this
        exact this

def sp_law_table : Sp := fun vs H Q _ => ∃ (M : Hp) (a : Addr) (l : List Nat) (n : Nat), vs = [.ref a, vn n] ∧ Same M H ∧ M a = some (.lst (vns l)) ∧ l.length ≤ 100 ∧ n ≤ 100 ∧ ∀ M' H' v, Ext M H M' H' → Rp M' v (eRows (tabW l n)) → Q v H'
theorem ok__law_table (T : Tx K mg) : FnOk P w K mg base CX0 2 T._law_table.f T._law_table.fd ["_law_walk_here", "_law_many"] sp_law_table := by
  refine T._law_table.F.ok sc__law_table (fun vs H Q E h => ?_) (fun cdv A outer s H vs Q E hr h => ?_)
  · obtain ⟨M, a, l, n, rfl, _⟩ := h
    rfl
  · obtain ⟨M, a, l, n, rfl, sm, ha, hl, hn, q⟩ := h
    refine ⟨_, (pss_cons (ps_set (i := 2) sc__law_table.nd rfl (Or.inl rfl) (pe_lstU pa_nil))
    (pss_cons (ps_for PassesOwn.never rfl (pi_range1 (by rfl) T.n_range (pa_cons (pe_callB call_lenU (by rfl) T.n_len PySem.boot_len (pa_cons (pv 0) pa_nil)) pa_nil)) (pg_name (i := 3) sc__law_table.nd rfl (Or.inr rfl))
      (pss_one (ps_expr (pe_bm PySem.F.plainAttrs_list PySem.F.slot_list_append PySem.F.type_list_append mt_appendU (pv 2) (pa_cons (pe_lc (own := [("_law_tie", 4)]) rfl sc__law_table.nd (pi_range1 (by rfl) T.n_range (pa_cons (pv 1) pa_nil)) (blkOk_by (N := N__law_table) (sc := defScope s__law_table) (by decide +kernel)) (fun _ _ _ _ _ => (pg_name (i := 4) sc__law_table.nd rfl (by first | exact Or.inl rfl | exact Or.inr rfl))) (fun _ _ _ _ _ => pts_nil) (fun _ _ _ _ _ => (pe_call (ok__law_state T) (hr.mono (by decide)) (by rfl) T._law_state.g T._law_state.F.kp T._law_state.b .nil pass0 (pa_cons (pv 0) (pa_cons (pe_op op_catU (pe_slice sl_takeU (pv 0) po_none (po_some (pv 3))) (pe_lstU (pa_cons (pv 4) pa_nil))) (pa_cons (pe_callB call_lenU (by rfl) T.n_len PySem.boot_len (pa_cons (pv 0) pa_nil)) pa_nil)))))) pa_nil)))))
    (pss_one (ps_ret (pv 2))))), ?_⟩
    refine ⟨Nat.zero_le _, fun p H1 n1 => ?_⟩
    have e1 : Ext M H M H1 := .of sm n1.same
    have pm := sm.free n1.free
    refine ⟨.ref a, rfl, a, _, rfl, .inl (e1.mh0 _ _ ha), (vns l).length, rfl, by rw [vns_len]; omega, by rw [vns_len]; omega, ?_⟩
    refine for_rangeN (n := (vns l).length) (fun i σ H' => (∃ v3 v4, σ = [some (.ref a), some (vn n), some (.ref p), v3, v4]) ∧ TabLoop M H p l n i H') ⟨⟨none, none, rfl⟩, ⟨⟨M, [], e1, pm, n1.at, .nil⟩, n1.free⟩⟩ (fun i σ H2 hi h => ?_) (fun σ H2 h => ?_)
    · obtain ⟨⟨v3, v4, rfl⟩, ⟨M2, rs, e2, m2, l2, r2⟩, p0⟩ := h
      rw [vns_len] at hi
      have hrs : rs.length = i := by rw [r2.len]; simp
      refine ⟨.ref p, rfl, .inl ⟨rfl, _, SqL.of l2⟩, vn n, rfl, n, rfl, by omega, by omega, fun D hD => ?_⟩
      refine lc_rangeN (n := n) e2.mh hD (small400 (by omega)) (fun j => ((List.range j).map (stepW l i)).map eN) rfl (fun j M4 H4 hj e4 hm4 Yes2 No2 yes2 no2 => ?_) (fun H4 h4 => ?_)
      · have a4 := e4.mh0 _ _ (e2.mm _ _ ha)
        refine ⟨rfl, .ref a, rfl, .ref a, rfl, vn i, rfl, i, rfl, a, _, i, rfl, rfl, rfl, a4, fun b H5 n5 => ⟨vn j, rfl, by show 1 ≤ sizeLine; decide, fun c H6 n6 => ⟨b, c, _, _, rfl, rfl, n6.same _ _ n5.at, n6.at, ?_, fun rd H7 n7 => ?_⟩⟩⟩
        · exact Nat.le_of_lt (small400 (by rw [List.length_take, vns_len, Nat.min_eq_left (by omega)]; show i + 1 ≤ 1000; omega))
        · have hrd : H7 rd = some (.lst (vns (l.take i ++ [j]))) := by
            rw [n7.at]
            unfold vns
            rw [List.map_append, List.map_take]
            rfl
          have s7 : Same H4 H7 := (n5.same.trans n6.same).trans n7.same
          have hrl : (l.take i ++ [j]).length = i + 1 := by rw [List.length_append, List.length_take, Nat.min_eq_left (by omega)]; rfl
          refine ⟨.ref a, rfl, a, _, rfl, .inl (s7 _ _ a4), a, rd, l, l.take i ++ [j], (l.length : Int), i + 1, by rw [vns_len]; rfl, s7 _ _ a4, hrd, by omega, by omega, by omega, by rw [hrl]; omega, fun H8 s8 => ?_⟩
          exact yes2 _ _ M4 (eN (stepW l i j)) (.of e4.mh (s7.trans s8)) (.int _) (by dsimp only; rw [map_range_succ, List.map_append]; rfl)
      · obtain ⟨M4, acc, e4, l4, m4, _, ra4, _⟩ := lc_end hD h4
        have hacc : acc = vns (rowW l n i) := ra4.nats
        subst hacc
        have p4 := e4.hh _ _ l2
        have pm4 := e4.off m2 l2
        have e4' := e4.put hD m4 l4
        refine ⟨p, rs, .ref D, rfl, rfl, p4, small400 (by omega), fun H5 w5 => ⟨⟨_, _, rfl⟩, ⟨upd M4 D (.lst (vns (rowW l n i))), rs ++ [.ref D], by rw [w5.eq]; exact (e2.trans e4').write p0 (by rw [upd_ne (ne_of_none l2 hD)]; exact pm4), by rw [upd_ne (ne_of_none l2 hD)]; exact pm4, w5.at, ?_⟩, p0⟩⟩
        rw [map_range_succ, List.map_append]
        exact (e4'.rpa r2).app (.one (.of_ns upd_same))
    · obtain ⟨⟨v3, v4, rfl⟩, ⟨M2, rs, e2, m2, l2, r2⟩, p0⟩ := h
      rw [vns_len] at r2
      exact ⟨.ref p, rfl, q _ _ _ (e2.put p0 m2 l2) (.lst (ds := (tabW l n).map eNs) upd_same (r2.s (.new m2)))⟩

/-! the law's own standings -/
structure Sg (M0 H0 M H : Hp) (fo so : Addr) (fs ss : List V) (f : List Sd) (s : List Stp) : Prop where
  e : Ext M0 H0 M H
  f0 : H0 fo = none
  s0 : H0 so = none
  fm : M fo = none
  sm : M so = none
  f_ : H fo = some (.lst fs)
  s_ : H so = some (.lst ss)
  fr : RpAll M fs (f.map eP)
  sr : RpAll M ss (s.map eS)
  ne : fo ≠ so
section
variable {M0 H0 M H H' H2 : Hp} {fo so p : Addr} {fs ss : List V} {f : List Sd} {s : List Stp} {o : HO}
theorem Sg.same (S : Sg M0 H0 M H fo so fs ss f s) (h : Same H H') : Sg M0 H0 M H' fo so fs ss f s :=
  ⟨S.e.trans (.of S.e.mh h), S.f0, S.s0, S.fm, S.sm, h _ _ S.f_, h _ _ S.s_, S.fr, S.sr, S.ne⟩
theorem Sg.new (S : Sg M0 H0 M H fo so fs ss f s) (n : New H p o H') : Sg M0 H0 (upd M p o) H' fo so fs ss f s := by
  have e := Ext.grow (o := o) S.e.mh n.free
  rw [← n.eq] at e
  refine ⟨S.e.trans e, S.f0, S.s0, ?_, ?_, n.same _ _ S.f_, n.same _ _ S.s_, e.rpa S.fr, e.rpa S.sr, S.ne⟩
  · rw [upd_ne (n.ne S.f_)]; exact S.fm
  · rw [upd_ne (n.ne S.s_)]; exact S.sm
theorem Sg.addS {v : V} {t : Stp} (S : Sg M0 H0 M H fo so fs ss f s) (w : Wr H so (.lst (ss ++ [v])) H') (r : Rp M v (eS t)) : Sg M0 H0 M H' fo so fs (ss ++ [v]) f (s ++ [t]) := by
  refine ⟨by rw [w.eq]; exact S.e.write S.s0 S.sm, S.f0, S.s0, S.fm, S.sm, w.keep S.ne S.f_, w.at, S.fr, ?_, S.ne⟩
  rw [List.map_append]
  exact S.sr.app (.one r)
theorem Sg.addF {v : V} {q : Sd} (S : Sg M0 H0 M H fo so fs ss f s) (w2 : Wr H fo (.lst (fs ++ [v])) H2) (r : Rp M v (eP q)) : Sg M0 H0 M H2 fo so (fs ++ [v]) ss (f ++ [q]) s := by
  refine ⟨by rw [w2.eq]; exact S.e.write S.f0 S.fm, S.f0, S.s0, S.fm, S.sm, w2.at, w2.keep S.ne.symm S.s_, ?_, S.sr, S.ne⟩
  rw [List.map_append]
  exact S.fr.app (.one r)
end
def sp_law_whole : Sp := fun vs H Q _ => ∃ (M : Hp) (a b c : Addr) (n : Nat) (E : List (Nat × Nat)) (l : List Nat), vs = [vn n, .ref a, .ref b, .ref c] ∧ Same M H ∧ Rp M (.ref a) (ePs E) ∧ M b = some (.lst (vns l)) ∧ Rp M (.ref c) (eRows (tabW l E.length)) ∧
  0 < l.length ∧ Pd.Web n E ∧ n ≤ 10 ∧ E.length ≤ 20 ∧ l.length ≤ 20 ∧ ∀ N, Fin n E l N → ∀ M' H' v, Ext M H M' H' → Rp M' v (.tuple [ePs (iter n E l N).1, eSs (iter n E l N).2]) → Q v H'
theorem ok__law_whole (T : Tx K mg) : FnOk P w K mg base CX0 1 T._law_whole.f T._law_whole.fd ["_law_places", "_law_ties_here", "_law_walk_here", "_law_rows"] sp_law_whole := by
  refine T._law_whole.F.ok sc__law_whole (fun vs H Q E h => ?_) (fun cdv A outer s H vs Q E' hr h => ?_)
  · obtain ⟨M, a, b, c, n, E, l, rfl, _⟩ := h
    rfl
  · obtain ⟨M, a, b, ra, n, E, l, rfl, sm, hE0, hb, hc, hl1, hE, hn, hE20, hl20, q⟩ := h
    obtain ⟨ts, ta, tl, tt⟩ := tie_at hE0
    obtain ⟨ra', rs, e, hra, hrs⟩ := hc.list_inv
    cases e
    have row : ∀ {s e : Nat}, s < l.length → e < E.length → ∃ rq, rs[s]? = some (.ref rq) ∧ M rq = some (.lst (vns (rowW l E.length s))) := fun {s e} hs he => by
      have hd : ((tabW l E.length).map eNs)[s]? = some (eNs (rowW l E.length s)) := by unfold tabW; simp [hs]
      obtain ⟨y, hy1, ry⟩ := hrs.at hd
      obtain ⟨qa, rfl, hq⟩ := ry.ns_inv
      exact ⟨qa, hy1, hq⟩
    have rowv : ∀ {s e : Nat}, e < E.length → (vns (rowW l E.length s))[e]? = some (vn (stepW l s e)) := fun {s e} he => by
      unfold rowW
      simp [he]
    refine ⟨_, (pss_cons (ps_par3 (i := 4) (j := 5) (l := 6) (by rfl) sc__law_whole.nd rfl rfl rfl (by decide) (by decide) (by decide) rfl rfl rfl (pa_cons (pe_lc (own := [("_law_place", 7)]) rfl sc__law_whole.nd (pi_range1 (by rfl) T.n_range (pa_cons (pv 0) pa_nil)) (blkOk_by (N := N__law_whole) (sc := defScope s__law_whole) (by decide +kernel)) (fun _ _ _ _ _ => (pg_name (i := 7) sc__law_whole.nd rfl (by first | exact Or.inl rfl | exact Or.inr rfl))) (fun _ _ _ _ _ => pts_nil) (fun _ _ _ _ _ => (pe_tupU (pa_cons (pv 7) (pa_cons pe_int pa_nil))))) (pa_cons pe_int (pa_cons (pe_lstU pa_nil) pa_nil))) (by rfl))
    (pss_cons (ps_while PassesOwn.never (pt_cmpR op_ltN (pv 5) (pe_callB call_lenU (by rfl) T.n_len PySem.boot_len (pa_cons (pv 4) pa_nil)) (nomark _))
      (pss_cons (ps_asg (pe_ix ix_listU (pv 4) (pv 5) (fun _ _ => rfl)) (pg_tupU (n := 2) (by rfl) (pgs_cons (pg_name (i := 7) sc__law_whole.nd rfl (Or.inl rfl)) (pgs_cons (pg_name (i := 8) sc__law_whole.nd rfl (Or.inl rfl)) pgs_nil))))
    (pss_cons (ps_set (i := 5) sc__law_whole.nd rfl (Or.inl rfl) (pe_op op_addN (pv 5) pe_int))
    (pss_one (ps_for PassesOwn.never rfl (pi_enum (by rfl) T.n_enumerate (pa_cons (pv 1) pa_nil)) (pg_tupU (n := 2) (by rfl) (pgs_cons (pg_name (i := 9) sc__law_whole.nd rfl (Or.inl rfl)) (pgs_cons (pg_tupU (n := 2) (by rfl) (pgs_cons (pg_name (i := 10) sc__law_whole.nd rfl (Or.inl rfl)) (pgs_cons (pg_name (i := 11) sc__law_whole.nd rfl (Or.inl rfl)) pgs_nil))) pgs_nil)))
      (pss_cons (ps_set (i := 12) sc__law_whole.nd rfl (Or.inl rfl) (pe_tupU (pa_cons (pv 11) (pa_cons (pe_ix ix_listU (pe_ix ix_listU (pv 3) (pv 8) (fun _ _ => rfl)) (pv 9) (fun _ _ => rfl)) pa_nil))))
    (pss_one (ps_if (PW.pt (pw_and (pt_cmpR op_eqN (pv 10) (pv 7) (nomark _)) (pw_and1 (pt_cmpR op_ltN (pe_ix ix_tupU (pv 12) pe_int (fun _ _ => rfl)) (pe_callB call_lenU (by rfl) T.n_len PySem.boot_len (pa_cons (pv 2) pa_nil)) (nomark _))))) (pss_cons (ps_expr (pe_bm PySem.F.plainAttrs_list PySem.F.slot_list_append PySem.F.type_list_append mt_appendU (pv 6) (pa_cons (pe_tupU (pa_cons (pe_tupU (pa_cons (pv 7) (pa_cons (pv 8) pa_nil))) (pa_cons (pv 12) (pa_cons (pv 9) pa_nil)))) pa_nil)))
    (pss_one (ps_if (pt_cmpR (op_notInP (hu65 hr)) (pv 12) (pv 4) (by rfl)) (pss_one (ps_expr (pe_bm PySem.F.plainAttrs_list PySem.F.slot_list_append PySem.F.type_list_append mt_appendU (pv 4) (pa_cons (pv 12) pa_nil)))) pss_nil))) pss_nil))))))))
    (pss_one (ps_ret (pe_tupU (pa_cons (pv 4) (pa_cons (pv 6) pa_nil))))))), ?_⟩
    refine ⟨vn n, rfl, n, rfl, by omega, by omega, fun fo hfo => ?_⟩
    refine lc_rangeN (n := n) sm hfo (small400 (by omega)) (fun i => ((List.range i).map fun p => (p, 0)).map eP) rfl (fun i M2 H2 hi e2 hm2 Yes No yes no => ?_) (fun H2 h2 => ?_)
    · refine ⟨rfl, vn i, rfl, by show 2 ≤ sizeLine; decide, fun c H3 n3 => ?_⟩
      have e3 := Ext.grow (o := .tup [vn i, .int 0]) e2.mh n3.free
      rw [← n3.eq] at e3
      exact yes _ _ _ (eP (i, 0)) e3 (.of_p upd_same) (by dsimp only; rw [map_range_succ, List.map_append]; rfl)
    obtain ⟨M2, acc, e2, l2, m2, _, ra2, _⟩ := lc_end hfo h2
    refine ⟨Nat.zero_le _, fun so H4 n4 => ⟨_, _, _, rfl, ?_⟩⟩
    have e4 : Ext M H M2 H4 := e2.trans (.of e2.mh n4.same)
    have S0 : Sg M H M2 H4 fo so acc [] (iter n E l 0).1 (iter n E l 0).2 := ⟨e4, hfo, e2.hh.free n4.free, m2, e2.mh.free n4.free, n4.same _ _ l2, n4.at, ra2, .nil, n4.ne l2⟩
    clear h2
    refine while_m (fun m σ H' => ∃ at_ : Nat, (∃ v7 v8 v9 v10 v11 v12, σ = [some (vn n), some (.ref a), some (.ref b), some (.ref ra), some (.ref fo), some (vn at_), some (.ref so), v7, v8, v9, v10, v11, v12]) ∧ (∀ j, j < at_ → j < (iter n E l j).1.length) ∧
      (∃ M' fs ss, Sg M H M' H' fo so fs ss (iter n E l at_).1 (iter n E l at_).2) ∧ m = n + l.length + 1 - at_) (n + l.length + 1) ⟨0, ⟨_, _, _, _, _, _, rfl⟩, fun j hj => by omega, ⟨M2, acc, [], S0⟩, rfl⟩ (fun m σ H6 h Q yes no => ?_)
    clear S0
    obtain ⟨at_, ⟨v7, v8, v9, v10, v11, v12, rfl⟩, hgo, ⟨M6, fs, ss, S⟩, rfl⟩ := h
    have hfsl : fs.length = (iter n E l at_).1.length := by rw [S.fr.len, List.length_map]
    have ok := iter_ok hE hl1 at_ hgo
    have okl := ok.len
    have okst := iter_len n E l at_
    refine ⟨vn at_, rfl, .ref fo, rfl, fo, fs, rfl, .inl S.f_, at_, fs.length, rfl, rfl, decide (at_ < fs.length), rfl, ?_⟩
    by_cases hat : at_ < fs.length
    · rw [decide_eq_true hat]
      refine yes _ ?_
      have hat' : at_ < (iter n E l at_).1.length := by omega
      have hm6 : Same M6 H6 := S.e.mh
      have hd : ((iter n E l at_).1.map eP)[at_]? = some (eP ((iter n E l at_).1.getD at_ (0, 0))) := by
        rw [List.getElem?_map, List.getD_eq_getElem?_getD, List.getElem?_eq_getElem hat']
        rfl
      obtain ⟨y, hy, ry⟩ := S.fr.at hd
      obtain ⟨pa, rfl, hpa⟩ := ry.p_inv
      have hpm := getD_mem hat'
      have hiter : iter n E l (at_ + 1) = stand E l ((iter n E l at_).1.getD at_ (0, 0)) (iter n E l at_) := rfl
      generalize (iter n E l at_).1.getD at_ (0, 0) = p at hpa hpm hiter
      have hplt := ok.lt p hpm
      refine ⟨.ref fo, rfl, vn at_, rfl, fo, fs, at_, .ref pa, rfl, rfl, S.f_, hy, pa, _, rfl, hm6 _ _ hpa, rfl, _, _, rfl, _, _, rfl, rfl, ?_⟩
      refine ⟨vn at_, rfl, at_, 1, rfl, rfl, ?_⟩
      have sm6 : Same M H6 := S.e.mh0
      refine ⟨.ref a, rfl, a, _, rfl, SqL.of (sm6 _ _ ta), ?_⟩
      have hfold : ∀ i, i ≤ E.length → Ok n E l ((Tj.adjTo E i p.1).foldl (turn E l p) (iter n E l at_)) ∧ ∀ q ∈ (iter n E l at_).1, q ∈ ((Tj.adjTo E i p.1).foldl (turn E l p) (iter n E l at_)).1 := fun i hi => fold_ok hE _ (fun e he => by
        unfold Tj.adjTo at he
        obtain ⟨h1, h2⟩ := List.mem_filter.mp he
        have := List.mem_range.mp h1
        exact Tj.mem_adj.mpr ⟨by omega, of_decide_eq_true h2⟩) ok hpm
      refine for_enumL (K := K) (a := a) (xs := ts) (fun i σ H' => (∃ v9 v10 v11 v12, σ = [some (vn n), some (.ref a), some (.ref b), some (.ref ra), some (.ref fo), some (vn (at_ + 1)), some (.ref so), some (vn p.1), some (vn p.2), v9, v10, v11, v12]) ∧
        ∃ M' fs ss, Sg M H M' H' fo so fs ss ((Tj.adjTo E i p.1).foldl (turn E l p) (iter n E l at_)).1 ((Tj.adjTo E i p.1).foldl (turn E l p) (iter n E l at_)).2)
        ⟨⟨_, _, _, _, rfl⟩, M6, fs, ss, S⟩ (fun i σ H' _ h => SqL.of ?_) (fun i y Ta σ H7 hy h H8 nT => ?_) (fun σ H7 h => ?_)
      · obtain ⟨_, M7, fs7, ss7, S7⟩ := h
        exact S7.e.mh0 _ _ ta
      · obtain ⟨⟨v9, v10, v11, v12, rfl⟩, M7, fs7, ss7, S7⟩ := h
        have hi : i < E.length := by have := (List.getElem?_eq_some_iff.mp hy).1; omega
        obtain ⟨ea, hea, hee⟩ := tt i hi
        rw [hy] at hea
        cases Option.some.inj hea
        obtain ⟨okf, hpin⟩ := hfold i (by omega)
        have okfl := okf.len
        have hss7 : ss7.length ≤ 1000 := by
          rw [S7.sr.len, List.length_map]
          have h1 := fold_len (E := E) (w := l) p (Tj.adjTo E i p.1) (iter n E l at_)
          have h3 : (Tj.adjTo E i p.1).length ≤ 20 := by
            unfold Tj.adjTo
            exact Nat.le_trans (List.length_filter_le _ _) (by rw [List.length_range]; omega)
          have h4 : at_ * E.length ≤ 30 * 20 := Nat.mul_le_mul (by omega) hE20
          omega
        have hfs7 : fs7.length ≤ 1000 := by
          rw [S7.fr.len, List.length_map]
          omega
        have hpin := hpin p hpm
        rw [Tj.adjTo_succ]
        have hfin : (if Tj.src E i = p.1 then Tj.adjTo E i p.1 ++ [i] else Tj.adjTo E i p.1).foldl (turn E l p) (iter n E l at_) = if Tj.src E i = p.1 then turn E l p ((Tj.adjTo E i p.1).foldl (turn E l p) (iter n E l at_)) i else (Tj.adjTo E i p.1).foldl (turn E l p) (iter n E l at_) := by
          split
          · rw [List.foldl_append]; rfl
          · rfl
        rw [hfin]
        generalize (Tj.adjTo E i p.1).foldl (turn E l p) (iter n E l at_) = st at S7 okf hpin ⊢
        have ST := S7.same nT.same
        have sm8 : Same M H8 := ST.e.mh0
        obtain ⟨rq, hrq, hrr⟩ := row (e := i) hplt.2 hi
        refine ⟨Ta, _, rfl, nT.at, rfl, _, _, rfl, _, _, rfl, ⟨ea, _, rfl, sm8 _ _ hee, rfl, _, _, rfl, _, _, rfl, rfl, rfl, ?_⟩⟩
        refine ⟨vn (Tj.tgt E i), rfl, .ref ra, rfl, vn p.2, rfl, ra, rs, p.2, .ref rq, rfl, rfl, sm8 _ _ hra, hrq, vn i, rfl, rq, _, i, vn (stepW l p.2 i), rfl, rfl, sm8 _ _ hrr, rowv hi, by show 2 ≤ sizeLine; decide, fun la H9 n9 => ?_⟩
        have S8 := ST.new n9
        have hla8 : upd M7 la (.tup [vn (Tj.tgt E i), vn (stepW l p.2 i)]) la = some (.tup [vn (Tj.tgt E i), vn (stepW l p.2 i)]) := upd_same
        generalize upd M7 la (.tup [vn (Tj.tgt E i), vn (stepW l p.2 i)]) = M8 at S8 hla8
        refine ⟨vn (Tj.src E i), rfl, vn p.1, rfl, Tj.src E i, p.1, rfl, rfl, decide (Tj.src E i = p.1), rfl, ?_⟩
        by_cases hsp : Tj.src E i = p.1
        · rw [decide_eq_true hsp, if_pos hsp]
          refine iteT ?_
          have hb9 : H9 b = some (.lst (vns l)) := S8.e.mh0 _ _ hb
          refine ⟨.ref la, rfl, la, _, 1, vn (stepW l p.2 i), rfl, rfl, n9.at, rfl, .ref b, rfl, b, _, rfl, .inl hb9, stepW l p.2 i, (vns l).length, rfl, rfl, decide (stepW l p.2 i < l.length), by rw [vns_len], ?_⟩
          by_cases hlt : stepW l p.2 i < l.length
          · rw [decide_eq_true hlt]
            refine iteT ?_
            have htn : turn E l p st i = (if later E l p i ∈ st.1 then st.1 else st.1 ++ [later E l p i], st.2 ++ [(p, later E l p i, i)]) := by
              unfold turn
              rw [if_pos (show (later E l p i).2 < l.length from hlt)]
            refine ⟨.ref so, rfl, .inl ⟨rfl, _, SqL.of S8.s_⟩, vn p.1, rfl, vn p.2, rfl, by show 2 ≤ sizeLine; decide, fun c1 H10 n10 => ⟨.ref la, rfl, vn i, rfl, by show 3 ≤ sizeLine; decide, fun c2 H11 n11 => ?_⟩⟩
            have S9 := S8.new n10
            have e89 : Same M8 (upd M8 c1 (.tup [vn p.1, vn p.2])) := .new (S8.e.mh.free n10.free)
            have hc19 : upd M8 c1 (.tup [vn p.1, vn p.2]) c1 = some (.tup [vn p.1, vn p.2]) := upd_same
            have hla9 := e89 _ _ hla8
            generalize upd M8 c1 (.tup [vn p.1, vn p.2]) = M9 at S9 e89 hc19 hla9
            have S10 := S9.new n11
            have e910 : Same M9 (upd M9 c2 (.tup [.ref c1, .ref la, vn i])) := .new (S9.e.mh.free n11.free)
            have hc210 : upd M9 c2 (.tup [.ref c1, .ref la, vn i]) c2 = some (.tup [.ref c1, .ref la, vn i]) := upd_same
            have hc110 := e910 _ _ hc19
            have hla10 := e910 _ _ hla9
            generalize upd M9 c2 (.tup [.ref c1, .ref la, vn i]) = M10 at S10 e910 hc110 hla10 hc210
            refine ⟨so, ss7, .ref c2, rfl, rfl, S10.s_, small400 hss7, fun H12 w12 => ?_⟩
            have rla : Rp M10 (.ref la) (eP (later E l p i)) := .of_p hla10
            have S11 := S10.addS (t := (p, later E l p i, i)) w12 (.tup hc210 (.cons (.of_p hc110) (.cons rla (.cons (.int _) .nil))))
            rw [htn]
            refine ⟨.ref la, rfl, .ref fo, rfl, later E l p i, st.1, rla.s S11.e.mh, .lst S11.f_ (S11.fr.s S11.e.mh), !decide (later E l p i ∈ st.1), rfl, ?_⟩
            by_cases hmem : later E l p i ∈ st.1
            · rw [decide_eq_true hmem, if_pos hmem]
              exact iteF ⟨⟨_, _, _, _, rfl⟩, M10, fs7, _, S11⟩
            · rw [decide_eq_false hmem, if_neg hmem]
              refine iteT ?_
              refine ⟨.ref fo, rfl, .inl ⟨rfl, _, SqL.of S11.f_⟩, .ref la, rfl, fo, fs7, .ref la, rfl, rfl, S11.f_, small400 hfs7, fun H13 w13 => ?_⟩
              exact ⟨⟨_, _, _, _, rfl⟩, M10, _, _, S11.addF w13 rla⟩
          · rw [decide_eq_false hlt]
            have htn : turn E l p st i = st := by
              unfold turn
              rw [if_neg (show ¬ (later E l p i).2 < l.length from hlt)]
            rw [htn]
            exact iteF ⟨⟨_, _, _, _, rfl⟩, M8, fs7, ss7, S8⟩
        · rw [decide_eq_false hsp, if_neg hsp]
          exact iteF (iteF ⟨⟨_, _, _, _, rfl⟩, M8, fs7, ss7, S8⟩)
      · obtain ⟨⟨v9, v10, v11, v12, rfl⟩, M7, fs7, ss7, S7⟩ := h
        rw [tl] at S7
        refine ⟨n + l.length + 1 - (at_ + 1), by omega, at_ + 1, ⟨_, _, _, _, _, _, rfl⟩, fun j hj => ?_, ⟨M7, fs7, ss7, ?_⟩, rfl⟩
        · by_cases e : j = at_
          · rw [e]; exact hat'
          · exact hgo j (by omega)
        · rw [hiter]
          exact S7
    · rw [decide_eq_false hat]
      refine no _ ?_
      refine ⟨.ref fo, rfl, .ref so, rfl, by show 2 ≤ sizeLine; decide, fun rt H7 n7 => ?_⟩
      have ef : Ext M H (frz M6 H6 [fo, so]) H6 := S.e.puts fun y hy => by
        rcases List.mem_cons.mp hy with z | hy
        · rw [z]; exact ⟨S.f0, S.fm⟩
        · rw [List.mem_singleton] at hy
          rw [hy]; exact ⟨S.s0, S.sm⟩
      have sfr : Same M6 (frz M6 H6 [fo, so]) := frz_same fun y hy => by
        rcases List.mem_cons.mp hy with z | hy
        · rw [z]; exact S.fm
        · rw [List.mem_singleton] at hy
          rw [hy]; exact S.sm
      have hfo' : frz M6 H6 [fo, so] fo = some (.lst fs) := by rw [frz_in (by simp)]; exact S.f_
      have hso' : frz M6 H6 [fo, so] so = some (.lst ss) := by rw [frz_in (by simp)]; exact S.s_
      have eg := Ext.grow (o := .tup [.ref fo, .ref so]) ef.mh n7.free
      rw [← n7.eq] at eg
      have sg : Same (frz M6 H6 [fo, so]) (upd (frz M6 H6 [fo, so]) rt (.tup [.ref fo, .ref so])) := .new (ef.mh.free n7.free)
      refine q at_ ⟨hgo, by omega⟩ _ _ _ (ef.trans eg) (.tup upd_same (.cons ?_ (.cons ?_ .nil)))
      · exact .lst (sg _ _ hfo') ((S.fr.s sfr).s sg)
      · exact .lst (sg _ _ hso') ((S.sr.s sfr).s sg)
end
end K31
namespace K31
open PySem L2 Tj
/-! The law's own parts: plain Lean -/
/-- while the reach of k is found: X stands apart -/
structure Rc (ss : List Tr) (n k : Nat) (X : Nat → Prop) (met row : List Nat) : Prop where
  nd : met.Nodup
  lt : ∀ x ∈ met, x < n
  me : k ∈ met
  rch : ∀ x ∈ met, Rch (edges ss) k x
  sub : ∀ x ∈ row, x ∈ met
  cl : ∀ x ∈ met, x ∉ row → ¬ X x → ∀ t ∈ ss, t.1 = x → t.2.1 ∈ met
theorem Rc.done {ss : List Tr} {n k : Nat} {met : List Nat} (h : Rc ss n k (fun _ => False) met []) : ∀ x, x ∈ met ↔ Rch (edges ss) k x := fun x => by
  refine ⟨h.rch x, fun r => ?_⟩
  refine r.stays (P := fun y => y ∈ met) (fun a b ha hab => ?_) h.me
  unfold edges at hab
  obtain ⟨t, ht, e⟩ := List.mem_map.mp hab
  have e1 : t.1 = a := (Prod.mk.inj e).1
  have e2 : t.2.1 = b := (Prod.mk.inj e).2
  rw [← e2]
  exact h.cl a ha (by simp) (fun z => z) t ht e1
theorem edges_lt {ss : List Tr} {n : Nat} (h : ∀ t ∈ ss, t.1 < n ∧ t.2.1 < n) {a b : Nat} (r : Rch (edges ss) a b) (ha : a < n) : b < n := by
  refine r.stays (P := fun y => y < n) (fun a b _ hab => ?_) ha
  unfold edges at hab
  obtain ⟨t, ht, e⟩ := List.mem_map.mp hab
  rw [← (Prod.mk.inj e).2]
  exact (h t ht).2
theorem within_congr {p q : List Nat} {ss : List Tr} (h : ∀ x, x ∈ p ↔ x ∈ q) : within p ss = within q ss := by
  unfold within
  refine List.filter_congr fun t _ => ?_
  rw [decide_eq_decide.mpr (h t.1), decide_eq_decide.mpr (h t.2.1)]
theorem dis_empty {l : List Nat} (h : ∀ x ∈ l, x < 64) : (dis l).isEmpty = l.isEmpty := by
  cases l with
  | nil => rfl
  | cons x r =>
    have : x ∈ dis (x :: r) := (mem_dis h).mpr (by simp)
    cases e : dis (x :: r) with
    | nil => rw [e] at this; cases this
    | cons y s => rfl
open Classical in
noncomputable def repsTo (n : Nat) (E : List (Nat × Nat)) (i : Nat) : List Nat := (List.range i).filter fun a => decide (∀ b, b < a → ¬ Mut E a b)
theorem repsTo_n (n : Nat) (E : List (Nat × Nat)) : repsTo n E n = reps n E := rfl
open Classical in
theorem repsTo_succ (n : Nat) (E : List (Nat × Nat)) (i : Nat) : repsTo n E (i + 1) = repsTo n E i ++ if (∀ b, b < i → ¬ Mut E i b) then [i] else [] := by
  unfold repsTo
  rw [List.range_succ, List.filter_append]
  congr 1
  by_cases h : ∀ b, b < i → ¬ Mut E i b
  · rw [if_pos h, List.filter_cons, if_pos (by simpa using h)]; rfl
  · rw [if_neg h, List.filter_cons, if_neg (by simpa using h)]; rfl
theorem partsOf_app (ss : List Tr) (a b : List (List Nat)) : partsOf ss (a ++ b) = partsOf ss a ++ partsOf ss b := List.filterMap_append
theorem partsOf_one (ss : List Tr) (p : List Nat) : partsOf ss [p] = (pOf ss p).toList := by
  unfold partsOf
  cases e : pOf ss p with
  | none => simp [e]
  | some x => simp [e]
/-- parts with rising heads stay as they are -/
theorem srtQ_parts (n : Nat) (ss : List Tr) : srtQ (partsW n ss) = partsW n ss := by
  unfold srtQ
  refine List.mergeSort_of_pairwise ?_
  unfold partsW partsOf
  rw [List.pairwise_filterMap]
  refine (sccs_lt n (edges ss)).imp fun {a b} hab p hp q hq => ?_
  have h1 : p.1 = a := by
    unfold pOf at hp
    split at hp
    · cases hp
    · cases Option.some.inj hp; rfl
  have h2 : q.1 = b := by
    unfold pOf at hq
    split at hq
    · cases hq
    · cases Option.some.inj hq; rfl
  rw [PySem.W.dataLe_eq]
  show (!PySem.W.dataLt (.tuple [eNs q.1, eNs q.2]) (.tuple [eNs p.1, eNs p.2])) = true
  rw [PySem.W.dataLt_pair (show PySem.W.alike (eNs q.1) (eNs p.1) = true from alike_ns _ _) (show PySem.W.alike (eNs q.2) (eNs p.2) = true from alike_ns _ _), eqv_ns, h1, h2]
  have hne : b ≠ a := fun z => by rw [z] at hab; exact List.lt_irrefl _ hab
  rw [if_neg (by simpa using hne), PySem.W.dataLt_list]
  show (!PySem.W.rowLt (b.map eN) (a.map eN)) = true
  rw [map_cast, map_cast, PySem.W.dataLt_ints]
  simp only [Bool.not_eq_true', decide_eq_false_iff_not]
  exact fun z => List.lt_irrefl _ (List.lt_trans hab z)
section
variable {P : Program} {w : World} {K : PySem.W.Frag} {mg : PySem.Str → Option Value} {base : Heap}
def sp_reach : Sp := fun vs H Q _ => ∃ (M : Hp) (a : Addr) (ss : List Tr) (n k : Nat), vs = [.ref a, vn k] ∧ Same M H ∧ Rp M (.ref a) (eTs ss) ∧ k < n ∧ n ≤ 100 ∧ (∀ t ∈ ss, t.1 < n ∧ t.2.1 < n) ∧
  ∀ l H' p, l.Nodup → (∀ x, x ∈ l ↔ Rch (edges ss) k x) → Same H H' → H p = none → H' p = some (.lst (vns l)) → Q (.ref p) H'
theorem ok__law_reach (T : Tx K mg) : FnOk P w K mg base CX0 1 T._law_reach.f T._law_reach.fd ["_law_steps", "_law_here"] sp_reach := by
  refine T._law_reach.F.ok sc__law_reach (fun vs H Q E h => ?_) (fun cdv A outer s H vs Q E hr h => ?_)
  · obtain ⟨M, a, ss, n, k, rfl, _⟩ := h
    rfl
  · obtain ⟨M, a, ss, n, k, rfl, sm, ha, hk, hn, hlt, q⟩ := h
    obtain ⟨a', bs, e, hbl, hbs⟩ := ha.list_inv
    cases e
    have hbsl : bs.length = ss.length := by rw [hbs.len, List.length_map]
    refine ⟨_, (pss_cons (ps_par (i := 2) (j := 3) (by rfl) sc__law_reach.nd rfl rfl (by decide) rfl rfl (pa_cons (pe_lstU (pa_cons (pv 1) pa_nil)) (pa_cons (pe_lstU (pa_cons (pv 1) pa_nil)) pa_nil)) (by rfl))
    (pss_cons (ps_while PassesOwn.never (pt_cmpR (op_neU hr.units) (pv 3) (pe_lstU pa_nil) (nomark _))
      (pss_cons (ps_set (i := 4) sc__law_reach.nd rfl (Or.inl rfl) (pe_bm0 PySem.F.plainAttrs_list PySem.F.slot_list_pop PySem.F.type_list_pop mt_popU (pv 3)))
    (pss_one (ps_for PassesOwn.never rfl (pi_list (pv 0)) (pg_tupU (n := 3) (by rfl) (pgs_cons (pg_name (i := 5) sc__law_reach.nd rfl (Or.inl rfl)) (pgs_cons (pg_name (i := 6) sc__law_reach.nd rfl (Or.inl rfl)) (pgs_cons (pg_name (i := 7) sc__law_reach.nd rfl (Or.inl rfl)) pgs_nil))))
      (pss_one (ps_if (PW.pt (pw_and (pt_cmpR op_eqN (pv 5) (pv 4) (nomark _)) (pw_and1 (pt_cmpR op_notInU (pv 6) (pv 2) (by rfl))))) (pss_cons (ps_expr (pe_bm PySem.F.plainAttrs_list PySem.F.slot_list_append PySem.F.type_list_append mt_appendU (pv 2) (pa_cons (pv 6) pa_nil)))
    (pss_one (ps_expr (pe_bm PySem.F.plainAttrs_list PySem.F.slot_list_append PySem.F.type_list_append mt_appendU (pv 3) (pa_cons (pv 6) pa_nil))))) pss_nil))))))
    (pss_one (ps_ret (pv 2))))), ?_⟩
    refine ⟨vn k, rfl, by show 1 ≤ sizeLine; decide, fun p H1 n1 => ⟨vn k, rfl, by show 1 ≤ sizeLine; decide, fun r H2 n2 => ⟨_, _, rfl, ?_⟩⟩⟩
    have p2 := n2.same _ _ n1.at
    have pr : p ≠ r := n2.ne n1.at
    have r0 : H r = none := n1.same.free n2.free
    have s2 := n1.same.trans n2.same
    refine while_m (fun m σ H' => (∃ v4 v5 v6 v7, σ = [some (.ref a), some (vn k), some (.ref p), some (.ref r), v4, v5, v6, v7]) ∧ ∃ met row, Same H H' ∧ H' p = some (.lst (vns met)) ∧ H' r = some (.lst (vns row)) ∧ Rc ss n k (fun _ => False) met row ∧ (n - met.length) + row.length ≤ n ∧ m = (n - met.length) + row.length) ((n - 1) + 1)
      ⟨⟨_, _, _, _, rfl⟩, [k], [k], s2, p2, n2.at, ⟨by simp, fun x hx => by rw [List.mem_singleton] at hx; rw [hx]; exact hk, by simp, fun x hx => by rw [List.mem_singleton] at hx; rw [hx]; exact .refl k, fun x hx => hx, fun x hx hn => absurd hx hn⟩, by show (n - 1) + 1 ≤ n; omega, rfl⟩ (fun m σ H3 h Q yes no => ?_)
    obtain ⟨⟨v4, v5, v6, v7, rfl⟩, met, row, s3, p3, r3, rc, hle, rfl⟩ := h
    have hml := len_le n met rc.nd rc.lt
    refine ⟨.ref r, rfl, Nat.zero_le _, fun z H4 n4 => ⟨eNs row, .list [], .of_ns (n4.same _ _ r3), .lst n4.at .nil, (sh_ns _).ok, sh_nil.ok, !row.isEmpty, by rw [eqv_nil], ?_⟩⟩
    have s4 := s3.trans n4.same
    have p4 := n4.same _ _ p3
    have r4 := n4.same _ _ r3
    rcases List.eq_nil_or_concat row with hl | ⟨l, e0, hl⟩
    · subst hl
      exact no _ ⟨.ref p, rfl, q met _ _ rc.nd rc.done s4 n1.free p4⟩
    · rw [List.concat_eq_append] at hl
      subst hl
      rw [show (!(l ++ [e0]).isEmpty) = true by simp]
      refine yes _ ?_
      have r4' : H4 r = some (.lst (vns l ++ [vn e0])) := by rw [r4, vns_app]
      refine ⟨.ref r, rfl, .inl ⟨rfl, _, SqL.of r4'⟩, r, vns l, vn e0, rfl, rfl, r4', fun H5 w5 => ?_⟩
      have s5 : Same H H5 := by rw [w5.eq]; exact s4.past r0
      refine ⟨.ref a, rfl, a, rfl, ⟨_, SqL.of (s5 _ _ (sm _ _ hbl))⟩, ?_⟩
      have he0 := rc.sub e0 (by simp)
      refine for_list (K := K) (a := a) (xs := bs) (fun i σ H' => (∃ v5 v6 v7, σ = [some (.ref a), some (vn k), some (.ref p), some (.ref r), some (vn e0), v5, v6, v7]) ∧ ∃ met' row', Same H H' ∧ H' p = some (.lst (vns met')) ∧ H' r = some (.lst (vns row')) ∧ Rc ss n k (fun x => x = e0) met' row' ∧ e0 ∈ met' ∧
        (∀ t ∈ ss.take i, t.1 = e0 → t.2.1 ∈ met') ∧ (n - met'.length) + row'.length = (n - met.length) + l.length)
        ⟨⟨_, _, _, rfl⟩, met, l, s5, w5.keep pr p4, w5.at, ⟨rc.nd, rc.lt, rc.me, rc.rch, fun x hx => rc.sub x (List.mem_append_left _ hx), fun x hx hnx hne t ht e => rc.cl x hx (fun z => by
          rcases List.mem_append.mp z with z | z
          · exact hnx z
          · rw [List.mem_singleton] at z; exact hne z) (fun z => z) t ht e⟩, he0, fun t ht => by simp at ht, rfl⟩ (fun i σ H' _ h => SqL.of ?_) (fun i y σ H6 hy h => ?_) (fun σ H6 h => ?_)
      · obtain ⟨_, met', row', s6, _⟩ := h
        exact s6 _ _ (sm _ _ hbl)
      · obtain ⟨⟨v5, v6, v7, rfl⟩, met', row', s6, p6, r6, rc6, he6, hcl, hm⟩ := h
        obtain ⟨d, hd, rd⟩ := hbs.at' hy
        rw [List.getElem?_map] at hd
        obtain ⟨t, ht, rfl⟩ := Option.map_eq_some_iff.mp hd
        obtain ⟨ta, rfl, hta⟩ := rd.t_inv
        have htm := List.mem_of_getElem? ht
        have hml' := len_le n met' rc6.nd rc6.lt
        have htk : ss.take (i + 1) = ss.take i ++ [t] := by rw [List.take_add_one, ht]; rfl
        refine ⟨ta, _, rfl, s6 _ _ (sm _ _ hta), rfl, _, _, rfl, _, _, rfl, _, _, rfl, rfl, ?_⟩
        refine ⟨vn t.1, rfl, vn e0, rfl, t.1, e0, rfl, rfl, decide (t.1 = e0), rfl, ?_⟩
        by_cases h1 : t.1 = e0
        · rw [decide_eq_true h1]
          refine iteT ?_
          refine ⟨vn t.2.1, rfl, .ref p, rfl, t.2.1, p, met', rfl, rfl, p6, !decide (t.2.1 ∈ met'), rfl, ?_⟩
          by_cases h2 : t.2.1 ∈ met'
          · rw [decide_eq_true h2]
            refine iteF ⟨⟨_, _, _, rfl⟩, met', row', s6, p6, r6, rc6, he6, fun u hu e => ?_, hm⟩
            rw [htk] at hu
            rcases List.mem_append.mp hu with z | z
            · exact hcl u z e
            · rw [List.mem_singleton] at z; rw [z]; exact h2
          · rw [decide_eq_false h2]
            have hrr : Rch (edges ss) k t.2.1 := .step (rc6.rch _ he6) (by rw [← h1]; unfold edges; exact List.mem_map.mpr ⟨t, htm, rfl⟩)
            have nd' : (met' ++ [t.2.1]).Nodup := by
              rw [List.nodup_append]
              exact ⟨rc6.nd, by simp, fun a ha b hb => by rw [List.mem_singleton] at hb; rw [hb]; exact fun z => h2 (z ▸ ha)⟩
            have lt' : ∀ x ∈ met' ++ [t.2.1], x < n := fun x hx => by
              rcases List.mem_append.mp hx with z | z
              · exact rc6.lt x z
              · rw [List.mem_singleton] at z; rw [z]; exact (hlt t htm).2
            have hl2 := len_le n _ nd' lt'
            rw [List.length_append, List.length_singleton] at hl2
            have hrl : row'.length ≤ 1000 := by
              rw [List.length_append, List.length_singleton] at hle
              omega
            refine iteT ⟨.ref p, rfl, .inl ⟨rfl, _, SqL.of p6⟩, vn t.2.1, rfl, p, _, vn t.2.1, rfl, rfl, p6, small400 (by rw [vns_len]; omega), fun H7 w7 => ?_⟩
            have r7 := w7.keep pr.symm r6
            refine ⟨.ref r, rfl, .inl ⟨rfl, _, SqL.of r7⟩, vn t.2.1, rfl, r, _, vn t.2.1, rfl, rfl, r7, small400 (by rw [vns_len]; exact hrl), fun H8 w8 => ?_⟩
            refine ⟨⟨_, _, _, rfl⟩, met' ++ [t.2.1], row' ++ [t.2.1], ?_, by rw [w8.old pr, w7.at, vns_app], by rw [w8.at, vns_app], ⟨nd', lt', List.mem_append_left _ rc6.me, fun x hx => ?_, fun x hx => ?_, fun x hx hnx hne u hu e => ?_⟩, List.mem_append_left _ he6, fun u hu e => ?_, ?_⟩
            · rw [w8.eq, w7.eq]
              exact (s6.past n1.free).past r0
            · rcases List.mem_append.mp hx with z | z
              · exact rc6.rch x z
              · rw [List.mem_singleton] at z; rw [z]; exact hrr
            · rcases List.mem_append.mp hx with z | z
              · exact List.mem_append_left _ (rc6.sub x z)
              · exact List.mem_append_right _ z
            · rcases List.mem_append.mp hx with z | z
              · exact List.mem_append_left _ (rc6.cl x z (fun y => hnx (List.mem_append_left _ y)) hne u hu e)
              · exact absurd (List.mem_append_right _ z) hnx
            · rw [htk] at hu
              rcases List.mem_append.mp hu with z | z
              · exact List.mem_append_left _ (hcl u z e)
              · rw [List.mem_singleton] at z; rw [z]; simp
            · rw [List.length_append, List.length_append, List.length_singleton]
              omega
        · rw [decide_eq_false h1]
          refine iteF (iteF ⟨⟨_, _, _, rfl⟩, met', row', s6, p6, r6, rc6, he6, fun u hu e => ?_, hm⟩)
          rw [htk] at hu
          rcases List.mem_append.mp hu with z | z
          · exact hcl u z e
          · rw [List.mem_singleton] at z; rw [z] at e; exact absurd e h1
      · obtain ⟨⟨v5, v6, v7, rfl⟩, met', row', s6, p6, r6, rc6, he6, hcl, hm⟩ := h
        rw [hbsl, List.take_of_length_le (Nat.le_refl _)] at hcl
        refine ⟨(n - met'.length) + row'.length, ?_, ⟨_, _, _, _, rfl⟩, met', row', s6, p6, r6, ⟨rc6.nd, rc6.lt, rc6.me, rc6.rch, rc6.sub, fun x hx hnx _ t ht e => ?_⟩, ?_, rfl⟩
        · rw [List.length_append, List.length_singleton]
          omega
        rotate_left
        · rw [List.length_append, List.length_singleton] at hle
          omega
        · by_cases z : x = e0
          · exact hcl t ht (by rw [e, z])
          · exact rc6.cl x hx hnx z t ht e
end
end K31
namespace K31
open PySem L2 Tj
/-- the reaches, i of them -/
def RchAt (ss : List Tr) (M : Hp) (acc : List V) (i : Nat) : Prop := acc.length = i ∧ ∀ j, j < i → ∃ q l, acc[j]? = some (.ref q) ∧ M q = some (.lst (vns l)) ∧ l.Nodup ∧ ∀ x, x ∈ l ↔ Rch (edges ss) j x
theorem RchAt.same {ss : List Tr} {M M' : Hp} {acc : List V} {i : Nat} (h : RchAt ss M acc i) (s : Same M M') : RchAt ss M' acc i :=
  ⟨h.1, fun j hj => by
    obtain ⟨q, l, a, b, c⟩ := h.2 j hj
    exact ⟨q, l, a, s _ _ b, c⟩⟩
section
variable {P : Program} {w : World} {K : PySem.W.Frag} {mg : PySem.Str → Option Value} {base : Heap}
def sp_law_parts : Sp := fun vs H Q _ => ∃ (M : Hp) (a b : Addr) (st : List Pd.Sd) (ss : List Tr), vs = [.ref a, .ref b] ∧ Same M H ∧ Rp M (.ref a) (ePs st) ∧ Rp M (.ref b) (eTs ss) ∧ st.length ≤ 100 ∧ ss.length ≤ 1000 ∧ (∀ t ∈ ss, t.1 < st.length ∧ t.2.1 < st.length ∧ t.2.2 < 63) ∧
  ∀ M' H' v, Ext M H M' H' → Rp M' v (eParts (partsW st.length ss)) → Q v H'
open Classical in
theorem ok__law_parts (T : Tx K mg) : FnOk P w K mg base CX0 2 T._law_parts.f T._law_parts.fd ["_law_standings", "_law_steps"] sp_law_parts := by
  refine T._law_parts.F.ok sc__law_parts (fun vs H Q E h => ?_) (fun cdv A outer s H vs Q E hr h => ?_)
  · obtain ⟨M, a, b, st, ss, rfl, _⟩ := h
    rfl
  · obtain ⟨M, a, b, st, ss, rfl, sm, ha, hb, hst, hss, hlt, q⟩ := h
    obtain ⟨a', as, e, hal, has⟩ := id ha.list_inv
    cases e
    obtain ⟨b', bs, e, hbl, hbs⟩ := id hb.list_inv
    cases e
    have hasl : as.length = st.length := by rw [has.len, List.length_map]
    have hbsl : bs.length = ss.length := by rw [hbs.len, List.length_map]
    generalize hn : st.length = n at hst hlt hasl q
    have hlt2 : ∀ t ∈ ss, t.1 < n ∧ t.2.1 < n := fun t ht => ⟨(hlt t ht).1, (hlt t ht).2.1⟩
    refine ⟨_, (pss_cons (ps_set (i := 2) sc__law_parts.nd rfl (Or.inr rfl) (pe_lc (own := [("_law_at", 3)]) rfl sc__law_parts.nd (pi_range1 (by rfl) T.n_range (pa_cons (pe_callB call_lenU (by rfl) T.n_len PySem.boot_len (pa_cons (pv 0) pa_nil)) pa_nil)) (blkOk_by (N := N__law_parts) (sc := defScope s__law_parts) (by decide +kernel)) (fun _ _ _ _ _ => (pg_name (i := 3) sc__law_parts.nd rfl (by first | exact Or.inl rfl | exact Or.inr rfl))) (fun _ _ _ _ _ => pts_nil) (fun _ _ _ _ _ => (pe_call (ok__law_reach T) (hr.mono (by decide)) (by rfl) T._law_reach.g T._law_reach.F.kp T._law_reach.b .nil pass0 (pa_cons (pv 1) (pa_cons (pv 3) pa_nil))))))
    (pss_cons (ps_par (i := 4) (j := 5) (by rfl) sc__law_parts.nd rfl rfl (by decide) rfl rfl (pa_cons (pe_lstU pa_nil) (pa_cons (pe_lstU pa_nil) pa_nil)) (by rfl))
    (pss_cons (ps_for PassesOwn.never rfl (pi_range1 (by rfl) T.n_range (pa_cons (pe_callB call_lenU (by rfl) T.n_len PySem.boot_len (pa_cons (pv 0) pa_nil)) pa_nil)) (pg_name (i := 3) sc__law_parts.nd rfl (Or.inr rfl))
      (pss_cons (ps_if (pt_cmpR op_inU (pv 3) (pv 5) (by rfl)) (pss_one ps_continue) pss_nil)
    (pss_cons (ps_set (i := 6) sc__law_parts.nd rfl (Or.inr rfl) (pe_lc (own := [("_law_other", 7)]) rfl sc__law_parts.nd (pi_list (pe_ix ix_listU (pv 2) (pv 3) (fun _ _ => rfl))) (blkOk_by (N := N__law_parts) (sc := defScope s__law_parts) (by decide +kernel)) (fun _ _ _ _ _ => (pg_name (i := 7) sc__law_parts.nd rfl (by first | exact Or.inl rfl | exact Or.inr rfl))) (fun _ _ _ _ _ => (pts_one (pt_cmpR op_inU (pv 3) (pe_ix ix_listU (pv 2) (pv 7) (fun _ _ => rfl)) (by rfl)))) (fun _ _ _ _ _ => (pv 7))))
    (pss_cons (ps_set (i := 5) sc__law_parts.nd rfl (Or.inl rfl) (pe_op op_catU (pv 5) (pv 6)))
    (pss_cons (ps_set (i := 8) sc__law_parts.nd rfl (Or.inl rfl) (pe_callB (cr_sortSetN rfl) (by rfl) T.n_sorted (by decide +kernel) (pa_cons (pe_callTy (cr_setN rfl) (by rfl) T.n_set (by decide +kernel) (pa_cons (pe_lc (own := [("_law_near", 9), ("_law_far", 10), ("_law_tie", 11)]) rfl sc__law_parts.nd (pi_list (pv 1)) (blkOk_by (N := N__law_parts) (sc := defScope s__law_parts) (by decide +kernel)) (fun _ _ _ _ _ => (pg_tupU (n := 3) (by rfl) (pgs_cons (pg_name (i := 9) sc__law_parts.nd rfl (by first | exact Or.inl rfl | exact Or.inr rfl)) (pgs_cons (pg_name (i := 10) sc__law_parts.nd rfl (by first | exact Or.inl rfl | exact Or.inr rfl)) (pgs_cons (pg_name (i := 11) sc__law_parts.nd rfl (by first | exact Or.inl rfl | exact Or.inr rfl)) pgs_nil))))) (fun _ _ _ _ _ => (pts_one (PW.pt (pw_and (pt_cmpR op_inU (pv 9) (pv 6) (by rfl)) (pw_and1 (pt_cmpR op_inU (pv 10) (pv 6) (by rfl))))))) (fun _ _ _ _ _ => (pv 11))) pa_nil)) pa_nil)))
    (pss_one (ps_if (pt_cmpR (op_neU hr.units) (pv 8) (pe_lstU pa_nil) (nomark _)) (pss_one (ps_expr (pe_bm PySem.F.plainAttrs_list PySem.F.slot_list_append PySem.F.type_list_append mt_appendU (pv 4) (pa_cons (pe_tupU (pa_cons (pe_callB (cr_sortN hr.units) (by rfl) T.n_sorted (by decide +kernel) (pa_cons (pv 6) pa_nil)) (pa_cons (pv 8) pa_nil))) pa_nil)))) pss_nil)))))))
    (pss_one (ps_ret (pe_callB (cr_sortPart hr.units) (by rfl) T.n_sorted (by decide +kernel) (pa_cons (pv 4) pa_nil))))))), ?_⟩
    refine ⟨.ref a, rfl, a, as, rfl, .inl (sm _ _ hal), as.length, rfl, by omega, by omega, fun rl hrl => ?_⟩
    refine lc_range (lo := 0) (n := ((as.length : Nat) : Int).toNat) (fun i H' => ∃ M' acc, Ext M H M' H' ∧ M' rl = none ∧ H' rl = some (.lst acc) ∧ RchAt ss M' acc i) ⟨M, [], .own sm hrl, sm.free hrl, upd_same, rfl, fun j hj => by omega⟩ (fun i H2 hi h => ?_) (fun H2 h => ?_)
    · obtain ⟨M2, acc, e2, m2, l2, hl, hat⟩ := h
      have hi : i < n := by omega
      rw [show ((0 : Int) + (i : Int)) = (i : Int) by omega]
      refine ⟨rfl, .ref b, rfl, vn i, rfl, M, b, ss, n, i, rfl, e2.mh0, hb, hi, hst, hlt2, fun l H3 p nd hm s3 f3 h3 => ?_⟩
      have e3 : Ext M2 H2 M2 H3 := .of e2.mh s3
      have pm : M2 p = none := e2.mh.free f3
      have e3' := e3.put f3 pm h3
      have hne : rl ≠ p := ne_of_none l2 f3
      have mr : upd M2 p (.lst (vns l)) rl = none := by rw [upd_ne hne]; exact m2
      refine ⟨acc, s3 _ _ l2, small400 (by omega), upd M2 p (.lst (vns l)), acc ++ [.ref p], (e2.trans e3').write hrl mr, mr, upd_same, by rw [List.length_append, hl]; rfl, fun j hj => ?_⟩
      by_cases z : j < i
      · obtain ⟨q1, l1, a1, b1, c1⟩ := hat j z
        exact ⟨q1, l1, by rw [List.getElem?_append_left (by omega)]; exact a1, e3'.mm _ _ b1, c1⟩
      · have : j = i := by omega
        subst this
        exact ⟨p, l, by rw [List.getElem?_append_right (by omega), hl, Nat.sub_self]; rfl, upd_same, nd, hm⟩
    obtain ⟨M2, acc, e2, m2, l2, hacc⟩ := h
    rw [show ((as.length : Nat) : Int).toNat = n by omega] at hacc
    have e2' := e2.put hrl m2 l2
    have hrlM : upd M2 rl (.lst acc) rl = some (.lst acc) := upd_same
    have hacc := hacc.same (Same.new (o := .lst acc) m2)
    have hbM := e2'.rp hb
    have halM := e2'.mm _ _ hal
    have hblM := e2'.mm _ _ hbl
    have hbsM := e2'.rpa hbs
    generalize upd M2 rl (.lst acc) = M3 at e2' hrlM hacc hbM halM hblM hbsM
    -- found, seen
    refine ⟨Nat.zero_le _, fun fo H3 n3 => ⟨Nat.zero_le _, fun sl H4 n4 => ⟨_, _, rfl, ?_⟩⟩⟩
    have fo0 : H fo = none := e2'.hh.free n3.free
    have fom : M3 fo = none := e2'.mh.free n3.free
    have e3 : Ext M H M3 H3 := e2'.trans (.of e2'.mh n3.same)
    have g4 := Ext.grow (o := .lst []) e3.mh n4.free
    rw [← n4.eq] at g4
    have e4 := e3.trans g4
    have fo4 := n4.same _ _ n3.at
    have fom4 := g4.off fom n3.at
    refine ⟨.ref a, rfl, a, as, rfl, .inl (e4.mh0 _ _ hal), as.length, rfl, by omega, by omega, ?_⟩
    refine for_rangeN (n := as.length) (fun i σ H' => (∃ v3 v6 v7 v8 v9 v10 v11 sl, σ = [some (.ref a), some (.ref b), some (.ref rl), v3, some (.ref fo), some (.ref sl), v6, v7, v8, v9, v10, v11] ∧ ∃ M' fs seen, Ext M H M' H' ∧ Same M3 M' ∧ M' fo = none ∧ H' fo = some (.lst fs) ∧
        RpAll M' fs ((partsOf ss ((repsTo n (edges ss) i).map (cls n (edges ss)))).map ePart) ∧ M' sl = some (.lst (vns seen)) ∧ (∀ x, x ∈ seen ↔ x < n ∧ ∃ j, j < i ∧ Mut (edges ss) j x) ∧ seen.length ≤ i * 100 ∧ fs.length ≤ i))
      ⟨_, _, _, _, _, _, _, sl, rfl, _, [], [], e4, g4.mm, fom4, fo4, .nil, upd_same, fun x => ⟨fun z => by (cases z), fun ⟨_, j, hj, _⟩ => by omega⟩, Nat.zero_le _, Nat.zero_le _⟩ (fun i σ H5 hi h => ?_) (fun σ H5 h => ?_)
    · obtain ⟨v3, v6, v7, v8, v9, v10, v11, sl5, rfl, M5, fs, seen, e5, m35, fm5, f5, r5, s5, hseen, hsl, hfl⟩ := h
      have hi : i < n := by omega
      have hrep : i ∈ seen ↔ ¬ ∀ b, b < i → ¬ Mut (edges ss) i b := by
        rw [hseen]
        constructor
        · rintro ⟨_, j, hj, hm⟩ hall
          exact hall j hj hm.symm
        · intro hna
          refine ⟨hi, ?_⟩
          obtain ⟨j, hj⟩ := Classical.not_forall.mp hna
          obtain ⟨hj, hm⟩ := Classical.not_imp.mp hj
          exact ⟨j, hj, (Classical.not_not.mp hm).symm⟩
      refine ⟨vn i, rfl, .ref sl5, rfl, i, sl5, seen, rfl, rfl, e5.mh _ _ s5, decide (i ∈ seen), rfl, ?_⟩
      by_cases hin : i ∈ seen
      · rw [decide_eq_true hin]
        refine iteT ⟨_, _, _, _, _, _, _, sl5, rfl, M5, fs, seen, e5, m35, fm5, f5, ?_, s5, fun x => ?_, by omega, by omega⟩
        · rw [repsTo_succ, if_neg (hrep.mp hin), List.append_nil]
          exact r5
        · rw [hseen]
          constructor
          · rintro ⟨h1, j, hj, hm⟩
            exact ⟨h1, j, by omega, hm⟩
          · rintro ⟨h1, j, hj, hm⟩
            refine ⟨h1, ?_⟩
            by_cases z : j = i
            · obtain ⟨_, j0, hj0, hm0⟩ := (hseen i).mp hin
              exact ⟨j0, hj0, hm0.trans (z ▸ hm)⟩
            · exact ⟨j, by omega, hm⟩
      · rw [decide_eq_false hin]
        refine iteF ?_
        have hisrep : ∀ b, b < i → ¬ Mut (edges ss) i b := Classical.not_not.mp fun z => hin (hrep.mpr z)
        -- part
        obtain ⟨qi, li, hqi, hqil, ndi, hmi⟩ := hacc.2 i hi
        have lin : ∀ x ∈ li, x < n := fun x hx => edges_lt hlt2 ((hmi x).mp hx) hi
        have lil := len_le n li ndi lin
        refine ⟨.ref rl, rfl, vn i, rfl, rl, acc, i, .ref qi, rfl, rfl, e5.mh _ _ (m35 _ _ hrlM), hqi, qi, rfl, ⟨_, SqL.of (e5.mh _ _ (m35 _ _ hqil))⟩, fun pp hpp => ?_⟩
        refine lc_listM (K := K) (a := qi) e5.mh hpp (e5.mh _ _ (m35 _ _ hqil)) (by rw [vns_len]; exact small400 (by omega)) (fun j => ((li.take j).filter fun x => decide (Rch (edges ss) x i)).map eN) rfl (fun j y M6 H6 hy e6 hm6 Yes No yes no => ?_) (fun H6 h6 => ?_)
        · obtain ⟨x, hx, rfl⟩ := vns_get hy
          have hxn := lin x (List.mem_of_getElem? hx)
          obtain ⟨qx, lx, hqx, hqxl, ndx, hmx⟩ := hacc.2 x hxn
          have m36 : Same M3 H6 := m35.trans e6.mh0
          have htk : li.take (j + 1) = li.take j ++ [x] := by rw [List.take_add_one, hx]; rfl
          refine ⟨rfl, vn i, rfl, .ref rl, rfl, vn x, rfl, rl, acc, x, .ref qx, rfl, rfl, m36 _ _ hrlM, hqx, i, qx, lx, rfl, rfl, m36 _ _ hqxl, decide (i ∈ lx), rfl, ?_⟩
          by_cases z : i ∈ lx
          · rw [decide_eq_true z]
            refine ⟨vn x, rfl, yes _ _ M6 (eN x) (.refl e6.mh) (.int _) ?_⟩
            dsimp only
            rw [htk, List.filter_append, List.filter_cons, if_pos (by simpa using (hmx i).mp z), List.map_append]
            rfl
          · rw [decide_eq_false z]
            refine no _ (.refl _) ?_
            dsimp only
            rw [htk, List.filter_append, List.filter_cons, if_neg (by simpa using fun y => z ((hmx i).mpr y)), List.filter_nil, List.append_nil]
        obtain ⟨M6, pacc, e6, l6, m6, _, ra6, _⟩ := lc_end hpp h6
        rw [vns_len, List.take_of_length_le (Nat.le_refl _)] at ra6
        have hpacc := ra6.nats
        subst hpacc
        have hplm : ∀ x, x ∈ (li.filter fun x => decide (Rch (edges ss) x i)) ↔ x ∈ cls n (edges ss) i := fun x => by
          rw [mem_cls, List.mem_filter, hmi, decide_eq_true_eq]
          exact ⟨fun ⟨h1, h2⟩ => ⟨edges_lt hlt2 h1 hi, h1, h2⟩, fun ⟨_, h1, h2⟩ => ⟨h1, h2⟩⟩
        have hpnd : (li.filter fun x => decide (Rch (edges ss) x i)).Nodup := ndi.filter _
        have hpl : (li.filter fun x => decide (Rch (edges ss) x i)).length ≤ 100 := Nat.le_trans (List.length_filter_le _ _) (by omega)
        generalize (li.filter fun x => decide (Rch (edges ss) x i)) = pl at l6 hplm hpnd hpl
        have hsrt : srt pl = cls n (edges ss) i := sorted_ext (srt_lt hpnd) (cls_sorted i) fun x => by rw [srt_mem, hplm]
        have hwi : within pl ss = within (cls n (edges ss) i) ss := within_congr hplm
        have e6' := e6.put hpp m6 l6
        have hppM : upd M6 pp (.lst (vns pl)) pp = some (.lst (vns pl)) := upd_same
        have f6 := e6.hh _ _ f5
        have fm6 := e6'.off fm5 f5
        generalize upd M6 pp (.lst (vns pl)) = M7 at e6' hppM fm6
        have e7 := e5.trans e6'
        -- seen = seen + part
        have hi100 : i * 100 ≤ 100 * 100 := Nat.mul_le_mul (by omega) (Nat.le_refl _)
        refine ⟨.ref sl5, rfl, .ref pp, rfl, sl5, pp, _, _, rfl, rfl, e7.mh _ _ (e6'.mm _ _ s5), e7.mh _ _ hppM, by rw [vns_len, vns_len]; exact Nat.le_of_lt (Nat.lt_of_le_of_lt (show seen.length + pl.length ≤ 10100 by omega) (by decide)), fun sl7 H7 n7 => ?_⟩
        have g7 := Ext.grow (o := .lst (vns seen ++ vns pl)) e7.mh n7.free
        rw [← n7.eq] at g7
        have e8 := e7.trans g7
        have f7 := n7.same _ _ f6
        have fm7 := g7.off fm6 f6
        have hsl7 : upd M7 sl7 (.lst (vns seen ++ vns pl)) sl7 = some (.lst (vns (seen ++ pl))) := by
          rw [upd_same]
          unfold vns
          rw [List.map_append]
        have hpp7 := g7.mm _ _ hppM
        have mm37 : Same M3 (upd M7 sl7 (.lst (vns seen ++ vns pl))) := (m35.trans e6'.mm).trans g7.mm
        have r7 := g7.rpa (e6'.rpa r5)
        have hseen' : ∀ x, x ∈ seen ++ pl ↔ x < n ∧ ∃ j, j < i + 1 ∧ Mut (edges ss) j x := fun x => by
          rw [List.mem_append, hseen, hplm, mem_cls]
          constructor
          · rintro (⟨h1, j, hj, hm⟩ | ⟨h1, hm⟩)
            · exact ⟨h1, j, by omega, hm⟩
            · exact ⟨h1, i, by omega, hm⟩
          · rintro ⟨h1, j, hj, hm⟩
            by_cases z : j = i
            · exact .inr ⟨h1, z ▸ hm⟩
            · exact .inl ⟨h1, j, by omega, hm⟩
        have hseenl : (seen ++ pl).length ≤ (i + 1) * 100 := by rw [List.length_append, Nat.succ_mul]; omega
        generalize upd M7 sl7 (.lst (vns seen ++ vns pl)) = M8 at g7 e8 fm7 hsl7 hpp7 mm37 r7
        -- ties
        refine ⟨.ref b, rfl, b, rfl, ⟨_, SqL.of (e8.mh _ _ (mm37 _ _ hblM))⟩, fun D hD => ?_⟩
        have hbs8 := hbsM.s mm37
        refine lc_listM (K := K) (a := b) e8.mh hD (e8.mh _ _ (mm37 _ _ hblM)) (small400 (by omega)) (fun j => ((within pl (ss.take j)).map (·.2.2)).map eN) rfl (fun j y M9 H9 hy e9 hm9 Yes No yes no => ?_) (fun H9 h9 => ?_)
        · obtain ⟨d', hd', rd⟩ := hbs8.at' hy
          rw [List.getElem?_map] at hd'
          obtain ⟨t, ht, rfl⟩ := Option.map_eq_some_iff.mp hd'
          obtain ⟨pa, rfl, hpa⟩ := rd.t_inv
          have hpp9 := e9.mh0 _ _ hpp7
          have hds := within_take (p := pl) ht
          refine ⟨pa, _, rfl, e9.mh0 _ _ hpa, rfl, _, _, rfl, _, _, rfl, _, _, rfl, rfl, rfl, ?_⟩
          refine ⟨vn t.1, rfl, .ref pp, rfl, t.1, pp, pl, rfl, rfl, hpp9, decide (t.1 ∈ pl), rfl, ?_⟩
          by_cases z1 : t.1 ∈ pl
          · rw [decide_eq_true z1]
            refine ⟨vn t.2.1, rfl, .ref pp, rfl, t.2.1, pp, pl, rfl, rfl, hpp9, decide (t.2.1 ∈ pl), rfl, ?_⟩
            by_cases z2 : t.2.1 ∈ pl
            · rw [decide_eq_true z2]
              refine ⟨vn t.2.2, rfl, yes _ _ M9 (eN t.2.2) (.refl e9.mh) (.int _) ?_⟩
              dsimp only
              rw [hds, decide_eq_true z1, decide_eq_true z2, List.map_append, List.map_append]
              rfl
            · rw [decide_eq_false z2]
              refine no _ (.refl _) ?_
              dsimp only
              rw [hds, decide_eq_false z2, Bool.and_false, if_neg (by decide), List.append_nil]
          · rw [decide_eq_false z1]
            refine no _ (.refl _) ?_
            dsimp only
            rw [hds, decide_eq_false z1, Bool.false_and, if_neg (by decide), List.append_nil]
        obtain ⟨M9, tacc, e9, l9, m9, _, ra9, _⟩ := lc_end hD h9
        rw [hbsl, List.take_of_length_le (Nat.le_refl _)] at ra9
        have htacc := ra9.nats
        subst htacc
        have hb63 : ∀ x ∈ (within pl ss).map (·.2.2), x < 63 := fun x hx => by
          obtain ⟨t, ht, rfl⟩ := List.mem_map.mp hx
          exact (hlt t (List.mem_filter.mp ht).1).2.2
        have hwl : (within pl ss).length ≤ 1000 := Nat.le_trans (List.length_filter_le _ _) hss
        refine ⟨D, (within pl ss).map (·.2.2), rfl, l9, by rw [List.length_map]; exact hwl, hb63, fun sa c H10 hc n10 => ?_⟩
        refine ⟨sa, (within pl ss).map (·.2.2), c, rfl, n10.at, hc, fun x hx => by have := hb63 x hx; omega, fun da H11 n11 => ?_⟩
        have hde := dis_empty (l := (within pl ss).map (·.2.2)) fun x hx => by have := hb63 x hx; omega
        have hdl : (dis ((within pl ss).map (·.2.2))).length ≤ 64 := by
          unfold dis
          exact Nat.le_trans (List.length_filter_le _ _) (by rw [List.length_range]; exact Nat.le_refl _)
        have f9 := e9.hh _ _ f7
        have fm9 := e9.off fm7 f7
        have e9' := e8.trans e9
        have e10 : Ext M H M9 H10 := e9'.trans (.of e9'.mh n10.same)
        have f10 := n10.same _ _ f9
        have g11 := Ext.grow (o := .lst (vns (dis ((within pl ss).map (·.2.2))))) e10.mh n11.free
        rw [← n11.eq] at g11
        have e11 := e10.trans g11
        have f11 := n11.same _ _ f10
        have fm11 := g11.off fm9 f10
        have hda : upd M9 da (.lst (vns (dis ((within pl ss).map (·.2.2))))) da = some (.lst (vns (dis ((within pl ss).map (·.2.2))))) := upd_same
        have mm811 : Same M8 (upd M9 da (.lst (vns (dis ((within pl ss).map (·.2.2)))))) := e9.mm.trans g11.mm
        generalize upd M9 da (.lst (vns (dis ((within pl ss).map (·.2.2))))) = M11 at g11 e11 fm11 hda mm811
        -- if ties != []
        refine ⟨.ref da, rfl, Nat.zero_le _, fun z H12 n12 => ⟨eNs (dis ((within pl ss).map (·.2.2))), .list [], .of_ns (n12.same _ _ (e11.mh _ _ hda)), .lst n12.at .nil, (sh_ns _).ok, sh_nil.ok, !(within pl ss).isEmpty, by rw [eqv_nil, hde, List.isEmpty_map], ?_⟩⟩
        have e12 : Ext M H M11 H12 := e11.trans (.of e11.mh n12.same)
        have f12 := n12.same _ _ f11
        have hreps : partsOf ss ((repsTo n (edges ss) (i + 1)).map (cls n (edges ss))) = partsOf ss ((repsTo n (edges ss) i).map (cls n (edges ss))) ++ (pOf ss (cls n (edges ss) i)).toList := by
          rw [repsTo_succ, if_pos hisrep, List.map_append, partsOf_app]
          congr 1
        by_cases hw0 : within pl ss = []
        · rw [show (within pl ss).isEmpty = true by rw [hw0]; rfl]
          refine iteF ⟨_, _, _, _, _, _, _, sl7, rfl, M11, fs, seen ++ pl, e12, mm37.trans mm811, fm11, f12, ?_, mm811 _ _ hsl7, hseen', hseenl, by omega⟩
          rw [hreps, show pOf ss (cls n (edges ss) i) = none from if_pos (by rw [← hwi]; exact hw0)]
          rw [show (none : Option (List Nat × List Nat)).toList = [] from rfl, List.append_nil]
          exact r7.s mm811
        · rw [show (within pl ss).isEmpty = false by simpa using hw0]
          refine iteT ?_
          have hpp12 := e12.mh _ _ (mm811 _ _ hpp7)
          refine ⟨.ref fo, rfl, .inl ⟨rfl, _, SqL.of f12⟩, .ref pp, rfl, pl, pp, rfl, hpp12, fun sp H13 n13 => ⟨.ref da, rfl, by show 2 ≤ sizeLine; decide, fun tp H14 n14 => ?_⟩⟩
          have g13 := Ext.grow (o := .lst (vns (srt pl))) e12.mh n13.free
          rw [← n13.eq] at g13
          have e13 := e12.trans g13
          have g14 := Ext.grow (o := .tup [.ref sp, .ref da]) e13.mh n14.free
          rw [← n14.eq] at g14
          have e14 := e13.trans g14
          have f13 := n13.same _ _ f12
          have f14 := n14.same _ _ f13
          have fm14 := g14.off (g13.off fm11 f12) f13
          have mm := mm811.trans (g13.mm.trans g14.mm)
          refine ⟨fo, fs, .ref tp, rfl, rfl, f14, small400 (by omega), fun H15 w15 => ⟨_, _, _, _, _, _, _, sl7, rfl, upd (upd M11 sp (.lst (vns (srt pl)))) tp (.tup [.ref sp, .ref da]), fs ++ [.ref tp], seen ++ pl, by rw [w15.eq]; exact e14.write fo0 fm14, mm37.trans mm, fm14, w15.at, ?_, mm _ _ hsl7, hseen', hseenl, ?_⟩⟩
          · rw [hreps, show pOf ss (cls n (edges ss) i) = some (cls n (edges ss) i, dis ((within (cls n (edges ss) i) ss).map (·.2.2))) from if_neg (by rw [← hwi]; exact hw0), List.map_append]
            refine (r7.s mm).app (.one (.tup upd_same (.cons (.of_ns ?_) (.cons (.of_ns ?_) .nil))))
            · rw [← hsrt]
              exact g14.mm _ _ upd_same
            · rw [← hwi]
              exact g14.mm _ _ (g13.mm _ _ hda)
          · rw [List.length_append]
            exact Nat.succ_le_succ hfl
    · obtain ⟨v3, v6, v7, v8, v9, v10, v11, sl5, rfl, M5, fs, seen, e5, m35, fm5, f5, r5, s5, hseen, hsl, hfl⟩ := h
      rw [hasl, repsTo_n] at r5
      change RpAll M5 fs ((partsW n ss).map ePart) at r5
      refine ⟨.ref fo, rfl, M5, partsW n ss, fo, fs, rfl, f5, e5.mh, r5, fun ys p H6 hy n6 => ?_⟩
      change RpAll M5 ys ((srtQ (partsW n ss)).map ePart) at hy
      rw [srtQ_parts] at hy
      have g6 := Ext.grow (o := .lst ys) e5.mh n6.free
      rw [← n6.eq] at g6
      exact q _ _ _ (e5.trans g6) (.lst upd_same (g6.rpa hy))
end
end K31
namespace K31
open PySem L2 Tj Km Pd
/-! ### plain Lean: the ring is one part; the walk made longer -/
theorem ring_on {n : Nat} {E : List (Nat × Nat)} (h : Ring n E) {a : Nat} : ∀ k, a + k < n → Rch E a (a + k)
  | 0, _ => .refl _
  | k + 1, hk => by
    have := h.ring (a + k) (by omega)
    rw [Nat.mod_eq_of_lt (by omega)] at this
    exact .step (ring_on h k (by omega)) this
theorem ring_one {n : Nat} {E : List (Nat × Nat)} (h : Ring n E) (hn : 1 ≤ n) : (sccs n E).length = 1 := by
  have m0 : ∀ a, a < n → Mut E a 0 := fun a ha => by
    refine ⟨?_, ?_⟩
    · have h1 := ring_on h (a := a) (n - 1 - a) (by omega)
      rw [show a + (n - 1 - a) = n - 1 by omega] at h1
      have h2 := h.ring (n - 1) (by omega)
      rw [show n - 1 + 1 = n by omega, Nat.mod_self] at h2
      exact .step h1 h2
    · have := ring_on h (a := 0) a (by omega)
      rw [Nat.zero_add] at this
      exact this
  have : reps n E = [0] := sorted_ext reps_sorted (by simp) fun x => by
    rw [mem_reps, List.mem_singleton]
    constructor
    · rintro ⟨h1, h2⟩
      by_cases z : x = 0
      · exact z
      · exact absurd (m0 x h1) (h2 0 (by omega))
    · rintro rfl
      exact ⟨by omega, fun b hb => by omega⟩
  unfold sccs
  rw [this]
  rfl
theorem Ring.web {n : Nat} {E : List (Nat × Nat)} (h : Ring n E) : Pd.Web n E := ⟨fun e he => (h.lt _ (edge_mem he)).2, fun e he => (h.lt _ (edge_mem he)).1⟩
theorem Jn.app {E : List (Nat × Nat)} {l : List Nat} (h : Jn E l) (k : Nat) (hl : tgt E (l.getD (l.length - 1) 0) = src E (l.getD 0 0)) : Jn E (l ++ l.take k) := by
  have hl1 : 0 < l.length := by
    cases l with
    | nil => exact absurd rfl h.ne
    | cons _ _ => simp
  refine ⟨fun b hb => ?_, fun j a b h1 h2 => ?_, by simp [h.ne]⟩
  · rcases List.mem_append.mp hb with z | z
    · exact h.lt b z
    · exact h.lt b (List.mem_of_mem_take z)
  · by_cases z : j + 1 < l.length
    · rw [List.getElem?_append_left (by omega)] at h1 h2
      exact h.jn j a b h1 h2
    · rw [List.getElem?_append_right (by omega)] at h2
      by_cases z2 : j + 1 = l.length
      · rw [z2, Nat.sub_self, List.getElem?_take] at h2
        rw [List.getElem?_append_left (by omega)] at h1
        split at h2
        · rw [show l.length - 1 = j by omega, List.getD_eq_getElem?_getD, List.getD_eq_getElem?_getD, h1, h2] at hl
          exact hl
        · cases h2
      · rw [List.getElem?_append_right (by omega), List.getElem?_take] at h1
        rw [List.getElem?_take] at h2
        split at h1
        · split at h2
          · exact h.jn (j - l.length) a b h1 (by rw [show j - l.length + 1 = j + 1 - l.length by omega]; exact h2)
          · cases h2
        · cases h1
/-! ### closures, dict -/
section
variable {X : Cx}
def clS (t : TS) : TS := fun D σ H => ∃ N : L2.St → Hp → Prop, t { D with nx := N } σ H ∧ ∀ σ' H', N σ' H' → D.nx σ' H'
theorem _root_.L2.PS.cl {st : Stmt} {t : TS} (h : PS X st t) : PS X st (clS t) := ⟨fun pins s σ H D I q => by
  obtain ⟨N, hN, k⟩ := q
  refine thn (h.run pins s σ H _ I hN) fun f s' z => ?_
  cases f with
  | next =>
    obtain ⟨σ', H', I', n'⟩ := z
    exact ⟨σ', H', I', k _ _ n'⟩
  | brk => exact z
  | cont => exact z
  | ret u => exact z⟩
theorem pairs_of {M : Hp} : ∀ (l : List (Sd × Nat)) (xs : List V), RpAll M xs (l.map fun x => PyData.tuple [eP x.1, eN x.2]) → ∃ L : List PairE, xs = L.map (fun x => V.ref x.t) ∧ (∀ x ∈ L, M x.t = some (.tup [.ref x.b, x.v]) ∧ M x.b = some (.tup (x.k.map kV))) ∧ L.map (fun x => (x.k, x.v)) = l.map fun x => (kp x.1, vn x.2)
  | [], _, .nil => ⟨[], rfl, fun x h => by (cases h), rfl⟩
  | y :: l, _, .cons h a => by
    obtain ⟨L, e1, e2, e3⟩ := pairs_of l _ a
    obtain ⟨t, x1, x2, e, ht, h1, h2⟩ := h.tt_inv
    obtain ⟨b, rfl, hb⟩ := h1.p_inv
    cases h2.int_inv
    refine ⟨⟨t, b, kp y.1, vn y.2⟩ :: L, by rw [e, e1]; rfl, fun x hx => ?_, by rw [List.map_cons, e3]; rfl⟩
    rcases List.mem_cons.mp hx with rfl | hx
    · exact ⟨ht, hb⟩
    · exact e2 x hx
def eSpots (S : List Sd) (i : Nat) : List PyData := ((List.range i).map fun j => (S.getD j (0, 0), j)).map fun x : Sd × Nat => PyData.tuple [eP x.1, eN x.2]
theorem cr_dictU (hc : X.calm = true) (hu : X.A.units + 64 < cLine) : CallR X (.type "dict") fun vs H Q => ∃ (M : Hp) (a : Addr) (S : List Sd) (xs : List V), vs = [V.ref a] ∧ H a = some (.lst xs) ∧ Same M H ∧ RpAll M xs (eSpots S S.length) ∧ S.Nodup ∧
    ∀ p H', New H p (.dT (pkv S S.length)) H' → Q (.ref p) H' := CallR.imp (cr_dictT hc hu) fun vs H Q q => by
  obtain ⟨M, a, S, xs, e, h, sm, r, nd, k⟩ := q
  obtain ⟨L, e1, e2, e3⟩ := pairs_of _ _ r
  have e4 : L.map (fun x => (x.k, x.v)) = pkv S S.length := by
    rw [e3, List.map_map]
    rfl
  refine ⟨a, L, e, SqL.of (by rw [h, e1]), fun x hx => ⟨SqT.of (sm _ _ (e2 x hx).1), sm _ _ (e2 x hx).2⟩, ?_, fun p hp => by rw [e4]; exact k p _ (.mk' hp)⟩
  have : L.map (·.k) = S.map kp := by
    have h1 : L.map (·.k) = (L.map fun x => (x.k, x.v)).map (·.1) := by rw [List.map_map]; rfl
    rw [h1, e4]
    unfold pkv
    rw [List.map_map]
    refine List.ext_getElem (by simp) fun i h1 h2 => ?_
    have hi : i < S.length := by simpa using h2
    simp [List.getD_eq_getElem?_getD, List.getElem?_eq_getElem hi]
  rw [this, List.Nodup, List.pairwise_map]
  exact nd.imp fun h z => h (kp_inj z)
end
end K31
namespace K31
open PySem L2 Tj Km Pd
section
variable {P : Program} {w : World} {K : PySem.W.Frag} {mg : PySem.Str → Option Value} {base : Heap}
theorem kbn_plain_table (T : Tx K mg) : KBn K T.plain_table.fd ["web", "walk"] 0 ["web", "walk"] (fun _ ws => ws) (fun _ zs => zs) := kbn_all T.plain_table.F (fun _ _ _ _ _ _ ws hl => match ws, hl with | [_, _], _ => rfl)
theorem kbn_parts_without (T : Tx K mg) : KBn K T.parts_without.fd ["web", "walk"] 0 ["web", "walk"] (fun _ ws => ws) (fun _ zs => zs) := kbn_all T.parts_without.F (fun _ _ _ _ _ _ ws hl => match ws, hl with | [_, _], _ => rfl)
/-- what stands once the walk is told -/
def Told (p a : Addr) (n : Nat) (E : List (Nat × Nat)) (σ : L2.St) (H : Hp) : Prop :=
  ∃ (M : Hp) (q : Addr) (w : List Nat), σ = [some (.ref p), some (vn n), some (.ref a), some (.ref q), none, none, none, none, none, none, none, none, none, none, none, none, none, none, none] ∧ Same M H ∧ Rp M (.ref a) (ePs E) ∧ M q = some (.lst (vns w)) ∧ Jn E w ∧ w.length ≤ 9
def sp_law_right : Sp := fun vs H Q _ => ∃ (p : Addr), vs = [.ref p] ∧ PotAt H p ∧ ∀ H', Q (.bl true) H'
theorem ok__law_right (T : Tx K mg) : FnOk P w K mg base CX0 8 T._law_right.f T._law_right.fd ["_law_pot_here"] sp_law_right := by
  refine T._law_right.F.ok sc__law_right (fun vs H Q E h => ?_) (fun cdv A outer s H vs Q E' hr h => ?_)
  · obtain ⟨p, rfl, _⟩ := h
    rfl
  · obtain ⟨p, rfl, pot, q⟩ := h
    refine ⟨_, (pss_cons (ps_set (i := 1) sc__law_right.nd rfl (Or.inl rfl) (pe_op op_addN pe_int (pe_call (ok__law_draw T) (hr.mono (by decide)) (by rfl) T._law_draw.g T._law_draw.F.kp T._law_draw.b .nil pass0 (pa_cons (pv 0) (pa_cons pe_int pa_nil)))))
    (pss_cons (ps_set (i := 2) sc__law_right.nd rfl (Or.inl rfl) (pe_call (ok__law_ties T) (hr.mono (by decide)) (by rfl) T._law_ties.g T._law_ties.F.kp T._law_ties.b .nil pass0 (pa_cons (pv 0) (pa_cons (pv 1) (pa_cons (pe_op op_addN pe_int (pe_call (ok__law_draw T) (hr.mono (by decide)) (by rfl) T._law_draw.g T._law_draw.F.kp T._law_draw.b .nil pass0 (pa_cons (pv 0) (pa_cons pe_int pa_nil)))) pa_nil)))))
    (pss_cons (ps_set (i := 3) sc__law_right.nd rfl (Or.inr rfl) (pe_call (ok__law_walk T) (hr.mono (by decide)) (by rfl) T._law_walk.g T._law_walk.F.kp T._law_walk.b .nil pass0 (pa_cons (pv 0) (pa_cons (pv 2) (pa_cons (pe_op op_addN pe_int (pe_call (ok__law_draw T) (hr.mono (by decide)) (by rfl) T._law_draw.g T._law_draw.F.kp T._law_draw.b .nil pass0 (pa_cons (pv 0) (pa_cons pe_int pa_nil)))) pa_nil)))))
    (pss_cons (PS.cl (ps_if (PW.pt (pw_and (pt_cmpR op_eqN (pe_ix ix_tupU (pe_ix ix_listU (pv 2) (pe_ix ix_listU (pv 3) pe_int (fun _ _ => rfl)) (fun _ _ => rfl)) pe_int (fun _ _ => rfl)) (pe_ix ix_tupU (pe_ix ix_listU (pv 2) (pe_ix ix_lastU (pv 3) (pe_un un_neg pe_int) (fun _ _ => rfl)) (fun _ _ => rfl)) pe_int (fun _ _ => rfl)) (nomark _)) (pw_and1 (pt_cmpR op_eqN (pe_call (ok__law_draw T) (hr.mono (by decide)) (by rfl) T._law_draw.g T._law_draw.F.kp T._law_draw.b .nil pass0 (pa_cons (pv 0) (pa_cons pe_int pa_nil))) pe_int (nomark _))))) (pss_one (ps_set (i := 3) sc__law_right.nd rfl (Or.inr rfl) (pe_op op_catU (pv 3) (pe_slice sl_takeU (pv 3) po_none (po_some pe_int))))) pss_nil))
    (pss_cons (ps_par (i := 4) (j := 5) (by rfl) sc__law_right.nd rfl rfl (by decide) rfl rfl (pa_cons (pe_mk (pe_make T.mkWeb (ok_Web_init T) (hr.mono (by decide)) rfl T.gWeb T.Web_init.b .nil pass0 (PA.cl (pa_cons (pv 1) (pa_cons (pv 2) pa_nil))))) (pa_cons (pe_call (ok__law_table T) (hr.mono (by decide)) (by rfl) T._law_table.g T._law_table.F.kp T._law_table.b .nil pass0 (pa_cons (pv 3) (pa_cons (pe_callB call_lenU (by rfl) T.n_len PySem.boot_len (pa_cons (pv 2) pa_nil)) pa_nil))) pa_nil)) (by rfl))
    (pss_cons (ps_if (PW.pt (pw_or (pt_cmpR (op_neU hr.units) (pe_call (ok_table T) (hr.mono (by decide)) (by rfl) T.table.g T.table.F.kp T.table.b .nil pass0 (pa_cons (pv 4) (pa_cons (pv 3) pa_nil))) (pv 5) (nomark _)) (pw_or1 (pt_cmpR (op_neU hr.units) (pe_callN0 (ok_plain_table T) (hr.mono (by decide)) (by rfl) T.plain_table.g T.plain_table.F.kp (kbn_plain_table T) pass0 (pk_cons (pv 4) (pk_cons (pe_callTy call_tuple_ofU (by rfl) T.n_tuple (by decide +kernel) (pa_cons (pv 3) pa_nil)) pk_nil))) (pv 5) (nomark _))))) (pss_one (ps_ret pe_bl)) pss_nil)
    (pss_cons (ps_setLc (i := 6) (own := [("_law_state_here", 7)]) rfl sc__law_right.nd rfl rfl (sw_true rfl rfl rfl (by decide +kernel)) (pi_range1 (by rfl) T.n_range (pa_cons (pe_callB call_lenU (by rfl) T.n_len PySem.boot_len (pa_cons (pv 3) pa_nil)) pa_nil)) (blkOk_by (N := N__law_right) (sc := defScope s__law_right) (by decide +kernel)) (fun _ _ _ _ _ => (pg_name (i := 7) sc__law_right.nd rfl (by first | exact Or.inl rfl | exact Or.inr rfl))) (fun _ _ _ _ _ => pts_nil) (fun _ _ _ _ _ => (pe_call (ok__law_state T) (hr.mono (by decide)) (by rfl) T._law_state.g T._law_state.F.kp T._law_state.b .nil pass0 (pa_cons (pv 3) (pa_cons (pe_slice sl_takeU (pv 3) po_none (po_some (pv 7))) (pa_cons (pe_op op_sub (pv 7) pe_int) pa_nil))))))
    (pss_cons (ps_if (pt_cmpR (op_neU hr.units) (pe_call (ok_falls T) (hr.mono (by decide)) (by rfl) T.falls.g T.falls.F.kp T.falls.b .nil pass0 (pa_cons (pv 4) (pa_cons (pv 3) pa_nil))) (pv 6) (nomark _)) (pss_one (ps_ret pe_bl)) pss_nil)
    (pss_cons (ps_asg (pe_call (ok__law_whole T) (hr.mono (by decide)) (by rfl) T._law_whole.g T._law_whole.F.kp T._law_whole.b .nil pass0 (pa_cons (pv 1) (pa_cons (pv 2) (pa_cons (pv 3) (pa_cons (pv 5) pa_nil))))) (pg_tupU (n := 2) (by rfl) (pgs_cons (pg_name (i := 8) sc__law_right.nd rfl (Or.inl rfl)) (pgs_cons (pg_name (i := 9) sc__law_right.nd rfl (Or.inl rfl)) pgs_nil))))
    (pss_cons (ps_set (i := 10) sc__law_right.nd rfl (Or.inl rfl) (pe_callB (cr_sortP hr.units) (by rfl) T.n_sorted (by decide +kernel) (pa_cons (pv 8) pa_nil)))
    (pss_cons (ps_set (i := 11) sc__law_right.nd rfl (Or.inr rfl) (pe_callTy (cr_dictU rfl hr.units) (by rfl) T.n_dict (by decide +kernel) (pa_cons (pe_lc (own := [("_law_at", 12), ("_law_one", 13)]) rfl sc__law_right.nd (pi_enum (by rfl) T.n_enumerate (pa_cons (pv 10) pa_nil)) (blkOk_by (N := N__law_right) (sc := defScope s__law_right) (by decide +kernel)) (fun _ _ _ _ _ => (pg_tupU (n := 2) (by rfl) (pgs_cons (pg_name (i := 12) sc__law_right.nd rfl (by first | exact Or.inl rfl | exact Or.inr rfl)) (pgs_cons (pg_name (i := 13) sc__law_right.nd rfl (by first | exact Or.inl rfl | exact Or.inr rfl)) pgs_nil)))) (fun _ _ _ _ _ => pts_nil) (fun _ _ _ _ _ => (pe_tupU (pa_cons (pv 13) (pa_cons (pv 12) pa_nil))))) pa_nil)))
    (pss_cons (ps_set (i := 14) sc__law_right.nd rfl (Or.inl rfl) (pe_callB (cr_sortT hr.units) (by rfl) T.n_sorted (by decide +kernel) (pa_cons (pe_lc (own := [("_law_near", 15), ("_law_far", 16), ("_law_tie", 17)]) rfl sc__law_right.nd (pi_list (pv 9)) (blkOk_by (N := N__law_right) (sc := defScope s__law_right) (by decide +kernel)) (fun _ _ _ _ _ => (pg_tupU (n := 3) (by rfl) (pgs_cons (pg_name (i := 15) sc__law_right.nd rfl (by first | exact Or.inl rfl | exact Or.inr rfl)) (pgs_cons (pg_name (i := 16) sc__law_right.nd rfl (by first | exact Or.inl rfl | exact Or.inr rfl)) (pgs_cons (pg_name (i := 17) sc__law_right.nd rfl (by first | exact Or.inl rfl | exact Or.inr rfl)) pgs_nil))))) (fun _ _ _ _ _ => pts_nil) (fun _ _ _ _ _ => (pe_tupU (pa_cons (pe_dget (hu_of hr) (pv 11) (pv 15) (fun _ _ => rfl)) (pa_cons (pe_dget (hu_of hr) (pv 11) (pv 16) (fun _ _ => rfl)) (pa_cons (pv 17) pa_nil)))))) pa_nil)))
    (pss_cons (ps_if (pt_cmpR (op_neU hr.units) (pe_call (ok_product T) (hr.mono (by decide)) (by rfl) T.product.g T.product.F.kp T.product.b .nil pass0 (pa_cons (pv 4) (pa_cons (pv 3) pa_nil))) (pe_tupU (pa_cons (pv 10) (pa_cons (pv 14) pa_nil))) (nomark _)) (pss_one (ps_ret pe_bl)) pss_nil)
    (pss_cons (ps_if (pt_cmpR op_neN (RZ.pe_lenSetI (by rfl) T.n_len (by rfl) T.n_set (pe_lc (own := [("_law_state_here", 7), ("_law_place", 18)]) rfl sc__law_right.nd (pi_list (pv 10)) (blkOk_by (N := N__law_right) (sc := defScope s__law_right) (by decide +kernel)) (fun _ _ _ _ _ => (pg_tupU (n := 2) (by rfl) (pgs_cons (pg_name (i := 18) sc__law_right.nd rfl (by first | exact Or.inl rfl | exact Or.inr rfl)) (pgs_cons (pg_name (i := 7) sc__law_right.nd rfl (by first | exact Or.inl rfl | exact Or.inr rfl)) pgs_nil)))) (fun _ _ _ _ _ => (pts_one (pt_cmpR op_gtN (pv 7) pe_int (nomark _)))) (fun _ _ _ _ _ => (pv 7)))) (pe_op op_subN (pe_callB call_lenU (by rfl) T.n_len PySem.boot_len (pa_cons (pv 10) pa_nil)) (pv 1)) (nomark _)) (pss_one (ps_ret pe_bl)) pss_nil)
    (pss_one (ps_ret (pe_cmpR (op_eqU hr.units) (pe_callN0 (ok_parts_without T) (hr.mono (by decide)) (by rfl) T.parts_without.g T.parts_without.F.kp (kbn_parts_without T) pass0 (pk_cons (pv 4) (pk_cons (pv 3) pk_nil))) (pe_call (ok__law_parts T) (hr.mono (by decide)) (by rfl) T._law_parts.g T._law_parts.F.kp T._law_parts.b .nil pass0 (pa_cons (pv 10) (pa_cons (pv 14) pa_nil))) (nomark _)))))))))))))))))), ?_⟩
    refine ⟨.ref p, rfl, p, 4, rfl, by omega, by omega, pot, fun d H1 hd f1 pot1 => ⟨1, d, rfl, rfl, ?_⟩⟩
    have hn1 : 1 ≤ 1 + d := by omega
    have hn4 : 1 + d ≤ 4 := by omega
    refine ⟨.ref p, rfl, vn (1 + d), rfl, .ref p, rfl, p, 4, rfl, by omega, by omega, pot1, fun m H2 hm f2 pot2 => ⟨1, m, rfl, rfl, fun _ => none, p, 1 + d, 1 + m, rfl, fun _ _ e => by (cases e), rfl, pot2, hn1, by omega, by omega, fun E M3 H3 v ring hlen pt3 pot3 r3 => ?_⟩⟩
    obtain ⟨a, xs, rfl, _⟩ := id r3.list_inv
    have hE8 : E.length ≤ 8 := by omega
    have hE0 : 0 < E.length := by omega
    have pm3 : M3 p = none := pt3.off (o := (pot2.some).choose) rfl (pot2.some).choose_spec
    refine ⟨.ref p, rfl, .ref a, rfl, .ref p, rfl, p, 5, rfl, by omega, by omega, pot3, fun k H4 hk f4 pot4 => ⟨1, k, rfl, rfl, M3, p, a, 1 + d, E, 1 + k, rfl, (Pt.of_fr f4 pt3.mh pm3).mh, pm3, pot4, r3, ring, hn1, by omega, hE0, by omega, by omega, fun l M5 H5 qa hj hl pt5 pot5 hq => ?_⟩⟩
    obtain ⟨ts, ta, tl, tt⟩ := tie_at (r3.s pt5.mm)
    have r5 := r3.s pt5.mm
    have hl1 : 0 < l.length := by omega
    have s5 := pt5.mh
    have pm5 : M5 p = none := pt5.off pm3 (pot4.some).choose_spec
    clear pt3 pt5 f1 f2 f4
    -- the walk made longer, or not
    refine ⟨Told p a (1 + d) E, ?_, ?_⟩
    · have hd0 : l.getD 0 0 < E.length := hj.lt _ (by rw [List.getD_eq_getElem?_getD, List.getElem?_eq_getElem hl1]; exact List.getElem_mem hl1)
      have hdl : l.getD (l.length - 1) 0 < E.length := hj.lt _ (by rw [List.getD_eq_getElem?_getD, List.getElem?_eq_getElem (by omega)]; exact List.getElem_mem (by omega))
      obtain ⟨pa, hpa, hpp⟩ := tt _ hd0
      obtain ⟨pb, hpb, hpq⟩ := tt _ hdl
      obtain ⟨l0, el, hle⟩ : ∃ l0 el, l = l0 ++ [el] := by
        rcases List.eq_nil_or_concat l with z | ⟨l0, e, z⟩
        · exact absurd z hj.ne
        · exact ⟨l0, e, by rw [z, List.concat_eq_append]⟩
      have hel : l.getD (l.length - 1) 0 = el := by
        rw [hle, List.getD_eq_getElem?_getD, List.getElem?_append_right (by simp), List.length_append]
        simp
      have hq5 : H5 qa = some (.lst (vns l)) := s5 _ _ hq
      have hq5' : H5 qa = some (.lst (vns l0 ++ [vn (l.getD (l.length - 1) 0)])) := by rw [hq5, hel, vns_app, ← hle]
      refine ⟨.ref a, rfl, .ref qa, rfl, qa, _, 0, vn (l.getD 0 0), rfl, rfl, hq5, vns_at hl1, a, ts, _, .ref pa, rfl, rfl, s5 _ _ ta, hpa, pa, _, 0, vn (src E (l.getD 0 0)), rfl, rfl, s5 _ _ hpp, rfl,
        .ref a, rfl, .ref qa, rfl, 1, rfl, qa, vns l0, vn (l.getD (l.length - 1) 0), rfl, rfl, hq5', a, ts, _, .ref pb, rfl, rfl, s5 _ _ ta, hpb, pb, _, 1, vn (tgt E (l.getD (l.length - 1) 0)), rfl, rfl, s5 _ _ hpq, rfl, src E (l.getD 0 0), tgt E (l.getD (l.length - 1) 0), rfl, rfl, decide (src E (l.getD 0 0) = tgt E (l.getD (l.length - 1) 0)), rfl, ?_⟩
      by_cases hc : src E (l.getD 0 0) = tgt E (l.getD (l.length - 1) 0)
      · rw [decide_eq_true hc]
        refine iteT ?_
        refine ⟨.ref p, rfl, p, 2, rfl, by omega, by omega, pot5, fun d2 H6 hd2 f6 pot6 => ⟨d2, 0, rfl, rfl, decide (d2 = 0), rfl, ?_⟩⟩
        have s6 : Same M5 H6 := (Pt.of_fr f6 s5 pm5).mh
        have hq6 := s6 _ _ hq
        by_cases hz : d2 = 0
        · rw [decide_eq_true hz]
          refine iteT ?_
          refine ⟨.ref qa, rfl, .ref qa, rfl, 4, rfl, qa, _, 4, rfl, rfl, rfl, hq6, fun t H7 n7 => ⟨qa, t, _, _, rfl, rfl, n7.same _ _ hq6, n7.at, ?_, fun u H8 n8 => ?_⟩⟩
          · exact Nat.le_of_lt (small400 (by rw [List.length_take, vns_len]; omega))
          · have s7 : Same M5 H7 := s6.trans n7.same
            have g8 := Ext.grow (o := .lst (vns l ++ (vns l).take 4)) s7 n8.free
            rw [← n8.eq] at g8
            refine ⟨_, u, l ++ l.take 4, rfl, g8.mh, g8.rp r5, ?_, hj.app 4 hc.symm, by rw [List.length_append, List.length_take]; omega⟩
            rw [upd_same]
            unfold vns
            rw [List.map_append, List.map_take]
        · rw [decide_eq_false hz]
          exact iteF ⟨M5, qa, l, rfl, s6, r5, hq, hj, by omega⟩
      · rw [decide_eq_false hc]
        exact iteF (iteF ⟨M5, qa, l, rfl, s5, r5, hq, hj, by omega⟩)
    clear pot5 s5 r5 hq hj hl hl1 tt ta tl pot1 pot2 pot3 pot4 pm3 pm5 r3 pot
    clear hlen hd
    rintro σ H6 ⟨M, qa, l, rfl, sm, r, hq, hj, hl9⟩
    generalize 1 + d = n at hn1 hn4 ring ⊢
    obtain ⟨ts, ta, tl, tt⟩ := tie_at r
    have hl1 : 0 < l.length := by
      cases l with
      | nil => exact absurd rfl hj.ne
      | cons _ _ => simp
    have hweb := ring.web
    have hone := ring_one ring hn1
    -- web, rows
    refine ⟨vn n, rfl, .ref a, rfl, fun x dx H7 f1 f2 ne eH => ?_⟩
    have sH : Same H6 H7 := by rw [eH]; exact (Same.new f2).trans (.new (by rw [upd_ne ne.symm]; exact f1))
    refine ⟨M, H6, x, a, n, E, rfl, ⟨sH, sm, f1, dx, by rw [eH, upd_same]⟩, r, hn1, by omega, by omega, ring.lt, fun M8 H8 e8 hw => ⟨rfl, ?_⟩⟩
    have q8 := e8.mm _ _ hq
    refine ⟨.ref qa, rfl, .ref a, rfl, a, _, rfl, .inl (e8.mh0 _ _ ta), M8, qa, l, E.length, by rw [tl]; rfl, e8.mh, q8, by omega, by omega, fun M9 H9 v e9 r9 => ⟨_, _, rfl, ?_⟩⟩
    obtain ⟨rw9, rxs, rfl, _⟩ := id r9.list_inv
    have q9 := e9.mm _ _ q8
    have hw9 := hw.same e9.mm
    have ra9 := (r.s e8.mm).s e9.mm
    have hb5 : PyData.eqv (eRows (tabW l E.length)) (eRows (tabW l E.length)) = true := eqv_self (sh_rows _)
    -- table(..) != rows or plain_table(..) != rows
    refine ⟨.ref x, rfl, .ref qa, rfl, M9, x, qa, n, E, l, rfl, e9.mh, hw9, .inl q9, hj, by omega, by omega, fun M10 H10 v e10 r10 => ?_⟩
    refine ⟨.ref rw9, rfl, eRows (tabW l E.length), eRows (tabW l E.length), r10.s e10.mh, (r9.s e10.mm).s e10.mh, (sh_rows _).ok, (sh_rows _).ok, false, by rw [hb5]; rfl, iteF ?_⟩
    refine ⟨.ref x, rfl, .ref qa, rfl, qa, _, rfl, e10.mh0 _ _ q9, fun t H11 n11 => ?_⟩
    have g11 := Ext.grow (o := .tup (vns l)) e10.mh n11.free
    rw [← n11.eq] at g11
    have ht11 : upd M10 t (.tup (vns l)) t = some (.tup (vns l)) := upd_same
    have mm11 : Same M9 (upd M10 t (.tup (vns l))) := e10.mm.trans g11.mm
    generalize upd M10 t (.tup (vns l)) = M11 at g11 ht11 mm11
    refine ⟨rfl, rfl, M11, x, t, n, E, l, rfl, g11.mh, hw9.same mm11, .inr ht11, hj, by omega, by omega, fun M12 H12 v e12 r12 => ?_⟩
    have mm12 := mm11.trans e12.mm
    refine ⟨.ref rw9, rfl, eRows (tabW l E.length), eRows (tabW l E.length), r12.s e12.mh, (r9.s mm12).s e12.mh, (sh_rows _).ok, (sh_rows _).ok, false, by rw [hb5]; rfl, iteF ?_⟩
    have q12 := mm12 _ _ q9
    have hw12 := hw9.same mm12
    have ra12 := ra9.s mm12
    have r12' := r9.s mm12
    have s12 := e12.mh
    clear e8 e9 e10 g11 e12 mm11 mm12 ht11 hw hw9 ra9 r9 r10 r12 q8 q9 n11
    -- due
    refine ⟨.ref qa, rfl, qa, _, rfl, .inl (s12 _ _ q12), (vns l).length, rfl, by rw [vns_len]; omega, by rw [vns_len]; omega, fun D hD => ?_⟩
    refine lc_rangeN (n := (vns l).length) s12 hD (by rw [vns_len]; exact small400 (by omega)) (fun i => ((List.range i).map (fallW l)).map eN) rfl (fun i M13 H13 hi e13 hm13 Yes No yes no => ?_) (fun H13 h13 => ?_)
    · rw [vns_len] at hi
      have q13 := e13.mh0 _ _ q12
      refine ⟨rfl, .ref qa, rfl, .ref qa, rfl, vn i, rfl, _, rfl, qa, _, i, rfl, rfl, rfl, q13, fun t H14 n14 => ⟨vn i, rfl, i, 1, rfl, rfl, qa, t, l, l.take i, (i : Int) - 1, i - 1, rfl, n14.same _ _ q13, ?_, ?_, by omega, by omega, ?_, fun H15 s15 => ?_⟩⟩
      · rw [n14.at]
        unfold vns
        rw [List.map_take]
      · rw [List.length_take]
        omega
      · rw [List.length_take, Nat.min_eq_left (by omega)]
        omega
      · exact yes _ _ M13 (eN (fallW l i)) (.of e13.mh (n14.same.trans s15)) (.int _) (by dsimp only; rw [map_range_succ, List.map_append]; rfl)
    obtain ⟨M13, acc, _, _, _, e13, _, r13⟩ := lc_end hD h13
    rw [vns_len] at r13
    change Rp (upd M13 D (.lst acc)) (.ref D) (eNs (fallsW l)) at r13
    generalize upd M13 D (.lst acc) = M14 at e13 r13
    -- falls(..) != due
    have q14 := e13.mm _ _ q12
    have hw14 := hw12.same e13.mm
    refine ⟨.ref x, rfl, .ref qa, rfl, M14, x, qa, n, E, l, rfl, e13.mh, hw14, .inl q14, hj, by omega, fun H15 fp s15 f15 h15 => ?_⟩
    refine ⟨.ref D, rfl, eNs (fallsW l), eNs (fallsW l), .of_ns h15, r13.s (e13.mh.trans s15), (sh_ns _).ok, (sh_ns _).ok, false, by rw [eqv_self (sh_ns _)]; rfl, iteF ?_⟩
    -- the whole
    have s15' := e13.mh.trans s15
    have ra14 := ra12.s e13.mm
    have rr14 := r12'.s e13.mm
    refine ⟨vn n, rfl, .ref a, rfl, .ref qa, rfl, .ref rw9, rfl, M14, a, qa, rw9, n, E, l, rfl, s15', ra14, q14, rr14, hl1, hweb, by omega, by omega, by omega, fun N hN M16 H16 v e16 r16 => ?_⟩
    obtain ⟨tl16, x1, x2, rfl, htl, hx1, hx2⟩ := r16.tt_inv
    obtain ⟨fo, fs, rfl, hfo, hfs⟩ := hx1.list_inv
    obtain ⟨so, ss, rfl, hso, hss⟩ := hx2.list_inv
    refine ⟨tl16, _, rfl, e16.mh _ _ htl, rfl, _, _, rfl, _, _, rfl, rfl, ?_⟩
    have ok := iter_ok hweb hl1 N hN.go
    have okl := ok.len
    have hNl := fin_le hweb hl1 hN
    have hil := iter_len n E l N
    have hil2 : N * E.length ≤ 30 * 20 := Nat.mul_le_mul (by omega) (by omega)
    have hssl : ss.length = (iter n E l N).2.length := by rw [hss.len, List.length_map]
    have hSp : (prodS n E l N).Perm (iter n E l N).1 := srtP_perm _
    have hSnd : (prodS n E l N).Nodup := hSp.nodup_iff.mpr ok.nd
    have hSl : (prodS n E l N).length ≤ 30 := by rw [hSp.length_eq]; omega
    -- standings
    refine ⟨.ref fo, rfl, M16, (iter n E l N).1, fo, fs, rfl, e16.mh _ _ hfo, e16.mh, hfs, fun ys pS H17 hy n17 => ?_⟩
    change RpAll M16 ys ((prodS n E l N).map eP) at hy
    have e17 := Ext.grow (o := .lst ys) e16.mh n17.free
    rw [← n17.eq] at e17
    have hyl : ys.length = (prodS n E l N).length := by rw [hy.len, List.length_map]
    have hp17 : upd M16 pS (.lst ys) pS = some (.lst ys) := upd_same
    have hy17 := e17.rpa hy
    have m17 : Same M16 (upd M16 pS (.lst ys)) := e17.mm
    generalize upd M16 pS (.lst ys) = M17 at e17 hp17 hy17 m17
    have hst : ∀ {i : Nat} {y : V}, ys[i]? = some y → ∃ b, y = .ref b ∧ M17 b = some (.tup [vn ((prodS n E l N).getD i (0, 0)).1, vn ((prodS n E l N).getD i (0, 0)).2]) ∧ (prodS n E l N)[i]? = some ((prodS n E l N).getD i (0, 0)) := fun {i y} hy' => by
      obtain ⟨d, hd, rd⟩ := hy17.at' hy'
      rw [List.getElem?_map] at hd
      obtain ⟨pp, hpp, rfl⟩ := Option.map_eq_some_iff.mp hd
      obtain ⟨b, e, hb⟩ := rd.p_inv
      have hgd : (prodS n E l N).getD i (0, 0) = pp := by rw [List.getD_eq_getElem?_getD, hpp]; rfl
      rw [hgd]
      exact ⟨b, e, hb, hpp⟩
    -- spots
    refine ⟨.ref pS, rfl, pS, _, rfl, SqL.of (e17.mh _ _ hp17), fun D2 hD2 => ?_⟩
    refine lc_enumM (K := K) (a := pS) e17.mh hD2 (e17.mh _ _ hp17) (small400 (by omega)) (eSpots (prodS n E l N)) rfl (fun i y Ta M18 H18 hy' hTa e18 hm18 Yes No yes no => ?_) (fun H18 h18 => ?_)
    · obtain ⟨b, rfl, hb, _⟩ := hst hy'
      refine ⟨Ta, _, rfl, hTa, rfl, _, _, rfl, _, _, rfl, rfl, rfl, ?_⟩
      refine ⟨.ref b, rfl, vn i, rfl, by show 2 ≤ sizeLine; decide, fun c H19 n19 => ?_⟩
      have e19 := Ext.grow (o := .tup [.ref b, vn i]) e18.mh n19.free
      rw [← n19.eq] at e19
      refine yes _ _ _ (.tuple [eP ((prodS n E l N).getD i (0, 0)), eN i]) e19 (.tup upd_same (.cons (.of_p (e19.mm _ _ (e18.mm _ _ hb))) (.cons (.int _) .nil))) ?_
      unfold eSpots
      rw [map_range_succ, List.map_append]
      rfl
    obtain ⟨M18, acc2, e18, l18, m18, _, ra18, _⟩ := lc_end hD2 h18
    rw [hyl] at ra18
    refine ⟨M18, D2, prodS n E l N, acc2, rfl, l18, e18.mh, ra18, hSnd, fun dd H19 n19 => ?_⟩
    have e19 : Ext M17 H17 M18 H19 := e18.trans (.of e18.mh n19.same)
    have m19 : Same M16 M18 := m17.trans e18.mm
    have hdd := n19.at
    -- told
    refine ⟨.ref so, rfl, so, rfl, ⟨_, SqL.of (e19.mh _ _ (m19 _ _ hso))⟩, fun D3 hD3 => ?_⟩
    refine lc_listM (K := K) (a := so) e19.mh hD3 (e19.mh _ _ (m19 _ _ hso)) (small400 (by omega)) (fun i => (numT (prodS n E l N) ((iter n E l N).2.take i)).map eT) rfl (fun i y M20 H20 hy' e20 hm20 Yes No yes no => ?_) (fun H20 h20 => ?_)
    · obtain ⟨d', hd', rd⟩ := hss.at' hy'
      rw [List.getElem?_map] at hd'
      obtain ⟨t, ht, rfl⟩ := Option.map_eq_some_iff.mp hd'
      obtain ⟨ta', b1, b2, rfl, hta, hb1, hb2⟩ := rd.s_inv
      have m20 : Same M16 H20 := m19.trans e20.mh0
      obtain ⟨o1, o2, _⟩ := ok.steps t (List.mem_of_getElem? ht)
      have i1 := idx_lt (hSp.mem_iff.mpr o1)
      have i2 := idx_lt (hSp.mem_iff.mpr o2)
      refine ⟨ta', _, rfl, m20 _ _ hta, rfl, _, _, rfl, _, _, rfl, _, _, rfl, rfl, rfl, ?_⟩
      refine ⟨.ref dd, rfl, .ref b1, rfl, dd, vn ((prodS n E l N).idxOf t.1), rfl, dget_p (e20.hh _ _ hdd) (m20 _ _ hb1) (by rw [pkv_get hSnd _ (Nat.le_refl _), if_pos i1]), .ref dd, rfl, .ref b2, rfl, dd, vn ((prodS n E l N).idxOf t.2.1), rfl, dget_p (e20.hh _ _ hdd) (m20 _ _ hb2) (by rw [pkv_get hSnd _ (Nat.le_refl _), if_pos i2]), vn t.2.2, rfl, by show 3 ≤ sizeLine; decide, fun c H21 n21 => ?_⟩
      have e21 := Ext.grow (o := .tup [vn ((prodS n E l N).idxOf t.1), vn ((prodS n E l N).idxOf t.2.1), vn t.2.2]) e20.mh n21.free
      rw [← n21.eq] at e21
      refine yes _ _ _ (eT ((prodS n E l N).idxOf t.1, (prodS n E l N).idxOf t.2.1, t.2.2)) e21 (.of_t upd_same) ?_
      dsimp only
      rw [List.take_add_one, ht]
      unfold numT
      rw [List.map_append, List.map_append]
      rfl
    obtain ⟨M20, acc3, e20, l20, m20, _, ra20, _⟩ := lc_end hD3 h20
    rw [hssl, List.take_of_length_le (Nat.le_refl _)] at ra20
    refine ⟨M20, numT (prodS n E l N) (iter n E l N).2, D3, acc3, rfl, l20, e20.mh, ra20, fun zs pT H21 hz n21 => ?_⟩
    change RpAll M20 zs ((prodT n E l N).map eT) at hz
    have e21 := Ext.grow (o := .lst zs) e20.mh n21.free
    rw [← n21.eq] at e21
    have rT : Rp (upd M20 pT (.lst zs)) (.ref pT) (eTs (prodT n E l N)) := .lst upd_same (e21.rpa hz)
    have mm21 : Same M17 (upd M20 pT (.lst zs)) := e18.mm.trans (e20.mm.trans e21.mm)
    have s21 := e21.mh
    have rS : Rp (upd M20 pT (.lst zs)) (.ref pS) (ePs (prodS n E l N)) := .lst (mm21 _ _ hp17) (hy17.s mm21)
    have mmW : Same M14 (upd M20 pT (.lst zs)) := e16.mm.trans (m17.trans mm21)
    generalize upd M20 pT (.lst zs) = M21 at rT mm21 s21 rS mmW
    have q21 := mmW _ _ q14
    have hw21 := hw14.same mmW
    clear e13 e16 e17 e18 e19 e20 e21 hst hdd n21 n19 n17
    -- product(..) != (standings, told)
    refine ⟨.ref x, rfl, .ref qa, rfl, M21, x, qa, n, E, l, rfl, s21, hw21, .inl q21, hj, hweb, by omega, by omega, by omega, hE0, hone, fun N' hN' M22 H22 v e22 r22 => ?_⟩
    have hNN := hN'.one hN
    subst hNN
    have shT : Sh 3 (.tuple [ePs (prodS n E l N'), eTs (prodT n E l N')]) := .tup2 (sh_ps _) (sh_ts _)
    refine ⟨.ref pS, rfl, .ref pT, rfl, by show 2 ≤ sizeLine; decide, fun tu H23 n23 => ?_⟩
    have s23 : Same M22 H23 := e22.mh.trans n23.same
    refine ⟨_, _, r22.s s23, .tup n23.at (.cons ((rS.s e22.mm).s s23) (.cons ((rT.s e22.mm).s s23) .nil)), shT.ok, shT.ok, false, by rw [eqv_self shT]; rfl, iteF ?_⟩
    have rS22 := rS.s e22.mm
    have rT22 := rT.s e22.mm
    have q22 := e22.mm _ _ q21
    have hw22 := hw21.same e22.mm
    obtain ⟨pS', ys', e, hpS, hys⟩ := id rS22.list_inv
    cases e
    have hysl : ys'.length = (prodS n E l N').length := by rw [hys.len, List.length_map]
    obtain ⟨st1, st2⟩ := ok.states hSp
    have hnS : n ≤ (prodS n E l N').length := by
      obtain ⟨g, e1, _⟩ := ok.pre
      rw [hSp.length_eq, e1, List.length_append, start_len]
      omega
    -- the states
    refine ⟨.ref pS, rfl, pS, rfl, ⟨_, SqL.of (s23 _ _ hpS)⟩, fun D4 hD4 => ?_⟩
    refine lc_listM (K := K) (a := pS) s23 hD4 (s23 _ _ hpS) (small400 (by omega)) (fun i => ((((prodS n E l N').take i).filter fun q => decide (0 < q.2)).map (·.2)).map eN) rfl (fun i y M24 H24 hy' e24 hm24 Yes No yes no => ?_) (fun H24 h24 => ?_)
    · obtain ⟨d', hd', rd⟩ := hys.at' hy'
      rw [List.getElem?_map] at hd'
      obtain ⟨t, ht, rfl⟩ := Option.map_eq_some_iff.mp hd'
      obtain ⟨b, rfl, hb⟩ := rd.p_inv
      have htk : (prodS n E l N').take (i + 1) = (prodS n E l N').take i ++ [t] := by rw [List.take_add_one, ht]; rfl
      refine ⟨b, _, rfl, e24.mh0 _ _ hb, rfl, _, _, rfl, _, _, rfl, rfl, rfl, ?_⟩
      refine ⟨vn t.2, rfl, t.2, 0, rfl, rfl, decide (0 < t.2), rfl, ?_⟩
      by_cases z : 0 < t.2
      · rw [decide_eq_true z]
        refine ⟨vn t.2, rfl, yes _ _ M24 (eN t.2) (.refl e24.mh) (.int _) ?_⟩
        dsimp only
        rw [htk, List.filter_append, List.filter_cons, if_pos (by simpa using z), List.map_append, List.map_append]
        rfl
      · rw [decide_eq_false z]
        refine no _ (.refl _) ?_
        dsimp only
        rw [htk, List.filter_append, List.filter_cons, if_neg (by simpa using z), List.filter_nil, List.append_nil]
    obtain ⟨M24, acc4, e24, l24, m24, _, ra24, _⟩ := lc_end hD4 h24
    rw [hysl, List.take_of_length_le (Nat.le_refl _)] at ra24
    have hacc4 := ra24.nats
    subst hacc4
    have mm24 := e24.mm
    refine ⟨D4, (((prodS n E l N').filter fun q => decide (0 < q.2)).map (·.2)).map fun n : Nat => (n : Int), rfl, SqL.of (by rw [l24, vns_cast]), ?_, by rw [List.length_map, st2]; omega, ?_⟩
    · rw [List.Nodup, List.pairwise_map]
      exact st1.imp fun h z => h (Int.ofNat.inj z)
    refine ⟨.ref pS, rfl, pS, _, rfl, .inl (e24.mh _ _ (mm24 _ _ hpS)), vn n, rfl, ys'.length, n, rfl, rfl, by omega, _, ys'.length - n, rfl, rfl, false, ?_, iteF ?_⟩
    · rw [List.length_map, st2, hysl]
      simp
    -- the parts
    have s24 := e24.mh
    have shP := fun l => (sh_parts l)
    obtain ⟨o1, o2, o3⟩ := prod_ok hweb hl1 (show n ≤ 10 by omega) (show E.length ≤ 20 by omega) (show l.length ≤ 20 by omega) hN
    refine ⟨.ref x, rfl, .ref qa, rfl, rfl, rfl, M24, x, qa, n, E, l, rfl, s24, hw22.same mm24, .inl (mm24 _ _ q22), hj, hweb, by omega, by omega, by omega, hE0, hone, fun N2 hN2 M25 H25 v e25 r25 => ?_⟩
    have hNN := hN2.one hN
    subst hNN
    refine ⟨.ref pS, rfl, .ref pT, rfl, M25, pS, pT, prodS n E l N2, prodT n E l N2, rfl, e25.mh, (rS22.s mm24).s e25.mm, (rT22.s mm24).s e25.mm, by omega, by omega, o3, fun M26 H26 v2 e26 r26 => ?_⟩
    refine ⟨_, _, (r25.s e26.mm).s e26.mh, r26.s e26.mh, (sh_parts _).ok, (sh_parts _).ok, ?_⟩
    rw [eqv_self (sh_parts _)]
    exact q _

def sp_law (K : PySem.W.Frag) : Sp := fun vs H Q _ => ∃ (a : Addr) (ns : List Int), vs = [.ref a] ∧ SqL K H a (ns.map V.int) ∧ ∀ H', Q (.bl true) H'
theorem ok_law (T : Tx K mg) : FnOk P w K mg base CX0 9 T.law.f T.law.fd ["_law_script"] (sp_law K) := by
  refine T.law.F.ok sc_law (fun vs H Q E h => ?_) (fun cdv A outer s H vs Q E' hr h => ?_)
  · obtain ⟨a, ns, rfl, _⟩ := h
    rfl
  · obtain ⟨a, ns, rfl, ha, q⟩ := h
    refine ⟨_, (pss_one (ps_ret (pe_call (ok__law_right T) (hr.mono (by decide)) (by rfl) T._law_right.g T._law_right.F.kp T._law_right.b .nil pass0 (pa_cons (pe_call (ok__law_pot T) (hr.mono (by decide)) (by rfl) T._law_pot.g T._law_pot.F.kp T._law_pot.b .nil pass0 (pa_cons (pv 0) (pa_cons pe_int pa_nil))) pa_nil)))), ?_⟩
    exact ⟨.ref a, rfl, a, ns, rfl, ha, fun p H1 s1 f1 pot1 => ⟨p, rfl, pot1, q⟩⟩
end
end K31
namespace K31
open PySem L2
/-! What the top has written, the head. -/
theorem all_mk {l : PySem.W.OpenLaw} {w : World} {K : PySem.W.Frag} {h : Heap} {mg : PySem.Str → Option Value} {fa : Addr} (X : K.In h) (G : h.Ns mainGlobals mg) (hfa : mg "law" = some (.ref fa))
    {CWeb : Addr}
    {CSearch : Addr}
    {CSteps : Addr}
    {f_is_integer : Addr}
    {oc_is_integer kV_is_integer dc_is_integer pm_is_integer cd_is_integer ct_is_integer : Value} {od_is_integer an_is_integer : Option Addr} {os_is_integer : Array (Option Value)}
    {f_is_count : Addr}
    {oc_is_count kV_is_count dc_is_count pm_is_count cd_is_count ct_is_count : Value} {od_is_count an_is_count : Option Addr} {os_is_count : Array (Option Value)}
    {f_is_list : Addr}
    {oc_is_list kV_is_list dc_is_list pm_is_list cd_is_list ct_is_list : Value} {od_is_list an_is_list : Option Addr} {os_is_list : Array (Option Value)}
    {f_is_tie_value : Addr}
    {oc_is_tie_value kV_is_tie_value dc_is_tie_value pm_is_tie_value cd_is_tie_value ct_is_tie_value : Value} {od_is_tie_value an_is_tie_value : Option Addr} {os_is_tie_value : Array (Option Value)}
    {f_Web_init : Addr}
    {oc_Web_init kV_Web_init dc_Web_init pm_Web_init cd_Web_init ct_Web_init : Value} {od_Web_init an_Web_init : Option Addr} {os_Web_init : Array (Option Value)}
    {f_Web_many : Addr}
    {p_many : Addr} {rest_many : List Value}
    {oc_Web_many kV_Web_many dc_Web_many pm_Web_many cd_Web_many ct_Web_many : Value} {od_Web_many an_Web_many : Option Addr} {os_Web_many : Array (Option Value)}
    {f_want_web : Addr}
    {oc_want_web kV_want_web dc_want_web pm_want_web cd_want_web ct_want_web : Value} {od_want_web an_want_web : Option Addr} {os_want_web : Array (Option Value)}
    {f_are_joined_ties : Addr}
    {oc_are_joined_ties kV_are_joined_ties dc_are_joined_ties pm_are_joined_ties cd_are_joined_ties ct_are_joined_ties : Value} {od_are_joined_ties an_are_joined_ties : Option Addr} {os_are_joined_ties : Array (Option Value)}
    {f_is_walk_value : Addr}
    {oc_is_walk_value kV_is_walk_value dc_is_walk_value pm_is_walk_value cd_is_walk_value ct_is_walk_value : Value} {od_is_walk_value an_is_walk_value : Option Addr} {os_is_walk_value : Array (Option Value)}
    {f_want_walk : Addr}
    {oc_want_walk kV_want_walk dc_want_walk pm_want_walk cd_want_walk ct_want_walk : Value} {od_want_walk an_want_walk : Option Addr} {os_want_walk : Array (Option Value)}
    {f_Search_init : Addr}
    {oc_Search_init kV_Search_init dc_Search_init pm_Search_init cd_Search_init ct_Search_init : Value} {od_Search_init an_Search_init : Option Addr} {os_Search_init : Array (Option Value)}
    {f_Search_meet : Addr}
    {oc_Search_meet kV_Search_meet dc_Search_meet pm_Search_meet cd_Search_meet ct_Search_meet : Value} {od_Search_meet an_Search_meet : Option Addr} {os_Search_meet : Array (Option Value)}
    {f_Search_close_part : Addr}
    {oc_Search_close_part kV_Search_close_part dc_Search_close_part pm_Search_close_part cd_Search_close_part ct_Search_close_part : Value} {od_Search_close_part an_Search_close_part : Option Addr} {os_Search_close_part : Array (Option Value)}
    {f_Search_go_from : Addr}
    {oc_Search_go_from kV_Search_go_from dc_Search_go_from pm_Search_go_from cd_Search_go_from ct_Search_go_from : Value} {od_Search_go_from an_Search_go_from : Option Addr} {os_Search_go_from : Array (Option Value)}
    {f_parts_by_search : Addr}
    {oc_parts_by_search kV_parts_by_search dc_parts_by_search pm_parts_by_search cd_parts_by_search ct_parts_by_search : Value} {od_parts_by_search an_parts_by_search : Option Addr} {os_parts_by_search : Array (Option Value)}
    {f_is_close_web : Addr}
    {oc_is_close_web kV_is_close_web dc_is_close_web pm_is_close_web cd_is_close_web ct_is_close_web : Value} {od_is_close_web an_is_close_web : Option Addr} {os_is_close_web : Array (Option Value)}
    {f_want_close : Addr}
    {oc_want_close kV_want_close dc_want_close pm_want_close cd_want_close ct_want_close : Value} {od_want_close an_want_close : Option Addr} {os_want_close : Array (Option Value)}
    {f_fall_row : Addr}
    {oc_fall_row kV_fall_row dc_fall_row pm_fall_row cd_fall_row ct_fall_row : Value} {od_fall_row an_fall_row : Option Addr} {os_fall_row : Array (Option Value)}
    {f_table_rows : Addr}
    {oc_table_rows kV_table_rows dc_table_rows pm_table_rows cd_table_rows ct_table_rows : Value} {od_table_rows an_table_rows : Option Addr} {os_table_rows : Array (Option Value)}
    {f_state_by_trying : Addr}
    {oc_state_by_trying kV_state_by_trying dc_state_by_trying pm_state_by_trying cd_state_by_trying ct_state_by_trying : Value} {od_state_by_trying an_state_by_trying : Option Addr} {os_state_by_trying : Array (Option Value)}
    {f_plain_table : Addr}
    {oc_plain_table kV_plain_table dc_plain_table pm_plain_table cd_plain_table ct_plain_table : Value} {od_plain_table an_plain_table : Option Addr} {os_plain_table : Array (Option Value)}
    {f_table : Addr}
    {oc_table kV_table dc_table pm_table cd_table ct_table : Value} {od_table an_table : Option Addr} {os_table : Array (Option Value)}
    {f_falls : Addr}
    {oc_falls kV_falls dc_falls pm_falls cd_falls ct_falls : Value} {od_falls an_falls : Option Addr} {os_falls : Array (Option Value)}
    {f_Steps_init : Addr}
    {oc_Steps_init kV_Steps_init dc_Steps_init pm_Steps_init cd_Steps_init ct_Steps_init : Value} {od_Steps_init an_Steps_init : Option Addr} {os_Steps_init : Array (Option Value)}
    {f_standings_from : Addr}
    {oc_standings_from kV_standings_from dc_standings_from pm_standings_from cd_standings_from ct_standings_from : Value} {od_standings_from an_standings_from : Option Addr} {os_standings_from : Array (Option Value)}
    {f_product_of : Addr}
    {oc_product_of kV_product_of dc_product_of pm_product_of cd_product_of ct_product_of : Value} {od_product_of an_product_of : Option Addr} {os_product_of : Array (Option Value)}
    {f_steps_within : Addr}
    {oc_steps_within kV_steps_within dc_steps_within pm_steps_within cd_steps_within ct_steps_within : Value} {od_steps_within an_steps_within : Option Addr} {os_steps_within : Array (Option Value)}
    {f_parts_of_product : Addr}
    {oc_parts_of_product kV_parts_of_product dc_parts_of_product pm_parts_of_product cd_parts_of_product ct_parts_of_product : Value} {od_parts_of_product an_parts_of_product : Option Addr} {os_parts_of_product : Array (Option Value)}
    {f_want_asked : Addr}
    {oc_want_asked kV_want_asked dc_want_asked pm_want_asked cd_want_asked ct_want_asked : Value} {od_want_asked an_want_asked : Option Addr} {os_want_asked : Array (Option Value)}
    {f_product : Addr}
    {oc_product kV_product dc_product pm_product cd_product ct_product : Value} {od_product an_product : Option Addr} {os_product : Array (Option Value)}
    {f_parts_without : Addr}
    {oc_parts_without kV_parts_without dc_parts_without pm_parts_without cd_parts_without ct_parts_without : Value} {od_parts_without an_parts_without : Option Addr} {os_parts_without : Array (Option Value)}
    {f__law_pot : Addr}
    {oc__law_pot kV__law_pot dc__law_pot pm__law_pot cd__law_pot ct__law_pot : Value} {od__law_pot an__law_pot : Option Addr} {os__law_pot : Array (Option Value)}
    {f__law_draw : Addr}
    {oc__law_draw kV__law_draw dc__law_draw pm__law_draw cd__law_draw ct__law_draw : Value} {od__law_draw an__law_draw : Option Addr} {os__law_draw : Array (Option Value)}
    {f__law_pick : Addr}
    {oc__law_pick kV__law_pick dc__law_pick pm__law_pick cd__law_pick ct__law_pick : Value} {od__law_pick an__law_pick : Option Addr} {os__law_pick : Array (Option Value)}
    {f__law_ties : Addr}
    {oc__law_ties kV__law_ties dc__law_ties pm__law_ties cd__law_ties ct__law_ties : Value} {od__law_ties an__law_ties : Option Addr} {os__law_ties : Array (Option Value)}
    {f__law_walk : Addr}
    {oc__law_walk kV__law_walk dc__law_walk pm__law_walk cd__law_walk ct__law_walk : Value} {od__law_walk an__law_walk : Option Addr} {os__law_walk : Array (Option Value)}
    {f__law_state : Addr}
    {oc__law_state kV__law_state dc__law_state pm__law_state cd__law_state ct__law_state : Value} {od__law_state an__law_state : Option Addr} {os__law_state : Array (Option Value)}
    {f__law_table : Addr}
    {oc__law_table kV__law_table dc__law_table pm__law_table cd__law_table ct__law_table : Value} {od__law_table an__law_table : Option Addr} {os__law_table : Array (Option Value)}
    {f__law_whole : Addr}
    {oc__law_whole kV__law_whole dc__law_whole pm__law_whole cd__law_whole ct__law_whole : Value} {od__law_whole an__law_whole : Option Addr} {os__law_whole : Array (Option Value)}
    {f__law_reach : Addr}
    {oc__law_reach kV__law_reach dc__law_reach pm__law_reach cd__law_reach ct__law_reach : Value} {od__law_reach an__law_reach : Option Addr} {os__law_reach : Array (Option Value)}
    {f__law_parts : Addr}
    {oc__law_parts kV__law_parts dc__law_parts pm__law_parts cd__law_parts ct__law_parts : Value} {od__law_parts an__law_parts : Option Addr} {os__law_parts : Array (Option Value)}
    {f__law_right : Addr}
    {oc__law_right kV__law_right dc__law_right pm__law_right cd__law_right ct__law_right : Value} {od__law_right an__law_right : Option Addr} {os__law_right : Array (Option Value)}
    {f_law : Addr}
    {oc_law kV_law dc_law pm_law cd_law ct_law : Value} {od_law an_law : Option Addr} {os_law : Array (Option Value)}
    {t_MOST_PLACES : Tok}
    {t_MOST_TIES : Tok}
    {t_MOST_WALK : Tok}
    (aWeb : PySem.W.nsIn K mainGlobals "Web" = some (some (.ref CWeb)))
    (aSearch : PySem.W.nsIn K mainGlobals "Search" = some (some (.ref CSearch)))
    (aSteps : PySem.W.nsIn K mainGlobals "Steps" = some (some (.ref CSteps)))
    (a_is_integer : PySem.W.nsIn K mainGlobals "is_integer" = some (some (.ref f_is_integer)))
    (l_is_integer : K.lookup f_is_integer = some ⟨oc_is_integer, od_is_integer, .func (PySem.W.fnOf "is_integer" "is_integer" (defArgs s_is_integer) (defBody s_is_integer) (defScope s_is_integer) .none kV_is_integer dc_is_integer pm_is_integer an_is_integer cd_is_integer ct_is_integer), os_is_integer⟩)
    (c_is_integer : PySem.W.codeIn K cd_is_integer "is_integer" = true)
    (k_is_integer : PySem.W.keepIn K (.ref f_is_integer) = true)
    (a_is_count : PySem.W.nsIn K mainGlobals "is_count" = some (some (.ref f_is_count)))
    (l_is_count : K.lookup f_is_count = some ⟨oc_is_count, od_is_count, .func (PySem.W.fnOf "is_count" "is_count" (defArgs s_is_count) (defBody s_is_count) (defScope s_is_count) .none kV_is_count dc_is_count pm_is_count an_is_count cd_is_count ct_is_count), os_is_count⟩)
    (c_is_count : PySem.W.codeIn K cd_is_count "is_count" = true)
    (k_is_count : PySem.W.keepIn K (.ref f_is_count) = true)
    (a_is_list : PySem.W.nsIn K mainGlobals "is_list" = some (some (.ref f_is_list)))
    (l_is_list : K.lookup f_is_list = some ⟨oc_is_list, od_is_list, .func (PySem.W.fnOf "is_list" "is_list" (defArgs s_is_list) (defBody s_is_list) (defScope s_is_list) .none kV_is_list dc_is_list pm_is_list an_is_list cd_is_list ct_is_list), os_is_list⟩)
    (c_is_list : PySem.W.codeIn K cd_is_list "is_list" = true)
    (k_is_list : PySem.W.keepIn K (.ref f_is_list) = true)
    (a_is_tie_value : PySem.W.nsIn K mainGlobals "is_tie_value" = some (some (.ref f_is_tie_value)))
    (l_is_tie_value : K.lookup f_is_tie_value = some ⟨oc_is_tie_value, od_is_tie_value, .func (PySem.W.fnOf "is_tie_value" "is_tie_value" (defArgs s_is_tie_value) (defBody s_is_tie_value) (defScope s_is_tie_value) .none kV_is_tie_value dc_is_tie_value pm_is_tie_value an_is_tie_value cd_is_tie_value ct_is_tie_value), os_is_tie_value⟩)
    (c_is_tie_value : PySem.W.codeIn K cd_is_tie_value "is_tie_value" = true)
    (k_is_tie_value : PySem.W.keepIn K (.ref f_is_tie_value) = true)
    (a_Web_init : PySem.W.findIn K (.ref CWeb) "__init__" = some (some (.ref f_Web_init)))
    (i_Web_init : PySem.W.isFn K (.ref f_Web_init) = true)
    (l_Web_init : K.lookup f_Web_init = some ⟨oc_Web_init, od_Web_init, .func (PySem.W.fnOf "__init__" "Web.__init__" (defArgs s_Web_init) (defBody s_Web_init) (defScope s_Web_init) .none kV_Web_init dc_Web_init pm_Web_init an_Web_init cd_Web_init ct_Web_init), os_Web_init⟩)
    (c_Web_init : PySem.W.codeIn K cd_Web_init "Web.__init__" = true)
    (k_Web_init : PySem.W.keepIn K (.ref f_Web_init) = true)
    (pa : PySem.W.findIn K (.ref CWeb) "many" = some (some (.ref p_many)))
    (pb : PySem.W.specialIn K (.ref p_many) "__get__" = some (some (.builtin "property.__get__")))
    (pc : PySem.W.takesIn K (.ref p_many) = some true)
    (pd : PySem.W.recIn K p_many "property" = some (.ref f_Web_many :: rest_many))
    (l_Web_many : K.lookup f_Web_many = some ⟨oc_Web_many, od_Web_many, .func (PySem.W.fnOf "many" "Web.many" (defArgs s_Web_many) (defBody s_Web_many) (defScope s_Web_many) .none kV_Web_many dc_Web_many pm_Web_many an_Web_many cd_Web_many ct_Web_many), os_Web_many⟩)
    (c_Web_many : PySem.W.codeIn K cd_Web_many "Web.many" = true)
    (k_Web_many : PySem.W.keepIn K (.ref f_Web_many) = true)
    (a_want_web : PySem.W.nsIn K mainGlobals "want_web" = some (some (.ref f_want_web)))
    (l_want_web : K.lookup f_want_web = some ⟨oc_want_web, od_want_web, .func (PySem.W.fnOf "want_web" "want_web" (defArgs s_want_web) (defBody s_want_web) (defScope s_want_web) .none kV_want_web dc_want_web pm_want_web an_want_web cd_want_web ct_want_web), os_want_web⟩)
    (c_want_web : PySem.W.codeIn K cd_want_web "want_web" = true)
    (k_want_web : PySem.W.keepIn K (.ref f_want_web) = true)
    (a_are_joined_ties : PySem.W.nsIn K mainGlobals "are_joined_ties" = some (some (.ref f_are_joined_ties)))
    (l_are_joined_ties : K.lookup f_are_joined_ties = some ⟨oc_are_joined_ties, od_are_joined_ties, .func (PySem.W.fnOf "are_joined_ties" "are_joined_ties" (defArgs s_are_joined_ties) (defBody s_are_joined_ties) (defScope s_are_joined_ties) .none kV_are_joined_ties dc_are_joined_ties pm_are_joined_ties an_are_joined_ties cd_are_joined_ties ct_are_joined_ties), os_are_joined_ties⟩)
    (c_are_joined_ties : PySem.W.codeIn K cd_are_joined_ties "are_joined_ties" = true)
    (k_are_joined_ties : PySem.W.keepIn K (.ref f_are_joined_ties) = true)
    (a_is_walk_value : PySem.W.nsIn K mainGlobals "is_walk_value" = some (some (.ref f_is_walk_value)))
    (l_is_walk_value : K.lookup f_is_walk_value = some ⟨oc_is_walk_value, od_is_walk_value, .func (PySem.W.fnOf "is_walk_value" "is_walk_value" (defArgs s_is_walk_value) (defBody s_is_walk_value) (defScope s_is_walk_value) .none kV_is_walk_value dc_is_walk_value pm_is_walk_value an_is_walk_value cd_is_walk_value ct_is_walk_value), os_is_walk_value⟩)
    (c_is_walk_value : PySem.W.codeIn K cd_is_walk_value "is_walk_value" = true)
    (k_is_walk_value : PySem.W.keepIn K (.ref f_is_walk_value) = true)
    (a_want_walk : PySem.W.nsIn K mainGlobals "want_walk" = some (some (.ref f_want_walk)))
    (l_want_walk : K.lookup f_want_walk = some ⟨oc_want_walk, od_want_walk, .func (PySem.W.fnOf "want_walk" "want_walk" (defArgs s_want_walk) (defBody s_want_walk) (defScope s_want_walk) .none kV_want_walk dc_want_walk pm_want_walk an_want_walk cd_want_walk ct_want_walk), os_want_walk⟩)
    (c_want_walk : PySem.W.codeIn K cd_want_walk "want_walk" = true)
    (k_want_walk : PySem.W.keepIn K (.ref f_want_walk) = true)
    (a_Search_init : PySem.W.findIn K (.ref CSearch) "__init__" = some (some (.ref f_Search_init)))
    (i_Search_init : PySem.W.isFn K (.ref f_Search_init) = true)
    (l_Search_init : K.lookup f_Search_init = some ⟨oc_Search_init, od_Search_init, .func (PySem.W.fnOf "__init__" "Search.__init__" (defArgs s_Search_init) (defBody s_Search_init) (defScope s_Search_init) .none kV_Search_init dc_Search_init pm_Search_init an_Search_init cd_Search_init ct_Search_init), os_Search_init⟩)
    (c_Search_init : PySem.W.codeIn K cd_Search_init "Search.__init__" = true)
    (k_Search_init : PySem.W.keepIn K (.ref f_Search_init) = true)
    (a_Search_meet : PySem.W.findIn K (.ref CSearch) "meet" = some (some (.ref f_Search_meet)))
    (i_Search_meet : PySem.W.isFn K (.ref f_Search_meet) = true)
    (l_Search_meet : K.lookup f_Search_meet = some ⟨oc_Search_meet, od_Search_meet, .func (PySem.W.fnOf "meet" "Search.meet" (defArgs s_Search_meet) (defBody s_Search_meet) (defScope s_Search_meet) .none kV_Search_meet dc_Search_meet pm_Search_meet an_Search_meet cd_Search_meet ct_Search_meet), os_Search_meet⟩)
    (c_Search_meet : PySem.W.codeIn K cd_Search_meet "Search.meet" = true)
    (k_Search_meet : PySem.W.keepIn K (.ref f_Search_meet) = true)
    (a_Search_close_part : PySem.W.findIn K (.ref CSearch) "close_part" = some (some (.ref f_Search_close_part)))
    (i_Search_close_part : PySem.W.isFn K (.ref f_Search_close_part) = true)
    (l_Search_close_part : K.lookup f_Search_close_part = some ⟨oc_Search_close_part, od_Search_close_part, .func (PySem.W.fnOf "close_part" "Search.close_part" (defArgs s_Search_close_part) (defBody s_Search_close_part) (defScope s_Search_close_part) .none kV_Search_close_part dc_Search_close_part pm_Search_close_part an_Search_close_part cd_Search_close_part ct_Search_close_part), os_Search_close_part⟩)
    (c_Search_close_part : PySem.W.codeIn K cd_Search_close_part "Search.close_part" = true)
    (k_Search_close_part : PySem.W.keepIn K (.ref f_Search_close_part) = true)
    (a_Search_go_from : PySem.W.findIn K (.ref CSearch) "go_from" = some (some (.ref f_Search_go_from)))
    (i_Search_go_from : PySem.W.isFn K (.ref f_Search_go_from) = true)
    (l_Search_go_from : K.lookup f_Search_go_from = some ⟨oc_Search_go_from, od_Search_go_from, .func (PySem.W.fnOf "go_from" "Search.go_from" (defArgs s_Search_go_from) (defBody s_Search_go_from) (defScope s_Search_go_from) .none kV_Search_go_from dc_Search_go_from pm_Search_go_from an_Search_go_from cd_Search_go_from ct_Search_go_from), os_Search_go_from⟩)
    (c_Search_go_from : PySem.W.codeIn K cd_Search_go_from "Search.go_from" = true)
    (k_Search_go_from : PySem.W.keepIn K (.ref f_Search_go_from) = true)
    (a_parts_by_search : PySem.W.nsIn K mainGlobals "parts_by_search" = some (some (.ref f_parts_by_search)))
    (l_parts_by_search : K.lookup f_parts_by_search = some ⟨oc_parts_by_search, od_parts_by_search, .func (PySem.W.fnOf "parts_by_search" "parts_by_search" (defArgs s_parts_by_search) (defBody s_parts_by_search) (defScope s_parts_by_search) .none kV_parts_by_search dc_parts_by_search pm_parts_by_search an_parts_by_search cd_parts_by_search ct_parts_by_search), os_parts_by_search⟩)
    (c_parts_by_search : PySem.W.codeIn K cd_parts_by_search "parts_by_search" = true)
    (k_parts_by_search : PySem.W.keepIn K (.ref f_parts_by_search) = true)
    (a_is_close_web : PySem.W.nsIn K mainGlobals "is_close_web" = some (some (.ref f_is_close_web)))
    (l_is_close_web : K.lookup f_is_close_web = some ⟨oc_is_close_web, od_is_close_web, .func (PySem.W.fnOf "is_close_web" "is_close_web" (defArgs s_is_close_web) (defBody s_is_close_web) (defScope s_is_close_web) .none kV_is_close_web dc_is_close_web pm_is_close_web an_is_close_web cd_is_close_web ct_is_close_web), os_is_close_web⟩)
    (c_is_close_web : PySem.W.codeIn K cd_is_close_web "is_close_web" = true)
    (k_is_close_web : PySem.W.keepIn K (.ref f_is_close_web) = true)
    (a_want_close : PySem.W.nsIn K mainGlobals "want_close" = some (some (.ref f_want_close)))
    (l_want_close : K.lookup f_want_close = some ⟨oc_want_close, od_want_close, .func (PySem.W.fnOf "want_close" "want_close" (defArgs s_want_close) (defBody s_want_close) (defScope s_want_close) .none kV_want_close dc_want_close pm_want_close an_want_close cd_want_close ct_want_close), os_want_close⟩)
    (c_want_close : PySem.W.codeIn K cd_want_close "want_close" = true)
    (k_want_close : PySem.W.keepIn K (.ref f_want_close) = true)
    (a_fall_row : PySem.W.nsIn K mainGlobals "fall_row" = some (some (.ref f_fall_row)))
    (l_fall_row : K.lookup f_fall_row = some ⟨oc_fall_row, od_fall_row, .func (PySem.W.fnOf "fall_row" "fall_row" (defArgs s_fall_row) (defBody s_fall_row) (defScope s_fall_row) .none kV_fall_row dc_fall_row pm_fall_row an_fall_row cd_fall_row ct_fall_row), os_fall_row⟩)
    (c_fall_row : PySem.W.codeIn K cd_fall_row "fall_row" = true)
    (k_fall_row : PySem.W.keepIn K (.ref f_fall_row) = true)
    (a_table_rows : PySem.W.nsIn K mainGlobals "table_rows" = some (some (.ref f_table_rows)))
    (l_table_rows : K.lookup f_table_rows = some ⟨oc_table_rows, od_table_rows, .func (PySem.W.fnOf "table_rows" "table_rows" (defArgs s_table_rows) (defBody s_table_rows) (defScope s_table_rows) .none kV_table_rows dc_table_rows pm_table_rows an_table_rows cd_table_rows ct_table_rows), os_table_rows⟩)
    (c_table_rows : PySem.W.codeIn K cd_table_rows "table_rows" = true)
    (k_table_rows : PySem.W.keepIn K (.ref f_table_rows) = true)
    (a_state_by_trying : PySem.W.nsIn K mainGlobals "state_by_trying" = some (some (.ref f_state_by_trying)))
    (l_state_by_trying : K.lookup f_state_by_trying = some ⟨oc_state_by_trying, od_state_by_trying, .func (PySem.W.fnOf "state_by_trying" "state_by_trying" (defArgs s_state_by_trying) (defBody s_state_by_trying) (defScope s_state_by_trying) .none kV_state_by_trying dc_state_by_trying pm_state_by_trying an_state_by_trying cd_state_by_trying ct_state_by_trying), os_state_by_trying⟩)
    (c_state_by_trying : PySem.W.codeIn K cd_state_by_trying "state_by_trying" = true)
    (k_state_by_trying : PySem.W.keepIn K (.ref f_state_by_trying) = true)
    (a_plain_table : PySem.W.nsIn K mainGlobals "plain_table" = some (some (.ref f_plain_table)))
    (l_plain_table : K.lookup f_plain_table = some ⟨oc_plain_table, od_plain_table, .func (PySem.W.fnOf "plain_table" "plain_table" (defArgs s_plain_table) (defBody s_plain_table) (defScope s_plain_table) .none kV_plain_table dc_plain_table pm_plain_table an_plain_table cd_plain_table ct_plain_table), os_plain_table⟩)
    (c_plain_table : PySem.W.codeIn K cd_plain_table "plain_table" = true)
    (k_plain_table : PySem.W.keepIn K (.ref f_plain_table) = true)
    (a_table : PySem.W.nsIn K mainGlobals "table" = some (some (.ref f_table)))
    (l_table : K.lookup f_table = some ⟨oc_table, od_table, .func (PySem.W.fnOf "table" "table" (defArgs s_table) (defBody s_table) (defScope s_table) .none kV_table dc_table pm_table an_table cd_table ct_table), os_table⟩)
    (c_table : PySem.W.codeIn K cd_table "table" = true)
    (k_table : PySem.W.keepIn K (.ref f_table) = true)
    (a_falls : PySem.W.nsIn K mainGlobals "falls" = some (some (.ref f_falls)))
    (l_falls : K.lookup f_falls = some ⟨oc_falls, od_falls, .func (PySem.W.fnOf "falls" "falls" (defArgs s_falls) (defBody s_falls) (defScope s_falls) .none kV_falls dc_falls pm_falls an_falls cd_falls ct_falls), os_falls⟩)
    (c_falls : PySem.W.codeIn K cd_falls "falls" = true)
    (k_falls : PySem.W.keepIn K (.ref f_falls) = true)
    (a_Steps_init : PySem.W.findIn K (.ref CSteps) "__init__" = some (some (.ref f_Steps_init)))
    (i_Steps_init : PySem.W.isFn K (.ref f_Steps_init) = true)
    (l_Steps_init : K.lookup f_Steps_init = some ⟨oc_Steps_init, od_Steps_init, .func (PySem.W.fnOf "__init__" "Steps.__init__" (defArgs s_Steps_init) (defBody s_Steps_init) (defScope s_Steps_init) .none kV_Steps_init dc_Steps_init pm_Steps_init an_Steps_init cd_Steps_init ct_Steps_init), os_Steps_init⟩)
    (c_Steps_init : PySem.W.codeIn K cd_Steps_init "Steps.__init__" = true)
    (k_Steps_init : PySem.W.keepIn K (.ref f_Steps_init) = true)
    (a_standings_from : PySem.W.nsIn K mainGlobals "standings_from" = some (some (.ref f_standings_from)))
    (l_standings_from : K.lookup f_standings_from = some ⟨oc_standings_from, od_standings_from, .func (PySem.W.fnOf "standings_from" "standings_from" (defArgs s_standings_from) (defBody s_standings_from) (defScope s_standings_from) .none kV_standings_from dc_standings_from pm_standings_from an_standings_from cd_standings_from ct_standings_from), os_standings_from⟩)
    (c_standings_from : PySem.W.codeIn K cd_standings_from "standings_from" = true)
    (k_standings_from : PySem.W.keepIn K (.ref f_standings_from) = true)
    (a_product_of : PySem.W.nsIn K mainGlobals "product_of" = some (some (.ref f_product_of)))
    (l_product_of : K.lookup f_product_of = some ⟨oc_product_of, od_product_of, .func (PySem.W.fnOf "product_of" "product_of" (defArgs s_product_of) (defBody s_product_of) (defScope s_product_of) .none kV_product_of dc_product_of pm_product_of an_product_of cd_product_of ct_product_of), os_product_of⟩)
    (c_product_of : PySem.W.codeIn K cd_product_of "product_of" = true)
    (k_product_of : PySem.W.keepIn K (.ref f_product_of) = true)
    (a_steps_within : PySem.W.nsIn K mainGlobals "steps_within" = some (some (.ref f_steps_within)))
    (l_steps_within : K.lookup f_steps_within = some ⟨oc_steps_within, od_steps_within, .func (PySem.W.fnOf "steps_within" "steps_within" (defArgs s_steps_within) (defBody s_steps_within) (defScope s_steps_within) .none kV_steps_within dc_steps_within pm_steps_within an_steps_within cd_steps_within ct_steps_within), os_steps_within⟩)
    (c_steps_within : PySem.W.codeIn K cd_steps_within "steps_within" = true)
    (k_steps_within : PySem.W.keepIn K (.ref f_steps_within) = true)
    (a_parts_of_product : PySem.W.nsIn K mainGlobals "parts_of_product" = some (some (.ref f_parts_of_product)))
    (l_parts_of_product : K.lookup f_parts_of_product = some ⟨oc_parts_of_product, od_parts_of_product, .func (PySem.W.fnOf "parts_of_product" "parts_of_product" (defArgs s_parts_of_product) (defBody s_parts_of_product) (defScope s_parts_of_product) .none kV_parts_of_product dc_parts_of_product pm_parts_of_product an_parts_of_product cd_parts_of_product ct_parts_of_product), os_parts_of_product⟩)
    (c_parts_of_product : PySem.W.codeIn K cd_parts_of_product "parts_of_product" = true)
    (k_parts_of_product : PySem.W.keepIn K (.ref f_parts_of_product) = true)
    (a_want_asked : PySem.W.nsIn K mainGlobals "want_asked" = some (some (.ref f_want_asked)))
    (l_want_asked : K.lookup f_want_asked = some ⟨oc_want_asked, od_want_asked, .func (PySem.W.fnOf "want_asked" "want_asked" (defArgs s_want_asked) (defBody s_want_asked) (defScope s_want_asked) .none kV_want_asked dc_want_asked pm_want_asked an_want_asked cd_want_asked ct_want_asked), os_want_asked⟩)
    (c_want_asked : PySem.W.codeIn K cd_want_asked "want_asked" = true)
    (k_want_asked : PySem.W.keepIn K (.ref f_want_asked) = true)
    (a_product : PySem.W.nsIn K mainGlobals "product" = some (some (.ref f_product)))
    (l_product : K.lookup f_product = some ⟨oc_product, od_product, .func (PySem.W.fnOf "product" "product" (defArgs s_product) (defBody s_product) (defScope s_product) .none kV_product dc_product pm_product an_product cd_product ct_product), os_product⟩)
    (c_product : PySem.W.codeIn K cd_product "product" = true)
    (k_product : PySem.W.keepIn K (.ref f_product) = true)
    (a_parts_without : PySem.W.nsIn K mainGlobals "parts_without" = some (some (.ref f_parts_without)))
    (l_parts_without : K.lookup f_parts_without = some ⟨oc_parts_without, od_parts_without, .func (PySem.W.fnOf "parts_without" "parts_without" (defArgs s_parts_without) (defBody s_parts_without) (defScope s_parts_without) .none kV_parts_without dc_parts_without pm_parts_without an_parts_without cd_parts_without ct_parts_without), os_parts_without⟩)
    (c_parts_without : PySem.W.codeIn K cd_parts_without "parts_without" = true)
    (k_parts_without : PySem.W.keepIn K (.ref f_parts_without) = true)
    (a__law_pot : PySem.W.nsIn K mainGlobals "_law_pot" = some (some (.ref f__law_pot)))
    (l__law_pot : K.lookup f__law_pot = some ⟨oc__law_pot, od__law_pot, .func (PySem.W.fnOf "_law_pot" "_law_pot" (defArgs s__law_pot) (defBody s__law_pot) (defScope s__law_pot) .none kV__law_pot dc__law_pot pm__law_pot an__law_pot cd__law_pot ct__law_pot), os__law_pot⟩)
    (c__law_pot : PySem.W.codeIn K cd__law_pot "_law_pot" = true)
    (k__law_pot : PySem.W.keepIn K (.ref f__law_pot) = true)
    (a__law_draw : PySem.W.nsIn K mainGlobals "_law_draw" = some (some (.ref f__law_draw)))
    (l__law_draw : K.lookup f__law_draw = some ⟨oc__law_draw, od__law_draw, .func (PySem.W.fnOf "_law_draw" "_law_draw" (defArgs s__law_draw) (defBody s__law_draw) (defScope s__law_draw) .none kV__law_draw dc__law_draw pm__law_draw an__law_draw cd__law_draw ct__law_draw), os__law_draw⟩)
    (c__law_draw : PySem.W.codeIn K cd__law_draw "_law_draw" = true)
    (k__law_draw : PySem.W.keepIn K (.ref f__law_draw) = true)
    (a__law_pick : PySem.W.nsIn K mainGlobals "_law_pick" = some (some (.ref f__law_pick)))
    (l__law_pick : K.lookup f__law_pick = some ⟨oc__law_pick, od__law_pick, .func (PySem.W.fnOf "_law_pick" "_law_pick" (defArgs s__law_pick) (defBody s__law_pick) (defScope s__law_pick) .none kV__law_pick dc__law_pick pm__law_pick an__law_pick cd__law_pick ct__law_pick), os__law_pick⟩)
    (c__law_pick : PySem.W.codeIn K cd__law_pick "_law_pick" = true)
    (k__law_pick : PySem.W.keepIn K (.ref f__law_pick) = true)
    (a__law_ties : PySem.W.nsIn K mainGlobals "_law_ties" = some (some (.ref f__law_ties)))
    (l__law_ties : K.lookup f__law_ties = some ⟨oc__law_ties, od__law_ties, .func (PySem.W.fnOf "_law_ties" "_law_ties" (defArgs s__law_ties) (defBody s__law_ties) (defScope s__law_ties) .none kV__law_ties dc__law_ties pm__law_ties an__law_ties cd__law_ties ct__law_ties), os__law_ties⟩)
    (c__law_ties : PySem.W.codeIn K cd__law_ties "_law_ties" = true)
    (k__law_ties : PySem.W.keepIn K (.ref f__law_ties) = true)
    (a__law_walk : PySem.W.nsIn K mainGlobals "_law_walk" = some (some (.ref f__law_walk)))
    (l__law_walk : K.lookup f__law_walk = some ⟨oc__law_walk, od__law_walk, .func (PySem.W.fnOf "_law_walk" "_law_walk" (defArgs s__law_walk) (defBody s__law_walk) (defScope s__law_walk) .none kV__law_walk dc__law_walk pm__law_walk an__law_walk cd__law_walk ct__law_walk), os__law_walk⟩)
    (c__law_walk : PySem.W.codeIn K cd__law_walk "_law_walk" = true)
    (k__law_walk : PySem.W.keepIn K (.ref f__law_walk) = true)
    (a__law_state : PySem.W.nsIn K mainGlobals "_law_state" = some (some (.ref f__law_state)))
    (l__law_state : K.lookup f__law_state = some ⟨oc__law_state, od__law_state, .func (PySem.W.fnOf "_law_state" "_law_state" (defArgs s__law_state) (defBody s__law_state) (defScope s__law_state) .none kV__law_state dc__law_state pm__law_state an__law_state cd__law_state ct__law_state), os__law_state⟩)
    (c__law_state : PySem.W.codeIn K cd__law_state "_law_state" = true)
    (k__law_state : PySem.W.keepIn K (.ref f__law_state) = true)
    (a__law_table : PySem.W.nsIn K mainGlobals "_law_table" = some (some (.ref f__law_table)))
    (l__law_table : K.lookup f__law_table = some ⟨oc__law_table, od__law_table, .func (PySem.W.fnOf "_law_table" "_law_table" (defArgs s__law_table) (defBody s__law_table) (defScope s__law_table) .none kV__law_table dc__law_table pm__law_table an__law_table cd__law_table ct__law_table), os__law_table⟩)
    (c__law_table : PySem.W.codeIn K cd__law_table "_law_table" = true)
    (k__law_table : PySem.W.keepIn K (.ref f__law_table) = true)
    (a__law_whole : PySem.W.nsIn K mainGlobals "_law_whole" = some (some (.ref f__law_whole)))
    (l__law_whole : K.lookup f__law_whole = some ⟨oc__law_whole, od__law_whole, .func (PySem.W.fnOf "_law_whole" "_law_whole" (defArgs s__law_whole) (defBody s__law_whole) (defScope s__law_whole) .none kV__law_whole dc__law_whole pm__law_whole an__law_whole cd__law_whole ct__law_whole), os__law_whole⟩)
    (c__law_whole : PySem.W.codeIn K cd__law_whole "_law_whole" = true)
    (k__law_whole : PySem.W.keepIn K (.ref f__law_whole) = true)
    (a__law_reach : PySem.W.nsIn K mainGlobals "_law_reach" = some (some (.ref f__law_reach)))
    (l__law_reach : K.lookup f__law_reach = some ⟨oc__law_reach, od__law_reach, .func (PySem.W.fnOf "_law_reach" "_law_reach" (defArgs s__law_reach) (defBody s__law_reach) (defScope s__law_reach) .none kV__law_reach dc__law_reach pm__law_reach an__law_reach cd__law_reach ct__law_reach), os__law_reach⟩)
    (c__law_reach : PySem.W.codeIn K cd__law_reach "_law_reach" = true)
    (k__law_reach : PySem.W.keepIn K (.ref f__law_reach) = true)
    (a__law_parts : PySem.W.nsIn K mainGlobals "_law_parts" = some (some (.ref f__law_parts)))
    (l__law_parts : K.lookup f__law_parts = some ⟨oc__law_parts, od__law_parts, .func (PySem.W.fnOf "_law_parts" "_law_parts" (defArgs s__law_parts) (defBody s__law_parts) (defScope s__law_parts) .none kV__law_parts dc__law_parts pm__law_parts an__law_parts cd__law_parts ct__law_parts), os__law_parts⟩)
    (c__law_parts : PySem.W.codeIn K cd__law_parts "_law_parts" = true)
    (k__law_parts : PySem.W.keepIn K (.ref f__law_parts) = true)
    (a__law_right : PySem.W.nsIn K mainGlobals "_law_right" = some (some (.ref f__law_right)))
    (l__law_right : K.lookup f__law_right = some ⟨oc__law_right, od__law_right, .func (PySem.W.fnOf "_law_right" "_law_right" (defArgs s__law_right) (defBody s__law_right) (defScope s__law_right) .none kV__law_right dc__law_right pm__law_right an__law_right cd__law_right ct__law_right), os__law_right⟩)
    (c__law_right : PySem.W.codeIn K cd__law_right "_law_right" = true)
    (k__law_right : PySem.W.keepIn K (.ref f__law_right) = true)
    (a_law : PySem.W.nsIn K mainGlobals "law" = some (some (.ref f_law)))
    (l_law : K.lookup f_law = some ⟨oc_law, od_law, .func (PySem.W.fnOf "law" "law" (defArgs s_law) (defBody s_law) (defScope s_law) .none kV_law dc_law pm_law an_law cd_law ct_law), os_law⟩)
    (c_law : PySem.W.codeIn K cd_law "law" = true)
    (k_law : PySem.W.keepIn K (.ref f_law) = true)
    (pgWeb : PySem.W.plainGet K CWeb Str.empty = true)
    (hdWeb : PySem.W.hasDictIn K CWeb = true)
    (poWeb : PySem.W.plainOver K CWeb = true)
    (saWeb : PySem.W.findIn K (.ref CWeb) "__setattr__" = some (some (.builtin "object.__setattr__")))
    (mkWeb : PySem.W.makesIn K CWeb = true)
    (kcWeb : PySem.W.keepIn K (.ref CWeb) = true)
    (nWeb_own_places : PySem.W.findIn K (.ref CWeb) "own_places" = some none)
    (nWeb_own_ties : PySem.W.findIn K (.ref CWeb) "own_ties" = some none)
    (nWeb_own_from : PySem.W.findIn K (.ref CWeb) "own_from" = some none)
    (nWeb_own_to : PySem.W.findIn K (.ref CWeb) "own_to" = some none)
    (pgSearch : PySem.W.plainGet K CSearch Str.empty = true)
    (hdSearch : PySem.W.hasDictIn K CSearch = true)
    (poSearch : PySem.W.plainOver K CSearch = true)
    (saSearch : PySem.W.findIn K (.ref CSearch) "__setattr__" = some (some (.builtin "object.__setattr__")))
    (mkSearch : PySem.W.makesIn K CSearch = true)
    (kcSearch : PySem.W.keepIn K (.ref CSearch) = true)
    (nSearch_own_web : PySem.W.findIn K (.ref CSearch) "own_web" = some none)
    (nSearch_own_met : PySem.W.findIn K (.ref CSearch) "own_met" = some none)
    (nSearch_own_low : PySem.W.findIn K (.ref CSearch) "own_low" = some none)
    (nSearch_own_open : PySem.W.findIn K (.ref CSearch) "own_open" = some none)
    (nSearch_own_parts : PySem.W.findIn K (.ref CSearch) "own_parts" = some none)
    (pgSteps : PySem.W.plainGet K CSteps Str.empty = true)
    (hdSteps : PySem.W.hasDictIn K CSteps = true)
    (poSteps : PySem.W.plainOver K CSteps = true)
    (saSteps : PySem.W.findIn K (.ref CSteps) "__setattr__" = some (some (.builtin "object.__setattr__")))
    (mkSteps : PySem.W.makesIn K CSteps = true)
    (kcSteps : PySem.W.keepIn K (.ref CSteps) = true)
    (nSteps_own_standings : PySem.W.findIn K (.ref CSteps) "own_standings" = some none)
    (nSteps_own_told : PySem.W.findIn K (.ref CSteps) "own_told" = some none)
    (nSteps_own_places : PySem.W.findIn K (.ref CSteps) "own_places" = some none)
    (nSteps_own_ties : PySem.W.findIn K (.ref CSteps) "own_ties" = some none)
    (nSteps_own_from : PySem.W.findIn K (.ref CSteps) "own_from" = some none)
    (iha : PySem.W.findIn K (.ref CWeb) "__class__" = some (some (.builtin "object.__class__")))
    (ihn : PySem.W.specialIn K (.builtin "object.__class__") "__get__" = some (some (.builtin "getset_descriptor.__get__")))
    (iht : PySem.W.takesIn K (.builtin "object.__class__") = some true)
    (ihm : PySem.W.mroIn K CWeb (.type "object") = some true)
    (z_abs : PySem.W.nsIn K mainGlobals "abs" = some none)
    (z_all : PySem.W.nsIn K mainGlobals "all" = some none)
    (z_bool : PySem.W.nsIn K mainGlobals "bool" = some none)
    (z_dict : PySem.W.nsIn K mainGlobals "dict" = some none)
    (z_divmod : PySem.W.nsIn K mainGlobals "divmod" = some none)
    (z_enumerate : PySem.W.nsIn K mainGlobals "enumerate" = some none)
    (z_int : PySem.W.nsIn K mainGlobals "int" = some none)
    (z_isinstance : PySem.W.nsIn K mainGlobals "isinstance" = some none)
    (z_len : PySem.W.nsIn K mainGlobals "len" = some none)
    (z_list : PySem.W.nsIn K mainGlobals "list" = some none)
    (z_max : PySem.W.nsIn K mainGlobals "max" = some none)
    (z_min : PySem.W.nsIn K mainGlobals "min" = some none)
    (z_range : PySem.W.nsIn K mainGlobals "range" = some none)
    (z_set : PySem.W.nsIn K mainGlobals "set" = some none)
    (z_sorted : PySem.W.nsIn K mainGlobals "sorted" = some none)
    (z_tuple : PySem.W.nsIn K mainGlobals "tuple" = some none)
    (z_zip : PySem.W.nsIn K mainGlobals "zip" = some none)
    (v_MOST_PLACES : PySem.W.nsIn K mainGlobals "MOST_PLACES" = some (some (.int 60 t_MOST_PLACES)))
    (v_MOST_TIES : PySem.W.nsIn K mainGlobals "MOST_TIES" = some (some (.int 80 t_MOST_TIES)))
    (v_MOST_WALK : PySem.W.nsIn K mainGlobals "MOST_WALK" = some (some (.int 400 t_MOST_WALK)))
    : ∃ fd : FuncData, (∀ (s : Shared) (v : Value), BindsTo s fd ⟨[v], []⟩ [("_law_script", v)]) ∧ ∀ base : Heap, K.In base → base.Ns mainGlobals mg → FnOk l.prog w K mg base CX0 9 fa fd ["_law_script"] (sp_law K) := by
  have e : f_law = fa := by
    have e := (PySem.W.mg_of X G a_law).symm.trans hfa
    cases e
    rfl
  subst e
  have F_is_integer := fun_mk (st := s_is_integer) l_is_integer c_is_integer k_is_integer
  have F_is_count := fun_mk (st := s_is_count) l_is_count c_is_count k_is_count
  have F_is_list := fun_mk (st := s_is_list) l_is_list c_is_list k_is_list
  have F_is_tie_value := fun_mk (st := s_is_tie_value) l_is_tie_value c_is_tie_value k_is_tie_value
  have F_Web_init := fun_mk (st := s_Web_init) l_Web_init c_Web_init k_Web_init
  have F_Web_many := fun_mk (st := s_Web_many) l_Web_many c_Web_many k_Web_many
  have F_want_web := fun_mk (st := s_want_web) l_want_web c_want_web k_want_web
  have F_are_joined_ties := fun_mk (st := s_are_joined_ties) l_are_joined_ties c_are_joined_ties k_are_joined_ties
  have F_is_walk_value := fun_mk (st := s_is_walk_value) l_is_walk_value c_is_walk_value k_is_walk_value
  have F_want_walk := fun_mk (st := s_want_walk) l_want_walk c_want_walk k_want_walk
  have F_Search_init := fun_mk (st := s_Search_init) l_Search_init c_Search_init k_Search_init
  have F_Search_meet := fun_mk (st := s_Search_meet) l_Search_meet c_Search_meet k_Search_meet
  have F_Search_close_part := fun_mk (st := s_Search_close_part) l_Search_close_part c_Search_close_part k_Search_close_part
  have F_Search_go_from := fun_mk (st := s_Search_go_from) l_Search_go_from c_Search_go_from k_Search_go_from
  have F_parts_by_search := fun_mk (st := s_parts_by_search) l_parts_by_search c_parts_by_search k_parts_by_search
  have F_is_close_web := fun_mk (st := s_is_close_web) l_is_close_web c_is_close_web k_is_close_web
  have F_want_close := fun_mk (st := s_want_close) l_want_close c_want_close k_want_close
  have F_fall_row := fun_mk (st := s_fall_row) l_fall_row c_fall_row k_fall_row
  have F_table_rows := fun_mk (st := s_table_rows) l_table_rows c_table_rows k_table_rows
  have F_state_by_trying := fun_mk (st := s_state_by_trying) l_state_by_trying c_state_by_trying k_state_by_trying
  have F_plain_table := fun_mk (st := s_plain_table) l_plain_table c_plain_table k_plain_table
  have F_table := fun_mk (st := s_table) l_table c_table k_table
  have F_falls := fun_mk (st := s_falls) l_falls c_falls k_falls
  have F_Steps_init := fun_mk (st := s_Steps_init) l_Steps_init c_Steps_init k_Steps_init
  have F_standings_from := fun_mk (st := s_standings_from) l_standings_from c_standings_from k_standings_from
  have F_product_of := fun_mk (st := s_product_of) l_product_of c_product_of k_product_of
  have F_steps_within := fun_mk (st := s_steps_within) l_steps_within c_steps_within k_steps_within
  have F_parts_of_product := fun_mk (st := s_parts_of_product) l_parts_of_product c_parts_of_product k_parts_of_product
  have F_want_asked := fun_mk (st := s_want_asked) l_want_asked c_want_asked k_want_asked
  have F_product := fun_mk (st := s_product) l_product c_product k_product
  have F_parts_without := fun_mk (st := s_parts_without) l_parts_without c_parts_without k_parts_without
  have F__law_pot := fun_mk (st := s__law_pot) l__law_pot c__law_pot k__law_pot
  have F__law_draw := fun_mk (st := s__law_draw) l__law_draw c__law_draw k__law_draw
  have F__law_pick := fun_mk (st := s__law_pick) l__law_pick c__law_pick k__law_pick
  have F__law_ties := fun_mk (st := s__law_ties) l__law_ties c__law_ties k__law_ties
  have F__law_walk := fun_mk (st := s__law_walk) l__law_walk c__law_walk k__law_walk
  have F__law_state := fun_mk (st := s__law_state) l__law_state c__law_state k__law_state
  have F__law_table := fun_mk (st := s__law_table) l__law_table c__law_table k__law_table
  have F__law_whole := fun_mk (st := s__law_whole) l__law_whole c__law_whole k__law_whole
  have F__law_reach := fun_mk (st := s__law_reach) l__law_reach c__law_reach k__law_reach
  have F__law_parts := fun_mk (st := s__law_parts) l__law_parts c__law_parts k__law_parts
  have F__law_right := fun_mk (st := s__law_right) l__law_right c__law_right k__law_right
  have F_law := fun_mk (st := s_law) l_law c_law k_law
  have clWeb : Cls K CWeb := ⟨pgWeb, hdWeb, poWeb, saWeb⟩
  have clSearch : Cls K CSearch := ⟨pgSearch, hdSearch, poSearch, saSearch⟩
  have clSteps : Cls K CSteps := ⟨pgSteps, hdSteps, poSteps, saSteps⟩
  let T : Tx K mg := {
    Web := CWeb,
    Search := CSearch,
    Steps := CSteps,
    is_integer := { f := f_is_integer, fd := _, F := F_is_integer, b := F_is_integer.binds (ps := ["value"]) (fun _ _ _ _ _ _ us hl => match us, hl with | [_], _ => rfl), g := PySem.W.mg_of X G a_is_integer },
    is_count := { f := f_is_count, fd := _, F := F_is_count, b := F_is_count.binds (ps := ["value"]) (fun _ _ _ _ _ _ us hl => match us, hl with | [_], _ => rfl), g := PySem.W.mg_of X G a_is_count },
    is_list := { f := f_is_list, fd := _, F := F_is_list, b := F_is_list.binds (ps := ["value"]) (fun _ _ _ _ _ _ us hl => match us, hl with | [_], _ => rfl), g := PySem.W.mg_of X G a_is_list },
    is_tie_value := { f := f_is_tie_value, fd := _, F := F_is_tie_value, b := F_is_tie_value.binds (ps := ["places", "value"]) (fun _ _ _ _ _ _ us hl => match us, hl with | [_, _], _ => rfl), g := PySem.W.mg_of X G a_is_tie_value },
    Web_init := { f := f_Web_init, fd := _, F := F_Web_init, b := F_Web_init.binds (ps := ["self", "places", "ties"]) (fun _ _ _ _ _ _ us hl => match us, hl with | [_, _, _], _ => rfl), m := ⟨a_Web_init, i_Web_init, k_Web_init⟩ },
    many_f := f_Web_many,
    many_fd := _,
    many_F := F_Web_many,
    many_b := F_Web_many.binds (ps := ["self"]) (fun _ _ _ _ _ _ us hl => match us, hl with | [_], _ => rfl),
    many_p := p_many,
    p_many := ⟨pa, pb, pc, _, pd⟩,
    want_web := { f := f_want_web, fd := _, F := F_want_web, b := F_want_web.binds (ps := ["value"]) (fun _ _ _ _ _ _ us hl => match us, hl with | [_], _ => rfl), g := PySem.W.mg_of X G a_want_web },
    are_joined_ties := { f := f_are_joined_ties, fd := _, F := F_are_joined_ties, b := F_are_joined_ties.binds (ps := ["web", "value", "most"]) (fun _ _ _ _ _ _ us hl => match us, hl with | [_, _, _], _ => rfl), g := PySem.W.mg_of X G a_are_joined_ties },
    is_walk_value := { f := f_is_walk_value, fd := _, F := F_is_walk_value, b := F_is_walk_value.binds (ps := ["web", "value"]) (fun _ _ _ _ _ _ us hl => match us, hl with | [_, _], _ => rfl), g := PySem.W.mg_of X G a_is_walk_value },
    want_walk := { f := f_want_walk, fd := _, F := F_want_walk, b := F_want_walk.binds (ps := ["web", "value"]) (fun _ _ _ _ _ _ us hl => match us, hl with | [_, _], _ => rfl), g := PySem.W.mg_of X G a_want_walk },
    Search_init := { f := f_Search_init, fd := _, F := F_Search_init, b := F_Search_init.binds (ps := ["self", "web"]) (fun _ _ _ _ _ _ us hl => match us, hl with | [_, _], _ => rfl), m := ⟨a_Search_init, i_Search_init, k_Search_init⟩ },
    Search_meet := { f := f_Search_meet, fd := _, F := F_Search_meet, b := F_Search_meet.binds (ps := ["self", "place"]) (fun _ _ _ _ _ _ us hl => match us, hl with | [_, _], _ => rfl), m := ⟨a_Search_meet, i_Search_meet, k_Search_meet⟩ },
    Search_close_part := { f := f_Search_close_part, fd := _, F := F_Search_close_part, b := F_Search_close_part.binds (ps := ["self", "place"]) (fun _ _ _ _ _ _ us hl => match us, hl with | [_, _], _ => rfl), m := ⟨a_Search_close_part, i_Search_close_part, k_Search_close_part⟩ },
    Search_go_from := { f := f_Search_go_from, fd := _, F := F_Search_go_from, b := F_Search_go_from.binds (ps := ["self", "begin"]) (fun _ _ _ _ _ _ us hl => match us, hl with | [_, _], _ => rfl), m := ⟨a_Search_go_from, i_Search_go_from, k_Search_go_from⟩ },
    parts_by_search := { f := f_parts_by_search, fd := _, F := F_parts_by_search, b := F_parts_by_search.binds (ps := ["web"]) (fun _ _ _ _ _ _ us hl => match us, hl with | [_], _ => rfl), g := PySem.W.mg_of X G a_parts_by_search },
    is_close_web := { f := f_is_close_web, fd := _, F := F_is_close_web, b := F_is_close_web.binds (ps := ["web"]) (fun _ _ _ _ _ _ us hl => match us, hl with | [_], _ => rfl), g := PySem.W.mg_of X G a_is_close_web },
    want_close := { f := f_want_close, fd := _, F := F_want_close, b := F_want_close.binds (ps := ["web"]) (fun _ _ _ _ _ _ us hl => match us, hl with | [_], _ => rfl), g := PySem.W.mg_of X G a_want_close },
    fall_row := { f := f_fall_row, fd := _, F := F_fall_row, b := F_fall_row.binds (ps := ["walk"]) (fun _ _ _ _ _ _ us hl => match us, hl with | [_], _ => rfl), g := PySem.W.mg_of X G a_fall_row },
    table_rows := { f := f_table_rows, fd := _, F := F_table_rows, b := F_table_rows.binds (ps := ["walk", "many"]) (fun _ _ _ _ _ _ us hl => match us, hl with | [_, _], _ => rfl), g := PySem.W.mg_of X G a_table_rows },
    state_by_trying := { f := f_state_by_trying, fd := _, F := F_state_by_trying, b := F_state_by_trying.binds (ps := ["walk", "state", "tie"]) (fun _ _ _ _ _ _ us hl => match us, hl with | [_, _, _], _ => rfl), g := PySem.W.mg_of X G a_state_by_trying },
    plain_table := { f := f_plain_table, fd := _, F := F_plain_table, b := F_plain_table.binds (ps := ["web", "walk"]) (fun _ _ _ _ _ _ us hl => match us, hl with | [_, _], _ => rfl), g := PySem.W.mg_of X G a_plain_table },
    table := { f := f_table, fd := _, F := F_table, b := F_table.binds (ps := ["web", "walk"]) (fun _ _ _ _ _ _ us hl => match us, hl with | [_, _], _ => rfl), g := PySem.W.mg_of X G a_table },
    falls := { f := f_falls, fd := _, F := F_falls, b := F_falls.binds (ps := ["web", "walk"]) (fun _ _ _ _ _ _ us hl => match us, hl with | [_, _], _ => rfl), g := PySem.W.mg_of X G a_falls },
    Steps_init := { f := f_Steps_init, fd := _, F := F_Steps_init, b := F_Steps_init.binds (ps := ["self", "standings", "steps"]) (fun _ _ _ _ _ _ us hl => match us, hl with | [_, _, _], _ => rfl), m := ⟨a_Steps_init, i_Steps_init, k_Steps_init⟩ },
    standings_from := { f := f_standings_from, fd := _, F := F_standings_from, b := F_standings_from.binds (ps := ["web", "walk"]) (fun _ _ _ _ _ _ us hl => match us, hl with | [_, _], _ => rfl), g := PySem.W.mg_of X G a_standings_from },
    product_of := { f := f_product_of, fd := _, F := F_product_of, b := F_product_of.binds (ps := ["web", "walk"]) (fun _ _ _ _ _ _ us hl => match us, hl with | [_, _], _ => rfl), g := PySem.W.mg_of X G a_product_of },
    steps_within := { f := f_steps_within, fd := _, F := F_steps_within, b := F_steps_within.binds (ps := ["told", "part"]) (fun _ _ _ _ _ _ us hl => match us, hl with | [_, _], _ => rfl), g := PySem.W.mg_of X G a_steps_within },
    parts_of_product := { f := f_parts_of_product, fd := _, F := F_parts_of_product, b := F_parts_of_product.binds (ps := ["told"]) (fun _ _ _ _ _ _ us hl => match us, hl with | [_], _ => rfl), g := PySem.W.mg_of X G a_parts_of_product },
    want_asked := { f := f_want_asked, fd := _, F := F_want_asked, b := F_want_asked.binds (ps := ["web", "walk"]) (fun _ _ _ _ _ _ us hl => match us, hl with | [_, _], _ => rfl), g := PySem.W.mg_of X G a_want_asked },
    product := { f := f_product, fd := _, F := F_product, b := F_product.binds (ps := ["web", "walk"]) (fun _ _ _ _ _ _ us hl => match us, hl with | [_, _], _ => rfl), g := PySem.W.mg_of X G a_product },
    parts_without := { f := f_parts_without, fd := _, F := F_parts_without, b := F_parts_without.binds (ps := ["web", "walk"]) (fun _ _ _ _ _ _ us hl => match us, hl with | [_, _], _ => rfl), g := PySem.W.mg_of X G a_parts_without },
    _law_pot := { f := f__law_pot, fd := _, F := F__law_pot, b := F__law_pot.binds (ps := ["_law_script", "_law_k"]) (fun _ _ _ _ _ _ us hl => match us, hl with | [_, _], _ => rfl), g := PySem.W.mg_of X G a__law_pot },
    _law_draw := { f := f__law_draw, fd := _, F := F__law_draw, b := F__law_draw.binds (ps := ["_law_pot_here", "_law_sides"]) (fun _ _ _ _ _ _ us hl => match us, hl with | [_, _], _ => rfl), g := PySem.W.mg_of X G a__law_draw },
    _law_pick := { f := f__law_pick, fd := _, F := F__law_pick, b := F__law_pick.binds (ps := ["_law_pot_here", "_law_some"]) (fun _ _ _ _ _ _ us hl => match us, hl with | [_, _], _ => rfl), g := PySem.W.mg_of X G a__law_pick },
    _law_ties := { f := f__law_ties, fd := _, F := F__law_ties, b := F__law_ties.binds (ps := ["_law_pot_here", "_law_places", "_law_more"]) (fun _ _ _ _ _ _ us hl => match us, hl with | [_, _, _], _ => rfl), g := PySem.W.mg_of X G a__law_ties },
    _law_walk := { f := f__law_walk, fd := _, F := F__law_walk, b := F__law_walk.binds (ps := ["_law_pot_here", "_law_ties_here", "_law_many"]) (fun _ _ _ _ _ _ us hl => match us, hl with | [_, _, _], _ => rfl), g := PySem.W.mg_of X G a__law_walk },
    _law_state := { f := f__law_state, fd := _, F := F__law_state, b := F__law_state.binds (ps := ["_law_walk_here", "_law_read", "_law_most"]) (fun _ _ _ _ _ _ us hl => match us, hl with | [_, _, _], _ => rfl), g := PySem.W.mg_of X G a__law_state },
    _law_table := { f := f__law_table, fd := _, F := F__law_table, b := F__law_table.binds (ps := ["_law_walk_here", "_law_many"]) (fun _ _ _ _ _ _ us hl => match us, hl with | [_, _], _ => rfl), g := PySem.W.mg_of X G a__law_table },
    _law_whole := { f := f__law_whole, fd := _, F := F__law_whole, b := F__law_whole.binds (ps := ["_law_places", "_law_ties_here", "_law_walk_here", "_law_rows"]) (fun _ _ _ _ _ _ us hl => match us, hl with | [_, _, _, _], _ => rfl), g := PySem.W.mg_of X G a__law_whole },
    _law_reach := { f := f__law_reach, fd := _, F := F__law_reach, b := F__law_reach.binds (ps := ["_law_steps", "_law_here"]) (fun _ _ _ _ _ _ us hl => match us, hl with | [_, _], _ => rfl), g := PySem.W.mg_of X G a__law_reach },
    _law_parts := { f := f__law_parts, fd := _, F := F__law_parts, b := F__law_parts.binds (ps := ["_law_standings", "_law_steps"]) (fun _ _ _ _ _ _ us hl => match us, hl with | [_, _], _ => rfl), g := PySem.W.mg_of X G a__law_parts },
    _law_right := { f := f__law_right, fd := _, F := F__law_right, b := F__law_right.binds (ps := ["_law_pot_here"]) (fun _ _ _ _ _ _ us hl => match us, hl with | [_], _ => rfl), g := PySem.W.mg_of X G a__law_right },
    law := { f := f_law, fd := _, F := F_law, b := F_law.binds (ps := ["_law_script"]) (fun _ _ _ _ _ _ us hl => match us, hl with | [_], _ => rfl), g := PySem.W.mg_of X G a_law },
    gWeb := PySem.W.mg_of X G aWeb,
    clWeb := clWeb,
    mkWeb := ⟨mkWeb, a_Web_init, i_Web_init, kcWeb⟩,
    noWeb_own_places := nWeb_own_places,
    noWeb_own_ties := nWeb_own_ties,
    noWeb_own_from := nWeb_own_from,
    noWeb_own_to := nWeb_own_to,
    gSearch := PySem.W.mg_of X G aSearch,
    clSearch := clSearch,
    mkSearch := ⟨mkSearch, a_Search_init, i_Search_init, kcSearch⟩,
    noSearch_own_web := nSearch_own_web,
    noSearch_own_met := nSearch_own_met,
    noSearch_own_low := nSearch_own_low,
    noSearch_own_open := nSearch_own_open,
    noSearch_own_parts := nSearch_own_parts,
    gSteps := PySem.W.mg_of X G aSteps,
    clSteps := clSteps,
    mkSteps := ⟨mkSteps, a_Steps_init, i_Steps_init, kcSteps⟩,
    noSteps_own_standings := nSteps_own_standings,
    noSteps_own_told := nSteps_own_told,
    noSteps_own_places := nSteps_own_places,
    noSteps_own_ties := nSteps_own_ties,
    noSteps_own_from := nSteps_own_from,
    insWeb := ⟨clWeb, iha, ihn, iht, ihm, if_pos (beq_self_eq_true _)⟩,
    n_abs := PySem.W.mg_none_of X G z_abs,
    n_all := PySem.W.mg_none_of X G z_all,
    n_bool := PySem.W.mg_none_of X G z_bool,
    n_dict := PySem.W.mg_none_of X G z_dict,
    n_divmod := PySem.W.mg_none_of X G z_divmod,
    n_enumerate := PySem.W.mg_none_of X G z_enumerate,
    n_int := PySem.W.mg_none_of X G z_int,
    n_isinstance := PySem.W.mg_none_of X G z_isinstance,
    n_len := PySem.W.mg_none_of X G z_len,
    n_list := PySem.W.mg_none_of X G z_list,
    n_max := PySem.W.mg_none_of X G z_max,
    n_min := PySem.W.mg_none_of X G z_min,
    n_range := PySem.W.mg_none_of X G z_range,
    n_set := PySem.W.mg_none_of X G z_set,
    n_sorted := PySem.W.mg_none_of X G z_sorted,
    n_tuple := PySem.W.mg_none_of X G z_tuple,
    n_zip := PySem.W.mg_none_of X G z_zip,
    tk_MOST_PLACES := t_MOST_PLACES,
    MOST_PLACES := PySem.W.mg_of X G v_MOST_PLACES,
    tk_MOST_TIES := t_MOST_TIES,
    MOST_TIES := PySem.W.mg_of X G v_MOST_TIES,
    tk_MOST_WALK := t_MOST_WALK,
    MOST_WALK := PySem.W.mg_of X G v_MOST_WALK }
  exact ⟨PySem.W.fnOf "law" "law" (defArgs s_law) (defBody s_law) (defScope s_law) .none kV_law dc_law pm_law an_law cd_law ct_law, fun s v => .of_eq rfl, fun base _ _ => ok_law T⟩
theorem walk {l : PySem.W.OpenLaw} {q : Program} {loose : List Str} {XP : (Str → Option Value) → Heap → Prop} {YP : World → Heap → Prop} {d : DefRec} {K : Params → PySem.W.Frag} (hn : l.most = some 63) (hdf : d.params.defaults = [])
    (hY : ∀ (w : World) (h : Heap), YP w h → (K w.params).In h)
    (F : ∀ (w : World) (mg : Str → Option Value) (fa : Addr) (h : Heap), (K w.params).In h → h.Ns mainGlobals mg → mg d.name = some (.ref fa) →
      ∃ fd : FuncData, (∀ (s : Shared) (u : Value), BindsTo s fd ⟨[u], []⟩ [("_law_script", u)]) ∧ ∀ base : Heap, (K w.params).In base → base.Ns mainGlobals mg → FnOk l.prog w (K w.params) mg base CX0 9 fa fd ["_law_script"] (sp_law (K w.params))) :
    PySem.W.WalkO q loose XP YP l.row.toRowW d [] (fun f vs => PySem.call f vs) :=
  L2.walk_of (n := 63) (k := 9) (x := "_law_script") (CX := fun _ => CX0) (sp := fun w => sp_law (K w.params)) hn (by decide) hdf ⟨rfl, by decide, by decide⟩ hY F (fun _ _ a ns hl _ hS => ⟨a, ns, rfl, hS, fun _ => rfl⟩) fun _ _ _ _ _ z => z
end K31
open PySem PySem.W PyProof.Rows in
set_option maxRecDepth 100000 in
set_option maxHeartbeats 0 in
theorem PySem.Challenge.cw_suretexts_k31_whole_tables_and_products_holds : PySem.Challenge.rw_suretexts_k31_whole_tables_and_products.Holds := by
  w_on; o_law; k_head; (case hw => w_witness2)
  k_fill
  refine K31.walk (l := PySem.Challenge.rw_suretexts_k31_whole_tables_and_products) rfl rfl (fun w h Y => PySem.W.kIn_of Y) ?F
  case F =>
    intro w mg fa h KX G hmg
    refine' K31.all_mk KX G hmg ?aWeb ?aSearch ?aSteps ?a_is_integer ?l_is_integer ?c_is_integer ?k_is_integer ?a_is_count ?l_is_count ?c_is_count ?k_is_count ?a_is_list ?l_is_list ?c_is_list ?k_is_list ?a_is_tie_value ?l_is_tie_value ?c_is_tie_value ?k_is_tie_value ?a_Web_init ?i_Web_init ?l_Web_init ?c_Web_init ?k_Web_init ?pa ?pb ?pc ?pd ?l_Web_many ?c_Web_many ?k_Web_many ?a_want_web ?l_want_web ?c_want_web ?k_want_web ?a_are_joined_ties ?l_are_joined_ties ?c_are_joined_ties ?k_are_joined_ties ?a_is_walk_value ?l_is_walk_value ?c_is_walk_value ?k_is_walk_value ?a_want_walk ?l_want_walk ?c_want_walk ?k_want_walk ?a_Search_init ?i_Search_init ?l_Search_init ?c_Search_init ?k_Search_init ?a_Search_meet ?i_Search_meet ?l_Search_meet ?c_Search_meet ?k_Search_meet ?a_Search_close_part ?i_Search_close_part ?l_Search_close_part ?c_Search_close_part ?k_Search_close_part ?a_Search_go_from ?i_Search_go_from ?l_Search_go_from ?c_Search_go_from ?k_Search_go_from ?a_parts_by_search ?l_parts_by_search ?c_parts_by_search ?k_parts_by_search ?a_is_close_web ?l_is_close_web ?c_is_close_web ?k_is_close_web ?a_want_close ?l_want_close ?c_want_close ?k_want_close ?a_fall_row ?l_fall_row ?c_fall_row ?k_fall_row ?a_table_rows ?l_table_rows ?c_table_rows ?k_table_rows ?a_state_by_trying ?l_state_by_trying ?c_state_by_trying ?k_state_by_trying ?a_plain_table ?l_plain_table ?c_plain_table ?k_plain_table ?a_table ?l_table ?c_table ?k_table ?a_falls ?l_falls ?c_falls ?k_falls ?a_Steps_init ?i_Steps_init ?l_Steps_init ?c_Steps_init ?k_Steps_init ?a_standings_from ?l_standings_from ?c_standings_from ?k_standings_from ?a_product_of ?l_product_of ?c_product_of ?k_product_of ?a_steps_within ?l_steps_within ?c_steps_within ?k_steps_within ?a_parts_of_product ?l_parts_of_product ?c_parts_of_product ?k_parts_of_product ?a_want_asked ?l_want_asked ?c_want_asked ?k_want_asked ?a_product ?l_product ?c_product ?k_product ?a_parts_without ?l_parts_without ?c_parts_without ?k_parts_without ?a__law_pot ?l__law_pot ?c__law_pot ?k__law_pot ?a__law_draw ?l__law_draw ?c__law_draw ?k__law_draw ?a__law_pick ?l__law_pick ?c__law_pick ?k__law_pick ?a__law_ties ?l__law_ties ?c__law_ties ?k__law_ties ?a__law_walk ?l__law_walk ?c__law_walk ?k__law_walk ?a__law_state ?l__law_state ?c__law_state ?k__law_state ?a__law_table ?l__law_table ?c__law_table ?k__law_table ?a__law_whole ?l__law_whole ?c__law_whole ?k__law_whole ?a__law_reach ?l__law_reach ?c__law_reach ?k__law_reach ?a__law_parts ?l__law_parts ?c__law_parts ?k__law_parts ?a__law_right ?l__law_right ?c__law_right ?k__law_right ?a_law ?l_law ?c_law ?k_law ?pgWeb ?hdWeb ?poWeb ?saWeb ?mkWeb ?kcWeb ?nWeb_own_places ?nWeb_own_ties ?nWeb_own_from ?nWeb_own_to ?pgSearch ?hdSearch ?poSearch ?saSearch ?mkSearch ?kcSearch ?nSearch_own_web ?nSearch_own_met ?nSearch_own_low ?nSearch_own_open ?nSearch_own_parts ?pgSteps ?hdSteps ?poSteps ?saSteps ?mkSteps ?kcSteps ?nSteps_own_standings ?nSteps_own_told ?nSteps_own_places ?nSteps_own_ties ?nSteps_own_from ?iha ?ihn ?iht ?ihm ?z_abs ?z_all ?z_bool ?z_dict ?z_divmod ?z_enumerate ?z_int ?z_isinstance ?z_len ?z_list ?z_max ?z_min ?z_range ?z_set ?z_sorted ?z_tuple ?z_zip ?v_MOST_PLACES ?v_MOST_TIES ?v_MOST_WALK
    (case aWeb => k_is)
    (case aSearch => k_is)
    (case aSteps => k_is)
    (case a_is_integer => k_is)
    (case l_is_integer => k_is)
    (case c_is_integer => k_is)
    (case k_is_integer => k_is)
    (case a_is_count => k_is)
    (case l_is_count => k_is)
    (case c_is_count => k_is)
    (case k_is_count => k_is)
    (case a_is_list => k_is)
    (case l_is_list => k_is)
    (case c_is_list => k_is)
    (case k_is_list => k_is)
    (case a_is_tie_value => k_is)
    (case l_is_tie_value => k_is)
    (case c_is_tie_value => k_is)
    (case k_is_tie_value => k_is)
    (case a_Web_init => k_is)
    (case i_Web_init => k_is)
    (case l_Web_init => k_is)
    (case c_Web_init => k_is)
    (case k_Web_init => k_is)
    (case pa => k_is)
    (case pb => k_is)
    (case pc => k_is)
    (case pd => k_is)
    (case l_Web_many => k_is)
    (case c_Web_many => k_is)
    (case k_Web_many => k_is)
    (case a_want_web => k_is)
    (case l_want_web => k_is)
    (case c_want_web => k_is)
    (case k_want_web => k_is)
    (case a_are_joined_ties => k_is)
    (case l_are_joined_ties => k_is)
    (case c_are_joined_ties => k_is)
    (case k_are_joined_ties => k_is)
    (case a_is_walk_value => k_is)
    (case l_is_walk_value => k_is)
    (case c_is_walk_value => k_is)
    (case k_is_walk_value => k_is)
    (case a_want_walk => k_is)
    (case l_want_walk => k_is)
    (case c_want_walk => k_is)
    (case k_want_walk => k_is)
    (case a_Search_init => k_is)
    (case i_Search_init => k_is)
    (case l_Search_init => k_is)
    (case c_Search_init => k_is)
    (case k_Search_init => k_is)
    (case a_Search_meet => k_is)
    (case i_Search_meet => k_is)
    (case l_Search_meet => k_is)
    (case c_Search_meet => k_is)
    (case k_Search_meet => k_is)
    (case a_Search_close_part => k_is)
    (case i_Search_close_part => k_is)
    (case l_Search_close_part => k_is)
    (case c_Search_close_part => k_is)
    (case k_Search_close_part => k_is)
    (case a_Search_go_from => k_is)
    (case i_Search_go_from => k_is)
    (case l_Search_go_from => k_is)
    (case c_Search_go_from => k_is)
    (case k_Search_go_from => k_is)
    (case a_parts_by_search => k_is)
    (case l_parts_by_search => k_is)
    (case c_parts_by_search => k_is)
    (case k_parts_by_search => k_is)
    (case a_is_close_web => k_is)
    (case l_is_close_web => k_is)
    (case c_is_close_web => k_is)
    (case k_is_close_web => k_is)
    (case a_want_close => k_is)
    (case l_want_close => k_is)
    (case c_want_close => k_is)
    (case k_want_close => k_is)
    (case a_fall_row => k_is)
    (case l_fall_row => k_is)
    (case c_fall_row => k_is)
    (case k_fall_row => k_is)
    (case a_table_rows => k_is)
    (case l_table_rows => k_is)
    (case c_table_rows => k_is)
    (case k_table_rows => k_is)
    (case a_state_by_trying => k_is)
    (case l_state_by_trying => k_is)
    (case c_state_by_trying => k_is)
    (case k_state_by_trying => k_is)
    (case a_plain_table => k_is)
    (case l_plain_table => k_is)
    (case c_plain_table => k_is)
    (case k_plain_table => k_is)
    (case a_table => k_is)
    (case l_table => k_is)
    (case c_table => k_is)
    (case k_table => k_is)
    (case a_falls => k_is)
    (case l_falls => k_is)
    (case c_falls => k_is)
    (case k_falls => k_is)
    (case a_Steps_init => k_is)
    (case i_Steps_init => k_is)
    (case l_Steps_init => k_is)
    (case c_Steps_init => k_is)
    (case k_Steps_init => k_is)
    (case a_standings_from => k_is)
    (case l_standings_from => k_is)
    (case c_standings_from => k_is)
    (case k_standings_from => k_is)
    (case a_product_of => k_is)
    (case l_product_of => k_is)
    (case c_product_of => k_is)
    (case k_product_of => k_is)
    (case a_steps_within => k_is)
    (case l_steps_within => k_is)
    (case c_steps_within => k_is)
    (case k_steps_within => k_is)
    (case a_parts_of_product => k_is)
    (case l_parts_of_product => k_is)
    (case c_parts_of_product => k_is)
    (case k_parts_of_product => k_is)
    (case a_want_asked => k_is)
    (case l_want_asked => k_is)
    (case c_want_asked => k_is)
    (case k_want_asked => k_is)
    (case a_product => k_is)
    (case l_product => k_is)
    (case c_product => k_is)
    (case k_product => k_is)
    (case a_parts_without => k_is)
    (case l_parts_without => k_is)
    (case c_parts_without => k_is)
    (case k_parts_without => k_is)
    (case a__law_pot => k_is)
    (case l__law_pot => k_is)
    (case c__law_pot => k_is)
    (case k__law_pot => k_is)
    (case a__law_draw => k_is)
    (case l__law_draw => k_is)
    (case c__law_draw => k_is)
    (case k__law_draw => k_is)
    (case a__law_pick => k_is)
    (case l__law_pick => k_is)
    (case c__law_pick => k_is)
    (case k__law_pick => k_is)
    (case a__law_ties => k_is)
    (case l__law_ties => k_is)
    (case c__law_ties => k_is)
    (case k__law_ties => k_is)
    (case a__law_walk => k_is)
    (case l__law_walk => k_is)
    (case c__law_walk => k_is)
    (case k__law_walk => k_is)
    (case a__law_state => k_is)
    (case l__law_state => k_is)
    (case c__law_state => k_is)
    (case k__law_state => k_is)
    (case a__law_table => k_is)
    (case l__law_table => k_is)
    (case c__law_table => k_is)
    (case k__law_table => k_is)
    (case a__law_whole => k_is)
    (case l__law_whole => k_is)
    (case c__law_whole => k_is)
    (case k__law_whole => k_is)
    (case a__law_reach => k_is)
    (case l__law_reach => k_is)
    (case c__law_reach => k_is)
    (case k__law_reach => k_is)
    (case a__law_parts => k_is)
    (case l__law_parts => k_is)
    (case c__law_parts => k_is)
    (case k__law_parts => k_is)
    (case a__law_right => k_is)
    (case l__law_right => k_is)
    (case c__law_right => k_is)
    (case k__law_right => k_is)
    (case a_law => k_is)
    (case l_law => k_is)
    (case c_law => k_is)
    (case k_law => k_is)
    (case pgWeb => k_is)
    (case hdWeb => k_is)
    (case poWeb => k_is)
    (case saWeb => k_is)
    (case mkWeb => k_is)
    (case kcWeb => k_is)
    (case nWeb_own_places => k_is)
    (case nWeb_own_ties => k_is)
    (case nWeb_own_from => k_is)
    (case nWeb_own_to => k_is)
    (case pgSearch => k_is)
    (case hdSearch => k_is)
    (case poSearch => k_is)
    (case saSearch => k_is)
    (case mkSearch => k_is)
    (case kcSearch => k_is)
    (case nSearch_own_web => k_is)
    (case nSearch_own_met => k_is)
    (case nSearch_own_low => k_is)
    (case nSearch_own_open => k_is)
    (case nSearch_own_parts => k_is)
    (case pgSteps => k_is)
    (case hdSteps => k_is)
    (case poSteps => k_is)
    (case saSteps => k_is)
    (case mkSteps => k_is)
    (case kcSteps => k_is)
    (case nSteps_own_standings => k_is)
    (case nSteps_own_told => k_is)
    (case nSteps_own_places => k_is)
    (case nSteps_own_ties => k_is)
    (case nSteps_own_from => k_is)
    (case iha => k_is)
    (case ihn => k_is)
    (case iht => k_is)
    (case ihm => k_is)
    (case z_abs => k_is)
    (case z_all => k_is)
    (case z_bool => k_is)
    (case z_dict => k_is)
    (case z_divmod => k_is)
    (case z_enumerate => k_is)
    (case z_int => k_is)
    (case z_isinstance => k_is)
    (case z_len => k_is)
    (case z_list => k_is)
    (case z_max => k_is)
    (case z_min => k_is)
    (case z_range => k_is)
    (case z_set => k_is)
    (case z_sorted => k_is)
    (case z_tuple => k_is)
    (case z_zip => k_is)
    (case v_MOST_PLACES => k_is)
    (case v_MOST_TIES => k_is)
    (case v_MOST_WALK => k_is)
