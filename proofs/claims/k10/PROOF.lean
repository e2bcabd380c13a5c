import PyProof.Rows.All
import Wide.All
import OpenK.AllK
import Wide.FinOn
import HandS.ForMost
import HandS.ForExc
import HandS.Wide
import HandS.Defaults
import HandS.MakeKwOnly
import HandS.ExcInit
import PyProof.LongRange
import HandS.Iter
import HandS.RaiseMore
import HandS.IsInst
import KE.GoesSet
import KE.GoesMore
import HandS.SetKeys
import HandS.TupMul
import PyProof.ListMulAny
import PyProof.WalkInts
import KE.KUnpackStar
import HandS.ExcIs
import HandS.ExcOwn
import HandS.More
import HandS.Zip
import KE.KRevSl
import KE.GoesZip
import HandS.Ends
import HandS.Head0
import HandS.Head1
import HandS.Head2
import HandS.HeadEnd
import HandS.HeadHook1
import HandS.HeadHook2
import HandS.HeadHook3
import HandS.Head3
import PySem.Challenge.RW_roundledger_k10_whole_strides
set_option Elab.async false
set_option linter.all false
set_option maxRecDepth 100000
set_option maxHeartbeats 4000000
set_option exponentiation.threshold 10000
/-! A small functional reading of the program: pure values, a heap of what changes, and how both are borne by the layer's heap. -/
namespace CI
open PySem PySem.Spec PyProof.Rows L2

/-- a value without a place: tuples, and lists, instances that no one changes any more -/
inductive Pv where
  | non | bl (b : Bool) | int (i : Int) | str (x : Str)
  | tup (xs : List Pv) | lst (xs : List Pv)
  | ins (c : Str) (fs : List (Str × Pv))
  | fn (f : Str) | ty (n : String)
  /-- the script: a list of ints that is read alone -/
  | scr (ns : List Int)
inductive Va where
  | pv (p : Pv) | ref (r : Nat)
/-- what stands at a place: a list, an instance, a dict; frz: given over to what does not change -/
inductive Ob where
  | lst (xs : List Va) | ins (c : Str) (fs : List (Str × Va)) | frz (p : Pv) | dct (kvs : List (Key × Va))
def Ob.isFrz : Ob → Bool
  | .frz _ => true
  | _ => false
abbrev Hh := List Ob
inductive Res (α : Type) where
  | ok (a : α) (h : Hh) | exc (c : Str) (fs : List (Str × Pv)) (h : Hh) | stuck
def Res.bind {α β : Type} (r : Res α) (k : α → Hh → Res β) : Res β :=
  match r with
  | .ok a h => k a h
  | .exc c fs h => .exc c fs h
  | .stuck => .stuck

/-- what the module's names hold -/
structure Gx where
  K : PySem.W.Frag
  mg : Str → Option Value

/-- a tuple at a that avoids av -/
def TupAt (G : Gx) (av : List Addr) (H : Hp) (a : Addr) (vs : List V) : Prop :=
  (Rd H a (.tup vs) ∧ a ∉ av) ∨ ∃ (o : Obj) (its : Array Value) (n : Nat), G.K.lookup a = some o ∧ o.cls = .type "tuple" ∧ o.data = .seq its n ∧ its.size ≤ sizeLine ∧ Vals vs its.toList
def LstAt (G : Gx) (av : List Addr) (H : Hp) (a : Addr) (vs : List V) : Prop :=
  Rd H a (.lst vs) ∧ a ∉ av
/-- the script's list: read, never written, or the module's own -/
def ScrAt (G : Gx) (av : List Addr) (H : Hp) (a : Addr) (vs : List V) : Prop :=
  (Rd H a (.lst vs) ∧ a ∉ av) ∨ ∃ (o : Obj) (its : Array Value) (n : Nat), G.K.lookup a = some o ∧ o.cls = .type "list" ∧ o.dict = none ∧ o.data = .seq its n ∧ its.size ≤ sizeLine ∧ Vals vs its.toList

mutual
def RepP (G : Gx) (av : List Addr) (H : Hp) : Pv → V → Prop
  | .non, v => v = .non
  | .bl b, v => v = .bl b
  | .int i, v => v = .int i
  | .str x, v => v = .str x
  | .tup xs, v => ∃ a vs, v = .ref a ∧ TupAt G av H a vs ∧ RepPs G av H xs vs
  | .lst xs, v => ∃ a vs, v = .ref a ∧ LstAt G av H a vs ∧ RepPs G av H xs vs
  | .ins c fs, v => ∃ a C dx gs, v = .ref a ∧ G.mg c = some (.ref C) ∧ H a = some (.ins C dx gs) ∧ a ∉ av ∧ RepFs G av H fs gs
  | .fn f, v => ∃ a, v = .ref a ∧ G.mg f = some (.ref a)
  | .ty n, v => v = .ty n
  | .scr ns, v => ∃ a, v = .ref a ∧ ScrAt G av H a (ns.map V.int)
def RepPs (G : Gx) (av : List Addr) (H : Hp) : List Pv → List V → Prop
  | [], vs => vs = []
  | x :: xs, vs => ∃ v r, vs = v :: r ∧ RepP G av H x v ∧ RepPs G av H xs r
def RepFs (G : Gx) (av : List Addr) (H : Hp) : List (Str × Pv) → List (Str × V) → Prop
  | [], vs => vs = []
  | x :: xs, vs => ∃ v r, vs = (x.1, v) :: r ∧ RepP G av H x.2 v ∧ RepFs G av H xs r
end

section
variable {G : Gx} {av av' : List Addr} {H H' : Hp}
theorem TupAt.mono {a vs} (k : ∀ a o, H a = some o → a ∉ av → H' a = some o ∧ a ∉ av') (h : TupAt G av H a vs) : TupAt G av' H' a vs := by
  rcases h with ⟨h, n⟩ | h
  · rcases h with h | ⟨o, h⟩
    · exact .inl ⟨.inl (k _ _ h n).1, (k _ _ h n).2⟩
    · exact .inl ⟨.inr ⟨o, (k _ _ h n).1⟩, (k _ _ h n).2⟩
  · exact .inr h
theorem LstAt.mono {a vs} (k : ∀ a o, H a = some o → a ∉ av → H' a = some o ∧ a ∉ av') (h : LstAt G av H a vs) : LstAt G av' H' a vs := by
  obtain ⟨h, n⟩ := h
  rcases h with h | ⟨o, h⟩
  · exact ⟨.inl (k _ _ h n).1, (k _ _ h n).2⟩
  · exact ⟨.inr ⟨o, (k _ _ h n).1⟩, (k _ _ h n).2⟩
theorem ScrAt.mono {a vs} (k : ∀ a o, H a = some o → a ∉ av → H' a = some o ∧ a ∉ av') (h : ScrAt G av H a vs) : ScrAt G av' H' a vs := by
  rcases h with ⟨h, n⟩ | h
  · rcases h with h | ⟨o, h⟩
    · exact .inl ⟨.inl (k _ _ h n).1, (k _ _ h n).2⟩
    · exact .inl ⟨.inr ⟨o, (k _ _ h n).1⟩, (k _ _ h n).2⟩
  · exact .inr h
theorem TupAt.sq {a vs} (h : TupAt G av H a vs) : SqT G.K H a vs := h.imp (·.1) id
theorem LstAt.sq {a vs} (h : LstAt G av H a vs) : SqL G.K H a vs := .inl h.1
theorem ScrAt.sq {a vs} (h : ScrAt G av H a vs) : SqL G.K H a vs := h.imp (·.1) id

mutual
theorem RepP.mono (k : ∀ a o, H a = some o → a ∉ av → H' a = some o ∧ a ∉ av') : ∀ {p : Pv} {v : V}, RepP G av H p v → RepP G av' H' p v
  | .non, v, h => by unfold RepP at h ⊢; exact h
  | .bl b, v, h => by unfold RepP at h ⊢; exact h
  | .int b, v, h => by unfold RepP at h ⊢; exact h
  | .str b, v, h => by unfold RepP at h ⊢; exact h
  | .tup xs, v, h => by
    unfold RepP at h ⊢
    obtain ⟨a, vs, e, t, r⟩ := h
    exact ⟨a, vs, e, t.mono k, RepPs.mono k r⟩
  | .lst xs, v, h => by
    unfold RepP at h ⊢
    obtain ⟨a, vs, e, t, r⟩ := h
    exact ⟨a, vs, e, t.mono k, RepPs.mono k r⟩
  | .ins c fs, v, h => by
    unfold RepP at h ⊢
    obtain ⟨a, C, dx, gs, e, m, t, n, r⟩ := h
    exact ⟨a, C, dx, gs, e, m, (k _ _ t n).1, (k _ _ t n).2, RepFs.mono k r⟩
  | .fn f, v, h => by unfold RepP at h ⊢; exact h
  | .ty f, v, h => by unfold RepP at h ⊢; exact h
  | .scr ns, v, h => by
    unfold RepP at h ⊢
    obtain ⟨a, e, t⟩ := h
    exact ⟨a, e, t.mono k⟩
theorem RepPs.mono (k : ∀ a o, H a = some o → a ∉ av → H' a = some o ∧ a ∉ av') : ∀ {p : List Pv} {v : List V}, RepPs G av H p v → RepPs G av' H' p v
  | [], v, h => by unfold RepPs at h ⊢; exact h
  | x :: xs, v, h => by
    unfold RepPs at h ⊢
    obtain ⟨y, r, e, h1, h2⟩ := h
    exact ⟨y, r, e, RepP.mono k h1, RepPs.mono k h2⟩
theorem RepFs.mono (k : ∀ a o, H a = some o → a ∉ av → H' a = some o ∧ a ∉ av') : ∀ {p : List (Str × Pv)} {v : List (Str × V)}, RepFs G av H p v → RepFs G av' H' p v
  | [], v, h => by unfold RepFs at h ⊢; exact h
  | x :: xs, v, h => by
    unfold RepFs at h ⊢
    obtain ⟨y, r, e, h1, h2⟩ := h
    exact ⟨y, r, e, RepP.mono k h1, RepFs.mono k h2⟩
end
end

/-- the places still open to change -/
def own : List Addr → Hh → List Addr
  | a :: α, ob :: h => if ob.isFrz then own α h else a :: own α h
  | _, _ => []
theorem mem_own : ∀ {α : List Addr} {h : Hh} {a : Addr}, a ∈ own α h ↔ ∃ (r : Nat) (ob : Ob), α[r]? = some a ∧ h[r]? = some ob ∧ ob.isFrz = false
  | [], h, a => by simp [own]
  | b :: α, [], a => by simp [own]
  | b :: α, ob :: h, a => by
    have ih := @mem_own α h a
    unfold own
    constructor
    · intro hm
      split at hm
      · obtain ⟨r, o, h1, h2, h3⟩ := ih.mp hm
        exact ⟨r + 1, o, by simpa using h1, by simpa using h2, h3⟩
      · rename_i hf
        rcases List.mem_cons.mp hm with e | hm
        · exact ⟨0, ob, by simp [e], by simp, by simpa using hf⟩
        · obtain ⟨r, o, h1, h2, h3⟩ := ih.mp hm
          exact ⟨r + 1, o, by simpa using h1, by simpa using h2, h3⟩
    · rintro ⟨r, o, h1, h2, h3⟩
      cases r with
      | zero =>
        simp at h1 h2
        subst h1 h2
        rw [h3]
        simp
      | succ r =>
        have : a ∈ own α h := ih.mpr ⟨r, o, by simpa using h1, by simpa using h2, h3⟩
        split
        · exact this
        · exact List.mem_cons_of_mem _ this

def RepV (G : Gx) (av α : List Addr) (H : Hp) : Va → V → Prop
  | .pv p, v => RepP G av H p v
  | .ref r, v => ∃ a, α[r]? = some a ∧ v = .ref a
def RepVs (G : Gx) (av α : List Addr) (H : Hp) : List Va → List V → Prop
  | [], vs => vs = []
  | x :: xs, vs => ∃ v r, vs = v :: r ∧ RepV G av α H x v ∧ RepVs G av α H xs r
def RepFV {κ : Type} (G : Gx) (av α : List Addr) (H : Hp) : List (κ × Va) → List (κ × V) → Prop
  | [], vs => vs = []
  | x :: xs, vs => ∃ v r, vs = (x.1, v) :: r ∧ RepV G av α H x.2 v ∧ RepFV G av α H xs r
def RepO (G : Gx) (av α : List Addr) (H : Hp) (a : Addr) : Ob → Prop
  | .lst xs => ∃ vs, H a = some (.lst vs) ∧ RepVs G av α H xs vs
  | .ins c fs => ∃ C dx gs, G.mg c = some (.ref C) ∧ H a = some (.ins C dx gs) ∧ RepFV G av α H fs gs
  | .frz p => RepP G av H p (.ref a)
  | .dct kvs => ∃ ks, H a = some (.dK ks) ∧ RepFV G av α H kvs ks

/-- the heap of what changes, borne by H: α the addresses, base what must not be touched besides -/
structure Rel (G : Gx) (base α : List Addr) (h : Hh) (H : Hp) : Prop where
  len : α.length = h.length
  nd : α.Nodup
  dis : ∀ a ∈ α, a ∉ base
  bas : ∀ a ∈ base, H a ≠ none
  trk : ∀ a ∈ α, H a ≠ none
  obs : ∀ (r : Nat) (a : Addr) (ob : Ob), α[r]? = some a → h[r]? = some ob → RepO G (base ++ own α h) α H a ob
theorem own_sub {α : List Addr} {h : Hh} {a : Addr} (m : a ∈ own α h) : a ∈ α := by
  obtain ⟨r, ob, e, _⟩ := mem_own.mp m
  exact List.mem_of_getElem? e
theorem Rel.disO {G : Gx} {base α : List Addr} {h : Hh} {H : Hp} (R : Rel G base α h H) (a : Addr) (m : a ∈ own α h) : a ∉ base := R.dis a (own_sub m)
/-- from one state to a later one -/
structure Evo (α : List Addr) (h : Hh) (H : Hp) (α' : List Addr) (h' : Hh) (H' : Hp) : Prop where
  ext : ∃ β, α' = α ++ β
  keep : ∀ a o, H a = some o → a ∉ own α h → H' a = some o
  ownm : ∀ a, a ∈ own α' h' → a ∈ own α h ∨ H a = none
theorem Evo.refl {α h H} : Evo α h H α h H := ⟨⟨[], by simp⟩, fun _ _ e _ => e, fun _ h => .inl h⟩
theorem Evo.trans {α h H α1 h1 H1 α2 h2 H2} (x : Evo α h H α1 h1 H1) (y : Evo α1 h1 H1 α2 h2 H2) : Evo α h H α2 h2 H2 := by
  obtain ⟨⟨β1, e1⟩, k1, o1⟩ := x
  obtain ⟨⟨β2, e2⟩, k2, o2⟩ := y
  refine ⟨⟨β1 ++ β2, by rw [e2, e1, List.append_assoc]⟩, fun a o e n => ?_, fun a m => ?_⟩
  · refine k2 a o (k1 a o e n) fun m => ?_
    rcases o1 a m with z | z
    · exact n z
    · rw [e] at z; cases z
  · rcases o2 a m with z | z
    · exact o1 a z
    · cases q : H a with
      | none => exact .inr rfl
      | some o =>
        by_cases n : a ∈ own α h
        · exact .inl n
        · rw [k1 a o q n] at z; cases z
section
variable {G : Gx} {base α α' : List Addr} {h h' : Hh} {H H' : Hp}
theorem Evo.mono (x : Evo α h H α' h' H') : ∀ a o, H a = some o → a ∉ base ++ own α h → H' a = some o ∧ a ∉ base ++ own α' h' := fun a o e n => by
  rw [List.mem_append, not_or] at n
  refine ⟨x.keep a o e n.2, ?_⟩
  rw [List.mem_append, not_or]
  refine ⟨n.1, fun m => ?_⟩
  rcases x.ownm a m with z | z
  · exact n.2 z
  · rw [e] at z; cases z
theorem Evo.pv (x : Evo α h H α' h' H') {p : Pv} {v : V} (r : RepP G (base ++ own α h) H p v) : RepP G (base ++ own α' h') H' p v := RepP.mono x.mono r
theorem Evo.pvs (x : Evo α h H α' h' H') {p : List Pv} {v : List V} (r : RepPs G (base ++ own α h) H p v) : RepPs G (base ++ own α' h') H' p v := RepPs.mono x.mono r
theorem Evo.get (x : Evo α h H α' h' H') {r : Nat} {a : Addr} (e : α[r]? = some a) : α'[r]? = some a := by
  obtain ⟨β, eb⟩ := x.ext
  rw [eb, List.getElem?_append_left (List.getElem?_eq_some_iff.mp e).1]
  exact e
theorem Evo.va (x : Evo α h H α' h' H') {p : Va} {v : V} (r : RepV G (base ++ own α h) α H p v) : RepV G (base ++ own α' h') α' H' p v := by
  cases p with
  | pv p => exact x.pv r
  | ref n =>
    obtain ⟨a, e, q⟩ := r
    exact ⟨a, x.get e, q⟩
theorem Evo.vas (x : Evo α h H α' h' H') : ∀ {p : List Va} {v : List V}, RepVs G (base ++ own α h) α H p v → RepVs G (base ++ own α' h') α' H' p v
  | [], _, r => r
  | _ :: _, _, r => by
    obtain ⟨v, q, e, r1, r2⟩ := r
    exact ⟨v, q, e, x.va r1, x.vas r2⟩
theorem Evo.fvs {κ : Type} (x : Evo α h H α' h' H') : ∀ {p : List (κ × Va)} {v : List (κ × V)}, RepFV G (base ++ own α h) α H p v → RepFV G (base ++ own α' h') α' H' p v
  | [], _, r => r
  | _ :: _, _, r => by
    obtain ⟨v, q, e, r1, r2⟩ := r
    exact ⟨v, q, e, x.va r1, x.fvs r2⟩
end

/-- the slots -/
abbrev Sl := List (Option Va)
def RepS (G : Gx) (av α : List Addr) (H : Hp) (s : Sl) (σ : L2.St) : Prop := s.length = σ.length ∧ ∀ (i : Nat) (v : Va), s[i]? = some (some v) → ∃ u, σ[i]? = some (some u) ∧ RepV G av α H v u
section
variable {G : Gx} {base α α' : List Addr} {h h' : Hh} {H H' : Hp} {s : Sl} {σ : L2.St}
theorem Evo.sl (x : Evo α h H α' h' H') (r : RepS G (base ++ own α h) α H s σ) : RepS G (base ++ own α' h') α' H' s σ :=
  ⟨r.1, fun i v e => let ⟨u, e1, q⟩ := r.2 i v e; ⟨u, e1, x.va q⟩⟩
theorem RepS.set {av : List Addr} (r : RepS G av α H s σ) (i : Nat) {v : Va} {u : V} (q : RepV G av α H v u) : RepS G av α H (s.set i (some v)) (σ.set i (some u)) := by
  refine ⟨by rw [List.length_set, List.length_set, r.1], fun j w e => ?_⟩
  by_cases hj : i = j
  · subst hj
    have hl : i < s.length := by
      have := (List.getElem?_eq_some_iff.mp e).1
      simpa using this
    rw [List.getElem?_set_self hl] at e
    cases e
    exact ⟨u, by rw [List.getElem?_set_self (by rw [← r.1]; exact hl)], q⟩
  · rw [List.getElem?_set_ne hj] at e
    obtain ⟨u', e', q'⟩ := r.2 j w e
    exact ⟨u', by rw [List.getElem?_set_ne hj]; exact e', q'⟩
end
end CI
namespace CI
open PySem PySem.Spec PyProof.Rows L2
section
variable {G : Gx} {av α : List Addr} {H : Hp} {v : V}
theorem repP_non : RepP G av H .non v ↔ v = .non := by unfold RepP; rfl
theorem repP_bl {b} : RepP G av H (.bl b) v ↔ v = .bl b := by unfold RepP; rfl
theorem repP_int {b} : RepP G av H (.int b) v ↔ v = .int b := by unfold RepP; rfl
theorem repP_str {b} : RepP G av H (.str b) v ↔ v = .str b := by unfold RepP; rfl
theorem repP_tup {xs} : RepP G av H (.tup xs) v ↔ ∃ a vs, v = .ref a ∧ TupAt G av H a vs ∧ RepPs G av H xs vs := by rw [RepP]
theorem repP_lst {xs} : RepP G av H (.lst xs) v ↔ ∃ a vs, v = .ref a ∧ LstAt G av H a vs ∧ RepPs G av H xs vs := by rw [RepP]
theorem repP_ins {c fs} : RepP G av H (.ins c fs) v ↔ ∃ a C dx gs, v = .ref a ∧ G.mg c = some (.ref C) ∧ H a = some (.ins C dx gs) ∧ a ∉ av ∧ RepFs G av H fs gs := by rw [RepP]
theorem repP_fn {f} : RepP G av H (.fn f) v ↔ ∃ a, v = .ref a ∧ G.mg f = some (.ref a) := by unfold RepP; rfl
theorem repP_ty {f} : RepP G av H (.ty f) v ↔ v = .ty f := by unfold RepP; rfl
theorem repP_scr {ns} : RepP G av H (.scr ns) v ↔ ∃ a, v = .ref a ∧ ScrAt G av H a (ns.map V.int) := by rw [RepP]
theorem repPs_nil {vs : List V} : RepPs G av H [] vs ↔ vs = [] := by rw [RepPs]
theorem repPs_cons {x xs} {vs : List V} : RepPs G av H (x :: xs) vs ↔ ∃ v r, vs = v :: r ∧ RepP G av H x v ∧ RepPs G av H xs r := by rw [RepPs]
theorem RepPs.length : ∀ {xs : List Pv} {vs : List V}, RepPs G av H xs vs → xs.length = vs.length
  | [], _, h => by rw [repPs_nil] at h; rw [h]; rfl
  | x :: xs, _, h => by
    rw [repPs_cons] at h
    obtain ⟨v, r, e, _, h⟩ := h
    rw [e, List.length_cons, List.length_cons, RepPs.length h]
theorem RepPs.get : ∀ {xs : List Pv} {vs : List V} {i : Nat} {x : Pv}, RepPs G av H xs vs → xs[i]? = some x → ∃ u, vs[i]? = some u ∧ RepP G av H x u
  | [], _, _, _, _, e => by simp at e
  | x :: xs, _, 0, y, h, e => by
    rw [repPs_cons] at h
    obtain ⟨v, r, e2, h1, _⟩ := h
    simp at e
    subst e2 e
    exact ⟨v, by simp, h1⟩
  | x :: xs, _, i + 1, y, h, e => by
    rw [repPs_cons] at h
    obtain ⟨v, r, e2, h1, h2⟩ := h
    subst e2
    obtain ⟨u, e3, q⟩ := RepPs.get (i := i) h2 (by simpa using e)
    exact ⟨u, by simpa using e3, q⟩
theorem RepPs.get' : ∀ {xs : List Pv} {vs : List V} {i : Nat} {u : V}, RepPs G av H xs vs → vs[i]? = some u → ∃ x, xs[i]? = some x ∧ RepP G av H x u := by
  intro xs vs i u h e
  have hl := h.length
  have hi : i < xs.length := by rw [hl]; exact (List.getElem?_eq_some_iff.mp e).1
  obtain ⟨u', e', q⟩ := h.get (i := i) (x := xs[i]) (List.getElem?_eq_getElem hi)
  rw [e] at e'
  cases e'
  exact ⟨xs[i], List.getElem?_eq_getElem hi, q⟩
theorem RepPs.append : ∀ {xs ys : List Pv} {vs ws : List V}, RepPs G av H xs vs → RepPs G av H ys ws → RepPs G av H (xs ++ ys) (vs ++ ws)
  | [], _, _, _, h, g => by rw [repPs_nil] at h; rw [h]; exact g
  | x :: xs, ys, _, ws, h, g => by
    rw [repPs_cons] at h
    obtain ⟨v, r, e, h1, h2⟩ := h
    rw [e]
    exact repPs_cons.mpr ⟨v, r ++ ws, rfl, h1, h2.append g⟩
theorem RepPs.one {x : Pv} {u : V} (h : RepP G av H x u) : RepPs G av H [x] [u] := repPs_cons.mpr ⟨u, [], rfl, h, repPs_nil.mpr rfl⟩
theorem repPs_ints : ∀ {ns : List Int} {vs : List V}, RepPs G av H (ns.map Pv.int) vs ↔ vs = ns.map V.int
  | [], vs => by rw [List.map_nil, repPs_nil, List.map_nil]
  | n :: ns, vs => by
    rw [List.map_cons, repPs_cons, List.map_cons]
    constructor
    · rintro ⟨v, r, e, h1, h2⟩
      rw [e, repP_int.mp h1, repPs_ints.mp h2]
    · intro e
      exact ⟨_, _, e, repP_int.mpr rfl, repPs_ints.mpr rfl⟩
theorem repVs_pv : ∀ {xs : List Pv} {vs : List V}, RepVs G av α H (xs.map Va.pv) vs ↔ RepPs G av H xs vs
  | [], vs => by rw [repPs_nil]; rfl
  | x :: xs, vs => by
    rw [repPs_cons]
    show (∃ v r, vs = v :: r ∧ RepP G av H x v ∧ RepVs G av α H (xs.map Va.pv) r) ↔ _
    simp only [repVs_pv]
theorem RepVs.length : ∀ {xs : List Va} {vs : List V}, RepVs G av α H xs vs → xs.length = vs.length
  | [], _, h => by cases h; rfl
  | x :: xs, _, h => by
    obtain ⟨v, r, e, _, h⟩ := h
    rw [e, List.length_cons, List.length_cons, RepVs.length h]
theorem RepVs.get : ∀ {xs : List Va} {vs : List V} {i : Nat} {x : Va}, RepVs G av α H xs vs → xs[i]? = some x → ∃ u, vs[i]? = some u ∧ RepV G av α H x u
  | [], _, _, _, _, e => by simp at e
  | x :: xs, _, 0, y, ⟨v, r, e2, h1, _⟩, e => by
    simp at e
    subst e2 e
    exact ⟨v, by simp, h1⟩
  | x :: xs, _, i + 1, y, ⟨v, r, e2, h1, h2⟩, e => by
    subst e2
    obtain ⟨u, e3, q⟩ := RepVs.get (i := i) h2 (by simpa using e)
    exact ⟨u, by simpa using e3, q⟩
theorem RepVs.append : ∀ {xs ys : List Va} {vs ws : List V}, RepVs G av α H xs vs → RepVs G av α H ys ws → RepVs G av α H (xs ++ ys) (vs ++ ws)
  | [], _, _, _, h, g => by cases h; exact g
  | x :: xs, ys, _, ws, ⟨v, r, e, h1, h2⟩, g => by
    rw [e]
    exact ⟨v, r ++ ws, rfl, h1, h2.append g⟩
theorem RepVs.set : ∀ {xs : List Va} {vs : List V} (i : Nat) {x : Va} {u : V}, RepVs G av α H xs vs → RepV G av α H x u → RepVs G av α H (xs.set i x) (vs.set i u)
  | [], _, _, _, _, h, _ => by cases h; rfl
  | y :: xs, _, 0, x, u, ⟨v, r, e, h1, h2⟩, g => by rw [e]; exact ⟨u, r, rfl, g, h2⟩
  | y :: xs, _, i + 1, x, u, ⟨v, r, e, h1, h2⟩, g => by rw [e]; exact ⟨v, r.set i u, rfl, h1, h2.set i g⟩
end
end CI
namespace CI
open PySem PySem.Spec PyProof.Rows L2
section
variable {G : Gx} {av α : List Addr} {H : Hp} {v : V}
theorem rv_non : RepV G av α H (.pv .non) v ↔ v = .non := by show RepP G av H .non v ↔ _; exact repP_non
theorem rv_bl {b} : RepV G av α H (.pv (.bl b)) v ↔ v = .bl b := by show RepP G av H (.bl b) v ↔ _; exact repP_bl
theorem rv_int {b} : RepV G av α H (.pv (.int b)) v ↔ v = .int b := by show RepP G av H (.int b) v ↔ _; exact repP_int
theorem rv_str {b} : RepV G av α H (.pv (.str b)) v ↔ v = .str b := by show RepP G av H (.str b) v ↔ _; exact repP_str
theorem rv_tup {xs} : RepV G av α H (.pv (.tup xs)) v ↔ ∃ a vs, v = .ref a ∧ TupAt G av H a vs ∧ RepPs G av H xs vs := by show RepP G av H (.tup xs) v ↔ _; exact repP_tup
theorem rv_lst {xs} : RepV G av α H (.pv (.lst xs)) v ↔ ∃ a vs, v = .ref a ∧ LstAt G av H a vs ∧ RepPs G av H xs vs := by show RepP G av H (.lst xs) v ↔ _; exact repP_lst
theorem rv_ins {c fs} : RepV G av α H (.pv (.ins c fs)) v ↔ ∃ a C dx gs, v = .ref a ∧ G.mg c = some (.ref C) ∧ H a = some (.ins C dx gs) ∧ a ∉ av ∧ RepFs G av H fs gs := by show RepP G av H (.ins c fs) v ↔ _; exact repP_ins
theorem rv_fn {f} : RepV G av α H (.pv (.fn f)) v ↔ ∃ a, v = .ref a ∧ G.mg f = some (.ref a) := by show RepP G av H (.fn f) v ↔ _; exact repP_fn
theorem rv_scr {ns} : RepV G av α H (.pv (.scr ns)) v ↔ ∃ a, v = .ref a ∧ ScrAt G av H a (ns.map V.int) := by show RepP G av H (.scr ns) v ↔ _; exact repP_scr
theorem rv_ty {f} : RepV G av α H (.pv (.ty f)) v ↔ v = .ty f := by show RepP G av H (.ty f) v ↔ _; exact repP_ty
end
end CI
namespace CI
open PySem PySem.Spec PyProof.Rows L2

/-- an exception of the module's own class c with its fields -/
def RepX (G : Gx) (av : List Addr) (H : Hp) (c : Str) (fs : List (Str × Pv)) (cls : Value) (d : Option Addr) : Prop :=
  ∃ C, G.mg c = some (.ref C) ∧ cls = .ref C ∧ ((d = none ∧ fs = []) ∨ (fs ≠ [] ∧ ∃ dx gs, d = some dx ∧ H dx = some (.xd gs) ∧ dx ∉ av ∧ RepFs G av H fs gs))

/-- how an answer of the reading is borne -/
abbrev Rp (β γ : Type) := List Addr → List Addr → Hp → β → γ → Prop
def Pst (G : Gx) (E : XK) (base α : List Addr) (h : Hh) (H : Hp) {β γ : Type} (rep : Rp β γ) (r : Res β) (Q : γ → Hp → Prop) : Prop :=
  match r with
  | .ok v h' => ∀ α' u H', Evo α h H α' h' H' → Rel G base α' h' H' → rep (base ++ own α' h') α' H' v u → Q u H'
  | .exc c fs h' => ∀ α' cls d H', Evo α h H α' h' H' → Rel G base α' h' H' → RepX G (base ++ own α' h') H' c fs cls d → E cls d H'
  | .stuck => False
section
variable {G : Gx} {E : XK} {base α α1 : List Addr} {h h1 : Hh} {H H1 : Hp} {β γ δ ε : Type} {rep : Rp β γ} {rep2 : Rp δ ε} {Q : γ → Hp → Prop}
theorem Pst.step (x : Evo α h H α1 h1 H1) {r : Res β} (p : Pst G E base α h H rep r Q) : Pst G E base α1 h1 H1 rep r Q := by
  cases r with
  | ok v h' => exact fun α' u H' y => p α' u H' (x.trans y)
  | exc c fs h' => exact fun α' cls d H' y => p α' cls d H' (x.trans y)
  | stuck => exact p
theorem Pst.bind {r : Res β} {k : β → Hh → Res δ} {Q1 : γ → Hp → Prop} {Q2 : ε → Hp → Prop} (p : Pst G E base α h H rep2 (r.bind k) Q2)
    (f : ∀ v h1 α1 u H1, Evo α h H α1 h1 H1 → Rel G base α1 h1 H1 → rep (base ++ own α1 h1) α1 H1 v u → Pst G E base α1 h1 H1 rep2 (k v h1) Q2 → Q1 u H1) : Pst G E base α h H rep r Q1 := by
  cases r with
  | ok v h' => exact fun α' u H' x r q => f v h' α' u H' x r q (Pst.step x p)
  | exc c fs h' => exact p
  | stuck => exact p
/-- an answer that leaves all as it was -/
theorem Pst.same {v : β} {u : γ} (p : Pst G E base α h H rep (.ok v h) Q) (r : Rel G base α h H) (q : rep (base ++ own α h) α H v u) : Q u H := p α u H .refl r q
end

abbrev rV (G : Gx) : Rp Va V := fun av α H v u => RepV G av α H v u
abbrev rVs (G : Gx) : Rp (List Va) (List V) := fun av α H v u => RepVs G av α H v u
abbrev rB : Rp Bool Bool := fun _ _ _ b c => b = c
def rI : Rp (Option Int) (Option Int) := fun _ _ _ b c => b = c

/-- the reading of a piece of the program by d -/
def tG (G : Gx) (E : XK) {β γ : Type} (rep : Rp β γ) (d : Sl → Hh → Res β) : L2.St → Hp → (γ → Hp → Prop) → Prop := fun σ H Q =>
  ∃ base α s h, Rel G base α h H ∧ RepS G (base ++ own α h) α H s σ ∧ Pst G E base α h H rep (d s h) Q
abbrev Dn := Sl → Hh → Res Va
abbrev Dt := Sl → Hh → Res Bool
abbrev Da := Sl → Hh → Res (List Va)
abbrev gx (X : Cx) : Gx := ⟨X.K, X.mg⟩
def SE (X : Cx) (E : XK) (e : Expr) (d : Dn) : Prop := PE X e (tG (gx X) E (rV (gx X)) d)
def SA (X : Cx) (E : XK) (es : List Expr) (d : Da) : Prop := PA X es (tG (gx X) E (rVs (gx X)) d)
def STt (X : Cx) (E : XK) (e : Expr) (d : Dt) : Prop := PT X e (tG (gx X) E rB d)

theorem PE.imp {X : Cx} {e : Expr} {t t' : TE} (p : PE X e t) (f : ∀ σ H Q, t' σ H Q → t σ H Q) : PE X e t' := ⟨fun pins s σ H Q I q => p.run pins s σ H Q I (f σ H Q q)⟩
theorem PA.imp {X : Cx} {e : List Expr} {t t' : TA} (p : PA X e t) (f : ∀ σ H Q, t' σ H Q → t σ H Q) : PA X e t' := ⟨fun pos pins s σ H Q I q => p.run pos pins s σ H Q I (f σ H Q q)⟩
theorem PT.imp {X : Cx} {e : Expr} {t t' : TT} (p : PT X e t) (f : ∀ σ H Q, t' σ H Q → t σ H Q) : PT X e t' := ⟨fun pins s σ H Q I q => p.run pins s σ H Q I (f σ H Q q)⟩
theorem PW.imp {X : Cx} {e : Expr} {t t' : TT} (p : PW X e t) (f : ∀ σ H Q, t' σ H Q → t σ H Q) : PW X e t' := ⟨fun wh pins s σ H Q I q => p.run wh pins s σ H Q I (f σ H Q q)⟩
theorem PS.imp {X : Cx} {e : Stmt} {t t' : TS} (p : PS X e t) (f : ∀ D σ H, t' D σ H → t D σ H) : PS X e t' := ⟨fun pins s σ H D I q => p.run pins s σ H D I (f D σ H q)⟩
theorem PSs.imp {X : Cx} {e : List Stmt} {t t' : TS} (p : PSs X e t) (f : ∀ D σ H, t' D σ H → t D σ H) : PSs X e t' := ⟨fun pins s σ H D I q => p.run pins s σ H D I (f D σ H q)⟩
theorem PG.imp {X : Cx} {e : Expr} {t t' : TG} (p : PG X e t) (f : ∀ v σ H Q, t' v σ H Q → t v σ H Q) : PG X e t' := ⟨fun pins s σ H v u Q I r q => p.run pins s σ H v u Q I r (f v σ H Q q)⟩
theorem PGs.imp {X : Cx} {e : List Expr} {t t' : TGs} (p : PGs X e t) (f : ∀ v σ H Q, t' v σ H Q → t v σ H Q) : PGs X e t' := ⟨fun pins s σ H v u Q I r q => p.run pins s σ H v u Q I r (f v σ H Q q)⟩

/-! ### names, constants -/
def dVar (i : Nat) : Dn := fun s h => match s[i]? with
  | some (some v) => .ok v h
  | _ => .stuck
def dC (p : Pv) : Dn := fun _ h => .ok (.pv p) h
section
variable {X : Cx} {E : XK}
theorem se_var {i : Nat} {x : Str} {pos : Pos} (hN : X.N[i]? = some x) (hv : Vis X.env.scope x) (hd : (x == ("__debug__" : Str)) = false) (hcd : (x == ("__classdict__" : Str)) = false) : SE X E (.Name x pos) (dVar i) := by
  refine PE.imp (pe_var hN hv hd hcd) fun σ H Q ⟨base, α, s, h, R, S, P⟩ => ?_
  unfold dVar at P
  split at P
  · rename_i v e
    obtain ⟨u, e', r⟩ := S.2 i v e
    exact ⟨u, e', P.same R r⟩
  · exact P.elim
theorem se_int {i j pos} : SE X E (.Constant (.int i) j pos) (dC (.int i)) := PE.imp pe_int fun σ H Q ⟨base, α, s, h, R, S, P⟩ => P.same (u := V.int i) R (rv_int.mpr rfl)
theorem se_bl {i j pos} : SE X E (.Constant (.bool i) j pos) (dC (.bl i)) := PE.imp pe_bl fun σ H Q ⟨base, α, s, h, R, S, P⟩ => P.same (u := V.bl i) R (rv_bl.mpr rfl)
theorem se_non {j pos} : SE X E (.Constant .none j pos) (dC .non) := PE.imp pe_non fun σ H Q ⟨base, α, s, h, R, S, P⟩ => P.same (u := V.non) R (rv_non.mpr rfl)
theorem se_str {x j pos} : SE X E (.Constant (.str x) j pos) (dC (.str x)) := PE.imp pe_str fun σ H Q ⟨base, α, s, h, R, S, P⟩ => P.same (u := V.str x) R (rv_str.mpr rfl)
/-- a name of the module that holds p for ever -/
def Stat (G : Gx) (p : Pv) (v : V) : Prop := ∀ av H, RepP G av H p v
theorem se_glob {x : Str} {p : Pv} {pos : Pos} (hg : Gl X x) (hm : ∃ u v, X.mg x = some u ∧ RelV v u ∧ Stat (gx X) p v) (hd : (x == ("__debug__" : Str)) = false) : SE X E (.Name x pos) (dC p) := by
  obtain ⟨u, v, hm, hr, hs⟩ := hm
  exact PE.imp (pe_glob hg hm hr hd) fun σ H Q ⟨base, α, s, h, R, S, P⟩ => P.same R (hs _ _)
end

/-! ### arguments -/
def daNil : Da := fun _ h => .ok [] h
def daCons (d : Dn) (r : Da) : Da := fun s h => (d s h).bind fun v h1 => (r s h1).bind fun vs h2 => .ok (v :: vs) h2
def notStar : Expr → Bool
  | .Starred .. => false
  | _ => true
theorem star_cons {e : Expr} {es : List Expr} {env : Env} (hn : notStar e = true) : starEach (e :: es) env = (false, eval e env) :: starEach es env := by
  cases e <;> first | rfl | cases hn
theorem star_any {pos : Pos} {env : Env} : ∀ {es : List Expr}, es.all notStar = true → (backTo pos (starEach es env)).any (·.1) = false
  | [], _ => rfl
  | e :: es, h => by
    rw [List.all_cons, Bool.and_eq_true] at h
    rw [star_cons h.1]
    show (false || (backTo pos (starEach es env)).any (·.1)) = false
    rw [star_any h.2]; rfl
section
variable {X : Cx} {E : XK}
theorem sa_nil : SA X E [] daNil := PA.imp pa_nil fun σ H Q ⟨base, α, s, h, R, S, P⟩ => P.same (u := []) R rfl
theorem sa_cons {e : Expr} {es : List Expr} {d : Dn} {r : Da} (hn : notStar e = true) (ha : SE X E e d) (hr : SA X E es r) : SA X E (e :: es) (daCons d r) := by
  refine PA.imp (pa_cons ha hr (star_cons hn)) fun σ H Q ⟨base, α, s, h, R, S, P⟩ => ?_
  refine ⟨base, α, s, h, R, S, P.bind fun v h1 α1 u H1 x1 R1 q1 P1 => ?_⟩
  refine ⟨base, α1, s, h1, R1, x1.sl S, P1.bind fun vs h2 α2 us H2 x2 R2 q2 P2 => ?_⟩
  exact P2.same R2 ⟨u, us, rfl, x2.va q1, q2⟩
end

/-! ### two-place operations on values -/
abbrev Op2 := Va → Va → Hh → Res Va
def dBin (f : Op2) (a b : Dn) : Dn := fun s h => (a s h).bind fun x h1 => (b s h1).bind fun y h2 => f x y h2
/-- r is what f tells -/
def OpS (X : Cx) (E : XK) (f : Op2) (r : R2) : Prop := ∀ base α h H x y u w Q, Rel (gx X) base α h H → RepV (gx X) (base ++ own α h) α H x u → RepV (gx X) (base ++ own α h) α H y w →
  Pst (gx X) E base α h H (rV (gx X)) (f x y h) Q → r u w H Q
section
variable {X : Cx} {E : XK} {f : Op2} {r : R2} {a b c : Expr} {da db dc : Dn} {pos : Pos}
theorem bin_rd (ho : OpS X E f r) : ∀ σ H Q, tG (gx X) E (rV (gx X)) (dBin f da db) σ H Q → tOp r (tG (gx X) E (rV (gx X)) da) (tG (gx X) E (rV (gx X)) db) σ H Q := by
  intro σ H Q ⟨base, α, s, h, R, S, P⟩
  refine ⟨base, α, s, h, R, S, P.bind fun v h1 α1 u H1 x1 R1 q1 P1 => ?_⟩
  refine ⟨base, α1, s, h1, R1, x1.sl S, P1.bind fun v2 h2 α2 u2 H2 x2 R2 q2 P2 => ?_⟩
  exact ho base α2 h2 H2 v v2 u u2 Q R2 (x2.va q1) q2 P2
theorem se_bin {op : Operator} (ho : OpR X (binaryOp op) r) (hs : OpS X E f r) (ha : SE X E a da) (hb : SE X E b db) : SE X E (.BinOp a op b pos) (dBin f da db) := PE.imp (pe_op ho ha hb) (bin_rd hs)
theorem se_cmp {op : CmpOp} (ho : OpR X (compareOp op) r) (hs : OpS X E f r) (ha : SE X E a da) (hb : SE X E b db) (hm : behindInMarks op b = false) : SE X E (.Compare a [op] [b] pos) (dBin f da db) := PE.imp (pe_cmpR ho ha hb hm) (bin_rd hs)
/-- a value that is a truth -/
def asB (r : Res Va) : Res Bool := r.bind fun v h => match v with
  | .pv (.bl b) => .ok b h
  | _ => .stuck
def tVB (d : Dn) : Dt := fun s h => asB (d s h)
theorem vb_rd {d : Dn} : ∀ σ H Q, tG (gx X) E rB (tVB d) σ H Q → tG (gx X) E (rV (gx X)) d σ H fun x H' => ∃ k, x = .bl k ∧ Q k H' := by
  intro σ H Q ⟨base, α, s, h, R, S, P⟩
  refine ⟨base, α, s, h, R, S, Pst.bind P fun v h1 α1 u H1 x1 R1 q1 P1 => ?_⟩
  split at P1
  · rename_i b
    exact ⟨b, rv_bl.mp q1, P1.same R1 rfl⟩
  · exact P1.elim
theorem st_cmp {op : CmpOp} (ho : OpR X (compareOp op) r) (hs : OpS X E f r) (ha : SE X E a da) (hb : SE X E b db) (hm : behindInMarks op b = false) : STt X E (.Compare a [op] [b] pos) (tVB (dBin f da db)) := by
  refine PT.imp (pt_cmpR ho ha hb hm) fun σ H Q q => ?_
  have q2 := vb_rd σ H Q q
  exact bin_rd hs σ H _ q2
theorem st_val {d : Dn} (h : SE X E a d) (he : ∀ whole, isTrue a X.env whole = (do let v ← whole; standAt a.pos; holding [v] (truthy v))) : STt X E a (tVB d) :=
  PT.imp (pt_val h he) fun σ H Q q => vb_rd σ H Q q
end
end CI
namespace CI
open PySem PySem.Spec PyProof.Rows L2

/-! ### what may be read at a value -/
/-- the items of a tuple, a list -/
def rdl (h : Hh) : Va → Option (List Va)
  | .pv (.tup ps) => some (ps.map .pv)
  | .pv (.lst ps) => some (ps.map .pv)
  | .pv (.scr ns) => some (ns.map fun n => .pv (.int n))
  | .ref r => match h[r]? with
    | some (.lst xs) => some xs
    | some (.frz (.lst ps)) => some (ps.map .pv)
    | some (.frz (.tup ps)) => some (ps.map .pv)
    | _ => none
  | _ => none
theorem rdl_ok {G : Gx} {base α : List Addr} {h : Hh} {H : Hp} (R : Rel G base α h H) : ∀ {v : Va} {u : V} {xs : List Va}, RepV G (base ++ own α h) α H v u → rdl h v = some xs →
    ∃ a vs, u = .ref a ∧ (SqL G.K H a vs ∨ SqT G.K H a vs) ∧ RepVs G (base ++ own α h) α H xs vs := by
  intro v u xs r e
  have key : ∀ (p : Pv) (u : V), RepP G (base ++ own α h) H p u → ∀ ps, (p = .lst ps ∨ p = .tup ps) → ∃ a vs, u = .ref a ∧ (SqL G.K H a vs ∨ SqT G.K H a vs) ∧ RepVs G (base ++ own α h) α H (ps.map .pv) vs := by
    intro p u r ps hp
    rcases hp with rfl | rfl
    · obtain ⟨a, vs, e, t, q⟩ := repP_lst.mp r
      exact ⟨a, vs, e, .inl t.sq, repVs_pv.mpr q⟩
    · obtain ⟨a, vs, e, t, q⟩ := repP_tup.mp r
      exact ⟨a, vs, e, .inr t.sq, repVs_pv.mpr q⟩
  unfold rdl at e
  split at e
  · cases e; exact key _ u r _ (.inr rfl)
  · cases e; exact key _ u r _ (.inl rfl)
  · rename_i ns
    cases e
    obtain ⟨a, e, t⟩ := rv_scr.mp r
    refine ⟨a, _, e, .inl t.sq, ?_⟩
    have q := repVs_pv (G := G) (av := base ++ own α h) (α := α) (H := H).mpr (repPs_ints.mpr (rfl : ns.map V.int = _))
    rw [List.map_map] at q
    exact q
  · rename_i n
    obtain ⟨a, ea, rfl⟩ := r
    split at e
    · rename_i q
      cases e
      obtain ⟨vs, e1, q1⟩ := R.obs _ _ _ ea q
      exact ⟨a, vs, rfl, .inl (SqL.of e1), q1⟩
    · rename_i q
      cases e
      exact key _ _ (R.obs _ _ _ ea q) _ (.inl rfl)
    · rename_i q
      cases e
      exact key _ _ (R.obs _ _ _ ea q) _ (.inr rfl)
    · cases e
  · cases e

/-! ### ints -/
def onInts (c : Int → Int → Bool) (g : Int → Int → Pv) : Op2 := fun x y h => match x, y with
  | .pv (.int i), .pv (.int j) => if c i j then .ok (.pv (g i j)) h else .stuck
  | _, _ => .stuck
theorem ints_case {α : Type} {x y : Va} {P : Res α → Prop} {f : Int → Int → Res α} (p : P (match x, y with
  | .pv (.int i), .pv (.int j) => f i j
  | _, _ => .stuck)) (hs : ¬ P .stuck) : ∃ i j, x = .pv (.int i) ∧ y = .pv (.int j) ∧ P (f i j) := by
  split at p
  · exact ⟨_, _, rfl, rfl, p⟩
  · exact absurd p hs
theorem onInts_ok {X : Cx} {E : XK} {c : Int → Int → Bool} {C : Int → Int → Prop} {g : Int → Int → Pv} {gv : Int → Int → V} (hc : ∀ i j, c i j = true → C i j) (hg : ∀ i j av α H, RepV (gx X) av α H (.pv (g i j)) (gv i j)) :
    OpS X E (onInts c g) (L2.rI C gv) := by
  intro base α h H x y u w Q R rx ry P
  unfold onInts at P
  split at P
  · rename_i i j
    split at P
    · rename_i hcc
      exact ⟨i, j, rv_int.mp rx, rv_int.mp ry, hc i j hcc, P.same R (hg i j _ _ _)⟩
    · exact P.elim
  · exact P.elim
theorem onInts_ok0 {X : Cx} {E : XK} {g : Int → Int → Pv} {gv : Int → Int → V} (hg : ∀ i j av α H, RepV (gx X) av α H (.pv (g i j)) (gv i j)) :
    OpS X E (onInts (fun _ _ => true) g) (rI0 gv) := by
  intro base α h H x y u w Q R rx ry P
  unfold onInts at P
  split at P
  · rename_i i j
    exact ⟨i, j, rv_int.mp rx, rv_int.mp ry, P.same R (hg i j _ _ _)⟩
  · exact P.elim
/-- two rules, by cases -/
theorem OpS.inl {X : Cx} {E : XK} {f : Op2} {r r' : R2} (h : OpS X E f r) : OpS X E f (fun x y H Q => r x y H Q ∨ r' x y H Q) := fun base α h1 H x y u w Q R rx ry P => .inl (h base α h1 H x y u w Q R rx ry P)

/-- a number that isn't too great -/
def mulOk (i j : Int) : Bool := decide (i.natAbs < 2 ^ 64) || decide (j.natAbs < 2 ^ 64) || (decide (i.natAbs.log2 < 400000) && decide (j.natAbs.log2 < 400000))
theorem mulOk_int {i j : Int} (h : mulOk i j = true) : IntMulOk i j := by
  unfold mulOk at h
  simp only [Bool.or_eq_true, Bool.and_eq_true, decide_eq_true_eq] at h
  rcases h with (h | h) | ⟨h1, h2⟩
  · exact CMul.ok (.inl ⟨by omega, by omega⟩)
  · exact CMul.ok (.inr ⟨by omega, by omega⟩)
  · exact CMulW.ok (by unfold CMulW; omega)
theorem op_mulG {X : Cx} : OpR X (binaryOp .Mult) (L2.rI (fun i j => mulOk i j = true) fun i j => .int (i * j)) := opI fun _ _ _ _ _ _ _ hc q => mul_int q (mulOk_int hc)
def divOk (j : Int) : Bool := decide (j ≠ 0) && decide (j.natAbs.log2 < 9000)
theorem op_fdivG {X : Cx} : OpR X (binaryOp .FloorDiv) (L2.rI (fun _ j => divOk j = true) fun i j => .int (i.fdiv j)) := opI fun _ _ _ _ _ _ _ hc q => by
  unfold divOk at hc
  simp only [Bool.and_eq_true, decide_eq_true_eq] at hc
  exact floordiv_int hc.1 q (.inl (PyProof.noPylong_of_log2 hc.2))
def powOk (i j : Int) : Bool := decide (0 ≤ j) && decide (j ≤ 1000000) && decide (i.natAbs < 2 ^ 64)
theorem op_powG {X : Cx} : OpR X (binaryOp .Pow) (L2.rI (fun i j => powOk i j = true) fun i j => .int (i ^ j.toNat)) := opI fun _ _ _ _ _ _ _ hc q => by
  unfold powOk at hc
  simp only [Bool.and_eq_true, decide_eq_true_eq] at hc
  exact pow_int_small hc.1.1 hc.1.2 hc.2 q

def oSub : Op2 := onInts (fun _ _ => true) fun i j => .int (i - j)
def oMul : Op2 := onInts mulOk fun i j => .int (i * j)
def oDiv : Op2 := onInts (fun _ j => divOk j) fun i j => .int (i.fdiv j)
def oMod : Op2 := onInts (fun _ j => decide (j ≠ 0)) fun i j => .int (i.fmod j)
def oPow : Op2 := onInts powOk fun i j => .int (i ^ j.toNat)
section
variable {X : Cx} {E : XK} {a b : Expr} {da db : Dn} {pos : Pos}
theorem se_sub (ha : SE X E a da) (hb : SE X E b db) : SE X E (.BinOp a .Sub b pos) (dBin oSub da db) := se_bin op_sub (onInts_ok0 fun _ _ _ _ _ => rv_int.mpr rfl) ha hb
theorem se_mul (ha : SE X E a da) (hb : SE X E b db) : SE X E (.BinOp a .Mult b pos) (dBin oMul da db) := se_bin op_mulG (onInts_ok (fun _ _ h => h) fun _ _ _ _ _ => rv_int.mpr rfl) ha hb
theorem se_div (ha : SE X E a da) (hb : SE X E b db) : SE X E (.BinOp a .FloorDiv b pos) (dBin oDiv da db) := se_bin op_fdivG (onInts_ok (fun _ _ h => h) fun _ _ _ _ _ => rv_int.mpr rfl) ha hb
theorem se_mod (ha : SE X E a da) (hb : SE X E b db) : SE X E (.BinOp a .Mod b pos) (dBin oMod da db) := se_bin op_modN (onInts_ok (fun _ _ h => of_decide_eq_true h) fun _ _ _ _ _ => rv_int.mpr rfl) ha hb
theorem se_pow (ha : SE X E a da) (hb : SE X E b db) : SE X E (.BinOp a .Pow b pos) (dBin oPow da db) := se_bin op_powG (onInts_ok (fun _ _ h => h) fun _ _ _ _ _ => rv_int.mpr rfl) ha hb
end

/-! ### a new frozen object -/
theorem Rel.tracked {G : Gx} {base α : List Addr} {h : Hh} {H : Hp} (R : Rel G base α h H) {a : Addr} (m : a ∈ own α h) : H a ≠ none := by
  obtain ⟨r, ob, e1, e2, e3⟩ := mem_own.mp m
  have q := R.obs r a ob e1 e2
  intro z
  cases ob with
  | lst xs => obtain ⟨vs, e, _⟩ := q; rw [z] at e; cases e
  | ins c fs => obtain ⟨_, _, _, _, e, _⟩ := q; rw [z] at e; cases e
  | frz y => cases e3
  | dct kvs => obtain ⟨_, e, _⟩ := q; rw [z] at e; cases e
theorem Rel.avoids {G : Gx} {base α : List Addr} {h : Hh} {H : Hp} {p : Addr} (R : Rel G base α h H) (np : H p = none) : p ∉ base ++ own α h := by
  intro m
  rcases List.mem_append.mp m with m | m
  · exact R.bas p m np
  · exact R.tracked m np
/-- an object stands as it stood -/
theorem RepO.stay {G : Gx} {base α α' : List Addr} {h h' : Hh} {H H' : Hp} {a : Addr} {ob : Ob} (x : Evo α h H α' h' H') (k : ob.isFrz = false → H' a = H a) (q : RepO G (base ++ own α h) α H a ob) : RepO G (base ++ own α' h') α' H' a ob := by
  cases ob with
  | lst xs => obtain ⟨vs, e, r⟩ := q; exact ⟨vs, (k rfl).trans e, x.vas r⟩
  | ins c fs => obtain ⟨C, dx, gs, g, e, r⟩ := q; exact ⟨C, dx, gs, g, (k rfl).trans e, x.fvs r⟩
  | frz y => exact x.pv (G := G) q
  | dct kvs => obtain ⟨ks, e, r⟩ := q; exact ⟨ks, (k rfl).trans e, x.fvs r⟩
theorem Rel.laid {G : Gx} {base α : List Addr} {h : Hh} {H : Hp} {p : Addr} {o : HO} (R : Rel G base α h H) (np : H p = none) : Rel G base α h (upd H p o) ∧ Evo α h H α h (upd H p o) := by
  have ne : ∀ {b u}, H b = some u → b ≠ p := fun e => ne_of_none e np
  have ev : Evo α h H α h (upd H p o) := ⟨⟨[], by simp⟩, fun a u e _ => by rw [upd_ne (ne e)]; exact e, fun _ m => .inl m⟩
  have up : ∀ {a}, H a ≠ none → upd H p o a ≠ none := fun {a} this => by
    by_cases z : a = p
    · rw [z, upd_same]; exact fun q => nomatch q
    · rw [upd_ne z]; exact this
  refine ⟨⟨R.len, R.nd, R.dis, fun a m => up (R.bas a m), fun a m => up (R.trk a m), fun r a x e1 e2 => ?_⟩, ev⟩
  · refine RepO.stay (base := base) ev (fun hf => ?_) (R.obs r a x e1 e2)
    have t := R.tracked (mem_own.mpr ⟨r, x, e1, e2, hf⟩)
    exact upd_ne fun z => t (by rw [z]; exact np)
/-- an answer that is a new frozen object -/
theorem Pst.new {G : Gx} {E : XK} {base α : List Addr} {h : Hh} {H : Hp} {β γ : Type} {rep : Rp β γ} {v : β} {u : γ} {Q : γ → Hp → Prop} {p : Addr} {o : HO} (P : Pst G E base α h H rep (.ok v h) Q) (R : Rel G base α h H) (np : H p = none)
    (q : Evo α h H α h (upd H p o) → p ∉ base ++ own α h → rep (base ++ own α h) α (upd H p o) v u) : Q u (upd H p o) :=
  let ⟨R', ev⟩ := R.laid (o := o) np
  P α u _ ev R' (q ev (R.avoids np))

/-! ### what is given over: it changes no more -/
theorem own_set_frz {p : Pv} : ∀ {α : List Addr} {h : Hh} {r : Nat} {b : Addr}, b ∈ own α (h.set r (.frz p)) → b ∈ own α h
  | [], _, _, _, m => by simp [own] at m
  | _ :: _, [], _, _, m => by simp [own] at m
  | x :: α, ob :: h, 0, b, m => by
    rw [List.set_cons_zero, own, if_pos (show (Ob.frz p).isFrz = true from rfl)] at m
    rw [own]
    split
    · exact m
    · exact List.mem_cons_of_mem _ m
  | x :: α, ob :: h, r + 1, b, m => by
    rw [List.set_cons_succ, own] at m
    rw [own]
    split at m
    · rename_i hf
      rw [if_pos hf]; exact own_set_frz m
    · rename_i hf
      rw [if_neg hf]
      rcases List.mem_cons.mp m with e | m
      · rw [e]; exact List.mem_cons_self
      · exact List.mem_cons_of_mem _ (own_set_frz m)
theorem nodup_at {l : List Addr} (hN : l.Nodup) {i j : Nat} {x : Addr} (a : l[i]? = some x) (b : l[j]? = some x) : i = j := by
  obtain ⟨h1, e1⟩ := List.getElem?_eq_some_iff.mp a
  obtain ⟨h2, e2⟩ := List.getElem?_eq_some_iff.mp b
  exact (List.getElem_inj hN).mp (e1.trans e2.symm)
/-- the object at place r is given over -/
theorem Rel.frz {G : Gx} {base α : List Addr} {h : Hh} {H : Hp} {r : Nat} {a : Addr} {p : Pv} (R : Rel G base α h H) (ea : α[r]? = some a) (hr : r < h.length)
    (q : ∀ av, a ∉ av → (∀ b o, H b = some o → b ∉ base ++ own α h → b ∉ av) → RepP G av H p (.ref a)) (nb : a ∉ base) :
    Rel G base α (h.set r (.frz p)) H ∧ Evo α h H α (h.set r (.frz p)) H ∧ RepP G (base ++ own α (h.set r (.frz p))) H p (.ref a) := by
  have ev : Evo α h H α (h.set r (.frz p)) H := ⟨⟨[], by simp⟩, fun _ _ e _ => e, fun b m => .inl (own_set_frz m)⟩
  have na : a ∉ base ++ own α (h.set r (.frz p)) := by
    rw [List.mem_append, not_or]
    refine ⟨nb, fun m => ?_⟩
    obtain ⟨r2, ob, e1, e2, e3⟩ := mem_own.mp m
    have := nodup_at R.nd ea e1
    subst this
    rw [List.getElem?_set_self hr] at e2
    cases e2
    cases e3
  have rp : RepP G (base ++ own α (h.set r (.frz p))) H p (.ref a) := q _ na fun b o e n => (ev.mono (base := base) b o e n).2
  refine ⟨⟨by rw [List.length_set]; exact R.len, R.nd, R.dis, R.bas, R.trk, fun r2 b x e1 e2 => ?_⟩, ev, rp⟩
  by_cases z : r = r2
  · subst z
    rw [ea] at e1
    cases e1
    rw [List.getElem?_set_self hr] at e2
    cases e2
    exact rp
  · rw [List.getElem?_set_ne z] at e2
    exact RepO.stay ev (fun _ => rfl) (R.obs r2 b x e1 e2)
def gives (g : Va → Hh → Option (Pv × Hh)) : List Va → Hh → Option (List Pv × Hh)
  | [], h => some ([], h)
  | v :: vs, h => match g v h with
    | some (p, h1) => match gives g vs h1 with
      | some (ps, h2) => some (p :: ps, h2)
      | none => none
    | none => none
def giveFs (g : Va → Hh → Option (Pv × Hh)) : List (Str × Va) → Hh → Option (List (Str × Pv) × Hh)
  | [], h => some ([], h)
  | v :: vs, h => match g v.2 h with
    | some (p, h1) => match giveFs g vs h1 with
      | some (ps, h2) => some ((v.1, p) :: ps, h2)
      | none => none
    | none => none
def giveN : Nat → Va → Hh → Option (Pv × Hh)
  | _, .pv p, h => some (p, h)
  | 0, .ref _, _ => none
  | n + 1, .ref r, h => match h[r]? with
    | some (.frz p) => some (p, h)
    | some (.lst xs) => match gives (giveN n) xs h with
      | some (ps, h1) => some (.lst ps, h1.set r (.frz (.lst ps)))
      | none => none
    | some (.ins c fs) => match giveFs (giveN n) fs h with
      | some (ps, h1) => some (.ins c ps, h1.set r (.frz (.ins c ps)))
      | none => none
    | _ => none
abbrev give := giveN 4
/-- what a giving tells -/
def GiveOk (g : Va → Hh → Option (Pv × Hh)) : Prop := ∀ (G : Gx) (base α : List Addr) (h : Hh) (H : Hp) (v : Va) (u : V) (p : Pv) (h' : Hh), g v h = some (p, h') → Rel G base α h H → RepV G (base ++ own α h) α H v u →
  Rel G base α h' H ∧ Evo α h H α h' H ∧ h'.length = h.length ∧ RepP G (base ++ own α h') H p u
theorem gives_ok {g : Va → Hh → Option (Pv × Hh)} (hg : GiveOk g) {G : Gx} {base α : List Addr} {H : Hp} : ∀ {vs : List Va} {h : Hh} {us : List V} {ps : List Pv} {h' : Hh}, gives g vs h = some (ps, h') → Rel G base α h H → RepVs G (base ++ own α h) α H vs us →
    Rel G base α h' H ∧ Evo α h H α h' H ∧ h'.length = h.length ∧ RepPs G (base ++ own α h') H ps us
  | [], h, us, ps, h', e, R, q => by
    cases e
    have q : us = [] := q
    exact ⟨R, .refl, rfl, repPs_nil.mpr q⟩
  | v :: vs, h, us, ps, h', e, R, q => by
    obtain ⟨u, r, e0, q1, q2⟩ := q
    rw [gives] at e
    split at e
    · rename_i p h1 e1
      obtain ⟨R1, x1, l1, r1⟩ := hg G base α h H v u p h1 e1 R q1
      split at e
      · rename_i qs h2 e2
        cases e
        obtain ⟨R2, x2, l2, r2⟩ := gives_ok hg e2 R1 (x1.vas q2)
        exact ⟨R2, x1.trans x2, l2.trans l1, repPs_cons.mpr ⟨u, r, e0, x2.pv r1, r2⟩⟩
      · cases e
    · cases e
theorem giveFs_ok {g : Va → Hh → Option (Pv × Hh)} (hg : GiveOk g) {G : Gx} {base α : List Addr} {H : Hp} : ∀ {vs : List (Str × Va)} {h : Hh} {us : List (Str × V)} {ps : List (Str × Pv)} {h' : Hh}, giveFs g vs h = some (ps, h') → Rel G base α h H → RepFV G (base ++ own α h) α H vs us →
    Rel G base α h' H ∧ Evo α h H α h' H ∧ h'.length = h.length ∧ RepFs G (base ++ own α h') H ps us
  | [], h, us, ps, h', e, R, q => by
    cases e
    have q : us = [] := q
    exact ⟨R, .refl, rfl, by rw [RepFs]; exact q⟩
  | v :: vs, h, us, ps, h', e, R, q => by
    obtain ⟨u, r, e0, q1, q2⟩ := q
    rw [giveFs] at e
    split at e
    · rename_i p h1 e1
      obtain ⟨R1, x1, l1, r1⟩ := hg G base α h H v.2 u p h1 e1 R q1
      split at e
      · rename_i qs h2 e2
        cases e
        obtain ⟨R2, x2, l2, r2⟩ := giveFs_ok hg e2 R1 (x1.fvs q2)
        exact ⟨R2, x1.trans x2, l2.trans l1, by rw [RepFs]; exact ⟨u, r, e0, x2.pv r1, r2⟩⟩
      · cases e
    · cases e
theorem giveN_ok : ∀ n, GiveOk (giveN n)
  | n, G, base, α, h, H, .pv q, u, p, h', e, R, r => by
    have e : some (q, h) = some (p, h') := by cases n <;> exact e
    cases e
    exact ⟨R, .refl, rfl, r⟩
  | 0, G, base, α, h, H, .ref k, u, p, h', e, R, r => by cases e
  | n + 1, G, base, α, h, H, .ref k, u, p, h', e, R, r => by
    obtain ⟨a, ea, rfl⟩ := r
    rw [giveN] at e
    split at e
    · rename_i q eq
      cases e
      exact ⟨R, .refl, rfl, R.obs _ _ _ ea eq⟩
    · rename_i xs eq
      split at e
      · rename_i ps h1 e1
        cases e
        obtain ⟨vs, eH, q1⟩ := R.obs _ _ _ ea eq
        obtain ⟨R1, x1, l1, r1⟩ := gives_ok (giveN_ok n) e1 R q1
        have hr : k < h1.length := by rw [l1]; exact (List.getElem?_eq_some_iff.mp eq).1
        obtain ⟨R2, x2, r2⟩ := R1.frz (p := .lst ps) ea hr (fun av na f => repP_lst.mpr ⟨a, vs, rfl, ⟨.inl eH, na⟩, RepPs.mono (fun b o e n => ⟨e, f b o e n⟩) r1⟩) (R.dis a (List.mem_of_getElem? ea))
        exact ⟨R2, x1.trans x2, by rw [List.length_set, l1], r2⟩
      · cases e
    · rename_i c fs eq
      split at e
      · rename_i ps h1 e1
        cases e
        obtain ⟨C, dx, gs, mC, eH, q1⟩ := R.obs _ _ _ ea eq
        obtain ⟨R1, x1, l1, r1⟩ := giveFs_ok (giveN_ok n) e1 R q1
        have hr : k < h1.length := by rw [l1]; exact (List.getElem?_eq_some_iff.mp eq).1
        obtain ⟨R2, x2, r2⟩ := R1.frz (p := .ins c ps) ea hr (fun av na f => repP_ins.mpr ⟨a, C, dx, gs, rfl, mC, eH, na, RepFs.mono (fun b o e n => ⟨e, f b o e n⟩) r1⟩) (R.dis a (List.mem_of_getElem? ea))
        exact ⟨R2, x1.trans x2, by rw [List.length_set, l1], r2⟩
      · cases e
    · cases e
theorem give_ok : GiveOk give := giveN_ok 4
theorem give_pv (p : Pv) (h : Hh) : give (.pv p) h = some (p, h) := rfl
theorem gives_pv (ps : List Pv) (h : Hh) : gives give (ps.map .pv) h = some (ps, h) := by
  induction ps with
  | nil => rfl
  | cons p ps ih => show (match gives give (ps.map .pv) h with | some (ps, h2) => some (p :: ps, h2) | none => none) = _; rw [ih]

/-! ### displays -/
/-- pure values alone -/
def allPv : List Va → Option (List Pv)
  | [] => some []
  | .pv p :: r => (allPv r).map (p :: ·)
  | _ :: _ => none
theorem allPv_eq : ∀ {vs : List Va} {ps : List Pv}, allPv vs = some ps → vs = ps.map .pv
  | [], ps, e => by cases e; rfl
  | .pv p :: r, ps, e => by
    unfold allPv at e
    obtain ⟨qs, e1, e2⟩ := Option.map_eq_some_iff.mp e
    rw [← e2, allPv_eq e1]; rfl
  | .ref _ :: _, _, e => by cases e
theorem allPv_map (ps : List Pv) : allPv (ps.map .pv) = some ps := by
  induction ps with
  | nil => rfl
  | cons p ps ih => show (allPv (ps.map .pv)).map (p :: ·) = _; rw [ih]; rfl
def mkSeq (mk : List Pv → Pv) (vs : List Va) (h : Hh) : Res Va := match gives give vs h with
  | some (ps, h1) => if ps.length ≤ 16777216 then .ok (.pv (mk ps)) h1 else .stuck
  | none => .stuck
def dTup (da : Da) : Dn := fun s h => (da s h).bind fun vs h1 => mkSeq .tup vs h1
def dLst (da : Da) : Dn := fun s h => (da s h).bind fun vs h1 => mkSeq .lst vs h1
section
variable {X : Cx} {E : XK} {es : List Expr} {da : Da} {pos : Pos}
/-- behind a giving -/
theorem Pst.gave {G : Gx} {base α : List Addr} {h h' : Hh} {H : Hp} {β γ : Type} {rep : Rp β γ} {v : β} {u : γ} {Q : γ → Hp → Prop} {p : Addr} {o : HO} (P : Pst G E base α h H rep (.ok v h') Q) (ev : Evo α h H α h' H) (R : Rel G base α h' H) (np : H p = none)
    (q : Evo α h' H α h' (upd H p o) → p ∉ base ++ own α h' → rep (base ++ own α h') α (upd H p o) v u) : Q u (upd H p o) := (Pst.step ev P).new R np q
theorem seq_rd {mk : List Pv → Pv} {mo : List V → HO} (hm : ∀ (G : Gx) av H p ps us, (upd H p (mo us)) p = some (mo us) → p ∉ av → RepPs G av (upd H p (mo us)) ps us → RepP G av (upd H p (mo us)) (mk ps) (.ref p)) :
    ∀ σ H Q, tG (gx X) E (rV (gx X)) (fun s h => (da s h).bind fun vs h1 => mkSeq mk vs h1) σ H Q → tG (gx X) E (rVs (gx X)) da σ H fun xs H1 => xs.length ≤ sizeLine ∧ ∀ p, H1 p = none → Q (.ref p) (upd H1 p (mo xs)) := by
  intro σ H Q ⟨base, α, s, h, R, S, P⟩
  refine ⟨base, α, s, h, R, S, Pst.bind P fun vs h1 α1 us H1 x1 R1 q1 P1 => ?_⟩
  unfold mkSeq at P1
  split at P1
  · rename_i ps h2 e2
    obtain ⟨R2, x2, _, q2⟩ := gives_ok give_ok e2 R1 q1
    split at P1
    · rename_i hl
      refine ⟨by rw [← q2.length, sizeLine_eq]; exact hl, fun p np => P1.gave x2 R2 np fun ev na => ?_⟩
      exact hm _ _ _ _ _ _ upd_same na (ev.pvs (G := gx X) q2)
    · exact P1.elim
  · exact P1.elim
theorem se_tup {k : Nat} (ha : SA X E es da) : SE X E (.Tuple es k pos) (dTup da) :=
  PE.imp (pe_tup ha) (seq_rd (mo := HO.tup) fun G av H p ps us e na q => repP_tup.mpr ⟨p, us, rfl, .inl ⟨.inl e, na⟩, q⟩)
theorem se_lst (ha : SA X E es da) : SE X E (.List es pos) (dLst da) :=
  PE.imp (pe_lst ha) (seq_rd (mo := HO.lst) fun G av H p ps us e na q => repP_lst.mpr ⟨p, us, rfl, ⟨.inl e, na⟩, q⟩)
end
end CI
namespace CI
open PySem PySem.Spec PyProof.Rows L2

/-! ### + -/
section
variable {X : Cx} {E : XK}
/-- a list that stands in H, for + -/
def rCatR : R2 := fun x y H Q => ∃ l b xs zs, x = .ref l ∧ y = .ref b ∧ Rd H l (.lst xs) ∧ Rd H b (.lst zs) ∧ xs.length + zs.length ≤ sizeLine ∧ ∀ p, H p = none → Q (.ref p) (upd H p (.lst (xs ++ zs)))
theorem op_catR : OpR X (binaryOp .Add) rCatR := by
  intro pins s σ H x y v u Q I rx ry hq
  obtain ⟨l, b, xs, zs, ex, ey, hl, hb, hz, q⟩ := hq
  subst ex ey
  cases rx; cases ry
  obtain ⟨z1, i1, n1, r1, g1⟩ := hl.ok I.hok
  obtain ⟨z2, i2, n2, r2, g2⟩ := hb.ok I.hok
  have l1 := r1.length
  have l2 := r2.length
  have sz : i1.toArray.size + i2.toArray.size ≤ sizeLine := by simp only [List.size_toArray]; omega
  refine PySem.P.add_list g1 g2 ?_ (by simpa using sz)
  rw [show i1.toArray ++ i2.toArray = (i1 ++ i2).toArray by simp]
  have hlen : (xs ++ zs).length ≤ sizeLine := by rw [List.length_append]; exact hz
  exact ⟨.ref s.heap.objs.size, _, I.lnew (t' := s.toks) (r1.append r2) hlen, rfl, q _ I.fresh⟩
/-- () + t -/
def lenOk2 {β : Type} (a b : List β) : Bool := decide (a.length + b.length ≤ 16777216)
def oAdd : Op2 := fun x y h => match x, y with
  | .pv (.int i), .pv (.int j) => .ok (.pv (.int (i + j))) h
  | .pv (.str a), .pv (.str b) => if a.length + b.length ≤ 16777216 then .ok (.pv (.str (a ++ b))) h else .stuck
  | .pv (.lst a), .pv (.lst b) => if lenOk2 a b then .ok (.pv (.lst (a ++ b))) h else .stuck
  | .pv (.tup a), .pv (.tup b) => if lenOk2 a b && !a.isEmpty then .ok (.pv (.tup (a ++ b))) h else .stuck
  | _, _ => .stuck
def rAddV (K : PySem.W.Frag) : R2 := fun x y H Q => (∃ i j, x = .int i ∧ y = .int j ∧ Q (.int (i + j)) H) ∨ (∃ i j, x = .str i ∧ y = .str j ∧ i.length + j.length ≤ sizeLine ∧ Q (.str (i ++ j)) H) ∨ rCatR x y H Q ∨ rCatT K x y H Q
theorem op_addV : OpR X (binaryOp .Add) (rAddV X.K) := OpR.or op_add (OpR.or op_add_str (OpR.or op_catR op_catT))
theorem oAdd_ok : OpS X E oAdd (rAddV X.K) := by
  intro base α h H x y u w Q R rx ry P
  unfold oAdd at P
  split at P
  · exact .inl ⟨_, _, rv_int.mp rx, rv_int.mp ry, P.same R (rv_int.mpr rfl)⟩
  · split at P
    · rename_i hl
      exact .inr (.inl ⟨_, _, rv_str.mp rx, rv_str.mp ry, by rw [sizeLine_eq]; exact hl, P.same R (rv_str.mpr rfl)⟩)
    · exact P.elim
  · split at P
    · rename_i hl
      obtain ⟨l, xs, e1, t1, q1⟩ := rv_lst.mp rx
      obtain ⟨b, zs, e2, t2, q2⟩ := rv_lst.mp ry
      refine .inr (.inr (.inl ⟨l, b, xs, zs, e1, e2, t1.1, t2.1, ?_, fun p np => P.new R np fun ev na => rv_lst.mpr ⟨p, _, rfl, ⟨.inl upd_same, na⟩, ev.pvs (G := gx X) (q1.append q2)⟩⟩))
      have := of_decide_eq_true hl
      rw [← q1.length, ← q2.length, sizeLine_eq]; exact this
    · exact P.elim
  · split at P
    · rename_i a b hl
      rw [Bool.and_eq_true] at hl
      obtain ⟨l, xs, e1, t1, q1⟩ := rv_tup.mp rx
      obtain ⟨b', zs, e2, t2, q2⟩ := rv_tup.mp ry
      have n1 := q1.length
      have n2 := q2.length
      have hz := of_decide_eq_true hl.1
      refine .inr (.inr (.inr ⟨l, b', xs, zs, e1, e2, t1.sq, t2.sq, fun z => ?_, by rw [← n1, ← n2, sizeLine_eq]; exact hz, fun z => ?_, fun z p np => ?_⟩))
      · subst z
        cases a with
        | nil => simp at hl
        | cons _ _ => simp at n1
      · subst z
        have hb : b = [] := by cases b with
          | nil => rfl
          | cons _ _ => simp at n2
        subst hb
        rw [List.append_nil] at P
        exact P.same R (by rw [e1] at rx; exact rx)
      · exact P.new R np fun ev na => rv_tup.mpr ⟨p, _, rfl, .inl ⟨.inl upd_same, na⟩, ev.pvs (G := gx X) (q1.append q2)⟩
    · exact P.elim
  · exact P.elim
theorem se_add {a b : Expr} {da db : Dn} {pos : Pos} (ha : SE X E a da) (hb : SE X E b db) : SE X E (.BinOp a .Add b pos) (dBin oAdd da db) := se_bin op_addV oAdd_ok ha hb

/-! ### comparisons of ints, texts -/
def oLt : Op2 := onInts (fun _ _ => true) fun i j => .bl (decide (i < j))
def oLe : Op2 := onInts (fun _ _ => true) fun i j => .bl (decide (i ≤ j))
def oGt : Op2 := onInts (fun _ _ => true) fun i j => .bl (decide (j < i))
def oGe : Op2 := onInts (fun _ _ => true) fun i j => .bl (decide (j ≤ i))
theorem oLt_ok : OpS X E oLt (rI0 fun i j => .bl (decide (i < j))) := onInts_ok0 fun _ _ _ _ _ => rv_bl.mpr rfl
theorem oLe_ok : OpS X E oLe (rI0 fun i j => .bl (decide (i ≤ j))) := onInts_ok0 fun _ _ _ _ _ => rv_bl.mpr rfl
theorem oGt_ok : OpS X E oGt (rI0 fun i j => .bl (decide (j < i))) := onInts_ok0 fun _ _ _ _ _ => rv_bl.mpr rfl
theorem oGe_ok : OpS X E oGe (rI0 fun i j => .bl (decide (j ≤ i))) := onInts_ok0 fun _ _ _ _ _ => rv_bl.mpr rfl

/-! ### == by data -/
end
mutual
def toD : Pv → Option PyData
  | .non => some .none
  | .bl b => some (.bool b)
  | .int i => some (.int i)
  | .str x => some (.str x)
  | .tup xs => (toDs xs).map .tuple
  | .lst xs => (toDs xs).map .list
  | .scr ns => some (.list (ns.map .int))
  | _ => none
def toDs : List Pv → Option (List PyData)
  | [] => some []
  | x :: xs => match toD x, toDs xs with
    | some d, some ds => some (d :: ds)
    | _, _ => none
end
mutual
theorem toD_ok {G : Gx} {av : List Addr} {H : Hp} : ∀ {p : Pv} {v : V} {d : PyData}, RepP G av H p v → toD p = some d → Dp G.K H v d
  | .non, v, d, r, e => by cases e; rw [repP_non.mp r]; exact .non
  | .bl b, v, d, r, e => by cases e; rw [repP_bl.mp r]; exact .bl _
  | .int b, v, d, r, e => by cases e; rw [repP_int.mp r]; exact .int _
  | .str b, v, d, r, e => by cases e; rw [repP_str.mp r]; exact .str _
  | .tup xs, v, d, r, e => by
    obtain ⟨a, vs, e1, t, q⟩ := repP_tup.mp r
    obtain ⟨ds, e2, e3⟩ := Option.map_eq_some_iff.mp e
    rw [e1, ← e3]
    exact .tup t.sq (toDs_ok q e2)
  | .lst xs, v, d, r, e => by
    obtain ⟨a, vs, e1, t, q⟩ := repP_lst.mp r
    obtain ⟨ds, e2, e3⟩ := Option.map_eq_some_iff.mp e
    rw [e1, ← e3]
    exact .lst t.sq (toDs_ok q e2)
  | .scr ns, v, d, r, e => by
    obtain ⟨a, e1, t⟩ := repP_scr.mp r
    cases e
    rw [e1]
    refine .lst t.sq ?_
    clear t r e1
    induction ns with
    | nil => exact .nil
    | cons n ns ih => exact .cons (.int n) ih
  | .ins c fs, v, d, r, e => by cases e
  | .fn c, v, d, r, e => by cases e
  | .ty c, v, d, r, e => by cases e
theorem toDs_ok {G : Gx} {av : List Addr} {H : Hp} : ∀ {p : List Pv} {v : List V} {d : List PyData}, RepPs G av H p v → toDs p = some d → DpAll G.K H v d
  | [], v, d, r, e => by cases e; rw [repPs_nil.mp r]; exact .nil
  | x :: xs, v, d, r, e => by
    obtain ⟨y, q, e1, r1, r2⟩ := repPs_cons.mp r
    rw [toDs] at e
    split at e
    · rename_i d0 ds h1 h2
      cases e
      rw [e1]
      exact .cons (toD_ok r1 h1) (toDs_ok r2 h2)
    · cases e
end
/-- a value's data, where it is some -/
def datOf (h : Hh) (v : Va) : Option PyData := match v with
  | .pv p => toD p
  | .ref r => match h[r]? with
    | some (.lst xs) => match allPv xs with
      | some ps => (toDs ps).map .list
      | none => none
    | some (.frz p) => toD p
    | _ => none
theorem datOf_ok {G : Gx} {base α : List Addr} {h : Hh} {H : Hp} (R : Rel G base α h H) {v : Va} {u : V} {d : PyData} (r : RepV G (base ++ own α h) α H v u) (e : datOf h v = some d) : Dp G.K H u d := by
  unfold datOf at e
  cases v with
  | pv p => exact toD_ok (show RepP G (base ++ own α h) H p u from r) e
  | ref n =>
    obtain ⟨a, ea, rfl⟩ := r
    dsimp only at e
    split at e
    · rename_i q
      split at e
      · rename_i ps hp
        obtain ⟨ds, e2, e3⟩ := Option.map_eq_some_iff.mp e
        obtain ⟨vs, e1, q1⟩ := R.obs _ _ _ ea q
        rw [allPv_eq hp] at q1
        rw [← e3]
        exact .lst (SqL.of e1) (toDs_ok (repVs_pv.mp q1) e2)
      · cases e
    · rename_i p q
      exact toD_ok (R.obs _ _ _ ea q) e
    · cases e
/-- two texts -/
def twoStr : Va → Va → Option (Str × Str)
  | .pv (.str a), .pv (.str b) => some (a, b)
  | _, _ => none
def oEqN (neg : Bool) : Op2 := fun x y h => match twoStr x y with
  | some q => .ok (.pv (.bl (if neg then !decide (q.1 = q.2) else decide (q.1 = q.2)))) h
  | none => match datOf h x, datOf h y with
    | some d, some e => if SeqAt.shaped d && SeqAt.shaped e then .ok (.pv (.bl (if neg then !PyData.eqv d e else PyData.eqv d e))) h else .stuck
    | _, _ => .stuck
theorem twoStr_is {x y : Va} {q : Str × Str} (h : twoStr x y = some q) : x = .pv (.str q.1) ∧ y = .pv (.str q.2) := by
  unfold twoStr at h
  split at h
  · cases h; exact ⟨rfl, rfl⟩
  · cases h
section
variable {X : Cx} {E : XK}
theorem oEq_ok : OpS X E (oEqN false) (fun x y H Q => rEq x y H Q ∨ rEqD X.K x y H Q) := by
  intro base α h H x y u w Q R rx ry P
  unfold oEqN at P
  split at P
  · rename_i q hq
    obtain ⟨rfl, rfl⟩ := twoStr_is hq
    rw [rv_str.mp rx, rv_str.mp ry]
    refine .inl ⟨rfl, P.same R (rv_bl.mpr ?_)⟩
    by_cases e : q.1 = q.2 <;> simp [e]
  · split at P
    · rename_i d e hd he
      split at P
      · rename_i hs
        rw [Bool.and_eq_true] at hs
        exact .inr ⟨d, e, datOf_ok R rx hd, datOf_ok R ry he, hs.1, hs.2, P.same R (rv_bl.mpr rfl)⟩
      · exact P.elim
    · exact P.elim
theorem oNe_ok : OpS X E (oEqN true) (fun x y H Q => rNe x y H Q ∨ rNeD X.K x y H Q) := by
  intro base α h H x y u w Q R rx ry P
  unfold oEqN at P
  split at P
  · rename_i q hq
    obtain ⟨rfl, rfl⟩ := twoStr_is hq
    rw [rv_str.mp rx, rv_str.mp ry]
    refine .inl ⟨rfl, P.same R (rv_bl.mpr ?_)⟩
    by_cases e : q.1 = q.2 <;> simp [e]
  · split at P
    · rename_i d e hd he
      split at P
      · rename_i hs
        rw [Bool.and_eq_true] at hs
        exact .inr ⟨d, e, datOf_ok R rx hd, datOf_ok R ry he, hs.1, hs.2, P.same R (rv_bl.mpr rfl)⟩
      · exact P.elim
    · exact P.elim
end
end CI
namespace CI
open PySem PySem.Spec PyProof.Rows L2

/-! ### which comparison -/
def cmpOp : CmpOp → Option Op2
  | .Lt => some oLt
  | .LtE => some oLe
  | .Gt => some oGt
  | .GtE => some oGe
  | .Eq => some (oEqN false)
  | .NotEq => some (oEqN true)
  | _ => none
theorem cmp_rule {X : Cx} {E : XK} {op : CmpOp} {f : Op2} (hr : X.A.units + 64 < cLine) (h : cmpOp op = some f) : (∃ r, OpR X (compareOp op) r ∧ OpS X E f r) ∧ op ≠ .In ∧ op ≠ .NotIn := by
  cases op <;> first | (cases h; done) | skip
  all_goals (injection h with h; subst h)
  · exact ⟨⟨_, OpR.or op_eq (op_eqD hr), oEq_ok⟩, nofun, nofun⟩
  · exact ⟨⟨_, OpR.or op_ne (op_neD hr), oNe_ok⟩, nofun, nofun⟩
  · exact ⟨⟨_, op_lt, oLt_ok⟩, nofun, nofun⟩
  · exact ⟨⟨_, op_le, oLe_ok⟩, nofun, nofun⟩
  · exact ⟨⟨_, op_gt, oGt_ok⟩, nofun, nofun⟩
  · exact ⟨⟨_, op_ge, oGe_ok⟩, nofun, nofun⟩
section
variable {X : Cx} {E : XK} {a b c : Expr} {da db dc : Dn} {pos : Pos}
theorem se_cmpO {op : CmpOp} {f : Op2} (hr : X.A.units + 64 < cLine) (h : cmpOp op = some f) (ha : SE X E a da) (hb : SE X E b db) : SE X E (.Compare a [op] [b] pos) (dBin f da db) := by
  obtain ⟨⟨r, h1, h2⟩, n1, n2⟩ := cmp_rule (E := E) hr h
  exact se_cmp h1 h2 ha hb (nomark b n1 n2)
theorem st_cmpO {op : CmpOp} {f : Op2} (hr : X.A.units + 64 < cLine) (h : cmpOp op = some f) (ha : SE X E a da) (hb : SE X E b db) : STt X E (.Compare a [op] [b] pos) (tVB (dBin f da db)) := by
  obtain ⟨⟨r, h1, h2⟩, n1, n2⟩ := cmp_rule (E := E) hr h
  exact st_cmp h1 h2 ha hb (nomark b n1 n2)
/-- a op b op' c -/
def dChn (f g : Op2) (da db dc : Dn) : Dn := fun s h => (da s h).bind fun x h1 => (db s h1).bind fun y h2 => (asB (f x y h2)).bind fun k h3 => if k then (dc s h3).bind fun z h4 => g y z h4 else .ok (.pv (.bl false)) h3
theorem chn_rd {f g : Op2} {r r' : R2} (hf : OpS X E f r) (hg : OpS X E g r') : ∀ σ H Q, tG (gx X) E (rV (gx X)) (dChn f g da db dc) σ H Q → tChain r r' (tG (gx X) E (rV (gx X)) da) (tG (gx X) E (rV (gx X)) db) (tG (gx X) E (rV (gx X)) dc) σ H Q := by
  intro σ H Q ⟨base, α, s, h, R, S, P⟩
  refine ⟨base, α, s, h, R, S, Pst.bind P fun x h1 α1 u H1 x1 R1 q1 P1 => ?_⟩
  refine ⟨base, α1, s, h1, R1, x1.sl S, Pst.bind P1 fun y h2 α2 u2 H2 x2 R2 q2 P2 => ?_⟩
  unfold asB at P2
  refine hf base α2 h2 H2 x y u u2 _ R2 (x2.va q1) q2 (Pst.bind (rep := rV (gx X)) (rep2 := rV (gx X)) (k := fun v h => (match v with | .pv (.bl b) => Res.ok b h | _ => .stuck).bind fun k h3 => if k then (dc s h3).bind fun z h4 => g y z h4 else .ok (.pv (.bl false)) h3) (Q2 := Q) ?_ fun v h3 α3 u3 H3 x3 R3 q3 P3 => ?_)
  · cases hz : f x y h2 <;> rw [hz] at P2 <;> exact P2
  · split at P3
    · rename_i k
      refine ⟨k, rv_bl.mp q3, ?_⟩
      have P3 : Pst (gx X) E base α3 h3 H3 (rV (gx X)) (if k then (dc s h3).bind fun z h4 => g y z h4 else .ok (.pv (.bl false)) h3) Q := P3
      cases k with
      | true =>
        rw [if_pos rfl] at P3 ⊢
        refine ⟨base, α3, s, h3, R3, (x1.trans (x2.trans x3)).sl S, Pst.bind P3 fun z h4 α4 u4 H4 x4 R4 q4 P4 => ?_⟩
        exact hg base α4 h4 H4 y z u2 u4 Q R4 ((x3.trans x4).va q2) q4 P4
      | false =>
        rw [if_neg (by decide)] at P3 ⊢
        exact P3.same R3 (rv_bl.mpr rfl)
    · exact P3.elim
theorem last_no {op op' : CmpOp} (h1 : op ≠ .In) (h2 : op ≠ .NotIn) (h3 : op' ≠ .In) (h4 : op' ≠ .NotIn) : lastMarks [op, op'] [b, c] = false := by
  have k1 := nomark b h1 h2
  have k2 := nomark c h3 h4
  first
    | (simp only [lastMarks, k1, k2]; done)
    | (cases op <;> cases op' <;> first | exact absurd rfl h1 | exact absurd rfl h2 | exact absurd rfl h3 | exact absurd rfl h4 | (cases c <;> rfl))
theorem se_chn {op op' : CmpOp} {f g : Op2} (hr : X.A.units + 64 < cLine) (h : cmpOp op = some f) (h' : cmpOp op' = some g) (ha : SE X E a da) (hb : SE X E b db) (hc : SE X E c dc) : SE X E (.Compare a [op, op'] [b, c] pos) (dChn f g da db dc) := by
  obtain ⟨⟨r, h1, h2⟩, n1, n2⟩ := cmp_rule (E := E) hr h
  obtain ⟨⟨r', h1', h2'⟩, n1', n2'⟩ := cmp_rule (E := E) hr h'
  exact PE.imp (pe_chain h1 h1' ha hb hc (last_no n1 n2 n1' n2')) (chn_rd h2 h2')
theorem st_chn {op op' : CmpOp} {f g : Op2} (hr : X.A.units + 64 < cLine) (h : cmpOp op = some f) (h' : cmpOp op' = some g) (ha : SE X E a da) (hb : SE X E b db) (hc : SE X E c dc) : STt X E (.Compare a [op, op'] [b, c] pos) (tVB (dChn f g da db dc)) := by
  obtain ⟨⟨r, h1, h2⟩, n1, n2⟩ := cmp_rule (E := E) hr h
  obtain ⟨⟨r', h1', h2'⟩, n1', n2'⟩ := cmp_rule (E := E) hr h'
  refine PT.imp (pt_chain h1 h1' ha hb hc (last_no n1 n2 n1' n2')) fun σ H Q q => ?_
  exact chn_rd h2 h2' σ H _ (vb_rd σ H Q q)

/-! ### is None, is not None -/
def oIsN (neg : Bool) : Va → Hh → Res Va := fun x h => match x with
  | .pv .non => .ok (.pv (.bl (!neg))) h
  | .pv (.bl _) | .pv (.int _) | .pv (.str _) | .pv (.tup _) | .pv (.lst _) | .pv (.ins _ _) => .ok (.pv (.bl neg)) h
  | .ref _ => .ok (.pv (.bl neg)) h
  | _ => .stuck
def dIsN (neg : Bool) (d : Dn) : Dn := fun s h => (d s h).bind fun x h1 => oIsN neg x h1
theorem isN_v {G : Gx} {base α : List Addr} {h : Hh} {H : Hp} {x : Va} {u : V} {neg : Bool} {r : Res Va} (q : RepV G (base ++ own α h) α H x u) (e : oIsN neg x h = r) (hs : r ≠ .stuck) :
    r = .ok (.pv (.bl (if neg then !decide (u = .non) else decide (u = .non)))) h := by
  subst e
  unfold oIsN at hs ⊢
  split at hs
  · rw [rv_non.mp q]; cases neg <;> rfl
  · rw [rv_bl.mp q]; cases neg <;> rfl
  · rw [rv_int.mp q]; cases neg <;> rfl
  · rw [rv_str.mp q]; cases neg <;> rfl
  · obtain ⟨a, vs, e, _⟩ := rv_tup.mp q
    rw [e]; cases neg <;> rfl
  · obtain ⟨a, vs, e, _⟩ := rv_lst.mp q
    rw [e]; cases neg <;> rfl
  · obtain ⟨a, C, dx, gs, e, _⟩ := rv_ins.mp q
    rw [e]; cases neg <;> rfl
  · obtain ⟨a, _, e⟩ := q
    rw [e]; cases neg <;> rfl
  · exact absurd rfl hs
theorem se_isN {neg : Bool} {j p} (ha : SE X E a da) : SE X E (.Compare a [if neg then .IsNot else .Is] [.Constant .none j p] pos) (dIsN neg da) := by
  have core : ∀ σ H Q, tG (gx X) E (rV (gx X)) (dIsN neg da) σ H Q → tG (gx X) E (rV (gx X)) da σ H fun x H1 => Q (.bl (if neg then !decide (x = .non) else decide (x = .non))) H1 := fun σ H Q ⟨base, α, s, h, R, S, P⟩ =>
    ⟨base, α, s, h, R, S, Pst.bind P fun x h1 α1 u H1 x1 R1 q1 P1 => by
      cases hz : oIsN neg x h1 with
      | stuck => rw [hz] at P1; exact P1.elim
      | ok v h2 =>
        have := isN_v q1 hz (fun z => nomatch z)
        rw [hz, this] at P1
        exact P1.same R1 (rv_bl.mpr rfl)
      | exc c fs h2 =>
        have := isN_v q1 hz (fun z => nomatch z)
        cases this⟩
  cases neg with
  | false => exact PE.imp (pe_cmp (pc_isN ha) rfl) core
  | true => exact PE.imp (pe_cmp (pc_notN ha) rfl) core
theorem st_isN {neg : Bool} {j p} (ha : SE X E a da) : STt X E (.Compare a [if neg then .IsNot else .Is] [.Constant .none j p] pos) (tVB (dIsN neg da)) := by
  have core : ∀ σ H Q, tG (gx X) E (rV (gx X)) (dIsN neg da) σ H Q → tG (gx X) E (rV (gx X)) da σ H fun x H1 => Q (.bl (if neg then !decide (x = .non) else decide (x = .non))) H1 := fun σ H Q ⟨base, α, s, h, R, S, P⟩ =>
    ⟨base, α, s, h, R, S, Pst.bind P fun x h1 α1 u H1 x1 R1 q1 P1 => by
      cases hz : oIsN neg x h1 with
      | stuck => rw [hz] at P1; exact P1.elim
      | ok v h2 =>
        have := isN_v q1 hz (fun z => nomatch z)
        rw [hz, this] at P1
        exact P1.same R1 (rv_bl.mpr rfl)
      | exc c fs h2 =>
        have := isN_v q1 hz (fun z => nomatch z)
        cases this⟩
  cases neg with
  | false => exact PT.imp (pt_cmp (pc_isN ha) rfl) fun σ H Q q => core σ H _ (vb_rd σ H Q q)
  | true => exact PT.imp (pt_cmp (pc_notN ha) rfl) fun σ H Q q => core σ H _ (vb_rd σ H Q q)

/-! ### -a -/
def dNeg (d : Dn) : Dn := fun s h => (d s h).bind fun x h1 => match x with
  | .pv (.int i) => .ok (.pv (.int (-i))) h1
  | _ => .stuck
theorem se_neg (ha : SE X E a da) : SE X E (.UnaryOp .USub a pos) (dNeg da) := by
  refine PE.imp (pe_un un_neg ha) fun σ H Q ⟨base, α, s, h, R, S, P⟩ => ?_
  refine ⟨base, α, s, h, R, S, Pst.bind P fun x h1 α1 u H1 x1 R1 q1 P1 => ?_⟩
  split at P1
  · exact ⟨_, rv_int.mp q1, P1.same R1 (rv_int.mpr rfl)⟩
  · exact P1.elim

/-! ### tests -/
def truth (h : Hh) : Va → Option Bool
  | .pv .non => some false
  | .pv (.bl b) => some b
  | .pv (.int i) => some (i != 0)
  | .pv (.str x) => if x.length ≤ 16777216 then some ((x.length : Int) != 0) else none
  | v => (rdl h v).map fun xs => !xs.isEmpty
theorem truth_ok {base α : List Addr} {h : Hh} {H : Hp} (R : Rel (gx X) base α h H) {v : Va} {u : V} {k : Bool} (r : RepV (gx X) (base ++ own α h) α H v u) (e : truth h v = some k) : TruV X.K u H k := by
  have key : ∀ xs : List Va, rdl h v = some xs → k = !xs.isEmpty → TruV X.K u H k := fun xs e1 e2 => by
    obtain ⟨a, vs, rfl, t, q⟩ := rdl_ok R r e1
    have hk : k = !vs.isEmpty := by
      rw [e2]
      have := q.length
      cases xs <;> cases vs <;> first | rfl | simp at this
    rcases t with t | t
    · exact .inl ⟨vs, t, hk⟩
    · exact .inr (.inl ⟨vs, t, hk⟩)
  unfold truth at e
  split at e
  · cases e; rw [rv_non.mp r]; rfl
  · cases e; rw [rv_bl.mp r]; rfl
  · cases e; rw [rv_int.mp r]; rfl
  · split at e
    · rename_i x hx
      cases e; rw [rv_str.mp r]; exact ⟨by rw [sizeLine_eq]; exact hx, rfl⟩
    · cases e
  · obtain ⟨xs, e1, e2⟩ := Option.map_eq_some_iff.mp e
    exact key xs e1 e2.symm
def tVal (d : Dn) : Dt := fun s h => (d s h).bind fun v h1 => match truth h1 v with
  | some k => .ok k h1
  | none => .stuck
def plainT : Expr → Bool
  | .Call .. | .Name .. | .Attribute .. | .Subscript .. | .Constant .. => true
  | _ => false
theorem st_tru {e : Expr} {d : Dn} (hp : plainT e = true) (h : SE X E e d) : STt X E e (tVal d) := by
  have he : ∀ whole, isTrue e X.env whole = (do let v ← whole; standAt e.pos; holding [v] (truthy v)) := by
    cases e <;> first | (intro _; rfl) | cases hp
  refine PT.imp (pt_truth h he) fun σ H Q ⟨base, α, s, h, R, S, P⟩ => ?_
  refine ⟨base, α, s, h, R, S, Pst.bind P fun x h1 α1 u H1 x1 R1 q1 P1 => ?_⟩
  split at P1
  · rename_i k hk
    exact ⟨k, truth_ok R1 q1 hk, P1.same R1 rfl⟩
  · exact P1.elim
def tNot (t : Dt) : Dt := fun s h => (t s h).bind fun k h1 => .ok (!k) h1
theorem st_not {ta : Dt} (ha : STt X E a ta) : STt X E (.UnaryOp .Not a pos) (tNot ta) := by
  refine PT.imp (pt_not ha) fun σ H Q ⟨base, α, s, h, R, S, P⟩ => ?_
  refine ⟨base, α, s, h, R, S, Pst.bind P fun k h1 α1 u H1 x1 R1 q1 P1 => ?_⟩
  have q1 : k = u := q1
  subst q1
  exact P1.same R1 rfl
/-- and, or: as a chain of tests -/
def tAnd (a b : Dt) : Dt := fun s h => (a s h).bind fun k h1 => if k then b s h1 else .ok false h1
def tOr (a b : Dt) : Dt := fun s h => (a s h).bind fun k h1 => if k then .ok true h1 else b s h1
def SW (X : Cx) (E : XK) (e : Expr) (d : Dt) : Prop := PW X e (tG (gx X) E rB d)
theorem SW.st {e : Expr} {d : Dt} (h : SW X E e d) : STt X E e d := PW.pt h
theorem sw_and1 {ta : Dt} (ha : STt X E a ta) : SW X E (.BoolOp .And [a] pos) ta := pw_and1 ha
theorem sw_or1 {ta : Dt} (ha : STt X E a ta) : SW X E (.BoolOp .Or [a] pos) ta := pw_or1 ha
theorem sw_and {ta tb : Dt} {rest : List Expr} (ha : STt X E a ta) (hb : SW X E (.BoolOp .And (b :: rest) pos) tb) : SW X E (.BoolOp .And (a :: b :: rest) pos) (tAnd ta tb) := by
  refine PW.imp (pw_and ha hb) fun σ H Q ⟨base, α, s, h, R, S, P⟩ => ?_
  refine ⟨base, α, s, h, R, S, Pst.bind P fun k h1 α1 u H1 x1 R1 q1 P1 => ?_⟩
  have q1 : k = u := q1
  subst q1
  cases k with
  | true => exact ⟨base, α1, s, h1, R1, x1.sl S, P1⟩
  | false => exact P1.same R1 rfl
theorem sw_or {ta tb : Dt} {rest : List Expr} (ha : STt X E a ta) (hb : SW X E (.BoolOp .Or (b :: rest) pos) tb) : SW X E (.BoolOp .Or (a :: b :: rest) pos) (tOr ta tb) := by
  refine PW.imp (pw_or ha hb) fun σ H Q ⟨base, α, s, h, R, S, P⟩ => ?_
  refine ⟨base, α, s, h, R, S, Pst.bind P fun k h1 α1 u H1 x1 R1 q1 P1 => ?_⟩
  have q1 : k = u := q1
  subst q1
  cases k with
  | false => exact ⟨base, α1, s, h1, R1, x1.sl S, P1⟩
  | true => exact P1.same R1 rfl
/-! as values: truths -/
def dAnd (a b : Dn) : Dn := fun s h => (asB (a s h)).bind fun k h1 => if k then b s h1 else .ok (.pv (.bl false)) h1
def dOr (a b : Dn) : Dn := fun s h => (asB (a s h)).bind fun k h1 => if k then .ok (.pv (.bl true)) h1 else b s h1
def dNot (a : Dn) : Dn := fun s h => (asB (a s h)).bind fun k h1 => .ok (.pv (.bl (!k))) h1
theorem vb_k {d : Dn} {k : Bool → Hh → Res Va} {base α : List Addr} {s : Sl} {h : Hh} {H : Hp} {σ : L2.St} {Q : VK} {Q1 : V → Hp → Prop} (R : Rel (gx X) base α h H) (S : RepS (gx X) (base ++ own α h) α H s σ) (P : Pst (gx X) E base α h H (rV (gx X)) ((asB (d s h)).bind k) Q)
    (f : ∀ b h1 α1 H1, Evo α h H α1 h1 H1 → Rel (gx X) base α1 h1 H1 → Pst (gx X) E base α1 h1 H1 (rV (gx X)) (k b h1) Q → Q1 (.bl b) H1) : Pst (gx X) E base α h H (rV (gx X)) (d s h) Q1 := by
  have P2 : Pst (gx X) E base α h H (rV (gx X)) ((d s h).bind fun v h => (match v with | .pv (.bl b) => Res.ok b h | _ => .stuck).bind k) Q := by
    unfold asB at P
    cases hz : d s h <;> rw [hz] at P <;> exact P
  refine Pst.bind P2 fun v h1 α1 u H1 x1 R1 q1 P1 => ?_
  split at P1
  · rw [rv_bl.mp q1]
    exact f _ h1 α1 H1 x1 R1 P1
  · exact P1.elim
theorem se_one {op} (h : SE X E a da) : SE X E (.BoolOp op [a] pos) da := pe_one h
theorem se_and {rest : List Expr} (ha : SE X E a da) (hb : SE X E (.BoolOp .And (b :: rest) pos) db) : SE X E (.BoolOp .And (a :: b :: rest) pos) (dAnd da db) := by
  refine PE.imp (pe_and ha hb) fun σ H Q ⟨base, α, s, h, R, S, P⟩ => ?_
  refine ⟨base, α, s, h, R, S, vb_k R S P fun k h1 α1 H1 x1 R1 P1 => ⟨k, rfl, ?_⟩⟩
  cases k with
  | true => exact ⟨base, α1, s, h1, R1, x1.sl S, P1⟩
  | false => exact P1.same R1 (rv_bl.mpr rfl)
theorem se_or {rest : List Expr} (ha : SE X E a da) (hb : SE X E (.BoolOp .Or (b :: rest) pos) db) : SE X E (.BoolOp .Or (a :: b :: rest) pos) (dOr da db) := by
  refine PE.imp (pe_or ha hb) fun σ H Q ⟨base, α, s, h, R, S, P⟩ => ?_
  refine ⟨base, α, s, h, R, S, vb_k R S P fun k h1 α1 H1 x1 R1 P1 => ⟨k, rfl, ?_⟩⟩
  cases k with
  | false => exact ⟨base, α1, s, h1, R1, x1.sl S, P1⟩
  | true => exact P1.same R1 (rv_bl.mpr rfl)
theorem se_not (ha : SE X E a da) : SE X E (.UnaryOp .Not a pos) (dNot da) := by
  refine PE.imp (pe_not ha) fun σ H Q ⟨base, α, s, h, R, S, P⟩ => ?_
  exact ⟨base, α, s, h, R, S, vb_k R S P fun k h1 α1 H1 x1 R1 P1 => ⟨k, rfl, P1.same R1 (rv_bl.mpr rfl)⟩⟩
/-- a if t else b -/
def dIf (t : Dt) (a b : Dn) : Dn := fun s h => (t s h).bind fun k h1 => if k then a s h1 else b s h1
theorem se_ife {t : Dt} (ht : STt X E c t) (ha : SE X E a da) (hb : SE X E b db) : SE X E (.IfExp c a b pos) (dIf t da db) := by
  refine PE.imp (pe_ifExp ht ha hb) fun σ H Q ⟨base, α, s, h, R, S, P⟩ => ?_
  refine ⟨base, α, s, h, R, S, Pst.bind P fun k h1 α1 u H1 x1 R1 q1 P1 => ?_⟩
  have q1 : k = u := q1
  subst q1
  cases k with
  | true => exact ⟨base, α1, s, h1, R1, x1.sl S, P1⟩
  | false => exact ⟨base, α1, s, h1, R1, x1.sl S, P1⟩

/-! ### a[i] -/
def plainI : Expr → Bool
  | .Slice .. | .Starred .. => false
  | _ => true
def oIdxS : Op2 := fun x y h => match y with
  | .pv (.int i) => match x with
    | .pv (.str z) => match atI z.cps.toList i with
      | some c => if z.length ≤ 16777216 then .ok (.pv (.str ⟨#[c]⟩)) h else .stuck
      | none => .stuck
    | x => match rdl h x with
      | some xs => match atI xs i with
        | some v => .ok v h
        | none => .stuck
      | none => .stuck
  | _ => .stuck
theorem atI_rep {G : Gx} {av α : List Addr} {H : Hp} {xs : List Va} {vs : List V} {i : Int} {x : Va} (q : RepVs G av α H xs vs) (e : atI xs i = some x) : ∃ u, atI vs i = some u ∧ RepV G av α H x u := by
  unfold atI at e ⊢
  rw [← q.length]
  obtain ⟨j, e1, e2⟩ := Option.bind_eq_some_iff.mp e
  obtain ⟨u, e3, r⟩ := q.get e2
  exact ⟨u, by rw [e1]; exact e3, r⟩
theorem oIdxS_ok : OpS X E oIdxS (rIx X.K) := by
  intro base α h H x y u w Q R rx ry P
  unfold oIdxS at P
  split at P
  · rename_i i
    have hw := rv_int.mp ry
    split at P
    · rename_i z
      split at P
      · rename_i c hc
        split at P
        · rename_i hz
          exact .inr (.inr ⟨z, i, c, rv_str.mp rx, hw, by rw [sizeLine_eq]; exact hz, hc, P.same R (rv_str.mpr rfl)⟩)
        · exact P.elim
      · exact P.elim
    · split at P
      · rename_i xs hxs
        split at P
        · rename_i v hv
          obtain ⟨a, vs, e, t, q⟩ := rdl_ok R rx hxs
          obtain ⟨y', e2, r⟩ := atI_rep q hv
          rcases t with t | t
          · exact .inl ⟨a, vs, i, y', e, hw, t, e2, P.same R r⟩
          · exact .inr (.inl ⟨a, vs, i, y', e, hw, t, e2, P.same R r⟩)
        · exact P.elim
      · exact P.elim
  · exact P.elim
/-! of a dict -/
def keyOf : Va → Option Key
  | .pv (.int i) => some (.inl i)
  | .pv (.str x) => some (.inr x)
  | _ => none
theorem keyOf_ok {G : Gx} {av α : List Addr} {H : Hp} {y : Va} {k : Key} {u : V} (e : keyOf y = some k) (r : RepV G av α H y u) : u = kV k := by
  unfold keyOf at e
  split at e
  · cases e; exact rv_int.mp r
  · cases e; exact rv_str.mp r
  · cases e
def vaL (kvs : List (Key × Va)) (k : Key) : Option Va := (kvs.find? fun kv => decide (kv.1 = k)).map (·.2)
theorem fv_val {G : Gx} {av α : List Addr} {H : Hp} {k : Key} {x : Va} : ∀ {kvs : List (Key × Va)} {ks : List (Key × V)}, RepFV G av α H kvs ks → vaL kvs k = some x → ∃ v, valV ks k = some v ∧ RepV G av α H x v
  | [], _, _, e => by cases e
  | p :: r, _, ⟨v, w, e0, q1, q2⟩, e => by
    subst e0
    unfold vaL at e
    by_cases z : p.1 = k
    · rw [List.find?_cons_of_pos (by simpa using z)] at e
      cases e
      exact ⟨v, valV_pos (p := (p.1, v)) z, q1⟩
    · rw [List.find?_cons_of_neg (by simpa using z)] at e
      obtain ⟨v', e1, q⟩ := fv_val q2 e
      exact ⟨v', (valV_neg (p := (p.1, v)) z).trans e1, q⟩
def rIxK : R2 := fun x y H Q => ∃ a kvs k v, x = .ref a ∧ Rd H a (.dK kvs) ∧ y = kV k ∧ valV kvs k = some v ∧ Q v H
theorem ix_dk {X : Cx} : IxR X rIxK := by
  intro value slice pins s σ H x y v u Q I rx ry h hs
  obtain ⟨a, kvs, k, r, rfl, e, rfl, l, q⟩ := h
  obtain rfl : v = Value.ref a := rx
  obtain ⟨z, hd, vs, rel, dd⟩ := dk_rd I.hok e
  obtain ⟨w', hw, rw'⟩ := RelO.some_of (v := r) (o := valueAt vs k) (by rw [← l]; exact rel.val k)
  exact PyProof.Rows.tail_any dd.typeIs PySem.F.slot_dict_getitem.lookup (wpAny_getItem_of (kV_is ry) dd.mapOf hw ⟨r, H, I.tok _, rw', q⟩) hs
def dctOf (h : Hh) : Va → Option (List (Key × Va))
  | .ref r => match h[r]? with
    | some (.dct kvs) => some kvs
    | _ => none
  | _ => none
theorem dctOf_ok {G : Gx} {base α : List Addr} {h : Hh} {H : Hp} {x : Va} {u : V} {kvs : List (Key × Va)} (e : dctOf h x = some kvs) (R : Rel G base α h H) (r : RepV G (base ++ own α h) α H x u) : ∃ a ks, u = .ref a ∧ H a = some (.dK ks) ∧ RepFV G (base ++ own α h) α H kvs ks := by
  unfold dctOf at e
  split at e
  · rename_i n
    obtain ⟨a, ea, rfl⟩ := r
    split at e
    · rename_i q
      cases e
      obtain ⟨ks, e1, q1⟩ := R.obs _ _ _ ea q
      exact ⟨a, ks, rfl, e1, q1⟩
    · cases e
  · cases e
def oIdx : Op2 := fun x y h => match dctOf h x with
  | some kvs => match (keyOf y).bind (vaL kvs) with
    | some v => .ok v h
    | none => .stuck
  | none => oIdxS x y h
theorem oIdx_ok : OpS X E oIdx (fun x y H Q => rIx X.K x y H Q ∨ rIxK x y H Q) := by
  intro base α h H x y u w Q R rx ry P
  unfold oIdx at P
  split at P
  · rename_i kvs e
    obtain ⟨a, ks, rfl, e1, q1⟩ := dctOf_ok e R rx
    split at P
    · rename_i v e2
      obtain ⟨k, e3, e4⟩ := Option.bind_eq_some_iff.mp e2
      obtain ⟨v', e5, q2⟩ := fv_val q1 e4
      exact .inr ⟨a, ks, k, v', rfl, .inl e1, keyOf_ok e3 ry, e5, P.same R q2⟩
    · exact P.elim
  · exact .inl (oIdxS_ok base α h H x y u w Q R rx ry P)
theorem plain_ix (h : plainI b = true) : PlainIx b := by
  intro o i
  cases b <;> first | rfl | cases h
theorem se_idx (hp : plainI b = true) (ha : SE X E a da) (hb : SE X E b db) : SE X E (.Subscript a b pos) (dBin oIdx da db) := PE.imp (pe_ix (ix_seq.or ix_dk) ha hb (plain_ix hp)) (bin_rd oIdx_ok)
end
end CI
namespace CI
open PySem PySem.Spec PyProof.Rows L2

/-- how a statement ends -/
inductive SR where
  | nx (s : Sl) (h : Hh) | rt (v : Va) (h : Hh) | bk (s : Sl) (h : Hh) | ct (s : Sl) (h : Hh)
  | exc (c : Str) (fs : List (Str × Pv)) (h : Hh) | stuck
abbrev Sn := Sl → Hh → SR
def PstS (G : Gx) (E : XK) (base α : List Addr) (h : Hh) (H : Hp) (r : SR) (D : Ends) : Prop :=
  match r with
  | .nx s' h' => ∀ α' σ' H', Evo α h H α' h' H' → Rel G base α' h' H' → RepS G (base ++ own α' h') α' H' s' σ' → D.nx σ' H'
  | .bk s' h' => ∀ α' σ' H', Evo α h H α' h' H' → Rel G base α' h' H' → RepS G (base ++ own α' h') α' H' s' σ' → D.bk σ' H'
  | .ct s' h' => ∀ α' σ' H', Evo α h H α' h' H' → Rel G base α' h' H' → RepS G (base ++ own α' h') α' H' s' σ' → D.ct σ' H'
  | .rt v h' => ∀ α' u H', Evo α h H α' h' H' → Rel G base α' h' H' → RepV G (base ++ own α' h') α' H' v u → D.rt u H'
  | .exc c fs h' => ∀ α' cls d H', Evo α h H α' h' H' → Rel G base α' h' H' → RepX G (base ++ own α' h') H' c fs cls d → E cls d H'
  | .stuck => False
section
variable {G : Gx} {E : XK} {base α α1 : List Addr} {h h1 : Hh} {H H1 : Hp} {D : Ends} {β γ : Type} {rep : Rp β γ}
theorem PstS.step (x : Evo α h H α1 h1 H1) {r : SR} (p : PstS G E base α h H r D) : PstS G E base α1 h1 H1 r D := by
  cases r with
  | nx s' h' => exact fun α' u H' y => p α' u H' (x.trans y)
  | bk s' h' => exact fun α' u H' y => p α' u H' (x.trans y)
  | ct s' h' => exact fun α' u H' y => p α' u H' (x.trans y)
  | rt s' h' => exact fun α' u H' y => p α' u H' (x.trans y)
  | exc c fs h' => exact fun α' cls d H' y => p α' cls d H' (x.trans y)
  | stuck => exact p
/-- an expression, then a statement's end -/
def sBind {β : Type} (r : Res β) (k : β → Hh → SR) : SR := match r with
  | .ok v h => k v h
  | .exc c fs h => .exc c fs h
  | .stuck => .stuck
theorem PstS.bind {r : Res β} {k : β → Hh → SR} {Q1 : γ → Hp → Prop} (p : PstS G E base α h H (sBind r k) D)
    (f : ∀ v h1 α1 u H1, Evo α h H α1 h1 H1 → Rel G base α1 h1 H1 → rep (base ++ own α1 h1) α1 H1 v u → PstS G E base α1 h1 H1 (k v h1) D → Q1 u H1) : Pst G E base α h H rep r Q1 := by
  cases r with
  | ok v h' => exact fun α' u H' x r q => f v h' α' u H' x r q (PstS.step x p)
  | exc c fs h' => exact p
  | stuck => exact p
/-- one statement, then the next -/
def sThen (r : SR) (k : Sl → Hh → SR) : SR := match r with
  | .nx s h => k s h
  | r => r
theorem PstS.seq {r : SR} {k : Sl → Hh → SR} {N : L2.St → Hp → Prop} (p : PstS G E base α h H (sThen r k) D)
    (f : ∀ s h1 α1 σ H1, Evo α h H α1 h1 H1 → Rel G base α1 h1 H1 → RepS G (base ++ own α1 h1) α1 H1 s σ → PstS G E base α1 h1 H1 (k s h1) D → N σ H1) : PstS G E base α h H r { D with nx := N } := by
  cases r with
  | nx s' h' => exact fun α' u H' x r q => f s' h' α' u H' x r q (PstS.step x p)
  | bk s' h' => exact p
  | ct s' h' => exact p
  | rt s' h' => exact p
  | exc c fs h' => exact p
  | stuck => exact p
theorem PstS.sameN {s : Sl} {σ : L2.St} (p : PstS G E base α h H (.nx s h) D) (R : Rel G base α h H) (S : RepS G (base ++ own α h) α H s σ) : D.nx σ H := p α σ H .refl R S
end
/-- the reading of a statement by d -/
def tN (G : Gx) (E : XK) (d : Sn) : TS := fun D σ H => ∃ base α s h, Rel G base α h H ∧ RepS G (base ++ own α h) α H s σ ∧ PstS G E base α h H (d s h) D
def SS (X : Cx) (E : XK) (st : Stmt) (d : Sn) : Prop := PS X st (tN (gx X) E d)
def SB (X : Cx) (E : XK) (st : List Stmt) (d : Sn) : Prop := PSs X st (tN (gx X) E d)

def sNil : Sn := fun s h => .nx s h
def sSeq (a b : Sn) : Sn := fun s h => sThen (a s h) b
def sExpr (d : Dn) : Sn := fun s h => sBind (d s h) fun _ h1 => .nx s h1
def sRet (d : Dn) : Sn := fun s h => sBind (d s h) fun v h1 => .rt v h1
def sRetN : Sn := fun _ h => .rt (.pv .non) h
def sIf (t : Dt) (a b : Sn) : Sn := fun s h => sBind (t s h) fun k h1 => if k then a s h1 else b s h1
def sBrk : Sn := fun s h => .bk s h
def sCnt : Sn := fun s h => .ct s h
section
variable {X : Cx} {E : XK} {st : Stmt} {rest : List Stmt} {a b : Sn} {e : Expr} {d : Dn} {pos : Pos}
theorem sb_nil : SB X E [] sNil := PSs.imp pss_nil fun D σ H ⟨base, α, s, h, R, S, P⟩ => P.sameN R S
theorem sb_cons (ha : SS X E st a) (hb : SB X E rest b) : SB X E (st :: rest) (sSeq a b) := by
  refine PSs.imp (pss_cons ha hb) fun D σ H ⟨base, α, s, h, R, S, P⟩ => ?_
  exact ⟨base, α, s, h, R, S, PstS.seq P fun s1 h1 α1 σ1 H1 x1 R1 S1 P1 => ⟨base, α1, s1, h1, R1, S1, P1⟩⟩
theorem sb_one (ha : SS X E st a) : SB X E [st] a := pss_one ha
theorem ss_pass : SS X E (.Pass pos) sNil := PS.imp ps_pass fun D σ H ⟨base, α, s, h, R, S, P⟩ => P.sameN R S
theorem ss_brk : SS X E (.Break pos) sBrk := PS.imp ps_break fun D σ H ⟨base, α, s, h, R, S, P⟩ => P α σ H .refl R S
theorem ss_cnt : SS X E (.Continue pos) sCnt := PS.imp ps_continue fun D σ H ⟨base, α, s, h, R, S, P⟩ => P α σ H .refl R S
theorem ss_doc {x j p} : SS X E (.Expr (.Constant (.str x) j p) pos) sNil := PS.imp ps_doc fun D σ H ⟨base, α, s, h, R, S, P⟩ => P.sameN R S
theorem ss_expr (he : SE X E e d) (hs : swapsWith e none pos.line X.env = pure false) : SS X E (.Expr e pos) (sExpr d) := by
  refine PS.imp (ps_expr he hs) fun D σ H ⟨base, α, s, h, R, S, P⟩ => ?_
  exact ⟨base, α, s, h, R, S, PstS.bind P fun v h1 α1 u H1 x1 R1 q1 P1 => P1.sameN R1 (x1.sl S)⟩
theorem ss_ret (he : SE X E e d) : SS X E (.Return (some e) pos) (sRet d) := by
  refine PS.imp (ps_ret he) fun D σ H ⟨base, α, s, h, R, S, P⟩ => ?_
  exact ⟨base, α, s, h, R, S, PstS.bind P fun v h1 α1 u H1 x1 R1 q1 P1 => P1 α1 u H1 .refl R1 q1⟩
theorem ss_retN : SS X E (.Return none pos) sRetN := PS.imp ps_retN fun D σ H ⟨base, α, s, h, R, S, P⟩ => P α V.non H .refl R (rv_non.mpr rfl)
theorem ss_if {t : Dt} {x y : List Stmt} {c : Expr} (ht : STt X E c t) (ha : SB X E x a) (hb : SB X E y b) : SS X E (.If c x y pos) (sIf t a b) := by
  refine PS.imp (ps_if ht ha hb) fun D σ H ⟨base, α, s, h, R, S, P⟩ => ?_
  refine ⟨base, α, s, h, R, S, PstS.bind P fun k h1 α1 u H1 x1 R1 q1 P1 => ?_⟩
  have q1 : k = u := q1
  subst q1
  cases k with
  | true => exact ⟨base, α1, s, h1, R1, x1.sl S, P1⟩
  | false => exact ⟨base, α1, s, h1, R1, x1.sl S, P1⟩
end

/-! ### targets -/
/-- a target: the slots that it may set, and how; the heap stays -/
structure Tg where
  slots : List Nat
  put : Va → Sl → Hh → Option Sl
def SameOff (vs : List Nat) (σ σ' : L2.St) : Prop := σ'.length = σ.length ∧ ∀ j, j ∉ vs → σ'[j]? = σ[j]?
def rdG (G : Gx) (t : Tg) : TG := fun u σ H Q => ∃ base α s h v, Rel G base α h H ∧ RepS G (base ++ own α h) α H s σ ∧ RepV G (base ++ own α h) α H v u ∧
  match t.put v s h with
  | some s' => ∀ σ', SameOff t.slots σ σ' → RepS G (base ++ own α h) α H s' σ' → Q σ' H
  | none => False
def STg (X : Cx) (tg : Expr) (t : Tg) : Prop := PG X tg (rdG (gx X) t)
def gNm (i : Nat) : Tg := ⟨[i], fun v s _ => some (s.set i (some v))⟩
theorem same_set {i : Nat} {σ : L2.St} {u : V} : SameOff [i] σ (σ.set i (some u)) := ⟨by rw [List.length_set], fun j hj => by rw [List.getElem?_set_ne]; intro z; exact hj (by rw [z]; exact List.mem_singleton.mpr rfl)⟩
theorem tg_name {X : Cx} {i : Nat} {x : Str} {pos : Pos} (hN : X.N.Nodup) (hi : X.N[i]? = some x) (hx : Loc X.env.scope x) (hf : X.fn x = true ∨ X.env.scope.names.lookup x = some .local) : STg X (.Name x pos) (gNm i) := by
  refine PG.imp (pg_name hN hi hx hf) fun u σ H Q ⟨base, α, s, h, v, R, S, q, P⟩ => ?_
  exact P _ same_set (S.set i q)
/-- several, one after another -/
structure Tgs where
  slots : List Nat
  put : List Va → Sl → Hh → Option Sl
def STgs (X : Cx) (tg : List Expr) (t : Tgs) : Prop := PGs X tg fun u σ H Q => ∃ base α s h v, Rel (gx X) base α h H ∧ RepS (gx X) (base ++ own α h) α H s σ ∧ RepVs (gx X) (base ++ own α h) α H v u ∧
  match t.put v s h with
  | some s' => ∀ σ', SameOff t.slots σ σ' → RepS (gx X) (base ++ own α h) α H s' σ' → Q σ' H
  | none => False
def gsNil : Tgs := ⟨[], fun v s _ => match v with
  | [] => some s
  | _ => none⟩
def gsCons (t : Tg) (r : Tgs) : Tgs := ⟨t.slots ++ r.slots, fun v s h => match v with
  | x :: xs => match t.put x s h with
    | some s1 => r.put xs s1 h
    | none => none
  | [] => none⟩
theorem SameOff.trans {a b : List Nat} {σ σ1 σ2 : L2.St} (h1 : SameOff a σ σ1) (h2 : SameOff b σ1 σ2) : SameOff (a ++ b) σ σ2 :=
  ⟨h2.1.trans h1.1, fun j hj => by rw [List.mem_append, not_or] at hj; exact (h2.2 j hj.2).trans (h1.2 j hj.1)⟩
section
variable {X : Cx}
theorem tgs_nil : STgs X [] gsNil := by
  refine PGs.imp pgs_nil fun u σ H Q ⟨base, α, s, h, v, R, S, q, P⟩ => ?_
  unfold gsNil at P
  cases v with
  | nil =>
    have q : u = [] := q
    exact ⟨q, P σ ⟨rfl, fun _ _ => rfl⟩ S⟩
  | cons x xs => exact P.elim
theorem assign_cons {e : Expr} {es : List Expr} {env : Env} (hn : notStar e = true) : (assignEach (e :: es) env).map (·.2) = assign e env :: (assignEach es env).map (·.2) := by
  cases e <;> first | rfl | cases hn
theorem tgs_cons {e : Expr} {es : List Expr} {t : Tg} {r : Tgs} (hn : notStar e = true) (ht : STg X e t) (hr : STgs X es r) : STgs X (e :: es) (gsCons t r) := by
  refine PGs.imp (pgs_cons ht hr (assign_cons hn)) fun u σ H Q ⟨base, α, s, h, v, R, S, q, P⟩ => ?_
  unfold gsCons at P
  cases v with
  | nil => exact P.elim
  | cons x xs =>
    obtain ⟨y, ys, e1, q1, q2⟩ := q
    refine ⟨y, ys, e1, base, α, s, h, x, R, S, q1, ?_⟩
    dsimp only at P
    cases hz : t.put x s h with
    | none => rw [hz] at P; exact P.elim
    | some s1 =>
      rw [hz] at P
      intro σ1 o1 S1
      refine ⟨base, α, s1, h, xs, R, S1, q2, ?_⟩
      cases hy : r.put xs s1 h with
      | none => dsimp only at P; rw [hy] at P; exact P.elim
      | some s2 =>
        dsimp only at P
        rw [hy] at P
        exact fun σ2 o2 S2 => P σ2 (o1.trans o2) S2
/-- the items of a tuple that is taken apart -/
def tupOf : Va → Option (List Va)
  | .pv (.tup ps) => some (ps.map .pv)
  | _ => none
def gTu (n : Nat) (r : Tgs) : Tg := ⟨r.slots, fun v s h => match tupOf v with
  | some xs => if xs.length = n then r.put xs s h else none
  | none => none⟩
theorem each_len {env : Env} : ∀ {es : List Expr}, es.all notStar = true → (assignEach es env).length = es.length ∧ (assignEach es env).findIdx? (·.1) = none
  | [], _ => ⟨rfl, rfl⟩
  | e :: es, h => by
    rw [List.all_cons, Bool.and_eq_true] at h
    obtain ⟨h1, h2⟩ := each_len (env := env) h.2
    have e0 : assignEach (e :: es) env = (false, assign e env) :: assignEach es env := by
      have hn := h.1
      cases e <;> first | rfl | cases hn
    rw [e0]
    refine ⟨by rw [List.length_cons, List.length_cons, h1], ?_⟩
    rw [List.findIdx?_cons]
    simp [h2]
theorem tg_tup {es : List Expr} {k : Nat} {r : Tgs} {pos : Pos} (hc : X.calm = true) (hs : es.all notStar = true) (hr : STgs X es r) : STg X (.Tuple es k pos) (gTu es.length r) := by
  have hl := each_len (env := X.env) hs
  refine PG.imp (pg_tup hc hr hl.1 hl.2) fun u σ H Q ⟨base, α, s, h, v, R, S, q, P⟩ => ?_
  unfold gTu at P
  dsimp only at P
  cases v with
  | ref n => exact P.elim
  | pv p =>
    cases p <;> first | exact P.elim | skip
    rename_i ps
    obtain ⟨a, vs, e1, t, q2⟩ := rv_tup.mp q
    have P : match (if (ps.map Va.pv).length = es.length then r.put (ps.map .pv) s h else none) with
      | some s' => ∀ σ', SameOff r.slots σ σ' → RepS (gx X) (base ++ own α h) α H s' σ' → Q σ' H
      | none => False := P
    by_cases hq : (ps.map Va.pv).length = es.length
    · rw [if_pos hq] at P
      refine ⟨a, vs, e1, t.sq, ?_, base, α, s, h, ps.map .pv, R, S, repVs_pv.mpr q2, P⟩
      rw [← hq, List.length_map, q2.length]
    · rw [if_neg hq] at P; exact P.elim
/-- target = value -/
def sAsg (t : Tg) (d : Dn) : Sn := fun s h => sBind (d s h) fun v h1 => match t.put v s h1 with
  | some s' => .nx s' h1
  | none => .stuck
theorem asg_rd {E : XK} {t : Tg} {d : Dn} {g : TG} (hg : ∀ u σ H Q, (∃ base α s h v, Rel (gx X) base α h H ∧ RepS (gx X) (base ++ own α h) α H s σ ∧ RepV (gx X) (base ++ own α h) α H v u ∧
      match t.put v s h with
      | some s' => ∀ σ', SameOff t.slots σ σ' → RepS (gx X) (base ++ own α h) α H s' σ' → Q σ' H
      | none => False) → g u σ H Q) : ∀ D σ H, tN (gx X) E (sAsg t d) D σ H → tAsg (tG (gx X) E (rV (gx X)) d) g D σ H := by
  intro D σ H ⟨base, α, s, h, R, S, P⟩
  refine ⟨base, α, s, h, R, S, PstS.bind P fun v h1 α1 u H1 x1 R1 q1 P1 => hg _ _ _ _ ⟨base, α1, s, h1, v, R1, x1.sl S, q1, ?_⟩⟩
  split at P1
  · rename_i s' hs'
    exact fun σ' _ S' => P1.sameN R1 S'
  · exact P1.elim
theorem ss_asg {E : XK} {tg e : Expr} {t : Tg} {d : Dn} {pos : Pos} (ht : STg X tg t) (he : SE X E e d) (hs : swapsWithSole [tg] e pos.line X.env = pure false) (hw : swappedStores [tg] e X.env = pure none) (hn : notStar tg = true) :
    SS X E (.Assign [tg] e pos) (sAsg t d) := PS.imp (ps_asg he ht hs hw (assign_cons hn)) (asg_rd fun _ _ _ _ q => q)
theorem ss_set {E : XK} {i : Nat} {x : Str} {e : Expr} {d : Dn} {pos pos' : Pos} (hN : X.N.Nodup) (hi : X.N[i]? = some x) (hx : Loc X.env.scope x) (hf : X.fn x = true ∨ X.env.scope.names.lookup x = some .local) (he : SE X E e d)
    (hs : swapsWith e (some (.Name x pos')) pos.line X.env = pure false) : SS X E (.Assign [.Name x pos'] e pos) (sAsg (gNm i) d) :=
  PS.imp (ps_set hN hi hx he hs hf) (asg_rd fun u σ H Q ⟨base, α, s, h, v, R, S, q, P⟩ => P _ same_set (S.set i q))
end
end CI
namespace CI
open PySem PySem.Spec PyProof.Rows L2

/-! ### a, b = x, y with plain local names -/
def isStar : Expr → Bool
  | .Starred .. => true
  | _ => false
def locName (sc : Scope) (line : Nat) : Expr → Option Str
  | .Name id pos => if sc.names.lookup id == some .local && pos.line == line then some id else none
  | _ => none
/-- how such a statement stores: some names: from the right, without a tuple -/
def swF (sc : Scope) (ts vs : List Expr) : Option (Option (List Str)) :=
  if !(ts.length == 2 || ts.length == 3) || vs.length != ts.length || false then some none
  else if vs.any isStar then some none
  else if (ts.filterMap (locName sc ((ts.head?.map (·.pos.line)).getD 0))).length != ts.length || (ts.filterMap (locName sc ((ts.head?.map (·.pos.line)).getD 0))).eraseDups.length != (ts.filterMap (locName sc ((ts.head?.map (·.pos.line)).getD 0))).length then some none
  else if vs.all (foldedForSure 8) then some none
  else if vs.all (constantsAlone 8) then none
  else some (some (ts.filterMap (locName sc ((ts.head?.map (·.pos.line)).getD 0))))
theorem swF_ok {env : Env} {ts vs : List Expr} {k k2 : Nat} {p p2 : Pos} {r : Option (List Str)} (hk : env.scope.kind = .function) (h : swF env.scope ts vs = some r) : swappedStores [.Tuple ts k p] (.Tuple vs k2 p2) env = pure r := by
  have hb : (env.blockKind != .function) = false := by unfold Env.blockKind; rw [hk]; rfl
  have e3 : (fun x => match x with | Expr.Name id pos => (if (env.kindOf id == some NameKind.local && pos.line == (ts.head?.map (·.pos.line)).getD 0) = true then some id else none) | _ => none) = locName env.scope ((ts.head?.map (·.pos.line)).getD 0) := by
    funext x; cases x <;> rfl
  have e4 : (fun x => match x with | Expr.Starred _ _ => true | _ => false) = isStar := by
    funext x; cases x <;> rfl
  unfold swF at h
  simp only [swappedStores]
  show (if _ then _ else _) = _
  rw [hb]
  split at h
  · rename_i hc
    cases h
    exact if_pos hc
  · rename_i hc
    refine (if_neg hc).trans ?_
    split at h
    · rename_i hc2
      cases h
      exact if_pos (by rw [← e4] at hc2; exact hc2)
    · rename_i hc2
      refine (if_neg (by rw [← e4] at hc2; exact hc2)).trans ?_
      rw [← e3] at h
      split at h
      · rename_i hc3
        cases h
        exact if_pos hc3
      · rename_i hc3
        refine (if_neg hc3).trans ?_
        split at h
        · rename_i hc4
          cases h
          exact if_pos hc4
        · rename_i hc4
          refine (if_neg hc4).trans ?_
          split at h
          · cases h
          · rename_i hc5
            cases h
            exact if_neg hc5
end CI
namespace CI
open PySem PySem.Spec PyProof.Rows L2

def isComp : Expr → Bool
  | .ListComp .. | .SetComp .. | .DictComp .. => true
  | _ => false
theorem noSwap {e : Expr} {t : Option Expr} {l : Nat} {env : Env} (h : isComp e = false) : swapsWith e t l env = pure false := by
  cases e <;> first | rfl | cases h
theorem noSwapSole {e : Expr} {ts : List Expr} {l : Nat} {env : Env} (h : isComp e = false) : swapsWithSole ts e l env = pure false := by
  unfold swapsWithSole
  split
  · exact noSwap h
  · rfl

/-- slots set, from the left -/
def setAll : List (Nat × Va) → Sl → Sl
  | [], s => s
  | (i, v) :: r, s => setAll r (s.set i (some v))
section
variable {X : Cx} {E : XK}
theorem stores_ok {pins : List (Addr × Obj)} {H : Hp} {α av : List Addr} {E0 : Value → Shared → Prop} (hN : X.N.Nodup) : ∀ (l : List (Str × Nat)) (xs : List Va) (vs : List V) (us : List Value) (s : Shared) (σ : L2.St) (sl : Sl) (Q : Unit → Shared → Prop), Inv X pins σ H s →
    (∀ p ∈ l, X.N[p.2]? = some p.1 ∧ X.env.scope.names.lookup p.1 = some .local) → Vals vs us → RepVs (gx X) av α H xs vs → xs.length = l.length → RepS (gx X) av α H sl σ →
    (∀ s' σ', Inv X pins σ' H s' → RepS (gx X) av α H (setAll ((l.map (·.2)).zip xs) sl) σ' → Q () s') →
    wpAny (model X.prog X.w) X.A (assignInOrder (l.map fun p v => bindName X.env p.1 v) us) Q E0 s
  | [], xs, vs, us, s, σ, sl, Q, I, _, rv, rx, hl, S, q => by
    cases xs with
    | cons _ _ => cases hl
    | nil =>
      have e : vs = [] := rx
      subst e
      cases rv
      exact assignInOrder_nil (q s σ I S)
  | (x, i) :: l, xs, vs, us, s, σ, sl, Q, I, hp, rv, rx, hl, S, q => by
    cases xs with
    | nil => cases hl
    | cons y ys =>
      obtain ⟨v, r, e, q1, q2⟩ := rx
      subst e
      cases rv with
      | cons r1 r2 =>
        obtain ⟨h1, h2⟩ := hp (x, i) List.mem_cons_self
        refine assignInOrder_cons (wpAny_bindName (store_ok I hN h1 (.inl h2) r1 (fun s1 I1 => ?_) (.inr h2)))
        exact stores_ok hN l ys r _ s1 _ (sl.set i (some y)) Q I1 (fun p hm => hp p (List.mem_cons_of_mem _ hm)) r2 q2 (by simpa using hl) (S.set i q1) q
/-- a, b = x, y -/
def sPar (is : List Nat) (da : Da) : Sn := fun s h => sBind (da s h) fun xs h1 => if xs.length = is.length ∧ xs.length ≤ 3 then .nx (setAll (is.reverse.zip xs.reverse) s) h1 else .stuck
theorem Vals.rev {vs : List V} {us : List Value} (h : Vals vs us) : Vals vs.reverse us.reverse := L2.Vals.reverse h
theorem RepVs.rev {G : Gx} {av α : List Addr} {H : Hp} : ∀ {xs : List Va} {vs : List V}, RepVs G av α H xs vs → RepVs G av α H xs.reverse vs.reverse
  | [], _, h => by cases h; rfl
  | x :: xs, _, ⟨v, r, e, h1, h2⟩ => by
    subst e
    rw [List.reverse_cons, List.reverse_cons]
    exact (RepVs.rev h2).append ⟨v, [], rfl, h1, rfl⟩
theorem ss_par {es : List Expr} {da : Da} {l : List (Str × Nat)} {ts : List Expr} {kt k2 : Nat} {pt pt2 pos : Pos} (hc : X.calm = true) (hN : X.N.Nodup) (hl : ∀ p ∈ l, X.N[p.2]? = some p.1 ∧ X.env.scope.names.lookup p.1 = some .local)
    (ha : SA X E es da) (hw : swappedStores [.Tuple ts kt pt] (.Tuple es k2 pt2) X.env = pure (some (l.map (·.1)))) : SS X E (.Assign [.Tuple ts kt pt] (.Tuple es k2 pt2) pos) (sPar (l.map (·.2)) da) := by
  refine ⟨fun pins s σ H D I hq => ?_⟩
  obtain ⟨base, α, sl, h, R, S, P⟩ := hq
  have hs : swapsWithSole [.Tuple ts kt pt] (.Tuple es k2 pt2) pos.line X.env = pure false := rfl
  rw [exec_Assign_arm, hs]
  refine wpAny_bind (wpAny_standAt (wpAny_bind (wpAny_pure ?_)))
  rw [if_neg (by decide), hw]
  have ha' : tG (gx X) E (rVs (gx X)) da σ H (fun vs H1 => ∃ xs h1 α1, Rel (gx X) base α1 h1 H1 ∧ RepS (gx X) (base ++ own α1 h1) α1 H1 sl σ ∧ RepVs (gx X) (base ++ own α1 h1) α1 H1 xs vs ∧ xs.length = (l.map (·.2)).length ∧ xs.length ≤ 3 ∧
      PstS (gx X) E base α1 h1 H1 (.nx (setAll ((l.map (·.2)).reverse.zip xs.reverse) sl) h1) D) := by
    refine ⟨base, α, sl, h, R, S, PstS.bind P fun xs h1 α1 us H1 x1 R1 q1 P1 => ?_⟩
    split at P1
    · rename_i hz
      exact ⟨xs, h1, α1, R1, x1.sl S, q1, hz.1, hz.2, P1⟩
    · exact P1.elim
  refine wpAny_bind (Tuple_ (thn (ha.run _ pins s σ H _ I ha') fun us s1 hq1 => ?_))
  obtain ⟨vs, H1, I1, rv, xs, h1, α1, R1, S1, q1, n1, n3, P1⟩ := hq1
  have lv := q1.length
  have lu := rv.length
  have n3' : us.length ≤ sizeLine := by rw [sizeLine_eq]; omega
  refine wpAny_newObj_type ?_ n3'
  have I2 : Inv X pins σ H1 { s1 with heap := s1.heap.push { cls := .type "tuple", data := .seq us.toArray } } := I1.kept (t' := s1.toks) fun b o e => Heap.get?_push_of_some _ e
  refine wpAny_bind (wpAny_pure ?_)
  unfold assignStores
  dsimp only
  have hlen : (l.map (·.1)).length = us.toArray.size := by
    rw [List.size_toArray, List.length_map, ← lu, ← lv, n1, List.length_map]
  refine wpAny_bind (wpAny_rule (wpAny_bind ?_))
  rw [hlen]
  refine unpackItems_tuple (I.ok.hd hc) (IsTup.new s1.heap _) fun h' hx => ?_
  have I3 := I2.kept (h' := h') (t' := s1.toks) fun b o e => hx b o (Nat.ne_of_lt (Heap.lt_size e)) e
  refine wpAny_bind ?_
  have em : ((l.map (·.1)).reverse.map fun n => bindName X.env n) = l.reverse.map fun p v => bindName X.env p.1 v := by
    rw [← List.map_reverse, List.map_map]; rfl
  rw [em]
  refine stores_ok hN l.reverse xs.reverse vs.reverse us.toArray.toList.reverse _ σ sl _ I3 (fun p hp => hl p (List.mem_reverse.mp hp)) (by simpa using Vals.rev rv) q1.rev (by simpa using n1) S1 fun s' σ' I' S' => ?_
  refine wpAny_pure ⟨σ', H1, I', ?_⟩
  rw [List.map_reverse] at S'
  exact P1.sameN R1 S'

/-! ### o[i] = v -/
theorem Rel.write {G : Gx} {base α : List Addr} {h : Hh} {H : Hp} {r : Nat} {a : Addr} {ob ob' : Ob} {o : HO} (R : Rel G base α h H) (ea : α[r]? = some a) (eb : h[r]? = some ob) (hf : ob.isFrz = false) (hf' : ob'.isFrz = false)
    (q : Evo α h H α (h.set r ob') (upd H a o) → RepO G (base ++ own α (h.set r ob')) α (upd H a o) a ob') : Rel G base α (h.set r ob') (upd H a o) ∧ Evo α h H α (h.set r ob') (upd H a o) := by
  have hr : r < h.length := (List.getElem?_eq_some_iff.mp eb).1
  have own_eq : own α (h.set r ob') = own α h := by
    have : ∀ (α : List Addr) (h : Hh) (r : Nat), h[r]? = some ob → own α (h.set r ob') = own α h := by
      intro α
      induction α with
      | nil => intro h r _; cases h <;> simp [own]
      | cons b α ih =>
        intro h r e
        cases h with
        | nil => simp at e
        | cons c h =>
          cases r with
          | zero =>
            simp at e
            subst e
            rw [List.set_cons_zero, own, own, hf, hf']
          | succ r =>
            rw [List.set_cons_succ, own, own, ih h r (by simpa using e)]
    exact this α h r eb
  have mo : a ∈ own α h := mem_own.mpr ⟨r, ob, ea, eb, hf⟩
  have ev : Evo α h H α (h.set r ob') (upd H a o) := by
    refine ⟨⟨[], by simp⟩, fun b u e n => ?_, fun b m => ?_⟩
    · rw [upd_ne (fun z => n (by rw [z]; exact mo))]; exact e
    · rw [own_eq] at m; exact .inl m
  have up : ∀ {b}, H b ≠ none → upd H a o b ≠ none := fun {b} this => by
    by_cases z : b = a
    · rw [z, upd_same]; exact fun q => nomatch q
    · rw [upd_ne z]; exact this
  refine ⟨⟨by rw [List.length_set]; exact R.len, R.nd, R.dis, fun b m => up (R.bas b m), fun b m => up (R.trk b m), fun r2 b x e1 e2 => ?_⟩, ev⟩
  · by_cases z : r = r2
    · subst z
      rw [ea] at e1
      cases e1
      rw [List.getElem?_set_self hr] at e2
      cases e2
      exact q ev
    · rw [List.getElem?_set_ne z] at e2
      have nb : b ≠ a := by
        rintro rfl
        exact z (nodup_at R.nd ea e1)
      exact RepO.stay ev (fun _ => upd_ne nb) (R.obs r2 b x e1 e2)
/-- a list's item is put -/
def oSetL (o i v : Va) (h : Hh) : Option Hh := match o, i with
  | .ref r, .pv (.int k) => match h[r]? with
    | some (.lst xs) => match ixN xs.length k with
      | some j => some (h.set r (.lst (xs.set j v)))
      | none => none
    | _ => none
  | _, _ => none
/-- a dict's key is put -/
def putV (kvs : List (Key × Va)) (k : Key) (v : Va) : List (Key × Va) :=
  if (kvs.any fun kv => decide (kv.1 = k)) = true then kvs.map (fun kv => if kv.1 = k then (kv.1, v) else kv) else kvs ++ [(k, v)]
theorem fv_len {κ : Type} {G : Gx} {av α : List Addr} {H : Hp} : ∀ {kvs : List (κ × Va)} {ks : List (κ × V)}, RepFV G av α H kvs ks → kvs.length = ks.length
  | [], _, h => by cases h; rfl
  | p :: r, _, ⟨v, w, e, _, q⟩ => by rw [e, List.length_cons, List.length_cons, fv_len q]
theorem fv_put {G : Gx} {av α : List Addr} {H : Hp} {k : Key} {x : Va} {v : V} (hx : RepV G av α H x v) {kvs : List (Key × Va)} {ks : List (Key × V)} (q : RepFV G av α H kvs ks) : RepFV G av α H (putV kvs k x) (putK ks k v) := by
  have any : ∀ {kvs : List (Key × Va)} {ks : List (Key × V)}, RepFV G av α H kvs ks → (kvs.any fun kv => decide (kv.1 = k)) = (ks.any fun kv => decide (kv.1 = k)) := by
    intro kvs
    induction kvs with
    | nil => rintro ks h; cases h; rfl
    | cons p r ih =>
      rintro ks ⟨v, w, e, _, q⟩
      subst e
      rw [List.any_cons, List.any_cons, ih q]
  have mp : ∀ {kvs : List (Key × Va)} {ks : List (Key × V)}, RepFV G av α H kvs ks → RepFV G av α H (kvs.map fun kv => if kv.1 = k then (kv.1, x) else kv) (ks.map fun kv => if kv.1 = k then (kv.1, v) else kv) := by
    intro kvs
    induction kvs with
    | nil => rintro ks h; cases h; rfl
    | cons p r ih =>
      rintro ks ⟨v', w, e, q1, q⟩
      subst e
      rw [List.map_cons, List.map_cons]
      by_cases z : p.1 = k
      · rw [if_pos z, if_pos z]
        exact ⟨v, _, rfl, hx, ih q⟩
      · rw [if_neg z, if_neg z]
        exact ⟨v', _, rfl, q1, ih q⟩
  have sn : ∀ {kvs : List (Key × Va)} {ks : List (Key × V)}, RepFV G av α H kvs ks → RepFV G av α H (kvs ++ [(k, x)]) (ks ++ [(k, v)]) := by
    intro kvs
    induction kvs with
    | nil => rintro ks h; cases h; exact ⟨v, [], rfl, hx, rfl⟩
    | cons p r ih =>
      rintro ks ⟨v', w, e, q1, q⟩
      subst e
      exact ⟨v', _, rfl, q1, ih q⟩
  unfold putV putK
  rw [any q]
  split
  · exact mp q
  · exact sn q
def oSetD (o i v : Va) (h : Hh) : Option Hh := match o with
  | .ref r => match h[r]?, keyOf i with
    | some (.dct kvs), some k => if kvs.length < 16777216 then some (h.set r (.dct (putV kvs k v))) else none
    | _, _ => none
  | _ => none
def rSetK : TSet := fun o i v H Q => ∃ a kvs k, o = .ref a ∧ H a = some (.dK kvs) ∧ i = kV k ∧ kvs.length < sizeLine ∧ Q (upd H a (.dK (putK kvs k v)))
theorem set_dk {X : Cx} (hu : X.A.units + 1 < cLine) : PSet X rSetK := by
  intro pins s σ H o i v ov iv u Q I ro ri rv h
  obtain ⟨a, kvs, k, rfl, e, rfl, l, q⟩ := h
  obtain rfl : ov = Value.ref a := ro
  exact d_setItem hu I (.inl ⟨kvs, k, e, rfl, l, rfl⟩) ri rv fun s' I' => ⟨_, I', q⟩
theorem setD_rd {X : Cx} {base α : List Addr} {h h' : Hh} {H : Hp} {x y v : Va} {u1 u2 u3 : V} {Q : Hp → Prop} (R : Rel (gx X) base α h H) (r1 : RepV (gx X) (base ++ own α h) α H x u1) (r2 : RepV (gx X) (base ++ own α h) α H y u2) (r3 : RepV (gx X) (base ++ own α h) α H v u3)
    (e : oSetD x y v h = some h') (q : ∀ H', Evo α h H α h' H' → Rel (gx X) base α h' H' → Q H') : rSetK u1 u2 u3 H Q := by
  unfold oSetD at e
  split at e
  · rename_i r
    obtain ⟨a, ea, rfl⟩ := r1
    split at e
    · rename_i kvs k hx hk
      split at e
      · rename_i hl
        cases e
        obtain ⟨ks, e1, q1⟩ := R.obs _ _ _ ea hx
        refine ⟨a, ks, k, rfl, e1, keyOf_ok hk r2, by rw [sizeLine_eq, ← fv_len q1]; exact hl, ?_⟩
        have key := R.write (o := .dK (putK ks k u3)) (ob' := .dct (putV kvs k v)) ea hx rfl rfl fun ev => ⟨_, upd_same, fv_put (ev.va (G := gx X) r3) (ev.fvs (G := gx X) q1)⟩
        exact q _ key.2 key.1
      · cases e
    · cases e
  · cases e
def oSetI (o i v : Va) (h : Hh) : Option Hh := match dctOf h o with
  | some _ => oSetD o i v h
  | none => oSetL o i v h
theorem PSet.or {X : Cx} {t t' : TSet} (h : PSet X t) (h' : PSet X t') : PSet X (fun o i v H Q => t o i v H Q ∨ t' o i v H Q) := fun pins s σ H o i v ov iv u Q I ro ri rv q => by
  rcases q with q | q
  · exact h pins s σ H o i v ov iv u Q I ro ri rv q
  · exact h' pins s σ H o i v ov iv u Q I ro ri rv q
/-- o[i] = v: v first -/
def sSetI (d o i : Dn) : Sn := fun s h => sBind (d s h) fun v h1 => sBind (o s h1) fun x h2 => sBind (i s h2) fun y h3 => match oSetI x y v h3 with
  | some h4 => .nx s h4
  | none => .stuck
theorem setL_rd {base α : List Addr} {h h' : Hh} {H : Hp} {x y v : Va} {u1 u2 u3 : V} {Q : Hp → Prop} (R : Rel (gx X) base α h H) (r1 : RepV (gx X) (base ++ own α h) α H x u1) (r2 : RepV (gx X) (base ++ own α h) α H y u2) (r3 : RepV (gx X) (base ++ own α h) α H v u3)
    (e : oSetL x y v h = some h') (q : ∀ H', Evo α h H α h' H' → Rel (gx X) base α h' H' → Q H') : rSetL u1 u2 u3 H Q := by
  unfold oSetL at e
  split at e
  · rename_i r k
    obtain ⟨a, ea, rfl⟩ := r1
    split at e
    · rename_i xs hx
      split at e
      · rename_i j hj
        cases e
        obtain ⟨vs, e1, q1⟩ := R.obs _ _ _ ea hx
        have hlen := q1.length
        refine ⟨a, vs, k, j, rfl, rv_int.mp r2, e1, by rw [← hlen]; exact hj, ?_⟩
        have key := R.write (o := .lst (vs.set j u3)) (ob' := .lst (xs.set j v)) ea hx rfl rfl fun ev => ⟨_, upd_same, (ev.vas (G := gx X) q1).set j (ev.va (G := gx X) r3)⟩
        exact q _ key.2 key.1
      · cases e
    · cases e
  · cases e
theorem ss_setI {eo ei e : Expr} {d o i : Dn} {p pos : Pos} (hp : plainI ei = true) (he : SE X E e d) (ho : SE X E eo o) (hi : SE X E ei i) (hn : isComp e = false) (hu : X.A.units + 1 < cLine) : SS X E (.Assign [.Subscript eo ei p] e pos) (sSetI d o i) := by
  refine PS.imp (ps_asg he (pg_sub ho hi (PSet.or set_list (set_dk hu)) ?_) (noSwapSole hn) (by cases e <;> rfl)) fun D σ H ⟨base, α, s, h, R, S, P⟩ => ?_
  · intro v
    cases ei <;> first | rfl | cases hp
  · refine ⟨base, α, s, h, R, S, PstS.bind P fun v h1 α1 u1 H1 x1 R1 q1 P1 => ?_⟩
    refine ⟨base, α1, s, h1, R1, x1.sl S, PstS.bind P1 fun x h2 α2 u2 H2 x2 R2 q2 P2 => ?_⟩
    refine ⟨base, α2, s, h2, R2, (x1.trans x2).sl S, PstS.bind P2 fun y h3 α3 u3 H3 x3 R3 q3 P3 => ?_⟩
    split at P3
    · rename_i h4 e4
      unfold oSetI at e4
      split at e4
      · exact .inr (setD_rd R3 (x3.va q2) q3 ((x2.trans x3).va q1) e4 fun H4 ev R4 => P3 α3 σ H4 ev R4 ((x1.trans (x2.trans (x3.trans ev))).sl S))
      · exact .inl (setL_rd R3 (x3.va q2) q3 ((x2.trans x3).va q1) e4 fun H4 ev R4 => P3 α3 σ H4 ev R4 ((x1.trans (x2.trans (x3.trans ev))).sl S))
    · exact P3.elim

/-! ### while -/
/-- behind a turn -/
def turnEnd (r : SR) (k : Sn) : SR := match r with
  | .nx s h => k s h
  | .ct s h => k s h
  | .bk s h => .nx s h
  | .rt v h => .rt v h
  | .exc c fs h => .exc c fs h
  | .stuck => .stuck
def whS (t : Dt) (b k : Sn) : Sn := fun s h => sBind (t s h) fun q h1 => if q then turnEnd (b s h1) k else .nx s h1
def whN (t : Dt) (b : Sn) : Nat → Sn
  | 0 => fun _ _ => .stuck
  | n + 1 => whS t b (whN t b n)
/-- while: the answer that some number of turns gives -/
noncomputable def sWhl (t : Dt) (b : Sn) : Sn := fun s h => open Classical in if q : ∃ n, whN t b n s h ≠ .stuck then whN t b q.choose s h else .stuck
theorem whS_congr {t : Dt} {b k k' : Sn} {s : Sl} {h : Hh} (f : ∀ s' h', k s' h' ≠ .stuck → k' s' h' = k s' h') (hs : whS t b k s h ≠ .stuck) : whS t b k' s h = whS t b k s h := by
  unfold whS at hs ⊢
  cases ht : t s h with
  | stuck => rfl
  | exc c fs h' => rfl
  | ok q h1 =>
    rw [ht] at hs
    simp only [sBind] at hs ⊢
    cases q with
    | false => rfl
    | true =>
      simp only [if_true] at hs ⊢
      cases hb : b s h1 with
      | nx s2 h2 => rw [hb] at hs; exact f s2 h2 hs
      | ct s2 h2 => rw [hb] at hs; exact f s2 h2 hs
      | bk s2 h2 => rfl
      | rt v h2 => rfl
      | exc c fs h2 => rfl
      | stuck => rfl
theorem whN_more {t : Dt} {b : Sn} : ∀ {n m : Nat} {s : Sl} {h : Hh}, n ≤ m → whN t b n s h ≠ .stuck → whN t b m s h = whN t b n s h
  | 0, m, s, h, _, hs => absurd rfl hs
  | n + 1, 0, s, h, hm, _ => by omega
  | n + 1, m + 1, s, h, hm, hs => whS_congr (k := whN t b n) (k' := whN t b m) (fun s' h' q => whN_more (by omega) q) hs
theorem sWhl_of {t : Dt} {b : Sn} {n : Nat} {s : Sl} {h : Hh} {r : SR} (e : whN t b n s h = r) (hr : r ≠ .stuck) : sWhl t b s h = r := by
  have q : ∃ n, whN t b n s h ≠ .stuck := ⟨n, by rw [e]; exact hr⟩
  unfold sWhl
  rw [dif_pos q]
  have h1 := whN_more (Nat.le_max_left n q.choose) (by rw [e]; exact hr)
  have h2 := whN_more (Nat.le_max_right n q.choose) q.choose_spec
  rw [← h2, h1, e]
theorem sWhl_is {t : Dt} {b : Sn} {s : Sl} {h : Hh} (hr : sWhl t b s h ≠ .stuck) : ∃ n, whN t b n s h = sWhl t b s h := by
  unfold sWhl at hr ⊢
  split
  · rename_i q; exact ⟨_, rfl⟩
  · rename_i q; rw [dif_neg q] at hr; exact absurd rfl hr
/-- one turn -/
theorem sWhl_eq {t : Dt} {b : Sn} {s : Sl} {h : Hh} : sWhl t b s h = whS t b (sWhl t b) s h := by
  by_cases hz : sWhl t b s h = .stuck
  · rw [hz]
    by_cases q : whS t b (sWhl t b) s h = .stuck
    · exact q.symm
    · exfalso
      -- the turn's end is reached by some number of turns
      have key : ∃ n, whS t b (whN t b n) s h = whS t b (sWhl t b) s h := by
        unfold whS at q ⊢
        cases ht : t s h with
        | stuck => exact ⟨0, rfl⟩
        | exc c fs h' => exact ⟨0, rfl⟩
        | ok k h1 =>
          rw [ht] at q
          simp only [sBind] at q ⊢
          cases k with
          | false => exact ⟨0, rfl⟩
          | true =>
            simp only [if_true] at q ⊢
            cases hb : b s h1 with
            | stuck => exact ⟨0, rfl⟩
            | bk s2 h2 => exact ⟨0, rfl⟩
            | rt s2 h2 => exact ⟨0, rfl⟩
            | exc c fs h2 => exact ⟨0, rfl⟩
            | nx s2 h2 => rw [hb] at q; exact sWhl_is q
            | ct s2 h2 => rw [hb] at q; exact sWhl_is q
      obtain ⟨n, e⟩ := key
      have := sWhl_of (n := n + 1) (t := t) (b := b) (s := s) (h := h) e q
      rw [hz] at this
      exact q this.symm
  · obtain ⟨n, e⟩ := sWhl_is hz
    cases n with
    | zero => exact absurd e.symm hz
    | succ n =>
      rw [← e]
      have nz : whS t b (whN t b n) s h ≠ .stuck := fun z => hz (e.symm.trans z)
      exact (whS_congr (k := whN t b n) (k' := sWhl t b) (fun s' h' q => sWhl_of rfl q) nz).symm
theorem PstS.turn {G : Gx} {E : XK} {base α : List Addr} {h : Hh} {H : Hp} {r : SR} {k : Sn} {D : Ends} {N : L2.St → Hp → Prop} (P : PstS G E base α h H (turnEnd r k) D)
    (f : ∀ s h1 α1 σ H1, Evo α h H α1 h1 H1 → Rel G base α1 h1 H1 → RepS G (base ++ own α1 h1) α1 H1 s σ → PstS G E base α1 h1 H1 (k s h1) D → N σ H1) : PstS G E base α h H r { D with nx := N, ct := N, bk := D.nx } := by
  cases r with
  | nx s3 h3 => exact fun α3 σ3 H3 x3 R3 S3 => f s3 h3 α3 σ3 H3 x3 R3 S3 (PstS.step x3 P)
  | ct s3 h3 => exact fun α3 σ3 H3 x3 R3 S3 => f s3 h3 α3 σ3 H3 x3 R3 S3 (PstS.step x3 P)
  | bk s3 h3 => exact P
  | rt s3 h3 => exact P
  | exc c fs h3 => exact P
  | stuck => exact P
theorem ss_whl {c : Expr} {body : List Stmt} {t : Dt} {b : Sn} {pos : Pos} (hp : PassesOwn (model X.prog X.w) X.A X.env X.xe) (ht : STt X E c t) (hb : SB X E body b) : SS X E (.While c body [] pos) (sWhl t b) := by
  refine PS.imp (ps_while hp ht hb) fun D σ H ⟨base, α, s, h, R, S, P⟩ => ?_
  have hz : sWhl t b s h ≠ .stuck := fun z => by rw [z] at P; exact P
  obtain ⟨n, e⟩ := sWhl_is hz
  rw [← e] at P
  refine ⟨fun m σ H => ∃ α s h, Rel (gx X) base α h H ∧ RepS (gx X) (base ++ own α h) α H s σ ∧ PstS (gx X) E base α h H (whN t b m s h) D, ⟨n, α, s, h, R, S, P⟩, ?_⟩
  rintro m σ1 H1 ⟨α1, s1, h1, R1, S1, P1⟩
  cases m with
  | zero => exact P1.elim
  | succ m =>
    have P1 : PstS (gx X) E base α1 h1 H1 (sBind (t s1 h1) fun q h1 => if q then turnEnd (b s1 h1) (whN t b m) else .nx s1 h1) D := P1
    refine ⟨base, α1, s1, h1, R1, S1, PstS.bind P1 fun k h2 α2 u H2 x2 R2 q2 P2 => ?_⟩
    have q2 : k = u := q2
    subst q2
    cases k with
    | false => exact P2.sameN R2 (x2.sl S1)
    | true =>
      rw [if_pos rfl] at P2 ⊢
      exact ⟨fun σ' H' => ∃ α s h, Rel (gx X) base α h H' ∧ RepS (gx X) (base ++ own α h) α H' s σ' ∧ PstS (gx X) E base α h H' (whN t b m s h) D, fun σ' H' q => ⟨m, Nat.lt_succ_self m, q⟩, base, α2, s1, h2, R2, x2.sl S1,
        P2.turn fun s3 h3 α3 σ3 H3 x3 R3 S3 P3 => ⟨α3, s3, h3, R3, S3, P3⟩⟩
end
end CI
namespace CI
open PySem PySem.Spec PyProof.Rows L2

/-! ### what a loop walks -/
/-- from where the walk began to where it is -/
structure Later (av1 α1 : List Addr) (H1 : Hp) (av α : List Addr) (H : Hp) : Prop where
  ext : ∃ β, α = α1 ++ β
  mono : ∀ a o, H1 a = some o → a ∉ av1 → H a = some o ∧ a ∉ av
theorem Later.refl {av α H} : Later av α H av α H := ⟨⟨[], by simp⟩, fun _ _ e n => ⟨e, n⟩⟩
theorem Evo.later {base α α' : List Addr} {h h' : Hh} {H H' : Hp} (x : Evo α h H α' h' H') : Later (base ++ own α h) α H (base ++ own α' h') α' H' := ⟨x.ext, x.mono⟩
theorem Later.trans {av1 α1 H1 av2 α2 H2 av3 α3 H3} (x : Later av1 α1 H1 av2 α2 H2) (y : Later av2 α2 H2 av3 α3 H3) : Later av1 α1 H1 av3 α3 H3 := by
  obtain ⟨⟨β1, e1⟩, m1⟩ := x
  obtain ⟨⟨β2, e2⟩, m2⟩ := y
  exact ⟨⟨β1 ++ β2, by rw [e2, e1, List.append_assoc]⟩, fun a o e n => let ⟨e', n'⟩ := m1 a o e n; m2 a o e' n'⟩
theorem Later.va {G : Gx} {av1 α1 H1 av α H} (x : Later av1 α1 H1 av α H) {p : Va} {v : V} (r : RepV G av1 α1 H1 p v) : RepV G av α H p v := by
  cases p with
  | pv p => exact RepP.mono x.mono r
  | ref n =>
    obtain ⟨a, e, q⟩ := r
    obtain ⟨β, eb⟩ := x.ext
    exact ⟨a, by rw [eb, List.getElem?_append_left (List.getElem?_eq_some_iff.mp e).1]; exact e, q⟩
theorem Later.vas {G : Gx} {av1 α1 H1 av α H} (x : Later av1 α1 H1 av α H) : ∀ {p : List Va} {v : List V}, RepVs G av1 α1 H1 p v → RepVs G av α H p v
  | [], _, r => r
  | _ :: _, _, ⟨v, q, e, r1, r2⟩ => ⟨v, q, e, x.va r1, x.vas r2⟩
/-- the walk J yields the items xs, one by one, whatever else happens -/
structure IsIt (G : Gx) (J : It) (av1 α1 : List Addr) (H1 : Hp) (xs : List Va) : Prop where
  go : ∀ i av α H, i < xs.length → Later av1 α1 H1 av α H → J.go i H
  yld : ∀ i x base α h H u H', xs[i]? = some x → Rel G base α h H → Later av1 α1 H1 (base ++ own α h) α H → J.yld i H u H' → Evo α h H α h H' ∧ Rel G base α h H' ∧ RepV G (base ++ own α h) α H' x u
  stop : ∀ av α H, Later av1 α1 H1 av α H → J.stop xs.length H
def SI (X : Cx) (E : XK) (tg it : Expr) (d : Da) : Prop := PI X tg it fun σ H R => ∃ base α s h, Rel (gx X) base α h H ∧ RepS (gx X) (base ++ own α h) α H s σ ∧
  Pst (gx X) E base α h H (fun av α H xs (J : It) => IsIt (gx X) J av α H xs) (d s h) R
theorem PI.imp {X : Cx} {tg it : Expr} {t t' : TI} (p : PI X tg it t) (f : ∀ σ H R, t' σ H R → t σ H R) : PI X tg it t' := ⟨fun pins s σ H R I q => p.run pins s σ H R I (f σ H R q)⟩
theorem isIt_list {G : Gx} {av1 α1 : List Addr} {H1 : Hp} {a : Addr} {vs : List V} {xs : List Va} (hs : ∀ av α H, Later av1 α1 H1 av α H → SqL G.K H a vs) (q : RepVs G av1 α1 H1 xs vs) : IsIt G (Itl G.K a) av1 α1 H1 xs where
  go := fun i av α H hi lt => ⟨vs, vs[i]'(by rw [← q.length]; exact hi), hs _ _ _ lt, List.getElem?_eq_getElem _⟩
  yld := fun i x base α h H u H' e R lt y => by
    obtain ⟨e1, e2⟩ := y
    subst e1
    obtain ⟨u', e3, r⟩ := (lt.vas q).get e
    have := e2 _ (hs _ _ _ lt)
    rw [e3] at this
    cases this
    exact ⟨.refl, R, r⟩
  stop := fun av α H lt => ⟨vs, hs _ _ _ lt, by rw [q.length]; exact Nat.le_refl _⟩
theorem isIt_tup {G : Gx} {av1 α1 : List Addr} {H1 : Hp} {a : Addr} {vs : List V} {xs : List Va} (hs : ∀ av α H, Later av1 α1 H1 av α H → SqT G.K H a vs) (q : RepVs G av1 α1 H1 xs vs) : IsIt G (Itt G.K a) av1 α1 H1 xs where
  go := fun i av α H hi lt => ⟨vs, vs[i]'(by rw [← q.length]; exact hi), hs _ _ _ lt, List.getElem?_eq_getElem _⟩
  yld := fun i x base α h H u H' e R lt y => by
    obtain ⟨e1, e2⟩ := y
    subst e1
    obtain ⟨u', e3, r⟩ := (lt.vas q).get e
    have := e2 _ (hs _ _ _ lt)
    rw [e3] at this
    cases this
    exact ⟨.refl, R, r⟩
  stop := fun av α H lt => ⟨vs, hs _ _ _ lt, by rw [q.length]; exact Nat.le_refl _⟩
def rangeVa (lo : Int) (n : Nat) : List Va := (List.range n).map fun i => .pv (.int (lo + (i : Nat)))
theorem isIt_rng {G : Gx} {av1 α1 : List Addr} {H1 : Hp} {lo : Int} {n : Nat} : IsIt G (Itr lo n) av1 α1 H1 (rangeVa lo n) where
  go := fun i av α H hi lt => by
    have : i < n := by simpa [rangeVa] using hi
    exact this
  yld := fun i x base α h H u H' e R lt y => by
    obtain ⟨e1, e2⟩ := y
    subst e1 e2
    have : x = .pv (.int (lo + (i : Nat))) := by
      unfold rangeVa at e
      rw [List.getElem?_map] at e
      obtain ⟨j, e3, e4⟩ := Option.map_eq_some_iff.mp e
      obtain ⟨_, e5⟩ := List.getElem?_eq_some_iff.mp e3
      rw [List.getElem_range] at e5
      rw [← e4, ← e5]
    subst this
    exact ⟨.refl, R, rv_int.mpr rfl⟩
  stop := fun av α H lt => by
    show n ≤ (rangeVa lo n).length
    simp [rangeVa]

/-- what may be walked: a list, a tuple; it is given over -/
def seqOf : Pv → Option (List Va)
  | .lst ps => some (ps.map .pv)
  | .tup ps => some (ps.map .pv)
  | .scr ns => some (ns.map fun n => .pv (.int n))
  | .str x => some (x.cps.toList.map fun c => .pv (.str ⟨#[c]⟩))
  | _ => none
/-- a text's signs -/
theorem isIt_str {G : Gx} {av1 α1 : List Addr} {H1 : Hp} {x : Str} : IsIt G (Its x) av1 α1 H1 (x.cps.toList.map fun c => .pv (.str ⟨#[c]⟩)) where
  go := fun i av α H hi lt => by
    have hi' : i < x.cps.size := by simpa using hi
    exact hi'
  yld := fun i y base α h H u H' e R lt z => by
    obtain ⟨e1, c, e2, e3⟩ := z
    subst e1 e3
    rw [List.getElem?_map, Array.getElem?_toList, e2] at e
    cases e
    exact ⟨.refl, R, rv_str.mpr rfl⟩
  stop := fun av α H lt => by
    show x.cps.size ≤ _
    simp
def iSeq (d : Dn) : Da := fun s h => (d s h).bind fun v h1 => match give v h1 with
  | some (p, h2) => match seqOf p with
    | some xs => .ok xs h2
    | none => .stuck
  | none => .stuck
section
variable {X : Cx} {E : XK} {tg : Expr}
/-- a list or a tuple, as it comes -/
def iAny (K : PySem.W.Frag) (tl : TE) : TI := fun σ H R => tl σ H fun x H1 => ∃ a, x = .ref a ∧ (((∃ xs, SqL K H1 a xs) ∧ R (Itl K a) H1) ∨ ((∃ xs, SqT K H1 a xs) ∧ R (Itt K a) H1))
/-- .. or a text -/
def iAnyS (K : PySem.W.Frag) (tl : TE) : TI := fun σ H R => tl σ H fun x H1 => (∃ a, x = .ref a ∧ (((∃ xs, SqL K H1 a xs) ∧ R (Itl K a) H1) ∨ ((∃ xs, SqT K H1 a xs) ∧ R (Itt K a) H1))) ∨ ∃ z, x = .str z ∧ R (Its z) H1
theorem pi_any {l : Expr} {tl : TE} (hl : PE X l tl) : PI X tg l (iAnyS X.K tl) := by
  refine ⟨fun pins s σ H R I hq => thn (hl.run pins s σ H _ I hq) ?_⟩
  rintro v s1 ⟨x, H1, I1, r1, ⟨a, e, q⟩ | ⟨z, e, q⟩⟩
  rotate_left
  · subst e
    obtain ⟨t, rfl⟩ := r1
    by_cases ha : z.cps.all (· < 128) = true
    · exact wpAny_pyIter_ascii ha (pi_one (tk := s1.toks) I1 _ (turn_str _ z t "str_ascii_iterator" (.inl rfl)) ⟨_, Heap.get?_push_size _ rfl, rfl, rfl⟩ q)
    · exact wpAny_pyIter_wide (by simpa using ha) (pi_one (tk := s1.toks) I1 _ (turn_str _ z t "str_iterator" (.inr rfl)) ⟨_, Heap.get?_push_size _ rfl, rfl, rfl⟩ q)
  subst e
  cases r1
  have fp : ∀ b ∈ [s1.heap.objs.size], FpOk X pins H1 b := by
    intro b hb
    rw [List.mem_singleton.mp hb]
    exact I1.fpOk (Nat.le_refl _) (I1.hok.fresh (Nat.le_refl _))
  rcases q with ⟨⟨xs, hq⟩, q⟩ | ⟨⟨xs, hq⟩, q⟩
  · obtain ⟨its, rv, p, hz⟩ := I1.list hq
    exact wpAny_pyIter_list p.isList ⟨_, [_], _, _, H1, rfl, I1.kept (t' := s1.toks) (fun b o e => Heap.get?_push_of_some _ e), turn_list a _, ⟨_, Heap.get?_push_size _ rfl, rfl, rfl⟩, fp, q⟩
  · obtain ⟨its, rv, p, hz⟩ := I1.tuple hq
    exact wpAny_pyIter_tuple (show s1.heap.IsTuple a its.toArray from p) ⟨_, [_], _, _, H1, rfl, I1.kept (t' := s1.toks) (fun b o e => Heap.get?_push_of_some _ e), turn_tuple a _, ⟨_, Heap.get?_push_size _ rfl, rfl, rfl⟩, fp, q⟩
theorem si_seq {e : Expr} {d : Dn} (he : SE X E e d) : SI X E tg e (iSeq d) := by
  refine PI.imp (pi_any he) fun σ H R ⟨base, α, s, h, Rl, S, P⟩ => ?_
  refine ⟨base, α, s, h, Rl, S, Pst.bind P fun v h1 α1 u H1 x1 R1 q1 P1 => ?_⟩
  split at P1
  · rename_i p h2 e2
    obtain ⟨R2, x2, _, q2⟩ := give_ok _ _ _ _ _ _ _ _ _ e2 R1 q1
    have P2 := Pst.step x2 P1
    split at P2
    · rename_i xs e3
      unfold seqOf at e3
      split at e3
      · cases e3
        obtain ⟨a, vs, e1, t, q⟩ := repP_lst.mp q2
        exact .inl ⟨a, e1, .inl ⟨⟨vs, t.sq⟩, P2.same R2 (isIt_list (fun av α H lt => (t.mono lt.mono).sq) (repVs_pv.mpr q))⟩⟩
      · cases e3
        obtain ⟨a, vs, e1, t, q⟩ := repP_tup.mp q2
        exact .inl ⟨a, e1, .inr ⟨⟨vs, t.sq⟩, P2.same R2 (isIt_tup (fun av α H lt => (t.mono lt.mono).sq) (repVs_pv.mpr q))⟩⟩
      · rename_i ns
        cases e3
        obtain ⟨a, e1, t⟩ := repP_scr.mp q2
        refine .inl ⟨a, e1, .inl ⟨⟨_, t.sq⟩, P2.same R2 (isIt_list (fun av α H lt => (t.mono lt.mono).sq) ?_)⟩⟩
        have q := repVs_pv (G := gx X) (av := base ++ own α1 h2) (α := α1) (H := H1).mpr (repPs_ints.mpr (rfl : ns.map V.int = _))
        rw [List.map_map] at q
        exact q
      · rename_i z
        cases e3
        exact .inr ⟨z, repP_str.mp q2, P2.same R2 isIt_str⟩
      · cases e3
    · exact P2.elim
  · exact P1.elim
theorem vals_cons {v : V} {vs : List V} {us : List Value} (h : Vals (v :: vs) us) : ∃ u r, us = u :: r ∧ RelV v u ∧ Vals vs r := by
  cases h with
  | cons a b => exact ⟨_, _, rfl, a, b⟩
/-- a far range's walk -/
theorem turn_far {P : Program} {w : World} {K : PySem.W.Frag} {tg : Expr} (it : Addr) (lo : Int) (n : Nat) : Turn P w K tg (Itr lo n) [it] it (fun i h => IsLongIter h it (lo + (i : Nat) * 1) ((n : Int) - (i : Nat)) 1) where
  mem := List.mem_singleton.mpr rfl
  obj := fun i h st b hb => by
    obtain rfl := List.mem_singleton.mp hb
    exact ⟨_, st, fun v z => nomatch (show Data.fields _ = Data.cell v from z)⟩
  keep := fun i h h' st k => k it (List.mem_singleton.mpr rfl) _ st
  item := by
    rintro X rfl rfl rfl hc i pins s σ H E I hf st hg
    obtain ⟨_, g1, _, g3, g4, g5⟩ := hf it (List.mem_singleton.mpr rfl)
    refine (Walks.longrange (prog := X.prog) (w := X.w) (I.ok.hd hc) it lo 1 n).item i s _ _ hg st ?_
    rintro v h' tk ⟨t, rfl⟩ st2 kk
    have I1 : Inv X pins σ H { s with heap := h', toks := tk } := I.turned (fun b o hb e => kk b o (fun z => hb (List.mem_singleton.mp z)) e) (hf it (List.mem_singleton.mpr rfl)).1 g1 g3 g4 g5
    exact ⟨_, rfl, go_of (s := { s with heap := h', toks := tk }) (n := "longrange_iterator") st2 rfl rfl (by decide) ⟨.int (lo + i), H, I1, ⟨t, by rw [Int.mul_one]⟩, ⟨rfl, rfl⟩, st2, fun b hb => (hf b hb).1⟩⟩
  done := by
    rintro X rfl rfl rfl hc i pins s σ H E I hf st hg
    obtain ⟨g0, g1, _, g3, g4, g5⟩ := hf it (List.mem_singleton.mpr rfl)
    have hn : n ≤ i := hg
    exact wpAny_pyNext_long_end (I.ok.hd hc) st (by omega) fun h' eb => ⟨rfl, I.turned (t' := s.toks) (fun b o hb e => eb b o hb e) g0 g1 g3 g4 g5⟩
  self := fun _ _ _ _ _ st h => wpAny_pyIter_longiter st h
/-- a range just made, of any ends -/
theorem range_any {pins : List (Addr × Obj)} {σ : L2.St} {H : Hp} {s : Shared} {R : It → Hp → Prop} {E0 : Value → Shared → Prop} {lo hi : Int} {t u v : Tok} {tk : Nat} (I : Inv X pins σ H s) (q : R (Itr lo (hi - lo).toNat) H) :
    wpAny (model X.prog X.w) X.A (pyIter (.ref s.heap.objs.size)) (PIE X pins σ tg R) E0 { s with heap := s.heap.push { cls := .type "range", data := .fields #[.int lo t, .int hi u, .int 1 v] }, toks := tk } := by
  have I1 : Inv X pins σ H { s with heap := s.heap.push { cls := .type "range", data := .fields #[.int lo t, .int hi u, .int 1 v] }, toks := tk } := I.kept fun b o e => Heap.get?_push_of_some _ e
  have size : (((hi - lo).toNat : Nat) : Int) - ((0 : Nat) : Int) = Builtin.Range.rangeSize lo hi 1 := by rw [rangeSize_one]; split <;> omega
  have at0 : lo + ((0 : Nat) : Int) * 1 = lo := by simp
  cases hs : Builtin.Range.small lo hi 1 with
  | true =>
    refine wpAny_pyIter_range (IsRange.new ..) hs ⟨_, [_], _, _, H, rfl, I1.kept (t' := tk) fun b o e => Heap.get?_push_of_some _ e, turn_range _ lo (hi - lo).toNat, ?_, fun b hb => ?_, q⟩
    · show IsRangeIter _ _ (lo + ((0 : Nat) : Int) * 1) ((((hi - lo).toNat : Nat) : Int) - ((0 : Nat) : Int)) 1
      rw [at0, size]
      exact Heap.get?_push_size _ rfl
    · obtain rfl := List.mem_singleton.mp hb
      exact I1.fpOk (Nat.le_refl _) (I1.hok.fresh (Nat.le_refl _))
  | false =>
    refine wpAny_pyIter_longrange (IsRange.new ..) hs ⟨_, [_], _, _, H, rfl, I1.kept (t' := tk) fun b o e => Heap.get?_push_of_some _ e, turn_far _ lo (hi - lo).toNat, ?_, fun b hb => ?_, q⟩
    · show IsLongIter _ _ (lo + ((0 : Nat) : Int) * 1) ((((hi - lo).toNat : Nat) : Int) - ((0 : Nat) : Int)) 1
      rw [at0, size]
      exact Heap.get?_push_size _ rfl
    · obtain rfl := List.mem_singleton.mp hb
      exact I1.fpOk (Nat.le_refl _) (I1.hok.fresh (Nat.le_refl _))
theorem pi_rangeA1 {a : Expr} {ta : TA} {p pos : Pos} (hg : Gl X "range") (hm : X.mg "range" = none) (hn : notStar a = true) (ha : PA X [a] ta) :
    PI X tg (.Call (.Name "range" p) [a] [] pos) (fun σ H R => ta σ H fun vs H1 => ∃ j : Int, vs = [.int j] ∧ R (Itr 0 j.toNat) H1) := by
  refine ⟨fun pins s σ H R I h => Call_ (ld_blt I hg hm boot_range (PyProof.Rows.callWith_type1 (thn (ha.run pos pins s σ H _ I h) ?_) (star_cons hn) rfl))⟩
  rintro us s1 ⟨vs, H1, I1, r1, j, rfl, q⟩
  obtain ⟨u, r, rfl, ⟨t, rfl⟩, r2⟩ := vals_cons r1
  cases r2
  exact call_range_1 (range_any I1 (by simpa using q))
theorem pi_rangeA2 {a b : Expr} {ta : TA} {p pos : Pos} (hg : Gl X "range") (hm : X.mg "range" = none) (hn : notStar a = true) (hn2 : notStar b = true) (ha : PA X [a, b] ta) :
    PI X tg (.Call (.Name "range" p) [a, b] [] pos) (fun σ H R => ta σ H fun vs H1 => ∃ i j : Int, vs = [.int i, .int j] ∧ R (Itr i (j - i).toNat) H1) := by
  refine ⟨fun pins s σ H R I h => Call_ (ld_blt I hg hm boot_range (PyProof.Rows.callWith_type1 (thn (ha.run pos pins s σ H _ I h) ?_) (by rw [star_cons hn, star_cons hn2]) (by rw [star_cons hn2]; rfl)))⟩
  rintro us s1 ⟨vs, H1, I1, r1, i, j, rfl, q⟩
  obtain ⟨u, r, rfl, ⟨t, rfl⟩, r2⟩ := vals_cons r1
  obtain ⟨u2, r, rfl, ⟨t2, rfl⟩, r3⟩ := vals_cons r2
  cases r3
  exact call_range_2 (range_any I1 q)
def iRng1 (da : Da) : Da := fun s h => (da s h).bind fun vs h1 => match vs with
  | [.pv (.int j)] => .ok (rangeVa 0 j.toNat) h1
  | _ => .stuck
def iRng2 (da : Da) : Da := fun s h => (da s h).bind fun vs h1 => match vs with
  | [.pv (.int i), .pv (.int j)] => .ok (rangeVa i (j - i).toNat) h1
  | _ => .stuck
theorem si_rng1 {a : Expr} {da : Da} {p pos : Pos} (hg : Gl X "range") (hm : X.mg "range" = none) (hn : notStar a = true) (ha : SA X E [a] da) : SI X E tg (.Call (.Name "range" p) [a] [] pos) (iRng1 da) := by
  refine PI.imp (pi_rangeA1 hg hm hn ha) fun σ H R ⟨base, α, s, h, Rl, S, P⟩ => ?_
  refine ⟨base, α, s, h, Rl, S, Pst.bind P fun v h1 α1 u H1 x1 R1 q1 P1 => ?_⟩
  split at P1
  · rename_i j
    obtain ⟨w, r, e1, r1, r2⟩ := q1
    have e2 : r = [] := r2
    subst e2
    rw [rv_int.mp r1] at e1
    exact ⟨j, e1, P1.same R1 isIt_rng⟩
  · exact P1.elim
theorem si_rng2 {a b : Expr} {da : Da} {p pos : Pos} (hg : Gl X "range") (hm : X.mg "range" = none) (hn : notStar a = true) (hn2 : notStar b = true) (ha : SA X E [a, b] da) : SI X E tg (.Call (.Name "range" p) [a, b] [] pos) (iRng2 da) := by
  refine PI.imp (pi_rangeA2 hg hm hn hn2 ha) fun σ H R ⟨base, α, s, h, Rl, S, P⟩ => ?_
  refine ⟨base, α, s, h, Rl, S, Pst.bind P fun v h1 α1 u H1 x1 R1 q1 P1 => ?_⟩
  split at P1
  · rename_i i j
    obtain ⟨w, r, e1, r1, w2, r', e2, r2, r3⟩ := q1
    have e3 : r' = [] := r3
    subst e3
    rw [rv_int.mp r1, e2, rv_int.mp r2] at e1
    exact ⟨i, j, e1, P1.same R1 isIt_rng⟩
  · exact P1.elim

/-! ### for -/
def forL (t : Tg) (b : Sn) : List Va → Sn
  | [] => fun s h => .nx s h
  | x :: xs => fun s h => match t.put x s h with
    | some s1 => turnEnd (b s1 h) (forL t b xs)
    | none => .stuck
def sFor (it : Da) (t : Tg) (b : Sn) : Sn := fun s h => sBind (it s h) fun xs h1 => forL t b xs s h1
theorem ss_for {it : Expr} {body : List Stmt} {d : Da} {t : Tg} {b : Sn} {pos : Pos} (hp : PassesOwn (model X.prog X.w) X.A X.env X.xe) (hc : X.calm = true) (hi : SI X E tg it d) (hg : STg X tg t) (hb : SB X E body b)
    (hs : ∀ x, foldedSetIterable it X.env x = pure x) : SS X E (.For tg it body [] pos) (sFor d t b) := by
  refine PS.imp (ps_for hp hc hi hg hb hs) fun D σ H ⟨base, α, s, h, R, S, P⟩ => ?_
  refine ⟨base, α, s, h, R, S, PstS.bind P fun xs h1 α1 J H1 x1 R1 hJ P1 => ?_⟩
  refine ⟨fun i m σ H => ∃ α s h, Rel (gx X) base α h H ∧ RepS (gx X) (base ++ own α h) α H s σ ∧ Later (base ++ own α1 h1) α1 H1 (base ++ own α h) α H ∧ i + m = xs.length ∧ PstS (gx X) E base α h H (forL t b (xs.drop i) s h) D,
    ⟨xs.length, α1, s, h1, R1, x1.sl S, .refl, Nat.zero_add _, P1⟩, ?_⟩
  rintro i m σ2 H2 ⟨α2, s2, h2, R2, S2, lt, em, P2⟩
  by_cases hi : i < xs.length
  · refine .inr ⟨hJ.go i _ _ _ hi lt, ?_⟩
    refine ⟨fun σ' H' => ∃ α s h, Rel (gx X) base α h H' ∧ RepS (gx X) (base ++ own α h) α H' s σ' ∧ Later (base ++ own α1 h1) α1 H1 (base ++ own α h) α H' ∧ PstS (gx X) E base α h H' (forL t b (xs.drop (i + 1)) s h) D,
      fun σ' H' ⟨α, s, h, R, S, l, p⟩ => ⟨m - 1, by omega, α, s, h, R, S, l, by omega, p⟩, fun u H3 y => ?_⟩
    obtain ⟨ev, R3, q3⟩ := hJ.yld i xs[i] base α2 h2 H2 u H3 (List.getElem?_eq_getElem hi) R2 lt y
    rw [List.drop_eq_getElem_cons hi] at P2
    refine ⟨base, α2, s2, h2, xs[i], R3, ev.sl S2, q3, ?_⟩
    rw [forL] at P2
    dsimp only at P2
    split at P2
    · rename_i s3 e3
      try rw [e3]
      refine fun σ3 _ S3 => ⟨base, α2, s3, h2, R3, S3, (PstS.step ev P2).turn fun s4 h4 α4 σ4 H4 x4 R4 S4 P4 => ?_⟩
      exact ⟨α4, s4, h4, R4, S4, (lt.trans ev.later).trans x4.later, P4⟩
    · exact P2.elim
  · have e0 : i = xs.length := by omega
    subst e0
    rw [List.drop_length] at P2
    exact .inl ⟨hJ.stop _ _ _ lt, P2.sameN R2 S2⟩
end
end CI
namespace CI
open PySem PySem.Spec PyProof.Rows L2

def wipeS (s : Sl) : List Nat → Sl
  | [] => s
  | v :: vs => (wipeS s vs).set v none
theorem wipeS_length (s : Sl) : ∀ vs, (wipeS s vs).length = s.length
  | [] => rfl
  | v :: vs => by unfold wipeS; rw [List.length_set, wipeS_length s vs]
theorem wipeS_some {s : Sl} {i : Nat} {x : Va} : ∀ {vs : List Nat}, (wipeS s vs)[i]? = some (some x) → s[i]? = some (some x) ∧ i ∉ vs
  | [], h => ⟨h, by simp⟩
  | v :: vs, h => by
    unfold wipeS at h
    by_cases hi : v = i
    · subst hi
      by_cases hv : v < (wipeS s vs).length
      · rw [List.getElem?_set_self hv] at h; cases h
      · rw [List.getElem?_eq_none (by simpa using hv)] at h; cases h
    · rw [List.getElem?_set_ne hi] at h
      obtain ⟨h1, h2⟩ := wipeS_some h
      exact ⟨h1, by simp only [List.mem_cons, not_or]; exact ⟨fun e => hi e.symm, h2⟩⟩
theorem wipe_at {σ : L2.St} {i : Nat} : ∀ {vs : List Nat}, i ∉ vs → (wipe σ vs)[i]? = σ[i]?
  | [], _ => rfl
  | v :: vs, h => by
    simp only [List.mem_cons, not_or] at h
    unfold wipe
    rw [List.getElem?_set_ne (Ne.symm h.1), wipe_at h.2]
theorem wipe_in {σ : L2.St} {i : Nat} : ∀ {vs : List Nat}, i ∈ vs → i < σ.length → (wipe σ vs)[i]? = some none
  | v :: vs, h, hl => by
    unfold wipe
    by_cases e : v = i
    · subst e
      rw [List.getElem?_set_self (by rw [wipe_length]; exact hl)]
    · rw [List.getElem?_set_ne e]
      rcases List.mem_cons.mp h with z | z
      · exact absurd z.symm e
      · exact wipe_in z hl
theorem wipe_same {σ σ' : L2.St} {vs ws : List Nat} (h : SameOff ws σ σ') (hs : ∀ i ∈ ws, i ∈ vs) : wipe σ' vs = wipe σ vs := by
  apply List.ext_getElem?
  intro i
  by_cases hi : i ∈ vs
  · by_cases hl : i < σ.length
    · rw [wipe_in hi hl, wipe_in hi (by rw [h.1]; exact hl)]
    · rw [List.getElem?_eq_none (by rw [wipe_length, h.1]; omega), List.getElem?_eq_none (by rw [wipe_length]; omega)]
  · rw [wipe_at hi, wipe_at hi, h.2 i fun z => hi (hs i z)]
theorem wipe_wipe {σ : L2.St} {vs : List Nat} : wipe (wipe σ vs) vs = wipe σ vs := by
  apply List.ext_getElem?
  intro i
  by_cases hi : i ∈ vs
  · by_cases hl : i < σ.length
    · rw [wipe_in hi (by rw [wipe_length]; exact hl), wipe_in hi hl]
    · rw [List.getElem?_eq_none (by rw [wipe_length, wipe_length]; omega), List.getElem?_eq_none (by rw [wipe_length]; omega)]
  · rw [wipe_at hi]
theorem RepS.wipe {G : Gx} {av α : List Addr} {H : Hp} {s : Sl} {σ : L2.St} (r : RepS G av α H s σ) (vs : List Nat) : RepS G av α H (wipeS s vs) (L2.wipe σ vs) := by
  refine ⟨by rw [wipeS_length, wipe_length, r.1], fun i v e => ?_⟩
  obtain ⟨e1, n⟩ := wipeS_some e
  obtain ⟨u, e2, q⟩ := r.2 i v e1
  exact ⟨u, by rw [wipe_at n]; exact e2, q⟩

/-! ### [elt for t in it if c] -/
def compL (t : Tg) (c : Dt) (d : Dn) (s : Sl) : List Va → List Pv → Hh → Res Va
  | [], acc, h => .ok (.pv (.lst acc)) h
  | x :: xs, acc, h => match t.put x s h with
    | some s1 => match c s1 h with
      | .ok true h1 => match d s1 h1 with
        | .ok v h2 => match give v h2 with
          | some (p, h3) => compL t c d s xs (acc ++ [p]) h3
          | none => .stuck
        | _ => .stuck
      | .ok false h1 => compL t c d s xs acc h1
      | _ => .stuck
    | none => .stuck
def dComp (it : Da) (vs : List Nat) (t : Tg) (c : Dt) (d : Dn) : Dn := fun s h => (it s h).bind fun xs h1 => if xs.length ≤ 1000000 then compL t c d (wipeS s vs) xs [] h1 else .stuck
def tYesD : Dt := fun _ h => .ok true h
abbrev noE : XK := fun _ _ _ => False
theorem Pst.get {G : Gx} {base α : List Addr} {h : Hh} {H : Hp} {β γ : Type} {rep : Rp β γ} {v : β} {h' : Hh} {r : Res β} {Q : γ → Hp → Prop} (e : r = .ok v h') (f : ∀ α' u H', Evo α h H α' h' H' → Rel G base α' h' H' → rep (base ++ own α' h') α' H' v u → Q u H') : Pst G noE base α h H rep r Q := by
  rw [e]; exact f
theorem RepO.later {G : Gx} {av1 α1 av α : List Addr} {H1 H : Hp} {a : Addr} {ob : Ob} (x : Later av1 α1 H1 av α H) (k : ob.isFrz = false → H a = H1 a) (q : RepO G av1 α1 H1 a ob) : RepO G av α H a ob := by
  have fvs : ∀ {κ : Type} {p : List (κ × Va)} {v : List (κ × V)}, RepFV G av1 α1 H1 p v → RepFV G av α H p v := by
    intro κ p
    induction p with
    | nil => intro v r; exact r
    | cons y ys ih =>
      rintro v ⟨w, q, e, r1, r2⟩
      exact ⟨w, q, e, x.va r1, ih r2⟩
  cases ob with
  | lst xs => obtain ⟨vs, e, r⟩ := q; exact ⟨vs, (k rfl).trans e, x.vas r⟩
  | ins c fs => obtain ⟨C, dx, gs, g, e, r⟩ := q; exact ⟨C, dx, gs, g, (k rfl).trans e, fvs r⟩
  | frz y => exact RepP.mono x.mono (show RepP G av1 H1 y (.ref a) from q)
  | dct kvs => obtain ⟨ks, e, r⟩ := q; exact ⟨ks, (k rfl).trans e, fvs r⟩
/-- with one address more to be avoided: a new object's -/
theorem Rel.more {G : Gx} {base α : List Addr} {h : Hh} {H : Hp} {D : Addr} {o : HO} (R : Rel G base α h H) (nD : H D = none) : Rel G (base ++ [D]) α h (upd H D o) ∧ Later (base ++ own α h) α H (base ++ [D] ++ own α h) α (upd H D o) := by
  obtain ⟨R', ev⟩ := R.laid (o := o) nD
  have ne : ∀ {b u}, H b = some u → b ≠ D := fun e => ne_of_none e nD
  have ltr : Later (base ++ own α h) α H (base ++ [D] ++ own α h) α (upd H D o) := by
    refine ⟨⟨[], by simp⟩, fun a u e n => ⟨by rw [upd_ne (ne e)]; exact e, ?_⟩⟩
    simp only [List.mem_append, List.mem_singleton, not_or] at n ⊢
    exact ⟨⟨n.1, ne e⟩, n.2⟩
  have nD2 : ∀ {a}, a ∈ own α h → a ≠ D := fun m z => R.tracked m (by rw [z]; exact nD)
  refine ⟨⟨R'.len, R'.nd, fun a m => ?_, fun a m => ?_, R'.trk, fun r a ob e1 e2 => ?_⟩, ltr⟩
  · simp only [List.mem_append, List.mem_singleton, not_or]
    exact ⟨R.dis a m, fun z => R.trk a m (by rw [z]; exact nD)⟩
  · rcases List.mem_append.mp m with m | m
    · exact R'.bas a m
    · rw [List.mem_singleton.mp m, upd_same]; exact fun q => nomatch q
  · exact RepO.later ltr (fun hf => upd_ne (nD2 (mem_own.mpr ⟨r, ob, e1, e2, hf⟩))) (R.obs r a ob e1 e2)
/-- .. it may be written, and is avoided on -/
theorem Rel.wr {G : Gx} {base α : List Addr} {h : Hh} {H : Hp} {D : Addr} {o : HO} (R : Rel G base α h H) (mD : D ∈ base) : Rel G base α h (upd H D o) ∧ Later (base ++ own α h) α H (base ++ own α h) α (upd H D o) := by
  have ltr : Later (base ++ own α h) α H (base ++ own α h) α (upd H D o) := by
    refine ⟨⟨[], by simp⟩, fun a u e n => ⟨?_, n⟩⟩
    rw [upd_ne]
    · exact e
    · rintro rfl; exact n (List.mem_append_left _ mD)
  have up : ∀ {b}, H b ≠ none → upd H D o b ≠ none := fun {b} this => by
    by_cases z : b = D
    · rw [z, upd_same]; exact fun q => nomatch q
    · rw [upd_ne z]; exact this
  refine ⟨⟨R.len, R.nd, R.dis, fun a m => up (R.bas a m), fun a m => up (R.trk a m), fun r a ob e1 e2 => ?_⟩, ltr⟩
  · exact RepO.later ltr (fun hf => upd_ne fun z => R.dis a (List.mem_of_getElem? e1) (by rw [z]; exact mD)) (R.obs r a ob e1 e2)
/-- .. and no more avoided -/
theorem Rel.less {G : Gx} {base α : List Addr} {h : Hh} {H : Hp} {D : Addr} (R : Rel G (base ++ [D]) α h H) : Rel G base α h H ∧ Later (base ++ [D] ++ own α h) α H (base ++ own α h) α H ∧ D ∉ own α h := by
  have ltr : Later (base ++ [D] ++ own α h) α H (base ++ own α h) α H := by
    refine ⟨⟨[], by simp⟩, fun a u e n => ⟨e, ?_⟩⟩
    simp only [List.mem_append, List.mem_singleton, not_or] at n ⊢
    exact ⟨n.1.1, n.2⟩
  refine ⟨⟨R.len, R.nd, fun a m z => R.dis a m (List.mem_append_left _ z), fun a m => R.bas a (List.mem_append_left _ m), R.trk, fun r a ob e1 e2 => RepO.later ltr (fun _ => rfl) (R.obs r a ob e1 e2)⟩, ltr, fun m => R.disO D m (List.mem_append_right _ (List.mem_singleton.mpr rfl))⟩
theorem Evo.upd {α1 α : List Addr} {h1 h : Hh} {H1 H : Hp} {D : Addr} {o : HO} (x : Evo α1 h1 H1 α h H) (nD : H1 D = none) : Evo α1 h1 H1 α h (upd H D o) :=
  ⟨x.ext, fun a u e n => by rw [upd_ne (ne_of_none e nD)]; exact x.keep a u e n, x.ownm⟩
theorem Evo.laterD {base α1 α : List Addr} {h1 h : Hh} {H1 H : Hp} {D : Addr} (x : Evo α1 h1 H1 α h H) (nD : H1 D = none) : Later (base ++ own α1 h1) α1 H1 (base ++ [D] ++ own α h) α H := by
  refine ⟨x.ext, fun a u e n => ?_⟩
  obtain ⟨e1, n1⟩ := x.mono (base := base) a u e n
  refine ⟨e1, ?_⟩
  simp only [List.mem_append, List.mem_singleton, not_or] at n1 ⊢
  exact ⟨⟨n1.1, ne_of_none e nD⟩, n1.2⟩

section
variable {X : Cx} {E : XK} {it elt tg : Expr} {ifs : List Expr} {scope : Scope} {own' : List (Str × Nat)} {pos : Pos} {da : Da} {t : Tg} {c : Dt} {d : Dn}
/-- the reading of the whole from its parts -/
theorem comp_rd {wi : TI} {g : TG} {tt : TT} {te : TE} {vs : List Nat}
    (hi : ∀ σ H R, (∃ base α s h, Rel (gx X) base α h H ∧ RepS (gx X) (base ++ own α h) α H s σ ∧ Pst (gx X) E base α h H (fun av α H xs (J : It) => IsIt (gx X) J av α H xs) (da s h) R) → wi σ H R)
    (hg : ∀ u σ H Q, (∃ base α s h v, Rel (gx X) base α h H ∧ RepS (gx X) (base ++ own α h) α H s σ ∧ RepV (gx X) (base ++ own α h) α H v u ∧
      match t.put v s h with
      | some s' => ∀ σ', SameOff t.slots σ σ' → RepS (gx X) (base ++ own α h) α H s' σ' → Q σ' H
      | none => False) → g u σ H Q)
    (ht : ∀ σ H Q, tG (gx X) noE rB c σ H Q → tt σ H Q) (he : ∀ σ H Q, tG (gx X) noE (rV (gx X)) d σ H Q → te σ H Q) (hs : ∀ i ∈ t.slots, i ∈ vs) :
    ∀ σ H Q, tG (gx X) E (rV (gx X)) (dComp da vs t c d) σ H Q → tLc wi g tt te vs σ H Q := by
  intro σ H Q ⟨base, α, s, h, R, S, P⟩
  refine hi σ H _ ⟨base, α, s, h, R, S, Pst.bind P fun xs h1 α1 J H1 x1 R1 hJ P1 => ?_⟩
  intro D nD
  split at P1
  case isFalse => exact P1.elim
  rename_i hlen
  have S1 := (x1.sl S).wipe vs
  have mD : D ∈ base ++ [D] := List.mem_append_right _ (List.mem_singleton.mpr rfl)
  -- the invariant
  refine ⟨fun i m H => ∃ α h acc accV, Rel (gx X) (base ++ [D]) α h H ∧ Evo α1 h1 H1 α h H ∧ i + m = xs.length ∧ H D = some (.lst accV) ∧ accV.length = acc.length ∧ acc.length ≤ i ∧
      RepPs (gx X) (base ++ [D] ++ own α h) H acc accV ∧ Pst (gx X) E base α1 h1 H1 (rV (gx X)) (compL t c d (wipeS s vs) (xs.drop i) acc h) Q,
    ⟨xs.length, α1, h1, [], [], (R1.more (o := .lst []) nD).1, Evo.upd .refl nD, Nat.zero_add _, upd_same, rfl, Nat.le_refl _, repPs_nil.mpr rfl, P1⟩, ?_⟩
  rintro i m H2 ⟨α2, h2, acc, accV, R2, ev2, em, eD, el, ei, rp, P2⟩
  have lt := ev2.laterD (base := base) nD
  by_cases hlt : i < xs.length
  · refine .inr ⟨hJ.go i _ _ _ hlt lt, ?_⟩
    refine ⟨fun H => ∃ α h acc accV, Rel (gx X) (base ++ [D]) α h H ∧ Evo α1 h1 H1 α h H ∧ H D = some (.lst accV) ∧ accV.length = acc.length ∧ acc.length ≤ i + 1 ∧
        RepPs (gx X) (base ++ [D] ++ own α h) H acc accV ∧ Pst (gx X) E base α1 h1 H1 (rV (gx X)) (compL t c d (wipeS s vs) (xs.drop (i + 1)) acc h) Q,
      fun H' ⟨α, h, acc, accV, a1, a2, a4, a5, a6, a7, a8⟩ => ⟨m - 1, by omega, α, h, acc, accV, a1, a2, by omega, a4, a5, a6, a7, a8⟩, fun u H3 y => ?_⟩
    obtain ⟨ev, R3, q3⟩ := hJ.yld i xs[i] (base ++ [D]) α2 h2 H2 u H3 (List.getElem?_eq_getElem hlt) R2 lt y
    have ev3 := ev2.trans ev
    have SW : RepS (gx X) (base ++ [D] ++ own α2 h2) α2 H3 (wipeS s vs) (wipe σ vs) := ⟨S1.1, fun j v e => let ⟨w, e1, q⟩ := S1.2 j v e; ⟨w, e1, (ev3.laterD nD).va q⟩⟩
    rw [List.drop_eq_getElem_cons hlt] at P2
    rw [compL] at P2
    refine hg _ _ _ _ ⟨base ++ [D], α2, wipeS s vs, h2, xs[i], R3, SW, q3, ?_⟩
    split at P2
    case h_2 => exact P2.elim
    rename_i s3 e3
    refine fun σ3 o3 S3 => ⟨?_, ?_⟩
    · rw [wipe_same o3 hs, wipe_wipe]
    · have eD3 : H3 D = some (.lst accV) := ev.keep D _ eD fun m => R2.disO D m mD
      split at P2
      · rename_i h4 e4
        refine ht _ _ _ ⟨base ++ [D], α2, s3, h2, R3, S3, Pst.get e4 fun α4 b H4 x4 R4 q4 => ?_⟩
        have q4 : true = b := q4
        subst q4
        rw [if_pos rfl]
        split at P2
        · rename_i v5 h50 e5
          split at P2
          case h_2 => exact P2.elim
          rename_i p h5 e6
          refine he _ _ _ ⟨base ++ [D], α4, s3, h4, R4, x4.sl S3, Pst.get e5 fun α5 y5 H5 x50 R50 q50 => ?_⟩
          obtain ⟨R5, x51, _, q5⟩ := give_ok _ _ _ _ _ _ _ _ _ e6 R50 q50
          have x5 := x50.trans x51
          have eD5 : H5 D = some (.lst accV) := (x4.trans x5).keep D _ eD3 fun m => R3.disO D m mD
          refine ⟨accV, eD5, by rw [el, sizeLine_eq]; omega, ?_⟩
          obtain ⟨R6, l6⟩ := R5.wr (o := .lst (accV ++ [y5])) mD
          refine ⟨α5, h5, acc ++ [p], accV ++ [y5], R6, (ev3.trans (x4.trans x5)).upd nD, upd_same, by rw [List.length_append, List.length_append, el]; rfl, by rw [List.length_append]; simp; omega, ?_, P2⟩
          exact RepPs.append (RepPs.mono l6.mono (RepPs.mono ((ev.trans (x4.trans x5)).later (base := base ++ [D])).mono rp)) (.one (RepP.mono l6.mono q5))
        · exact P2.elim
      · rename_i h4 e4
        refine ht _ _ _ ⟨base ++ [D], α2, s3, h2, R3, S3, Pst.get e4 fun α4 b H4 x4 R4 q4 => ?_⟩
        have q4 : false = b := q4
        subst q4
        rw [if_neg (by decide)]
        have eD4 : H4 D = some (.lst accV) := x4.keep D _ eD3 fun m => R3.disO D m mD
        exact ⟨α4, h4, acc, accV, R4, ev3.trans x4, eD4, el, by omega, RepPs.mono ((ev.trans x4).later (base := base ++ [D])).mono rp, P2⟩
      · exact P2.elim
  · have e0 : i = xs.length := by omega
    subst e0
    rw [List.drop_length] at P2
    refine .inl ⟨hJ.stop _ _ _ lt, ?_⟩
    have P2 : Pst (gx X) E base α1 h1 H1 (rV (gx X)) (.ok (.pv (.lst acc)) h2) Q := P2
    obtain ⟨R4, l4, nO⟩ := R2.less
    refine P2 α2 _ H2 ev2 R4 (rv_lst.mpr ⟨D, accV, rfl, ⟨.inl eD, ?_⟩, RepPs.mono l4.mono rp⟩)
    rw [List.mem_append, not_or]
    exact ⟨fun z => R1.bas D z nD, nO⟩
/-- what is so of every block within X -/
abbrev Blks (X : Cx) (scope : Scope) (P : Cx → Prop) : Prop := ∀ (s : Shared) (H : Hp) (C : Addr) (cl : List (Str × Addr)) (fp : List Addr), P (X.blk s H scope (compEnvC scope cl C X.env) fp)
theorem pts_of {Y : Cx} {E' : XK} : ifs = [] → c = tYesD → PTs Y ifs (tG (gx Y) E' rB c) := fun e1 e2 => by
  subst e1 e2
  exact ⟨fun pins s σ H Q I ⟨base, α, sl, h, R, S, P⟩ => pts_nil.run pins s σ H Q I (P.same R rfl)⟩
theorem pts_of1 {Y : Cx} {E' : XK} {e : Expr} (h : STt Y E' e c) : PTs Y [e] (tG (gx Y) E' rB c) := pts_one h
theorem se_comp {vs : List Nat} (hc : X.calm = true) (hN : X.N.Nodup) (hi : SI X E tg it da) (ok : BlkOk X.N X.env.scope scope own') (hg : Blks X scope fun Y => STg Y tg t) (ht : Blks X scope fun Y => PTs Y ifs (tG (gx Y) noE rB c)) (he : Blks X scope fun Y => SE Y noE elt d)
    (hs : ∀ x, foldedSetIterable it X.env x = pure x) (hv : own'.map (·.2) = vs) (hsl : ∀ i ∈ t.slots, i ∈ vs) : SE X E (.ListComp elt [⟨tg, it, ifs, 0⟩] scope pos) (dComp da vs t c d) := by
  subst hv
  refine PE.imp (pe_lc (g := rdG (gx X) t) (tt := tG (gx X) noE rB c) (te := tG (gx X) noE (rV (gx X)) d) hc hN hi ok hg ht he hs) (comp_rd (fun _ _ _ q => q) (fun _ _ _ _ q => q) (fun _ _ _ q => q) (fun _ _ _ q => q) hsl)
theorem ss_setComp {vs : List Nat} {i : Nat} {y : Str} {py spos : Pos} (hc : X.calm = true) (hN : X.N.Nodup) (hy : X.N[i]? = some y) (hyl : X.env.scope.names.lookup y = some .local) (hsw : swapsWith (.ListComp elt [⟨tg, it, ifs, 0⟩] scope pos) (some (.Name y py)) spos.line X.env = pure true)
    (hi : SI X E tg it da) (ok : BlkOk X.N X.env.scope scope own') (hg : Blks X scope fun Y => STg Y tg t) (ht : Blks X scope fun Y => PTs Y ifs (tG (gx Y) noE rB c)) (he : Blks X scope fun Y => SE Y noE elt d)
    (hs : ∀ x, foldedSetIterable it X.env x = pure x) (hv : own'.map (·.2) = vs) (hsl : ∀ i ∈ t.slots, i ∈ vs) : SS X E (.Assign [.Name y py] (.ListComp elt [⟨tg, it, ifs, 0⟩] scope pos) spos) (sAsg (gNm i) (dComp da vs t c d)) := by
  subst hv
  refine PS.imp (ps_setLc (g := rdG (gx X) t) (tt := tG (gx X) noE rB c) (te := tG (gx X) noE (rV (gx X)) d) hc hN hy hyl hsw hi ok hg ht he hs) fun D σ H q => ?_
  have q2 := asg_rd (X := X) (g := gName i) (fun u σ H Q ⟨base, α, s, h, v, R, S, q, P⟩ => P _ same_set (S.set i q)) D σ H q
  exact comp_rd (fun _ _ _ q => q) (fun _ _ _ _ q => q) (fun _ _ _ q => q) (fun _ _ _ q => q) hsl σ H _ q2
end
end CI
namespace CI
open PySem PySem.Spec PyProof.Rows L2

/-! ### defs, where no repr is under way -/
structure FnG (P : Program) (w : World) (K : PySem.W.Frag) (mg : Str → Option Value) (base : Heap) (k : Nat) (f : Addr) (fd : FuncData) (ps : List Str) (sp : Sp) : Prop where
  len : ∀ vs H Q E, sp vs H Q E → vs.length = ps.length
  run : ∀ (A : Around) (outer : List Env) (s : Shared) (H : Hp) (args : Args) (us : List Value) (vs : List V) (Q : VK) (E : XK), Room k A → A.guards = some [] → Env0 P w K mg base A outer s H → BindsTo s fd args (ps.zip us) →
    Vals vs us → sp vs H Q E → codeAny (model P w) A (.call (.ref f) args) (CR (L2.CX P w) outer P w H s Q E) s
section
variable {P : Program} {w : World} {K : PySem.W.Frag} {mg : Str → Option Value} {base : Heap} {f : Addr} {fd : FuncData} {ps : List Str} {sp : Sp}
theorem FnG.mono {j k : Nat} (F : FnG P w K mg base j f fd ps sp) (h : j ≤ k) : FnG P w K mg base k f fd ps sp :=
  ⟨F.len, fun A outer s H args us vs Q E hr => F.run A outer s H args us vs Q E (hr.mono h)⟩
theorem deeper_guards {A : Around} {env : Env} (h : A.guards = some []) : (A.deeper env).guards = some [] := h
/-- a def by its body -/
theorem fnG_of {k : Nat} {name qual : Str} {params : Arguments} {body : List Stmt} {scope : Scope} {dV kV doc pm cdv ct oc : Value} {an od : Option Addr} {osl : Array (Option Value)} {N : List Str}
    (lk : K.lookup f = some ⟨oc, od, .func (PySem.W.fnOf name qual params body scope dV kV doc pm an cdv ct), osl⟩)
    (hcd : PySem.W.codeIn K cdv qual = true) (S : FnScope N ps scope) (len : ∀ vs H Q E, sp vs H Q E → vs.length = ps.length)
    (hbody : ∀ (A : Around) (outer : List Env) (s : Shared) (H : Hp) (vs : List V) (Q : VK) (E : XK), Room k (A.deeper (envOfC qual scope s.heap.objs.size f cdv)) → A.guards = some [] → sp vs H Q E →
      ∃ t, PSs (cxOf (L2.CX P w) P w K mg base N qual scope f cdv A outer s H E) body t ∧ t { nx := fun _ H' => Q .non H', rt := Q } (start N vs) H) :
    FnG P w K mg base (k + 1) f (PySem.W.fnOf name qual params body scope dV kV doc pm an cdv ct) ps sp := by
  refine ⟨len, ?_⟩
  intro A outer s H args us vs Q E hr hg e0 hb r hsp
  have KX : K.In s.heap := e0.mod.kin.keeps (fun b o e => (e0.bs b o e).1)
  have lim : s.heap.NoLimit := e0.mod.nolimit.keeps (fun b o e => (e0.bs b o e).1)
  have hkinds : ∀ y ∈ ps.zip us, scope.names.lookup y.1 = some .local ∨
      (scope.names.lookup y.1 = some .cell ∧ ((cellsFrom (s.heap.objs.size + 1) scope.names []).lookup y.1).isSome = true) := by
    rintro ⟨n, v⟩ hy
    have hm : n ∈ ps := (List.of_mem_zip hy).1
    rcases S.par n hm with q | q
    · exact Or.inl q
    · exact Or.inr ⟨q, PySem.W.cellsFrom_some _ _ _ (Or.inl q)⟩
  refine codeAny_call_function hr.depth (KX _ _ lk) rfl S.co S.gen rfl (PySem.W.codeRec_of KX hcd) (hb _ _ _ _ (wpAny_newFunctionEnv_cells S.kind hkinds fun env he s1 x => ?_))
  subst he
  refine ⟨lim.keeps x.toInCall.keep, codeAny_func ?_⟩
  obtain ⟨t, ht, hq⟩ := hbody A outer s H vs Q E (hr.deeper _) hg hsp
  have I := inv_start (CX := L2.CX P w) (E := E) S hr.hd e0 (len _ _ _ _ hsp) r x
  refine wpAny_mono (ht.run [] s1 (start N vs) H _ I hq) ?_ (fun e s' hs => hs)
  intro fl s' hs
  cases fl with
  | ret u =>
    obtain ⟨v, σ', H', J, rv, q⟩ := hs
    exact ⟨v, H', J.os, J.bare, J.base, J.hok, rv, q⟩
  | next =>
    obtain ⟨σ', H', J, q⟩ := hs
    exact ⟨V.non, H', J.os, J.bare, J.base, J.hok, rfl, q⟩
  | brk => obtain ⟨_, _, _, q⟩ := hs; exact q.elim
  | cont => obtain ⟨_, _, _, q⟩ := hs; exact q.elim
end
section
variable {X : Cx} {k n : Nat} {f : Addr} {fd : FuncData} {ps ks : List Str} {sp : Sp} {E : XK} {g : List Value → List Value → List Value} {gV : List V → List V → List V}
/-- what a call may let out, at the slots σ -/
def PassAt (X : Cx) (σ : L2.St) (E : XK) : Prop := ∀ (pins : List (Addr × Obj)) (H : Hp) (s : Shared) (e : Value) (s' : Shared), Inv X pins σ H s → L2.CX X.prog X.w X.stack H s E e s' → X.xe e s'
theorem passAll (hx : Passes (L2.CX X.prog X.w) X E) (σ : L2.St) : PassAt X σ E := fun pins H s e s' => hx pins σ H s e s'
/-- behind a call -/
theorem cr_end {pins : List (Addr × Obj)} {σ : L2.St} {H : Hp} {s : Shared} {Q : VK} (hx : PassAt X σ E) (I : Inv X pins σ H s) {r : Result} {s' : Shared} (hq : CR (L2.CX X.prog X.w) X.stack X.prog X.w H s Q E r s') :
    match r with
    | .ok (.ret u) => EP X pins σ Q u s'
    | .ok _ => False
    | .error e => X.xe e s' := by
  cases r with
  | error e => exact hx pins H s e s' I hq
  | ok fl =>
    cases fl with
    | ret u => exact I.after hq
    | next => exact hq
    | brk => exact hq
    | cont => exact hq
theorem run_g {pins : List (Addr × Obj)} {σ : L2.St} {H : Hp} {s : Shared} {Q : VK} {us ws : List Value} {vs zs : List V} (F : FnG X.prog X.w X.K X.mg X.base k f fd ps sp) (hr : Room k X.A) (hg : X.A.guards = some []) (hb : KBn X.K fd ps n ks g gV)
    (hx : PassAt X σ E) (I : Inv X pins σ H s) (r : Vals vs us) (rz : Vals zs ws) (l1 : vs.length = n) (l2 : zs.length = ks.length) (h : sp (gV vs zs) H Q E) :
    wpAny (model X.prog X.w) X.A (call (.ref f) us (ks.zip ws)) (EP X pins σ Q) X.xe s := by
  have bt := hb.to s us ws I.kIn (by rw [← r.length, l1]) (by rw [← rz.length, l2])
  refine wpAny_call (codeAny_mono (F.run X.A X.stack s H ⟨us, ks.zip ws⟩ (g us ws) (gV vs zs) Q E hr hg I.env0 bt (hb.rel r rz) h) ?_)
  intro r s' hq
  have e := cr_end hx I hq
  cases r with
  | error e' => exact e
  | ok fl => cases fl <;> first | exact e | exact e.elim
def tCg (n m : Nat) (sp : Sp) (gV : List V → List V → List V) (E : XK) (t tk : TA) : TE := fun σ H Q => t σ H fun vs H1 => tk σ H1 fun zs H2 => vs.length = n ∧ zs.length = m ∧ sp (gV vs zs) H2 Q E
theorem kw_all {pos : Pos} {env : Env} : ∀ {kws : List Keyword}, kws.all (fun k => k.arg.isSome) = true → (backToKw pos (keywordEach kws env)).all (·.1.isSome) = true ∧ (backToKw pos (keywordEach kws env)).filterMap (·.1) = kws.filterMap (·.arg) ∧ (backToKw pos (keywordEach kws env)).any (·.1.isNone) = false
  | [], _ => ⟨rfl, rfl, rfl⟩
  | ⟨nm, e, p⟩ :: kws, h => by
    rw [List.all_cons, Bool.and_eq_true] at h
    obtain ⟨h1, h2, h3⟩ := kw_all (pos := pos) (env := env) h.2
    cases nm with
    | none => cases h.1
    | some x =>
      refine ⟨?_, ?_, ?_⟩
      · show ((some x).isSome && (backToKw pos (keywordEach kws env)).all (·.1.isSome)) = true
        rw [h1]; rfl
      · show x :: (backToKw pos (keywordEach kws env)).filterMap (·.1) = x :: kws.filterMap (·.arg)
        rw [h2]
      · show ((some x).isNone || (backToKw pos (keywordEach kws env)).any (·.1.isNone)) = false
        rw [h3]; rfl
end
end CI
namespace CI
open PySem PySem.Spec PyProof.Rows L2

abbrev Fn := List Va → Hh → Res Va
/-- a def's promise: it tells what F tells -/
def spF (G : Gx) (m : Nat) (F : Fn) : Sp := fun vs H Q E => vs.length = m ∧ ∃ base α h args, Rel G base α h H ∧ RepVs G (base ++ own α h) α H args vs ∧ Pst G E base α h H (rV G) (F args h) Q
/-- how a call's values come to the parameters -/
structure CallOk (G : Gx) (fd : FuncData) (ps : List Str) (n : Nat) (ks : List Str) (asm : List Va → List Va → List Va) : Prop where
  ex : ∃ g gV, KBn G.K fd ps n ks g gV ∧ (∀ vs zs : List V, vs.length = n → zs.length = ks.length → (gV vs zs).length = ps.length) ∧
    ∀ av α H us vs ws zs, vs.length = n → zs.length = ks.length → RepVs G av α H us vs → RepVs G av α H ws zs → RepVs G av α H (asm us ws) (gV vs zs)
/-- a def that stands at x and tells what F tells -/
structure DefAt (X : Cx) (x : Str) (k : Nat) (ps : List Str) (F : Fn) (n : Nat) (ks : List Str) (asm : List Va → List Va → List Va) : Prop where
  ex : ∃ f fd, X.mg x = some (.ref f) ∧ PySem.W.keepIn X.K (.ref f) = true ∧ FnG X.prog X.w X.K X.mg X.base k f fd ps (spF (gx X) ps.length F) ∧ CallOk (gx X) fd ps n ks asm
section
variable {X : Cx} {E : XK} {x : Str} {p pos : Pos} {e : Expr} {es : List Expr} {kws : List Keyword} {t tk : TA} {k n : Nat} {f : Addr} {fd : FuncData} {ps ks : List Str} {sp : Sp} {g : List Value → List Value → List Value} {gV : List V → List V → List V}
theorem pe_g (F : FnG X.prog X.w X.K X.mg X.base k f fd ps sp) (hr : Room k X.A) (hgd : X.A.guards = some []) (hg : Gl X x) (hm : X.mg x = some (.ref f)) (hk : PySem.W.keepIn X.K (.ref f) = true) (hb : KBn X.K fd ps n ks g gV) (hx : Passes (L2.CX X.prog X.w) X E)
    (ha : (es = [] ∧ t = tNil) ∨ (es ≠ [] ∧ PA X es t)) (hkw : PK X kws tk) (hn : es.all notStar = true) (hkn : kws.all (fun k => k.arg.isSome) = true) (hks : kws.filterMap (·.arg) = ks) (hdb : (x == ("__debug__" : Str)) = false) : PE X (.Call (.Name x p) es kws pos) (tCg n ks.length sp gV E t tk) := by
  refine ⟨fun pins s σ H Q I h => wpAny_Call_Name_kw (ld_glob I hg hm ?_ hdb)⟩
  obtain ⟨k1, k2, k3⟩ := kw_all (pos := pos) (env := X.env) hkn
  rw [hks] at k2
  have main : ∀ {us : List Value} {vs : List V} {H1 : Hp} {s1 : Shared}, Inv X pins σ H1 s1 → Vals vs us → (tk σ H1 fun zs H2 => vs.length = n ∧ zs.length = ks.length ∧ sp (gV vs zs) H2 Q E) →
      wpAny (model X.prog X.w) X.A (evalAll ((backToKw pos (keywordEach kws X.env)).map (·.2))) (fun ws s2 => X.K.In s2.heap ∧ wpAny (model X.prog X.w) X.A (call (.ref f) us (((backToKw pos (keywordEach kws X.env)).filterMap (·.1)).zip ws)) (EP X pins σ Q) X.xe s2) X.xe s1 := by
    intro us vs H1 s1 I1 r q
    refine thn (hkw.run pos pins s1 σ H1 _ I1 q) ?_
    rintro ws s2 ⟨zs, H2, I2, rz, l1, l2, q2⟩
    rw [k2]
    exact ⟨I2.kIn, run_g F hr hgd hb (passAll hx σ) I2 r rz l1 l2 q2⟩
  rcases ha with ⟨rfl, rfl⟩ | ⟨ne, ha⟩
  · exact PySem.W.callWith_KW0 (h₀ := X.base) I.ok.mod.kin hk k1 (main I .nil h) (by rw [k3]; rfl)
  · cases es with
    | nil => exact absurd rfl ne
    | cons e es =>
      rw [List.all_cons, Bool.and_eq_true] at hn
      refine PySem.W.callWith_KW (h₀ := X.base) I.ok.mod.kin hk k1 (thn (ha.run pos pins s σ H _ I h) ?_) ?_ (star_cons hn.1)
      · rintro us s1 ⟨vs, H1, I1, r, q⟩
        exact main I1 r q
      · rw [k3, star_cons hn.1]
        show ((false || (backTo pos (starEach es X.env)).any (·.1)) || false) = false
        rw [star_any hn.2]; rfl
/-- the keywords' values -/
def SKw (X : Cx) (E : XK) (kws : List Keyword) (d : Da) : Prop := PK X kws (tG (gx X) E (rVs (gx X)) d)
theorem PK.imp {kws : List Keyword} {t t' : TA} (p : PK X kws t) (f : ∀ σ H Q, t' σ H Q → t σ H Q) : PK X kws t' := ⟨fun pos pins s σ H Q I q => p.run pos pins s σ H Q I (f σ H Q q)⟩
theorem skw_nil : SKw X E [] daNil := PK.imp pk_nil fun σ H Q ⟨base, α, s, h, R, S, P⟩ => P.same (u := []) R rfl
theorem skw_cons {nm : Option Str} {kp : Pos} {d : Dn} {r : Da} (ha : SE X E e d) (hr : SKw X E kws r) : SKw X E (⟨nm, e, kp⟩ :: kws) (daCons d r) := by
  refine PK.imp (pk_cons ha hr) fun σ H Q ⟨base, α, s, h, R, S, P⟩ => ?_
  refine ⟨base, α, s, h, R, S, P.bind fun v h1 α1 u H1 x1 R1 q1 P1 => ?_⟩
  refine ⟨base, α1, s, h1, R1, x1.sl S, P1.bind fun vs h2 α2 us H2 x2 R2 q2 P2 => ?_⟩
  exact P2.same R2 ⟨u, us, rfl, x2.va q1, q2⟩
/-- a call, the heap as it is -/
def dCall (F : Fn) (n m : Nat) (asm : List Va → List Va → List Va) (da dk : Da) : Dn := fun s h => (da s h).bind fun us h1 => (dk s h1).bind fun ws h2 => if us.length = n ∧ ws.length = m then F (asm us ws) h2 else .stuck
/-- what a def without places tells -/
inductive PR where
  | ok (p : Pv) | exc (c : Str) (fs : List (Str × Pv)) | stuck
def pcall (F : Fn) (ps : List Pv) : PR := match F (ps.map .pv) [] with
  | .ok v h => match give v h with
    | some (p, _) => .ok p
    | none => .stuck
  | .exc c fs _ => .exc c fs
  | .stuck => .stuck
def PR.res : PR → Hh → Res Va
  | .ok p, h => .ok (.pv p) h
  | .exc c fs, h => .exc c fs h
  | .stuck, _ => .stuck
/-- a call, what is handed in given over; nothing is changed -/
def dCallP (F : Fn) (n m : Nat) (asm : List Va → List Va → List Va) (da dk : Da) : Dn := fun s h => (da s h).bind fun us h1 => (dk s h1).bind fun ws h2 => if us.length = n ∧ ws.length = m then (match gives give (asm us ws) h2 with
  | some (ps, h3) => (pcall F ps).res h3
  | none => .stuck) else .stuck
/-- from a def's full promise to that without places -/
theorem spF_pure {G : Gx} {E : XK} {base α : List Addr} {h : Hh} {H : Hp} {m : Nat} {F : Fn} {ps : List Pv} {us : List V} {Q : VK} (R : Rel G base α h H) (q : RepPs G (base ++ own α h) H ps us) (hm : us.length = m) (P : Pst G E base α h H (rV G) ((pcall F ps).res h) Q) :
    spF G m F us H Q E := by
  refine ⟨hm, base ++ own α h, [], [], ps.map .pv, ⟨rfl, List.nodup_nil, fun a m => by simp [own] at m, fun a m => ?_, fun a m => (by cases m), fun r a ob e => by simp at e⟩, repVs_pv.mpr (by simpa [own] using q), ?_⟩
  · rcases List.mem_append.mp m with m | m
    · exact R.bas a m
    · exact R.tracked m
  · have back : ∀ {α' : List Addr} {h' : Hh} {H' : Hp}, Evo [] [] H α' h' H' → Evo α h H α h H' ∧ Rel G base α h H' := by
      intro α' h' H' x
      have k : ∀ a o, H a = some o → H' a = some o := fun a o e => x.keep a o e (by simp [own])
      have ev : Evo α h H α h H' := ⟨⟨[], by simp⟩, fun a o e _ => k a o e, fun a m => .inl m⟩
      have up : ∀ {b}, H b ≠ none → H' b ≠ none := fun {b} this z => by
        cases e : H b with
        | none => exact this e
        | some o => rw [k b o e] at z; cases z
      refine ⟨ev, ⟨R.len, R.nd, R.dis, fun a m => up (R.bas a m), fun a m => up (R.trk a m), fun r a ob e1 e2 => RepO.stay ev (fun hf => ?_) (R.obs r a ob e1 e2)⟩⟩
      · have t := R.tracked (mem_own.mpr ⟨r, ob, e1, e2, hf⟩)
        cases e : H a with
        | none => exact absurd e t
        | some o => exact k a o e
    unfold pcall at P
    cases hF : F (ps.map .pv) [] with
    | stuck => rw [hF] at P; exact P
    | exc c fs h' =>
      rw [hF] at P
      intro α' cls d H' x R' q'
      obtain ⟨ev, Rb⟩ := back x
      refine P α cls d H' ev Rb ?_
      obtain ⟨C, m1, m2, m3 | ⟨m0, dx, gs, m3, m4, m5, m6⟩⟩ := q'
      · exact ⟨C, m1, m2, .inl m3⟩
      · rw [List.mem_append, not_or] at m5
        exact ⟨C, m1, m2, .inr ⟨m0, dx, gs, m3, m4, m5.1, RepFs.mono (fun b o e n => ⟨e, fun z => n (List.mem_append_left _ z)⟩) m6⟩⟩
    | ok v h' =>
      rw [hF] at P
      intro α' u H' x R' q'
      obtain ⟨ev, Rb⟩ := back x
      dsimp only at P
      split at P
      · rename_i p h2 e2
        obtain ⟨R2, x2, _, q2⟩ := give_ok _ _ _ _ _ _ _ _ _ e2 R' q'
        exact P α u H' ev Rb (RepP.mono (fun b o e n => ⟨e, fun z => n (List.mem_append_left _ z)⟩) q2)
      · exact P.elim
end
section
variable {X : Cx} {E : XK} {x : Str} {p pos : Pos} {es : List Expr} {kws : List Keyword} {k n : Nat} {ps ks : List Str} {F : Fn} {asm : List Va → List Va → List Va} {da dk : Da}
theorem vs_len {G : Gx} {av α : List Addr} {H : Hp} {us : List Va} {vs : List V} (q : RepVs G av α H us vs) : vs.length = us.length := q.length.symm
theorem pa_daNil {es : List Expr} (hs : es = [] → da = daNil) (ha : es ≠ [] → SA X E es da) {Q : Prop} (f : ∀ t, (∀ σ H Q, tG (gx X) E (rVs (gx X)) da σ H Q → t σ H Q) → ((es = [] ∧ t = tNil) ∨ (es ≠ [] ∧ PA X es t)) → Q) : Q := by
  by_cases h : es = []
  · refine f tNil (fun σ H Q ⟨base, α, s, h1, R, S, P⟩ => ?_) (.inl ⟨h, rfl⟩)
    rw [hs h] at P
    exact P.same (u := []) R rfl
  · exact f _ (fun σ H Q q => q) (.inr ⟨h, ha h⟩)
theorem se_call (hr : Room k X.A) (hgd : X.A.guards = some []) (hx : Passes (L2.CX X.prog X.w) X E) (hg : Gl X x) (hdb : (x == ("__debug__" : Str)) = false) (D : DefAt X x k ps F n ks asm) (hs : es = [] → da = daNil) (ha : es ≠ [] → SA X E es da) (hkw : SKw X E kws dk)
    (hn : es.all notStar = true) (hkn : kws.all (fun k => k.arg.isSome) = true) (hks : kws.filterMap (·.arg) = ks) : SE X E (.Call (.Name x p) es kws pos) (dCall F n ks.length asm da dk) := by
  obtain ⟨f, fd, hm, hk, hF, ⟨g, gV, hb, hl, hrel⟩⟩ := D.ex
  refine pa_daNil hs ha fun t ht hpa => ?_
  refine PE.imp (pe_g hF hr hgd hg hm hk hb hx hpa hkw hn hkn hks hdb) fun σ H Q ⟨base, α, s, h, R, S, P⟩ => ?_
  refine ht _ _ _ ⟨base, α, s, h, R, S, P.bind fun us h1 α1 vs H1 x1 R1 q1 P1 => ?_⟩
  refine ⟨base, α1, s, h1, R1, x1.sl S, P1.bind fun ws h2 α2 zs H2 x2 R2 q2 P2 => ?_⟩
  split at P2
  · rename_i hz
    have e1 : vs.length = n := by rw [vs_len q1, hz.1]
    have e2 : zs.length = ks.length := by rw [vs_len q2, hz.2]
    exact ⟨e1, e2, hl vs zs e1 e2, base, α2, h2, _, R2, hrel _ _ _ _ _ _ _ e1 e2 (x2.vas q1) q2, P2⟩
  · exact P2.elim
theorem se_callP (hr : Room k X.A) (hgd : X.A.guards = some []) (hx : Passes (L2.CX X.prog X.w) X E) (hg : Gl X x) (hdb : (x == ("__debug__" : Str)) = false) (D : DefAt X x k ps F n ks asm) (hs : es = [] → da = daNil) (ha : es ≠ [] → SA X E es da) (hkw : SKw X E kws dk)
    (hn : es.all notStar = true) (hkn : kws.all (fun k => k.arg.isSome) = true) (hks : kws.filterMap (·.arg) = ks) : SE X E (.Call (.Name x p) es kws pos) (dCallP F n ks.length asm da dk) := by
  obtain ⟨f, fd, hm, hk, hF, ⟨g, gV, hb, hl, hrel⟩⟩ := D.ex
  refine pa_daNil hs ha fun t ht hpa => ?_
  refine PE.imp (pe_g hF hr hgd hg hm hk hb hx hpa hkw hn hkn hks hdb) fun σ H Q ⟨base, α, s, h, R, S, P⟩ => ?_
  refine ht _ _ _ ⟨base, α, s, h, R, S, P.bind fun us h1 α1 vs H1 x1 R1 q1 P1 => ?_⟩
  refine ⟨base, α1, s, h1, R1, x1.sl S, P1.bind fun ws h2 α2 zs H2 x2 R2 q2 P2 => ?_⟩
  split at P2
  · rename_i hz
    have e1 : vs.length = n := by rw [vs_len q1, hz.1]
    have e2 : zs.length = ks.length := by rw [vs_len q2, hz.2]
    refine ⟨e1, e2, ?_⟩
    split at P2
    · rename_i qs h3 e3
      obtain ⟨R3, x3, _, q3⟩ := gives_ok give_ok e3 R2 (hrel _ _ _ _ _ _ _ e1 e2 (x2.vas q1) q2)
      exact spF_pure R3 q3 (hl vs zs e1 e2) (Pst.step x3 P2)
    · exact P2.elim
  · exact P2.elim

/-! ### a def's body -/
def startS (n : Nat) (args : List Va) : Sl := args.map some ++ List.replicate (n - args.length) none
def fnOfB (n : Nat) (b : Sn) : Fn := fun args h => match b (startS n args) h with
  | .nx _ h' => .ok (.pv .non) h'
  | .rt v h' => .ok v h'
  | .exc c fs h' => .exc c fs h'
  | _ => .stuck
theorem repS_start {G : Gx} {av α : List Addr} {H : Hp} {args : List Va} {vs : List V} {N : List Str} (q : RepVs G av α H args vs) : RepS G av α H (startS N.length args) (start N vs) := by
  have hl := q.length
  refine ⟨by unfold startS L2.start; simp [hl], fun i v e => ?_⟩
  unfold startS at e
  have hi : i < args.length := by
    by_cases z : i < args.length
    · exact z
    · rw [List.getElem?_append_right (by simpa using z), List.getElem?_replicate] at e
      split at e <;> cases e
  rw [List.getElem?_append_left (by simpa using hi), List.getElem?_map] at e
  obtain ⟨w, e1, e2⟩ := Option.map_eq_some_iff.mp e
  cases e2
  obtain ⟨u, e3, r⟩ := q.get e1
  refine ⟨u, ?_, r⟩
  unfold L2.start
  rw [List.getElem?_append_left (by simpa using (List.getElem?_eq_some_iff.mp e3).1), List.getElem?_map, e3]; rfl
/-- the body's reading gives the def's promise -/
theorem body_rd {G : Gx} {b : Sn} {N : List Str} {m : Nat} {vs : List V} {H : Hp} {Q : VK} {E : XK} (h : spF G m (fnOfB N.length b) vs H Q E) : tN G E b { nx := fun _ H' => Q .non H', rt := Q } (start N vs) H := by
  obtain ⟨_, base, α, h0, args, R, q, P⟩ := h
  refine ⟨base, α, startS N.length args, h0, R, repS_start q, ?_⟩
  unfold fnOfB at P
  split at P
  · rename_i s' h' e
    rw [e]
    exact fun α' σ' H' x R' _ => P α' V.non H' x R' (rv_non.mpr rfl)
  · rename_i v h' e
    rw [e]
    exact P
  · rename_i c fs h' e
    rw [e]
    exact P
  · exact P.elim
end
end CI
namespace CI
open PySem PySem.Spec PyProof.Rows L2

/-! ### built-in functions -/
def dBi (f : Fn) (da : Da) : Dn := fun s h => (da s h).bind f
def CalS (X : Cx) (E : XK) (f : Fn) (r : List V → Hp → VK → Prop) : Prop := ∀ base α h H us vs Q, Rel (gx X) base α h H → RepVs (gx X) (base ++ own α h) α H us vs → Pst (gx X) E base α h H (rV (gx X)) (f us h) Q → r vs H Q
section
variable {X : Cx} {E : XK} {x : Str} {p pos : Pos} {e : Expr} {es : List Expr} {f : Fn} {da : Da} {r : List V → Hp → VK → Prop} {id T : String}
theorem bi_rd (hs : CalS X E f r) : ∀ σ H Q, tG (gx X) E (rV (gx X)) (dBi f da) σ H Q → tCB r (tG (gx X) E (rVs (gx X)) da) σ H Q := by
  intro σ H Q ⟨base, α, s, h, R, S, P⟩
  refine ⟨base, α, s, h, R, S, Pst.bind P fun us h1 α1 vs H1 x1 R1 q1 P1 => ?_⟩
  exact hs base α1 h1 H1 us vs Q R1 q1 P1
theorem se_bi (hc : CallR X (.builtin id) r) (hs : CalS X E f r) (hg : Gl X x) (hm : X.mg x = none) (hv : bootBuiltins x = some (.builtin id)) (hn : x ≠ "__name__") (hdb : (x == ("__debug__" : Str)) = false) (ha : SA X E (e :: es) da) (hst : (e :: es).all notStar = true) :
    SE X E (.Call (.Name x p) (e :: es) [] pos) (dBi f da) := by
  rw [List.all_cons, Bool.and_eq_true] at hst
  exact PE.imp (pe_callB hc hg hm hv ha hn hdb (star_cons hst.1) (star_any hst.2)) (bi_rd hs)
theorem se_biT (hc : CallR X (.type T) r) (hs : CalS X E f r) (hg : Gl X x) (hm : X.mg x = none) (hv : bootBuiltins x = some (.type T)) (hn : x ≠ "__name__") (hdb : (x == ("__debug__" : Str)) = false) (ha : SA X E (e :: es) da) (hst : (e :: es).all notStar = true) :
    SE X E (.Call (.Name x p) (e :: es) [] pos) (dBi f da) := by
  rw [List.all_cons, Bool.and_eq_true] at hst
  exact PE.imp (pe_callTy hc hg hm hv ha hn hdb (star_cons hst.1) (star_any hst.2)) (bi_rd hs)
end
section
variable {G : Gx} {av α : List Addr} {H : Hp}
theorem rvs1 {u : Va} {vs : List V} (q : RepVs G av α H [u] vs) : ∃ v, vs = [v] ∧ RepV G av α H u v := by
  obtain ⟨v, r, e, q1, q2⟩ := q
  have q2 : r = [] := q2
  exact ⟨v, by rw [e, q2], q1⟩
theorem rvs2 {u w : Va} {vs : List V} (q : RepVs G av α H [u, w] vs) : ∃ v v', vs = [v, v'] ∧ RepV G av α H u v ∧ RepV G av α H w v' := by
  obtain ⟨v, r, e, q1, q2⟩ := q
  obtain ⟨v', e2, q3⟩ := rvs1 q2
  exact ⟨v, v', by rw [e, e2], q1, q3⟩
end
def bAbs : Fn := fun vs h => match vs with
  | [.pv (.int i)] => .ok (.pv (.int i.natAbs)) h
  | _ => .stuck
def bLen : Fn := fun vs h => match vs with
  | [.pv (.str x)] => if x.length ≤ 16777216 then .ok (.pv (.int x.length)) h else .stuck
  | [v] => match rdl h v with
    | some xs => .ok (.pv (.int xs.length)) h
    | none => .stuck
  | _ => .stuck
def bMax2 : Fn := fun vs h => match vs with
  | [.pv (.int i), .pv (.int j)] => .ok (.pv (.int (max i j))) h
  | _ => .stuck
def bMin2 : Fn := fun vs h => match vs with
  | [.pv (.int i), .pv (.int j)] => .ok (.pv (.int (min i j))) h
  | _ => .stuck
/-- ints alone -/
def intsOf : List Va → Option (List Int)
  | [] => some []
  | .pv (.int i) :: r => (intsOf r).map (i :: ·)
  | _ :: _ => none
theorem intsOf_eq : ∀ {vs : List Va} {ns : List Int}, intsOf vs = some ns → vs = ns.map fun n => .pv (.int n)
  | [], ns, e => by cases e; rfl
  | .pv (.int i) :: r, ns, e => by
    unfold intsOf at e
    obtain ⟨qs, e1, e2⟩ := Option.map_eq_some_iff.mp e
    rw [← e2, intsOf_eq e1]; rfl
  | .ref _ :: _, _, e => by cases e
  | .pv .non :: _, _, e => by cases e
  | .pv (.bl _) :: _, _, e => by cases e
  | .pv (.str _) :: _, _, e => by cases e
  | .pv (.tup _) :: _, _, e => by cases e
  | .pv (.lst _) :: _, _, e => by cases e
  | .pv (.ins _ _) :: _, _, e => by cases e
  | .pv (.fn _) :: _, _, e => by cases e
  | .pv (.ty _) :: _, _, e => by cases e
  | .pv (.scr _) :: _, _, e => by cases e
theorem intsOf_map (ns : List Int) : intsOf (ns.map fun n => .pv (.int n)) = some ns := by
  induction ns with
  | nil => rfl
  | cons n ns ih => show (intsOf (ns.map fun n => .pv (.int n))).map (n :: ·) = _; rw [ih]; rfl
theorem repVs_ints {G : Gx} {av α : List Addr} {H : Hp} {ns : List Int} {vs : List V} : RepVs G av α H (ns.map fun n => .pv (.int n)) vs ↔ vs = ns.map V.int := by
  have e : (ns.map fun n => Va.pv (.int n)) = (ns.map Pv.int).map Va.pv := by rw [List.map_map]; rfl
  rw [e, repVs_pv, repPs_ints]
/-- a list (no tuple) of ints, read -/
def lstInts (h : Hh) (v : Va) : Option (List Int) := match v with
  | .pv (.lst ps) => intsOf (ps.map .pv)
  | .pv (.scr ns) => some ns
  | .ref r => match h[r]? with
    | some (.lst xs) => intsOf xs
    | some (.frz (.lst ps)) => intsOf (ps.map .pv)
    | _ => none
  | _ => none
theorem lstInts_ok {G : Gx} {base α : List Addr} {h : Hh} {H : Hp} (R : Rel G base α h H) {v : Va} {u : V} {ns : List Int} (r : RepV G (base ++ own α h) α H v u) (e : lstInts h v = some ns) : ∃ a, u = .ref a ∧ SqL G.K H a (ns.map V.int) := by
  have lst : ∀ (ps : List Pv) (u : V), RepP G (base ++ own α h) H (.lst ps) u → intsOf (ps.map .pv) = some ns → ∃ a, u = .ref a ∧ SqL G.K H a (ns.map V.int) := by
    intro ps u r e
    obtain ⟨a, vs, e1, t, q⟩ := repP_lst.mp r
    have q2 := repVs_pv (α := α).mpr q
    rw [intsOf_eq e] at q2
    rw [repVs_ints.mp q2] at t
    exact ⟨a, e1, t.sq⟩
  unfold lstInts at e
  split at e
  · exact lst _ u r e
  · cases e
    obtain ⟨a, e1, t⟩ := rv_scr.mp r
    exact ⟨a, e1, t.sq⟩
  · obtain ⟨a, ea, rfl⟩ := r
    split at e
    · rename_i q
      obtain ⟨vs, e1, q1⟩ := R.obs _ _ _ ea q
      rw [intsOf_eq e] at q1
      rw [repVs_ints.mp q1] at e1
      exact ⟨a, rfl, SqL.of e1⟩
    · rename_i q
      exact lst _ _ (R.obs _ _ _ ea q) e
    · cases e
  · cases e
def maxI : List Int → Int
  | [] => 0
  | [x] => x
  | x :: y :: r => max x (maxI (y :: r))
def minI : List Int → Int
  | [] => 0
  | [x] => x
  | x :: y :: r => min x (minI (y :: r))
theorem maxI_mem : ∀ {ns : List Int}, ns ≠ [] → maxI ns ∈ ns ∧ ∀ y ∈ ns, y ≤ maxI ns
  | [], h => absurd rfl h
  | [x], _ => ⟨List.mem_singleton.mpr rfl, fun y hy => by rw [List.mem_singleton.mp hy]; exact Int.le_refl _⟩
  | x :: y :: r, _ => by
    obtain ⟨h1, h2⟩ := maxI_mem (ns := y :: r) (by simp)
    rw [maxI]
    refine ⟨?_, fun z hz => ?_⟩
    · by_cases q : x ≤ maxI (y :: r)
      · rw [Int.max_eq_right q]; exact List.mem_cons_of_mem _ h1
      · rw [Int.max_eq_left (by omega)]; exact List.mem_cons_self
    · rcases List.mem_cons.mp hz with e | hz
      · rw [e]; omega
      · have := h2 z hz; omega
theorem minI_mem : ∀ {ns : List Int}, ns ≠ [] → minI ns ∈ ns ∧ ∀ y ∈ ns, minI ns ≤ y
  | [], h => absurd rfl h
  | [x], _ => ⟨List.mem_singleton.mpr rfl, fun y hy => by rw [List.mem_singleton.mp hy]; exact Int.le_refl _⟩
  | x :: y :: r, _ => by
    obtain ⟨h1, h2⟩ := minI_mem (ns := y :: r) (by simp)
    rw [minI]
    refine ⟨?_, fun z hz => ?_⟩
    · by_cases q : x ≤ minI (y :: r)
      · rw [Int.min_eq_left q]; exact List.mem_cons_self
      · rw [Int.min_eq_right (by omega)]; exact List.mem_cons_of_mem _ h1
    · rcases List.mem_cons.mp hz with e | hz
      · rw [e]; omega
      · have := h2 z hz; omega
def bMax1 : Fn := fun vs h => match vs with
  | [v] => match lstInts h v with
    | some ns => if ns.isEmpty then .stuck else .ok (.pv (.int (maxI ns))) h
    | none => .stuck
  | _ => .stuck
def bMin1 : Fn := fun vs h => match vs with
  | [v] => match lstInts h v with
    | some ns => if ns.isEmpty then .stuck else .ok (.pv (.int (minI ns))) h
    | none => .stuck
  | _ => .stuck
def bSum : Fn := fun vs h => match vs with
  | [v] => match lstInts h v with
    | some ns => .ok (.pv (.int ns.sum)) h
    | none => .stuck
  | _ => .stuck
def bInt : Fn := fun vs h => match vs with
  | [.pv (.int i)] => .ok (.pv (.int i)) h
  | [.pv (.bl b)] => .ok (.pv (.int (if b then 1 else 0))) h
  | _ => .stuck
def bDivmod : Fn := fun vs h => match vs with
  | [.pv (.int i), .pv (.int j)] => if divOk j then .ok (.pv (.tup [.int (i.fdiv j), .int (i.fmod j)])) h else .stuck
  | _ => .stuck
def showOk (d : PyData) : Bool := d.showable && !d.hasDict && decide (d.depth ≤ 50) && decide (d.shown.length ≤ 16777216)
def bRepr : Fn := fun vs h => match vs with
  | [v] => match datOf h v with
    | some d => if showOk d then .ok (.pv (.str d.shown)) h else .stuck
    | none => .stuck
  | _ => .stuck
def bStr : Fn := fun vs h => match vs with
  | [.pv (.int i)] => if i.natAbs.log2 < 1920 then .ok (.pv (.str (toString i))) h else .stuck
  | [.pv (.str x)] => .ok (.pv (.str x)) h
  | _ => .stuck
/-- truths alone -/
def blsOf : List Va → Option (List Bool)
  | [] => some []
  | .pv (.bl i) :: r => (blsOf r).map (i :: ·)
  | _ :: _ => none
theorem blsOf_ok {G : Gx} {av α : List Addr} {H : Hp} : ∀ {vs : List Va} {ns : List Bool} {us : List V}, blsOf vs = some ns → RepVs G av α H vs us → us = ns.map V.bl
  | [], ns, us, e, q => by cases e; exact q
  | v :: r, ns, us, e, q => by
    obtain ⟨u, w, e1, q1, q2⟩ := q
    unfold blsOf at e
    split at e
    · rename_i hv; cases hv
    · rename_i i r' hv
      injection hv with e3 e4
      subst e3 e4
      obtain ⟨qs, e5, e6⟩ := Option.map_eq_some_iff.mp e
      rw [← e6, e1, rv_bl.mp q1, blsOf_ok e5 q2]; rfl
    · cases e
def bAll : Fn := fun vs h => match vs with
  | [.pv (.lst ps)] => match blsOf (ps.map .pv) with
    | some bs => .ok (.pv (.bl (bs.all id))) h
    | none => .stuck
  | _ => .stuck
def bAny : Fn := fun vs h => match vs with
  | [.pv (.lst ps)] => match blsOf (ps.map .pv) with
    | some bs => .ok (.pv (.bl (bs.any id))) h
    | none => .stuck
  | _ => .stuck
/-- tuple(x), list(x): of what is given over -/
def itemsOf : Pv → Option (List Pv)
  | .lst ps => some ps
  | .tup ps => some ps
  | .scr ns => some (ns.map .int)
  | _ => none
def bTuple : Fn := fun vs h => match vs with
  | [v] => match give v h with
    | some (.lst ps, h1) => .ok (.pv (.tup ps)) h1
    | some (.tup ps, h1) => .ok (.pv (.tup ps)) h1
    | _ => .stuck
  | _ => .stuck
def bList : Fn := fun vs h => match vs with
  | [v] => match rdl h v with
    | some xs => match allPv xs with
      | some ps => .ok (.pv (.lst ps)) h
      | none => .stuck
    | none => .stuck
  | _ => .stuck
section
variable {X : Cx} {E : XK}
theorem cs_abs : CalS X E bAbs (fun xs H Q => ∃ i, xs = [.int i] ∧ Q (.int (if i < 0 then -i else i)) H) := by
  intro base α h H us vs Q R q P
  unfold bAbs at P
  split at P
  · rename_i i
    obtain ⟨v, e, q1⟩ := rvs1 q
    rw [rv_int.mp q1] at e
    refine ⟨i, e, ?_⟩
    have : (if i < 0 then -i else i) = (i.natAbs : Int) := by split <;> omega
    rw [this]
    exact P.same R (rv_int.mpr rfl)
  · exact P.elim
theorem cs_len : CalS X E bLen (fun xs H Q => ∃ x n, xs = [x] ∧ LenV X.K x H n ∧ Q (.int n) H) := by
  intro base α h H us vs Q R q P
  unfold bLen at P
  split at P
  · obtain ⟨v, e, q1⟩ := rvs1 q
    rw [rv_str.mp q1] at e
    split at P
    · rename_i x hx
      exact ⟨_, _, e, ⟨by rw [sizeLine_eq]; exact hx, rfl⟩, P.same R (rv_int.mpr rfl)⟩
    · exact P.elim
  · obtain ⟨v, e, q1⟩ := rvs1 q
    split at P
    · rename_i xs hxs
      obtain ⟨a, ws, e2, t, q2⟩ := rdl_ok R q1 hxs
      subst e2
      refine ⟨_, xs.length, e, ?_, P.same R (rv_int.mpr rfl)⟩
      rcases t with t | t
      · exact .inl ⟨ws, t, q2.length⟩
      · exact .inr ⟨ws, t, q2.length⟩
    · exact P.elim
  · exact P.elim
theorem cs_max2 : CalS X E bMax2 (fun xs H Q => ∃ i j, xs = [.int i, .int j] ∧ Q (.int (if j > i then j else i)) H) := by
  intro base α h H us vs Q R q P
  unfold bMax2 at P
  split at P
  · rename_i i j
    obtain ⟨v, w, e, q1, q2⟩ := rvs2 q
    rw [rv_int.mp q1, rv_int.mp q2] at e
    refine ⟨i, j, e, ?_⟩
    rw [show (if j > i then j else i) = max i j by split <;> omega]
    exact P.same R (rv_int.mpr rfl)
  · exact P.elim
theorem cs_min2 : CalS X E bMin2 (fun xs H Q => ∃ i j, xs = [.int i, .int j] ∧ Q (.int (if j < i then j else i)) H) := by
  intro base α h H us vs Q R q P
  unfold bMin2 at P
  split at P
  · rename_i i j
    obtain ⟨v, w, e, q1, q2⟩ := rvs2 q
    rw [rv_int.mp q1, rv_int.mp q2] at e
    refine ⟨i, j, e, ?_⟩
    rw [show (if j < i then j else i) = min i j by split <;> omega]
    exact P.same R (rv_int.mpr rfl)
  · exact P.elim
theorem len_pos {ns : List Int} (h : ¬ ns.isEmpty = true) : 0 < ns.length ∧ ns ≠ [] := by
  cases ns with
  | nil => exact absurd rfl h
  | cons _ _ => exact ⟨by simp, by simp⟩
theorem cs_max1 : CalS X E bMax1 (rMax X.K) := by
  intro base α h H us vs Q R q P
  unfold bMax1 at P
  split at P
  · obtain ⟨v, e, q1⟩ := rvs1 q
    split at P
    · rename_i ns hns
      split at P
      · exact P.elim
      · rename_i hne
        obtain ⟨a, e2, t⟩ := lstInts_ok R q1 hns
        obtain ⟨l1, l2⟩ := len_pos hne
        refine ⟨a, ns, by rw [e, e2], t, l1, fun m hm hle => ?_⟩
        obtain ⟨m1, m2⟩ := maxI_mem l2
        have : m = maxI ns := Int.le_antisymm (m2 m hm) (hle _ m1)
        rw [this]
        exact P.same R (rv_int.mpr rfl)
    · exact P.elim
  · exact P.elim
theorem cs_min1 : CalS X E bMin1 (rMin X.K) := by
  intro base α h H us vs Q R q P
  unfold bMin1 at P
  split at P
  · obtain ⟨v, e, q1⟩ := rvs1 q
    split at P
    · rename_i ns hns
      split at P
      · exact P.elim
      · rename_i hne
        obtain ⟨a, e2, t⟩ := lstInts_ok R q1 hns
        obtain ⟨l1, l2⟩ := len_pos hne
        refine ⟨a, ns, by rw [e, e2], t, l1, fun m hm hle => ?_⟩
        obtain ⟨m1, m2⟩ := minI_mem l2
        have : m = minI ns := Int.le_antisymm (hle _ m1) (m2 m hm)
        rw [this]
        exact P.same R (rv_int.mpr rfl)
    · exact P.elim
  · exact P.elim
theorem cs_sum : CalS X E bSum (rSum X.K) := by
  intro base α h H us vs Q R q P
  unfold bSum at P
  split at P
  · obtain ⟨v, e, q1⟩ := rvs1 q
    split at P
    · rename_i ns hns
      obtain ⟨a, e2, t⟩ := lstInts_ok R q1 hns
      exact ⟨a, ns, by rw [e, e2], t, P.same R (rv_int.mpr rfl)⟩
    · exact P.elim
  · exact P.elim
theorem cs_int : CalS X E bInt (fun xs H Q => (∃ i, xs = [.int i] ∧ Q (.int i) H) ∨ ∃ k, xs = [.bl k] ∧ Q (.int (if k then 1 else 0)) H) := by
  intro base α h H us vs Q R q P
  unfold bInt at P
  split at P
  · obtain ⟨v, e, q1⟩ := rvs1 q
    rw [rv_int.mp q1] at e
    exact .inl ⟨_, e, P.same R (rv_int.mpr rfl)⟩
  · obtain ⟨v, e, q1⟩ := rvs1 q
    rw [rv_bl.mp q1] at e
    exact .inr ⟨_, e, P.same R (rv_int.mpr rfl)⟩
  · exact P.elim
def rDivmod : List V → Hp → VK → Prop := fun xs H Q => ∃ i j, xs = [.int i, .int j] ∧ divOk j = true ∧ ∀ p, H p = none → Q (.ref p) (upd H p (.tup [.int (i.fdiv j), .int (i.fmod j)]))
theorem call_divmodG : CallR X (.builtin "divmod") rDivmod := by
  intro pins s σ H xs us Q I r hq
  obtain ⟨i, j, rfl, hd, q⟩ := hq
  obtain ⟨u, u', rfl, ⟨t, rfl⟩, ⟨t', rfl⟩⟩ := vals2 r
  unfold divOk at hd
  simp only [Bool.and_eq_true, decide_eq_true_eq] at hd
  have hn : H s.heap.objs.size = none := I.hok.fresh (Nat.le_refl _)
  have hobj : ObjOk X.prog X.w (upd H s.heap.objs.size (.tup [.int (i.fdiv j), .int (i.fmod j)])) (s.heap.push { cls := .type "tuple", data := .seq [Value.int (i.fdiv j) s.toks, .int (i.fmod j) (s.toks + 1)].toArray }) s.heap.objs.size (.tup [.int (i.fdiv j), .int (i.fmod j)]) :=
    ⟨by rw [sizeLine_eq]; show (2 : Nat) ≤ 16777216; decide, [.int (i.fdiv j) s.toks, .int (i.fmod j) (s.toks + 1)], .cons ⟨_, rfl⟩ (.cons ⟨_, rfl⟩ .nil), ⟨_, Heap.get?_push_size s.heap rfl, rfl, 0, rfl⟩⟩
  exact divmod_int hd.1 ⟨.ref s.heap.objs.size, _, I.laid (fun b o e => Heap.get?_push_of_some _ e) (Nat.le_refl _) hobj, rfl, q _ hn⟩ (.inl (PyProof.noPylong_of_log2 hd.2))
theorem cs_divmod : CalS X E bDivmod rDivmod := by
  intro base α h H us vs Q R q P
  unfold bDivmod at P
  split at P
  · rename_i i j
    obtain ⟨v, w, e, q1, q2⟩ := rvs2 q
    rw [rv_int.mp q1, rv_int.mp q2] at e
    split at P
    · rename_i hd
      refine ⟨i, j, e, hd, fun p np => P.new R np fun ev na => rv_tup.mpr ⟨p, _, rfl, .inl ⟨.inl upd_same, na⟩, ?_⟩⟩
      exact repPs_cons.mpr ⟨_, _, rfl, repP_int.mpr rfl, .one (repP_int.mpr rfl)⟩
    · exact P.elim
  · exact P.elim
def rRepr (K : PySem.W.Frag) : List V → Hp → VK → Prop := fun xs H Q => ∃ x d, xs = [x] ∧ Dp K H x d ∧ showOk d = true ∧ Q (.str d.shown) H
theorem call_reprG (hg : X.A.guards = some []) (hu : X.A.units + 60 < cLine) : CallR X (.builtin "repr") (rRepr X.K) := by
  intro pins s σ H xs us Q I r hq
  obtain ⟨x, d, rfl, hd, ho, q⟩ := hq
  obtain ⟨u, rfl, ru⟩ := vals1 r
  obtain ⟨as, rd⟩ := Dp.reads I d x u hd ru
  unfold showOk at ho
  simp only [Bool.and_eq_true, decide_eq_true_eq, Bool.not_eq_true'] at ho
  obtain ⟨⟨⟨h1, h2⟩, h3⟩, h4⟩ := ho
  have hl : d.shown.length ≤ sizeLine := by rw [sizeLine_eq]; exact h4
  have go : ∀ a, u = .ref a → wpAny (model X.prog X.w) X.A (call (.builtin "repr") [u]) (EP X pins σ Q) X.xe s := by
    rintro a rfl
    exact repr_of_reads' rd h1 (fun z => by rw [h2] at z; cases z) hg (by omega) (fun b o e => e) (fun h' t tk k => ⟨.str d.shown, H, I.kept k, ⟨_, rfl⟩, q⟩) hl
  cases hd with
  | non => cases ru; exact PySem.P.repr_of_none ⟨.str _, H, I.tok _, ⟨_, rfl⟩, q⟩
  | bl b => cases ru; exact PySem.P.repr_of_bool ⟨.str _, H, I.tok _, ⟨_, rfl⟩, q⟩
  | int i =>
    obtain ⟨t, rfl⟩ := ru
    exact PySem.P.repr_of_int (of_decide_eq_true h1) ⟨.str _, H, I.tok _, ⟨_, rfl⟩, q⟩
  | str y =>
    obtain ⟨t, rfl⟩ := ru
    exact PySem.P.repr_of_str ⟨.str _, H, I.tok _, ⟨_, rfl⟩, q⟩ hl
  | lst _ _ => exact go _ ru
  | tup _ _ => exact go _ ru
theorem cs_repr : CalS X E bRepr (rRepr X.K) := by
  intro base α h H us vs Q R q P
  unfold bRepr at P
  split at P
  · obtain ⟨v, e, q1⟩ := rvs1 q
    split at P
    · rename_i d hd
      split at P
      · rename_i ho
        exact ⟨v, d, e, datOf_ok R q1 hd, ho, P.same R (rv_str.mpr rfl)⟩
      · exact P.elim
    · exact P.elim
  · exact P.elim
theorem cs_str : CalS X E bStr (fun xs H Q => (∃ i, xs = [.int i] ∧ i.natAbs.log2 < 1920 ∧ Q (.str (toString i)) H) ∨ ∃ a, xs = [.str a] ∧ Q (.str a) H) := by
  intro base α h H us vs Q R q P
  unfold bStr at P
  split at P
  · obtain ⟨v, e, q1⟩ := rvs1 q
    rw [rv_int.mp q1] at e
    split at P
    · rename_i hi
      exact .inl ⟨_, e, hi, P.same R (rv_str.mpr rfl)⟩
    · exact P.elim
  · obtain ⟨v, e, q1⟩ := rvs1 q
    rw [rv_str.mp q1] at e
    exact .inr ⟨_, e, P.same R (rv_str.mpr rfl)⟩
  · exact P.elim
theorem call_strG : CallR X (.type "str") (fun xs H Q => (∃ i, xs = [.int i] ∧ i.natAbs.log2 < 1920 ∧ Q (.str (toString i)) H) ∨ ∃ a, xs = [.str a] ∧ Q (.str a) H) := CallR.or call_str_int SkE.call_str_str
theorem cs_all : CalS X E bAll (fun xs H Q => ∃ (a : Addr) (bs : List Bool), xs = [V.ref a] ∧ SqL X.K H a (bs.map V.bl) ∧ Q (.bl (bs.all id)) H) := by
  intro base α h H us vs Q R q P
  unfold bAll at P
  split at P
  · rename_i ps
    obtain ⟨v, e, q1⟩ := rvs1 q
    split at P
    · rename_i bs hb
      obtain ⟨a, ws, e1, t, q2⟩ := rv_lst.mp q1
      rw [blsOf_ok hb (repVs_pv (α := α).mpr q2)] at t
      exact ⟨a, bs, by rw [e, e1], t.sq, P.same R (rv_bl.mpr rfl)⟩
    · exact P.elim
  · exact P.elim
theorem cs_any : CalS X E bAny (fun xs H Q => ∃ (a : Addr) (bs : List Bool), xs = [V.ref a] ∧ SqL X.K H a (bs.map V.bl) ∧ Q (.bl (bs.any id)) H) := by
  intro base α h H us vs Q R q P
  unfold bAny at P
  split at P
  · rename_i ps
    obtain ⟨v, e, q1⟩ := rvs1 q
    split at P
    · rename_i bs hb
      obtain ⟨a, ws, e1, t, q2⟩ := rv_lst.mp q1
      rw [blsOf_ok hb (repVs_pv (α := α).mpr q2)] at t
      exact ⟨a, bs, by rw [e, e1], t.sq, P.same R (rv_bl.mpr rfl)⟩
    · exact P.elim
  · exact P.elim
theorem cs_tuple : CalS X E bTuple (fun xs H Q => ∃ p ys, xs = [.ref p] ∧ ((SqL X.K H p ys ∧ ∀ l, H l = none → Q (.ref l) (upd H l (.tup ys))) ∨ (SqT X.K H p ys ∧ Q (.ref p) H))) := by
  intro base α h H us vs Q R q P
  unfold bTuple at P
  split at P
  · obtain ⟨v, e, q1⟩ := rvs1 q
    split at P
    · rename_i ps h1 eg
      obtain ⟨R1, x1, _, q2⟩ := give_ok _ _ _ _ _ _ _ _ _ eg R q1
      obtain ⟨a, ws, e1, t, q3⟩ := repP_lst.mp q2
      refine ⟨a, ws, by rw [e, e1], .inl ⟨t.sq, fun l nl => P.gave x1 R1 nl fun ev na => rv_tup.mpr ⟨l, ws, rfl, .inl ⟨.inl upd_same, na⟩, ev.pvs (G := gx X) q3⟩⟩⟩
    · rename_i ps h1 eg
      obtain ⟨R1, x1, _, q2⟩ := give_ok _ _ _ _ _ _ _ _ _ eg R q1
      obtain ⟨a, ws, e1, t, q3⟩ := repP_tup.mp q2
      rw [e1] at e q2
      exact ⟨a, ws, e, .inr ⟨t.sq, P α _ _ x1 R1 q2⟩⟩
    · exact P.elim
  · exact P.elim
theorem cs_list : CalS X E bList (fun xs H Q => ∃ p ys, xs = [.ref p] ∧ (SqL X.K H p ys ∨ SqT X.K H p ys) ∧ ∀ l, H l = none → Q (.ref l) (upd H l (.lst ys))) := by
  intro base α h H us vs Q R q P
  unfold bList at P
  split at P
  · obtain ⟨v, e, q1⟩ := rvs1 q
    split at P
    · rename_i xs hxs
      split at P
      · rename_i ps hp
        obtain ⟨a, ws, e2, t, q2⟩ := rdl_ok R q1 hxs
        rw [allPv_eq hp] at q2
        refine ⟨a, ws, by rw [e, e2], t, fun l nl => P.new R nl fun ev na => rv_lst.mpr ⟨l, ws, rfl, ⟨.inl upd_same, na⟩, ev.pvs (G := gx X) (repVs_pv.mp q2)⟩⟩
      · exact P.elim
    · exact P.elim
  · exact P.elim

/-! ### isinstance(x, T), T a built-in type -/
def tyName : Va → Option String
  | .pv .non => some "NoneType"
  | .pv (.bl _) => some "bool"
  | .pv (.int _) => some "int"
  | .pv (.str _) => some "str"
  | .pv (.tup _) => some "tuple"
  | .pv (.lst _) => some "list"
  | _ => none
def isiTab (a b : String) : Option Bool :=
  if b = "int" then (if a = "int" ∨ a = "bool" then some true else some false)
  else if b = "bool" ∨ b = "str" ∨ b = "tuple" ∨ b = "list" then some (decide (a = b)) else none
theorem isiTab_ok {v : Va} {a b : String} {r : Bool} (ha : tyName v = some a) (h : isiTab a b = some r) : kitB a b = some r := by
  have hb : b = "int" ∨ b = "bool" ∨ b = "str" ∨ b = "tuple" ∨ b = "list" := by
    unfold isiTab at h
    split at h
    · exact .inl (by assumption)
    · split at h
      · rename_i q; exact .inr q
      · cases h
  have hA : a = "NoneType" ∨ a = "bool" ∨ a = "int" ∨ a = "str" ∨ a = "tuple" ∨ a = "list" := by
    unfold tyName at ha
    split at ha <;> first | (cases ha; simp; done) | cases ha
  rw [← h]
  rcases hA with rfl | rfl | rfl | rfl | rfl | rfl <;> rcases hb with rfl | rfl | rfl | rfl | rfl <;> decide +kernel
theorem tyName_ok {base α : List Addr} {h : Hh} {H : Hp} {v : Va} {u : V} {a : String} (r : RepV (gx X) (base ++ own α h) α H v u) (e : tyName v = some a) : TyX X.K H u (.type a) := by
  unfold tyName at e
  split at e <;> first | (cases e; done) | skip
  all_goals cases e
  · rw [rv_non.mp r]; exact .base .non
  · rw [rv_bl.mp r]; exact .base (.bl _)
  · rw [rv_int.mp r]; exact .base (.int _)
  · rw [rv_str.mp r]; exact .base (.str _)
  · obtain ⟨a, vs, e, t, _⟩ := rv_tup.mp r
    rw [e]
    rcases t with ⟨t | ⟨o, t⟩, _⟩ | ⟨o, its, n, t, c, _⟩
    · exact .base (.tup t)
    · exact .fTuple t
    · exact .kTuple t c
  · obtain ⟨a, vs, e, t, _⟩ := rv_lst.mp r
    rw [e]
    rcases t with ⟨t | ⟨o, t⟩, _⟩
    · exact .base (.lst t)
    · exact .base (.frz t)
def bIsi : Fn := fun vs h => match vs with
  | [v, .pv (.ty T)] => match tyName v with
    | some a => match isiTab a T with
      | some b => .ok (.pv (.bl b)) h
      | none => .stuck
    | none => .stuck
  | _ => .stuck
theorem cs_isi : CalS X E bIsi (rIsi X.K) := by
  intro base α h H us vs Q R q P
  unfold bIsi at P
  split at P
  · rename_i v T
    obtain ⟨y, w, e, q1, q2⟩ := rvs2 q
    rw [rv_ty.mp q2] at e
    split at P
    · rename_i a ha
      split at P
      · rename_i b hb
        exact ⟨y, .ty T, .type a, .type T, b, e, .ty T, tyName_ok q1 ha, kit_ty (isiTab_ok ha hb), P.same R (rv_bl.mpr rfl)⟩
      · exact P.elim
    · exact P.elim
  · exact P.elim
end
end CI
namespace CI
open PySem PySem.Spec PyProof.Rows L2

/-! ### a list that will be changed -/
theorem own_append {ob : Ob} {p : Addr} : ∀ {α : List Addr} {h : Hh}, α.length = h.length → own (α ++ [p]) (h ++ [ob]) = own α h ++ (if ob.isFrz then [] else [p])
  | [], [], _ => by
    simp only [List.nil_append, own]
  | a :: α, [], e => by cases e
  | [], o :: h, e => by cases e
  | a :: α, o :: h, e => by
    have ih := own_append (ob := ob) (p := p) (α := α) (h := h) (by simpa using e)
    simp only [List.cons_append, own, ih]
    split <;> simp
theorem Rel.alloc {G : Gx} {base α : List Addr} {h : Hh} {H : Hp} {p : Addr} {ob : Ob} {o : HO} (R : Rel G base α h H) (np : H p = none)
    (q : Evo α h H (α ++ [p]) (h ++ [ob]) (upd H p o) → RepO G (base ++ own (α ++ [p]) (h ++ [ob])) (α ++ [p]) (upd H p o) p ob) :
    Rel G base (α ++ [p]) (h ++ [ob]) (upd H p o) ∧ Evo α h H (α ++ [p]) (h ++ [ob]) (upd H p o) := by
  have ne : ∀ {b u}, H b = some u → b ≠ p := fun e => ne_of_none e np
  have oe := own_append (ob := ob) (p := p) R.len
  have ev : Evo α h H (α ++ [p]) (h ++ [ob]) (upd H p o) := by
    refine ⟨⟨[p], rfl⟩, fun a u e _ => by rw [upd_ne (ne e)]; exact e, fun a m => ?_⟩
    rw [oe] at m
    rcases List.mem_append.mp m with m | m
    · exact .inl m
    · split at m
      · cases m
      · rw [List.mem_singleton.mp m]; exact .inr np
  have up : ∀ {b}, H b ≠ none → upd H p o b ≠ none := fun {b} this => by
    by_cases z : b = p
    · rw [z, upd_same]; exact fun q => nomatch q
    · rw [upd_ne z]; exact this
  refine ⟨⟨by rw [List.length_append, List.length_append, R.len]; rfl, ?_, fun a m => ?_, fun a m => up (R.bas a m), fun a m => ?_, fun r a x e1 e2 => ?_⟩, ev⟩
  · rw [List.nodup_append]
    exact ⟨R.nd, by simp, fun a ha b hb => by rw [List.mem_singleton.mp hb]; exact fun z => R.trk a ha (by rw [z]; exact np)⟩
  · rcases List.mem_append.mp m with m | m
    · exact R.dis a m
    · rw [List.mem_singleton.mp m]; exact fun z => R.bas p z np
  · rcases List.mem_append.mp m with m | m
    · exact up (R.trk a m)
    · rw [List.mem_singleton.mp m, upd_same]; exact fun q => nomatch q
  · by_cases hr : r < α.length
    · rw [List.getElem?_append_left hr] at e1
      rw [List.getElem?_append_left (by rw [← R.len]; exact hr)] at e2
      exact RepO.stay ev (fun hf => upd_ne fun z => R.tracked (mem_own.mpr ⟨r, x, e1, e2, hf⟩) (by rw [z]; exact np)) (R.obs r a x e1 e2)
    · have : r = α.length := by
        have := (List.getElem?_eq_some_iff.mp e1).1
        rw [List.length_append] at this
        simp at this
        omega
      subst this
      rw [List.getElem?_append_right (Nat.le_refl _), Nat.sub_self] at e1
      rw [List.getElem?_append_right (by rw [R.len]; exact Nat.le_refl _), R.len, Nat.sub_self] at e2
      have e1 : some p = some a := e1
      have e2 : some ob = some x := e2
      cases e1
      cases e2
      exact q ev
def dLstM (da : Da) : Dn := fun s h => (da s h).bind fun vs h1 => if vs.length ≤ 16777216 then .ok (.ref h1.length) (h1 ++ [.lst vs]) else .stuck
section
variable {X : Cx} {E : XK}
theorem se_lstM {es : List Expr} {da : Da} {pos : Pos} (ha : SA X E es da) : SE X E (.List es pos) (dLstM da) := by
  refine PE.imp (pe_lst ha) fun σ H Q ⟨base, α, s, h, R, S, P⟩ => ?_
  refine ⟨base, α, s, h, R, S, Pst.bind P fun vs h1 α1 us H1 x1 R1 q1 P1 => ?_⟩
  split at P1
  · rename_i hl
    refine ⟨by rw [← q1.length, sizeLine_eq]; exact hl, fun p np => ?_⟩
    obtain ⟨R2, x2⟩ := R1.alloc (ob := .lst vs) (o := .lst us) np fun ev => ⟨us, upd_same, ev.vas (G := gx X) q1⟩
    exact P1 _ _ _ x2 R2 ⟨p, by rw [List.getElem?_append_right (by rw [R1.len]; exact Nat.le_refl _), R1.len, Nat.sub_self]; rfl, rfl⟩
  · exact P1.elim
end
end CI
namespace CI
open PySem PySem.Spec PyProof.Rows L2

/-! ### {k: v, ..}: a new dict -/
def pairsV : List (Dn × Dn) → Sl → Hh → Res (List (Key × Va))
  | [], _, h => .ok [] h
  | (dk, dv) :: r, s, h => (dk s h).bind fun x h1 => (dv s h1).bind fun y h2 => (pairsV r s h2).bind fun l h3 => match keyOf x with
    | some k => .ok ((k, y) :: l) h3
    | none => .stuck
def mergeV (kvs more : List (Key × Va)) : List (Key × Va) := more.foldl (fun acc kv => putV acc kv.1 kv.2) kvs
theorem fv_merge {G : Gx} {av α : List Addr} {H : Hp} : ∀ {more : List (Key × Va)} {ms : List (Key × V)} {kvs : List (Key × Va)} {ks : List (Key × V)}, RepFV G av α H more ms → RepFV G av α H kvs ks → RepFV G av α H (mergeV kvs more) (mergeK ks ms)
  | [], _, _, _, h, q => by cases h; exact q
  | p :: r, _, _, _, h, q => by
    obtain ⟨v, w, rfl, q1, q2⟩ := h
    show RepFV G av α H (mergeV (putV _ p.1 p.2) r) (mergeK (putK _ p.1 v) w)
    exact fv_merge (more := r) (ms := w) q2 (fv_put q1 q)
def dDic (ps : List (Dn × Dn)) : Dn := fun s h => (pairsV ps s (h ++ [.dct []])).bind fun kvs h2 => match h2[h.length]? with
  | some (.dct []) => if kvs.length ≤ 15 then .ok (.ref h.length) (h2.set h.length (.dct (mergeV [] kvs))) else .stuck
  | _ => .stuck
section
variable {X : Cx} {E : XK}
abbrev trsOf (G : Gx) (E : XK) (ps : List (Dn × Dn)) : List (TE × TE) := ps.map fun q => (tG G E (rV G) q.1, tG G E (rV G) q.2)
/-- pairs by their keys' values -/
def repKV (G : Gx) : Rp (List (Key × Va)) (List (V × V)) := fun av α H l vs => ∃ m : List (Key × V), vs = m.map (fun kv => (kV kv.1, kv.2)) ∧ RepFV G av α H l m
theorem pairs_rd {G : Gx} {base : List Addr} {s : Sl} {σ : L2.St} : ∀ {ps : List (Dn × Dn)} {α : List Addr} {h : Hh} {H : Hp} {Q : List (V × V) → Hp → Prop}, Rel G base α h H → RepS G (base ++ own α h) α H s σ →
    Pst G E base α h H (repKV G) (pairsV ps s h) Q → tPairs (trsOf G E ps) σ H Q
  | [], α, h, H, Q, R, S, P => P.same (u := []) R ⟨[], rfl, rfl⟩
  | (dk, dv) :: r, α, h, H, Q, R, S, P => by
    refine ⟨base, α, s, h, R, S, Pst.bind P fun x h1 α1 u H1 x1 R1 q1 P1 => ?_⟩
    refine ⟨base, α1, s, h1, R1, x1.sl S, P1.bind fun y h2 α2 w H2 x2 R2 q2 P2 => ?_⟩
    refine pairs_rd (ps := r) R2 (x2.sl (x1.sl S)) (P2.bind fun l h3 α3 vs H3 x3 R3 q3 P3 => ?_)
    split at P3
    · rename_i k hk
      obtain ⟨m, e, q4⟩ := q3
      have eu := keyOf_ok hk ((x2.trans x3).va q1)
      exact P3.same R3 ⟨(k, w) :: m, by rw [e, eu]; rfl, w, m, rfl, x3.va q2, q4⟩
    · exact P3.elim
theorem se_dic {keys : List (Option Expr)} {values : List Expr} {ps : List (Dn × Dn)} {pos : Pos} (h : PPs X pos keys values (trsOf (gx X) E ps)) (hall : keys.all (·.isSome) = true) (hl : keys.length = values.length) (h0 : keys ≠ []) (h15 : keys.length ≤ 15) :
    SE X E (.Dict keys values pos) (dDic ps) := by
  refine PE.imp (pe_disp h hall hl h0 h15) fun σ H Q ⟨base, α, s, h, R, S, P⟩ => ?_
  intro p np
  obtain ⟨R0, x0⟩ := R.alloc (ob := .dct []) (o := .dK []) np fun ev => ⟨[], upd_same, rfl⟩
  refine pairs_rd R0 (x0.sl S) (Pst.bind (Pst.step x0 P) fun kvs h2 α2 vs H2 x2 R2 q2 P2 => ?_)
  obtain ⟨m, e, q3⟩ := q2
  split at P2
  · rename_i eh
    split at P2
    · rename_i h15
      have ea : α2[h.length]? = some p := x2.get (by rw [← R.len]; simp)
      obtain ⟨ks, e1, e2⟩ := R2.obs _ _ _ ea eh
      have e2 : ks = [] := e2
      subst e2
      refine ⟨e1, m, e, by rw [← fv_len q3]; exact h15, ?_⟩
      have key := R2.write (o := .dK (mergeK [] m)) (ob' := .dct (mergeV [] kvs)) ea eh rfl rfl fun ev => ⟨_, upd_same, fv_merge (ev.fvs (G := gx X) q3) rfl⟩
      exact P2 α2 (.ref p) _ key.2 key.1 ⟨p, ea, rfl⟩
    · exact P2.elim
  · exact P2.elim
theorem pps_of {pos : Pos} : ∀ {keys : List (Option Expr)} {values : List Expr} {ps : List (Dn × Dn)}, keys.length = values.length → ps.length = keys.length →
    (∀ (i : Nat) k v q, keys[i]? = some (some k) → values[i]? = some v → ps[i]? = some q → SE X E k q.1 ∧ SE X E v q.2) → keys.all (·.isSome) = true → PPs X pos keys values (trsOf (gx X) E ps)
  | [], [], [], _, _, _, _ => pps_nil
  | some k :: ks, v :: vs, q :: ps, h1, h2, h, ha => by
    obtain ⟨a, b⟩ := h 0 k v q rfl rfl rfl
    rw [List.all_cons, Bool.and_eq_true] at ha
    exact pps_cons a b (pps_of (by simpa using h1) (by simpa using h2) (fun i k v q e1 e2 e3 => h (i + 1) k v q e1 e2 e3) ha.2)
  | none :: _, _, _, _, _, _, ha => by cases ha
  | some _ :: _, [], _, h1, _, _, _ => by cases h1
  | some _ :: _, _ :: _, [], _, h2, _, _ => by cases h2
  | [], _ :: _, _, h1, _, _, _ => by cases h1
  | [], [], _ :: _, _, h2, _, _ => by cases h2
end
end CI
namespace CI
open PySem PySem.Spec PyProof.Rows L2

/-! ### o.f -/
def notSuper : Expr → Bool
  | .Call (.Name id _) [] [] _ => !(id == ("super" : Str))
  | _ => true
theorem base_id {o : Expr} {f : Str} {env : Env} {w : Sem Value} (h : notSuper o = true) : attributeBase o f env w = w := by
  unfold attributeBase
  split
  · rename_i id p pos
    have h1 : (id != ("super" : Str)) = true := h
    rw [h1]
    rfl
  · rfl
/-- an instance's class and attributes -/
def fldOf (h : Hh) : Va → Option (Str × List (Str × Va))
  | .pv (.ins c fs) => some (c, fs.map fun q => (q.1, .pv q.2))
  | .ref r => match h[r]? with
    | some (.ins c fs) => some (c, fs)
    | some (.frz (.ins c fs)) => some (c, fs.map fun q => (q.1, .pv q.2))
    | _ => none
  | _ => none
theorem fs_fv {G : Gx} {av α : List Addr} {H : Hp} : ∀ {fs : List (Str × Pv)} {gs : List (Str × V)}, RepFs G av H fs gs → RepFV G av α H (fs.map fun q => (q.1, Va.pv q.2)) gs
  | [], gs, h => by
    rw [RepFs] at h
    subst h; rfl
  | x :: xs, gs, h => by
    rw [RepFs] at h
    obtain ⟨v, r, e, a, b⟩ := h
    exact ⟨v, r, e, a, fs_fv b⟩
theorem fldOf_ok {G : Gx} {base α : List Addr} {h : Hh} {H : Hp} (R : Rel G base α h H) {x : Va} {u : V} {c : Str} {fs : List (Str × Va)} (r : RepV G (base ++ own α h) α H x u) (e : fldOf h x = some (c, fs)) :
    ∃ a C dx gs, u = .ref a ∧ G.mg c = some (.ref C) ∧ H a = some (.ins C dx gs) ∧ RepFV G (base ++ own α h) α H fs gs := by
  unfold fldOf at e
  split at e
  · cases e
    obtain ⟨a, C, dx, gs, e1, e2, e3, _, e5⟩ := rv_ins.mp r
    exact ⟨a, C, dx, gs, e1, e2, e3, fs_fv e5⟩
  · obtain ⟨a, ea, rfl⟩ := r
    split at e
    · rename_i q
      cases e
      obtain ⟨C, dx, gs, e2, e3, e5⟩ := R.obs _ _ _ ea q
      exact ⟨a, C, dx, gs, rfl, e2, e3, e5⟩
    · rename_i q
      cases e
      obtain ⟨a', C, dx, gs, e1, e2, e3, _, e5⟩ := repP_ins.mp (R.obs _ _ _ ea q)
      cases e1
      exact ⟨a, C, dx, gs, rfl, e2, e3, fs_fv e5⟩
    · cases e
  · cases e
theorem fv_lookup {G : Gx} {av α : List Addr} {H : Hp} {f : Str} {x : Va} : ∀ {fs : List (Str × Va)} {gs : List (Str × V)}, RepFV G av α H fs gs → fs.lookup f = some x → ∃ v, gs.lookup f = some v ∧ RepV G av α H x v
  | [], _, _, e => by cases e
  | p :: r, _, ⟨v, w, e0, q1, q2⟩, e => by
    subst e0
    obtain ⟨g, y⟩ := p
    rw [List.lookup_cons] at e ⊢
    cases z : f == g with
    | true =>
      rw [z] at e
      cases e
      exact ⟨v, rfl, q1⟩
    | false =>
      rw [z] at e
      exact fv_lookup q2 e
theorem fv_lookup_none {G : Gx} {av α : List Addr} {H : Hp} {f : Str} : ∀ {fs : List (Str × Va)} {gs : List (Str × V)}, RepFV G av α H fs gs → fs.lookup f = none → gs.lookup f = none
  | [], _, h, _ => by cases h; rfl
  | p :: r, _, ⟨v, w, e0, q1, q2⟩, e => by
    subst e0
    obtain ⟨g, y⟩ := p
    rw [List.lookup_cons] at e ⊢
    cases z : f == g with
    | true => rw [z] at e; cases e
    | false => rw [z] at e; exact fv_lookup_none q2 e
/-- o.f, o of one of the classes L -/
def dAttr (L : List Str) (f : Str) (d : Dn) : Dn := fun s h => (d s h).bind fun x h1 => match fldOf h1 x with
  | some (c, fs) => if c ∈ L then match fs.lookup f with
    | some v => .ok v h1
    | none => .stuck
    else .stuck
  | none => .stuck
/-- f is an attribute of c's instances, no name of the class -/
def FldOk (G : Gx) (c f : Str) : Prop := ∀ C, G.mg c = some (.ref C) → Cls G.K C ∧ NoAttr G.K C f
section
variable {X : Cx} {E : XK} {o e : Expr} {d dv : Dn} {f : Str} {L : List Str} {pos apos : Pos}
theorem se_attr (hL : ∀ c ∈ L, FldOk (gx X) c f) (hs : notSuper o = true) (ho : SE X E o d) : SE X E (.Attribute o f pos) (dAttr L f d) := by
  refine PE.imp (pe_fld ho (base_id hs)) fun σ H Q ⟨base, α, s, h, R, S, P⟩ => ?_
  refine ⟨base, α, s, h, R, S, Pst.bind P fun x h1 α1 u H1 x1 R1 q1 P1 => ?_⟩
  split at P1
  · rename_i c fs e1
    split at P1
    · rename_i hc
      split at P1
      · rename_i v e2
        obtain ⟨a, C, dx, gs, e3, e4, e5, e6⟩ := fldOf_ok R1 q1 e1
        obtain ⟨w, e7, q7⟩ := fv_lookup e6 e2
        obtain ⟨c1, c2⟩ := hL c hc C e4
        exact ⟨a, C, dx, gs, w, e3, e5, c1, c2, e7, P1.same R1 q7⟩
      · exact P1.elim
    · exact P1.elim
  · exact P1.elim
/-- an attribute put -/
def putFV (f : Str) (v : Va) : List (Str × Va) → List (Str × Va)
  | [] => [(f, v)]
  | (g, x) :: r => if g = f then (g, v) :: r else (g, x) :: putFV f v r
theorem fv_putF {G : Gx} {av α : List Addr} {H : Hp} {f : Str} {x : Va} {v : V} (hx : RepV G av α H x v) : ∀ {fs : List (Str × Va)} {gs : List (Str × V)}, RepFV G av α H fs gs → RepFV G av α H (putFV f x fs) (putF f v gs)
  | [], _, h => by cases h; exact ⟨v, [], rfl, hx, rfl⟩
  | p :: r, _, ⟨w, ws, e0, q1, q2⟩ => by
    subst e0
    obtain ⟨g, y⟩ := p
    unfold putFV putF
    dsimp only
    by_cases z : g = f
    · rw [if_pos z, if_pos z]; exact ⟨v, ws, rfl, hx, q2⟩
    · rw [if_neg z, if_neg z]; exact ⟨w, _, rfl, q1, fv_putF hx q2⟩
/-- o.f = v: v first -/
def sAttr (L : List Str) (f : Str) (dv d : Dn) : Sn := fun s h => sBind (dv s h) fun v h1 => sBind (d s h1) fun x h2 => match x with
  | .ref r => match h2[r]? with
    | some (.ins c fs) => if c ∈ L ∧ fs.length < 1000 then .nx s (h2.set r (.ins c (putFV f v fs))) else .stuck
    | _ => .stuck
  | _ => .stuck
theorem ss_attr (hL : ∀ c ∈ L, FldOk (gx X) c f) (hv : SE X E e dv) (ho : SE X E o d) (hn : isComp e = false) : SS X E (.Assign [.Attribute o f apos] e pos) (sAttr L f dv d) := by
  refine PS.imp (ps_fld ho hv (noSwap hn)) fun D σ H ⟨base, α, s, h, R, S, P⟩ => ?_
  refine ⟨base, α, s, h, R, S, PstS.bind P fun v h1 α1 u1 H1 x1 R1 q1 P1 => ?_⟩
  refine ⟨base, α1, s, h1, R1, x1.sl S, PstS.bind P1 fun x h2 α2 u2 H2 x2 R2 q2 P2 => ?_⟩
  split at P2
  · rename_i r
    split at P2
    · rename_i c fs eh
      split at P2
      · rename_i hc
        obtain ⟨a, ea, rfl⟩ := q2
        obtain ⟨C, dx, gs, e2, e3, e5⟩ := R2.obs _ _ _ ea eh
        obtain ⟨c1, c2⟩ := hL c hc.1 C e2
        refine ⟨a, C, dx, gs, rfl, e3, c1, c2, by rw [← fv_len e5]; exact hc.2, ?_⟩
        have key := R2.write (o := .ins C dx (putF f u1 gs)) (ob' := .ins c (putFV f v fs)) ea eh rfl rfl fun ev => ⟨C, dx, _, e2, upd_same, fv_putF (ev.va (G := gx X) (x2.va q1)) (ev.fvs (G := gx X) e5)⟩
        exact P2 α2 σ _ key.2 key.1 (((x1.trans x2).trans key.2).sl S)
      · exact P2.elim
    · exact P2.elim
  · exact P2.elim
end
end CI
namespace CI
open PySem PySem.Spec PyProof.Rows L2

/-! ### o.m(..) -/
theorem meth_eval {o : Expr} {m : Str} {apos pos : Pos} {args : List Expr} {kws : List Keyword} {env : Env} (hs : notSuper o = true) (hn : args.all notStar = true) (hk : kws.all (fun k => k.arg.isSome) = true) (hl : args.length + kws.length < 29) (hp : (apos.endLine == pos.line) = true) :
    eval (.Call (.Attribute o m apos) args kws pos) env = (do
      let ov ← eval o env
      standAt apos.atName
      let (f, first) ← holding [ov] (getMethod ov m (do return (← importBound o env).getD true))
      callWith pos f first (backTo pos (starEach args env)) (backToKw pos (keywordEach kws env))) := by
  have few : methodCallForm (args.length + kws.length) (backTo pos (starEach args env)) (backToKw pos (keywordEach kws env)) = true := by
    unfold methodCallForm
    have h1 : (backTo pos (starEach args env)).all (fun x => !x.1) = true := by
      have := star_any (pos := pos) (env := env) hn
      rw [List.all_eq_true]
      intro x hx
      rw [List.any_eq_false] at this
      simpa using this x hx
    obtain ⟨h2, _, _⟩ := kw_all (pos := pos) (env := env) hk
    rw [h1, h2]
    simp only [Bool.true_and, decide_eq_true_eq]
    split <;> omega
  show (do
    let ov ← attributeBase o m env (eval o env)
    standAt apos.atName
    methodCall o m apos pos env ov (args.length + kws.length) (backTo pos (starEach args env)) (backToKw pos (keywordEach kws env))) = _
  rw [base_id hs]
  unfold methodCall calleeOf methodCallPos
  rw [few, hp]
  rfl
section
variable {X : Cx} {E : XK} {o : Expr} {es : List Expr} {kws : List Keyword} {m : Str} {ta : TE} {t tk : TA} {n : Nat} {ks : List Str} {pos apos : Pos}
/-- the method of the class that is met -/
def tMethG (X : Cx) (m : Str) (n : Nat) (ks : List Str) (E : L2.St → XK) (ta : TE) (t tk : TA) : TE := fun σ H Q => ta σ H fun x H1 => ∃ a C dx fs f fd k ps sp g gV, x = .ref a ∧ H1 a = some (.ins C dx fs) ∧ fs.lookup m = none ∧ Cls X.K C ∧ Meth X.K C m f ∧
  FnG X.prog X.w X.K X.mg X.base k f fd ps sp ∧ Room k X.A ∧ KBn X.K fd ps (n + 1) ks g gV ∧ t σ H1 fun vs H2 => tk σ H2 fun zs H3 => vs.length = n ∧ zs.length = ks.length ∧ sp (gV (x :: vs) zs) H3 Q (E σ)
theorem pe_methG {E : L2.St → XK} (hgd : X.A.guards = some []) (hx : ∀ σ, PassAt X σ (E σ)) (ho : PE X o ta) (ha : (es = [] ∧ t = tNil) ∨ (es ≠ [] ∧ PA X es t)) (hkw : PK X kws tk) (hs : notSuper o = true) (hn : es.all notStar = true) (hkn : kws.all (fun k => k.arg.isSome) = true) (hks : kws.filterMap (·.arg) = ks)
    (hl : es.length + kws.length < 29) (hp : (apos.endLine == pos.line) = true) : PE X (.Call (.Attribute o m apos) es kws pos) (tMethG X m n ks E ta t tk) := by
  refine ⟨fun pins s σ H Q I h => ?_⟩
  refine PySem.W.methodCall_KW (pl := do return (← importBound o X.env).getD true) (thn (ho.run pins s σ H _ I h) ?_) (meth_eval hs hn hkn hl hp)
  rintro u s1 ⟨x, H1, I1, rx, a, C, dx, fs, f, fd, k, ps, sp, g, gV, rfl, ea, hl, c, hm, F, hr, hb, q⟩
  obtain rfl : u = Value.ref a := rx
  refine getmeth_ok I1 ea c hm hl ?_
  obtain ⟨k1, k2, k3⟩ := kw_all (pos := pos) (env := X.env) hkn
  rw [hks] at k2
  have main : ∀ {us : List Value} {vs : List V} {H2 : Hp} {s2 : Shared}, Inv X pins σ H2 s2 → Vals vs us → (tk σ H2 fun zs H3 => vs.length = n ∧ zs.length = ks.length ∧ sp (gV (.ref a :: vs) zs) H3 Q (E σ)) →
      wpAny (model X.prog X.w) X.A (evalAll ((backToKw pos (keywordEach kws X.env)).map (·.2))) (fun ws s3 => X.K.In s3.heap ∧ wpAny (model X.prog X.w) X.A (call (.ref f) ([Value.ref a] ++ us) (((backToKw pos (keywordEach kws X.env)).filterMap (·.1)).zip ws)) (EP X pins σ Q) X.xe s3) X.xe s2 := by
    intro us vs H2 s2 I2 r q
    refine thn (hkw.run pos pins s2 σ H2 _ I2 q) ?_
    rintro ws s3 ⟨zs, H3, I3, rz, l1, l2, q3⟩
    rw [k2]
    exact ⟨I3.kIn, run_g (us := Value.ref a :: us) (vs := V.ref a :: vs) F hr hgd hb (hx σ) I3 (.cons rfl r) rz (by rw [List.length_cons, l1]) l2 q3⟩
  rcases ha with ⟨rfl, rfl⟩ | ⟨ne, ha⟩
  · exact PySem.W.callWith_KW0 (h₀ := X.base) (first := [Value.ref a]) I.ok.mod.kin hm.kp k1 (main I1 .nil q) (by rw [k3]; rfl)
  · cases es with
    | nil => exact absurd rfl ne
    | cons e es =>
      rw [List.all_cons, Bool.and_eq_true] at hn
      refine PySem.W.callWith_KW (h₀ := X.base) (first := [Value.ref a]) I.ok.mod.kin hm.kp k1 (thn (ha.run pos pins s1 σ H1 _ I1 q) ?_) ?_ (star_cons hn.1)
      · rintro us s2 ⟨vs, H2, I2, r, q⟩
        exact main I2 r q
      · rw [k3, star_cons hn.1]
        show ((false || (backTo pos (starEach es X.env)).any (·.1)) || false) = false
        rw [star_any hn.2]; rfl
end
/-- a method of a class, as it is called -/
abbrev MtE := Bool × Fn × (List Va → List Va → List Va)
def MethAt (X : Cx) (c m : Str) (k : Nat) (ps : List Str) (F : Fn) (n : Nat) (ks : List Str) (asm : List Va → List Va → List Va) : Prop :=
  ∀ C, X.mg c = some (.ref C) → ∃ f fd, Cls X.K C ∧ Meth X.K C m f ∧ FnG X.prog X.w X.K X.mg X.base k f fd ps (spF (gx X) ps.length F) ∧ CallOk (gx X) fd ps n ks asm
def runM (e : MtE) (us ws : List Va) (h : Hh) : Res Va := if e.1 then (match gives give (e.2.2 us ws) h with
  | some (ps, h') => (pcall e.2.1 ps).res h'
  | none => .stuck) else e.2.1 (e.2.2 us ws) h
def dMeth (tab : List (Str × MtE)) (m : Str) (n mk : Nat) (d : Dn) (da dk : Da) : Dn := fun s h => (d s h).bind fun x h1 => match fldOf h1 x with
  | some (c, fs) => match tab.lookup c with
    | some e => if fs.lookup m = none then (da s h1).bind fun us h2 => (dk s h2).bind fun ws h3 => if us.length = n ∧ ws.length = mk then runM e (x :: us) ws h3 else .stuck
      else .stuck
    | none => .stuck
  | none => .stuck
section
variable {X : Cx} {E : XK} {o : Expr} {es : List Expr} {kws : List Keyword} {m : Str} {d : Dn} {da dk : Da} {n : Nat} {ks : List Str} {pos apos : Pos} {tab : List (Str × MtE)}
theorem runM_ok {G : Gx} {base α : List Addr} {h : Hh} {H : Hp} {e : MtE} {us ws : List Va} {vs : List V} {Q : VK} {N : Nat} (R : Rel G base α h H) (q : RepVs G (base ++ own α h) α H (e.2.2 us ws) vs) (hl : vs.length = N) (P : Pst G E base α h H (rV G) (runM e us ws h) Q) : spF G N e.2.1 vs H Q E := by
  unfold runM at P
  split at P
  · split at P
    · rename_i qs h3 e3
      obtain ⟨R3, x3, _, q3⟩ := gives_ok give_ok e3 R q
      exact spF_pure R3 q3 hl (Pst.step x3 P)
    · exact P.elim
  · exact ⟨hl, base, α, h, _, R, q, P⟩
theorem se_meth (hgd : X.A.guards = some []) (hx : Passes (L2.CX X.prog X.w) X E)
    (ht : ∀ c e, tab.lookup c = some e → ∃ k ps, Room k X.A ∧ MethAt X c m k ps e.2.1 (n + 1) ks e.2.2)
    (ho : SE X E o d) (hs0 : es = [] → da = daNil) (ha : es ≠ [] → SA X E es da) (hkw : SKw X E kws dk) (hs : notSuper o = true) (hn : es.all notStar = true) (hkn : kws.all (fun k => k.arg.isSome) = true) (hks : kws.filterMap (·.arg) = ks)
    (hl : es.length + kws.length < 29) (hp : (apos.endLine == pos.line) = true) : SE X E (.Call (.Attribute o m apos) es kws pos) (dMeth tab m n ks.length d da dk) := by
  refine pa_daNil hs0 ha fun t ht2 hpa => ?_
  refine PE.imp (pe_methG (E := fun _ => E) (n := n) hgd (passAll hx) ho hpa hkw hs hn hkn hks hl hp) fun σ H Q ⟨base, α, s, h, R, S, P⟩ => ?_
  refine ⟨base, α, s, h, R, S, Pst.bind P fun x h1 α1 u H1 x1 R1 q1 P1 => ?_⟩
  split at P1
  · rename_i c fs e1
    split at P1
    · rename_i e e2
      split at P1
      · rename_i e3
        obtain ⟨a, C, dx, gs, rfl, e5, e6, e7⟩ := fldOf_ok R1 q1 e1
        obtain ⟨k, ps, rm, D⟩ := ht c e e2
        obtain ⟨f, fd, hc, hm, hF, ⟨g, gV, hb, hlen, hrel⟩⟩ := D C e5
        refine ⟨a, C, dx, gs, f, fd, k, ps, _, g, gV, rfl, e6, fv_lookup_none e7 e3, hc, hm, hF, rm, hb, ?_⟩
        refine ht2 _ _ _ ⟨base, α1, s, h1, R1, x1.sl S, P1.bind fun us h2 α2 vs H2 x2 R2 q2 P2 => ?_⟩
        refine ⟨base, α2, s, h2, R2, x2.sl (x1.sl S), P2.bind fun ws h3 α3 zs H3 x3 R3 q3 P3 => ?_⟩
        split at P3
        · rename_i hz
          have l1 : vs.length = n := by rw [vs_len q2, hz.1]
          have l2 : zs.length = ks.length := by rw [vs_len q3, hz.2]
          have l1' : (V.ref a :: vs).length = n + 1 := by rw [List.length_cons, l1]
          have rr : RepVs (gx X) (base ++ own α3 h3) α3 H3 (x :: us) (V.ref a :: vs) := ⟨_, _, rfl, (x2.trans x3).va q1, x3.vas q2⟩
          exact ⟨l1, l2, runM_ok R3 (hrel _ _ _ _ _ _ _ l1' l2 rr q3) (hlen _ _ l1' l2) P3⟩
        · exact P3.elim
      · exact P1.elim
    · exact P1.elim
  · exact P1.elim
end

/-! ### C(..) -/
section
variable {X : Cx} {E : XK} {x : Str} {p pos : Pos} {es : List Expr} {kws : List Keyword} {t tk : TA} {k n : Nat} {f C : Addr} {fd : FuncData} {ps ks : List Str} {sp : Sp} {g : List Value → List Value → List Value} {gV : List V → List V → List V}
theorem under_guards {A : Around} {C : Addr} {us : List Value} {kw : List (Str × Value)} (h : A.guards = some []) : (A.under (.builtin "type.__call__" ⟨.ref C :: us, kw⟩)).guards = some [] := by
  first | exact h | simpa [Around.under, Code.isGuard, guardIds] using h
theorem run_makeG {pins : List (Addr × Obj)} {σ : L2.St} {H : Hp} {s : Shared} {Q : VK} {us ws : List Value} {vs zs : List V} (M : Mk X.K C f) (F : FnG X.prog X.w X.K X.mg X.base k f fd ps sp) (hr : Room (k + 1) X.A) (hgd : X.A.guards = some []) (hb : KBn X.K fd ps (n + 1) ks g gV)
    (hx : Passes (L2.CX X.prog X.w) X E) (I : Inv X pins σ H s) (r : Vals vs us) (rz : Vals zs ws) (l1 : vs.length = n) (l2 : zs.length = ks.length)
    (h : ∀ x dx, H x = none → H dx = none → dx ≠ x → sp (gV (.ref x :: vs) zs) (upd (upd H dx (.own x)) x (.ins C dx [])) (fun v H2 => v = .non ∧ Q (.ref x) H2) E) :
    wpAny (model X.prog X.w) X.A (call (.ref C) us (ks.zip ws)) (EP X pins σ Q) X.xe s := by
  have q := h (s.heap.objs.size + 1) s.heap.objs.size (I.hok.fresh (by omega)) (I.hok.fresh (Nat.le_refl _)) (Nat.ne_of_lt (Nat.lt_succ_self _))
  have I2 := Inv.made (C := C) I
  have rr : Vals (V.ref (s.heap.objs.size + 1) :: vs) (Value.ref (s.heap.objs.size + 1) :: us) := .cons rfl r
  refine wpAny_call (make_map (f := f) I.kIn M.makes M.init (beq_iff_eq.mp M.fn) (codeAny_mono (F.run _ X.stack _ _ ⟨Value.ref (s.heap.objs.size + 1) :: us, ks.zip ws⟩ (g (Value.ref (s.heap.objs.size + 1) :: us) ws) _ _ E (hr.make C us (ks.zip ws)) (under_guards hgd)
    (I2.env0.make C us (ks.zip ws)) (hb.to _ _ ws I2.kIn (by rw [List.length_cons, ← r.length, l1]) (rz.length.symm.trans l2)) (hb.rel rr rz) q) ?_))
  intro r2 s2 hq
  rcases r2 with e | fl
  · exact hx pins σ _ _ e s2 I2 hq
  · cases fl with
    | ret u =>
      obtain ⟨v, H3, I3, rv, ev, q3⟩ := I2.after hq
      rw [ev] at rv
      exact ⟨rv, ⟨V.ref (s.heap.objs.size + 1), H3, I3, rfl, q3⟩⟩
    | next => exact absurd hq (fun z => z)
    | brk => exact absurd hq (fun z => z)
    | cont => exact absurd hq (fun z => z)
theorem pe_makeG (M : Mk X.K C f) (F : FnG X.prog X.w X.K X.mg X.base k f fd ps sp) (hr : Room (k + 1) X.A) (hgd : X.A.guards = some []) (hg : Gl X x) (hm : X.mg x = some (.ref C)) (hb : KBn X.K fd ps (n + 1) ks g gV) (hx : Passes (L2.CX X.prog X.w) X E)
    (ha : (es = [] ∧ t = tNil) ∨ (es ≠ [] ∧ PA X es t)) (hkw : PK X kws tk) (hn : es.all notStar = true) (hkn : kws.all (fun k => k.arg.isSome) = true) (hks : kws.filterMap (·.arg) = ks) (hdb : (x == ("__debug__" : Str)) = false) : PE X (.Call (.Name x p) es kws pos) (tMakeK C n ks.length sp gV E t tk) := by
  refine ⟨fun pins s σ H Q I h => wpAny_Call_Name_kw (ld_glob I hg hm ?_ hdb)⟩
  obtain ⟨k1, k2, k3⟩ := kw_all (pos := pos) (env := X.env) hkn
  rw [hks] at k2
  have main : ∀ {us : List Value} {vs : List V} {H1 : Hp} {s1 : Shared}, Inv X pins σ H1 s1 → Vals vs us → (tk σ H1 fun zs H2 => vs.length = n ∧ zs.length = ks.length ∧ ∀ x dx, H2 x = none → H2 dx = none → dx ≠ x → sp (gV (.ref x :: vs) zs) (upd (upd H2 dx (.own x)) x (.ins C dx [])) (fun v H3 => v = .non ∧ Q (.ref x) H3) E) →
      wpAny (model X.prog X.w) X.A (evalAll ((backToKw pos (keywordEach kws X.env)).map (·.2))) (fun ws s2 => X.K.In s2.heap ∧ wpAny (model X.prog X.w) X.A (call (.ref C) us (((backToKw pos (keywordEach kws X.env)).filterMap (·.1)).zip ws)) (EP X pins σ Q) X.xe s2) X.xe s1 := by
    intro us vs H1 s1 I1 r q
    refine thn (hkw.run pos pins s1 σ H1 _ I1 q) ?_
    rintro ws s2 ⟨zs, H2, I2, rz, l1, l2, q2⟩
    rw [k2]
    exact ⟨I2.kIn, run_makeG M F hr hgd hb hx I2 r rz l1 l2 q2⟩
  rcases ha with ⟨rfl, rfl⟩ | ⟨ne, ha⟩
  · exact PySem.W.callWith_KW0 (h₀ := X.base) I.ok.mod.kin M.kp k1 (main I .nil h) (by rw [k3]; rfl)
  · cases es with
    | nil => exact absurd rfl ne
    | cons e es =>
      rw [List.all_cons, Bool.and_eq_true] at hn
      refine PySem.W.callWith_KW (h₀ := X.base) I.ok.mod.kin M.kp k1 (thn (ha.run pos pins s σ H _ I h) ?_) ?_ (star_cons hn.1)
      · rintro us s1 ⟨vs, H1, I1, r, q⟩
        exact main I1 r q
      · rw [k3, star_cons hn.1]
        show ((false || (backTo pos (starEach es X.env)).any (·.1)) || false) = false
        rw [star_any hn.2]; rfl
/-- a new instance: F is __init__ -/
def mkIns (c : Str) (F : Fn) (asm : List Va → List Va → List Va) (us ws : List Va) (h : Hh) : Res Va := match F (asm (.ref h.length :: us) ws) (h ++ [.ins c []]) with
  | .ok (.pv .non) h' => .ok (.ref h.length) h'
  | .exc c fs h' => .exc c fs h'
  | _ => .stuck
def dMake (c : Str) (F : Fn) (n m : Nat) (asm : List Va → List Va → List Va) (da dk : Da) : Dn := fun s h => (da s h).bind fun us h1 => (dk s h1).bind fun ws h2 => if us.length = n ∧ ws.length = m then mkIns c F asm us ws h2 else .stuck
/-- a class that stands at c: its __init__ -/
def MakeAt (X : Cx) (c : Str) (k : Nat) (ps : List Str) (F : Fn) (n : Nat) (ks : List Str) (asm : List Va → List Va → List Va) : Prop :=
  ∃ C f fd, X.mg c = some (.ref C) ∧ Mk X.K C f ∧ FnG X.prog X.w X.K X.mg X.base k f fd ps (spF (gx X) ps.length F) ∧ CallOk (gx X) fd ps n ks asm
theorem se_make {F : Fn} {asm : List Va → List Va → List Va} {da dk : Da} (hr : Room (k + 1) X.A) (hgd : X.A.guards = some []) (hx : Passes (L2.CX X.prog X.w) X E) (hg : Gl X x) (hdb : (x == ("__debug__" : Str)) = false) (D : MakeAt X x k ps F (n + 1) ks asm) (hs : es = [] → da = daNil) (ha : es ≠ [] → SA X E es da) (hkw : SKw X E kws dk)
    (hn : es.all notStar = true) (hkn : kws.all (fun k => k.arg.isSome) = true) (hks : kws.filterMap (·.arg) = ks) : SE X E (.Call (.Name x p) es kws pos) (dMake x F n ks.length asm da dk) := by
  obtain ⟨C, f, fd, hm, hM, hF, ⟨g, gV, hb, hl, hrel⟩⟩ := D
  refine pa_daNil hs ha fun t ht hpa => ?_
  refine PE.imp (pe_makeG hM hF hr hgd hg hm hb hx hpa hkw hn hkn hks hdb) fun σ H Q ⟨base, α, s, h, R, S, P⟩ => ?_
  refine ht _ _ _ ⟨base, α, s, h, R, S, P.bind fun us h1 α1 vs H1 x1 R1 q1 P1 => ?_⟩
  refine ⟨base, α1, s, h1, R1, x1.sl S, P1.bind fun ws h2 α2 zs H2 x2 R2 q2 P2 => ?_⟩
  split at P2
  · rename_i hz
    have e1 : vs.length = n := by rw [vs_len q1, hz.1]
    have e2 : zs.length = ks.length := by rw [vs_len q2, hz.2]
    refine ⟨e1, e2, fun y dx ny ndx nd => ?_⟩
    obtain ⟨Ra, xa⟩ := R2.laid (o := .own y) ndx
    have ny' : upd H2 dx (.own y) y = none := by rw [upd_ne (fun z => nd z.symm)]; exact ny
    obtain ⟨Rb, xb⟩ := Ra.alloc (ob := .ins x []) (o := .ins C dx []) ny' fun ev => ⟨C, dx, [], hm, upd_same, rfl⟩
    have ei : (α2 ++ [y])[h2.length]? = some y := by rw [← R2.len]; simp
    have l1 : (V.ref y :: vs).length = n + 1 := by rw [List.length_cons, e1]
    have rr : RepVs (gx X) (base ++ own (α2 ++ [y]) (h2 ++ [.ins x []])) (α2 ++ [y]) (upd (upd H2 dx (.own y)) y (.ins C dx [])) (.ref h2.length :: us) (V.ref y :: vs) := ⟨_, _, rfl, ⟨y, ei, rfl⟩, ((x2.trans xa).trans xb).vas q1⟩
    refine ⟨hl _ _ l1 e2, base, α2 ++ [y], h2 ++ [.ins x []], _, Rb, hrel _ _ _ _ _ _ _ l1 e2 rr ((xa.trans xb).vas q2), ?_⟩
    unfold mkIns at P2
    split at P2
    · rename_i h' eF
      rw [eF]
      intro α' u H' x' R' q'
      have eu : u = .non := rv_non.mp q'
      exact ⟨eu, P2 α' (.ref y) H' ((xa.trans xb).trans x') R' ⟨y, x'.get ei, rfl⟩⟩
    · rename_i c fs h' eF
      rw [eF]
      intro α' cls d H' x' R' q'
      exact P2 α' cls d H' ((xa.trans xb).trans x') R' q'
    · exact P2.elim
  · exact P2.elim
end
end CI
namespace CI
open PySem PySem.Spec PyProof.Rows L2

/-! ### xs.append(e) -/
/-- a list that is being changed -/
def lstOf (h : Hh) : Va → Option (List Va)
  | .ref r => match h[r]? with
    | some (.lst xs) => some xs
    | _ => none
  | _ => none
def pushL (x v : Va) (h : Hh) : Res Va := match x, lstOf h x with
  | .ref r, some xs => if xs.length < 16777216 then .ok (.pv .non) (h.set r (.lst (xs ++ [v]))) else .stuck
  | _, _ => .stuck
def dApp (d : Dn) (da : Da) : Dn := fun s h => (d s h).bind fun x h1 => match lstOf h1 x with
  | some _ => (da s h1).bind fun vs h2 => match vs with
    | [v] => pushL x v h2
    | _ => .stuck
  | none => .stuck
section
variable {X : Cx} {E : XK} {o e : Expr} {d : Dn} {da : Da} {pos apos : Pos}
theorem lstOf_ok {G : Gx} {base α : List Addr} {h : Hh} {H : Hp} (R : Rel G base α h H) {x : Va} {u : V} {xs : List Va} (r : RepV G (base ++ own α h) α H x u) (e : lstOf h x = some xs) : ∃ n a vs, x = .ref n ∧ α[n]? = some a ∧ h[n]? = some (.lst xs) ∧ u = .ref a ∧ H a = some (.lst vs) ∧ RepVs G (base ++ own α h) α H xs vs := by
  unfold lstOf at e
  split at e
  · rename_i n
    obtain ⟨a, ea, rfl⟩ := r
    split at e
    · rename_i q
      cases e
      obtain ⟨vs, e1, q1⟩ := R.obs _ _ _ ea q
      exact ⟨n, a, vs, rfl, ea, q, rfl, e1, q1⟩
    · cases e
  · cases e
theorem se_app (hs : notSuper o = true) (hn : notStar e = true) (hp : (apos.endLine == pos.line) = true) (ho : SE X E o d) (ha : SA X E [e] da) : SE X E (.Call (.Attribute o "append" apos) [e] [] pos) (dApp d da) := by
  have few : ((backTo pos (starEach [e] X.env)).all (fun x => !x.1) && (backToKw pos (keywordEach [] X.env)).all (fun x => x.1.isSome) && decide (([e] : List Expr).length + ([] : List Keyword).length + (if ([] : List Keyword).isEmpty then 0 else 1) < 30)) = true := by
    rw [star_cons hn]; rfl
  refine PE.imp (pe_bm PySem.F.plainAttrs_list PySem.F.slot_list_append PySem.F.type_list_append mt_append ho ha (base_id hs) few hp (star_cons hn) rfl) fun σ H Q ⟨base, α, s, h, R, S, P⟩ => ?_
  refine ⟨base, α, s, h, R, S, Pst.bind P fun x h1 α1 u H1 x1 R1 q1 P1 => ?_⟩
  split at P1
  · rename_i xs e1
    obtain ⟨n, a, vs, rfl, ea, eh, rfl, eH, q2⟩ := lstOf_ok R1 q1 e1
    refine ⟨.inl ⟨rfl, vs, SqL.of eH⟩, base, α1, s, h1, R1, x1.sl S, P1.bind fun ws h2 α2 zs H2 x2 R2 q3 P2 => ?_⟩
    split at P2
    · rename_i v
      unfold pushL at P2
      split at P2
      · rename_i r ys e2
        split at P2
        · rename_i hl
          rename_i hx
          obtain ⟨w, zs', rfl, q4, q5⟩ := q3
          have q5 : zs' = [] := q5
          subst q5
          obtain ⟨n2, a2, vs2, hn2, ea2, eh2, hu2, eH2, q6⟩ := lstOf_ok R2 (x2.va q1) e2
          cases hn2
          cases hu2
          cases ys
          refine ⟨_, vs2, w, rfl, rfl, eH2, by rw [sizeLine_eq, ← q6.length]; exact hl, ?_⟩
          have key := R2.write (o := .lst (vs2 ++ [w])) (ob' := .lst (r ++ [v])) ea2 eh2 rfl rfl fun ev => ⟨_, upd_same, RepVs.append (ev.vas (G := gx X) q6) (ys := [v]) (ws := [w]) (show ∃ y r, [w] = y :: r ∧ _ ∧ _ from ⟨w, [], rfl, ev.va (G := gx X) q4, rfl⟩)⟩
          exact P2 α2 .non _ key.2 key.1 (rv_non.mpr rfl)
        · exact P2.elim
      · exact P2.elim
    · exact P2.elim
  · exact P1.elim
end
end CI
namespace CI
open PySem PySem.Spec PyProof.Rows L2

/-! ### xs[lo:hi] -/
def cutA {α : Type} (xs : List α) (lo hi : Option Int) : List α := (xs.drop (HT.sIx xs.length 0 lo)).take (HT.sIx xs.length xs.length hi - HT.sIx xs.length 0 lo)
theorem reps_drop {G : Gx} {av : List Addr} {H : Hp} : ∀ (n : Nat) {xs : List Pv} {vs : List V}, RepPs G av H xs vs → RepPs G av H (xs.drop n) (vs.drop n)
  | 0, _, _, h => h
  | n + 1, [], _, h => by rw [repPs_nil] at h; subst h; exact repPs_nil.mpr rfl
  | n + 1, x :: xs, _, h => by
    rw [repPs_cons] at h
    obtain ⟨v, r, rfl, _, h2⟩ := h
    exact reps_drop n h2
theorem reps_take {G : Gx} {av : List Addr} {H : Hp} : ∀ (n : Nat) {xs : List Pv} {vs : List V}, RepPs G av H xs vs → RepPs G av H (xs.take n) (vs.take n)
  | 0, _, _, h => repPs_nil.mpr rfl
  | n + 1, [], _, h => by rw [repPs_nil] at h; subst h; exact repPs_nil.mpr rfl
  | n + 1, x :: xs, _, h => by
    rw [repPs_cons] at h
    obtain ⟨v, r, rfl, h1, h2⟩ := h
    exact repPs_cons.mpr ⟨v, r.take n, rfl, h1, reps_take n h2⟩
theorem reps_cut {G : Gx} {av : List Addr} {H : Hp} {lo hi : Option Int} {xs : List Pv} {vs : List V} (h : RepPs G av H xs vs) : RepPs G av H (cutA xs lo hi) (cutV vs lo hi) := by
  unfold cutA cutV
  rw [h.length]
  exact reps_take _ (reps_drop _ h)
/-- of a list: its pure items -/
def lstPs (h : Hh) : Va → Option (List Pv)
  | .pv (.lst ps) => some ps
  | .ref r => match h[r]? with
    | some (.lst xs) => allPv xs
    | some (.frz (.lst ps)) => some ps
    | _ => none
  | _ => none
theorem lstPs_ok {G : Gx} {base α : List Addr} {h : Hh} {H : Hp} (R : Rel G base α h H) {x : Va} {u : V} {ps : List Pv} (r : RepV G (base ++ own α h) α H x u) (e : lstPs h x = some ps) : ∃ a vs, u = .ref a ∧ SqL G.K H a vs ∧ RepPs G (base ++ own α h) H ps vs := by
  unfold lstPs at e
  split at e
  · cases e
    obtain ⟨a, vs, e1, t, q⟩ := rv_lst.mp r
    exact ⟨a, vs, e1, t.sq, q⟩
  · obtain ⟨a, ea, rfl⟩ := r
    split at e
    · rename_i q
      obtain ⟨vs, e1, q1⟩ := R.obs _ _ _ ea q
      rw [allPv_eq e] at q1
      exact ⟨a, vs, rfl, SqL.of e1, repVs_pv.mp q1⟩
    · rename_i q
      cases e
      obtain ⟨a', vs, e1, t, q2⟩ := repP_lst.mp (R.obs _ _ _ ea q)
      cases e1
      exact ⟨a, vs, rfl, t.sq, q2⟩
    · cases e
  · cases e
def oSl (x : Va) (lo hi : Option Int) (h : Hh) : Res Va := match lstPs h x with
  | some ps => .ok (.pv (.lst (cutA ps lo hi))) h
  | none => match x with
    | .pv (.tup ps) => if HT.sIx ps.length 0 lo = 0 ∧ HT.sIx ps.length ps.length hi = ps.length then .stuck else .ok (.pv (.tup (cutA ps lo hi))) h
    | _ => .stuck
/-- a bound -/
def bdOf (o : Option Dn) : Sl → Hh → Res (Option Int) := fun s h => match o with
  | none => .ok none h
  | some d => (d s h).bind fun v h1 => match v with
    | .pv (.int i) => .ok (some i) h1
    | _ => .stuck
def dSl (d : Dn) (lo hi : Option Dn) : Dn := fun s h => (d s h).bind fun x h1 => (bdOf lo s h1).bind fun l h2 => (bdOf hi s h2).bind fun u h3 => oSl x l u h3
section
variable {X : Cx} {E : XK} {e : Expr} {d : Dn} {lo hi : Option Expr} {dl dh : Option Dn} {pos p2 : Pos}
abbrev rEqO : Rp (Option Int) (Option Int) := fun _ _ _ a b => a = b
def SP (X : Cx) (E : XK) (o : Option Expr) (d : Option Dn) : Prop := PO X o (tG (gx X) E rEqO (bdOf d))
theorem PO.imp {X : Cx} {o : Option Expr} {t t' : TO} (p : PO X o t) (f : ∀ σ H Q, t' σ H Q → t σ H Q) : PO X o t' := ⟨fun pins s σ H Q I q => p.run pins s σ H Q I (f σ H Q q)⟩
theorem sp_none : SP X E none none := PO.imp po_none fun σ H Q ⟨base, α, s, h, R, S, P⟩ => P.same R rfl
theorem sp_some {e : Expr} {d : Dn} (he : SE X E e d) : SP X E (some e) (some d) := PO.imp (po_some he) fun σ H Q ⟨base, α, s, h, R, S, P⟩ => by
  refine ⟨base, α, s, h, R, S, Pst.bind P fun v h1 α1 u H1 x1 R1 q1 P1 => ?_⟩
  split at P1
  · exact ⟨_, rv_int.mp q1, P1.same R1 rfl⟩
  · exact P1.elim
theorem se_slice (he : SE X E e d) (hl : SP X E lo dl) (hh : SP X E hi dh) : SE X E (.Subscript e (.Slice lo hi none p2) pos) (dSl d dl dh) := by
  refine PE.imp (pe_slice (sl_list.or sl_tup) he hl hh) fun σ H Q ⟨base, α, s, h, R, S, P⟩ => ?_
  refine ⟨base, α, s, h, R, S, Pst.bind P fun x h1 α1 u H1 x1 R1 q1 P1 => ?_⟩
  refine ⟨base, α1, s, h1, R1, x1.sl S, P1.bind fun l h2 α2 l' H2 x2 R2 q2 P2 => ?_⟩
  refine ⟨base, α2, s, h2, R2, x2.sl (x1.sl S), P2.bind fun r h3 α3 r' H3 x3 R3 q3 P3 => ?_⟩
  have q2 : l = l' := q2
  have q3 : r = r' := q3
  subst q2 q3
  have qx := (x2.trans x3).va q1
  unfold oSl at P3
  split at P3
  · rename_i ps e1
    obtain ⟨a, vs, rfl, hs, hr⟩ := lstPs_ok R3 qx e1
    refine .inl ⟨a, vs, rfl, hs, fun p np => P3.new R3 np fun ev na => rv_lst.mpr ⟨p, _, rfl, ⟨.inl upd_same, na⟩, ev.pvs (reps_cut hr)⟩⟩
  · split at P3
    · rename_i ps _
      split at P3
      · exact P3.elim
      · rename_i hw
        obtain ⟨a, vs, rfl, t, hr⟩ := rv_tup.mp qx
        refine .inr ⟨a, vs, rfl, t.sq, by rw [← hr.length]; exact hw, fun p np => P3.new R3 np fun ev na => rv_tup.mpr ⟨p, _, rfl, .inl ⟨.inl upd_same, na⟩, ev.pvs (reps_cut hr)⟩⟩
    · exact P3.elim
end
end CI
namespace CI
open PySem PySem.Spec PyProof.Rows L2

/-! ### x in ys, x not in ys -/
/-- a flat value -/
def flA : Va → Option V
  | .pv .non => some .non
  | .pv (.bl b) => some (.bl b)
  | .pv (.int i) => some (.int i)
  | .pv (.str x) => some (.str x)
  | _ => none
theorem flA_ok {G : Gx} {av α : List Addr} {H : Hp} {x : Va} {u v : V} (e : flA x = some v) (r : RepV G av α H x u) : u = v ∧ flatV v = true := by
  unfold flA at e
  split at e
  · cases e; exact ⟨rv_non.mp r, rfl⟩
  · cases e; exact ⟨rv_bl.mp r, rfl⟩
  · cases e; exact ⟨rv_int.mp r, rfl⟩
  · cases e; exact ⟨rv_str.mp r, rfl⟩
  · cases e
def flAs : List Va → Option (List V)
  | [] => some []
  | x :: xs => match flA x, flAs xs with
    | some v, some vs => some (v :: vs)
    | _, _ => none
theorem flAs_ok {G : Gx} {av α : List Addr} {H : Hp} : ∀ {xs : List Va} {us vs : List V}, flAs xs = some vs → RepVs G av α H xs us → us = vs ∧ vs.all flatV = true
  | [], us, vs, e, r => by cases e; exact ⟨r, rfl⟩
  | x :: xs, us, vs, e, ⟨u, w, e0, r1, r2⟩ => by
    unfold flAs at e
    split at e
    · rename_i v vs' h1 h2
      cases e
      obtain ⟨a, b⟩ := flA_ok h1 r1
      obtain ⟨c, d⟩ := flAs_ok h2 r2
      refine ⟨by rw [e0, a, c], ?_⟩
      rw [List.all_cons, b, d]; rfl
    · cases e
/-- one sign -/
def signOf : Va → Option Nat
  | .pv (.str s) => match s.cps.toList with
    | [c] => some c
    | _ => none
  | _ => none
theorem signOf_ok {x : Va} {c : Nat} (e : signOf x = some c) : x = .pv (.str ⟨#[c]⟩) := by
  unfold signOf at e
  split at e
  · rename_i s
    split at e
    · rename_i d hd
      cases e
      obtain ⟨a⟩ := s
      have : a = #[c] := by apply Array.toList_inj.mp; exact hd
      rw [this]
    · cases e
  · cases e
def oIn (neg : Bool) : Op2 := fun x y h => match y with
  | .pv (.str z) => match signOf x with
    | some c => .ok (.pv (.bl (if neg then !decide (c ∈ z.cps.toList) else decide (c ∈ z.cps.toList)))) h
    | none => .stuck
  | y => match rdl h y with
    | some ys => match flA x, flAs ys with
      | some v, some vs => .ok (.pv (.bl (if neg then !inV v vs else inV v vs))) h
      | _, _ => .stuck
    | none => .stuck
abbrev rSg (neg : Bool) : R2 := fun x y H Q => ∃ (c : Nat) (z : Str), x = .str ⟨#[c]⟩ ∧ y = .str z ∧ Q (.bl (if neg then !decide (c ∈ z.cps.toList) else decide (c ∈ z.cps.toList))) H
section
variable {X : Cx} {E : XK}
theorem oIn_ok {neg : Bool} : OpS X E (oIn neg) (fun x y H Q => rIn X.K neg x y H Q ∨ rSg neg x y H Q) := by
  intro base α h H x y u w Q R rx ry P
  unfold oIn at P
  split at P
  · rename_i z
    split at P
    · rename_i c hc
      have hx := signOf_ok hc
      subst hx
      exact .inr ⟨c, z, rv_str.mp rx, rv_str.mp ry, P.same R (rv_bl.mpr rfl)⟩
    · exact P.elim
  · split at P
    · rename_i ys hy
      split at P
      · rename_i v vs h1 h2
        obtain ⟨a, us, e, t, q⟩ := rdl_ok R ry hy
        obtain ⟨e1, f1⟩ := flA_ok h1 rx
        obtain ⟨e2, f2⟩ := flAs_ok h2 q
        subst e1 e2
        exact .inl ⟨a, us, e, t, f1, f2, P.same R (rv_bl.mpr rfl)⟩
      · exact P.elim
    · exact P.elim
theorem op_inG : OpR X (compareOp .In) (fun x y H Q => rIn X.K false x y H Q ∨ rSg false x y H Q) := OpR.or op_in_seq op_in_sign
theorem op_ninG : OpR X (compareOp .NotIn) (fun x y H Q => rIn X.K true x y H Q ∨ rSg true x y H Q) := OpR.or op_notIn_seq op_notIn_sign
variable {a b : Expr} {da db : Dn} {pos : Pos}
def inOp : CmpOp → Option Bool
  | .In => some false
  | .NotIn => some true
  | _ => none
theorem in_both {op : CmpOp} {neg : Bool} (h : inOp op = some neg) (hm : behindInMarks op b = false) (ha : SE X E a da) (hb : SE X E b db) : SE X E (.Compare a [op] [b] pos) (dBin (oIn neg) da db) ∧ STt X E (.Compare a [op] [b] pos) (tVB (dBin (oIn neg) da db)) := by
  unfold inOp at h
  split at h
  · cases h; exact ⟨se_cmp op_inG oIn_ok ha hb hm, st_cmp op_inG oIn_ok ha hb hm⟩
  · cases h; exact ⟨se_cmp op_ninG oIn_ok ha hb hm, st_cmp op_ninG oIn_ok ha hb hm⟩
  · cases h
end
end CI
namespace CI
open PySem PySem.Spec PyProof.Rows L2

/-! ### enumerate(xs) -/
def enumA : Nat → List Pv → List Va
  | _, [] => []
  | i, p :: r => .pv (.tup [.int (i : Nat), p]) :: enumA (i + 1) r
theorem enumA_len : ∀ (k : Nat) (ps : List Pv), (enumA k ps).length = ps.length
  | _, [] => rfl
  | k, p :: r => by rw [enumA, List.length_cons, List.length_cons, enumA_len (k + 1) r]
theorem enumA_get : ∀ {k : Nat} {ps : List Pv} {i : Nat} {x : Va}, (enumA k ps)[i]? = some x → ∃ p, ps[i]? = some p ∧ x = .pv (.tup [.int ((k + i : Nat) : Int), p])
  | k, [], i, x, e => by simp [enumA] at e
  | k, p :: r, 0, x, e => by
    simp [enumA] at e
    exact ⟨p, by simp, by rw [← e]; rfl⟩
  | k, p :: r, i + 1, x, e => by
    rw [enumA, List.getElem?_cons_succ] at e
    obtain ⟨q, e1, e2⟩ := enumA_get e
    refine ⟨q, by simpa using e1, ?_⟩
    rw [e2]
    congr 4
    omega
def iEnm (d : Da) : Da := fun s h => (d s h).bind fun vs h1 => match vs with
  | [v] => match give v h1 with
    | some (.lst ps, h2) => .ok (enumA 0 ps) h2
    | _ => .stuck
  | _ => .stuck
section
variable {X : Cx} {E : XK}
theorem isIt_enum {G : Gx} {av1 α1 : List Addr} {H1 : Hp} {a : Addr} {vs : List V} {ps : List Pv} (t : LstAt G av1 H1 a vs) (q : RepPs G av1 H1 ps vs) : IsIt G (Ite G.K a) av1 α1 H1 (enumA 0 ps) where
  go := fun i av α H hi lt => by
    rw [enumA_len] at hi
    exact ⟨vs, vs[i]'(by rw [← q.length]; exact hi), (t.mono lt.mono).sq, List.getElem?_eq_getElem _⟩
  yld := fun i x base α h H u H' e R lt y => by
    obtain ⟨T, w, rfl, nT, rfl, hx⟩ := y
    obtain ⟨p, e1, rfl⟩ := enumA_get e
    obtain ⟨w', e2, r⟩ := (RepPs.mono lt.mono q).get e1
    have e3 := hx vs (t.mono lt.mono).sq
    rw [e2] at e3
    cases e3
    obtain ⟨R', ev⟩ := R.laid (o := .tup [.int (i : Nat), w]) nT
    refine ⟨ev, R', rv_tup.mpr ⟨T, _, rfl, .inl ⟨.inl upd_same, R.avoids nT⟩, ?_⟩⟩
    refine repPs_cons.mpr ⟨_, _, rfl, repP_int.mpr (by rw [Nat.zero_add]), RepPs.one (ev.pv (G := G) r)⟩
  stop := fun av α H lt => ⟨vs, (t.mono lt.mono).sq, by rw [enumA_len, q.length]; exact Nat.le_refl _⟩
theorem si_enum {e : Expr} {da : Da} {p pos tpos : Pos} {elts : List Expr} {kk : Nat} (hg : Gl X "enumerate") (hm : X.mg "enumerate" = none) (hn : notStar e = true) (ha : SA X E [e] da) : SI X E (.Tuple elts kk tpos) (.Call (.Name "enumerate" p) [e] [] pos) (iEnm da) := by
  refine PI.imp (pi_enum hg hm ha (star_cons hn)) fun σ H R ⟨base, α, s, h, Rl, S, P⟩ => ?_
  refine ⟨base, α, s, h, Rl, S, Pst.bind P fun vs h1 α1 us H1 x1 R1 q1 P1 => ?_⟩
  split at P1
  · rename_i v
    obtain ⟨u, r, rfl, r1, r2⟩ := q1
    have r2 : r = [] := r2
    subst r2
    split at P1
    · rename_i ps h2 e2
      obtain ⟨R2, x2, _, q2⟩ := give_ok _ _ _ _ _ _ _ _ _ e2 R1 r1
      obtain ⟨a, vs, rfl, t, q3⟩ := repP_lst.mp q2
      exact ⟨a, vs, rfl, t.sq, (Pst.step x2 P1).same R2 (isIt_enum t q3)⟩
    · exact P1.elim
  · exact P1.elim
end
end CI
namespace CI
open PySem PySem.Spec PyProof.Rows L2

/-! ### d.get(k, x) -/
theorem fv_non {G : Gx} {av α : List Addr} {H : Hp} {k : Key} : ∀ {kvs : List (Key × Va)} {ks : List (Key × V)}, RepFV G av α H kvs ks → vaL kvs k = none → valV ks k = none
  | [], _, h, _ => by cases h; rfl
  | p :: r, _, ⟨v, w, e0, q1, q2⟩, e => by
    subst e0
    unfold vaL at e
    by_cases z : p.1 = k
    · rw [List.find?_cons_of_pos (by simpa using z)] at e
      cases e
    · rw [List.find?_cons_of_neg (by simpa using z)] at e
      exact (valV_neg (p := (p.1, v)) z).trans (fv_non q2 e)
def dDget (d dk dx : Dn) : Dn := fun s h => (d s h).bind fun o h1 => match dctOf h1 o with
  | some _ => (dk s h1).bind fun y h2 => (dx s h2).bind fun z h3 => match dctOf h3 o, keyOf y with
    | some kvs, some k => .ok ((vaL kvs k).getD z) h3
    | _, _ => .stuck
  | none => .stuck
section
variable {X : Cx} {E : XK} {o e f : Expr} {d dk dx : Dn} {pos apos : Pos}
theorem se_dget (hu : X.A.units + 1 < cLine) (hs : notSuper o = true) (hn : notStar e = true) (hn2 : notStar f = true) (hp : (apos.endLine == pos.line) = true) (ho : SE X E o d) (he : SE X E e dk) (hf : SE X E f dx) : SE X E (.Call (.Attribute o "get" apos) [e, f] [] pos) (dDget d dk dx) := by
  have few : ((backTo pos (starEach [e, f] X.env)).all (fun x => !x.1) && (backToKw pos (keywordEach [] X.env)).all (fun x => x.1.isSome) && decide (([e, f] : List Expr).length + ([] : List Keyword).length + (if ([] : List Keyword).isEmpty then 0 else 1) < 30)) = true := by
    rw [star_cons hn, star_cons hn2]; rfl
  refine PE.imp (pe_dget2 hu ho he hf ⟨base_id hs, few, hp, by rw [star_cons hn, star_cons hn2]; rfl⟩) fun σ H Q ⟨base, α, s, h, R, S, P⟩ => ?_
  refine ⟨base, α, s, h, R, S, Pst.bind P fun x h1 α1 u H1 x1 R1 q1 P1 => ?_⟩
  split at P1
  · rename_i kvs e1
    obtain ⟨a, ks, rfl, eH, q2⟩ := dctOf_ok e1 R1 q1
    refine ⟨a, rfl, .inl ⟨ks, .inl eH⟩, base, α1, s, h1, R1, x1.sl S, P1.bind fun y h2 α2 v H2 x2 R2 q3 P2 => ?_⟩
    refine ⟨base, α2, s, h2, R2, x2.sl (x1.sl S), P2.bind fun z h3 α3 w H3 x3 R3 q4 P3 => ?_⟩
    split at P3
    · rename_i kvs3 k e3 e4
      obtain ⟨a3, ks3, e5, eH3, q5⟩ := dctOf_ok e3 R3 ((x2.trans x3).va q1)
      cases e5
      have ek := keyOf_ok e4 (x3.va q3)
      refine ⟨valV ks3 k, .inl ⟨ks3, k, .inl eH3, ek, rfl⟩, ?_⟩
      cases hv : vaL kvs3 k with
      | none =>
        rw [hv] at P3
        rw [fv_non q5 hv]
        exact P3.same R3 q4
      | some x =>
        rw [hv] at P3
        obtain ⟨v', e6, q6⟩ := fv_val q5 hv
        rw [e6]
        exact P3.same R3 q6
    · exact P3.elim
  · exact P1.elim
end
end CI
namespace CI
open PySem PySem.Spec PyProof.Rows L2

/-! ### len({x for x in e}), e a list of texts -/
/-- how many texts that are not among pre, each counted once -/
def dcnt (pre : List Str) : List Str → Nat
  | [] => 0
  | k :: r => (if k ∈ pre then 0 else 1) + dcnt (pre ++ [k]) r
theorem dcnt_snoc : ∀ (pre l : List Str) (k : Str), dcnt pre (l ++ [k]) = dcnt pre l + if k ∈ pre ++ l then 0 else 1
  | pre, [], k => by simp [dcnt]
  | pre, x :: l, k => by
    rw [List.cons_append, dcnt, dcnt, dcnt_snoc (pre ++ [x]) l k]
    simp only [List.append_assoc, List.singleton_append]
    omega
theorem dcnt_le : ∀ (l pre : List Str), dcnt pre l ≤ l.length
  | [], _ => Nat.le_refl _
  | k :: r, pre => by
    rw [dcnt, List.length_cons]
    have := dcnt_le r (pre ++ [k])
    split <;> omega
/-- texts alone -/
def strsOf : List Va → Option (List Str)
  | [] => some []
  | .pv (.str i) :: r => (strsOf r).map (i :: ·)
  | _ :: _ => none
theorem strsOf_ok {G : Gx} {av α : List Addr} {H : Hp} : ∀ {vs : List Va} {ns : List Str} {us : List V}, strsOf vs = some ns → RepVs G av α H vs us → us = ns.map V.str
  | [], ns, us, e, q => by cases e; exact q
  | v :: r, ns, us, e, q => by
    obtain ⟨u, w, e1, q1, q2⟩ := q
    unfold strsOf at e
    split at e
    · rename_i hv; cases hv
    · rename_i i r' hv
      injection hv with e3 e4
      subst e3 e4
      obtain ⟨qs, e5, e6⟩ := Option.map_eq_some_iff.mp e
      rw [← e6, e1, rv_str.mp q1, strsOf_ok e5 q2]; rfl
    · cases e
/-- the names of such a block: plain ones alone -/
def setBlk (scope : Scope) (x : Str) : Bool := decide (scope.kind = .function) && scope.names.all (fun y => decide (y.2 = .local) && decide (scope.names.lookup y.1 = some .local)) && decide (scope.names.lookup x = some .local) && noDbgS x
where noDbgS (x : Str) : Bool := !(x == ("__debug__" : Str)) && !(x == ("__classdict__" : Str)) && decide (x ≠ ("__name__" : Str))
section
variable {X : Cx} {E : XK}
theorem strs_at {ws : List Str} {us : List Value} (r : Vals (ws.map V.str) us) {i : Nat} {v : Value} (e : us[i]? = some v) : ∃ k t, ws[i]? = some k ∧ v = .str k t := by
  have hl : (ws.map V.str).length = us.length := r.length
  have hi : i < us.length := (List.getElem?_eq_some_iff.mp e).1
  have hw : i < ws.length := by rw [← hl, List.length_map] at hi; exact hi
  obtain ⟨u, e1, q⟩ := r.get (i := i) (x := V.str ws[i]) (by rw [List.getElem?_map, List.getElem?_eq_getElem hw]; rfl)
  rw [e] at e1
  cases e1
  obtain ⟨t, q⟩ := q
  exact ⟨ws[i], t, List.getElem?_eq_getElem hw, q⟩
theorem pe_lenSet {it : Expr} {ta : TE} {scope : Scope} {x : Str} {p p1 p2 q pos : Pos} (hc : X.calm = true) (hg : Gl X "len") (hm : X.mg "len" = none) (hb : setBlk scope x = true) (hns : ∀ y, foldedSetIterable it X.env y = pure y) (ha : PE X it ta) :
    PE X (.Call (.Name "len" p) [.SetComp (.Name x p1) [⟨.Name x p2, it, [], 0⟩] scope q] [] pos) (fun σ H Q => ta σ H fun v H1 => ∃ (l : Addr) (ws : List Str), v = .ref l ∧ SqL X.K H1 l (ws.map V.str) ∧ ws.length ≤ 4000 ∧ Q (.int (dcnt [] ws : Nat)) H1) := by
  unfold setBlk setBlk.noDbgS at hb
  simp only [Bool.and_eq_true, decide_eq_true_eq, List.all_eq_true, Bool.not_eq_true'] at hb
  obtain ⟨⟨⟨hk, hall⟩, hx⟩, ⟨hd1, hd2⟩, hd3⟩ := hb
  refine ⟨fun pins s σ H Q I h => ?_⟩
  refine Call_ (ld_blt I hg hm boot_len ?_)
  refine PyProof.Rows.callWith_builtin1 (PyProof.Rows.args_cons ?_ rfl) rfl rfl
  refine SetComp_goes (closure_ok fun y hy e => ?_) (fun y hy e => ?_) hk (fun y hy _ => (hall y hy).2) (thn (ha.run pins s σ H _ I h) fun v s1 ⟨xv, H1, I1, r1, q1⟩ => ?_) hns
  · have := (hall y hy).1
    rw [e] at this; cases this
  · have := (hall y hy).1
    rw [e] at this; cases this
  obtain ⟨l, ws, rfl, hq, hl, q1⟩ := q1
  cases r1
  obtain ⟨its, r, pl, hz⟩ := I1.list hq
  have hlen : its.length = ws.length := by rw [← r.length, List.length_map]
  have hli : s1.heap.IsList l its.toArray := pl.isList
  have hlt : l < s1.heap.objs.size := by obtain ⟨o, ho, _⟩ := hli; exact Heap.lt_size ho
  refine wpAny_pyIter_list hli ?_
  refine ⟨s1.heap.objs.size, _, _, _, _, _, rfl, Goes.list (I1.ok.hd hc) s1.heap.objs.size l (Nat.ne_of_lt hlt) its.toArray, ⟨⟨_, Heap.get?_push_size _ rfl, rfl, rfl⟩, hli.at fun o e => Heap.get?_push_of_some _ e⟩, fun D C s3 hB hD => ?_⟩
  obtain ⟨⟨h3, tk3, rfl⟩, old, nD, nC, hDC, hnm⟩ := hB
  have sz : (s1.heap.push { cls := .type "list_iterator", data := .fields #[.ref l, .int 0 0] }).objs.size = s1.heap.objs.size + 1 := Heap.size_push ..
  have nC' : s1.heap.objs.size + 1 ≤ C := by rw [← sz]; exact nC
  have nD' : s1.heap.objs.size + 1 ≤ D := by rw [← sz]; exact nD
  have kinds : (compEnvC scope (cloFrom X.env.cells scope.names []) C X.env).kindOf x = some .local := lookup_relabel_local hx
  have hp : ((compEnvC scope (cloFrom X.env.cells scope.names []) C X.env).scope.kind == .class || ((compEnvC scope (cloFrom X.env.cells scope.names []) C X.env).scope.kind == .module && (compEnvC scope (cloFrom X.env.cells scope.names []) C X.env).locals != (compEnvC scope (cloFrom X.env.cells scope.names []) C X.env).globals)) = false := by
    show (scope.kind == .class || (scope.kind == .module && _)) = false
    rw [hk]; rfl
  have low : ∀ {b : Addr} {o : Obj}, s1.heap.get? b = some o → b < s1.heap.objs.size := fun e => Heap.lt_size e
  have ne1 : ∀ {b c : Addr}, b < s1.heap.objs.size → s1.heap.objs.size + 1 ≤ c → b ≠ c := fun {b c} h1 h2 => Nat.ne_of_lt (Nat.lt_of_lt_of_le (Nat.lt_succ_of_lt h1) h2)
  refine ⟨fun i s4 => ∃ h' tk m, s4 = { s1 with heap := h', toks := tk } ∧ h'.Ns C m ∧ h'.SetOf (strKind X.prog X.w) D (fun k => decide (k ∈ ws.take i)) (dcnt [] (ws.take i)) ∧ ∀ b o, s1.heap.get? b = some o → h'.get? b = some o,
    ⟨h3, tk3, _, rfl, hnm, ?_, fun b o e => old b o (Heap.get?_push_of_some _ e)⟩, ?_, ?_, ?_⟩
  · exact ⟨_, #[], 0, _, hD, ⟨rfl, rfl, rfl⟩, rfl, (fun e he => by simp at he), (fun k => by simp), (by decide), (by rfl), rfl⟩
  · rintro i s4 h' tk ⟨h4, tk4, m, rfl, n4, e4, k4⟩ hk' _
    have off : ∀ b : Addr, b ≠ s1.heap.objs.size → b ∉ [s1.heap.objs.size] := fun b hb hm => hb (List.mem_singleton.mp hm)
    refine ⟨h', tk, m, rfl, n4.at' fun o e => hk' _ o (off _ (Nat.ne_of_gt nC')) e, ?_, fun b o e => hk' b o (off _ (Nat.ne_of_lt (low e))) (k4 b o e)⟩
    obtain ⟨o, es, ep, t, ho, rest⟩ := e4
    exact ⟨o, es, ep, t, hk' _ o (off _ (Nat.ne_of_gt nD')) ho, rest⟩
  · rintro i v s4 hi hY ⟨st1, st2⟩ ⟨h4, tk4, m, rfl, n4, e4, k4⟩
    have hvi : its[i]? = some v := by
      have hv' : its.toArray[i]? = some v := hY
      simpa using hv'
    obtain ⟨k, t, hki, rfl⟩ := strs_at r hvi
    have hCs : C < h4.objs.size := by obtain ⟨o, _, _, ho, _⟩ := n4; exact Heap.lt_size ho
    refine wpAny_assign_Name (wpAny_storeName_local kinds n4 (fun h5 n5 s5 => ?_) hp)
    refine wpAny_tests_nil ?_
    show wpAny _ _ _ _ _ _
    rw [eval_Name _ _ _ hd1]
    refine wpAny_bind (wpAny_standAt (wpAny_loadName_local hk kinds n5 (v := Value.str k t) (by simp) ?_))
    have e5 : h5.SetOf (strKind X.prog X.w) D (fun k => decide (k ∈ ws.take i)) (dcnt [] (ws.take i)) := by
      obtain ⟨o, es, ep, t, ho, rest⟩ := e4
      exact ⟨o, es, ep, t, s5.extBut _ _ hDC ho, rest⟩
    have room : dcnt [] (ws.take i) + 1 < scanBound := by
      have := dcnt_le (ws.take i) []
      have h2 : (ws.take i).length ≤ ws.length := by rw [List.length_take]; exact Nat.min_le_right ..
      unfold scanBound
      omega
    refine call_set_add (strKind_is _ _ _ _) rfl e5 room fun h6 s6 new => ?_
    have up : ∀ b o, b ≠ C → b ≠ D → h4.get? b = some o → h6.get? b = some o := fun b o hb hb2 e => s6.extBut _ _ hb2 (s5.extBut _ _ hb e)
    have htk : ws.take (i + 1) = ws.take i ++ [k] := by simp [List.take_add_one, hki]
    refine ⟨⟨h6, _, _, rfl, n5.at' fun o e => s6.extBut _ _ (Ne.symm hDC) e, ?_, fun b o e => up b o (ne1 (low e) nC') (ne1 (low e) nD') (k4 b o e)⟩, ?_, ?_⟩
    · refine SetOf_congr new (fun y => ?_) ?_
      · rw [htk]; simp
      · rw [htk, dcnt_snoc, List.nil_append]
        by_cases hm : k ∈ ws.take i
        · simp [hm]
        · simp [hm]
    · obtain ⟨o, h1, h2, h3'⟩ := st1
      exact ⟨o, up _ _ (Nat.ne_of_lt nC') (Nat.ne_of_lt nD') h1, h2, h3'⟩
    · exact st2.at fun o e => up _ _ (ne1 hlt nC') (ne1 hlt nD') e
  · rintro s4 ⟨h4, tk4, m, rfl, n4, e4, k4⟩
    refine ⟨m, n4, fun h' hs' => ?_⟩
    refine PyProof.Rows.args_nil ?_
    obtain ⟨o, es, ep, t, ho, hex, hd, _, _, hbd, hf, hn⟩ := e4
    have hall2 : ws.take its.toArray.size = ws := by
      rw [List.size_toArray, hlen]; exact List.take_length ..
    have hn2 : es.size = dcnt [] ws := by rw [hn, hall2]
    have I2 : Inv X pins σ H1 { s1 with heap := h', toks := tk4 } := I1.kept fun b o e => hs'.extBut b o (ne1 (low e) nC') (k4 b o e)
    refine call_len_set (hs'.extBut _ _ hDC ho) hex hd hf ?_ ⟨.int (dcnt [] ws : Nat), H1, I2.tok _, ⟨_, by rw [hn2]⟩, q1⟩
    have := dcnt_le ws []
    rw [hn2]; omega
def dLenSet (d : Dn) : Dn := fun s h => (d s h).bind fun v h1 => match give v h1 with
  | some (.lst ps, h2) => match strsOf (ps.map .pv) with
    | some ws => if ws.length ≤ 4000 then .ok (.pv (.int (dcnt [] ws : Nat))) h2 else .stuck
    | none => .stuck
  | _ => .stuck
theorem se_lenSet {it : Expr} {d : Dn} {scope : Scope} {x : Str} {p p1 p2 q pos : Pos} (hc : X.calm = true) (hg : Gl X "len") (hm : X.mg "len" = none) (hb : setBlk scope x = true) (hns : ∀ y, foldedSetIterable it X.env y = pure y) (ha : SE X E it d) :
    SE X E (.Call (.Name "len" p) [.SetComp (.Name x p1) [⟨.Name x p2, it, [], 0⟩] scope q] [] pos) (dLenSet d) := by
  refine PE.imp (pe_lenSet hc hg hm hb hns ha) fun σ H Q ⟨base, α, s, h, R, S, P⟩ => ?_
  refine ⟨base, α, s, h, R, S, Pst.bind P fun v h1 α1 u H1 x1 R1 q1 P1 => ?_⟩
  split at P1
  · rename_i ps h2 e2
    obtain ⟨R2, x2, _, q2⟩ := give_ok _ _ _ _ _ _ _ _ _ e2 R1 q1
    obtain ⟨a, vs, rfl, t, q3⟩ := repP_lst.mp q2
    split at P1
    · rename_i ws hw
      split at P1
      · rename_i hl
        have e3 := strsOf_ok hw (repVs_pv (α := α1).mpr q3)
        subst e3
        exact ⟨a, ws, rfl, t.sq, hl, (Pst.step x2 P1).same R2 (rv_int.mpr rfl)⟩
      · exact P1.elim
    · exact P1.elim
  · exact P1.elim
end
end CI
namespace CI
open PySem PySem.Spec PyProof.Rows L2

/-! ### xs * n, ts * n -/
def repL {α : Type} (n : Int) (xs : List α) : List α := (List.replicate n.toNat xs).flatten
section
variable {X : Cx} {E : XK}
abbrev rMulL (K : PySem.W.Frag) : R2 := fun x y H Q => ∃ a xs k, x = V.ref a ∧ y = V.int k ∧ SqL K H a xs ∧ k ≤ 1000 ∧ xs.length ≤ 1000 ∧ -1000 ≤ k ∧ ∀ p, H p = none → Q (.ref p) (upd H p (.lst (repL k xs)))
theorem rep_empty {α : Type} (n : Nat) : (List.replicate n ([] : List α)).flatten = [] := by
  induction n with
  | zero => rfl
  | succ n ih => rw [List.replicate_succ, List.flatten_cons, ih]; rfl
theorem vals_rep {xs : List V} {us : List Value} (r : Vals xs us) : ∀ n : Nat, Vals (List.replicate n xs).flatten (List.replicate n us).flatten
  | 0 => .nil
  | n + 1 => by
    rw [List.replicate_succ, List.flatten_cons, List.replicate_succ, List.flatten_cons]
    exact r.append (vals_rep r n)
theorem op_mulL : OpR X (binaryOp .Mult) (rMulL X.K) := by
  intro pins s σ H x y v u Q I rx ry h
  obtain ⟨a, xs, k, rfl, rfl, hs, k1, k2, k3, q⟩ := h
  obtain rfl : v = Value.ref a := rx
  obtain ⟨t, rfl⟩ := ry
  obtain ⟨its, rv, ⟨⟨cls, dd, data, sl⟩, n, ho, hc, hdn, hd⟩, hlen⟩ := I.list hs
  have hc1 : cls = Value.type "list" := hc
  have hd1 : data = Data.seq its.toArray n := hd
  subst hc1 hd1
  have hle : its.length = xs.length := rv.length.symm
  have hm : its.toArray.size * k.toNat ≤ 1000 * 1000 := by
    rw [List.size_toArray, hle]
    exact Nat.mul_le_mul k2 (by omega)
  have hfit : Builtin.List.listFitsIndex k = true := by
    unfold Builtin.List.listFitsIndex
    simp only [Bool.and_eq_true, decide_eq_true_eq]
    constructor <;> omega
  have hsl := sizeLine_eq
  refine wpAny_binaryOp_repeat_ref (T := "list") (U := "int") (by decide) ⟨_, ho, rfl⟩ (fun s' => rfl) noFill_list_mul F.fills_int_mul F.slot_int_rmul repeat_list F.slot_int_index.lookup
    (call_meets F.slot_int_rmul rfl F.entry_int_rmul (F.args_int_rmul_2 _ _) (lm_int_rmul_list_any k t a its.toArray n dd sl)
      ⟨ho, rfl, ⟨_, ho, rfl⟩, call_meets F.slot_list_mul ⟨_, ho, rfl⟩ F.entry_list_mul (F.args_list_mul_2 _ _)
        (lm_list_mul_any a its.toArray n dd sl k t (by rw [hfit]; decide) (by omega) (by simp only [Builtin.List.listTooLong, decide_eq_true_eq]; omega))
        ⟨ho, ?_⟩⟩)
  have e : List.foldl (fun x1 x2 => x1 ++ x2) #[] (List.replicate (if its.toArray.isEmpty = true then 0 else k.toNat) its.toArray) = (List.replicate k.toNat its).flatten.toArray := by
    cases its with
    | nil =>
      rw [rep_empty]
      rfl
    | cons b r => exact size_rep (b :: r) k.toNat
  rw [e]
  have hz : (repL k xs).length ≤ sizeLine := by
    unfold repL
    rw [PyProof.Rows.lm_len_rep_flat, hsl]
    have : k.toNat * xs.length ≤ 1000 * 1000 := Nat.mul_le_mul (by omega) k2
    omega
  exact ⟨.ref s.heap.objs.size, upd H s.heap.objs.size (.lst (repL k xs)), I.laid (t' := s.toks) (fun b o e => Heap.get?_push_of_some _ e) (Nat.le_refl _) ⟨hz, _, 0, vals_rep rv _, Heap.get?_push_size _ rfl⟩, rfl, q _ (I.hok.fresh (Nat.le_refl _))⟩
theorem mul_one_tuple (l : Addr) (items : Array Value) (n : Nat) (dd : Option Addr) (sl : Array (Option Value)) (u : Tok) :
    Meets (Builtin.«tuple.__mul__» ⟨[.ref l, .int 1 u], []⟩) (fun _ R s => s.heap.get? l = some { cls := .type "tuple", dict := dd, data := .seq items n, slots := sl } ∧ R (.ok (.ret (Value.ref l))) s) :=
  .of_wp fun prog w A R s h => by
    obtain ⟨hp, g, d, tk, os⟩ := s
    obtain ⟨hl, h⟩ := h
    have f1 := AutoSeq1.idx_int
    have c1 : (items.isEmpty || (1 : Int) == 1) = true := by simp
    wp_walk using wpAny_loadPart' hl
    repeat (first
      | (refine wpAny_ite_false (decide_eq_false (by decide)) ?_; wp_walk using wpAny_loadPart' hl)
      | (refine wpAny_ite_true (decide_eq_true (by rw [c1])) ?_; wp_walk using wpAny_loadPart' hl))
    exact ⟨_, rfl, h⟩
abbrev rMulT1 (K : PySem.W.Frag) : R2 := fun x y H Q => ∃ a xs, x = V.ref a ∧ y = V.int 1 ∧ SqT K H a xs ∧ Q (.ref a) H
end
end CI
namespace CI
open PySem PySem.Spec PyProof.Rows L2
section
variable {X : Cx} {E : XK}
theorem op_mulT1 : OpR X (binaryOp .Mult) (rMulT1 X.K) := by
  intro pins s σ H x y v u Q I rx ry h
  obtain ⟨a, xs, rfl, rfl, hT, q⟩ := h
  cases rx
  obtain ⟨t, rfl⟩ := ry
  obtain ⟨its, r, ⟨⟨cls, dd, data, sl⟩, ho, hc, n, hd⟩, hs⟩ := I.tuple hT
  simp only at hc hd
  subst hc hd
  exact wpAny_binaryOp_repeat_ref (T := "tuple") (U := "int") (by decide) ⟨_, ho, rfl⟩ (fun s' => typeIs_int s' 1 t) noFill_tuple_mul F.fills_int_mul F.slot_int_rmul repeat_tuple F.slot_int_index.lookup
    (call_meets F.slot_int_rmul (typeIs_int s 1 t) F.entry_int_rmul (F.args_int_rmul_2 _ _) (int_rmul_tuple 1 t a its.toArray n dd sl)
      ⟨ho, rfl, ⟨_, ho, rfl⟩, call_meets F.slot_tuple_mul ⟨_, ho, rfl⟩ F.entry_tuple_mul (F.args_tuple_mul_2 _ _) (mul_one_tuple a its.toArray n dd sl t) ⟨ho, ⟨.ref a, H, I, rfl, q⟩⟩⟩)
/-- products: of ints, of a list, a tuple and an int -/
def oMulG : Op2 := fun x y h => match x, y with
  | .pv (.int i), .pv (.int j) => if mulOk i j then .ok (.pv (.int (i * j))) h else .stuck
  | .pv (.tup ps), .pv (.int k) => if k = 1 then .ok (.pv (.tup ps)) h else if 2 ≤ k ∧ k ≤ 1000 ∧ ps.length ≤ 1000 ∧ ps ≠ [] then .ok (.pv (.tup (repL k ps))) h else .stuck
  | .pv (.lst ps), .pv (.int k) => if k ≤ 1000 ∧ ps.length ≤ 1000 ∧ -1000 ≤ k then .ok (.pv (.lst (repL k ps))) h else .stuck
  | _, _ => .stuck
theorem reps_rep {G : Gx} {av : List Addr} {H : Hp} {ps : List Pv} {vs : List V} (q : RepPs G av H ps vs) (k : Nat) : RepPs G av H (List.replicate k ps).flatten (List.replicate k vs).flatten := by
  induction k with
  | zero => exact repPs_nil.mpr rfl
  | succ k ih =>
    rw [List.replicate_succ, List.flatten_cons, List.replicate_succ, List.flatten_cons]
    exact q.append ih
abbrev rMulA (X : Cx) : R2 := fun x y H Q => L2.rI (fun i j => mulOk i j = true) (fun i j => V.int (i * j)) x y H Q ∨ (rMulT1 X.K x y H Q ∨ (rRepT X.K x y H Q ∨ rMulL X.K x y H Q))
theorem oMulG_ok : OpS X E oMulG (rMulA X) := by
  intro base α h H x y u w Q R rx ry P
  unfold oMulG at P
  split at P
  · rename_i i j
    split at P
    · rename_i hm
      exact .inl ⟨i, j, rv_int.mp rx, rv_int.mp ry, hm, P.same R (rv_int.mpr rfl)⟩
    · exact P.elim
  · rename_i ps k
    obtain ⟨a, vs, ea, t, q⟩ := rv_tup.mp rx
    split at P
    · rename_i h1
      subst h1
      exact .inr (.inl ⟨a, vs, ea, rv_int.mp ry, t.sq, P.same R (rv_tup.mpr ⟨a, vs, rfl, t, q⟩)⟩)
    · split at P
      · rename_i h2
        obtain ⟨h2, h3, h4, h5⟩ := h2
        refine .inr (.inr (.inl ⟨a, k, vs, ea, rv_int.mp ry, t.sq, ?_, h2, h3, by rw [← q.length]; exact h4, fun p np => P.new R np fun ev na => ?_⟩))
        · intro z
          subst z
          exact h5 (List.eq_nil_of_length_eq_zero q.length)
        · exact rv_tup.mpr ⟨p, _, rfl, .inl ⟨.inl upd_same, na⟩, reps_rep (ev.pvs (G := gx X) q) _⟩
      · exact P.elim
  · rename_i ps k
    obtain ⟨a, vs, ea, t, q⟩ := rv_lst.mp rx
    split at P
    · rename_i h2
      obtain ⟨h3, h4, h5⟩ := h2
      refine .inr (.inr (.inr ⟨a, vs, k, ea, rv_int.mp ry, t.sq, h3, by rw [← q.length]; exact h4, h5, fun p np => P.new R np fun ev na => ?_⟩))
      exact rv_lst.mpr ⟨p, _, rfl, ⟨.inl upd_same, na⟩, reps_rep (ev.pvs (G := gx X) q) _⟩
    · exact P.elim
  · exact P.elim
theorem op_mulA : OpR X (binaryOp .Mult) (rMulA X) := OpR.or op_mulG (OpR.or op_mulT1 (OpR.or op_repT op_mulL))
theorem se_mulG {a b : Expr} {da db : Dn} {pos : Pos} (ha : SE X E a da) (hb : SE X E b db) : SE X E (.BinOp a .Mult b pos) (dBin oMulG da db) := se_bin op_mulA oMulG_ok ha hb
end
end CI
namespace CI
open PySem PySem.Spec PyProof.Rows L2

/-! ### x, *y = a tuple -/
def isStarN : Expr → Option Str
  | .Starred (.Name y _) _ => some y
  | _ => none
section
variable {X : Cx} {E : XK}
theorem unpack_headtail {prog : Program} {w : World} {A : Around} {E0 : Value → Shared → Prop} {s : Shared} {l : Addr} {items : Array Value} {Q : List Value → Shared → Prop} (hh : A.handled = none) (hl : IsTup s.heap l items) (h1 : 1 ≤ items.size) (hz : items.size ≤ 16384)
    (h : ∀ (h2 : Heap) (tk : Nat), (∀ b o, s.heap.get? b = some o → h2.get? b = some o) → Q (items.toList.take 1 ++ [.ref h2.objs.size]) { s with heap := h2.push { cls := .type "list", data := .seq (items.toList.drop 1).toArray }, toks := tk }) :
    wpAny (model prog w) A (unpackItems (.ref l) 2 (some 1)) Q E0 s := by
  have hll : l < s.heap.objs.size := by obtain ⟨o, ho, _⟩ := hl; exact Heap.lt_size ho
  have hlt : l ≠ s.heap.objs.size := Nat.ne_of_lt hll
  unfold unpackItems notIterableAtAll
  refine wpAny_bind (wpAny_bind (wpAny_specialOf hl.typeIs slot_tuple_iter.lookup (wpAny_pure ?_)))
  simp only [Bool.false_eq_true, if_false]
  refine wpAny_bind (wpAny_holding (iter_tuple hl ?_))
  refine wpAny_bind (wpAny_holding (draw_tuple hlt 1 0 _ _ ⟨_, Heap.get?_push_size _ rfl, rfl, rfl⟩ (hl.push _) (by omega) fun g hit hs => ?_))
  have hlg : IsTup g l items := (hl.push _).extBut hs.extBut hlt
  have e0 : (items.toList.drop 0).take 1 = items.toList.take 1 := rfl
  have ln : (items.toList.take 1).length = 1 := by rw [List.length_take, Array.length_toList]; omega
  rw [e0, if_neg (by rw [ln]; omega)]
  have lo : s.heap.objs.size < g.objs.size := by obtain ⟨o, e, _⟩ := hit; exact Heap.lt_size e
  have ll : l < g.objs.size := by obtain ⟨o, e, _⟩ := hlg; exact Heap.lt_size e
  refine wpAny_bind (wpAny_holding (PySem.W.kun_collect (s := { s with heap := g }) (T := "tuple_iterator") (.inr (.inr (.inr rfl))) (Walks.tuple (A := A.in1) hh s.heap.objs.size l hlt items) (fun j u st => st.1.typeIs) (k := 1) h1 ⟨hit, hlg⟩ lo ll (fun h2 tk hk => ?_) (by rw [sizeLine_eq]; omega)))
  have rl : (items.toList.drop 1).length = items.size - 1 := by rw [List.length_drop, Array.length_toList]
  show wpAny _ _ (if (items.toList.drop 1).length < 2 - 1 - 1 then _ else _) _ _ _
  rw [if_neg (by omega)]
  have tk1 : (items.toList.drop 1).take ((items.toList.drop 1).length - (2 - 1 - 1)) = items.toList.drop 1 := List.take_of_length_le (by omega)
  have tk2 : (items.toList.drop 1).drop ((items.toList.drop 1).length - (2 - 1 - 1)) = [] := List.drop_eq_nil_of_le (by omega)
  show wpAny _ _ (newList ((items.toList.drop 1).take ((items.toList.drop 1).length - (2 - 1 - 1))) >>= fun d => pure (items.toList.take 1 ++ [d] ++ (items.toList.drop 1).drop ((items.toList.drop 1).length - (2 - 1 - 1)))) _ _ _
  rw [tk1, tk2]
  refine wpAny_bind (wpAny_newList (wpAny_pure ?_) (by rw [rl, sizeLine_eq]; omega))
  rw [List.append_nil]
  exact h h2 tk fun b o e => hk b o (Nat.ne_of_lt (Heap.lt_size e)) (hs.extBut b o (Nat.ne_of_lt (Heap.lt_size e)) (Heap.get?_push_of_some _ e))
def tHT (K : PySem.W.Frag) (i j : Nat) (te : TE) : TS := fun D σ H => te σ H fun x H1 => ∃ (a : Addr) (v : V) (vs : List V), x = .ref a ∧ SqT K H1 a (v :: vs) ∧ vs.length ≤ 1000 ∧
  ∀ p, H1 p = none → D.nx ((σ.set i (some v)).set j (some (.ref p))) (upd H1 p (.lst vs))
theorem ps_headtail {i j : Nat} {x y : Str} {e : Expr} {te : TE} {px py pst pt pos : Pos} {k : Nat} (hc : X.calm = true) (hN : X.N.Nodup) (hi : X.N[i]? = some x) (hj : X.N[j]? = some y) (hx : X.env.scope.names.lookup x = some .local) (hy : X.env.scope.names.lookup y = some .local) (he : PE X e te)
    (hs : swapsWithSole [.Tuple [.Name x px, .Starred (.Name y py) pst] k pt] e pos.line X.env = pure false) (hw : swappedStores [.Tuple [.Name x px, .Starred (.Name y py) pst] k pt] e X.env = pure none) :
    PS X (.Assign [.Tuple [.Name x px, .Starred (.Name y py) pst] k pt] e pos) (tHT X.K i j te) := by
  refine ⟨fun pins s σ H D I h => ?_⟩
  refine wpAny_Assign_stores (thn (he.run pins s σ H _ I h) fun u s1 ⟨v0, H1, I1, r1, a, v, vs, ev, hq, hl, q1⟩ => ?_) hs hw
  subst ev
  cases r1
  obtain ⟨its, rv, ht, hz⟩ := I1.tuple hq
  obtain ⟨uv, us, rfl, rh, rt⟩ := vals_cons rv
  have lu : us.length = vs.length := rt.length.symm
  rw [show (assignEach [.Tuple [.Name x px, .Starred (.Name y py) pst] k pt] X.env).map (·.2) = [assign (.Tuple [.Name x px, .Starred (.Name y py) pst] k pt) X.env] from rfl]
  show wpAny _ _ (assign (.Tuple [.Name x px, .Starred (.Name y py) pst] k pt) X.env (.ref a)) _ _ _
  rw [assign_Tuple]
  refine wpAny_bind (wpAny_standAt ?_)
  unfold unpack
  refine wpAny_bind (wpAny_holding ?_)
  show wpAny _ _ (unpackItems (.ref a) 2 (some 1)) _ _ _
  refine unpack_headtail (I1.ok.hd hc) ht (by simp) (by simp only [List.size_toArray, List.length_cons]; omega) fun h2 tk kp => ?_
  have I2 : Inv X pins σ H1 { s1 with heap := h2, toks := tk } := I1.kept kp
  have I3 : Inv X pins σ (upd H1 h2.objs.size (.lst vs)) { s1 with heap := h2.push { cls := .type "list", data := .seq us.toArray }, toks := tk } :=
    I2.laid (t' := tk) (fun b o e => Heap.get?_push_of_some _ e) (Nat.le_refl _) ⟨by rw [sizeLine_eq]; omega, us, 0, rt, Heap.get?_push_size _ rfl⟩
  have np : H1 h2.objs.size = none := I2.hok.fresh (Nat.le_refl _)
  show wpAny _ _ (assignInOrder [assign (.Name x px) X.env, assign (.Name y py) X.env] [uv, .ref h2.objs.size]) _ _ _
  refine wpAny_assignInOrder_more (wpAny_assign_Name (store_ok I3 hN hi (.inl hx) rh (fun s4 I4 => ?_) (.inr hx)))
  refine wpAny_assignInOrder_more (wpAny_assign_Name (store_ok I4 hN hj (.inl hy) (v := V.ref h2.objs.size) rfl (fun s5 I5 => ?_) (.inr hy)))
  exact wpAny_assignInOrder_none ⟨_, _, I5, q1 _ np⟩
def sHT (i j : Nat) (d : Dn) : Sn := fun s h => sBind (d s h) fun v h1 => match v with
  | .pv (.tup (p :: ps)) => if ps.length ≤ 1000 then .nx ((s.set i (some (.pv p))).set j (some (.pv (.lst ps)))) h1 else .stuck
  | _ => .stuck
theorem ss_headtail {i j : Nat} {x y : Str} {e : Expr} {d : Dn} {px py pst pt pos : Pos} {k : Nat} (hc : X.calm = true) (hN : X.N.Nodup) (hi : X.N[i]? = some x) (hj : X.N[j]? = some y) (hx : X.env.scope.names.lookup x = some .local) (hy : X.env.scope.names.lookup y = some .local) (he : SE X E e d)
    (hs : swapsWithSole [.Tuple [.Name x px, .Starred (.Name y py) pst] k pt] e pos.line X.env = pure false) (hw : swappedStores [.Tuple [.Name x px, .Starred (.Name y py) pst] k pt] e X.env = pure none) :
    SS X E (.Assign [.Tuple [.Name x px, .Starred (.Name y py) pst] k pt] e pos) (sHT i j d) := by
  refine PS.imp (ps_headtail hc hN hi hj hx hy he hs hw) fun D σ H ⟨base, α, s, h, R, S, P⟩ => ?_
  refine ⟨base, α, s, h, R, S, PstS.bind P fun v h1 α1 u H1 x1 R1 q1 P1 => ?_⟩
  split at P1
  · rename_i p ps
    split at P1
    · rename_i hl
      obtain ⟨a, vs, rfl, t, q⟩ := rv_tup.mp q1
      obtain ⟨v, r, rfl, q2, q3⟩ := repPs_cons.mp q
      refine ⟨a, v, r, rfl, t.sq, by rw [← q3.length]; exact hl, fun l nl => ?_⟩
      obtain ⟨R2, ev⟩ := R1.laid (o := .lst r) nl
      refine P1 α1 _ _ ev R2 ?_
      have S2 := ev.sl (x1.sl S)
      refine (S2.set i (v := .pv p) (u := v) (ev.pv (G := gx X) q2)).set j (v := .pv (.lst ps)) (u := .ref l) ?_
      exact rv_lst.mpr ⟨l, r, rfl, ⟨.inl upd_same, R1.avoids nl⟩, ev.pvs (G := gx X) q3⟩
    · exact P1.elim
  · exact P1.elim
end
end CI
namespace CI
open PySem PySem.Spec PyProof.Rows L2

/-! ### raise C("m"): a ValueError's class of one's own, without own __init__ -/
def veBs : List Value := [.type "ValueError", .type "Exception", .type "BaseException", .type "object"]
/-- what is looked at of such a class -/
def excB (K : PySem.W.Frag) (C : Addr) : Bool :=
  PySem.W.excIn K C veBs "ValueError.__new__" && PySem.W.keepIn K (.ref C) && decide (PySem.W.subIn K (.ref C) (.type "BaseException") = some true) && decide (PySem.W.typeIn K (.ref C) = some (.type "type")) &&
  decide (PySem.W.exmOne K (.ref C) (.ref C) = some true) && decide (PySem.W.kitOne K (.ref C) (.type "ValueError") = some true) &&
  decide (PySem.W.findIn K (.ref C) "__getattribute__" = some (some (.builtin "BaseException.__getattribute__"))) && decide (PySem.W.findIn K (.ref C) "__getattr__" = some none) && PySem.W.hasDictIn K C &&
  decide (PySem.W.findIn K (.ref C) "__class__" = some (some (.builtin "object.__class__"))) && decide (PySem.W.specialIn K (.builtin "object.__class__") "__get__" = some (some (.builtin "getset_descriptor.__get__"))) &&
  decide (PySem.W.takesIn K (.builtin "object.__class__") = some true) && decide (PySem.W.mroIn K C (.type "object") = some true)
structure ExcAt (X : Cx) (x : Str) : Prop where
  ex : ∃ C, X.mg x = some (.ref C) ∧ excB X.K C = true
theorem excB_c {K : PySem.W.Frag} {C : Addr} (h : excB K C = true) : ExcC K C := by
  unfold excB at h
  simp only [Bool.and_eq_true, decide_eq_true_eq] at h
  obtain ⟨⟨⟨⟨⟨⟨⟨⟨⟨⟨⟨⟨h1, h2⟩, h3⟩, h4⟩, h5⟩, h6⟩, h7⟩, h8⟩, h9⟩, h10⟩, h11⟩, h12⟩, h13⟩ := h
  exact ⟨h7, h8, h3, h9, h10, h11, h12, h13⟩
abbrev TakesE (X : Cx) (E : XK) : Prop := Takes X (fun cls d _ H => E cls d H)
def sRaise (c : Str) : Sn := fun _ h => .exc c [] h
section
variable {X : Cx} {E : XK}
theorem ss_raise {x m : Str} {j : Nat} {p p2 pos pos' : Pos} (hc : X.calm = true) (tk : TakesE X E) (ex : ExcAt X x) (hg : Gl X x) (hdb : (x == ("__debug__" : Str)) = false) :
    SS X E (.Raise (some (.Call (.Name x p) [.Constant (.str m) j p2] [] pos)) none pos') (sRaise x) := by
  obtain ⟨C, gC, hB⟩ := ex
  have hB0 := hB
  unfold excB at hB
  simp only [Bool.and_eq_true, decide_eq_true_eq] at hB
  obtain ⟨⟨⟨⟨⟨⟨⟨⟨⟨⟨⟨⟨h1, h2⟩, h3⟩, h4⟩, _⟩, _⟩, _⟩, _⟩, _⟩, _⟩, _⟩, _⟩, _⟩ := hB
  refine PS.imp (ps_raise hc tk (pmk_own PySem.F.excBase_ValueError h1 gC h2 (raises_own h3 h4) hg hdb)) fun D σ H ⟨base, α, s, h, R, S, P⟩ => ?_
  exact P α (.ref C) none H .refl R ⟨C, gC, rfl, .inl ⟨rfl, rfl⟩⟩

/-! ### try: .. except C as n: if not isinstance(n, ValueError): .. else: .. -/
section
variable {n : Str} {C : Addr} {i : Nat} {st : Stmt} {ip up cp p1 p2 p3 : Pos}
/-- the clause's suite finds nothing to do -/
theorem suite_is (hi : X.N[i]? = some n) (hln : X.env.scope.names.lookup n = some .local) (hdn : (n == ("__debug__" : Str)) = false) (hcn : (n == ("__classdict__" : Str)) = false) (hB : excB X.K C = true) (hg2 : Gl X "isinstance") (hm2 : X.mg "isinstance" = none) (hg3 : Gl X "ValueError") (hm3 : X.mg "ValueError" = none)
    {a : Addr} {oe : Obj} {pn : List (Addr × Obj)} (hz : Zc (.ref C) none oe) (hf : ∃ vs, oe.data = .fields vs) :
    PSs (X.suite a ((a, oe) :: pn)) [.If (.UnaryOp .Not (.Call (.Name "isinstance" p1) [.Name n p2, .Name "ValueError" p3] [] cp) up) [st] [] ip] (fun D σ H => σ[i]? = some (some (.ref a)) ∧ D.nx σ H) := by
  have hk : PySem.W.kitOne X.K (.ref C) (.type "ValueError") = some true := by
    unfold excB at hB
    simp only [Bool.and_eq_true, decide_eq_true_eq] at hB
    exact hB.1.1.1.1.1.1.1.2
  have v1 : PE (X.suite a ((a, oe) :: pn)) (.Name n p2) _ := pe_var hi (.inl hln) hdn hcn
  have v2 : PE (X.suite a ((a, oe) :: pn)) (.Name "ValueError" p3) _ := pe_bltn (v := .ty "ValueError") hg3 hm3 (by decide +kernel : bootBuiltins "ValueError" = some (.type "ValueError")) rfl (by decide) (by decide)
  have call : PE (X.suite a ((a, oe) :: pn)) (.Call (.Name "isinstance" p1) [.Name n p2, .Name "ValueError" p3] [] cp) _ := pe_callB (call_isE (excB_c hB) hz hf) hg2 hm2 (by decide +kernel) (pa_cons v1 (pa_cons v2 pa_nil)) (by decide) (by decide) rfl rfl
  have test := pt_not (pos := up) (pt_val call fun _ => rfl)
  have dead : PSs (X.suite a ((a, oe) :: pn)) [st] (fun _ _ _ => False) := ⟨fun pins s σ H D I h => h.elim⟩
  refine PSs.imp (pss_one (ps_if (pos := ip) test dead pss_nil)) fun D σ H ⟨hs, q⟩ => ?_
  exact ⟨.ref a, hs, ⟨.ty "ValueError", .type "ValueError", true, rfl, fun u r => r, hk, ⟨true, rfl, q⟩⟩⟩
/-- what the clause wishes of the body's exception -/
abbrev wIs (C : Addr) (i : Nat) (D : Ends) : WX := fun cls d σ H => cls = .ref C ∧ d = none ∧ i < σ.length ∧ D.nx (σ.set i none) H
theorem ps_try_is {x : Str} {body orelse : List Stmt} {np pos pos' : Pos} {tb : WX → TS} {u : TS} (hs : X.stack = X.env :: X.outer) (hf : X.env.frame = some X.env.locals) (hN : X.N.Nodup) (hi : X.N[i]? = some n) (hln : X.env.scope.names.lookup n = some .local)
    (hg : Gl X x) (hdx : (x == ("__debug__" : Str)) = false) (hdn : (n == ("__debug__" : Str)) = false) (hcn : (n == ("__classdict__" : Str)) = false) (hm : X.mg x = some (.ref C)) (hB : excB X.K C = true) (hg2 : Gl X "isinstance") (hm2 : X.mg "isinstance" = none) (hg3 : Gl X "ValueError") (hm3 : X.mg "ValueError" = none)
    (ho : PSs X orelse u) (hb : ∀ (W : WX) (pn : List (Addr × Obj)) (xe : Value → Shared → Prop), Takes (X.tr pn xe) W → PassesOwn (model X.prog X.w) X.A X.env xe → PSs (X.tr pn xe) body (tb W)) :
    PS X (.Try body [.ExceptHandler (some (.Name x np)) (some n) [.If (.UnaryOp .Not (.Call (.Name "isinstance" p1) [.Name n p2, .Name "ValueError" p3] [] cp) up) [st] [] ip] pos'] orelse [] pos)
      (fun D σ H => tb (wIs C i D) { nx := u D, rt := fun _ _ => False } σ H) := by
  have hex : PySem.W.exmOne X.K (.ref C) (.ref C) = some true := by
    unfold excB at hB
    simp only [Bool.and_eq_true, decide_eq_true_eq] at hB
    exact hB.1.1.1.1.1.1.1.1.2
  refine ⟨fun pins s σ H D I h => ?_⟩
  have ok := I.ok
  have fr : X.A.frames = some (X.env :: X.outer) := ok.frames.trans (by rw [hs])
  -- how the body's exception is caught
  have catch_ : ∀ u s', XE (X.tr (X.pn ++ pins) (fun e s₁ => wpAny (model X.prog X.w) X.A (noteFrame e X.env) (fun _ s₂ => wpAny (model X.prog X.w) X.A (setFlight e none) (fun _ s₃ => wpAny (model X.prog X.w) X.A
      (handleBy e X.env [.ExceptHandler (some (.Name x np)) (some n) [.If (.UnaryOp .Not (.Call (.Name "isinstance" p1) [.Name n p2, .Name "ValueError" p3] [] cp) up) [st] [] ip] pos']) (L2.SP X pins D) X.xe s₃) X.xe s₂) X.xe s₁)) (wIs C i D) u s' →
      wpAny (model X.prog X.w) X.A (noteFrame u X.env) (fun _ s₂ => wpAny (model X.prog X.w) X.A (setFlight u none) (fun _ s₃ => wpAny (model X.prog X.w) X.A
        (handleBy u X.env [.ExceptHandler (some (.Name x np)) (some n) [.If (.UnaryOp .Not (.Call (.Name "isinstance" p1) [.Name n p2, .Name "ValueError" p3] [] cp) up) [st] [] ip] pos']) (L2.SP X pins D) X.xe s₃) X.xe s₂) X.xe s' := by
    rintro u s' ⟨a, B, sI, pins', σ', H', cls, d, rfl, J', nb, up0, sky, na, os, ag, ec, ed, hlen, hyes⟩
    subst ec ed
    have J := J'.ofTry ok
    refine Sky.land Zc.steady fr hf (by rw [← hs]; exact sky) fun g fl upg => ?_
    have Jg : Inv X pins σ' H' { s' with heap := g } := J.landed nb fl.1 (up0.trans upg) os ag
    obtain ⟨o1, vs1, he1, hz1, hd1⟩ := fl.there
    have apart : a ∉ frs (X.env :: X.outer) := fun hm0 => by
      obtain ⟨_, o', e', hnf⟩ := fl.2.2.1.mem hm0
      rw [he1] at e'
      cases e'
      exact hnf _ hd1
    have nL : a ≠ X.env.locals := fun z => apart (List.mem_filterMap.mpr ⟨X.env, List.mem_cons_self, by rw [hf, z]⟩)
    have nF : a ∉ X.fs := fun hm0 => by
      obtain ⟨e, he, q⟩ := List.mem_filterMap.mp hm0
      exact apart (List.mem_filterMap.mpr ⟨e, List.mem_cons_of_mem _ he, q⟩)
    have Sg := Jg.suite he1 hd1 na nL nF
    refine wpAny_handleBy_cons (codeAny_handlers_test ?_) (by intro q; cases q)
    refine ld_glob (X := X.suite a ((a, o1) :: (X.pn ++ pins))) Sg hg hm ?_ hdx
    have looks : PySem.W.Looks (model X.prog X.w) g (typeOf (.ref a)) (.ref C) := fun A Q E s k q => wpAny_typeOf_ref (k _ _ he1) (by rw [hz1.1]; exact q)
    refine (PySem.W.exm_one (M := model X.prog X.w) Jg.kIn looks hex).here ?_
    refine codeAny_handlers_suite_as (HandSPX.lands_againZ fl fun k flk upk => ?_)
    have Jk : Inv X pins σ' H' { s' with heap := k } := J.landed nb flk.1 ((up0.trans upg).trans upk) os ag
    obtain ⟨o2, vs2, he2, hz2, hd2⟩ := flk.there
    have Sk := Jk.suite he2 hd2 na nL nF
    refine store_ok (X := X.suite a ((a, o2) :: (X.pn ++ pins))) (v := .ref a) Sk hN hi (.inl hln) rfl (fun s5 S5 => ?_) (.inr hln)
    have run := (suite_is (st := st) (ip := ip) (up := up) (cp := cp) (p1 := p1) (p2 := p2) (p3 := p3) hi hln hdn hcn hB hg2 hm2 hg3 hm3 (pn := X.pn ++ pins) hz2 ⟨_, hd2⟩).run [] s5 (σ'.set i (some (.ref a))) H'
      { nx := fun σ6 H6 => D.nx (σ6.set i none) H6, rt := fun _ _ => False } S5 ⟨List.getElem?_set_self hlen, by show D.nx ((σ'.set i (some (V.ref a))).set i none) H'; rw [List.set_set]; exact hyes⟩
    refine wpAny_mono run (fun f s6 hsp => ?_) (fun _ _ z => False.elim z)
    cases f with
    | next =>
      obtain ⟨σ6, H6, S6, q6⟩ := hsp
      exact gone_ok (S6.unsuite ok) hN hi hln fun s7 J7 => ⟨_, _, J7, q6⟩
    | brk => obtain ⟨σ6, H6, S6, q6⟩ := hsp; exact False.elim q6
    | cont => obtain ⟨σ6, H6, S6, q6⟩ := hsp; exact False.elim q6
    | ret u => obtain ⟨v6, σ6, H6, S6, r6, q6⟩ := hsp; exact False.elim q6
  refine wpAny_Try_except (wpAny_mono ((hb _ _ _ catch_ PassesOwn.looking).run [] s σ H _ (I.toTry _) h) (fun f s1 hsp => ?_) fun e s1 he => he)
  cases f with
  | next =>
    obtain ⟨σ', H', J', q⟩ := hsp
    exact ho.run pins s1 σ' H' D (J'.ofTry ok) q
  | brk => obtain ⟨σ', H', J', q⟩ := hsp; exact False.elim q
  | cont => obtain ⟨σ', H', J', q⟩ := hsp; exact False.elim q
  | ret u => obtain ⟨v, σ', H', J', r, q⟩ := hsp; exact False.elim q
end
end
end CI
namespace CI
open PySem PySem.Spec PyProof.Rows L2

/-! ### try: o.m(..) except C as n: .. else: .. -/
def noX {α : Type} : Res α → Res α
  | .exc _ _ _ => .stuck
  | r => r
theorem Pst.bindN {G : Gx} {E E' : XK} {base α : List Addr} {h : Hh} {H : Hp} {β γ δ ε : Type} {rep : Rp β γ} {rep2 : Rp δ ε} {r : Res β} {k : β → Hh → Res δ} {Q1 : γ → Hp → Prop} {Q2 : ε → Hp → Prop} (p : Pst G E base α h H rep2 ((noX r).bind k) Q2)
    (f : ∀ v h1 α1 u H1, Evo α h H α1 h1 H1 → Rel G base α1 h1 H1 → rep (base ++ own α1 h1) α1 H1 v u → Pst G E base α1 h1 H1 rep2 (k v h1) Q2 → Q1 u H1) : Pst G E' base α h H rep r Q1 := by
  cases r with
  | ok v h' => exact fun α' u H' x r q => f v h' α' u H' x r q (Pst.step x p)
  | exc c fs h' => exact p.elim
  | stuck => exact p.elim
/-- a method's call; what is handed in lets no exception out -/
def dMethN (tab : List (Str × MtE)) (m : Str) (n : Nat) (d : Dn) (da : Da) : Dn := fun s h => (noX (d s h)).bind fun x h1 => match fldOf h1 x with
  | some (c, fs) => match tab.lookup c with
    | some e => if fs.lookup m = none then (noX (da s h1)).bind fun us h2 => if us.length = n then runM e (x :: us) [] h2 else .stuck
      else .stuck
    | none => .stuck
  | none => .stuck
def sTryIs (c : Str) (i : Nat) (d : Dn) (b : Sn) : Sn := fun s h => match d s h with
  | .ok _ h1 => b s h1
  | .exc c' fs h1 => if c' = c ∧ fs = [] ∧ i < s.length then .nx (s.set i none) h1 else .stuck
  | .stuck => .stuck
theorem RepS.unset {G : Gx} {av α : List Addr} {H : Hp} {s : Sl} {σ : L2.St} (r : RepS G av α H s σ) (i : Nat) : RepS G av α H (s.set i none) (σ.set i none) := by
  refine ⟨by rw [List.length_set, List.length_set, r.1], fun j w e => ?_⟩
  by_cases hj : i = j
  · subst hj
    have hl : i < s.length := by
      have := (List.getElem?_eq_some_iff.mp e).1
      simpa using this
    rw [List.getElem?_set_self hl] at e
    cases e
  · rw [List.getElem?_set_ne hj] at e
    obtain ⟨u', e', q'⟩ := r.2 j w e
    exact ⟨u', by rw [List.getElem?_set_ne hj]; exact e', q'⟩
section
variable {X : Cx} {E : XK}
theorem body_try {tab : List (Str × MtE)} {m : Str} {n : Nat} {o : Expr} {es : List Expr} {d : Dn} {da : Da} {apos cp ep : Pos} (hgd : X.A.guards = some [])
    (ht : ∀ c e, tab.lookup c = some e → ∃ k ps, Room k X.A ∧ MethAt X c m k ps e.2.1 (n + 1) [] e.2.2)
    (ho : SE X noE o d) (hs0 : es = [] → da = daNil) (ha : es ≠ [] → SA X noE es da) (hs : notSuper o = true) (hn : es.all notStar = true) (hl : es.length < 29) (hp : (apos.endLine == cp.line) = true) {W : WX} (tk : Takes X W) :
    PSs X [.Expr (.Call (.Attribute o m apos) es [] cp) ep] (fun D σ H => ∃ base α s h, Rel (gx X) base α h H ∧ RepS (gx X) (base ++ own α h) α H s σ ∧ Pst (gx X) (fun cls d H => W cls d σ H) base α h H (rV (gx X)) (dMethN tab m n d da s h) (fun _ H' => D.nx σ H')) := by
  refine pa_daNil hs0 ha fun t ht2 hpa => ?_
  have pass : ∀ σ, PassAt X σ (fun cls d H => W cls d σ H) := fun σ pins H s e s' I c => tk e s' (XE.of_call I (fun _ _ _ h => h) c)
  refine PSs.imp (pss_one (ps_expr (pe_methG (E := fun σ cls d H => W cls d σ H) (n := n) (ks := []) hgd pass ho hpa pk_nil hs hn rfl rfl (by simpa using hl) hp) rfl)) fun D σ H ⟨base, α, s, h, R, S, P⟩ => ?_
  refine ⟨base, α, s, h, R, S, Pst.bindN P fun x h1 α1 u H1 x1 R1 q1 P1 => ?_⟩
  split at P1
  · rename_i c fs e1
    split at P1
    · rename_i e e2
      split at P1
      · rename_i e3
        obtain ⟨a, C, dx, gs, rfl, e5, e6, e7⟩ := fldOf_ok R1 q1 e1
        obtain ⟨k, ps, rm, D'⟩ := ht c e e2
        obtain ⟨f, fd, hc, hm, hF, ⟨g, gV, hb, hlen, hrel⟩⟩ := D' C e5
        refine ⟨a, C, dx, gs, f, fd, k, ps, _, g, gV, rfl, e6, fv_lookup_none e7 e3, hc, hm, hF, rm, hb, ?_⟩
        refine ht2 _ _ _ ⟨base, α1, s, h1, R1, x1.sl S, Pst.bindN P1 fun us h2 α2 vs H2 x2 R2 q2 P2 => ?_⟩
        show vs.length = n ∧ ([] : List V).length = ([] : List Str).length ∧ _
        split at P2
        · rename_i hz
          have l1 : vs.length = n := by rw [vs_len q2, hz]
          have l1' : (V.ref a :: vs).length = n + 1 := by rw [List.length_cons, l1]
          have rr : RepVs (gx X) (base ++ own α2 h2) α2 H2 (x :: us) (V.ref a :: vs) := ⟨_, _, rfl, x2.va q1, q2⟩
          exact ⟨l1, rfl, runM_ok R2 (hrel _ _ _ (x :: us) (V.ref a :: vs) [] [] l1' rfl rr (show RepVs (gx X) _ _ _ [] [] from rfl)) (hlen _ _ l1' rfl) P2⟩
        · exact P2.elim
      · exact P1.elim
    · exact P1.elim
  · exact P1.elim
theorem ss_tryIs {x n : Str} {i : Nat} {body orelse : List Stmt} {st : Stmt} {d : Dn} {b : Sn} {np pos pos' ip up cp p1 p2 p3 : Pos} (hs : X.stack = X.env :: X.outer) (hf : X.env.frame = some X.env.locals) (hN : X.N.Nodup) (hi : X.N[i]? = some n) (hln : X.env.scope.names.lookup n = some .local)
    (hg : Gl X x) (hdx : (x == ("__debug__" : Str)) = false) (hdn : (n == ("__debug__" : Str)) = false) (hcn : (n == ("__classdict__" : Str)) = false) (ex : ExcAt X x) (hg2 : Gl X "isinstance") (hm2 : X.mg "isinstance" = none) (hg3 : Gl X "ValueError") (hm3 : X.mg "ValueError" = none)
    (ho : SB X E orelse b) (hb : ∀ (W : WX) (pn : List (Addr × Obj)) (xe : Value → Shared → Prop), Takes (X.tr pn xe) W → PSs (X.tr pn xe) body (fun D σ H => ∃ base α s h, Rel (gx X) base α h H ∧ RepS (gx X) (base ++ own α h) α H s σ ∧ Pst (gx X) (fun cls d H => W cls d σ H) base α h H (rV (gx X)) (d s h) (fun _ H' => D.nx σ H'))) :
    SS X E (.Try body [.ExceptHandler (some (.Name x np)) (some n) [.If (.UnaryOp .Not (.Call (.Name "isinstance" p1) [.Name n p2, .Name "ValueError" p3] [] cp) up) [st] [] ip] pos'] orelse [] pos) (sTryIs x i d b) := by
  obtain ⟨C, gC, hB⟩ := ex
  refine PS.imp (ps_try_is hs hf hN hi hln hg hdx hdn hcn gC hB hg2 hm2 hg3 hm3 ho fun W pn xe tk _ => hb W pn xe tk) fun D σ H ⟨base, α, s, h, R, S, P⟩ => ?_
  refine ⟨base, α, s, h, R, S, ?_⟩
  unfold sTryIs at P
  cases hd : d s h with
  | stuck => rw [hd] at P; exact P.elim
  | ok v h1 =>
    rw [hd] at P
    exact fun α' u H' x R' _ => ⟨base, α', s, h1, R', x.sl S, PstS.step x P⟩
  | exc c' fs h1 =>
    rw [hd] at P
    dsimp only at P
    split at P
    · rename_i hz
      obtain ⟨rfl, rfl, hl⟩ := hz
      intro α' cls dd H' x R' q
      obtain ⟨C', m1, m2, m3 | ⟨m0, _⟩⟩ := q
      · have m1 : X.mg c' = some (.ref C') := m1
        rw [gC] at m1
        cases m1
        exact ⟨m2, m3.1, by rw [← S.1]; exact hl, P α' _ H' x R' ((x.sl S).unset i)⟩
      · exact absurd rfl m0
    · exact P.elim

/-! ### T[e], T a table of defs; f(..), f a name of the def's own that holds a def -/
structure TabAt (X : Cx) (x : Str) (kfs : List (Str × Str)) : Prop where
  ex : ∃ d, X.mg x = some (.ref d) ∧ ∀ q ∈ kfs, ∃ a, KDct X.K X.w d q.1 (.ref a) ∧ X.mg q.2 = some (.ref a)
def dTab (kfs : List (Str × Str)) (d : Dn) : Dn := fun s h => (d s h).bind fun v h1 => match v with
  | .pv (.str z) => match kfs.lookup z with
    | some f => .ok (.pv (.fn f)) h1
    | none => .stuck
  | _ => .stuck
theorem mem_of_lookupS {kfs : List (Str × Str)} {z f : Str} (h : kfs.lookup z = some f) : (z, f) ∈ kfs := PySem.mem_of_lookup h
theorem se_tab {x : Str} {kfs : List (Str × Str)} {e : Expr} {d : Dn} {p pos : Pos} (hg : Gl X x) (hdb : (x == ("__debug__" : Str)) = false) (T : TabAt X x kfs) (hp : plainI e = true) (he : SE X E e d) : SE X E (.Subscript (.Name x p) e pos) (dTab kfs d) := by
  obtain ⟨D, hm, hk⟩ := T
  have hv : PE X (.Name x p) _ := pe_glob (v := V.ref D) hg hm rfl hdb
  refine PE.imp (pe_ix (ix_kdict (X := X)) hv he (plain_ix hp)) fun σ H Q ⟨base, α, s, h, R, S, P⟩ => ?_
  refine ⟨base, α, s, h, R, S, Pst.bind P fun v h1 α1 u H1 x1 R1 q1 P1 => ?_⟩
  split at P1
  · rename_i z
    split at P1
    · rename_i f hf
      obtain ⟨a, h2, h3⟩ := hk _ (mem_of_lookupS hf)
      exact ⟨D, z, .ref a, rfl, rv_str.mp q1, h2, P1.same R1 (rv_fn.mpr ⟨a, rfl, h3⟩)⟩
    · exact P1.elim
  · exact P1.elim
/-- a call of the def that slot i holds -/
def tCallV (X : Cx) (i n : Nat) (E : XK) (t : TA) : TE := fun σ H Q => ∃ f fd k ps sp g gV, σ[i]? = some (some (.ref f)) ∧ PySem.W.keepIn X.K (.ref f) = true ∧ FnG X.prog X.w X.K X.mg X.base k f fd ps sp ∧ Room k X.A ∧ KBn X.K fd ps n [] g gV ∧
  t σ H fun vs H1 => vs.length = n ∧ sp (gV vs []) H1 Q E
theorem pe_callV {i n : Nat} {x : Str} {e : Expr} {es : List Expr} {t : TA} {p pos : Pos} (hgd : X.A.guards = some []) (hx : Passes (L2.CX X.prog X.w) X E) (hN : X.N[i]? = some x) (hv : Vis X.env.scope x) (hdb : (x == ("__debug__" : Str)) = false) (hcd : (x == ("__classdict__" : Str)) = false)
    (ha : PA X (e :: es) t) (hn : (e :: es).all notStar = true) : PE X (.Call (.Name x p) (e :: es) [] pos) (tCallV X i n E t) := by
  refine ⟨fun pins s σ H Q I ⟨f, fd, k, ps, sp, g, gV, hs, hk, F, hr, hb, ht⟩ => ?_⟩
  refine wpAny_Call_Name_kw (thn ((pe_var (pos := p) hN hv hdb hcd).run pins s σ H (fun v H1 => v = .ref f ∧ H1 = H) I ⟨.ref f, hs, rfl, rfl⟩) fun u s1 ⟨v, H1, I1, r1, q1⟩ => ?_)
  obtain ⟨rfl, rfl⟩ := q1
  cases r1
  rw [List.all_cons, Bool.and_eq_true] at hn
  refine PySem.W.callWith_K (h₀ := X.base) I.ok.mod.kin hk (thn (ha.run pos pins s1 σ _ _ I1 ht) fun us s2 ⟨vs, H2, I2, r, l, q⟩ => ⟨I2.kIn, ?_⟩) (star_cons hn.1) (star_any hn.2)
  exact run_g (ks := []) F hr hgd hb (passAll hx σ) I2 r .nil l rfl q
def dCallV (i : Nat) (tab : List (Str × MtE)) (n : Nat) (da : Da) : Dn := fun s h => match s[i]? with
  | some (some (.pv (.fn f))) => match tab.lookup f with
    | some e => (da s h).bind fun us h1 => if us.length = n then runM e us [] h1 else .stuck
    | none => .stuck
  | _ => .stuck
theorem se_callV {i n : Nat} {x : Str} {e : Expr} {es : List Expr} {tab : List (Str × MtE)} {da : Da} {p pos : Pos} (hgd : X.A.guards = some []) (hx : Passes (L2.CX X.prog X.w) X E) (hN : X.N[i]? = some x) (hv : Vis X.env.scope x) (hdb : (x == ("__debug__" : Str)) = false) (hcd : (x == ("__classdict__" : Str)) = false)
    (ht : ∀ f e, tab.lookup f = some e → ∃ k ps, Room k X.A ∧ DefAt X f k ps e.2.1 n [] e.2.2) (ha : SA X E (e :: es) da) (hn : (e :: es).all notStar = true) : SE X E (.Call (.Name x p) (e :: es) [] pos) (dCallV i tab n da) := by
  refine PE.imp (pe_callV (n := n) hgd hx hN hv hdb hcd ha hn) fun σ H Q ⟨base, α, s, h, R, S, P⟩ => ?_
  unfold dCallV at P
  split at P
  · rename_i f hf
    split at P
    · rename_i e0 he
      obtain ⟨k, ps, hr, ⟨a, fd, hm, hk, hF, ⟨g, gV, hb, hlen, hrel⟩⟩⟩ := ht f e0 he
      obtain ⟨u, hu, ru⟩ := S.2 i _ hf
      obtain ⟨a', ea, hm'⟩ := rv_fn.mp ru
      have hm' : X.mg f = some (.ref a') := hm'
      rw [hm] at hm'
      cases hm'
      subst ea
      refine ⟨a, fd, k, ps, _, g, gV, hu, hk, hF, hr, hb, base, α, s, h, R, S, P.bind fun us h1 α1 vs H1 x1 R1 q1 P1 => ?_⟩
      split at P1
      · rename_i hz
        have l1 : vs.length = n := by rw [vs_len q1, hz]
        exact ⟨l1, runM_ok R1 (hrel _ _ _ us vs [] [] l1 rfl q1 (show RepVs (gx X) _ _ _ [] [] from rfl)) (hlen _ _ l1 rfl) P1⟩
      · exact P1.elim
    · exact P.elim
  · exact P.elim
end
end CI
namespace CI
open PySem PySem.Spec PyProof.Rows L2

/-! ### min(a tuple of ints) -/
section
variable {X : Cx} {E : XK}
theorem minT_raw {prog : Program} {w : World} {A : Around} {E0 : Value → Shared → Prop} {s : Shared} {l : Addr} {its : List Value} {ns : List Int} {Q : Value → Shared → Prop} (hh : A.handled = none) (hl : s.heap.IsTuple l its.toArray) (hi : IntsAre its ns) (hne : 0 < ns.length)
    (h : ∀ h' tk M t', (∀ b o, s.heap.get? b = some o → h'.get? b = some o) → M ∈ ns → (∀ a, a ∈ ns → M ≤ a) → Q (.int M t') { s with heap := h', toks := tk }) : wpAny (model prog w) A (call (.builtin "min") [.ref l]) Q E0 s := by
  obtain ⟨xs, e⟩ := hi.allInts.items
  have hn : numsOf (intItems xs).toList = ns := by rw [← e]; exact hi.numsOf
  rw [nums_intItems] at hn
  subst hn
  rw [e] at hl
  have hlt : l < s.heap.objs.size := by obtain ⟨o, ho, _⟩ := hl; exact Heap.lt_size ho
  refine call_min_walk (wpAny_pyIter_tuple hl ?_)
  refine ⟨s.heap.objs.size, _, _, _, _, _, _, rfl, Walks.tuple (A := A.in1) hh _ l (Nat.ne_of_lt hlt) (intItems xs), ⟨⟨_, Heap.get?_push_size _ rfl, rfl, rfl⟩, hl.push _⟩, fun b hb => ?_, by simpa [intItems] using hne, CmpOf.ints_lt (numAt xs) (fun _ _ => intItems_at), fun v h' tk hv hk => ?_⟩
  · show b < (s.heap.push _).objs.size
    rw [Heap.size_push]
    rcases List.mem_cons.mp hb with rfl | hb
    · exact Nat.lt_succ_self _
    · rw [List.mem_singleton.mp hb]; exact Nat.lt_succ_of_lt hlt
  · have hv : (intItems xs)[argBest (fun i j => decide (numAt xs i < numAt xs j)) (xs.size - 1)]? = some v := by simpa [intItems] using hv
    obtain ⟨t, rfl⟩ := intItems_at hv
    obtain ⟨h1, h2⟩ := argBest_lt (numAt xs) (xs.size - 1)
    refine h h' tk _ t (fun b o eb => hk b o (fun z => ?_) (Heap.get?_push_of_some _ eb)) ?_ fun a ha => ?_
    · exact Nat.ne_of_lt (Heap.lt_size eb) (List.mem_singleton.mp z)
    · rw [numAt_eq]; exact PySem.getD_mem (by rw [List.length_map, Array.length_toList]; simp at hne; omega)
    · obtain ⟨j, hj, rfl⟩ := mem_getD ha
      rw [List.length_map, Array.length_toList] at hj
      rw [← numAt_eq]; exact h2 j (by omega)
def rMinT (K : PySem.W.Frag) : List V → Hp → VK → Prop := fun vs H Q => ∃ (a : Addr) (ns : List Int), vs = [V.ref a] ∧ SqT K H a (ns.map V.int) ∧ 0 < ns.length ∧ ∀ m, m ∈ ns → (∀ y, y ∈ ns → m ≤ y) → Q (.int m) H
theorem cr_minT (hc : X.calm = true) : CallR X (.builtin "min") (rMinT X.K) := by
  intro pins s σ H vs us Q I r h
  obtain ⟨a, ns, rfl, hs, hne, q⟩ := h
  obtain ⟨its, rv, hl, _⟩ := I.tuple hs
  rw [Vals.ref1 r]
  exact minT_raw (I.ok.hd hc) hl rv.ints hne fun h' tk m t' hk h1 h2 => ⟨.int _, H, I.kept hk, ⟨_, rfl⟩, q m h1 h2⟩
def bMinT : Fn := fun vs h => match vs with
  | [.pv (.tup ps)] => match intsOf (ps.map .pv) with
    | some ns => if ns.isEmpty then .stuck else .ok (.pv (.int (minI ns))) h
    | none => .stuck
  | _ => .stuck
theorem cs_minT : CalS X E bMinT (rMinT X.K) := by
  intro base α h H us vs Q R q P
  unfold bMinT at P
  split at P
  · rename_i ps
    obtain ⟨v, e, q1⟩ := rvs1 q
    split at P
    · rename_i ns hns
      split at P
      · exact P.elim
      · rename_i hne
        obtain ⟨a, us', e2, t, q2⟩ := rv_tup.mp q1
        have q3 := repVs_pv (α := α).mpr q2
        rw [intsOf_eq hns] at q3
        rw [repVs_ints.mp q3] at t
        obtain ⟨l1, l2⟩ := len_pos hne
        refine ⟨a, ns, by rw [e, e2], t.sq, l1, fun m hm hle => ?_⟩
        obtain ⟨m1, m2⟩ := minI_mem l2
        have : m = minI ns := Int.le_antisymm (hle _ m1) (m2 m hm)
        rw [this]
        exact P.same R (rv_int.mpr rfl)
    · exact P.elim
  · exact P.elim
end
end CI
namespace CI
open PySem PySem.Spec PyProof.Rows L2

/-! ### a comprehension's list that will be changed -/
def thaw : Va → Hh → Res Va := fun v h => match v with
  | .pv (.lst ps) => .ok (.ref h.length) (h ++ [.lst (ps.map .pv)])
  | _ => .stuck
def dThaw (d : Dn) : Dn := fun s h => (d s h).bind thaw
theorem Rel.adopt {G : Gx} {base α : List Addr} {h : Hh} {H : Hp} {D : Addr} {acc : List Pv} {accV : List V} (R : Rel G (base ++ [D]) α h H) (hb : D ∉ base) (e : H D = some (.lst accV)) (q : RepPs G (base ++ [D] ++ own α h) H acc accV) :
    Rel G base (α ++ [D]) (h ++ [.lst (acc.map .pv)]) H ∧ own (α ++ [D]) (h ++ [.lst (acc.map .pv)]) = own α h ++ [D] := by
  have oe : own (α ++ [D]) (h ++ [.lst (acc.map .pv)]) = own α h ++ [D] := by
    rw [own_append R.len]; rfl
  have ltr : Later (base ++ [D] ++ own α h) α H (base ++ own (α ++ [D]) (h ++ [.lst (acc.map .pv)])) (α ++ [D]) H := by
    refine ⟨⟨[D], rfl⟩, fun a u e n => ⟨e, ?_⟩⟩
    rw [oe]
    simp only [List.mem_append, List.mem_singleton, not_or] at n ⊢
    exact ⟨n.1.1, n.2, n.1.2⟩
  have nα : ∀ a ∈ α, a ≠ D := fun a m z => R.dis a m (List.mem_append_right _ (List.mem_singleton.mpr z))
  refine ⟨⟨by rw [List.length_append, List.length_append, R.len]; rfl, ?_, fun a m => ?_, fun a m => R.bas a (List.mem_append_left _ m), fun a m => ?_, fun r a x e1 e2 => ?_⟩, oe⟩
  · rw [List.nodup_append]
    exact ⟨R.nd, by simp, fun a ha b hb => by rw [List.mem_singleton.mp hb]; exact nα a ha⟩
  · rcases List.mem_append.mp m with m | m
    · exact fun z => R.dis a m (List.mem_append_left _ z)
    · rw [List.mem_singleton.mp m]; exact hb
  · rcases List.mem_append.mp m with m | m
    · exact R.trk a m
    · rw [List.mem_singleton.mp m, e]; exact fun z => nomatch z
  · by_cases hr : r < α.length
    · rw [List.getElem?_append_left hr] at e1
      rw [List.getElem?_append_left (by rw [← R.len]; exact hr)] at e2
      exact RepO.later ltr (fun _ => rfl) (R.obs r a x e1 e2)
    · have : r = α.length := by
        have := (List.getElem?_eq_some_iff.mp e1).1
        rw [List.length_append] at this
        simp at this
        omega
      subst this
      rw [List.getElem?_append_right (Nat.le_refl _), Nat.sub_self] at e1
      rw [List.getElem?_append_right (by rw [R.len]; exact Nat.le_refl _), R.len, Nat.sub_self] at e2
      have e1 : some D = some a := e1
      have e2 : some (Ob.lst (acc.map .pv)) = some x := e2
      cases e1
      cases e2
      exact ⟨accV, e, repVs_pv.mpr (RepPs.mono ltr.mono q)⟩
section
variable {X : Cx} {E : XK} {it elt tg : Expr} {ifs : List Expr} {scope : Scope} {own' : List (Str × Nat)} {pos : Pos} {da : Da} {t : Tg} {c : Dt} {d : Dn}
/-- the reading of the whole from its parts -/
theorem comp_rdM {wi : TI} {g : TG} {tt : TT} {te : TE} {vs : List Nat}
    (hi : ∀ σ H R, (∃ base α s h, Rel (gx X) base α h H ∧ RepS (gx X) (base ++ own α h) α H s σ ∧ Pst (gx X) E base α h H (fun av α H xs (J : It) => IsIt (gx X) J av α H xs) (da s h) R) → wi σ H R)
    (hg : ∀ u σ H Q, (∃ base α s h v, Rel (gx X) base α h H ∧ RepS (gx X) (base ++ own α h) α H s σ ∧ RepV (gx X) (base ++ own α h) α H v u ∧
      match t.put v s h with
      | some s' => ∀ σ', SameOff t.slots σ σ' → RepS (gx X) (base ++ own α h) α H s' σ' → Q σ' H
      | none => False) → g u σ H Q)
    (ht : ∀ σ H Q, tG (gx X) noE rB c σ H Q → tt σ H Q) (he : ∀ σ H Q, tG (gx X) noE (rV (gx X)) d σ H Q → te σ H Q) (hs : ∀ i ∈ t.slots, i ∈ vs) :
    ∀ σ H Q, tG (gx X) E (rV (gx X)) (dThaw (dComp da vs t c d)) σ H Q → tLc wi g tt te vs σ H Q := by
  intro σ H Q ⟨base, α, s, h, R, S, P⟩
  have P : Pst (gx X) E base α h H (rV (gx X)) ((da s h).bind fun xs h1 => (if xs.length ≤ 1000000 then compL t c d (wipeS s vs) xs [] h1 else .stuck).bind thaw) Q := by
    unfold dThaw dComp at P
    cases hz : da s h <;> rw [hz] at P <;> exact P
  refine hi σ H _ ⟨base, α, s, h, R, S, Pst.bind P fun xs h1 α1 J H1 x1 R1 hJ P1 => ?_⟩
  intro D nD
  split at P1
  case isFalse => exact P1.elim
  rename_i hlen
  have S1 := (x1.sl S).wipe vs
  have mD : D ∈ base ++ [D] := List.mem_append_right _ (List.mem_singleton.mpr rfl)
  -- the invariant
  refine ⟨fun i m H => ∃ α h acc accV, Rel (gx X) (base ++ [D]) α h H ∧ Evo α1 h1 H1 α h H ∧ i + m = xs.length ∧ H D = some (.lst accV) ∧ accV.length = acc.length ∧ acc.length ≤ i ∧
      RepPs (gx X) (base ++ [D] ++ own α h) H acc accV ∧ Pst (gx X) E base α1 h1 H1 (rV (gx X)) ((compL t c d (wipeS s vs) (xs.drop i) acc h).bind thaw) Q,
    ⟨xs.length, α1, h1, [], [], (R1.more (o := .lst []) nD).1, Evo.upd .refl nD, Nat.zero_add _, upd_same, rfl, Nat.le_refl _, repPs_nil.mpr rfl, P1⟩, ?_⟩
  rintro i m H2 ⟨α2, h2, acc, accV, R2, ev2, em, eD, el, ei, rp, P2⟩
  have lt := ev2.laterD (base := base) nD
  by_cases hlt : i < xs.length
  · refine .inr ⟨hJ.go i _ _ _ hlt lt, ?_⟩
    refine ⟨fun H => ∃ α h acc accV, Rel (gx X) (base ++ [D]) α h H ∧ Evo α1 h1 H1 α h H ∧ H D = some (.lst accV) ∧ accV.length = acc.length ∧ acc.length ≤ i + 1 ∧
        RepPs (gx X) (base ++ [D] ++ own α h) H acc accV ∧ Pst (gx X) E base α1 h1 H1 (rV (gx X)) ((compL t c d (wipeS s vs) (xs.drop (i + 1)) acc h).bind thaw) Q,
      fun H' ⟨α, h, acc, accV, a1, a2, a4, a5, a6, a7, a8⟩ => ⟨m - 1, by omega, α, h, acc, accV, a1, a2, by omega, a4, a5, a6, a7, a8⟩, fun u H3 y => ?_⟩
    obtain ⟨ev, R3, q3⟩ := hJ.yld i xs[i] (base ++ [D]) α2 h2 H2 u H3 (List.getElem?_eq_getElem hlt) R2 lt y
    have ev3 := ev2.trans ev
    have SW : RepS (gx X) (base ++ [D] ++ own α2 h2) α2 H3 (wipeS s vs) (wipe σ vs) := ⟨S1.1, fun j v e => let ⟨w, e1, q⟩ := S1.2 j v e; ⟨w, e1, (ev3.laterD nD).va q⟩⟩
    rw [List.drop_eq_getElem_cons hlt] at P2
    rw [compL] at P2
    refine hg _ _ _ _ ⟨base ++ [D], α2, wipeS s vs, h2, xs[i], R3, SW, q3, ?_⟩
    split at P2
    case h_2 => exact P2.elim
    rename_i s3 e3
    try rw [e3]
    refine fun σ3 o3 S3 => ⟨?_, ?_⟩
    · rw [wipe_same o3 hs, wipe_wipe]
    · have eD3 : H3 D = some (.lst accV) := ev.keep D _ eD fun m => R2.disO D m mD
      split at P2
      · rename_i h4 e4
        refine ht _ _ _ ⟨base ++ [D], α2, s3, h2, R3, S3, Pst.get e4 fun α4 b H4 x4 R4 q4 => ?_⟩
        have q4 : true = b := q4
        subst q4
        rw [if_pos rfl]
        split at P2
        · rename_i v5 h50 e5
          split at P2
          case h_2 => exact P2.elim
          rename_i p h5 e6
          refine he _ _ _ ⟨base ++ [D], α4, s3, h4, R4, x4.sl S3, Pst.get e5 fun α5 y5 H5 x50 R50 q50 => ?_⟩
          obtain ⟨R5, x51, _, q5⟩ := give_ok _ _ _ _ _ _ _ _ _ e6 R50 q50
          have x5 := x50.trans x51
          have eD5 : H5 D = some (.lst accV) := (x4.trans x5).keep D _ eD3 fun m => R3.disO D m mD
          refine ⟨accV, eD5, by rw [el, sizeLine_eq]; omega, ?_⟩
          obtain ⟨R6, l6⟩ := R5.wr (o := .lst (accV ++ [y5])) mD
          refine ⟨α5, h5, acc ++ [p], accV ++ [y5], R6, (ev3.trans (x4.trans x5)).upd nD, upd_same, by rw [List.length_append, List.length_append, el]; rfl, by rw [List.length_append]; simp; omega, ?_, P2⟩
          exact RepPs.append (RepPs.mono l6.mono (RepPs.mono ((ev.trans (x4.trans x5)).later (base := base ++ [D])).mono rp)) (.one (RepP.mono l6.mono q5))
        · exact P2.elim
      · rename_i h4 e4
        refine ht _ _ _ ⟨base ++ [D], α2, s3, h2, R3, S3, Pst.get e4 fun α4 b H4 x4 R4 q4 => ?_⟩
        have q4 : false = b := q4
        subst q4
        rw [if_neg (by decide)]
        have eD4 : H4 D = some (.lst accV) := x4.keep D _ eD3 fun m => R3.disO D m mD
        exact ⟨α4, h4, acc, accV, R4, ev3.trans x4, eD4, el, by omega, RepPs.mono ((ev.trans x4).later (base := base ++ [D])).mono rp, P2⟩
      · exact P2.elim
  · have e0 : i = xs.length := by omega
    subst e0
    rw [List.drop_length] at P2
    refine .inl ⟨hJ.stop _ _ _ lt, ?_⟩
    have P2 : Pst (gx X) E base α1 h1 H1 (rV (gx X)) (.ok (.ref h2.length) (h2 ++ [.lst (acc.map .pv)])) Q := P2
    have nb : D ∉ base := fun z => R1.bas D z nD
    obtain ⟨R4, oe⟩ := R2.adopt nb eD rp
    refine P2 (α2 ++ [D]) (.ref D) H2 ⟨?_, ev2.keep, fun a m => ?_⟩ R4 ⟨D, by rw [← R2.len]; simp, rfl⟩
    · obtain ⟨β, eb⟩ := ev2.ext
      exact ⟨β ++ [D], by rw [eb, List.append_assoc]⟩
    · rw [oe] at m
      rcases List.mem_append.mp m with m | m
      · exact ev2.ownm a m
      · rw [List.mem_singleton.mp m]; exact .inr nD

theorem se_compM {vs : List Nat} (hc : X.calm = true) (hN : X.N.Nodup) (hi : SI X E tg it da) (ok : BlkOk X.N X.env.scope scope own') (hg : Blks X scope fun Y => STg Y tg t) (ht : Blks X scope fun Y => PTs Y ifs (tG (gx Y) noE rB c)) (he : Blks X scope fun Y => SE Y noE elt d)
    (hs : ∀ x, foldedSetIterable it X.env x = pure x) (hv : own'.map (·.2) = vs) (hsl : ∀ i ∈ t.slots, i ∈ vs) : SE X E (.ListComp elt [⟨tg, it, ifs, 0⟩] scope pos) (dThaw (dComp da vs t c d)) := by
  subst hv
  refine PE.imp (pe_lc (g := rdG (gx X) t) (tt := tG (gx X) noE rB c) (te := tG (gx X) noE (rV (gx X)) d) hc hN hi ok hg ht he hs) (comp_rdM (fun _ _ _ q => q) (fun _ _ _ _ q => q) (fun _ _ _ q => q) (fun _ _ _ q => q) hsl)
theorem ss_setCompM {vs : List Nat} {i : Nat} {y : Str} {py spos : Pos} (hc : X.calm = true) (hN : X.N.Nodup) (hy : X.N[i]? = some y) (hyl : X.env.scope.names.lookup y = some .local) (hsw : swapsWith (.ListComp elt [⟨tg, it, ifs, 0⟩] scope pos) (some (.Name y py)) spos.line X.env = pure true)
    (hi : SI X E tg it da) (ok : BlkOk X.N X.env.scope scope own') (hg : Blks X scope fun Y => STg Y tg t) (ht : Blks X scope fun Y => PTs Y ifs (tG (gx Y) noE rB c)) (he : Blks X scope fun Y => SE Y noE elt d)
    (hs : ∀ x, foldedSetIterable it X.env x = pure x) (hv : own'.map (·.2) = vs) (hsl : ∀ i ∈ t.slots, i ∈ vs) : SS X E (.Assign [.Name y py] (.ListComp elt [⟨tg, it, ifs, 0⟩] scope pos) spos) (sAsg (gNm i) (dThaw (dComp da vs t c d))) := by
  subst hv
  refine PS.imp (ps_setLc (g := rdG (gx X) t) (tt := tG (gx X) noE rB c) (te := tG (gx X) noE (rV (gx X)) d) hc hN hy hyl hsw hi ok hg ht he hs) fun D σ H q => ?_
  have q2 := asg_rd (X := X) (g := gName i) (fun u σ H Q ⟨base, α, s, h, v, R, S, q, P⟩ => P _ same_set (S.set i q)) D σ H q
  exact comp_rdM (fun _ _ _ q => q) (fun _ _ _ _ q => q) (fun _ _ _ q => q) (fun _ _ _ q => q) hsl σ H _ q2
end

/-! ### o[i] += e, o a list of ints -/
def rGetL (K : PySem.W.Frag) : V → V → Hp → VK → Prop := fun o i H Q => ∃ p xs k v, o = .ref p ∧ i = .int k ∧ SqL K H p xs ∧ 0 ≤ k ∧ xs[k.toNat]? = some v ∧ Q v H
section
variable {X : Cx} {E : XK}
theorem get_listP : PGet X (rGetL X.K) := by
  intro pins s σ H o i ov iv Q I ro ri h
  obtain ⟨p, xs, k, v, rfl, rfl, hq, h0, he, q⟩ := h
  cases ro
  obtain ⟨t, rfl⟩ := ri
  obtain ⟨its, r, pl, hz⟩ := I.list hq
  obtain ⟨w, ew, rw'⟩ := r.get he
  have hk : k.toNat < xs.length := (List.getElem?_eq_some_iff.mp he).1
  have hn := line63
  refine wpAny_getItem_list pl.isList h0 ?_ (by simpa using ew) ⟨v, H, I, rw', q⟩
  omega
def intOf : Va → Option Int
  | .pv (.int i) => some i
  | _ => none
theorem intOf_ok {x : Va} {i : Int} (h : intOf x = some i) : x = .pv (.int i) := by
  unfold intOf at h
  split at h
  · cases h; rfl
  · cases h
def sAddI (o i d : Dn) : Sn := fun s h => sBind (o s h) fun x h1 => sBind (i s h1) fun y h2 => match x, intOf y with
  | .ref r, some k => match h2[r]? with
    | some (.lst xs) => match (xs[k.toNat]?).bind intOf with
      | some a => if 0 ≤ k then sBind (d s h2) fun z h3 => match intOf z with
          | some b => match oSetL x y (.pv (.int (a + b))) h3 with
            | some h4 => .nx s h4
            | none => .stuck
          | none => .stuck
        else .stuck
      | none => .stuck
    | _ => .stuck
  | _, _ => .stuck
theorem ss_addI {eo ei e : Expr} {d o i : Dn} {p pos : Pos} (hp : plainI ei = true) (ho : SE X E eo o) (hi : SE X E ei i) (he : SE X E e d) : SS X E (.AugAssign (.Subscript eo ei p) .Add e pos) (sAddI o i d) := by
  refine PS.imp (ps_augS ho hi (get_listP (X := X)) he ip_add set_list ?_) fun D σ H ⟨base, α, s, h, R, S, P⟩ => ?_
  · intros
    cases ei <;> first | rfl | cases hp
  refine ⟨base, α, s, h, R, S, PstS.bind P fun x h1 α1 u1 H1 x1 R1 q1 P1 => ?_⟩
  refine ⟨base, α1, s, h1, R1, x1.sl S, PstS.bind P1 fun y h2 α2 u2 H2 x2 R2 q2 P2 => ?_⟩
  split at P2
  · rename_i r k hk
    split at P2
    · rename_i xs hx
      split at P2
      · rename_i a ha
        split at P2
        · rename_i h0
          obtain ⟨va, e1, e2⟩ := Option.bind_eq_some_iff.mp ha
          have q1' := x2.va (base := base) q1
          obtain ⟨ad, ea, rfl⟩ := id q1'
          obtain ⟨vs, eH, qs⟩ := R2.obs _ _ _ ea hx
          obtain ⟨w, ew, qw⟩ := qs.get e1
          rw [intOf_ok e2] at qw
          rw [rv_int.mp qw] at ew
          have hy := q2
          rw [intOf_ok hk] at hy
          refine ⟨ad, vs, k, .int a, rfl, rv_int.mp hy, SqL.of eH, h0, ew, ?_⟩
          refine ⟨base, α2, s, h2, R2, x2.sl (x1.sl S), PstS.bind P2 fun z h3 α3 u3 H3 x3 R3 q3 P3 => ?_⟩
          split at P3
          · rename_i b hb
            have hz := q3
            rw [intOf_ok hb] at hz
            refine ⟨a, b, rfl, rv_int.mp hz, ?_⟩
            split at P3
            · rename_i h4 e4
              exact setL_rd R3 (x3.va q1') (x3.va q2) (rv_int.mpr rfl) e4 fun H4 ev R4 => P3 α3 σ H4 ev R4 ((x3.trans ev).sl (x2.sl (x1.sl S)))
            · exact P3.elim
          · exact P3.elim
        · exact P2.elim
      · exact P2.elim
    · exact P2.elim
  · exact P2.elim
end
end CI
namespace ZS
open PySem
open PySem.Sem (wp)
/-! zip(a, b, strict=True) of lists and tuples of one length -/
abbrev IsZipS (h : Heap) (z TI TO : Addr) (f0 : Value) : Prop :=
  h.get? z = some { cls := .type "zip", dict := none, data := .fields #[f0, .bool false, .bool true, .ref TI, .ref TO], slots := #[] }
/-- an iterator over a tuple (true), over a list (false) -/
def CurB (b : Bool) (h : Heap) (it a : Addr) (i : Nat) : Prop := match b with
  | true => h.IsTupleIter it a i
  | false => h.IsListIter it a i
def HasB (b : Bool) (h : Heap) (a : Addr) (xs : Array Value) : Prop := match b with
  | true => h.IsTuple a xs
  | false => h.IsList a xs
theorem CurB.extBut {b : Bool} {h h' : Heap} {a c t i} (x : CurB b h a t i) (hs : Heap.ExtBut c h h') (hac : a ≠ c) : CurB b h' a t i := by
  cases b
  · exact Heap.IsListIter.extBut x hs hac
  · exact Heap.IsTupleIter.extBut x hs hac
theorem HasB.extBut {b : Bool} {h h' : Heap} {a c xs} (x : HasB b h a xs) (hs : Heap.ExtBut c h h') (hac : a ≠ c) : HasB b h' a xs := by
  cases b
  · exact Heap.IsList.extBut x hs hac
  · obtain ⟨o, ho, r⟩ := x
    exact ⟨o, hs _ _ hac ho, r⟩
theorem CurB.at {b : Bool} {h h' : Heap} {a t i} (x : CurB b h a t i) (e : ∀ o, h.get? a = some o → h'.get? a = some o) : CurB b h' a t i := by
  cases b
  · exact Heap.IsListIter.at x e
  · exact Heap.IsTupleIter.at x e
theorem CurB.obj {b : Bool} {h : Heap} {a t i} (x : CurB b h a t i) : ∃ o, h.get? a = some o ∧ o.data = .fields #[.ref t, .int i 0] := by
  cases b <;> obtain ⟨o, ho, _, hd⟩ := x <;> exact ⟨o, ho, hd⟩
section
variable {prog : Program} {w : World} {A : Around} {E : Value → Shared → Prop} {s : Shared}
theorem nextOf_item {b : Bool} {it l : Addr} {i : Nat} {items} {x : Value} {Q : Value → Shared → Prop} (hit : CurB b s.heap it l i) (hl : HasB b s.heap l items) (hx : items[i]? = some x)
    (hQ : ∀ h', CurB b h' it l (i + 1) → Heap.SameBut it s.heap h' → Q x { s with heap := h' }) : wpAny (model prog w) A (Builtin.SmallTypes.nextOf (.ref it)) Q E s := by
  cases b
  · exact wpAny_nextOf_list_item hit hl hx hQ
  · exact RZ.nextOf_tuple_item hit hl hx hQ
theorem nextOf_end {b : Bool} {it l : Addr} {i : Nat} {items} {Q : Value → Shared → Prop} (hh : A.handled = none) (hit : CurB b s.heap it l i) (hl : HasB b s.heap l items) (hx : items[i]? = none)
    (hE : ∀ h' e, Heap.ExtBut it s.heap h' → (∃ o, h'.get? e = some o ∧ o.cls = .type "StopIteration") → E (.ref e) { s with heap := h' }) : wpAny (model prog w) A (Builtin.SmallTypes.nextOf (.ref it)) Q E s := by
  cases b
  · exact wpAny_nextOf_list_end hh hit hl hx hE
  · exact RZ.nextOf_tuple_end hh hit hl hx hE
theorem nextOrEnd_item {b : Bool} {it l : Addr} {i : Nat} {items} {x : Value} {Q : Option Value → Shared → Prop} (hit : CurB b s.heap it l i) (hl : HasB b s.heap l items) (hx : items[i]? = some x)
    (hQ : ∀ h', CurB b h' it l (i + 1) → Heap.SameBut it s.heap h' → Q (some x) { s with heap := h' }) : wpAny (model prog w) A (Builtin.SmallTypes.nextOrEnd (.ref it)) Q E s := by
  unfold Builtin.SmallTypes.nextOrEnd
  exact wpAny_bind (wpAny_attempt (nextOf_item hit hl hx fun h' a1 a2 => wpAny_pure (hQ h' a1 a2)))
theorem nextOrEnd_end {b : Bool} {it l : Addr} {i : Nat} {items} {Q : Option Value → Shared → Prop} (hh : A.handled = none) (hit : CurB b s.heap it l i) (hl : HasB b s.heap l items) (hx : items[i]? = none)
    (hQ : ∀ h', Heap.ExtBut it s.heap h' → Q none { s with heap := h' }) : wpAny (model prog w) A (Builtin.SmallTypes.nextOrEnd (.ref it)) Q E s := by
  unfold Builtin.SmallTypes.nextOrEnd
  refine wpAny_bind (wpAny_attempt (nextOf_end hh hit hl hx fun h' e a1 he => ?_))
  obtain ⟨o, ho, hc⟩ := he
  refine wpAny_bind (wpAny_isInstance (T := "StopIteration") (b := true) ⟨o, ho, hc⟩ isSubtype_stop ?_)
  exact wpAny_pure (hQ _ a1)
theorem stop_ {α : Type} {Q : α → Shared → Prop} (hh : A.handled = none) (hE : ∀ h' e, (∀ c o, s.heap.get? c = some o → h'.get? c = some o) → (∃ o, h'.get? e = some o ∧ o.cls = .type "StopIteration") → E (.ref e) { s with heap := h' }) :
    wpAny (model prog w) A (Builtin.SmallTypes.stopIteration : Sem α) Q E s := by
  show wpAny _ _ (newExc (.type "StopIteration") [] >>= _) _ _ _
  refine wpAny_bind ?_
  simp only [newExc, newTuple]
  refine wpAny_bind (wpAny_newObj_type ?_ (by size_fits))
  refine wpAny_bind (m := firstArgMember _ _) (wpAny_of_eq (a := Value.none) (by first | rfl | (simp only [firstArgMember]; rfl)) ?_)
  refine wpAny_newObj_type ?_ (by size_fits)
  simp only [raiseNew]
  refine wpAny_bind (wpAny_handled ?_)
  first | rw [show A.in1.handled = none from hh] | rw [hh]
  refine wpAny_bind (wpAny_pure (wpAny_throw ?_))
  exact hE _ _ (fun c o e => Heap.get?_push_of_some _ (Heap.get?_push_of_some _ e)) ⟨_, Heap.get?_push_size _ rfl, rfl⟩
theorem zipS_next_item {b1 b2 : Bool} {z TI TO i1 i2 l1 l2 : Addr} {k1 k2 : Nat} {xs ys : Array Value} {x y a b : Value} {Q : Value → Shared → Prop} (D : ZipApart z TI TO i1 i2 l1 l2)
    (hz : IsZipS s.heap z TI TO .none) (hTI : IsPair s.heap TI (.ref i1) (.ref i2)) (hTO : IsPair s.heap TO a b)
    (h1 : CurB b1 s.heap i1 l1 k1) (h2 : CurB b2 s.heap i2 l2 k2) (hl1 : HasB b1 s.heap l1 xs) (hl2 : HasB b2 s.heap l2 ys) (hx : xs[k1]? = some x) (hy : ys[k2]? = some y)
    (hQ : ∀ h', IsZipS h' z TI TO (rawInt s.heap.objs.size) → IsPair h' TO x y → CurB b1 h' i1 l1 (k1 + 1) → CurB b2 h' i2 l2 (k2 + 1) → IsPair h' s.heap.objs.size x y → h'.objs.size = s.heap.objs.size + 1 →
      (∀ c o, c ≠ z → c ≠ TO → c ≠ i1 → c ≠ i2 → s.heap.get? c = some o → h'.get? c = some o) → Q (.ref s.heap.objs.size) { s with heap := h' }) :
    wpAny (model prog w) A (Builtin.«zip.__next__» ⟨[.ref z], []⟩) (fun fin s' => ∃ v, fin = .done (.ret v) ∧ Q v s') E s := by
  show wpAny _ _ (field (.ref z) 2 >>= _) _ _ _
  refine wpAny_bind (wpAny_field hz rfl (x := .bool true) rfl ?_)
  show wpAny _ _ (field (.ref z) 3 >>= _) _ _ _
  refine wpAny_bind (wpAny_field hz rfl (x := .ref TI) rfl ?_)
  refine wpAny_bind (wpAny_seqItems hTI rfl ?_)
  show wpAny _ _ (Builtin.SmallTypes.ownedTupleIsFree (.ref z) >>= _) _ _ _
  refine wpAny_bind ?_
  unfold Builtin.SmallTypes.ownedTupleIsFree
  refine wpAny_bind (wpAny_field hz rfl (x := .none) rfl (wpAny_pure ?_))
  simp only [if_true]
  refine wpAny_bind (wpAny_rule ?_)
  refine wpAny_bind (wpAny_field hz rfl (x := .ref TO) rfl ?_)
  refine wpAny_bind (wpAny_setField_rec hz (by simp) fun h₁ hz₁ hs₁ => ?_)
  replace hz₁ : IsZipS h₁ z TI TO .ellipsis := hz₁
  refine wpAny_bind ?_
  simp only [List.zipIdx_cons, List.zipIdx_nil, List.forIn_cons, List.forIn_nil]

  refine wpAny_bind (wpAny_bind (wpAny_onRaise ?_))
  show wpAny _ _ (Builtin.SmallTypes.nextOrEnd (.ref i1)) _ _ _
  refine nextOrEnd_item (h1.extBut hs₁.extBut D.i1z) (hl1.extBut hs₁.extBut D.l1z) hx fun h₂ h1₂ hs₂ => ?_
  have hTO₂ : IsPair h₂ TO a b := hs₂.extBut _ _ D.TOi1 (hs₁.extBut _ _ D.TOz hTO)
  refine wpAny_bind (wpAny_seqItems hTO₂ rfl ?_)
  refine wpAny_bind (wpAny_updateSeq_pair hTO₂ fun h₃ hTO₃ hs₃ => ?_)
  replace hTO₃ : IsPair h₃ TO x b := hTO₃
  refine wpAny_bind (wpAny_letGo (wpAny_pure ?_))

  refine wpAny_bind (wpAny_bind (wpAny_onRaise ?_))
  show wpAny _ _ (Builtin.SmallTypes.nextOrEnd (.ref i2)) _ _ _
  refine nextOrEnd_item (((h2.extBut hs₁.extBut D.i2z).extBut hs₂.extBut D.i12.symm).extBut hs₃.extBut D.TOi2.symm)
    (((hl2.extBut hs₁.extBut D.l2z).extBut hs₂.extBut D.l2i1).extBut hs₃.extBut D.l2TO) hy fun h₄ h2₄ hs₄ => ?_
  have hTO₄ : IsPair h₄ TO x b := hs₄.extBut _ _ D.TOi2 hTO₃
  refine wpAny_bind (wpAny_seqItems hTO₄ rfl ?_)
  refine wpAny_bind (wpAny_updateSeq_pair hTO₄ fun h₅ hTO₅ hs₅ => ?_)
  replace hTO₅ : IsPair h₅ TO x y := hTO₅
  refine wpAny_bind (wpAny_letGo (wpAny_pure (wpAny_pure ?_)))

  refine wpAny_bind (wpAny_seqItems hTO₅ rfl ?_)
  refine wpAny_bind (wpAny_newTuple ?_)
  have hsz : h₅.objs.size = s.heap.objs.size := by rw [hs₅.1, hs₄.1, hs₃.1, hs₂.1, hs₁.1]
  have hz₅ : IsZipS h₅ z TI TO .ellipsis := hs₅.extBut _ _ D.TOz.symm (hs₄.extBut _ _ D.i2z.symm (hs₃.extBut _ _ D.TOz.symm (hs₂.extBut _ _ D.i1z.symm hz₁)))
  have hk₅ : ∀ c o, c ≠ z → c ≠ TO → c ≠ i1 → c ≠ i2 → s.heap.get? c = some o → h₅.get? c = some o := fun c o c1 c2 c3 c4 e =>
    hs₅.extBut _ _ c2 (hs₄.extBut _ _ c4 (hs₃.extBut _ _ c2 (hs₂.extBut _ _ c3 (hs₁.extBut _ _ c1 e))))
  have h1₅ : CurB b1 h₅ i1 l1 (k1 + 1) := ((h1₂.extBut hs₃.extBut D.TOi1.symm).extBut hs₄.extBut D.i12).extBut hs₅.extBut D.TOi1.symm
  have h2₅ : CurB b2 h₅ i2 l2 (k2 + 1) := h2₄.extBut hs₅.extBut D.TOi2.symm
  have hzlt : z < h₅.objs.size := Heap.lt_size hz₅
  show wpAny _ _ (Builtin.SmallTypes.ownedTupleHandOut (.ref z) (.ref h₅.objs.size) >>= _) _ _ _
  refine wpAny_bind ?_
  unfold Builtin.SmallTypes.ownedTupleHandOut
  have hz₆ : IsZipS (h₅.push { cls := .type "tuple", data := .seq #[x, y] }) z TI TO .ellipsis := Heap.get?_push_of_some _ hz₅
  refine wpAny_bind (wpAny_setField_rec hz₆ (by simp) fun h₇ hz₇ hs₇ => ?_)
  replace hz₇ : IsZipS h₇ z TI TO (rawInt h₅.objs.size) := hz₇
  refine wpAny_setField_rec hz₇ (by simp) fun h₈ hz₈ hs₈ => ?_
  replace hz₈ : IsZipS h₈ z TI TO (rawInt h₅.objs.size) := hz₈
  have up : ∀ c o, c ≠ z → h₅.get? c = some o → h₈.get? c = some o := fun c o c1 e => hs₈.extBut _ _ c1 (hs₇.extBut _ _ c1 (Heap.get?_push_of_some _ e))
  have hT₈ : IsPair h₈ h₅.objs.size x y := hs₈.extBut _ _ (Nat.ne_of_gt hzlt) (hs₇.extBut _ _ (Nat.ne_of_gt hzlt) (Heap.get?_push_size _ rfl))
  have hz8 : h₈.objs.size = h₅.objs.size + 1 := by rw [hs₈.1, hs₇.1, Heap.size_push]
  rw [hsz] at hz₈ hT₈ hz8
  refine wpAny_pure ⟨_, rfl, ?_⟩
  show Q (.ref h₅.objs.size) _
  rw [hsz]
  exact hQ h₈ hz₈ (up _ _ D.TOz hTO₅) (h1₅.at fun o e => up _ o D.i1z e) (h2₅.at fun o e => up _ o D.i2z e) hT₈ hz8 fun c o c1 c2 c3 c4 e => up c o c1 (hk₅ c o c1 c2 c3 c4 e)
theorem zipS_next_end {b1 b2 : Bool} {z TI TO i1 i2 l1 l2 : Addr} {k1 k2 : Nat} {xs ys : Array Value} {a b : Value} {Q : Fin → Shared → Prop} (hh : A.handled = none) (D : ZipApart z TI TO i1 i2 l1 l2)
    (hz : IsZipS s.heap z TI TO .none) (hTI : IsPair s.heap TI (.ref i1) (.ref i2)) (hTO : IsPair s.heap TO a b)
    (h1 : CurB b1 s.heap i1 l1 k1) (h2 : CurB b2 s.heap i2 l2 k2) (hl1 : HasB b1 s.heap l1 xs) (hl2 : HasB b2 s.heap l2 ys) (hx : xs[k1]? = none) (hy : ys[k2]? = none)
    (hE : ∀ h' e, (∀ c o, c ≠ z → c ≠ TO → c ≠ i1 → c ≠ i2 → s.heap.get? c = some o → h'.get? c = some o) → (∃ o, h'.get? e = some o ∧ o.cls = .type "StopIteration") → E (.ref e) { s with heap := h' }) :
    wpAny (model prog w) A (Builtin.«zip.__next__» ⟨[.ref z], []⟩) Q E s := by
  show wpAny _ _ (field (.ref z) 2 >>= _) _ _ _
  refine wpAny_bind (wpAny_field hz rfl (x := .bool true) rfl ?_)
  show wpAny _ _ (field (.ref z) 3 >>= _) _ _ _
  refine wpAny_bind (wpAny_field hz rfl (x := .ref TI) rfl ?_)
  refine wpAny_bind (wpAny_seqItems hTI rfl ?_)
  show wpAny _ _ (Builtin.SmallTypes.ownedTupleIsFree (.ref z) >>= _) _ _ _
  refine wpAny_bind ?_
  unfold Builtin.SmallTypes.ownedTupleIsFree
  refine wpAny_bind (wpAny_field hz rfl (x := .none) rfl (wpAny_pure ?_))
  simp only [if_true]
  refine wpAny_bind (wpAny_rule ?_)
  refine wpAny_bind (wpAny_field hz rfl (x := .ref TO) rfl ?_)
  refine wpAny_bind (wpAny_setField_rec hz (by simp) fun h₁ hz₁ hs₁ => ?_)
  replace hz₁ : IsZipS h₁ z TI TO .ellipsis := hz₁
  refine wpAny_bind ?_
  simp only [List.zipIdx_cons, List.zipIdx_nil, List.forIn_cons, List.forIn_nil]
  refine wpAny_bind (wpAny_bind (wpAny_onRaise ?_))
  show wpAny _ _ (Builtin.SmallTypes.nextOrEnd (.ref i1)) _ _ _
  refine nextOrEnd_end hh (h1.extBut hs₁.extBut D.i1z) (hl1.extBut hs₁.extBut D.l1z) hx fun h₂ hs₂ => ?_
  have hz₂ : IsZipS h₂ z TI TO .ellipsis := hs₂ _ _ D.i1z.symm hz₁
  refine wpAny_bind (wpAny_setField_rec hz₂ (by simp) fun h₃ hz₃ hs₃ => ?_)
  refine wpAny_bind ?_
  refine wpAny_bind ?_
  show wpAny _ _ (forIn [(Value.ref i2, 1)] PUnit.unit _) _ _ _
  rw [List.forIn_cons]
  refine wpAny_bind (wpAny_bind (nextOrEnd_end hh (((h2.extBut hs₁.extBut D.i2z).extBut hs₂ D.i12.symm).extBut hs₃.extBut D.i2z) (((hl2.extBut hs₁.extBut D.l2z).extBut hs₂ D.l2i1).extBut hs₃.extBut D.l2z) hy fun h₄ hs₄ => ?_))
  refine wpAny_pure ?_
  show wpAny _ _ (forIn [] PUnit.unit _) _ _ _
  rw [List.forIn_nil]
  refine wpAny_pure ?_
  refine wpAny_bind (wpAny_rule ?_)
  exact stop_ hh fun h₅ e hk he => hE h₅ e (fun c o c1 c2 c3 c4 x => hk c o (hs₄ _ _ c4 (hs₃.extBut _ _ c1 (hs₂ _ _ c3 (hs₁.extBut _ _ c1 x))))) he
theorem pyNext_item {b1 b2 : Bool} {z TI TO i1 i2 l1 l2 : Addr} {k1 k2 : Nat} {xs ys : Array Value} {x y a b : Value} {Q : Option Value → Shared → Prop} (D : ZipApart z TI TO i1 i2 l1 l2)
    (hz : IsZipS s.heap z TI TO .none) (hTI : IsPair s.heap TI (.ref i1) (.ref i2)) (hTO : IsPair s.heap TO a b)
    (h1 : CurB b1 s.heap i1 l1 k1) (h2 : CurB b2 s.heap i2 l2 k2) (hl1 : HasB b1 s.heap l1 xs) (hl2 : HasB b2 s.heap l2 ys) (hx : xs[k1]? = some x) (hy : ys[k2]? = some y)
    (hQ : ∀ h', IsZipS h' z TI TO (rawInt s.heap.objs.size) → IsPair h' TO x y → CurB b1 h' i1 l1 (k1 + 1) → CurB b2 h' i2 l2 (k2 + 1) → IsPair h' s.heap.objs.size x y → h'.objs.size = s.heap.objs.size + 1 →
      (∀ c o, c ≠ z → c ≠ TO → c ≠ i1 → c ≠ i2 → s.heap.get? c = some o → h'.get? c = some o) → Q (some (.ref s.heap.objs.size)) { s with heap := h' }) :
    wpAny (model prog w) A (pyNext (.ref z)) Q E s := by
  have hT : s.TypeIs (.ref z) "zip" := ⟨_, hz, rfl⟩
  unfold pyNext
  exact wpAny_bind (wpAny_attempt (wpAny_callSpecial?_slot (name := Str.ofString "__next__") hT F.slot_zip_next
    (wpAny_call_entry F.slot_zip_next hT F.entry_zip_next
      (zipS_next_item D hz hTI hTO h1 h2 hl1 hl2 hx hy fun h' a1 a2 a3 a4 a5 a6 a7 => wpAny_pure (hQ h' a1 a2 a3 a4 a5 a6 a7)) (F.args_zip_next_1 _))))
theorem pyNext_end {b1 b2 : Bool} {z TI TO i1 i2 l1 l2 : Addr} {k1 k2 : Nat} {xs ys : Array Value} {a b : Value} {Q : Option Value → Shared → Prop} (hh : A.handled = none) (D : ZipApart z TI TO i1 i2 l1 l2)
    (hz : IsZipS s.heap z TI TO .none) (hTI : IsPair s.heap TI (.ref i1) (.ref i2)) (hTO : IsPair s.heap TO a b)
    (h1 : CurB b1 s.heap i1 l1 k1) (h2 : CurB b2 s.heap i2 l2 k2) (hl1 : HasB b1 s.heap l1 xs) (hl2 : HasB b2 s.heap l2 ys) (hx : xs[k1]? = none) (hy : ys[k2]? = none)
    (hQ : ∀ h', (∀ c o, c ≠ z → c ≠ TO → c ≠ i1 → c ≠ i2 → s.heap.get? c = some o → h'.get? c = some o) → Q none { s with heap := h' }) : wpAny (model prog w) A (pyNext (.ref z)) Q E s := by
  have hT : s.TypeIs (.ref z) "zip" := ⟨_, hz, rfl⟩
  unfold pyNext
  refine wpAny_bind (wpAny_attempt (wpAny_callSpecial?_slot (name := Str.ofString "__next__") hT F.slot_zip_next
    (wpAny_call_entry F.slot_zip_next hT F.entry_zip_next (zipS_next_end hh D hz hTI hTO h1 h2 hl1 hl2 hx hy fun h' e hk he => ?_) (F.args_zip_next_1 _))))
  obtain ⟨o, ho, hc⟩ := he
  refine wpAny_bind (wpAny_isInstance (T := "StopIteration") (b := true) ⟨o, ho, hc⟩ isSubtype_stop ?_)
  exact wpAny_pure (hQ _ hk)
theorem letGo_ {elts : List Expr} {x1} {pos : Pos} {z TI TO T : Addr} {Q : Unit → Shared → Prop} (hz : IsZipS s.heap z TI TO (rawInt T))
    (hQ : ∀ h', IsZipS h' z TI TO .none → Heap.SameBut z s.heap h' → Q () { s with heap := h' }) :
    wpAny (model prog w) A (letOwnedTupleGo (.Tuple elts x1 pos) (.ref z) (.ref T)) Q E s := by
  unfold letOwnedTupleGo
  refine wpAny_bind (wpAny_load hz ?_)
  show wpAny _ _ (if (["enumerate", "zip", "dict_itemiterator", "dict_reverseitemiterator", "odict_iterator", "itertools.zip_longest", "itertools.pairwise"].contains "zip" &&
      (#[rawInt T, .bool false, .bool true, .ref TI, .ref TO] : Array Value)[0]? == some (rawInt T)) = true then _ else _) Q E s
  rw [if_pos (by simp)]
  refine wpAny_bind (wpAny_rule ?_)
  show wpAny _ _ (setField (.ref z) 0 .none) Q E s
  exact wpAny_setField_rec hz (by simp) fun h' hz' hs' => hQ h' hz' hs'
theorem pyIter_ {z TI TO : Addr} {f0 : Value} {Q : Value → Shared → Prop} (hz : IsZipS s.heap z TI TO f0) (h : Q (.ref z) s) : wpAny (model prog w) A (pyIter (.ref z)) Q E s := by
  have hT : s.TypeIs (.ref z) "zip" := ⟨_, hz, rfl⟩
  refine wpAny_pyIter_slot hT F.slot_zip_iter (wpAny_call_entry F.slot_zip_iter hT F.entry_zip_iter ?_ (F.args_zip_iter_1 _))
  show wpAny _ _ (ret (.ref z)) _ _ s
  exact wpAny_pure ⟨_, rfl, "zip", _, hT, F.slot_zip_next.lookup, h⟩
end
/-! the call -/
theorem typeCall_s (a b : Value) : checkTypeCall "zip" ⟨[a, b], [(("strict" : Str), .bool true)]⟩ = pure () := by kernel_rfl
theorem newCall_s (a b : Value) : checkBuiltinCall "zip.__new__" ⟨[.type "zip", a, b], [(("strict" : Str), .bool true)]⟩ = pure () := by kernel_rfl
theorem args_init_s (a b c : Value) : argsOk "object.__init__" ⟨[a, b, c], [(("strict" : Str), .bool true)]⟩ := by
  unfold argsOk; rw [signature?_of (id := "object.__init__") (n := ['_', '_', 't', 'i', 'n', 'i', '_', '_']) (o := ['t', 'c', 'e', 'j', 'b', 'o']) (by kernel_rfl) F.owner_object]; kernel_rfl
def cls (b : Bool) : String := match b with
  | true => "tuple_iterator"
  | false => "list_iterator"
abbrev zH1 (b1 : Bool) (h : Heap) (l1 : Addr) : Heap := h.push { cls := .type (cls b1), data := .fields #[.ref l1, .int 0 0] }
abbrev zH2 (b1 b2 : Bool) (h : Heap) (l1 l2 : Addr) : Heap := (zH1 b1 h l1).push { cls := .type (cls b2), data := .fields #[.ref l2, .int 0 0] }
abbrev zH3 (b1 b2 : Bool) (h : Heap) (l1 l2 : Addr) : Heap := (zH2 b1 b2 h l1 l2).push { cls := .type "tuple", data := .seq #[.ref h.objs.size, .ref (zH1 b1 h l1).objs.size] }
abbrev zH4 (b1 b2 : Bool) (h : Heap) (l1 l2 : Addr) : Heap := (zH3 b1 b2 h l1 l2).push { cls := .type "tuple", data := .seq #[.none, .none] }
abbrev zH5 (b1 b2 : Bool) (h : Heap) (l1 l2 : Addr) : Heap := (zH4 b1 b2 h l1 l2).push { cls := .type "zip", data := .fields #[.none, .bool false, .bool true, .ref (zH2 b1 b2 h l1 l2).objs.size, .ref (zH3 b1 b2 h l1 l2).objs.size] }
theorem meets_new (b1 b2 : Bool) (l1 l2 : Addr) (xs ys : Array Value) :
    Meets (Builtin.«zip.__new__» ⟨[.type "zip", .ref l1, .ref l2], [(("strict" : Str), .bool true)]⟩) (fun _ R s => HasB b1 s.heap l1 xs ∧ HasB b2 s.heap l2 ys ∧
      R (.ok (.ret (.ref (zH4 b1 b2 s.heap l1 l2).objs.size))) { s with heap := zH5 b1 b2 s.heap l1 l2 }) :=
  .of_wp fun prog w A R s h => by
    obtain ⟨hp, g, d, tk, os⟩ := s; obtain ⟨hl1, hl2, h⟩ := h
    have hsub := sub_zip
    cases b1 <;> cases b2
    · have hL1 : Heap.IsList (Shared.heap ⟨hp, g, d, tk, os⟩) l1 xs := hl1
      have hL2 : Heap.IsList (Shared.heap ⟨hp.push { cls := .type "list_iterator", data := .fields #[.ref l1, .int 0 0] }, g, d, tk, os⟩) l2 ys := Heap.IsList.push hl2 _
      wp_walk using wpAny_pyIter_list hL1, wpAny_pyIter_list hL2
      exact ⟨_, rfl, h⟩
    · have hL1 : Heap.IsList (Shared.heap ⟨hp, g, d, tk, os⟩) l1 xs := hl1
      have hL2 : Heap.IsTuple (Shared.heap ⟨hp.push { cls := .type "list_iterator", data := .fields #[.ref l1, .int 0 0] }, g, d, tk, os⟩) l2 ys := Heap.IsTuple.push hl2 _
      wp_walk using wpAny_pyIter_list hL1, wpAny_pyIter_tuple hL2
      exact ⟨_, rfl, h⟩
    · have hL1 : Heap.IsTuple (Shared.heap ⟨hp, g, d, tk, os⟩) l1 xs := hl1
      have hL2 : Heap.IsList (Shared.heap ⟨hp.push { cls := .type "tuple_iterator", data := .fields #[.ref l1, .int 0 0] }, g, d, tk, os⟩) l2 ys := Heap.IsList.push hl2 _
      wp_walk using wpAny_pyIter_tuple hL1, wpAny_pyIter_list hL2
      exact ⟨_, rfl, h⟩
    · have hL1 : Heap.IsTuple (Shared.heap ⟨hp, g, d, tk, os⟩) l1 xs := hl1
      have hL2 : Heap.IsTuple (Shared.heap ⟨hp.push { cls := .type "tuple_iterator", data := .fields #[.ref l1, .int 0 0] }, g, d, tk, os⟩) l2 ys := Heap.IsTuple.push hl2 _
      wp_walk using wpAny_pyIter_tuple hL1, wpAny_pyIter_tuple hL2
      exact ⟨_, rfl, h⟩
end ZS
namespace ZS
open PySem
open PySem.Sem (wp)
section
variable {prog : Program} {w : World} {A : Around} {E : Value → Shared → Prop} {s : Shared}
/-- a type called with keywords: its __new__ makes, object.__init__ lets it be -/
theorem call_type_kw {T newId : String} {Bn : Builtin} {args : List Value} {kw : List (Str × Value)} {S : Spec} {Q : Value → Shared → Prop} (ft : TypeCalled T newId "object.__init__")
    (hct : checkTypeCall T ⟨args, kw⟩ = pure ()) (hcn : checkBuiltinCall newId ⟨.type T :: args, kw⟩ = pure ())
    (entryN : entryFor table newId = some Bn) (g : Meets (Bn ⟨.type T :: args, kw⟩) S) (hok : ∀ obj, argsOk "object.__init__" ⟨obj :: args, kw⟩)
    (hi : ∀ obj, Meets (Builtin.«object.__init__» ⟨obj :: args, kw⟩) (fun _ R s => s.TypeIs obj T ∧ R (.ok (.ret .none)) s))
    (h : S A.in1 (wants (fun obj s₁ => s₁.TypeIs obj T ∧ Q obj s₁) E) s) :
    wpAny (model prog w) A (call (.type T) args kw) Q E s := by
  obtain ⟨c, tl, hmro⟩ := ft.mro
  have hmade := ft.made
  have hsub := ft.sub
  have wt : (Code.builtin "type.__call__" ⟨.type T :: args, kw⟩).weight = 0 := rfl
  have ut : (Code.builtin "type.__call__" ⟨.type T :: args, kw⟩).cUnits = 1 := rfl
  refine wpAny_call (codeAny_of_tree ?_)
  show wpAny _ _ (callAny (.type T) _) _ _ _
  refine wpAny_pure ⟨Code.quiet_builtin _ (by decide +kernel), codeAny_builtin F.entry_type_call ?_⟩
  rw [Around.under_plain wt ut]
  have h1 := ft.notType
  have h2 := ft.canCreate
  repeat (any_goals (first | assumption | wp_step))
  refine codeAny_mono (codeAny_call_builtin ft.plain entryN (wpAny_of_eq hcn (g prog w A.in1 _ s h))) fun r s₁ hr => ?_
  cases r with
  | error e => exact hr
  | ok fl =>
    cases fl with
    | ret obj =>
      obtain ⟨hT, hq⟩ := hr
      have hli := ft.init.lookup
      have hbi := ft.init.bind obj
      repeat (any_goals (first | assumption | wp_step))
      refine codeAny_mono (codeAny_call_builtin ft.init.plain F.entry_object_init (ft.init.check _ _ _ _ _ _ _ _ hT (hok obj) (hi obj prog w A.in1 (wants (fun r s₂ => r = .none ∧ Q obj s₂) E) s₁ ⟨hT, rfl, hq⟩))) fun r₂ s₂ hr₂ => ?_
      cases r₂ with
      | error e => exact hr₂
      | ok fl₂ =>
        cases fl₂ with
        | ret r =>
          obtain ⟨rfl, hq⟩ := hr₂
          repeat (any_goals (first | assumption | wp_step))
        | _ => exact hr₂.elim
    | _ => exact hr.elim
theorem init_kw {a b obj : Value} : Meets (Builtin.«object.__init__» ⟨[obj, a, b], [(("strict" : Str), .bool true)]⟩) (fun _ R s => s.TypeIs obj "zip" ∧ R (.ok (.ret .none)) s) := by
  have hl := F.called_zip.init.lookup
  have hm := F.called_zip.made
  have hne : (some "zip.__new__" != some "object.__new__") = true := by decide
  refine Meets.of_wp fun prog w A R s hs => ?_
  obtain ⟨hT, hq⟩ := hs
  repeat (any_goals (first | assumption | wp_step))
  exact ⟨_, rfl, hq⟩
theorem call_ {b1 b2 : Bool} {l1 l2 : Addr} {xs ys : Array Value} {Q : Value → Shared → Prop} (hl1 : HasB b1 s.heap l1 xs) (hl2 : HasB b2 s.heap l2 ys)
    (h : ∀ h', IsZipS h' (s.heap.objs.size + 4) (s.heap.objs.size + 2) (s.heap.objs.size + 3) .none → IsPair h' (s.heap.objs.size + 2) (.ref s.heap.objs.size) (.ref (s.heap.objs.size + 1)) →
      IsPair h' (s.heap.objs.size + 3) .none .none → CurB b1 h' s.heap.objs.size l1 0 → CurB b2 h' (s.heap.objs.size + 1) l2 0 → h'.objs.size = s.heap.objs.size + 5 →
      (∀ c o, s.heap.get? c = some o → h'.get? c = some o) → Q (.ref (s.heap.objs.size + 4)) { s with heap := h' }) :
    wpAny (model prog w) A (call (.type "zip") [.ref l1, .ref l2] [(("strict" : Str), .bool true)]) Q E s := by
  refine call_type_kw F.called_zip (typeCall_s _ _) (newCall_s _ _) F.entry_zip_new (meets_new b1 b2 l1 l2 xs ys) (fun obj => args_init_s obj _ _) (fun obj => init_kw) ⟨hl1, hl2, ?_⟩
  have z1 : (zH1 b1 s.heap l1).objs.size = s.heap.objs.size + 1 := Heap.size_push ..
  have z2 : (zH2 b1 b2 s.heap l1 l2).objs.size = s.heap.objs.size + 2 := by rw [Heap.size_push, z1]
  have z3 : (zH3 b1 b2 s.heap l1 l2).objs.size = s.heap.objs.size + 3 := by rw [Heap.size_push, z2]
  have z4 : (zH4 b1 b2 s.heap l1 l2).objs.size = s.heap.objs.size + 4 := by rw [Heap.size_push, z3]
  have z5 : (zH5 b1 b2 s.heap l1 l2).objs.size = s.heap.objs.size + 5 := by rw [Heap.size_push, z4]
  have g5 : (zH5 b1 b2 s.heap l1 l2).get? (zH4 b1 b2 s.heap l1 l2).objs.size = some _ := Heap.get?_push_size _ rfl
  have g4 : (zH5 b1 b2 s.heap l1 l2).get? (zH3 b1 b2 s.heap l1 l2).objs.size = some _ := Heap.get?_push_of_some _ (Heap.get?_push_size _ rfl)
  have g3 : (zH5 b1 b2 s.heap l1 l2).get? (zH2 b1 b2 s.heap l1 l2).objs.size = some _ := Heap.get?_push_of_some _ (Heap.get?_push_of_some _ (Heap.get?_push_size _ rfl))
  have g2 : (zH5 b1 b2 s.heap l1 l2).get? (zH1 b1 s.heap l1).objs.size = some _ := Heap.get?_push_of_some _ (Heap.get?_push_of_some _ (Heap.get?_push_of_some _ (Heap.get?_push_size _ rfl)))
  have g1 : (zH5 b1 b2 s.heap l1 l2).get? s.heap.objs.size = some _ := Heap.get?_push_of_some _ (Heap.get?_push_of_some _ (Heap.get?_push_of_some _ (Heap.get?_push_of_some _ (Heap.get?_push_size _ rfl))))
  show _ ∧ _
  rw [z2, z3, z4] at g5
  rw [z1, z2] at g3
  rw [z3] at g4
  rw [z1] at g2
  rw [z4]
  have c1 : CurB b1 (zH5 b1 b2 s.heap l1 l2) s.heap.objs.size l1 0 := by cases b1 <;> exact ⟨_, g1, rfl, rfl⟩
  have c2 : CurB b2 (zH5 b1 b2 s.heap l1 l2) (s.heap.objs.size + 1) l2 0 := by cases b2 <;> exact ⟨_, g2, rfl, rfl⟩
  exact ⟨⟨_, g5, rfl⟩, h _ g5 g3 g4 c1 c2 z5 fun c o x =>
    Heap.get?_push_of_some _ (Heap.get?_push_of_some _ (Heap.get?_push_of_some _ (Heap.get?_push_of_some _ (Heap.get?_push_of_some _ x))))⟩
end
end ZS
namespace CI
open PySem PySem.Spec PyProof.Rows L2 ZS
/-! ### zip(xs, ys, strict=True) -/
def SqB (b : Bool) (K : PySem.W.Frag) (H : Hp) (a : Addr) (xs : List V) : Prop := match b with
  | true => SqT K H a xs
  | false => SqL K H a xs
theorem sqB_inv {X : Cx} {pins : List (Addr × Obj)} {σ : L2.St} {H : Hp} {s : Shared} {b : Bool} {a : Addr} {xs : List V} (I : Inv X pins σ H s) (h : SqB b X.K H a xs) : ∃ its : List Value, Vals xs its ∧ HasB b s.heap a its.toArray ∧ a < s.heap.objs.size := by
  cases b
  · obtain ⟨its, rv, p, _⟩ := I.list h
    exact ⟨its, rv, p.isList, p.lt⟩
  · obtain ⟨its, rv, p, _⟩ := I.tuple h
    obtain ⟨o1, ho1, _⟩ := id p
    exact ⟨its, rv, p, Heap.lt_size ho1⟩
theorem sqB_inj {X : Cx} {pins : List (Addr × Obj)} {σ : L2.St} {H : Hp} {s : Shared} {b : Bool} {a : Addr} {xs ys : List V} (I : Inv X pins σ H s) (h : SqB b X.K H a xs) (h' : SqB b X.K H a ys) : xs = ys := by
  cases b
  · exact I.list_inj h h'
  · exact I.tuple_inj h h'
/-- the two as they stand at each turn, the items in new pairs; both end at once -/
def ItzS (b1 b2 : Bool) (K : PySem.W.Frag) (a b : Addr) : It :=
  ⟨fun i H => ∃ (xs ys : List V) (x y : V), SqB b1 K H a xs ∧ SqB b2 K H b ys ∧ xs[i]? = some x ∧ ys[i]? = some y,
    fun i H v H' => ∃ T x y, v = .ref T ∧ H T = none ∧ H' = upd H T (.tup [x, y]) ∧ (∀ xs, SqB b1 K H a xs → xs[i]? = some x) ∧ ∀ ys, SqB b2 K H b ys → ys[i]? = some y,
    fun i H => ∃ xs ys : List V, SqB b1 K H a xs ∧ SqB b2 K H b ys ∧ xs.length ≤ i ∧ ys.length ≤ i⟩
theorem turn_zipS {b1 b2 : Bool} {P : Program} {w : World} {K : PySem.W.Frag} {elts : List Expr} {kk : Nat} {tpos : Pos} {a b z TI TO i1 i2 : Addr} (D : ZipApart z TI TO i1 i2 a b) :
    Turn P w K (.Tuple elts kk tpos) (ItzS b1 b2 K a b) [z, TI, TO, i1, i2] z (fun i h => IsZipS h z TI TO .none ∧ IsPair h TI (.ref i1) (.ref i2) ∧ (∃ x y, IsPair h TO x y) ∧ CurB b1 h i1 a i ∧ CurB b2 h i2 b i) where
  mem := by simp
  obj := fun i h st c hc => by
    obtain ⟨hz, hTI, ⟨x, y, hTO⟩, h1, h2⟩ := st
    obtain ⟨o1, e1, d1⟩ := h1.obj
    obtain ⟨o2, e2, d2⟩ := h2.obj
    have e' : c = z ∨ c = TI ∨ c = TO ∨ c = i1 ∨ c = i2 := by simpa using hc
    rcases e' with q | q | q | q | q
    · rw [q]; exact ⟨_, hz, fun v q => nomatch q⟩
    · rw [q]; exact ⟨_, hTI, fun v q => nomatch q⟩
    · rw [q]; exact ⟨_, hTO, fun v q => nomatch q⟩
    · rw [q]; exact ⟨o1, e1, fun v q => by rw [d1] at q; cases q⟩
    · rw [q]; exact ⟨o2, e2, fun v q => by rw [d2] at q; cases q⟩
  keep := fun i h h' st k => by
    obtain ⟨hz, hTI, ⟨x, y, hTO⟩, h1, h2⟩ := st
    exact ⟨k z (by simp) _ hz, k TI (by simp) _ hTI, ⟨x, y, k TO (by simp) _ hTO⟩, h1.at fun o q => k i1 (by simp) o q, h2.at fun o q => k i2 (by simp) o q⟩
  item := by
    intro X hP hw hK hc i pins s σ H E I hf st hg
    subst hP hw hK
    obtain ⟨hz, hTI, ⟨x0, y0, hTO⟩, h1, h2⟩ := st
    obtain ⟨xs, ys, x, y, hqx, hqy, hx, hy⟩ := hg
    obtain ⟨its, rv, p, _⟩ := sqB_inv I hqx
    obtain ⟨its2, rv2, p2, _⟩ := sqB_inv I hqy
    obtain ⟨u, hu, ru⟩ := rv.get hx
    obtain ⟨u2, hu2, ru2⟩ := rv2.get hy
    have hzl : z < s.heap.objs.size := Heap.lt_size hz
    refine pyNext_item D hz hTI hTO h1 h2 p p2 (x := u) (y := u2) (by simpa using hu) (by simpa using hu2) fun h' z' TO' h1' h2' hT hsz hk => ?_
    refine ⟨_, rfl, letGo_ (s := { s with heap := h' }) z' fun h'' z'' sb => ?_⟩
    have hT2 : h''.get? s.heap.objs.size = some { cls := .type "tuple", data := .seq #[u, u2] } := (sb.2 _ (Nat.ne_of_gt hzl)).trans hT
    have new : ObjOk X.prog X.w (upd H s.heap.objs.size (.tup [x, y])) h'' s.heap.objs.size (.tup [x, y]) :=
      ⟨by show 2 ≤ sizeLine; decide, [u, u2], .cons ru (.cons ru2 .nil), ⟨_, hT2, rfl, _, rfl⟩⟩
    have I1 : Inv X pins σ (upd H s.heap.objs.size (.tup [x, y])) { s with heap := h'' } :=
      I.turnedNew (t' := s.toks) (ch := [z, TI, TO, i1, i2]) (fun c o hb q => (sb.2 c (fun q' => hb (by simp [q']))).trans (hk c o (fun q' => hb (by simp [q'])) (fun q' => hb (by simp [q'])) (fun q' => hb (by simp [q'])) (fun q' => hb (by simp [q'])) q)) hf (Nat.le_refl _) new
    refine ⟨.ref s.heap.objs.size, _, I1, rfl, ⟨_, x, y, rfl, I.hok.fresh (Nat.le_refl _), rfl, fun l hl => by rw [sqB_inj I hl hqx]; exact hx, fun l hl => by rw [sqB_inj I hl hqy]; exact hy⟩, ⟨z'', ?_, ⟨u, u2, ?_⟩, ?_, ?_⟩, fun c hcm => ?_⟩
    · exact (sb.2 _ D.TIz).trans (hk _ _ D.TIz D.TITO D.TIi1 D.TIi2 hTI)
    · exact (sb.2 _ D.TOz).trans TO'
    · exact h1'.at fun o q => (sb.2 _ D.i1z).trans q
    · exact h2'.at fun o q => (sb.2 _ D.i2z).trans q
    · have hlt : c < s.heap.objs.size := by
        have e' : c = z ∨ c = TI ∨ c = TO ∨ c = i1 ∨ c = i2 := by simpa using hcm
        rcases e' with q | q | q | q | q
        · rw [q]; exact hzl
        · rw [q]; exact Heap.lt_size hTI
        · rw [q]; exact Heap.lt_size hTO
        · rw [q]; obtain ⟨_, e1, _⟩ := h1.obj; exact Heap.lt_size e1
        · rw [q]; obtain ⟨_, e2, _⟩ := h2.obj; exact Heap.lt_size e2
      rw [upd_ne (Nat.ne_of_lt hlt)]
      exact (hf c hcm).1
  done := by
    intro X hP hw hK hc i pins s σ H E I hf st hg
    subst hP hw hK
    obtain ⟨hz, hTI, ⟨x0, y0, hTO⟩, h1, h2⟩ := st
    obtain ⟨xs, ys, hqx, hqy, e1, e2⟩ := hg
    obtain ⟨its, rv, p, _⟩ := sqB_inv I hqx
    obtain ⟨its2, rv2, p2, _⟩ := sqB_inv I hqy
    have l1 := rv.length
    have l2 := rv2.length
    exact pyNext_end (I.ok.hd hc) D hz hTI hTO h1 h2 p p2 (by simp; omega) (by simp; omega) fun h' hk => ⟨rfl, I.turnedL (t' := s.toks) (ch := [z, TI, TO, i1, i2]) (fun c o hb q =>
      hk c o (fun q' => hb (by simp [q'])) (fun q' => hb (by simp [q'])) (fun q' => hb (by simp [q'])) (fun q' => hb (by simp [q'])) q) hf⟩
  self := fun A i s Q E st h => pyIter_ st.1 h
theorem callWith_type_kw {M : Model} {A : Around} {E : Value → Shared → Prop} {s : Shared} {pos : Pos} {T : String} {first : List Value} {args : List (Bool × Sem Value)} {keywords : List (Option Str × Sem Value)} {Q : Value → Shared → Prop}
    (hplain : args.any (·.1) = false) (hkw : keywords.any (·.1.isNone) = false)
    (h : wpAny M A (evalArgs (.type T) true args keywords) (fun a s₁ => wpAny M A (call (.type T) (first ++ a.pos) a.kw) Q E s₁) E s) :
    wpAny M A (callWith pos (.type T) first args keywords) Q E s := by
  unfold callWith
  refine wpAny_bind (wpAny_holding (wpAny_mono h (fun a s₁ h₁ => wpAny_bind (wpAny_standAt ?_)) fun _ _ x => x))
  simp only [hplain, hkw, Bool.or_false]
  refine wpAny_bind (wpAny_pure ?_)
  exact wpAny_bind (wpAny_mono h₁ (fun r s₂ hr => wpAny_bind (wpAny_holding (wpAny_point (wpAny_pure hr)))) fun _ _ x => x)
def tZipS (K : PySem.W.Frag) (t tk : TA) : TI := fun σ H R => t σ H fun vs H1 => tk σ H1 fun zs H2 => ∃ b1 b2 a b xs ys, vs = [.ref a, .ref b] ∧ zs = [.bl true] ∧ SqB b1 K H2 a xs ∧ SqB b2 K H2 b ys ∧ R (ItzS b1 b2 K a b) H2
theorem pi_zipS {X : Cx} {e e2 ev : Expr} {t tk : TA} {p pos tpos kp : Pos} {elts : List Expr} {kk : Nat} (hg : Gl X "zip") (hm : X.mg "zip" = none) (ha : PA X [e, e2] t) (hkw : PK X [⟨some ("strict" : Str), ev, kp⟩] tk) (hn : ([e, e2].all notStar) = true) :
    PI X (.Tuple elts kk tpos) (.Call (.Name "zip" p) [e, e2] [⟨some ("strict" : Str), ev, kp⟩] pos) (tZipS X.K t tk) := by
  refine ⟨fun pins s σ H R I h => ?_⟩
  have hn2 : notStar e = true ∧ notStar e2 = true := by simpa using hn
  obtain ⟨k1, k2, k3⟩ := kw_all (pos := pos) (env := X.env) (kws := [⟨some ("strict" : Str), ev, kp⟩]) rfl
  refine wpAny_Call_Name_kw (ld_blt I hg hm PyProof.Rows.boot_zip ?_)
  refine callWith_type_kw ?_ k3 ?_
  · rw [star_cons hn2.1]
    show (false || (backTo pos (starEach [e2] X.env)).any (·.1)) = false
    rw [star_any (by simp [hn2.2])]; rfl
  · have st : backTo pos (starEach [e, e2] X.env) = (false, eval e X.env) :: backTo pos (starEach [e2] X.env) := by rw [star_cons hn2.1]; rfl
    rw [st]
    refine PyProof.Rows.evalArgs_kwB k1 ?_
    rw [← st]
    refine thn (ha.run pos pins s σ H _ I h) ?_
    rintro us s1 ⟨vs, H1, I1, r1, q1⟩
    refine thn (hkw.run pos pins s1 σ H1 _ I1 q1) ?_
    rintro ws s2 ⟨zs, H2, I2, rz, b1, b2, a, b, xs, ys, rfl, rfl, hqx, hqy, q⟩
    rw [k2]
    cases r1 with
    | cons r rr =>
      cases rr with
      | cons r' rr =>
        cases rr
        cases r
        cases r'
        cases rz with
        | cons rt rr =>
          cases rr
          cases rt
          obtain ⟨its, rv, p1, la⟩ := sqB_inv I2 hqx
          obtain ⟨its2, rv2, p2, lb⟩ := sqB_inv I2 hqy
          refine ZS.call_ p1 p2 fun h' hz hTI hTO h1 h2 hsz hk => pyIter_ hz ?_
          have I3 : Inv X pins σ H2 { s2 with heap := h' } := I2.kept (t' := s2.toks) hk
          refine ⟨s2.heap.objs.size + 4, [s2.heap.objs.size + 4, s2.heap.objs.size + 2, s2.heap.objs.size + 3, s2.heap.objs.size, s2.heap.objs.size + 1], _, _, H2, rfl, I3, turn_zipS (PySem.W.ktu_apart s2.heap.objs.size a b la lb), ⟨hz, hTI, ⟨_, _, hTO⟩, h1, h2⟩, fun c hcm => ?_, q⟩
          have e' : c = s2.heap.objs.size + 4 ∨ c = s2.heap.objs.size + 2 ∨ c = s2.heap.objs.size + 3 ∨ c = s2.heap.objs.size ∨ c = s2.heap.objs.size + 1 := by simpa using hcm
          have hle : s2.heap.objs.size ≤ c := by
            rcases e' with z | z | z | z | z
            · rw [z]; exact Nat.le_add_right _ _
            · rw [z]; exact Nat.le_add_right _ _
            · rw [z]; exact Nat.le_add_right _ _
            · rw [z]; exact Nat.le_refl _
            · rw [z]; exact Nat.le_add_right _ _
          exact I2.fpOk hle (I2.hok.fresh hle)
/-- the pairs -/
def zipA : List Pv → List Pv → List Va
  | p :: ps, q :: qs => .pv (.tup [p, q]) :: zipA ps qs
  | _, _ => []
theorem zipA_len : ∀ {ps qs : List Pv}, ps.length = qs.length → (zipA ps qs).length = ps.length
  | [], [], _ => rfl
  | p :: ps, q :: qs, h => by
    rw [zipA, List.length_cons, List.length_cons, zipA_len (by simpa using h)]
theorem zipA_get : ∀ {ps qs : List Pv} {i : Nat} {x : Va}, (zipA ps qs)[i]? = some x → ∃ p q, ps[i]? = some p ∧ qs[i]? = some q ∧ x = .pv (.tup [p, q])
  | [], _, i, x, e => by simp [zipA] at e
  | _ :: _, [], i, x, e => by simp [zipA] at e
  | p :: ps, q :: qs, 0, x, e => by
    simp [zipA] at e
    exact ⟨p, q, rfl, rfl, e.symm⟩
  | p :: ps, q :: qs, i + 1, x, e => by
    rw [zipA, List.getElem?_cons_succ] at e
    obtain ⟨p', q', e1, e2, e3⟩ := zipA_get e
    exact ⟨p', q', by simpa using e1, by simpa using e2, e3⟩
def seqB : Pv → Option (Bool × List Pv)
  | .tup ps => some (true, ps)
  | .lst ps => some (false, ps)
  | _ => none
def iZipS (d dk : Da) : Da := fun s h => (d s h).bind fun vs h1 => (dk s h1).bind fun ws h2 => match vs, ws with
  | [v1, v2], [.pv (.bl true)] => match give v1 h2 with
    | some (p1, h3) => match give v2 h3 with
      | some (p2, h4) => match seqB p1, seqB p2 with
        | some (_, xs), some (_, ys) => if xs.length = ys.length then .ok (zipA xs ys) h4 else .stuck
        | _, _ => .stuck
      | none => .stuck
    | none => .stuck
  | _, _ => .stuck
section
variable {X : Cx} {E : XK}
theorem isIt_zipS {b1 b2 : Bool} {G : Gx} {av1 α1 : List Addr} {H1 : Hp} {a b : Addr} {vs us : List V} {ps qs : List Pv} (h1 : ∀ av α H, Later av1 α1 H1 av α H → SqB b1 G.K H a vs) (h2 : ∀ av α H, Later av1 α1 H1 av α H → SqB b2 G.K H b us) (q1 : RepPs G av1 H1 ps vs) (q2 : RepPs G av1 H1 qs us)
    (hl : ps.length = qs.length) : IsIt G (ItzS b1 b2 G.K a b) av1 α1 H1 (zipA ps qs) where
  go := fun i av α H hi lt => by
    rw [zipA_len hl] at hi
    exact ⟨vs, us, vs[i]'(by rw [← q1.length]; exact hi), us[i]'(by rw [← q2.length, ← hl]; exact hi), h1 _ _ _ lt, h2 _ _ _ lt, List.getElem?_eq_getElem _, List.getElem?_eq_getElem _⟩
  yld := fun i x base α h H u H' e R lt y => by
    obtain ⟨T, w, w2, rfl, nT, rfl, hx, hy⟩ := y
    obtain ⟨p, q, e1, e2, rfl⟩ := zipA_get e
    obtain ⟨w', e3, r⟩ := (RepPs.mono lt.mono q1).get e1
    have e4 := hx vs (h1 _ _ _ lt)
    rw [e3] at e4
    cases e4
    obtain ⟨w2', e5, r2⟩ := (RepPs.mono lt.mono q2).get e2
    have e6 := hy us (h2 _ _ _ lt)
    rw [e5] at e6
    cases e6
    obtain ⟨R', ev⟩ := R.laid (o := .tup [w, w2]) nT
    refine ⟨ev, R', rv_tup.mpr ⟨T, _, rfl, .inl ⟨.inl upd_same, R.avoids nT⟩, ?_⟩⟩
    exact repPs_cons.mpr ⟨_, _, rfl, ev.pv (G := G) r, RepPs.one (ev.pv (G := G) r2)⟩
  stop := fun av α H lt => ⟨vs, us, h1 _ _ _ lt, h2 _ _ _ lt, by rw [zipA_len hl, q1.length]; exact Nat.le_refl _, by rw [zipA_len hl, hl, q2.length]; exact Nat.le_refl _⟩
/-- a sequence that is given, as it stands from then on -/
theorem seqB_at {G : Gx} {av1 α1 : List Addr} {H1 : Hp} {p : Pv} {u : V} {b : Bool} {xs : List Pv} (e : seqB p = some (b, xs)) (r : RepP G av1 H1 p u) : ∃ a vs, u = .ref a ∧ (∀ av α H, Later av1 α1 H1 av α H → SqB b G.K H a vs) ∧ RepPs G av1 H1 xs vs := by
  cases p with
  | tup ps =>
    cases e
    obtain ⟨a, vs, rfl, t, q⟩ := repP_tup.mp r
    exact ⟨a, vs, rfl, fun av α H lt => (t.mono lt.mono).sq, q⟩
  | lst ps =>
    cases e
    obtain ⟨a, vs, rfl, t, q⟩ := repP_lst.mp r
    exact ⟨a, vs, rfl, fun av α H lt => (t.mono lt.mono).sq, q⟩
  | _ => cases e
theorem si_zipS {e e2 ev : Expr} {da dk : Da} {p pos tpos kp : Pos} {elts : List Expr} {kk : Nat} (hg : Gl X "zip") (hm : X.mg "zip" = none) (hn : ([e, e2].all notStar) = true) (ha : SA X E [e, e2] da) (hk : SKw X E [⟨some ("strict" : Str), ev, kp⟩] dk) :
    SI X E (.Tuple elts kk tpos) (.Call (.Name "zip" p) [e, e2] [⟨some ("strict" : Str), ev, kp⟩] pos) (iZipS da dk) := by
  refine PI.imp (pi_zipS hg hm ha hk hn) fun σ H R ⟨base, α, s, h, Rl, S, P⟩ => ?_
  refine ⟨base, α, s, h, Rl, S, Pst.bind P fun vs h1 α1 us H1 x1 R1 q1 P1 => ?_⟩
  refine ⟨base, α1, s, h1, R1, x1.sl S, Pst.bind P1 fun ws h2 α2 zs H2 x2 R2 q2 P2 => ?_⟩
  split at P2
  · rename_i v1 v2
    have q1 := x2.vas q1
    obtain ⟨u1, r, rfl, r1, r2⟩ := q1
    obtain ⟨u2, r', rfl, r3, r4⟩ := r2
    have r4 : r' = [] := r4
    subst r4
    obtain ⟨z, r'', rfl, rz, r6⟩ := q2
    have r6 : r'' = [] := r6
    subst r6
    split at P2
    · rename_i p1 h3 e3
      obtain ⟨R3, x3, _, g1⟩ := give_ok _ _ _ _ _ _ _ _ _ e3 R2 r1
      split at P2
      · rename_i p2 h4 e4
        obtain ⟨R4, x4, _, g2⟩ := give_ok _ _ _ _ _ _ _ _ _ e4 R3 (x3.va r3)
        split at P2
        · rename_i b1 xs b2 ys e5 e6
          split at P2
          · rename_i hl
            obtain ⟨a, vs, rfl, a1, a2⟩ := seqB_at (α1 := α2) e5 (x4.pv (G := gx X) g1)
            obtain ⟨b, us, rfl, b1', b2'⟩ := seqB_at (α1 := α2) e6 g2
            refine ⟨b1, b2, a, b, vs, us, rfl, ?_, a1 _ _ _ .refl, b1' _ _ _ .refl, ?_⟩
            · have : z = .bl true := rv_bl.mp rz
              rw [this]
            · exact (Pst.step x4 (Pst.step x3 P2)).same R4 (isIt_zipS a1 b1' a2 b2' hl)
          · exact P2.elim
        · exact P2.elim
      · exact P2.elim
    · exact P2.elim
  · exact P2.elim
end
end CI
namespace CI
open PySem PySem.Spec PyProof.Rows L2
/-! ### xs[::-1] of a list -/
def tRev (K : PySem.W.Frag) (te : TE) (tk : TO) : TE := fun σ H Q => te σ H fun x H1 => tk σ H1 fun k H2 => k = some (-1) ∧ ∃ a xs, x = .ref a ∧ SqL K H2 a xs ∧ ∀ p, H2 p = none → Q (.ref p) (upd H2 p (.lst xs.reverse))
theorem vals_rev : ∀ {xs : List V} {us : List Value}, Vals xs us → Vals xs.reverse us.reverse
  | _, _, .nil => .nil
  | _, _, .cons r q => by
    rw [List.reverse_cons, List.reverse_cons]
    exact (vals_rev q).append (.cons r .nil)
theorem pe_rev {X : Cx} {e : Expr} {ev : Expr} {te : TE} {tk : TO} {p2 pos : Pos} (he : PE X e te) (hk : PO X (some ev) tk) : PE X (.Subscript e (.Slice none none (some ev) p2) pos) (tRev X.K te tk) := by
  refine ⟨fun pins s σ H Q I h => ?_⟩
  refine Subscript_ (thn (he.run pins s σ H _ I h) fun v s1 ⟨x, H1, I1, r1, q1⟩ => ?_)
  refine wpAny_Slice ?_
  rw [evalPart_none]
  refine wpAny_pure ?_
  refine wpAny_pure ?_
  refine thn (hk.run pins s1 σ H1 _ I1 q1) fun vk s2 ⟨k, H2, I2, pk, hk1, a, xs, hx0, hx, q⟩ => ?_
  subst hk1 hx0
  obtain rfl : v = Value.ref a := r1
  have I4 : Inv X pins σ H2 { s2 with heap := s2.heap.push { cls := .type "slice", data := .fields #[.none, .none, vk] } } := I2.kept (t' := s2.toks) fun b ob q => Heap.get?_push_of_some _ q
  obtain ⟨its, r, ht, hz⟩ := I4.list hx
  have hlen := r.length
  show wpAny (model X.prog X.w) X.A (subscriptTail e (.Slice none none (some ev) p2) (.ref a) (.ref s2.heap.objs.size)) (EP X pins σ Q) X.xe { s2 with heap := s2.heap.push { cls := .type "slice", data := .fields #[.none, .none, vk] } }
  refine tail_any (ops := [.ref a, .ref s2.heap.objs.size]) (T := "list") ht.isList.typeIs slot_list_getitem.lookup ?_ (by with_unfolding_all rfl)
  refine wpAny_getItem_list_slice ht.isList (Heap.IsSliceOf.new ..) .none .none pk (by simp) ?_ (by rw [List.size_toArray] <;> omega)
  rw [PySem.W.krv_pick]
  refine ⟨.ref _, _, I4.laid (t' := s2.toks) (o := .lst xs.reverse) (fun b ob q => Heap.get?_push_of_some _ q) (Nat.le_refl _) ?_, rfl, q _ (I4.hok.fresh (Nat.le_refl _))⟩
  exact ⟨by rw [List.length_reverse]; exact hz, its.reverse, 0, vals_rev r, Heap.get?_push_size _ rfl⟩
theorem reps_app {G : Gx} {av : List Addr} {H : Hp} : ∀ {xs ys : List Pv} {vs us : List V}, RepPs G av H xs vs → RepPs G av H ys us → RepPs G av H (xs ++ ys) (vs ++ us) := fun h q => h.append q
theorem reps_rev {G : Gx} {av : List Addr} {H : Hp} : ∀ {xs : List Pv} {vs : List V}, RepPs G av H xs vs → RepPs G av H xs.reverse vs.reverse
  | [], _, h => by rw [repPs_nil] at h; subst h; exact repPs_nil.mpr rfl
  | x :: xs, _, h => by
    rw [repPs_cons] at h
    obtain ⟨v, r, rfl, h1, h2⟩ := h
    rw [List.reverse_cons, List.reverse_cons]
    exact (reps_rev h2).append (RepPs.one h1)
def dRev (d : Dn) (k : Dn) : Dn := fun s h => (d s h).bind fun x h1 => (bdOf (some k) s h1).bind fun i h2 => if i = some (-1) then (match lstPs h2 x with
  | some ps => .ok (.pv (.lst ps.reverse)) h2
  | none => .stuck) else .stuck
section
variable {X : Cx} {E : XK}
theorem se_rev {e ev : Expr} {d k : Dn} {p2 pos : Pos} (he : SE X E e d) (hk : SE X E ev k) : SE X E (.Subscript e (.Slice none none (some ev) p2) pos) (dRev d k) := by
  refine PE.imp (pe_rev he (sp_some hk)) fun σ H Q ⟨base, α, s, h, R, S, P⟩ => ?_
  refine ⟨base, α, s, h, R, S, Pst.bind P fun x h1 α1 u H1 x1 R1 q1 P1 => ?_⟩
  refine ⟨base, α1, s, h1, R1, x1.sl S, P1.bind fun i h2 α2 i' H2 x2 R2 q2 P2 => ?_⟩
  have q2 : i = i' := q2
  subst q2
  split at P2
  · rename_i hi
    split at P2
    · rename_i ps e1
      obtain ⟨a, vs, rfl, hs, hr⟩ := lstPs_ok R2 (x2.va q1) e1
      exact ⟨hi, a, vs, rfl, hs, fun p np => P2.new R2 np fun ev na => rv_lst.mpr ⟨p, _, rfl, ⟨.inl upd_same, na⟩, ev.pvs (reps_rev hr)⟩⟩
    · exact P2.elim
  · exact P2.elim
/-! ### zip(xs, ys) of two lists, of two tuples, of one length -/
theorem isIt_zipT {G : Gx} {av1 α1 : List Addr} {H1 : Hp} {a b : Addr} {vs us : List V} {ps qs : List Pv} (h1 : ∀ av α H, Later av1 α1 H1 av α H → SqT G.K H a vs) (h2 : ∀ av α H, Later av1 α1 H1 av α H → SqT G.K H b us) (q1 : RepPs G av1 H1 ps vs) (q2 : RepPs G av1 H1 qs us)
    (hl : ps.length = qs.length) : IsIt G (RZ.ItzT G.K a b) av1 α1 H1 (zipA ps qs) where
  go := (isIt_zipS (b1 := true) (b2 := true) (α1 := α1) h1 h2 q1 q2 hl).go
  yld := (isIt_zipS (b1 := true) (b2 := true) (α1 := α1) h1 h2 q1 q2 hl).yld
  stop := fun av α H lt => ⟨vs, us, h1 _ _ _ lt, h2 _ _ _ lt, .inl (by rw [zipA_len hl, q1.length]; exact Nat.le_refl _)⟩
theorem isIt_zipL {G : Gx} {av1 α1 : List Addr} {H1 : Hp} {a b : Addr} {vs us : List V} {ps qs : List Pv} (h1 : ∀ av α H, Later av1 α1 H1 av α H → SqL G.K H a vs) (h2 : ∀ av α H, Later av1 α1 H1 av α H → SqL G.K H b us) (q1 : RepPs G av1 H1 ps vs) (q2 : RepPs G av1 H1 qs us)
    (hl : ps.length = qs.length) : IsIt G (Itz G.K a b) av1 α1 H1 (zipA ps qs) where
  go := (isIt_zipS (b1 := false) (b2 := false) (α1 := α1) h1 h2 q1 q2 hl).go
  yld := (isIt_zipS (b1 := false) (b2 := false) (α1 := α1) h1 h2 q1 q2 hl).yld
  stop := fun av α H lt => ⟨vs, us, h1 _ _ _ lt, h2 _ _ _ lt, .inl (by rw [zipA_len hl, q1.length]; exact Nat.le_refl _)⟩
def iZipN (d : Da) : Da := fun s h => (d s h).bind fun vs h2 => match vs with
  | [v1, v2] => match give v1 h2 with
    | some (p1, h3) => match give v2 h3 with
      | some (p2, h4) => match seqB p1, seqB p2 with
        | some (b1, xs), some (b2, ys) => if xs.length = ys.length ∧ b1 = b2 then .ok (zipA xs ys) h4 else .stuck
        | _, _ => .stuck
      | none => .stuck
    | none => .stuck
  | _ => .stuck
theorem si_zipN {e e2 : Expr} {da : Da} {p pos tpos : Pos} {elts : List Expr} {kk : Nat} (hg : Gl X "zip") (hm : X.mg "zip" = none) (hn : ([e, e2].all notStar) = true) (ha : SA X E [e, e2] da) :
    SI X E (.Tuple elts kk tpos) (.Call (.Name "zip" p) [e, e2] [] pos) (iZipN da) := by
  have hn2 : notStar e = true ∧ notStar e2 = true := by simpa using hn
  refine PI.imp (RZ.pi_zipA hg hm ha (star_cons hn2.1) (star_any (by simp [hn2.2]))) fun σ H R ⟨base, α, s, h, Rl, S, P⟩ => ?_
  refine ⟨base, α, s, h, Rl, S, Pst.bind P fun vs h1 α1 us H1 x1 R1 q1 P2 => ?_⟩
  split at P2
  · rename_i v1 v2
    obtain ⟨u1, r, rfl, r1, r2⟩ := q1
    obtain ⟨u2, r', rfl, r3, r4⟩ := r2
    have r4 : r' = [] := r4
    subst r4
    split at P2
    · rename_i p1 h3 e3
      obtain ⟨R3, x3, _, g1⟩ := give_ok _ _ _ _ _ _ _ _ _ e3 R1 r1
      split at P2
      · rename_i p2 h4 e4
        obtain ⟨R4, x4, _, g2⟩ := give_ok _ _ _ _ _ _ _ _ _ e4 R3 (x3.va r3)
        split at P2
        · rename_i b1 xs b2 ys e5 e6
          split at P2
          · rename_i hl
            obtain ⟨hl, rfl⟩ := hl
            obtain ⟨a, vs, rfl, a1, a2⟩ := seqB_at (α1 := α1) e5 (x4.pv (G := gx X) g1)
            obtain ⟨b, us, rfl, b1', b2'⟩ := seqB_at (α1 := α1) e6 g2
            refine ⟨a, b, vs, us, rfl, ?_⟩
            cases b1
            · exact .inl ⟨a1 _ _ _ .refl, b1' _ _ _ .refl, (Pst.step x4 (Pst.step x3 P2)).same R4 (isIt_zipL a1 b1' a2 b2' hl)⟩
            · exact .inr ⟨a1 _ _ _ .refl, b1' _ _ _ .refl, (Pst.step x4 (Pst.step x3 P2)).same R4 (isIt_zipT a1 b1' a2 b2' hl)⟩
          · exact P2.elim
        · exact P2.elim
      · exact P2.elim
    · exact P2.elim
  · exact P2.elim
end
end CI
namespace CI
open PySem PySem.Spec PyProof.Rows L2
/-! ### sum(a tuple of ints) -/
section
variable {X : Cx} {E : XK}
theorem sumT_raw {prog : Program} {w : World} {A : Around} {E0 : Value → Shared → Prop} {s : Shared} {l : Addr} {its : List Value} {ns : List Int} {Q : Value → Shared → Prop} (hh : A.handled = none) (hl : s.heap.IsTuple l its.toArray) (hi : IntsAre its ns)
    (h : ∀ h' tk t', (∀ b o, s.heap.get? b = some o → h'.get? b = some o) → Q (.int ns.sum t') { s with heap := h', toks := tk }) : wpAny (model prog w) A (call (.builtin "sum") [.ref l]) Q E0 s := by
  obtain ⟨xs, e⟩ := hi.allInts.items
  have hn : numsOf (intItems xs).toList = ns := by rw [← e]; exact hi.numsOf
  rw [nums_intItems] at hn
  subst hn
  rw [e] at hl
  have hlt : l < s.heap.objs.size := by obtain ⟨o, ho, _⟩ := hl; exact Heap.lt_size ho
  refine call_sum_walkG (wpAny_pyIter_tuple hl ?_)
  refine ⟨s.heap.objs.size, _, _, _, _, _, numAt xs, rfl, Walks.tuple (A := A.in1) hh _ l (Nat.ne_of_lt hlt) (intItems xs), ⟨⟨_, Heap.get?_push_size _ rfl, rfl, rfl⟩, hl.push _⟩, fun b hb => ?_, fun _ _ => intItems_at, fun h' tk t' hk => ?_⟩
  · show b < (s.heap.push _).objs.size
    rw [Heap.size_push]
    rcases List.mem_cons.mp hb with rfl | hb
    · exact Nat.lt_succ_self _
    · rw [List.mem_singleton.mp hb]; exact Nat.lt_succ_of_lt hlt
  · have := h h' tk t' fun b o eb => hk b o (fun z => Nat.ne_of_lt (Heap.lt_size eb) (List.mem_singleton.mp z)) (Heap.get?_push_of_some _ eb)
    have e2 : preSum (numAt xs) (intItems xs).size = (xs.toList.map (·.1)).sum := by
      rw [preSum_eq, List.take_of_length_le (by simp [intItems])]
    rw [e2]
    exact this
def rSumT (K : PySem.W.Frag) : List V → Hp → VK → Prop := fun vs H Q => ∃ (a : Addr) (ns : List Int), vs = [V.ref a] ∧ SqT K H a (ns.map V.int) ∧ Q (.int ns.sum) H
theorem cr_sumT (hc : X.calm = true) : CallR X (.builtin "sum") (rSumT X.K) := by
  intro pins s σ H vs us Q I r h
  obtain ⟨a, ns, rfl, hs, q⟩ := h
  obtain ⟨its, rv, hl, _⟩ := I.tuple hs
  rw [Vals.ref1 r]
  exact sumT_raw (I.ok.hd hc) hl rv.ints fun h' tk t' hk => ⟨.int _, H, I.kept hk, ⟨_, rfl⟩, q⟩
def bSumT : Fn := fun vs h => match vs with
  | [.pv (.tup ps)] => match intsOf (ps.map .pv) with
    | some ns => .ok (.pv (.int ns.sum)) h
    | none => .stuck
  | _ => .stuck
theorem cs_sumT : CalS X E bSumT (rSumT X.K) := by
  intro base α h H us vs Q R q P
  unfold bSumT at P
  split at P
  · rename_i ps
    obtain ⟨v, e, q1⟩ := rvs1 q
    split at P
    · rename_i ns hns
      obtain ⟨a, us', e2, t, q2⟩ := rv_tup.mp q1
      have q3 := repVs_pv (α := α).mpr q2
      rw [intsOf_eq hns] at q3
      rw [repVs_ints.mp q3] at t
      exact ⟨a, ns, by rw [e, e2], t.sq, P.same R (rv_int.mpr rfl)⟩
    · exact P.elim
  · exact P.elim
def bSumG : Fn := fun vs h => match vs with
  | [.pv (.tup ps)] => bSumT [.pv (.tup ps)] h
  | _ => bSum vs h
theorem cs_sumG : CalS X E bSumG (fun xs H Q => rSumT X.K xs H Q ∨ rSum X.K xs H Q) := by
  intro base α h H us vs Q R q P
  unfold bSumG at P
  split at P
  · exact .inl (cs_sumT base α h H _ vs Q R q P)
  · exact .inr (cs_sum base α h H _ vs Q R q P)
end
end CI
namespace ZS
open PySem
open PySem.Sem (wp)
/-! zip(a, b) of a list and a tuple, either way (the kit has two lists, two tuples) -/
section
variable {prog : Program} {w : World} {A : Around} {E : Value → Shared → Prop} {s : Shared}
theorem zipN_next_item {b1 b2 : Bool} {z TI TO i1 i2 l1 l2 : Addr} {k1 k2 : Nat} {xs ys : Array Value} {x y a b : Value} {Q : Value → Shared → Prop} (D : ZipApart z TI TO i1 i2 l1 l2)
    (hz : IsZip s.heap z TI TO .none) (hTI : IsPair s.heap TI (.ref i1) (.ref i2)) (hTO : IsPair s.heap TO a b)
    (h1 : CurB b1 s.heap i1 l1 k1) (h2 : CurB b2 s.heap i2 l2 k2) (hl1 : HasB b1 s.heap l1 xs) (hl2 : HasB b2 s.heap l2 ys) (hx : xs[k1]? = some x) (hy : ys[k2]? = some y)
    (hQ : ∀ h', IsZip h' z TI TO (rawInt s.heap.objs.size) → IsPair h' TO x y → CurB b1 h' i1 l1 (k1 + 1) → CurB b2 h' i2 l2 (k2 + 1) → IsPair h' s.heap.objs.size x y → h'.objs.size = s.heap.objs.size + 1 →
      (∀ c o, c ≠ z → c ≠ TO → c ≠ i1 → c ≠ i2 → s.heap.get? c = some o → h'.get? c = some o) → Q (.ref s.heap.objs.size) { s with heap := h' }) :
    wpAny (model prog w) A (Builtin.«zip.__next__» ⟨[.ref z], []⟩) (fun fin s' => ∃ v, fin = .done (.ret v) ∧ Q v s') E s := by
  show wpAny _ _ (field (.ref z) 2 >>= _) _ _ _
  refine wpAny_bind (wpAny_field hz rfl (x := .bool false) rfl ?_)
  show wpAny _ _ (field (.ref z) 3 >>= _) _ _ _
  refine wpAny_bind (wpAny_field hz rfl (x := .ref TI) rfl ?_)
  refine wpAny_bind (wpAny_seqItems hTI rfl ?_)
  show wpAny _ _ (Builtin.SmallTypes.ownedTupleIsFree (.ref z) >>= _) _ _ _
  refine wpAny_bind ?_
  unfold Builtin.SmallTypes.ownedTupleIsFree
  refine wpAny_bind (wpAny_field hz rfl (x := .none) rfl (wpAny_pure ?_))
  simp only [if_true]
  refine wpAny_bind (wpAny_rule ?_)
  refine wpAny_bind (wpAny_field hz rfl (x := .ref TO) rfl ?_)
  refine wpAny_bind (wpAny_setField_rec hz (by simp) fun h₁ hz₁ hs₁ => ?_)
  replace hz₁ : IsZip h₁ z TI TO .ellipsis := hz₁
  refine wpAny_bind ?_
  simp only [List.zipIdx_cons, List.zipIdx_nil, List.forIn_cons, List.forIn_nil]

  refine wpAny_bind (wpAny_bind (wpAny_onRaise ?_))
  show wpAny _ _ (Builtin.SmallTypes.nextOf (.ref i1) >>= _) _ _ _
  refine wpAny_bind (nextOf_item (h1.extBut hs₁.extBut D.i1z) (hl1.extBut hs₁.extBut D.l1z) hx fun h₂ h1₂ hs₂ => wpAny_pure ?_)
  have hTO₂ : IsPair h₂ TO a b := hs₂.extBut _ _ D.TOi1 (hs₁.extBut _ _ D.TOz hTO)
  refine wpAny_bind (wpAny_seqItems hTO₂ rfl ?_)
  refine wpAny_bind (wpAny_updateSeq_pair hTO₂ fun h₃ hTO₃ hs₃ => ?_)
  replace hTO₃ : IsPair h₃ TO x b := hTO₃
  refine wpAny_bind (wpAny_letGo (wpAny_pure ?_))

  refine wpAny_bind (wpAny_bind (wpAny_onRaise ?_))
  show wpAny _ _ (Builtin.SmallTypes.nextOf (.ref i2) >>= _) _ _ _
  refine wpAny_bind (nextOf_item (((h2.extBut hs₁.extBut D.i2z).extBut hs₂.extBut D.i12.symm).extBut hs₃.extBut D.TOi2.symm)
    (((hl2.extBut hs₁.extBut D.l2z).extBut hs₂.extBut D.l2i1).extBut hs₃.extBut D.l2TO) hy fun h₄ h2₄ hs₄ => wpAny_pure ?_)
  have hTO₄ : IsPair h₄ TO x b := hs₄.extBut _ _ D.TOi2 hTO₃
  refine wpAny_bind (wpAny_seqItems hTO₄ rfl ?_)
  refine wpAny_bind (wpAny_updateSeq_pair hTO₄ fun h₅ hTO₅ hs₅ => ?_)
  replace hTO₅ : IsPair h₅ TO x y := hTO₅
  refine wpAny_bind (wpAny_letGo (wpAny_pure (wpAny_pure ?_)))

  refine wpAny_bind (wpAny_seqItems hTO₅ rfl ?_)
  refine wpAny_bind (wpAny_newTuple ?_)
  have hsz : h₅.objs.size = s.heap.objs.size := by rw [hs₅.1, hs₄.1, hs₃.1, hs₂.1, hs₁.1]
  have hz₅ : IsZip h₅ z TI TO .ellipsis := hs₅.extBut _ _ D.TOz.symm (hs₄.extBut _ _ D.i2z.symm (hs₃.extBut _ _ D.TOz.symm (hs₂.extBut _ _ D.i1z.symm hz₁)))
  have hk₅ : ∀ c o, c ≠ z → c ≠ TO → c ≠ i1 → c ≠ i2 → s.heap.get? c = some o → h₅.get? c = some o := fun c o c1 c2 c3 c4 e =>
    hs₅.extBut _ _ c2 (hs₄.extBut _ _ c4 (hs₃.extBut _ _ c2 (hs₂.extBut _ _ c3 (hs₁.extBut _ _ c1 e))))
  have h1₅ : CurB b1 h₅ i1 l1 (k1 + 1) := ((h1₂.extBut hs₃.extBut D.TOi1.symm).extBut hs₄.extBut D.i12).extBut hs₅.extBut D.TOi1.symm
  have h2₅ : CurB b2 h₅ i2 l2 (k2 + 1) := h2₄.extBut hs₅.extBut D.TOi2.symm
  have hzlt : z < h₅.objs.size := Heap.lt_size hz₅
  show wpAny _ _ (Builtin.SmallTypes.ownedTupleHandOut (.ref z) (.ref h₅.objs.size) >>= _) _ _ _
  refine wpAny_bind ?_
  unfold Builtin.SmallTypes.ownedTupleHandOut
  have hz₆ : IsZip (h₅.push { cls := .type "tuple", data := .seq #[x, y] }) z TI TO .ellipsis := Heap.get?_push_of_some _ hz₅
  refine wpAny_bind (wpAny_setField_rec hz₆ (by simp) fun h₇ hz₇ hs₇ => ?_)
  replace hz₇ : IsZip h₇ z TI TO (rawInt h₅.objs.size) := hz₇
  refine wpAny_setField_rec hz₇ (by simp) fun h₈ hz₈ hs₈ => ?_
  replace hz₈ : IsZip h₈ z TI TO (rawInt h₅.objs.size) := hz₈
  have up : ∀ c o, c ≠ z → h₅.get? c = some o → h₈.get? c = some o := fun c o c1 e => hs₈.extBut _ _ c1 (hs₇.extBut _ _ c1 (Heap.get?_push_of_some _ e))
  have hT₈ : IsPair h₈ h₅.objs.size x y := hs₈.extBut _ _ (Nat.ne_of_gt hzlt) (hs₇.extBut _ _ (Nat.ne_of_gt hzlt) (Heap.get?_push_size _ rfl))
  have hz8 : h₈.objs.size = h₅.objs.size + 1 := by rw [hs₈.1, hs₇.1, Heap.size_push]
  rw [hsz] at hz₈ hT₈ hz8
  refine wpAny_pure ⟨_, rfl, ?_⟩
  show Q (.ref h₅.objs.size) _
  rw [hsz]
  exact hQ h₈ hz₈ (up _ _ D.TOz hTO₅) (h1₅.at fun o e => up _ o D.i1z e) (h2₅.at fun o e => up _ o D.i2z e) hT₈ hz8 fun c o c1 c2 c3 c4 e => up c o c1 (hk₅ c o c1 c2 c3 c4 e)
theorem zipN_next_end {b1 b2 : Bool} {z TI TO i1 i2 l1 l2 : Addr} {k1 k2 : Nat} {xs ys : Array Value} {a b : Value} {Q : Fin → Shared → Prop} (hh : A.handled = none) (D : ZipApart z TI TO i1 i2 l1 l2)
    (hz : IsZip s.heap z TI TO .none) (hTI : IsPair s.heap TI (.ref i1) (.ref i2)) (hTO : IsPair s.heap TO a b)
    (h1 : CurB b1 s.heap i1 l1 k1) (h2 : CurB b2 s.heap i2 l2 k2) (hl1 : HasB b1 s.heap l1 xs) (hl2 : HasB b2 s.heap l2 ys) (hx : xs[k1]? = none)
    (hE : ∀ h' e, (∀ c o, c ≠ z → c ≠ TO → c ≠ i1 → c ≠ i2 → s.heap.get? c = some o → h'.get? c = some o) → (∃ o, h'.get? e = some o ∧ o.cls = .type "StopIteration") → E (.ref e) { s with heap := h' }) :
    wpAny (model prog w) A (Builtin.«zip.__next__» ⟨[.ref z], []⟩) Q E s := by
  show wpAny _ _ (field (.ref z) 2 >>= _) _ _ _
  refine wpAny_bind (wpAny_field hz rfl (x := .bool false) rfl ?_)
  show wpAny _ _ (field (.ref z) 3 >>= _) _ _ _
  refine wpAny_bind (wpAny_field hz rfl (x := .ref TI) rfl ?_)
  refine wpAny_bind (wpAny_seqItems hTI rfl ?_)
  show wpAny _ _ (Builtin.SmallTypes.ownedTupleIsFree (.ref z) >>= _) _ _ _
  refine wpAny_bind ?_
  unfold Builtin.SmallTypes.ownedTupleIsFree
  refine wpAny_bind (wpAny_field hz rfl (x := .none) rfl (wpAny_pure ?_))
  simp only [if_true]
  refine wpAny_bind (wpAny_rule ?_)
  refine wpAny_bind (wpAny_field hz rfl (x := .ref TO) rfl ?_)
  refine wpAny_bind (wpAny_setField_rec hz (by simp) fun h₁ hz₁ hs₁ => ?_)
  replace hz₁ : IsZip h₁ z TI TO .ellipsis := hz₁
  refine wpAny_bind ?_
  simp only [List.zipIdx_cons, List.zipIdx_nil, List.forIn_cons, List.forIn_nil]
  refine wpAny_bind (wpAny_bind (wpAny_onRaise ?_))
  show wpAny _ _ (Builtin.SmallTypes.nextOf (.ref i1) >>= _) _ _ _
  refine wpAny_bind (nextOf_end hh (h1.extBut hs₁.extBut D.i1z) (hl1.extBut hs₁.extBut D.l1z) hx fun h₂ e hs₂ he => ?_)
  obtain ⟨oe, hoe, hce⟩ := he
  have hz₂ : IsZip h₂ z TI TO .ellipsis := hs₂ _ _ D.i1z.symm hz₁
  have hez : e ≠ z := fun x => by subst x; rw [hz₂] at hoe; cases hoe; simp at hce
  refine wpAny_setField_rec hz₂ (by simp) fun h₃ _ hs₃ => hE h₃ e (fun c o c1 _ c3 _ x => hs₃.extBut _ _ c1 (hs₂ _ _ c3 (hs₁.extBut _ _ c1 x))) ⟨oe, hs₃.extBut _ _ hez hoe, hce⟩
theorem pyNextN_item {b1 b2 : Bool} {z TI TO i1 i2 l1 l2 : Addr} {k1 k2 : Nat} {xs ys : Array Value} {x y a b : Value} {Q : Option Value → Shared → Prop} (D : ZipApart z TI TO i1 i2 l1 l2)
    (hz : IsZip s.heap z TI TO .none) (hTI : IsPair s.heap TI (.ref i1) (.ref i2)) (hTO : IsPair s.heap TO a b)
    (h1 : CurB b1 s.heap i1 l1 k1) (h2 : CurB b2 s.heap i2 l2 k2) (hl1 : HasB b1 s.heap l1 xs) (hl2 : HasB b2 s.heap l2 ys) (hx : xs[k1]? = some x) (hy : ys[k2]? = some y)
    (hQ : ∀ h', IsZip h' z TI TO (rawInt s.heap.objs.size) → IsPair h' TO x y → CurB b1 h' i1 l1 (k1 + 1) → CurB b2 h' i2 l2 (k2 + 1) → IsPair h' s.heap.objs.size x y → h'.objs.size = s.heap.objs.size + 1 →
      (∀ c o, c ≠ z → c ≠ TO → c ≠ i1 → c ≠ i2 → s.heap.get? c = some o → h'.get? c = some o) → Q (some (.ref s.heap.objs.size)) { s with heap := h' }) :
    wpAny (model prog w) A (pyNext (.ref z)) Q E s := by
  have hT : s.TypeIs (.ref z) "zip" := ⟨_, hz, rfl⟩
  unfold pyNext
  exact wpAny_bind (wpAny_attempt (wpAny_callSpecial?_slot (name := Str.ofString "__next__") hT F.slot_zip_next
    (wpAny_call_entry F.slot_zip_next hT F.entry_zip_next
      (zipN_next_item D hz hTI hTO h1 h2 hl1 hl2 hx hy fun h' a1 a2 a3 a4 a5 a6 a7 => wpAny_pure (hQ h' a1 a2 a3 a4 a5 a6 a7)) (F.args_zip_next_1 _))))
theorem pyNextN_end {b1 b2 : Bool} {z TI TO i1 i2 l1 l2 : Addr} {k1 k2 : Nat} {xs ys : Array Value} {a b : Value} {Q : Option Value → Shared → Prop} (hh : A.handled = none) (D : ZipApart z TI TO i1 i2 l1 l2)
    (hz : IsZip s.heap z TI TO .none) (hTI : IsPair s.heap TI (.ref i1) (.ref i2)) (hTO : IsPair s.heap TO a b)
    (h1 : CurB b1 s.heap i1 l1 k1) (h2 : CurB b2 s.heap i2 l2 k2) (hl1 : HasB b1 s.heap l1 xs) (hl2 : HasB b2 s.heap l2 ys) (hx : xs[k1]? = none)
    (hQ : ∀ h', (∀ c o, c ≠ z → c ≠ TO → c ≠ i1 → c ≠ i2 → s.heap.get? c = some o → h'.get? c = some o) → Q none { s with heap := h' }) : wpAny (model prog w) A (pyNext (.ref z)) Q E s := by
  have hT : s.TypeIs (.ref z) "zip" := ⟨_, hz, rfl⟩
  unfold pyNext
  refine wpAny_bind (wpAny_attempt (wpAny_callSpecial?_slot (name := Str.ofString "__next__") hT F.slot_zip_next
    (wpAny_call_entry F.slot_zip_next hT F.entry_zip_next (zipN_next_end hh D hz hTI hTO h1 h2 hl1 hl2 hx fun h' e hk he => ?_) (F.args_zip_next_1 _))))
  obtain ⟨o, ho, hc⟩ := he
  refine wpAny_bind (wpAny_isInstance (T := "StopIteration") (b := true) ⟨o, ho, hc⟩ isSubtype_stop ?_)
  exact wpAny_pure (hQ _ hk)
end
abbrev zN5 (b1 b2 : Bool) (h : Heap) (l1 l2 : Addr) : Heap := (zH4 b1 b2 h l1 l2).push { cls := .type "zip", data := .fields #[.none, .bool false, .bool false, .ref (zH2 b1 b2 h l1 l2).objs.size, .ref (zH3 b1 b2 h l1 l2).objs.size] }
theorem meets_newN (b1 b2 : Bool) (l1 l2 : Addr) (xs ys : Array Value) :
    Meets (Builtin.«zip.__new__» ⟨[.type "zip", .ref l1, .ref l2], []⟩) (fun _ R s => HasB b1 s.heap l1 xs ∧ HasB b2 s.heap l2 ys ∧
      R (.ok (.ret (.ref (zH4 b1 b2 s.heap l1 l2).objs.size))) { s with heap := zN5 b1 b2 s.heap l1 l2 }) :=
  .of_wp fun prog w A R s h => by
    obtain ⟨hp, g, d, tk, os⟩ := s; obtain ⟨hl1, hl2, h⟩ := h
    have hsub := sub_zip
    cases b1 <;> cases b2
    · have hL1 : Heap.IsList (Shared.heap ⟨hp, g, d, tk, os⟩) l1 xs := hl1
      have hL2 : Heap.IsList (Shared.heap ⟨hp.push { cls := .type "list_iterator", data := .fields #[.ref l1, .int 0 0] }, g, d, tk, os⟩) l2 ys := Heap.IsList.push hl2 _
      wp_walk using wpAny_pyIter_list hL1, wpAny_pyIter_list hL2
      exact ⟨_, rfl, h⟩
    · have hL1 : Heap.IsList (Shared.heap ⟨hp, g, d, tk, os⟩) l1 xs := hl1
      have hL2 : Heap.IsTuple (Shared.heap ⟨hp.push { cls := .type "list_iterator", data := .fields #[.ref l1, .int 0 0] }, g, d, tk, os⟩) l2 ys := Heap.IsTuple.push hl2 _
      wp_walk using wpAny_pyIter_list hL1, wpAny_pyIter_tuple hL2
      exact ⟨_, rfl, h⟩
    · have hL1 : Heap.IsTuple (Shared.heap ⟨hp, g, d, tk, os⟩) l1 xs := hl1
      have hL2 : Heap.IsList (Shared.heap ⟨hp.push { cls := .type "tuple_iterator", data := .fields #[.ref l1, .int 0 0] }, g, d, tk, os⟩) l2 ys := Heap.IsList.push hl2 _
      wp_walk using wpAny_pyIter_tuple hL1, wpAny_pyIter_list hL2
      exact ⟨_, rfl, h⟩
    · have hL1 : Heap.IsTuple (Shared.heap ⟨hp, g, d, tk, os⟩) l1 xs := hl1
      have hL2 : Heap.IsTuple (Shared.heap ⟨hp.push { cls := .type "tuple_iterator", data := .fields #[.ref l1, .int 0 0] }, g, d, tk, os⟩) l2 ys := Heap.IsTuple.push hl2 _
      wp_walk using wpAny_pyIter_tuple hL1, wpAny_pyIter_tuple hL2
      exact ⟨_, rfl, h⟩
section
variable {prog : Program} {w : World} {A : Around} {E : Value → Shared → Prop} {s : Shared}
theorem callN_ {b1 b2 : Bool} {l1 l2 : Addr} {xs ys : Array Value} {Q : Value → Shared → Prop} (hl1 : HasB b1 s.heap l1 xs) (hl2 : HasB b2 s.heap l2 ys)
    (h : ∀ h', IsZip h' (s.heap.objs.size + 4) (s.heap.objs.size + 2) (s.heap.objs.size + 3) .none → IsPair h' (s.heap.objs.size + 2) (.ref s.heap.objs.size) (.ref (s.heap.objs.size + 1)) →
      IsPair h' (s.heap.objs.size + 3) .none .none → CurB b1 h' s.heap.objs.size l1 0 → CurB b2 h' (s.heap.objs.size + 1) l2 0 → h'.objs.size = s.heap.objs.size + 5 →
      (∀ c o, s.heap.get? c = some o → h'.get? c = some o) → Q (.ref (s.heap.objs.size + 4)) { s with heap := h' }) :
    wpAny (model prog w) A (call (.type "zip") [.ref l1, .ref l2]) Q E s := by
  refine callType_new F.called_zip (by decide) (F.typeCall_zip_2 _ _) (F.newCall_zip_2 _ _) (fun obj => F.args_object_init_3 obj _ _) F.entry_zip_new (meets_newN b1 b2 l1 l2 xs ys) ⟨hl1, hl2, ?_⟩
  have z1 : (zH1 b1 s.heap l1).objs.size = s.heap.objs.size + 1 := Heap.size_push ..
  have z2 : (zH2 b1 b2 s.heap l1 l2).objs.size = s.heap.objs.size + 2 := by rw [Heap.size_push, z1]
  have z3 : (zH3 b1 b2 s.heap l1 l2).objs.size = s.heap.objs.size + 3 := by rw [Heap.size_push, z2]
  have z4 : (zH4 b1 b2 s.heap l1 l2).objs.size = s.heap.objs.size + 4 := by rw [Heap.size_push, z3]
  have z5 : (zN5 b1 b2 s.heap l1 l2).objs.size = s.heap.objs.size + 5 := by rw [Heap.size_push, z4]
  have g5 : (zN5 b1 b2 s.heap l1 l2).get? (zH4 b1 b2 s.heap l1 l2).objs.size = some _ := Heap.get?_push_size _ rfl
  have g4 : (zN5 b1 b2 s.heap l1 l2).get? (zH3 b1 b2 s.heap l1 l2).objs.size = some _ := Heap.get?_push_of_some _ (Heap.get?_push_size _ rfl)
  have g3 : (zN5 b1 b2 s.heap l1 l2).get? (zH2 b1 b2 s.heap l1 l2).objs.size = some _ := Heap.get?_push_of_some _ (Heap.get?_push_of_some _ (Heap.get?_push_size _ rfl))
  have g2 : (zN5 b1 b2 s.heap l1 l2).get? (zH1 b1 s.heap l1).objs.size = some _ := Heap.get?_push_of_some _ (Heap.get?_push_of_some _ (Heap.get?_push_of_some _ (Heap.get?_push_size _ rfl)))
  have g1 : (zN5 b1 b2 s.heap l1 l2).get? s.heap.objs.size = some _ := Heap.get?_push_of_some _ (Heap.get?_push_of_some _ (Heap.get?_push_of_some _ (Heap.get?_push_of_some _ (Heap.get?_push_size _ rfl))))
  show _ ∧ _
  rw [z2, z3, z4] at g5
  rw [z1, z2] at g3
  rw [z3] at g4
  rw [z1] at g2
  rw [z4]
  have c1 : CurB b1 (zN5 b1 b2 s.heap l1 l2) s.heap.objs.size l1 0 := by cases b1 <;> exact ⟨_, g1, rfl, rfl⟩
  have c2 : CurB b2 (zN5 b1 b2 s.heap l1 l2) (s.heap.objs.size + 1) l2 0 := by cases b2 <;> exact ⟨_, g2, rfl, rfl⟩
  exact ⟨⟨_, g5, rfl⟩, h _ g5 g3 g4 c1 c2 z5 fun c o x =>
    Heap.get?_push_of_some _ (Heap.get?_push_of_some _ (Heap.get?_push_of_some _ (Heap.get?_push_of_some _ (Heap.get?_push_of_some _ x))))⟩
end
end ZS
namespace CI
open PySem PySem.Spec PyProof.Rows L2 ZS
/-! ### zip(xs, ys) of lists and tuples, of one length -/
/-- the two as they stand at each turn, the items in new pairs; it ends with the first -/
def ItzM (b1 b2 : Bool) (K : PySem.W.Frag) (a b : Addr) : It :=
  ⟨fun i H => ∃ (xs ys : List V) (x y : V), SqB b1 K H a xs ∧ SqB b2 K H b ys ∧ xs[i]? = some x ∧ ys[i]? = some y,
    fun i H v H' => ∃ T x y, v = .ref T ∧ H T = none ∧ H' = upd H T (.tup [x, y]) ∧ (∀ xs, SqB b1 K H a xs → xs[i]? = some x) ∧ ∀ ys, SqB b2 K H b ys → ys[i]? = some y,
    fun i H => ∃ xs ys : List V, SqB b1 K H a xs ∧ SqB b2 K H b ys ∧ xs.length ≤ i⟩
theorem turn_zipM {b1 b2 : Bool} {P : Program} {w : World} {K : PySem.W.Frag} {elts : List Expr} {kk : Nat} {tpos : Pos} {a b z TI TO i1 i2 : Addr} (D : ZipApart z TI TO i1 i2 a b) :
    Turn P w K (.Tuple elts kk tpos) (ItzM b1 b2 K a b) [z, TI, TO, i1, i2] z (fun i h => IsZip h z TI TO .none ∧ IsPair h TI (.ref i1) (.ref i2) ∧ (∃ x y, IsPair h TO x y) ∧ CurB b1 h i1 a i ∧ CurB b2 h i2 b i) where
  mem := by simp
  obj := fun i h st c hc => by
    obtain ⟨hz, hTI, ⟨x, y, hTO⟩, h1, h2⟩ := st
    obtain ⟨o1, e1, d1⟩ := h1.obj
    obtain ⟨o2, e2, d2⟩ := h2.obj
    have e' : c = z ∨ c = TI ∨ c = TO ∨ c = i1 ∨ c = i2 := by simpa using hc
    rcases e' with q | q | q | q | q
    · rw [q]; exact ⟨_, hz, fun v q => nomatch q⟩
    · rw [q]; exact ⟨_, hTI, fun v q => nomatch q⟩
    · rw [q]; exact ⟨_, hTO, fun v q => nomatch q⟩
    · rw [q]; exact ⟨o1, e1, fun v q => by rw [d1] at q; cases q⟩
    · rw [q]; exact ⟨o2, e2, fun v q => by rw [d2] at q; cases q⟩
  keep := fun i h h' st k => by
    obtain ⟨hz, hTI, ⟨x, y, hTO⟩, h1, h2⟩ := st
    exact ⟨k z (by simp) _ hz, k TI (by simp) _ hTI, ⟨x, y, k TO (by simp) _ hTO⟩, h1.at fun o q => k i1 (by simp) o q, h2.at fun o q => k i2 (by simp) o q⟩
  item := by
    intro X hP hw hK hc i pins s σ H E I hf st hg
    subst hP hw hK
    obtain ⟨hz, hTI, ⟨x0, y0, hTO⟩, h1, h2⟩ := st
    obtain ⟨xs, ys, x, y, hqx, hqy, hx, hy⟩ := hg
    obtain ⟨its, rv, p, _⟩ := sqB_inv I hqx
    obtain ⟨its2, rv2, p2, _⟩ := sqB_inv I hqy
    obtain ⟨u, hu, ru⟩ := rv.get hx
    obtain ⟨u2, hu2, ru2⟩ := rv2.get hy
    have hzl : z < s.heap.objs.size := Heap.lt_size hz
    refine pyNextN_item D hz hTI hTO h1 h2 p p2 (x := u) (y := u2) (by simpa using hu) (by simpa using hu2) fun h' z' TO' h1' h2' hT hsz hk => ?_
    refine ⟨_, rfl, wpAny_letOwnedTupleGo_zip (s := { s with heap := h' }) z' fun h'' z'' sb => ?_⟩
    have hT2 : h''.get? s.heap.objs.size = some { cls := .type "tuple", data := .seq #[u, u2] } := (sb.2 _ (Nat.ne_of_gt hzl)).trans hT
    have new : ObjOk X.prog X.w (upd H s.heap.objs.size (.tup [x, y])) h'' s.heap.objs.size (.tup [x, y]) :=
      ⟨by show 2 ≤ sizeLine; decide, [u, u2], .cons ru (.cons ru2 .nil), ⟨_, hT2, rfl, _, rfl⟩⟩
    have I1 : Inv X pins σ (upd H s.heap.objs.size (.tup [x, y])) { s with heap := h'' } :=
      I.turnedNew (t' := s.toks) (ch := [z, TI, TO, i1, i2]) (fun c o hb q => (sb.2 c (fun q' => hb (by simp [q']))).trans (hk c o (fun q' => hb (by simp [q'])) (fun q' => hb (by simp [q'])) (fun q' => hb (by simp [q'])) (fun q' => hb (by simp [q'])) q)) hf (Nat.le_refl _) new
    refine ⟨.ref s.heap.objs.size, _, I1, rfl, ⟨_, x, y, rfl, I.hok.fresh (Nat.le_refl _), rfl, fun l hl => by rw [sqB_inj I hl hqx]; exact hx, fun l hl => by rw [sqB_inj I hl hqy]; exact hy⟩, ⟨z'', ?_, ⟨u, u2, ?_⟩, ?_, ?_⟩, fun c hcm => ?_⟩
    · exact (sb.2 _ D.TIz).trans (hk _ _ D.TIz D.TITO D.TIi1 D.TIi2 hTI)
    · exact (sb.2 _ D.TOz).trans TO'
    · exact h1'.at fun o q => (sb.2 _ D.i1z).trans q
    · exact h2'.at fun o q => (sb.2 _ D.i2z).trans q
    · have hlt : c < s.heap.objs.size := by
        have e' : c = z ∨ c = TI ∨ c = TO ∨ c = i1 ∨ c = i2 := by simpa using hcm
        rcases e' with q | q | q | q | q
        · rw [q]; exact hzl
        · rw [q]; exact Heap.lt_size hTI
        · rw [q]; exact Heap.lt_size hTO
        · rw [q]; obtain ⟨_, e1, _⟩ := h1.obj; exact Heap.lt_size e1
        · rw [q]; obtain ⟨_, e2, _⟩ := h2.obj; exact Heap.lt_size e2
      rw [upd_ne (Nat.ne_of_lt hlt)]
      exact (hf c hcm).1
  done := by
    intro X hP hw hK hc i pins s σ H E I hf st hg
    subst hP hw hK
    obtain ⟨hz, hTI, ⟨x0, y0, hTO⟩, h1, h2⟩ := st
    obtain ⟨xs, ys, hqx, hqy, e1⟩ := hg
    obtain ⟨its, rv, p, _⟩ := sqB_inv I hqx
    obtain ⟨its2, rv2, p2, _⟩ := sqB_inv I hqy
    have l1 := rv.length
    have l2 := rv2.length
    exact pyNextN_end (I.ok.hd hc) D hz hTI hTO h1 h2 p p2 (by simp; omega) fun h' hk => ⟨rfl, I.turnedL (t' := s.toks) (ch := [z, TI, TO, i1, i2]) (fun c o hb q =>
      hk c o (fun q' => hb (by simp [q'])) (fun q' => hb (by simp [q'])) (fun q' => hb (by simp [q'])) (fun q' => hb (by simp [q'])) q) hf⟩
  self := fun A i s Q E st h => wpAny_pyIter_zip st.1 h
def tZipM (K : PySem.W.Frag) (t : TA) : TI := fun σ H R => t σ H fun vs H2 => ∃ b1 b2 a b xs ys, vs = [.ref a, .ref b] ∧ SqB b1 K H2 a xs ∧ SqB b2 K H2 b ys ∧ R (ItzM b1 b2 K a b) H2
theorem pi_zipM {X : Cx} {e e2 : Expr} {t : TA} {p pos tpos : Pos} {elts : List Expr} {kk : Nat} (hg : Gl X "zip") (hm : X.mg "zip" = none) (ha : PA X [e, e2] t) (hn : ([e, e2].all notStar) = true) :
    PI X (.Tuple elts kk tpos) (.Call (.Name "zip" p) [e, e2] [] pos) (tZipM X.K t) := by
  refine ⟨fun pins s σ H R I h => ?_⟩
  have hn2 : notStar e = true ∧ notStar e2 = true := by simpa using hn
  refine Call_ (ld_blt I hg hm PyProof.Rows.boot_zip (PyProof.Rows.callWith_type1 (thn (ha.run pos pins s σ H _ I h) fun us s2 ⟨vs, H2, I2, r1, b1, b2, a, b, xs, ys, ev, hqx, hqy, q⟩ => ?_) (star_cons hn2.1) (star_any (by simp [hn2.2]))))
  subst ev
  cases r1 with
  | cons r rr =>
    cases rr with
    | cons r' rr =>
      cases rr
      cases r
      cases r'
      obtain ⟨its, rv, p1, la⟩ := sqB_inv I2 hqx
      obtain ⟨its2, rv2, p2, lb⟩ := sqB_inv I2 hqy
      refine ZS.callN_ p1 p2 fun h' hz hTI hTO h1 h2 hsz hk => wpAny_pyIter_zip hz ?_
      have I3 : Inv X pins σ H2 { s2 with heap := h' } := I2.kept (t' := s2.toks) hk
      refine ⟨s2.heap.objs.size + 4, [s2.heap.objs.size + 4, s2.heap.objs.size + 2, s2.heap.objs.size + 3, s2.heap.objs.size, s2.heap.objs.size + 1], _, _, H2, rfl, I3, turn_zipM (PySem.W.ktu_apart s2.heap.objs.size a b la lb), ⟨hz, hTI, ⟨_, _, hTO⟩, h1, h2⟩, fun c hcm => ?_, q⟩
      have e' : c = s2.heap.objs.size + 4 ∨ c = s2.heap.objs.size + 2 ∨ c = s2.heap.objs.size + 3 ∨ c = s2.heap.objs.size ∨ c = s2.heap.objs.size + 1 := by simpa using hcm
      have hle : s2.heap.objs.size ≤ c := by
        rcases e' with z | z | z | z | z
        · rw [z]; exact Nat.le_add_right _ _
        · rw [z]; exact Nat.le_add_right _ _
        · rw [z]; exact Nat.le_add_right _ _
        · rw [z]; exact Nat.le_refl _
        · rw [z]; exact Nat.le_add_right _ _
      exact I2.fpOk hle (I2.hok.fresh hle)
def iZipM (d : Da) : Da := fun s h => (d s h).bind fun vs h2 => match vs with
  | [v1, v2] => match give v1 h2 with
    | some (p1, h3) => match give v2 h3 with
      | some (p2, h4) => match seqB p1, seqB p2 with
        | some (_, xs), some (_, ys) => if xs.length = ys.length then .ok (zipA xs ys) h4 else .stuck
        | _, _ => .stuck
      | none => .stuck
    | none => .stuck
  | _ => .stuck
section
variable {X : Cx} {E : XK}
theorem isIt_zipM {b1 b2 : Bool} {G : Gx} {av1 α1 : List Addr} {H1 : Hp} {a b : Addr} {vs us : List V} {ps qs : List Pv} (h1 : ∀ av α H, Later av1 α1 H1 av α H → SqB b1 G.K H a vs) (h2 : ∀ av α H, Later av1 α1 H1 av α H → SqB b2 G.K H b us) (q1 : RepPs G av1 H1 ps vs) (q2 : RepPs G av1 H1 qs us)
    (hl : ps.length = qs.length) : IsIt G (ItzM b1 b2 G.K a b) av1 α1 H1 (zipA ps qs) where
  go := (isIt_zipS (b1 := b1) (b2 := b2) (α1 := α1) h1 h2 q1 q2 hl).go
  yld := (isIt_zipS (b1 := b1) (b2 := b2) (α1 := α1) h1 h2 q1 q2 hl).yld
  stop := fun av α H lt => ⟨vs, us, h1 _ _ _ lt, h2 _ _ _ lt, by rw [zipA_len hl, q1.length]; exact Nat.le_refl _⟩
theorem si_zipM {e e2 : Expr} {da : Da} {p pos tpos : Pos} {elts : List Expr} {kk : Nat} (hg : Gl X "zip") (hm : X.mg "zip" = none) (hn : ([e, e2].all notStar) = true) (ha : SA X E [e, e2] da) :
    SI X E (.Tuple elts kk tpos) (.Call (.Name "zip" p) [e, e2] [] pos) (iZipM da) := by
  refine PI.imp (pi_zipM hg hm ha hn) fun σ H R ⟨base, α, s, h, Rl, S, P⟩ => ?_
  refine ⟨base, α, s, h, Rl, S, Pst.bind P fun vs h1 α1 us H1 x1 R1 q1 P2 => ?_⟩
  split at P2
  · rename_i v1 v2
    obtain ⟨u1, r, rfl, r1, r2⟩ := q1
    obtain ⟨u2, r', rfl, r3, r4⟩ := r2
    have r4 : r' = [] := r4
    subst r4
    split at P2
    · rename_i p1 h3 e3
      obtain ⟨R3, x3, _, g1⟩ := give_ok _ _ _ _ _ _ _ _ _ e3 R1 r1
      split at P2
      · rename_i p2 h4 e4
        obtain ⟨R4, x4, _, g2⟩ := give_ok _ _ _ _ _ _ _ _ _ e4 R3 (x3.va r3)
        split at P2
        · rename_i b1 xs b2 ys e5 e6
          split at P2
          · rename_i hl
            obtain ⟨a, vs, rfl, a1, a2⟩ := seqB_at (α1 := α1) e5 (x4.pv (G := gx X) g1)
            obtain ⟨b, us, rfl, b1', b2'⟩ := seqB_at (α1 := α1) e6 g2
            exact ⟨b1, b2, a, b, vs, us, rfl, a1 _ _ _ .refl, b1' _ _ _ .refl, (Pst.step x4 (Pst.step x3 P2)).same R4 (isIt_zipM a1 b1' a2 b2' hl)⟩
          · exact P2.elim
        · exact P2.elim
      · exact P2.elim
    · exact P2.elim
  · exact P2.elim
end
end CI
namespace CI
open PySem PySem.Spec PyProof.Rows L2
/-! ### list(xs) that will be changed; xs.pop(i) -/
def bListM : Fn := fun vs h => match vs with
  | [v] => match rdl h v with
    | some xs => .ok (.ref h.length) (h ++ [.lst xs])
    | none => .stuck
  | _ => .stuck
theorem rvs_erase {G : Gx} {av α : List Addr} {H : Hp} : ∀ {xs : List Va} {vs : List V} (k : Nat), RepVs G av α H xs vs → RepVs G av α H (xs.eraseIdx k) (vs.eraseIdx k)
  | [], vs, k, r => by
    have r : vs = [] := r
    subst r
    exact (rfl : ([] : List V).eraseIdx k = [])
  | x :: xs, vs, 0, ⟨v, w, e, r1, r2⟩ => by
    subst e
    exact r2
  | x :: xs, vs, k + 1, ⟨v, w, e, r1, r2⟩ => by
    subst e
    exact ⟨v, w.eraseIdx k, rfl, r1, rvs_erase k r2⟩
def popL (x : Va) (i : Int) (h : Hh) : Res Va := match x, lstOf h x with
  | .ref r, some xs => match seqIndex? i xs.length with
    | some k => match xs[k]? with
      | some v => if -(2 ^ 63) ≤ i ∧ i < 2 ^ 63 then .ok v (h.set r (.lst (xs.eraseIdx k))) else .stuck
      | none => .stuck
    | none => .stuck
  | _, _ => .stuck
def dPop (d : Dn) (da : Da) : Dn := fun s h => (d s h).bind fun x h1 => match lstOf h1 x with
  | some _ => (da s h1).bind fun vs h2 => match vs with
    | [.pv (.int i)] => popL x i h2
    | _ => .stuck
  | none => .stuck
section
variable {X : Cx} {E : XK} {o e : Expr} {d : Dn} {da : Da} {pos apos : Pos}
theorem cs_listM : CalS X E bListM (fun xs H Q => ∃ p ys, xs = [.ref p] ∧ (SqL X.K H p ys ∨ SqT X.K H p ys) ∧ ∀ l, H l = none → Q (.ref l) (upd H l (.lst ys))) := by
  intro base α h H us vs Q R q P
  unfold bListM at P
  split at P
  · obtain ⟨v, e, q1⟩ := rvs1 q
    split at P
    · rename_i xs hxs
      obtain ⟨a, ws, e2, t, q2⟩ := rdl_ok R q1 hxs
      refine ⟨a, ws, by rw [e, e2], t, fun l nl => ?_⟩
      obtain ⟨R2, x2⟩ := R.alloc (ob := .lst xs) (o := .lst ws) nl fun ev => ⟨ws, upd_same, ev.vas (G := gx X) q2⟩
      exact P _ _ _ x2 R2 ⟨l, by rw [List.getElem?_append_right (by rw [R.len]; exact Nat.le_refl _), R.len, Nat.sub_self]; rfl, rfl⟩
    · exact P.elim
  · exact P.elim
theorem se_pop (hs : notSuper o = true) (hn : notStar e = true) (hp : (apos.endLine == pos.line) = true) (ho : SE X E o d) (ha : SA X E [e] da) : SE X E (.Call (.Attribute o "pop" apos) [e] [] pos) (dPop d da) := by
  have few : ((backTo pos (starEach [e] X.env)).all (fun x => !x.1) && (backToKw pos (keywordEach [] X.env)).all (fun x => x.1.isSome) && decide (([e] : List Expr).length + ([] : List Keyword).length + (if ([] : List Keyword).isEmpty then 0 else 1) < 30)) = true := by
    rw [star_cons hn]; rfl
  refine PE.imp (pe_bm PySem.F.plainAttrs_list PySem.F.slot_list_pop PySem.F.type_list_pop mt_popAt ho ha (base_id hs) few hp (star_cons hn) rfl) fun σ H Q ⟨base, α, s, h, R, S, P⟩ => ?_
  refine ⟨base, α, s, h, R, S, Pst.bind P fun x h1 α1 u H1 x1 R1 q1 P1 => ?_⟩
  split at P1
  · rename_i xs e1
    obtain ⟨n, a, vs, rfl, ea, eh, rfl, eH, q2⟩ := lstOf_ok R1 q1 e1
    refine ⟨.inl ⟨rfl, vs, SqL.of eH⟩, base, α1, s, h1, R1, x1.sl S, P1.bind fun ws h2 α2 zs H2 x2 R2 q3 P2 => ?_⟩
    split at P2
    · rename_i i
      unfold popL at P2
      split at P2
      · rename_i r ys e2
        split at P2
        · rename_i k hk
          split at P2
          · rename_i v hv
            split at P2
            · rename_i hi
              rename_i hx
              obtain ⟨w, zs', rfl, q4, q5⟩ := q3
              have q5 : zs' = [] := q5
              subst q5
              have q4 : w = .int i := rv_int.mp q4
              subst q4
              obtain ⟨n2, a2, vs2, hn2, ea2, eh2, hu2, eH2, q6⟩ := lstOf_ok R2 (x2.va q1) e2
              cases hn2
              cases hu2
              cases ys
              obtain ⟨y, hy, ry⟩ := q6.get hv
              refine ⟨_, vs2, i, k, y, rfl, rfl, eH2, hi.1, hi.2, by rw [← q6.length]; exact hk, hy, ?_⟩
              have key := R2.write (o := .lst (vs2.eraseIdx k)) (ob' := .lst (r.eraseIdx k)) ea2 eh2 rfl rfl fun ev => ⟨_, upd_same, rvs_erase k (ev.vas (G := gx X) q6)⟩
              exact P2 α2 y _ key.2 key.1 (key.2.va (G := gx X) ry)
            · exact P2.elim
          · exact P2.elim
        · exact P2.elim
      · exact P2.elim
    · exact P2.elim
  · exact P1.elim
end
end CI
namespace CI
open PySem PySem.Spec PyProof.Rows L2
/-! ### name *= e, ints -/
section
variable {X : Cx} {E : XK}
theorem op_imulG : OpR X (inplaceOp .Mult) (L2.rI (fun i j => mulOk i j = true) fun i j => .int (i * j)) := opI fun _ _ _ _ _ _ _ hc q => imul_int q (mulOk_int hc)
def ipMulG : TIp := fun x y H Q => ∃ i j, x = .int i ∧ y = .int j ∧ mulOk i j = true ∧ Q (.int (i * j)) H
theorem ip_mulG : PIp X .Mult ipMulG := by
  intro pins s σ H x y v u Q I r1 r2 h
  obtain ⟨i, j, rfl, rfl, hm, q⟩ := h
  exact op_imulG pins s σ H (.int i) (.int j) v u Q I r1 r2 ⟨i, j, rfl, rfl, hm, q⟩
def sMulN (i : Nat) (d : Dn) : Sn := fun s h => match s[i]? with
  | some (some (.pv (.int a))) => sBind (d s h) fun z h1 => match intOf z with
    | some b => if mulOk a b then .nx (s.set i (some (.pv (.int (a * b))))) h1 else .stuck
    | none => .stuck
  | _ => .stuck
theorem ss_mulN {i : Nat} {x : Str} {e : Expr} {d : Dn} {p pos : Pos} (hN : X.N.Nodup) (hi : X.N[i]? = some x) (hx : Loc X.env.scope x) (hf : X.fn x = true ∨ X.env.scope.names.lookup x = some .local) (he : SE X E e d) : SS X E (.AugAssign (.Name x p) .Mult e pos) (sMulN i d) := by
  refine PS.imp (ps_aug hN hi hx he ip_mulG hf) fun D σ H ⟨base, α, s, h, R, S, P⟩ => ?_
  unfold sMulN at P
  split at P
  · rename_i a ha
    obtain ⟨w, ew, qw⟩ := S.2 i _ ha
    have qw : w = .int a := rv_int.mp qw
    subst qw
    refine ⟨.int a, ew, base, α, s, h, R, S, PstS.bind P fun z h1 α1 u1 H1 x1 R1 q1 P1 => ?_⟩
    split at P1
    · rename_i b hb
      rw [intOf_ok hb] at q1
      split at P1
      · rename_i hm
        refine ⟨a, b, rfl, rv_int.mp q1, hm, ?_⟩
        exact P1 α1 _ H1 .refl R1 ((x1.sl S).set i (rv_int.mpr rfl))
      · exact P1.elim
    · exact P1.elim
  · exact P.elim
end
end CI
namespace CI
open PySem PySem.Spec PyProof.Rows L2 ZS
/-! ### zip(xs, ys, zs) of lists and tuples, of one length -/
theorem drawsB {prog : Program} {w : World} {A : Around} {b : Bool} (hh : A.handled = none) (it l : Addr) (hne : l ≠ it) (items : Array Value) :
    Draws prog w A it [it, l] items.size (fun i v => items[i]? = some v) (fun i h => CurB b h it l i ∧ HasB b h l items) where
  live := fun _ _ st => let ⟨o, ho, _⟩ := st.1.obj; ⟨o, ho⟩
  frame := fun _ _ _ st hk => ⟨st.1.at fun o e => hk it (by simp) o e, by
    have h2 := st.2
    cases b
    · exact Heap.IsList.at h2 fun o e => hk l (by simp) o e
    · obtain ⟨o, ho, r⟩ := h2
      exact ⟨o, hk l (by simp) o ho, r⟩⟩
  item := fun i s Q E hi st hQ => by
    refine nextOf_item st.1 st.2 (x := items[i]) (by simp [hi]) fun h' hit' hs' => ?_
    exact hQ _ _ s.toks (by simp [hi]) ⟨hit', st.2.extBut hs'.extBut hne⟩ hs'
  done := fun s Q E st hE => nextOf_end hh st.1 st.2 (by simp) hE
theorem beginsB (b : Bool) (l : Addr) (items : Array Value) : Begins (.ref l) { cls := .type (ZS.cls b), data := .fields #[.ref l, .int 0 0] } fun h => HasB b h l items := by
  cases b
  · exact begins_list l items
  · exact begins_tuple l items
def Itz3 (b1 b2 b3 : Bool) (K : PySem.W.Frag) (a b c : Addr) : It :=
  ⟨fun i H => ∃ (xs ys zs : List V) (x y z : V), SqB b1 K H a xs ∧ SqB b2 K H b ys ∧ SqB b3 K H c zs ∧ xs[i]? = some x ∧ ys[i]? = some y ∧ zs[i]? = some z,
    fun i H v H' => ∃ T x y z, v = .ref T ∧ H T = none ∧ H' = upd H T (.tup [x, y, z]) ∧ (∀ xs, SqB b1 K H a xs → xs[i]? = some x) ∧ (∀ ys, SqB b2 K H b ys → ys[i]? = some y) ∧ ∀ zs, SqB b3 K H c zs → zs[i]? = some z,
    fun i H => ∃ xs ys zs : List V, SqB b1 K H a xs ∧ SqB b2 K H b ys ∧ SqB b3 K H c zs ∧ xs.length = i ∧ ys.length = i ∧ zs.length = i⟩
theorem sep3 {n a b c : Nat} (ha : a < n) (hb : b < n) (hc : c < n) : ZipSep3 (n + 5) (n + 3) (n + 4) n (n + 1) (n + 2) [n, a] [n + 1, b] [n + 2, c] := by
  have nm : ∀ x y z : Nat, x ≠ y → x ≠ z → x ∉ ([y, z] : List Nat) := fun x y z h1 h2 hm => by
    rcases List.mem_cons.mp hm with q | q
    · exact h1 q
    · exact h2 (List.mem_singleton.mp q)
  constructor
  all_goals first | (change (@Ne Nat _ _); omega) | (exact List.mem_cons_self ..) | (exact nm _ _ _ (by omega) (by omega))
theorem turn_zip3 {b1 b2 b3 : Bool} {P : Program} {w : World} {K : PySem.W.Frag} {elts : List Expr} {kk : Nat} {tpos : Pos} {a b c n : Nat} (ha : a < n) (hb : b < n) (hc : c < n) :
    Turn P w K (.Tuple elts kk tpos) (Itz3 b1 b2 b3 K a b c) [n + 5, n + 3, n + 4, n, n + 1, n + 2] (n + 5) (fun i h => IsZip h (n + 5) (n + 3) (n + 4) .none ∧ IsTupOf3 h (n + 3) (.ref n) (.ref (n + 1)) (.ref (n + 2)) ∧ (∃ x y z, IsTupOf3 h (n + 4) x y z) ∧ CurB b1 h n a i ∧ CurB b2 h (n + 1) b i ∧ CurB b3 h (n + 2) c i) where
  mem := by simp
  obj := fun i h st d hd => by
    obtain ⟨hz, hTI, ⟨x, y, z, hTO⟩, h1, h2, h3⟩ := st
    obtain ⟨o1, e1, d1⟩ := h1.obj
    obtain ⟨o2, e2, d2⟩ := h2.obj
    obtain ⟨o3, e3, d3⟩ := h3.obj
    have e' : d = n + 5 ∨ d = n + 3 ∨ d = n + 4 ∨ d = n ∨ d = n + 1 ∨ d = n + 2 := by simpa using hd
    rcases e' with q | q | q | q | q | q
    · rw [q]; exact ⟨_, hz, fun v q => nomatch q⟩
    · rw [q]; exact ⟨_, hTI, fun v q => nomatch q⟩
    · rw [q]; exact ⟨_, hTO, fun v q => nomatch q⟩
    · rw [q]; exact ⟨o1, e1, fun v q => by rw [d1] at q; cases q⟩
    · rw [q]; exact ⟨o2, e2, fun v q => by rw [d2] at q; cases q⟩
    · rw [q]; exact ⟨o3, e3, fun v q => by rw [d3] at q; cases q⟩
  keep := fun i h h' st k => by
    obtain ⟨hz, hTI, ⟨x, y, z, hTO⟩, h1, h2, h3⟩ := st
    exact ⟨k (n + 5) (by simp) _ hz, k (n + 3) (by simp) _ hTI, ⟨x, y, z, k (n + 4) (by simp) _ hTO⟩, h1.at fun o q => k n (by simp) o q, h2.at fun o q => k (n + 1) (by simp) o q, h3.at fun o q => k (n + 2) (by simp) o q⟩
  item := by
    intro X hP hw hK hcl i pins s σ H E I hf st hg
    subst hP hw hK
    obtain ⟨hz, hTI, ⟨x0, y0, z0, hTO⟩, h1, h2, h3⟩ := st
    obtain ⟨xs, ys, zs, x, y, z, hqx, hqy, hqz, hx, hy, hzz⟩ := hg
    obtain ⟨its, rv, p, _⟩ := sqB_inv I hqx
    obtain ⟨its2, rv2, p2, _⟩ := sqB_inv I hqy
    obtain ⟨its3, rv3, p3, _⟩ := sqB_inv I hqz
    obtain ⟨u, hu, ru⟩ := rv.get hx
    obtain ⟨u2, hu2, ru2⟩ := rv2.get hy
    obtain ⟨u3, hu3, ru3⟩ := rv3.get hzz
    have hh := I.ok.hd hcl
    have hzl : n + 5 < s.heap.objs.size := Heap.lt_size hz
    have lt1 : i < its.toArray.size := by rw [List.size_toArray]; exact (List.getElem?_eq_some_iff.mp hu).1
    have lt2 : i < its2.toArray.size := by rw [List.size_toArray]; exact (List.getElem?_eq_some_iff.mp hu2).1
    have lt3 : i < its3.toArray.size := by rw [List.size_toArray]; exact (List.getElem?_eq_some_iff.mp hu3).1
    refine wpAny_pyNext_zipD3_item (sep3 ha hb hc) (drawsB (A := X.A.in1) hh n a (Nat.ne_of_lt ha) its.toArray) (drawsB (A := X.A.in1) hh (n + 1) b (Nat.ne_of_lt (Nat.lt_succ_of_lt hb)) its2.toArray) (drawsB (A := X.A.in1) hh (n + 2) c (Nat.ne_of_lt (Nat.lt_succ_of_lt (Nat.lt_succ_of_lt hc))) its3.toArray) hz hTI hTO ⟨h1, p⟩ ⟨h2, p2⟩ ⟨h3, p3⟩ lt1 lt2 lt3
      fun v1 v2 v3 h' tk y1 y2 y3 z' TO' s1' s2' s3' hT hsz hk => ?_
    have ev1 : v1 = u := by have y1 : its[i]? = some v1 := by simpa using y1
                            rw [hu] at y1; cases y1; rfl
    have ev2 : v2 = u2 := by have y2 : its2[i]? = some v2 := by simpa using y2
                             rw [hu2] at y2; cases y2; rfl
    have ev3 : v3 = u3 := by have y3 : its3[i]? = some v3 := by simpa using y3
                             rw [hu3] at y3; cases y3; rfl
    subst ev1 ev2 ev3
    refine ⟨_, rfl, wpAny_letOwnedTupleGo_zip (s := { s with heap := h', toks := tk }) z' fun h'' z'' sb => ?_⟩
    have hT2 : h''.get? s.heap.objs.size = some { cls := .type "tuple", data := .seq #[v1, v2, v3] } := (sb.2 _ (Nat.ne_of_gt hzl)).trans hT
    have new : ObjOk X.prog X.w (upd H s.heap.objs.size (.tup [x, y, z])) h'' s.heap.objs.size (.tup [x, y, z]) :=
      ⟨by show 3 ≤ sizeLine; decide, [v1, v2, v3], .cons ru (.cons ru2 (.cons ru3 .nil)), ⟨_, hT2, rfl, _, rfl⟩⟩
    have I1 : Inv X pins σ (upd H s.heap.objs.size (.tup [x, y, z])) { s with heap := h'', toks := tk } :=
      I.turnedNew (t' := tk) (ch := [n + 5, n + 3, n + 4, n, n + 1, n + 2]) (fun d o hb q => (sb.2 d (fun q' => hb (by simp [q']))).trans (hk d o (fun q' => hb (by simp [q'])) (fun q' => hb (by simp [q'])) (fun q' => hb (by simp [q'])) (fun q' => hb (by simp [q'])) (fun q' => hb (by simp [q'])) q)) hf (Nat.le_refl _) new
    refine ⟨.ref s.heap.objs.size, _, I1, rfl, ⟨_, x, y, z, rfl, I.hok.fresh (Nat.le_refl _), rfl, fun l hl => by rw [sqB_inj I hl hqx]; exact hx, fun l hl => by rw [sqB_inj I hl hqy]; exact hy, fun l hl => by rw [sqB_inj I hl hqz]; exact hzz⟩, ⟨z'', ?_, ⟨v1, v2, v3, ?_⟩, ?_, ?_, ?_⟩, fun d hdm => ?_⟩
    · exact (sb.2 _ (by change (@Ne Nat _ _); omega)).trans (hk _ _ (by change (@Ne Nat _ _); omega) (by change (@Ne Nat _ _); omega) (by change (@Ne Nat _ _); omega) (by change (@Ne Nat _ _); omega) (by change (@Ne Nat _ _); omega) hTI)
    · exact (sb.2 _ (by change (@Ne Nat _ _); omega)).trans TO'
    · exact s1'.1.at fun o q => (sb.2 _ (by change (@Ne Nat _ _); omega)).trans q
    · exact s2'.1.at fun o q => (sb.2 _ (by change (@Ne Nat _ _); omega)).trans q
    · exact s3'.1.at fun o q => (sb.2 _ (by change (@Ne Nat _ _); omega)).trans q
    · have hlt : d < s.heap.objs.size := by
        have e' : d = n + 5 ∨ d = n + 3 ∨ d = n + 4 ∨ d = n ∨ d = n + 1 ∨ d = n + 2 := by simpa using hdm
        have hzl : (n + 5 : Nat) < s.heap.objs.size := hzl
        rcases e' with q | q | q | q | q | q <;> rw [q]
        · exact hzl
        all_goals exact Nat.lt_of_le_of_lt (by first | exact Nat.le_add_right _ _ | (change (@LE.le Nat _ _ _); omega)) hzl
      rw [upd_ne (Nat.ne_of_lt hlt)]
      exact (hf d hdm).1
  done := by
    intro X hP hw hK hcl i pins s σ H E I hf st hg
    subst hP hw hK
    obtain ⟨hz, hTI, ⟨x0, y0, z0, hTO⟩, h1, h2, h3⟩ := st
    obtain ⟨xs, ys, zs, hqx, hqy, hqz, e1, e2, e3⟩ := hg
    obtain ⟨its, rv, p, _⟩ := sqB_inv I hqx
    obtain ⟨its2, rv2, p2, _⟩ := sqB_inv I hqy
    obtain ⟨its3, rv3, p3, _⟩ := sqB_inv I hqz
    have l1 := rv.length
    have l2 := rv2.length
    have l3 := rv3.length
    have hh := I.ok.hd hcl
    have s1 : its.toArray.size = i := by rw [List.size_toArray]; omega
    have s2 : its2.toArray.size = i := by rw [List.size_toArray]; omega
    have s3 : its3.toArray.size = i := by rw [List.size_toArray]; omega
    exact wpAny_pyNext_zipD3_end (sep3 ha hb hc) (drawsB (A := X.A.in1) hh n a (Nat.ne_of_lt ha) its.toArray) (drawsB (A := X.A.in1) hh (n + 1) b (Nat.ne_of_lt (Nat.lt_succ_of_lt hb)) its2.toArray) (drawsB (A := X.A.in1) hh (n + 2) c (Nat.ne_of_lt (Nat.lt_succ_of_lt (Nat.lt_succ_of_lt hc))) its3.toArray) hz hTI hTO ⟨h1, p⟩ ⟨h2, p2⟩ ⟨h3, p3⟩ (Nat.le_of_eq s1.symm) (Nat.le_of_eq s2.symm) (Nat.le_of_eq s3.symm) (.inl s1.symm)
      fun h' tk hk => ⟨rfl, I.turnedL (t' := tk) (ch := [n + 5, n + 3, n + 4, n, n + 1, n + 2]) (fun d o hb q =>
        hk d o (fun q' => hb (by simp [q'])) (fun q' => hb (by simp [q'])) (fun q' => hb (by simp [q'])) (fun q' => hb (by simp [q'])) (fun q' => hb (by simp [q'])) q) hf⟩
  self := fun A i s Q E st h => wpAny_pyIter_zip st.1 h
end CI
namespace CI
open PySem PySem.Spec PyProof.Rows L2 ZS
def tZip3 (K : PySem.W.Frag) (t : TA) : TI := fun σ H R => t σ H fun vs H2 => ∃ b1 b2 b3 a b c xs ys zs, vs = [.ref a, .ref b, .ref c] ∧ SqB b1 K H2 a xs ∧ SqB b2 K H2 b ys ∧ SqB b3 K H2 c zs ∧ R (Itz3 b1 b2 b3 K a b c) H2
theorem pi_zip3 {X : Cx} {e e2 e3 : Expr} {t : TA} {p pos tpos : Pos} {elts : List Expr} {kk : Nat} (hg : Gl X "zip") (hm : X.mg "zip" = none) (ha : PA X [e, e2, e3] t) (hn : ([e, e2, e3].all notStar) = true) :
    PI X (.Tuple elts kk tpos) (.Call (.Name "zip" p) [e, e2, e3] [] pos) (tZip3 X.K t) := by
  refine ⟨fun pins s σ H R I h => ?_⟩
  have hn2 : notStar e = true ∧ notStar e2 = true ∧ notStar e3 = true := by simpa using hn
  refine Call_ (ld_blt I hg hm PyProof.Rows.boot_zip (PyProof.Rows.callWith_type1 (thn (ha.run pos pins s σ H _ I h) fun us s2 ⟨vs, H2, I2, r1, b1, b2, b3, a, b, c, xs, ys, zs, ev, hqx, hqy, hqz, q⟩ => ?_) (star_cons hn2.1) (star_any (by simp [hn2.2.1, hn2.2.2]))))
  subst ev
  cases r1 with
  | cons r rr =>
    cases rr with
    | cons r' rr =>
      cases rr with
      | cons r'' rr =>
        cases rr
        cases r
        cases r'
        cases r''
        obtain ⟨its, rv, p1, la⟩ := sqB_inv I2 hqx
        obtain ⟨its2, rv2, p2, lb⟩ := sqB_inv I2 hqy
        obtain ⟨its3, rv3, p3, lc⟩ := sqB_inv I2 hqz
        refine zip_begins3 (beginsB b1 a its.toArray) (beginsB b2 b its2.toArray) (beginsB b3 c its3.toArray) p1 p2 p3 fun h' hz hTI hTO h1 h2 h3 hsz hk => wpAny_pyIter_zip hz ?_
        have I3 : Inv X pins σ H2 { s2 with heap := h' } := I2.kept (t' := s2.toks) hk
        have c1 : CurB b1 h' s2.heap.objs.size a 0 := by cases b1 <;> exact ⟨_, h1, rfl, rfl⟩
        have c2 : CurB b2 h' (s2.heap.objs.size + 1) b 0 := by cases b2 <;> exact ⟨_, h2, rfl, rfl⟩
        have c3 : CurB b3 h' (s2.heap.objs.size + 2) c 0 := by cases b3 <;> exact ⟨_, h3, rfl, rfl⟩
        refine ⟨s2.heap.objs.size + 5, [s2.heap.objs.size + 5, s2.heap.objs.size + 3, s2.heap.objs.size + 4, s2.heap.objs.size, s2.heap.objs.size + 1, s2.heap.objs.size + 2], _, _, H2, rfl, I3, turn_zip3 la lb lc, ⟨hz, hTI, ⟨_, _, _, hTO⟩, c1, c2, c3⟩, fun d hdm => ?_, q⟩
        have e' : d = s2.heap.objs.size + 5 ∨ d = s2.heap.objs.size + 3 ∨ d = s2.heap.objs.size + 4 ∨ d = s2.heap.objs.size ∨ d = s2.heap.objs.size + 1 ∨ d = s2.heap.objs.size + 2 := by simpa using hdm
        have hle : s2.heap.objs.size ≤ d := by
          rcases e' with z | z | z | z | z | z
          · rw [z]; exact Nat.le_add_right _ _
          · rw [z]; exact Nat.le_add_right _ _
          · rw [z]; exact Nat.le_add_right _ _
          · rw [z]; exact Nat.le_refl _
          · rw [z]; exact Nat.le_add_right _ _
          · rw [z]; exact Nat.le_add_right _ _
        exact I2.fpOk hle (I2.hok.fresh hle)
/-- the threes -/
def zipA3 : List Pv → List Pv → List Pv → List Va
  | p :: ps, q :: qs, r :: rs => .pv (.tup [p, q, r]) :: zipA3 ps qs rs
  | _, _, _ => []
theorem zipA3_len : ∀ {ps qs rs : List Pv}, ps.length = qs.length → ps.length = rs.length → (zipA3 ps qs rs).length = ps.length
  | [], [], [], _, _ => rfl
  | p :: ps, q :: qs, r :: rs, h, h' => by
    rw [zipA3, List.length_cons, List.length_cons, zipA3_len (by simpa using h) (by simpa using h')]
theorem zipA3_get : ∀ {ps qs rs : List Pv} {i : Nat} {x : Va}, (zipA3 ps qs rs)[i]? = some x → ∃ p q r, ps[i]? = some p ∧ qs[i]? = some q ∧ rs[i]? = some r ∧ x = .pv (.tup [p, q, r])
  | [], _, _, i, x, e => by simp [zipA3] at e
  | _ :: _, [], _, i, x, e => by simp [zipA3] at e
  | _ :: _, _ :: _, [], i, x, e => by simp [zipA3] at e
  | p :: ps, q :: qs, r :: rs, 0, x, e => by
    simp [zipA3] at e
    exact ⟨p, q, r, rfl, rfl, rfl, e.symm⟩
  | p :: ps, q :: qs, r :: rs, i + 1, x, e => by
    rw [zipA3, List.getElem?_cons_succ] at e
    obtain ⟨p', q', r', e1, e2, e3, e4⟩ := zipA3_get e
    exact ⟨p', q', r', by simpa using e1, by simpa using e2, by simpa using e3, e4⟩
def iZip3 (d : Da) : Da := fun s h => (d s h).bind fun vs h1 => match vs with
  | [v1, v2, v3] => match give v1 h1 with
    | some (p1, h2) => match give v2 h2 with
      | some (p2, h3) => match give v3 h3 with
        | some (p3, h4) => match seqB p1, seqB p2, seqB p3 with
          | some (_, xs), some (_, ys), some (_, zs) => if xs.length = ys.length ∧ xs.length = zs.length then .ok (zipA3 xs ys zs) h4 else .stuck
          | _, _, _ => .stuck
        | none => .stuck
      | none => .stuck
    | none => .stuck
  | _ => .stuck
section
variable {X : Cx} {E : XK}
theorem isIt_zip3 {b1 b2 b3 : Bool} {G : Gx} {av1 α1 : List Addr} {H1 : Hp} {a b c : Addr} {vs us ws : List V} {ps qs rs : List Pv} (h1 : ∀ av α H, Later av1 α1 H1 av α H → SqB b1 G.K H a vs) (h2 : ∀ av α H, Later av1 α1 H1 av α H → SqB b2 G.K H b us) (h3 : ∀ av α H, Later av1 α1 H1 av α H → SqB b3 G.K H c ws)
    (q1 : RepPs G av1 H1 ps vs) (q2 : RepPs G av1 H1 qs us) (q3 : RepPs G av1 H1 rs ws) (hl : ps.length = qs.length) (hl' : ps.length = rs.length) : IsIt G (Itz3 b1 b2 b3 G.K a b c) av1 α1 H1 (zipA3 ps qs rs) where
  go := fun i av α H hi lt => by
    rw [zipA3_len hl hl'] at hi
    exact ⟨vs, us, ws, vs[i]'(by rw [← q1.length]; exact hi), us[i]'(by rw [← q2.length, ← hl]; exact hi), ws[i]'(by rw [← q3.length, ← hl']; exact hi), h1 _ _ _ lt, h2 _ _ _ lt, h3 _ _ _ lt, List.getElem?_eq_getElem _, List.getElem?_eq_getElem _, List.getElem?_eq_getElem _⟩
  yld := fun i x base α h H u H' e R lt y => by
    obtain ⟨T, w, w2, w3, rfl, nT, rfl, hx, hy, hz⟩ := y
    obtain ⟨p, q, r, e1, e2, e3, rfl⟩ := zipA3_get e
    obtain ⟨w', d3, rp⟩ := (RepPs.mono lt.mono q1).get e1
    have e4 := hx vs (h1 _ _ _ lt)
    rw [d3] at e4
    cases e4
    obtain ⟨w2', d5, rq⟩ := (RepPs.mono lt.mono q2).get e2
    have e6 := hy us (h2 _ _ _ lt)
    rw [d5] at e6
    cases e6
    obtain ⟨w3', d7, rr⟩ := (RepPs.mono lt.mono q3).get e3
    have e8 := hz ws (h3 _ _ _ lt)
    rw [d7] at e8
    cases e8
    obtain ⟨R', ev⟩ := R.laid (o := .tup [w, w2, w3]) nT
    refine ⟨ev, R', rv_tup.mpr ⟨T, _, rfl, .inl ⟨.inl upd_same, R.avoids nT⟩, ?_⟩⟩
    exact repPs_cons.mpr ⟨_, _, rfl, ev.pv (G := G) rp, repPs_cons.mpr ⟨_, _, rfl, ev.pv (G := G) rq, RepPs.one (ev.pv (G := G) rr)⟩⟩
  stop := fun av α H lt => ⟨vs, us, ws, h1 _ _ _ lt, h2 _ _ _ lt, h3 _ _ _ lt, by rw [zipA3_len hl hl', q1.length], by rw [zipA3_len hl hl', hl, q2.length], by rw [zipA3_len hl hl', hl', q3.length]⟩
theorem si_zip3 {e e2 e3 : Expr} {da : Da} {p pos tpos : Pos} {elts : List Expr} {kk : Nat} (hg : Gl X "zip") (hm : X.mg "zip" = none) (hn : ([e, e2, e3].all notStar) = true) (ha : SA X E [e, e2, e3] da) :
    SI X E (.Tuple elts kk tpos) (.Call (.Name "zip" p) [e, e2, e3] [] pos) (iZip3 da) := by
  refine PI.imp (pi_zip3 hg hm ha hn) fun σ H R ⟨base, α, s, h, Rl, S, P⟩ => ?_
  refine ⟨base, α, s, h, Rl, S, Pst.bind P fun vs h1 α1 us H1 x1 R1 q1 P2 => ?_⟩
  split at P2
  · rename_i v1 v2 v3
    obtain ⟨u1, r, rfl, r1, r2⟩ := q1
    obtain ⟨u2, r', rfl, r3, r4⟩ := r2
    obtain ⟨u3, r'', rfl, r5, r6⟩ := r4
    have r6 : r'' = [] := r6
    subst r6
    split at P2
    · rename_i p1 h2 e3
      obtain ⟨R3, x3, _, g1⟩ := give_ok _ _ _ _ _ _ _ _ _ e3 R1 r1
      split at P2
      · rename_i p2 h3 e4
        obtain ⟨R4, x4, _, g2⟩ := give_ok _ _ _ _ _ _ _ _ _ e4 R3 (x3.va r3)
        split at P2
        · rename_i p3 h4 e5
          obtain ⟨R5, x5, _, g3⟩ := give_ok _ _ _ _ _ _ _ _ _ e5 R4 ((x3.trans x4).va r5)
          split at P2
          · rename_i b1 xs b2 ys b3 zs d5 d6 d7
            split at P2
            · rename_i hl
              obtain ⟨a, vs, rfl, a1, a2⟩ := seqB_at (α1 := α1) d5 ((x4.trans x5).pv (G := gx X) g1)
              obtain ⟨b, us, rfl, b1', b2'⟩ := seqB_at (α1 := α1) d6 (x5.pv (G := gx X) g2)
              obtain ⟨c, ws, rfl, c1', c2'⟩ := seqB_at (α1 := α1) d7 g3
              exact ⟨b1, b2, b3, a, b, c, vs, us, ws, rfl, a1 _ _ _ .refl, b1' _ _ _ .refl, c1' _ _ _ .refl, (Pst.step x5 (Pst.step x4 (Pst.step x3 P2))).same R5 (isIt_zip3 a1 b1' c1' a2 b2' c2' hl.1 hl.2)⟩
            · exact P2.elim
          · exact P2.elim
        · exact P2.elim
      · exact P2.elim
    · exact P2.elim
  · exact P2.elim
end
end CI
namespace CI
open PySem PySem.Spec PyProof.Rows L2

/-! ### from the text to its reading -/
structure FnI where
  x : Str
  ps : List Str
  dfl : List (Str × Pv)
  pur : Bool
  F : Fn
  pats : List (Nat × List Str)
/-- a class's method; its first parameter is the instance -/
structure MtI where
  c : Str
  m : Str
  i : FnI
structure Ct where
  N : List Str
  sc : Scope
  blk : Option Scope
  fns : List FnI
  gls : List (Str × Pv)
  bis : List Str
  /-- lists that are handed back are changed by the caller -/
  retM : Bool
  /-- names that hold lists which are changed -/
  muts : List Str
  /-- attributes, and the classes whose instances have them -/
  flds : List (Str × List Str)
  mts : List MtI
  /-- classes that are made: their __init__ -/
  mks : List FnI
  /-- tables of defs -/
  tabs : List (Str × List (Str × Str))
  /-- exceptions' classes -/
  excs : List Str
def findN : List Str → Str → Nat → Option Nat
  | [], _, _ => none
  | y :: r, x, i => if y = x then some i else findN r x (i + 1)
theorem findN_at : ∀ {N : List Str} {x : Str} {i j : Nat}, findN N x i = some j → i ≤ j ∧ N[j - i]? = some x
  | y :: r, x, i, j, h => by
    unfold findN at h
    split at h
    · rename_i e
      cases h
      subst e
      exact ⟨Nat.le_refl _, by rw [Nat.sub_self]; rfl⟩
    · obtain ⟨h1, h2⟩ := findN_at h
      refine ⟨by omega, ?_⟩
      rw [show j - i = (j - (i + 1)) + 1 by omega]
      simpa using h2
theorem findN_ok {N : List Str} {x : Str} {j : Nat} (h : findN N x 0 = some j) : N[j]? = some x := (findN_at h).2
/-- the values by the parameters' order: the first n by place, those named ks, those named ms -/
def pickO {α : Type} (n : Nat) (ks ms : List Str) (us mv ws : List α) : Nat → List Str → List α
  | _, [] => []
  | i, p :: r => (if i < n then us[i]? else match findN ks p 0 with
    | some j => ws[j]?
    | none => match findN ms p 0 with
      | some j => mv[j]?
      | none => none).toList ++ pickO n ks ms us mv ws (i + 1) r
def lackP (dfl : List (Str × Pv)) (ks : List Str) : List (Str × Pv) := dfl.filter fun q => !ks.contains q.1
def asmP (ps : List Str) (dfl : List (Str × Pv)) (n : Nat) (ks : List Str) : List Va → List Va → List Va := fun us ws => pickO n ks ((lackP dfl ks).map (·.1)) us ((lackP dfl ks).map fun q => .pv q.2) ws 0 ps
abbrev lackF (i : FnI) (ks : List Str) : List (Str × Pv) := lackP i.dfl ks
abbrev asmF (i : FnI) (n : Nat) (ks : List Str) : List Va → List Va → List Va := asmP i.ps i.dfl n ks
structure Recs where
  E : Ct → Expr → Option Dn
  T : Ct → Expr → Option Dt
def isVis : Option NameKind → Bool
  | some .local => true
  | some .cell => true
  | some .free => true
  | _ => false
def noDbg (x : Str) : Bool := !(x == ("__debug__" : Str)) && !(x == ("__classdict__" : Str)) && decide (x ≠ ("__name__" : Str))
def tyOf (x : Str) : Option String :=
  if x = ("int" : Str) then some "int" else if x = ("bool" : Str) then some "bool" else if x = ("str" : Str) then some "str" else if x = ("tuple" : Str) then some "tuple" else if x = ("list" : Str) then some "list" else none
def evName (ct : Ct) (x : Str) : Option Dn := if noDbg x then (if isVis (ct.sc.names.lookup x) then (findN ct.N x 0).map dVar
  else if ct.sc.names.lookup x = some .globalImplicit then (match ct.gls.lookup x with
    | some p => some (dC p)
    | none => if x ∈ ct.bis then (tyOf x).map fun T => dC (.ty T) else none) else none) else none
def evA (r : Recs) (ct : Ct) : List Expr → Option Da
  | [] => some daNil
  | e :: es => if notStar e then (match r.E ct e, evA r ct es with
    | some d, some da => some (daCons d da)
    | _, _ => none) else none
def evK (r : Recs) (ct : Ct) : List Keyword → Option Da
  | [] => some daNil
  | ⟨_, e, _⟩ :: es => match r.E ct e, evK r ct es with
    | some d, some da => some (daCons d da)
    | _, _ => none
def bMax : Fn := fun vs h => match vs with
  | [_, _] => bMax2 vs h
  | _ => bMax1 vs h
def bMin : Fn := fun vs h => match vs with
  | [_, _] => bMin2 vs h
  | [.pv (.tup ps)] => bMinT [.pv (.tup ps)] h
  | _ => bMin1 vs h
def biOf (x : Str) : Option Fn :=
  if x = ("abs" : Str) then some bAbs else if x = ("len" : Str) then some bLen else if x = ("max" : Str) then some bMax else if x = ("min" : Str) then some bMin
  else if x = ("sum" : Str) then some bSumG else if x = ("divmod" : Str) then some bDivmod else if x = ("repr" : Str) then some bRepr else if x = ("all" : Str) then some bAll else if x = ("any" : Str) then some bAny
  else if x = ("isinstance" : Str) then some bIsi else none
def biTOf (x : Str) : Option Fn :=
  if x = ("int" : Str) then some bInt else if x = ("str" : Str) then some bStr else if x = ("tuple" : Str) then some bTuple else if x = ("list" : Str) then some bList else none
def findF : List FnI → Str → Option FnI
  | [], _ => none
  | i :: r, x => if i.x = x then some i else findF r x
theorem findF_ok : ∀ {l : List FnI} {x : Str} {i : FnI}, findF l x = some i → i ∈ l ∧ i.x = x
  | j :: r, x, i, h => by
    unfold findF at h
    split at h
    · rename_i e; cases h; exact ⟨List.mem_cons_self, e⟩
    · obtain ⟨h1, h2⟩ := findF_ok h; exact ⟨List.mem_cons_of_mem _ h1, h2⟩
def isGlob (ct : Ct) (x : Str) : Bool := decide (ct.sc.names.lookup x = some .globalImplicit) && noDbg x
def evCall (r : Recs) (ct : Ct) (x : Str) (args : List Expr) (kws : List Keyword) : Option Dn :=
  if isGlob ct x && args.all notStar && kws.all (fun k => k.arg.isSome) then (match findF ct.fns x with
    | some i => if (args.length, kws.filterMap (·.arg)) ∈ i.pats then (match evA r ct args, evK r ct kws with
      | some da, some dk => if i.pur then some (dCallP i.F args.length (kws.filterMap (·.arg)).length (asmF i args.length (kws.filterMap (·.arg))) da dk)
        else some (dCall i.F args.length (kws.filterMap (·.arg)).length (asmF i args.length (kws.filterMap (·.arg))) da dk)
      | _, _ => none) else none
    | none => match findF ct.mks x with
      | some i => if (args.length + 1, kws.filterMap (·.arg)) ∈ i.pats then (match evA r ct args, evK r ct kws with
        | some da, some dk => some (dMake i.x i.F args.length (kws.filterMap (·.arg)).length (asmF i (args.length + 1) (kws.filterMap (·.arg))) da dk)
        | _, _ => none) else none
      | none => if x ∈ ct.bis ∧ kws.isEmpty ∧ !args.isEmpty then (match evA r ct args with
      | some da => (match biOf x with
        | some f => some (dBi f da)
        | none => match biTOf x with
          | some f => some (dBi f da)
          | none => none)
      | none => none) else none) else none
/-- the defs that may be called so by a name of the def's own -/
def tabF (n : Nat) : List FnI → List (Str × MtE)
  | [] => []
  | i :: r => if (n, []) ∈ i.pats then (i.x, (i.pur, i.F, asmF i n [])) :: tabF n r else tabF n r
def evCallV (r : Recs) (ct : Ct) (x : Str) (args : List Expr) (kws : List Keyword) : Option Dn :=
  if noDbg x && args.all notStar && kws.isEmpty && !args.isEmpty then (match findN ct.N x 0, evA r ct args with
    | some i, some da => some (dCallV i (tabF args.length ct.fns) args.length da)
    | _, _ => none) else none
/-- len({x for x in it}) -/
def evLenSet (r : Recs) (ct : Ct) (y z : Str) (it : Expr) (scope : Scope) : Option Dn :=
  if ct.sc.names.lookup ("len" : Str) = some .globalImplicit ∧ ("len" : Str) ∈ ct.bis ∧ setBlk scope y = true ∧ y = z ∧ notSetE it = true then (r.E ct it).map dLenSet else none
where
  notSetE : Expr → Bool
    | .Set .. => false
    | _ => true
/-- the classes that have the method, asked so -/
def tabOf (m : Str) (n : Nat) (ks : List Str) : List MtI → List (Str × MtE)
  | [] => []
  | j :: r => if j.m = m ∧ (n, ks) ∈ j.i.pats then (j.c, (j.i.pur, j.i.F, asmF j.i n ks)) :: tabOf m n ks r else tabOf m n ks r
def evMeth (r : Recs) (ct : Ct) (o : Expr) (m : Str) (apos : Pos) (args : List Expr) (kws : List Keyword) (pos : Pos) : Option Dn :=
  if notSuper o && args.all notStar && kws.all (fun k => k.arg.isSome) && decide (args.length + kws.length < 29) && (apos.endLine == pos.line) && !(tabOf m (args.length + 1) (kws.filterMap (·.arg)) ct.mts).isEmpty then (match r.E ct o, evA r ct args, evK r ct kws with
    | some d, some da, some dk => some (dMeth (tabOf m (args.length + 1) (kws.filterMap (·.arg)) ct.mts) m args.length (kws.filterMap (·.arg)).length d da dk)
    | _, _, _ => none) else none
def evTg (ct : Ct) : Expr → Option Tg
  | .Name x _ => match findN ct.N x 0 with
    | some i => match ct.sc.names.lookup x with
      | some .local => some (gNm i)
      | some .cell => match ct.blk with
        | none => some (gNm i)
        | some s => if s.names.lookup x = some .cell then some (gNm i) else none
      | _ => none
    | none => none
  | _ => none
def evTgs (f : Expr → Option Tg) : List Expr → Option Tgs
  | [] => some gsNil
  | e :: es => if notStar e then (match f e, evTgs f es with
    | some t, some r => some (gsCons t r)
    | _, _ => none) else none
/-- a name, a tuple of names, one within another -/
def evTg1 (ct : Ct) (f : Expr → Option Tg) : Expr → Option Tg
  | .Tuple es _ _ => if es.all notStar then (evTgs f es).map (gTu es.length) else none
  | e => evTg ct e
def evTgt (ct : Ct) : Expr → Option Tg := evTg1 ct (evTg1 ct (evTg ct))
def notSet : Expr → Bool
  | .Set .. => false
  | _ => true
def evIt (r : Recs) (ct : Ct) (tg e : Expr) : Option Da := match e with
  | .Call (.Name x _) args [] _ => if x = ("range" : Str) then (if ct.sc.names.lookup ("range" : Str) = some .globalImplicit ∧ ("range" : Str) ∈ ct.bis then (match args with
      | [_] => (evA r ct args).map iRng1
      | [_, _] => (evA r ct args).map iRng2
      | _ => none) else none) else if x = ("enumerate" : Str) then (if ct.sc.names.lookup ("enumerate" : Str) = some .globalImplicit ∧ ("enumerate" : Str) ∈ ct.bis then (match args, tg with
      | [_], .Tuple _ _ _ => (evA r ct args).map iEnm
      | _, _ => none) else none) else if x = ("zip" : Str) then (if ct.sc.names.lookup ("zip" : Str) = some .globalImplicit ∧ ("zip" : Str) ∈ ct.bis then (match args, tg with
      | [_, _], .Tuple _ _ _ => (evA r ct args).map iZipM
      | [_, _, _], .Tuple _ _ _ => (evA r ct args).map iZip3
      | _, _ => none) else none) else (r.E ct e).map iSeq
  | .Call (.Name x _) args [⟨some k, ev, _⟩] _ => if x = ("zip" : Str) ∧ k = ("strict" : Str) then (if ct.sc.names.lookup ("zip" : Str) = some .globalImplicit ∧ ("zip" : Str) ∈ ct.bis then (match args, tg with
      | [_, _], .Tuple _ _ _ => (match evA r ct args, r.E ct ev with
        | some da, some dk => some (iZipS da (daCons dk daNil))
        | _, _ => none)
      | _, _ => none) else none) else none
  | e => if notSet e then (r.E ct e).map iSeq else none
def ownOf (N : List Str) (sc : Scope) : List (Str × Nat) := sc.names.filterMap fun y => match y.2 with
  | .local => (findN N y.1 0).map fun i => (y.1, i)
  | .cell => (findN N y.1 0).map fun i => (y.1, i)
  | _ => none
/-- the parts of a comprehension -/
def evComp (r : Recs) (ct : Ct) (elt : Expr) (gs : List Comprehension) (scope : Scope) : Option Dn := match gs with
  | [⟨tg, it, ifs, 0⟩] => if blkC ct.N ct.sc scope (ownOf ct.N scope) && notSet it then (
      match evIt r ct tg it, evTgt { ct with sc := relS scope ct.sc, blk := some scope } tg, r.E { ct with sc := relS scope ct.sc, blk := some scope } elt with
      | some da, some t, some d => if t.slots.all (fun i => decide (i ∈ (ownOf ct.N scope).map (·.2))) then (match ifs with
          | [] => some (dComp da ((ownOf ct.N scope).map (·.2)) t tYesD d)
          | [c] => (r.T { ct with sc := relS scope ct.sc, blk := some scope } c).map fun tc => dComp da ((ownOf ct.N scope).map (·.2)) t tc d
          | _ => none) else none
      | _, _, _ => none) else none
  | _ => none
def evAndV (r : Recs) (ct : Ct) (op : BoolOp) : List Expr → Option Dn
  | [] => none
  | [e] => r.E ct e
  | e :: e2 :: es => match r.E ct e, evAndV r ct op (e2 :: es) with
    | some a, some b => some (match op with | .And => dAnd a b | .Or => dOr a b)
    | _, _ => none
def evAndT (r : Recs) (ct : Ct) (op : BoolOp) : List Expr → Option Dt
  | [] => none
  | [e] => r.T ct e
  | e :: e2 :: es => match r.T ct e, evAndT r ct op (e2 :: es) with
    | some a, some b => some (match op with | .And => tAnd a b | .Or => tOr a b)
    | _, _ => none
def evBin (op : Operator) : Option Op2 := match op with
  | .Add => some oAdd
  | .Sub => some oSub
  | .Mult => some oMul
  | .FloorDiv => some oDiv
  | .Mod => some oMod
  | .Pow => some oPow
  | _ => none
/-- a comparison, as a value -/
def evCmp (r : Recs) (ct : Ct) (a : Expr) (ops : List CmpOp) (bs : List Expr) : Option Dn := match ops, bs with
  | [.Is], [.Constant .none _ _] => (r.E ct a).map (dIsN false)
  | [.IsNot], [.Constant .none _ _] => (r.E ct a).map (dIsN true)
  | [op], [b] => match inOp op with
    | some neg => if behindInMarks op b then none else (match r.E ct a, r.E ct b with
      | some da, some db => some (dBin (oIn neg) da db)
      | _, _ => none)
    | none => match cmpOp op, r.E ct a, r.E ct b with
      | some f, some da, some db => some (dBin f da db)
      | _, _, _ => none
  | [op, op'], [b, c] => match cmpOp op, cmpOp op', r.E ct a, r.E ct b, r.E ct c with
    | some f, some g, some da, some db, some dc => some (dChn f g da db dc)
    | _, _, _, _, _ => none
  | _, _ => none
/-- the pairs of a display -/
def evDic (r : Recs) (ct : Ct) : List (Option Expr) → List Expr → Option (List (Dn × Dn))
  | [], [] => some []
  | some k :: ks, v :: vs => match r.E ct k, r.E ct v, evDic r ct ks vs with
    | some a, some b, some l => some ((a, b) :: l)
    | _, _, _ => none
  | _, _ => none
/-- a slice's bound -/
def evO (r : Recs) (ct : Ct) : Option Expr → Option (Option Dn)
  | none => some none
  | some e => (r.E ct e).map some
def evApp (r : Recs) (ct : Ct) (o : Expr) (apos : Pos) (args : List Expr) (kws : List Keyword) (pos : Pos) : Option Dn := match args, kws with
  | [e], [] => if notSuper o && notStar e && (apos.endLine == pos.line) then (match r.E ct o, evA r ct [e] with
    | some d, some da => some (dApp d da)
    | _, _ => none) else none
  | _, _ => none
def evPop (r : Recs) (ct : Ct) (o : Expr) (apos : Pos) (args : List Expr) (kws : List Keyword) (pos : Pos) : Option Dn := match args, kws with
  | [e], [] => if notSuper o && notStar e && (apos.endLine == pos.line) then (match r.E ct o, evA r ct [e] with
    | some d, some da => some (dPop d da)
    | _, _ => none) else none
  | _, _ => none
def evGet (r : Recs) (ct : Ct) (o : Expr) (apos : Pos) (args : List Expr) (kws : List Keyword) (pos : Pos) : Option Dn := match args, kws with
  | [e, f], [] => if notSuper o && notStar e && notStar f && (apos.endLine == pos.line) then (match r.E ct o, r.E ct e, r.E ct f with
    | some d, some dk, some dx => some (dDget d dk dx)
    | _, _, _ => none) else none
  | _, _ => none
def stepE (r : Recs) (ct : Ct) : Expr → Option Dn
  | .Name x _ => evName ct x
  | .Constant (.int i) _ _ => some (dC (.int i))
  | .Constant (.bool i) _ _ => some (dC (.bl i))
  | .Constant (.str i) _ _ => some (dC (.str i))
  | .Constant .none _ _ => some (dC .non)
  | .BinOp (.List es p) .Mult b _ => match r.E ct (.List es p), r.E ct b with
    | some da, some db => some (dBin oMulG da db)
    | _, _ => none
  | .BinOp (.Tuple es k p) .Mult b _ => match r.E ct (.Tuple es k p), r.E ct b with
    | some da, some db => some (dBin oMulG da db)
    | _, _ => none
  | .BinOp a op b _ => match evBin op, r.E ct a, r.E ct b with
    | some f, some da, some db => some (dBin f da db)
    | _, _, _ => none
  | .UnaryOp .USub a _ => (r.E ct a).map dNeg
  | .UnaryOp .Not a _ => (r.E ct a).map dNot
  | .Compare a ops bs _ => evCmp r ct a ops bs
  | .BoolOp op es _ => evAndV r ct op es
  | .IfExp c a b _ => match r.T ct c, r.E ct a, r.E ct b with
    | some t, some da, some db => some (dIf t da db)
    | _, _, _ => none
  | .Tuple es _ _ => (evA r ct es).map dTup
  | .List es _ => (evA r ct es).map dLst
  | .Dict ks vs _ => if ks.all (·.isSome) && decide (ks.length = vs.length) && !ks.isEmpty && decide (ks.length ≤ 15) then (evDic r ct ks vs).map dDic else none
  | .Subscript a (.Slice lo hi none _) _ => match r.E ct a, evO r ct lo, evO r ct hi with
    | some d, some l, some u => some (dSl d l u)
    | _, _, _ => none
  | .Subscript a (.Slice none none (some k) _) _ => match r.E ct a, r.E ct k with
    | some d, some dk => some (dRev d dk)
    | _, _ => none
  | .Subscript (.Name x p) i q => match ct.tabs.lookup x with
    | some kfs => if isGlob ct x && plainI i then (r.E ct i).map (dTab kfs) else none
    | none => if plainI i then (match r.E ct (.Name x p), r.E ct i with
      | some da, some di => some (dBin oIdx da di)
      | _, _ => none) else none
  | .Subscript a i _ => if plainI i then (match r.E ct a, r.E ct i with
    | some da, some di => some (dBin oIdx da di)
    | _, _ => none) else none
  | .Call (.Name x _) [.SetComp (.Name y _) [⟨.Name z _, it, [], 0⟩] scope _] [] _ => if x = ("len" : Str) then evLenSet r ct y z it scope else none
  | .Call (.Name x _) args kws _ => if isVis (ct.sc.names.lookup x) then evCallV r ct x args kws else evCall r ct x args kws
  | .Call (.Attribute o m apos) args kws pos => if m = ("append" : Str) then evApp r ct o apos args kws pos else if m = ("get" : Str) then evGet r ct o apos args kws pos else if m = ("pop" : Str) then evPop r ct o apos args kws pos else evMeth r ct o m apos args kws pos
  | .Attribute o f _ => if notSuper o then (match ct.flds.lookup f with
    | some L => (r.E ct o).map (dAttr L f)
    | none => none) else none
  | .ListComp elt gs scope _ => evComp r ct elt gs scope
  | _ => none
def stepT (r : Recs) (ct : Ct) : Expr → Option Dt
  | .Compare a ops bs _ => (evCmp r ct a ops bs).map tVB
  | .BoolOp op es _ => evAndT r ct op es
  | .UnaryOp .Not a _ => (r.T ct a).map tNot
  | .Call f args kws p => (r.E ct (.Call f args kws p)).map tVal
  | .Name x p => (r.E ct (.Name x p)).map tVal
  | .Subscript a i p => (r.E ct (.Subscript a i p)).map tVal
  | .Constant c k p => (r.E ct (.Constant c k p)).map tVal
  | .Attribute o f p => (r.E ct (.Attribute o f p)).map tVal
  | _ => none
def recs : Nat → Recs
  | 0 => ⟨fun _ _ => none, fun _ _ => none⟩
  | n + 1 => ⟨stepE (recs n), stepT (recs n)⟩

/-! ### what stands around -/
structure Okx (ct : Ct) (X : Cx) (E : XK) : Prop where
  N : X.N = ct.N
  nd : ct.N.Nodup
  sc : X.env.scope = ct.sc
  kind : ct.sc.kind = .function
  calm : X.calm = true
  fn : match ct.blk with
    | none => ∀ x, X.fn x = true
    | some s => ∀ x, X.fn x = (s.names.lookup x == some .cell)
  gd : X.A.guards = some []
  un : X.A.units + 64 < cLine
  ps : Passes (L2.CX X.prog X.w) X E
  tk : TakesE X E
  fr : ct.blk = none → X.stack = X.env :: X.outer ∧ X.env.frame = some X.env.locals
  tabs : ∀ t ∈ ct.tabs, TabAt X t.1 t.2
  excs : ∀ x ∈ ct.excs, ExcAt X x
  fns : ∀ i ∈ ct.fns, ∀ q ∈ i.pats, ∃ k, Room k X.A ∧ DefAt X i.x k i.ps i.F q.1 q.2 (asmF i q.1 q.2)
  gls : ∀ g ∈ ct.gls, ∃ u v, X.mg g.1 = some u ∧ RelV v u ∧ Stat (gx X) g.2 v
  bis : ∀ x ∈ ct.bis, X.mg x = none
  flds : ∀ q ∈ ct.flds, ∀ c ∈ q.2, FldOk (gx X) c q.1
  mts : ∀ j ∈ ct.mts, ∀ q ∈ j.i.pats, ∃ k, Room k X.A ∧ MethAt X j.c j.m k j.i.ps j.i.F q.1 q.2 (asmF j.i q.1 q.2)
  mks : ∀ i ∈ ct.mks, ∀ q ∈ i.pats, ∃ k, Room (k + 1) X.A ∧ MakeAt X i.x k i.ps i.F q.1 q.2 (asmF i q.1 q.2)
structure Sound (r : Recs) : Prop where
  E : ∀ ct e d, r.E ct e = some d → ∀ X E, Okx ct X E → SE X E e d
  T : ∀ ct e d, r.T ct e = some d → ∀ X E, Okx ct X E → STt X E e d
section
variable {r : Recs} {ct : Ct} {X : Cx} {E : XK}
theorem noDbg_ok {x : Str} (h : noDbg x = true) : (x == ("__debug__" : Str)) = false ∧ (x == ("__classdict__" : Str)) = false ∧ x ≠ "__name__" := by
  unfold noDbg at h
  simp only [Bool.and_eq_true, Bool.not_eq_true', decide_eq_true_eq] at h
  exact ⟨h.1.1, h.1.2, h.2⟩
theorem isVis_ok {sc : Scope} {x : Str} (h : isVis (sc.names.lookup x) = true) : Vis sc x := by
  unfold isVis at h
  split at h
  · rename_i e; exact .inl e
  · rename_i e; exact .inr (.inl e)
  · rename_i e; exact .inr (.inr e)
  · cases h
theorem lookup_mem {α : Type} {l : List (Str × α)} {x : Str} {p : α} (h : l.lookup x = some p) : (x, p) ∈ l := PySem.mem_of_lookup h
theorem glob_of (K : Okx ct X E) {x : Str} (h : ct.sc.names.lookup x = some .globalImplicit) : Gl X x := by
  show X.env.scope.names.lookup x = _
  rw [K.sc]; exact h
/-- a built-in type's name as a value -/
theorem se_tyN {x : Str} {T : String} {pos : Pos} (hg : Gl X x) (hm : X.mg x = none) (hv : bootBuiltins x = some (.type T)) (hn : x ≠ "__name__") (hd : (x == ("__debug__" : Str)) = false) : SE X E (.Name x pos) (dC (.ty T)) :=
  PE.imp (pe_bltn (v := .ty T) hg hm hv rfl hn hd) fun σ H Q ⟨base, α, s, h, R, S, P⟩ => P.same R (rv_ty.mpr rfl)
theorem boot_ty {x : Str} {T : String} (h : tyOf x = some T) : bootBuiltins x = some (.type T) := by
  unfold tyOf at h
  repeat (split at h; · rename_i e; cases h; subst e; decide +kernel)
  cases h
theorem name_ok (K : Okx ct X E) {x : Str} {pos : Pos} {d : Dn} (h : evName ct x = some d) : SE X E (.Name x pos) d := by
  unfold evName at h
  split at h
  · rename_i hd
    obtain ⟨n1, n2, n3⟩ := noDbg_ok hd
    split at h
    · rename_i hv
      obtain ⟨i, h1, h2⟩ := Option.map_eq_some_iff.mp h
      subst h2
      exact se_var (by rw [K.N]; exact findN_ok h1) (by rw [K.sc]; exact isVis_ok hv) n1 n2
    · split at h
      · rename_i hg
        have hg := glob_of K hg
        split at h
        · rename_i p hp
          cases h
          exact se_glob hg (K.gls _ (lookup_mem hp)) n1
        · split at h
          · rename_i hb
            obtain ⟨T, h1, h2⟩ := Option.map_eq_some_iff.mp h
            subst h2
            exact se_tyN hg (K.bis x hb) (boot_ty h1) n3 n1
          · cases h
      · cases h
  · cases h
theorem args_ok (hr : Sound r) (K : Okx ct X E) : ∀ {es : List Expr} {d : Da}, evA r ct es = some d → SA X E es d ∧ es.all notStar = true ∧ (es = [] → d = daNil)
  | [], d, h => by cases h; exact ⟨sa_nil, rfl, fun _ => rfl⟩
  | e :: es, d, h => by
    unfold evA at h
    split at h
    · rename_i hn
      split at h
      · rename_i d0 da h1 h2
        cases h
        obtain ⟨a1, a2, _⟩ := args_ok hr K h2
        exact ⟨sa_cons hn (hr.E _ _ _ h1 X E K) a1, by rw [List.all_cons, hn, a2]; rfl, fun z => nomatch z⟩
      · cases h
    · cases h
theorem kws_ok (hr : Sound r) (K : Okx ct X E) : ∀ {es : List Keyword} {d : Da}, evK r ct es = some d → SKw X E es d
  | [], d, h => by cases h; exact skw_nil
  | ⟨nm, e, p⟩ :: es, d, h => by
    unfold evK at h
    split at h
    · rename_i d0 da h1 h2
      cases h
      exact skw_cons (hr.E _ _ _ h1 X E K) (kws_ok hr K h2)
    · cases h
theorem cs_max : CalS X E bMax (fun xs H Q => (∃ i j, xs = [.int i, .int j] ∧ Q (.int (if j > i then j else i)) H) ∨ rMax X.K xs H Q) := by
  intro base α h H us vs Q R q P
  unfold bMax at P
  split at P
  · exact .inl (cs_max2 base α h H _ vs Q R q P)
  · exact .inr (cs_max1 base α h H _ vs Q R q P)
theorem cs_min : CalS X E bMin (fun xs H Q => (∃ i j, xs = [.int i, .int j] ∧ Q (.int (if j < i then j else i)) H) ∨ (rMinT X.K xs H Q ∨ rMin X.K xs H Q)) := by
  intro base α h H us vs Q R q P
  unfold bMin at P
  split at P
  · exact .inl (cs_min2 base α h H _ vs Q R q P)
  · exact .inr (.inl (cs_minT base α h H _ vs Q R q P))
  · exact .inr (.inr (cs_min1 base α h H _ vs Q R q P))
theorem bi_ok (K : Okx ct X E) {x : Str} {f : Fn} (h : biOf x = some f) : ∃ (id : String) (r : List V → Hp → VK → Prop), bootBuiltins x = some (.builtin id) ∧ CallR X (.builtin id) r ∧ CalS X E f r := by
  unfold biOf at h
  split at h
  · rename_i e; cases h; subst e; exact ⟨"abs", _, by decide +kernel, call_abs, cs_abs⟩
  split at h
  · rename_i e; cases h; subst e; exact ⟨"len", _, by decide +kernel, call_len, cs_len⟩
  split at h
  · rename_i e; cases h; subst e; exact ⟨"max", _, by decide +kernel, (call_max2 K.calm).or (cr_max K.calm), cs_max⟩
  split at h
  · rename_i e; cases h; subst e; exact ⟨"min", _, by decide +kernel, (call_min2 K.calm).or ((cr_minT K.calm).or (cr_min K.calm)), cs_min⟩
  split at h
  · rename_i e; cases h; subst e; exact ⟨"sum", _, by decide +kernel, (cr_sumT K.calm).or (cr_sum K.calm), cs_sumG⟩
  split at h
  · rename_i e; cases h; subst e; exact ⟨"divmod", _, by decide +kernel, call_divmodG, cs_divmod⟩
  split at h
  · rename_i e; cases h; subst e; exact ⟨"repr", _, by decide +kernel, call_reprG K.gd (by have := K.un; omega), cs_repr⟩
  split at h
  · rename_i e; cases h; subst e; exact ⟨"all", _, by decide +kernel, cr_all K.calm, cs_all⟩
  split at h
  · rename_i e; cases h; subst e; exact ⟨"any", _, by decide +kernel, cr_any K.calm, cs_any⟩
  split at h
  · rename_i e; cases h; subst e; exact ⟨"isinstance", _, by decide +kernel, call_isi, cs_isi⟩
  cases h
theorem biT_ok {x : Str} {f : Fn} (h : biTOf x = some f) : ∃ (T : String) (r : List V → Hp → VK → Prop), bootBuiltins x = some (.type T) ∧ CallR X (.type T) r ∧ CalS X E f r := by
  unfold biTOf at h
  split at h
  · rename_i e; cases h; subst e; exact ⟨"int", _, by decide +kernel, call_int1, cs_int⟩
  split at h
  · rename_i e; cases h; subst e; exact ⟨"str", _, by decide +kernel, call_strG, cs_str⟩
  split at h
  · rename_i e; cases h; subst e; exact ⟨"tuple", _, by decide +kernel, call_tuple_of, cs_tuple⟩
  split at h
  · rename_i e; cases h; subst e; exact ⟨"list", _, by decide +kernel, call_list_of, cs_list⟩
  cases h
theorem call_ok (hr : Sound r) (K : Okx ct X E) {x : Str} {args : List Expr} {kws : List Keyword} {p pos : Pos} {d : Dn} (h : evCall r ct x args kws = some d) : SE X E (.Call (.Name x p) args kws pos) d := by
  unfold evCall at h
  split at h
  · rename_i hc
    simp only [Bool.and_eq_true] at hc
    obtain ⟨⟨h1, h2⟩, h3⟩ := hc
    unfold isGlob at h1
    simp only [Bool.and_eq_true, decide_eq_true_eq] at h1
    have hg := glob_of K h1.1
    obtain ⟨n1, n2, n3⟩ := noDbg_ok h1.2
    split at h
    · rename_i i hi
      obtain ⟨m1, m2⟩ := findF_ok hi
      split at h
      · rename_i hp
        split at h
        · rename_i da dk ha hk
          obtain ⟨k, rm, D⟩ := K.fns i m1 _ hp
          rw [m2] at D
          obtain ⟨a1, a2, a3⟩ := args_ok hr K ha
          split at h
          · cases h
            exact se_callP rm K.gd K.ps hg n1 D a3 (fun _ => a1) (kws_ok hr K hk) h2 h3 rfl
          · cases h
            exact se_call rm K.gd K.ps hg n1 D a3 (fun _ => a1) (kws_ok hr K hk) h2 h3 rfl
        · cases h
      · cases h
    · split at h
      · rename_i i hi
        obtain ⟨m1, m2⟩ := findF_ok hi
        split at h
        · rename_i hp
          split at h
          · rename_i da dk ha hk
            cases h
            obtain ⟨k, rm, D⟩ := K.mks i m1 _ hp
            rw [m2] at D ⊢
            obtain ⟨a1, a2, a3⟩ := args_ok hr K ha
            exact se_make rm K.gd K.ps hg n1 D a3 (fun _ => a1) (kws_ok hr K hk) h2 h3 rfl
          · cases h
        · cases h
      · split at h
        · rename_i hb
          obtain ⟨hb1, hb2, hb3⟩ := hb
          have ek : kws = [] := by cases kws <;> first | rfl | cases hb2
          subst ek
          split at h
          · rename_i da ha
            obtain ⟨a1, a2, a3⟩ := args_ok hr K ha
            cases args with
            | nil => cases hb3
            | cons e es =>
              split at h
              · rename_i f hf
                cases h
                obtain ⟨id, rr, b1, b2, b3⟩ := bi_ok K hf
                exact se_bi b2 b3 hg (K.bis x hb1) b1 n3 n1 a1 a2
              · split at h
                · rename_i f hf
                  cases h
                  obtain ⟨id, rr, b1, b2, b3⟩ := biT_ok (X := X) (E := E) hf
                  exact se_biT b2 b3 hg (K.bis x hb1) b1 n3 n1 a1 a2
                · cases h
          · cases h
        · cases h
  · cases h
theorem tabF_ok {n : Nat} {f : Str} {e : MtE} : ∀ {l : List FnI}, (tabF n l).lookup f = some e → ∃ i ∈ l, (n, []) ∈ i.pats ∧ i.x = f ∧ e = (i.pur, i.F, asmF i n [])
  | [], h => by cases h
  | j :: r, h => by
    unfold tabF at h
    split at h
    · rename_i hc
      rw [List.lookup_cons] at h
      cases z : f == j.x with
      | true =>
        rw [z] at h
        cases h
        exact ⟨j, List.mem_cons_self .., hc, (beq_iff_eq.mp z).symm, rfl⟩
      | false =>
        rw [z] at h
        obtain ⟨j', a, b⟩ := tabF_ok (l := r) h
        exact ⟨j', List.mem_cons_of_mem _ a, b⟩
    · obtain ⟨j', a, b⟩ := tabF_ok (l := r) h
      exact ⟨j', List.mem_cons_of_mem _ a, b⟩
theorem callV_ok (hr : Sound r) (K : Okx ct X E) {x : Str} {args : List Expr} {kws : List Keyword} {p pos : Pos} {d : Dn} (hv : isVis (ct.sc.names.lookup x) = true) (h : evCallV r ct x args kws = some d) : SE X E (.Call (.Name x p) args kws pos) d := by
  unfold evCallV at h
  split at h
  · rename_i hc
    simp only [Bool.and_eq_true, Bool.not_eq_true'] at hc
    obtain ⟨⟨⟨h1, h2⟩, h3⟩, h4⟩ := hc
    obtain ⟨n1, n2, n3⟩ := noDbg_ok h1
    have ek : kws = [] := by cases kws <;> first | rfl | cases h3
    subst ek
    split at h
    · rename_i i da hi ha
      cases h
      cases args with
      | nil => cases h4
      | cons e es =>
        refine se_callV K.gd K.ps (by rw [K.N]; exact findN_ok hi) (by rw [K.sc]; exact isVis_ok hv) n1 n2 (fun f e0 he => ?_) (args_ok hr K ha).1 h2
        obtain ⟨j, j1, j2, j3, j4⟩ := tabF_ok he
        obtain ⟨k, rm, D⟩ := K.fns j j1 _ j2
        rw [j3] at D
        rw [j4]
        exact ⟨k, _, rm, D⟩
    · cases h
  · cases h
theorem lenSet_ok (hr : Sound r) (K : Okx ct X E) {y z : Str} {it : Expr} {scope : Scope} {p p1 p2 q pos : Pos} {d : Dn} (h : evLenSet r ct y z it scope = some d) : SE X E (.Call (.Name "len" p) [.SetComp (.Name y p1) [⟨.Name z p2, it, [], 0⟩] scope q] [] pos) d := by
  unfold evLenSet at h
  split at h
  · rename_i hc
    obtain ⟨c1, c2, c3, rfl, c5⟩ := hc
    obtain ⟨d0, h1, h2⟩ := Option.map_eq_some_iff.mp h
    subst h2
    have hns : ∀ w, foldedSetIterable it X.env w = pure w := fun w => by cases it <;> first | rfl | cases c5
    exact se_lenSet K.calm (glob_of K c1) (K.bis _ c2) c3 hns (hr.E _ _ _ h1 X E K)
  · cases h
theorem tabOf_ok {m : Str} {n : Nat} {ks : List Str} {c : Str} {e : MtE} : ∀ {l : List MtI}, (tabOf m n ks l).lookup c = some e → ∃ j ∈ l, j.m = m ∧ (n, ks) ∈ j.i.pats ∧ j.c = c ∧ e = (j.i.pur, j.i.F, asmF j.i n ks)
  | [], h => by cases h
  | j :: r, h => by
    unfold tabOf at h
    split at h
    · rename_i hc
      rw [List.lookup_cons] at h
      cases z : c == j.c with
      | true =>
        rw [z] at h
        cases h
        exact ⟨j, List.mem_cons_self .., hc.1, hc.2, (beq_iff_eq.mp z).symm, rfl⟩
      | false =>
        rw [z] at h
        obtain ⟨j', a, b⟩ := tabOf_ok (l := r) h
        exact ⟨j', List.mem_cons_of_mem _ a, b⟩
    · obtain ⟨j', a, b⟩ := tabOf_ok (l := r) h
      exact ⟨j', List.mem_cons_of_mem _ a, b⟩
theorem meth_ok (hr : Sound r) (K : Okx ct X E) {o : Expr} {m : Str} {apos pos : Pos} {args : List Expr} {kws : List Keyword} {d : Dn} (h : evMeth r ct o m apos args kws pos = some d) : SE X E (.Call (.Attribute o m apos) args kws pos) d := by
  unfold evMeth at h
  split at h
  · rename_i hc
    simp only [Bool.and_eq_true, decide_eq_true_eq] at hc
    obtain ⟨⟨⟨⟨⟨c1, c2⟩, c3⟩, c4⟩, c5⟩, _⟩ := hc
    split at h
    · rename_i d0 da dk h1 h2 h3
      cases h
      obtain ⟨a1, a2, a3⟩ := args_ok hr K h2
      refine se_meth K.gd K.ps (fun c e he => ?_) (hr.E _ _ _ h1 X E K) a3 (fun _ => a1) (kws_ok hr K h3) c1 c2 c3 rfl c4 c5
      obtain ⟨j, j1, j2, j3, j4, j5⟩ := tabOf_ok he
      obtain ⟨k, rm, D⟩ := K.mts j j1 _ j3
      rw [j2, j4] at D
      rw [j5]
      exact ⟨k, _, rm, D⟩
    · cases h
  · cases h
theorem tg0_ok (K : Okx ct X E) {e : Expr} {t : Tg} (h : evTg ct e = some t) : STg X e t := by
  unfold evTg at h
  split at h
  · rename_i x pos
    split at h
    · rename_i i hi
      have hN : X.N[i]? = some x := by rw [K.N]; exact findN_ok hi
      have hd : X.N.Nodup := by rw [K.N]; exact K.nd
      split at h
      · rename_i hl
        cases h
        have hl' : X.env.scope.names.lookup x = some .local := by rw [K.sc]; exact hl
        exact tg_name hd hN (.inl hl') (.inr hl')
      · rename_i hl
        have hl' : X.env.scope.names.lookup x = some .cell := by rw [K.sc]; exact hl
        have hf := K.fn
        split at h
        · rename_i hb
          cases h
          rw [hb] at hf
          exact tg_name hd hN (.inr hl') (.inl (hf x))
        · rename_i s hb
          rw [hb] at hf
          split at h
          · rename_i hs
            cases h
            exact tg_name hd hN (.inr hl') (.inl (by rw [hf x, hs]; rfl))
          · cases h
      · cases h
    · cases h
  · cases h
theorem tgs_ok {f : Expr → Option Tg} (hf : ∀ e t, f e = some t → STg X e t) : ∀ {es : List Expr} {t : Tgs}, evTgs f es = some t → STgs X es t
  | [], t, h => by cases h; exact tgs_nil
  | e :: es, t, h => by
    unfold evTgs at h
    split at h
    · rename_i hn
      split at h
      · rename_i t0 r0 h1 h2
        cases h
        exact tgs_cons hn (hf _ _ h1) (tgs_ok hf h2)
      · cases h
    · cases h
theorem tg1_ok (K : Okx ct X E) {f : Expr → Option Tg} (hf : ∀ e t, f e = some t → STg X e t) {e : Expr} {t : Tg} (h : evTg1 ct f e = some t) : STg X e t := by
  unfold evTg1 at h
  split at h
  · split at h
    · rename_i hs
      obtain ⟨r0, h1, h2⟩ := Option.map_eq_some_iff.mp h
      subst h2
      exact tg_tup K.calm hs (tgs_ok hf h1)
    · cases h
  · exact tg0_ok K h
theorem tgt_ok (K : Okx ct X E) {e : Expr} {t : Tg} (h : evTgt ct e = some t) : STg X e t := tg1_ok K (fun _ _ h1 => tg1_ok K (fun _ _ h2 => tg0_ok K h2) h1) h
theorem noFold {e : Expr} {env : Env} (h : notSet e = true) : ∀ x, foldedSetIterable e env x = pure x := by
  intro x
  cases e <;> first | rfl | cases h
theorem it_ok (hr : Sound r) (K : Okx ct X E) {tg e : Expr} {d : Da} (h : evIt r ct tg e = some d) : SI X E tg e d := by
  unfold evIt at h
  split at h
  · rename_i x p args pos
    split at h
    · rename_i ex
      subst ex
      split at h
      · rename_i hb
        have hg := glob_of K hb.1
        split at h
        · rename_i a
          obtain ⟨da, h1, h2⟩ := Option.map_eq_some_iff.mp h
          subst h2
          obtain ⟨a1, a2, _⟩ := args_ok hr K h1
          simp only [List.all_cons, List.all_nil, Bool.and_eq_true, Bool.and_true] at a2
          exact si_rng1 hg (K.bis _ hb.2) a2 a1
        · rename_i a b
          obtain ⟨da, h1, h2⟩ := Option.map_eq_some_iff.mp h
          subst h2
          obtain ⟨a1, a2, _⟩ := args_ok hr K h1
          simp only [List.all_cons, List.all_nil, Bool.and_eq_true, Bool.and_true] at a2
          exact si_rng2 hg (K.bis _ hb.2) a2.1 a2.2 a1
        · cases h
      · cases h
    · split at h
      · rename_i ex
        subst ex
        split at h
        · rename_i hb
          have hg := glob_of K hb.1
          split at h
          · rename_i a elts kk tpos
            obtain ⟨da, h1, h2⟩ := Option.map_eq_some_iff.mp h
            subst h2
            obtain ⟨a1, a2, _⟩ := args_ok hr K h1
            simp only [List.all_cons, List.all_nil, Bool.and_eq_true, Bool.and_true] at a2
            exact si_enum hg (K.bis _ hb.2) a2 a1
          · cases h
        · cases h
      split at h
      · rename_i ex
        subst ex
        split at h
        · rename_i hb
          have hg := glob_of K hb.1
          split at h
          · obtain ⟨da, h1, h2⟩ := Option.map_eq_some_iff.mp h
            subst h2
            obtain ⟨a1, a2, _⟩ := args_ok hr K h1
            exact si_zipM hg (K.bis _ hb.2) a2 a1
          · obtain ⟨da, h1, h2⟩ := Option.map_eq_some_iff.mp h
            subst h2
            obtain ⟨a1, a2, _⟩ := args_ok hr K h1
            exact si_zip3 hg (K.bis _ hb.2) a2 a1
          · cases h
        · cases h
      · obtain ⟨d0, h1, h2⟩ := Option.map_eq_some_iff.mp h
        subst h2
        exact si_seq (hr.E _ _ _ h1 X E K)
  · split at h
    · rename_i ex
      obtain ⟨rfl, rfl⟩ := ex
      split at h
      · rename_i hb
        have hg := glob_of K hb.1
        split at h
        · split at h
          · rename_i da dk h1 h2
            cases h
            obtain ⟨a1, a2, _⟩ := args_ok hr K h1
            exact si_zipS hg (K.bis _ hb.2) a2 a1 (skw_cons (hr.E _ _ _ h2 X E K) skw_nil)
          · cases h
        · cases h
      · cases h
    · cases h
  · split at h
    · obtain ⟨d0, h1, h2⟩ := Option.map_eq_some_iff.mp h
      subst h2
      exact si_seq (hr.E _ _ _ h1 X E K)
    · cases h
end
end CI
namespace CI
open PySem PySem.Spec PyProof.Rows L2
section
variable {r : Recs} {ct : Ct} {X : Cx} {E : XK}
theorem relS_kind {scope sc : Scope} : (relS scope sc).kind = scope.kind := rfl
/-- within a comprehension's block -/
theorem Okx.blk (K : Okx ct X E) {scope : Scope} (ok : blkC ct.N ct.sc scope (ownOf ct.N scope) = true) (s : Shared) (H : Hp) (C : Addr) (cl : List (Str × Addr)) (fp : List Addr) :
    Okx { ct with sc := relS scope ct.sc, blk := some scope } (X.blk s H scope (compEnvC scope cl C X.env) fp) noE where
  N := K.N
  nd := K.nd
  sc := by
    show relS scope X.env.scope = _
    rw [K.sc]
  kind := (blkOk_by ok).kind
  calm := K.calm
  fn := fun x => rfl
  gd := K.gd
  un := K.un
  ps := passL
  tk := fun u s' ⟨_, _, _, _, _, _, _, _, _, _, _, _, _, _, _, _, z⟩ => (show False from z).elim
  fr := fun z => nomatch z
  tabs := fun t ht => ⟨(K.tabs t ht).ex⟩
  excs := fun x hx => ⟨(K.excs x hx).ex⟩
  fns := fun i hi q hq => by
    obtain ⟨k, rm, D⟩ := K.fns i hi q hq
    exact ⟨k, rm, ⟨D.ex⟩⟩
  gls := K.gls
  bis := K.bis
  flds := K.flds
  mts := fun j hj q hq => K.mts j hj q hq
  mks := fun i hi q hq => K.mks i hi q hq
theorem comp_parts (hr : Sound r) (K : Okx ct X E) {elt : Expr} {gs : List Comprehension} {scope : Scope} {d : Dn} (h : evComp r ct elt gs scope = some d) :
    ∃ tg it ifs da vs t c de, gs = [⟨tg, it, ifs, 0⟩] ∧ d = dComp da vs t c de ∧ SI X E tg it da ∧ BlkOk X.N X.env.scope scope (ownOf ct.N scope) ∧ Blks X scope (fun Y => STg Y tg t) ∧ Blks X scope (fun Y => PTs Y ifs (tG (gx Y) noE rB c)) ∧ Blks X scope (fun Y => SE Y noE elt de) ∧
      (∀ x, foldedSetIterable it X.env x = pure x) ∧ (ownOf ct.N scope).map (·.2) = vs ∧ ∀ i ∈ t.slots, i ∈ vs := by
  unfold evComp at h
  split at h
  · rename_i tg it ifs
    split at h
    · rename_i hb
      simp only [Bool.and_eq_true] at hb
      obtain ⟨hb, hns⟩ := hb
      have ok : BlkOk X.N X.env.scope scope (ownOf ct.N scope) := by rw [K.N, K.sc]; exact blkOk_by hb
      split at h
      · rename_i da t de h1 h2 h3
        split at h
        · rename_i hs
          simp only [List.all_eq_true, decide_eq_true_eq] at hs
          have b1 : Blks X scope (fun Y => STg Y tg t) := fun s H C cl fp => tgt_ok (K.blk hb s H C cl fp) h2
          have b3 : Blks X scope (fun Y => SE Y noE elt de) := fun s H C cl fp => hr.E _ _ _ h3 _ _ (K.blk hb s H C cl fp)
          split at h
          · cases h
            exact ⟨tg, it, [], da, _, t, _, de, rfl, rfl, it_ok hr K h1, ok, b1, fun s H C cl fp => pts_of rfl rfl, b3, noFold hns, rfl, hs⟩
          · rename_i c
            obtain ⟨tc, h4, h5⟩ := Option.map_eq_some_iff.mp h
            subst h5
            exact ⟨tg, it, [c], da, _, t, tc, de, rfl, rfl, it_ok hr K h1, ok, b1, fun s H C cl fp => pts_of1 (hr.T _ _ _ h4 _ _ (K.blk hb s H C cl fp)), b3, noFold hns, rfl, hs⟩
          · cases h
        · cases h
      · cases h
    · cases h
  · cases h
theorem comp_ok (hr : Sound r) (K : Okx ct X E) {elt : Expr} {gs : List Comprehension} {scope : Scope} {pos : Pos} {d : Dn} (h : evComp r ct elt gs scope = some d) : SE X E (.ListComp elt gs scope pos) d := by
  obtain ⟨tg, it, ifs, da, vs, t, c, de, rfl, rfl, h1, h2, h3, h4, h5, h6, h7, h8⟩ := comp_parts hr K h
  exact se_comp K.calm (by rw [K.N]; exact K.nd) h1 h2 h3 h4 h5 h6 h7 h8
theorem boolV_ok (hr : Sound r) (K : Okx ct X E) {op : BoolOp} {pos : Pos} : ∀ {es : List Expr} {d : Dn}, evAndV r ct op es = some d → SE X E (.BoolOp op es pos) d
  | [], d, h => by cases h
  | [e], d, h => se_one (hr.E _ _ _ h X E K)
  | e :: e2 :: es, d, h => by
    unfold evAndV at h
    split at h
    · rename_i a b h1 h2
      cases h
      have hb := boolV_ok hr K (pos := pos) h2
      cases op with
      | And => exact se_and (hr.E _ _ _ h1 X E K) hb
      | Or => exact se_or (hr.E _ _ _ h1 X E K) hb
    · cases h
theorem boolT_ok (hr : Sound r) (K : Okx ct X E) {op : BoolOp} {pos : Pos} : ∀ {es : List Expr} {d : Dt}, evAndT r ct op es = some d → SW X E (.BoolOp op es pos) d
  | [], d, h => by cases h
  | [e], d, h => by
    cases op with
    | And => exact sw_and1 (hr.T _ _ _ h X E K)
    | Or => exact sw_or1 (hr.T _ _ _ h X E K)
  | e :: e2 :: es, d, h => by
    unfold evAndT at h
    split at h
    · rename_i a b h1 h2
      cases h
      have hb := boolT_ok hr K (pos := pos) h2
      cases op with
      | And => exact sw_and (hr.T _ _ _ h1 X E K) hb
      | Or => exact sw_or (hr.T _ _ _ h1 X E K) hb
    · cases h
theorem cmp_ok (hr : Sound r) (K : Okx ct X E) {a : Expr} {ops : List CmpOp} {bs : List Expr} {pos : Pos} {d : Dn} (h : evCmp r ct a ops bs = some d) : SE X E (.Compare a ops bs pos) d ∧ STt X E (.Compare a ops bs pos) (tVB d) := by
  unfold evCmp at h
  split at h
  · obtain ⟨da, h1, h2⟩ := Option.map_eq_some_iff.mp h
    subst h2
    have ha := hr.E _ _ _ h1 X E K
    exact ⟨se_isN (neg := false) ha, st_isN (neg := false) ha⟩
  · obtain ⟨da, h1, h2⟩ := Option.map_eq_some_iff.mp h
    subst h2
    have ha := hr.E _ _ _ h1 X E K
    exact ⟨se_isN (neg := true) ha, st_isN (neg := true) ha⟩
  · split at h
    · rename_i neg hi
      split at h
      · cases h
      · rename_i hm
        split at h
        · rename_i da db h1 h2
          cases h
          exact in_both hi (by simpa using hm) (hr.E _ _ _ h1 X E K) (hr.E _ _ _ h2 X E K)
        · cases h
    split at h
    · rename_i f da db h1 h2 h3
      cases h
      exact ⟨se_cmpO K.un h1 (hr.E _ _ _ h2 X E K) (hr.E _ _ _ h3 X E K), st_cmpO K.un h1 (hr.E _ _ _ h2 X E K) (hr.E _ _ _ h3 X E K)⟩
    · cases h
  · split at h
    · rename_i f g da db dc h1 h2 h3 h4 h5
      cases h
      exact ⟨se_chn K.un h1 h2 (hr.E _ _ _ h3 X E K) (hr.E _ _ _ h4 X E K) (hr.E _ _ _ h5 X E K), st_chn K.un h1 h2 (hr.E _ _ _ h3 X E K) (hr.E _ _ _ h4 X E K) (hr.E _ _ _ h5 X E K)⟩
    · cases h
  · cases h
theorem bin_ok (hr : Sound r) (K : Okx ct X E) {a b : Expr} {op : Operator} {pos : Pos} {f : Op2} {da db : Dn} (h : evBin op = some f) (ha : SE X E a da) (hb : SE X E b db) : SE X E (.BinOp a op b pos) (dBin f da db) := by
  cases op <;> first | (cases h; done) | skip
  all_goals (injection h with h; subst h)
  · exact se_add ha hb
  · exact se_sub ha hb
  · exact se_mul ha hb
  · exact se_mod ha hb
  · exact se_pow ha hb
  · exact se_div ha hb
theorem dic_ok (hr : Sound r) (K : Okx ct X E) : ∀ {ks : List (Option Expr)} {vs : List Expr} {ps : List (Dn × Dn)}, evDic r ct ks vs = some ps → ps.length = ks.length ∧ ∀ (i : Nat) k v q, ks[i]? = some (some k) → vs[i]? = some v → ps[i]? = some q → SE X E k q.1 ∧ SE X E v q.2
  | [], [], ps, h => by cases h; exact ⟨rfl, fun i k v q e => by simp at e⟩
  | some k :: ks, v :: vs, ps, h => by
    unfold evDic at h
    split at h
    · rename_i a b l h1 h2 h3
      cases h
      obtain ⟨e1, e2⟩ := dic_ok hr K h3
      refine ⟨by rw [List.length_cons, List.length_cons, e1], fun i k' v' q x1 x2 x3 => ?_⟩
      cases i with
      | zero =>
        simp at x1 x2 x3
        subst x1 x2 x3
        exact ⟨hr.E _ _ _ h1 X E K, hr.E _ _ _ h2 X E K⟩
      | succ i => exact e2 i k' v' q (by simpa using x1) (by simpa using x2) (by simpa using x3)
    · cases h
  | none :: _, _, _, h => by cases h
  | some _ :: _, [], _, h => by cases h
  | [], _ :: _, _, h => by cases h
theorem bnd_ok (hr : Sound r) (K : Okx ct X E) {o : Option Expr} {d : Option Dn} (h : evO r ct o = some d) : SP X E o d := by
  cases o with
  | none => cases h; exact sp_none
  | some e =>
    obtain ⟨d0, h1, h2⟩ := Option.map_eq_some_iff.mp h
    subst h2
    exact sp_some (hr.E _ _ _ h1 X E K)
theorem app_ok (hr : Sound r) (K : Okx ct X E) {o : Expr} {apos pos : Pos} {args : List Expr} {kws : List Keyword} {d : Dn} (h : evApp r ct o apos args kws pos = some d) : SE X E (.Call (.Attribute o "append" apos) args kws pos) d := by
  unfold evApp at h
  split at h
  · split at h
    · rename_i hc
      simp only [Bool.and_eq_true] at hc
      split at h
      · rename_i d0 da h1 h2
        cases h
        exact se_app hc.1.1 hc.1.2 hc.2 (hr.E _ _ _ h1 X E K) (args_ok hr K h2).1
      · cases h
    · cases h
  · cases h
theorem pop_ok (hr : Sound r) (K : Okx ct X E) {o : Expr} {apos pos : Pos} {args : List Expr} {kws : List Keyword} {d : Dn} (h : evPop r ct o apos args kws pos = some d) : SE X E (.Call (.Attribute o "pop" apos) args kws pos) d := by
  unfold evPop at h
  split at h
  · split at h
    · rename_i hc
      simp only [Bool.and_eq_true] at hc
      split at h
      · rename_i d0 da h1 h2
        cases h
        exact se_pop hc.1.1 hc.1.2 hc.2 (hr.E _ _ _ h1 X E K) (args_ok hr K h2).1
      · cases h
    · cases h
  · cases h
theorem get_ok (hr : Sound r) (K : Okx ct X E) {o : Expr} {apos pos : Pos} {args : List Expr} {kws : List Keyword} {d : Dn} (h : evGet r ct o apos args kws pos = some d) : SE X E (.Call (.Attribute o "get" apos) args kws pos) d := by
  unfold evGet at h
  split at h
  · split at h
    · rename_i hc
      simp only [Bool.and_eq_true] at hc
      split at h
      · rename_i d0 dk dx h1 h2 h3
        cases h
        exact se_dget (by have := K.un; omega) hc.1.1.1 hc.1.1.2 hc.1.2 hc.2 (hr.E _ _ _ h1 X E K) (hr.E _ _ _ h2 X E K) (hr.E _ _ _ h3 X E K)
      · cases h
    · cases h
  · cases h
theorem stepE_ok (hr : Sound r) (K : Okx ct X E) {e : Expr} {d : Dn} (h : stepE r ct e = some d) : SE X E e d := by
  unfold stepE at h
  split at h
  · exact name_ok K h
  · cases h; exact se_int
  · cases h; exact se_bl
  · cases h; exact se_str
  · cases h; exact se_non
  · split at h
    · rename_i da db h1 h2
      cases h
      exact se_mulG (hr.E _ _ _ h1 X E K) (hr.E _ _ _ h2 X E K)
    · cases h
  · split at h
    · rename_i da db h1 h2
      cases h
      exact se_mulG (hr.E _ _ _ h1 X E K) (hr.E _ _ _ h2 X E K)
    · cases h
  · split at h
    · rename_i f da db h1 h2 h3
      cases h
      exact bin_ok hr K h1 (hr.E _ _ _ h2 X E K) (hr.E _ _ _ h3 X E K)
    · cases h
  · obtain ⟨da, h1, h2⟩ := Option.map_eq_some_iff.mp h
    subst h2
    exact se_neg (hr.E _ _ _ h1 X E K)
  · obtain ⟨da, h1, h2⟩ := Option.map_eq_some_iff.mp h
    subst h2
    exact se_not (hr.E _ _ _ h1 X E K)
  · exact (cmp_ok hr K h).1
  · exact boolV_ok hr K h
  · split at h
    · rename_i t da db h1 h2 h3
      cases h
      exact se_ife (hr.T _ _ _ h1 X E K) (hr.E _ _ _ h2 X E K) (hr.E _ _ _ h3 X E K)
    · cases h
  · obtain ⟨da, h1, h2⟩ := Option.map_eq_some_iff.mp h
    subst h2
    exact se_tup (args_ok hr K h1).1
  · obtain ⟨da, h1, h2⟩ := Option.map_eq_some_iff.mp h
    subst h2
    exact se_lst (args_ok hr K h1).1
  · split at h
    · rename_i hc
      simp only [Bool.and_eq_true, decide_eq_true_eq, Bool.not_eq_true'] at hc
      obtain ⟨⟨⟨c1, c2⟩, c3⟩, c4⟩ := hc
      obtain ⟨ps, h1, h2⟩ := Option.map_eq_some_iff.mp h
      subst h2
      obtain ⟨e1, e2⟩ := dic_ok hr K h1
      exact se_dic (pps_of c2 e1 e2 c1) c1 c2 (by intro z; rw [z] at c3; cases c3) c4
    · cases h
  · split at h
    · rename_i d0 l u h1 h2 h3
      cases h
      exact se_slice (hr.E _ _ _ h1 X E K) (bnd_ok hr K h2) (bnd_ok hr K h3)
    · cases h
  · split at h
    · rename_i d0 dk h1 h2
      cases h
      exact se_rev (hr.E _ _ _ h1 X E K) (hr.E _ _ _ h2 X E K)
    · cases h
  · split at h
    · rename_i kfs hk
      split at h
      · rename_i hg
        rw [Bool.and_eq_true] at hg
        unfold isGlob at hg
        simp only [Bool.and_eq_true, decide_eq_true_eq] at hg
        obtain ⟨d0, h1, h2⟩ := Option.map_eq_some_iff.mp h
        subst h2
        exact se_tab (glob_of K hg.1.1) (noDbg_ok hg.1.2).1 (K.tabs _ (lookup_mem hk)) hg.2 (hr.E _ _ _ h1 X E K)
      · cases h
    · split at h
      · rename_i hp
        split at h
        · rename_i da di h1 h2
          cases h
          exact se_idx hp (hr.E _ _ _ h1 X E K) (hr.E _ _ _ h2 X E K)
        · cases h
      · cases h
  · split at h
    · rename_i hp
      split at h
      · rename_i da di h1 h2
        cases h
        exact se_idx hp (hr.E _ _ _ h1 X E K) (hr.E _ _ _ h2 X E K)
      · cases h
    · cases h
  · split at h
    · rename_i ex
      subst ex
      exact lenSet_ok hr K h
    · cases h
  · split at h
    · rename_i hv
      exact callV_ok hr K hv h
    · exact call_ok hr K h
  · split at h
    · rename_i hm
      subst hm
      exact app_ok hr K h
    · split at h
      · rename_i ex
        subst ex
        exact get_ok hr K h
      · split at h
        · rename_i ex
          subst ex
          exact pop_ok hr K h
        · exact meth_ok hr K h
  · split at h
    · rename_i hs
      split at h
      · rename_i L hL
        obtain ⟨da, h1, h2⟩ := Option.map_eq_some_iff.mp h
        subst h2
        exact se_attr (fun c hc => K.flds _ (lookup_mem hL) c hc) hs (hr.E _ _ _ h1 X E K)
      · cases h
    · cases h
  · exact comp_ok hr K h
  · cases h
theorem stepT_ok (hr : Sound r) (K : Okx ct X E) {e : Expr} {d : Dt} (h : stepT r ct e = some d) : STt X E e d := by
  unfold stepT at h
  split at h
  · obtain ⟨da, h1, h2⟩ := Option.map_eq_some_iff.mp h
    subst h2
    exact (cmp_ok hr K h1).2
  · exact (boolT_ok hr K h).st
  · obtain ⟨da, h1, h2⟩ := Option.map_eq_some_iff.mp h
    subst h2
    exact st_not (hr.T _ _ _ h1 X E K)
  · obtain ⟨da, h1, h2⟩ := Option.map_eq_some_iff.mp h
    subst h2
    exact st_tru rfl (hr.E _ _ _ h1 X E K)
  · obtain ⟨da, h1, h2⟩ := Option.map_eq_some_iff.mp h
    subst h2
    exact st_tru rfl (hr.E _ _ _ h1 X E K)
  · obtain ⟨da, h1, h2⟩ := Option.map_eq_some_iff.mp h
    subst h2
    exact st_tru rfl (hr.E _ _ _ h1 X E K)
  · obtain ⟨da, h1, h2⟩ := Option.map_eq_some_iff.mp h
    subst h2
    exact st_tru rfl (hr.E _ _ _ h1 X E K)
  · obtain ⟨da, h1, h2⟩ := Option.map_eq_some_iff.mp h
    subst h2
    exact st_tru rfl (hr.E _ _ _ h1 X E K)
  · cases h
end
theorem recs_ok : ∀ n, Sound (recs n)
  | 0 => ⟨fun _ _ _ h => (nomatch h), fun _ _ _ h => (nomatch h)⟩
  | n + 1 => ⟨fun _ _ _ h _ _ K => stepE_ok (recs_ok n) K h, fun _ _ _ h _ _ K => stepT_ok (recs_ok n) K h⟩

/-! ### statements -/
structure RecS where
  S : Ct → Stmt → Option Sn
  B : Ct → List Stmt → Option Sn
/-- what is not read: nothing is promised -/
def sStuck : Sn := fun _ _ => .stuck
theorem ss_stuck {X : Cx} {E : XK} {st : Stmt} : SS X E st sStuck := ⟨fun pins s σ H D I ⟨_, _, _, _, _, _, P⟩ => P.elim⟩
def evB (f : Ct → Stmt → Option Sn) (ct : Ct) : List Stmt → Option Sn
  | [] => some sNil
  | [s] => some ((f ct s).getD sStuck)
  | s :: s2 :: r => match evB f ct (s2 :: r) with
    | some b => some (sSeq ((f ct s).getD sStuck) b)
    | none => none
/-- name = list, a list that will be changed -/
def evLstM (r : Recs) (ct : Ct) (e : Expr) : Option Dn := match e with
  | .List es _ => (evA r ct es).map dLstM
  | .ListComp elt gs scope _ => (evComp r ct elt gs scope).map dThaw
  | .Call (.Name x _) [e] [] _ => if x = ("list" : Str) ∧ isGlob ct x = true ∧ ("list" : Str) ∈ ct.bis then (evA r ct [e]).map (dBi bListM) else none
  | _ => none
/-- the values of a, b = x, y: a list that will be changed stands for itself -/
def evE1 (r : Recs) (ct : Ct) (t e : Expr) : Option Dn := match t with
  | .Name x _ => if x ∈ ct.muts then (match evLstM r ct e with
    | some d => some d
    | none => r.E ct e) else r.E ct e
  | _ => r.E ct e
def evAM (r : Recs) (ct : Ct) : List Expr → List Expr → Option Da
  | _, [] => some daNil
  | [], _ :: _ => none
  | t :: ts, e :: es => if notStar e then (match evE1 r ct t e, evAM r ct ts es with
    | some d, some da => some (daCons d da)
    | _, _ => none) else none
def thawIf (ct : Ct) (x : Str) (d : Dn) : Dn := if x ∈ ct.muts then dThaw d else d
def evAsg (r : Recs) (ct : Ct) (tgs : List Expr) (e : Expr) (pos : Pos) : Option Sn := match tgs with
  | [.Name x py] => match findN ct.N x 0 with
    | some i => match e with
      | .ListComp elt gs scope cp => if ct.sc.names.lookup x = some .local && (py.line == cp.line) && !(scope.names.any fun (n, k) => n == x && (k == .local || k == .cell)) then (evComp r ct elt gs scope).map fun d => sAsg (gNm i) (thawIf ct x d)
        else if ct.sc.names.lookup x = some .cell then (match evTg ct (.Name x py), evComp r ct elt gs scope with
          | some t, some d => some (sAsg t (thawIf ct x d))
          | _, _ => none) else none
      | e => if isComp e then none else if x ∈ ct.muts then (match evTg ct (.Name x py), evLstM r ct e with
          | some t, some d => some (sAsg t d)
          | _, _ => none) else (match evTg ct (.Name x py), r.E ct e with
          | some t, some d => some (sAsg t d)
          | _, _ => none)
    | none => none
  | [.Tuple ts k p] => match e with
    | .Tuple es k2 p2 => match swF ct.sc ts es with
      | some none => match evTgt ct (.Tuple ts k p), r.E ct e with
        | some t, some d => some (sAsg t d)
        | _, _ => none
      | some (some xs) => match evAM r ct ts es, mapO (fun x => if ct.sc.names.lookup x = some .local then findN ct.N x 0 else none) xs with
        | some da, some is => some (sPar is da)
        | _, _ => none
      | none => none
    | e => if isComp e then none else (match evTgt ct (.Tuple ts k p), r.E ct e with
        | some t, some d => some (sAsg t d)
        | _, _ => none)
  | [.Attribute o f _] => if isComp e then none else (match ct.flds.lookup f, r.E ct e, r.E ct o with
    | some L, some d, some x => some (sAttr L f d x)
    | _, _, _ => none)
  | [.Subscript o i _] => if plainI i && !(isComp e) then (match r.E ct e, r.E ct o, r.E ct i with
    | some d, some x, some y => some (sSetI d x y)
    | _, _, _ => none) else none
  | _ => none
where
  mapO (f : Str → Option Nat) : List Str → Option (List Nat)
    | [] => some []
    | x :: xs => match f x, mapO f xs with
      | some i, some is => some (i :: is)
      | _, _ => none
def evRet (r : Recs) (ct : Ct) (e : Expr) : Option Sn := if ct.retM then (match evLstM r ct e with
  | some d => some (sRet d)
  | none => (r.E ct e).map sRet) else (r.E ct e).map sRet
/-- x, *y = e -/
def evStar (r : Recs) (ct : Ct) (x y : Str) (e : Expr) : Option Sn :=
  if ct.sc.names.lookup x = some .local ∧ ct.sc.names.lookup y = some .local ∧ isComp e = false ∧ isTupE e = false then (match findN ct.N x 0, findN ct.N y 0, r.E ct e with
    | some i, some j, some d => some (sHT i j d)
    | _, _, _ => none) else none
where
  isTupE : Expr → Bool
    | .Tuple .. => true
    | _ => false
def evRaise (ct : Ct) (x : Str) : Option Sn := if isGlob ct x && decide (x ∈ ct.excs) then some (sRaise x) else none
noncomputable def evTry (r : Recs) (f : Ct → Stmt → Option Sn) (ct : Ct) (o : Expr) (m : Str) (apos : Pos) (args : List Expr) (cp : Pos) (x n i1 n2 v3 : Str) (orelse : List Stmt) : Option Sn :=
  if ct.blk.isNone && isGlob ct x && decide (x ∈ ct.excs) && noDbg n && decide (ct.sc.names.lookup n = some .local) && decide (i1 = ("isinstance" : Str)) && decide (n2 = n) && decide (v3 = ("ValueError" : Str)) &&
    decide (ct.sc.names.lookup ("isinstance" : Str) = some .globalImplicit) && decide (("isinstance" : Str) ∈ ct.bis) && decide (ct.sc.names.lookup ("ValueError" : Str) = some .globalImplicit) && decide (("ValueError" : Str) ∈ ct.bis) &&
    notSuper o && args.all notStar && decide (args.length < 29) && (apos.endLine == cp.line) then (match findN ct.N n 0, r.E ct o, evA r ct args, evB f ct orelse with
    | some i, some d, some da, some b => some (sTryIs x i (dMethN (tabOf m (args.length + 1) [] ct.mts) m args.length d da) b)
    | _, _, _, _ => none) else none
noncomputable def stepS (r : Recs) (f : Ct → Stmt → Option Sn) (ct : Ct) : Stmt → Option Sn
  | .Assign [.Tuple [.Name x _, .Starred (.Name y _) _] _ _] e _ => evStar r ct x y e
  | .Raise (some (.Call (.Name x _) [.Constant (.str _) _ _] [] _)) none _ => evRaise ct x
  | .Try [.Expr (.Call (.Attribute o m apos) args [] cp) _] [.ExceptHandler (some (.Name x _)) (some n) [.If (.UnaryOp .Not (.Call (.Name i1 _) [.Name n2 _, .Name v3 _] [] _) _) [_] [] _] _] orelse [] _ => evTry r f ct o m apos args cp x n i1 n2 v3 orelse
  | .AugAssign (.Subscript o i _) .Add e _ => if plainI i then (match r.E ct o, r.E ct i, r.E ct e with
    | some x, some y, some d => some (sAddI x y d)
    | _, _, _ => none) else none
  | .AugAssign (.Name x _) .Mult e _ => if ct.sc.names.lookup x = some .local then (match findN ct.N x 0, r.E ct e with
    | some i, some d => some (sMulN i d)
    | _, _ => none) else none
  | .Assign tgs e pos => evAsg r ct tgs e pos
  | .Return (some e) _ => evRet r ct e
  | .Return none _ => some sRetN
  | .If c a b _ => match r.T ct c, evB f ct a, evB f ct b with
    | some t, some x, some y => some (sIf t x y)
    | _, _, _ => none
  | .While c a [] _ => match r.T ct c, evB f ct a with
    | some t, some x => some (sWhl t x)
    | _, _ => none
  | .For tg it a [] _ => if notSet it then (match evTgt ct tg, evIt r ct tg it, evB f ct a with
    | some t, some d, some x => some (sFor d t x)
    | _, _, _ => none) else none
  | .Pass _ => some sNil
  | .Break _ => some sBrk
  | .Continue _ => some sCnt
  | .Expr (.Constant (.str _) _ _) _ => some sNil
  | .Expr e _ => if isComp e then none else (r.E ct e).map sExpr
  | _ => none
noncomputable def recS (r : Recs) : Nat → Ct → Stmt → Option Sn
  | 0 => fun _ _ => none
  | n + 1 => stepS r (recS r n)
/-- a def's body -/
noncomputable def evBody (ct : Ct) (body : List Stmt) : Option Sn := evB (recS (recs 25) 12) ct body
section
variable {r : Recs} {ct : Ct} {X : Cx} {E : XK}
structure OkS (ct : Ct) (X : Cx) (E : XK) : Prop where
  k : Okx ct X E
  hp : PassesOwn (model X.prog X.w) X.A X.env X.xe
abbrev SoundS (f : Ct → Stmt → Option Sn) : Prop := ∀ ct st d, f ct st = some d → ∀ X E, OkS ct X E → SS X E st d
theorem getD_ok {f : Ct → Stmt → Option Sn} (hf : SoundS f) (K : OkS ct X E) {s : Stmt} : SS X E s ((f ct s).getD sStuck) := by
  cases e : f ct s with
  | some d => exact hf _ _ _ e X E K
  | none => exact ss_stuck
theorem block_ok {f : Ct → Stmt → Option Sn} (hf : SoundS f) (K : OkS ct X E) : ∀ {b : List Stmt} {d : Sn}, evB f ct b = some d → SB X E b d
  | [], d, h => by cases h; exact sb_nil
  | [s], d, h => by
    cases h
    exact sb_one (getD_ok hf K)
  | s :: s2 :: b, d, h => by
    unfold evB at h
    split at h
    · rename_i y h2
      cases h
      exact sb_cons (getD_ok hf K) (block_ok hf K h2)
    · cases h
theorem compM_ok (hr : Sound r) (K : Okx ct X E) {elt : Expr} {gs : List Comprehension} {scope : Scope} {pos : Pos} {d : Dn} (h : evComp r ct elt gs scope = some d) : SE X E (.ListComp elt gs scope pos) (dThaw d) := by
  obtain ⟨tg, it, ifs, da, vs, t, c, de, rfl, rfl, h1, h2, h3, h4, h5, h6, h7, h8⟩ := comp_parts hr K h
  exact se_compM K.calm (by rw [K.N]; exact K.nd) h1 h2 h3 h4 h5 h6 h7 h8
theorem lstM_ok (hr : Sound r) (K : Okx ct X E) {e : Expr} {d : Dn} (h : evLstM r ct e = some d) : SE X E e d := by
  unfold evLstM at h
  split at h
  · obtain ⟨da, h1, h2⟩ := Option.map_eq_some_iff.mp h
    subst h2
    exact se_lstM (args_ok hr K h1).1
  · obtain ⟨da, h1, h2⟩ := Option.map_eq_some_iff.mp h
    subst h2
    exact compM_ok hr K h1
  · rename_i x p e pos
    split at h
    · rename_i hc
      obtain ⟨rfl, h1, hb⟩ := hc
      unfold isGlob at h1
      simp only [Bool.and_eq_true, decide_eq_true_eq] at h1
      obtain ⟨n1, n2, n3⟩ := noDbg_ok h1.2
      obtain ⟨da, h2, h3⟩ := Option.map_eq_some_iff.mp h
      subst h3
      obtain ⟨a1, a2, _⟩ := args_ok hr K h2
      exact se_biT (T := "list") call_list_of cs_listM (glob_of K h1.1) (K.bis _ hb) (by decide +kernel) n3 n1 a1 a2
    · cases h
  · cases h
theorem e1_ok (hr : Sound r) (K : Okx ct X E) {t e : Expr} {d : Dn} (h : evE1 r ct t e = some d) : SE X E e d := by
  unfold evE1 at h
  split at h
  · split at h
    · split at h
      · rename_i d0 h1
        cases h
        exact lstM_ok hr K h1
      · exact hr.E _ _ _ h X E K
    · exact hr.E _ _ _ h X E K
  · exact hr.E _ _ _ h X E K
theorem am_ok (hr : Sound r) (K : Okx ct X E) : ∀ {ts es : List Expr} {d : Da}, evAM r ct ts es = some d → SA X E es d
  | _, [], d, h => by
    have h : some daNil = some d := by cases ‹List Expr› <;> exact h
    cases h; exact sa_nil
  | [], _ :: _, d, h => by cases h
  | t :: ts, e :: es, d, h => by
    unfold evAM at h
    split at h
    · rename_i hn
      split at h
      · rename_i d0 da h1 h2
        cases h
        exact sa_cons hn (e1_ok hr K h1) (am_ok hr K h2)
      · cases h
    · cases h
theorem mapO_ok {f : Str → Option Nat} : ∀ {xs : List Str} {is : List Nat}, evAsg.mapO f xs = some is → ∃ l : List (Str × Nat), l.map (·.1) = xs ∧ l.map (·.2) = is ∧ ∀ p ∈ l, f p.1 = some p.2
  | [], is, h => by cases h; exact ⟨[], rfl, rfl, fun p hp => (nomatch hp)⟩
  | x :: xs, is, h => by
    unfold evAsg.mapO at h
    split at h
    · rename_i i js h1 h2
      cases h
      obtain ⟨l, e1, e2, e3⟩ := mapO_ok h2
      refine ⟨(x, i) :: l, by rw [List.map_cons, e1], by rw [List.map_cons, e2], fun p hp => ?_⟩
      rcases List.mem_cons.mp hp with e | hp
      · rw [e]; exact h1
      · exact e3 p hp
    · cases h
theorem cell_noswap {elt : Expr} {gs : List Comprehension} {scope : Scope} {cp py : Pos} {x : Str} {l : Nat} {env : Env} (h : env.scope.names.lookup x = some .cell) : swapsWith (.ListComp elt gs scope cp) (some (.Name x py)) l env = pure false := by
  have e : env.kindOf x = some .cell := h
  unfold swapsWith
  simp only [e]
  have z : (some NameKind.cell == some NameKind.local) = false := by decide
  rw [z, Bool.and_false, Bool.false_and, Bool.false_and]
theorem asg_ok (hr : Sound r) (K : OkS ct X E) {tgs : List Expr} {e : Expr} {pos : Pos} {d : Sn} (h : evAsg r ct tgs e pos = some d) : SS X E (.Assign tgs e pos) d := by
  have k := K.k
  have hnd : X.N.Nodup := by rw [k.N]; exact k.nd
  have plain : ∀ {tg : Expr} {t : Tg} {d0 : Dn}, notStar tg = true → isComp e = false → (swappedStores [tg] e X.env = pure none) → STg X tg t → SE X E e d0 → SS X E (.Assign [tg] e pos) (sAsg t d0) := fun hn hc hw ht hd =>
    ss_asg ht hd (noSwapSole hc) hw hn
  unfold evAsg at h
  split at h
  · rename_i x py
    have nosw : ∀ e, swappedStores [.Name x py] e X.env = pure none := fun e => by cases e <;> rfl
    split at h
    · rename_i i hi
      have hN : X.N[i]? = some x := by rw [k.N]; exact findN_ok hi
      split at h
      · rename_i elt gs scope cp
        split at h
        · rename_i hc
          simp only [Bool.and_eq_true, Bool.not_eq_true', decide_eq_true_eq] at hc
          obtain ⟨⟨c1, c2⟩, c3⟩ := hc
          obtain ⟨dd, h1, h2⟩ := Option.map_eq_some_iff.mp h
          subst h2
          obtain ⟨tg, it, ifs, da, vs, t, c, de, rfl, rfl, p1, p2, p3, p4, p5, p6, p7, p8⟩ := comp_parts hr k h1
          have hl : X.env.scope.names.lookup x = some .local := by rw [k.sc]; exact c1
          unfold thawIf
          split
          · exact ss_setCompM k.calm hnd hN hl (sw_true (by rw [k.sc]; exact k.kind) hl c2 c3) p1 p2 p3 p4 p5 p6 p7 p8
          · exact ss_setComp k.calm hnd hN hl (sw_true (by rw [k.sc]; exact k.kind) hl c2 c3) p1 p2 p3 p4 p5 p6 p7 p8
        · split at h
          · rename_i hl
            split at h
            · rename_i t dd h1 h2
              cases h
              have hs : swapsWithSole [.Name x py] (.ListComp elt gs scope cp) pos.line X.env = pure false := cell_noswap (l := pos.line) (by rw [k.sc]; exact hl)
              unfold thawIf
              split
              · exact ss_asg (tg0_ok k h1) (compM_ok hr k h2) hs (nosw _) rfl
              · exact ss_asg (tg0_ok k h1) (comp_ok hr k h2) hs (nosw _) rfl
            · cases h
          · cases h
      · split at h
        · cases h
        · rename_i hcomp
          have hcomp : isComp e = false := by simpa using hcomp
          split at h
          · split at h
            · rename_i t d0 h1 h2
              cases h
              exact plain rfl hcomp (nosw _) (tg0_ok k h1) (lstM_ok hr k h2)
            · cases h
          · split at h
            · rename_i t d0 h1 h2
              cases h
              exact plain rfl hcomp (nosw _) (tg0_ok k h1) (hr.E _ _ _ h2 X E k)
            · cases h
    · cases h
  · rename_i ts kk p
    split at h
    · rename_i es k2 p2
      have hk : X.env.scope.kind = .function := by rw [k.sc]; exact k.kind
      split at h
      · rename_i hsw
        have hw := swF_ok (k := kk) (p := p) (k2 := k2) (p2 := p2) hk (by rw [k.sc]; exact hsw)
        split at h
        · rename_i t d0 h1 h2
          cases h
          exact plain rfl rfl hw (tgt_ok k h1) (hr.E _ _ _ h2 X E k)
        · cases h
      · rename_i xs hsw
        have hw := swF_ok (k := kk) (p := p) (k2 := k2) (p2 := p2) hk (by rw [k.sc]; exact hsw)
        split at h
        · rename_i da is h1 h2
          cases h
          obtain ⟨l, e1, e2, e3⟩ := mapO_ok h2
          subst e1 e2
          refine ss_par k.calm hnd (fun q hq => ?_) (am_ok hr k h1) hw
          have := e3 q hq
          split at this
          · rename_i hl
            exact ⟨by rw [k.N]; exact findN_ok this, by rw [k.sc]; exact hl⟩
          · cases this
        · cases h
      · cases h
    · split at h
      · cases h
      · rename_i hnt hcomp
        have hcomp : isComp e = false := by simpa using hcomp
        split at h
        · rename_i t d0 h1 h2
          cases h
          have hw : swappedStores [.Tuple ts kk p] e X.env = pure none := by
            cases e <;> first | rfl | exact absurd rfl (hnt _ _ _)
          exact plain rfl hcomp hw (tgt_ok k h1) (hr.E _ _ _ h2 X E k)
        · cases h
  · split at h
    · cases h
    · rename_i hcomp
      have hcomp : isComp e = false := by simpa using hcomp
      split at h
      · rename_i L d0 x h1 h2 h3
        cases h
        exact ss_attr (fun c hc => k.flds _ (lookup_mem h1) c hc) (hr.E _ _ _ h2 X E k) (hr.E _ _ _ h3 X E k) hcomp
      · cases h
  · split at h
    · rename_i hp
      simp only [Bool.and_eq_true, Bool.not_eq_true'] at hp
      split at h
      · rename_i d0 x y h1 h2 h3
        cases h
        exact ss_setI hp.1 (hr.E _ _ _ h1 X E k) (hr.E _ _ _ h2 X E k) (hr.E _ _ _ h3 X E k) hp.2 (by have := k.un; omega)
      · cases h
    · cases h
  · cases h
theorem ret_ok (hr : Sound r) (K : Okx ct X E) {e : Expr} {pos : Pos} {d : Sn} (h : evRet r ct e = some d) : SS X E (.Return (some e) pos) d := by
  unfold evRet at h
  split at h
  · split at h
    · rename_i d0 h1
      cases h
      exact ss_ret (lstM_ok hr K h1)
    · obtain ⟨d0, h1, h2⟩ := Option.map_eq_some_iff.mp h
      subst h2
      exact ss_ret (hr.E _ _ _ h1 X E K)
  · obtain ⟨d0, h1, h2⟩ := Option.map_eq_some_iff.mp h
    subst h2
    exact ss_ret (hr.E _ _ _ h1 X E K)
theorem star_ok (hr : Sound r) (K : Okx ct X E) {x y : Str} {e : Expr} {px py pst pt pos : Pos} {kk : Nat} {d : Sn} (h : evStar r ct x y e = some d) : SS X E (.Assign [.Tuple [.Name x px, .Starred (.Name y py) pst] kk pt] e pos) d := by
  unfold evStar at h
  split at h
  · rename_i hc
    obtain ⟨c1, c2, c3, c4⟩ := hc
    split at h
    · rename_i i j d0 h1 h2 h3
      cases h
      refine ss_headtail K.calm (by rw [K.N]; exact K.nd) (by rw [K.N]; exact findN_ok h1) (by rw [K.N]; exact findN_ok h2) (by rw [K.sc]; exact c1) (by rw [K.sc]; exact c2) (hr.E _ _ _ h3 X E K) (noSwapSole c3) ?_
      cases e <;> first | rfl | cases c4
    · cases h
  · cases h
theorem raise_ok (K : Okx ct X E) {x m : Str} {j : Nat} {p p2 pos pos' : Pos} {d : Sn} (h : evRaise ct x = some d) : SS X E (.Raise (some (.Call (.Name x p) [.Constant (.str m) j p2] [] pos)) none pos') d := by
  unfold evRaise at h
  split at h
  · rename_i hc
    cases h
    unfold isGlob at hc
    simp only [Bool.and_eq_true, decide_eq_true_eq] at hc
    exact ss_raise K.calm K.tk (K.excs _ hc.2) (glob_of K hc.1.1) (noDbg_ok hc.1.2).1
  · cases h
/-- within a try's body -/
theorem Okx.tr (K : Okx ct X E) (pn : List (Addr × Obj)) (xe : Value → Shared → Prop) : Okx ct (X.tr pn xe) noE where
  N := K.N
  nd := K.nd
  sc := K.sc
  kind := K.kind
  calm := K.calm
  fn := K.fn
  gd := K.gd
  un := K.un
  ps := passL
  tk := fun u s' ⟨_, _, _, _, _, _, _, _, _, _, _, _, _, _, _, _, z⟩ => (show False from z).elim
  fr := K.fr
  tabs := fun t ht => ⟨(K.tabs t ht).ex⟩
  excs := fun x hx => ⟨(K.excs x hx).ex⟩
  fns := fun i hi q hq => by
    obtain ⟨k, rm, D⟩ := K.fns i hi q hq
    exact ⟨k, rm, ⟨D.ex⟩⟩
  gls := K.gls
  bis := K.bis
  flds := K.flds
  mts := fun j hj q hq => K.mts j hj q hq
  mks := fun i hi q hq => K.mks i hi q hq
theorem try_ok (hr : Sound r) {f : Ct → Stmt → Option Sn} (hf : SoundS f) (K : OkS ct X E) {o : Expr} {m x n i1 n2 v3 : Str} {args : List Expr} {orelse : List Stmt} {st : Stmt} {apos cp ep np pos' p1 p2 p3 c2 up ip pos : Pos} {d : Sn}
    (h : evTry r f ct o m apos args cp x n i1 n2 v3 orelse = some d) : SS X E (.Try [.Expr (.Call (.Attribute o m apos) args [] cp) ep] [.ExceptHandler (some (.Name x np)) (some n) [.If (.UnaryOp .Not (.Call (.Name i1 p1) [.Name n2 p2, .Name v3 p3] [] c2) up) [st] [] ip] pos'] orelse [] pos) d := by
  unfold evTry at h
  split at h
  · rename_i hc
    unfold isGlob at hc
    simp only [Bool.and_eq_true, decide_eq_true_eq] at hc
    obtain ⟨⟨⟨⟨⟨⟨⟨⟨⟨⟨⟨⟨⟨⟨⟨c0, c1⟩, c2⟩, c3⟩, c4⟩, rfl⟩, rfl⟩, rfl⟩, c8⟩, c9⟩, c10⟩, c11⟩, c12⟩, c13⟩, c14⟩, c15⟩ := hc
    split at h
    · rename_i i d0 da b h1 h2 h3 h4
      cases h
      have k := K.k
      have eb : ct.blk = none := by cases z : ct.blk <;> first | rfl | (rw [z] at c0; cases c0)
      obtain ⟨f1, f2⟩ := k.fr eb
      obtain ⟨n1, n2, n3⟩ := noDbg_ok c3
      refine ss_tryIs f1 f2 (by rw [k.N]; exact k.nd) (by rw [k.N]; exact findN_ok h1) (by rw [k.sc]; exact c4) (glob_of k c1.1) (noDbg_ok c1.2).1 n1 n2 (k.excs _ c2) (glob_of k c8) (k.bis _ c9) (glob_of k c10) (k.bis _ c11) (block_ok hf K h4) fun W pn xe tk => ?_
      have k2 := k.tr pn xe
      obtain ⟨a1, a2, a3⟩ := args_ok hr k2 h3
      refine body_try k2.gd (fun c e he => ?_) (hr.E _ _ _ h2 _ _ k2) a3 (fun _ => a1) c12 c13 c14 c15 tk
      obtain ⟨j, j1, j2, j3, j4, j5⟩ := tabOf_ok he
      obtain ⟨kk, rm, D⟩ := k2.mts j j1 _ j3
      rw [j2, j4] at D
      rw [j5]
      exact ⟨kk, _, rm, D⟩
    · cases h
  · cases h
theorem stepS_ok (hr : Sound r) {f : Ct → Stmt → Option Sn} (hf : SoundS f) : SoundS (stepS r f) := by
  intro ct st d h X E K
  unfold stepS at h
  split at h
  · exact star_ok hr K.k h
  · exact raise_ok K.k h
  · exact try_ok hr hf K h
  · split at h
    · rename_i hp
      split at h
      · rename_i x y d0 h1 h2 h3
        cases h
        exact ss_addI hp (hr.E _ _ _ h1 X E K.k) (hr.E _ _ _ h2 X E K.k) (hr.E _ _ _ h3 X E K.k)
      · cases h
    · cases h
  · split at h
    · rename_i hl
      split at h
      · rename_i i d0 h1 h2
        cases h
        exact ss_mulN (by rw [K.k.N]; exact K.k.nd) (by rw [K.k.N]; exact findN_ok h1) (.inl (by rw [K.k.sc]; exact hl)) (.inr (by rw [K.k.sc]; exact hl)) (hr.E _ _ _ h2 X E K.k)
      · cases h
    · cases h
  · exact asg_ok hr K h
  · exact ret_ok hr K.k h
  · cases h; exact ss_retN
  · split at h
    · rename_i t x y h1 h2 h3
      cases h
      exact ss_if (hr.T _ _ _ h1 X E K.k) (block_ok hf K h2) (block_ok hf K h3)
    · cases h
  · split at h
    · rename_i t x h1 h2
      cases h
      exact ss_whl K.hp (hr.T _ _ _ h1 X E K.k) (block_ok hf K h2)
    · cases h
  · split at h
    · rename_i hns
      split at h
      · rename_i t d0 x h1 h2 h3
        cases h
        exact ss_for K.hp K.k.calm (it_ok hr K.k h2) (tgt_ok K.k h1) (block_ok hf K h3) (noFold hns)
      · cases h
    · cases h
  · cases h; exact ss_pass
  · cases h; exact ss_brk
  · cases h; exact ss_cnt
  · cases h; exact ss_doc
  · split at h
    · cases h
    · rename_i hc
      obtain ⟨d0, h1, h2⟩ := Option.map_eq_some_iff.mp h
      subst h2
      exact ss_expr (hr.E _ _ _ h1 X E K.k) (noSwap (by simpa using hc))
  · cases h
theorem recS_ok (hr : Sound r) : ∀ n, SoundS (recS r n)
  | 0 => fun _ _ _ h => (nomatch h)
  | n + 1 => stepS_ok hr (recS_ok hr n)
theorem body_ok (K : OkS ct X E) {b : List Stmt} {d : Sn} (h : evBody ct b = some d) : SB X E b d := block_ok (recS_ok (recs_ok 25) 12) K h
end
end CI
namespace CI
open PySem PySem.Spec PyProof.Rows L2
/-! ### what the head looks at: defs, facts, tables, and what one adds -/
abbrev AlC : Type := He.AlT × Bool
def bxB (xb : List (PySem.W.Frag → Bool)) (K : PySem.W.Frag) : Bool := xb.all fun b => b K
def obsC (n : Nat) (fa : List He.Fa) (fn : List He.DefD) (ts : List He.Tab) (xb : List (PySem.W.Frag → Bool)) (g : Addr → Option Obj) : AlC := (He.obsT fa fn ts (He.frG g (He.asD g n)), bxB xb (He.frG g (He.asD g n)))
def hookC (n : Nat) (fa : List He.Fa) (fn : List He.DefD) (ts : List He.Tab) (xb : List (PySem.W.Frag → Bool)) : PySem.W.Hook where
  α := AlC
  obs := fun s => obsC n fa fn ts xb s.heap.get?
  val := fun w => (He.valT fn ts w, true)
  says := fun w h => ∃ K : PySem.W.Frag, K.In h ∧ He.SaysT fa fn ts w K ∧ bxB xb K = true
  of := fun _ _ e => ⟨_, He.frG_in, congrArg (fun z : AlC => z.1) e, congrArg (fun z : AlC => z.2) e⟩
  keeps := fun _ _ _ ⟨K, hK, c⟩ k => ⟨K, PySem.W.Frag.In.keeps hK k, c⟩
theorem obsC_eq {n : Nat} {fa : List He.Fa} {fn : List He.DefD} {ts : List He.Tab} {xb : List (PySem.W.Frag → Bool)} {g : Addr → Option Obj} {s : Shared} (h : ∀ a, g a = s.heap.get? a) : obsC n fa fn ts xb g = (hookC n fa fn ts xb).obs s := by
  have e : g = s.heap.get? := funext h
  rw [e] <;> rfl
theorem bxB_at {xb : List (PySem.W.Frag → Bool)} {K : PySem.W.Frag} (h : bxB xb K = true) (i : Nat) {b : PySem.W.Frag → Bool} (e : xb[i]? = some b) : b K = true := List.all_eq_true.mp h b (List.mem_of_getElem? e)
theorem repPs_strs {G : Gx} {av : List Addr} {H : Hp} : ∀ {ws : List Str}, RepPs G av H (ws.map Pv.str) (ws.map V.str)
  | [] => repPs_nil.mpr rfl
  | w :: ws => repPs_cons.mpr ⟨_, _, rfl, repP_str.mpr rfl, repPs_strs⟩
/-- a module's name that is a tuple of texts -/
theorem tup_stat {K : PySem.W.Frag} {mg : Str → Option Value} {x : Str} {ws : List Str} (hm : mg x = some (.ref (He.ga K x))) (h : He.tupB K x (ws.map He.Dv.str) = true) :
    ∃ u v, mg x = some u ∧ RelV v u ∧ Stat ⟨K, mg⟩ (.tup (ws.map .str)) v := by
  have q := He.tupB_ok h (fun _ => none)
  have e : (ws.map He.Dv.str).map (He.Dv.v K) = ws.map V.str := by rw [List.map_map]; rfl
  rw [e] at q
  rcases q with (q | ⟨o, q⟩) | q
  · cases q
  · cases q
  · exact ⟨_, .ref _, hm, rfl, fun av H => repP_tup.mpr ⟨_, _, rfl, .inr q, repPs_strs⟩⟩
end CI
namespace CI
open PySem PySem.Spec PyProof.Rows L2

/-! ### how a call's values come to the parameters -/
theorem opt_rel {α β : Type} {R : α → β → Prop} {xs : List α} {ys : List β} (hl : xs.length = ys.length) (h : ∀ (i : Nat) x y, xs[i]? = some x → ys[i]? = some y → R x y) (i : Nat) :
    (xs[i]? = none ∧ ys[i]? = none) ∨ ∃ x y, xs[i]? = some x ∧ ys[i]? = some y ∧ R x y := by
  by_cases z : i < xs.length
  · exact .inr ⟨_, _, List.getElem?_eq_getElem z, List.getElem?_eq_getElem (by omega), h i _ _ (List.getElem?_eq_getElem z) (List.getElem?_eq_getElem (by omega))⟩
  · exact .inl ⟨by simp; omega, by simp; omega⟩
section
variable {n : Nat} {ks ms : List Str}
theorem pick_vals {us mv ws : List V} {us' mv' ws' : List Value} (r1 : Vals us us') (r2 : Vals mv mv') (r3 : Vals ws ws') : ∀ (ps : List Str) (i : Nat), Vals (pickO n ks ms us mv ws i ps) (pickO n ks ms us' mv' ws' i ps)
  | [], i => .nil
  | p :: r, i => by
    have gen : ∀ {xs : List V} {ys : List Value}, Vals xs ys → ∀ j : Nat, Vals (xs[j]?).toList (ys[j]?).toList := by
      intro xs ys h j
      rcases opt_rel (R := RelV) h.length (fun i x y e1 e2 => by
        obtain ⟨u, e3, q⟩ := h.get e1
        rw [e2] at e3; cases e3; exact q) j with ⟨e1, e2⟩ | ⟨x, y, e1, e2, q⟩
      · rw [e1, e2]; exact .nil
      · rw [e1, e2]; exact .cons q .nil
    unfold pickO
    refine Vals.append ?_ (pick_vals r1 r2 r3 r (i + 1))
    split
    · exact gen r1 _
    · split
      · exact gen r3 _
      · split
        · exact gen r2 _
        · exact .nil
theorem repVs_append {G : Gx} {av α : List Addr} {H : Hp} : ∀ {xs ys : List Va} {us vs : List V}, RepVs G av α H xs us → RepVs G av α H ys vs → RepVs G av α H (xs ++ ys) (us ++ vs)
  | [], ys, us, vs, h, h' => by
    unfold RepVs at h
    subst h; exact h'
  | x :: xs, ys, us, vs, h, h' => by
    unfold RepVs at h
    obtain ⟨v, r, e, a, b⟩ := h
    subst e
    show RepVs G av α H (x :: (xs ++ ys)) (v :: (r ++ vs))
    unfold RepVs
    exact ⟨v, r ++ vs, rfl, a, repVs_append b h'⟩
theorem pick_reps {G : Gx} {av α : List Addr} {H : Hp} {us mv ws : List Va} {us' mv' ws' : List V} (r1 : RepVs G av α H us us') (r2 : RepVs G av α H mv mv') (r3 : RepVs G av α H ws ws') : ∀ (ps : List Str) (i : Nat), RepVs G av α H (pickO n ks ms us mv ws i ps) (pickO n ks ms us' mv' ws' i ps)
  | [], i => by unfold pickO RepVs; rfl
  | p :: r, i => by
    have gen : ∀ {xs : List Va} {ys : List V}, RepVs G av α H xs ys → ∀ j : Nat, RepVs G av α H (xs[j]?).toList (ys[j]?).toList := by
      intro xs ys h j
      rcases opt_rel (R := RepV G av α H) h.length (fun i x y e1 e2 => by
        obtain ⟨u, e3, q⟩ := h.get e1
        rw [e2] at e3; cases e3; exact q) j with ⟨e1, e2⟩ | ⟨x, y, e1, e2, q⟩
      · rw [e1, e2]; show RepVs G av α H [] []; unfold RepVs; rfl
      · rw [e1, e2]
        show RepVs G av α H [x] [y]
        unfold RepVs
        exact ⟨y, [], rfl, q, by unfold RepVs; rfl⟩
    unfold pickO
    refine repVs_append ?_ (pick_reps r1 r2 r3 r (i + 1))
    split
    · exact gen r1 _
    · split
      · exact gen r3 _
      · split
        · exact gen r2 _
        · show RepVs G av α H [] []; unfold RepVs; rfl
/-- each parameter gets a value -/
def pickC (n : Nat) (ks ms : List Str) : Nat → List Str → Bool
  | _, [] => true
  | i, p :: r => (decide (i < n) || (findN ks p 0).isSome || (findN ms p 0).isSome) && pickC n ks ms (i + 1) r
theorem pick_len {α : Type} {us mv ws : List α} (h1 : us.length = n) (h2 : mv.length = ms.length) (h3 : ws.length = ks.length) : ∀ {ps : List Str} {i : Nat}, pickC n ks ms i ps = true → (pickO n ks ms us mv ws i ps).length = ps.length
  | [], i, _ => rfl
  | p :: r, i, h => by
    unfold pickC at h
    rw [Bool.and_eq_true] at h
    unfold pickO
    rw [List.length_append, pick_len h1 h2 h3 h.2]
    have one : ∀ {xs : List α} {j : Nat}, j < xs.length → (xs[j]?).toList.length = 1 := fun {xs j} z => by rw [List.getElem?_eq_getElem z]; rfl
    have e : ∀ {l : List α}, l.length = 1 → l.length + r.length = (p :: r).length := fun z => by rw [z, List.length_cons]; omega
    refine e ?_
    have fl : ∀ {l : List Str} {j : Nat}, findN l p 0 = some j → j < l.length := fun q => (List.getElem?_eq_some_iff.mp (findN_ok q)).1
    split
    · rename_i z; exact one (by omega)
    · rename_i z
      split
      · rename_i j q; exact one (by rw [h3]; exact fl q)
      · rename_i q
        split
        · rename_i j q2; exact one (by rw [h2]; exact fl q2)
        · rename_i q2
          have := h.1
          rw [q, q2, decide_eq_false z] at this
          cases this
end
section
variable {K : PySem.W.Frag} {mg : Str → Option Value} {x qual : Str} {params : Arguments} {body : List Stmt} {scope : Scope} {dvs : List V} {kws : List (Str × V)} {f : Addr} {fd : FuncData}
/-- a constant and the value it stands for -/
def constV : Pv → Option V
  | .non => some .non
  | .bl b => some (.bl b)
  | .int i => some (.int i)
  | .str s => some (.str s)
  | _ => none
theorem constV_rep {G : Gx} {av : List Addr} {H : Hp} {p : Pv} {v : V} (h : constV p = some v) : RepP G av H p v := by
  cases p <;> first | (cases h; unfold RepP; rfl) | cases h
theorem consts_rep {G : Gx} {av α : List Addr} {H : Hp} : ∀ {ms : List (Str × Pv)} {mv : List (Str × V)}, (ms.map fun q => (q.1, constV q.2)) = (mv.map fun q => (q.1, some q.2)) → RepVs G av α H (ms.map fun q => .pv q.2) (mv.map (·.2)) ∧ ms.map (·.1) = mv.map (·.1)
  | [], [], _ => ⟨by show RepVs G av α H [] []; unfold RepVs; rfl, rfl⟩
  | [], _ :: _, h => by cases h
  | _ :: _, [], h => by cases h
  | m :: ms, v :: mv, h => by
    injection h with h1 h2
    injection h1 with h3 h4
    obtain ⟨a, b⟩ := consts_rep h2
    refine ⟨?_, by show m.1 :: _ = v.1 :: _; rw [h3, b]⟩
    show RepVs G av α H (.pv m.2 :: ms.map fun q => .pv q.2) (v.2 :: mv.map (·.2))
    unfold RepVs
    exact ⟨_, _, rfl, constV_rep h4, a⟩
/-- no defaults are looked up -/
theorem callOk0 {i : FnI} {n : Nat} {ks : List Str} (F : FunD K x qual params body scope [] kws f fd) (hm : lackF i ks = []) (hc : pickC n ks [] 0 i.ps = true)
    (h : ∀ (kV doc pm : Value) (an : Option Addr) (cdv ct : Value) (us ws : List Value), us.length = n → ws.length = ks.length → bindArgs (PySem.W.fnOf x qual params body scope .none kV doc pm an cdv ct) ⟨us, ks.zip ws⟩ = pure (i.ps.zip (pickO n ks [] us [] ws 0 i.ps))) :
    CallOk ⟨K, mg⟩ fd i.ps n ks (asmF i n ks) := by
  obtain ⟨oc, od, dV, kV, doc, pm, an, cdv, ct, osl, rfl, lk, hcd, hD, hK⟩ := F.ex
  rcases hD with ⟨_, rfl⟩ | ⟨e, _⟩
  · refine ⟨⟨fun us ws => pickO n ks [] us [] ws 0 i.ps, fun us ws => pickO n ks [] us [] ws 0 i.ps, ⟨fun s us ws _ l1 l2 => .of_eq (h kV doc pm an cdv ct us ws l1 l2), fun r1 r2 => pick_vals r1 .nil r2 _ _⟩, fun vs zs l1 l2 => pick_len l1 rfl l2 hc, fun av α H us vs ws zs l1 l2 r1 r2 => ?_⟩⟩
    unfold asmF asmP
    rw [show lackP i.dfl ks = [] from hm]
    exact pick_reps r1 (by show RepVs _ av α H [] []; unfold RepVs; rfl) r2 _ _
  · exact absurd rfl e
/-- keyword-only defaults ms are looked up -/
theorem callOkK {i : FnI} {n : Nat} {ks : List Str} {ms : List (Str × V)} (F : FunD K x qual params body scope [] kws f fd) (hk : kws ≠ []) (hms : ∀ q ∈ ms, q ∈ kws) (hm : ((lackF i ks).map fun q => (q.1, constV q.2)) = (ms.map fun q => (q.1, some q.2))) (hc : pickC n ks (ms.map (·.1)) 0 i.ps = true)
    (h : ∀ (D : Addr) (doc pm : Value) (an : Option Addr) (cdv ct : Value) (us mv ws : List Value), us.length = n → mv.length = ms.length → ws.length = ks.length →
      KwChain D ((ms.map (·.1)).zip mv) (bindArgs (PySem.W.fnOf x qual params body scope .none (.ref D) doc pm an cdv ct) ⟨us, ks.zip ws⟩) (i.ps.zip (pickO n ks (ms.map (·.1)) us mv ws 0 i.ps))) :
    CallOk ⟨K, mg⟩ fd i.ps n ks (asmF i n ks) := by
  obtain ⟨mv, B⟩ := FunD.kbinds0 F n ks ms (fun us mv ws => pickO n ks (ms.map (·.1)) us mv ws 0 i.ps) hk hms (fun r1 r2 r3 => pick_vals r1 r2 r3 _ _) h
  refine ⟨⟨_, _, B, fun vs zs l1 l2 => pick_len l1 (by simp) l2 hc, fun av α H us vs ws zs l1 l2 r1 r2 => ?_⟩⟩
  obtain ⟨c1, c2⟩ := consts_rep (G := ⟨K, mg⟩) (av := av) (α := α) (H := H) hm
  unfold asmF asmP
  rw [c2]
  exact pick_reps r1 c1 r2 _ _
end

/-! ### the defs -/
/-- a def that stands -/
def DefsG (P : Program) (w : World) (K : PySem.W.Frag) (mg : Str → Option Value) (base : Heap) (k : Nat) (i : FnI) : Prop :=
  ∃ f fd, mg i.x = some (.ref f) ∧ PySem.W.keepIn K (.ref f) = true ∧ FnG P w K mg base k f fd i.ps (spF ⟨K, mg⟩ i.ps.length i.F) ∧ ∀ q ∈ i.pats, CallOk ⟨K, mg⟩ fd i.ps q.1 q.2 (asmF i q.1 q.2)
section
variable {P : Program} {w : World} {K : PySem.W.Frag} {mg : Str → Option Value} {base : Heap} {x qual : Str} {params : Arguments} {body : List Stmt} {scope : Scope} {dvs : List V} {kws : List (Str × V)} {f : Addr} {fd : FuncData}
/-- a method that stands -/
def MethG (P : Program) (w : World) (K : PySem.W.Frag) (mg : Str → Option Value) (base : Heap) (k : Nat) (j : MtI) : Prop :=
  ∀ C, mg j.c = some (.ref C) → ∃ f fd, Cls K C ∧ Meth K C j.m f ∧ FnG P w K mg base k f fd j.i.ps (spF ⟨K, mg⟩ j.i.ps.length j.i.F) ∧ ∀ q ∈ j.i.pats, CallOk ⟨K, mg⟩ fd j.i.ps q.1 q.2 (asmF j.i q.1 q.2)
/-- a class that is made -/
def MakeG (P : Program) (w : World) (K : PySem.W.Frag) (mg : Str → Option Value) (base : Heap) (k : Nat) (i : FnI) : Prop :=
  ∃ C f fd k', k' + 1 ≤ k ∧ mg i.x = some (.ref C) ∧ Mk K C f ∧ FnG P w K mg base k' f fd i.ps (spF ⟨K, mg⟩ i.ps.length i.F) ∧ ∀ q ∈ i.pats, CallOk ⟨K, mg⟩ fd i.ps q.1 q.2 (asmF i q.1 q.2)
theorem DefsG.mono {j k : Nat} {i : FnI} (h : DefsG P w K mg base j i) (hj : j ≤ k) : DefsG P w K mg base k i := by
  obtain ⟨f, fd, a, b, c, d⟩ := h
  exact ⟨f, fd, a, b, c.mono hj, d⟩
theorem MethG.mono {j k : Nat} {i : MtI} (h : MethG P w K mg base j i) (hj : j ≤ k) : MethG P w K mg base k i := fun C hC => by
  obtain ⟨f, fd, a, b, c, d⟩ := h C hC
  exact ⟨f, fd, a, b, c.mono hj, d⟩
theorem MakeG.mono {j k : Nat} {i : FnI} (h : MakeG P w K mg base j i) (hj : j ≤ k) : MakeG P w K mg base k i := by
  obtain ⟨C, f, fd, k', l, a, b, c, d⟩ := h
  exact ⟨C, f, fd, k', by omega, a, b, c, d⟩
/-- a table of defs that stands -/
def TabG (w : World) (K : PySem.W.Frag) (mg : Str → Option Value) (t : Str × List (Str × Str)) : Prop := ∃ d, mg t.1 = some (.ref d) ∧ ∀ q ∈ t.2, ∃ a, KDct K w d q.1 (.ref a) ∧ mg q.2 = some (.ref a)
theorem tab_one {w : World} {K : PySem.W.Frag} {mg : Str → Option Value} {d : Addr} {es : Array DictEntry} {n : Nat} {kvs : List (Str × He.Dv)} {k g : Str} (D : KDict K w d es n) (vb : He.valsB K d kvs = true) (hq : (k, He.Dv.glo g) ∈ kvs) (hm : mg g = some (.ref (He.ga K g))) :
    ∃ a, KDct K w d k (.ref a) ∧ mg g = some (.ref a) := by
  obtain ⟨u, h1, h2⟩ := He.valsB_ok vb hq
  exact ⟨_, ⟨es, n, u, D.1, D.2, h1, h2⟩, hm⟩
/-- an exception's class that stands -/
def ExcG (K : PySem.W.Frag) (mg : Str → Option Value) (x : Str) : Prop := ∃ C, mg x = some (.ref C) ∧ excB K C = true
theorem fn_ok {ct : Ct} {k : Nat} {b : Sn} {ps : List Str} (F : FunD K x qual params body scope dvs kws f fd) (S : FnScope ct.N ps scope) (hsc : ct.sc = scope) (hblk : ct.blk = none) (hb : evBody ct body = some b)
    (hfns : ∀ j ∈ ct.fns, DefsG P w K mg base k j) (hgls : ∀ g ∈ ct.gls, ∃ u v, mg g.1 = some u ∧ RelV v u ∧ Stat ⟨K, mg⟩ g.2 v) (hbis : ∀ y ∈ ct.bis, mg y = none)
    (hflds : ∀ q ∈ ct.flds, ∀ c ∈ q.2, FldOk ⟨K, mg⟩ c q.1) (hmts : ∀ j ∈ ct.mts, MethG P w K mg base k j) (hmks : ∀ j ∈ ct.mks, MakeG P w K mg base k j) (htabs : ∀ t ∈ ct.tabs, TabG w K mg t) (hexcs : ∀ x ∈ ct.excs, ExcG K mg x) :
    FnG P w K mg base (k + 1) f fd ps (spF ⟨K, mg⟩ ps.length (fnOfB ct.N.length b)) := by
  obtain ⟨oc, od, dV, kV, doc, pm, an, cdv, ct2, osl, rfl, lk, hcd, hD, hK⟩ := F.ex
  refine fnG_of lk hcd S (fun vs H Q E h => h.1) fun A outer s H vs Q E hr hg hsp => ?_
  have Y : Okx ct (cxOf (L2.CX P w) P w K mg base ct.N qual scope f cdv A outer s H E) E := {
    N := rfl
    nd := S.nd
    sc := hsc.symm
    kind := by rw [hsc]; exact S.kind
    calm := rfl
    fn := by rw [hblk]; exact fun _ => rfl
    gd := deeper_guards hg
    un := hr.units
    ps := passes_call (takes_of rfl rfl rfl rfl) (fun _ _ _ _ h => h)
    tk := takes_of rfl rfl rfl rfl
    fr := fun _ => ⟨rfl, rfl⟩
    tabs := fun t ht => ⟨htabs t ht⟩
    excs := fun x hx => ⟨hexcs x hx⟩
    fns := fun j hj q hq => by
      obtain ⟨f2, fd2, a, b2, c, d⟩ := hfns j hj
      exact ⟨k, hr, ⟨⟨f2, fd2, a, b2, c, d q hq⟩⟩⟩
    gls := hgls
    bis := hbis
    flds := hflds
    mts := fun j hj q hq => by
      have h := hmts j hj
      exact ⟨k, hr, fun C hC => by
        obtain ⟨f2, fd2, a, b2, c, d⟩ := h C hC
        exact ⟨f2, fd2, a, b2, c, d q hq⟩⟩
    mks := fun i hi q hq => by
      obtain ⟨C, f2, fd2, k', l, a, b2, c, d⟩ := hmks i hi
      exact ⟨k', hr.mono l, C, f2, fd2, a, b2, c, d q hq⟩ }
  exact ⟨_, body_ok (ct := ct) ⟨Y, passes_of rfl⟩ hb, body_rd hsp⟩
theorem def_ok {ct : Ct} {k : Nat} {b : Sn} {i : FnI} (F : FunD K x qual params body scope dvs kws f fd) (S : FnScope ct.N i.ps scope) (hsc : ct.sc = scope) (hblk : ct.blk = none) (hb : evBody ct body = some b) (hF : i.F = fnOfB ct.N.length b)
    (hm : mg i.x = some (.ref f)) (hcalls : ∀ q ∈ i.pats, CallOk ⟨K, mg⟩ fd i.ps q.1 q.2 (asmF i q.1 q.2))
    (hfns : ∀ j ∈ ct.fns, DefsG P w K mg base k j) (hgls : ∀ g ∈ ct.gls, ∃ u v, mg g.1 = some u ∧ RelV v u ∧ Stat ⟨K, mg⟩ g.2 v) (hbis : ∀ y ∈ ct.bis, mg y = none)
    (hflds : ∀ q ∈ ct.flds, ∀ c ∈ q.2, FldOk ⟨K, mg⟩ c q.1) (hmts : ∀ j ∈ ct.mts, MethG P w K mg base k j) (hmks : ∀ j ∈ ct.mks, MakeG P w K mg base k j) (htabs : ∀ t ∈ ct.tabs, TabG w K mg t) (hexcs : ∀ x ∈ ct.excs, ExcG K mg x) : DefsG P w K mg base (k + 1) i :=
  ⟨f, fd, hm, F.kp, by rw [hF]; exact fn_ok F S hsc hblk hb hfns hgls hbis hflds hmts hmks htabs hexcs, hcalls⟩
/-- a method's def -/
theorem meth_def {ct : Ct} {k : Nat} {b : Sn} {j : MtI} (F : FunD K x qual params body scope dvs kws f fd) (S : FnScope ct.N j.i.ps scope) (hsc : ct.sc = scope) (hblk : ct.blk = none) (hb : evBody ct body = some b) (hF : j.i.F = fnOfB ct.N.length b)
    {C : Addr} (hm : mg j.c = some (.ref C)) (hC : Cls K C) (hM : Meth K C j.m f) (hcalls : ∀ q ∈ j.i.pats, CallOk ⟨K, mg⟩ fd j.i.ps q.1 q.2 (asmF j.i q.1 q.2))
    (hfns : ∀ j ∈ ct.fns, DefsG P w K mg base k j) (hgls : ∀ g ∈ ct.gls, ∃ u v, mg g.1 = some u ∧ RelV v u ∧ Stat ⟨K, mg⟩ g.2 v) (hbis : ∀ y ∈ ct.bis, mg y = none)
    (hflds : ∀ q ∈ ct.flds, ∀ c ∈ q.2, FldOk ⟨K, mg⟩ c q.1) (hmts : ∀ j ∈ ct.mts, MethG P w K mg base k j) (hmks : ∀ j ∈ ct.mks, MakeG P w K mg base k j) (htabs : ∀ t ∈ ct.tabs, TabG w K mg t) (hexcs : ∀ x ∈ ct.excs, ExcG K mg x) : MethG P w K mg base (k + 1) j := fun C' hC' => by
  rw [hm] at hC'
  cases hC'
  exact ⟨f, fd, hC, hM, by rw [hF]; exact fn_ok F S hsc hblk hb hfns hgls hbis hflds hmts hmks htabs hexcs, hcalls⟩
/-- a class's __init__ -/
theorem make_def {ct : Ct} {k : Nat} {b : Sn} {i : FnI} (F : FunD K x qual params body scope dvs kws f fd) (S : FnScope ct.N i.ps scope) (hsc : ct.sc = scope) (hblk : ct.blk = none) (hb : evBody ct body = some b) (hF : i.F = fnOfB ct.N.length b)
    {C : Addr} (hm : mg i.x = some (.ref C)) (hM : Mk K C f) (hcalls : ∀ q ∈ i.pats, CallOk ⟨K, mg⟩ fd i.ps q.1 q.2 (asmF i q.1 q.2))
    (hfns : ∀ j ∈ ct.fns, DefsG P w K mg base k j) (hgls : ∀ g ∈ ct.gls, ∃ u v, mg g.1 = some u ∧ RelV v u ∧ Stat ⟨K, mg⟩ g.2 v) (hbis : ∀ y ∈ ct.bis, mg y = none)
    (hflds : ∀ q ∈ ct.flds, ∀ c ∈ q.2, FldOk ⟨K, mg⟩ c q.1) (hmts : ∀ j ∈ ct.mts, MethG P w K mg base k j) (hmks : ∀ j ∈ ct.mks, MakeG P w K mg base k j) (htabs : ∀ t ∈ ct.tabs, TabG w K mg t) (hexcs : ∀ x ∈ ct.excs, ExcG K mg x) : MakeG P w K mg base (k + 2) i :=
  ⟨C, f, fd, k + 1, Nat.le_refl _, hm, hM, by rw [hF]; exact fn_ok F S hsc hblk hb hfns hgls hbis hflds hmts hmks htabs hexcs, hcalls⟩
end
/-- a class's statements -/
def clsB : Stmt → List Stmt
  | .ClassDef (body := b) .. => b
  | _ => []
/-- of each of a few -/
theorem allN {α : Type} {Z : α → Prop} : ∀ j ∈ ([] : List α), Z j := fun _ h => nomatch h
theorem allC {α : Type} {Z : α → Prop} {a : α} {l : List α} (h : Z a) (t : ∀ j ∈ l, Z j) : ∀ j ∈ a :: l, Z j := fun j m => by
  rcases List.mem_cons.mp m with e | m
  · rw [e]; exact h
  · exact t j m
end CI

namespace CI
open PySem PySem.Spec PyProof.Rows L2
/-! ### the law's end -/
/-- what the law's def is to tell -/
def LawSays (F : Fn) (n : Nat) : Prop := ∀ ns : List Int, ns.length ≤ n → ∃ h, F [.pv (.scr ns)] [] = .ok (.pv (.bl true)) h
theorem spF_law {G : Gx} {F : Fn} {n : Nat} {H : Hp} {a : Addr} {ns : List Int} (h : LawSays F n) (hn : ns.length ≤ n) (hS : SqL G.K H a (ns.map V.int)) : spF G 1 F [.ref a] H (fun v _ => v = .bl true) fun _ _ _ => False := by
  obtain ⟨h', e⟩ := h ns hn
  refine ⟨rfl, [], [], [], [.pv (.scr ns)], ⟨rfl, List.nodup_nil, fun a m => by simp [own] at m, fun a m => (by cases m), fun a m => (by cases m), fun r a ob e => by simp at e⟩, ?_, ?_⟩
  · unfold RepVs
    refine ⟨.ref a, [], rfl, ?_, by unfold RepVs; rfl⟩
    unfold RepV RepP
    refine ⟨a, rfl, ?_⟩
    rcases hS with hS | hS
    · exact .inl ⟨hS, by simp [own]⟩
    · exact .inr hS
  · rw [e]
    intro α' u H' _ _ q
    unfold rV RepV RepP at q
    exact q
section
variable {P : Program} {w : World} {K : PySem.W.Frag} {mg mb : Str → Option Value} {s1 : Shared} {a : Addr} {its : List Value} {ns : List Int}
/-- the module's heap, what H tracks left out -/
theorem mod_hid {H : Hp} (KX : K.In s1.heap) (hns : s1.heap.Ns mainGlobals mg) (hb : s1.heap.Ns builtinsNs mb) (hbb : ∀ y : Str, y ≠ "__name__" → mb y = bootBuiltins y) (hlim : s1.heap.NoLimit)
    (ha : s1.heap.get? a = some { cls := .type "list", data := .seq its.toArray }) (only : ∀ b, H b ≠ none → b = a ∧ K.lookup a = none) : Mod K mg (hidT s1.heap H) ∧ (hidT s1.heap H).Ns mainGlobals mg := by
  have free : ∀ {b : Addr}, (H b ≠ none → False) → H b = none := fun {b} z => Classical.byContradiction z
  have ns : ∀ {b : Addr} {m : Str → Option Value}, s1.heap.Ns b m → (hidT s1.heap H).Ns b m := by
    rintro b m ⟨o, es, ep, e, d, r⟩
    refine ⟨o, es, ep, hidT_get e (free fun z => ?_), d, r⟩
    obtain ⟨q, _⟩ := only b z
    rw [q, ha] at e
    cases e
    exact nomatch (show Data.seq its.toArray _ = Data.dict es ep from d)
  refine ⟨⟨fun b o e => hidT_get (KX b o e) (free fun z => ?_), ns hns, ⟨mb, ns hb, hbb⟩, ?_⟩, ns hns⟩
  · obtain ⟨q, q2⟩ := only b z
    rw [q, q2] at e; cases e
  · obtain ⟨mc, h1, h2⟩ := hlim
    exact ⟨mc, ns h1, h2⟩
/-- one call of the law's def -/
theorem law_run {k : Nat} {fa : Addr} {fd : FuncData} {y : Str} {sp : Sp} {H : Hp} (KX : K.In s1.heap) (hns : s1.heap.Ns mainGlobals mg) (hb : s1.heap.Ns builtinsNs mb) (hbb : ∀ y : Str, y ≠ "__name__" → mb y = bootBuiltins y) (hlim : s1.heap.NoLimit) (hgen : s1.gens = #[])
    (ha : s1.heap.get? a = some { cls := .type "list", data := .seq its.toArray }) (only : ∀ b, H b ≠ none → b = a ∧ K.lookup a = none) (hok : HOk P w H s1.heap) (hO : Only H) (hr : Room k callerA)
    (F : ∀ B : Heap, K.In B → B.Ns mainGlobals mg → FnG P w K mg B k fa fd [y] sp) (hbind : ∀ (s : Shared) (u : Value), BindsTo s fd ⟨[u], []⟩ [(y, u)])
    (hsp : sp [.ref a] H (fun v _ => v = .bl true) fun _ _ _ => False) :
    codeAny (model P w) callerA (.call (.ref fa) ⟨[.ref a], []⟩) (fun r z => r = .ok (.ret (.bool true)) ∧ OldK s1.heap z.heap ∧ z.os = s1.os ∧ AllBare z.gens) s1 := by
  obtain ⟨hM, hN⟩ := mod_hid KX hns hb hbb hlim ha only
  have e0 : Env0 P w K mg (hidT s1.heap H) callerA [] s1 H :=
    ⟨rfl, hM, fun b o e => of_hidT e, Nat.le_of_eq (hidT_size _ _), trivial, fun b z => (by exact absurd (show b ∈ ([] : List Addr) from z) (by simp)), hok, .of_eq hgen⟩
  refine codeAny_mono ((F _ hM.kin hN).run callerA [] s1 H ⟨[.ref a], []⟩ [.ref a] [.ref a] _ _ hr rfl e0 (hbind s1 (.ref a)) (.cons rfl .nil) hsp) ?_
  intro r z h
  rcases r with e | fl
  · obtain ⟨_, _, _, _, _, _, _, _, _, _, _, _, q⟩ := h
    exact q.elim
  · cases fl with
    | ret u =>
      obtain ⟨v, H2, os, bare, un, hok2, rv, q⟩ := h
      have qv : v = .bl true := q
      rw [qv] at rv
      have hu : u = Value.bool true := rv
      subst hu
      refine ⟨rfl, OldK.of_keep fun b o e => ?_, os, bare⟩
      rcases hO b with q1 | ⟨o1, xs, q1⟩
      · exact un.keep b o e q1 (fun z => absurd (show b ∈ ([] : List Addr) from z) (by simp)) (by simp)
      · have q2 := (hok b _ q1).1
        rw [e] at q2
        cases q2
        exact (hok2 b _ (un.frzs b _ _ q1)).1
    | next => exact absurd h (fun z => z)
    | brk => exact absurd h (fun z => z)
    | cont => exact absurd h (fun z => z)
theorem law_end {k n : Nat} {fa : Addr} {fd : FuncData} {y : Str} {Fl : Fn} (KX : K.In s1.heap) (hns : s1.heap.Ns mainGlobals mg) (hb : s1.heap.Ns builtinsNs mb) (hbb : ∀ y : Str, y ≠ "__name__" → mb y = bootBuiltins y) (hlim : s1.heap.NoLimit) (hgen : s1.gens = #[])
    (ha : s1.heap.get? a = some { cls := .type "list", data := .seq its.toArray }) (hi : IntsAre its ns) (hl : ns.length ≤ n) (hn : n ≤ sizeLine) (hr : Room k callerA)
    (F : ∀ B : Heap, K.In B → B.Ns mainGlobals mg → FnG P w K mg B k fa fd [y] (spF ⟨K, mg⟩ 1 Fl)) (hbind : ∀ (s : Shared) (u : Value), BindsTo s fd ⟨[u], []⟩ [(y, u)]) (hF : LawSays Fl n) :
    codeAny (model P w) callerA (.call (.ref fa) ⟨[.ref a], []⟩) (fun r z => r = .ok (.ret (.bool true)) ∧ OldK s1.heap z.heap ∧ z.os = s1.os ∧ AllBare z.gens) s1 := by
  have rv := vals_ints hi
  have ln := hi.length
  have go : ∀ H : Hp, (∀ b, H b ≠ none → b = a ∧ K.lookup a = none) → HOk P w H s1.heap → Only H → SqL K H a (ns.map V.int) → _ := fun H only hok hO hS =>
    law_run KX hns hb hbb hlim hgen ha only hok hO hr F hbind (spF_law (G := ⟨K, mg⟩) (F := Fl) hF hl hS)
  cases q : K.lookup a with
  | some o =>
    have e := KX a o q
    rw [ha] at e
    cases e
    refine go (fun _ => none) (fun b z => absurd rfl z) (fun b u z => nomatch (show (none : Option HO) = some u from z)) (fun _ => .inl rfl) (.inr ?_)
    exact ⟨_, its.toArray, _, q, rfl, rfl, rfl, by simp; omega, by simpa using rv⟩
  | none =>
    have at1 : ∀ {b : Addr} {u : HO}, (if b = a then some (HO.frz { cls := .type "list", data := .seq its.toArray } (.lst (ns.map V.int))) else none) = some u → b = a ∧ u = HO.frz { cls := .type "list", data := .seq its.toArray } (.lst (ns.map V.int)) := by
      intro b u z
      split at z
      · rename_i e; cases z; exact ⟨e, rfl⟩
      · cases z
    refine go (fun b => if b = a then some (.frz { cls := .type "list", data := .seq its.toArray } (.lst (ns.map V.int))) else none) (fun b z => ?_) (fun b u z => ?_) (fun b => ?_) (.inl (.inr ⟨_, if_pos rfl⟩))
    · obtain ⟨u, e⟩ := Option.ne_none_iff_exists'.mp z
      exact ⟨(at1 e).1, q⟩
    · obtain ⟨rfl, rfl⟩ := at1 z
      exact ⟨ha, by rw [List.length_map]; omega, its, _, rv, ha⟩
    · by_cases e : b = a
      · exact .inr ⟨_, _, if_pos e⟩
      · exact .inl (if_neg e)
end
/-- the law, from the def's reading -/
theorem walkG {l : PySem.W.OpenLaw} {n k : Nat} {q : Program} {loose : List Str} {XP : (Str → Option Value) → Heap → Prop} {YP : World → Heap → Prop} {d : DefRec} {y : Str} {Fl : Fn}
    (hn : l.most = some n) (hn2 : n ≤ sizeLine) (hdf : d.params.defaults = []) (hr : Room k callerA)
    (F : ∀ (w : World) (mg : Str → Option Value) (fa : Addr) (h : Heap), YP w h → h.Ns mainGlobals mg → mg d.name = some (.ref fa) →
      ∃ (K : PySem.W.Frag) (fd : FuncData), K.In h ∧ (∀ (s : Shared) (u : Value), BindsTo s fd ⟨[u], []⟩ [(y, u)]) ∧ ∀ B : Heap, K.In B → B.Ns mainGlobals mg → FnG l.prog w K mg B k fa fd [y] (spF ⟨K, mg⟩ 1 Fl))
    (hF : LawSays Fl n) : PySem.W.WalkO q loose XP YP l.row.toRowW d [] (fun f vs => PySem.call f vs) := by
  refine Att.attach_call hn hdf ?_
  intro w s0 s1 mg mb fa o pm cd doc a its ns G Y ho hd hcd hmg hobj hints hlen hgen
  obtain ⟨K, fd, KX, hb, hG⟩ := F w mg fa _ Y G.T.g hmg
  exact law_end KX G.T.g G.T.b G.T.builtins G.T.nolimit hgen hobj hints hlen hn2 hr hG hb hF
end CI
namespace R
open PySem PySem.Spec PyProof.Rows L2 CI
abbrev ps_q_bag : List Str := [("_law_script" : Str), ("_law_at" : Str)]
abbrev n_q_bag : List Str := [("_law_script" : Str), ("_law_at" : Str), ("_law_great" : Str), ("_law_prime" : Str)]
def a_q_bag (n : Nat) (ks : List Str) : List Va → List Va → List Va := asmP ps_q_bag [] n ks
noncomputable def b_q_bag : Sn := (sSeq (sAsg (gNm 2) (dC (.int 0)))
    (sSeq (sIf (tVB (dBin oLt (dVar 1) (dBi bLen (daCons (dVar 0) daNil)))) (sAsg (gNm 2) (dBi bAbs (daCons (dBin oIdx (dVar 0) (dVar 1)) daNil))) sNil)
    (sSeq (sAsg (gNm 3) (dBin oIdx (dLst (daCons (dC (.int 2147483629)) (daCons (dC (.int 2147483587)) (daCons (dC (.int 2147483579)) (daCons (dC (.int 2147483563)) (daCons (dC (.int 2147483549)) (daCons (dC (.int 2147483543)) (daCons (dC (.int 2147483497)) (daCons (dC (.int 2147483489)) daNil))))))))) (dBin oMod (dVar 1) (dC (.int 8)))))
    (sRet (dLstM (daCons (dBin oMul (dVar 2) (dBi bInt (daCons (dBin oGe (dVar 2) (dBin oPow (dC (.int 10)) (dC (.int 18)))) daNil))) (daCons (dBin oMod (dBin oPow (dBin oAdd (dBin oAdd (dBin oMod (dVar 2) (dC (.int 2147483647))) (dBin oMul (dC (.int 104729)) (dVar 1))) (dC (.int 7))) (dC (.int 5))) (dVar 3)) (daCons (dVar 3) (daCons (dC (.int 0)) daNil)))))))))
noncomputable def F_q_bag : Fn := fnOfB 4 b_q_bag

abbrev ps_q_take : List Str := [("_law_bag_here" : Str), ("_law_many" : Str)]
abbrev n_q_take : List Str := [("_law_bag_here" : Str), ("_law_many" : Str), ("_law_digit" : Str)]
def a_q_take (n : Nat) (ks : List Str) : List Va → List Va → List Va := asmP ps_q_take [] n ks
noncomputable def b_q_take : Sn := (sSeq (sIf (tVB (dBin oGt (dBin oIdx (dVar 0) (dC (.int 0))) (dC (.int 0)))) (sSeq (sAsg (gNm 2) (dBin oMod (dBin oIdx (dVar 0) (dC (.int 0))) (dVar 1)))
    (sSeq (sSetI (dBin oDiv (dBin oIdx (dVar 0) (dC (.int 0))) (dVar 1)) (dVar 0) (dC (.int 0)))
    (sRet (dVar 2)))) sNil)
    (sSeq (sSetI (dBin oAdd (dBin oIdx (dVar 0) (dC (.int 3))) (dC (.int 1))) (dVar 0) (dC (.int 3)))
    (sSeq (sSetI (dBin oMod (dBin oAdd (dBin oAdd (dBin oMul (dBin oIdx (dVar 0) (dC (.int 1))) (dC (.int 48271))) (dBin oMul (dC (.int 7919)) (dBin oIdx (dVar 0) (dC (.int 3))))) (dC (.int 11))) (dBin oIdx (dVar 0) (dC (.int 2)))) (dVar 0) (dC (.int 1)))
    (sRet (dBin oMod (dBin oMod (dBin oPow (dBin oDiv (dBin oIdx (dVar 0) (dC (.int 1))) (dC (.int 8))) (dC (.int 3))) (dC (.int 2147483629))) (dVar 1))))))
noncomputable def F_q_take : Fn := fnOfB 3 b_q_take

abbrev ps_q_wide : List Str := [("_law_bag_here" : Str), ("_law_many" : Str)]
abbrev n_q_wide : List Str := [("_law_bag_here" : Str), ("_law_many" : Str), ("_law_found" : Str), ("_law_turn" : Str)]
def a_q_wide (n : Nat) (ks : List Str) : List Va → List Va → List Va := asmP ps_q_wide [] n ks
noncomputable def b_q_wide : Sn := (sSeq (sAsg (gNm 2) (dC (.int 0)))
    (sSeq (sFor (iRng1 (daCons (dC (.int 5)) daNil)) (gNm 3) (sAsg (gNm 2) (dBin oAdd (dBin oMul (dVar 2) (dBin oPow (dC (.int 10)) (dC (.int 9)))) (dCall R.F_q_take 2 0 (R.a_q_take 2 []) (daCons (dVar 0) (daCons (dBin oPow (dC (.int 10)) (dC (.int 9))) daNil)) daNil))))
    (sRet (dBin oMod (dVar 2) (dVar 1)))))
noncomputable def F_q_wide : Fn := fnOfB 4 b_q_wide

abbrev ps_q_gcd : List Str := [("_law_one" : Str), ("_law_two" : Str)]
abbrev n_q_gcd : List Str := [("_law_one" : Str), ("_law_two" : Str)]
def a_q_gcd (n : Nat) (ks : List Str) : List Va → List Va → List Va := asmP ps_q_gcd [] n ks
noncomputable def b_q_gcd : Sn := (sSeq (sWhl (tVB (dBin oGt (dVar 1) (dC (.int 0)))) (sPar [0, 1] (daCons (dVar 1) (daCons (dBin oMod (dVar 0) (dVar 1)) daNil))))
    (sRet (dVar 0)))
noncomputable def F_q_gcd : Fn := fnOfB 2 b_q_gcd

abbrev ps_many_coins : List Str := [("top" : Str), ("under" : Str), ("coin" : Str), ("rule" : Str)]
abbrev n_many_coins : List Str := [("top" : Str), ("under" : Str), ("coin" : Str), ("rule" : Str), ("size" : Str), ("low" : Str), ("rest" : Str)]
def a_many_coins (n : Nat) (ks : List Str) : List Va → List Va → List Va := asmP ps_many_coins [] n ks
noncomputable def b_many_coins : Sn := (sSeq (sAsg (gNm 4) (dBin oMul (dVar 1) (dVar 2)))
    (sSeq (sAsg (gTu 2 (gsCons (gNm 5) (gsCons (gNm 6) gsNil))) (dBi bDivmod (daCons (dVar 0) (daCons (dVar 4) daNil))))
    (sSeq (sIf (tOr (tVB (dBin (oEqN false) (dVar 6) (dC (.int 0)))) (tVB (dBin (oEqN false) (dVar 3) (dC (.str ("down" : Str)))))) (sRet (dVar 5)) sNil)
    (sSeq (sIf (tVB (dBin (oEqN false) (dVar 3) (dC (.str ("up" : Str))))) (sRet (dBin oAdd (dVar 5) (dC (.int 1)))) sNil)
    (sSeq (sIf (tVB (dBin (oEqN true) (dBin oMul (dC (.int 2)) (dVar 6)) (dVar 4))) (sRet (dBin oAdd (dVar 5) (dBi bInt (daCons (dBin oGt (dBin oMul (dC (.int 2)) (dVar 6)) (dVar 4)) daNil)))) sNil)
    (sSeq (sIf (tVB (dBin (oEqN false) (dVar 3) (dC (.str ("even" : Str))))) (sRet (dBin oAdd (dVar 5) (dBin oMod (dVar 5) (dC (.int 2))))) sNil)
    (sRet (dBin oAdd (dVar 5) (dBi bInt (daCons (dBin (oEqN false) (dVar 3) (dC (.str ("upper" : Str)))) daNil))))))))))
noncomputable def F_many_coins : Fn := fnOfB 7 b_many_coins

abbrev ps_rounded : List Str := [("ratio" : Str), ("coin" : Str), ("rule" : Str)]
abbrev n_rounded : List Str := [("ratio" : Str), ("coin" : Str), ("rule" : Str), ("top" : Str), ("under" : Str)]
def a_rounded (n : Nat) (ks : List Str) : List Va → List Va → List Va := asmP ps_rounded [(("coin" : Str), (.int 1)), (("rule" : Str), (.str ("down" : Str)))] n ks
noncomputable def b_rounded : Sn := (sSeq (sAsg (gTu 2 (gsCons (gNm 3) (gsCons (gNm 4) gsNil))) (dVar 0))
    (sRet (dBin oMul (dVar 1) (dCallP R.F_many_coins 4 0 (R.a_many_coins 4 []) (daCons (dVar 3) (daCons (dVar 4) (daCons (dVar 1) (daCons (dVar 2) daNil)))) daNil))))
noncomputable def F_rounded : Fn := fnOfB 5 b_rounded

abbrev ps_common : List Str := [("one" : Str), ("other" : Str)]
abbrev n_common : List Str := [("one" : Str), ("other" : Str)]
def a_common (n : Nat) (ks : List Str) : List Va → List Va → List Va := asmP ps_common [] n ks
noncomputable def b_common : Sn := (sSeq (sWhl (tVB (dBin oGt (dVar 1) (dC (.int 0)))) (sPar [0, 1] (daCons (dVar 1) (daCons (dBin oMod (dVar 0) (dVar 1)) daNil))))
    (sRet (dVar 0)))
noncomputable def F_common : Fn := fnOfB 2 b_common

abbrev ps_lowest : List Str := [("top" : Str), ("under" : Str)]
abbrev n_lowest : List Str := [("top" : Str), ("under" : Str), ("part" : Str)]
def a_lowest (n : Nat) (ks : List Str) : List Va → List Va → List Va := asmP ps_lowest [] n ks
noncomputable def b_lowest : Sn := (sSeq (sAsg (gNm 2) (dCallP R.F_common 2 0 (R.a_common 2 []) (daCons (dBi bAbs (daCons (dVar 0) daNil)) (daCons (dBi bAbs (daCons (dVar 1) daNil)) daNil)) daNil))
    (sSeq (sIf (tVB (dBin oLt (dVar 1) (dC (.int 0)))) (sAsg (gNm 2) (dNeg (dVar 2))) sNil)
    (sRet (dTup (daCons (dBin oDiv (dVar 0) (dVar 2)) (daCons (dBin oDiv (dVar 1) (dVar 2)) daNil))))))
noncomputable def F_lowest : Fn := fnOfB 3 b_lowest

abbrev ps_plus : List Str := [("one" : Str), ("other" : Str)]
abbrev n_plus : List Str := [("one" : Str), ("other" : Str)]
def a_plus (n : Nat) (ks : List Str) : List Va → List Va → List Va := asmP ps_plus [] n ks
noncomputable def b_plus : Sn := (sRet (dCallP R.F_lowest 2 0 (R.a_lowest 2 []) (daCons (dBin oAdd (dBin oMul (dBin oIdx (dVar 0) (dC (.int 0))) (dBin oIdx (dVar 1) (dC (.int 1)))) (dBin oMul (dBin oIdx (dVar 1) (dC (.int 0))) (dBin oIdx (dVar 0) (dC (.int 1))))) (daCons (dBin oMul (dBin oIdx (dVar 0) (dC (.int 1))) (dBin oIdx (dVar 1) (dC (.int 1)))) daNil)) daNil))
noncomputable def F_plus : Fn := fnOfB 2 b_plus

abbrev ps_minus : List Str := [("one" : Str), ("other" : Str)]
abbrev n_minus : List Str := [("one" : Str), ("other" : Str)]
def a_minus (n : Nat) (ks : List Str) : List Va → List Va → List Va := asmP ps_minus [] n ks
noncomputable def b_minus : Sn := (sRet (dCallP R.F_plus 2 0 (R.a_plus 2 []) (daCons (dVar 0) (daCons (dTup (daCons (dNeg (dBin oIdx (dVar 1) (dC (.int 0)))) (daCons (dBin oIdx (dVar 1) (dC (.int 1))) daNil))) daNil)) daNil))
noncomputable def F_minus : Fn := fnOfB 2 b_minus

abbrev ps_left : List Str := [("ratio" : Str), ("coin" : Str), ("rule" : Str)]
abbrev n_left : List Str := [("ratio" : Str), ("coin" : Str), ("rule" : Str)]
def a_left (n : Nat) (ks : List Str) : List Va → List Va → List Va := asmP ps_left [(("coin" : Str), (.int 1)), (("rule" : Str), (.str ("down" : Str)))] n ks
noncomputable def b_left : Sn := (sRet (dCallP R.F_minus 2 0 (R.a_minus 2 []) (daCons (dVar 0) (daCons (dTup (daCons (dCallP R.F_rounded 1 2 (R.a_rounded 1 [("coin" : Str), ("rule" : Str)]) (daCons (dVar 0) daNil) (daCons (dVar 1) (daCons (dVar 2) daNil))) (daCons (dC (.int 1)) daNil))) daNil)) daNil))
noncomputable def F_left : Fn := fnOfB 3 b_left

abbrev ps_is_whole : List Str := [("thing" : Str)]
abbrev n_is_whole : List Str := [("thing" : Str)]
def a_is_whole (n : Nat) (ks : List Str) : List Va → List Va → List Va := asmP ps_is_whole [] n ks
noncomputable def b_is_whole : Sn := (sRet (dAnd (dBi bIsi (daCons (dVar 0) (daCons (dC (.ty "int")) daNil))) (dNot (dBi bIsi (daCons (dVar 0) (daCons (dC (.ty "bool")) daNil))))))
noncomputable def F_is_whole : Fn := fnOfB 1 b_is_whole

abbrev ps_is_ratio : List Str := [("thing" : Str)]
abbrev n_is_ratio : List Str := [("thing" : Str), ("top" : Str), ("under" : Str), ("number" : Str)]
def a_is_ratio (n : Nat) (ks : List Str) : List Va → List Va → List Va := asmP ps_is_ratio [] n ks
noncomputable def b_is_ratio : Sn := (sSeq (sIf (tOr (tNot (tVal (dBi bIsi (daCons (dVar 0) (daCons (dC (.ty "tuple")) daNil))))) (tOr (tVB (dBin (oEqN true) (dBi bLen (daCons (dVar 0) daNil)) (dC (.int 2)))) (tNot (tVal (dBi bAll (daCons (dComp (iSeq (dVar 0)) [3] (gNm 3) tYesD (dCallP R.F_is_whole 1 0 (R.a_is_whole 1 []) (daCons (dVar 3) daNil) daNil)) daNil)))))) (sRet (dC (.bl false))) sNil)
    (sSeq (sAsg (gTu 2 (gsCons (gNm 1) (gsCons (gNm 2) gsNil))) (dVar 0))
    (sRet (dAnd (dBin oGt (dVar 2) (dC (.int 0))) (dBin (oEqN false) (dCallP R.F_common 2 0 (R.a_common 2 []) (daCons (dBi bAbs (daCons (dVar 1) daNil)) (daCons (dVar 2) daNil)) daNil) (dC (.int 1)))))))
noncomputable def F_is_ratio : Fn := fnOfB 4 b_is_ratio

abbrev ps_q_shares : List Str := [("_law_bag_here" : Str), ("_law_tos" : Str)]
abbrev n_q_shares : List Str := [("_law_bag_here" : Str), ("_law_tos" : Str), ("_law_to" : Str), ("_law_found" : Str), ("_law_above" : Str), ("_law_below" : Str), ("_law_under" : Str), ("_law_most" : Str), ("_law_top" : Str), ("_law_part" : Str)]
def a_q_shares (n : Nat) (ks : List Str) : List Va → List Va → List Va := asmP ps_q_shares [] n ks
noncomputable def b_q_shares : Sn := (sSeq (sPar [3, 4, 5] (daCons (dLstM daNil) (daCons (dC (.int 1)) (daCons (dC (.int 1)) daNil))))
    (sSeq (sFor (iSeq (dSl (dVar 1) none (some (dBin oAdd (dC (.int 1)) (dCall R.F_q_take 2 0 (R.a_q_take 2 []) (daCons (dVar 0) (daCons (dC (.int 4)) daNil)) daNil))))) (gNm 2) (sSeq (sAsg (gNm 6) (dBin oIdx (dLst (daCons (dBin oAdd (dC (.int 1)) (dCall R.F_q_take 2 0 (R.a_q_take 2 []) (daCons (dVar 0) (daCons (dC (.int 12)) daNil)) daNil)) (daCons (dBin oAdd (dC (.int 2)) (dCall R.F_q_take 2 0 (R.a_q_take 2 []) (daCons (dVar 0) (daCons (dC (.int 3)) daNil)) daNil)) daNil))) (dCall R.F_q_take 2 0 (R.a_q_take 2 []) (daCons (dVar 0) (daCons (dC (.int 2)) daNil)) daNil)))
    (sSeq (sAsg (gNm 7) (dBin oDiv (dBin oMul (dVar 4) (dVar 6)) (dVar 5)))
    (sIf (tVB (dBin oGt (dVar 7) (dC (.int 0)))) (sSeq (sAsg (gNm 8) (dBin oAdd (dC (.int 1)) (dCall R.F_q_take 2 0 (R.a_q_take 2 []) (daCons (dVar 0) (daCons (dVar 7) daNil)) daNil)))
    (sSeq (sAsg (gNm 9) (dCallP R.F_q_gcd 2 0 (R.a_q_gcd 2 []) (daCons (dVar 8) (daCons (dVar 6) daNil)) daNil))
    (sSeq (sExpr (dApp (dVar 3) (daCons (dTup (daCons (dVar 2) (daCons (dBin oDiv (dVar 8) (dVar 9)) (daCons (dBin oDiv (dVar 6) (dVar 9)) daNil)))) daNil)))
    (sPar [4, 5] (daCons (dBin oSub (dBin oMul (dVar 4) (dVar 6)) (dBin oMul (dVar 8) (dVar 5))) (daCons (dBin oMul (dVar 5) (dVar 6)) daNil)))))) sNil))))
    (sRet (dBi bTuple (daCons (dVar 3) daNil)))))
noncomputable def F_q_shares : Fn := fnOfB 10 b_q_shares

abbrev ps_q_house : List Str := [("_law_bag_here" : Str), ("_law_name" : Str), ("_law_tos" : Str)]
abbrev n_q_house : List Str := [("_law_bag_here" : Str), ("_law_name" : Str), ("_law_tos" : Str), ("_law_shares_here" : Str), ("_law_piece" : Str), ("_law_word" : Str)]
def a_q_house (n : Nat) (ks : List Str) : List Va → List Va → List Va := asmP ps_q_house [] n ks
noncomputable def b_q_house : Sn := (sSeq (sAsg (gNm 3) (dCall R.F_q_shares 2 0 (R.a_q_shares 2 []) (daCons (dVar 0) (daCons (dVar 2) daNil)) daNil))
    (sSeq (sAsg (gNm 4) (dBin oIdx (dLst (daCons (dC (.int 1)) (daCons (dC (.int 1)) (daCons (dC (.int 2)) (daCons (dC (.int 3)) (daCons (dC (.int 5)) (daCons (dBin oAdd (dC (.int 1)) (dCall R.F_q_take 2 0 (R.a_q_take 2 []) (daCons (dVar 0) (daCons (dC (.int 12)) daNil)) daNil)) daNil))))))) (dCall R.F_q_take 2 0 (R.a_q_take 2 []) (daCons (dVar 0) (daCons (dC (.int 6)) daNil)) daNil)))
    (sSeq (sAsg (gNm 5) (dBin oIdx (dLst (daCons (dC (.str ("down" : Str))) (daCons (dC (.str ("up" : Str))) (daCons (dC (.str ("upper" : Str))) (daCons (dC (.str ("lower" : Str))) (daCons (dC (.str ("even" : Str))) daNil)))))) (dCall R.F_q_take 2 0 (R.a_q_take 2 []) (daCons (dVar 0) (daCons (dC (.int 5)) daNil)) daNil)))
    (sRet (dTup (daCons (dVar 1) (daCons (dVar 3) (daCons (dVar 4) (daCons (dVar 5) (daCons (dBin oIdx (dLst (daCons (dC (.str ("drop" : Str))) (daCons (dC (.str ("keep" : Str))) (daCons (dC (.str ("hand" : Str))) (daCons (dC (.str ("turn" : Str))) daNil))))) (dCall R.F_q_take 2 0 (R.a_q_take 2 []) (daCons (dVar 0) (daCons (dC (.int 4)) daNil)) daNil)) daNil))))))))))
noncomputable def F_q_house : Fn := fnOfB 6 b_q_house

abbrev ps_q_first : List Str := [("_law_house_here" : Str)]
abbrev n_q_first : List Str := [("_law_house_here" : Str)]
def a_q_first (n : Nat) (ks : List Str) : List Va → List Va → List Va := asmP ps_q_first [] n ks
noncomputable def b_q_first : Sn := (sSeq (sIf (tVB (dBin (oEqN false) (dBin oIdx (dVar 0) (dC (.int 4))) (dC (.str ("keep" : Str))))) (sRet (dBin oMulG (dTup (daCons (dC (.int 0)) daNil)) (dBi bLen (daCons (dBin oIdx (dVar 0) (dC (.int 1))) daNil)))) sNil)
    (sRet (dBin oIdx (dLst (daCons (dTup (daCons (dC (.int 0)) daNil)) (daCons (dTup daNil) daNil))) (dBi bInt (daCons (dBin (oEqN false) (dBin oIdx (dVar 0) (dC (.int 4))) (dC (.str ("drop" : Str)))) daNil)))))
noncomputable def F_q_first : Fn := fnOfB 1 b_q_first

abbrev ps_is_name : List Str := [("thing" : Str)]
abbrev n_is_name : List Str := [("thing" : Str), ("sign" : Str)]
def a_is_name (n : Nat) (ks : List Str) : List Va → List Va → List Va := asmP ps_is_name [] n ks
noncomputable def b_is_name : Sn := (sSeq (sIf (tOr (tNot (tVal (dBi bIsi (daCons (dVar 0) (daCons (dC (.ty "str")) daNil))))) (tNot (tVB (dChn oLe oLe (dC (.int 1)) (dBi bLen (daCons (dVar 0) daNil)) (dC (.int 8)))))) (sRet (dC (.bl false))) sNil)
    (sRet (dBi bAll (daCons (dComp (iSeq (dVar 0)) [1] (gNm 1) tYesD (dBin (oIn false) (dVar 1) (dC (.str ("abcdefghijklmnopqrstuvwxyz" : Str))))) daNil))))
noncomputable def F_is_name : Fn := fnOfB 2 b_is_name

abbrev ps_is_share : List Str := [("thing" : Str)]
abbrev n_is_share : List Str := [("thing" : Str), ("to" : Str), ("ratio" : Str)]
def a_is_share (n : Nat) (ks : List Str) : List Va → List Va → List Va := asmP ps_is_share [] n ks
noncomputable def b_is_share : Sn := (sSeq (sIf (tOr (tNot (tVal (dBi bIsi (daCons (dVar 0) (daCons (dC (.ty "tuple")) daNil))))) (tVB (dBin (oEqN true) (dBi bLen (daCons (dVar 0) daNil)) (dC (.int 3))))) (sRet (dC (.bl false))) sNil)
    (sSeq (sHT 1 2 (dVar 0))
    (sRet (dAnd (dCallP R.F_is_name 1 0 (R.a_is_name 1 []) (daCons (dVar 1) daNil) daNil) (dAnd (dCallP R.F_is_ratio 1 0 (R.a_is_ratio 1 []) (daCons (dBi bTuple (daCons (dVar 2) daNil)) daNil) daNil) (dAnd (dBin oGt (dBin oIdx (dVar 2) (dC (.int 0))) (dC (.int 0))) (dBin oLe (dBin oIdx (dVar 2) (dC (.int 1))) (dC (.int 12)))))))))
noncomputable def F_is_share : Fn := fnOfB 3 b_is_share

abbrev ps_common_multiple : List Str := [("numbers" : Str)]
abbrev n_common_multiple : List Str := [("numbers" : Str), ("found" : Str), ("number" : Str)]
def a_common_multiple (n : Nat) (ks : List Str) : List Va → List Va → List Va := asmP ps_common_multiple [] n ks
noncomputable def b_common_multiple : Sn := (sSeq (sAsg (gNm 1) (dC (.int 1)))
    (sSeq (sFor (iSeq (dVar 0)) (gNm 2) (sAsg (gNm 1) (dBin oDiv (dBin oMul (dVar 1) (dVar 2)) (dCallP R.F_common 2 0 (R.a_common 2 []) (daCons (dVar 1) (daCons (dVar 2) daNil)) daNil))))
    (sRet (dVar 1))))
noncomputable def F_common_multiple : Fn := fnOfB 3 b_common_multiple

abbrev ps_are_shares : List Str := [("thing" : Str), ("name" : Str)]
abbrev n_are_shares : List Str := [("thing" : Str), ("name" : Str), ("names" : Str), ("whole" : Str), ("to" : Str), ("top" : Str), ("under" : Str), ("one" : Str)]
def a_are_shares (n : Nat) (ks : List Str) : List Va → List Va → List Va := asmP ps_are_shares [] n ks
noncomputable def b_are_shares : Sn := (sSeq (sIf (tOr (tNot (tVal (dBi bIsi (daCons (dVar 0) (daCons (dC (.ty "tuple")) daNil))))) (tNot (tVB (dChn oLe oLe (dC (.int 1)) (dBi bLen (daCons (dVar 0) daNil)) (dC (.int 4)))))) (sRet (dC (.bl false))) sNil)
    (sSeq (sIf (tNot (tVal (dBi bAll (daCons (dComp (iSeq (dVar 0)) [7] (gNm 7) tYesD (dCallP R.F_is_share 1 0 (R.a_is_share 1 []) (daCons (dVar 7) daNil) daNil)) daNil)))) (sRet (dC (.bl false))) sNil)
    (sSeq (sAsg (gNm 2) (dComp (iSeq (dVar 0)) [4, 5, 6] (gTu 3 (gsCons (gNm 4) (gsCons (gNm 5) (gsCons (gNm 6) gsNil)))) tYesD (dVar 4)))
    (sSeq (sIf (tOr (tVB (dBin (oIn false) (dVar 1) (dVar 2))) (tVB (dBin oLt (dLenSet (dVar 2)) (dBi bLen (daCons (dVar 2) daNil))))) (sRet (dC (.bl false))) sNil)
    (sSeq (sAsg (gNm 3) (dCallP R.F_common_multiple 1 0 (R.a_common_multiple 1 []) (daCons (dComp (iSeq (dVar 0)) [4, 5, 6] (gTu 3 (gsCons (gNm 4) (gsCons (gNm 5) (gsCons (gNm 6) gsNil)))) tYesD (dVar 6)) daNil) daNil))
    (sRet (dBin oLe (dBi bSumG (daCons (dComp (iSeq (dVar 0)) [4, 5, 6] (gTu 3 (gsCons (gNm 4) (gsCons (gNm 5) (gsCons (gNm 6) gsNil)))) tYesD (dBin oMul (dVar 5) (dBin oDiv (dVar 3) (dVar 6)))) daNil)) (dVar 3))))))))
noncomputable def F_are_shares : Fn := fnOfB 8 b_are_shares

abbrev ps_House___init__ : List Str := [("self" : Str), ("name" : Str), ("shares" : Str), ("coin" : Str), ("rule" : Str), ("way" : Str)]
abbrev n_House___init__ : List Str := [("self" : Str), ("name" : Str), ("shares" : Str), ("coin" : Str), ("rule" : Str), ("way" : Str)]
def a_House___init__ (n : Nat) (ks : List Str) : List Va → List Va → List Va := asmP ps_House___init__ [(("coin" : Str), (.int 1)), (("rule" : Str), (.str ("down" : Str))), (("way" : Str), (.str ("drop" : Str)))] n ks
noncomputable def b_House___init__ : Sn := (sSeq (sIf (tNot (tVal (dCallP R.F_is_name 1 0 (R.a_is_name 1 []) (daCons (dVar 1) daNil) daNil))) sStuck sNil)
    (sSeq (sIf (tNot (tVal (dCallP R.F_are_shares 2 0 (R.a_are_shares 2 []) (daCons (dVar 2) (daCons (dVar 1) daNil)) daNil))) sStuck sNil)
    (sSeq (sIf (tOr (tNot (tVal (dCallP R.F_is_whole 1 0 (R.a_is_whole 1 []) (daCons (dVar 3) daNil) daNil))) (tNot (tVB (dChn oLe oLe (dC (.int 1)) (dVar 3) (dC (.int 12)))))) sStuck sNil)
    (sSeq (sIf (tOr (tNot (tVal (dBi bIsi (daCons (dVar 4) (daCons (dC (.ty "str")) daNil))))) (tVB (dBin (oIn true) (dVar 4) (dC (.tup [(.str ("down" : Str)), (.str ("up" : Str)), (.str ("upper" : Str)), (.str ("lower" : Str)), (.str ("even" : Str))]))))) sStuck sNil)
    (sSeq (sIf (tOr (tNot (tVal (dBi bIsi (daCons (dVar 5) (daCons (dC (.ty "str")) daNil))))) (tVB (dBin (oIn true) (dVar 5) (dC (.tup [(.str ("drop" : Str)), (.str ("keep" : Str)), (.str ("hand" : Str)), (.str ("turn" : Str))]))))) sStuck sNil)
    (sSeq (sAttr [("House" : Str)] ("name" : Str) (dVar 1) (dVar 0))
    (sSeq (sAttr [("House" : Str)] ("shares" : Str) (dVar 2) (dVar 0))
    (sSeq (sAttr [("House" : Str)] ("coin" : Str) (dVar 3) (dVar 0))
    (sSeq (sAttr [("House" : Str)] ("rule" : Str) (dVar 4) (dVar 0))
    (sAttr [("House" : Str)] ("way" : Str) (dVar 5) (dVar 0)))))))))))
noncomputable def F_House___init__ : Fn := fnOfB 6 b_House___init__

abbrev ps_q_made : List Str := [("_law_house_here" : Str)]
abbrev n_q_made : List Str := [("_law_house_here" : Str)]
def a_q_made (n : Nat) (ks : List Str) : List Va → List Va → List Va := asmP ps_q_made [] n ks
noncomputable def b_q_made : Sn := (sRet (dMake ("House" : Str) R.F_House___init__ 2 3 (R.a_House___init__ 3 [("coin" : Str), ("rule" : Str), ("way" : Str)]) (daCons (dBin oIdx (dVar 0) (dC (.int 0))) (daCons (dBin oIdx (dVar 0) (dC (.int 1))) daNil)) (daCons (dBin oIdx (dVar 0) (dC (.int 2))) (daCons (dBin oIdx (dVar 0) (dC (.int 3))) (daCons (dBin oIdx (dVar 0) (dC (.int 4))) daNil)))))
noncomputable def F_q_made : Fn := fnOfB 1 b_q_made

abbrev ps_q_total : List Str := [("_law_bag_here" : Str)]
abbrev n_q_total : List Str := [("_law_bag_here" : Str), ("_law_far" : Str)]
def a_q_total (n : Nat) (ks : List Str) : List Va → List Va → List Va := asmP ps_q_total [] n ks
noncomputable def b_q_total : Sn := (sSeq (sAsg (gNm 1) (dLst (daCons (dCall R.F_q_take 2 0 (R.a_q_take 2 []) (daCons (dVar 0) (daCons (dC (.int 30)) daNil)) daNil) (daCons (dC (.int 0)) (daCons (dCall R.F_q_take 2 0 (R.a_q_take 2 []) (daCons (dVar 0) (daCons (dC (.int 1000)) daNil)) daNil) (daCons (dCall R.F_q_wide 2 0 (R.a_q_wide 2 []) (daCons (dVar 0) (daCons (dBin oAdd (dBin oPow (dC (.int 10)) (dC (.int 12))) (dC (.int 1))) daNil)) daNil) (daCons (dBin oSub (dBin oPow (dC (.int 10)) (dC (.int 12))) (dCall R.F_q_take 2 0 (R.a_q_take 2 []) (daCons (dVar 0) (daCons (dC (.int 40)) daNil)) daNil)) daNil)))))))
    (sRet (dBin oIdx (dVar 1) (dBin oIdx (dLst (daCons (dC (.int 0)) (daCons (dC (.int 0)) (daCons (dC (.int 0)) (daCons (dC (.int 1)) (daCons (dC (.int 2)) (daCons (dC (.int 2)) (daCons (dC (.int 3)) (daCons (dC (.int 4)) daNil))))))))) (dCall R.F_q_take 2 0 (R.a_q_take 2 []) (daCons (dVar 0) (daCons (dC (.int 8)) daNil)) daNil)))))
noncomputable def F_q_total : Fn := fnOfB 2 b_q_total

abbrev ps_q_whole : List Str := [("_law_shares_here" : Str)]
abbrev n_q_whole : List Str := [("_law_shares_here" : Str), ("_law_found" : Str), ("_law_to" : Str), ("_law_top" : Str), ("_law_under" : Str)]
def a_q_whole (n : Nat) (ks : List Str) : List Va → List Va → List Va := asmP ps_q_whole [] n ks
noncomputable def b_q_whole : Sn := (sSeq (sAsg (gNm 1) (dC (.int 1)))
    (sSeq (sFor (iSeq (dVar 0)) (gTu 3 (gsCons (gNm 2) (gsCons (gNm 3) (gsCons (gNm 4) gsNil)))) (sAsg (gNm 1) (dBin oDiv (dBin oMul (dVar 1) (dVar 4)) (dCallP R.F_q_gcd 2 0 (R.a_q_gcd 2 []) (daCons (dVar 1) (daCons (dVar 4) daNil)) daNil))))
    (sRet (dVar 1))))
noncomputable def F_q_whole : Fn := fnOfB 5 b_q_whole

abbrev ps_q_near : List Str := [("_law_top" : Str), ("_law_under" : Str), ("_law_piece" : Str), ("_law_word" : Str)]
abbrev n_q_near : List Str := [("_law_top" : Str), ("_law_under" : Str), ("_law_piece" : Str), ("_law_word" : Str), ("_law_low" : Str), ("_law_far" : Str)]
def a_q_near (n : Nat) (ks : List Str) : List Va → List Va → List Va := asmP ps_q_near [] n ks
noncomputable def b_q_near : Sn := (sSeq (sAsg (gNm 4) (dBin oMul (dBin oDiv (dVar 0) (dBin oMul (dVar 1) (dVar 2))) (dVar 2)))
    (sSeq (sAsg (gNm 5) (dBin oSub (dVar 0) (dBin oMul (dVar 4) (dVar 1))))
    (sSeq (sIf (tOr (tVB (dBin (oEqN false) (dVar 5) (dC (.int 0)))) (tVB (dBin (oEqN false) (dVar 3) (dC (.str ("down" : Str)))))) (sRet (dVar 4)) sNil)
    (sSeq (sIf (tVB (dBin (oEqN false) (dVar 3) (dC (.str ("up" : Str))))) (sRet (dBin oAdd (dVar 4) (dVar 2))) sNil)
    (sSeq (sIf (tVB (dBin (oEqN false) (dBin oMul (dC (.int 2)) (dVar 5)) (dBin oMul (dVar 1) (dVar 2)))) (sSeq (sIf (tVB (dBin (oEqN false) (dVar 3) (dC (.str ("even" : Str))))) (sRet (dBin oIdx (dLst (daCons (dVar 4) (daCons (dBin oAdd (dVar 4) (dVar 2)) daNil))) (dBin oMod (dBin oDiv (dVar 4) (dVar 2)) (dC (.int 2))))) sNil)
    (sRet (dBin oIdx (dLst (daCons (dVar 4) (daCons (dBin oAdd (dVar 4) (dVar 2)) daNil))) (dBi bInt (daCons (dBin (oEqN false) (dVar 3) (dC (.str ("upper" : Str)))) daNil))))) sNil)
    (sRet (dBin oIdx (dLst (daCons (dVar 4) (daCons (dBin oAdd (dVar 4) (dVar 2)) daNil))) (dBi bInt (daCons (dBin oGt (dBin oMul (dC (.int 2)) (dVar 5)) (dBin oMul (dVar 1) (dVar 2))) daNil)))))))))
noncomputable def F_q_near : Fn := fnOfB 6 b_q_near

abbrev ps_q_passed : List Str := [("_law_house_here" : Str), ("_law_many" : Str), ("_law_kept" : Str)]
abbrev n_q_passed : List Str := [("_law_house_here" : Str), ("_law_many" : Str), ("_law_kept" : Str), ("_law_whole_here" : Str), ("_law_dues" : Str), ("_law_name" : Str), ("_law_shares_here" : Str), ("_law_piece" : Str), ("_law_word" : Str), ("_law_kind" : Str), ("_law_turn" : Str), ("_law_parts" : Str), ("_law_behind" : Str), ("_law_rest" : Str), ("_law_k" : Str), ("_law_due" : Str), ("_law_at" : Str), ("_law_to" : Str), ("_law_top" : Str), ("_law_under" : Str)]
def a_q_passed (n : Nat) (ks : List Str) : List Va → List Va → List Va := asmP ps_q_passed [] n ks
noncomputable def b_q_passed : Sn := (sSeq (sAsg (gTu 5 (gsCons (gNm 5) (gsCons (gNm 6) (gsCons (gNm 7) (gsCons (gNm 8) (gsCons (gNm 9) gsNil)))))) (dVar 0))
    (sSeq (sAsg (gNm 3) (dCallP R.F_q_whole 1 0 (R.a_q_whole 1 []) (daCons (dVar 6) daNil) daNil))
    (sSeq (sAsg (gNm 4) (dComp (iSeq (dVar 6)) [17, 18, 19] (gTu 3 (gsCons (gNm 17) (gsCons (gNm 18) (gsCons (gNm 19) gsNil)))) tYesD (dBin oMul (dBin oMul (dVar 18) (dVar 1)) (dBin oDiv (dVar 3) (dVar 19)))))
    (sSeq (sIf (tVB (dBin (oEqN false) (dVar 9) (dC (.str ("drop" : Str))))) (sRet (dTup (daCons (dComp (iSeq (dVar 4)) [15] (gNm 15) tYesD (dCallP R.F_q_near 4 0 (R.a_q_near 4 []) (daCons (dVar 15) (daCons (dVar 3) (daCons (dVar 7) (daCons (dVar 8) daNil)))) daNil)) (daCons (dTup daNil) daNil)))) sNil)
    (sSeq (sIf (tVB (dBin (oEqN false) (dVar 9) (dC (.str ("turn" : Str))))) (sSeq (sPar [11, 16] (daCons (dThaw (dComp (iSeq (dVar 4)) [15] (gNm 15) tYesD (dCallP R.F_q_near 4 0 (R.a_q_near 4 []) (daCons (dVar 15) (daCons (dVar 3) (daCons (dVar 7) (daCons (dC (.str ("down" : Str))) daNil)))) daNil))) (daCons (dBin oIdx (dVar 2) (dC (.int 0))) daNil)))
    (sSeq (sFor (iRng1 (daCons (dBin oDiv (dBin oSub (dCallP R.F_q_near 4 0 (R.a_q_near 4 []) (daCons (dBi bSumG (daCons (dVar 4) daNil)) (daCons (dVar 3) (daCons (dVar 7) (daCons (dVar 8) daNil)))) daNil) (dBi bSumG (daCons (dVar 11) daNil))) (dVar 7)) daNil)) (gNm 10) (sSeq (sSetI (dBin oAdd (dBin oIdx (dVar 11) (dVar 16)) (dVar 7)) (dVar 11) (dVar 16))
    (sAsg (gNm 16) (dBin oMod (dBin oAdd (dVar 16) (dC (.int 1))) (dBi bLen (daCons (dVar 11) daNil))))))
    (sRet (dTup (daCons (dVar 11) (daCons (dTup (daCons (dVar 16) daNil)) daNil)))))) sNil)
    (sSeq (sPar [11, 12, 13] (daCons (dLstM daNil) (daCons (dLstM daNil) (daCons (dBin oIdx (dVar 2) (dC (.int 0))) daNil))))
    (sSeq (sFor (iEnm (daCons (dVar 4) daNil)) (gTu 2 (gsCons (gNm 14) (gsCons (gNm 15) gsNil))) (sSeq (sIf (tVB (dBin (oEqN false) (dVar 9) (dC (.str ("keep" : Str))))) (sAsg (gNm 13) (dBin oMul (dBin oIdx (dVar 2) (dVar 14)) (dBin oDiv (dVar 3) (dBin oIdx (dBin oIdx (dVar 6) (dVar 14)) (dC (.int 2)))))) sNil)
    (sSeq (sExpr (dApp (dVar 11) (daCons (dCallP R.F_q_near 4 0 (R.a_q_near 4 []) (daCons (dBin oAdd (dVar 15) (dVar 13)) (daCons (dVar 3) (daCons (dVar 7) (daCons (dVar 8) daNil)))) daNil) daNil)))
    (sSeq (sAsg (gNm 13) (dBin oSub (dBin oAdd (dVar 15) (dVar 13)) (dBin oMul (dBin oIdx (dVar 11) (dNeg (dC (.int 1)))) (dVar 3))))
    (sExpr (dApp (dVar 12) (daCons (dBin oDiv (dVar 13) (dBin oDiv (dVar 3) (dBin oIdx (dBin oIdx (dVar 6) (dVar 14)) (dC (.int 2))))) daNil)))))))
    (sRet (dTup (daCons (dVar 11) (daCons (dBin oIdx (dLst (daCons (dTup (daCons (dVar 13) daNil)) (daCons (dBi bTuple (daCons (dVar 12) daNil)) daNil))) (dBi bInt (daCons (dBin (oEqN false) (dVar 9) (dC (.str ("keep" : Str)))) daNil))) daNil)))))))))))
noncomputable def F_q_passed : Fn := fnOfB 20 b_q_passed

abbrev ps_by_drop : List Str := [("house" : Str), ("total" : Str), ("rests" : Str)]
abbrev n_by_drop : List Str := [("house" : Str), ("total" : Str), ("rests" : Str), ("coins" : Str), ("to" : Str), ("top" : Str), ("under" : Str), ("number" : Str)]
def a_by_drop (n : Nat) (ks : List Str) : List Va → List Va → List Va := asmP ps_by_drop [] n ks
noncomputable def b_by_drop : Sn := (sSeq (sAsg (gNm 3) (dComp (iSeq (dAttr [("House" : Str)] ("shares" : Str) (dVar 0))) [4, 5, 6] (gTu 3 (gsCons (gNm 4) (gsCons (gNm 5) (gsCons (gNm 6) gsNil)))) tYesD (dCallP R.F_many_coins 4 0 (R.a_many_coins 4 []) (daCons (dBin oMul (dVar 5) (dVar 1)) (daCons (dVar 6) (daCons (dAttr [("House" : Str)] ("coin" : Str) (dVar 0)) (daCons (dAttr [("House" : Str)] ("rule" : Str) (dVar 0)) daNil)))) daNil)))
    (sRet (dTup (daCons (dComp (iSeq (dVar 3)) [7] (gNm 7) tYesD (dBin oMul (dAttr [("House" : Str)] ("coin" : Str) (dVar 0)) (dVar 7))) (daCons (dTup daNil) daNil)))))
noncomputable def F_by_drop : Fn := fnOfB 8 b_by_drop

abbrev ps_by_keep : List Str := [("house" : Str), ("total" : Str), ("rests" : Str)]
abbrev n_by_keep : List Str := [("house" : Str), ("total" : Str), ("rests" : Str), ("parts" : Str), ("found" : Str), ("rest" : Str), ("due" : Str), ("to" : Str), ("top" : Str), ("under" : Str)]
def a_by_keep (n : Nat) (ks : List Str) : List Va → List Va → List Va := asmP ps_by_keep [] n ks
noncomputable def b_by_keep : Sn := (sSeq (sPar [3, 4] (daCons (dLstM daNil) (daCons (dLstM daNil) daNil)))
    (sSeq (sFor (iZipS (daCons (dAttr [("House" : Str)] ("shares" : Str) (dVar 0)) (daCons (dVar 2) daNil)) (daCons (dC (.bl true)) daNil)) (gTu 2 (gsCons (gTu 3 (gsCons (gNm 7) (gsCons (gNm 8) (gsCons (gNm 9) gsNil)))) (gsCons (gNm 5) gsNil))) (sSeq (sAsg (gNm 6) (dBin oAdd (dBin oMul (dVar 8) (dVar 1)) (dVar 5)))
    (sSeq (sExpr (dApp (dVar 3) (daCons (dBin oMul (dAttr [("House" : Str)] ("coin" : Str) (dVar 0)) (dCallP R.F_many_coins 4 0 (R.a_many_coins 4 []) (daCons (dVar 6) (daCons (dVar 9) (daCons (dAttr [("House" : Str)] ("coin" : Str) (dVar 0)) (daCons (dAttr [("House" : Str)] ("rule" : Str) (dVar 0)) daNil)))) daNil)) daNil)))
    (sExpr (dApp (dVar 4) (daCons (dBin oSub (dVar 6) (dBin oMul (dBin oIdx (dVar 3) (dNeg (dC (.int 1)))) (dVar 9))) daNil))))))
    (sRet (dTup (daCons (dVar 3) (daCons (dBi bTuple (daCons (dVar 4) daNil)) daNil))))))
noncomputable def F_by_keep : Fn := fnOfB 10 b_by_keep

abbrev ps_House_whole : List Str := [("self" : Str)]
abbrev n_House_whole : List Str := [("self" : Str), ("to" : Str), ("top" : Str), ("under" : Str)]
def a_House_whole (n : Nat) (ks : List Str) : List Va → List Va → List Va := asmP ps_House_whole [] n ks
noncomputable def b_House_whole : Sn := (sRet (dCallP R.F_common_multiple 1 0 (R.a_common_multiple 1 []) (daCons (dComp (iSeq (dAttr [("House" : Str)] ("shares" : Str) (dVar 0))) [1, 2, 3] (gTu 3 (gsCons (gNm 1) (gsCons (gNm 2) (gsCons (gNm 3) gsNil)))) tYesD (dVar 3)) daNil) daNil))
noncomputable def F_House_whole : Fn := fnOfB 4 b_House_whole

abbrev ps_by_hand : List Str := [("house" : Str), ("total" : Str), ("rests" : Str)]
abbrev n_by_hand : List Str := [("house" : Str), ("total" : Str), ("rests" : Str), ("whole" : Str), ("parts" : Str), ("rest" : Str), ("to" : Str), ("top" : Str), ("under" : Str), ("due" : Str)]
def a_by_hand (n : Nat) (ks : List Str) : List Va → List Va → List Va := asmP ps_by_hand [] n ks
noncomputable def b_by_hand : Sn := (sSeq (sAsg (gNm 3) (dMeth [(("House" : Str), (true, R.F_House_whole, R.a_House_whole 1 []))] ("whole" : Str) 0 0 (dVar 0) daNil daNil))
    (sSeq (sPar [4, 5] (daCons (dLstM daNil) (daCons (dBin oIdx (dVar 2) (dC (.int 0))) daNil)))
    (sSeq (sFor (iSeq (dAttr [("House" : Str)] ("shares" : Str) (dVar 0))) (gTu 3 (gsCons (gNm 6) (gsCons (gNm 7) (gsCons (gNm 8) gsNil)))) (sSeq (sAsg (gNm 9) (dBin oAdd (dBin oMul (dBin oMul (dVar 7) (dVar 1)) (dBin oDiv (dVar 3) (dVar 8))) (dVar 5)))
    (sSeq (sExpr (dApp (dVar 4) (daCons (dBin oMul (dAttr [("House" : Str)] ("coin" : Str) (dVar 0)) (dCallP R.F_many_coins 4 0 (R.a_many_coins 4 []) (daCons (dVar 9) (daCons (dVar 3) (daCons (dAttr [("House" : Str)] ("coin" : Str) (dVar 0)) (daCons (dAttr [("House" : Str)] ("rule" : Str) (dVar 0)) daNil)))) daNil)) daNil)))
    (sAsg (gNm 5) (dBin oSub (dVar 9) (dBin oMul (dBin oIdx (dVar 4) (dNeg (dC (.int 1)))) (dVar 3)))))))
    (sRet (dTup (daCons (dVar 4) (daCons (dTup (daCons (dVar 5) daNil)) daNil)))))))
noncomputable def F_by_hand : Fn := fnOfB 10 b_by_hand

abbrev ps_by_turn : List Str := [("house" : Str), ("total" : Str), ("rests" : Str)]
abbrev n_by_turn : List Str := [("house" : Str), ("total" : Str), ("rests" : Str), ("coins" : Str), ("due" : Str), ("more" : Str), ("turn" : Str), ("whole" : Str), ("many" : Str), ("to" : Str), ("top" : Str), ("under" : Str), ("number" : Str)]
def a_by_turn (n : Nat) (ks : List Str) : List Va → List Va → List Va := asmP ps_by_turn [] n ks
noncomputable def b_by_turn : Sn := (sSeq (sAsg (gTu 2 (gsCons (gNm 7) (gsCons (gNm 8) gsNil))) (dTup (daCons (dMeth [(("House" : Str), (true, R.F_House_whole, R.a_House_whole 1 []))] ("whole" : Str) 0 0 (dVar 0) daNil daNil) (daCons (dBi bLen (daCons (dAttr [("House" : Str)] ("shares" : Str) (dVar 0)) daNil)) daNil))))
    (sSeq (sAsg (gNm 3) (dThaw (dComp (iSeq (dAttr [("House" : Str)] ("shares" : Str) (dVar 0))) [9, 10, 11] (gTu 3 (gsCons (gNm 9) (gsCons (gNm 10) (gsCons (gNm 11) gsNil)))) tYesD (dCallP R.F_many_coins 4 0 (R.a_many_coins 4 []) (daCons (dBin oMul (dVar 10) (dVar 1)) (daCons (dVar 11) (daCons (dAttr [("House" : Str)] ("coin" : Str) (dVar 0)) (daCons (dC (.str ("down" : Str))) daNil)))) daNil))))
    (sSeq (sAsg (gNm 4) (dBi bSumG (daCons (dComp (iSeq (dAttr [("House" : Str)] ("shares" : Str) (dVar 0))) [9, 10, 11] (gTu 3 (gsCons (gNm 9) (gsCons (gNm 10) (gsCons (gNm 11) gsNil)))) tYesD (dBin oMul (dBin oMul (dVar 10) (dVar 1)) (dBin oDiv (dVar 7) (dVar 11)))) daNil)))
    (sSeq (sAsg (gNm 5) (dBin oSub (dCallP R.F_many_coins 4 0 (R.a_many_coins 4 []) (daCons (dVar 4) (daCons (dVar 7) (daCons (dAttr [("House" : Str)] ("coin" : Str) (dVar 0)) (daCons (dAttr [("House" : Str)] ("rule" : Str) (dVar 0)) daNil)))) daNil) (dBi bSumG (daCons (dVar 3) daNil))))
    (sSeq (sFor (iRng1 (daCons (dVar 5) daNil)) (gNm 6) (sAddI (dVar 3) (dBin oMod (dBin oAdd (dBin oIdx (dVar 2) (dC (.int 0))) (dVar 6)) (dVar 8)) (dC (.int 1))))
    (sRet (dTup (daCons (dComp (iSeq (dVar 3)) [12] (gNm 12) tYesD (dBin oMul (dAttr [("House" : Str)] ("coin" : Str) (dVar 0)) (dVar 12))) (daCons (dTup (daCons (dBin oMod (dBin oAdd (dBin oIdx (dVar 2) (dC (.int 0))) (dVar 5)) (dVar 8)) daNil)) daNil)))))))))
noncomputable def F_by_turn : Fn := fnOfB 13 b_by_turn

abbrev ps_may_be_left : List Str := [("rest" : Str), ("size" : Str), ("rule" : Str)]
abbrev n_may_be_left : List Str := [("rest" : Str), ("size" : Str), ("rule" : Str)]
def a_may_be_left (n : Nat) (ks : List Str) : List Va → List Va → List Va := asmP ps_may_be_left [] n ks
noncomputable def b_may_be_left : Sn := (sSeq (sIf (tVB (dBin (oEqN false) (dVar 2) (dC (.str ("down" : Str))))) (sRet (dChn oLe oLt (dC (.int 0)) (dVar 0) (dVar 1))) sNil)
    (sSeq (sIf (tVB (dBin (oEqN false) (dVar 2) (dC (.str ("up" : Str))))) (sRet (dChn oLt oLe (dNeg (dVar 1)) (dVar 0) (dC (.int 0)))) sNil)
    (sSeq (sIf (tVB (dBin (oEqN false) (dVar 2) (dC (.str ("upper" : Str))))) (sRet (dChn oLe oLt (dNeg (dVar 1)) (dBin oMul (dC (.int 2)) (dVar 0)) (dVar 1))) sNil)
    (sSeq (sIf (tVB (dBin (oEqN false) (dVar 2) (dC (.str ("lower" : Str))))) (sRet (dChn oLt oLe (dNeg (dVar 1)) (dBin oMul (dC (.int 2)) (dVar 0)) (dVar 1))) sNil)
    (sRet (dChn oLe oLe (dNeg (dVar 1)) (dBin oMul (dC (.int 2)) (dVar 0)) (dVar 1)))))))
noncomputable def F_may_be_left : Fn := fnOfB 3 b_may_be_left

abbrev ps_House_sizes : List Str := [("self" : Str)]
abbrev n_House_sizes : List Str := [("self" : Str), ("to" : Str), ("top" : Str), ("under" : Str)]
def a_House_sizes (n : Nat) (ks : List Str) : List Va → List Va → List Va := asmP ps_House_sizes [] n ks
noncomputable def b_House_sizes : Sn := (sSeq (sIf (tVB (dBin (oEqN false) (dAttr [("House" : Str)] ("way" : Str) (dVar 0)) (dC (.str ("keep" : Str))))) (sRet (dComp (iSeq (dAttr [("House" : Str)] ("shares" : Str) (dVar 0))) [1, 2, 3] (gTu 3 (gsCons (gNm 1) (gsCons (gNm 2) (gsCons (gNm 3) gsNil)))) tYesD (dBin oMul (dAttr [("House" : Str)] ("coin" : Str) (dVar 0)) (dVar 3)))) sNil)
    (sRet (dIf (tVB (dBin (oEqN false) (dAttr [("House" : Str)] ("way" : Str) (dVar 0)) (dC (.str ("hand" : Str))))) (dLst (daCons (dBin oMul (dAttr [("House" : Str)] ("coin" : Str) (dVar 0)) (dMeth [(("House" : Str), (true, R.F_House_whole, R.a_House_whole 1 []))] ("whole" : Str) 0 0 (dVar 0) daNil daNil)) daNil)) (dLst daNil))))
noncomputable def F_House_sizes : Fn := fnOfB 4 b_House_sizes

abbrev ps_House_first : List Str := [("self" : Str)]
abbrev n_House_first : List Str := [("self" : Str), ("size" : Str)]
def a_House_first (n : Nat) (ks : List Str) : List Va → List Va → List Va := asmP ps_House_first [] n ks
noncomputable def b_House_first : Sn := (sRet (dIf (tVB (dBin (oEqN false) (dAttr [("House" : Str)] ("way" : Str) (dVar 0)) (dC (.str ("turn" : Str))))) (dTup (daCons (dC (.int 0)) daNil)) (dBi bTuple (daCons (dComp (iSeq (dMeth [(("House" : Str), (true, R.F_House_sizes, R.a_House_sizes 1 []))] ("sizes" : Str) 0 0 (dVar 0) daNil daNil)) [1] (gNm 1) tYesD (dC (.int 0))) daNil))))
noncomputable def F_House_first : Fn := fnOfB 2 b_House_first

abbrev ps_House_are_rests : List Str := [("self" : Str), ("thing" : Str)]
abbrev n_House_are_rests : List Str := [("self" : Str), ("thing" : Str), ("rest" : Str), ("size" : Str)]
def a_House_are_rests (n : Nat) (ks : List Str) : List Va → List Va → List Va := asmP ps_House_are_rests [] n ks
noncomputable def b_House_are_rests : Sn := (sSeq (sIf (tOr (tNot (tVal (dBi bIsi (daCons (dVar 1) (daCons (dC (.ty "tuple")) daNil))))) (tVB (dBin (oEqN true) (dBi bLen (daCons (dVar 1) daNil)) (dBi bLen (daCons (dMeth [(("House" : Str), (true, R.F_House_first, R.a_House_first 1 []))] ("first" : Str) 0 0 (dVar 0) daNil daNil) daNil))))) (sRet (dC (.bl false))) sNil)
    (sSeq (sIf (tNot (tVal (dBi bAll (daCons (dComp (iSeq (dVar 1)) [2] (gNm 2) tYesD (dCallP R.F_is_whole 1 0 (R.a_is_whole 1 []) (daCons (dVar 2) daNil) daNil)) daNil)))) (sRet (dC (.bl false))) sNil)
    (sSeq (sIf (tVB (dBin (oEqN false) (dAttr [("House" : Str)] ("way" : Str) (dVar 0)) (dC (.str ("turn" : Str))))) (sRet (dChn oLe oLt (dC (.int 0)) (dBin oIdx (dVar 1) (dC (.int 0))) (dBi bLen (daCons (dAttr [("House" : Str)] ("shares" : Str) (dVar 0)) daNil)))) sNil)
    (sRet (dBi bAll (daCons (dComp (iZipS (daCons (dVar 1) (daCons (dMeth [(("House" : Str), (true, R.F_House_sizes, R.a_House_sizes 1 []))] ("sizes" : Str) 0 0 (dVar 0) daNil daNil) daNil)) (daCons (dC (.bl true)) daNil)) [2, 3] (gTu 2 (gsCons (gNm 2) (gsCons (gNm 3) gsNil))) tYesD (dCallP R.F_may_be_left 3 0 (R.a_may_be_left 3 []) (daCons (dVar 2) (daCons (dVar 3) (daCons (dAttr [("House" : Str)] ("rule" : Str) (dVar 0)) daNil))) daNil)) daNil))))))
noncomputable def F_House_are_rests : Fn := fnOfB 4 b_House_are_rests

abbrev ps_House_pass_on : List Str := [("self" : Str), ("total" : Str), ("rests" : Str)]
abbrev n_House_pass_on : List Str := [("self" : Str), ("total" : Str), ("rests" : Str), ("deed" : Str), ("parts" : Str), ("found" : Str)]
def a_House_pass_on (n : Nat) (ks : List Str) : List Va → List Va → List Va := asmP ps_House_pass_on [] n ks
noncomputable def b_House_pass_on : Sn := (sSeq (sIf (tNot (tVal (dMeth [(("House" : Str), (true, R.F_House_are_rests, R.a_House_are_rests 2 []))] ("are_rests" : Str) 1 0 (dVar 0) (daCons (dVar 2) daNil) daNil))) (sRaise ("NoRests" : Str)) sNil)
    (sSeq (sAsg (gNm 3) (dTab [(("drop" : Str), ("by_drop" : Str)), (("keep" : Str), ("by_keep" : Str)), (("hand" : Str), ("by_hand" : Str)), (("turn" : Str), ("by_turn" : Str))] (dAttr [("House" : Str)] ("way" : Str) (dVar 0))))
    (sSeq (sAsg (gTu 2 (gsCons (gNm 4) (gsCons (gNm 5) gsNil))) (dCallV 3 [(("by_drop" : Str), (true, R.F_by_drop, R.a_by_drop 3 [])), (("by_keep" : Str), (true, R.F_by_keep, R.a_by_keep 3 [])), (("by_hand" : Str), (true, R.F_by_hand, R.a_by_hand 3 [])), (("by_turn" : Str), (true, R.F_by_turn, R.a_by_turn 3 []))] 3 (daCons (dVar 0) (daCons (dVar 1) (daCons (dVar 2) daNil)))))
    (sRet (dTup (daCons (dBi bTuple (daCons (dVar 4) daNil)) (daCons (dVar 5) daNil)))))))
noncomputable def F_House_pass_on : Fn := fnOfB 6 b_House_pass_on

abbrev ps_q_sizes : List Str := [("_law_house_here" : Str)]
abbrev n_q_sizes : List Str := [("_law_house_here" : Str), ("_law_to" : Str), ("_law_top" : Str), ("_law_under" : Str)]
def a_q_sizes (n : Nat) (ks : List Str) : List Va → List Va → List Va := asmP ps_q_sizes [] n ks
noncomputable def b_q_sizes : Sn := (sSeq (sIf (tVB (dBin (oEqN false) (dBin oIdx (dVar 0) (dC (.int 4))) (dC (.str ("keep" : Str))))) (sRet (dComp (iSeq (dBin oIdx (dVar 0) (dC (.int 1)))) [1, 2, 3] (gTu 3 (gsCons (gNm 1) (gsCons (gNm 2) (gsCons (gNm 3) gsNil)))) tYesD (dBin oMul (dBin oIdx (dVar 0) (dC (.int 2))) (dVar 3)))) sNil)
    (sRet (dBin oMulG (dLst (daCons (dBin oMul (dBin oIdx (dVar 0) (dC (.int 2))) (dCallP R.F_q_whole 1 0 (R.a_q_whole 1 []) (daCons (dBin oIdx (dVar 0) (dC (.int 1))) daNil) daNil)) daNil)) (dBi bInt (daCons (dBin (oEqN false) (dBin oIdx (dVar 0) (dC (.int 4))) (dC (.str ("hand" : Str)))) daNil)))))
noncomputable def F_q_sizes : Fn := fnOfB 4 b_q_sizes

abbrev ps_q_rests : List Str := [("_law_bag_here" : Str), ("_law_house_here" : Str)]
abbrev n_q_rests : List Str := [("_law_bag_here" : Str), ("_law_house_here" : Str), ("_law_found" : Str), ("_law_size" : Str), ("_law_low" : Str)]
def a_q_rests (n : Nat) (ks : List Str) : List Va → List Va → List Va := asmP ps_q_rests [] n ks
noncomputable def b_q_rests : Sn := (sSeq (sIf (tVB (dBin (oEqN false) (dBin oIdx (dVar 1) (dC (.int 4))) (dC (.str ("turn" : Str))))) (sRet (dTup (daCons (dCall R.F_q_take 2 0 (R.a_q_take 2 []) (daCons (dVar 0) (daCons (dBi bLen (daCons (dBin oIdx (dVar 1) (dC (.int 1))) daNil)) daNil)) daNil) daNil))) sNil)
    (sSeq (sAsg (gNm 2) (dLstM daNil))
    (sSeq (sFor (iSeq (dCallP R.F_q_sizes 1 0 (R.a_q_sizes 1 []) (daCons (dVar 1) daNil) daNil)) (gNm 3) (sSeq (sAsg (gNm 4) (dDget (dDic [((dC (.str ("down" : Str))), (dC (.int 0))), ((dC (.str ("up" : Str))), (dBin oSub (dC (.int 1)) (dVar 3))), ((dC (.str ("lower" : Str))), (dBin oMul (dNeg (dC (.int 1))) (dBin oDiv (dBin oSub (dVar 3) (dC (.int 1))) (dC (.int 2)))))]) (dBin oIdx (dVar 1) (dC (.int 3))) (dBin oMul (dNeg (dC (.int 1))) (dBin oDiv (dVar 3) (dC (.int 2))))))
    (sExpr (dApp (dVar 2) (daCons (dBin oAdd (dVar 4) (dCall R.F_q_take 2 0 (R.a_q_take 2 []) (daCons (dVar 0) (daCons (dBin oAdd (dVar 3) (dBi bInt (daCons (dAnd (dBin (oEqN false) (dBin oIdx (dVar 1) (dC (.int 3))) (dC (.str ("even" : Str)))) (dBin (oEqN false) (dBin oMod (dVar 3) (dC (.int 2))) (dC (.int 0)))) daNil))) daNil)) daNil)) daNil)))))
    (sRet (dBi bTuple (daCons (dVar 2) daNil))))))
noncomputable def F_q_rests : Fn := fnOfB 5 b_q_rests

abbrev ps_House_span : List Str := [("self" : Str)]
abbrev n_House_span : List Str := [("self" : Str), ("found" : Str), ("size" : Str)]
def a_House_span (n : Nat) (ks : List Str) : List Va → List Va → List Va := asmP ps_House_span [] n ks
noncomputable def b_House_span : Sn := (sSeq (sIf (tVB (dBin (oEqN false) (dAttr [("House" : Str)] ("way" : Str) (dVar 0)) (dC (.str ("turn" : Str))))) (sRet (dBi bLen (daCons (dAttr [("House" : Str)] ("shares" : Str) (dVar 0)) daNil))) sNil)
    (sSeq (sAsg (gNm 1) (dC (.int 1)))
    (sSeq (sFor (iSeq (dMeth [(("House" : Str), (true, R.F_House_sizes, R.a_House_sizes 1 []))] ("sizes" : Str) 0 0 (dVar 0) daNil daNil)) (gNm 2) (sMulN 1 (dVar 2)))
    (sRet (dVar 1)))))
noncomputable def F_House_span : Fn := fnOfB 3 b_House_span

abbrev ps_House_stride : List Str := [("self" : Str)]
abbrev n_House_stride : List Str := [("self" : Str)]
def a_House_stride (n : Nat) (ks : List Str) : List Va → List Va → List Va := asmP ps_House_stride [] n ks
noncomputable def b_House_stride : Sn := (sRet (dBin oMul (dBin oMul (dAttr [("House" : Str)] ("coin" : Str) (dVar 0)) (dMeth [(("House" : Str), (true, R.F_House_whole, R.a_House_whole 1 []))] ("whole" : Str) 0 0 (dVar 0) daNil daNil)) (dBin oAdd (dC (.int 1)) (dBi bInt (daCons (dBin (oEqN false) (dAttr [("House" : Str)] ("rule" : Str) (dVar 0)) (dC (.str ("even" : Str)))) daNil)))))
noncomputable def F_House_stride : Fn := fnOfB 1 b_House_stride
end R
namespace CI
open PySem PySem.Spec PyProof.Rows L2

/-! ### evaluating readings -/
section
variable {β γ : Type} {h h1 : Hh} {s : Sl}
@[simp] theorem ev_bind_ok {v : β} {f : β → Hh → Res γ} : (Res.ok v h).bind f = f v h := rfl
@[simp] theorem ev_sbind_ok {v : β} {f : β → Hh → SR} : sBind (Res.ok v h) f = f v h := rfl
@[simp] theorem ev_then_nx {k : Sl → Hh → SR} : sThen (.nx s h) k = k s h := rfl
@[simp] theorem ev_then_rt {k : Sl → Hh → SR} {v : Va} : sThen (.rt v h) k = .rt v h := rfl
@[simp] theorem ev_then_bk {k : Sl → Hh → SR} : sThen (.bk s h) k = .bk s h := rfl
@[simp] theorem ev_then_ct {k : Sl → Hh → SR} : sThen (.ct s h) k = .ct s h := rfl
@[simp] theorem ev_asB {b : Bool} : asB (.ok (.pv (.bl b)) h) = .ok b h := rfl
@[simp] theorem ev_give {p : Pv} {n : Nat} : giveN n (.pv p) h = some (p, h) := by cases n <;> rfl
@[simp] theorem ev_gives_nil {g : Va → Hh → Option (Pv × Hh)} : gives g [] h = some ([], h) := rfl
@[simp] theorem ev_gives_cons {g : Va → Hh → Option (Pv × Hh)} {v : Va} {vs : List Va} : gives g (v :: vs) h = match g v h with
  | some (p, h1) => match gives g vs h1 with
    | some (ps, h2) => some (p :: ps, h2)
    | none => none
  | none => none := rfl
@[simp] theorem ev_var {i : Nat} : dVar i s h = match s[i]? with
  | some (some v) => .ok v h
  | _ => .stuck := rfl
@[simp] theorem ev_C {p : Pv} : dC p s h = .ok (.pv p) h := rfl
@[simp] theorem ev_nil : daNil s h = .ok [] h := rfl
@[simp] theorem ev_cons {d : Dn} {r : Da} : daCons d r s h = (d s h).bind fun v h1 => (r s h1).bind fun vs h2 => .ok (v :: vs) h2 := rfl
@[simp] theorem ev_bin {f : Op2} {a b : Dn} : dBin f a b s h = (a s h).bind fun x h1 => (b s h1).bind fun y h2 => f x y h2 := rfl
@[simp] theorem ev_bi {f : Fn} {da : Da} : dBi f da s h = (da s h).bind f := rfl
@[simp] theorem ev_tVB {d : Dn} : tVB d s h = asB (d s h) := rfl
@[simp] theorem ev_tNot {d : Dt} : tNot d s h = (d s h).bind fun k h1 => .ok (!k) h1 := rfl
@[simp] theorem ev_tAnd {a b : Dt} : tAnd a b s h = (a s h).bind fun k h1 => if k then b s h1 else .ok false h1 := rfl
@[simp] theorem ev_tOr {a b : Dt} : tOr a b s h = (a s h).bind fun k h1 => if k then .ok true h1 else b s h1 := rfl
@[simp] theorem ev_dAnd {a b : Dn} : dAnd a b s h = (asB (a s h)).bind fun k h1 => if k then b s h1 else .ok (.pv (.bl false)) h1 := rfl
@[simp] theorem ev_dOr {a b : Dn} : dOr a b s h = (asB (a s h)).bind fun k h1 => if k then .ok (.pv (.bl true)) h1 else b s h1 := rfl
@[simp] theorem ev_dNot {a : Dn} : dNot a s h = (asB (a s h)).bind fun k h1 => .ok (.pv (.bl (!k))) h1 := rfl
@[simp] theorem ev_dIf {t : Dt} {a b : Dn} : dIf t a b s h = (t s h).bind fun k h1 => if k then a s h1 else b s h1 := rfl
@[simp] theorem ev_tVal {d : Dn} : tVal d s h = (d s h).bind fun v h1 => match truth h1 v with
  | some k => .ok k h1
  | none => .stuck := rfl
@[simp] theorem ev_dTup {da : Da} : dTup da s h = (da s h).bind fun vs h1 => mkSeq .tup vs h1 := rfl
@[simp] theorem ev_dLst {da : Da} : dLst da s h = (da s h).bind fun vs h1 => mkSeq .lst vs h1 := rfl
@[simp] theorem ev_dLstM {da : Da} : dLstM da s h = (da s h).bind fun vs h1 => if vs.length ≤ 16777216 then .ok (.ref h1.length) (h1 ++ [.lst vs]) else .stuck := rfl
@[simp] theorem ev_dNeg {d : Dn} : dNeg d s h = (d s h).bind fun x h1 => match x with
  | .pv (.int i) => .ok (.pv (.int (-i))) h1
  | _ => .stuck := rfl
@[simp] theorem ev_seq {a b : Sn} : sSeq a b s h = sThen (a s h) b := rfl
@[simp] theorem ev_sNil : sNil s h = .nx s h := rfl
@[simp] theorem ev_sRet {d : Dn} : sRet d s h = sBind (d s h) fun v h1 => .rt v h1 := rfl
@[simp] theorem ev_sIf {t : Dt} {a b : Sn} : sIf t a b s h = sBind (t s h) fun k h1 => if k then a s h1 else b s h1 := rfl
@[simp] theorem ev_sAsg {t : Tg} {d : Dn} : sAsg t d s h = sBind (d s h) fun v h1 => match t.put v s h1 with
  | some s' => .nx s' h1
  | none => .stuck := rfl
@[simp] theorem ev_sPar {is : List Nat} {da : Da} : sPar is da s h = sBind (da s h) fun xs h1 => if xs.length = is.length ∧ xs.length ≤ 3 then .nx (setAll (is.reverse.zip xs.reverse) s) h1 else .stuck := rfl
@[simp] theorem ev_setAll_nil : setAll [] s = s := rfl
@[simp] theorem ev_setAll {i : Nat} {v : Va} {r : List (Nat × Va)} : setAll ((i, v) :: r) s = setAll r (s.set i (some v)) := rfl
@[simp] theorem ev_gNm {i : Nat} {v : Va} : (gNm i).put v s h = some (s.set i (some v)) := rfl
@[simp] theorem ev_gTu {n : Nat} {r : Tgs} {ps : List Pv} : (gTu n r).put (.pv (.tup ps)) s h = if (ps.map Va.pv).length = n then r.put (ps.map .pv) s h else none := rfl
@[simp] theorem ev_gsNil : gsNil.put [] s h = some s := rfl
@[simp] theorem ev_gsCons {t : Tg} {r : Tgs} {x : Va} {xs : List Va} : (gsCons t r).put (x :: xs) s h = match t.put x s h with
  | some s1 => r.put xs s1 h
  | none => none := rfl
@[simp] theorem ev_sSetI {d o i : Dn} : sSetI d o i s h = sBind (d s h) fun v h1 => sBind (o s h1) fun x h2 => sBind (i s h2) fun y h3 => match oSetI x y v h3 with
  | some h4 => .nx s h4
  | none => .stuck := rfl
@[simp] theorem ev_sFor {it : Da} {t : Tg} {b : Sn} : sFor it t b s h = sBind (it s h) fun xs h1 => forL t b xs s h1 := rfl
@[simp] theorem ev_forL_nil {t : Tg} {b : Sn} : forL t b [] s h = .nx s h := rfl
@[simp] theorem ev_forL_cons {t : Tg} {b : Sn} {x : Va} {xs : List Va} : forL t b (x :: xs) s h = match t.put x s h with
  | some s1 => turnEnd (b s1 h) (forL t b xs)
  | none => .stuck := rfl
@[simp] theorem ev_turn_nx {k : Sn} : turnEnd (.nx s h) k = k s h := rfl
@[simp] theorem ev_turn_ct {k : Sn} : turnEnd (.ct s h) k = k s h := rfl
@[simp] theorem ev_turn_rt {k : Sn} {v : Va} : turnEnd (.rt v h) k = .rt v h := rfl
@[simp] theorem ev_turn_bk {k : Sn} : turnEnd (.bk s h) k = .nx s h := rfl
@[simp] theorem ev_iSeq {d : Dn} : iSeq d s h = (d s h).bind fun v h1 => match give v h1 with
  | some (p, h2) => match seqOf p with
    | some xs => .ok xs h2
    | none => .stuck
  | none => .stuck := rfl
@[simp] theorem ev_seqOf_lst {ps : List Pv} : seqOf (.lst ps) = some (ps.map .pv) := rfl
@[simp] theorem ev_seqOf_tup {ps : List Pv} : seqOf (.tup ps) = some (ps.map .pv) := rfl
@[simp] theorem ev_iRng1 {da : Da} : iRng1 da s h = (da s h).bind fun vs h1 => match vs with
  | [.pv (.int j)] => .ok (rangeVa 0 j.toNat) h1
  | _ => .stuck := rfl
@[simp] theorem ev_iRng2 {da : Da} : iRng2 da s h = (da s h).bind fun vs h1 => match vs with
  | [.pv (.int i), .pv (.int j)] => .ok (rangeVa i (j - i).toNat) h1
  | _ => .stuck := rfl
@[simp] theorem ev_dComp {it : Da} {vs : List Nat} {t : Tg} {c : Dt} {d : Dn} : dComp it vs t c d s h = (it s h).bind fun xs h1 => if xs.length ≤ 1000000 then compL t c d (wipeS s vs) xs [] h1 else .stuck := rfl
@[simp] theorem ev_yes : tYesD s h = .ok true h := rfl
@[simp] theorem ev_wipe_nil : wipeS s [] = s := rfl
@[simp] theorem ev_wipe {v : Nat} {vs : List Nat} : wipeS s (v :: vs) = (wipeS s vs).set v none := rfl
theorem ev_comp_nil {t : Tg} {c : Dt} {d : Dn} {acc : List Pv} : compL t c d s [] acc h = .ok (.pv (.lst acc)) h := rfl
@[simp] theorem ev_mkSeq {mk : List Pv → Pv} {vs : List Va} : mkSeq mk vs h = match gives give vs h with
  | some (ps, h1) => if ps.length ≤ 16777216 then .ok (.pv (mk ps)) h1 else .stuck
  | none => .stuck := rfl
/-! operations on ints -/
variable {i j : Int}
@[simp] theorem ev_sub : oSub (.pv (.int i)) (.pv (.int j)) h = .ok (.pv (.int (i - j))) h := rfl
@[simp] theorem ev_add : oAdd (.pv (.int i)) (.pv (.int j)) h = .ok (.pv (.int (i + j))) h := rfl
@[simp] theorem ev_mul : oMul (.pv (.int i)) (.pv (.int j)) h = if mulOk i j then .ok (.pv (.int (i * j))) h else .stuck := rfl
@[simp] theorem ev_div : oDiv (.pv (.int i)) (.pv (.int j)) h = if divOk j then .ok (.pv (.int (i.fdiv j))) h else .stuck := rfl
@[simp] theorem ev_mod : oMod (.pv (.int i)) (.pv (.int j)) h = if j ≠ 0 then .ok (.pv (.int (i.fmod j))) h else .stuck := by
  show (if decide (j ≠ 0) = true then _ else _) = _
  simp
@[simp] theorem ev_pow : oPow (.pv (.int i)) (.pv (.int j)) h = if powOk i j then .ok (.pv (.int (i ^ j.toNat))) h else .stuck := rfl
@[simp] theorem ev_lt : oLt (.pv (.int i)) (.pv (.int j)) h = .ok (.pv (.bl (decide (i < j)))) h := rfl
@[simp] theorem ev_le : oLe (.pv (.int i)) (.pv (.int j)) h = .ok (.pv (.bl (decide (i ≤ j)))) h := rfl
@[simp] theorem ev_gt : oGt (.pv (.int i)) (.pv (.int j)) h = .ok (.pv (.bl (decide (j < i)))) h := rfl
@[simp] theorem ev_ge : oGe (.pv (.int i)) (.pv (.int j)) h = .ok (.pv (.bl (decide (j ≤ i)))) h := rfl
@[simp] theorem ev_abs : bAbs [.pv (.int i)] h = .ok (.pv (.int i.natAbs)) h := rfl
@[simp] theorem ev_sumG_lst {ps : List Pv} : bSumG [.pv (.lst ps)] h = bSum [.pv (.lst ps)] h := rfl
@[simp] theorem ev_sumG_ref {r : Nat} : bSumG [.ref r] h = bSum [.ref r] h := rfl
@[simp] theorem ev_int : bInt [.pv (.int i)] h = .ok (.pv (.int i)) h := rfl
@[simp] theorem ev_intb {b : Bool} : bInt [.pv (.bl b)] h = .ok (.pv (.int (if b then 1 else 0))) h := rfl
@[simp] theorem ev_divmod : bDivmod [.pv (.int i), .pv (.int j)] h = if divOk j then .ok (.pv (.tup [.int (i.fdiv j), .int (i.fmod j)])) h else .stuck := rfl
@[simp] theorem ev_max2 : bMax [.pv (.int i), .pv (.int j)] h = .ok (.pv (.int (max i j))) h := rfl
@[simp] theorem ev_min2 : bMin [.pv (.int i), .pv (.int j)] h = .ok (.pv (.int (min i j))) h := rfl
/-! == -/
@[simp] theorem ev_eqI {n : Bool} : oEqN n (.pv (.int i)) (.pv (.int j)) h = .ok (.pv (.bl (if n then !(decide (i = j)) else decide (i = j)))) h := by
  cases n <;> rfl
@[simp] theorem ev_eqS {n : Bool} {a b : Str} : oEqN n (.pv (.str a)) (.pv (.str b)) h = .ok (.pv (.bl (if n then !(decide (a = b)) else decide (a = b)))) h := by
  cases n <;> rfl
/-! dicts -/
@[simp] theorem ev_dDic {ps : List (Dn × Dn)} : dDic ps s h = (pairsV ps s (h ++ [.dct []])).bind fun kvs h2 => match h2[h.length]? with
  | some (.dct []) => if kvs.length ≤ 15 then .ok (.ref h.length) (h2.set h.length (.dct (mergeV [] kvs))) else .stuck
  | _ => .stuck := rfl
@[simp] theorem ev_pairs_nil : pairsV [] s h = .ok [] h := rfl
@[simp] theorem ev_pairs_cons {dk dv : Dn} {r : List (Dn × Dn)} : pairsV ((dk, dv) :: r) s h = (dk s h).bind fun x h1 => (dv s h1).bind fun y h2 => (pairsV r s h2).bind fun l h3 => match keyOf x with
  | some k => .ok ((k, y) :: l) h3
  | none => .stuck := rfl
@[simp] theorem ev_keyS {x : Str} : keyOf (.pv (.str x)) = some (.inr x) := rfl
@[simp] theorem ev_keyI {x : Int} : keyOf (.pv (.int x)) = some (.inl x) := rfl
/-! calls -/
theorem ev_call {F : Fn} {n m : Nat} {asm : List Va → List Va → List Va} {da dk : Da} : dCall F n m asm da dk s h = (da s h).bind fun us h1 => (dk s h1).bind fun ws h2 => if us.length = n ∧ ws.length = m then F (asm us ws) h2 else .stuck := rfl
theorem ev_callP {F : Fn} {n m : Nat} {asm : List Va → List Va → List Va} {da dk : Da} : dCallP F n m asm da dk s h = (da s h).bind fun us h1 => (dk s h1).bind fun ws h2 => if us.length = n ∧ ws.length = m then (match gives give (asm us ws) h2 with
  | some (ps, h3) => (pcall F ps).res h3
  | none => .stuck) else .stuck := rfl
@[simp] theorem ev_res {p : Pv} : (PR.ok p).res h = .ok (.pv p) h := rfl
theorem pcall_of {F : Fn} {ps : List Pv} {p : Pv} {h' : Hh} (e : F (ps.map .pv) [] = .ok (.pv p) h') : pcall F ps = .ok p := by
  unfold pcall
  rw [e]
  simp
end
end CI
namespace R
open PySem PySem.Spec PyProof.Rows L2 CI

theorem fmod_nat (a b : Nat) : Int.fmod (a : Int) (b : Int) = ((a % b : Nat) : Int) := by
  rw [Int.fmod_eq_emod_of_nonneg _ (by omega)]; rfl
theorem fdiv_nat (a b : Nat) : Int.fdiv (a : Int) (b : Int) = ((a / b : Nat) : Int) := by
  rw [Int.fdiv_eq_ediv_of_nonneg _ (by omega)]; rfl
noncomputable abbrev gcdW : Sn := sWhl (tVB (dBin oGt (dVar 1) (dC (.int 0)))) (sPar [0, 1] (daCons (dVar 1) (daCons (dBin oMod (dVar 0) (dVar 1)) daNil)))
theorem gcdW_ev (h : Hh) : ∀ (b a : Nat), gcdW [some (.pv (.int a)), some (.pv (.int b))] h = .nx [some (.pv (.int (Nat.gcd a b : Nat))), some (.pv (.int 0))] h := by
  intro b
  induction b using Nat.strongRecOn with
  | ind b ih =>
    intro a
    unfold gcdW
    rw [sWhl_eq]
    unfold whS
    by_cases hb : b = 0
    · subst hb
      simp
    · have this := ih (a % b) (Nat.mod_lt _ (by omega)) b
      have e2 : (b : Int) ≠ 0 := by omega
      have e3 : 0 < b := by omega
      have g : Nat.gcd b (a % b) = Nat.gcd a b := by rw [Nat.gcd_comm b, ← Nat.gcd_rec, Nat.gcd_comm]
      rw [g] at this
      simp [e2, e3, fmod_nat, hb]
      simpa using this
theorem common_ev (a b : Nat) (h : Hh) : F_common [.pv (.int a), .pv (.int b)] h = .ok (.pv (.int (Nat.gcd a b : Nat))) h := by
  unfold F_common fnOfB b_common startS
  simp [gcdW_ev]
theorem p_common (a b : Nat) : pcall F_common [.int a, .int b] = .ok (.int (Nat.gcd a b : Nat)) := pcall_of (common_ev a b [])
end R
namespace R
open PySem PySem.Spec PyProof.Rows L2 CI
@[simp] theorem ap_common (x y : Va) : a_common 2 [] [x, y] [] = [x, y] := by rfl
@[simp] theorem ap_lowest (x y : Va) : a_lowest 2 [] [x, y] [] = [x, y] := by rfl
@[simp] theorem ap_plus (x y : Va) : a_plus 2 [] [x, y] [] = [x, y] := by rfl
@[simp] theorem ap_minus (x y : Va) : a_minus 2 [] [x, y] [] = [x, y] := by rfl
@[simp] theorem ap_many (x y z w : Va) : a_many_coins 4 [] [x, y, z, w] [] = [x, y, z, w] := by rfl
@[simp] theorem ap_rounded2 (x c r : Va) : a_rounded 1 [("coin" : Str), ("rule" : Str)] [x] [c, r] = [x, c, r] := by rfl
@[simp] theorem ap_rounded0 (x : Va) : a_rounded 1 [] [x] [] = [x, .pv (.int 1), .pv (.str ("down" : Str))] := by rfl
@[simp] theorem ap_rounded0k (x r : Va) : a_rounded 0 [("ratio" : Str), ("rule" : Str)] [] [x, r] = [x, .pv (.int 1), r] := by rfl
@[simp] theorem ap_rounded1 (x c : Va) : a_rounded 1 [("coin" : Str)] [x] [c] = [x, c, .pv (.str ("down" : Str))] := by rfl
@[simp] theorem ap_left2 (x c r : Va) : a_left 1 [("rule" : Str), ("coin" : Str)] [x] [r, c] = [x, c, r] := by rfl
@[simp] theorem ap_left2' (x c r : Va) : a_left 1 [("coin" : Str), ("rule" : Str)] [x] [c, r] = [x, c, r] := by rfl
@[simp] theorem ap_left0 (x : Va) : a_left 1 [] [x] [] = [x, .pv (.int 1), .pv (.str ("down" : Str))] := by rfl
@[simp] theorem ap_left3 (x c r : Va) : a_left 0 [("rule" : Str), ("ratio" : Str), ("coin" : Str)] [] [r, x, c] = [x, c, r] := by rfl
def lwP (t u : Int) : Int := if u < 0 then -((Nat.gcd t.natAbs u.natAbs : Nat) : Int) else ((Nat.gcd t.natAbs u.natAbs : Nat) : Int)
theorem log2_small {n k : Nat} (h : n < 2 ^ k) (hk : 0 < k) : n.log2 < k := by
  by_cases z : n = 0
  · subst z; simpa using hk
  · exact (Nat.log2_lt z).mpr h
theorem divOk_of {j : Int} (h : j ≠ 0) (h2 : j.natAbs < 2 ^ 8000) : divOk j = true := by
  unfold divOk
  have := log2_small h2 (by decide)
  simp only [Bool.and_eq_true, decide_eq_true_eq]
  exact ⟨h, by omega⟩
theorem mulOk_of {i j : Int} (h : i.natAbs < 2 ^ 8000) (h2 : j.natAbs < 2 ^ 8000) : mulOk i j = true := by
  unfold mulOk
  have := log2_small h (by decide)
  have := log2_small h2 (by decide)
  simp only [Bool.or_eq_true, Bool.and_eq_true, decide_eq_true_eq]
  exact .inr ⟨by omega, by omega⟩
theorem mulOk_l {i j : Int} (h : i.natAbs < 2 ^ 64) : mulOk i j = true := by
  unfold mulOk
  simp only [Bool.or_eq_true, Bool.and_eq_true, decide_eq_true_eq]
  exact .inl (.inl h)
theorem mulOk_r {i j : Int} (h : j.natAbs < 2 ^ 64) : mulOk i j = true := by
  unfold mulOk
  simp only [Bool.or_eq_true, Bool.and_eq_true, decide_eq_true_eq]
  exact .inl (.inr h)
theorem lwP_le {t u : Int} (h : u ≠ 0) : (lwP t u).natAbs ≤ u.natAbs ∧ lwP t u ≠ 0 := by
  have h1 : Nat.gcd t.natAbs u.natAbs ≤ u.natAbs := Nat.gcd_le_right _ (by omega)
  have h2 : 0 < Nat.gcd t.natAbs u.natAbs := Nat.gcd_pos_of_pos_right _ (by omega)
  unfold lwP
  split <;> omega
theorem p_lowest {t u : Int} (h : u ≠ 0) (hu : u.natAbs < 2 ^ 8000) : pcall F_lowest [.int t, .int u] = .ok (.tup [.int (t.fdiv (lwP t u)), .int (u.fdiv (lwP t u))]) := by
  refine pcall_of (h' := []) ?_
  obtain ⟨l1, l2⟩ := lwP_le (t := t) h
  have hd : divOk (lwP t u) = true := divOk_of l2 (by omega)
  have e := p_common t.natAbs u.natAbs
  unfold F_lowest fnOfB b_lowest startS
  by_cases hn : u < 0
  · have q : lwP t u = -((Nat.gcd t.natAbs u.natAbs : Nat) : Int) := by unfold lwP; rw [if_pos hn]
    rw [q] at hd ⊢
    simp [ev_callP, e, hn, hd]
  · have q : lwP t u = ((Nat.gcd t.natAbs u.natAbs : Nat) : Int) := by unfold lwP; rw [if_neg hn]
    rw [q] at hd ⊢
    simp [ev_callP, e, hn, hd]
end R
namespace R
open PySem PySem.Spec PyProof.Rows L2 CI

/-! ### repr -/
theorem leaf_int {i : Int} (h : i.natAbs.log2 < 1920) : PyData.leavesShort 1921 (.int i) = true := by
  unfold PyData.leavesShort
  exact decide_eq_true (int_text_len_1921 h)
theorem showOk_int {i : Int} (h : i.natAbs < 2 ^ 1920) : showOk (.int i) = true := by
  have h1 := log2_small h (by decide)
  have h2 := PyData.shown_le_bulk 1921 (by decide) (.int i) (leaf_int h1)
  unfold showOk
  simp only [Bool.and_eq_true, decide_eq_true_eq]
  refine ⟨⟨⟨decide_eq_true h1, rfl⟩, by simp [PyData.depth]⟩, ?_⟩
  have e : (PyData.int i).bulk = 0 := rfl
  rw [e] at h2
  omega
theorem showOk_two {i j : Int} (h : i.natAbs < 2 ^ 1920) (h' : j.natAbs < 2 ^ 1920) : showOk (.tuple [.int i, .int j]) = true := by
  have h1 := log2_small h (by decide)
  have h1' := log2_small h' (by decide)
  have h2 := PyData.shown_le_bulk 1921 (by decide) (.tuple [.int i, .int j]) (by
    show (PyData.leavesShort 1921 (.int i) && (PyData.leavesShort 1921 (.int j) && true)) = true
    rw [leaf_int h1, leaf_int h1']; rfl)
  unfold showOk
  simp only [Bool.and_eq_true, decide_eq_true_eq]
  refine ⟨⟨⟨?_, rfl⟩, by simp [PyData.depth, PyData.depthAll]⟩, ?_⟩
  · show (decide _ && (decide _ && true)) = true
    rw [decide_eq_true h1, decide_eq_true h1']; rfl
  · have e : (PyData.tuple [.int i, .int j]).bulk = 2 := rfl
    rw [e] at h2
    omega
theorem ev_repr {p : Pv} {d : PyData} {h : Hh} (hd : toD p = some d) (hs : showOk d = true) : bRepr [.pv p] h = .ok (.pv (.str d.shown)) h := by
  show (match toD p with | some d => if showOk d then _ else _ | none => _) = _
  rw [hd]
  simp [hs]
theorem ev_idx_tup {ps : List Pv} {i : Int} {h : Hh} : oIdx (.pv (.tup ps)) (.pv (.int i)) h = match atI (ps.map Va.pv) i with
  | some v => .ok v h
  | none => .stuck := rfl
theorem ev_idx_lst {ps : List Pv} {i : Int} {h : Hh} : oIdx (.pv (.lst ps)) (.pv (.int i)) h = match atI (ps.map Va.pv) i with
  | some v => .ok v h
  | none => .stuck := rfl
@[simp] theorem ev_t0 {a : Pv} {r : List Pv} {h : Hh} : oIdx (.pv (.tup (a :: r))) (.pv (.int 0)) h = .ok (.pv a) h := by
  rw [ev_idx_tup]; simp [atI, ixN]
@[simp] theorem ev_t1 {a b : Pv} {r : List Pv} {h : Hh} : oIdx (.pv (.tup (a :: b :: r))) (.pv (.int 1)) h = .ok (.pv b) h := by
  rw [ev_idx_tup]; simp only [atI, ixN, List.map_cons, List.length_cons]; rw [if_pos (by decide), if_pos (by omega)]; rfl
@[simp] theorem ev_l0 {a : Pv} {r : List Pv} {h : Hh} : oIdx (.pv (.lst (a :: r))) (.pv (.int 0)) h = .ok (.pv a) h := by
  rw [ev_idx_lst]; simp [atI, ixN]
@[simp] theorem ev_l1 {a b : Pv} {r : List Pv} {h : Hh} : oIdx (.pv (.lst (a :: b :: r))) (.pv (.int 1)) h = .ok (.pv b) h := by
  rw [ev_idx_lst]; simp only [atI, ixN, List.map_cons, List.length_cons]; rw [if_pos (by decide), if_pos (by omega)]; rfl
/-! ### ratios -/
abbrev rat (t u : Int) : Pv := .tup [.int t, .int u]
abbrev low (t u : Int) : Pv := rat (t.fdiv (lwP t u)) (u.fdiv (lwP t u))
theorem p_plus {a b c d : Int} (h : b * d ≠ 0) (hu : (b * d).natAbs < 2 ^ 8000) (m1 : mulOk a d = true) (m2 : mulOk c b = true) (m3 : mulOk b d = true) :
    pcall F_plus [rat a b, rat c d] = .ok (low (a * d + c * b) (b * d)) := by
  refine pcall_of (h' := []) ?_
  have e := p_lowest (t := a * d + c * b) h hu
  unfold F_plus fnOfB b_plus startS
  simp [ev_callP, m1, m2, m3, e]
theorem p_minus {a b c d : Int} (h : b * d ≠ 0) (hu : (b * d).natAbs < 2 ^ 8000) (m1 : mulOk a d = true) (m2 : mulOk (-c) b = true) (m3 : mulOk b d = true) :
    pcall F_minus [rat a b, rat c d] = .ok (low (a * d + -c * b) (b * d)) := by
  refine pcall_of (h' := []) ?_
  have e := p_plus (a := a) (b := b) (c := -c) (d := d) h hu m1 m2 m3
  unfold F_minus fnOfB b_minus startS
  simp [ev_callP, e]
/-- many_coins -/
def mc (t S : Int) (r : Str) : Int :=
  if t.fmod S = 0 ∨ r = ("down" : Str) then t.fdiv S
  else if r = ("up" : Str) then t.fdiv S + 1
  else if 2 * t.fmod S ≠ S then t.fdiv S + (if 2 * t.fmod S > S then 1 else 0)
  else if r = ("even" : Str) then t.fdiv S + (t.fdiv S).fmod 2
  else t.fdiv S + (if r = ("upper" : Str) then 1 else 0)
/-! the five words -/
theorem w1 : ¬ (("up" : Str) = ("down" : Str)) := by decide +kernel
theorem w2 : ¬ (("even" : Str) = ("down" : Str)) := by decide +kernel
theorem w3 : ¬ (("upper" : Str) = ("down" : Str)) := by decide +kernel
theorem w4 : ¬ (("lower" : Str) = ("down" : Str)) := by decide +kernel
theorem w5 : ¬ (("even" : Str) = ("up" : Str)) := by decide +kernel
theorem w6 : ¬ (("upper" : Str) = ("up" : Str)) := by decide +kernel
theorem w7 : ¬ (("lower" : Str) = ("up" : Str)) := by decide +kernel
theorem w8 : ¬ (("upper" : Str) = ("even" : Str)) := by decide +kernel
theorem w9 : ¬ (("lower" : Str) = ("even" : Str)) := by decide +kernel
theorem w10 : ¬ (("lower" : Str) = ("upper" : Str)) := by decide +kernel
theorem w11 : ¬ (("even" : Str) = ("upper" : Str)) := by decide +kernel
theorem w12 : ¬ (("down" : Str) = ("up" : Str)) := by decide +kernel
theorem w13 : ¬ (("down" : Str) = ("even" : Str)) := by decide +kernel
theorem w14 : ¬ (("down" : Str) = ("upper" : Str)) := by decide +kernel
theorem w15 : ¬ (("up" : Str) = ("even" : Str)) := by decide +kernel
theorem w16 : ¬ (("up" : Str) = ("upper" : Str)) := by decide +kernel
theorem p_many {t u c : Int} {r : Str} (hS : u * c ≠ 0) (hz : (u * c).natAbs < 2 ^ 8000) (hc : c.natAbs < 2 ^ 64) : pcall F_many_coins [.int t, .int u, .int c, .str r] = .ok (.int (mc t (u * c) r)) := by
  refine pcall_of (h' := []) ?_
  have m1 : mulOk u c = true := mulOk_r hc
  have m2 : mulOk 2 (t.fmod (u * c)) = true := mulOk_l (by decide)
  have d1 := divOk_of hS hz
  unfold F_many_coins fnOfB b_many_coins startS mc
  by_cases z1 : t.fmod (u * c) = 0
  · simp [m1, m2, d1, z1]
  · by_cases z2 : r = ("down" : Str)
    · simp [m1, m2, d1, z1, z2]
    · by_cases z3 : r = ("up" : Str)
      · simp [m1, m2, d1, z1, z3, w1]
      · by_cases z4 : 2 * t.fmod (u * c) = u * c
        · by_cases z5 : r = ("even" : Str)
          · simp [m1, m2, d1, z1, z4, z5, w2, w5]
          · by_cases z6 : r = ("upper" : Str)
            · simp [m1, m2, d1, z1, z4, z6, w3, w6, w8]
            · simp [m1, m2, d1, z1, z2, z3, z4, z5, z6]
        · by_cases z5 : 2 * t.fmod (u * c) > u * c
          · simp [m1, m2, d1, z1, z2, z3, z4, z5]
          · simp [m1, m2, d1, z1, z2, z3, z4, z5]
theorem p_rounded {t u c : Int} {r : Str} (hS : u * c ≠ 0) (hz : (u * c).natAbs < 2 ^ 8000) (hc : c.natAbs < 2 ^ 64) : pcall F_rounded [rat t u, .int c, .str r] = .ok (.int (c * mc t (u * c) r)) := by
  refine pcall_of (h' := []) ?_
  have e := p_many (t := t) (r := r) hS hz hc
  have m1 : mulOk c (mc t (u * c) r) = true := mulOk_l hc
  unfold F_rounded fnOfB b_rounded startS
  simp [ev_callP, e, m1]
theorem p_left {t u c : Int} {r : Str} (hS : u * c ≠ 0) (hu : u.natAbs < 2 ^ 64) (hc : c.natAbs < 2 ^ 64) : pcall F_left [rat t u, .int c, .str r] = .ok (low (t + -(c * mc t (u * c) r) * u) u) := by
  refine pcall_of (h' := []) ?_
  have hz : (u * c).natAbs < 2 ^ 8000 := by
    rw [Int.natAbs_mul]
    calc u.natAbs * c.natAbs < 2 ^ 64 * 2 ^ 64 := Nat.mul_lt_mul'' hu hc
      _ ≤ 2 ^ 8000 := by decide +kernel
  have e := p_rounded (t := t) (r := r) hS hz hc
  have hu0 : u ≠ 0 := fun z => hS (by rw [z, Int.zero_mul])
  have e2 := p_minus (a := t) (b := u) (c := c * mc t (u * c) r) (d := 1) (by simpa using hu0) (by rw [Int.mul_one]; exact Nat.lt_trans hu (by decide +kernel)) (mulOk_r (by decide)) (mulOk_r hu) (mulOk_r (by decide))
  rw [Int.mul_one, Int.mul_one] at e2
  unfold F_left fnOfB b_left startS
  simp [ev_callP, e, e2]
end R
namespace R
open PySem PySem.Spec PyProof.Rows L2 CI

@[simp] theorem ap_take (x y : Va) : a_q_take 2 [] [x, y] [] = [x, y] := by rfl
@[simp] theorem ap_wide (x y : Va) : a_q_wide 2 [] [x, y] [] = [x, y] := by rfl
@[simp] theorem ap_bag (x y : Va) : a_q_bag 2 [] [x, y] [] = [x, y] := by rfl
@[simp] theorem ap_gcd (x y : Va) : a_q_gcd 2 [] [x, y] [] = [x, y] := by rfl
/-! ### the bag -/
abbrev I (i : Int) : Va := .pv (.int i)
def BagAt (h : Hh) (r : Nat) : Prop := ∃ g m p c : Int, h[r]? = some (.lst [I g, I m, I p, I c]) ∧ 0 ≤ g ∧ 0 ≤ m ∧ m < 2 ^ 31 ∧ 0 < p ∧ p < 2 ^ 31
/-- what else is there stays -/
def Oth (h h' : Hh) (r : Nat) : Prop := h'.length = h.length ∧ ∀ r', r' ≠ r → h'[r']? = h[r']?
theorem Oth.refl {h : Hh} {r : Nat} : Oth h h r := ⟨rfl, fun _ _ => rfl⟩
theorem Oth.trans {h h1 h2 : Hh} {r : Nat} (a : Oth h h1 r) (b : Oth h1 h2 r) : Oth h h2 r := ⟨b.1.trans a.1, fun r' n => (b.2 r' n).trans (a.2 r' n)⟩
theorem Oth.set {h : Hh} {r : Nat} {o : Ob} : Oth h (h.set r o) r := ⟨by simp, fun r' n => by rw [List.getElem?_set_ne (Ne.symm n)]⟩
theorem at4 {h : Hh} {r : Nat} {a b c d : Va} (e : h[r]? = some (.lst [a, b, c, d])) :
    oIdx (.ref r) (I 0) h = .ok a h ∧ oIdx (.ref r) (I 1) h = .ok b h ∧ oIdx (.ref r) (I 2) h = .ok c h ∧ oIdx (.ref r) (I 3) h = .ok d h := by
  have k : ∀ i : Int, oIdx (.ref r) (I i) h = match atI [a, b, c, d] i with | some v => .ok v h | none => .stuck := fun i => by
    unfold oIdx dctOf oIdxS rdl
    dsimp only
    first
      | (rw [e]; done)
      | (rw [e]; rfl)
  refine ⟨?_, ?_, ?_, ?_⟩ <;> rw [k] <;> rfl
theorem set4 {h : Hh} {r : Nat} {a b c d v : Va} (e : h[r]? = some (.lst [a, b, c, d])) :
    oSetI (.ref r) (I 0) v h = some (h.set r (.lst [v, b, c, d])) ∧ oSetI (.ref r) (I 1) v h = some (h.set r (.lst [a, v, c, d])) ∧ oSetI (.ref r) (I 3) v h = some (h.set r (.lst [a, b, c, v])) := by
  have k : ∀ i : Int, oSetI (.ref r) (I i) v h = match ixN 4 i with | some j => some (h.set r (.lst ([a, b, c, d].set j v))) | none => none := fun i => by
    unfold oSetI dctOf oSetL
    dsimp only
    first
      | (rw [e]; done)
      | (rw [e]; rfl)
  refine ⟨?_, ?_, ?_⟩ <;> rw [k] <;> rfl
theorem fmod_in {a b : Int} (hb : 0 < b) : 0 ≤ a.fmod b ∧ a.fmod b < b := ⟨Int.fmod_nonneg_of_pos _ hb, Int.fmod_lt_of_pos _ hb⟩
theorem take_ev {h : Hh} {r : Nat} {n : Int} (B : BagAt h r) (h0 : 0 < n) (hn : n < 2 ^ 200) : ∃ v h', F_q_take [.ref r, I n] h = .ok (I v) h' ∧ BagAt h' r ∧ Oth h h' r ∧ 0 ≤ v ∧ v < n := by
  obtain ⟨g, m, p, c, e, hg, m0, m1, p0, p1⟩ := B
  have hr : r < h.length := (List.getElem?_eq_some_iff.mp e).1
  have nz : n ≠ 0 := by omega
  have pz : p ≠ 0 := by omega
  have dn : divOk n = true := divOk_of nz (by
    have : n.natAbs < 2 ^ 200 := by omega
    exact Nat.lt_trans this (Nat.pow_lt_pow_right (by decide) (by decide)))
  obtain ⟨a0, a1, a2, a3⟩ := at4 e
  by_cases z : 0 < g
  · obtain ⟨s0, _, _⟩ := set4 (v := I (g.fdiv n)) e
    refine ⟨g.fmod n, h.set r (.lst [I (g.fdiv n), I m, I p, I c]), ?_, ⟨g.fdiv n, m, p, c, List.getElem?_set_self hr, ?_, m0, m1, p0, p1⟩, Oth.set, fmod_in h0⟩
    · unfold F_q_take fnOfB b_q_take startS
      simp [a0, a1, a2, a3, s0, z, nz, dn]
    · rw [Int.fdiv_eq_ediv_of_nonneg _ (by omega)]
      exact Int.ediv_nonneg hg (by omega)
  · obtain ⟨_, _, s3⟩ := set4 (v := I (c + 1)) e
    have e1 : (h.set r (.lst [I g, I m, I p, I (c + 1)]))[r]? = some (.lst [I g, I m, I p, I (c + 1)]) := List.getElem?_set_self hr
    obtain ⟨b0, b1, b2, b3⟩ := at4 e1
    obtain ⟨_, t1, _⟩ := set4 (v := I ((m * 48271 + 7919 * (c + 1) + 11).fmod p)) e1
    have e2 : (h.set r (.lst [I g, I ((m * 48271 + 7919 * (c + 1) + 11).fmod p), I p, I (c + 1)]))[r]? = some (.lst [I g, I ((m * 48271 + 7919 * (c + 1) + 11).fmod p), I p, I (c + 1)]) := List.getElem?_set_self hr
    obtain ⟨c0, c1, c2, c3⟩ := at4 e2
    have fm := fmod_in (a := m * 48271 + 7919 * (c + 1) + 11) p0
    have k1 : mulOk m 48271 = true := mulOk_r (by decide)
    have k2 : mulOk 7919 (c + 1) = true := mulOk_l (by decide)
    have k3 : divOk 8 = true := by decide
    have k4 : powOk (((m * 48271 + 7919 * (c + 1) + 11).fmod p).fdiv 8) 3 = true := by
      unfold powOk
      rw [Int.fdiv_eq_ediv_of_nonneg _ (by omega)]
      simp only [Bool.and_eq_true, decide_eq_true_eq]
      refine ⟨⟨by decide, by decide⟩, ?_⟩
      have : (((m * 48271 + 7919 * (c + 1) + 11).fmod p) / 8) ≤ (m * 48271 + 7919 * (c + 1) + 11).fmod p := Int.ediv_le_self _ fm.1
      have : 0 ≤ (((m * 48271 + 7919 * (c + 1) + 11).fmod p) / 8) := Int.ediv_nonneg fm.1 (by omega)
      omega
    refine ⟨((((((m * 48271 + 7919 * (c + 1) + 11).fmod p).fdiv 8) ^ 3).fmod 2147483629).fmod n), _, ?_, ⟨g, _, p, c + 1, e2, hg, fm.1, by omega, p0, p1⟩, Oth.set, fmod_in h0⟩
    · unfold F_q_take fnOfB b_q_take startS
      simp [a0, a1, a2, a3, s3, z, nz, dn, b0, b1, b2, b3, t1, c0, c1, c2, c3, k1, k2, k3, k4, pz]
end R
namespace R
open PySem PySem.Spec PyProof.Rows L2 CI

theorem take_dn {n : Int} (h0 : 0 < n) (hn : n < 2 ^ 200) : divOk n = true := divOk_of (by omega) (by
    have : n.natAbs < 2 ^ 200 := by omega
    exact Nat.lt_trans this (by decide +kernel))
theorem idx_scr {ns : List Int} {k : Nat} {h : Hh} {v : Int} (e : ns[k]? = some v) : oIdx (.pv (.scr ns)) (I k) h = .ok (I v) h := by
  show (match rdl h (.pv (.scr ns)) with
    | some xs => (match atI xs (k : Int) with
      | some v => Res.ok v h
      | none => .stuck)
    | none => .stuck) = _
  show (match atI (ns.map fun n => Va.pv (.int n)) (k : Int) with
      | some v => Res.ok v h
      | none => .stuck) = _
  have hk := (List.getElem?_eq_some_iff.mp e).1
  have q : atI (ns.map fun n => Va.pv (.int n)) (k : Int) = some (I v) := by
    unfold atI ixN
    rw [if_pos (by omega), if_pos (by rw [List.length_map]; omega)]
    show ((ns.map fun n => Va.pv (.int n))[((k : Int)).toNat]?) = _
    rw [Int.toNat_natCast, List.getElem?_map, e]; rfl
  rw [q]
@[simp] theorem len_scr {ns : List Int} {h : Hh} : bLen [.pv (.scr ns)] h = .ok (I ns.length) h := by
  show Res.ok (I ((ns.map fun n => Va.pv (.int n)).length : Nat)) h = _
  rw [List.length_map]
theorem prime_at {k : Nat} (hk : k < 8) : ∃ p : Int, atI [I 2147483629, I 2147483587, I 2147483579, I 2147483563, I 2147483549, I 2147483543, I 2147483497, I 2147483489] ((k : Int).fmod 8) = some (I p) ∧ 0 < p ∧ p < 2 ^ 31 := by
  rcases k with _|_|_|_|_|_|_|_|k
  · exact ⟨_, rfl, by decide, by decide⟩
  · exact ⟨_, rfl, by decide, by decide⟩
  · exact ⟨_, rfl, by decide, by decide⟩
  · exact ⟨_, rfl, by decide, by decide⟩
  · exact ⟨_, rfl, by decide, by decide⟩
  · exact ⟨_, rfl, by decide, by decide⟩
  · exact ⟨_, rfl, by decide, by decide⟩
  · exact ⟨_, rfl, by decide, by decide⟩
  · omega
theorem bag_ev {ns : List Int} {k : Nat} {h : Hh} (hk : k < 8) : ∃ h', F_q_bag [.pv (.scr ns), I k] h = .ok (.ref h.length) h' ∧ BagAt h' h.length ∧ ∃ o, h' = h ++ [o] := by
  obtain ⟨p, hp, p0, p1⟩ := prime_at hk
  have pz : p ≠ 0 := by omega
  have main : ∀ g : Int, 0 ≤ g → (((k : Int) < ns.length ∧ ∃ v : Int, ns[k]? = some v ∧ (v.natAbs : Int) = g) ∨ (¬ (k : Int) < ns.length ∧ g = 0)) →
      ∃ h', F_q_bag [.pv (.scr ns), I k] h = .ok (.ref h.length) h' ∧ BagAt h' h.length ∧ ∃ o, h' = h ++ [o] := by
    intro g hg hc
    have fm := fmod_in (a := (g.fmod 2147483647 + 104729 * (k : Int) + 7) ^ 5) p0
    have gm := fmod_in (a := g) (b := 2147483647) (by decide)
    have k1 : mulOk 104729 (k : Int) = true := mulOk_l (by decide)
    have k4 : powOk (g.fmod 2147483647 + 104729 * (k : Int) + 7) 5 = true := by
      unfold powOk
      simp only [Bool.and_eq_true, decide_eq_true_eq]
      exact ⟨⟨by decide, by decide⟩, by omega⟩
    have k5 : powOk 10 18 = true := by decide
    have k6 : mulOk g (if 1000000000000000000 ≤ g then 1 else 0) = true := mulOk_r (by split <;> decide)
    have k7 : 0 ≤ g * (if 1000000000000000000 ≤ g then 1 else 0) := Int.mul_nonneg hg (by split <;> decide)
    have ei : oIdx (.pv (.lst [.int 2147483629, .int 2147483587, .int 2147483579, .int 2147483563, .int 2147483549, .int 2147483543, .int 2147483497, .int 2147483489])) (I ((k : Int).fmod 8)) h = .ok (I p) h := by
      rw [ev_idx_lst]
      show (match atI [I 2147483629, I 2147483587, I 2147483579, I 2147483563, I 2147483549, I 2147483543, I 2147483497, I 2147483489] ((k : Int).fmod 8) with | some v => Res.ok v h | none => .stuck) = _
      rw [hp]
    refine ⟨h ++ [.lst [I (g * (if 1000000000000000000 ≤ g then 1 else 0)), I (((g.fmod 2147483647 + 104729 * (k : Int) + 7) ^ 5).fmod p), I p, I 0]], ?_, ⟨_, _, p, 0, List.getElem?_concat_length, k7, fm.1, by omega, p0, p1⟩, _, rfl⟩
    unfold F_q_bag fnOfB b_q_bag startS
    rcases hc with ⟨c1, v, c2, c3⟩ | ⟨c1, c3⟩
    · have e0 := idx_scr (h := h) c2
      have c4 : k < ns.length := by omega
      simp [c1, c4, e0, c3, ei, k1, k4, k5, k6, pz]
    · have c4 : ¬ k < ns.length := by omega
      subst c3
      have k8 : mulOk 0 0 = true := by decide
      rw [Int.zero_fmod, Int.zero_add] at k4
      simp [c1, c4, ei, k1, k4, k5, k8, pz]
  by_cases z : k < ns.length
  · exact main _ (by omega) (.inl ⟨by omega, ns[k], List.getElem?_eq_getElem z, rfl⟩)
  · exact main 0 (by omega) (.inr ⟨by omega, rfl⟩)
theorem rng5 : rangeVa 0 5 = [I 0, I 1, I 2, I 3, I 4] := by rfl
theorem wide_ev {h : Hh} {r : Nat} {n : Int} (B : BagAt h r) (h0 : 0 < n) (hn : n < 2 ^ 200) : ∃ v h', F_q_wide [.ref r, I n] h = .ok (I v) h' ∧ BagAt h' r ∧ Oth h h' r ∧ 0 ≤ v ∧ v < n := by
  obtain ⟨v1, h1, e1, B1, o1, _, _⟩ := take_ev B (n := 1000000000) (by decide) (by decide)
  obtain ⟨v2, h2, e2, B2, o2, _, _⟩ := take_ev B1 (n := 1000000000) (by decide) (by decide)
  obtain ⟨v3, h3, e3, B3, o3, _, _⟩ := take_ev B2 (n := 1000000000) (by decide) (by decide)
  obtain ⟨v4, h4, e4, B4, o4, _, _⟩ := take_ev B3 (n := 1000000000) (by decide) (by decide)
  obtain ⟨v5, h5, e5, B5, o5, _, _⟩ := take_ev B4 (n := 1000000000) (by decide) (by decide)
  have m : ∀ x, mulOk x 1000000000 = true := fun x => mulOk_r (by decide)
  have k5 : powOk 10 9 = true := by decide
  have nz : n ≠ 0 := by omega
  refine ⟨((((((0 + v1) * 1000000000 + v2) * 1000000000 + v3) * 1000000000 + v4) * 1000000000) + v5).fmod n, h5, ?_, B5, o1.trans (o2.trans (o3.trans (o4.trans o5))), fmod_in h0⟩
  unfold F_q_wide fnOfB b_q_wide startS
  simp [ev_call, k5, rng5, m, e1, e2, e3, e4, e5, nz]
end R
namespace R
open PySem PySem.Spec PyProof.Rows L2 CI

/-! ### comprehensions over ints -/
theorem comp_ints {i : Nat} {c : Dt} {d : Dn} {s : Sl} {h : Hh} (q : Int → Bool) (f : Int → Int) : ∀ (ns : List Int) (acc : List Pv), (∀ n ∈ ns, c (s.set i (some (I n))) h = .ok (q n) h) → (∀ n ∈ ns, q n = true → d (s.set i (some (I n))) h = .ok (I (f n)) h) →
    compL (gNm i) c d s (ns.map I) acc h = .ok (.pv (.lst (acc ++ ((ns.filter q).map f).map .int))) h
  | [], acc, _, _ => by simp [compL]
  | n :: ns, acc, hc, hd => by
    have h1 := hc n (List.mem_cons_self ..)
    have ih := fun acc => comp_ints (i := i) (s := s) q f ns acc (fun m hm => hc m (List.mem_cons_of_mem _ hm)) (fun m hm => hd m (List.mem_cons_of_mem _ hm))
    cases hq : q n with
    | true =>
      have h2 := hd n (List.mem_cons_self ..) hq
      rw [hq] at h1
      rw [List.map_cons, compL]
      simp only [ev_gNm, h1, h2, ev_give, ih, List.filter_cons_of_pos hq]
      simp
    | false =>
      rw [hq] at h1
      rw [List.map_cons, compL]
      simp only [ev_gNm, h1, ih]
      rw [List.filter_cons_of_neg (by rw [hq]; decide)]
theorem lstInts_map {ns : List Int} {h : Hh} : lstInts h (.pv (.lst (ns.map .int))) = some ns := by
  show intsOf ((ns.map Pv.int).map Va.pv) = some ns
  induction ns with
  | nil => rfl
  | cons n ns ih => show (intsOf ((ns.map Pv.int).map Va.pv)).map (n :: ·) = _; rw [ih]; rfl
theorem max_map {n : Int} {ns : List Int} {h : Hh} : bMax [.pv (.lst ((n :: ns).map .int))] h = .ok (I (maxI (n :: ns))) h := by
  show bMax1 [.pv (.lst ((n :: ns).map .int))] h = _
  unfold bMax1
  dsimp only
  rw [lstInts_map]; rfl
theorem min_map {n : Int} {ns : List Int} {h : Hh} : bMin [.pv (.lst ((n :: ns).map .int))] h = .ok (I (minI (n :: ns))) h := by
  show bMin1 [.pv (.lst ((n :: ns).map .int))] h = _
  unfold bMin1
  dsimp only
  rw [lstInts_map]; rfl
theorem rng_ints {lo : Int} {n : Nat} : rangeVa lo n = ((List.range n).map fun i => lo + ((i : Nat) : Int)).map I := by
  unfold rangeVa
  rw [List.map_map]; rfl
theorem fdiv_fdiv' {t u p : Int} (hu : 0 < u) (hp : 0 < p) : (t.fdiv u).fdiv p = t.fdiv (u * p) := by
  rw [Int.fdiv_eq_ediv_of_nonneg _ (by omega), Int.fdiv_eq_ediv_of_nonneg _ (by omega), Int.fdiv_eq_ediv_of_nonneg _ (Int.le_of_lt (Int.mul_pos hu hp)), Int.ediv_ediv_of_nonneg (by omega)]
/-! ### the multiples near by -/
/-- six multiples of p about the b-th -/
def six (p b : Int) : List Int := [p * b - 2 * p, p * b - p, p * b, p * b + p, p * b + 2 * p, p * b + 3 * p]
theorem six_is {p b : Int} : ((List.range 6).map fun i => (b - 2) + ((i : Nat) : Int)).map (fun k => p * k) = six p b := by
  have r : List.range 6 = [0, 1, 2, 3, 4, 5] := by decide
  have e2 : p * (b - 2) = p * b - 2 * p := by rw [Int.mul_sub, Int.mul_comm p 2]
  rw [r]
  simp only [List.map_cons, List.map_nil, six, Int.mul_add, e2]
  simp
  omega
/-! ### for -/
theorem forL_inv {t : Tg} {b : Sn} (Z : Sl → Hh → Prop) : ∀ (xs : List Va) (s : Sl) (h : Hh), Z s h → (∀ x ∈ xs, ∀ s h, Z s h → ∃ s1, t.put x s h = some s1 ∧ ∃ s2 h2, (b s1 h = .nx s2 h2 ∨ b s1 h = .ct s2 h2) ∧ Z s2 h2) → ∃ s' h', forL t b xs s h = .nx s' h' ∧ Z s' h'
  | [], s, h, z, _ => ⟨s, h, rfl, z⟩
  | x :: xs, s, h, z, f => by
    obtain ⟨s1, e1, s2, h2, e2, z2⟩ := f x (List.mem_cons_self ..) s h z
    obtain ⟨s', h', e3, z3⟩ := forL_inv Z xs s2 h2 z2 fun y hy => f y (List.mem_cons_of_mem _ hy)
    refine ⟨s', h', ?_, z3⟩
    rw [ev_forL_cons, e1]
    rcases e2 with e2 | e2 <;> simp [e2, e3]
theorem mem_rng {x : Va} {n : Nat} (h : x ∈ rangeVa 0 n) : ∃ k : Nat, k < n ∧ x = I k := by
  unfold rangeVa at h
  obtain ⟨k, hk, e⟩ := List.mem_map.mp h
  exact ⟨k, List.mem_range.mp hk, by rw [← e, Int.zero_add]⟩
@[simp] theorem tru_bl {b : Bool} {h : Hh} : truth h (.pv (.bl b)) = some b := rfl
end R
set_option exponentiation.threshold 10000
namespace R
open PySem PySem.Spec PyProof.Rows L2 CI
/-- what the rounded is at most -/
theorem mc_near {t S : Int} {w : Str} (h : 0 < S) : t.fdiv S ≤ mc t S w ∧ mc t S w ≤ t.fdiv S + 1 := by
  have g : (t.fdiv S).fmod 2 = 0 ∨ (t.fdiv S).fmod 2 = 1 := by
    have := fmod_in (a := t.fdiv S) (b := 2) (by decide)
    omega
  unfold mc
  split
  · omega
  · split
    · omega
    · split
      · split <;> omega
      · split
        · omega
        · split <;> omega
theorem fdiv_abs {t S : Int} (h : 0 < S) : (t.fdiv S).natAbs ≤ t.natAbs + 1 := by
  have e := Int.mul_fdiv_add_fmod t S
  obtain ⟨a, b⟩ := fmod_in (a := t) h
  rw [Int.fdiv_eq_ediv_of_nonneg _ (by omega)]
  have := Int.natAbs_ediv_le_natAbs t S
  omega
theorem mul_bnd {a b : Int} {x y : Nat} (ha : a.natAbs < 2 ^ x) (hb : b.natAbs < 2 ^ y) : (a * b).natAbs < 2 ^ (x + y) := by
  rw [Int.natAbs_mul, Nat.pow_add]
  exact Nat.mul_lt_mul'' ha hb
theorem lw_bnd {t u : Int} (h : u ≠ 0) : (t.fdiv (lwP t u)).natAbs ≤ t.natAbs + 1 ∧ (u.fdiv (lwP t u)).natAbs ≤ u.natAbs + 1 := by
  have key : ∀ a q : Int, q ≠ 0 → (a.fdiv q).natAbs ≤ a.natAbs + 1 := fun a q hq => by
    rcases Int.lt_or_gt_of_ne hq with z | z
    · have e := Int.neg_fdiv_neg a q
      rw [← e]
      have := fdiv_abs (t := -a) (S := -q) (by omega)
      omega
    · exact fdiv_abs z
  have z := (lwP_le (t := t) h).2
  exact ⟨key t _ z, key u _ z⟩
theorem big {a b : Nat} (h : a < 2 ^ b) {c : Nat} (hbc : b ≤ c) : a < 2 ^ c := Nat.lt_of_lt_of_le h (Nat.pow_le_pow_right (by decide) hbc)
theorem low_is {t u : Int} (h : u ≠ 0) : ∃ P T U : Int, P ≠ 0 ∧ t = P * T ∧ u = P * U ∧ lwP t u = P ∧ t.fdiv P = T ∧ u.fdiv P = U ∧ 0 < U ∧ Nat.gcd T.natAbs U.natAbs = 1 := by
  obtain ⟨_, hP⟩ := lwP_le (t := t) h
  have g0 : 0 < Nat.gcd t.natAbs u.natAbs := Nat.gcd_pos_of_pos_right _ (by omega)
  have dt : ((Nat.gcd t.natAbs u.natAbs : Nat) : Int) ∣ t := Int.ofNat_dvd_left.mpr (Nat.gcd_dvd_left ..)
  have du : ((Nat.gcd t.natAbs u.natAbs : Nat) : Int) ∣ u := Int.ofNat_dvd_left.mpr (Nat.gcd_dvd_right ..)
  have aP : (lwP t u).natAbs = Nat.gcd t.natAbs u.natAbs := by unfold lwP; split <;> omega
  have dt' : lwP t u ∣ t := by rw [← Int.natAbs_dvd, aP]; exact dt
  have du' : lwP t u ∣ u := by rw [← Int.natAbs_dvd, aP]; exact du
  obtain ⟨T, hT⟩ := dt'
  obtain ⟨U, hU⟩ := du'
  have f1 : t.fdiv (lwP t u) = T := by conv => lhs; arg 1; rw [hT]
                                       exact Int.mul_fdiv_cancel_left _ hP
  have f2 : u.fdiv (lwP t u) = U := by conv => lhs; arg 1; rw [hU]
                                       exact Int.mul_fdiv_cancel_left _ hP
  refine ⟨lwP t u, T, U, hP, hT, hU, rfl, f1, f2, ?_, ?_⟩
  · by_cases n : u < 0
    · have q : lwP t u < 0 := by unfold lwP; rw [if_pos n]; omega
      by_cases z : 0 < U
      · exact z
      · exfalso
        have : 0 ≤ lwP t u * U := Int.mul_nonneg_of_nonpos_of_nonpos (by omega) (by omega)
        omega
    · have q : 0 < lwP t u := by unfold lwP; rw [if_neg n]; omega
      by_cases z : 0 < U
      · exact z
      · exfalso
        have : lwP t u * U ≤ 0 := Int.mul_nonpos_of_nonneg_of_nonpos (by omega) (by omega)
        omega
  · have e1 : t.natAbs = Nat.gcd t.natAbs u.natAbs * T.natAbs := by
      have := congrArg Int.natAbs hT
      rw [Int.natAbs_mul, aP] at this
      exact this
    have e2 : u.natAbs = Nat.gcd t.natAbs u.natAbs * U.natAbs := by
      have := congrArg Int.natAbs hU
      rw [Int.natAbs_mul, aP] at this
      exact this
    have e3 : Nat.gcd t.natAbs u.natAbs = Nat.gcd t.natAbs u.natAbs * Nat.gcd T.natAbs U.natAbs := by
      have q : ∀ g a b : Nat, t.natAbs = g * a → u.natAbs = g * b → Nat.gcd t.natAbs u.natAbs = g * Nat.gcd a b := fun g a b h1 h2 => by rw [h1, h2, Nat.gcd_mul_left]
      exact q _ _ _ e1 e2
    have := Nat.eq_of_mul_eq_mul_left g0 (e3.symm.trans (Nat.mul_one _).symm)
    exact this
theorem low_uniq {t u T U : Int} (h : u ≠ 0) (hU : 0 < U) (hg : Nat.gcd T.natAbs U.natAbs = 1) (e : t * U = T * u) : t.fdiv (lwP t u) = T ∧ u.fdiv (lwP t u) = U := by
  obtain ⟨P, T', U', hP, ht, hu, e1, e2, e3, hU', hg'⟩ := low_is (t := t) h
  rw [e1, e2, e3]
  have k : T' * U = T * U' := by
    have : P * (T' * U) = P * (T * U') := by rw [ht, hu] at e; grind
    exact Int.eq_of_mul_eq_mul_left hP this
  have n : T'.natAbs * U.natAbs = T.natAbs * U'.natAbs := by
    have := congrArg Int.natAbs k
    rw [Int.natAbs_mul, Int.natAbs_mul] at this
    exact this
  have d1 : U'.natAbs ∣ U.natAbs := by
    have : U'.natAbs ∣ T'.natAbs * U.natAbs := ⟨T.natAbs, by rw [n, Nat.mul_comm]⟩
    exact (Nat.Coprime.dvd_of_dvd_mul_left (show Nat.Coprime U'.natAbs T'.natAbs by rw [Nat.Coprime, Nat.gcd_comm]; exact hg') this)
  have d2 : U.natAbs ∣ U'.natAbs := by
    have : U.natAbs ∣ T.natAbs * U'.natAbs := ⟨T'.natAbs, by rw [← n, Nat.mul_comm]⟩
    exact (Nat.Coprime.dvd_of_dvd_mul_left (show Nat.Coprime U.natAbs T.natAbs by rw [Nat.Coprime, Nat.gcd_comm]; exact hg) this)
  have d3 := Nat.dvd_antisymm d1 d2
  have d4 : U' = U := by omega
  refine ⟨?_, d4⟩
  rw [d4] at k
  exact Int.eq_of_mul_eq_mul_right (by omega) k
theorem any_at {L : List Pv} {v : Int} {h : Hh} (h0 : 0 ≤ v) (h1 : v < L.length) : ∃ p ∈ L, oIdx (.pv (.lst L)) (I v) h = .ok (.pv p) h := by
  have hv : v.toNat < L.length := by omega
  refine ⟨L[v.toNat], List.getElem_mem hv, ?_⟩
  rw [ev_idx_lst]
  have : atI (L.map Va.pv) v = some (.pv L[v.toNat]) := by
    unfold atI ixN
    rw [if_pos h0, if_pos (by rw [List.length_map]; exact h1)]
    show (L.map Va.pv)[v.toNat]? = _
    rw [List.getElem?_map, List.getElem?_eq_getElem hv]; rfl
  rw [this]
theorem ev_eqR {n : Bool} {a b c d : Int} {h : Hh} : oEqN n (.pv (rat a b)) (.pv (rat c d)) h = .ok (.pv (.bl (if n then !(decide (a = c) && decide (b = d)) else (decide (a = c) && decide (b = d))))) h := by
  have e : oEqN n (.pv (rat a b)) (.pv (rat c d)) h = .ok (.pv (.bl (if n then !((a == c) && ((b == d) && true)) else ((a == c) && ((b == d) && true))))) h := by cases n <;> rfl
  rw [e]
  have q : ∀ x y : Int, (x == y) = decide (x = y) := fun x y => by
    by_cases z : x = y <;> simp [z]
  rw [q, q, Bool.and_true]
theorem rep_i {i : Int} {h : Hh} (hs : showOk (.int i) = true) : bRepr [.pv (.int i)] h = .ok (.pv (.str (PyData.shown (.int i)))) h := ev_repr rfl hs
theorem rep_r {t u : Int} {h : Hh} (hs : showOk (.tuple [.int t, .int u]) = true) : bRepr [.pv (rat t u)] h = .ok (.pv (.str (PyData.shown (.tuple [.int t, .int u])))) h := ev_repr rfl hs
theorem rep_b {b : Bool} {h : Hh} : bRepr [.pv (.bl b)] h = .ok (.pv (.str (PyData.shown (.bool b)))) h := ev_repr rfl (by cases b <;> decide +kernel)
theorem p_gcd (a b : Nat) : pcall F_q_gcd [.int a, .int b] = .ok (.int (Nat.gcd a b : Nat)) := by
  refine pcall_of (h' := []) ?_
  unfold F_q_gcd fnOfB b_q_gcd startS
  simp [gcdW_ev]
@[simp] theorem len_tup {ps : List Pv} {h : Hh} : bLen [.pv (.tup ps)] h = .ok (I ps.length) h := by
  show Res.ok (I ((ps.map Va.pv).length : Nat)) h = _
  rw [List.length_map]
@[simp] theorem len_lst {ps : List Pv} {h : Hh} : bLen [.pv (.lst ps)] h = .ok (I ps.length) h := by
  show Res.ok (I ((ps.map Va.pv).length : Nat)) h = _
  rw [List.length_map]
/-! ### rounding -/
theorem fdm {t S q r : Int} (h : 0 < S) (e : t = S * q + r) (r0 : 0 ≤ r) (r1 : r < S) : t.fdiv S = q ∧ t.fmod S = r := by
  have e1 := Int.mul_fdiv_add_fmod t S
  obtain ⟨a, b⟩ := fmod_in (a := t) h
  have d : S * (t.fdiv S - q) = r - t.fmod S := by rw [Int.mul_sub]; omega
  have z : t.fdiv S - q = 0 := by
    rcases Int.lt_trichotomy (t.fdiv S - q) 0 with x | x | x
    · have : S * (t.fdiv S - q) ≤ S * (-1) := Int.mul_le_mul_of_nonneg_left (by omega) (by omega)
      omega
    · exact x
    · have : S * 1 ≤ S * (t.fdiv S - q) := Int.mul_le_mul_of_nonneg_left (by omega) (by omega)
      omega
  rw [z, Int.mul_zero] at d
  omega
theorem fm2 (x : Int) : x.fmod 2 = x % 2 := Int.fmod_eq_emod_of_nonneg _ (by decide)
theorem mc_at {t S q r : Int} {w : Str} (h : 0 < S) (e : t = S * q + r) (r0 : 0 ≤ r) (r1 : r < S) : mc t S w =
    if r = 0 ∨ w = ("down" : Str) then q else if w = ("up" : Str) then q + 1 else if 2 * r ≠ S then q + (if 2 * r > S then 1 else 0) else if w = ("even" : Str) then q + q % 2 else q + (if w = ("upper" : Str) then 1 else 0) := by
  obtain ⟨a, b⟩ := fdm h e r0 r1
  unfold mc
  rw [a, b, fm2]
theorem qr {t S : Int} (h : 0 < S) : ∃ q r, t = S * q + r ∧ 0 ≤ r ∧ r < S := ⟨t.fdiv S, t.fmod S, (Int.mul_fdiv_add_fmod t S).symm, (fmod_in h).1, (fmod_in h).2⟩
theorem mc_shift {t S k : Int} {w : Str} (h : 0 < S) (hk : w = ("even" : Str) → 2 * t.fmod S = S → k % 2 = 0) : mc (t + k * S) S w = mc t S w + k := by
  obtain ⟨q, r, e, r0, r1⟩ := qr (t := t) h
  have e2 : t + k * S = S * (q + k) + r := by rw [Int.mul_add, e, Int.mul_comm S k]; omega
  rw [(fdm h e r0 r1).2] at hk
  rw [mc_at h e r0 r1, mc_at h e2 r0 r1]
  split
  · omega
  · split
    · omega
    · split
      · omega
      · split
        · rename_i z1 z2
          have := hk z2 (by omega)
          omega
        · omega
theorem mc_scale {t S P : Int} {w : Str} (h : 0 < S) (hP : 0 < P) : mc (P * t) (P * S) w = mc t S w := by
  obtain ⟨q, r, e, r0, r1⟩ := qr (t := t) h
  have hPS : 0 < P * S := Int.mul_pos hP h
  have e2 : P * t = (P * S) * q + P * r := by rw [e, Int.mul_add, Int.mul_assoc]
  have p0 : 0 ≤ P * r := Int.mul_nonneg (by omega) r0
  have p1 : P * r < P * S := Int.mul_lt_mul_of_pos_left r1 hP
  rw [mc_at h e r0 r1, mc_at hPS e2 p0 p1]
  have c1 : P * r = 0 ↔ r = 0 := ⟨fun z => by
    rcases Int.mul_eq_zero.mp z with z | z
    · omega
    · exact z, fun z => by rw [z, Int.mul_zero]⟩
  have c2 : 2 * (P * r) = P * S ↔ 2 * r = S := ⟨fun z => Int.eq_of_mul_eq_mul_left (a := P) (by omega) (by rw [← z]; grind), fun z => by rw [← z]; grind⟩
  have c3 : 2 * (P * r) > P * S ↔ 2 * r > S := ⟨fun z => by
    by_cases y : 2 * r > S
    · exact y
    · exfalso
      have : P * (2 * r) ≤ P * S := Int.mul_le_mul_of_nonneg_left (by omega) (by omega)
      have : P * (2 * r) = 2 * (P * r) := by grind
      omega, fun z => by
    have : P * S < P * (2 * r) := Int.mul_lt_mul_of_pos_left z hP
    have : P * (2 * r) = 2 * (P * r) := by grind
    omega⟩
  simp only [c1, c2, c3, ne_eq]
theorem mc_mono1 {a b S : Int} {w : Str} (h : 0 < S) (hab : a ≤ b) : mc a S w ≤ mc b S w := by
  obtain ⟨q, r, e, r0, r1⟩ := qr (t := a) h
  obtain ⟨q', r', e', r0', r1'⟩ := qr (t := b) h
  have n1 := mc_near (t := a) (w := w) h
  have n2 := mc_near (t := b) (w := w) h
  rw [(fdm h e r0 r1).1] at n1
  rw [(fdm h e' r0' r1').1] at n2
  rcases Int.lt_trichotomy q q' with z | z | z
  · omega
  · subst z
    rw [mc_at h e r0 r1, mc_at h e' r0' r1']
    have hr : r ≤ r' := by omega
    have g : q % 2 = 0 ∨ q % 2 = 1 := by omega
    by_cases c0 : w = ("down" : Str)
    · simp [c0]
    · by_cases c1 : w = ("up" : Str)
      · simp only [c1, w1, or_false, if_true]
        split <;> split <;> omega
      · simp only [c0, c1, or_false, if_false]
        split
        · split
          · omega
          · split
            · split <;> omega
            · split
              · omega
              · split <;> omega
        · rw [if_neg (show ¬ r' = 0 by omega)]
          split
          · split
            · split
              · split <;> omega
              · omega
            · split
              · split <;> omega
              · split
                · omega
                · split <;> omega
          · split
            · split
              · split <;> omega
              · omega
            · omega
  · exfalso
    have : S * (q' + 1) ≤ S * q := Int.mul_le_mul_of_nonneg_left (by omega) (by omega)
    rw [Int.mul_add] at this
    omega
theorem mc_mono {t1 S1 t2 S2 : Int} {w : Str} (h1 : 0 < S1) (h2 : 0 < S2) (h : t1 * S2 ≤ t2 * S1) : mc t1 S1 w ≤ mc t2 S2 w := by
  rw [← mc_scale (P := S2) h1 h2, ← mc_scale (t := t2) (P := S1) h2 h1, Int.mul_comm S2 S1]
  exact mc_mono1 (Int.mul_pos h1 h2) (by rw [Int.mul_comm S2 t1, Int.mul_comm S1 t2]; exact h)
end R
set_option exponentiation.threshold 10000
namespace R
open PySem PySem.Spec PyProof.Rows L2 CI
@[simp] theorem ap_is_name (x : Va) : a_is_name 1 [] [x] [] = [x] := by rfl
@[simp] theorem ap_is_whole (x : Va) : a_is_whole 1 [] [x] [] = [x] := by rfl
@[simp] theorem ap_is_ratio (x : Va) : a_is_ratio 1 [] [x] [] = [x] := by rfl
@[simp] theorem ap_is_share (x : Va) : a_is_share 1 [] [x] [] = [x] := by rfl
@[simp] theorem ap_cm (x : Va) : a_common_multiple 1 [] [x] [] = [x] := by rfl
@[simp] theorem ap_are_shares (x y : Va) : a_are_shares 2 [] [x, y] [] = [x, y] := by rfl
@[simp] theorem ap_init (x y z c r w : Va) : a_House___init__ 3 [("coin" : Str), ("rule" : Str), ("way" : Str)] [x, y, z] [c, r, w] = [x, y, z, c, r, w] := by rfl
@[simp] theorem ap_made (x : Va) : a_q_made 1 [] [x] [] = [x] := by rfl
@[simp] theorem ap_whole (x : Va) : a_q_whole 1 [] [x] [] = [x] := by rfl
@[simp] theorem ap_hwhole (x : Va) : a_House_whole 1 [] [x] [] = [x] := by rfl
@[simp] theorem ap_hsizes (x : Va) : a_House_sizes 1 [] [x] [] = [x] := by rfl
@[simp] theorem ap_hfirst (x : Va) : a_House_first 1 [] [x] [] = [x] := by rfl
@[simp] theorem ap_hrests (x y : Va) : a_House_are_rests 2 [] [x, y] [] = [x, y] := by rfl
@[simp] theorem ap_pass (x y z : Va) : a_House_pass_on 3 [] [x, y, z] [] = [x, y, z] := by rfl
@[simp] theorem ap_passk (x y z : Va) : a_House_pass_on 1 [("rests" : Str), ("total" : Str)] [x] [z, y] = [x, y, z] := by rfl
@[simp] theorem ap_byturn (x y z : Va) : a_by_turn 3 [] [x, y, z] [] = [x, y, z] := by rfl
@[simp] theorem ap_bydrop (x y z : Va) : a_by_drop 3 [] [x, y, z] [] = [x, y, z] := by rfl
@[simp] theorem ap_near (x y z w : Va) : a_q_near 4 [] [x, y, z, w] [] = [x, y, z, w] := by rfl
@[simp] theorem ap_passed (x y z : Va) : a_q_passed 3 [] [x, y, z] [] = [x, y, z] := by rfl
@[simp] theorem ap_shares (x y : Va) : a_q_shares 2 [] [x, y] [] = [x, y] := by rfl
@[simp] theorem ap_house (x y z : Va) : a_q_house 3 [] [x, y, z] [] = [x, y, z] := by rfl
@[simp] theorem ap_total (x : Va) : a_q_total 1 [] [x] [] = [x] := by rfl
@[simp] theorem ap_first (x : Va) : a_q_first 1 [] [x] [] = [x] := by rfl
@[simp] theorem ap_qsizes (x : Va) : a_q_sizes 1 [] [x] [] = [x] := by rfl
@[simp] theorem ap_qrests (x y : Va) : a_q_rests 2 [] [x, y] [] = [x, y] := by rfl
/-! ### names -/
theorem n_ann : pcall F_is_name [.str ("ann" : Str)] = .ok (.bl true) := by kernel_rfl
theorem n_bob : pcall F_is_name [.str ("bob" : Str)] = .ok (.bl true) := by kernel_rfl
theorem n_cy : pcall F_is_name [.str ("cy" : Str)] = .ok (.bl true) := by kernel_rfl
theorem n_d : pcall F_is_name [.str ("d" : Str)] = .ok (.bl true) := by kernel_rfl
theorem n_zz : pcall F_is_name [.str ("zz" : Str)] = .ok (.bl true) := by kernel_rfl
def four : List Str := [("bob" : Str), ("cy" : Str), ("d" : Str), ("zz" : Str)]
theorem n_four {x : Str} (h : x ∈ four) : pcall F_is_name [.str x] = .ok (.bl true) := by
  simp only [four, List.mem_cons, List.mem_nil_iff, or_false] at h
  rcases h with rfl | rfl | rfl | rfl
  · exact n_bob
  · exact n_cy
  · exact n_d
  · exact n_zz
/-! ### whole numbers, ratios -/
@[simp] theorem is_int {i : Int} {T : String} {h : Hh} : bIsi [I i, .pv (.ty T)] h = match isiTab "int" T with | some b => .ok (.pv (.bl b)) h | none => .stuck := rfl
@[simp] theorem is_str {i : Str} {T : String} {h : Hh} : bIsi [.pv (.str i), .pv (.ty T)] h = match isiTab "str" T with | some b => .ok (.pv (.bl b)) h | none => .stuck := rfl
@[simp] theorem is_tup {i : List Pv} {T : String} {h : Hh} : bIsi [.pv (.tup i), .pv (.ty T)] h = match isiTab "tuple" T with | some b => .ok (.pv (.bl b)) h | none => .stuck := rfl
@[simp] theorem is_lst {i : List Pv} {T : String} {h : Hh} : bIsi [.pv (.lst i), .pv (.ty T)] h = match isiTab "list" T with | some b => .ok (.pv (.bl b)) h | none => .stuck := rfl
@[simp] theorem is_non {T : String} {h : Hh} : bIsi [.pv .non, .pv (.ty T)] h = match isiTab "NoneType" T with | some b => .ok (.pv (.bl b)) h | none => .stuck := rfl
@[simp] theorem is_bl {b : Bool} {T : String} {h : Hh} : bIsi [.pv (.bl b), .pv (.ty T)] h = match isiTab "bool" T with | some b => .ok (.pv (.bl b)) h | none => .stuck := rfl
theorem p_whole_i (i : Int) : pcall F_is_whole [.int i] = .ok (.bl true) := by
  refine pcall_of (h' := []) ?_
  rfl
theorem p_whole_n : pcall F_is_whole [.non] = .ok (.bl false) := by
  refine pcall_of (h' := []) ?_
  rfl
theorem p_ratio {t u : Int} (h : 0 < u) (g : Nat.gcd t.natAbs u.natAbs = 1) : pcall F_is_ratio [.tup [.int t, .int u]] = .ok (.bl true) := by
  refine pcall_of (h' := []) ?_
  have e := p_common t.natAbs u.natAbs
  rw [show ((u.natAbs : Nat) : Int) = u by omega, g] at e
  unfold F_is_ratio fnOfB b_is_ratio startS
  simp [ev_callP, p_whole_i, compL, isiTab, bAll, blsOf, h, e]
end R
set_option exponentiation.threshold 10000
namespace R
open PySem PySem.Spec PyProof.Rows L2 CI
/-- a share: to whom, a ratio -/
structure Sh where
  to : Str
  t : Int
  u : Int
def shP (x : Sh) : Pv := .tup [.str x.to, .int x.t, .int x.u]
/-! ### comprehensions over any list -/
theorem comp_map {α : Type} {t : Tg} {d : Dn} {s : Sl} {h : Hh} (g : α → Va) (f : α → Pv) : ∀ (xs : List α) (acc : List Pv), (∀ x ∈ xs, ∃ s1, t.put (g x) s h = some s1 ∧ d s1 h = .ok (.pv (f x)) h) →
    compL t tYesD d s (xs.map g) acc h = .ok (.pv (.lst (acc ++ xs.map f))) h
  | [], acc, _ => by simp [compL]
  | x :: xs, acc, k => by
    obtain ⟨s1, e1, e2⟩ := k x (List.mem_cons_self ..)
    rw [List.map_cons, compL]
    simp only [e1, ev_yes, e2, ev_give]
    rw [comp_map g f xs (acc ++ [f x]) fun y hy => k y (List.mem_cons_of_mem _ hy)]
    simp
/-! ### the least common multiple -/
def lcmF (f u : Int) : Int := (f * u).fdiv ((Nat.gcd f.natAbs u.natAbs : Nat) : Int)
def whL (us : List Int) : Int := us.foldl lcmF 1
theorem lcmF_is {f u : Int} (hf : 0 < f) (hu : 0 < u) : lcmF f u = ((Nat.lcm f.natAbs u.natAbs : Nat) : Int) := by
  unfold lcmF
  have e : f * u = ((f.natAbs * u.natAbs : Nat) : Int) := by
    rw [Int.natCast_mul]
    have a : ((f.natAbs : Nat) : Int) = f := by omega
    have b : ((u.natAbs : Nat) : Int) = u := by omega
    rw [a, b]
  rw [e, fdiv_nat]
  rfl
theorem lcmF_ok {f u : Int} (hf : 0 < f) (hu : 0 < u) : 0 < lcmF f u ∧ f ∣ lcmF f u ∧ u ∣ lcmF f u ∧ lcmF f u ≤ f * u := by
  rw [lcmF_is hf hu]
  have p : 0 < Nat.lcm f.natAbs u.natAbs := Nat.lcm_pos (by omega) (by omega)
  have a : ((f.natAbs : Nat) : Int) = f := by omega
  have b : ((u.natAbs : Nat) : Int) = u := by omega
  refine ⟨by omega, ?_, ?_, ?_⟩
  · conv => lhs; rw [← a]
    exact Int.natCast_dvd_natCast.mpr (Nat.dvd_lcm_left ..)
  · conv => lhs; rw [← b]
    exact Int.natCast_dvd_natCast.mpr (Nat.dvd_lcm_right ..)
  · have q : Nat.lcm f.natAbs u.natAbs ≤ f.natAbs * u.natAbs := Nat.le_of_dvd (Nat.mul_pos (by omega) (by omega)) (Nat.lcm_dvd (Nat.dvd_mul_right ..) (Nat.dvd_mul_left ..))
    have q2 : ((Nat.lcm f.natAbs u.natAbs : Nat) : Int) ≤ ((f.natAbs * u.natAbs : Nat) : Int) := by omega
    rw [Int.natCast_mul, a, b] at q2
    exact q2
theorem fold_ok : ∀ (us : List Int) (f : Int), 0 < f → (∀ u ∈ us, 1 ≤ u ∧ u ≤ 12) → 0 < us.foldl lcmF f ∧ f ∣ us.foldl lcmF f ∧ (∀ u ∈ us, u ∣ us.foldl lcmF f) ∧ us.foldl lcmF f ≤ f * 12 ^ us.length
  | [], f, hf, _ => ⟨hf, Int.dvd_refl _, (fun _ h => (nomatch h)), (by simp)⟩
  | u :: us, f, hf, hu => by
    have h1 := hu u (List.mem_cons_self ..)
    obtain ⟨a, b, c, d⟩ := lcmF_ok hf (show 0 < u by omega)
    obtain ⟨p, q, r, z⟩ := fold_ok us (lcmF f u) a fun y hy => hu y (List.mem_cons_of_mem _ hy)
    refine ⟨p, Int.dvd_trans b q, fun y hy => ?_, ?_⟩
    · rcases List.mem_cons.mp hy with e | hy
      · rw [e]; exact Int.dvd_trans c q
      · exact r y hy
    · show us.foldl lcmF (lcmF f u) ≤ _
      rw [List.length_cons, Int.pow_succ]
      have k : lcmF f u ≤ f * 12 := Int.le_trans d (Int.mul_le_mul_of_nonneg_left h1.2 (by omega))
      have k2 : lcmF f u * 12 ^ us.length ≤ f * 12 * 12 ^ us.length := Int.mul_le_mul_of_nonneg_right k (Int.le_of_lt (Int.pow_pos (by decide)))
      have e : f * (12 ^ us.length * 12) = f * 12 * 12 ^ us.length := by grind
      rw [e]; omega
/-- what is so of the shares of a house -/
structure ShOk (l : List Sh) : Prop where
  n0 : l ≠ []
  n4 : l.length ≤ 4
  nm : ∀ x ∈ l, x.to ∈ four
  nd : (l.map (·.to)).Nodup
  t1 : ∀ x ∈ l, 1 ≤ x.t ∧ x.t ≤ 12
  u1 : ∀ x ∈ l, 1 ≤ x.u ∧ x.u ≤ 12
  g1 : ∀ x ∈ l, Nat.gcd x.t.natAbs x.u.natAbs = 1
  sm : (l.map fun x => x.t * (whL (l.map (·.u))).fdiv x.u).sum ≤ whL (l.map (·.u))
abbrev wh (l : List Sh) : Int := whL (l.map (·.u))
theorem ShOk.wh {l : List Sh} (S : ShOk l) : 0 < wh l ∧ (∀ x ∈ l, x.u ∣ R.wh l) ∧ R.wh l ≤ 20736 := by
  obtain ⟨a, _, c, d⟩ := fold_ok (l.map (·.u)) 1 (by decide) fun u hu => by
    obtain ⟨x, hx, e⟩ := List.mem_map.mp hu
    rw [← e]; exact S.u1 x hx
  refine ⟨a, fun x hx => c _ (List.mem_map_of_mem hx), Int.le_trans d ?_⟩
  rw [List.length_map, Int.one_mul]
  have : l.length = 0 ∨ l.length = 1 ∨ l.length = 2 ∨ l.length = 3 ∨ l.length = 4 := by have := S.n4; omega
  rcases this with e | e | e | e | e <;> rw [e] <;> decide
noncomputable abbrev cmB : Sn := sAsg (gNm 1) (dBin oDiv (dBin oMul (dVar 1) (dVar 2)) (dCallP R.F_common 2 0 (R.a_common 2 []) (daCons (dVar 1) (daCons (dVar 2) daNil)) daNil))
theorem cm_step {f u : Int} (hf : 0 < f) (hu : 1 ≤ u ∧ u ≤ 12) : pcall F_common [.int f, .int u] = .ok (.int ((Nat.gcd f.natAbs u.natAbs : Nat) : Int)) ∧ pcall F_q_gcd [.int f, .int u] = .ok (.int ((Nat.gcd f.natAbs u.natAbs : Nat) : Int)) ∧ divOk ((Nat.gcd f.natAbs u.natAbs : Nat) : Int) = true ∧ mulOk f u = true := by
  have a : ((f.natAbs : Nat) : Int) = f := by omega
  have b : ((u.natAbs : Nat) : Int) = u := by omega
  have e := p_common f.natAbs u.natAbs
  have e2 := p_gcd f.natAbs u.natAbs
  rw [a, b] at e e2
  have g0 : 0 < Nat.gcd f.natAbs u.natAbs := Nat.gcd_pos_of_pos_right _ (by omega)
  have g1 : Nat.gcd f.natAbs u.natAbs ≤ u.natAbs := Nat.gcd_le_right _ (by omega)
  exact ⟨e, e2, divOk_of (by omega) (Nat.lt_trans (show (((Nat.gcd f.natAbs u.natAbs : Nat) : Int)).natAbs < 2 ^ 5 by omega) (by decide +kernel)), mulOk_r (by omega)⟩
theorem cm_loop {a : Option Va} {h : Hh} : ∀ (us : List Int) (f : Int) (x : Option Va), 0 < f → (∀ u ∈ us, 1 ≤ u ∧ u ≤ 12) → ∃ y, forL (gNm 2) cmB (us.map I) [a, some (I f), x] h = .nx [a, some (I (us.foldl lcmF f)), y] h
  | [], f, x, _, _ => ⟨x, rfl⟩
  | u :: us, f, x, hf, hu => by
    have h1 := hu u (List.mem_cons_self ..)
    obtain ⟨e1, _, e3, e4⟩ := cm_step hf h1
    obtain ⟨y, e⟩ := cm_loop (a := a) (h := h) us (lcmF f u) (some (I u)) (lcmF_ok hf (by omega)).1 fun y hy => hu y (List.mem_cons_of_mem _ hy)
    refine ⟨y, ?_⟩
    rw [List.map_cons, ev_forL_cons]
    simp only [ev_gNm]
    have : cmB (List.set [a, some (I f), x] 2 (some (I u))) h = .nx [a, some (I (lcmF f u)), some (I u)] h := by
      simp [cmB, ev_callP, e1, e3, e4, lcmF]
    rw [this, ev_turn_nx]
    exact e
theorem p_cm {us : List Int} (hu : ∀ u ∈ us, 1 ≤ u ∧ u ≤ 12) : pcall F_common_multiple [.lst (us.map .int)] = .ok (.int (whL us)) := by
  refine pcall_of (h' := []) ?_
  obtain ⟨y, e⟩ := cm_loop (a := some (.pv (.lst (us.map .int)))) (h := []) us 1 none (by decide) hu
  unfold cmB at e
  unfold F_common_multiple fnOfB b_common_multiple startS
  have m : (us.map Pv.int).map Va.pv = us.map I := by rw [List.map_map]; rfl
  simp [-ev_forL_cons, -List.map_map, m, e, whL]
noncomputable abbrev qwB : Sn := sAsg (gNm 1) (dBin oDiv (dBin oMul (dVar 1) (dVar 4)) (dCallP R.F_q_gcd 2 0 (R.a_q_gcd 2 []) (daCons (dVar 1) (daCons (dVar 4) daNil)) daNil))
noncomputable abbrev tg3 (i j k : Nat) : Tg := gTu 3 (gsCons (gNm i) (gsCons (gNm j) (gsCons (gNm k) gsNil)))
theorem qw_loop {a : Option Va} {h : Hh} : ∀ (l : List Sh) (f : Int) (x y z : Option Va), 0 < f → (∀ x ∈ l, 1 ≤ x.u ∧ x.u ≤ 12) → ∃ x' y' z', forL (tg3 2 3 4) qwB (l.map fun x => .pv (shP x)) [a, some (I f), x, y, z] h = .nx [a, some (I ((l.map (·.u)).foldl lcmF f)), x', y', z'] h
  | [], f, x, y, z, _, _ => ⟨x, y, z, rfl⟩
  | w :: l, f, x, y, z, hf, hu => by
    have h1 := hu w (List.mem_cons_self ..)
    obtain ⟨_, e1, e3, e4⟩ := cm_step hf h1
    obtain ⟨x', y', z', e⟩ := qw_loop (a := a) (h := h) l (lcmF f w.u) (some (.pv (.str w.to))) (some (I w.t)) (some (I w.u)) (lcmF_ok hf (by omega)).1 fun y hy => hu y (List.mem_cons_of_mem _ hy)
    refine ⟨x', y', z', ?_⟩
    rw [List.map_cons, ev_forL_cons]
    have : (tg3 2 3 4).put (.pv (shP w)) [a, some (I f), x, y, z] h = some [a, some (I f), some (.pv (.str w.to)), some (I w.t), some (I w.u)] := rfl
    rw [this]
    dsimp only
    have : qwB [a, some (I f), some (.pv (.str w.to)), some (I w.t), some (I w.u)] h = .nx [a, some (I (lcmF f w.u)), some (.pv (.str w.to)), some (I w.t), some (I w.u)] h := by
      simp [qwB, ev_callP, e1, e3, e4, lcmF]
    rw [this, ev_turn_nx]
    exact e
theorem p_qwhole {l : List Sh} (hu : ∀ x ∈ l, 1 ≤ x.u ∧ x.u ≤ 12) : pcall F_q_whole [.tup (l.map shP)] = .ok (.int (wh l)) := by
  refine pcall_of (h' := []) ?_
  obtain ⟨x', y', z', e⟩ := qw_loop (a := some (.pv (.tup (l.map shP)))) (h := []) l 1 none none none (by decide) hu
  unfold qwB tg3 at e
  unfold F_q_whole fnOfB b_q_whole startS
  have m : (l.map shP).map Va.pv = l.map fun x => .pv (shP x) := by rw [List.map_map]; rfl
  simp [-ev_forL_cons, -List.map_map, m, e, whL]
end R
set_option exponentiation.threshold 10000
namespace R
open PySem PySem.Spec PyProof.Rows L2 CI
@[simp] theorem hs_len {α : Type} {f : α → Pv} {l : List α} {h : Hh} : bLen [.pv (.tup (l.map f))] h = .ok (I l.length) h := by rw [len_tup, List.length_map]
@[simp] theorem hs_lenl {α : Type} {f : α → Pv} {l : List α} {h : Hh} : bLen [.pv (.lst (l.map f))] h = .ok (I l.length) h := by rw [len_lst, List.length_map]
theorem p_share {x : Sh} (hn : x.to ∈ four) (ht : 1 ≤ x.t ∧ x.t ≤ 12) (hu : 1 ≤ x.u ∧ x.u ≤ 12) (g : Nat.gcd x.t.natAbs x.u.natAbs = 1) : pcall F_is_share [shP x] = .ok (.bl true) := by
  refine pcall_of (h' := []) ?_
  have e1 := n_four hn
  have e2 := p_ratio (t := x.t) (u := x.u) (by omega) g
  have a1 : 0 < x.t := by omega
  have a2 := hu.2
  unfold F_is_share fnOfB b_is_share startS shP
  simp [ev_callP, isiTab, sHT, e1, e2, bTuple, a1, a2]
theorem bls_true {α : Type} {l : List α} : blsOf ((l.map fun _ => Pv.bl true).map Va.pv) = some (l.map fun _ => true) := by
  induction l with
  | nil => rfl
  | cons a l ih => show (blsOf ((l.map fun _ => Pv.bl true).map Va.pv)).map (true :: ·) = _; rw [ih]; rfl
theorem all_true {α : Type} {l : List α} {h : Hh} : bAll [.pv (.lst (l.map fun _ => Pv.bl true))] h = .ok (.pv (.bl true)) h := by
  show (match blsOf ((l.map fun _ => Pv.bl true).map Va.pv) with | some bs => Res.ok (Va.pv (.bl (bs.all id))) h | none => Res.stuck) = _
  rw [bls_true]
  have : (l.map fun _ => true).all id = true := by simp
  simp
theorem strs_map {l : List Str} : strsOf ((l.map Pv.str).map Va.pv) = some l := by
  induction l with
  | nil => rfl
  | cons a l ih => show (strsOf ((l.map Pv.str).map Va.pv)).map (a :: ·) = _; rw [ih]; rfl
theorem dcnt_nodup : ∀ (l pre : List Str), l.Nodup → (∀ x ∈ l, x ∉ pre) → dcnt pre l = l.length
  | [], _, _, _ => rfl
  | k :: r, pre, h, hp => by
    rw [List.nodup_cons] at h
    rw [dcnt, if_neg (hp k (List.mem_cons_self ..)), dcnt_nodup r (pre ++ [k]) h.2 fun x hx hm => ?_, List.length_cons]
    · omega
    · rcases List.mem_append.mp hm with m | m
      · exact hp x (List.mem_cons_of_mem _ hx) m
      · rw [List.mem_singleton.mp m] at hx; exact h.1 hx
theorem fl_strs {l : List Str} : flAs ((l.map Pv.str).map Va.pv) = some (l.map V.str) := by
  induction l with
  | nil => rfl
  | cons a l ih =>
    show (match flA (Va.pv (.str a)), flAs ((l.map Pv.str).map Va.pv) with | some v, some vs => some (v :: vs) | _, _ => none) = _
    rw [ih]; rfl
theorem inV_strs {k : Str} {l : List Str} : inV (.str k) (l.map V.str) = decide (k ∈ l) := by
  unfold inV
  rw [List.any_map]
  induction l with
  | nil => rfl
  | cons a l ih =>
    rw [List.any_cons, ih]
    have e : eqV (V.str a) (V.str k) = decide (a = k) := by
      show (a == k) = _
      by_cases z : a = k <;> simp [z]
    show (eqV (V.str a) (V.str k) || decide (k ∈ l)) = _
    rw [e]
    by_cases z : a = k
    · subst z; simp
    · have z2 : ¬ k = a := fun y => z y.symm
      simp [z, z2]
theorem comp_sh {i j k : Nat} {d : Dn} {s : Sl} {h : Hh} {l : List Sh} {acc : List Pv} (f : Sh → Pv) (hd : ∀ x ∈ l, d (((s.set i (some (.pv (.str x.to)))).set j (some (I x.t))).set k (some (I x.u))) h = .ok (.pv (f x)) h) :
    compL (gTu 3 (gsCons (gNm i) (gsCons (gNm j) (gsCons (gNm k) gsNil)))) tYesD d s ((l.map shP).map Va.pv) acc h = .ok (.pv (.lst (acc ++ l.map f))) h := by
  rw [List.map_map]
  exact comp_map (Va.pv ∘ shP) f l acc fun x hx => ⟨_, rfl, hd x hx⟩
theorem len6 {α : Type} {l : List α} (h : l.length ≤ 4) : l.length ≤ 1000000 := by omega
theorem len16 {α : Type} {l : List α} (h : l.length ≤ 4) : l.length ≤ 16777216 := by omega
theorem divOk_u {x : Int} (h : 1 ≤ x ∧ x ≤ 12) : divOk x = true := divOk_of (by omega) (Nat.lt_trans (show x.natAbs < 2 ^ 5 by omega) (by decide +kernel))
theorem p_are {l : List Sh} (S : ShOk l) : pcall F_are_shares [.tup (l.map shP), .str ("ann" : Str)] = .ok (.bl true) := by
  refine pcall_of (h' := []) ?_
  have n4 := S.n4
  have n1 : 1 ≤ (l.length : Int) := by
    have := S.n0
    cases l with
    | nil => exact absurd rfl this
    | cons _ _ => rw [List.length_cons]; omega
  have n5 : (l.length : Int) ≤ 4 := by omega
  have n6 := len6 n4
  have c1 : ∀ (x0 x1 x2 x3 x4 x5 x6 x7 : Option Va), compL (gNm 7) tYesD (dCallP F_is_share 1 0 (a_is_share 1 []) (daCons (dVar 7) daNil) daNil) [x0, x1, x2, x3, x4, x5, x6, x7] ((l.map shP).map Va.pv) [] [] = .ok (.pv (.lst (l.map fun _ => .bl true))) [] := fun x0 x1 x2 x3 x4 x5 x6 x7 => by
    rw [List.map_map]
    exact comp_map (Va.pv ∘ shP) (fun _ => .bl true) l [] fun x hx => ⟨_, rfl, by simp [ev_callP, p_share (S.nm x hx) (S.t1 x hx) (S.u1 x hx) (S.g1 x hx)]⟩
  have c2 : ∀ (x0 x1 x2 x3 x4 x5 x6 x7 : Option Va), compL (gTu 3 (gsCons (gNm 4) (gsCons (gNm 5) (gsCons (gNm 6) gsNil)))) tYesD (dVar 4) [x0, x1, x2, x3, x4, x5, x6, x7] ((l.map shP).map Va.pv) [] [] = .ok (.pv (.lst ((l.map (·.to)).map .str))) [] := fun x0 x1 x2 x3 x4 x5 x6 x7 => by
    rw [comp_sh (fun x => .str x.to) fun x hx => by simp, List.map_map]; rfl
  have c3 : ∀ (x0 x1 x2 x3 x4 x5 x6 x7 : Option Va), compL (gTu 3 (gsCons (gNm 4) (gsCons (gNm 5) (gsCons (gNm 6) gsNil)))) tYesD (dVar 6) [x0, x1, x2, x3, x4, x5, x6, x7] ((l.map shP).map Va.pv) [] [] = .ok (.pv (.lst ((l.map (·.u)).map .int))) [] := fun x0 x1 x2 x3 x4 x5 x6 x7 => by
    rw [comp_sh (fun x => .int x.u) fun x hx => by simp, List.map_map]; rfl
  have c4 : ∀ (x0 x1 x2 x4 x5 x6 x7 : Option Va), compL (gTu 3 (gsCons (gNm 4) (gsCons (gNm 5) (gsCons (gNm 6) gsNil)))) tYesD (dBin oMul (dVar 5) (dBin oDiv (dVar 3) (dVar 6))) [x0, x1, x2, some (I (wh l)), x4, x5, x6, x7] ((l.map shP).map Va.pv) [] [] = .ok (.pv (.lst ((l.map fun x => x.t * (wh l).fdiv x.u).map .int))) [] := fun x0 x1 x2 x4 x5 x6 x7 => by
    rw [comp_sh (fun x => .int (x.t * (wh l).fdiv x.u)) fun x hx => ?_, List.map_map]
    · rfl
    · have d := divOk_u (S.u1 x hx)
      have m : ∀ y, mulOk x.t y = true := fun y => mulOk_l (by have := S.t1 x hx; omega)
      simp [d, m]
  have nn : ¬ ("ann" : Str) ∈ l.map (·.to) := fun hm => by
    obtain ⟨x, hx, e⟩ := List.mem_map.mp hm
    have := S.nm x hx
    rw [e] at this
    revert this
    decide +kernel
  have oi : ∀ h : Hh, oIn false (.pv (.str ("ann" : Str))) (.pv (.lst ((l.map (·.to)).map .str))) h = .ok (.pv (.bl false)) h := fun h => by
    show (match flA (Va.pv (.str ("ann" : Str))), flAs (((l.map (·.to)).map Pv.str).map Va.pv) with | some v, some vs => Res.ok (Va.pv (.bl (inV v vs))) h | _, _ => Res.stuck) = _
    rw [fl_strs]
    show Res.ok (Va.pv (.bl (inV (.str ("ann" : Str)) ((l.map (·.to)).map V.str)))) h = _
    rw [inV_strs, decide_eq_false nn]
  have ls : strsOf (((l.map (·.to)).map Pv.str).map Va.pv) = some (l.map (·.to)) := strs_map
  have dc : dcnt [] (l.map (·.to)) = l.length := by rw [dcnt_nodup _ _ S.nd (fun x _ => List.not_mem_nil), List.length_map]
  have l4 : l.length ≤ 4000 := by omega
  have cm := p_cm (us := l.map (·.u)) fun u hu => by
    obtain ⟨x, hx, e⟩ := List.mem_map.mp hu
    rw [← e]; exact S.u1 x hx
  have sm : ∀ h : Hh, bSum [.pv (.lst ((l.map fun x => x.t * (wh l).fdiv x.u).map .int))] h = .ok (I ((l.map fun x => x.t * (wh l).fdiv x.u).sum)) h := fun h => by
    unfold bSum
    dsimp only
    rw [lstInts_map]
  have fin := S.sm
  unfold F_are_shares fnOfB b_are_shares startS
  simp [-List.map_map, ev_callP, isiTab, n1, n5, n6, dChn, dLenSet, c1, c2, c3, c4, all_true, oi, ls, dc, l4, cm, sm, fin]
end R
set_option exponentiation.threshold 10000
namespace R
open PySem PySem.Spec PyProof.Rows L2 CI
def five : List Str := [("down" : Str), ("up" : Str), ("upper" : Str), ("lower" : Str), ("even" : Str)]
def ways : List Str := [("drop" : Str), ("keep" : Str), ("hand" : Str), ("turn" : Str)]
theorem in_five {w : Str} (h : w ∈ five) : w = ("down" : Str) ∨ w = ("up" : Str) ∨ w = ("upper" : Str) ∨ w = ("lower" : Str) ∨ w = ("even" : Str) := by simpa [five] using h
abbrev hT (c : Int) (w y : Str) (l : List Sh) : Pv := .tup [.str ("ann" : Str), .tup (l.map shP), .int c, .str w, .str y]
abbrev hI (c : Int) (w y : Str) (l : List Sh) : Pv := .ins ("House" : Str) [(("name" : Str), .str ("ann" : Str)), (("shares" : Str), .tup (l.map shP)), (("coin" : Str), .int c), (("rule" : Str), .str w), (("way" : Str), .str y)]
theorem nin_strs {k : Str} {l : List Str} {h : Hh} (hk : k ∈ l) : oIn true (.pv (.str k)) (.pv (.tup (l.map .str))) h = .ok (.pv (.bl false)) h := by
  show (match flA (Va.pv (.str k)), flAs ((l.map Pv.str).map Va.pv) with | some v, some vs => Res.ok (Va.pv (.bl (!inV v vs))) h | _, _ => Res.stuck) = _
  rw [fl_strs]
  show Res.ok (Va.pv (.bl (!inV (.str k) (l.map V.str)))) h = _
  rw [inV_strs, decide_eq_true hk]; rfl
@[simp] theorem ev_sAttr {L : List Str} {f : Str} {dv d : Dn} {s : Sl} {h : Hh} : sAttr L f dv d s h = sBind (dv s h) fun v h1 => sBind (d s h1) fun x h2 => match x with
  | .ref r => match h2[r]? with
    | some (.ins c fs) => if c ∈ L ∧ fs.length < 1000 then .nx s (h2.set r (.ins c (putFV f v fs))) else .stuck
    | _ => .stuck
  | _ => .stuck := rfl
theorem ev_t2 {a b c : Pv} {r : List Pv} {h : Hh} : oIdx (.pv (.tup (a :: b :: c :: r))) (.pv (.int 2)) h = .ok (.pv c) h := by
  rw [ev_idx_tup]; simp only [atI, ixN, List.map_cons, List.length_cons]; rw [if_pos (by decide), if_pos (by omega)]; rfl
theorem ev_t3 {a b c d : Pv} {r : List Pv} {h : Hh} : oIdx (.pv (.tup (a :: b :: c :: d :: r))) (.pv (.int 3)) h = .ok (.pv d) h := by
  rw [ev_idx_tup]; simp only [atI, ixN, List.map_cons, List.length_cons]; rw [if_pos (by decide), if_pos (by omega)]; rfl
theorem ev_t4 {a b c d e : Pv} {r : List Pv} {h : Hh} : oIdx (.pv (.tup (a :: b :: c :: d :: e :: r))) (.pv (.int 4)) h = .ok (.pv e) h := by
  rw [ev_idx_tup]; simp only [atI, ixN, List.map_cons, List.length_cons]; rw [if_pos (by decide), if_pos (by omega)]; rfl
/-- what a house is made of -/
structure HOk (c : Int) (w y : Str) (l : List Sh) : Prop where
  s : ShOk l
  c1 : 1 ≤ c ∧ c ≤ 12
  w5 : w ∈ five
  y4 : y ∈ ways
theorem init_ev {c : Int} {w y : Str} {l : List Sh} (O : HOk c w y l) : F_House___init__ [.ref 0, .pv (.str ("ann" : Str)), .pv (.tup (l.map shP)), I c, .pv (.str w), .pv (.str y)] [.ins ("House" : Str) []] = .ok (.pv .non)
    [.ins ("House" : Str) [(("name" : Str), .pv (.str ("ann" : Str))), (("shares" : Str), .pv (.tup (l.map shP))), (("coin" : Str), I c), (("rule" : Str), .pv (.str w)), (("way" : Str), .pv (.str y))]] := by
  have e1 := n_ann
  have e2 := p_are O.s
  have e3 := p_whole_i c
  have c1 := O.c1.1
  have c2 := O.c1.2
  have i1 : ∀ h : Hh, oIn true (.pv (.str w)) (.pv (.tup [.str ("down" : Str), .str ("up" : Str), .str ("upper" : Str), .str ("lower" : Str), .str ("even" : Str)])) h = .ok (.pv (.bl false)) h := fun h => nin_strs (l := five) O.w5
  have i2 : ∀ h : Hh, oIn true (.pv (.str y)) (.pv (.tup [.str ("drop" : Str), .str ("keep" : Str), .str ("hand" : Str), .str ("turn" : Str)])) h = .ok (.pv (.bl false)) h := fun h => nin_strs (l := ways) O.y4
  unfold F_House___init__ fnOfB b_House___init__ startS
  simp [ev_callP, e1, e2, e3, dChn, c1, c2, isiTab, i1, i2]
  rfl
theorem p_made {c : Int} {w y : Str} {l : List Sh} (O : HOk c w y l) : pcall F_q_made [hT c w y l] = .ok (hI c w y l) := by
  have e := init_ev O
  unfold pcall F_q_made fnOfB b_q_made startS hT
  simp [dMake, mkIns, ev_t2, ev_t3, ev_t4, e]
  rfl
end R
set_option exponentiation.threshold 10000
namespace R
open PySem PySem.Spec PyProof.Rows L2 CI
/-! ### attributes, methods -/
def getA (L : List Str) (f : Str) (x : Va) (h : Hh) : Res Va := match fldOf h x with
  | some (c, fs) => if c ∈ L then match fs.lookup f with
    | some v => .ok v h
    | none => .stuck
    else .stuck
  | none => .stuck
@[simp] theorem ev_attr {L : List Str} {f : Str} {d : Dn} {s : Sl} {h : Hh} : dAttr L f d s h = (d s h).bind fun x h1 => getA L f x h1 := rfl
section
variable {c : Int} {w y : Str} {l : List Sh} {h : Hh}
@[simp] theorem a_shares : getA [("House" : Str)] ("shares" : Str) (.pv (hI c w y l)) h = .ok (.pv (.tup (l.map shP))) h := by rfl
@[simp] theorem a_coin : getA [("House" : Str)] ("coin" : Str) (.pv (hI c w y l)) h = .ok (I c) h := by rfl
@[simp] theorem a_rule : getA [("House" : Str)] ("rule" : Str) (.pv (hI c w y l)) h = .ok (.pv (.str w)) h := by rfl
@[simp] theorem a_way : getA [("House" : Str)] ("way" : Str) (.pv (hI c w y l)) h = .ok (.pv (.str y)) h := by rfl
/-- a method's call of a house -/
def callM (e : MtE) (x : Va) (us ws : List Va) (h : Hh) : Res Va := runM e (x :: us) ws h
theorem ev_meth {e : MtE} {m : Str} {n mk : Nat} {d : Dn} {da dk : Da} {s : Sl} {h0 : Hh} (c : Int) (w y : Str) (l : List Sh) (hd : d s h0 = .ok (.pv (hI c w y l)) h) (hm : ([(("name" : Str), Va.pv (.str ("ann" : Str))), (("shares" : Str), .pv (.tup (l.map shP))), (("coin" : Str), .pv (.int c)), (("rule" : Str), .pv (.str w)), (("way" : Str), .pv (.str y))] : List (Str × Va)).lookup m = none) :
    dMeth [(("House" : Str), e)] m n mk d da dk s h0 = (da s h).bind fun us h2 => (dk s h2).bind fun ws h3 => if us.length = n ∧ ws.length = mk then callM e (.pv (hI c w y l)) us ws h3 else .stuck := by
  have e0 : fldOf h (.pv (hI c w y l)) = some (("House" : Str), ([(("name" : Str), Va.pv (.str ("ann" : Str))), (("shares" : Str), .pv (.tup (l.map shP))), (("coin" : Str), .pv (.int c)), (("rule" : Str), .pv (.str w)), (("way" : Str), .pv (.str y))] : List (Str × Va))) := by rfl
  have e1 : ([(("House" : Str), e)] : List (Str × MtE)).lookup ("House" : Str) = some e := by rfl
  unfold dMeth
  rw [hd]
  simp only [ev_bind_ok]
  rw [e0]
  dsimp only
  rw [e1]
  dsimp only
  rw [if_pos hm]
  rfl
theorem callM_p {F : Fn} {asm : List Va → List Va → List Va} {x : Pv} {us ws : List Va} {ps : List Pv} (e : asm (.pv x :: us) ws = ps.map .pv) : callM (true, F, asm) (.pv x) us ws h = (pcall F ps).res h := by
  unfold callM runM
  rw [if_pos rfl]
  show (match gives give (asm (.pv x :: us) ws) h with | some (ps, h') => (pcall F ps).res h' | none => .stuck) = _
  rw [e, gives_pv]
theorem m_whole : ([(("name" : Str), Va.pv (.str ("ann" : Str))), (("shares" : Str), .pv (.tup (l.map shP))), (("coin" : Str), .pv (.int c)), (("rule" : Str), .pv (.str w)), (("way" : Str), .pv (.str y))] : List (Str × Va)).lookup ("whole" : Str) = none := by rfl
theorem m_sizes : ([(("name" : Str), Va.pv (.str ("ann" : Str))), (("shares" : Str), .pv (.tup (l.map shP))), (("coin" : Str), .pv (.int c)), (("rule" : Str), .pv (.str w)), (("way" : Str), .pv (.str y))] : List (Str × Va)).lookup ("sizes" : Str) = none := by rfl
theorem m_first : ([(("name" : Str), Va.pv (.str ("ann" : Str))), (("shares" : Str), .pv (.tup (l.map shP))), (("coin" : Str), .pv (.int c)), (("rule" : Str), .pv (.str w)), (("way" : Str), .pv (.str y))] : List (Str × Va)).lookup ("first" : Str) = none := by rfl
theorem m_rests : ([(("name" : Str), Va.pv (.str ("ann" : Str))), (("shares" : Str), .pv (.tup (l.map shP))), (("coin" : Str), .pv (.int c)), (("rule" : Str), .pv (.str w)), (("way" : Str), .pv (.str y))] : List (Str × Va)).lookup ("are_rests" : Str) = none := by rfl
theorem m_pass : ([(("name" : Str), Va.pv (.str ("ann" : Str))), (("shares" : Str), .pv (.tup (l.map shP))), (("coin" : Str), .pv (.int c)), (("rule" : Str), .pv (.str w)), (("way" : Str), .pv (.str y))] : List (Str × Va)).lookup ("pass_on" : Str) = none := by rfl
end
section
variable {c : Int} {w y : Str} {l : List Sh}
theorem us_ok {l : List Sh} (S : ShOk l) : ∀ u ∈ l.map (·.u), 1 ≤ u ∧ u ≤ 12 := fun u hu => by
  obtain ⟨x, hx, e⟩ := List.mem_map.mp hu
  rw [← e]; exact S.u1 x hx
theorem p_hwhole (S : ShOk l) : pcall F_House_whole [hI c w y l] = .ok (.int (wh l)) := by
  refine pcall_of (h' := []) ?_
  have n6 := len6 S.n4
  have c3 : ∀ (x0 x1 x2 x3 : Option Va), compL (gTu 3 (gsCons (gNm 1) (gsCons (gNm 2) (gsCons (gNm 3) gsNil)))) tYesD (dVar 3) [x0, x1, x2, x3] ((l.map shP).map Va.pv) [] [] = .ok (.pv (.lst ((l.map (·.u)).map .int))) [] := fun x0 x1 x2 x3 => by
    rw [comp_sh (fun x => .int x.u) fun x hx => by simp, List.map_map]; rfl
  have cm := p_cm (us := l.map (·.u)) (us_ok S)
  unfold F_House_whole fnOfB b_House_whole startS
  simp [-List.map_map, ev_callP, n6, c3, cm]
theorem p_first_turn : pcall F_House_first [hI c w ("turn" : Str) l] = .ok (.tup [.int 0]) := by
  refine pcall_of (h' := []) ?_
  unfold F_House_first fnOfB b_House_first startS
  simp
theorem p_rests_turn {k : Int} (h0 : 0 ≤ k) (h1 : k < l.length) : pcall F_House_are_rests [hI c w ("turn" : Str) l, .tup [.int k]] = .ok (.bl true) := by
  refine pcall_of (h' := []) ?_
  have f := p_first_turn (c := c) (w := w) (l := l)
  have mf : ∀ (s : Sl), s[0]? = some (some (.pv (hI c w ("turn" : Str) l))) → dMeth [(("House" : Str), (true, R.F_House_first, R.a_House_first 1 []))] ("first" : Str) 0 0 (dVar 0) daNil daNil s [] = .ok (.pv (.tup [.int 0])) [] := fun s hs => by
    rw [ev_meth (h := []) c w ("turn" : Str) l (by simp [hs]) m_first]
    simp [callM_p (ps := [hI c w ("turn" : Str) l]) (ap_hfirst _), f]
  unfold F_House_are_rests fnOfB b_House_are_rests startS
  simp [isiTab, mf, ev_callP, compL, p_whole_i, bAll, blsOf, dChn, h0, h1]
/-- what no rests of such a house are -/
def badT (p : Pv) : Prop := p = .non ∨ (∃ k j, p = .tup [.int k, .int j]) ∨ (∃ ps, p = .lst ps) ∨ p = .tup [.non] ∨ (∃ s, p = .str s) ∨ p = .tup [.bl true, .bl true, .bl true, .bl true, .bl true]
theorem p_rests_bad {p : Pv} (hb : badT p) : pcall F_House_are_rests [hI c w ("turn" : Str) l, p] = .ok (.bl false) := by
  refine pcall_of (h' := []) ?_
  have f := p_first_turn (c := c) (w := w) (l := l)
  have mf : ∀ (s : Sl), s[0]? = some (some (.pv (hI c w ("turn" : Str) l))) → dMeth [(("House" : Str), (true, R.F_House_first, R.a_House_first 1 []))] ("first" : Str) 0 0 (dVar 0) daNil daNil s [] = .ok (.pv (.tup [.int 0])) [] := fun s hs => by
    rw [ev_meth (h := []) c w ("turn" : Str) l (by simp [hs]) m_first]
    simp [callM_p (ps := [hI c w ("turn" : Str) l]) (ap_hfirst _), f]
  unfold F_House_are_rests fnOfB b_House_are_rests startS
  rcases hb with rfl | ⟨k, j, rfl⟩ | ⟨ps, rfl⟩ | rfl | ⟨s, rfl⟩ | rfl
  · simp [isiTab]
  · simp [isiTab, mf]
  · simp [isiTab]
  · simp [isiTab, mf, ev_callP, compL, p_whole_n, bAll, blsOf]
  · simp [isiTab]
  · simp [isiTab, mf]
end
end R
set_option exponentiation.threshold 10000
namespace R
open PySem PySem.Spec PyProof.Rows L2 CI
/-! ### coins given out in turn -/
def addAt (cs : List Int) (j : Nat) : List Int := cs.set j (cs.getD j 0 + 1)
def turnF (n : Nat) : Nat → Nat → List Int → List Int
  | _, 0, cs => cs
  | k, m + 1, cs => turnF n (k + 1) m (addAt cs (k % n))
theorem addAt_len {cs : List Int} {j : Nat} : (addAt cs j).length = cs.length := by unfold addAt; rw [List.length_set]
theorem turnF_len {n : Nat} : ∀ (m k : Nat) (cs : List Int), (turnF n k m cs).length = cs.length
  | 0, _, _ => rfl
  | m + 1, k, cs => by rw [turnF, turnF_len m, addAt_len]
theorem addAt_nn {cs : List Int} {j : Nat} (h : ∀ x ∈ cs, 0 ≤ x) : ∀ x ∈ addAt cs j, 0 ≤ x := fun x hx => by
  unfold addAt at hx
  rcases List.mem_or_eq_of_mem_set hx with z | z
  · exact h x z
  · rw [z, List.getD_eq_getElem?_getD]
    cases e : cs[j]? with
    | none => simp
    | some v =>
      have := h v (List.mem_of_getElem? e)
      simp
      omega
theorem turnF_nn {n : Nat} : ∀ (m k : Nat) (cs : List Int), (∀ x ∈ cs, 0 ≤ x) → ∀ x ∈ turnF n k m cs, 0 ≤ x
  | 0, _, _, h => h
  | m + 1, k, cs, h => turnF_nn m (k + 1) _ (addAt_nn h)
theorem rng_succ {lo m : Nat} : rangeVa (lo : Int) (m + 1) = I lo :: rangeVa ((lo + 1 : Nat) : Int) m := by
  unfold rangeVa
  rw [List.range_succ_eq_map, List.map_cons, List.map_map]
  rw [List.cons.injEq]
  refine ⟨by simp, List.map_congr_left fun i _ => ?_⟩
  simp only [Function.comp]
  have : (lo : Int) + ((i + 1 : Nat) : Int) = ((lo + 1 : Nat) : Int) + (i : Nat) := by omega
  show Va.pv (.int ((lo : Int) + ((i + 1 : Nat) : Int))) = _
  rw [this]
noncomputable abbrev btB : Sn := sAddI (dVar 3) (dBin oMod (dBin oAdd (dBin oIdx (dVar 2) (dC (.int 0))) (dVar 6)) (dVar 8)) (dC (.int 1))
theorem getD_at {cs : List Int} {j : Nat} (hj : j < cs.length) : (cs.map I)[j]? = some (I (cs.getD j 0)) := by
  rw [List.getElem?_map, List.getD_eq_getElem?_getD, List.getElem?_eq_getElem hj]; rfl
theorem setL_at {cs : List Int} {j : Nat} {v : Int} (hj : j < cs.length) : oSetL (.ref 0) (I (j : Int)) (I v) [.lst (cs.map I)] = some [.lst ((cs.set j v).map I)] := by
  unfold oSetL
  dsimp only
  show (match ixN (cs.map I).length (j : Int) with | some j => some ([Ob.lst (cs.map I)].set 0 (.lst ((cs.map I).set j (I v)))) | none => none) = _
  have : ixN (cs.map I).length (j : Int) = some j := by
    unfold ixN
    rw [if_pos (by omega), if_pos (by rw [List.length_map]; omega)]
    simp
  rw [this]
  show some [Ob.lst ((cs.map I).set j (I v))] = _
  rw [List.map_set]
theorem bt_step {a0 a1 a4 a5 a7 a9 a10 a11 a12 : Option Va} {k lo n : Nat} {cs : List Int} (hn : 0 < n) (hl : cs.length = n) :
    btB [a0, a1, some (.pv (.tup [.int k])), some (.ref 0), a4, a5, some (I lo), a7, some (I n), a9, a10, a11, a12] [.lst (cs.map I)] = .nx [a0, a1, some (.pv (.tup [.int k])), some (.ref 0), a4, a5, some (I lo), a7, some (I n), a9, a10, a11, a12] [.lst ((addAt cs ((k + lo) % n)).map I)] := by
  have hj : (k + lo) % n < cs.length := by rw [hl]; exact Nat.mod_lt _ hn
  have nz : n ≠ 0 := by omega
  have e1 : Int.fmod ((k : Int) + (lo : Int)) (n : Int) = (((k + lo) % n : Nat) : Int) := by rw [← Int.natCast_add, fmod_nat]
  have g := getD_at hj
  have st := setL_at (v := cs.getD ((k + lo) % n) 0 + 1) hj
  generalize hq : (k + lo) % n = j at *
  have j0 : (0 : Int) ≤ (j : Int) := by omega
  unfold btB sAddI addAt
  simp only [ev_var, ev_bin, ev_C, List.getElem?_cons_succ, List.getElem?_cons_zero, ev_sbind_ok, ev_bind_ok, ev_t0, ev_add, ev_mod, e1]
  rw [if_pos (show (n : Int) ≠ 0 by omega)]
  simp only [ev_sbind_ok, intOf, List.getElem?_cons_zero, Int.toNat_natCast, g, Option.bind_some, if_pos j0, st]
theorem bt_loop {a0 a1 a4 a5 a7 a9 a10 a11 a12 : Option Va} {k n : Nat} (hn : 0 < n) : ∀ (m lo : Nat) (cs : List Int) (x : Option Va), cs.length = n →
    ∃ x', forL (gNm 6) btB (rangeVa (lo : Int) m) [a0, a1, some (.pv (.tup [.int k])), some (.ref 0), a4, a5, x, a7, some (I n), a9, a10, a11, a12] [.lst (cs.map I)] = .nx [a0, a1, some (.pv (.tup [.int k])), some (.ref 0), a4, a5, x', a7, some (I n), a9, a10, a11, a12] [.lst ((turnF n (k + lo) m cs).map I)]
  | 0, lo, cs, x, _ => ⟨x, rfl⟩
  | m + 1, lo, cs, x, hl => by
    obtain ⟨x', e⟩ := bt_loop (a0 := a0) (a1 := a1) (a4 := a4) (a5 := a5) (a7 := a7) (a9 := a9) (a10 := a10) (a11 := a11) (a12 := a12) (k := k) hn m (lo + 1) (addAt cs ((k + lo) % n)) (some (I lo)) (by rw [addAt_len, hl])
    refine ⟨x', ?_⟩
    rw [rng_succ, ev_forL_cons]
    simp only [ev_gNm]
    have st := bt_step (a0 := a0) (a1 := a1) (a4 := a4) (a5 := a5) (a7 := a7) (a9 := a9) (a10 := a10) (a11 := a11) (a12 := a12) (k := k) (lo := lo) hn hl
    show turnEnd (btB [a0, a1, some (.pv (.tup [.int k])), some (.ref 0), a4, a5, some (I lo), a7, some (I n), a9, a10, a11, a12] [.lst (cs.map I)]) _ = _
    rw [st, ev_turn_nx, e]
    rfl
end R
set_option exponentiation.threshold 10000
namespace R
open PySem PySem.Spec PyProof.Rows L2 CI
def coins0 (l : List Sh) (N c : Int) : List Int := l.map fun x => mc (x.t * N) (x.u * c) ("down" : Str)
def dueL (l : List Sh) (N : Int) : List Int := l.map fun x => x.t * N * (wh l).fdiv x.u
def moreT (l : List Sh) (N c : Int) (w : Str) : Int := mc (dueL l N).sum (wh l * c) w - (coins0 l N c).sum
def partsT (l : List Sh) (N c : Int) (w : Str) (k : Nat) : List Int := (turnF l.length k (moreT l N c w).toNat (coins0 l N c)).map fun v => c * v
theorem gives_pvN (n : Nat) (ps : List Pv) (h : Hh) : gives (giveN n) (ps.map .pv) h = some (ps, h) := by
  induction ps with
  | nil => rfl
  | cons p ps ih =>
    show (match giveN n (.pv p) h with | some (p, h1) => (match gives (giveN n) (ps.map .pv) h1 with | some (ps, h2) => some (p :: ps, h2) | none => none) | none => none) = _
    rw [ev_give]
    dsimp only
    rw [ih]
theorem give_ints {n : Nat} {cs : List Int} : giveN (n + 1) (.ref 0) [.lst (cs.map I)] = some (.lst (cs.map .int), [.frz (.lst (cs.map .int))]) := by
  have e : cs.map I = (cs.map Pv.int).map Va.pv := by rw [List.map_map]; rfl
  rw [e]
  show (match gives (giveN n) ((cs.map Pv.int).map Va.pv) [Ob.lst ((cs.map Pv.int).map Va.pv)] with | some (ps, h1) => some (Pv.lst ps, h1.set 0 (.frz (.lst ps))) | none => none) = _
  rw [gives_pvN]
  rfl
theorem sum_ref {cs : List Int} : bSum [.ref 0] [.lst (cs.map I)] = .ok (I cs.sum) [.lst (cs.map I)] := by
  show (match intsOf (cs.map I) with | some ns => Res.ok (I ns.sum) [Ob.lst (cs.map I)] | none => Res.stuck) = _
  rw [intsOf_map]
theorem sum_lst {cs : List Int} {h : Hh} : bSum [.pv (.lst (cs.map .int))] h = .ok (I cs.sum) h := by
  unfold bSum
  dsimp only
  rw [lstInts_map]
theorem thaw_ints {cs : List Int} {h : Hh} : thaw (.pv (.lst (cs.map .int))) h = .ok (.ref h.length) (h ++ [.lst (cs.map I)]) := by
  show Res.ok (Va.ref h.length) (h ++ [Ob.lst ((cs.map Pv.int).map Va.pv)]) = _
  rw [List.map_map]; rfl
theorem p_byturn {c N : Int} {w y : Str} {l : List Sh} {k : Nat} (O : HOk c w y l) (hN : N.natAbs < 2 ^ 200) : pcall F_by_turn [hI c w y l, .int N, .tup [.int k]] = .ok (.tup [.lst ((partsT l N c w k).map .int), .tup [.int (Int.fmod ((k : Int) + moreT l N c w) (l.length : Int))]]) := by
  have S := O.s
  have n6 := len6 S.n4
  have n0 : 0 < l.length := List.length_pos_iff.mpr S.n0
  have nz : (l.length : Int) ≠ 0 := by omega
  have hw := p_hwhole (c := c) (w := w) (y := y) S
  have cN : c.natAbs < 2 ^ 64 := by have := O.c1; omega
  obtain ⟨W0, _, W1⟩ := S.wh
  have mw : ∀ (s : Sl) (h : Hh), s[0]? = some (some (.pv (hI c w y l))) → dMeth [(("House" : Str), (true, R.F_House_whole, R.a_House_whole 1 []))] ("whole" : Str) 0 0 (dVar 0) daNil daNil s h = .ok (.pv (.int (wh l))) h := fun s h hs => by
    rw [ev_meth (h := h) c w y l (by simp [hs]) m_whole]
    simp [callM_p (ps := [hI c w y l]) (ap_hwhole _), hw]
  have c1 : ∀ (x1 x2 x3 x4 x5 x6 x7 x8 x9 x10 x11 x12 : Option Va), x1 = some (I N) → compL (gTu 3 (gsCons (gNm 9) (gsCons (gNm 10) (gsCons (gNm 11) gsNil)))) tYesD (dCallP R.F_many_coins 4 0 (R.a_many_coins 4 []) (daCons (dBin oMul (dVar 10) (dVar 1)) (daCons (dVar 11) (daCons (dAttr [("House" : Str)] ("coin" : Str) (dVar 0)) (daCons (dC (.str ("down" : Str))) daNil)))) daNil)
      [some (.pv (hI c w y l)), x1, x2, x3, x4, x5, x6, x7, x8, x9, x10, x11, x12] ((l.map shP).map Va.pv) [] [] = .ok (.pv (.lst ((coins0 l N c).map .int))) [] := fun x1 x2 x3 x4 x5 x6 x7 x8 x9 x10 x11 x12 e => by
    subst e
    rw [comp_sh (fun x => .int (mc (x.t * N) (x.u * c) ("down" : Str))) fun x hx => ?_]
    · unfold coins0; rw [List.map_map]; rfl
    · have u1 := S.u1 x hx
      have t1 := S.t1 x hx
      have c2 := O.c1
      have uc : 0 < x.u * c := Int.mul_pos (by omega) (by omega)
      have ub : (x.u * c).natAbs < 2 ^ (4 + 4) := mul_bnd (by omega) (by omega)
      have pm := p_many (t := x.t * N) (u := x.u) (c := c) (r := ("down" : Str)) (by omega) (big ub (by decide)) cN
      have m : mulOk x.t N = true := mulOk_l (by omega)
      simp [ev_callP, m, pm]
  have c2 : ∀ (h : Hh) (x2 x3 x4 x5 x6 x8 x9 x10 x11 x12 : Option Va), compL (gTu 3 (gsCons (gNm 9) (gsCons (gNm 10) (gsCons (gNm 11) gsNil)))) tYesD (dBin oMul (dBin oMul (dVar 10) (dVar 1)) (dBin oDiv (dVar 7) (dVar 11)))
      [some (.pv (hI c w y l)), some (I N), x2, x3, x4, x5, x6, some (I (wh l)), x8, x9, x10, x11, x12] ((l.map shP).map Va.pv) [] h = .ok (.pv (.lst ((dueL l N).map .int))) h := fun h x2 x3 x4 x5 x6 x8 x9 x10 x11 x12 => by
    rw [comp_sh (fun x => .int (x.t * N * (wh l).fdiv x.u)) fun x hx => ?_]
    · unfold dueL; rw [List.map_map]; rfl
    · have u1 := S.u1 x hx
      have t1 := S.t1 x hx
      have d := divOk_u u1
      have m : mulOk x.t N = true := mulOk_l (by omega)
      have m2 : mulOk (x.t * N) ((wh l).fdiv x.u) = true := mulOk_r (by
        have := fdiv_abs (t := wh l) (S := x.u) (by omega)
        omega)
      simp [m, m2, d]
  have c2w : 0 < wh l * c := Int.mul_pos W0 (by have := O.c1; omega)
  have cwb : (wh l * c).natAbs < 2 ^ (15 + 4) := mul_bnd (by omega) (by have := O.c1; omega)
  have pm := p_many (t := (dueL l N).sum) (u := wh l) (c := c) (r := w) (by omega) (big cwb (by decide)) cN
  have lc : (coins0 l N c).length = l.length := by unfold coins0; rw [List.length_map]
  obtain ⟨x', lp⟩ := bt_loop (a0 := some (.pv (hI c w y l))) (a1 := some (I N)) (a4 := some (I (dueL l N).sum)) (a5 := some (I (moreT l N c w))) (a7 := some (I (wh l))) (a9 := none) (a10 := none) (a11 := none) (a12 := none) (k := k) n0 (moreT l N c w).toNat 0 (coins0 l N c) none lc
  rw [Nat.add_zero] at lp
  have lp : forL (gNm 6) btB (rangeVa 0 (moreT l N c w).toNat) [some (.pv (hI c w y l)), some (I N), some (.pv (.tup [.int k])), some (.ref 0), some (I (dueL l N).sum), some (I (moreT l N c w)), none, some (I (wh l)), some (I l.length), none, none, none, none] [.lst ((coins0 l N c).map I)] = _ := lp
  have c3 : ∀ (h : Hh) (x1 x2 x3 x4 x5 x6 x7 x8 x9 x10 x11 x12 : Option Va) (cs : List Int), compL (gNm 12) tYesD (dBin oMul (dAttr [("House" : Str)] ("coin" : Str) (dVar 0)) (dVar 12)) [some (.pv (hI c w y l)), x1, x2, x3, x4, x5, x6, x7, x8, x9, x10, x11, x12] ((cs.map .int).map Va.pv) [] h = .ok (.pv (.lst ((cs.map fun v => c * v).map .int))) h := fun h x1 x2 x3 x4 x5 x6 x7 x8 x9 x10 x11 x12 cs => by
    rw [List.map_map]
    have m : ∀ v, mulOk c v = true := fun v => mulOk_l cN
    have := comp_map (t := gNm 12) (d := dBin oMul (dAttr [("House" : Str)] ("coin" : Str) (dVar 0)) (dVar 12)) (s := [some (.pv (hI c w y l)), x1, x2, x3, x4, x5, x6, x7, x8, x9, x10, x11, x12]) (h := h) (Va.pv ∘ Pv.int) (fun v => .int (c * v)) cs [] fun v _ => ⟨_, rfl, by simp [m]⟩
    rw [this, List.map_map]; rfl
  have l6 : ∀ cs : List Int, cs.length = l.length → cs.length ≤ 1000000 := fun cs e => by rw [e]; exact n6
  have lt6 : (turnF l.length k (moreT l N c w).toNat (coins0 l N c)).length ≤ 1000000 := l6 _ (by rw [turnF_len, lc])
  refine pcall_of (h' := [.frz (.lst ((turnF l.length k (moreT l N c w).toNat (coins0 l N c)).map .int))]) ?_
  simp only [btB] at lp
  have mt : mc (dueL l N).sum (wh l * c) w - (coins0 l N c).sum = moreT l N c w := rfl
  have pt : (turnF l.length k (moreT l N c w).toNat (coins0 l N c)).map (fun v => c * v) = partsT l N c w k := rfl
  unfold F_by_turn fnOfB b_by_turn startS
  simp [-ev_forL_cons, -List.map_map, ev_callP, dThaw, mw, n6, nz, c1, c2, thaw_ints, sum_lst, sum_ref, pm, mt, lp, give_ints, lt6, c3, pt, S.n0]
end R
set_option exponentiation.threshold 10000
namespace R
open PySem PySem.Spec PyProof.Rows L2 CI
def restT (l : List Sh) (N c : Int) (w : Str) (k : Nat) : Int := Int.fmod ((k : Int) + moreT l N c w) (l.length : Int)
abbrev foundT (l : List Sh) (N c : Int) (w : Str) (k : Nat) : Pv := .tup [.tup ((partsT l N c w k).map .int), .tup [.int (restT l N c w k)]]
@[simp] theorem tuple_lst {ps : List Pv} {h : Hh} : bTuple [.pv (.lst ps)] h = .ok (.pv (.tup ps)) h := by
  rfl
section
variable {c N : Int} {w y : Str} {l : List Sh} {k : Nat}
theorem mr_turn {p : Pv} {b : Bool} (e : pcall F_House_are_rests [hI c w ("turn" : Str) l, p] = .ok (.bl b)) (s : Sl) (h : Hh) (hs : s[0]? = some (some (.pv (hI c w ("turn" : Str) l)))) (h2 : s[2]? = some (some (.pv p))) :
    dMeth [(("House" : Str), (true, R.F_House_are_rests, R.a_House_are_rests 2 []))] ("are_rests" : Str) 1 0 (dVar 0) (daCons (dVar 2) daNil) daNil s h = .ok (.pv (.bl b)) h := by
  rw [ev_meth (h := h) c w ("turn" : Str) l (by simp [hs]) m_rests]
  simp [h2, callM_p (ps := [hI c w ("turn" : Str) l, p]) (ap_hrests _ _), e]
theorem p_pass (O : HOk c w ("turn" : Str) l) (hN : N.natAbs < 2 ^ 200) (hk : k < l.length) : pcall F_House_pass_on [hI c w ("turn" : Str) l, .int N, .tup [.int k]] = .ok (foundT l N c w k) := by
  refine pcall_of (h' := []) ?_
  have e := mr_turn (p_rests_turn (c := c) (w := w) (l := l) (k := k) (by omega) (by omega))
  have b := p_byturn (k := k) O hN
  have tb : ∀ h : Hh, dTab [(("drop" : Str), ("by_drop" : Str)), (("keep" : Str), ("by_keep" : Str)), (("hand" : Str), ("by_hand" : Str)), (("turn" : Str), ("by_turn" : Str))] (dAttr [("House" : Str)] ("way" : Str) (dVar 0)) [some (.pv (hI c w ("turn" : Str) l)), some (I N), some (.pv (.tup [.int k])), none, none, none] h = .ok (.pv (.fn ("by_turn" : Str))) h := fun h => by
    unfold dTab
    simp only [ev_attr, ev_var, List.getElem?_cons_zero, ev_bind_ok, a_way]
    rfl
  have cl : ∀ h : Hh, dCallV 3 [(("by_drop" : Str), (true, R.F_by_drop, R.a_by_drop 3 [])), (("by_keep" : Str), (true, R.F_by_keep, R.a_by_keep 3 [])), (("by_hand" : Str), (true, R.F_by_hand, R.a_by_hand 3 [])), (("by_turn" : Str), (true, R.F_by_turn, R.a_by_turn 3 []))] 3 (daCons (dVar 0) (daCons (dVar 1) (daCons (dVar 2) daNil))) [some (.pv (hI c w ("turn" : Str) l)), some (I N), some (.pv (.tup [.int k])), some (.pv (.fn ("by_turn" : Str))), none, none] h = .ok (.pv (.tup [.lst ((partsT l N c w k).map .int), .tup [.int (restT l N c w k)]])) h := fun h => by
    have lk : ([(("by_drop" : Str), (true, R.F_by_drop, R.a_by_drop 3 [])), (("by_keep" : Str), (true, R.F_by_keep, R.a_by_keep 3 [])), (("by_hand" : Str), (true, R.F_by_hand, R.a_by_hand 3 [])), (("by_turn" : Str), (true, R.F_by_turn, R.a_by_turn 3 []))] : List (Str × MtE)).lookup ("by_turn" : Str) = some (true, R.F_by_turn, R.a_by_turn 3 []) := by rfl
    unfold dCallV
    simp only [List.getElem?_cons_succ, List.getElem?_cons_zero, lk, ev_cons, ev_var, ev_bind_ok, ev_nil, List.length_cons, List.length_nil]
    rw [if_pos trivial]
    show callM (true, R.F_by_turn, R.a_by_turn 3 []) (.pv (hI c w ("turn" : Str) l)) [I N, .pv (.tup [.int k])] [] h = _
    rw [callM_p (ps := [hI c w ("turn" : Str) l, .int N, .tup [.int k]]) (ap_byturn _ _ _), b]
    rfl
  have lp : (partsT l N c w k).length ≤ 16777216 := by
    unfold partsT
    rw [List.length_map, turnF_len]
    unfold coins0
    rw [List.length_map]
    exact len16 O.s.n4
  unfold F_House_pass_on fnOfB b_House_pass_on startS
  simp [-List.map_map, e, tb, cl]
theorem p_pass_bad {p : Pv} (hb : badT p) : F_House_pass_on [.pv (hI c w ("turn" : Str) l), I N, .pv p] [] = .exc ("NoRests" : Str) [] [] := by
  have e := mr_turn (p_rests_bad (c := c) (w := w) (l := l) hb)
  unfold F_House_pass_on fnOfB b_House_pass_on startS
  simp [e]
  rfl
end
end R
set_option exponentiation.threshold 10000
namespace R
open PySem PySem.Spec PyProof.Rows L2 CI
theorem pick2 {a b : Int} {v : Int} {h : Hh} (hv : v = 0 ∨ v = 1) : oIdx (.pv (.lst [.int a, .int b])) (I v) h = .ok (I (if v = 0 then a else b)) h := by
  rcases hv with rfl | rfl
  · simp
  · simp
theorem p_near {T U p : Int} {w : Str} (hU : 0 < U) (hU2 : U.natAbs < 2 ^ 60) (hp : 1 ≤ p ∧ p ≤ 12) (hw : w ∈ five) : pcall F_q_near [.int T, .int U, .int p, .str w] = .ok (.int (p * mc T (U * p) w)) := by
  refine pcall_of (h' := []) ?_
  have S0 : 0 < U * p := Int.mul_pos hU (by omega)
  have Sb : (U * p).natAbs < 2 ^ (60 + 4) := mul_bnd hU2 (by omega)
  obtain ⟨q, r, e, r0, r1⟩ := qr (t := T) S0
  obtain ⟨f1, f2⟩ := fdm S0 e r0 r1
  have m1 : mulOk U p = true := mulOk_r (by omega)
  have m2 : ∀ x, mulOk x p = true := fun x => mulOk_r (by omega)
  have m3 : ∀ x, mulOk x U = true := fun x => mulOk_r (by omega)
  have m4 : ∀ x, mulOk 2 x = true := fun x => mulOk_l (by decide)
  have d1 : divOk (U * p) = true := divOk_of (by omega) (big Sb (by decide))
  have d2 : divOk p = true := divOk_u hp
  have far : T - q * p * U = r := by
    have z : q * p * U = U * p * q := by rw [Int.mul_assoc, Int.mul_comm p U, Int.mul_comm q]
    omega
  have qp : (q * p).fdiv p = q := Int.mul_fdiv_cancel _ (by omega)
  have q2 : q.fmod 2 = 0 ∨ q.fmod 2 = 1 := by have := fmod_in (a := q) (b := 2) (by decide); omega
  have pc : ∀ (h : Hh), oIdx (.pv (.lst [.int (q * p), .int (q * p + p)])) (I (q.fmod 2)) h = .ok (I (p * (q + q % 2))) h := fun h => by
    rw [pick2 q2, ← fm2]
    rcases q2 with z | z
    · rw [z, if_pos rfl, Int.add_zero, Int.mul_comm]
    · rw [z, if_neg (by decide), Int.mul_add, Int.mul_one, Int.mul_comm]
  have mm := mc_at (w := w) S0 e r0 r1
  have k0 : q * p = p * q := Int.mul_comm _ _
  have k1 : p * q + p = p * (q + 1) := by rw [Int.mul_add, Int.mul_one]
  simp only [k0] at far qp pc
  unfold F_q_near fnOfB b_q_near startS
  rw [mm]
  by_cases z1 : r = 0
  · simp [m1, m2, m3, m4, d1, d2, f1, far, z1, k0]
  · by_cases z2 : w = ("down" : Str)
    · simp [m1, m2, m3, m4, d1, d2, f1, far, z1, z2, k0]
    · by_cases z3 : w = ("up" : Str)
      · simp [m1, m2, m3, m4, d1, d2, f1, far, z1, z3, w1, k0, k1]
      · by_cases z4 : 2 * r = U * p
        · by_cases z5 : w = ("even" : Str)
          · simp [m1, m2, m3, m4, d1, d2, f1, far, z1, z4, z5, w2, w5, qp, pc, k0]
          · by_cases z6 : w = ("upper" : Str)
            · simp [m1, m2, m3, m4, d1, d2, f1, far, z1, z4, z6, w3, w6, w8, k0, k1]
            · simp [m1, m2, m3, m4, d1, d2, f1, far, z1, z2, z3, z4, z5, z6, k0]
        · by_cases z5 : U * p < 2 * r
          · simp [m1, m2, m3, m4, d1, d2, f1, far, z1, z2, z3, z4, z5, k0, k1]
          · simp [m1, m2, m3, m4, d1, d2, f1, far, z1, z2, z3, z4, z5, k0]
end R
set_option exponentiation.threshold 10000
namespace R
open PySem PySem.Spec PyProof.Rows L2 CI
/-! ### what the law's own walk tells, where a house turns -/
theorem mc_down {t S : Int} : mc t S ("down" : Str) = t.fdiv S := by
  unfold mc
  rw [if_pos (.inr rfl)]
theorem due_one {l : List Sh} (S : ShOk l) {x : Sh} (hx : x ∈ l) {c N : Int} (hc : 1 ≤ c) {w : Str} : mc (x.t * N * (wh l).fdiv x.u) (wh l * c) w = mc (x.t * N) (x.u * c) w := by
  obtain ⟨W0, dv, _⟩ := S.wh
  obtain ⟨P, hP⟩ := dv x hx
  have u1 := S.u1 x hx
  have e : (wh l).fdiv x.u = P := by rw [hP]; exact Int.mul_fdiv_cancel_left _ (by omega)
  have P0 : 0 < P := by
    by_cases z : 0 < P
    · exact z
    · exfalso
      have : x.u * P ≤ 0 := Int.mul_nonpos_of_nonneg_of_nonpos (by omega) (by omega)
      omega
  have uc : 0 < x.u * c := Int.mul_pos (by omega) (by omega)
  rw [e, hP, ← mc_scale (t := x.t * N) (S := x.u * c) (P := P) uc P0]
  have a : x.t * N * P = P * (x.t * N) := Int.mul_comm _ _
  have b : x.u * P * c = P * (x.u * c) := by rw [Int.mul_comm x.u P, Int.mul_assoc]
  rw [a, b]
theorem coins_due {l : List Sh} (S : ShOk l) {c N : Int} (hc : 1 ≤ c) : (dueL l N).map (fun v => mc v (wh l * c) ("down" : Str)) = coins0 l N c := by
  unfold dueL coins0
  rw [List.map_map]
  exact List.map_congr_left fun x hx => due_one S hx hc
theorem sum_fdiv {S : Int} (h : 0 < S) : ∀ ds : List Int, (ds.map fun v => v.fdiv S).sum ≤ ds.sum.fdiv S
  | [] => by simp
  | d :: ds => by
    have ih := sum_fdiv h ds
    rw [List.map_cons, List.sum_cons, List.sum_cons]
    have e1 := Int.mul_fdiv_add_fmod d S
    have e2 := Int.mul_fdiv_add_fmod ds.sum S
    obtain ⟨a, b⟩ := fmod_in (a := d) h
    obtain ⟨a2, b2⟩ := fmod_in (a := ds.sum) h
    obtain ⟨q, r, e, r0, r1⟩ := qr (t := d + ds.sum) h
    rw [(fdm h e r0 r1).1]
    have k : S * (d.fdiv S + ds.sum.fdiv S) ≤ S * q + r := by rw [Int.mul_add]; omega
    by_cases z : d.fdiv S + ds.sum.fdiv S ≤ q
    · omega
    · exfalso
      have : S * (q + 1) ≤ S * (d.fdiv S + ds.sum.fdiv S) := Int.mul_le_mul_of_nonneg_left (by omega) (by omega)
      rw [Int.mul_add] at this
      omega
theorem more_nn {l : List Sh} (S : ShOk l) {c N : Int} {w : Str} (hc : 1 ≤ c) : 0 ≤ moreT l N c w := by
  have W0 := S.wh.1
  have S0 : 0 < wh l * c := Int.mul_pos W0 (by omega)
  have e : (coins0 l N c).sum = ((dueL l N).map fun v => v.fdiv (wh l * c)).sum := by
    rw [← coins_due S hc]
    congr 1
    exact List.map_congr_left fun v _ => mc_down
  have := sum_fdiv S0 (dueL l N)
  have n := (mc_near (t := (dueL l N).sum) (w := w) S0).1
  unfold moreT
  rw [e]
  omega
theorem sum_mul {c : Int} : ∀ cs : List Int, (cs.map fun v => c * v).sum = c * cs.sum
  | [] => by simp
  | v :: cs => by rw [List.map_cons, List.sum_cons, List.sum_cons, sum_mul cs, Int.mul_add]
theorem addAt_map {c : Int} {cs : List Int} {j : Nat} (hj : j < cs.length) : (cs.map fun v => c * v).set j ((cs.map fun v => c * v).getD j 0 + c) = (addAt cs j).map fun v => c * v := by
  unfold addAt
  rw [List.map_set]
  congr 1
  rw [List.getD_eq_getElem?_getD, List.getD_eq_getElem?_getD, List.getElem?_map, List.getElem?_eq_getElem hj]
  simp [Int.mul_add]
noncomputable abbrev lpB : Sn := (sSeq (sSetI (dBin oAdd (dBin oIdx (dVar 11) (dVar 16)) (dVar 7)) (dVar 11) (dVar 16))
    (sAsg (gNm 16) (dBin oMod (dBin oAdd (dVar 16) (dC (.int 1))) (dBi bLen (daCons (dVar 11) daNil)))))
theorem idx_ref {cs : List Int} {j : Nat} (hj : j < cs.length) : oIdx (.ref 0) (I (j : Int)) [.lst (cs.map I)] = .ok (I (cs.getD j 0)) [.lst (cs.map I)] := by
  show (match atI (cs.map I) (j : Int) with | some v => Res.ok v [Ob.lst (cs.map I)] | none => Res.stuck) = _
  have : atI (cs.map I) (j : Int) = some (I (cs.getD j 0)) := by
    unfold atI ixN
    rw [if_pos (by omega), if_pos (by rw [List.length_map]; omega)]
    show (cs.map I)[((j : Int)).toNat]? = _
    rw [Int.toNat_natCast, getD_at hj]
  rw [this]
theorem setI_at {cs : List Int} {j : Nat} {v : Int} (hj : j < cs.length) : oSetI (.ref 0) (I (j : Int)) (I v) [.lst (cs.map I)] = some [.lst ((cs.set j v).map I)] := setL_at hj
theorem len_ref {cs : List Int} : bLen [.ref 0] [.lst (cs.map I)] = .ok (I cs.length) [.lst (cs.map I)] := by
  show Res.ok (I (((cs.map I).length : Nat) : Int)) _ = _
  rw [List.length_map]
section
variable {b0 b1 b2 b3 b4 b5 b6 b8 b9 b12 b13 b14 b15 b17 b18 b19 : Option Va} {c : Int} {n : Nat}
abbrev lpS (b0 b1 b2 b3 b4 b5 b6 b8 b9 b12 b13 b14 b15 b17 b18 b19 : Option Va) (c : Int) (x10 : Option Va) (a : Int) : Sl := [b0, b1, b2, b3, b4, b5, b6, some (I c), b8, b9, x10, some (.ref 0), b12, b13, b14, b15, some (I a), b17, b18, b19]
theorem lp_step {x10 : Option Va} {j : Nat} {cs : List Int} (hn : 0 < n) (hl : cs.length = n) :
    lpB (lpS b0 b1 b2 b3 b4 b5 b6 b8 b9 b12 b13 b14 b15 b17 b18 b19 c x10 ((j % n : Nat) : Int)) [.lst ((cs.map fun v => c * v).map I)] = .nx (lpS b0 b1 b2 b3 b4 b5 b6 b8 b9 b12 b13 b14 b15 b17 b18 b19 c x10 (((j + 1) % n : Nat) : Int)) [.lst (((addAt cs (j % n)).map fun v => c * v).map I)] := by
  have hj : j % n < cs.length := by rw [hl]; exact Nat.mod_lt _ hn
  have hj' : j % n < (cs.map fun v => c * v).length := by rw [List.length_map]; exact hj
  have e0 := idx_ref hj'
  have e1 := setI_at (v := (cs.map fun v => c * v).getD (j % n) 0 + c) hj'
  rw [addAt_map hj] at e1
  have e2 := len_ref (cs := (addAt cs (j % n)).map fun v => c * v)
  rw [List.length_map, addAt_len, hl] at e2
  have e3 : Int.fmod (((j % n : Nat) : Int) + 1) (n : Int) = (((j + 1) % n : Nat) : Int) := by
    have : (((j % n : Nat) : Int) + 1) = ((j % n + 1 : Nat) : Int) := by omega
    rw [this, fmod_nat, Nat.mod_add_mod]
  have nz : (n : Int) ≠ 0 := by omega
  unfold lpB lpS
  simp only [ev_seq, ev_sSetI, ev_bin, ev_var, List.getElem?_cons_succ, List.getElem?_cons_zero, ev_bind_ok, ev_sbind_ok, e0, ev_add, e1, ev_then_nx, ev_sAsg, ev_C, ev_bi, ev_cons, ev_nil, e2, ev_mod, if_pos nz, e3, ev_gNm, List.set_cons_succ, List.set_cons_zero]
theorem lp_loop (hn : 0 < n) : ∀ (m j : Nat) (lo : Int) (cs : List Int) (x10 : Option Va), cs.length = n →
    ∃ x', forL (gNm 10) lpB (rangeVa lo m) (lpS b0 b1 b2 b3 b4 b5 b6 b8 b9 b12 b13 b14 b15 b17 b18 b19 c x10 ((j % n : Nat) : Int)) [.lst ((cs.map fun v => c * v).map I)] = .nx (lpS b0 b1 b2 b3 b4 b5 b6 b8 b9 b12 b13 b14 b15 b17 b18 b19 c x' (((j + m) % n : Nat) : Int)) [.lst (((turnF n j m cs).map fun v => c * v).map I)]
  | 0, j, lo, cs, x10, _ => ⟨x10, rfl⟩
  | m + 1, j, lo, cs, x10, hl => by
    obtain ⟨x', e⟩ := lp_loop hn m (j + 1) (lo + 1) (addAt cs (j % n)) (some (I lo)) (by rw [addAt_len, hl])
    refine ⟨x', ?_⟩
    have rs : rangeVa lo (m + 1) = I lo :: rangeVa (lo + 1) m := by
      unfold rangeVa
      rw [List.range_succ_eq_map, List.map_cons, List.map_map, List.cons.injEq]
      refine ⟨by simp, List.map_congr_left fun i _ => ?_⟩
      simp only [Function.comp]
      have : lo + ((i + 1 : Nat) : Int) = lo + 1 + (i : Nat) := by omega
      show Va.pv (.int (lo + ((i + 1 : Nat) : Int))) = _
      rw [this]
    rw [rs, ev_forL_cons]
    simp only [ev_gNm]
    have st := lp_step (b0 := b0) (b1 := b1) (b2 := b2) (b3 := b3) (b4 := b4) (b5 := b5) (b6 := b6) (b8 := b8) (b9 := b9) (b12 := b12) (b13 := b13) (b14 := b14) (b15 := b15) (b17 := b17) (b18 := b18) (b19 := b19) (c := c) (x10 := some (I lo)) (j := j) hn hl
    show turnEnd (lpB (lpS b0 b1 b2 b3 b4 b5 b6 b8 b9 b12 b13 b14 b15 b17 b18 b19 c (some (I lo)) ((j % n : Nat) : Int)) [.lst ((cs.map fun v => c * v).map I)]) _ = _
    rw [st, ev_turn_nx, e]
    have : j + 1 + m = j + (m + 1) := by omega
    rw [this]
    rfl
end
end R
set_option exponentiation.threshold 10000
namespace R
open PySem PySem.Spec PyProof.Rows L2 CI
theorem y1 : ¬ ("turn" : Str) = ("drop" : Str) := by decide +kernel
theorem y2 : ¬ ("turn" : Str) = ("keep" : Str) := by decide +kernel
theorem y3 : ¬ ("turn" : Str) = ("hand" : Str) := by decide +kernel
theorem rest_is {l : List Sh} (S : ShOk l) {c N : Int} {w : Str} (hc : 1 ≤ c) {k : Nat} : restT l N c w k = (((k + (moreT l N c w).toNat) % l.length : Nat) : Int) := by
  have h := more_nn (N := N) (w := w) S hc
  unfold restT
  have : (k : Int) + moreT l N c w = ((k + (moreT l N c w).toNat : Nat) : Int) := by omega
  rw [this, fmod_nat]
theorem p_passed_turn {c N : Int} {w : Str} {l : List Sh} {k : Nat} (O : HOk c w ("turn" : Str) l) (hk : k < l.length) : pcall F_q_passed [hT c w ("turn" : Str) l, .int N, .tup [.int k]] = .ok (.tup [.lst ((partsT l N c w k).map .int), .tup [.int (restT l N c w k)]]) := by
  have S := O.s
  have n6 := len6 S.n4
  have n0 : 0 < l.length := List.length_pos_iff.mpr S.n0
  have cN : c.natAbs < 2 ^ 64 := by have := O.c1; omega
  obtain ⟨W0, _, W1⟩ := S.wh
  have hw := p_qwhole (l := l) S.u1
  have c2 : ∀ (x4 x8 x9 x10 x11 x12 x13 x14 x15 x16 x17 x18 x19 x0 x2 x5 x6 x7 : Option Va), compL (gTu 3 (gsCons (gNm 17) (gsCons (gNm 18) (gsCons (gNm 19) gsNil)))) tYesD (dBin oMul (dBin oMul (dVar 18) (dVar 1)) (dBin oDiv (dVar 3) (dVar 19)))
      [x0, some (I N), x2, some (I (wh l)), x4, x5, x6, x7, x8, x9, x10, x11, x12, x13, x14, x15, x16, x17, x18, x19] ((l.map shP).map Va.pv) [] [] = .ok (.pv (.lst ((dueL l N).map .int))) [] := fun x4 x8 x9 x10 x11 x12 x13 x14 x15 x16 x17 x18 x19 x0 x2 x5 x6 x7 => by
    rw [comp_sh (fun x => .int (x.t * N * (wh l).fdiv x.u)) fun x hx => ?_]
    · unfold dueL; rw [List.map_map]; rfl
    · have u1 := S.u1 x hx
      have t1 := S.t1 x hx
      have d := divOk_u u1
      have m : mulOk x.t N = true := mulOk_l (by omega)
      have m2 : mulOk (x.t * N) ((wh l).fdiv x.u) = true := mulOk_r (by
        have := fdiv_abs (t := wh l) (S := x.u) (by omega)
        omega)
      simp [m, m2, d]
  have pn := fun (T : Int) (v : Str) hv => p_near (T := T) (U := wh l) (p := c) (w := v) W0 (by omega) O.c1 hv
  have dn : ("down" : Str) ∈ five := by simp [five]
  have c3 : ∀ (x0 x1 x2 x4 x5 x6 x8 x9 x10 x11 x12 x13 x14 x15 x16 x17 x18 x19 : Option Va), compL (gNm 15) tYesD (dCallP R.F_q_near 4 0 (R.a_q_near 4 []) (daCons (dVar 15) (daCons (dVar 3) (daCons (dVar 7) (daCons (dC (.str ("down" : Str))) daNil)))) daNil)
      [x0, x1, x2, some (I (wh l)), x4, x5, x6, some (I c), x8, x9, x10, x11, x12, x13, x14, x15, x16, x17, x18, x19] (((dueL l N).map .int).map Va.pv) [] [] = .ok (.pv (.lst (((coins0 l N c).map fun v => c * v).map .int))) [] := fun x0 x1 x2 x4 x5 x6 x8 x9 x10 x11 x12 x13 x14 x15 x16 x17 x18 x19 => by
    rw [List.map_map]
    have := comp_map (t := gNm 15) (d := dCallP R.F_q_near 4 0 (R.a_q_near 4 []) (daCons (dVar 15) (daCons (dVar 3) (daCons (dVar 7) (daCons (dC (.str ("down" : Str))) daNil)))) daNil) (s := [x0, x1, x2, some (I (wh l)), x4, x5, x6, some (I c), x8, x9, x10, x11, x12, x13, x14, x15, x16, x17, x18, x19]) (h := [])
      (Va.pv ∘ Pv.int) (fun v => .int (c * mc v (wh l * c) ("down" : Str))) (dueL l N) [] fun v _ => ⟨_, rfl, by simp [ev_callP, pn _ _ dn]⟩
    rw [this, ← coins_due S O.c1.1, List.map_map, List.map_map]
    rfl
  have ld : (dueL l N).length = l.length := by unfold dueL; rw [List.length_map]
  have ld6 : (dueL l N).length ≤ 1000000 := by rw [ld]; exact n6
  have lc : (coins0 l N c).length = l.length := by unfold coins0; rw [List.length_map]
  have dc : divOk c = true := divOk_u O.c1
  have km : k % l.length = k := Nat.mod_eq_of_lt hk
  have q : (c * mc (dueL l N).sum (wh l * c) w - ((coins0 l N c).map fun v => c * v).sum).fdiv c = moreT l N c w := by
    rw [sum_mul, ← Int.mul_sub]
    exact Int.mul_fdiv_cancel_left _ (by have := O.c1; omega)
  obtain ⟨x', lp⟩ := lp_loop (b0 := some (.pv (hT c w ("turn" : Str) l))) (b1 := some (I N)) (b2 := some (.pv (.tup [.int k]))) (b3 := some (I (wh l))) (b4 := some (.pv (.lst ((dueL l N).map .int)))) (b5 := some (.pv (.str ("ann" : Str)))) (b6 := some (.pv (.tup (l.map shP))))
    (b8 := some (.pv (.str w))) (b9 := some (.pv (.str ("turn" : Str)))) (b12 := none) (b13 := none) (b14 := none) (b15 := none) (b17 := none) (b18 := none) (b19 := none) (c := c) n0 (moreT l N c w).toNat k 0 (coins0 l N c) none lc
  rw [km, ← rest_is S O.c1.1] at lp
  have pt : (turnF l.length k (moreT l N c w).toNat (coins0 l N c)).map (fun v => c * v) = partsT l N c w k := rfl
  rw [pt] at lp
  simp only [lpB, lpS] at lp
  refine pcall_of (h' := [.frz (.lst ((partsT l N c w k).map .int))]) ?_
  unfold F_q_passed fnOfB b_q_passed startS hT
  simp [-ev_forL_cons, -List.map_map, ev_callP, dThaw, hw, n6, c2, c3, ld6, thaw_ints, sum_lst, sum_ref, pn _ _ O.w5, q, dc, lp, give_ints, y1]
end R
set_option exponentiation.threshold 10000
namespace R
open PySem PySem.Spec PyProof.Rows L2 CI
/-! ### shares drawn -/
/-- shares so far: b a multiple of all unders, their sum b - a parts of b -/
structure ShI (l : List Sh) (a b : Int) : Prop where
  a0 : 0 ≤ a
  b0 : 0 < b
  t1 : ∀ x ∈ l, 1 ≤ x.t ∧ x.t ≤ 12
  u1 : ∀ x ∈ l, 1 ≤ x.u ∧ x.u ≤ 12
  g1 : ∀ x ∈ l, Nat.gcd x.t.natAbs x.u.natAbs = 1
  dv : ∀ x ∈ l, x.u ∣ b
  sm : (l.map fun x => x.t * b.fdiv x.u).sum = b - a
theorem fdiv_mul {b u m : Int} (hu : 0 < u) (h : u ∣ b) : (b * m).fdiv u = b.fdiv u * m := by
  obtain ⟨q, e⟩ := h
  have e1 : b.fdiv u = q := by rw [e]; exact Int.mul_fdiv_cancel_left _ (by omega)
  have e2 : b * m = u * (q * m) := by rw [e, Int.mul_assoc]
  rw [e1, e2]
  exact Int.mul_fdiv_cancel_left _ (by omega)
theorem sum_scale {b m : Int} : ∀ l : List Sh, (∀ x ∈ l, 1 ≤ x.u ∧ x.u ≤ 12) → (∀ x ∈ l, x.u ∣ b) → (l.map fun x => x.t * (b * m).fdiv x.u).sum = (l.map fun x => x.t * b.fdiv x.u).sum * m
  | [], _, _ => by simp
  | x :: l, h1, h2 => by
    have u1 := h1 x (List.mem_cons_self ..)
    rw [List.map_cons, List.map_cons, List.sum_cons, List.sum_cons, sum_scale l (fun y hy => h1 y (List.mem_cons_of_mem _ hy)) (fun y hy => h2 y (List.mem_cons_of_mem _ hy)), fdiv_mul (by omega) (h2 x (List.mem_cons_self ..)), Int.add_mul, Int.mul_assoc]
theorem sum_nn : ∀ ds : List Int, (∀ x ∈ ds, 0 ≤ x) → 0 ≤ ds.sum
  | [], _ => by simp
  | d :: ds, h => by
    rw [List.sum_cons]
    have := sum_nn ds fun x hx => h x (List.mem_cons_of_mem _ hx)
    have := h d (List.mem_cons_self ..)
    omega
theorem fdiv_nn {a b : Int} (h : 0 ≤ a) (hb : 0 < b) : 0 ≤ a.fdiv b := by
  rw [Int.fdiv_eq_ediv_of_nonneg _ (by omega)]
  exact Int.ediv_nonneg h (by omega)
theorem ShI.ab {l : List Sh} {a b : Int} (S : ShI l a b) : a ≤ b := by
  have := sum_nn (l.map fun x => x.t * b.fdiv x.u) fun y hy => by
    obtain ⟨x, hx, e⟩ := List.mem_map.mp hy
    rw [← e]
    exact Int.mul_nonneg (by have := S.t1 x hx; omega) (fdiv_nn (by have := S.b0; omega) (by have := S.u1 x hx; omega))
  have := S.sm
  omega
theorem ShI.more {l : List Sh} {a b : Int} (S : ShI l a b) {u t : Int} {to : Str} (hu : 1 ≤ u ∧ u ≤ 12) (ht : 1 ≤ t) (hm : t ≤ (a * u).fdiv b) : ∃ g : Nat, Nat.gcd t.natAbs u.natAbs = g ∧ 0 < g ∧ ShI (l ++ [⟨to, t.fdiv g, u.fdiv g⟩]) (a * u - t * b) (b * u) := by
  have b0 := S.b0
  have ab := S.ab
  have a0 := S.a0
  have gp : 0 < Nat.gcd t.natAbs u.natAbs := Nat.gcd_pos_of_pos_left _ (by omega)
  refine ⟨_, rfl, gp, ?_⟩
  obtain ⟨T, hT⟩ := Nat.gcd_dvd_left t.natAbs u.natAbs
  obtain ⟨U, hU⟩ := Nat.gcd_dvd_right t.natAbs u.natAbs
  have cop : Nat.gcd T U = 1 := by
    have e : Nat.gcd t.natAbs u.natAbs = Nat.gcd t.natAbs u.natAbs * Nat.gcd T U := by
      have q : ∀ g x y : Nat, t.natAbs = g * x → u.natAbs = g * y → Nat.gcd t.natAbs u.natAbs = g * Nat.gcd x y := fun g x y h1 h2 => by rw [h1, h2, Nat.gcd_mul_left]
      exact q _ _ _ hT hU
    exact Nat.eq_of_mul_eq_mul_left gp (e.symm.trans (Nat.mul_one _).symm)
  generalize Nat.gcd t.natAbs u.natAbs = g at *
  have tI : t = (g : Int) * T := by have : (t.natAbs : Int) = t := by omega
                                    rw [← this, hT, Int.natCast_mul]
  have uI : u = (g : Int) * U := by have : (u.natAbs : Int) = u := by omega
                                    rw [← this, hU, Int.natCast_mul]
  have gz : (g : Int) ≠ 0 := by omega
  have ft : t.fdiv g = T := by rw [tI]; exact Int.mul_fdiv_cancel_left _ gz
  have fu : u.fdiv g = U := by rw [uI]; exact Int.mul_fdiv_cancel_left _ gz
  have T0 : 1 ≤ T := by
    rcases Nat.eq_zero_or_pos T with z | z
    · rw [z] at tI; omega
    · exact z
  have U0 : 1 ≤ U := by
    rcases Nat.eq_zero_or_pos U with z | z
    · rw [z] at uI; omega
    · exact z
  have tu : t ≤ u := by
    have h1 : (a * u).fdiv b ≤ u := by
      obtain ⟨q, r, e, r0, r1⟩ := qr (t := a * u) b0
      rw [(fdm b0 e r0 r1).1]
      by_cases z : q ≤ u
      · exact z
      · exfalso
        have h1 : b * (u + 1) ≤ b * q := Int.mul_le_mul_of_nonneg_left (by omega) (by omega)
        have h2 : a * u ≤ b * u := Int.mul_le_mul_of_nonneg_right ab (by omega)
        rw [Int.mul_add] at h1
        omega
    omega
  have Tt : (T : Int) ≤ t := by
    have : T ≤ t.natAbs := by rw [hT]; exact Nat.le_mul_of_pos_left _ gp
    omega
  have Uu : (U : Int) ≤ u := by
    have : U ≤ u.natAbs := by rw [hU]; exact Nat.le_mul_of_pos_left _ gp
    omega
  have tb : t * b ≤ a * u := by
    obtain ⟨q, r, e, r0, r1⟩ := qr (t := a * u) b0
    rw [(fdm b0 e r0 r1).1] at hm
    have : t * b ≤ q * b := Int.mul_le_mul_of_nonneg_right hm (by omega)
    rw [Int.mul_comm q b] at this
    omega
  rw [ft, fu]
  have mem : ∀ {P : Sh → Prop}, (∀ x ∈ l, P x) → P ⟨to, T, U⟩ → ∀ x ∈ l ++ [⟨to, T, U⟩], P x := fun h1 h2 x hx => by
    rcases List.mem_append.mp hx with m | m
    · exact h1 x m
    · rw [List.mem_singleton.mp m]; exact h2
  refine ⟨by omega, Int.mul_pos b0 (by omega), mem S.t1 ⟨by show 1 ≤ (T : Int); omega, by show (T : Int) ≤ 12; omega⟩, mem S.u1 ⟨by show 1 ≤ (U : Int); omega, by show (U : Int) ≤ 12; omega⟩, mem S.g1 (by simpa using cop), mem (fun x hx => Int.dvd_trans (S.dv x hx) (Int.dvd_mul_right ..)) ?_, ?_⟩
  · show (U : Int) ∣ b * u
    rw [uI, Int.mul_comm b, Int.mul_comm (g : Int), Int.mul_assoc]
    exact Int.dvd_mul_right ..
  · rw [List.map_append, List.sum_append, sum_scale l S.u1 S.dv, S.sm]
    have e : (b * u).fdiv (U : Int) = b * g := by
      have : b * u = (U : Int) * (b * g) := by
        rw [uI, Int.mul_comm (g : Int), ← Int.mul_assoc, ← Int.mul_assoc, Int.mul_comm b (U : Int)]
      rw [this]
      exact Int.mul_fdiv_cancel_left _ (by omega)
    show (b - a) * u + ((T : Int) * (b * u).fdiv (U : Int) + 0) = b * u - (a * u - t * b)
    rw [e, Int.sub_mul, tI]
    have : (T : Int) * (b * g) = (g : Int) * T * b := by
      rw [Int.mul_comm b, ← Int.mul_assoc, Int.mul_comm (T : Int)]
    omega
theorem fold_dvd : ∀ (us : List Int) (f B : Int), 0 < f → (∀ u ∈ us, 1 ≤ u ∧ u ≤ 12) → f ∣ B → (∀ u ∈ us, u ∣ B) → us.foldl lcmF f ∣ B
  | [], _, _, _, _, h, _ => h
  | u :: us, f, B, hf, hu, h, hd => by
    have h1 := hu u (List.mem_cons_self ..)
    refine fold_dvd us (lcmF f u) B (lcmF_ok hf (by omega)).1 (fun y hy => hu y (List.mem_cons_of_mem _ hy)) ?_ fun y hy => hd y (List.mem_cons_of_mem _ hy)
    rw [lcmF_is hf (by omega)]
    have : Nat.lcm f.natAbs u.natAbs ∣ B.natAbs := Nat.lcm_dvd (Int.natAbs_dvd_natAbs.mpr h) (Int.natAbs_dvd_natAbs.mpr (hd u (List.mem_cons_self ..)))
    exact Int.ofNat_dvd_left.mpr this
theorem ShI.ok {l : List Sh} {a b : Int} (S : ShI l a b) (n0 : l ≠ []) (n4 : l.length ≤ 4) (nm : ∀ x ∈ l, x.to ∈ four) (nd : (l.map (·.to)).Nodup) : ShOk l := by
  have hus : ∀ u ∈ l.map (·.u), 1 ≤ u ∧ u ≤ 12 := fun u hu => by
    obtain ⟨x, hx, e⟩ := List.mem_map.mp hu
    rw [← e]; exact S.u1 x hx
  obtain ⟨W0, _, dv, _⟩ := fold_ok (l.map (·.u)) 1 (by decide) hus
  have wb : wh l ∣ b := fold_dvd _ 1 b (by decide) hus (Int.one_dvd _) fun u hu => by
    obtain ⟨x, hx, e⟩ := List.mem_map.mp hu
    rw [← e]; exact S.dv x hx
  refine ⟨n0, n4, nm, nd, S.t1, S.u1, S.g1, ?_⟩
  obtain ⟨m, hm⟩ := wb
  have W0 : 0 < wh l := W0
  have b0 := S.b0
  have m0 : 0 < m := by
    by_cases z : 0 < m
    · exact z
    · exfalso
      have : wh l * m ≤ 0 := Int.mul_nonpos_of_nonneg_of_nonpos (by omega) (by omega)
      omega
  have sc := sum_scale (b := wh l) (m := m) l S.u1 fun x hx => dv _ (List.mem_map_of_mem hx)
  have sm := S.sm
  rw [hm, sc] at sm
  have a0 := S.a0
  show (l.map fun x => x.t * (wh l).fdiv x.u).sum ≤ wh l
  generalize (l.map fun x => x.t * (wh l).fdiv x.u).sum = q at *
  by_cases z : q ≤ wh l
  · exact z
  · exfalso
    have : (wh l + 1) * m ≤ q * m := Int.mul_le_mul_of_nonneg_right (by omega) (by omega)
    rw [Int.add_mul] at this
    omega
end R
set_option exponentiation.threshold 10000
namespace R
open PySem PySem.Spec PyProof.Rows L2 CI
noncomputable abbrev shB : Sn := (sSeq (sAsg (gNm 6) (dBin oIdx (dLst (daCons (dBin oAdd (dC (.int 1)) (dCall R.F_q_take 2 0 (R.a_q_take 2 []) (daCons (dVar 0) (daCons (dC (.int 12)) daNil)) daNil)) (daCons (dBin oAdd (dC (.int 2)) (dCall R.F_q_take 2 0 (R.a_q_take 2 []) (daCons (dVar 0) (daCons (dC (.int 3)) daNil)) daNil)) daNil))) (dCall R.F_q_take 2 0 (R.a_q_take 2 []) (daCons (dVar 0) (daCons (dC (.int 2)) daNil)) daNil)))
    (sSeq (sAsg (gNm 7) (dBin oDiv (dBin oMul (dVar 4) (dVar 6)) (dVar 5)))
    (sIf (tVB (dBin oGt (dVar 7) (dC (.int 0)))) (sSeq (sAsg (gNm 8) (dBin oAdd (dC (.int 1)) (dCall R.F_q_take 2 0 (R.a_q_take 2 []) (daCons (dVar 0) (daCons (dVar 7) daNil)) daNil)))
    (sSeq (sAsg (gNm 9) (dCallP R.F_q_gcd 2 0 (R.a_q_gcd 2 []) (daCons (dVar 8) (daCons (dVar 6) daNil)) daNil))
    (sSeq (sExpr (dApp (dVar 3) (daCons (dTup (daCons (dVar 2) (daCons (dBin oDiv (dVar 8) (dVar 9)) (daCons (dBin oDiv (dVar 6) (dVar 9)) daNil)))) daNil)))
    (sPar [4, 5] (daCons (dBin oSub (dBin oMul (dVar 4) (dVar 6)) (dBin oMul (dVar 8) (dVar 5))) (daCons (dBin oMul (dVar 5) (dVar 6)) daNil)))))) sNil)))
@[simp] theorem ev_sExpr {d : Dn} {s : Sl} {h : Hh} : sExpr d s h = sBind (d s h) fun _ h1 => .nx s h1 := rfl
@[simp] theorem ev_dApp {d : Dn} {da : Da} {s : Sl} {h : Hh} : dApp d da s h = (d s h).bind fun x h1 => match lstOf h1 x with
  | some _ => (da s h1).bind fun vs h2 => match vs with
    | [v] => pushL x v h2
    | _ => .stuck
  | none => .stuck := rfl
theorem lst_at {h : Hh} {f : Nat} {xs : List Va} (e : h[f]? = some (.lst xs)) : lstOf h (.ref f) = some xs := by
  unfold lstOf
  dsimp only
  rw [e]
theorem push_at {h : Hh} {f : Nat} {xs : List Va} {v : Va} (e : h[f]? = some (.lst xs)) (hl : xs.length < 16777216) : pushL (.ref f) v h = .ok (.pv .non) (h.set f (.lst (xs ++ [v]))) := by
  unfold pushL
  rw [lst_at e]
  dsimp only
  rw [if_pos hl]
abbrev shL (l : List Sh) : List Va := l.map fun x => .pv (shP x)
/-- one name: a share, or none -/
theorem sh_step {h : Hh} {r f : Nat} {l : List Sh} {a b : Int} {x1 x6 x7 x8 x9 : Option Va} {to : Str} (B : BagAt h r) (hf : h[f]? = some (.lst (shL l))) (hne : f ≠ r) (hl : l.length ≤ 4) (S : ShI l a b) (hb : b ≤ 12 ^ 4) :
    ∃ y6 y7 y8 y9 h' l' a' b', shB [some (.ref r), x1, some (.pv (.str to)), some (.ref f), some (I a), some (I b), x6, x7, x8, x9] h = .nx [some (.ref r), x1, some (.pv (.str to)), some (.ref f), some (I a'), some (I b'), y6, y7, y8, y9] h' ∧ BagAt h' r ∧ h'[f]? = some (.lst (shL l')) ∧ ShI l' a' b' ∧ b' ≤ b * 12 ∧
      ((l' = l ∧ ¬ (l = [] ∧ a = 1 ∧ b = 1)) ∨ ∃ t u, l' = l ++ [⟨to, t, u⟩]) := by
  obtain ⟨v1, h1, e1, B1, o1, p1, q1⟩ := take_ev B (n := 12) (by decide) (by decide)
  obtain ⟨v2, h2, e2, B2, o2, p2, q2⟩ := take_ev B1 (n := 3) (by decide) (by decide)
  obtain ⟨v3, h3, e3, B3, o3, p3, q3⟩ := take_ev B2 (n := 2) (by decide) (by decide)
  have oth := o1.trans (o2.trans o3)
  have hf3 : h3[f]? = some (.lst (shL l)) := (oth.2 f hne).trans hf
  obtain ⟨u, hu, ix⟩ : ∃ u : Int, (1 ≤ u ∧ u ≤ 12) ∧ oIdx (.pv (.lst [.int (1 + v1), .int (2 + v2)])) (I v3) h3 = .ok (I u) h3 := by
    have : v3 = 0 ∨ v3 = 1 := by omega
    rcases this with rfl | rfl
    · exact ⟨1 + v1, by omega, by simp⟩
    · exact ⟨2 + v2, by omega, by simp⟩
  have ab := S.ab
  have a0 := S.a0
  have b0 := S.b0
  have mu : ∀ x, mulOk x u = true := fun x => mulOk_r (by omega)
  have db : divOk b = true := divOk_of (by omega) (Nat.lt_trans (show b.natAbs < 2 ^ 20 by omega) (by decide +kernel))
  have mb : ∀ x, mulOk x b = true := fun x => mulOk_r (by omega)
  by_cases z : 0 < (a * u).fdiv b
  · have au : (a * u).fdiv b ≤ 12 := by
      obtain ⟨q, r, e, r0, r1⟩ := qr (t := a * u) b0
      rw [(fdm b0 e r0 r1).1]
      by_cases y : q ≤ 12
      · exact y
      · exfalso
        have h1 : b * 13 ≤ b * q := Int.mul_le_mul_of_nonneg_left (by omega) (by omega)
        have h2 : a * u ≤ a * 12 := Int.mul_le_mul_of_nonneg_left hu.2 a0
        omega
    obtain ⟨v4, h4, e4, B4, o4, p4, q4⟩ := take_ev B3 z (by omega)
    have hf4 : h4[f]? = some (.lst (shL l)) := (o4.2 f hne).trans hf3
    obtain ⟨g, hg, g0, S'⟩ := S.more (to := to) hu (t := 1 + v4) (by omega) (by omega)
    have pg := p_gcd (1 + v4).natAbs u.natAbs
    rw [show (((1 + v4).natAbs : Nat) : Int) = 1 + v4 by omega, show ((u.natAbs : Nat) : Int) = u by omega, hg] at pg
    have gl : g ≤ u.natAbs := by rw [← hg]; exact Nat.gcd_le_right _ (by omega)
    have dg : divOk (g : Int) = true := divOk_of (by omega) (Nat.lt_trans (show ((g : Nat) : Int).natAbs < 2 ^ 5 by omega) (by decide +kernel))
    have pu := push_at (v := .pv (shP ⟨to, (1 + v4).fdiv g, u.fdiv g⟩)) hf4 (by rw [List.length_map]; omega)
    have la := lst_at hf4
    refine ⟨some (I u), some (I ((a * u).fdiv b)), some (I (1 + v4)), some (I g), h4.set f (.lst (shL l ++ [.pv (shP ⟨to, (1 + v4).fdiv g, u.fdiv g⟩)])), l ++ [⟨to, (1 + v4).fdiv g, u.fdiv g⟩], a * u - (1 + v4) * b, b * u, ?_, ?_, ?_, S', Int.mul_le_mul_of_nonneg_left hu.2 (by omega), .inr ⟨_, _, rfl⟩⟩
    rotate_left
    · obtain ⟨x, m, p, c, e, zz⟩ := B4
      exact ⟨x, m, p, c, by rw [List.getElem?_set_ne hne]; exact e, zz⟩
    · rw [List.getElem?_set_self (List.getElem?_eq_some_iff.mp hf4).1]; simp [shL]
    · unfold shB
      unfold shP at pu
      simp [ev_call, ev_callP, e1, e2, e3, ix, mu, db, z, e4, pg, dg, la, pu, mb, shP]
      try exact ⟨rfl, rfl⟩
  · refine ⟨some (I u), some (I ((a * u).fdiv b)), x8, x9, h3, l, a, b, ?_, B3, hf3, S, by omega, .inl ⟨rfl, ?_⟩⟩
    · unfold shB
      simp [ev_call, ev_callP, e1, e2, e3, ix, mu, db, z]
      try exact ⟨rfl, rfl, rfl, rfl⟩
    · rintro ⟨_, rfl, rfl⟩
      rw [Int.one_mul] at z
      have : u.fdiv 1 = u := Int.fdiv_one u
      omega

/-- names, one after another -/
theorem sh_loop {r f : Nat} {x1 : Option Va} (hne : f ≠ r) : ∀ (ns : List Str) (h : Hh) (l : List Sh) (a b : Int) (x2 x6 x7 x8 x9 : Option Va) (j : Nat), BagAt h r → h[f]? = some (.lst (shL l)) → ShI l a b → l.length ≤ j → b ≤ 12 ^ j → j + ns.length ≤ 4 → (l = [] → a = 1 ∧ b = 1) → (l = [] → j = 0) → (0 < j + ns.length) → ns.Nodup → (l.map (·.to)).Nodup → (∀ x ∈ l, x.to ∈ four ∧ x.to ∉ ns) → (∀ x ∈ ns, x ∈ four) →
    ∃ y2 y6 y7 y8 y9 h' l' a' b', forL (gNm 2) shB (ns.map fun n => .pv (.str n)) [some (.ref r), x1, x2, some (.ref f), some (I a), some (I b), x6, x7, x8, x9] h = .nx [some (.ref r), x1, y2, some (.ref f), some (I a'), some (I b'), y6, y7, y8, y9] h' ∧ BagAt h' r ∧ h'[f]? = some (.lst (shL l')) ∧ ShOk l'
  | [], h, l, a, b, x2, x6, x7, x8, x9, j, B, hf, S, hj, hb, h4, hs, hz, hp, _, nd, nm, _ => by
    have nl : l ≠ [] := fun z => by have := hz z; simp at hp; omega
    exact ⟨x2, x6, x7, x8, x9, h, l, a, b, rfl, B, hf, S.ok nl (by simp at h4; omega) (fun x hx => (nm x hx).1) nd⟩
  | n :: ns, h, l, a, b, x2, x6, x7, x8, x9, j, B, hf, S, hj, hb, h4, hs, hz, hp, nn, nd, nm, nf => by
    rw [List.length_cons] at h4
    rw [List.nodup_cons] at nn
    have hb4 : b ≤ 12 ^ 4 := by
      have : (12 : Int) ^ j ≤ 12 ^ 4 := by
        have : j = 0 ∨ j = 1 ∨ j = 2 ∨ j = 3 := by omega
        rcases this with rfl | rfl | rfl | rfl <;> decide
      omega
    obtain ⟨y6, y7, y8, y9, h', l', a', b', e, B', hf', S', hb', hc⟩ := sh_step (x1 := x1) (x6 := x6) (x7 := x7) (x8 := x8) (x9 := x9) (to := n) B hf hne (by omega) S hb4
    have hb2 : b' ≤ 12 ^ (j + 1) := by
      rw [Int.pow_succ]
      have : b * 12 ≤ 12 ^ j * 12 := Int.mul_le_mul_of_nonneg_right hb (by decide)
      omega
    have go : l' ≠ [] ∧ l'.length ≤ j + 1 ∧ (l'.map (·.to)).Nodup ∧ ∀ x ∈ l', x.to ∈ four ∧ x.to ∉ ns := by
      rcases hc with ⟨rfl, hn⟩ | ⟨t, u, rfl⟩
      · refine ⟨fun z => hn ⟨z, hs z⟩, by omega, nd, fun x hx => ⟨(nm x hx).1, fun hm => (nm x hx).2 (List.mem_cons_of_mem _ hm)⟩⟩
      · refine ⟨by simp, by rw [List.length_append]; simp; omega, ?_, fun x hx => ?_⟩
        · rw [List.map_append, List.nodup_append]
          refine ⟨nd, by simp, fun y hy z hz => ?_⟩
          obtain ⟨w, hw, rfl⟩ := List.mem_map.mp hy
          rw [List.mem_singleton.mp hz]
          exact fun q => (nm w hw).2 (by rw [q]; exact List.mem_cons_self ..)
        · rcases List.mem_append.mp hx with m | m
          · exact ⟨(nm x m).1, fun hm => (nm x m).2 (List.mem_cons_of_mem _ hm)⟩
          · rw [List.mem_singleton.mp m]; exact ⟨nf n (List.mem_cons_self ..), nn.1⟩
    obtain ⟨g1, g2, g3, g4⟩ := go
    obtain ⟨z2, z6, z7, z8, z9, h2, l2, a2, b2, e2, B2, f2, S2⟩ := sh_loop (x1 := x1) hne ns h' l' a' b' (some (.pv (.str n))) y6 y7 y8 y9 (j + 1) B' hf' S' g2 hb2 (by omega) (fun z => absurd z g1) (fun z => absurd z g1) (by omega) nn.2 g3 g4 fun x hx => nf x (List.mem_cons_of_mem _ hx)
    refine ⟨z2, z6, z7, z8, z9, h2, l2, a2, b2, ?_, B2, f2, S2⟩
    rw [List.map_cons, ev_forL_cons]
    simp only [ev_gNm]
    show turnEnd (shB [some (.ref r), x1, some (.pv (.str n)), some (.ref f), some (I a), some (I b), x6, x7, x8, x9] h) _ = _
    rw [e, ev_turn_nx, e2]
theorem give_ref {h : Hh} {f : Nat} {ps : List Pv} {n : Nat} (e : h[f]? = some (.lst (ps.map .pv))) : giveN (n + 1) (.ref f) h = some (.lst ps, h.set f (.frz (.lst ps))) := by
  unfold giveN
  rw [e]
  dsimp only
  rw [gives_pvN]
theorem shares_ev {h : Hh} {r : Nat} (B : BagAt h r) : ∃ l h', F_q_shares [.ref r, .pv (.lst (four.map .str))] h = .ok (.pv (.tup (l.map shP))) h' ∧ BagAt h' r ∧ ShOk l := by
  have hr : r < h.length := by obtain ⟨_, _, _, _, e, _⟩ := B; exact (List.getElem?_eq_some_iff.mp e).1
  have B0 : BagAt (h ++ [.lst []]) r := by
    obtain ⟨g, m, p, c, e, z⟩ := B
    exact ⟨g, m, p, c, by rw [List.getElem?_append_left hr]; exact e, z⟩
  obtain ⟨v, h1, e1, B1, o1, p1, q1⟩ := take_ev B0 (n := 4) (by decide) (by decide)
  have hf : h1[h.length]? = some (.lst (shL [])) := (o1.2 h.length (by omega)).trans List.getElem?_concat_length
  have S0 : ShI [] 1 1 := ⟨by decide, by decide, by simp, by simp, by simp, by simp, by simp⟩
  have v4 : v.toNat < 4 := by omega
  have ve : v = (v.toNat : Int) := by omega
  generalize v.toNat = k at *
  subst ve
  have nd4 : (four.take (1 + k)).Nodup := by
    have : k = 0 ∨ k = 1 ∨ k = 2 ∨ k = 3 := by omega
    rcases this with rfl | rfl | rfl | rfl <;> decide +kernel
  have nf4 : ∀ x ∈ four.take (1 + k), x ∈ four := fun x hx => List.mem_of_mem_take hx
  have ln4 : (four.take (1 + k)).length = 1 + k := by rw [List.length_take]; show min (1 + k) 4 = _; omega
  obtain ⟨y2, y6, y7, y8, y9, h2, l, a, b, e2, B2, f2, S⟩ := sh_loop (r := r) (f := h.length) (x1 := some (.pv (.lst (four.map .str)))) (by omega) (four.take (1 + k)) h1 [] 1 1 none none none none none 0 B1 hf S0 (by simp) (by decide) (by omega) (fun _ => ⟨rfl, rfl⟩) (fun _ => rfl) (by omega) nd4 (by simp) (by simp) nf4
  have sl : oSl (.pv (.lst (four.map .str))) none (some (1 + (k : Int))) h1 = .ok (.pv (.lst ((four.take (1 + k)).map .str))) h1 := by
    have : k = 0 ∨ k = 1 ∨ k = 2 ∨ k = 3 := by omega
    rcases this with rfl | rfl | rfl | rfl <;> rfl
  have mp : ((four.take (1 + k)).map Pv.str).map Va.pv = (four.take (1 + k)).map fun n => .pv (.str n) := by rw [List.map_map]; rfl
  have tl : bTuple [.ref h.length] h2 = .ok (.pv (.tup (l.map shP))) (h2.set h.length (.frz (.lst (l.map shP)))) := by
    have : h2[h.length]? = some (.lst ((l.map shP).map .pv)) := by rw [f2, List.map_map]; rfl
    have gv : give (.ref h.length) h2 = some (.lst (l.map shP), h2.set h.length (.frz (.lst (l.map shP)))) := give_ref (n := 3) this
    unfold bTuple
    dsimp only
    rw [gv]
  refine ⟨l, h2.set h.length (.frz (.lst (l.map shP))), ?_, ?_, S⟩
  · simp only [shB] at e2
    unfold F_q_shares fnOfB b_q_shares startS
    simp [-ev_forL_cons, -List.map_map, -List.map_take, dSl, bdOf, ev_call, e1, sl, mp, e2, tl]
  · obtain ⟨g, m, p, c, e, z⟩ := B2
    exact ⟨g, m, p, c, by rw [List.getElem?_set_ne (by omega)]; exact e, z⟩
end R
set_option exponentiation.threshold 10000
namespace R
open PySem PySem.Spec PyProof.Rows L2 CI
theorem pick {L : List Pv} {v : Int} {h : Hh} (h0 : 0 ≤ v) (h1 : v < L.length) : ∃ p, p ∈ L ∧ oIdx (.pv (.lst L)) (I v) h = .ok (.pv p) h := by
  obtain ⟨p, a, b⟩ := any_at h0 h1
  exact ⟨p, a, b⟩
theorem house_ev {h : Hh} {r : Nat} (B : BagAt h r) : ∃ l c w y h', F_q_house [.ref r, .pv (.str ("ann" : Str)), .pv (.lst (four.map .str))] h = .ok (.pv (hT c w y l)) h' ∧ BagAt h' r ∧ ShOk l ∧ (1 ≤ c ∧ c ≤ 12) ∧ w ∈ five := by
  obtain ⟨l, h1, e1, B1, S⟩ := shares_ev B
  obtain ⟨v2, h2, e2, B2, _, p2, q2⟩ := take_ev B1 (n := 12) (by decide) (by decide)
  obtain ⟨v3, h3, e3, B3, _, p3, q3⟩ := take_ev B2 (n := 6) (by decide) (by decide)
  obtain ⟨v4, h4, e4, B4, _, p4, q4⟩ := take_ev B3 (n := 5) (by decide) (by decide)
  obtain ⟨v5, h5, e5, B5, _, p5, q5⟩ := take_ev B4 (n := 4) (by decide) (by decide)
  obtain ⟨c, hc, ic⟩ := pick (L := [.int 1, .int 1, .int 2, .int 3, .int 5, .int (1 + v2)]) (h := h3) p3 (by simpa using q3)
  obtain ⟨w, hw, iw⟩ := pick (L := [.str ("down" : Str), .str ("up" : Str), .str ("upper" : Str), .str ("lower" : Str), .str ("even" : Str)]) (h := h4) p4 (by simpa using q4)
  obtain ⟨y, hy, iy⟩ := pick (L := [.str ("drop" : Str), .str ("keep" : Str), .str ("hand" : Str), .str ("turn" : Str)]) (h := h5) p5 (by simpa using q5)
  obtain ⟨c, rfl, hcc⟩ : ∃ i : Int, c = .int i ∧ (1 ≤ i ∧ i ≤ 12) := by
    simp only [List.mem_cons, List.mem_nil_iff, or_false] at hc
    rcases hc with rfl | rfl | rfl | rfl | rfl | rfl <;> exact ⟨_, rfl, by omega⟩
  obtain ⟨w, rfl, hww⟩ : ∃ i : Str, w = .str i ∧ i ∈ five := by
    simp only [List.mem_cons, List.mem_nil_iff, or_false] at hw
    rcases hw with rfl | rfl | rfl | rfl | rfl <;> exact ⟨_, rfl, by simp [five]⟩
  obtain ⟨y, rfl⟩ : ∃ i : Str, y = .str i := by
    simp only [List.mem_cons, List.mem_nil_iff, or_false] at hy
    rcases hy with rfl | rfl | rfl | rfl <;> exact ⟨_, rfl⟩
  refine ⟨l, c, w, y, h5, ?_, B5, S, hcc, hww⟩
  unfold F_q_house fnOfB b_q_house startS
  simp [-List.map_map, ev_call, e1, e2, e3, e4, e5, ic, iw, iy]
theorem total_ev {h : Hh} {r : Nat} (B : BagAt h r) : ∃ N h', F_q_total [.ref r] h = .ok (I N) h' ∧ BagAt h' r ∧ 0 ≤ N ∧ N < 2 ^ 150 := by
  obtain ⟨v1, h1, e1, B1, _, p1, q1⟩ := take_ev B (n := 30) (by decide) (by decide)
  obtain ⟨v2, h2, e2, B2, _, p2, q2⟩ := take_ev B1 (n := 1000) (by decide) (by decide)
  obtain ⟨v3, h3, e3, B3, _, p3, q3⟩ := wide_ev B2 (n := 1000000000001) (by decide) (by decide)
  obtain ⟨v4, h4, e4, B4, _, p4, q4⟩ := take_ev B3 (n := 40) (by decide) (by decide)
  obtain ⟨v5, h5, e5, B5, _, p5, q5⟩ := take_ev B4 (n := 8) (by decide) (by decide)
  have k5 : powOk 10 12 = true := by decide
  obtain ⟨j, hj, ij⟩ := pick (L := [.int 0, .int 0, .int 0, .int 1, .int 2, .int 2, .int 3, .int 4]) (h := h5) p5 (by simpa using q5)
  obtain ⟨j, rfl, hjj⟩ : ∃ i : Int, j = .int i ∧ (0 ≤ i ∧ i < 5) := by
    simp only [List.mem_cons, List.mem_nil_iff, or_false] at hj
    rcases hj with rfl | rfl | rfl | rfl | rfl | rfl | rfl | rfl <;> exact ⟨_, rfl, by decide⟩
  obtain ⟨t, ht, it⟩ := pick (L := [.int v1, .int 0, .int v2, .int v3, .int (1000000000000 - v4)]) (h := h5) hjj.1 (by simpa using hjj.2)
  obtain ⟨t, rfl, htt⟩ : ∃ i : Int, t = .int i ∧ (0 ≤ i ∧ i < 2 ^ 150) := by
    simp only [List.mem_cons, List.mem_nil_iff, or_false] at ht
    rcases ht with rfl | rfl | rfl | rfl | rfl <;> exact ⟨_, rfl, by omega⟩
  refine ⟨t, h5, ?_, B5, htt⟩
  unfold F_q_total fnOfB b_q_total startS
  simp [ev_call, k5, e1, e2, e3, e4, e5, ij, it]
section
variable {c : Int} {w : Str} {l : List Sh}
theorem p_qfirst : pcall F_q_first [hT c w ("turn" : Str) l] = .ok (.tup [.int 0]) := by
  refine pcall_of (h' := []) ?_
  unfold F_q_first fnOfB b_q_first startS hT
  simp [-List.map_map, ev_t4, y1, y2]
theorem qrests_ev {h : Hh} {r : Nat} (B : BagAt h r) (S : ShOk l) : ∃ (k : Nat) (h' : Hh), F_q_rests [.ref r, .pv (hT c w ("turn" : Str) l)] h = .ok (.pv (.tup [.int k])) h' ∧ BagAt h' r ∧ k < l.length := by
  have n0 : 0 < l.length := List.length_pos_iff.mpr S.n0
  obtain ⟨v, h1, e1, B1, _, p1, q1⟩ := take_ev B (n := (l.length : Int)) (by omega) (by have := S.n4; omega)
  refine ⟨v.toNat, h1, ?_, B1, by omega⟩
  have ve : ((v.toNat : Nat) : Int) = v := by omega
  unfold F_q_rests fnOfB b_q_rests startS hT
  simp [-List.map_map, ev_t4, ev_call, e1, ve]
end
end R
set_option exponentiation.threshold 10000
namespace R
open PySem PySem.Spec PyProof.Rows L2 CI
/-! ### what is found, as data -/
theorem toDs_ints : ∀ ns : List Int, toDs (ns.map Pv.int) = some (ns.map PyData.int)
  | [] => rfl
  | n :: ns => by
    show (match toD (Pv.int n), toDs (ns.map Pv.int) with | some d, some ds => some (d :: ds) | _, _ => none) = _
    rw [toDs_ints ns]; rfl
abbrev foundD (ns : List Int) (k : Int) : PyData := .tuple [.tuple (ns.map .int), .tuple [.int k]]
abbrev foundP (ns : List Int) (k : Int) : Pv := .tup [.tup (ns.map .int), .tup [.int k]]
theorem toD_found (ns : List Int) (k : Int) : toD (foundP ns k) = some (foundD ns k) := by
  have e : toD (Pv.tup (ns.map .int)) = some (.tuple (ns.map .int)) := by
    show (toDs (ns.map Pv.int)).map PyData.tuple = _
    rw [toDs_ints]; rfl
  show (toDs [Pv.tup (ns.map .int), Pv.tup [.int k]]).map PyData.tuple = _
  have e2 : toDs [Pv.tup (ns.map .int), Pv.tup [.int k]] = some [.tuple (ns.map .int), .tuple [.int k]] := by
    show (match toD (Pv.tup (ns.map .int)), toDs [Pv.tup [.int k]] with | some d, some ds => some (d :: ds) | _, _ => none) = _
    rw [e]; rfl
  rw [e2]; rfl
section
variable {ns : List Int}
theorem sh_ints (h : ∀ n ∈ ns, n.natAbs.log2 < 1920) : PyData.showableAll (ns.map .int) = true := by
  induction ns with
  | nil => rfl
  | cons n ns ih =>
    show (decide (n.natAbs.log2 < 1920) && PyData.showableAll (ns.map .int)) = true
    rw [decide_eq_true (h n (List.mem_cons_self ..)), ih fun m hm => h m (List.mem_cons_of_mem _ hm)]; rfl
theorem hd_ints : PyData.hasDictAll (ns.map .int) = false := by
  induction ns with
  | nil => rfl
  | cons n ns ih => show (PyData.hasDict (.int n) || PyData.hasDictAll (ns.map .int)) = false; rw [ih]; rfl
theorem dp_ints : PyData.depthAll (ns.map .int) = 0 := by
  induction ns with
  | nil => rfl
  | cons n ns ih => show max (PyData.depth (.int n)) (PyData.depthAll (ns.map .int)) = 0; rw [ih]; rfl
theorem lv_ints (h : ∀ n ∈ ns, n.natAbs.log2 < 1920) : PyData.leavesShortAll 1921 (ns.map .int) = true := by
  induction ns with
  | nil => rfl
  | cons n ns ih =>
    show (PyData.leavesShort 1921 (.int n) && PyData.leavesShortAll 1921 (ns.map .int)) = true
    rw [leaf_int (h n (List.mem_cons_self ..)), ih fun m hm => h m (List.mem_cons_of_mem _ hm)]; rfl
theorem bk_ints : PyData.bulkAll (ns.map .int) = ns.length := by
  induction ns with
  | nil => rfl
  | cons n ns ih => show PyData.bulk (.int n) + 1 + PyData.bulkAll (ns.map .int) = _; rw [ih, List.length_cons]; show 0 + 1 + ns.length = _; omega
theorem cl_ints : PyData.canLayAll0 (ns.map .int) = true := by
  induction ns with
  | nil => rfl
  | cons n ns ih => show (PyData.canLay0 (.int n) && PyData.canLayAll0 (ns.map .int)) = true; rw [ih]; rfl
end
theorem showOk_found {ns : List Int} {k : Int} (hn : ns.length ≤ 4) (h : ∀ n ∈ ns, n.natAbs < 2 ^ 1920) (hk : k.natAbs < 2 ^ 1920) : showOk (foundD ns k) = true := by
  have h1 : ∀ n ∈ ns, n.natAbs.log2 < 1920 := fun n m => log2_small (h n m) (by decide)
  have h2 := log2_small hk (by decide)
  have lv : PyData.leavesShort 1921 (foundD ns k) = true := by
    show (PyData.leavesShortAll 1921 (ns.map .int) && (PyData.leavesShortAll 1921 [.int k] && true)) = true
    rw [lv_ints h1]
    show (true && ((PyData.leavesShort 1921 (.int k) && true) && true)) = true
    rw [leaf_int h2]; rfl
  have sz := PyData.shown_le_bulk 1921 (by decide) (foundD ns k) lv
  have bk : (foundD ns k).bulk = ns.length + 3 := by
    show (PyData.bulkAll (ns.map .int) + 1 + (PyData.bulkAll [.int k] + 1 + 0)) = _
    rw [bk_ints]
    show ns.length + 1 + (1 + 1 + 0) = _
    omega
  rw [bk] at sz
  unfold showOk
  simp only [Bool.and_eq_true, decide_eq_true_eq, Bool.not_eq_true']
  refine ⟨⟨⟨?_, ?_⟩, ?_⟩, ?_⟩
  · show (PyData.showableAll (ns.map .int) && (PyData.showableAll [.int k] && true)) = true
    rw [sh_ints h1]
    show (true && ((decide (k.natAbs.log2 < 1920) && true) && true)) = true
    rw [decide_eq_true h2]; rfl
  · show (PyData.hasDictAll (ns.map .int) || (PyData.hasDictAll [.int k] || false)) = false
    rw [hd_ints]; rfl
  · show max (PyData.depthAll (ns.map .int) + 1) (max (PyData.depthAll [.int k] + 1) 0) + 1 ≤ 50
    rw [dp_ints]
    show max (0 + 1) (max (0 + 1) 0) + 1 ≤ 50
    decide
  · have : (1921 + 2) * (ns.length + 3) ≤ (1921 + 2) * 7 := Nat.mul_le_mul_left _ (by omega)
    omega
theorem rep_found {ns : List Int} {k : Int} {h : Hh} (hn : ns.length ≤ 4) (hs : ∀ n ∈ ns, n.natAbs < 2 ^ 1920) (hk : k.natAbs < 2 ^ 1920) : bRepr [.pv (foundP ns k)] h = .ok (.pv (.str (foundD ns k).shown)) h := ev_repr (toD_found ns k) (showOk_found hn hs hk)
theorem eq_self {p : Pv} {d : PyData} {h : Hh} (hd : toD p = some d) (hs : SeqAt.shaped d = true) (hc : d.canLay0 = true) (h2 : twoStr (.pv p) (.pv p) = none) : oEqN true (.pv p) (.pv p) h = .ok (.pv (.bl false)) h := by
  unfold oEqN
  rw [h2]
  show (match toD p, toD p with | some d, some e => if SeqAt.shaped d && SeqAt.shaped e then Res.ok (Va.pv (.bl (if true then !PyData.eqv d e else PyData.eqv d e))) h else Res.stuck | _, _ => Res.stuck) = _
  rw [hd]
  simp [hs, PySem.SeqAt.eqv_refl d hc]
theorem eq_found {ns : List Int} {k : Int} {h : Hh} : oEqN true (.pv (foundP ns k)) (.pv (foundP ns k)) h = .ok (.pv (.bl false)) h := by
  have cl : (foundD ns k).canLay0 = true := by
    show (PyData.canLayAll0 (ns.map .int) && (PyData.canLayAll0 [.int k] && true)) = true
    rw [cl_ints]; rfl
  refine eq_self (toD_found ns k) ?_ cl rfl
  unfold SeqAt.shaped
  rw [cl]
  have : (foundD ns k).depth ≤ 64 := by
    show max (PyData.depthAll (ns.map .int) + 1) (max (PyData.depthAll [.int k] + 1) 0) + 1 ≤ 64
    rw [dp_ints]
    show max (0 + 1) (max (0 + 1) 0) + 1 ≤ 64
    decide
  simp [this]
theorem eq_first {h : Hh} : oEqN true (.pv (.tup [.int 0])) (.pv (.tup [.int 0])) h = .ok (.pv (.bl false)) h := eq_self (d := .tuple [.int 0]) rfl (by rfl) (by rfl) rfl
end R
set_option exponentiation.threshold 10000
namespace R
open PySem PySem.Spec PyProof.Rows L2 CI
/-! ### how big what is passed on is -/
theorem addAt_le {cs : List Int} {j : Nat} {B : Int} (hB : 0 ≤ B) (h : ∀ x ∈ cs, x ≤ B) : ∀ x ∈ addAt cs j, x ≤ B + 1 := fun x hx => by
  unfold addAt at hx
  rcases List.mem_or_eq_of_mem_set hx with z | z
  · have := h x z; omega
  · rw [z, List.getD_eq_getElem?_getD]
    cases e : cs[j]? with
    | none => simp; omega
    | some v =>
      have := h v (List.mem_of_getElem? e)
      simp
      omega
theorem turnF_le {n : Nat} : ∀ (m k : Nat) (cs : List Int) (B : Int), 0 ≤ B → (∀ x ∈ cs, x ≤ B) → ∀ x ∈ turnF n k m cs, x ≤ B + m
  | 0, _, _, B, _, h => fun x hx => by have := h x hx; omega
  | m + 1, k, cs, B, hB, h => fun x hx => by
    have := turnF_le m (k + 1) _ (B + 1) (by omega) (addAt_le hB h) x hx
    omega
theorem coins_bnd {l : List Sh} (S : ShOk l) {c N : Int} (hc : 1 ≤ c) (hN : 0 ≤ N) (hb : N < 2 ^ 150) : ∀ x ∈ coins0 l N c, 0 ≤ x ∧ x ≤ 2 ^ 155 := fun x hx => by
  unfold coins0 at hx
  obtain ⟨s, hs, e⟩ := List.mem_map.mp hx
  have t1 := S.t1 s hs
  have u1 := S.u1 s hs
  have uc : 0 < s.u * c := Int.mul_pos (by omega) (by omega)
  have tN : 0 ≤ s.t * N := Int.mul_nonneg (by omega) hN
  have bt : (s.t * N).natAbs < 2 ^ (4 + 150) := mul_bnd (by omega) (by omega)
  have := fdiv_abs (t := s.t * N) uc
  have nn := fdiv_nn tN uc
  rw [← e, mc_down]
  refine ⟨nn, ?_⟩
  omega
theorem due_bnd {l : List Sh} (S : ShOk l) {N : Int} (hN : 0 ≤ N) (hb : N < 2 ^ 150) : ∀ x ∈ dueL l N, 0 ≤ x ∧ x < 2 ^ 170 := fun x hx => by
  unfold dueL at hx
  obtain ⟨s, hs, e⟩ := List.mem_map.mp hx
  have t1 := S.t1 s hs
  have u1 := S.u1 s hs
  obtain ⟨W0, _, W1⟩ := S.wh
  have tN : 0 ≤ s.t * N := Int.mul_nonneg (by omega) hN
  have bt : (s.t * N).natAbs < 2 ^ (4 + 150) := mul_bnd (by omega) (by omega)
  have f := fdiv_abs (t := wh l) (S := s.u) (by omega)
  have nn := fdiv_nn (a := wh l) (b := s.u) (by omega) (by omega)
  have b2 : (s.t * N * (wh l).fdiv s.u).natAbs < 2 ^ (154 + 15) := mul_bnd bt (by omega)
  have n2 := Int.mul_nonneg tN nn
  rw [← e]
  refine ⟨n2, ?_⟩
  omega
theorem sum_bnd {B : Int} : ∀ l : List Int, (∀ x ∈ l, 0 ≤ x ∧ x < B) → 0 ≤ l.sum ∧ l.sum ≤ B * l.length
  | [], _ => by simp
  | x :: l, h => by
    obtain ⟨a, b⟩ := sum_bnd l fun y hy => h y (List.mem_cons_of_mem _ hy)
    have := h x (List.mem_cons_self ..)
    rw [List.sum_cons, List.length_cons]
    have : B * ((l.length + 1 : Nat) : Int) = B * l.length + B := by
      rw [show ((l.length + 1 : Nat) : Int) = (l.length : Int) + 1 by omega, Int.mul_add, Int.mul_one]
    omega
theorem more_bnd {l : List Sh} (S : ShOk l) {c N : Int} {w : Str} (hc : 1 ≤ c) (hN : 0 ≤ N) (hb : N < 2 ^ 150) : moreT l N c w < 2 ^ 180 := by
  obtain ⟨W0, _, W1⟩ := S.wh
  have S0 : 0 < wh l * c := Int.mul_pos W0 (by omega)
  have s1 := sum_bnd _ (due_bnd S hN hb)
  have ll : (dueL l N).length ≤ 4 := by unfold dueL; rw [List.length_map]; exact S.n4
  have s2 := sum_nn (coins0 l N c) fun x hx => (coins_bnd S hc hN hb x hx).1
  have n := (mc_near (t := (dueL l N).sum) (w := w) S0).2
  have f := fdiv_abs (t := (dueL l N).sum) S0
  have : (2 ^ 170 : Int) * ((dueL l N).length : Int) ≤ 2 ^ 170 * 4 := Int.mul_le_mul_of_nonneg_left (by omega) (by decide)
  unfold moreT
  omega
theorem parts_bnd {l : List Sh} (S : ShOk l) {c N : Int} {w : Str} {k : Nat} (hc : 1 ≤ c ∧ c ≤ 12) (hN : 0 ≤ N) (hb : N < 2 ^ 150) : ∀ x ∈ partsT l N c w k, 0 ≤ x ∧ x < 2 ^ 190 := fun x hx => by
  unfold partsT at hx
  obtain ⟨v, hv, e⟩ := List.mem_map.mp hx
  have cb := coins_bnd S hc.1 hN hb
  have v0 := turnF_nn _ _ _ (fun x hx => (cb x hx).1) v hv
  have v1 := turnF_le _ _ _ (2 ^ 155) (by decide) (fun x hx => (cb x hx).2) v hv
  have m := more_bnd (w := w) S hc.1 hN hb
  have vb : v.natAbs < 2 ^ 181 := by omega
  have cv : (c * v).natAbs < 2 ^ (4 + 181) := mul_bnd (by omega) vb
  have n2 := Int.mul_nonneg (show 0 ≤ c by omega) v0
  have e : c * v = x := e
  rw [← e]
  exact ⟨n2, by omega⟩
theorem parts_len {l : List Sh} {c N : Int} {w : Str} {k : Nat} : (partsT l N c w k).length = l.length := by
  unfold partsT
  rw [List.length_map, turnF_len]
  unfold coins0
  rw [List.length_map]
theorem ints_pv {ns : List Int} : intsOf ((ns.map Pv.int).map Va.pv) = some ns := by
  induction ns with
  | nil => rfl
  | cons n ns ih =>
    show (intsOf ((ns.map Pv.int).map Va.pv)).map _ = _
    rw [ih]; rfl
theorem min_tup {ns : List Int} {h : Hh} (hn : ns ≠ []) : bMin [.pv (.tup (ns.map .int))] h = .ok (I (minI ns)) h := by
  show (match intsOf ((ns.map Pv.int).map Va.pv) with | some ns => if ns.isEmpty then Res.stuck else Res.ok (Va.pv (.int (minI ns))) h | none => Res.stuck) = _
  rw [ints_pv]
  cases ns with
  | nil => exact absurd rfl hn
  | cons n ns => rfl
theorem idx_t0 {a b : Pv} {h : Hh} : oIdx (.pv (.tup [a, b])) (I 0) h = .ok (.pv a) h := by rfl
end R
set_option exponentiation.threshold 10000
namespace R
open PySem PySem.Spec PyProof.Rows L2 CI
@[simp] theorem z1 : (("drop" : Str) = ("keep" : Str)) = False := eq_false (by decide +kernel)
@[simp] theorem z2 : (("drop" : Str) = ("hand" : Str)) = False := eq_false (by decide +kernel)
@[simp] theorem z3 : (("drop" : Str) = ("turn" : Str)) = False := eq_false (by decide +kernel)
@[simp] theorem z4 : (("keep" : Str) = ("drop" : Str)) = False := eq_false (by decide +kernel)
@[simp] theorem z5 : (("keep" : Str) = ("hand" : Str)) = False := eq_false (by decide +kernel)
@[simp] theorem z6 : (("keep" : Str) = ("turn" : Str)) = False := eq_false (by decide +kernel)
@[simp] theorem z7 : (("hand" : Str) = ("drop" : Str)) = False := eq_false (by decide +kernel)
@[simp] theorem z8 : (("hand" : Str) = ("keep" : Str)) = False := eq_false (by decide +kernel)
@[simp] theorem z9 : (("hand" : Str) = ("turn" : Str)) = False := eq_false (by decide +kernel)
@[simp] theorem ap_mbl (x y z : Va) : a_may_be_left 3 [] [x, y, z] [] = [x, y, z] := by rfl
@[simp] theorem ap_bykeep (x y z : Va) : a_by_keep 3 [] [x, y, z] [] = [x, y, z] := by rfl
@[simp] theorem ap_byhand (x y z : Va) : a_by_hand 3 [] [x, y, z] [] = [x, y, z] := by rfl
theorem z10 : ¬ ("even" : Str) = ("lower" : Str) := by decide +kernel
/-! ### what a house may keep -/
def LeftOk (r s : Int) (w : Str) : Prop := (w = ("down" : Str) → 0 ≤ r ∧ r < s) ∧ (w = ("up" : Str) → -s < r ∧ r ≤ 0) ∧ (w = ("upper" : Str) → -s ≤ 2 * r ∧ 2 * r < s) ∧ (w = ("lower" : Str) → -s < 2 * r ∧ 2 * r ≤ s) ∧ (w = ("even" : Str) → -s ≤ 2 * r ∧ 2 * r ≤ s)
theorem p_mbl {r s : Int} {w : Str} (hw : w ∈ five) (L : LeftOk r s w) : pcall F_may_be_left [.int r, .int s, .str w] = .ok (.bl true) := by
  refine pcall_of (h' := []) ?_
  obtain ⟨a, b, c, d, e⟩ := L
  have m : mulOk 2 r = true := mulOk_l (by decide)
  unfold F_may_be_left fnOfB b_may_be_left startS
  rcases in_five hw with rfl | rfl | rfl | rfl | rfl
  · obtain ⟨p, q⟩ := a rfl
    simp [dChn, p, q]
  · obtain ⟨p, q⟩ := b rfl
    simp [dChn, w1, w2, w3, w4, w5, w6, w7, w8, w9, w10, w11, w12, p, q]
  · obtain ⟨p, q⟩ := c rfl
    simp [dChn, w1, w2, w3, w4, w5, w6, w7, w8, w9, w10, w11, w12, m, p, q]
  · obtain ⟨p, q⟩ := d rfl
    simp [dChn, w1, w2, w3, w4, w5, w6, w7, w8, w9, w10, w11, w12, m, p, q]
  · obtain ⟨p, q⟩ := e rfl
    simp [dChn, z10, w1, w2, w3, w4, w5, w6, w7, w8, w9, w10, w11, w12, m, p, q]
/-- the sizes of a house's rests -/
def szs (c : Int) (y : Str) (l : List Sh) : List Int := if y = ("keep" : Str) then l.map (fun x => c * x.u) else if y = ("hand" : Str) then [c * wh l] else []
section
variable {c : Int} {w y : Str} {l : List Sh}
theorem szs_len (S : ShOk l) : (szs c y l).length ≤ 4 := by
  unfold szs
  split
  · rw [List.length_map]; exact S.n4
  · split <;> simp
theorem mw_whole (S : ShOk l) (s : Sl) (h : Hh) (hs : s[0]? = some (some (.pv (hI c w y l)))) : dMeth [(("House" : Str), (true, R.F_House_whole, R.a_House_whole 1 []))] ("whole" : Str) 0 0 (dVar 0) daNil daNil s h = .ok (.pv (.int (wh l))) h := by
  rw [ev_meth (h := h) c w y l (by simp [hs]) m_whole]
  simp [callM_p (ps := [hI c w y l]) (ap_hwhole _), p_hwhole S]
theorem p_sizes (S : ShOk l) (hc : 1 ≤ c ∧ c ≤ 12) (hy : y = ("drop" : Str) ∨ y = ("keep" : Str) ∨ y = ("hand" : Str)) : pcall F_House_sizes [hI c w y l] = .ok (.lst ((szs c y l).map .int)) := by
  refine pcall_of (h' := []) ?_
  have n6 := len6 S.n4
  have m : ∀ x, mulOk c x = true := fun x => mulOk_l (by omega)
  unfold F_House_sizes fnOfB b_House_sizes startS szs
  rcases hy with rfl | rfl | rfl
  · simp
  · have c3 : ∀ (x1 x2 x3 : Option Va), compL (gTu 3 (gsCons (gNm 1) (gsCons (gNm 2) (gsCons (gNm 3) gsNil)))) tYesD (dBin oMul (dAttr [("House" : Str)] ("coin" : Str) (dVar 0)) (dVar 3)) [some (.pv (hI c w ("keep" : Str) l)), x1, x2, x3] ((l.map shP).map Va.pv) [] [] = .ok (.pv (.lst ((l.map fun x => c * x.u).map .int))) [] := fun x1 x2 x3 => by
      rw [comp_sh (fun x => .int (c * x.u)) fun x hx => by simp [m], List.map_map]; rfl
    simp [-List.map_map, n6, c3]
  · have mw := mw_whole (c := c) (w := w) (y := ("hand" : Str)) S
    simp [mw, m]
theorem p_first (S : ShOk l) (hc : 1 ≤ c ∧ c ≤ 12) (hy : y = ("drop" : Str) ∨ y = ("keep" : Str) ∨ y = ("hand" : Str)) : pcall F_House_first [hI c w y l] = .ok (.tup ((szs c y l).map fun _ => .int 0)) := by
  refine pcall_of (h' := []) ?_
  have z := p_sizes (w := w) S hc hy
  have l4 := szs_len (c := c) (y := y) S
  have l6 : (szs c y l).length ≤ 1000000 := by omega
  have mz : ∀ (s : Sl) (h : Hh), s[0]? = some (some (.pv (hI c w y l))) → dMeth [(("House" : Str), (true, R.F_House_sizes, R.a_House_sizes 1 []))] ("sizes" : Str) 0 0 (dVar 0) daNil daNil s h = .ok (.pv (.lst ((szs c y l).map .int))) h := fun s h hs => by
    rw [ev_meth (h := h) c w y l (by simp [hs]) m_sizes]
    simp [callM_p (ps := [hI c w y l]) (ap_hsizes _), z]
  have cm : ∀ (x0 x1 : Option Va), compL (gNm 1) tYesD (dC (.int 0)) [x0, x1] (((szs c y l).map .int).map Va.pv) [] [] = .ok (.pv (.lst ((szs c y l).map fun _ => .int 0))) [] := fun x0 x1 => by
    rw [List.map_map]
    exact comp_map (t := gNm 1) (d := dC (.int 0)) (s := [x0, x1]) (h := []) (Va.pv ∘ Pv.int) (fun v => .int 0) (szs c y l) [] fun v _ => ⟨_, rfl, rfl⟩
  have nt : (y = ("turn" : Str)) = False := eq_false (by rcases hy with rfl | rfl | rfl <;> simp)
  unfold F_House_first fnOfB b_House_first startS
  simp [-List.map_map, mz, l6, cm, nt]
theorem mf_ (S : ShOk l) (hc : 1 ≤ c ∧ c ≤ 12) (hy : y = ("drop" : Str) ∨ y = ("keep" : Str) ∨ y = ("hand" : Str)) (s : Sl) (h : Hh) (hs : s[0]? = some (some (.pv (hI c w y l)))) : dMeth [(("House" : Str), (true, R.F_House_first, R.a_House_first 1 []))] ("first" : Str) 0 0 (dVar 0) daNil daNil s h = .ok (.pv (.tup ((szs c y l).map fun _ => .int 0))) h := by
  rw [ev_meth (h := h) c w y l (by simp [hs]) m_first]
  simp [callM_p (ps := [hI c w y l]) (ap_hfirst _), p_first S hc hy]
theorem zipA_ints : ∀ (xs ys : List Int), zipA (xs.map .int) (ys.map .int) = (xs.zip ys).map fun q => .pv (.tup [.int q.1, .int q.2])
  | [], _ => by simp [zipA]
  | _ :: _, [] => by simp [zipA]
  | x :: xs, y :: ys => by
    rw [List.map_cons, List.map_cons, zipA, zipA_ints xs ys]; rfl
theorem p_rests_of (S : ShOk l) (hc : 1 ≤ c ∧ c ≤ 12) (hw : w ∈ five) (hy : y = ("drop" : Str) ∨ y = ("keep" : Str) ∨ y = ("hand" : Str)) {K : List Int} (hl : K.length = (szs c y l).length) (ok : ∀ q ∈ K.zip (szs c y l), LeftOk q.1 q.2 w) :
    pcall F_House_are_rests [hI c w y l, .tup (K.map .int)] = .ok (.bl true) := by
  refine pcall_of (h' := []) ?_
  have mf := mf_ (w := w) S hc hy
  have z := p_sizes (w := w) S hc hy
  have l4 := szs_len (c := c) (y := y) S
  have l6 : K.length ≤ 1000000 := by omega
  have mz : ∀ (s : Sl) (h : Hh), s[0]? = some (some (.pv (hI c w y l))) → dMeth [(("House" : Str), (true, R.F_House_sizes, R.a_House_sizes 1 []))] ("sizes" : Str) 0 0 (dVar 0) daNil daNil s h = .ok (.pv (.lst ((szs c y l).map .int))) h := fun s h hs => by
    rw [ev_meth (h := h) c w y l (by simp [hs]) m_sizes]
    simp [callM_p (ps := [hI c w y l]) (ap_hsizes _), z]
  have nt : (y = ("turn" : Str)) = False := eq_false (by rcases hy with rfl | rfl | rfl <;> simp)
  have c1 : ∀ (x0 x1 x2 x3 : Option Va), compL (gNm 2) tYesD (dCallP R.F_is_whole 1 0 (R.a_is_whole 1 []) (daCons (dVar 2) daNil) daNil) [x0, x1, x2, x3] ((K.map .int).map Va.pv) [] [] = .ok (.pv (.lst (K.map fun _ => .bl true))) [] := fun x0 x1 x2 x3 => by
    rw [List.map_map]
    exact comp_map (t := gNm 2) (d := dCallP R.F_is_whole 1 0 (R.a_is_whole 1 []) (daCons (dVar 2) daNil) daNil) (s := [x0, x1, x2, x3]) (h := []) (Va.pv ∘ Pv.int) (fun v => .bl true) K [] fun v _ => ⟨_, rfl, by simp [ev_callP, p_whole_i]⟩
  have zl : (zipA (K.map .int) ((szs c y l).map .int)).length ≤ 1000000 := by
    rw [zipA_len (by rw [List.length_map, List.length_map, hl]), List.length_map]; exact l6
  have it : ∀ (s : Sl), s[0]? = some (some (.pv (hI c w y l))) → s[1]? = some (some (.pv (.tup (K.map .int)))) → iZipS (daCons (dVar 1) (daCons (dMeth [(("House" : Str), (true, R.F_House_sizes, R.a_House_sizes 1 []))] ("sizes" : Str) 0 0 (dVar 0) daNil daNil) daNil)) (daCons (dC (.bl true)) daNil) s [] = .ok (zipA (K.map .int) ((szs c y l).map .int)) [] := fun s h0 h1 => by
    have e : (daCons (dVar 1) (daCons (dMeth [(("House" : Str), (true, R.F_House_sizes, R.a_House_sizes 1 []))] ("sizes" : Str) 0 0 (dVar 0) daNil daNil) daNil)) s [] = .ok [.pv (.tup (K.map .int)), .pv (.lst ((szs c y l).map .int))] [] := by
      simp [h1, mz s [] h0]
    unfold iZipS
    rw [e]
    simp only [ev_bind_ok, ev_cons, ev_C, ev_nil, give_pv, seqB]
    rw [if_pos (by rw [List.length_map, List.length_map, hl])]
  have c2 : ∀ (x1 x2 x3 : Option Va), compL (gTu 2 (gsCons (gNm 2) (gsCons (gNm 3) gsNil))) tYesD (dCallP R.F_may_be_left 3 0 (R.a_may_be_left 3 []) (daCons (dVar 2) (daCons (dVar 3) (daCons (dAttr [("House" : Str)] ("rule" : Str) (dVar 0)) daNil))) daNil) [some (.pv (hI c w y l)), x1, x2, x3] (zipA (K.map .int) ((szs c y l).map .int)) [] [] = .ok (.pv (.lst ((K.zip (szs c y l)).map fun _ => .bl true))) [] := fun x1 x2 x3 => by
    rw [zipA_ints]
    exact comp_map (t := gTu 2 (gsCons (gNm 2) (gsCons (gNm 3) gsNil))) (d := dCallP R.F_may_be_left 3 0 (R.a_may_be_left 3 []) (daCons (dVar 2) (daCons (dVar 3) (daCons (dAttr [("House" : Str)] ("rule" : Str) (dVar 0)) daNil))) daNil) (s := [some (.pv (hI c w y l)), x1, x2, x3]) (h := []) (fun q => .pv (.tup [.int q.1, .int q.2])) (fun v => .bl true) (K.zip (szs c y l)) [] fun q hq => ⟨[some (.pv (hI c w y l)), x1, some (I q.1), some (I q.2)], by simp, by simp [ev_callP, p_mbl hw (ok q hq)]⟩
  unfold F_House_are_rests fnOfB b_House_are_rests startS
  have l7 : (szs c y l).length ≤ 1000000 := by omega
  simp [-List.map_map, isiTab, mf, hl, l7, c1, all_true, nt, it, zl, c2]
end
end R
set_option exponentiation.threshold 10000
namespace R
open PySem PySem.Spec PyProof.Rows L2 CI
/-- what no rests of such a house are -/
def badN (n : Nat) (p : Pv) : Prop := p = .non ∨ (∃ ps, p = .tup ps ∧ ps.length ≠ n) ∨ (∃ ps, p = .lst ps) ∨ p = .tup [.non] ∨ (∃ s, p = .str s)
section
variable {c : Int} {w y : Str} {l : List Sh}
theorem p_rests_badN (S : ShOk l) (hc : 1 ≤ c ∧ c ≤ 12) (hy : y = ("drop" : Str) ∨ y = ("keep" : Str) ∨ y = ("hand" : Str)) {p : Pv} (hb : badN (szs c y l).length p) : pcall F_House_are_rests [hI c w y l, p] = .ok (.bl false) := by
  refine pcall_of (h' := []) ?_
  have mf := mf_ (w := w) S hc hy
  have tn : ∀ ps : List Pv, ps.length ≠ (szs c y l).length → fnOfB 4 b_House_are_rests ([hI c w y l, .tup ps].map Va.pv) [] = .ok (.pv (.bl false)) [] := fun ps hn => by
    have hn' : ¬ ((ps.length : Int) = ((szs c y l).length : Int)) := by omega
    unfold fnOfB b_House_are_rests startS
    simp [isiTab, mf, hn']
  unfold F_House_are_rests
  rcases hb with rfl | ⟨ps, rfl, hn⟩ | ⟨ps, rfl⟩ | rfl | ⟨s, rfl⟩
  · unfold fnOfB b_House_are_rests startS
    simp [isiTab]
  · exact tn ps hn
  · unfold fnOfB b_House_are_rests startS
    simp [isiTab]
  · by_cases z : (szs c y l).length = 1
    · unfold fnOfB b_House_are_rests startS
      simp [isiTab, mf, z, ev_callP, compL, p_whole_n, bAll, blsOf]
    · exact tn [.non] fun e => z e.symm
  · unfold fnOfB b_House_are_rests startS
    simp [isiTab]
theorem mr_ {p : Pv} {b : Bool} (e : pcall F_House_are_rests [hI c w y l, p] = .ok (.bl b)) (s : Sl) (h : Hh) (hs : s[0]? = some (some (.pv (hI c w y l)))) (h2 : s[2]? = some (some (.pv p))) :
    dMeth [(("House" : Str), (true, R.F_House_are_rests, R.a_House_are_rests 2 []))] ("are_rests" : Str) 1 0 (dVar 0) (daCons (dVar 2) daNil) daNil s h = .ok (.pv (.bl b)) h := by
  rw [ev_meth (h := h) c w y l (by simp [hs]) m_rests]
  simp [h2, callM_p (ps := [hI c w y l, p]) (ap_hrests _ _), e]
theorem p_pass_badN (S : ShOk l) (hc : 1 ≤ c ∧ c ≤ 12) (hy : y = ("drop" : Str) ∨ y = ("keep" : Str) ∨ y = ("hand" : Str)) {p : Pv} {N : Int} (hb : badN (szs c y l).length p) : F_House_pass_on [.pv (hI c w y l), I N, .pv p] [] = .exc ("NoRests" : Str) [] [] := by
  have e := mr_ (p_rests_badN (w := w) S hc hy hb)
  unfold F_House_pass_on fnOfB b_House_pass_on startS
  simp [e]
  rfl
/-- the deed of a way -/
noncomputable def deedOf (y : Str) : MtE := if y = ("drop" : Str) then (true, R.F_by_drop, R.a_by_drop 3 []) else if y = ("keep" : Str) then (true, R.F_by_keep, R.a_by_keep 3 []) else (true, R.F_by_hand, R.a_by_hand 3 [])
theorem p_pass_of (hy : y = ("drop" : Str) ∨ y = ("keep" : Str) ∨ y = ("hand" : Str)) {N : Int} {K K' ps : List Int} (er : pcall F_House_are_rests [hI c w y l, .tup (K.map .int)] = .ok (.bl true))
    (eb : pcall (deedOf y).2.1 [hI c w y l, .int N, .tup (K.map .int)] = .ok (.tup [.lst (ps.map .int), .tup (K'.map .int)])) (hl : ps.length ≤ 16777216) :
    pcall F_House_pass_on [hI c w y l, .int N, .tup (K.map .int)] = .ok (.tup [.tup (ps.map .int), .tup (K'.map .int)]) := by
  refine pcall_of (h' := []) ?_
  have e := mr_ er
  have main : ∀ (fn : Str), dTab [(("drop" : Str), ("by_drop" : Str)), (("keep" : Str), ("by_keep" : Str)), (("hand" : Str), ("by_hand" : Str)), (("turn" : Str), ("by_turn" : Str))] (dAttr [("House" : Str)] ("way" : Str) (dVar 0)) [some (.pv (hI c w y l)), some (I N), some (.pv (.tup (K.map .int))), none, none, none] [] = .ok (.pv (.fn fn)) [] →
      ([(("by_drop" : Str), (true, R.F_by_drop, R.a_by_drop 3 [])), (("by_keep" : Str), (true, R.F_by_keep, R.a_by_keep 3 [])), (("by_hand" : Str), (true, R.F_by_hand, R.a_by_hand 3 [])), (("by_turn" : Str), (true, R.F_by_turn, R.a_by_turn 3 []))] : List (Str × MtE)).lookup fn = some (deedOf y) →
      (deedOf y).1 = true → (deedOf y).2.2 [.pv (hI c w y l), I N, .pv (.tup (K.map .int))] [] = [hI c w y l, .int N, .tup (K.map .int)].map .pv →
      F_House_pass_on ([hI c w y l, .int N, .tup (K.map .int)].map .pv) [] = .ok (.pv (.tup [.tup (ps.map .int), .tup (K'.map .int)])) [] := fun fn tb lk f1 as => by
    have cl : ∀ h : Hh, dCallV 3 [(("by_drop" : Str), (true, R.F_by_drop, R.a_by_drop 3 [])), (("by_keep" : Str), (true, R.F_by_keep, R.a_by_keep 3 [])), (("by_hand" : Str), (true, R.F_by_hand, R.a_by_hand 3 [])), (("by_turn" : Str), (true, R.F_by_turn, R.a_by_turn 3 []))] 3 (daCons (dVar 0) (daCons (dVar 1) (daCons (dVar 2) daNil))) [some (.pv (hI c w y l)), some (I N), some (.pv (.tup (K.map .int))), some (.pv (.fn fn)), none, none] h = .ok (.pv (.tup [.lst (ps.map .int), .tup (K'.map .int)])) h := fun h => by
      unfold dCallV
      simp only [List.getElem?_cons_succ, List.getElem?_cons_zero, lk, ev_cons, ev_var, ev_bind_ok, ev_nil, List.length_cons, List.length_nil]
      rw [if_pos trivial]
      have : deedOf y = (true, (deedOf y).2.1, (deedOf y).2.2) := by rw [← f1]
      rw [this]
      show callM (true, (deedOf y).2.1, (deedOf y).2.2) (.pv (hI c w y l)) [I N, .pv (.tup (K.map .int))] [] h = _
      rw [callM_p (ps := [hI c w y l, .int N, .tup (K.map .int)]) as, eb]
      rfl
    unfold F_House_pass_on fnOfB b_House_pass_on startS
    simp [-List.map_map, e, tb, cl]
  rcases hy with rfl | rfl | rfl
  · refine main ("by_drop" : Str) ?_ (by rfl) (by rfl) (by rfl)
    unfold dTab
    simp only [ev_attr, ev_var, List.getElem?_cons_zero, ev_bind_ok, a_way]
    rfl
  · refine main ("by_keep" : Str) ?_ (by rfl) (by rfl) (by rfl)
    unfold dTab
    simp only [ev_attr, ev_var, List.getElem?_cons_zero, ev_bind_ok, a_way]
    rfl
  · refine main ("by_hand" : Str) ?_ (by rfl) (by rfl) (by rfl)
    unfold dTab
    simp only [ev_attr, ev_var, List.getElem?_cons_zero, ev_bind_ok, a_way]
    rfl
end
/-! ### what is found, as data -/
abbrev found2D (ns ks : List Int) : PyData := .tuple [.tuple (ns.map .int), .tuple (ks.map .int)]
abbrev found2P (ns ks : List Int) : Pv := .tup [.tup (ns.map .int), .tup (ks.map .int)]
theorem toD_found2 (ns ks : List Int) : toD (found2P ns ks) = some (found2D ns ks) := by
  have e : ∀ ns : List Int, toD (Pv.tup (ns.map .int)) = some (.tuple (ns.map .int)) := fun ns => by
    show (toDs (ns.map Pv.int)).map PyData.tuple = _
    rw [toDs_ints]; rfl
  show (toDs [Pv.tup (ns.map .int), Pv.tup (ks.map .int)]).map PyData.tuple = _
  have e3 : toDs [Pv.tup (ks.map .int)] = some [.tuple (ks.map .int)] := by
    show (match toD (Pv.tup (ks.map .int)), toDs [] with | some d, some ds => some (d :: ds) | _, _ => none) = _
    rw [e]; rfl
  have e2 : toDs [Pv.tup (ns.map .int), Pv.tup (ks.map .int)] = some [.tuple (ns.map .int), .tuple (ks.map .int)] := by
    show (match toD (Pv.tup (ns.map .int)), toDs [Pv.tup (ks.map .int)] with | some d, some ds => some (d :: ds) | _, _ => none) = _
    rw [e, e3]
  rw [e2]; rfl
theorem showOk_found2 {ns ks : List Int} (hn : ns.length ≤ 4) (hk : ks.length ≤ 4) (h : ∀ n ∈ ns, n.natAbs < 2 ^ 1920) (h' : ∀ n ∈ ks, n.natAbs < 2 ^ 1920) : showOk (found2D ns ks) = true := by
  have h1 : ∀ n ∈ ns, n.natAbs.log2 < 1920 := fun n m => log2_small (h n m) (by decide)
  have h2 : ∀ n ∈ ks, n.natAbs.log2 < 1920 := fun n m => log2_small (h' n m) (by decide)
  have lv : PyData.leavesShort 1921 (found2D ns ks) = true := by
    show (PyData.leavesShortAll 1921 (ns.map .int) && (PyData.leavesShortAll 1921 (ks.map .int) && true)) = true
    rw [lv_ints h1, lv_ints h2]; rfl
  have sz := PyData.shown_le_bulk 1921 (by decide) (found2D ns ks) lv
  have bk : (found2D ns ks).bulk = ns.length + ks.length + 2 := by
    show (PyData.bulkAll (ns.map .int) + 1 + (PyData.bulkAll (ks.map .int) + 1 + 0)) = _
    rw [bk_ints, bk_ints]
    omega
  rw [bk] at sz
  unfold showOk
  simp only [Bool.and_eq_true, decide_eq_true_eq, Bool.not_eq_true']
  refine ⟨⟨⟨?_, ?_⟩, ?_⟩, ?_⟩
  · show (PyData.showableAll (ns.map .int) && (PyData.showableAll (ks.map .int) && true)) = true
    rw [sh_ints h1, sh_ints h2]; rfl
  · show (PyData.hasDictAll (ns.map .int) || (PyData.hasDictAll (ks.map .int) || false)) = false
    rw [hd_ints, hd_ints]; rfl
  · show max (PyData.depthAll (ns.map .int) + 1) (max (PyData.depthAll (ks.map .int) + 1) 0) + 1 ≤ 50
    rw [dp_ints, dp_ints]
    decide
  · have : (1921 + 2) * (ns.length + ks.length + 2) ≤ (1921 + 2) * 10 := Nat.mul_le_mul_left _ (by omega)
    omega
theorem rep_found2 {ns ks : List Int} {h : Hh} (hn : ns.length ≤ 4) (hk : ks.length ≤ 4) (hs : ∀ n ∈ ns, n.natAbs < 2 ^ 1920) (hs' : ∀ n ∈ ks, n.natAbs < 2 ^ 1920) : bRepr [.pv (found2P ns ks)] h = .ok (.pv (.str (found2D ns ks).shown)) h := ev_repr (toD_found2 ns ks) (showOk_found2 hn hk hs hs')
theorem eq_found2 {ns ks : List Int} {h : Hh} : oEqN true (.pv (found2P ns ks)) (.pv (found2P ns ks)) h = .ok (.pv (.bl false)) h := by
  have cl : (found2D ns ks).canLay0 = true := by
    show (PyData.canLayAll0 (ns.map .int) && (PyData.canLayAll0 (ks.map .int) && true)) = true
    rw [cl_ints, cl_ints]; rfl
  refine eq_self (toD_found2 ns ks) ?_ cl rfl
  unfold SeqAt.shaped
  rw [cl]
  have : (found2D ns ks).depth ≤ 64 := by
    show max (PyData.depthAll (ns.map .int) + 1) (max (PyData.depthAll (ks.map .int) + 1) 0) + 1 ≤ 64
    rw [dp_ints, dp_ints]
    decide
  simp [this]
theorem eq_tup {ks : List Int} {h : Hh} : oEqN true (.pv (.tup (ks.map .int))) (.pv (.tup (ks.map .int))) h = .ok (.pv (.bl false)) h := by
  have e : toD (Pv.tup (ks.map .int)) = some (.tuple (ks.map .int)) := by
    show (toDs (ks.map Pv.int)).map PyData.tuple = _
    rw [toDs_ints]; rfl
  have cl : (PyData.tuple (ks.map .int)).canLay0 = true := cl_ints
  refine eq_self e ?_ cl rfl
  unfold SeqAt.shaped
  rw [cl]
  have : (PyData.tuple (ks.map .int)).depth ≤ 64 := by
    show PyData.depthAll (ks.map .int) + 1 ≤ 64
    rw [dp_ints]
    decide
  simp [this]
end R
set_option exponentiation.threshold 10000
namespace R
open PySem PySem.Spec PyProof.Rows L2 CI
@[simp] theorem ev_mulT {x : Pv} {k : Int} {h : Hh} : oMulG (.pv (.tup [x])) (I k) h = if k = 1 then .ok (.pv (.tup [x])) h else if 2 ≤ k ∧ k ≤ 1000 then .ok (.pv (.tup (repL k [x]))) h else .stuck := by
  show (if k = 1 then Res.ok (Va.pv (.tup [x])) h else if 2 ≤ k ∧ k ≤ 1000 ∧ [x].length ≤ 1000 ∧ [x] ≠ [] then Res.ok (Va.pv (.tup (repL k [x]))) h else Res.stuck) = _
  simp
@[simp] theorem ev_mulL {x : Pv} {k : Int} {h : Hh} : oMulG (.pv (.lst [x])) (I k) h = if k ≤ 1000 ∧ -1000 ≤ k then .ok (.pv (.lst (repL k [x]))) h else .stuck := by
  show (if k ≤ 1000 ∧ [x].length ≤ 1000 ∧ -1000 ≤ k then Res.ok (Va.pv (.lst (repL k [x]))) h else Res.stuck) = _
  simp
theorem rep_one {x : Pv} (n : Nat) : repL (n : Int) [x] = List.replicate n x := by
  unfold repL
  rw [Int.toNat_natCast]
  induction n with
  | zero => rfl
  | succ n ih => rw [List.replicate_succ, List.flatten_cons, ih]; rfl
section
variable {c : Int} {w y : Str} {l : List Sh}
theorem szs_bnd (S : ShOk l) (hc : 1 ≤ c ∧ c ≤ 12) : ∀ s ∈ szs c y l, 1 ≤ s ∧ s ≤ 248832 := fun s hs => by
  obtain ⟨W0, _, W1⟩ := S.wh
  unfold szs at hs
  split at hs
  · obtain ⟨x, hx, e⟩ := List.mem_map.mp hs
    have u1 := S.u1 x hx
    have e : c * x.u = s := e
    have : c * 1 ≤ c * x.u := Int.mul_le_mul_of_nonneg_left u1.1 (by omega)
    have : c * x.u ≤ c * 12 := Int.mul_le_mul_of_nonneg_left u1.2 (by omega)
    omega
  · split at hs
    · have e := List.mem_singleton.mp hs
      have : c * 1 ≤ c * wh l := Int.mul_le_mul_of_nonneg_left (by omega) (by omega)
      have : c * wh l ≤ c * 20736 := Int.mul_le_mul_of_nonneg_left W1 (by omega)
      omega
    · cases hs
/-- what a house may keep -/
structure Kept (c : Int) (w y : Str) (l : List Sh) (K : List Int) : Prop where
  len : K.length = (szs c y l).length
  ok : ∀ q ∈ K.zip (szs c y l), LeftOk q.1 q.2 w
theorem leftOk_bnd {r s : Int} (hw : w ∈ five) (hs : 1 ≤ s ∧ s ≤ 248832) (L : LeftOk r s w) : r.natAbs ≤ 248832 := by
  obtain ⟨a, b, c, d, e⟩ := L
  rcases in_five hw with rfl | rfl | rfl | rfl | rfl
  · have := a rfl; omega
  · have := b rfl; omega
  · have := c rfl; omega
  · have := d rfl; omega
  · have := e rfl; omega
theorem leftOk0 {s : Int} (hs : 1 ≤ s) : LeftOk 0 s w := ⟨fun _ => by omega, fun _ => by omega, fun _ => by omega, fun _ => by omega, fun _ => by omega⟩
theorem Kept.bnd {K : List Int} (k : Kept c w y l K) (S : ShOk l) (hc : 1 ≤ c ∧ c ≤ 12) (hw : w ∈ five) : ∀ r ∈ K, r.natAbs ≤ 248832 := fun r hr => by
  obtain ⟨i, hi, e⟩ := List.mem_iff_getElem.mp hr
  have hi2 : i < (szs c y l).length := by rw [← k.len]; exact hi
  have hz : i < (K.zip (szs c y l)).length := by rw [List.length_zip]; omega
  have m := List.getElem_mem hz
  rw [List.getElem_zip] at m
  have := k.ok _ m
  exact leftOk_bnd hw (szs_bnd S hc _ (List.getElem_mem hi2)) (by rw [← e]; exact this)
theorem kept0 (S : ShOk l) (hc : 1 ≤ c ∧ c ≤ 12) : Kept c w y l ((szs c y l).map fun _ => 0) where
  len := by rw [List.length_map]
  ok := fun q hq => by
    obtain ⟨a, b⟩ := List.of_mem_zip hq
    obtain ⟨_, _, e⟩ := List.mem_map.mp a
    rw [← e]
    exact leftOk0 (szs_bnd S hc _ b).1
theorem p_qsizes (S : ShOk l) (hc : 1 ≤ c ∧ c ≤ 12) (hy : y = ("drop" : Str) ∨ y = ("keep" : Str) ∨ y = ("hand" : Str)) : pcall F_q_sizes [hT c w y l] = .ok (.lst ((szs c y l).map .int)) := by
  refine pcall_of (h' := []) ?_
  have n6 := len6 S.n4
  have m : ∀ x, mulOk c x = true := fun x => mulOk_l (by omega)
  have hw := p_qwhole (l := l) S.u1
  have t1 : ∀ (h : Hh), oIdx (.pv (hT c w y l)) (I 1) h = .ok (.pv (.tup (l.map shP))) h := fun h => by rfl
  have t2 : ∀ (h : Hh), oIdx (.pv (hT c w y l)) (I 2) h = .ok (I c) h := fun h => by rfl
  have t4 : ∀ (h : Hh), oIdx (.pv (hT c w y l)) (I 4) h = .ok (.pv (.str y)) h := fun h => by rfl
  unfold F_q_sizes fnOfB b_q_sizes startS szs
  rcases hy with rfl | rfl | rfl
  · simp [-List.map_map, t1, t2, t4, ev_callP, hw, m]
    rfl
  · have c3 : ∀ (x1 x2 x3 : Option Va), compL (gTu 3 (gsCons (gNm 1) (gsCons (gNm 2) (gsCons (gNm 3) gsNil)))) tYesD (dBin oMul (dBin oIdx (dVar 0) (dC (.int 2))) (dVar 3)) [some (.pv (hT c w ("keep" : Str) l)), x1, x2, x3] ((l.map shP).map Va.pv) [] [] = .ok (.pv (.lst ((l.map fun x => c * x.u).map .int))) [] := fun x1 x2 x3 => by
      rw [comp_sh (fun x => .int (c * x.u)) fun x hx => by simp [t2, m], List.map_map]; rfl
    simp [-List.map_map, t1, t2, t4, n6, c3]
  · simp [-List.map_map, t1, t2, t4, ev_callP, hw, m]
    rfl
theorem p_qfirst_of (S : ShOk l) (hy : y = ("drop" : Str) ∨ y = ("keep" : Str) ∨ y = ("hand" : Str)) : pcall F_q_first [hT c w y l] = .ok (.tup (((szs c y l).map fun _ => (0 : Int)).map .int)) := by
  refine pcall_of (h' := []) ?_
  have n4 := S.n4
  have n0 : 0 < l.length := List.length_pos_iff.mpr S.n0
  have t1 : ∀ (h : Hh), oIdx (.pv (hT c w y l)) (I 1) h = .ok (.pv (.tup (l.map shP))) h := fun h => by rfl
  have t4 : ∀ (h : Hh), oIdx (.pv (hT c w y l)) (I 4) h = .ok (.pv (.str y)) h := fun h => by rfl
  unfold F_q_first fnOfB b_q_first startS szs
  rcases hy with rfl | rfl | rfl
  · simp [-List.map_map, t1, t4]
  · have rp : repL (l.length : Int) [Pv.int 0] = l.map fun _ => Pv.int 0 := by
      rw [rep_one]
      exact List.map_const' .. |>.symm
    have e0 : ((l.map fun x => c * x.u).map fun _ => (0 : Int)).map Pv.int = l.map fun _ => Pv.int 0 := by rw [List.map_map, List.map_map]; rfl
    simp [-List.map_map, t1, t4, rp, e0]
    by_cases z : l.length = 1
    · have : l.map (fun _ => Pv.int 0) = [.int 0] := by
        rw [← rp, z]; rfl
      simp [z, this]
    · have z1 : ¬ (l.length : Int) = 1 := by omega
      have z2 : 2 ≤ (l.length : Int) ∧ (l.length : Int) ≤ 1000 := by omega
      simp [z1, z2]
  · simp [-List.map_map, t1, t4]
/-! ### rests drawn -/
theorem f5_1 : ((("down" : Str)) = ("up" : Str)) = False := eq_false (by decide +kernel)
theorem f5_2 : ((("down" : Str)) = ("upper" : Str)) = False := eq_false (by decide +kernel)
theorem f5_3 : ((("down" : Str)) = ("lower" : Str)) = False := eq_false (by decide +kernel)
theorem f5_4 : ((("down" : Str)) = ("even" : Str)) = False := eq_false (by decide +kernel)
theorem f5_5 : ((("up" : Str)) = ("down" : Str)) = False := eq_false (by decide +kernel)
theorem f5_6 : ((("up" : Str)) = ("upper" : Str)) = False := eq_false (by decide +kernel)
theorem f5_7 : ((("up" : Str)) = ("lower" : Str)) = False := eq_false (by decide +kernel)
theorem f5_8 : ((("up" : Str)) = ("even" : Str)) = False := eq_false (by decide +kernel)
theorem f5_9 : ((("upper" : Str)) = ("down" : Str)) = False := eq_false (by decide +kernel)
theorem f5_10 : ((("upper" : Str)) = ("up" : Str)) = False := eq_false (by decide +kernel)
theorem f5_11 : ((("upper" : Str)) = ("lower" : Str)) = False := eq_false (by decide +kernel)
theorem f5_12 : ((("upper" : Str)) = ("even" : Str)) = False := eq_false (by decide +kernel)
theorem f5_13 : ((("lower" : Str)) = ("down" : Str)) = False := eq_false (by decide +kernel)
theorem f5_14 : ((("lower" : Str)) = ("up" : Str)) = False := eq_false (by decide +kernel)
theorem f5_15 : ((("lower" : Str)) = ("upper" : Str)) = False := eq_false (by decide +kernel)
theorem f5_16 : ((("lower" : Str)) = ("even" : Str)) = False := eq_false (by decide +kernel)
theorem f5_17 : ((("even" : Str)) = ("down" : Str)) = False := eq_false (by decide +kernel)
theorem f5_18 : ((("even" : Str)) = ("up" : Str)) = False := eq_false (by decide +kernel)
theorem f5_19 : ((("even" : Str)) = ("upper" : Str)) = False := eq_false (by decide +kernel)
theorem f5_20 : ((("even" : Str)) = ("lower" : Str)) = False := eq_false (by decide +kernel)
def lowOf (w : Str) (s : Int) : Int := if w = ("down" : Str) then 0 else if w = ("up" : Str) then 1 - s else if w = ("lower" : Str) then -(s - 1).fdiv 2 else -s.fdiv 2
def evenOf (w : Str) (s : Int) : Int := if w = ("even" : Str) ∧ s.fmod 2 = 0 then 1 else 0
theorem leftOk_drawn {s v : Int} (hw : w ∈ five) (hs : 1 ≤ s) (h0 : 0 ≤ v) (h1 : v < s + evenOf w s) : LeftOk (lowOf w s + v) s w := by
  have e1 : (s - 1).fdiv 2 = (s - 1) / 2 := Int.fdiv_eq_ediv_of_nonneg _ (by decide)
  have e2 : s.fdiv 2 = s / 2 := Int.fdiv_eq_ediv_of_nonneg _ (by decide)
  have e3 : s.fmod 2 = s % 2 := fm2 s
  unfold lowOf
  unfold evenOf at h1
  rw [e1, e2]
  rw [e3] at h1
  rcases in_five hw with rfl | rfl | rfl | rfl | rfl <;> simp only [f5_1, f5_2, f5_3, f5_4, f5_5, f5_6, f5_7, f5_8, f5_9, f5_10, f5_11, f5_12, f5_13, f5_14, f5_15, f5_16, f5_17, f5_18, f5_19, f5_20, if_true, if_false, false_and, true_and, and_false] at h1 ⊢
  all_goals refine ⟨fun h => ?_, fun h => ?_, fun h => ?_, fun h => ?_, fun h => ?_⟩
  all_goals first | (exact absurd h (by decide +kernel)) | (split at h1 <;> omega) | omega
noncomputable abbrev rsD : Dn := (dDget (dDic [((dC (.str ("down" : Str))), (dC (.int 0))), ((dC (.str ("up" : Str))), (dBin oSub (dC (.int 1)) (dVar 3))), ((dC (.str ("lower" : Str))), (dBin oMul (dNeg (dC (.int 1))) (dBin oDiv (dBin oSub (dVar 3) (dC (.int 1))) (dC (.int 2)))))]) (dBin oIdx (dVar 1) (dC (.int 3))) (dBin oMul (dNeg (dC (.int 1))) (dBin oDiv (dVar 3) (dC (.int 2)))))
noncomputable abbrev rsB : Sn := (sSeq (sAsg (gNm 4) rsD)
    (sExpr (dApp (dVar 2) (daCons (dBin oAdd (dVar 4) (dCall R.F_q_take 2 0 (R.a_q_take 2 []) (daCons (dVar 0) (daCons (dBin oAdd (dVar 3) (dBi bInt (daCons (dAnd (dBin (oEqN false) (dBin oIdx (dVar 1) (dC (.int 3))) (dC (.str ("even" : Str)))) (dBin (oEqN false) (dBin oMod (dVar 3) (dC (.int 2))) (dC (.int 0)))) daNil))) daNil)) daNil)) daNil))))
theorem rs_dict {h : Hh} {r f : Nat} {s : Int} {x4 : Option Va} (hw : w ∈ five) : ∃ o, rsD [some (.ref r), some (.pv (hT c w y l)), some (.ref f), some (I s), x4] h = .ok (I (lowOf w s)) (h ++ [o]) := by
  have t3 : ∀ (h : Hh), oIdx (.pv (hT c w y l)) (I 3) h = .ok (.pv (.str w)) h := fun h => by rfl
  have k2 : divOk 2 = true := by decide
  have m : ∀ x, mulOk (-1) x = true := fun x => mulOk_l (by decide)
  have g1 : (h ++ [Ob.dct []])[h.length]? = some (.dct []) := List.getElem?_concat_length
  have dd : ∀ kvs : List (Key × Va), (h ++ [Ob.dct []]).set h.length (.dct kvs) = h ++ [.dct kvs] := fun kvs => by
    rw [List.set_append_right _ _ (Nat.le_refl _), Nat.sub_self]; rfl
  have d0 : dDic [((dC (.str ("down" : Str))), (dC (.int 0))), ((dC (.str ("up" : Str))), (dBin oSub (dC (.int 1)) (dVar 3))), ((dC (.str ("lower" : Str))), (dBin oMul (dNeg (dC (.int 1))) (dBin oDiv (dBin oSub (dVar 3) (dC (.int 1))) (dC (.int 2)))))] [some (.ref r), some (.pv (hT c w y l)), some (.ref f), some (I s), x4] h
      = .ok (.ref h.length) (h ++ [.dct [(.inr ("down" : Str), I 0), (.inr ("up" : Str), I (1 - s)), (.inr ("lower" : Str), I (-(s - 1).fdiv 2))]]) := by
    simp [g1, k2, m, dd]
    rfl
  refine ⟨.dct [(.inr ("down" : Str), I 0), (.inr ("up" : Str), I (1 - s)), (.inr ("lower" : Str), I (-(s - 1).fdiv 2))], ?_⟩
  have dc : dctOf (h ++ [.dct [(.inr ("down" : Str), I 0), (.inr ("up" : Str), I (1 - s)), (.inr ("lower" : Str), I (-(s - 1).fdiv 2))]]) (.ref h.length) = some [(.inr ("down" : Str), I 0), (.inr ("up" : Str), I (1 - s)), (.inr ("lower" : Str), I (-(s - 1).fdiv 2))] := by
    unfold dctOf
    dsimp only
    rw [List.getElem?_concat_length]
  have lk : (vaL [(.inr ("down" : Str), I 0), (.inr ("up" : Str), I (1 - s)), (.inr ("lower" : Str), I (-(s - 1).fdiv 2))] (.inr w)).getD (I (-s.fdiv 2)) = I (lowOf w s) := by
    rcases in_five hw with rfl | rfl | rfl | rfl | rfl <;> rfl
  unfold rsD dDget
  rw [d0]
  simp only [ev_bind_ok]
  rw [dc]
  simp [t3, k2, m, dc, lk]
end
end R
set_option exponentiation.threshold 10000
namespace R
open PySem PySem.Spec PyProof.Rows L2 CI
section
variable {c : Int} {w y : Str} {l : List Sh}
theorem bag_app {h : Hh} {r : Nat} {o : Ob} (B : BagAt h r) : BagAt (h ++ [o]) r := by
  have hr : r < h.length := by obtain ⟨_, _, _, _, e, _⟩ := B; exact (List.getElem?_eq_some_iff.mp e).1
  obtain ⟨g, m, p, c, e, z⟩ := B
  exact ⟨g, m, p, c, by rw [List.getElem?_append_left hr]; exact e, z⟩
theorem bag_set {h : Hh} {r f : Nat} {o : Ob} (hne : f ≠ r) (B : BagAt h r) : BagAt (h.set f o) r := by
  obtain ⟨g, m, p, c, e, z⟩ := B
  exact ⟨g, m, p, c, by rw [List.getElem?_set_ne hne]; exact e, z⟩
theorem rs_step {h : Hh} {r f : Nat} {s : Int} {x4 : Option Va} {K : List Int} (hw : w ∈ five) (hs : 1 ≤ s ∧ s ≤ 248832) (B : BagAt h r) (hf : h[f]? = some (.lst (K.map I))) (hne : f ≠ r) (hl : K.length ≤ 4) :
    ∃ (k : Int) (h' : Hh), rsB [some (.ref r), some (.pv (hT c w y l)), some (.ref f), some (I s), x4] h = .nx [some (.ref r), some (.pv (hT c w y l)), some (.ref f), some (I s), some (I (lowOf w s))] h' ∧ BagAt h' r ∧ h'[f]? = some (.lst ((K ++ [k]).map I)) ∧ LeftOk k s w := by
  obtain ⟨o, e0⟩ := rs_dict (c := c) (y := y) (l := l) (h := h) (r := r) (f := f) (s := s) (x4 := x4) hw
  have ev : 0 ≤ evenOf w s ∧ evenOf w s ≤ 1 := by unfold evenOf; split <;> omega
  have fl : f < h.length := (List.getElem?_eq_some_iff.mp hf).1
  obtain ⟨v, h1, e1, B1, o1, p1, q1⟩ := take_ev (bag_app (o := o) B) (n := s + evenOf w s) (by omega) (by omega)
  have hf1 : h1[f]? = some (.lst (K.map I)) := (o1.2 f hne).trans (by rw [List.getElem?_append_left fl]; exact hf)
  have pu := push_at (v := I (lowOf w s + v)) hf1 (by rw [List.length_map]; omega)
  have la := lst_at (h := h ++ [o]) (f := f) (xs := K.map I) (by rw [List.getElem?_append_left fl]; exact hf)
  have t3 : ∀ (h : Hh), oIdx (.pv (hT c w y l)) (I 3) h = .ok (.pv (.str w)) h := fun h => by rfl
  refine ⟨lowOf w s + v, h1.set f (.lst (K.map I ++ [I (lowOf w s + v)])), ?_, bag_set hne B1, ?_, leftOk_drawn hw hs.1 p1 q1⟩
  · unfold rsB
    by_cases z : w = ("even" : Str)
    · by_cases z2 : s.fmod 2 = 0
      · have ee : evenOf w s = 1 := by unfold evenOf; rw [if_pos ⟨z, z2⟩]
        rw [ee] at e1
        simp only [ev_seq, ev_sAsg, e0, ev_sbind_ok, ev_gNm, ev_then_nx]
        simp [t3, ev_call, z2, la, pu, e1, ← z]
      · have ee : evenOf w s = 0 := by unfold evenOf; rw [if_neg fun q => z2 q.2]
        rw [ee] at e1
        simp only [Int.add_zero] at e1
        simp only [ev_seq, ev_sAsg, e0, ev_sbind_ok, ev_gNm, ev_then_nx]
        simp [t3, ev_call, z2, la, pu, e1, ← z]
    · have ee : evenOf w s = 0 := by unfold evenOf; rw [if_neg fun q => z q.1]
      rw [ee] at e1
      simp only [Int.add_zero] at e1
      simp only [ev_seq, ev_sAsg, e0, ev_sbind_ok, ev_gNm, ev_then_nx]
      simp [t3, ev_call, z, la, pu, e1]
  · rw [List.getElem?_set_self (List.getElem?_eq_some_iff.mp hf1).1, List.map_append]; rfl
theorem rs_loop {r f : Nat} (hw : w ∈ five) (hne : f ≠ r) : ∀ (ss : List Int) (h : Hh) (K : List Int) (x3 x4 : Option Va), (∀ s ∈ ss, 1 ≤ s ∧ s ≤ 248832) → BagAt h r → h[f]? = some (.lst (K.map I)) → K.length + ss.length ≤ 4 →
    ∃ (K2 : List Int) (y3 y4 : Option Va) (h' : Hh), forL (gNm 3) rsB (ss.map I) [some (.ref r), some (.pv (hT c w y l)), some (.ref f), x3, x4] h = .nx [some (.ref r), some (.pv (hT c w y l)), some (.ref f), y3, y4] h' ∧ BagAt h' r ∧ h'[f]? = some (.lst ((K ++ K2).map I)) ∧ K2.length = ss.length ∧ ∀ q ∈ K2.zip ss, LeftOk q.1 q.2 w
  | [], h, K, x3, x4, _, B, hf, _ => ⟨[], x3, x4, h, rfl, B, by rw [List.append_nil]; exact hf, rfl, by simp⟩
  | s :: ss, h, K, x3, x4, hb, B, hf, hl => by
    rw [List.length_cons] at hl
    obtain ⟨k, h1, e1, B1, f1, L⟩ := rs_step (c := c) (y := y) (l := l) (x4 := x4) hw (hb s (List.mem_cons_self ..)) B hf hne (by omega)
    obtain ⟨K2, y3, y4, h2, e2, B2, f2, l2, ok⟩ := rs_loop hw hne ss h1 (K ++ [k]) (some (I s)) (some (I (lowOf w s))) (fun s m => hb s (List.mem_cons_of_mem _ m)) B1 f1 (by rw [List.length_append]; simp; omega)
    refine ⟨k :: K2, y3, y4, h2, ?_, B2, by rw [List.append_assoc] at f2; exact f2, by rw [List.length_cons, List.length_cons, l2], fun q hq => ?_⟩
    · rw [List.map_cons, ev_forL_cons]
      simp only [ev_gNm]
      show turnEnd (rsB [some (.ref r), some (.pv (hT c w y l)), some (.ref f), some (I s), x4] h) _ = _
      rw [e1, ev_turn_nx, e2]
    · rw [List.zip_cons_cons] at hq
      rcases List.mem_cons.mp hq with m | m
      · rw [m]; exact L
      · exact ok q m
theorem qrests_of {h : Hh} {r : Nat} (B : BagAt h r) (S : ShOk l) (hc : 1 ≤ c ∧ c ≤ 12) (hw : w ∈ five) (hy : y = ("drop" : Str) ∨ y = ("keep" : Str) ∨ y = ("hand" : Str)) : ∃ (K : List Int) (h' : Hh), F_q_rests [.ref r, .pv (hT c w y l)] h = .ok (.pv (.tup (K.map .int))) h' ∧ BagAt h' r ∧ Kept c w y l K := by
  have hr : r < h.length := by obtain ⟨_, _, _, _, e, _⟩ := B; exact (List.getElem?_eq_some_iff.mp e).1
  have sz := p_qsizes (w := w) S hc hy
  have nt : (y = ("turn" : Str)) = False := eq_false (by rcases hy with rfl | rfl | rfl <;> simp)
  have t4 : ∀ (h : Hh), oIdx (.pv (hT c w y l)) (I 4) h = .ok (.pv (.str y)) h := fun h => by rfl
  have hf : (h ++ [Ob.lst []])[h.length]? = some (.lst (([] : List Int).map I)) := List.getElem?_concat_length
  obtain ⟨K2, y3, y4, h2, e2, B2, f2, l2, ok⟩ := rs_loop (c := c) (y := y) (l := l) hw (f := h.length) (by omega) (szs c y l) (h ++ [.lst []]) [] none none (szs_bnd S hc) (bag_app B) hf (by have := szs_len (c := c) (y := y) S; simp; omega)
  rw [List.nil_append] at f2
  have tl : bTuple [.ref h.length] h2 = .ok (.pv (.tup (K2.map .int))) (h2.set h.length (.frz (.lst (K2.map .int)))) := by
    have : h2[h.length]? = some (.lst ((K2.map Pv.int).map .pv)) := by rw [f2, List.map_map]; rfl
    have gv : give (.ref h.length) h2 = some (.lst (K2.map .int), h2.set h.length (.frz (.lst (K2.map .int)))) := give_ref (n := 3) this
    unfold bTuple
    dsimp only
    rw [gv]
  have mp : ((szs c y l).map Pv.int).map Va.pv = (szs c y l).map I := by rw [List.map_map]; rfl
  refine ⟨K2, h2.set h.length (.frz (.lst (K2.map .int))), ?_, bag_set (by omega) B2, ⟨l2, ok⟩⟩
  simp only [rsB, rsD] at e2
  unfold F_q_rests fnOfB b_q_rests startS
  simp [-ev_forL_cons, -List.map_map, ev_callP, sz, nt, t4, mp, e2, tl]
end
end R
set_option exponentiation.threshold 10000
namespace R
open PySem PySem.Spec PyProof.Rows L2 CI
section
variable {c : Int} {w y : Str} {l : List Sh}
/-- what a turn of a row tells: the law's parts and the house's, and what is kept -/
def PassOk (c : Int) (w y : Str) (l : List Sh) (N : Int) (K : List Int) : Prop := ∃ ps K' : List Int, pcall F_q_passed [hT c w y l, .int N, .tup (K.map .int)] = .ok (.tup [.lst (ps.map .int), .tup (K'.map .int)]) ∧
  pcall (deedOf y).2.1 [hI c w y l, .int N, .tup (K.map .int)] = .ok (.tup [.lst (ps.map .int), .tup (K'.map .int)]) ∧ Kept c w y l K' ∧ ps.length = l.length ∧ ∀ p ∈ ps, 0 ≤ p ∧ p.natAbs < 2 ^ 1000
theorem mc_bnd {t S : Int} {n : Nat} (hS : 0 < S) (h0 : 0 ≤ t) (hb : t.natAbs < 2 ^ n) : 0 ≤ mc t S w ∧ (mc t S w).natAbs < 2 ^ (n + 2) := by
  have nn := fdiv_nn h0 hS
  have ab := fdiv_abs (t := t) hS
  obtain ⟨a, b⟩ := mc_near (t := t) (w := w) hS
  rw [Nat.pow_succ, Nat.pow_succ]
  have : 1 ≤ 2 ^ n := Nat.one_le_two_pow
  omega
def dropP (l : List Sh) (N c : Int) (w : Str) : List Int := l.map fun x => c * mc (x.t * N) (x.u * c) w
theorem p_bydrop {N : Int} (O : HOk c w ("drop" : Str) l) : pcall F_by_drop [hI c w ("drop" : Str) l, .int N, .tup []] = .ok (.tup [.lst ((dropP l N c w).map .int), .tup []]) := by
  have S := O.s
  have n6 := len6 S.n4
  have cN : c.natAbs < 2 ^ 64 := by have := O.c1; omega
  have c1 : ∀ (x1 x2 x3 x4 x5 x6 x7 : Option Va), x1 = some (I N) → compL (gTu 3 (gsCons (gNm 4) (gsCons (gNm 5) (gsCons (gNm 6) gsNil)))) tYesD (dCallP R.F_many_coins 4 0 (R.a_many_coins 4 []) (daCons (dBin oMul (dVar 5) (dVar 1)) (daCons (dVar 6) (daCons (dAttr [("House" : Str)] ("coin" : Str) (dVar 0)) (daCons (dAttr [("House" : Str)] ("rule" : Str) (dVar 0)) daNil)))) daNil)
      [some (.pv (hI c w ("drop" : Str) l)), x1, x2, x3, x4, x5, x6, x7] ((l.map shP).map Va.pv) [] [] = .ok (.pv (.lst ((l.map fun x => mc (x.t * N) (x.u * c) w).map .int))) [] := fun x1 x2 x3 x4 x5 x6 x7 e => by
    subst e
    rw [comp_sh (fun x => .int (mc (x.t * N) (x.u * c) w)) fun x hx => ?_]
    · rw [List.map_map]; rfl
    · have u1 := S.u1 x hx
      have t1 := S.t1 x hx
      have c2 := O.c1
      have uc : 0 < x.u * c := Int.mul_pos (by omega) (by omega)
      have ub : (x.u * c).natAbs < 2 ^ (4 + 4) := mul_bnd (by omega) (by omega)
      have pm := p_many (t := x.t * N) (u := x.u) (c := c) (r := w) (by omega) (big ub (by decide)) cN
      have m : mulOk x.t N = true := mulOk_l (by omega)
      simp [ev_callP, m, pm]
  have c3 : ∀ (x1 x2 x3 x4 x5 x6 x7 : Option Va) (cs : List Int), compL (gNm 7) tYesD (dBin oMul (dAttr [("House" : Str)] ("coin" : Str) (dVar 0)) (dVar 7)) [some (.pv (hI c w ("drop" : Str) l)), x1, x2, x3, x4, x5, x6, x7] ((cs.map .int).map Va.pv) [] [] = .ok (.pv (.lst ((cs.map fun v => c * v).map .int))) [] := fun x1 x2 x3 x4 x5 x6 x7 cs => by
    rw [List.map_map]
    have m : ∀ v, mulOk c v = true := fun v => mulOk_l cN
    have := comp_map (t := gNm 7) (d := dBin oMul (dAttr [("House" : Str)] ("coin" : Str) (dVar 0)) (dVar 7)) (s := [some (.pv (hI c w ("drop" : Str) l)), x1, x2, x3, x4, x5, x6, x7]) (h := []) (Va.pv ∘ Pv.int) (fun v => .int (c * v)) cs [] fun v _ => ⟨_, rfl, by simp [m]⟩
    rw [this, List.map_map]; rfl
  have pt : (l.map fun x => mc (x.t * N) (x.u * c) w).map (fun v => c * v) = dropP l N c w := by unfold dropP; rw [List.map_map]; rfl
  refine pcall_of (h' := []) ?_
  unfold F_by_drop fnOfB b_by_drop startS
  simp [-List.map_map, n6, c1, c3, pt]
theorem dues_comp {N : Int} (S : ShOk l) : ∀ (x4 x8 x9 x10 x11 x12 x13 x14 x15 x16 x17 x18 x19 x0 x2 x5 x6 x7 : Option Va), compL (gTu 3 (gsCons (gNm 17) (gsCons (gNm 18) (gsCons (gNm 19) gsNil)))) tYesD (dBin oMul (dBin oMul (dVar 18) (dVar 1)) (dBin oDiv (dVar 3) (dVar 19)))
      [x0, some (I N), x2, some (I (wh l)), x4, x5, x6, x7, x8, x9, x10, x11, x12, x13, x14, x15, x16, x17, x18, x19] ((l.map shP).map Va.pv) [] [] = .ok (.pv (.lst ((dueL l N).map .int))) [] := fun x4 x8 x9 x10 x11 x12 x13 x14 x15 x16 x17 x18 x19 x0 x2 x5 x6 x7 => by
  obtain ⟨W0, _, W1⟩ := S.wh
  rw [comp_sh (fun x => .int (x.t * N * (wh l).fdiv x.u)) fun x hx => ?_]
  · unfold dueL; rw [List.map_map]; rfl
  · have u1 := S.u1 x hx
    have t1 := S.t1 x hx
    have d := divOk_u u1
    have m : mulOk x.t N = true := mulOk_l (by omega)
    have m2 : mulOk (x.t * N) ((wh l).fdiv x.u) = true := mulOk_r (by
      have := fdiv_abs (t := wh l) (S := x.u) (by omega)
      omega)
    simp [m, m2, d]
theorem p_passed_drop {N : Int} {K : Pv} (O : HOk c w ("drop" : Str) l) : pcall F_q_passed [hT c w ("drop" : Str) l, .int N, K] = .ok (.tup [.lst ((dropP l N c w).map .int), .tup []]) := by
  have S := O.s
  have n6 := len6 S.n4
  obtain ⟨W0, _, W1⟩ := S.wh
  have hw := p_qwhole (l := l) S.u1
  have c2 := dues_comp (N := N) S
  have pn := fun (T : Int) (v : Str) hv => p_near (T := T) (U := wh l) (p := c) (w := v) W0 (by omega) O.c1 hv
  have c3 : ∀ (x0 x1 x2 x4 x5 x6 x9 x10 x11 x12 x13 x14 x15 x16 x17 x18 x19 : Option Va), compL (gNm 15) tYesD (dCallP R.F_q_near 4 0 (R.a_q_near 4 []) (daCons (dVar 15) (daCons (dVar 3) (daCons (dVar 7) (daCons (dVar 8) daNil)))) daNil)
      [x0, x1, x2, some (I (wh l)), x4, x5, x6, some (I c), some (.pv (.str w)), x9, x10, x11, x12, x13, x14, x15, x16, x17, x18, x19] (((dueL l N).map .int).map Va.pv) [] [] = .ok (.pv (.lst ((dropP l N c w).map .int))) [] := fun x0 x1 x2 x4 x5 x6 x9 x10 x11 x12 x13 x14 x15 x16 x17 x18 x19 => by
    rw [List.map_map]
    have := comp_map (t := gNm 15) (d := dCallP R.F_q_near 4 0 (R.a_q_near 4 []) (daCons (dVar 15) (daCons (dVar 3) (daCons (dVar 7) (daCons (dVar 8) daNil)))) daNil) (s := [x0, x1, x2, some (I (wh l)), x4, x5, x6, some (I c), some (.pv (.str w)), x9, x10, x11, x12, x13, x14, x15, x16, x17, x18, x19]) (h := [])
      (Va.pv ∘ Pv.int) (fun v => .int (c * mc v (wh l * c) w)) (dueL l N) [] fun v _ => ⟨_, rfl, by simp [ev_callP, pn _ _ O.w5]⟩
    rw [this]
    have : (dueL l N).map (fun v => Pv.int (c * mc v (wh l * c) w)) = (dropP l N c w).map .int := by
      unfold dueL dropP
      rw [List.map_map, List.map_map]
      refine List.map_congr_left fun x hx => ?_
      show Pv.int (c * mc (x.t * N * (wh l).fdiv x.u) (wh l * c) w) = Pv.int (c * mc (x.t * N) (x.u * c) w)
      rw [due_one S hx O.c1.1]
    rw [this]; rfl
  have ld6 : (dueL l N).length ≤ 1000000 := by unfold dueL; rw [List.length_map]; exact n6
  refine pcall_of (h' := []) ?_
  unfold F_q_passed fnOfB b_q_passed startS hT
  simp [-ev_forL_cons, -List.map_map, ev_callP, hw, n6, c2, c3, ld6]
theorem pass_drop {N : Int} {K : List Int} (O : HOk c w ("drop" : Str) l) (N0 : 0 ≤ N) (N1 : N < 2 ^ 150) (k : Kept c w ("drop" : Str) l K) : PassOk c w ("drop" : Str) l N K := by
  have S := O.s
  have kn : K = [] := List.eq_nil_of_length_eq_zero (by rw [k.len]; unfold szs; simp)
  subst kn
  refine ⟨dropP l N c w, [], p_passed_drop O, p_bydrop O, ⟨by unfold szs; simp, by simp⟩, by unfold dropP; rw [List.length_map], fun p hp => ?_⟩
  unfold dropP at hp
  obtain ⟨x, hx, e⟩ := List.mem_map.mp hp
  have e : c * mc (x.t * N) (x.u * c) w = p := e
  have u1 := S.u1 x hx
  have t1 := S.t1 x hx
  have c2 := O.c1
  have uc : 0 < x.u * c := Int.mul_pos (by omega) (by omega)
  have bt : (x.t * N).natAbs < 2 ^ (4 + 150) := mul_bnd (by omega) (by omega)
  obtain ⟨a, b⟩ := mc_bnd (w := w) uc (Int.mul_nonneg (by omega) N0) bt
  have cb : (c * mc (x.t * N) (x.u * c) w).natAbs < 2 ^ (4 + (4 + 150 + 2)) := mul_bnd (by omega) b
  rw [← e]
  exact ⟨Int.mul_nonneg (by omega) a, big cb (by decide)⟩
end
end R
set_option exponentiation.threshold 10000
namespace R
open PySem PySem.Spec PyProof.Rows L2 CI
theorem ev_methN {e : MtE} {n : Nat} {d : Dn} {da : Da} {s : Sl} {h0 h : Hh} (c : Int) (w y : Str) (l : List Sh) (hd : d s h0 = .ok (.pv (hI c w y l)) h) :
    dMethN [(("House" : Str), e)] ("pass_on" : Str) n d da s h0 = (noX (da s h)).bind fun us h2 => if us.length = n then callM e (.pv (hI c w y l)) us [] h2 else .stuck := by
  have e0 : fldOf h (.pv (hI c w y l)) = some (("House" : Str), ([(("name" : Str), Va.pv (.str ("ann" : Str))), (("shares" : Str), .pv (.tup (l.map shP))), (("coin" : Str), .pv (.int c)), (("rule" : Str), .pv (.str w)), (("way" : Str), .pv (.str y))] : List (Str × Va))) := by rfl
  have e1 : ([(("House" : Str), e)] : List (Str × MtE)).lookup ("House" : Str) = some e := by rfl
  have nx : noX (Res.ok (Va.pv (hI c w y l)) h) = .ok (Va.pv (hI c w y l)) h := by rfl
  unfold dMethN
  rw [hd, nx]
  simp only [ev_bind_ok]
  rw [e0]
  dsimp only
  rw [e1]
  dsimp only
  rw [if_pos m_pass]
  rfl
section
variable {c : Int} {w y : Str} {l : List Sh}
noncomputable abbrev rfB : Sn := (sTryIs ("NoRests" : Str) 5 (dMethN [(("House" : Str), (true, R.F_House_pass_on, R.a_House_pass_on 3 []))] ("pass_on" : Str) 2 (dVar 1) (daCons (dBin oIdx (dLst (daCons (dC (.int 5)) (daCons (dC (.int 0)) daNil))) (dBin oMod (dVar 3) (dC (.int 2)))) (daCons (dVar 4) daNil))) (sRet (dC (.bl false))))
theorem rf_step (S : ShOk l) (hc : 1 ≤ c ∧ c ≤ 12) (hy : y = ("drop" : Str) ∨ y = ("keep" : Str) ∨ y = ("hand" : Str)) {p q : Pv} {x0 : Option Va} {i : Int} {h : Hh} (hb : badN (szs c y l).length p) :
    rfB [x0, some (.pv (hI c w y l)), some (.pv q), some (I i), some (.pv p), none] h = .nx [x0, some (.pv (hI c w y l)), some (.pv q), some (I i), some (.pv p), none] h := by
  have v : i.fmod 2 = 0 ∨ i.fmod 2 = 1 := by
    have := fmod_in (a := i) (b := 2) (by decide)
    omega
  have e : pcall F_House_pass_on [hI c w y l, .int (if i.fmod 2 = 0 then 5 else 0), p] = .exc ("NoRests" : Str) [] := by
    unfold pcall
    rw [show ([hI c w y l, .int (if i.fmod 2 = 0 then 5 else 0), p].map Va.pv) = [.pv (hI c w y l), I (if i.fmod 2 = 0 then 5 else 0), .pv p] from rfl, p_pass_badN S hc hy hb]
  have m : dMethN [(("House" : Str), (true, R.F_House_pass_on, R.a_House_pass_on 3 []))] ("pass_on" : Str) 2 (dVar 1) (daCons (dBin oIdx (dLst (daCons (dC (.int 5)) (daCons (dC (.int 0)) daNil))) (dBin oMod (dVar 3) (dC (.int 2)))) (daCons (dVar 4) daNil)) [x0, some (.pv (hI c w y l)), some (.pv q), some (I i), some (.pv p), none] h = .exc ("NoRests" : Str) [] h := by
    rw [ev_methN (h := h) c w y l rfl]
    have a : (daCons (dBin oIdx (dLst (daCons (dC (.int 5)) (daCons (dC (.int 0)) daNil))) (dBin oMod (dVar 3) (dC (.int 2)))) (daCons (dVar 4) daNil)) [x0, some (.pv (hI c w y l)), some (.pv q), some (I i), some (.pv p), none] h = .ok [I (if i.fmod 2 = 0 then 5 else 0), .pv p] h := by
      simp [pick2 v]
    rw [a]
    have nx : ∀ (L : List Va), noX (Res.ok L h) = .ok L h := fun L => rfl
    rw [nx]
    simp only [ev_bind_ok]
    rw [if_pos (by rfl)]
    rw [callM_p (ps := [hI c w y l, .int (if i.fmod 2 = 0 then 5 else 0), p]) (ap_pass _ _ _), e]
    rfl
  show (match dMethN _ _ _ _ _ _ h with | .ok _ h1 => _ | .exc c' fs h1 => _ | .stuck => _) = _
  rw [m]
  simp
theorem rf_loop (S : ShOk l) (hc : 1 ≤ c ∧ c ≤ 12) (hy : y = ("drop" : Str) ∨ y = ("keep" : Str) ∨ y = ("hand" : Str)) {x0 : Option Va} {q : Pv} {h : Hh} : ∀ (ps : List Pv) (j : Nat) (x3 x4 : Option Va), (∀ p ∈ ps, badN (szs c y l).length p) → ∃ y3 y4, forL (gTu 2 (gsCons (gNm 3) (gsCons (gNm 4) gsNil))) rfB (enumA j ps) [x0, some (.pv (hI c w y l)), some (.pv q), x3, x4, none] h = .nx [x0, some (.pv (hI c w y l)), some (.pv q), y3, y4, none] h
  | [], _, x3, x4, _ => ⟨x3, x4, rfl⟩
  | p :: ps, j, x3, x4, hp => by
    obtain ⟨y3, y4, e⟩ := rf_loop S hc hy ps (j + 1) (some (I (j : Nat))) (some (.pv p)) fun p' m => hp p' (List.mem_cons_of_mem _ m)
    refine ⟨y3, y4, ?_⟩
    have st := rf_step (w := w) S hc hy (x0 := x0) (q := q) (i := ((j : Nat) : Int)) (h := h) (hp p (List.mem_cons_self ..))
    show forL _ _ (.pv (.tup [.int (j : Nat), p]) :: enumA (j + 1) ps) _ _ = _
    rw [ev_forL_cons]
    have t : (gTu 2 (gsCons (gNm 3) (gsCons (gNm 4) gsNil))).put (.pv (.tup [.int (j : Nat), p])) [x0, some (.pv (hI c w y l)), some (.pv q), x3, x4, none] h = some [x0, some (.pv (hI c w y l)), some (.pv q), some (I (j : Nat)), some (.pv p), none] := by simp
    rw [t]
    dsimp only
    rw [st]
    simp only [ev_turn_nx]
    exact e
theorem many_ev {h : Hh} {r : Nat} (B : BagAt h r) : ∃ a b v j h', (∃ h1 h2, F_q_total [.ref r] h = .ok (I a) h1 ∧ F_q_wide [.ref r, I 1000000000000000000000000000000000000000] h1 = .ok (I b) h2 ∧ F_q_take [.ref r, I 6] h2 = .ok (I v) h') ∧ BagAt h' r ∧ oIdx (.pv (.lst [.int a, .int b])) (I (if v = 5 then 1 else 0)) h' = .ok (I j) h' ∧ 0 ≤ j ∧ j < 2 ^ 150 := by
  obtain ⟨a, h1, e1, B1, a0, a1⟩ := total_ev B
  obtain ⟨b, h2, e2, B2, _, b0, b1⟩ := wide_ev B1 (n := 1000000000000000000000000000000000000000) (by decide) (by decide)
  obtain ⟨v, h3, e3, B3, _, v0, v1⟩ := take_ev B2 (n := 6) (by decide) (by decide)
  by_cases z : v = 5
  · refine ⟨a, b, v, b, h3, ⟨h1, h2, e1, e2, e3⟩, B3, ?_, b0, by omega⟩
    rw [if_pos z]; rfl
  · refine ⟨a, b, v, a, h3, ⟨h1, h2, e1, e2, e3⟩, B3, ?_, a0, a1⟩
    rw [if_neg z]; rfl
noncomputable abbrev rrB : Sn := (sSeq (sAsg (gNm 5) (dBin oIdx (dLst (daCons (dCall R.F_q_total 1 0 (R.a_q_total 1 []) (daCons (dVar 0) daNil) daNil) (daCons (dCall R.F_q_wide 2 0 (R.a_q_wide 2 []) (daCons (dVar 0) (daCons (dBin oPow (dC (.int 10)) (dC (.int 39))) daNil)) daNil) daNil))) (dBi bInt (daCons (dBin (oEqN false) (dCall R.F_q_take 2 0 (R.a_q_take 2 []) (daCons (dVar 0) (daCons (dC (.int 6)) daNil)) daNil) (dC (.int 5))) daNil))))
    (sSeq (sAsg (gTu 2 (gsCons (gNm 7) (gsCons (gNm 8) gsNil))) (dCallP R.F_q_passed 3 0 (R.a_q_passed 3 []) (daCons (dVar 1) (daCons (dVar 5) (daCons (dVar 2) daNil))) daNil))
    (sSeq (sAsg (gNm 6) (dMeth [(("House" : Str), (true, R.F_House_pass_on, R.a_House_pass_on 3 []))] ("pass_on" : Str) 2 0 (dVar 3) (daCons (dVar 5) (daCons (dVar 2) daNil)) daNil))
    (sSeq (sIf (tOr (tVB (dBin (oEqN true) (dBi bRepr (daCons (dVar 6) daNil)) (dBi bRepr (daCons (dTup (daCons (dBi bTuple (daCons (dVar 7) daNil)) (daCons (dVar 8) daNil))) daNil)))) (tVB (dBin oLt (dBi bMin (daCons (dBin oIdx (dVar 6) (dC (.int 0))) daNil)) (dC (.int 0))))) (sRet (dC (.bl false))) sNil)
    (sSeq (sIf (tVB (dBin (oEqN true) (dMeth [(("House" : Str), (true, R.F_House_pass_on, R.a_House_pass_on 1 [("rests" : Str), ("total" : Str)]))] ("pass_on" : Str) 0 2 (dVar 3) daNil (daCons (dVar 2) (daCons (dVar 5) daNil))) (dVar 6))) (sRet (dC (.bl false))) sNil)
    (sAsg (gNm 2) (dVar 8)))))))
theorem rr_step {r : Nat} {h : Hh} {x4 x5 x6 x7 x8 : Option Va} {K : List Int} (B : BagAt h r) (O : HOk c w y l) (hy : y = ("drop" : Str) ∨ y = ("keep" : Str) ∨ y = ("hand" : Str)) (hk : Kept c w y l K) (ok : ∀ {N : Int} {K : List Int}, 0 ≤ N → N < 2 ^ 150 → Kept c w y l K → PassOk c w y l N K) :
    ∃ (K' : List Int) (y5 y6 y7 y8 : Option Va) (h' : Hh), rrB [some (.ref r), some (.pv (hT c w y l)), some (.pv (.tup (K.map .int))), some (.pv (hI c w y l)), x4, x5, x6, x7, x8] h = .nx [some (.ref r), some (.pv (hT c w y l)), some (.pv (.tup (K'.map .int))), some (.pv (hI c w y l)), x4, y5, y6, y7, y8] h' ∧ BagAt h' r ∧ Kept c w y l K' := by
  have S := O.s
  have n4 := S.n4
  have n0 : 0 < l.length := List.length_pos_iff.mpr S.n0
  obtain ⟨a, b, v, N, h3, ⟨h1, h2, e1, e2, e3⟩, B3, ix, N0, N1⟩ := many_ev B
  obtain ⟨ps, K', pp, pd, hk', pl, bd⟩ := ok N0 N1 hk
  have er := p_rests_of (w := w) S O.c1 O.w5 hy hk.len hk.ok
  have pss := p_pass_of hy er pd (by rw [pl]; omega)
  have kl := szs_len (c := c) (y := y) S
  have kb := hk'.bnd S O.c1 O.w5
  have rp := rep_found2 (ns := ps) (ks := K') (h := h3) (by rw [pl]; exact n4) (by rw [hk'.len]; exact kl) (fun n hn => big (bd n hn).2 (by decide)) (fun n hn => by have := kb n hn; exact Nat.lt_of_le_of_lt this (by decide))
  have pn : ps ≠ [] := fun z => by rw [z] at pl; simp at pl; omega
  have mn := (CI.minI_mem pn).1
  have m0 := (bd _ mn).1
  have mt := min_tup (h := h3) pn
  have eq := eq_found2 (ns := ps) (ks := K') (h := h3)
  have k5 : powOk 10 39 = true := by decide
  have m1 : ∀ (s : Sl), s[3]? = some (some (.pv (hI c w y l))) → s[5]? = some (some (I N)) → s[2]? = some (some (.pv (.tup (K.map .int)))) → dMeth [(("House" : Str), (true, R.F_House_pass_on, R.a_House_pass_on 3 []))] ("pass_on" : Str) 2 0 (dVar 3) (daCons (dVar 5) (daCons (dVar 2) daNil)) daNil s h3 = .ok (.pv (found2P ps K')) h3 := fun s hs h5 h2 => by
    rw [ev_meth (h := h3) c w y l (by simp [hs]) m_pass]
    simp [h5, h2, callM_p (ps := [hI c w y l, .int N, .tup (K.map .int)]) (ap_pass _ _ _), pss]
  have m2 : ∀ (s : Sl), s[3]? = some (some (.pv (hI c w y l))) → s[5]? = some (some (I N)) → s[2]? = some (some (.pv (.tup (K.map .int)))) → dMeth [(("House" : Str), (true, R.F_House_pass_on, R.a_House_pass_on 1 [("rests" : Str), ("total" : Str)]))] ("pass_on" : Str) 0 2 (dVar 3) daNil (daCons (dVar 2) (daCons (dVar 5) daNil)) s h3 = .ok (.pv (found2P ps K')) h3 := fun s hs h5 h2 => by
    rw [ev_meth (h := h3) c w y l (by simp [hs]) m_pass]
    simp [h5, h2, callM_p (ps := [hI c w y l, .int N, .tup (K.map .int)]) (ap_passk _ _ _), pss]
  refine ⟨K', some (I N), some (.pv (found2P ps K')), some (.pv (.lst (ps.map .int))), some (.pv (.tup (K'.map .int))), h3, ?_, B3, hk'⟩
  unfold rrB
  simp [-List.map_map, ev_call, ev_callP, k5, e1, e2, e3, ix, pp, m1, m2, rp, idx_t0, mt, eq, show ¬ minI ps < 0 by omega]
theorem rr_loop {r : Nat} {h : Hh} {K : List Int} (B : BagAt h r) (O : HOk c w y l) (hy : y = ("drop" : Str) ∨ y = ("keep" : Str) ∨ y = ("hand" : Str)) (hk : Kept c w y l K) (ok : ∀ {N : Int} {K : List Int}, 0 ≤ N → N < 2 ^ 150 → Kept c w y l K → PassOk c w y l N K) (m : Nat) :
    ∃ (K' : List Int) (y4 y5 y6 y7 y8 : Option Va) (h' : Hh), forL (gNm 4) rrB (rangeVa 0 m) [some (.ref r), some (.pv (hT c w y l)), some (.pv (.tup (K.map .int))), some (.pv (hI c w y l)), none, none, none, none, none] h = .nx [some (.ref r), some (.pv (hT c w y l)), some (.pv (.tup (K'.map .int))), some (.pv (hI c w y l)), y4, y5, y6, y7, y8] h' ∧ BagAt h' r ∧ Kept c w y l K' := by
  obtain ⟨s2, h2, e2, ⟨K', x4, x5, x6, x7, x8, rfl, hk'⟩, B2⟩ := forL_inv (t := gNm 4) (b := rrB) (fun s h' => (∃ (K' : List Int) (x4 x5 x6 x7 x8 : Option Va), s = [some (.ref r), some (.pv (hT c w y l)), some (.pv (.tup (K'.map .int))), some (.pv (hI c w y l)), x4, x5, x6, x7, x8] ∧ Kept c w y l K') ∧ BagAt h' r)
    (rangeVa 0 m) [some (.ref r), some (.pv (hT c w y l)), some (.pv (.tup (K.map .int))), some (.pv (hI c w y l)), none, none, none, none, none] h ⟨⟨K, _, _, _, _, _, rfl, hk⟩, B⟩ (by
      rintro x hx s h ⟨⟨k', x4, x5, x6, x7, x8, rfl, hk'⟩, B⟩
      obtain ⟨k2, y5, y6, y7, y8, h', e, B', hk2⟩ := rr_step (x4 := some x) (x5 := x5) (x6 := x6) (x7 := x7) (x8 := x8) B O hy hk' ok
      exact ⟨_, rfl, _, h', .inl e, ⟨k2, _, _, _, _, _, rfl, hk2⟩, B'⟩)
  exact ⟨K', x4, x5, x6, x7, x8, h2, e2, B2, hk'⟩
end
end R
set_option exponentiation.threshold 10000
namespace R
open PySem PySem.Spec PyProof.Rows L2 CI
/-! ### what is left over, what was left before -/
theorem leftOk_after {t S : Int} {w : Str} (h : 0 < S) : LeftOk (t - mc t S w * S) S w := by
  obtain ⟨q, r, e, r0, r1⟩ := qr (t := t) h
  have g : q % 2 = 0 ∨ q % 2 = 1 := by omega
  have k : mc t S w = q ∧ t - mc t S w * S = r ∨ mc t S w = q + 1 ∧ t - mc t S w * S = r - S := by
    have n := mc_near (t := t) (w := w) h
    rw [(fdm h e r0 r1).1] at n
    have : mc t S w = q ∨ mc t S w = q + 1 := by omega
    rcases this with z | z
    · refine .inl ⟨z, ?_⟩
      rw [z, e, Int.mul_comm q S]; omega
    · refine .inr ⟨z, ?_⟩
      rw [z, e, Int.add_mul, Int.mul_comm q S]; omega
  have m := mc_at (w := w) h e r0 r1
  generalize t - mc t S w * S = A at *
  refine ⟨?_, ?_, ?_, ?_, ?_⟩
  all_goals intro hw; subst hw
  all_goals simp only [w1, w2, w3, w4, w5, w6, w7, w8, w9, w10, w11, w12, or_true, or_false, if_true, if_false, ne_eq, gt_iff_lt] at m
  · omega
  · split at m <;> omega
  · split at m
    · omega
    · split at m
      · split at m <;> omega
      · omega
  · split at m
    · omega
    · split at m
      · split at m <;> omega
      · omega
  · split at m
    · omega
    · split at m
      · split at m <;> omega
      · omega
theorem mc_left0 {k S : Int} {w : Str} (hw : w ∈ five) (h : 0 < S) (L : LeftOk k S w) : 0 ≤ mc k S w := by
  by_cases z : 0 ≤ k
  · have := fdiv_nn z h
    have := (mc_near (t := k) (w := w) h).1
    omega
  · obtain ⟨a, b, c, d, e⟩ := L
    have m : ∀ r, k = S * (-1) + r → 0 ≤ r → r < S → _ := fun r e r0 r1 => mc_at (w := w) h e r0 r1
    have m := m (k + S) (by omega)
    rcases in_five hw with rfl | rfl | rfl | rfl | rfl
    · have := a rfl; omega
    · have := b rfl
      have m := m (by omega) (by omega)
      simp only [w1, w2, w3, w4, w5, w6, w7, w8, w9, w10, w11, w12, or_true, or_false, if_true, if_false, ne_eq, gt_iff_lt] at m
      split at m <;> omega
    · have := c rfl
      have m := m (by omega) (by omega)
      simp only [w1, w2, w3, w4, w5, w6, w7, w8, w9, w10, w11, w12, or_true, or_false, if_true, if_false, ne_eq, gt_iff_lt] at m
      split at m
      · omega
      · split at m
        · split at m <;> omega
        · omega
    · have := d rfl
      have m := m (by omega) (by omega)
      simp only [w1, w2, w3, w4, w5, w6, w7, w8, w9, w10, w11, w12, or_true, or_false, if_true, if_false, ne_eq, gt_iff_lt] at m
      split at m
      · omega
      · split at m
        · split at m <;> omega
        · omega
    · have := e rfl
      have m := m (by omega) (by omega)
      simp only [w1, w2, w3, w4, w5, w6, w7, w8, w9, w10, w11, w12, or_true, or_false, if_true, if_false, ne_eq, gt_iff_lt] at m
      split at m
      · omega
      · split at m
        · split at m <;> omega
        · omega
theorem mc_due0 {k t S : Int} {w : Str} (hw : w ∈ five) (h : 0 < S) (L : LeftOk k S w) (ht : 0 ≤ t) : 0 ≤ mc (t + k) S w := by
  have := mc_left0 hw h L
  have := mc_mono1 (a := k) (b := t + k) (w := w) h (by omega)
  omega
theorem last_at {cs : List Int} {p : Int} {h : Hh} {f : Nat} (e : h[f]? = some (.lst ((cs ++ [p]).map I))) : oIdx (.ref f) (I (-1)) h = .ok (I p) h := by
  have a : atI ((cs ++ [p]).map I) (-1) = some (I p) := by
    unfold atI ixN
    rw [if_neg (by decide), if_pos (by rw [List.length_map, List.length_append]; simp; omega)]
    have : (((cs ++ [p]).map I).length : Int) = cs.length + 1 := by rw [List.length_map, List.length_append]; simp
    have : (-1 + ((((cs ++ [p]).map I).length : Nat) : Int)).toNat = cs.length := by omega
    rw [this]
    show ((cs ++ [p]).map I)[cs.length]? = _
    rw [List.getElem?_map, List.getElem?_concat_length]; rfl
  have rd : rdl h (.ref f) = some ((cs ++ [p]).map I) := by
    unfold rdl
    dsimp only
    rw [e]
  have dc : dctOf h (.ref f) = none := by
    unfold dctOf
    dsimp only
    rw [e]
  unfold oIdx
  rw [dc]
  show (match rdl h (.ref f) with | some xs => (match atI xs (-1) with | some v => Res.ok v h | none => Res.stuck) | none => Res.stuck) = _
  rw [rd]
  dsimp only
  rw [a]
/-! ### by_keep -/
section
variable {c N : Int} {w : Str} {l : List Sh}
def kp (c N : Int) (w : Str) (q : Sh × Int) : Int := c * mc (q.1.t * N + q.2) (q.1.u * c) w
def kr (c N : Int) (w : Str) (q : Sh × Int) : Int := q.1.t * N + q.2 - kp c N w q * q.1.u
theorem zipA_sh : ∀ (l : List Sh) (K : List Int), zipA (l.map shP) (K.map .int) = (l.zip K).map fun q => .pv (.tup [shP q.1, .int q.2])
  | [], _ => by simp [zipA]
  | _ :: _, [] => by simp [zipA]
  | x :: xs, y :: ys => by
    rw [List.map_cons, List.map_cons, zipA, zipA_sh xs ys]; rfl
noncomputable abbrev kbB : Sn := (sSeq (sAsg (gNm 6) (dBin oAdd (dBin oMul (dVar 8) (dVar 1)) (dVar 5)))
    (sSeq (sExpr (dApp (dVar 3) (daCons (dBin oMul (dAttr [("House" : Str)] ("coin" : Str) (dVar 0)) (dCallP R.F_many_coins 4 0 (R.a_many_coins 4 []) (daCons (dVar 6) (daCons (dVar 9) (daCons (dAttr [("House" : Str)] ("coin" : Str) (dVar 0)) (daCons (dAttr [("House" : Str)] ("rule" : Str) (dVar 0)) daNil)))) daNil)) daNil)))
    (sExpr (dApp (dVar 4) (daCons (dBin oSub (dVar 6) (dBin oMul (dBin oIdx (dVar 3) (dNeg (dC (.int 1)))) (dVar 9))) daNil)))))
theorem kb_step {x2 x6 : Option Va} {ps ks : List Int} {q : Sh × Int} (hc : 1 ≤ c ∧ c ≤ 12) (ht : 1 ≤ q.1.t ∧ q.1.t ≤ 12) (hu : 1 ≤ q.1.u ∧ q.1.u ≤ 12) (hp : ps.length ≤ 4) (hk : ks.length ≤ 4) :
    kbB [some (.pv (hI c w ("keep" : Str) l)), some (I N), x2, some (.ref 0), some (.ref 1), some (I q.2), x6, some (.pv (.str q.1.to)), some (I q.1.t), some (I q.1.u)] [.lst (ps.map I), .lst (ks.map I)] =
      .nx [some (.pv (hI c w ("keep" : Str) l)), some (I N), x2, some (.ref 0), some (.ref 1), some (I q.2), some (I (q.1.t * N + q.2)), some (.pv (.str q.1.to)), some (I q.1.t), some (I q.1.u)] [.lst ((ps ++ [kp c N w q]).map I), .lst ((ks ++ [kr c N w q]).map I)] := by
  have cN : c.natAbs < 2 ^ 64 := by omega
  have uc : 0 < q.1.u * c := Int.mul_pos (by omega) (by omega)
  have ub : (q.1.u * c).natAbs < 2 ^ (4 + 4) := mul_bnd (by omega) (by omega)
  have pm := p_many (t := q.1.t * N + q.2) (u := q.1.u) (c := c) (r := w) (by omega) (big ub (by decide)) cN
  have m : mulOk q.1.t N = true := mulOk_l (by omega)
  have mc' : ∀ x, mulOk c x = true := fun x => mulOk_l cN
  have mu : ∀ x, mulOk x q.1.u = true := fun x => mulOk_r (by omega)
  have p1 : pushL (.ref 0) (I (kp c N w q)) [.lst (ps.map I), .lst (ks.map I)] = .ok (.pv .non) [.lst ((ps ++ [kp c N w q]).map I), .lst (ks.map I)] := by
    rw [push_at (xs := ps.map I) rfl (by rw [List.length_map]; omega), List.map_append]; rfl
  have p2 : pushL (.ref 1) (I (kr c N w q)) [.lst ((ps ++ [kp c N w q]).map I), .lst (ks.map I)] = .ok (.pv .non) [.lst ((ps ++ [kp c N w q]).map I), .lst ((ks ++ [kr c N w q]).map I)] := by
    have e : (ks ++ [kr c N w q]).map I = ks.map I ++ [I (kr c N w q)] := List.map_append
    rw [push_at (xs := ks.map I) rfl (by rw [List.length_map]; omega), e]; rfl
  have l0 : ∀ (a b : List Va), lstOf [.lst a, .lst b] (.ref 0) = some a := fun a b => rfl
  have l1 : ∀ (a b : List Va), lstOf [.lst a, .lst b] (.ref 1) = some b := fun a b => rfl
  have la := last_at (cs := ps) (p := kp c N w q) (h := [.lst ((ps ++ [kp c N w q]).map I), .lst (ks.map I)]) (f := 0) rfl
  have e1 : c * mc (q.1.t * N + q.2) (q.1.u * c) w = kp c N w q := rfl
  have e2 : q.1.t * N + q.2 - kp c N w q * q.1.u = kr c N w q := rfl
  unfold kbB
  simp [-List.map_append, ev_callP, m, mc', mu, pm, e1, e2, l0, l1, p1, p2, la]
end
end R
set_option exponentiation.threshold 10000
namespace R
open PySem PySem.Spec PyProof.Rows L2 CI
section
variable {c N : Int} {w : Str} {l : List Sh}
noncomputable abbrev kbT : Tg := gTu 2 (gsCons (gTu 3 (gsCons (gNm 7) (gsCons (gNm 8) (gsCons (gNm 9) gsNil)))) (gsCons (gNm 5) gsNil))
theorem kb_loop (hc : 1 ≤ c ∧ c ≤ 12) {x2 : Option Va} : ∀ (qs : List (Sh × Int)) (ps ks : List Int) (x5 x6 x7 x8 x9 : Option Va), (∀ q ∈ qs, (1 ≤ q.1.t ∧ q.1.t ≤ 12) ∧ (1 ≤ q.1.u ∧ q.1.u ≤ 12)) → ps.length + qs.length ≤ 4 → ks.length + qs.length ≤ 4 →
    ∃ y5 y6 y7 y8 y9, forL kbT kbB (qs.map fun q => .pv (.tup [shP q.1, .int q.2])) [some (.pv (hI c w ("keep" : Str) l)), some (I N), x2, some (.ref 0), some (.ref 1), x5, x6, x7, x8, x9] [.lst (ps.map I), .lst (ks.map I)] =
      .nx [some (.pv (hI c w ("keep" : Str) l)), some (I N), x2, some (.ref 0), some (.ref 1), y5, y6, y7, y8, y9] [.lst ((ps ++ qs.map (kp c N w)).map I), .lst ((ks ++ qs.map (kr c N w)).map I)]
  | [], ps, ks, x5, x6, x7, x8, x9, _, _, _ => ⟨x5, x6, x7, x8, x9, by rw [List.map_nil, List.map_nil, List.map_nil, List.append_nil, List.append_nil]; rfl⟩
  | q :: qs, ps, ks, x5, x6, x7, x8, x9, hq, h1, h2 => by
    rw [List.length_cons] at h1 h2
    obtain ⟨ht, hu⟩ := hq q (List.mem_cons_self ..)
    have st := kb_step (N := N) (w := w) (l := l) (x2 := x2) (x6 := x6) (ps := ps) (ks := ks) hc ht hu (by omega) (by omega)
    obtain ⟨y5, y6, y7, y8, y9, e⟩ := kb_loop hc (x2 := x2) qs (ps ++ [kp c N w q]) (ks ++ [kr c N w q]) (some (I q.2)) (some (I (q.1.t * N + q.2))) (some (.pv (.str q.1.to))) (some (I q.1.t)) (some (I q.1.u)) (fun q' m => hq q' (List.mem_cons_of_mem _ m)) (by rw [List.length_append]; simp; omega) (by rw [List.length_append]; simp; omega)
    refine ⟨y5, y6, y7, y8, y9, ?_⟩
    rw [List.map_cons, ev_forL_cons]
    have t : kbT.put (.pv (.tup [shP q.1, .int q.2])) [some (.pv (hI c w ("keep" : Str) l)), some (I N), x2, some (.ref 0), some (.ref 1), x5, x6, x7, x8, x9] [.lst (ps.map I), .lst (ks.map I)] = some [some (.pv (hI c w ("keep" : Str) l)), some (I N), x2, some (.ref 0), some (.ref 1), some (I q.2), x6, some (.pv (.str q.1.to)), some (I q.1.t), some (I q.1.u)] := by
      unfold kbT shP
      simp
    rw [t]
    dsimp only
    rw [st]
    simp only [ev_turn_nx]
    rw [e, List.append_assoc, List.append_assoc]
    rfl
theorem ints_I (cs : List Int) : (cs.map Pv.int).map Va.pv = cs.map I := by rw [List.map_map]; rfl
theorem mem_zip1 {α β : Type} {l : List α} {K : List β} {q : α × β} (h : q ∈ l.zip K) : q.1 ∈ l := (List.of_mem_zip h).1
theorem p_bykeep {K : List Int} (O : HOk c w ("keep" : Str) l) (hK : K.length = l.length) : pcall F_by_keep [hI c w ("keep" : Str) l, .int N, .tup (K.map .int)] = .ok (.tup [.lst (((l.zip K).map (kp c N w)).map .int), .tup (((l.zip K).map (kr c N w)).map .int)]) := by
  have S := O.s
  have n4 := S.n4
  have zl : (l.zip K).length = l.length := by rw [List.length_zip]; omega
  obtain ⟨y5, y6, y7, y8, y9, lp⟩ := kb_loop (N := N) (w := w) (l := l) O.c1 (x2 := some (.pv (.tup (K.map .int)))) (l.zip K) [] [] none none none none none (fun q hq => ⟨S.t1 _ (mem_zip1 hq), S.u1 _ (mem_zip1 hq)⟩) (by rw [zl]; simp; omega) (by rw [zl]; simp; omega)
  have n0 : ([] : List Int).map I = [] := rfl
  rw [List.nil_append, List.nil_append, n0, ← zipA_sh] at lp
  have it : ∀ (s : Sl) (h : Hh), s[0]? = some (some (.pv (hI c w ("keep" : Str) l))) → s[2]? = some (some (.pv (.tup (K.map .int)))) → iZipS (daCons (dAttr [("House" : Str)] ("shares" : Str) (dVar 0)) (daCons (dVar 2) daNil)) (daCons (dC (.bl true)) daNil) s h = .ok (zipA (l.map shP) (K.map .int)) h := fun s h h0 h2 => by
    have e : (daCons (dAttr [("House" : Str)] ("shares" : Str) (dVar 0)) (daCons (dVar 2) daNil)) s h = .ok [.pv (.tup (l.map shP)), .pv (.tup (K.map .int))] h := by
      simp [-List.map_map, h0, h2]
    unfold iZipS
    rw [e]
    simp only [ev_bind_ok, ev_cons, ev_C, ev_nil, give_pv, seqB]
    rw [if_pos (by rw [List.length_map, List.length_map, hK])]
  have tl : bTuple [.ref 1] [.lst (((l.zip K).map (kp c N w)).map I), .lst (((l.zip K).map (kr c N w)).map I)] = .ok (.pv (.tup (((l.zip K).map (kr c N w)).map .int))) [.lst (((l.zip K).map (kp c N w)).map I), .frz (.lst (((l.zip K).map (kr c N w)).map .int))] := by
    have g := give_ref (n := 3) (f := 1) (h := [.lst (((l.zip K).map (kp c N w)).map I), .lst (((l.zip K).map (kr c N w)).map I)]) (ps := ((l.zip K).map (kr c N w)).map .int) (by rw [ints_I]; rfl)
    have g : give (.ref 1) _ = _ := g
    unfold bTuple
    dsimp only
    rw [g]
    rfl
  have gv : ∀ n : Nat, giveN (n + 1) (.ref 0) [.lst (((l.zip K).map (kp c N w)).map I), .frz (.lst (((l.zip K).map (kr c N w)).map .int))] = some (.lst (((l.zip K).map (kp c N w)).map .int), [.frz (.lst (((l.zip K).map (kp c N w)).map .int)), .frz (.lst (((l.zip K).map (kr c N w)).map .int))]) := by
    intro n
    have g := give_ref (n := n) (f := 0) (h := [.lst (((l.zip K).map (kp c N w)).map I), .frz (.lst (((l.zip K).map (kr c N w)).map .int))]) (ps := ((l.zip K).map (kp c N w)).map .int) (by rw [ints_I]; rfl)
    rw [g]; rfl
  refine pcall_of (h' := [.frz (.lst (((l.zip K).map (kp c N w)).map .int)), .frz (.lst (((l.zip K).map (kr c N w)).map .int))]) ?_
  simp only [kbB, kbT] at lp
  unfold F_by_keep fnOfB b_by_keep startS
  simp [-ev_forL_cons, -List.map_map, it, lp, tl, gv]
end
end R
set_option exponentiation.threshold 10000
namespace R
open PySem PySem.Spec PyProof.Rows L2 CI
section
variable {c N : Int} {w y : Str} {l : List Sh}
theorem idx_pre {α : Type} {f : α → Pv} {pre suf : List α} {x : α} {h : Hh} : oIdx (.pv (.tup ((pre ++ x :: suf).map f))) (I (pre.length : Int)) h = .ok (.pv (f x)) h := by
  have a : atI (((pre ++ x :: suf).map f).map Va.pv) (pre.length : Int) = some (.pv (f x)) := by
    unfold atI ixN
    have ll : pre.length < (((pre ++ x :: suf).map f).map Va.pv).length := by rw [List.length_map, List.length_map, List.length_append, List.length_cons]; omega
    rw [if_pos (by omega), if_pos (by omega)]
    show (((pre ++ x :: suf).map f).map Va.pv)[((pre.length : Int)).toNat]? = _
    rw [Int.toNat_natCast, List.getElem?_map, List.getElem?_map, List.getElem?_append_right (Nat.le_refl _), Nat.sub_self]
    rfl
  rw [ev_idx_tup, a]
theorem sh2 {x : Sh} {h : Hh} : oIdx (.pv (shP x)) (I 2) h = .ok (I x.u) h := by rfl
theorem mOf (S : ShOk l) {x : Sh} (hx : x ∈ l) : ∃ M : Int, (wh l).fdiv x.u = M ∧ 0 < M ∧ M ≤ 20736 ∧ wh l = x.u * M := by
  obtain ⟨W0, dv, W1⟩ := S.wh
  obtain ⟨P, hP⟩ := dv x hx
  have u1 := S.u1 x hx
  have e : (wh l).fdiv x.u = P := by rw [hP]; exact Int.mul_fdiv_cancel_left _ (by omega)
  have P0 : 0 < P := by
    by_cases z : 0 < P
    · exact z
    · exfalso
      have : x.u * P ≤ 0 := Int.mul_nonpos_of_nonneg_of_nonpos (by omega) (by omega)
      omega
  have : 1 * P ≤ x.u * P := Int.mul_le_mul_of_nonneg_right u1.1 (by omega)
  exact ⟨P, e, P0, by omega, hP⟩
theorem kp_scaled (S : ShOk l) {x : Sh} (hx : x ∈ l) {k : Int} (hc : 1 ≤ c) : c * mc (x.t * N * (wh l).fdiv x.u + k * (wh l).fdiv x.u) (wh l * c) w = kp c N w (x, k) ∧
    x.t * N * (wh l).fdiv x.u + k * (wh l).fdiv x.u - kp c N w (x, k) * wh l = (wh l).fdiv x.u * kr c N w (x, k) := by
  obtain ⟨M, e, M0, _, hw⟩ := mOf S hx
  have u1 := S.u1 x hx
  have uc : 0 < x.u * c := Int.mul_pos (by omega) (by omega)
  rw [e]
  constructor
  · unfold kp
    rw [← mc_scale (t := x.t * N + k) (S := x.u * c) (P := M) uc M0, hw]
    have a : x.t * N * M + k * M = M * (x.t * N + k) := by rw [Int.mul_add, Int.mul_comm M, Int.mul_comm M]
    have b : x.u * M * c = M * (x.u * c) := by rw [Int.mul_comm x.u M, Int.mul_assoc]
    rw [a, b]
  · unfold kr
    rw [hw]
    show x.t * N * M + k * M - kp c N w (x, k) * (x.u * M) = M * (x.t * N + k - kp c N w (x, k) * x.u)
    rw [Int.mul_sub, Int.mul_add, Int.mul_comm M (x.t * N), Int.mul_comm M k, Int.mul_comm M (kp c N w (x, k) * x.u), Int.mul_assoc (kp c N w (x, k))]
noncomputable abbrev pkT : Tg := gTu 2 (gsCons (gNm 14) (gsCons (gNm 15) gsNil))
noncomputable abbrev pkB : Sn := (sSeq (sIf (tVB (dBin (oEqN false) (dVar 9) (dC (.str ("keep" : Str))))) (sAsg (gNm 13) (dBin oMul (dBin oIdx (dVar 2) (dVar 14)) (dBin oDiv (dVar 3) (dBin oIdx (dBin oIdx (dVar 6) (dVar 14)) (dC (.int 2)))))) sNil)
    (sSeq (sExpr (dApp (dVar 11) (daCons (dCallP R.F_q_near 4 0 (R.a_q_near 4 []) (daCons (dBin oAdd (dVar 15) (dVar 13)) (daCons (dVar 3) (daCons (dVar 7) (daCons (dVar 8) daNil)))) daNil) daNil)))
    (sSeq (sAsg (gNm 13) (dBin oSub (dBin oAdd (dVar 15) (dVar 13)) (dBin oMul (dBin oIdx (dVar 11) (dNeg (dC (.int 1)))) (dVar 3))))
    (sExpr (dApp (dVar 12) (daCons (dBin oDiv (dVar 13) (dBin oDiv (dVar 3) (dBin oIdx (dBin oIdx (dVar 6) (dVar 14)) (dC (.int 2))))) daNil))))))
abbrev pkS (c : Int) (w y : Str) (l : List Sh) (x0 x1 : Option Va) (K : List Int) (x4 x5 x10 : Option Va) (x13 x14 x15 : Option Va) (x16 x17 x18 x19 : Option Va) : Sl :=
  [x0, x1, some (.pv (.tup (K.map .int))), some (I (wh l)), x4, x5, some (.pv (.tup (l.map shP))), some (I c), some (.pv (.str w)), some (.pv (.str y)), x10, some (.ref 0), some (.ref 1), x13, x14, x15, x16, x17, x18, x19]
theorem two_push {ps ks : List Int} {p k : Int} (h1 : ps.length ≤ 4) (h2 : ks.length ≤ 4) : pushL (.ref 0) (I p) [.lst (ps.map I), .lst (ks.map I)] = .ok (.pv .non) [.lst ((ps ++ [p]).map I), .lst (ks.map I)] ∧
    pushL (.ref 1) (I k) [.lst ((ps ++ [p]).map I), .lst (ks.map I)] = .ok (.pv .non) [.lst ((ps ++ [p]).map I), .lst ((ks ++ [k]).map I)] := by
  constructor
  · rw [push_at (xs := ps.map I) rfl (by rw [List.length_map]; omega), List.map_append]; rfl
  · have e : (ks ++ [k]).map I = ks.map I ++ [I k] := List.map_append
    rw [push_at (xs := ks.map I) rfl (by rw [List.length_map]; omega), e]; rfl
theorem pk_step {x0 x1 x4 x5 x10 x13 x16 x17 x18 x19 : Option Va} {ps ks : List Int} {pre suf : List Sh} {kpre ksuf : List Int} {x : Sh} {k : Int} (O : HOk c w ("keep" : Str) (pre ++ x :: suf)) (hk : kpre.length = pre.length) (h1 : ps.length ≤ 4) (h2 : ks.length ≤ 4) :
    pkB (pkS c w ("keep" : Str) (pre ++ x :: suf) x0 x1 (kpre ++ k :: ksuf) x4 x5 x10 x13 (some (I pre.length)) (some (I (x.t * N * (wh (pre ++ x :: suf)).fdiv x.u))) x16 x17 x18 x19) [.lst (ps.map I), .lst (ks.map I)] =
      .nx (pkS c w ("keep" : Str) (pre ++ x :: suf) x0 x1 (kpre ++ k :: ksuf) x4 x5 x10 (some (I ((wh (pre ++ x :: suf)).fdiv x.u * kr c N w (x, k)))) (some (I pre.length)) (some (I (x.t * N * (wh (pre ++ x :: suf)).fdiv x.u))) x16 x17 x18 x19) [.lst ((ps ++ [kp c N w (x, k)]).map I), .lst ((ks ++ [kr c N w (x, k)]).map I)] := by
  have S := O.s
  have hx : x ∈ pre ++ x :: suf := List.mem_append_right _ (List.mem_cons_self ..)
  have i1 : ∀ h : Hh, oIdx (.pv (.tup ((pre ++ x :: suf).map shP))) (I (pre.length : Int)) h = .ok (.pv (shP x)) h := fun h => idx_pre
  have i2 : ∀ h : Hh, oIdx (.pv (.tup ((kpre ++ k :: ksuf).map .int))) (I (pre.length : Int)) h = .ok (I k) h := fun h => by rw [← hk]; exact idx_pre
  have u1 := S.u1 x hx
  obtain ⟨W0, _, W1⟩ := S.wh
  obtain ⟨M, eM, M0, M1, hM⟩ := mOf S hx
  obtain ⟨q1, q2⟩ := kp_scaled (N := N) (w := w) S hx (k := k) O.c1.1
  have pn := p_near (T := x.t * N * (wh (pre ++ x :: suf)).fdiv x.u + k * (wh (pre ++ x :: suf)).fdiv x.u) (U := wh (pre ++ x :: suf)) (p := c) (w := w) W0 (by omega) O.c1 O.w5
  rw [q1] at pn
  generalize eL : pre ++ x :: suf = L at *
  generalize kpre ++ k :: ksuf = KK at *
  rw [eM] at q2 pn ⊢
  have du := divOk_u u1
  have dM : divOk M = true := divOk_of (by omega) (Nat.lt_trans (show M.natAbs < 2 ^ 20 by omega) (by decide +kernel))
  have m1 : ∀ a, mulOk a M = true := fun a => mulOk_r (by omega)
  have m2 : ∀ a, mulOk a (wh L) = true := fun a => mulOk_r (by omega)
  have fM : (M * kr c N w (x, k)).fdiv M = kr c N w (x, k) := Int.mul_fdiv_cancel_left _ (by omega)
  obtain ⟨p1, p2⟩ := two_push (ps := ps) (ks := ks) (p := kp c N w (x, k)) (k := kr c N w (x, k)) h1 h2
  have l0 : ∀ (a b : List Va), lstOf [.lst a, .lst b] (.ref 0) = some a := fun a b => rfl
  have l1 : ∀ (a b : List Va), lstOf [.lst a, .lst b] (.ref 1) = some b := fun a b => rfl
  have la := last_at (cs := ps) (p := kp c N w (x, k)) (h := [.lst ((ps ++ [kp c N w (x, k)]).map I), .lst (ks.map I)]) (f := 0) rfl
  unfold pkB pkS
  simp [-List.map_append, ev_callP, i1, i2, sh2, eM, du, dM, m1, m2, pn, l0, l1, p1, p2, la, q2, fM]
end
end R
set_option exponentiation.threshold 10000
namespace R
open PySem PySem.Spec PyProof.Rows L2 CI
section
variable {c N : Int} {w y : Str} {l : List Sh}
abbrev dueOf (l : List Sh) (N : Int) (x : Sh) : Int := x.t * N * (wh l).fdiv x.u
theorem pk_loop {K : List Int} {x0 x1 x4 x5 x10 x16 x17 x18 x19 : Option Va} (O : HOk c w ("keep" : Str) l) : ∀ (suf : List Sh) (ksuf : List Int) (pre : List Sh) (kpre : List Int) (ps ks : List Int) (r13 : Int) (x14 x15 : Option Va), l = pre ++ suf → K = kpre ++ ksuf → kpre.length = pre.length → ksuf.length = suf.length → ps.length + suf.length ≤ 4 → ks.length + suf.length ≤ 4 →
    ∃ (y13 : Int) (y14 y15 : Option Va), forL pkT pkB (enumA pre.length ((suf.map (dueOf l N)).map .int)) (pkS c w ("keep" : Str) l x0 x1 K x4 x5 x10 (some (I r13)) x14 x15 x16 x17 x18 x19) [.lst (ps.map I), .lst (ks.map I)] =
      .nx (pkS c w ("keep" : Str) l x0 x1 K x4 x5 x10 (some (I y13)) y14 y15 x16 x17 x18 x19) [.lst ((ps ++ (suf.zip ksuf).map (kp c N w)).map I), .lst ((ks ++ (suf.zip ksuf).map (kr c N w)).map I)]
  | [], ksuf, pre, kpre, ps, ks, r13, x14, x15, e1, e2, h1, h2, h3, h4 => ⟨r13, x14, x15, by
    rw [List.zip_nil_left, List.map_nil, List.map_nil, List.map_nil, List.map_nil, List.append_nil, List.append_nil]; rfl⟩
  | x :: suf, [], pre, kpre, ps, ks, r13, x14, x15, e1, e2, h1, h2, h3, h4 => by simp at h2
  | x :: suf, k :: ksuf, pre, kpre, ps, ks, r13, x14, x15, e1, e2, h1, h2, h3, h4 => by
    rw [List.length_cons] at h3 h4
    rw [List.length_cons, List.length_cons] at h2
    have st := pk_step (N := N) (pre := pre) (suf := suf) (kpre := kpre) (x := x) (x0 := x0) (x1 := x1) (x4 := x4) (x5 := x5) (x10 := x10) (x13 := some (I r13)) (x16 := x16) (x17 := x17) (x18 := x18) (x19 := x19) (ps := ps) (ks := ks) (ksuf := ksuf) (k := k) (by rw [← e1]; exact O) h1 (by omega) (by omega)
    rw [← e1, ← e2] at st
    obtain ⟨y13, y14, y15, e⟩ := pk_loop (K := K) (x0 := x0) (x1 := x1) (x4 := x4) (x5 := x5) (x10 := x10) (x16 := x16) (x17 := x17) (x18 := x18) (x19 := x19) O suf ksuf (pre ++ [x]) (kpre ++ [k]) (ps ++ [kp c N w (x, k)]) (ks ++ [kr c N w (x, k)]) ((wh l).fdiv x.u * kr c N w (x, k)) (some (I pre.length)) (some (I (x.t * N * (wh l).fdiv x.u)))
      (by rw [e1]; simp) (by rw [e2]; simp) (by simp [h1]) (by omega) (by rw [List.length_append]; simp; omega) (by rw [List.length_append]; simp; omega)
    refine ⟨y13, y14, y15, ?_⟩
    have pl : (pre ++ [x]).length = pre.length + 1 := by simp
    rw [pl] at e
    show forL _ _ (.pv (.tup [.int (pre.length : Nat), .int (dueOf l N x)]) :: enumA (pre.length + 1) ((suf.map (dueOf l N)).map .int)) _ _ = _
    rw [ev_forL_cons]
    have t : ∀ h : Hh, pkT.put (.pv (.tup [.int (pre.length : Nat), .int (dueOf l N x)])) (pkS c w ("keep" : Str) l x0 x1 K x4 x5 x10 (some (I r13)) x14 x15 x16 x17 x18 x19) h = some (pkS c w ("keep" : Str) l x0 x1 K x4 x5 x10 (some (I r13)) (some (I pre.length)) (some (I (x.t * N * (wh l).fdiv x.u))) x16 x17 x18 x19) := fun h => by
      unfold pkT pkS
      simp
    rw [t]
    dsimp only
    rw [st]
    simp only [ev_turn_nx]
    rw [e, List.append_assoc, List.append_assoc]
    rfl
theorem p_passed_keep {K : List Int} (O : HOk c w ("keep" : Str) l) (hK : K.length = l.length) : pcall F_q_passed [hT c w ("keep" : Str) l, .int N, .tup (K.map .int)] = .ok (.tup [.lst (((l.zip K).map (kp c N w)).map .int), .tup (((l.zip K).map (kr c N w)).map .int)]) := by
  have S := O.s
  have n4 := S.n4
  have n6 := len6 S.n4
  have n0 : 0 < l.length := List.length_pos_iff.mpr S.n0
  have hw := p_qwhole (l := l) S.u1
  have c2 := dues_comp (N := N) S
  obtain ⟨k0, K', rfl⟩ : ∃ k0 K', K = k0 :: K' := by
    cases K with
    | nil => simp at hK; omega
    | cons a b => exact ⟨a, b, rfl⟩
  have i0 : ∀ h : Hh, oIdx (.pv (.tup ((k0 :: K').map .int))) (I 0) h = .ok (I k0) h := fun h => idx_pre (pre := []) (f := Pv.int)
  obtain ⟨y13, y14, y15, lp⟩ := pk_loop (N := N) (K := k0 :: K') (x0 := some (.pv (hT c w ("keep" : Str) l))) (x1 := some (I N)) (x4 := some (.pv (.lst ((dueL l N).map .int)))) (x5 := some (.pv (.str ("ann" : Str)))) (x10 := none) (x16 := none) (x17 := none) (x18 := none) (x19 := none) O l (k0 :: K') [] [] [] [] k0 none none rfl rfl rfl hK (by simp; omega) (by simp; omega)
  have n1 : ([] : List Int).map I = [] := rfl
  have n2 : ([] : List Sh).length = 0 := rfl
  rw [List.nil_append, List.nil_append, n1, n2] at lp
  have du : l.map (dueOf l N) = dueL l N := rfl
  rw [du] at lp
  have it : ∀ (s : Sl) (h : Hh), s[4]? = some (some (.pv (.lst ((dueL l N).map .int)))) → iEnm (daCons (dVar 4) daNil) s h = .ok (enumA 0 ((dueL l N).map .int)) h := fun s h hs => by
    have e : (daCons (dVar 4) daNil) s h = .ok [.pv (.lst ((dueL l N).map .int))] h := by simp [-List.map_map, hs]
    unfold iEnm
    rw [e]
    rfl
  have tl : bTuple [.ref 1] [.lst (((l.zip (k0 :: K')).map (kp c N w)).map I), .lst (((l.zip (k0 :: K')).map (kr c N w)).map I)] = .ok (.pv (.tup (((l.zip (k0 :: K')).map (kr c N w)).map .int))) [.lst (((l.zip (k0 :: K')).map (kp c N w)).map I), .frz (.lst (((l.zip (k0 :: K')).map (kr c N w)).map .int))] := by
    have g := give_ref (n := 3) (f := 1) (h := [.lst (((l.zip (k0 :: K')).map (kp c N w)).map I), .lst (((l.zip (k0 :: K')).map (kr c N w)).map I)]) (ps := ((l.zip (k0 :: K')).map (kr c N w)).map .int) (by rw [ints_I]; rfl)
    have g : give (.ref 1) _ = _ := g
    unfold bTuple
    dsimp only
    rw [g]
    rfl
  have gv : ∀ n : Nat, giveN (n + 1) (.ref 0) [.lst (((l.zip (k0 :: K')).map (kp c N w)).map I), .frz (.lst (((l.zip (k0 :: K')).map (kr c N w)).map .int))] = some (.lst (((l.zip (k0 :: K')).map (kp c N w)).map .int), [.frz (.lst (((l.zip (k0 :: K')).map (kp c N w)).map .int)), .frz (.lst (((l.zip (k0 :: K')).map (kr c N w)).map .int))]) := by
    intro n
    have g := give_ref (n := n) (f := 0) (h := [.lst (((l.zip (k0 :: K')).map (kp c N w)).map I), .frz (.lst (((l.zip (k0 :: K')).map (kr c N w)).map .int))]) (ps := ((l.zip (k0 :: K')).map (kp c N w)).map .int) (by rw [ints_I]; rfl)
    rw [g]; rfl
  refine pcall_of (h' := [.frz (.lst (((l.zip (k0 :: K')).map (kp c N w)).map .int)), .frz (.lst (((l.zip (k0 :: K')).map (kr c N w)).map .int))]) ?_
  generalize eK : k0 :: K' = K at *
  simp only [pkB, pkT, pkS, hT] at lp
  unfold F_q_passed fnOfB b_q_passed startS hT
  simp [-ev_forL_cons, -List.map_map, ev_callP, hw, n6, c2, i0, it, lp, tl, gv]
theorem kept_after {K : List Int} (O : HOk c w ("keep" : Str) l) (hK : K.length = l.length) : Kept c w ("keep" : Str) l ((l.zip K).map (kr c N w)) where
  len := by
    unfold szs
    rw [if_pos rfl, List.length_map, List.length_map, List.length_zip]
    omega
  ok := fun q hq => by
    have key : ∀ (l' : List Sh) (K : List Int), (∀ x ∈ l', 1 ≤ x.u) → ∀ q ∈ ((l'.zip K).map (kr c N w)).zip (l'.map fun x => c * x.u), LeftOk q.1 q.2 w := by
      intro l'
      induction l' with
      | nil => intro K _ q hq; simp at hq
      | cons x l' ih =>
        intro K hx q hq
        cases K with
        | nil => simp at hq
        | cons k K =>
          rw [List.zip_cons_cons, List.map_cons, List.map_cons, List.zip_cons_cons] at hq
          rcases List.mem_cons.mp hq with m | m
          · rw [m]
            have u1 := hx x (List.mem_cons_self ..)
            have c1 := O.c1
            have uc : 0 < c * x.u := Int.mul_pos (by omega) (by omega)
            have e := leftOk_after (t := x.t * N + k) (w := w) uc
            show LeftOk (kr c N w (x, k)) (c * x.u) w
            have : kr c N w (x, k) = x.t * N + k - mc (x.t * N + k) (c * x.u) w * (c * x.u) := by
              unfold kr kp
              show x.t * N + k - c * mc (x.t * N + k) (x.u * c) w * x.u = _
              rw [Int.mul_comm x.u c, Int.mul_comm c (mc _ _ _), Int.mul_assoc]
            rw [this]
            exact e
          · exact ih K (fun y hy => hx y (List.mem_cons_of_mem _ hy)) q m
    have hz : szs c ("keep" : Str) l = l.map fun x => c * x.u := by unfold szs; rw [if_pos rfl]
    rw [hz] at hq
    exact key l K (fun x hx => (O.s.u1 x hx).1) q hq
theorem kept_at {K : List Int} (k : Kept c w ("keep" : Str) l K) : ∀ q ∈ l.zip K, LeftOk q.2 (c * q.1.u) w := fun q hq => by
  have hz : szs c ("keep" : Str) l = l.map fun x => c * x.u := by unfold szs; rw [if_pos rfl]
  obtain ⟨i, hi, e⟩ := List.mem_iff_getElem.mp hq
  have hi1 : i < l.length ∧ i < K.length := by rw [List.length_zip] at hi; omega
  have hi2 : i < (K.zip (szs c ("keep" : Str) l)).length := by rw [List.length_zip, hz, List.length_map]; omega
  have m := k.ok _ (List.getElem_mem hi2)
  rw [List.getElem_zip] at m e
  rw [← e]
  simp only [hz, List.getElem_map] at m
  exact m
theorem pass_keep {N : Int} {K : List Int} (O : HOk c w ("keep" : Str) l) (N0 : 0 ≤ N) (N1 : N < 2 ^ 150) (k : Kept c w ("keep" : Str) l K) : PassOk c w ("keep" : Str) l N K := by
  have S := O.s
  have hz : szs c ("keep" : Str) l = l.map fun x => c * x.u := by unfold szs; rw [if_pos rfl]
  have hK : K.length = l.length := by rw [k.len, hz, List.length_map]
  have kb := k.bnd S O.c1 O.w5
  refine ⟨(l.zip K).map (kp c N w), (l.zip K).map (kr c N w), p_passed_keep O hK, p_bykeep O hK, kept_after O hK, by rw [List.length_map, List.length_zip]; omega, fun p hp => ?_⟩
  obtain ⟨q, hq, e⟩ := List.mem_map.mp hp
  have L := kept_at k q hq
  have u1 := S.u1 _ (mem_zip1 hq)
  have t1 := S.t1 _ (mem_zip1 hq)
  have kq := kb _ (List.of_mem_zip hq).2
  have c2 := O.c1
  have uc : 0 < c * q.1.u := Int.mul_pos (by omega) (by omega)
  have tN := Int.mul_nonneg (show 0 ≤ q.1.t by omega) N0
  have bt : (q.1.t * N).natAbs < 2 ^ (4 + 150) := mul_bnd (by omega) (by omega)
  have m0 := mc_due0 (t := q.1.t * N) O.w5 uc L tN
  have mb : (mc (q.1.t * N + q.2) (c * q.1.u) w).natAbs < 2 ^ 160 := by
    have n := (mc_near (t := q.1.t * N + q.2) (w := w) uc).2
    have f := fdiv_abs (t := q.1.t * N + q.2) uc
    omega
  unfold kp at e
  rw [Int.mul_comm q.1.u c] at e
  have cb : (c * mc (q.1.t * N + q.2) (c * q.1.u) w).natAbs < 2 ^ (4 + 160) := mul_bnd (by omega) mb
  rw [← e]
  exact ⟨Int.mul_nonneg (by omega) m0, big cb (by decide)⟩
end
end R
set_option exponentiation.threshold 10000
namespace R
open PySem PySem.Spec PyProof.Rows L2 CI
section
variable {c N : Int} {w y : Str} {l : List Sh}
def hp (l : List Sh) (N c : Int) (w : Str) (x : Sh) (r : Int) : Int := c * mc (dueOf l N x + r) (wh l * c) w
def hr (l : List Sh) (N c : Int) (w : Str) (x : Sh) (r : Int) : Int := dueOf l N x + r - hp l N c w x r * wh l
def hps (l : List Sh) (N c : Int) (w : Str) : List Sh → Int → List Int
  | [], _ => []
  | x :: xs, r => hp l N c w x r :: hps l N c w xs (hr l N c w x r)
def hlast (l : List Sh) (N c : Int) (w : Str) : List Sh → Int → Int
  | [], r => r
  | x :: xs, r => hlast l N c w xs (hr l N c w x r)
theorem hps_len : ∀ (xs : List Sh) (r : Int), (hps l N c w xs r).length = xs.length
  | [], _ => rfl
  | x :: xs, r => by rw [hps, List.length_cons, List.length_cons, hps_len xs]
noncomputable abbrev hbT : Tg := gTu 3 (gsCons (gNm 6) (gsCons (gNm 7) (gsCons (gNm 8) gsNil)))
noncomputable abbrev hbB : Sn := (sSeq (sAsg (gNm 9) (dBin oAdd (dBin oMul (dBin oMul (dVar 7) (dVar 1)) (dBin oDiv (dVar 3) (dVar 8))) (dVar 5)))
    (sSeq (sExpr (dApp (dVar 4) (daCons (dBin oMul (dAttr [("House" : Str)] ("coin" : Str) (dVar 0)) (dCallP R.F_many_coins 4 0 (R.a_many_coins 4 []) (daCons (dVar 9) (daCons (dVar 3) (daCons (dAttr [("House" : Str)] ("coin" : Str) (dVar 0)) (daCons (dAttr [("House" : Str)] ("rule" : Str) (dVar 0)) daNil)))) daNil)) daNil)))
    (sAsg (gNm 5) (dBin oSub (dVar 9) (dBin oMul (dBin oIdx (dVar 4) (dNeg (dC (.int 1)))) (dVar 3))))))
theorem hb_step {x2 x9 : Option Va} {ps : List Int} {x : Sh} {r : Int} (O : HOk c w ("hand" : Str) l) (hx : x ∈ l) (h1 : ps.length ≤ 4) :
    hbB [some (.pv (hI c w ("hand" : Str) l)), some (I N), x2, some (I (wh l)), some (.ref 0), some (I r), some (.pv (.str x.to)), some (I x.t), some (I x.u), x9] [.lst (ps.map I)] =
      .nx [some (.pv (hI c w ("hand" : Str) l)), some (I N), x2, some (I (wh l)), some (.ref 0), some (I (hr l N c w x r)), some (.pv (.str x.to)), some (I x.t), some (I x.u), some (I (dueOf l N x + r))] [.lst ((ps ++ [hp l N c w x r]).map I)] := by
  have S := O.s
  have c1 := O.c1
  have u1 := S.u1 x hx
  have t1 := S.t1 x hx
  obtain ⟨W0, _, W1⟩ := S.wh
  obtain ⟨M, eM, M0, M1, hM⟩ := mOf S hx
  have cN : c.natAbs < 2 ^ 64 := by omega
  have ub : (wh l * c).natAbs < 2 ^ (15 + 4) := mul_bnd (by omega) (by omega)
  have uc : 0 < wh l * c := Int.mul_pos W0 (by omega)
  have pm := p_many (t := dueOf l N x + r) (u := wh l) (c := c) (r := w) (by omega) (big ub (by decide)) cN
  have m : mulOk x.t N = true := mulOk_l (by omega)
  have m1 : ∀ a, mulOk a ((wh l).fdiv x.u) = true := fun a => mulOk_r (by rw [eM]; omega)
  have m2 : ∀ a, mulOk a (wh l) = true := fun a => mulOk_r (by omega)
  have mc' : ∀ a, mulOk c a = true := fun a => mulOk_l cN
  have du := divOk_u u1
  have p1 : pushL (.ref 0) (I (hp l N c w x r)) [.lst (ps.map I)] = .ok (.pv .non) [.lst ((ps ++ [hp l N c w x r]).map I)] := by
    rw [push_at (xs := ps.map I) rfl (by rw [List.length_map]; omega), List.map_append]; rfl
  have l0 : ∀ (a : List Va), lstOf [.lst a] (.ref 0) = some a := fun a => rfl
  have la := last_at (cs := ps) (p := hp l N c w x r) (h := [.lst ((ps ++ [hp l N c w x r]).map I)]) (f := 0) rfl
  have e1 : c * mc (x.t * N * (wh l).fdiv x.u + r) (wh l * c) w = hp l N c w x r := rfl
  have e2 : x.t * N * (wh l).fdiv x.u + r - hp l N c w x r * wh l = hr l N c w x r := rfl
  unfold hbB
  simp [-List.map_append, ev_callP, m, m1, m2, mc', du, pm, e1, e2, l0, p1, la]
theorem hb_loop {x2 : Option Va} (O : HOk c w ("hand" : Str) l) : ∀ (xs : List Sh) (ps : List Int) (r : Int) (x6 x7 x8 x9 : Option Va), (∀ x ∈ xs, x ∈ l) → ps.length + xs.length ≤ 4 →
    ∃ y6 y7 y8 y9, forL hbT hbB ((xs.map shP).map Va.pv) [some (.pv (hI c w ("hand" : Str) l)), some (I N), x2, some (I (wh l)), some (.ref 0), some (I r), x6, x7, x8, x9] [.lst (ps.map I)] =
      .nx [some (.pv (hI c w ("hand" : Str) l)), some (I N), x2, some (I (wh l)), some (.ref 0), some (I (hlast l N c w xs r)), y6, y7, y8, y9] [.lst ((ps ++ hps l N c w xs r).map I)]
  | [], ps, r, x6, x7, x8, x9, _, _ => ⟨x6, x7, x8, x9, by rw [hps, List.append_nil]; rfl⟩
  | x :: xs, ps, r, x6, x7, x8, x9, hx, h1 => by
    rw [List.length_cons] at h1
    have st := hb_step (N := N) (x2 := x2) (x9 := x9) (r := r) O (hx x (List.mem_cons_self ..)) (ps := ps) (by omega)
    obtain ⟨y6, y7, y8, y9, e⟩ := hb_loop (x2 := x2) O xs (ps ++ [hp l N c w x r]) (hr l N c w x r) (some (.pv (.str x.to))) (some (I x.t)) (some (I x.u)) (some (I (dueOf l N x + r))) (fun z m => hx z (List.mem_cons_of_mem _ m)) (by rw [List.length_append]; simp; omega)
    refine ⟨y6, y7, y8, y9, ?_⟩
    rw [List.map_cons, List.map_cons, ev_forL_cons]
    have t : hbT.put (.pv (shP x)) [some (.pv (hI c w ("hand" : Str) l)), some (I N), x2, some (I (wh l)), some (.ref 0), some (I r), x6, x7, x8, x9] [.lst (ps.map I)] = some [some (.pv (hI c w ("hand" : Str) l)), some (I N), x2, some (I (wh l)), some (.ref 0), some (I r), some (.pv (.str x.to)), some (I x.t), some (I x.u), x9] := by
      unfold hbT shP
      simp
    rw [t]
    dsimp only
    rw [st]
    simp only [ev_turn_nx]
    rw [e, List.append_assoc]
    rfl
theorem p_byhand {r0 : Int} (O : HOk c w ("hand" : Str) l) : pcall F_by_hand [hI c w ("hand" : Str) l, .int N, .tup [.int r0]] = .ok (.tup [.lst ((hps l N c w l r0).map .int), .tup [.int (hlast l N c w l r0)]]) := by
  have S := O.s
  have n4 := S.n4
  obtain ⟨y6, y7, y8, y9, lp⟩ := hb_loop (N := N) (x2 := some (.pv (.tup [.int r0]))) O l [] r0 none none none none (fun x hx => hx) (by simp; omega)
  have n1 : ([] : List Int).map I = [] := rfl
  rw [List.nil_append, n1] at lp
  have mw := mw_whole (c := c) (w := w) (y := ("hand" : Str)) S
  have gv : ∀ n : Nat, giveN (n + 1) (.ref 0) [.lst ((hps l N c w l r0).map I)] = some (.lst ((hps l N c w l r0).map .int), [.frz (.lst ((hps l N c w l r0).map .int))]) := fun n => give_ints
  refine pcall_of (h' := [.frz (.lst ((hps l N c w l r0).map .int))]) ?_
  simp only [hbB, hbT] at lp
  unfold F_by_hand fnOfB b_by_hand startS
  simp [-ev_forL_cons, -List.map_map, mw, lp, gv]
/-! ### the same in the law -/
def hbs (l : List Sh) (N c : Int) (w : Str) : List Sh → Int → List Int
  | [], _ => []
  | x :: xs, r => (hr l N c w x r).fdiv ((wh l).fdiv x.u) :: hbs l N c w xs (hr l N c w x r)
theorem pkh_step {K : List Int} {x0 x1 x4 x5 x10 x16 x17 x18 x19 : Option Va} {ps ks : List Int} {pre suf : List Sh} {x : Sh} {r : Int} (O : HOk c w ("hand" : Str) (pre ++ x :: suf)) (h1 : ps.length ≤ 4) (h2 : ks.length ≤ 4) :
    pkB (pkS c w ("hand" : Str) (pre ++ x :: suf) x0 x1 K x4 x5 x10 (some (I r)) (some (I pre.length)) (some (I (dueOf (pre ++ x :: suf) N x))) x16 x17 x18 x19) [.lst (ps.map I), .lst (ks.map I)] =
      .nx (pkS c w ("hand" : Str) (pre ++ x :: suf) x0 x1 K x4 x5 x10 (some (I (hr (pre ++ x :: suf) N c w x r))) (some (I pre.length)) (some (I (dueOf (pre ++ x :: suf) N x))) x16 x17 x18 x19) [.lst ((ps ++ [hp (pre ++ x :: suf) N c w x r]).map I), .lst ((ks ++ [(hr (pre ++ x :: suf) N c w x r).fdiv ((wh (pre ++ x :: suf)).fdiv x.u)]).map I)] := by
  have S := O.s
  have hx : x ∈ pre ++ x :: suf := List.mem_append_right _ (List.mem_cons_self ..)
  have i1 : ∀ h : Hh, oIdx (.pv (.tup ((pre ++ x :: suf).map shP))) (I (pre.length : Int)) h = .ok (.pv (shP x)) h := fun h => idx_pre
  have u1 := S.u1 x hx
  obtain ⟨W0, _, W1⟩ := S.wh
  obtain ⟨M, eM, M0, M1, hM⟩ := mOf S hx
  have pn := p_near (T := dueOf (pre ++ x :: suf) N x + r) (U := wh (pre ++ x :: suf)) (p := c) (w := w) W0 (by omega) O.c1 O.w5
  have e1 : c * mc (dueOf (pre ++ x :: suf) N x + r) (wh (pre ++ x :: suf) * c) w = hp (pre ++ x :: suf) N c w x r := rfl
  rw [e1] at pn
  have e2 : dueOf (pre ++ x :: suf) N x + r - hp (pre ++ x :: suf) N c w x r * wh (pre ++ x :: suf) = hr (pre ++ x :: suf) N c w x r := rfl
  have du := divOk_u u1
  have dM : divOk ((wh (pre ++ x :: suf)).fdiv x.u) = true := by rw [eM]; exact divOk_of (by omega) (Nat.lt_trans (show M.natAbs < 2 ^ 20 by omega) (by decide +kernel))
  have m2 : ∀ a, mulOk a (wh (pre ++ x :: suf)) = true := fun a => mulOk_r (by omega)
  obtain ⟨p1, p2⟩ := two_push (ps := ps) (ks := ks) (p := hp (pre ++ x :: suf) N c w x r) (k := (hr (pre ++ x :: suf) N c w x r).fdiv ((wh (pre ++ x :: suf)).fdiv x.u)) h1 h2
  have l0 : ∀ (a b : List Va), lstOf [.lst a, .lst b] (.ref 0) = some a := fun a b => rfl
  have l1 : ∀ (a b : List Va), lstOf [.lst a, .lst b] (.ref 1) = some b := fun a b => rfl
  have la := last_at (cs := ps) (p := hp (pre ++ x :: suf) N c w x r) (h := [.lst ((ps ++ [hp (pre ++ x :: suf) N c w x r]).map I), .lst (ks.map I)]) (f := 0) rfl
  generalize eL : pre ++ x :: suf = L at *
  generalize eD : dueOf L N x = D at *
  unfold pkB pkS
  simp [-List.map_append, ev_callP, i1, sh2, du, dM, m2, pn, l0, l1, p1, p2, la, e2]
end
end R
set_option exponentiation.threshold 10000
namespace R
open PySem PySem.Spec PyProof.Rows L2 CI
section
variable {c N : Int} {w y : Str} {l : List Sh}
theorem pkh_loop {K : List Int} {x0 x1 x4 x5 x10 x16 x17 x18 x19 : Option Va} (O : HOk c w ("hand" : Str) l) : ∀ (suf pre : List Sh) (ps ks : List Int) (r : Int) (x14 x15 : Option Va), l = pre ++ suf → ps.length + suf.length ≤ 4 → ks.length + suf.length ≤ 4 →
    ∃ (y14 y15 : Option Va), forL pkT pkB (enumA pre.length ((suf.map (dueOf l N)).map .int)) (pkS c w ("hand" : Str) l x0 x1 K x4 x5 x10 (some (I r)) x14 x15 x16 x17 x18 x19) [.lst (ps.map I), .lst (ks.map I)] =
      .nx (pkS c w ("hand" : Str) l x0 x1 K x4 x5 x10 (some (I (hlast l N c w suf r))) y14 y15 x16 x17 x18 x19) [.lst ((ps ++ hps l N c w suf r).map I), .lst ((ks ++ hbs l N c w suf r).map I)]
  | [], pre, ps, ks, r, x14, x15, e1, h3, h4 => ⟨x14, x15, by rw [hps, hbs, List.append_nil, List.append_nil]; rfl⟩
  | x :: suf, pre, ps, ks, r, x14, x15, e1, h3, h4 => by
    rw [List.length_cons] at h3 h4
    have st := pkh_step (N := N) (pre := pre) (suf := suf) (x := x) (K := K) (x0 := x0) (x1 := x1) (x4 := x4) (x5 := x5) (x10 := x10) (x16 := x16) (x17 := x17) (x18 := x18) (x19 := x19) (ps := ps) (ks := ks) (r := r) (by rw [← e1]; exact O) (by omega) (by omega)
    rw [← e1] at st
    obtain ⟨y14, y15, e⟩ := pkh_loop (K := K) (x0 := x0) (x1 := x1) (x4 := x4) (x5 := x5) (x10 := x10) (x16 := x16) (x17 := x17) (x18 := x18) (x19 := x19) O suf (pre ++ [x]) (ps ++ [hp l N c w x r]) (ks ++ [(hr l N c w x r).fdiv ((wh l).fdiv x.u)]) (hr l N c w x r) (some (I pre.length)) (some (I (dueOf l N x)))
      (by rw [e1]; simp) (by rw [List.length_append]; simp; omega) (by rw [List.length_append]; simp; omega)
    refine ⟨y14, y15, ?_⟩
    have pl : (pre ++ [x]).length = pre.length + 1 := by simp
    rw [pl] at e
    show forL _ _ (.pv (.tup [.int (pre.length : Nat), .int (dueOf l N x)]) :: enumA (pre.length + 1) ((suf.map (dueOf l N)).map .int)) _ _ = _
    rw [ev_forL_cons]
    have t : ∀ h : Hh, pkT.put (.pv (.tup [.int (pre.length : Nat), .int (dueOf l N x)])) (pkS c w ("hand" : Str) l x0 x1 K x4 x5 x10 (some (I r)) x14 x15 x16 x17 x18 x19) h = some (pkS c w ("hand" : Str) l x0 x1 K x4 x5 x10 (some (I r)) (some (I pre.length)) (some (I (dueOf l N x))) x16 x17 x18 x19) := fun h => by
      unfold pkT pkS
      simp
    rw [t]
    dsimp only
    rw [st]
    simp only [ev_turn_nx]
    rw [e, List.append_assoc, List.append_assoc]
    rfl
theorem p_passed_hand {k0 : Int} (O : HOk c w ("hand" : Str) l) : pcall F_q_passed [hT c w ("hand" : Str) l, .int N, .tup [.int k0]] = .ok (.tup [.lst ((hps l N c w l k0).map .int), .tup [.int (hlast l N c w l k0)]]) := by
  have S := O.s
  have n4 := S.n4
  have n6 := len6 S.n4
  have hw := p_qwhole (l := l) S.u1
  have c2 := dues_comp (N := N) S
  obtain ⟨y14, y15, lp⟩ := pkh_loop (N := N) (K := [k0]) (x0 := some (.pv (hT c w ("hand" : Str) l))) (x1 := some (I N)) (x4 := some (.pv (.lst ((dueL l N).map .int)))) (x5 := some (.pv (.str ("ann" : Str)))) (x10 := none) (x16 := none) (x17 := none) (x18 := none) (x19 := none) O l [] [] [] k0 none none rfl (by simp; omega) (by simp; omega)
  have n1 : ([] : List Int).map I = [] := rfl
  have n2 : ([] : List Sh).length = 0 := rfl
  rw [List.nil_append, List.nil_append, n1, n2] at lp
  have du : l.map (dueOf l N) = dueL l N := rfl
  rw [du] at lp
  have it : ∀ (s : Sl) (h : Hh), s[4]? = some (some (.pv (.lst ((dueL l N).map .int)))) → iEnm (daCons (dVar 4) daNil) s h = .ok (enumA 0 ((dueL l N).map .int)) h := fun s h hs => by
    have e : (daCons (dVar 4) daNil) s h = .ok [.pv (.lst ((dueL l N).map .int))] h := by simp [-List.map_map, hs]
    unfold iEnm
    rw [e]
    rfl
  have tl : bTuple [.ref 1] [.lst ((hps l N c w l k0).map I), .lst ((hbs l N c w l k0).map I)] = .ok (.pv (.tup ((hbs l N c w l k0).map .int))) [.lst ((hps l N c w l k0).map I), .frz (.lst ((hbs l N c w l k0).map .int))] := by
    have g := give_ref (n := 3) (f := 1) (h := [.lst ((hps l N c w l k0).map I), .lst ((hbs l N c w l k0).map I)]) (ps := (hbs l N c w l k0).map .int) (by rw [ints_I]; rfl)
    have g : give (.ref 1) _ = _ := g
    unfold bTuple
    dsimp only
    rw [g]
    rfl
  have gv : ∀ n : Nat, giveN (n + 1) (.ref 0) [.lst ((hps l N c w l k0).map I), .frz (.lst ((hbs l N c w l k0).map .int))] = some (.lst ((hps l N c w l k0).map .int), [.frz (.lst ((hps l N c w l k0).map .int)), .frz (.lst ((hbs l N c w l k0).map .int))]) := by
    intro n
    have g := give_ref (n := n) (f := 0) (h := [.lst ((hps l N c w l k0).map I), .frz (.lst ((hbs l N c w l k0).map .int))]) (ps := (hps l N c w l k0).map .int) (by rw [ints_I]; rfl)
    rw [g]; rfl
  refine pcall_of (h' := [.frz (.lst ((hps l N c w l k0).map .int)), .frz (.lst ((hbs l N c w l k0).map .int))]) ?_
  simp only [pkB, pkT, pkS, hT, List.map_cons, List.map_nil] at lp
  unfold F_q_passed fnOfB b_q_passed startS hT
  simp [-ev_forL_cons, -List.map_map, ev_callP, hw, n6, c2, it, lp, tl, gv]
theorem hps_ok (O : HOk c w ("hand" : Str) l) (N0 : 0 ≤ N) (N1 : N < 2 ^ 150) : ∀ (xs : List Sh) (r : Int), (∀ x ∈ xs, x ∈ l) → LeftOk r (c * wh l) w → LeftOk (hlast l N c w xs r) (c * wh l) w ∧ ∀ p ∈ hps l N c w xs r, 0 ≤ p ∧ p.natAbs < 2 ^ 1000
  | [], r, _, L => ⟨L, by simp [hps]⟩
  | x :: xs, r, hx, L => by
    have S := O.s
    have c1 := O.c1
    obtain ⟨W0, _, W1⟩ := S.wh
    have wc : 0 < c * wh l := Int.mul_pos (by omega) W0
    have wb : c * wh l ≤ 248832 := by
      have : c * wh l ≤ c * 20736 := Int.mul_le_mul_of_nonneg_left W1 (by omega)
      omega
    have rb := leftOk_bnd (w := w) O.w5 (s := c * wh l) ⟨by omega, wb⟩ L
    have d := due_bnd S N0 N1 (dueOf l N x) (List.mem_map_of_mem (hx x (List.mem_cons_self ..)))
    have m0 := mc_due0 (t := dueOf l N x) O.w5 wc L d.1
    have e : hr l N c w x r = dueOf l N x + r - mc (dueOf l N x + r) (c * wh l) w * (c * wh l) := by
      unfold hr hp
      rw [Int.mul_comm (wh l) c, Int.mul_comm c (mc _ _ _), Int.mul_assoc]
    have L2 : LeftOk (hr l N c w x r) (c * wh l) w := by
      rw [e]; exact leftOk_after wc
    obtain ⟨a, b⟩ := hps_ok O N0 N1 xs (hr l N c w x r) (fun z m => hx z (List.mem_cons_of_mem _ m)) L2
    refine ⟨a, fun p hp' => ?_⟩
    rw [hps] at hp'
    rcases List.mem_cons.mp hp' with z | z
    · have mb : (mc (dueOf l N x + r) (c * wh l) w).natAbs < 2 ^ 180 := by
        have n := (mc_near (t := dueOf l N x + r) (w := w) wc).2
        have f := fdiv_abs (t := dueOf l N x + r) wc
        omega
      have cb : (c * mc (dueOf l N x + r) (c * wh l) w).natAbs < 2 ^ (4 + 180) := mul_bnd (by omega) mb
      rw [z]
      unfold hp
      rw [Int.mul_comm (wh l) c]
      exact ⟨Int.mul_nonneg (by omega) m0, big cb (by decide)⟩
    · exact b p z
theorem pass_hand {N : Int} {K : List Int} (O : HOk c w ("hand" : Str) l) (N0 : 0 ≤ N) (N1 : N < 2 ^ 150) (k : Kept c w ("hand" : Str) l K) : PassOk c w ("hand" : Str) l N K := by
  have hz : szs c ("hand" : Str) l = [c * wh l] := by unfold szs; rw [if_neg (by decide +kernel), if_pos rfl]
  have len := k.len
  rw [hz] at len
  obtain ⟨r, rfl⟩ : ∃ r, K = [r] := by
    cases K with
    | nil => simp at len
    | cons r K => cases K with
      | nil => exact ⟨r, rfl⟩
      | cons _ _ => simp at len
  have L : LeftOk r (c * wh l) w := k.ok (r, c * wh l) (by rw [hz]; simp)
  obtain ⟨a, b⟩ := hps_ok O N0 N1 l r (fun x hx => hx) L
  exact ⟨hps l N c w l r, [hlast l N c w l r], p_passed_hand O, p_byhand O, ⟨by rw [hz]; rfl, fun q hq => by
    rw [hz] at hq
    have : q = (hlast l N c w l r, c * wh l) := by simpa using hq
    rw [this]; exact a⟩, hps_len l r, b⟩
end
end R
set_option exponentiation.threshold 10000
namespace R
open PySem PySem.Spec PyProof.Rows L2 CI
/-! ### what all shares pass together -/
theorem mc_uniq {t S q : Int} {w : Str} (hw : w ∈ five) (he : w ≠ ("even" : Str)) (h : 0 < S) (L : LeftOk (t - q * S) S w) : mc t S w = q := by
  have L2 := leftOk_after (t := t) (w := w) h
  have key : ∀ d : Int, -S < d * S → d * S < S → d = 0 := fun d h1 h2 => by
    rcases Int.lt_trichotomy d 0 with x | x | x
    · have : d * S ≤ (-1) * S := Int.mul_le_mul_of_nonneg_right (by omega) (by omega)
      omega
    · exact x
    · have : 1 * S ≤ d * S := Int.mul_le_mul_of_nonneg_right (by omega) (by omega)
      omega
  have e : (mc t S w - q) * S = (t - q * S) - (t - mc t S w * S) := by rw [Int.sub_mul]; omega
  have : mc t S w - q = 0 := by
    refine key _ ?_ ?_ <;> rw [e] <;> generalize t - q * S = A at * <;> generalize t - mc t S w * S = B at * <;> obtain ⟨a1, a2, a3, a4, _⟩ := L <;> obtain ⟨b1, b2, b3, b4, _⟩ := L2 <;> rcases in_five hw with z | z | z | z | z <;>
      first
      | exact absurd z he
      | (have := a1 z; have := b1 z; omega)
      | (have := a2 z; have := b2 z; omega)
      | (have := a3 z; have := b3 z; omega)
      | (have := a4 z; have := b4 z; omega)
  omega
section
variable {c N : Int} {w y : Str} {l : List Sh}
/-- the part of all shares, of the whole -/
def abv (l : List Sh) : Int := (l.map fun x => x.t * (wh l).fdiv x.u).sum
theorem due_sum : ∀ xs : List Sh, (xs.map (dueOf l N)).sum = (xs.map fun x => x.t * (wh l).fdiv x.u).sum * N
  | [] => by simp
  | x :: xs => by
    rw [List.map_cons, List.map_cons, List.sum_cons, List.sum_cons, due_sum xs, Int.add_mul]
    congr 1
    show x.t * N * (wh l).fdiv x.u = x.t * (wh l).fdiv x.u * N
    rw [Int.mul_assoc, Int.mul_assoc, Int.mul_comm N]
theorem hand_tele : ∀ (xs : List Sh) (r : Int), hlast l N c w xs r = r + (xs.map (dueOf l N)).sum - (hps l N c w xs r).sum * wh l
  | [], r => by simp [hlast, hps]
  | x :: xs, r => by
    rw [hlast, hand_tele xs, hps, List.map_cons, List.sum_cons, List.sum_cons, Int.add_mul]
    unfold hr
    omega
theorem hps_dvd : ∀ (xs : List Sh) (r : Int), ∃ q, (hps l N c w xs r).sum = c * q
  | [], r => ⟨0, by simp [hps]⟩
  | x :: xs, r => by
    obtain ⟨q, e⟩ := hps_dvd xs (hr l N c w x r)
    refine ⟨mc (dueOf l N x + r) (wh l * c) w + q, ?_⟩
    rw [hps, List.sum_cons, e, Int.mul_add]; rfl
theorem hps_left (O : HOk c w ("hand" : Str) l) : ∀ (xs : List Sh) (r : Int), LeftOk r (c * wh l) w → LeftOk (hlast l N c w xs r) (c * wh l) w
  | [], r, L => L
  | x :: xs, r, _ => by
    have c1 := O.c1
    obtain ⟨W0, _, W1⟩ := O.s.wh
    have wc : 0 < c * wh l := Int.mul_pos (by omega) W0
    have e : hr l N c w x r = dueOf l N x + r - mc (dueOf l N x + r) (c * wh l) w * (c * wh l) := by
      unfold hr hp
      rw [Int.mul_comm (wh l) c, Int.mul_comm c (mc _ _ _), Int.mul_assoc]
    have L2 : LeftOk (hr l N c w x r) (c * wh l) w := by
      rw [e]; exact leftOk_after wc
    exact hps_left O xs _ L2
end
/-! ### coins in turn: none has two -/
theorem mod_ne {n k j : Nat} (h : j + 1 < n) : (k + 1 + j) % n ≠ k % n := fun e => by
  have a := Nat.div_add_mod (k + 1 + j) n
  have b := Nat.div_add_mod k n
  rw [e] at a
  have d : n * ((k + 1 + j) / n) = n * (k / n) + (j + 1) := by omega
  have h1 : n ∣ j + 1 := (Nat.dvd_add_right ⟨k / n, rfl⟩).mp (by rw [← d]; exact ⟨_, rfl⟩)
  have := Nat.le_of_dvd (by omega) h1
  omega
theorem turnF_one {n : Nat} (hn : 0 < n) : ∀ (m k : Nat) (cs : List Int), m ≤ n → cs.length = n → ∀ i < n, (turnF n k m cs).getD i 0 = cs.getD i 0 ∨ ((turnF n k m cs).getD i 0 = cs.getD i 0 + 1 ∧ ∃ j < m, (k + j) % n = i)
  | 0, k, cs, _, _, i, _ => .inl rfl
  | m + 1, k, cs, hm, hl, i, hi => by
    rw [turnF]
    have kn : k % n < n := Nat.mod_lt _ hn
    have ad : (addAt cs (k % n)).getD i 0 = if i = k % n then cs.getD i 0 + 1 else cs.getD i 0 := by
      unfold addAt
      rw [List.getD_eq_getElem?_getD, List.getElem?_set]
      by_cases z : k % n = i
      · rw [if_pos z, if_pos (by omega), if_pos z.symm, z]; rfl
      · rw [if_neg z, if_neg (fun e => z e.symm), ← List.getD_eq_getElem?_getD]
    rcases turnF_one hn m (k + 1) (addAt cs (k % n)) (by omega) (by rw [addAt_len, hl]) i hi with e | ⟨e, j, hj, ej⟩
    · rw [e, ad]
      by_cases z : i = k % n
      · rw [if_pos z]; exact .inr ⟨rfl, 0, by omega, by rw [Nat.add_zero, z]⟩
      · rw [if_neg z]; exact .inl rfl
    · rw [e, ad]
      have z : ¬ i = k % n := fun z => mod_ne (n := n) (k := k) (j := j) (by omega) (by rw [ej, z])
      rw [if_neg z]
      exact .inr ⟨rfl, j + 1, by omega, by rw [← ej]; congr 1; omega⟩
section
variable {c N : Int} {w y : Str} {l : List Sh}
theorem sum_frac {S : Int} (h : 0 < S) : ∀ ds : List Int, ds.sum ≤ S * (ds.map fun v => v.fdiv S).sum + ds.length * (S - 1)
  | [] => by simp
  | d :: ds => by
    have ih := sum_frac h ds
    have e1 := Int.mul_fdiv_add_fmod d S
    obtain ⟨a, b⟩ := fmod_in (a := d) h
    rw [List.map_cons, List.sum_cons, List.sum_cons, List.length_cons, Int.mul_add]
    have : ((ds.length + 1 : Nat) : Int) * (S - 1) = ds.length * (S - 1) + (S - 1) := by
      rw [show ((ds.length + 1 : Nat) : Int) = (ds.length : Int) + 1 by omega, Int.add_mul, Int.one_mul]
    omega
theorem more_le (S : ShOk l) (hc : 1 ≤ c) : moreT l N c w ≤ l.length := by
  have W0 := S.wh.1
  have S0 : 0 < wh l * c := Int.mul_pos W0 (by omega)
  have n0 : 0 < l.length := List.length_pos_iff.mpr S.n0
  have e : (coins0 l N c).sum = ((dueL l N).map fun v => v.fdiv (wh l * c)).sum := by
    rw [← coins_due S hc]
    congr 1
    exact List.map_congr_left fun v _ => mc_down
  have n := (mc_near (t := (dueL l N).sum) (w := w) S0).2
  have sf := sum_frac S0 (dueL l N)
  have ld : (dueL l N).length = l.length := by unfold dueL; rw [List.length_map]
  rw [ld] at sf
  unfold moreT
  rw [e]
  generalize (dueL l N).sum = D at *
  generalize ((dueL l N).map fun v => v.fdiv (wh l * c)).sum = F at *
  generalize wh l * c = T at *
  have lt : D.fdiv T < F + l.length := by
    have e1 := Int.mul_fdiv_add_fmod D T
    obtain ⟨a, b⟩ := fmod_in (a := D) S0
    have up : T * D.fdiv T < T * (F + l.length) := by
      rw [Int.mul_add]
      have : (l.length : Int) * (T - 1) = T * l.length - l.length := by rw [Int.mul_sub, Int.mul_comm, Int.mul_one]
      omega
    exact Int.lt_of_mul_lt_mul_left up (by omega)
  omega
theorem turn_sum {n : Nat} (hn : 0 < n) : ∀ (m k : Nat) (cs : List Int), cs.length = n → (turnF n k m cs).sum = cs.sum + m
  | 0, _, cs, _ => by rw [turnF]; omega
  | m + 1, k, cs, hl => by
    rw [turnF, turn_sum hn m (k + 1) _ (by rw [addAt_len, hl])]
    have : (addAt cs (k % n)).sum = cs.sum + 1 := by
      have key : ∀ (cs : List Int) (j : Nat), j < cs.length → (addAt cs j).sum = cs.sum + 1 := by
        intro cs
        induction cs with
        | nil => intro j hj; simp at hj
        | cons v cs ih =>
          intro j hj
          cases j with
          | zero => simp [addAt]; omega
          | succ j =>
            have := ih j (by simpa using hj)
            unfold addAt at this ⊢
            simp at this ⊢
            omega
      exact key cs _ (by rw [hl]; exact Nat.mod_lt _ hn)
    rw [this]
    omega
end
end R
set_option exponentiation.threshold 10000
namespace R
open PySem PySem.Spec PyProof.Rows L2 CI
/-! ### strides -/
def evn (w : Str) : Int := if w = ("even" : Str) then 2 else 1
/-- a stride -/
def strd (l : List Sh) (c : Int) (w : Str) : Int := c * wh l * evn w
theorem mc_up {t S k : Int} {w : Str} (h : 0 < S) : mc (t + k * evn w * S) S w = mc t S w + k * evn w := by
  refine mc_shift h fun hw _ => ?_
  unfold evn
  rw [if_pos hw]
  omega
section
variable {c N : Int} {w y : Str} {l : List Sh}
theorem due_up (S : ShOk l) {x : Sh} (hx : x ∈ l) {o : Int} : x.t * (N + o * strd l c w) = x.t * N + (x.t * o * (wh l).fdiv x.u) * evn w * (x.u * c) := by
  obtain ⟨M, e, M0, _, hw⟩ := mOf S hx
  rw [e]
  unfold strd
  generalize evn w = v
  rw [hw, Int.mul_add]
  congr 1
  grind
/-- what lies between, by a share's own part -/
theorem gap_is (S : ShOk l) {x : Sh} (hx : x ∈ l) {o : Int} : c * ((x.t * o * (wh l).fdiv x.u) * evn w) * x.u = o * strd l c w * x.t := by
  obtain ⟨M, e, M0, _, hw⟩ := mOf S hx
  rw [e]
  unfold strd
  generalize evn w = v
  rw [hw]
  grind
theorem keep_up (S : ShOk l) (hc : 1 ≤ c) {x : Sh} (hx : x ∈ l) {o k : Int} : kp c (N + o * strd l c w) w (x, k) = kp c N w (x, k) + c * ((x.t * o * (wh l).fdiv x.u) * evn w) ∧ kr c (N + o * strd l c w) w (x, k) = kr c N w (x, k) := by
  have u1 := S.u1 x hx
  have uc : 0 < x.u * c := Int.mul_pos (by omega) (by omega)
  have a : kp c (N + o * strd l c w) w (x, k) = kp c N w (x, k) + c * ((x.t * o * (wh l).fdiv x.u) * evn w) := by
    unfold kp
    show c * mc (x.t * (N + o * strd l c w) + k) (x.u * c) w = c * mc (x.t * N + k) (x.u * c) w + _
    rw [due_up S hx]
    have e : x.t * N + x.t * o * (wh l).fdiv x.u * evn w * (x.u * c) + k = x.t * N + k + x.t * o * (wh l).fdiv x.u * evn w * (x.u * c) := by omega
    rw [e, mc_up uc, Int.mul_add]
  refine ⟨a, ?_⟩
  have g := gap_is (c := c) (w := w) S hx (o := o)
  unfold kr
  show x.t * (N + o * strd l c w) + k - kp c (N + o * strd l c w) w (x, k) * x.u = x.t * N + k - kp c N w (x, k) * x.u
  rw [a, due_up S hx, Int.add_mul]
  generalize x.t * o * (wh l).fdiv x.u * evn w = z at *
  have : z * (x.u * c) = c * z * x.u := by grind
  omega
end
end R
set_option exponentiation.threshold 10000
namespace R
open PySem PySem.Spec PyProof.Rows L2 CI
section
variable {c N : Int} {w y : Str} {l : List Sh}
theorem drop_up (S : ShOk l) (hc : 1 ≤ c) {x : Sh} (hx : x ∈ l) {o : Int} {v : Str} (hv : v = w ∨ v = ("down" : Str)) : mc (x.t * (N + o * strd l c w)) (x.u * c) v = mc (x.t * N) (x.u * c) v + (x.t * o * (wh l).fdiv x.u) * evn w := by
  have u1 := S.u1 x hx
  have uc : 0 < x.u * c := Int.mul_pos (by omega) (by omega)
  rw [due_up S hx]
  rcases hv with rfl | rfl
  · exact mc_up uc
  · exact mc_shift uc fun h => absurd h (by decide +kernel)
theorem dueOf_up (S : ShOk l) {x : Sh} (hx : x ∈ l) {o : Int} : dueOf l (N + o * strd l c w) x = dueOf l N x + (x.t * o * (wh l).fdiv x.u) * evn w * (wh l * c) := by
  show x.t * (N + o * strd l c w) * (wh l).fdiv x.u = x.t * N * (wh l).fdiv x.u + _
  unfold strd
  generalize (wh l).fdiv x.u = M
  generalize evn w = v
  generalize wh l = W
  grind
theorem hand_up (S : ShOk l) (hc : 1 ≤ c) {x : Sh} (hx : x ∈ l) {o r : Int} : hp l (N + o * strd l c w) c w x r = hp l N c w x r + c * ((x.t * o * (wh l).fdiv x.u) * evn w) ∧ hr l (N + o * strd l c w) c w x r = hr l N c w x r := by
  have W0 := S.wh.1
  have uc : 0 < wh l * c := Int.mul_pos W0 (by omega)
  have a : hp l (N + o * strd l c w) c w x r = hp l N c w x r + c * ((x.t * o * (wh l).fdiv x.u) * evn w) := by
    unfold hp
    rw [dueOf_up S hx]
    have e : dueOf l N x + x.t * o * (wh l).fdiv x.u * evn w * (wh l * c) + r = dueOf l N x + r + x.t * o * (wh l).fdiv x.u * evn w * (wh l * c) := by omega
    rw [e, mc_up uc, Int.mul_add]
  refine ⟨a, ?_⟩
  unfold hr
  rw [a, dueOf_up S hx, Int.add_mul]
  generalize x.t * o * (wh l).fdiv x.u * evn w = z
  have : z * (wh l * c) = c * z * wh l := by grind
  omega
theorem hands_up (S : ShOk l) (hc : 1 ≤ c) {o : Int} : ∀ (xs : List Sh) (r : Int), (∀ x ∈ xs, x ∈ l) → hlast l (N + o * strd l c w) c w xs r = hlast l N c w xs r ∧ ∀ q ∈ xs.zip ((hps l N c w xs r).zip (hps l (N + o * strd l c w) c w xs r)), (q.2.2 - q.2.1) * q.1.u = o * strd l c w * q.1.t
  | [], r, _ => ⟨rfl, by simp⟩
  | x :: xs, r, hx => by
    have hm := hx x (List.mem_cons_self ..)
    obtain ⟨a, b⟩ := hand_up (N := N) (w := w) S hc hm (o := o) (r := r)
    obtain ⟨i1, i2⟩ := hands_up S hc (o := o) xs (hr l N c w x r) fun z m => hx z (List.mem_cons_of_mem _ m)
    refine ⟨by rw [hlast, hlast, b]; exact i1, fun q hq => ?_⟩
    rw [hps, hps, b, a, List.zip_cons_cons, List.zip_cons_cons] at hq
    rcases List.mem_cons.mp hq with z | z
    · rw [z]
      show (hp l N c w x r + c * (x.t * o * (wh l).fdiv x.u * evn w) - hp l N c w x r) * x.u = _
      rw [← gap_is S hm]
      congr 1
      omega
    · exact i2 q z
/-! ### in turn -/
def upL (l : List Sh) (w : Str) (o : Int) : List Int := l.map fun x => (x.t * o * (wh l).fdiv x.u) * evn w
theorem coins_up (S : ShOk l) (hc : 1 ≤ c) {o : Int} : coins0 l (N + o * strd l c w) c = List.zipWith (· + ·) (coins0 l N c) (upL l w o) := by
  unfold coins0 upL
  rw [List.zipWith_map_left, List.zipWith_map_right]
  have : ∀ l' : List Sh, (∀ x ∈ l', x ∈ l) → l'.map (fun x => mc (x.t * (N + o * strd l c w)) (x.u * c) ("down" : Str)) = List.zipWith (fun a b => mc (a.t * N) (a.u * c) ("down" : Str) + b.t * o * (wh l).fdiv b.u * evn w) l' l' := by
    intro l'
    induction l' with
    | nil => intro _; rfl
    | cons x l' ih =>
      intro h
      rw [List.map_cons, List.zipWith_cons_cons, ih fun z m => h z (List.mem_cons_of_mem _ m), drop_up S hc (h x (List.mem_cons_self ..)) (.inr rfl)]
  exact this l fun _ h => h
theorem addAt_up : ∀ (cs ks : List Int) (j : Nat), cs.length = ks.length → addAt (List.zipWith (· + ·) cs ks) j = List.zipWith (· + ·) (addAt cs j) ks
  | [], [], j, _ => rfl
  | a :: cs, k :: ks, 0, _ => by
    unfold addAt
    simp
    omega
  | a :: cs, k :: ks, j + 1, h => by
    have ih := addAt_up cs ks j (by simpa using h)
    unfold addAt at ih ⊢
    simp at ih ⊢
    exact ih
theorem turnF_up {n : Nat} : ∀ (m k : Nat) (cs ks : List Int), cs.length = ks.length → turnF n k m (List.zipWith (· + ·) cs ks) = List.zipWith (· + ·) (turnF n k m cs) ks
  | 0, _, _, _, _ => rfl
  | m + 1, k, cs, ks, h => by
    rw [turnF, turnF, addAt_up cs ks _ h]
    exact turnF_up m (k + 1) _ ks (by rw [addAt_len, h])
theorem sum_up : ∀ (cs ks : List Int), cs.length = ks.length → (List.zipWith (· + ·) cs ks).sum = cs.sum + ks.sum
  | [], [], _ => rfl
  | a :: cs, k :: ks, h => by
    rw [List.zipWith_cons_cons, List.sum_cons, List.sum_cons, List.sum_cons, sum_up cs ks (by simpa using h)]
    omega
theorem upL_sum {o : Int} : (upL l w o).sum = abv l * o * evn w := by
  have : ∀ l' : List Sh, (l'.map fun x => (x.t * o * (wh l).fdiv x.u) * evn w).sum = (l'.map fun x => x.t * (wh l).fdiv x.u).sum * o * evn w := by
    intro l'
    induction l' with
    | nil => simp
    | cons x l' ih =>
      rw [List.map_cons, List.map_cons, List.sum_cons, List.sum_cons, ih]
      generalize (l'.map fun x => x.t * (wh l).fdiv x.u).sum = A
      generalize (wh l).fdiv x.u = M
      generalize evn w = v
      grind
  exact this l
theorem more_up (S : ShOk l) (hc : 1 ≤ c) {o : Int} : moreT l (N + o * strd l c w) c w = moreT l N c w := by
  have W0 := S.wh.1
  have uc : 0 < wh l * c := Int.mul_pos W0 (by omega)
  have lc : (coins0 l N c).length = (upL l w o).length := by unfold coins0 upL; rw [List.length_map, List.length_map]
  have d1 : (dueL l (N + o * strd l c w)).sum = abv l * (N + o * strd l c w) := due_sum l
  have d0 : (dueL l N).sum = abv l * N := due_sum l
  unfold moreT
  rw [coins_up S hc, sum_up _ _ lc, upL_sum, d1, d0]
  have e : abv l * (N + o * strd l c w) = abv l * N + abv l * o * evn w * (wh l * c) := by
    unfold strd
    generalize evn w = v
    generalize wh l = W
    generalize abv l = A
    grind
  rw [e, mc_up uc]
  omega
theorem turn_up (S : ShOk l) (hc : 1 ≤ c) {o : Int} {k : Nat} : restT l (N + o * strd l c w) c w k = restT l N c w k ∧ ∀ q ∈ l.zip ((partsT l N c w k).zip (partsT l (N + o * strd l c w) c w k)), (q.2.2 - q.2.1) * q.1.u = o * strd l c w * q.1.t := by
  refine ⟨by unfold restT; rw [more_up S hc], ?_⟩
  have lc : (coins0 l N c).length = (upL l w o).length := by unfold coins0 upL; rw [List.length_map, List.length_map]
  have tl : (turnF l.length k (moreT l N c w).toNat (coins0 l N c)).length = l.length := by rw [turnF_len]; unfold coins0; rw [List.length_map]
  unfold partsT
  rw [more_up S hc, coins_up S hc, turnF_up _ _ _ _ lc]
  generalize turnF l.length k (moreT l N c w).toNat (coins0 l N c) = T at tl
  have key : ∀ (l' : List Sh) (T : List Int), (∀ x ∈ l', x ∈ l) → T.length = l'.length → ∀ q ∈ l'.zip ((T.map fun v => c * v).zip ((List.zipWith (· + ·) T (l'.map fun x => (x.t * o * (wh l).fdiv x.u) * evn w)).map fun v => c * v)), (q.2.2 - q.2.1) * q.1.u = o * strd l c w * q.1.t := by
    intro l'
    induction l' with
    | nil => intro T _ _ q hq; simp at hq
    | cons x l' ih =>
      intro T hx ht q hq
      cases T with
      | nil => simp at ht
      | cons t T =>
        rw [List.map_cons, List.map_cons, List.zipWith_cons_cons, List.map_cons, List.zip_cons_cons, List.zip_cons_cons] at hq
        rcases List.mem_cons.mp hq with z | z
        · rw [z, ← gap_is S (hx x (List.mem_cons_self ..))]
          show (c * (t + x.t * o * (wh l).fdiv x.u * evn w) - c * t) * x.u = _
          rw [Int.mul_add]
          congr 1
          omega
        · exact ih T (fun z m => hx z (List.mem_cons_of_mem _ m)) (by simpa using ht) q z
  exact key l T (fun _ h => h) tl
end
end R
set_option exponentiation.threshold 10000
namespace R
open PySem PySem.Spec PyProof.Rows L2 CI
section
variable {c : Int} {w y : Str} {l : List Sh}
/-- rests that a house of any way may have -/
def RstOk (c : Int) (w y : Str) (l : List Sh) (K : List Int) : Prop := (y = ("turn" : Str) ∧ ∃ k : Nat, K = [(k : Int)] ∧ k < l.length) ∨ ((y = ("drop" : Str) ∨ y = ("keep" : Str) ∨ y = ("hand" : Str)) ∧ Kept c w y l K)
theorem pass_two {N o : Int} {K : List Int} (O : HOk c w y l) (R : RstOk c w y l K) (hN : N.natAbs < 2 ^ 200) (hN2 : (N + o * strd l c w).natAbs < 2 ^ 200) :
    ∃ ps ps2 K' : List Int, pcall F_House_pass_on [hI c w y l, .int N, .tup (K.map .int)] = .ok (.tup [.tup (ps.map .int), .tup (K'.map .int)]) ∧ pcall F_House_pass_on [hI c w y l, .int (N + o * strd l c w), .tup (K.map .int)] = .ok (.tup [.tup (ps2.map .int), .tup (K'.map .int)]) ∧
      RstOk c w y l K' ∧ ps.length = l.length ∧ ps2.length = l.length ∧ ∀ q ∈ l.zip (ps.zip ps2), (q.2.2 - q.2.1) * q.1.u = o * strd l c w * q.1.t := by
  have S := O.s
  have c1 := O.c1
  have n16 := len16 S.n4
  rcases R with ⟨rfl, k, rfl, hk⟩ | ⟨hy, kk⟩
  · have n0 : 0 < l.length := List.length_pos_iff.mpr S.n0
    have p1 := p_pass (N := N) O hN hk
    have p2 := p_pass (N := N + o * strd l c w) O hN2 hk
    obtain ⟨a, b⟩ := turn_up (N := N) (w := w) S c1.1 (o := o) (k := k)
    unfold foundT at p1 p2
    rw [a] at p2
    refine ⟨partsT l N c w k, partsT l (N + o * strd l c w) c w k, [restT l N c w k], p1, p2, .inl ⟨rfl, (k + (moreT l N c w).toNat) % l.length, by rw [rest_is S c1.1], Nat.mod_lt _ n0⟩, parts_len, parts_len, b⟩
  · have er := p_rests_of (w := w) S c1 O.w5 hy kk.len kk.ok
    rcases hy with rfl | rfl | rfl
    · have kn : K = [] := List.eq_nil_of_length_eq_zero (by rw [kk.len]; unfold szs; simp)
      subst kn
      have dl : ∀ M : Int, (dropP l M c w).length = l.length := fun M => by unfold dropP; rw [List.length_map]
      have p1 := p_pass_of (y := ("drop" : Str)) (.inl rfl) (N := N) (K := []) (K' := []) (ps := dropP l N c w) er (p_bydrop O) (by rw [dl]; exact n16)
      have p2 := p_pass_of (y := ("drop" : Str)) (.inl rfl) (N := N + o * strd l c w) (K := []) (K' := []) (ps := dropP l (N + o * strd l c w) c w) er (p_bydrop O) (by rw [dl]; exact n16)
      refine ⟨_, _, [], p1, p2, .inr ⟨.inl rfl, kk⟩, dl _, dl _, fun q hq => ?_⟩
      unfold dropP at hq
      have key : ∀ l' : List Sh, (∀ x ∈ l', x ∈ l) → ∀ q ∈ l'.zip ((l'.map fun x => c * mc (x.t * N) (x.u * c) w).zip (l'.map fun x => c * mc (x.t * (N + o * strd l c w)) (x.u * c) w)), (q.2.2 - q.2.1) * q.1.u = o * strd l c w * q.1.t := by
        intro l'
        induction l' with
        | nil => intro _ q hq; simp at hq
        | cons x l' ih =>
          intro hx q hq
          rw [List.map_cons, List.map_cons, List.zip_cons_cons, List.zip_cons_cons] at hq
          rcases List.mem_cons.mp hq with z | z
          · rw [z]
            have hm := hx x (List.mem_cons_self ..)
            show (c * mc (x.t * (N + o * strd l c w)) (x.u * c) w - c * mc (x.t * N) (x.u * c) w) * x.u = _
            rw [drop_up S c1.1 hm (.inl rfl), ← gap_is S hm, Int.mul_add]
            congr 1
            omega
          · exact ih (fun z m => hx z (List.mem_cons_of_mem _ m)) q z
      exact key l (fun _ h => h) q hq
    · have hz : szs c ("keep" : Str) l = l.map fun x => c * x.u := by unfold szs; rw [if_pos rfl]
      have hK : K.length = l.length := by rw [kk.len, hz, List.length_map]
      have zl : (l.zip K).length = l.length := by rw [List.length_zip]; omega
      have p1 := p_pass_of (y := ("keep" : Str)) (.inr (.inl rfl)) (N := N) (K := K) (K' := (l.zip K).map (kr c N w)) (ps := (l.zip K).map (kp c N w)) er (p_bykeep O hK) (by rw [List.length_map, zl]; exact n16)
      have p2 := p_pass_of (y := ("keep" : Str)) (.inr (.inl rfl)) (N := N + o * strd l c w) (K := K) (K' := (l.zip K).map (kr c (N + o * strd l c w) w)) (ps := (l.zip K).map (kp c (N + o * strd l c w) w)) er (p_bykeep O hK) (by rw [List.length_map, zl]; exact n16)
      have ek : (l.zip K).map (kr c (N + o * strd l c w) w) = (l.zip K).map (kr c N w) := List.map_congr_left fun q hq => (keep_up S c1.1 (mem_zip1 hq)).2
      rw [ek] at p2
      refine ⟨_, _, _, p1, p2, .inr ⟨.inr (.inl rfl), kept_after O hK⟩, by rw [List.length_map, zl], by rw [List.length_map, zl], fun q hq => ?_⟩
      have key : ∀ (l' : List Sh) (K : List Int), (∀ x ∈ l', x ∈ l) → ∀ q ∈ l'.zip (((l'.zip K).map (kp c N w)).zip ((l'.zip K).map (kp c (N + o * strd l c w) w))), (q.2.2 - q.2.1) * q.1.u = o * strd l c w * q.1.t := by
        intro l'
        induction l' with
        | nil => intro K _ q hq; simp at hq
        | cons x l' ih =>
          intro K hx q hq
          cases K with
          | nil => simp at hq
          | cons k K =>
            rw [List.zip_cons_cons, List.map_cons, List.map_cons, List.zip_cons_cons, List.zip_cons_cons] at hq
            rcases List.mem_cons.mp hq with z | z
            · rw [z]
              have hm := hx x (List.mem_cons_self ..)
              show (kp c (N + o * strd l c w) w (x, k) - kp c N w (x, k)) * x.u = _
              rw [(keep_up S c1.1 hm).1, ← gap_is S hm]
              congr 1
              omega
            · exact ih K (fun z m => hx z (List.mem_cons_of_mem _ m)) q z
      exact key l K (fun _ h => h) q hq
    · have hz : szs c ("hand" : Str) l = [c * wh l] := by unfold szs; rw [if_neg (by decide +kernel), if_pos rfl]
      have len := kk.len
      rw [hz] at len
      obtain ⟨r, rfl⟩ : ∃ r, K = [r] := by
        cases K with
        | nil => simp at len
        | cons r K => cases K with
          | nil => exact ⟨r, rfl⟩
          | cons _ _ => simp at len
      have L : LeftOk r (c * wh l) w := kk.ok (r, c * wh l) (by rw [hz]; simp)
      obtain ⟨a, b⟩ := hands_up (N := N) (w := w) S c1.1 (o := o) l r fun _ h => h
      have p1 := p_pass_of (y := ("hand" : Str)) (.inr (.inr rfl)) (N := N) (K := [r]) (K' := [hlast l N c w l r]) (ps := hps l N c w l r) er (p_byhand O) (by rw [hps_len]; exact n16)
      have p2 := p_pass_of (y := ("hand" : Str)) (.inr (.inr rfl)) (N := N + o * strd l c w) (K := [r]) (K' := [hlast l (N + o * strd l c w) c w l r]) (ps := hps l (N + o * strd l c w) c w l r) er (p_byhand O) (by rw [hps_len]; exact n16)
      rw [a] at p2
      refine ⟨_, _, _, p1, p2, .inr ⟨.inr (.inr rfl), ⟨by rw [hz]; rfl, fun q hq => by
        rw [hz] at hq
        have : q = (hlast l N c w l r, c * wh l) := by simpa using hq
        rw [this]; exact hps_left O l r L⟩⟩, hps_len l r, hps_len l r, b⟩
end
/-- a house drawn, with its way -/
theorem house_way {h : Hh} {r : Nat} (B : BagAt h r) : ∃ l c w y h', F_q_house [.ref r, .pv (.str ("ann" : Str)), .pv (.lst (four.map .str))] h = .ok (.pv (hT c w y l)) h' ∧ BagAt h' r ∧ ShOk l ∧ (1 ≤ c ∧ c ≤ 12) ∧ w ∈ five ∧ y ∈ ways := by
  obtain ⟨l, h1, e1, B1, S⟩ := shares_ev B
  obtain ⟨v2, h2, e2, B2, _, p2, q2⟩ := take_ev B1 (n := 12) (by decide) (by decide)
  obtain ⟨v3, h3, e3, B3, _, p3, q3⟩ := take_ev B2 (n := 6) (by decide) (by decide)
  obtain ⟨v4, h4, e4, B4, _, p4, q4⟩ := take_ev B3 (n := 5) (by decide) (by decide)
  obtain ⟨v5, h5, e5, B5, _, p5, q5⟩ := take_ev B4 (n := 4) (by decide) (by decide)
  obtain ⟨c, hc, ic⟩ := pick (L := [.int 1, .int 1, .int 2, .int 3, .int 5, .int (1 + v2)]) (h := h3) p3 (by simpa using q3)
  obtain ⟨w, hw, iw⟩ := pick (L := [.str ("down" : Str), .str ("up" : Str), .str ("upper" : Str), .str ("lower" : Str), .str ("even" : Str)]) (h := h4) p4 (by simpa using q4)
  obtain ⟨y, hy, iy⟩ := pick (L := [.str ("drop" : Str), .str ("keep" : Str), .str ("hand" : Str), .str ("turn" : Str)]) (h := h5) p5 (by simpa using q5)
  obtain ⟨c, rfl, hcc⟩ : ∃ i : Int, c = .int i ∧ (1 ≤ i ∧ i ≤ 12) := by
    simp only [List.mem_cons, List.mem_nil_iff, or_false] at hc
    rcases hc with rfl | rfl | rfl | rfl | rfl | rfl <;> exact ⟨_, rfl, by omega⟩
  obtain ⟨w, rfl, hww⟩ : ∃ i : Str, w = .str i ∧ i ∈ five := by
    simp only [List.mem_cons, List.mem_nil_iff, or_false] at hw
    rcases hw with rfl | rfl | rfl | rfl | rfl <;> exact ⟨_, rfl, by simp [five]⟩
  obtain ⟨y, rfl, hyy⟩ : ∃ i : Str, y = .str i ∧ i ∈ ways := by
    simp only [List.mem_cons, List.mem_nil_iff, or_false] at hy
    rcases hy with rfl | rfl | rfl | rfl <;> exact ⟨_, rfl, by simp [ways]⟩
  refine ⟨l, c, w, y, h5, ?_, B5, S, hcc, hww, hyy⟩
  unfold F_q_house fnOfB b_q_house startS
  simp [-List.map_map, ev_call, e1, e2, e3, e4, e5, ic, iw, iy]
end R
namespace K10
open PySem PySem.Spec PyProof.Rows L2 CI
abbrev ps_q_spanned : List Str := [("_law_house_here" : Str)]
abbrev n_q_spanned : List Str := [("_law_house_here" : Str), ("_law_found" : Str), ("_law_whole_here" : Str), ("_law_to" : Str), ("_law_top" : Str), ("_law_under" : Str)]
def a_q_spanned (n : Nat) (ks : List Str) : List Va → List Va → List Va := asmP ps_q_spanned [] n ks
noncomputable def b_q_spanned : Sn := (sSeq (sAsg (gNm 1) (dC (.int 1)))
    (sSeq (sFor (iSeq (dBin oIdx (dVar 0) (dC (.int 1)))) (gTu 3 (gsCons (gNm 3) (gsCons (gNm 4) (gsCons (gNm 5) gsNil)))) (sAsg (gNm 1) (dBin oMul (dBin oMul (dVar 1) (dBin oIdx (dVar 0) (dC (.int 2)))) (dVar 5))))
    (sSeq (sAsg (gNm 2) (dBin oMul (dBin oIdx (dVar 0) (dC (.int 2))) (dCallP R.F_q_whole 1 0 (R.a_q_whole 1 []) (daCons (dBin oIdx (dVar 0) (dC (.int 1))) daNil) daNil)))
    (sRet (dBin oIdx (dDic [((dC (.str ("drop" : Str))), (dC (.int 1))), ((dC (.str ("keep" : Str))), (dVar 1)), ((dC (.str ("hand" : Str))), (dVar 2)), ((dC (.str ("turn" : Str))), (dBi bLen (daCons (dBin oIdx (dVar 0) (dC (.int 1))) daNil)))]) (dBin oIdx (dVar 0) (dC (.int 4))))))))
noncomputable def F_q_spanned : Fn := fnOfB 6 b_q_spanned

abbrev ps_q_apart : List Str := [("_law_bag_here" : Str), ("_law_house_here" : Str), ("_law_begun" : Str)]
abbrev n_q_apart : List Str := [("_law_bag_here" : Str), ("_law_house_here" : Str), ("_law_begun" : Str), ("_law_turn" : Str), ("_law_mine" : Str), ("_law_far" : Str), ("_law_one" : Str), ("_law_other" : Str), ("_law_many" : Str), ("_law_often" : Str), ("_law_parts" : Str), ("_law_more" : Str), ("_law_part" : Str), ("_law_greater" : Str), ("_law_to" : Str), ("_law_top" : Str), ("_law_under" : Str)]
def a_q_apart (n : Nat) (ks : List Str) : List Va → List Va → List Va := asmP ps_q_apart [] n ks
noncomputable def b_q_apart : Sn := (sSeq (sPar [4, 5] (daCons (dCallP R.F_q_made 1 0 (R.a_q_made 1 []) (daCons (dVar 1) daNil) daNil) (daCons (dBin oMul (dBin oMul (dBin oIdx (dVar 1) (dC (.int 2))) (dCallP R.F_q_whole 1 0 (R.a_q_whole 1 []) (daCons (dBin oIdx (dVar 1) (dC (.int 1))) daNil) daNil)) (dBin oIdx (dLst (daCons (dC (.int 1)) (daCons (dC (.int 2)) daNil))) (dBi bInt (daCons (dBin (oEqN false) (dBin oIdx (dVar 1) (dC (.int 3))) (dC (.str ("even" : Str)))) daNil)))) daNil)))
    (sSeq (sPar [6, 7] (daCons (dVar 2) (daCons (dVar 2) daNil)))
    (sSeq (sFor (iRng1 (daCons (dBin oAdd (dC (.int 1)) (dCall R.F_q_take 2 0 (R.a_q_take 2 []) (daCons (dVar 0) (daCons (dC (.int 10)) daNil)) daNil)) daNil)) (gNm 3) (sSeq (sPar [8, 9] (daCons (dBin oDiv (dCall R.F_q_total 1 0 (R.a_q_total 1 []) (daCons (dVar 0) daNil) daNil) (dC (.int 2))) (daCons (dBin oIdx (dLst (daCons (dC (.int 0)) (daCons (dC (.int 1)) (daCons (dBin oAdd (dC (.int 1)) (dCall R.F_q_take 2 0 (R.a_q_take 2 []) (daCons (dVar 0) (daCons (dC (.int 9)) daNil)) daNil)) (daCons (dBin oPow (dC (.int 10)) (dC (.int 5))) (daCons (dBin oPow (dC (.int 10)) (dC (.int 30))) daNil)))))) (dCall R.F_q_take 2 0 (R.a_q_take 2 []) (daCons (dVar 0) (daCons (dC (.int 5)) daNil)) daNil)) daNil)))
    (sSeq (sAsg (gTu 2 (gsCons (gNm 10) (gsCons (gNm 6) gsNil))) (dMeth [(("House" : Str), (true, R.F_House_pass_on, R.a_House_pass_on 3 []))] ("pass_on" : Str) 2 0 (dVar 4) (daCons (dVar 8) (daCons (dVar 6) daNil)) daNil))
    (sSeq (sAsg (gTu 2 (gsCons (gNm 11) (gsCons (gNm 7) gsNil))) (dMeth [(("House" : Str), (true, R.F_House_pass_on, R.a_House_pass_on 3 []))] ("pass_on" : Str) 2 0 (dVar 4) (daCons (dBin oAdd (dVar 8) (dBin oMul (dVar 9) (dVar 5))) (daCons (dVar 7) daNil)) daNil))
    (sSeq (sIf (tVB (dBin (oEqN true) (dVar 6) (dVar 7))) (sRet (dC (.bl false))) sNil)
    (sFor (iZip3 (daCons (dBin oIdx (dVar 1) (dC (.int 1))) (daCons (dVar 10) (daCons (dVar 11) daNil)))) (gTu 3 (gsCons (gTu 3 (gsCons (gNm 14) (gsCons (gNm 15) (gsCons (gNm 16) gsNil)))) (gsCons (gNm 12) (gsCons (gNm 13) gsNil)))) (sIf (tVB (dBin (oEqN true) (dBin oMul (dBin oSub (dVar 13) (dVar 12)) (dVar 16)) (dBin oMul (dBin oMul (dVar 9) (dVar 5)) (dVar 15)))) (sRet (dC (.bl false))) sNil)))))))
    (sRet (dC (.bl true))))))
noncomputable def F_q_apart : Fn := fnOfB 17 b_q_apart

abbrev ps_the_law : List Str := [("_law_script" : Str)]
abbrev n_the_law : List Str := [("_law_script" : Str), ("_law_k" : Str), ("_law_bag_here" : Str), ("_law_turn" : Str), ("_law_house_here" : Str), ("_law_mine" : Str), ("_law_whole_here" : Str)]
def a_the_law (n : Nat) (ks : List Str) : List Va → List Va → List Va := asmP ps_the_law [] n ks
noncomputable def b_the_law : Sn := (sSeq (sFor (iRng1 (daCons (dBi bMax (daCons (dC (.int 2)) (daCons (dBi bMin (daCons (dC (.int 4)) (daCons (dBi bLen (daCons (dVar 0) daNil)) daNil))) daNil))) daNil)) (gNm 1) (sSeq (sAsg (gNm 2) (dCall R.F_q_bag 2 0 (R.a_q_bag 2 []) (daCons (dVar 0) (daCons (dVar 1) daNil)) daNil))
    (sFor (iRng1 (daCons (dC (.int 6)) daNil)) (gNm 3) (sSeq (sAsg (gNm 4) (dCall R.F_q_house 3 0 (R.a_q_house 3 []) (daCons (dVar 2) (daCons (dC (.str ("ann" : Str))) (daCons (dLst (daCons (dC (.str ("bob" : Str))) (daCons (dC (.str ("cy" : Str))) (daCons (dC (.str ("d" : Str))) (daCons (dC (.str ("zz" : Str))) daNil))))) daNil))) daNil))
    (sSeq (sPar [5, 6] (daCons (dCallP R.F_q_made 1 0 (R.a_q_made 1 []) (daCons (dVar 4) daNil) daNil) (daCons (dBin oMul (dBin oIdx (dVar 4) (dC (.int 2))) (dCallP R.F_q_whole 1 0 (R.a_q_whole 1 []) (daCons (dBin oIdx (dVar 4) (dC (.int 1))) daNil) daNil)) daNil)))
    (sSeq (sIf (tOr (tVB (dBin (oEqN true) (dMeth [(("House" : Str), (true, R.F_House_stride, R.a_House_stride 1 []))] ("stride" : Str) 0 0 (dVar 5) daNil daNil) (dBin oMul (dVar 6) (dBin oIdx (dLst (daCons (dC (.int 1)) (daCons (dC (.int 2)) daNil))) (dBi bInt (daCons (dBin (oEqN false) (dBin oIdx (dVar 4) (dC (.int 3))) (dC (.str ("even" : Str)))) daNil)))))) (tVB (dBin (oEqN true) (dMeth [(("House" : Str), (true, R.F_House_span, R.a_House_span 1 []))] ("span" : Str) 0 0 (dVar 5) daNil daNil) (dCallP K10.F_q_spanned 1 0 (K10.a_q_spanned 1 []) (daCons (dVar 4) daNil) daNil)))) (sRet (dC (.bl false))) sNil)
    (sIf (tOr (tNot (tVal (dCall K10.F_q_apart 3 0 (K10.a_q_apart 3 []) (daCons (dVar 2) (daCons (dVar 4) (daCons (dMeth [(("House" : Str), (true, R.F_House_first, R.a_House_first 1 []))] ("first" : Str) 0 0 (dVar 5) daNil daNil) daNil))) daNil))) (tNot (tVal (dCall K10.F_q_apart 3 0 (K10.a_q_apart 3 []) (daCons (dVar 2) (daCons (dVar 4) (daCons (dCall R.F_q_rests 2 0 (R.a_q_rests 2 []) (daCons (dVar 2) (daCons (dVar 4) daNil)) daNil) daNil))) daNil)))) (sRet (dC (.bl false))) sNil)))))))
    (sRet (dC (.bl true))))
noncomputable def F_the_law : Fn := fnOfB 7 b_the_law
end K10
set_option exponentiation.threshold 10000
namespace K10
open PySem PySem.Spec PyProof.Rows L2 CI R
@[simp] theorem ap_stride (x : Va) : a_House_stride 1 [] [x] [] = [x] := by rfl
@[simp] theorem ap_span (x : Va) : a_House_span 1 [] [x] [] = [x] := by rfl
@[simp] theorem ap_spanned (x : Va) : a_q_spanned 1 [] [x] [] = [x] := by rfl
@[simp] theorem ap_apart (x y z : Va) : a_q_apart 3 [] [x, y, z] [] = [x, y, z] := by rfl
section
variable {c : Int} {w y : Str} {l : List Sh}
theorem m_stride : ([(("name" : Str), Va.pv (.str ("ann" : Str))), (("shares" : Str), .pv (.tup (l.map shP))), (("coin" : Str), .pv (.int c)), (("rule" : Str), .pv (.str w)), (("way" : Str), .pv (.str y))] : List (Str × Va)).lookup ("stride" : Str) = none := by rfl
theorem m_span : ([(("name" : Str), Va.pv (.str ("ann" : Str))), (("shares" : Str), .pv (.tup (l.map shP))), (("coin" : Str), .pv (.int c)), (("rule" : Str), .pv (.str w)), (("way" : Str), .pv (.str y))] : List (Str × Va)).lookup ("span" : Str) = none := by rfl
theorem p_stride (S : ShOk l) (hc : 1 ≤ c ∧ c ≤ 12) : pcall F_House_stride [hI c w y l] = .ok (.int (strd l c w)) := by
  refine pcall_of (h' := []) ?_
  have mw := mw_whole (c := c) (w := w) (y := y) S
  have m : ∀ x, mulOk c x = true := fun x => mulOk_l (by omega)
  unfold F_House_stride fnOfB b_House_stride startS strd evn
  by_cases z : w = ("even" : Str)
  · have m2 : ∀ x, mulOk x 2 = true := fun x => mulOk_r (by decide)
    simp [mw, m, z, m2]
  · have m2 : ∀ x, mulOk x 1 = true := fun x => mulOk_r (by decide)
    simp [mw, m, z, m2]
def spanV (c : Int) (y : Str) (l : List Sh) : Int := if y = ("turn" : Str) then l.length else (szs c y l).foldl (· * ·) 1
theorem sp_loop {x0 : Option Va} {h : Hh} : ∀ (ss : List Int) (f : Int) (x2 : Option Va), (∀ s ∈ ss, 1 ≤ s ∧ s ≤ 248832) → ∃ y2, forL (gNm 2) (sMulN 1 (dVar 2)) (ss.map I) [x0, some (I f), x2] h = .nx [x0, some (I (ss.foldl (· * ·) f)), y2] h
  | [], f, x2, _ => ⟨x2, rfl⟩
  | s :: ss, f, x2, hs => by
    obtain ⟨y2, e⟩ := sp_loop (x0 := x0) (h := h) ss (f * s) (some (I s)) fun z m => hs z (List.mem_cons_of_mem _ m)
    have b := hs s (List.mem_cons_self ..)
    have m : mulOk f s = true := mulOk_r (by omega)
    refine ⟨y2, ?_⟩
    rw [List.map_cons, ev_forL_cons]
    simp only [ev_gNm]
    have st : sMulN 1 (dVar 2) [x0, some (I f), some (I s)] h = .nx [x0, some (I (f * s)), some (I s)] h := by
      unfold sMulN
      simp [intOf, m]
    show turnEnd (sMulN 1 (dVar 2) [x0, some (I f), some (I s)] h) _ = _
    rw [st]
    simp only [ev_turn_nx]
    exact e
theorem p_span (O : HOk c w y l) : pcall F_House_span [hI c w y l] = .ok (.int (spanV c y l)) := by
  have S := O.s
  have c1 := O.c1
  refine pcall_of (h' := []) ?_
  by_cases z : y = ("turn" : Str)
  · subst z
    unfold F_House_span fnOfB b_House_span startS spanV
    simp
  · have hy : y = ("drop" : Str) ∨ y = ("keep" : Str) ∨ y = ("hand" : Str) := by
      have := O.y4
      simp only [ways, List.mem_cons, List.mem_nil_iff, or_false] at this
      rcases this with e | e | e | e
      · exact .inl e
      · exact .inr (.inl e)
      · exact .inr (.inr e)
      · exact absurd e z
    have ps := p_sizes (w := w) S c1 hy
    have mz : ∀ (s : Sl) (h : Hh), s[0]? = some (some (.pv (hI c w y l))) → dMeth [(("House" : Str), (true, R.F_House_sizes, R.a_House_sizes 1 []))] ("sizes" : Str) 0 0 (dVar 0) daNil daNil s h = .ok (.pv (.lst ((szs c y l).map .int))) h := fun s h hs => by
      rw [ev_meth (h := h) c w y l (by simp [hs]) m_sizes]
      simp [callM_p (ps := [hI c w y l]) (ap_hsizes _), ps]
    obtain ⟨y2, lp⟩ := sp_loop (x0 := some (.pv (hI c w y l))) (h := []) (szs c y l) 1 none (szs_bnd S c1)
    rw [← ints_I] at lp
    unfold F_House_span fnOfB b_House_span startS spanV
    simp [-List.map_map, -ev_forL_cons, z, mz, lp]
theorem sl_loop {x2 : Option Va} {h : Hh} (hc : 1 ≤ c ∧ c ≤ 12) : ∀ (l' : List Sh) (f : Int) (x3 x4 x5 : Option Va), (∀ x ∈ l', 1 ≤ x.u ∧ x.u ≤ 12) → ∃ y3 y4 y5, forL (gTu 3 (gsCons (gNm 3) (gsCons (gNm 4) (gsCons (gNm 5) gsNil)))) (sAsg (gNm 1) (dBin oMul (dBin oMul (dVar 1) (dBin oIdx (dVar 0) (dC (.int 2)))) (dVar 5))) ((l'.map shP).map Va.pv) [some (.pv (hT c w y l)), some (I f), x2, x3, x4, x5] h = .nx [some (.pv (hT c w y l)), some (I ((l'.map fun x => c * x.u).foldl (· * ·) f)), x2, y3, y4, y5] h
  | [], f, x3, x4, x5, _ => ⟨x3, x4, x5, rfl⟩
  | x :: l', f, x3, x4, x5, hx => by
    obtain ⟨y3, y4, y5, e⟩ := sl_loop (x2 := x2) (h := h) hc l' (f * (c * x.u)) (some (.pv (.str x.to))) (some (I x.t)) (some (I x.u)) fun z m => hx z (List.mem_cons_of_mem _ m)
    have u1 := hx x (List.mem_cons_self ..)
    have m1 : ∀ a, mulOk a c = true := fun a => mulOk_r (by omega)
    have m2 : ∀ a, mulOk a x.u = true := fun a => mulOk_r (by omega)
    have t2 : ∀ (h : Hh), oIdx (.pv (hT c w y l)) (I 2) h = .ok (I c) h := fun h => by rfl
    refine ⟨y3, y4, y5, ?_⟩
    rw [List.map_cons, List.map_cons, ev_forL_cons]
    have t : (gTu 3 (gsCons (gNm 3) (gsCons (gNm 4) (gsCons (gNm 5) gsNil)))).put (.pv (shP x)) [some (.pv (hT c w y l)), some (I f), x2, x3, x4, x5] h = some [some (.pv (hT c w y l)), some (I f), x2, some (.pv (.str x.to)), some (I x.t), some (I x.u)] := by
      unfold shP
      simp
    rw [t]
    dsimp only
    have st : (sAsg (gNm 1) (dBin oMul (dBin oMul (dVar 1) (dBin oIdx (dVar 0) (dC (.int 2)))) (dVar 5))) [some (.pv (hT c w y l)), some (I f), x2, some (.pv (.str x.to)), some (I x.t), some (I x.u)] h = .nx [some (.pv (hT c w y l)), some (I (f * (c * x.u))), x2, some (.pv (.str x.to)), some (I x.t), some (I x.u)] h := by
      simp [t2, m1, m2, Int.mul_assoc]
    rw [st]
    simp only [ev_turn_nx]
    exact e
theorem p_spanned (O : HOk c w y l) : pcall F_q_spanned [hT c w y l] = .ok (.int (spanV c y l)) := by
  have S := O.s
  have c1 := O.c1
  have pw := p_qwhole (l := l) S.u1
  obtain ⟨y3, y4, y5, lp⟩ := sl_loop (c := c) (w := w) (y := y) (l := l) (x2 := none) (h := []) c1 l 1 none none none S.u1
  have t1 : ∀ (h : Hh), oIdx (.pv (hT c w y l)) (I 1) h = .ok (.pv (.tup (l.map shP))) h := fun h => by rfl
  have t2 : ∀ (h : Hh), oIdx (.pv (hT c w y l)) (I 2) h = .ok (I c) h := fun h => by rfl
  have t4 : ∀ (h : Hh), oIdx (.pv (hT c w y l)) (I 4) h = .ok (.pv (.str y)) h := fun h => by rfl
  have m : ∀ x, mulOk c x = true := fun x => mulOk_l (by omega)
  have ix : ∀ (F W n : Int), oIdx (.ref 0) (.pv (.str y)) [.dct [(.inr ("drop" : Str), I 1), (.inr ("keep" : Str), I F), (.inr ("hand" : Str), I W), (.inr ("turn" : Str), I n)]] = .ok (if y = ("drop" : Str) then I 1 else if y = ("keep" : Str) then I F else if y = ("hand" : Str) then I W else I n) [.dct [(.inr ("drop" : Str), I 1), (.inr ("keep" : Str), I F), (.inr ("hand" : Str), I W), (.inr ("turn" : Str), I n)]] := fun F W n => by
    have := O.y4
    simp only [ways, List.mem_cons, List.mem_nil_iff, or_false] at this
    rcases this with rfl | rfl | rfl | rfl <;> rfl
  refine pcall_of (h' := [.dct [(.inr ("drop" : Str), I 1), (.inr ("keep" : Str), I ((l.map fun x => c * x.u).foldl (· * ·) 1)), (.inr ("hand" : Str), I (c * wh l)), (.inr ("turn" : Str), I l.length)]]) ?_
  have dd : mergeV [] [(Sum.inr ("drop" : Str), I 1), (.inr ("keep" : Str), I ((l.map fun x => c * x.u).foldl (· * ·) 1)), (.inr ("hand" : Str), I (c * wh l)), (.inr ("turn" : Str), I l.length)] = [(.inr ("drop" : Str), I 1), (.inr ("keep" : Str), I ((l.map fun x => c * x.u).foldl (· * ·) 1)), (.inr ("hand" : Str), I (c * wh l)), (.inr ("turn" : Str), I l.length)] := by rfl
  have ev : (if y = ("drop" : Str) then I 1 else if y = ("keep" : Str) then I ((l.map fun x => c * x.u).foldl (· * ·) 1) else if y = ("hand" : Str) then I (c * wh l) else I l.length) = I (spanV c y l) := by
    have := O.y4
    simp only [ways, List.mem_cons, List.mem_nil_iff, or_false] at this
    unfold spanV szs
    rcases this with rfl | rfl | rfl | rfl <;> simp [R.y1, R.y2, R.y3]
  unfold F_q_spanned fnOfB b_q_spanned startS
  simp [-List.map_map, -ev_forL_cons, ev_callP, t1, t2, t4, lp, pw, m, dd, ix, ev]
end
end K10
set_option exponentiation.threshold 10000
namespace K10
open PySem PySem.Spec PyProof.Rows L2 CI R
section
variable {c : Int} {w y : Str} {l : List Sh}
theorem strd_bnd (S : ShOk l) (hc : 1 ≤ c ∧ c ≤ 12) : 0 < strd l c w ∧ strd l c w ≤ 500000 := by
  obtain ⟨W0, _, W1⟩ := S.wh
  have wc : 0 < c * wh l := Int.mul_pos (by omega) W0
  have : c * wh l ≤ c * 20736 := Int.mul_le_mul_of_nonneg_left W1 (by omega)
  unfold strd evn
  split <;> omega
theorem zipA3_sh : ∀ (l : List Sh) (ps qs : List Int), zipA3 (l.map shP) (ps.map .int) (qs.map .int) = (l.zip (ps.zip qs)).map fun q => .pv (.tup [shP q.1, .int q.2.1, .int q.2.2])
  | [], _, _ => by simp [zipA3]
  | _ :: _, [], _ => by simp [zipA3]
  | _ :: _, _ :: _, [] => by simp [zipA3]
  | x :: xs, p :: ps, q :: qs => by
    rw [List.map_cons, List.map_cons, List.map_cons, zipA3, zipA3_sh xs ps qs]; rfl
noncomputable abbrev z3T : Tg := gTu 3 (gsCons (gTu 3 (gsCons (gNm 14) (gsCons (gNm 15) (gsCons (gNm 16) gsNil)))) (gsCons (gNm 12) (gsCons (gNm 13) gsNil)))
noncomputable abbrev z3B : Sn := (sIf (tVB (dBin (oEqN true) (dBin oMul (dBin oSub (dVar 13) (dVar 12)) (dVar 16)) (dBin oMul (dBin oMul (dVar 9) (dVar 5)) (dVar 15)))) (sRet (dC (.bl false))) sNil)
abbrev apS (c : Int) (w y : Str) (l : List Sh) (r : Nat) (x2 x3 : Option Va) (K : List Int) (x8 x9 x10 x11 x12 x13 x14 x15 x16 : Option Va) : Sl := [some (.ref r), some (.pv (hT c w y l)), x2, x3, some (.pv (hI c w y l)), some (I (strd l c w)), some (.pv (.tup (K.map .int))), some (.pv (.tup (K.map .int))), x8, x9, x10, x11, x12, x13, x14, x15, x16]
theorem z3_loop {r : Nat} {x2 x3 x8 x10 x11 : Option Va} {K : List Int} {o : Int} {h : Hh} (S : ShOk l) (hc : 1 ≤ c ∧ c ≤ 12) : ∀ (qs : List (Sh × Int × Int)) (x12 x13 x14 x15 x16 : Option Va), (∀ q ∈ qs, (1 ≤ q.1.t ∧ q.1.t ≤ 12) ∧ (1 ≤ q.1.u ∧ q.1.u ≤ 12) ∧ (q.2.2 - q.2.1) * q.1.u = o * strd l c w * q.1.t) →
    ∃ y12 y13 y14 y15 y16, forL z3T z3B (qs.map fun q => .pv (.tup [shP q.1, .int q.2.1, .int q.2.2])) (apS c w y l r x2 x3 K x8 (some (I o)) x10 x11 x12 x13 x14 x15 x16) h = .nx (apS c w y l r x2 x3 K x8 (some (I o)) x10 x11 y12 y13 y14 y15 y16) h
  | [], x12, x13, x14, x15, x16, _ => ⟨x12, x13, x14, x15, x16, rfl⟩
  | q :: qs, x12, x13, x14, x15, x16, hq => by
    obtain ⟨ht, hu, e⟩ := hq q (List.mem_cons_self ..)
    obtain ⟨s0, s1⟩ := strd_bnd (w := w) S hc
    have m1 : ∀ a, mulOk a q.1.u = true := fun a => mulOk_r (by omega)
    have m2 : ∀ a, mulOk a q.1.t = true := fun a => mulOk_r (by omega)
    have m3 : ∀ a, mulOk a (strd l c w) = true := fun a => mulOk_r (by omega)
    obtain ⟨y12, y13, y14, y15, y16, e2⟩ := z3_loop (r := r) (x2 := x2) (x3 := x3) (x8 := x8) (x10 := x10) (x11 := x11) (K := K) (h := h) S hc qs (some (I q.2.1)) (some (I q.2.2)) (some (.pv (.str q.1.to))) (some (I q.1.t)) (some (I q.1.u)) fun q' m => hq q' (List.mem_cons_of_mem _ m)
    refine ⟨y12, y13, y14, y15, y16, ?_⟩
    rw [List.map_cons, ev_forL_cons]
    have t : z3T.put (.pv (.tup [shP q.1, .int q.2.1, .int q.2.2])) (apS c w y l r x2 x3 K x8 (some (I o)) x10 x11 x12 x13 x14 x15 x16) h = some (apS c w y l r x2 x3 K x8 (some (I o)) x10 x11 (some (I q.2.1)) (some (I q.2.2)) (some (.pv (.str q.1.to))) (some (I q.1.t)) (some (I q.1.u))) := by
      unfold z3T apS shP
      simp
    rw [t]
    dsimp only
    have st : z3B (apS c w y l r x2 x3 K x8 (some (I o)) x10 x11 (some (I q.2.1)) (some (I q.2.2)) (some (.pv (.str q.1.to))) (some (I q.1.t)) (some (I q.1.u))) h = .nx (apS c w y l r x2 x3 K x8 (some (I o)) x10 x11 (some (I q.2.1)) (some (I q.2.2)) (some (.pv (.str q.1.to))) (some (I q.1.t)) (some (I q.1.u))) h := by
      unfold z3B apS
      simp [m1, m2, m3, e]
    rw [st]
    simp only [ev_turn_nx]
    exact e2
noncomputable abbrev apB : Sn := (sSeq (sPar [8, 9] (daCons (dBin oDiv (dCall R.F_q_total 1 0 (R.a_q_total 1 []) (daCons (dVar 0) daNil) daNil) (dC (.int 2))) (daCons (dBin oIdx (dLst (daCons (dC (.int 0)) (daCons (dC (.int 1)) (daCons (dBin oAdd (dC (.int 1)) (dCall R.F_q_take 2 0 (R.a_q_take 2 []) (daCons (dVar 0) (daCons (dC (.int 9)) daNil)) daNil)) (daCons (dBin oPow (dC (.int 10)) (dC (.int 5))) (daCons (dBin oPow (dC (.int 10)) (dC (.int 30))) daNil)))))) (dCall R.F_q_take 2 0 (R.a_q_take 2 []) (daCons (dVar 0) (daCons (dC (.int 5)) daNil)) daNil)) daNil)))
    (sSeq (sAsg (gTu 2 (gsCons (gNm 10) (gsCons (gNm 6) gsNil))) (dMeth [(("House" : Str), (true, R.F_House_pass_on, R.a_House_pass_on 3 []))] ("pass_on" : Str) 2 0 (dVar 4) (daCons (dVar 8) (daCons (dVar 6) daNil)) daNil))
    (sSeq (sAsg (gTu 2 (gsCons (gNm 11) (gsCons (gNm 7) gsNil))) (dMeth [(("House" : Str), (true, R.F_House_pass_on, R.a_House_pass_on 3 []))] ("pass_on" : Str) 2 0 (dVar 4) (daCons (dBin oAdd (dVar 8) (dBin oMul (dVar 9) (dVar 5))) (daCons (dVar 7) daNil)) daNil))
    (sSeq (sIf (tVB (dBin (oEqN true) (dVar 6) (dVar 7))) (sRet (dC (.bl false))) sNil)
    (sFor (iZip3 (daCons (dBin oIdx (dVar 1) (dC (.int 1))) (daCons (dVar 10) (daCons (dVar 11) daNil)))) z3T z3B)))))
theorem ap_step {r : Nat} {h : Hh} {x2 x3 x8 x9 x10 x11 x12 x13 x14 x15 x16 : Option Va} {K : List Int} (B : BagAt h r) (O : HOk c w y l) (Rk : RstOk c w y l K) :
    ∃ (K' : List Int) (y8 y9 y10 y11 y12 y13 y14 y15 y16 : Option Va) (h' : Hh), apB (apS c w y l r x2 x3 K x8 x9 x10 x11 x12 x13 x14 x15 x16) h = .nx (apS c w y l r x2 x3 K' y8 y9 y10 y11 y12 y13 y14 y15 y16) h' ∧ BagAt h' r ∧ RstOk c w y l K' := by
  have S := O.s
  have c1 := O.c1
  obtain ⟨a, h1, e1, B1, a0, a1⟩ := total_ev B
  obtain ⟨v, h2, e2, B2, _, p2, q2⟩ := take_ev B1 (n := 9) (by decide) (by decide)
  obtain ⟨u, h3, e3, B3, _, p3, q3⟩ := take_ev B2 (n := 5) (by decide) (by decide)
  obtain ⟨o, ho, io⟩ := pick (L := [.int 0, .int 1, .int (1 + v), .int 100000, .int 1000000000000000000000000000000]) (h := h3) p3 (by simpa using q3)
  obtain ⟨o, rfl, oo⟩ : ∃ i : Int, o = .int i ∧ (0 ≤ i ∧ i < 2 ^ 101) := by
    simp only [List.mem_cons, List.mem_nil_iff, or_false] at ho
    rcases ho with rfl | rfl | rfl | rfl | rfl <;> exact ⟨_, rfl, by omega⟩
  obtain ⟨s0, s1⟩ := strd_bnd (w := w) S c1
  have hd : a.fdiv 2 = a / 2 := Int.fdiv_eq_ediv_of_nonneg _ (by decide)
  have ob : (o * strd l c w).natAbs < 2 ^ (101 + 20) := mul_bnd (by omega) (by omega)
  have N1 : (a.fdiv 2).natAbs < 2 ^ 200 := by rw [hd]; omega
  have N2 : (a.fdiv 2 + o * strd l c w).natAbs < 2 ^ 200 := by
    rw [hd]
    have : (a / 2 + o * strd l c w).natAbs ≤ (a / 2).natAbs + (o * strd l c w).natAbs := Int.natAbs_add_le _ _
    omega
  obtain ⟨ps, ps2, K', pp, pp2, R', l1, l2, hg⟩ := pass_two (N := a.fdiv 2) (o := o) O Rk N1 N2
  have m3 : ∀ z, mulOk z (strd l c w) = true := fun z => mulOk_r (by omega)
  have d2 : divOk 2 = true := by decide
  have k5 : powOk 10 5 = true := by decide
  have k30 : powOk 10 30 = true := by decide
  have mm : ∀ (N : Int) (ps : List Int) (i j : Nat) (d : Dn) (s : Sl), pcall F_House_pass_on [hI c w y l, .int N, .tup (K.map .int)] = .ok (.tup [.tup (ps.map .int), .tup (K'.map .int)]) → s[4]? = some (some (.pv (hI c w y l))) → d s h3 = .ok (I N) h3 → s[j]? = some (some (.pv (.tup (K.map .int)))) →
      dMeth [(("House" : Str), (true, R.F_House_pass_on, R.a_House_pass_on 3 []))] ("pass_on" : Str) 2 0 (dVar 4) (daCons d (daCons (dVar j) daNil)) daNil s h3 = .ok (.pv (.tup [.tup (ps.map .int), .tup (K'.map .int)])) h3 := fun N ps i j d s e h4 hd hj => by
    rw [ev_meth (h := h3) c w y l (by simp [h4]) m_pass]
    simp [-List.map_map, hd, hj, callM_p (ps := [hI c w y l, .int N, .tup (K.map .int)]) (ap_pass _ _ _), e]
  have eq := eq_tup (ks := K') (h := h3)
  have it : ∀ (s : Sl), s[1]? = some (some (.pv (hT c w y l))) → s[10]? = some (some (.pv (.tup (ps.map .int)))) → s[11]? = some (some (.pv (.tup (ps2.map .int)))) → iZip3 (daCons (dBin oIdx (dVar 1) (dC (.int 1))) (daCons (dVar 10) (daCons (dVar 11) daNil))) s h3 = .ok ((l.zip (ps.zip ps2)).map fun q => .pv (.tup [shP q.1, .int q.2.1, .int q.2.2])) h3 := fun s hs1 hs10 hs11 => by
    have t1 : ∀ (h : Hh), oIdx (.pv (hT c w y l)) (I 1) h = .ok (.pv (.tup (l.map shP))) h := fun h => by rfl
    have e : (daCons (dBin oIdx (dVar 1) (dC (.int 1))) (daCons (dVar 10) (daCons (dVar 11) daNil))) s h3 = .ok [.pv (.tup (l.map shP)), .pv (.tup (ps.map .int)), .pv (.tup (ps2.map .int))] h3 := by
      simp [-List.map_map, hs1, hs10, hs11, t1]
    unfold iZip3
    rw [e]
    simp only [ev_bind_ok, give_pv, seqB]
    rw [if_pos ⟨by rw [List.length_map, List.length_map, l1], by rw [List.length_map, List.length_map, l2]⟩, zipA3_sh]
  obtain ⟨y12, y13, y14, y15, y16, lp⟩ := z3_loop (w := w) (y := y) (r := r) (x2 := x2) (x3 := x3) (x8 := some (I (a.fdiv 2))) (x10 := some (.pv (.tup (ps.map .int)))) (x11 := some (.pv (.tup (ps2.map .int)))) (K := K') (o := o) (h := h3) S c1 (l.zip (ps.zip ps2)) x12 x13 x14 x15 x16 (fun q hq => ⟨S.t1 _ (mem_zip1 hq), S.u1 _ (mem_zip1 hq), hg q hq⟩)
  refine ⟨K', some (I (a.fdiv 2)), some (I o), some (.pv (.tup (ps.map .int))), some (.pv (.tup (ps2.map .int))), y12, y13, y14, y15, y16, h3, ?_, B3, R'⟩
  have s1' : (sPar [8, 9] (daCons (dBin oDiv (dCall R.F_q_total 1 0 (R.a_q_total 1 []) (daCons (dVar 0) daNil) daNil) (dC (.int 2))) (daCons (dBin oIdx (dLst (daCons (dC (.int 0)) (daCons (dC (.int 1)) (daCons (dBin oAdd (dC (.int 1)) (dCall R.F_q_take 2 0 (R.a_q_take 2 []) (daCons (dVar 0) (daCons (dC (.int 9)) daNil)) daNil)) (daCons (dBin oPow (dC (.int 10)) (dC (.int 5))) (daCons (dBin oPow (dC (.int 10)) (dC (.int 30))) daNil)))))) (dCall R.F_q_take 2 0 (R.a_q_take 2 []) (daCons (dVar 0) (daCons (dC (.int 5)) daNil)) daNil)) daNil))) (apS c w y l r x2 x3 K x8 x9 x10 x11 x12 x13 x14 x15 x16) h = .nx (apS c w y l r x2 x3 K (some (I (a.fdiv 2))) (some (I o)) x10 x11 x12 x13 x14 x15 x16) h3 := by
    unfold apS
    simp [-List.map_map, ev_call, e1, e2, e3, io, d2, k5, k30]
  unfold apB
  rw [ev_seq, s1', ev_then_nx, ev_seq, ev_sAsg, mm (a.fdiv 2) ps 0 6 (dVar 8) _ pp rfl rfl rfl]
  simp only [ev_sbind_ok]
  have dd : (dBin oAdd (dVar 8) (dBin oMul (dVar 9) (dVar 5))) [some (.ref r), some (.pv (hT c w y l)), x2, x3, some (.pv (hI c w y l)), some (I (strd l c w)), some (.pv (.tup (K'.map .int))), some (.pv (.tup (K.map .int))), some (I (a.fdiv 2)), some (I o), some (.pv (.tup (ps.map .int))), x11, x12, x13, x14, x15, x16] h3 = .ok (I (a.fdiv 2 + o * strd l c w)) h3 := by
    simp [m3]
  have m2 := mm (a.fdiv 2 + o * strd l c w) ps2 0 7 _ _ pp2 rfl dd rfl
  simp only [z3T, z3B, apS] at lp
  simp [-List.map_map, -ev_forL_cons, m2, eq, it, lp]
end
end K10
set_option exponentiation.threshold 10000
namespace K10
open PySem PySem.Spec PyProof.Rows L2 CI R
section
variable {c : Int} {w y : Str} {l : List Sh}
theorem way_of (O : HOk c w y l) : y = ("turn" : Str) ∨ (y = ("drop" : Str) ∨ y = ("keep" : Str) ∨ y = ("hand" : Str)) := by
  have := O.y4
  simp only [ways, List.mem_cons, List.mem_nil_iff, or_false] at this
  rcases this with e | e | e | e
  · exact .inr (.inl e)
  · exact .inr (.inr (.inl e))
  · exact .inr (.inr (.inr e))
  · exact .inl e
theorem ev12 {h : Hh} : oIdx (.pv (.lst [.int 1, .int 2])) (I (if w = ("even" : Str) then 1 else 0)) h = .ok (I (evn w)) h := by
  unfold evn
  by_cases z : w = ("even" : Str)
  · rw [if_pos z, if_pos z]; rfl
  · rw [if_neg z, if_neg z]; rfl
theorem apart_ev {r : Nat} {h : Hh} {K : List Int} (B : BagAt h r) (O : HOk c w y l) (Rk : RstOk c w y l K) : ∃ h', F_q_apart [.ref r, .pv (hT c w y l), .pv (.tup (K.map .int))] h = .ok (.pv (.bl true)) h' ∧ BagAt h' r := by
  have S := O.s
  have c1 := O.c1
  obtain ⟨W0, _, W1⟩ := S.wh
  have mk := p_made O
  have pw := p_qwhole (l := l) S.u1
  obtain ⟨v, h1, e1, B1, _, v0, v1⟩ := take_ev B (n := 10) (by decide) (by decide)
  obtain ⟨s2, h2, e2, ⟨K', x3, x8, x9, x10, x11, x12, x13, x14, x15, x16, rfl, _⟩, B2⟩ := forL_inv (t := gNm 3) (b := apB) (fun s h' => (∃ (K' : List Int) (x3 x8 x9 x10 x11 x12 x13 x14 x15 x16 : Option Va), s = apS c w y l r (some (.pv (.tup (K.map .int)))) x3 K' x8 x9 x10 x11 x12 x13 x14 x15 x16 ∧ RstOk c w y l K') ∧ BagAt h' r)
    (rangeVa 0 (1 + v).toNat) (apS c w y l r (some (.pv (.tup (K.map .int)))) none K none none none none none none none none none) h1 ⟨⟨K, _, _, _, _, _, _, _, _, _, _, rfl, Rk⟩, B1⟩ (by
      rintro x hx s h ⟨⟨k', x3, x8, x9, x10, x11, x12, x13, x14, x15, x16, rfl, hk'⟩, B⟩
      obtain ⟨k2, y8, y9, y10, y11, y12, y13, y14, y15, y16, h', e, B', hk2⟩ := ap_step (x2 := some (.pv (.tup (K.map .int)))) (x3 := some x) (x8 := x8) (x9 := x9) (x10 := x10) (x11 := x11) (x12 := x12) (x13 := x13) (x14 := x14) (x15 := x15) (x16 := x16) B O hk'
      exact ⟨_, rfl, _, h', .inl e, ⟨k2, _, _, _, _, _, _, _, _, _, _, rfl, hk2⟩, B'⟩)
  have t1 : ∀ (h : Hh), oIdx (.pv (hT c w y l)) (I 1) h = .ok (.pv (.tup (l.map shP))) h := fun h => by rfl
  have t2 : ∀ (h : Hh), oIdx (.pv (hT c w y l)) (I 2) h = .ok (I c) h := fun h => by rfl
  have t3 : ∀ (h : Hh), oIdx (.pv (hT c w y l)) (I 3) h = .ok (.pv (.str w)) h := fun h => by rfl
  have m : ∀ x, mulOk c x = true := fun x => mulOk_l (by omega)
  have m2 : ∀ x, mulOk x (evn w) = true := fun x => mulOk_r (by unfold evn; split <;> decide)
  have i12 := fun h => @ev12 w h
  have sd : c * wh l * evn w = strd l c w := rfl
  refine ⟨h2, ?_, B2⟩
  simp only [apB, apS, z3T, z3B] at e2
  unfold F_q_apart fnOfB b_q_apart startS
  simp [-List.map_map, -ev_forL_cons, ev_call, ev_callP, mk, t1, t2, t3, pw, m, m2, i12, sd, e1, e2]
theorem p_first_any (O : HOk c w y l) : ∃ K : List Int, pcall F_House_first [hI c w y l] = .ok (.tup (K.map .int)) ∧ RstOk c w y l K := by
  rcases way_of O with rfl | hy
  · exact ⟨[0], p_first_turn, .inl ⟨rfl, 0, rfl, List.length_pos_iff.mpr O.s.n0⟩⟩
  · refine ⟨(szs c y l).map fun _ => 0, ?_, .inr ⟨hy, kept0 O.s O.c1⟩⟩
    rw [p_first (w := w) O.s O.c1 hy, List.map_map]; rfl
theorem rests_any {r : Nat} {h : Hh} (B : BagAt h r) (O : HOk c w y l) : ∃ (K : List Int) (h' : Hh), F_q_rests [.ref r, .pv (hT c w y l)] h = .ok (.pv (.tup (K.map .int))) h' ∧ BagAt h' r ∧ RstOk c w y l K := by
  rcases way_of O with rfl | hy
  · obtain ⟨k, h', e, B', hk⟩ := qrests_ev (c := c) (w := w) B O.s
    exact ⟨[(k : Int)], h', e, B', .inl ⟨rfl, k, rfl, hk⟩⟩
  · obtain ⟨K, h', e, B', k⟩ := qrests_of B O.s O.c1 O.w5 hy
    exact ⟨K, h', e, B', .inr ⟨hy, k⟩⟩
end
noncomputable abbrev turn : Sn := (sSeq (sAsg (gNm 4) (dCall R.F_q_house 3 0 (R.a_q_house 3 []) (daCons (dVar 2) (daCons (dC (.str ("ann" : Str))) (daCons (dLst (daCons (dC (.str ("bob" : Str))) (daCons (dC (.str ("cy" : Str))) (daCons (dC (.str ("d" : Str))) (daCons (dC (.str ("zz" : Str))) daNil))))) daNil))) daNil))
    (sSeq (sPar [5, 6] (daCons (dCallP R.F_q_made 1 0 (R.a_q_made 1 []) (daCons (dVar 4) daNil) daNil) (daCons (dBin oMul (dBin oIdx (dVar 4) (dC (.int 2))) (dCallP R.F_q_whole 1 0 (R.a_q_whole 1 []) (daCons (dBin oIdx (dVar 4) (dC (.int 1))) daNil) daNil)) daNil)))
    (sSeq (sIf (tOr (tVB (dBin (oEqN true) (dMeth [(("House" : Str), (true, R.F_House_stride, R.a_House_stride 1 []))] ("stride" : Str) 0 0 (dVar 5) daNil daNil) (dBin oMul (dVar 6) (dBin oIdx (dLst (daCons (dC (.int 1)) (daCons (dC (.int 2)) daNil))) (dBi bInt (daCons (dBin (oEqN false) (dBin oIdx (dVar 4) (dC (.int 3))) (dC (.str ("even" : Str)))) daNil)))))) (tVB (dBin (oEqN true) (dMeth [(("House" : Str), (true, R.F_House_span, R.a_House_span 1 []))] ("span" : Str) 0 0 (dVar 5) daNil daNil) (dCallP K10.F_q_spanned 1 0 (K10.a_q_spanned 1 []) (daCons (dVar 4) daNil) daNil)))) (sRet (dC (.bl false))) sNil)
    (sIf (tOr (tNot (tVal (dCall K10.F_q_apart 3 0 (K10.a_q_apart 3 []) (daCons (dVar 2) (daCons (dVar 4) (daCons (dMeth [(("House" : Str), (true, R.F_House_first, R.a_House_first 1 []))] ("first" : Str) 0 0 (dVar 5) daNil daNil) daNil))) daNil))) (tNot (tVal (dCall K10.F_q_apart 3 0 (K10.a_q_apart 3 []) (daCons (dVar 2) (daCons (dVar 4) (daCons (dCall R.F_q_rests 2 0 (R.a_q_rests 2 []) (daCons (dVar 2) (daCons (dVar 4) daNil)) daNil) daNil))) daNil)))) (sRet (dC (.bl false))) sNil))))
theorem inner {sc : Va} {r : Nat} {s : Sl} {h : Hh} (hz : ∃ x1 x3 x4 x5 x6, s = [some sc, x1, some (.ref r), x3, x4, x5, x6]) (B : BagAt h r) :
    ∃ s2 h2, turn s h = .nx s2 h2 ∧ (∃ x1 x3 x4 x5 x6, s2 = [some sc, x1, some (.ref r), x3, x4, x5, x6]) ∧ BagAt h2 r := by
  obtain ⟨x1, x3, x4, x5, x6, rfl⟩ := hz
  obtain ⟨l, c, w, y, h1, e1, B1, S, hc, hw, hy⟩ := house_way B
  have O : HOk c w y l := ⟨S, hc, hw, hy⟩
  have mk := p_made O
  have pw := p_qwhole (l := l) S.u1
  have pst := p_stride (w := w) (y := y) S hc
  have psp := p_span O
  have psd := p_spanned O
  obtain ⟨K0, ef, R0⟩ := p_first_any O
  obtain ⟨h2, e2, B2⟩ := apart_ev B1 O R0
  obtain ⟨K1, h3, e3, B3, R1⟩ := rests_any B2 O
  obtain ⟨h4, e4, B4⟩ := apart_ev B3 O R1
  have fo : four.map Pv.str = [.str ("bob" : Str), .str ("cy" : Str), .str ("d" : Str), .str ("zz" : Str)] := rfl
  rw [fo] at e1
  have t1 : ∀ (h : Hh), oIdx (.pv (hT c w y l)) (I 1) h = .ok (.pv (.tup (l.map shP))) h := fun h => by rfl
  have t2 : ∀ (h : Hh), oIdx (.pv (hT c w y l)) (I 2) h = .ok (I c) h := fun h => by rfl
  have t3 : ∀ (h : Hh), oIdx (.pv (hT c w y l)) (I 3) h = .ok (.pv (.str w)) h := fun h => by rfl
  have m : ∀ x, mulOk c x = true := fun x => mulOk_l (by omega)
  have m2 : ∀ x, mulOk x (evn w) = true := fun x => mulOk_r (by unfold evn; split <;> decide)
  have i12 := fun h => @ev12 w h
  have sd : c * wh l * evn w = strd l c w := rfl
  have d1 : ∀ (s : Sl) (h : Hh), s[5]? = some (some (.pv (hI c w y l))) → dMeth [(("House" : Str), (true, R.F_House_stride, R.a_House_stride 1 []))] ("stride" : Str) 0 0 (dVar 5) daNil daNil s h = .ok (I (strd l c w)) h := fun s h hs => by
    rw [ev_meth (h := h) c w y l (by simp [hs]) m_stride]
    simp [callM_p (ps := [hI c w y l]) (ap_stride _), pst]
  have d2 : ∀ (s : Sl) (h : Hh), s[5]? = some (some (.pv (hI c w y l))) → dMeth [(("House" : Str), (true, R.F_House_span, R.a_House_span 1 []))] ("span" : Str) 0 0 (dVar 5) daNil daNil s h = .ok (I (spanV c y l)) h := fun s h hs => by
    rw [ev_meth (h := h) c w y l (by simp [hs]) m_span]
    simp [callM_p (ps := [hI c w y l]) (ap_span _), psp]
  have d3 : ∀ (s : Sl) (h : Hh), s[5]? = some (some (.pv (hI c w y l))) → dMeth [(("House" : Str), (true, R.F_House_first, R.a_House_first 1 []))] ("first" : Str) 0 0 (dVar 5) daNil daNil s h = .ok (.pv (.tup (K0.map .int))) h := fun s h hs => by
    rw [ev_meth (h := h) c w y l (by simp [hs]) m_first]
    simp [-List.map_map, callM_p (ps := [hI c w y l]) (ap_hfirst _), ef]
  refine ⟨[some sc, x1, some (.ref r), x3, some (.pv (hT c w y l)), some (.pv (hI c w y l)), some (I (c * wh l))], h4, ?_, ⟨_, _, _, _, _, rfl⟩, B4⟩
  unfold turn
  simp [-List.map_map, ev_call, ev_callP, e1, mk, pw, t1, t2, t3, m, m2, i12, sd, d1, d2, d3, psd, e2, e3, e4]
theorem law_says : LawSays F_the_law 63 := by
  intro ns hns
  have hM : ∃ M : Nat, M ≤ 8 ∧ (max 2 (min 4 (ns.length : Int))).toNat = M := ⟨_, by omega, rfl⟩
  obtain ⟨M, hM8, hM⟩ := hM
  have main : ∃ s' h', forL (gNm 1) (sSeq (sAsg (gNm 2) (dCall R.F_q_bag 2 0 (R.a_q_bag 2 []) (daCons (dVar 0) (daCons (dVar 1) daNil)) daNil))
    (sFor (iRng1 (daCons (dC (.int 6)) daNil)) (gNm 3) turn)) (rangeVa 0 M) [some (.pv (.scr ns)), none, none, none, none, none, none] [] = .nx s' h' ∧ ∃ x1 x2 x3 x4 x5 x6, s' = [some (.pv (.scr ns)), x1, x2, x3, x4, x5, x6] := by
    refine forL_inv (fun s _ => ∃ x1 x2 x3 x4 x5 x6, s = [some (.pv (.scr ns)), x1, x2, x3, x4, x5, x6]) _ _ _ ⟨_, _, _, _, _, _, rfl⟩ ?_
    rintro x hx s h ⟨x1, x2, x3, x4, x5, x6, rfl⟩
    obtain ⟨k, hk, rfl⟩ := mem_rng hx
    obtain ⟨h1, e1, B1, _⟩ := bag_ev (ns := ns) (k := k) (h := h) (by omega)
    refine ⟨_, rfl, ?_⟩
    obtain ⟨s2, h2, e2, ⟨⟨y1, y3, y4, y5, y6, e3⟩, _⟩⟩ := forL_inv (t := gNm 3) (b := turn)
      (fun s h' => (∃ x1 x3 x4 x5 x6, s = [some (.pv (.scr ns)), x1, some (.ref h.length), x3, x4, x5, x6]) ∧ BagAt h' h.length) (rangeVa 0 6) [some (.pv (.scr ns)), some (I k), some (.ref h.length), x3, x4, x5, x6] h1 ⟨⟨_, _, _, _, _, rfl⟩, B1⟩ (by
        rintro y hy s h ⟨⟨z1, z3, z4, z5, z6, rfl⟩, B⟩
        refine ⟨_, rfl, ?_⟩
        obtain ⟨s2, h2, e, z, b⟩ := inner (s := [some (.pv (.scr ns)), z1, some (.ref _), z3, z4, z5, z6].set 3 (some y)) (sc := .pv (.scr ns)) ⟨_, _, _, _, _, rfl⟩ B
        exact ⟨s2, h2, .inl e, z, b⟩)
    refine ⟨s2, h2, .inl ?_, y1, _, y3, y4, y5, y6, e3⟩
    simp [-ev_forL_cons, ev_call, e1, e2]
  obtain ⟨s', h', e, x1, x2, x3, x4, x5, x6, rfl⟩ := main
  refine ⟨h', ?_⟩
  unfold F_the_law fnOfB b_the_law startS
  simp [hM, e]
end K10
namespace HK10
open PySem PySem.Spec PyProof.Rows L2 CI
def top (i : Nat) : Stmt := PySem.Challenge.pw_roundledger_k10_whole_strides.main.body.getD i (.Pass ⟨0, 0, 0, 0⟩)
abbrev FnP (K : PySem.W.Frag) (x q : Str) (st : Stmt) (kws : List (Str × V)) (f : Addr) (fd : FuncData) : Prop := FunD K x q (defArgs st) (defBody st) (defScope st) [] kws f fd
abbrev st_q_bag : Stmt := top 30
noncomputable def i_q_bag : FnI := ⟨("_law_bag" : Str), R.ps_q_bag, [], false, R.F_q_bag, [(2, [])]⟩
noncomputable def ct_q_bag : Ct := ⟨R.n_q_bag, defScope st_q_bag, none, [], [], [("abs" : Str), ("int" : Str), ("len" : Str)], true, [], [], [], [], [], []⟩
theorem ev_q_bag : evBody ct_q_bag (defBody st_q_bag) = some R.b_q_bag := by kernel_rfl
theorem sc_q_bag : FnScope R.n_q_bag R.ps_q_bag (defScope st_q_bag) := ⟨rfl, rfl, rfl, by decide +kernel, rfl, by decide +kernel, by decide +kernel⟩
theorem ca_q_bag0 {K : PySem.W.Frag} {mg : Str → Option Value} {f : Addr} {fd : FuncData} (F : FnP K ("_law_bag" : Str) ("_law_bag" : Str) st_q_bag [] f fd) : CallOk ⟨K, mg⟩ fd i_q_bag.ps 2 [] (asmF i_q_bag 2 []) :=
  callOk0 F rfl rfl fun _ _ _ _ _ _ us ws h1 h2 => match us, ws, h1, h2 with | [_, _], [], _, _ => rfl
abbrev st_q_take : Stmt := top 31
noncomputable def i_q_take : FnI := ⟨("_law_take" : Str), R.ps_q_take, [], false, R.F_q_take, [(2, [])]⟩
noncomputable def ct_q_take : Ct := ⟨R.n_q_take, defScope st_q_take, none, [], [], [], false, [], [], [], [], [], []⟩
theorem ev_q_take : evBody ct_q_take (defBody st_q_take) = some R.b_q_take := by kernel_rfl
theorem sc_q_take : FnScope R.n_q_take R.ps_q_take (defScope st_q_take) := ⟨rfl, rfl, rfl, by decide +kernel, rfl, by decide +kernel, by decide +kernel⟩
theorem ca_q_take0 {K : PySem.W.Frag} {mg : Str → Option Value} {f : Addr} {fd : FuncData} (F : FnP K ("_law_take" : Str) ("_law_take" : Str) st_q_take [] f fd) : CallOk ⟨K, mg⟩ fd i_q_take.ps 2 [] (asmF i_q_take 2 []) :=
  callOk0 F rfl rfl fun _ _ _ _ _ _ us ws h1 h2 => match us, ws, h1, h2 with | [_, _], [], _, _ => rfl
abbrev st_q_gcd : Stmt := top 33
noncomputable def i_q_gcd : FnI := ⟨("_law_gcd" : Str), R.ps_q_gcd, [], true, R.F_q_gcd, [(2, [])]⟩
noncomputable def ct_q_gcd : Ct := ⟨R.n_q_gcd, defScope st_q_gcd, none, [], [], [], false, [], [], [], [], [], []⟩
theorem ev_q_gcd : evBody ct_q_gcd (defBody st_q_gcd) = some R.b_q_gcd := by kernel_rfl
theorem sc_q_gcd : FnScope R.n_q_gcd R.ps_q_gcd (defScope st_q_gcd) := ⟨rfl, rfl, rfl, by decide +kernel, rfl, by decide +kernel, by decide +kernel⟩
theorem ca_q_gcd0 {K : PySem.W.Frag} {mg : Str → Option Value} {f : Addr} {fd : FuncData} (F : FnP K ("_law_gcd" : Str) ("_law_gcd" : Str) st_q_gcd [] f fd) : CallOk ⟨K, mg⟩ fd i_q_gcd.ps 2 [] (asmF i_q_gcd 2 []) :=
  callOk0 F rfl rfl fun _ _ _ _ _ _ us ws h1 h2 => match us, ws, h1, h2 with | [_, _], [], _, _ => rfl
abbrev st_q_shares : Stmt := top 34
noncomputable def i_q_shares : FnI := ⟨("_law_shares" : Str), R.ps_q_shares, [], false, R.F_q_shares, [(2, [])]⟩
noncomputable def ct_q_shares : Ct := ⟨R.n_q_shares, defScope st_q_shares, none, [i_q_take, i_q_gcd], [], [("tuple" : Str)], false, [("_law_found" : Str)], [], [], [], [], []⟩
theorem ev_q_shares : evBody ct_q_shares (defBody st_q_shares) = some R.b_q_shares := by kernel_rfl
theorem sc_q_shares : FnScope R.n_q_shares R.ps_q_shares (defScope st_q_shares) := ⟨rfl, rfl, rfl, by decide +kernel, rfl, by decide +kernel, by decide +kernel⟩
theorem ca_q_shares0 {K : PySem.W.Frag} {mg : Str → Option Value} {f : Addr} {fd : FuncData} (F : FnP K ("_law_shares" : Str) ("_law_shares" : Str) st_q_shares [] f fd) : CallOk ⟨K, mg⟩ fd i_q_shares.ps 2 [] (asmF i_q_shares 2 []) :=
  callOk0 F rfl rfl fun _ _ _ _ _ _ us ws h1 h2 => match us, ws, h1, h2 with | [_, _], [], _, _ => rfl
abbrev st_q_house : Stmt := top 35
noncomputable def i_q_house : FnI := ⟨("_law_house" : Str), R.ps_q_house, [], false, R.F_q_house, [(3, [])]⟩
noncomputable def ct_q_house : Ct := ⟨R.n_q_house, defScope st_q_house, none, [i_q_shares, i_q_take], [], [], false, [], [], [], [], [], []⟩
theorem ev_q_house : evBody ct_q_house (defBody st_q_house) = some R.b_q_house := by kernel_rfl
theorem sc_q_house : FnScope R.n_q_house R.ps_q_house (defScope st_q_house) := ⟨rfl, rfl, rfl, by decide +kernel, rfl, by decide +kernel, by decide +kernel⟩
theorem ca_q_house0 {K : PySem.W.Frag} {mg : Str → Option Value} {f : Addr} {fd : FuncData} (F : FnP K ("_law_house" : Str) ("_law_house" : Str) st_q_house [] f fd) : CallOk ⟨K, mg⟩ fd i_q_house.ps 3 [] (asmF i_q_house 3 []) :=
  callOk0 F rfl rfl fun _ _ _ _ _ _ us ws h1 h2 => match us, ws, h1, h2 with | [_, _, _], [], _, _ => rfl
abbrev st_q_whole : Stmt := top 38
noncomputable def i_q_whole : FnI := ⟨("_law_whole" : Str), R.ps_q_whole, [], true, R.F_q_whole, [(1, [])]⟩
noncomputable def ct_q_whole : Ct := ⟨R.n_q_whole, defScope st_q_whole, none, [i_q_gcd], [], [], false, [], [], [], [], [], []⟩
theorem ev_q_whole : evBody ct_q_whole (defBody st_q_whole) = some R.b_q_whole := by kernel_rfl
theorem sc_q_whole : FnScope R.n_q_whole R.ps_q_whole (defScope st_q_whole) := ⟨rfl, rfl, rfl, by decide +kernel, rfl, by decide +kernel, by decide +kernel⟩
theorem ca_q_whole0 {K : PySem.W.Frag} {mg : Str → Option Value} {f : Addr} {fd : FuncData} (F : FnP K ("_law_whole" : Str) ("_law_whole" : Str) st_q_whole [] f fd) : CallOk ⟨K, mg⟩ fd i_q_whole.ps 1 [] (asmF i_q_whole 1 []) :=
  callOk0 F rfl rfl fun _ _ _ _ _ _ us ws h1 h2 => match us, ws, h1, h2 with | [_], [], _, _ => rfl
abbrev st_is_name : Stmt := top 20
noncomputable def i_is_name : FnI := ⟨("is_name" : Str), R.ps_is_name, [], true, R.F_is_name, [(1, [])]⟩
noncomputable def ct_is_name : Ct := ⟨R.n_is_name, defScope st_is_name, none, [], [(("MOST_LETTERS" : Str), (.int 8)), (("LETTERS" : Str), (.str ("abcdefghijklmnopqrstuvwxyz" : Str)))], [("all" : Str), ("isinstance" : Str), ("len" : Str), ("str" : Str)], false, [], [], [], [], [], []⟩
theorem ev_is_name : evBody ct_is_name (defBody st_is_name) = some R.b_is_name := by kernel_rfl
theorem sc_is_name : FnScope R.n_is_name R.ps_is_name (defScope st_is_name) := ⟨rfl, rfl, rfl, by decide +kernel, rfl, by decide +kernel, by decide +kernel⟩
theorem ca_is_name0 {K : PySem.W.Frag} {mg : Str → Option Value} {f : Addr} {fd : FuncData} (F : FnP K ("is_name" : Str) ("is_name" : Str) st_is_name [] f fd) : CallOk ⟨K, mg⟩ fd i_is_name.ps 1 [] (asmF i_is_name 1 []) :=
  callOk0 F rfl rfl fun _ _ _ _ _ _ us ws h1 h2 => match us, ws, h1, h2 with | [_], [], _, _ => rfl
abbrev st_is_whole : Stmt := top 6
noncomputable def i_is_whole : FnI := ⟨("is_whole" : Str), R.ps_is_whole, [], true, R.F_is_whole, [(1, [])]⟩
noncomputable def ct_is_whole : Ct := ⟨R.n_is_whole, defScope st_is_whole, none, [], [], [("bool" : Str), ("int" : Str), ("isinstance" : Str)], false, [], [], [], [], [], []⟩
theorem ev_is_whole : evBody ct_is_whole (defBody st_is_whole) = some R.b_is_whole := by kernel_rfl
theorem sc_is_whole : FnScope R.n_is_whole R.ps_is_whole (defScope st_is_whole) := ⟨rfl, rfl, rfl, by decide +kernel, rfl, by decide +kernel, by decide +kernel⟩
theorem ca_is_whole0 {K : PySem.W.Frag} {mg : Str → Option Value} {f : Addr} {fd : FuncData} (F : FnP K ("is_whole" : Str) ("is_whole" : Str) st_is_whole [] f fd) : CallOk ⟨K, mg⟩ fd i_is_whole.ps 1 [] (asmF i_is_whole 1 []) :=
  callOk0 F rfl rfl fun _ _ _ _ _ _ us ws h1 h2 => match us, ws, h1, h2 with | [_], [], _, _ => rfl
abbrev st_common : Stmt := top 7
noncomputable def i_common : FnI := ⟨("common" : Str), R.ps_common, [], true, R.F_common, [(2, [])]⟩
noncomputable def ct_common : Ct := ⟨R.n_common, defScope st_common, none, [], [], [], false, [], [], [], [], [], []⟩
theorem ev_common : evBody ct_common (defBody st_common) = some R.b_common := by kernel_rfl
theorem sc_common : FnScope R.n_common R.ps_common (defScope st_common) := ⟨rfl, rfl, rfl, by decide +kernel, rfl, by decide +kernel, by decide +kernel⟩
theorem ca_common0 {K : PySem.W.Frag} {mg : Str → Option Value} {f : Addr} {fd : FuncData} (F : FnP K ("common" : Str) ("common" : Str) st_common [] f fd) : CallOk ⟨K, mg⟩ fd i_common.ps 2 [] (asmF i_common 2 []) :=
  callOk0 F rfl rfl fun _ _ _ _ _ _ us ws h1 h2 => match us, ws, h1, h2 with | [_, _], [], _, _ => rfl
abbrev st_is_ratio : Stmt := top 9
noncomputable def i_is_ratio : FnI := ⟨("is_ratio" : Str), R.ps_is_ratio, [], true, R.F_is_ratio, [(1, [])]⟩
noncomputable def ct_is_ratio : Ct := ⟨R.n_is_ratio, defScope st_is_ratio, none, [i_is_whole, i_common], [], [("abs" : Str), ("all" : Str), ("isinstance" : Str), ("len" : Str), ("tuple" : Str)], false, [], [], [], [], [], []⟩
theorem ev_is_ratio : evBody ct_is_ratio (defBody st_is_ratio) = some R.b_is_ratio := by kernel_rfl
theorem sc_is_ratio : FnScope R.n_is_ratio R.ps_is_ratio (defScope st_is_ratio) := ⟨rfl, rfl, rfl, by decide +kernel, rfl, by decide +kernel, by decide +kernel⟩
theorem ca_is_ratio0 {K : PySem.W.Frag} {mg : Str → Option Value} {f : Addr} {fd : FuncData} (F : FnP K ("is_ratio" : Str) ("is_ratio" : Str) st_is_ratio [] f fd) : CallOk ⟨K, mg⟩ fd i_is_ratio.ps 1 [] (asmF i_is_ratio 1 []) :=
  callOk0 F rfl rfl fun _ _ _ _ _ _ us ws h1 h2 => match us, ws, h1, h2 with | [_], [], _, _ => rfl
abbrev st_is_share : Stmt := top 21
noncomputable def i_is_share : FnI := ⟨("is_share" : Str), R.ps_is_share, [], true, R.F_is_share, [(1, [])]⟩
noncomputable def ct_is_share : Ct := ⟨R.n_is_share, defScope st_is_share, none, [i_is_ratio, i_is_name], [(("MOST_UNDER" : Str), (.int 12))], [("isinstance" : Str), ("len" : Str), ("tuple" : Str)], false, [], [], [], [], [], []⟩
theorem ev_is_share : evBody ct_is_share (defBody st_is_share) = some R.b_is_share := by kernel_rfl
theorem sc_is_share : FnScope R.n_is_share R.ps_is_share (defScope st_is_share) := ⟨rfl, rfl, rfl, by decide +kernel, rfl, by decide +kernel, by decide +kernel⟩
theorem ca_is_share0 {K : PySem.W.Frag} {mg : Str → Option Value} {f : Addr} {fd : FuncData} (F : FnP K ("is_share" : Str) ("is_share" : Str) st_is_share [] f fd) : CallOk ⟨K, mg⟩ fd i_is_share.ps 1 [] (asmF i_is_share 1 []) :=
  callOk0 F rfl rfl fun _ _ _ _ _ _ us ws h1 h2 => match us, ws, h1, h2 with | [_], [], _, _ => rfl
abbrev st_common_multiple : Stmt := top 8
noncomputable def i_common_multiple : FnI := ⟨("common_multiple" : Str), R.ps_common_multiple, [], true, R.F_common_multiple, [(1, [])]⟩
noncomputable def ct_common_multiple : Ct := ⟨R.n_common_multiple, defScope st_common_multiple, none, [i_common], [], [], false, [], [], [], [], [], []⟩
theorem ev_common_multiple : evBody ct_common_multiple (defBody st_common_multiple) = some R.b_common_multiple := by kernel_rfl
theorem sc_common_multiple : FnScope R.n_common_multiple R.ps_common_multiple (defScope st_common_multiple) := ⟨rfl, rfl, rfl, by decide +kernel, rfl, by decide +kernel, by decide +kernel⟩
theorem ca_common_multiple0 {K : PySem.W.Frag} {mg : Str → Option Value} {f : Addr} {fd : FuncData} (F : FnP K ("common_multiple" : Str) ("common_multiple" : Str) st_common_multiple [] f fd) : CallOk ⟨K, mg⟩ fd i_common_multiple.ps 1 [] (asmF i_common_multiple 1 []) :=
  callOk0 F rfl rfl fun _ _ _ _ _ _ us ws h1 h2 => match us, ws, h1, h2 with | [_], [], _, _ => rfl
abbrev st_are_shares : Stmt := top 22
noncomputable def i_are_shares : FnI := ⟨("are_shares" : Str), R.ps_are_shares, [], true, R.F_are_shares, [(2, [])]⟩
noncomputable def ct_are_shares : Ct := ⟨R.n_are_shares, defScope st_are_shares, none, [i_is_share, i_common_multiple], [(("MOST_SHARES" : Str), (.int 4))], [("all" : Str), ("isinstance" : Str), ("len" : Str), ("sum" : Str), ("tuple" : Str)], false, [], [], [], [], [], []⟩
theorem ev_are_shares : evBody ct_are_shares (defBody st_are_shares) = some R.b_are_shares := by kernel_rfl
theorem sc_are_shares : FnScope R.n_are_shares R.ps_are_shares (defScope st_are_shares) := ⟨rfl, rfl, rfl, by decide +kernel, rfl, by decide +kernel, by decide +kernel⟩
theorem ca_are_shares0 {K : PySem.W.Frag} {mg : Str → Option Value} {f : Addr} {fd : FuncData} (F : FnP K ("are_shares" : Str) ("are_shares" : Str) st_are_shares [] f fd) : CallOk ⟨K, mg⟩ fd i_are_shares.ps 2 [] (asmF i_are_shares 2 []) :=
  callOk0 F rfl rfl fun _ _ _ _ _ _ us ws h1 h2 => match us, ws, h1, h2 with | [_, _], [], _, _ => rfl
abbrev st_House___init__ : Stmt := (clsB (top 28)).getD 0 (.Pass ⟨0, 0, 0, 0⟩)
noncomputable def i_House___init__ : FnI := ⟨("House" : Str), R.ps_House___init__, [(("coin" : Str), (.int 1)), (("rule" : Str), (.str ("down" : Str))), (("way" : Str), (.str ("drop" : Str)))], false, R.F_House___init__, [(3, [("coin" : Str), ("rule" : Str), ("way" : Str)])]⟩
noncomputable def ct_House___init__ : Ct := ⟨R.n_House___init__, defScope st_House___init__, none, [i_is_name, i_are_shares, i_is_whole], [(("MOST_COIN" : Str), (.int 12)), (("RULES" : Str), (.tup [(.str ("down" : Str)), (.str ("up" : Str)), (.str ("upper" : Str)), (.str ("lower" : Str)), (.str ("even" : Str))])), (("WAYS" : Str), (.tup [(.str ("drop" : Str)), (.str ("keep" : Str)), (.str ("hand" : Str)), (.str ("turn" : Str))]))], [("isinstance" : Str), ("str" : Str)], false, [], [(("name" : Str), [("House" : Str)]), (("shares" : Str), [("House" : Str)]), (("coin" : Str), [("House" : Str)]), (("rule" : Str), [("House" : Str)]), (("way" : Str), [("House" : Str)])], [], [], [], []⟩
theorem ev_House___init__ : evBody ct_House___init__ (defBody st_House___init__) = some R.b_House___init__ := by kernel_rfl
theorem sc_House___init__ : FnScope R.n_House___init__ R.ps_House___init__ (defScope st_House___init__) := ⟨rfl, rfl, rfl, by decide +kernel, rfl, by decide +kernel, by decide +kernel⟩
theorem ca_House___init__0 {K : PySem.W.Frag} {mg : Str → Option Value} {f : Addr} {fd : FuncData} (F : FnP K ("__init__" : Str) ("House.__init__" : Str) st_House___init__ [(("coin" : Str), V.int 1), (("rule" : Str), V.str ("down" : Str)), (("way" : Str), V.str ("drop" : Str))] f fd) : CallOk ⟨K, mg⟩ fd i_House___init__.ps 3 [("coin" : Str), ("rule" : Str), ("way" : Str)] (asmF i_House___init__ 3 [("coin" : Str), ("rule" : Str), ("way" : Str)]) :=
  callOk0 F rfl rfl fun _ _ _ _ _ _ us ws h1 h2 => match us, ws, h1, h2 with | [_, _, _], [_, _, _], _, _ => rfl
abbrev st_q_made : Stmt := top 37
noncomputable def i_q_made : FnI := ⟨("_law_made" : Str), R.ps_q_made, [], true, R.F_q_made, [(1, [])]⟩
noncomputable def ct_q_made : Ct := ⟨R.n_q_made, defScope st_q_made, none, [], [], [], false, [], [], [], [i_House___init__], [], []⟩
theorem ev_q_made : evBody ct_q_made (defBody st_q_made) = some R.b_q_made := by kernel_rfl
theorem sc_q_made : FnScope R.n_q_made R.ps_q_made (defScope st_q_made) := ⟨rfl, rfl, rfl, by decide +kernel, rfl, by decide +kernel, by decide +kernel⟩
theorem ca_q_made0 {K : PySem.W.Frag} {mg : Str → Option Value} {f : Addr} {fd : FuncData} (F : FnP K ("_law_made" : Str) ("_law_made" : Str) st_q_made [] f fd) : CallOk ⟨K, mg⟩ fd i_q_made.ps 1 [] (asmF i_q_made 1 []) :=
  callOk0 F rfl rfl fun _ _ _ _ _ _ us ws h1 h2 => match us, ws, h1, h2 with | [_], [], _, _ => rfl
abbrev st_q_spanned : Stmt := top 41
noncomputable def i_q_spanned : FnI := ⟨("_law_spanned" : Str), K10.ps_q_spanned, [], true, K10.F_q_spanned, [(1, [])]⟩
noncomputable def ct_q_spanned : Ct := ⟨K10.n_q_spanned, defScope st_q_spanned, none, [i_q_whole], [], [("len" : Str)], false, [], [], [], [], [], []⟩
theorem ev_q_spanned : evBody ct_q_spanned (defBody st_q_spanned) = some K10.b_q_spanned := by kernel_rfl
theorem sc_q_spanned : FnScope K10.n_q_spanned K10.ps_q_spanned (defScope st_q_spanned) := ⟨rfl, rfl, rfl, by decide +kernel, rfl, by decide +kernel, by decide +kernel⟩
theorem ca_q_spanned0 {K : PySem.W.Frag} {mg : Str → Option Value} {f : Addr} {fd : FuncData} (F : FnP K ("_law_spanned" : Str) ("_law_spanned" : Str) st_q_spanned [] f fd) : CallOk ⟨K, mg⟩ fd i_q_spanned.ps 1 [] (asmF i_q_spanned 1 []) :=
  callOk0 F rfl rfl fun _ _ _ _ _ _ us ws h1 h2 => match us, ws, h1, h2 with | [_], [], _, _ => rfl
abbrev st_q_wide : Stmt := top 32
noncomputable def i_q_wide : FnI := ⟨("_law_wide" : Str), R.ps_q_wide, [], false, R.F_q_wide, [(2, [])]⟩
noncomputable def ct_q_wide : Ct := ⟨R.n_q_wide, defScope st_q_wide, none, [i_q_take], [], [("range" : Str)], false, [], [], [], [], [], []⟩
theorem ev_q_wide : evBody ct_q_wide (defBody st_q_wide) = some R.b_q_wide := by kernel_rfl
theorem sc_q_wide : FnScope R.n_q_wide R.ps_q_wide (defScope st_q_wide) := ⟨rfl, rfl, rfl, by decide +kernel, rfl, by decide +kernel, by decide +kernel⟩
theorem ca_q_wide0 {K : PySem.W.Frag} {mg : Str → Option Value} {f : Addr} {fd : FuncData} (F : FnP K ("_law_wide" : Str) ("_law_wide" : Str) st_q_wide [] f fd) : CallOk ⟨K, mg⟩ fd i_q_wide.ps 2 [] (asmF i_q_wide 2 []) :=
  callOk0 F rfl rfl fun _ _ _ _ _ _ us ws h1 h2 => match us, ws, h1, h2 with | [_, _], [], _, _ => rfl
abbrev st_q_total : Stmt := top 36
noncomputable def i_q_total : FnI := ⟨("_law_total" : Str), R.ps_q_total, [], false, R.F_q_total, [(1, [])]⟩
noncomputable def ct_q_total : Ct := ⟨R.n_q_total, defScope st_q_total, none, [i_q_take, i_q_wide], [], [], false, [], [], [], [], [], []⟩
theorem ev_q_total : evBody ct_q_total (defBody st_q_total) = some R.b_q_total := by kernel_rfl
theorem sc_q_total : FnScope R.n_q_total R.ps_q_total (defScope st_q_total) := ⟨rfl, rfl, rfl, by decide +kernel, rfl, by decide +kernel, by decide +kernel⟩
theorem ca_q_total0 {K : PySem.W.Frag} {mg : Str → Option Value} {f : Addr} {fd : FuncData} (F : FnP K ("_law_total" : Str) ("_law_total" : Str) st_q_total [] f fd) : CallOk ⟨K, mg⟩ fd i_q_total.ps 1 [] (asmF i_q_total 1 []) :=
  callOk0 F rfl rfl fun _ _ _ _ _ _ us ws h1 h2 => match us, ws, h1, h2 with | [_], [], _, _ => rfl
abbrev st_many_coins : Stmt := top 10
noncomputable def i_many_coins : FnI := ⟨("many_coins" : Str), R.ps_many_coins, [], true, R.F_many_coins, [(4, [])]⟩
noncomputable def ct_many_coins : Ct := ⟨R.n_many_coins, defScope st_many_coins, none, [], [], [("divmod" : Str), ("int" : Str)], false, [], [], [], [], [], []⟩
theorem ev_many_coins : evBody ct_many_coins (defBody st_many_coins) = some R.b_many_coins := by kernel_rfl
theorem sc_many_coins : FnScope R.n_many_coins R.ps_many_coins (defScope st_many_coins) := ⟨rfl, rfl, rfl, by decide +kernel, rfl, by decide +kernel, by decide +kernel⟩
theorem ca_many_coins0 {K : PySem.W.Frag} {mg : Str → Option Value} {f : Addr} {fd : FuncData} (F : FnP K ("many_coins" : Str) ("many_coins" : Str) st_many_coins [] f fd) : CallOk ⟨K, mg⟩ fd i_many_coins.ps 4 [] (asmF i_many_coins 4 []) :=
  callOk0 F rfl rfl fun _ _ _ _ _ _ us ws h1 h2 => match us, ws, h1, h2 with | [_, _, _, _], [], _, _ => rfl
abbrev st_by_drop : Stmt := top 23
noncomputable def i_by_drop : FnI := ⟨("by_drop" : Str), R.ps_by_drop, [], true, R.F_by_drop, [(3, [])]⟩
noncomputable def ct_by_drop : Ct := ⟨R.n_by_drop, defScope st_by_drop, none, [i_many_coins], [], [], false, [], [(("shares" : Str), [("House" : Str)]), (("rule" : Str), [("House" : Str)]), (("coin" : Str), [("House" : Str)])], [], [], [], []⟩
theorem ev_by_drop : evBody ct_by_drop (defBody st_by_drop) = some R.b_by_drop := by kernel_rfl
theorem sc_by_drop : FnScope R.n_by_drop R.ps_by_drop (defScope st_by_drop) := ⟨rfl, rfl, rfl, by decide +kernel, rfl, by decide +kernel, by decide +kernel⟩
theorem ca_by_drop0 {K : PySem.W.Frag} {mg : Str → Option Value} {f : Addr} {fd : FuncData} (F : FnP K ("by_drop" : Str) ("by_drop" : Str) st_by_drop [] f fd) : CallOk ⟨K, mg⟩ fd i_by_drop.ps 3 [] (asmF i_by_drop 3 []) :=
  callOk0 F rfl rfl fun _ _ _ _ _ _ us ws h1 h2 => match us, ws, h1, h2 with | [_, _, _], [], _, _ => rfl
abbrev st_by_keep : Stmt := top 24
noncomputable def i_by_keep : FnI := ⟨("by_keep" : Str), R.ps_by_keep, [], true, R.F_by_keep, [(3, [])]⟩
noncomputable def ct_by_keep : Ct := ⟨R.n_by_keep, defScope st_by_keep, none, [i_many_coins], [], [("tuple" : Str), ("zip" : Str)], false, [("found" : Str), ("parts" : Str)], [(("shares" : Str), [("House" : Str)]), (("coin" : Str), [("House" : Str)]), (("rule" : Str), [("House" : Str)])], [], [], [], []⟩
theorem ev_by_keep : evBody ct_by_keep (defBody st_by_keep) = some R.b_by_keep := by kernel_rfl
theorem sc_by_keep : FnScope R.n_by_keep R.ps_by_keep (defScope st_by_keep) := ⟨rfl, rfl, rfl, by decide +kernel, rfl, by decide +kernel, by decide +kernel⟩
theorem ca_by_keep0 {K : PySem.W.Frag} {mg : Str → Option Value} {f : Addr} {fd : FuncData} (F : FnP K ("by_keep" : Str) ("by_keep" : Str) st_by_keep [] f fd) : CallOk ⟨K, mg⟩ fd i_by_keep.ps 3 [] (asmF i_by_keep 3 []) :=
  callOk0 F rfl rfl fun _ _ _ _ _ _ us ws h1 h2 => match us, ws, h1, h2 with | [_, _, _], [], _, _ => rfl
abbrev st_House_whole : Stmt := (clsB (top 28)).getD 1 (.Pass ⟨0, 0, 0, 0⟩)
noncomputable def i_House_whole : FnI := ⟨("House.whole" : Str), R.ps_House_whole, [], true, R.F_House_whole, [(1, [])]⟩
noncomputable def j_House_whole : MtI := ⟨("House" : Str), ("whole" : Str), i_House_whole⟩
noncomputable def ct_House_whole : Ct := ⟨R.n_House_whole, defScope st_House_whole, none, [i_common_multiple], [], [], false, [], [(("shares" : Str), [("House" : Str)])], [], [], [], []⟩
theorem ev_House_whole : evBody ct_House_whole (defBody st_House_whole) = some R.b_House_whole := by kernel_rfl
theorem sc_House_whole : FnScope R.n_House_whole R.ps_House_whole (defScope st_House_whole) := ⟨rfl, rfl, rfl, by decide +kernel, rfl, by decide +kernel, by decide +kernel⟩
theorem ca_House_whole0 {K : PySem.W.Frag} {mg : Str → Option Value} {f : Addr} {fd : FuncData} (F : FnP K ("whole" : Str) ("House.whole" : Str) st_House_whole [] f fd) : CallOk ⟨K, mg⟩ fd i_House_whole.ps 1 [] (asmF i_House_whole 1 []) :=
  callOk0 F rfl rfl fun _ _ _ _ _ _ us ws h1 h2 => match us, ws, h1, h2 with | [_], [], _, _ => rfl
abbrev st_by_hand : Stmt := top 25
noncomputable def i_by_hand : FnI := ⟨("by_hand" : Str), R.ps_by_hand, [], true, R.F_by_hand, [(3, [])]⟩
noncomputable def ct_by_hand : Ct := ⟨R.n_by_hand, defScope st_by_hand, none, [i_many_coins], [], [], false, [("parts" : Str)], [(("shares" : Str), [("House" : Str)]), (("coin" : Str), [("House" : Str)]), (("rule" : Str), [("House" : Str)])], [j_House_whole], [], [], []⟩
theorem ev_by_hand : evBody ct_by_hand (defBody st_by_hand) = some R.b_by_hand := by kernel_rfl
theorem sc_by_hand : FnScope R.n_by_hand R.ps_by_hand (defScope st_by_hand) := ⟨rfl, rfl, rfl, by decide +kernel, rfl, by decide +kernel, by decide +kernel⟩
theorem ca_by_hand0 {K : PySem.W.Frag} {mg : Str → Option Value} {f : Addr} {fd : FuncData} (F : FnP K ("by_hand" : Str) ("by_hand" : Str) st_by_hand [] f fd) : CallOk ⟨K, mg⟩ fd i_by_hand.ps 3 [] (asmF i_by_hand 3 []) :=
  callOk0 F rfl rfl fun _ _ _ _ _ _ us ws h1 h2 => match us, ws, h1, h2 with | [_, _, _], [], _, _ => rfl
abbrev st_by_turn : Stmt := top 26
noncomputable def i_by_turn : FnI := ⟨("by_turn" : Str), R.ps_by_turn, [], true, R.F_by_turn, [(3, [])]⟩
noncomputable def ct_by_turn : Ct := ⟨R.n_by_turn, defScope st_by_turn, none, [i_many_coins], [], [("len" : Str), ("range" : Str), ("sum" : Str)], false, [("coins" : Str)], [(("shares" : Str), [("House" : Str)]), (("coin" : Str), [("House" : Str)]), (("rule" : Str), [("House" : Str)])], [j_House_whole], [], [], []⟩
theorem ev_by_turn : evBody ct_by_turn (defBody st_by_turn) = some R.b_by_turn := by kernel_rfl
theorem sc_by_turn : FnScope R.n_by_turn R.ps_by_turn (defScope st_by_turn) := ⟨rfl, rfl, rfl, by decide +kernel, rfl, by decide +kernel, by decide +kernel⟩
theorem ca_by_turn0 {K : PySem.W.Frag} {mg : Str → Option Value} {f : Addr} {fd : FuncData} (F : FnP K ("by_turn" : Str) ("by_turn" : Str) st_by_turn [] f fd) : CallOk ⟨K, mg⟩ fd i_by_turn.ps 3 [] (asmF i_by_turn 3 []) :=
  callOk0 F rfl rfl fun _ _ _ _ _ _ us ws h1 h2 => match us, ws, h1, h2 with | [_, _, _], [], _, _ => rfl
abbrev st_may_be_left : Stmt := top 11
noncomputable def i_may_be_left : FnI := ⟨("may_be_left" : Str), R.ps_may_be_left, [], true, R.F_may_be_left, [(3, [])]⟩
noncomputable def ct_may_be_left : Ct := ⟨R.n_may_be_left, defScope st_may_be_left, none, [], [], [], false, [], [], [], [], [], []⟩
theorem ev_may_be_left : evBody ct_may_be_left (defBody st_may_be_left) = some R.b_may_be_left := by kernel_rfl
theorem sc_may_be_left : FnScope R.n_may_be_left R.ps_may_be_left (defScope st_may_be_left) := ⟨rfl, rfl, rfl, by decide +kernel, rfl, by decide +kernel, by decide +kernel⟩
theorem ca_may_be_left0 {K : PySem.W.Frag} {mg : Str → Option Value} {f : Addr} {fd : FuncData} (F : FnP K ("may_be_left" : Str) ("may_be_left" : Str) st_may_be_left [] f fd) : CallOk ⟨K, mg⟩ fd i_may_be_left.ps 3 [] (asmF i_may_be_left 3 []) :=
  callOk0 F rfl rfl fun _ _ _ _ _ _ us ws h1 h2 => match us, ws, h1, h2 with | [_, _, _], [], _, _ => rfl
abbrev st_House_sizes : Stmt := (clsB (top 28)).getD 2 (.Pass ⟨0, 0, 0, 0⟩)
noncomputable def i_House_sizes : FnI := ⟨("House.sizes" : Str), R.ps_House_sizes, [], true, R.F_House_sizes, [(1, [])]⟩
noncomputable def j_House_sizes : MtI := ⟨("House" : Str), ("sizes" : Str), i_House_sizes⟩
noncomputable def ct_House_sizes : Ct := ⟨R.n_House_sizes, defScope st_House_sizes, none, [], [], [], false, [], [(("way" : Str), [("House" : Str)]), (("shares" : Str), [("House" : Str)]), (("coin" : Str), [("House" : Str)])], [j_House_whole], [], [], []⟩
theorem ev_House_sizes : evBody ct_House_sizes (defBody st_House_sizes) = some R.b_House_sizes := by kernel_rfl
theorem sc_House_sizes : FnScope R.n_House_sizes R.ps_House_sizes (defScope st_House_sizes) := ⟨rfl, rfl, rfl, by decide +kernel, rfl, by decide +kernel, by decide +kernel⟩
theorem ca_House_sizes0 {K : PySem.W.Frag} {mg : Str → Option Value} {f : Addr} {fd : FuncData} (F : FnP K ("sizes" : Str) ("House.sizes" : Str) st_House_sizes [] f fd) : CallOk ⟨K, mg⟩ fd i_House_sizes.ps 1 [] (asmF i_House_sizes 1 []) :=
  callOk0 F rfl rfl fun _ _ _ _ _ _ us ws h1 h2 => match us, ws, h1, h2 with | [_], [], _, _ => rfl
abbrev st_House_first : Stmt := (clsB (top 28)).getD 3 (.Pass ⟨0, 0, 0, 0⟩)
noncomputable def i_House_first : FnI := ⟨("House.first" : Str), R.ps_House_first, [], true, R.F_House_first, [(1, [])]⟩
noncomputable def j_House_first : MtI := ⟨("House" : Str), ("first" : Str), i_House_first⟩
noncomputable def ct_House_first : Ct := ⟨R.n_House_first, defScope st_House_first, none, [], [], [("tuple" : Str)], false, [], [(("way" : Str), [("House" : Str)])], [j_House_sizes], [], [], []⟩
theorem ev_House_first : evBody ct_House_first (defBody st_House_first) = some R.b_House_first := by kernel_rfl
theorem sc_House_first : FnScope R.n_House_first R.ps_House_first (defScope st_House_first) := ⟨rfl, rfl, rfl, by decide +kernel, rfl, by decide +kernel, by decide +kernel⟩
theorem ca_House_first0 {K : PySem.W.Frag} {mg : Str → Option Value} {f : Addr} {fd : FuncData} (F : FnP K ("first" : Str) ("House.first" : Str) st_House_first [] f fd) : CallOk ⟨K, mg⟩ fd i_House_first.ps 1 [] (asmF i_House_first 1 []) :=
  callOk0 F rfl rfl fun _ _ _ _ _ _ us ws h1 h2 => match us, ws, h1, h2 with | [_], [], _, _ => rfl
abbrev st_House_are_rests : Stmt := (clsB (top 28)).getD 4 (.Pass ⟨0, 0, 0, 0⟩)
noncomputable def i_House_are_rests : FnI := ⟨("House.are_rests" : Str), R.ps_House_are_rests, [], true, R.F_House_are_rests, [(2, [])]⟩
noncomputable def j_House_are_rests : MtI := ⟨("House" : Str), ("are_rests" : Str), i_House_are_rests⟩
noncomputable def ct_House_are_rests : Ct := ⟨R.n_House_are_rests, defScope st_House_are_rests, none, [i_is_whole, i_may_be_left], [], [("all" : Str), ("isinstance" : Str), ("len" : Str), ("tuple" : Str), ("zip" : Str)], false, [], [(("way" : Str), [("House" : Str)]), (("shares" : Str), [("House" : Str)]), (("rule" : Str), [("House" : Str)])], [j_House_first, j_House_sizes], [], [], []⟩
theorem ev_House_are_rests : evBody ct_House_are_rests (defBody st_House_are_rests) = some R.b_House_are_rests := by kernel_rfl
theorem sc_House_are_rests : FnScope R.n_House_are_rests R.ps_House_are_rests (defScope st_House_are_rests) := ⟨rfl, rfl, rfl, by decide +kernel, rfl, by decide +kernel, by decide +kernel⟩
theorem ca_House_are_rests0 {K : PySem.W.Frag} {mg : Str → Option Value} {f : Addr} {fd : FuncData} (F : FnP K ("are_rests" : Str) ("House.are_rests" : Str) st_House_are_rests [] f fd) : CallOk ⟨K, mg⟩ fd i_House_are_rests.ps 2 [] (asmF i_House_are_rests 2 []) :=
  callOk0 F rfl rfl fun _ _ _ _ _ _ us ws h1 h2 => match us, ws, h1, h2 with | [_, _], [], _, _ => rfl
abbrev st_House_pass_on : Stmt := (clsB (top 28)).getD 5 (.Pass ⟨0, 0, 0, 0⟩)
noncomputable def i_House_pass_on : FnI := ⟨("House.pass_on" : Str), R.ps_House_pass_on, [], true, R.F_House_pass_on, [(3, [])]⟩
noncomputable def j_House_pass_on : MtI := ⟨("House" : Str), ("pass_on" : Str), i_House_pass_on⟩
noncomputable def ct_House_pass_on : Ct := ⟨R.n_House_pass_on, defScope st_House_pass_on, none, [i_by_drop, i_by_keep, i_by_hand, i_by_turn], [], [("tuple" : Str)], false, [], [(("way" : Str), [("House" : Str)])], [j_House_are_rests], [], [(("DEEDS" : Str), [(("drop" : Str), ("by_drop" : Str)), (("keep" : Str), ("by_keep" : Str)), (("hand" : Str), ("by_hand" : Str)), (("turn" : Str), ("by_turn" : Str))])], [("NoRests" : Str)]⟩
theorem ev_House_pass_on : evBody ct_House_pass_on (defBody st_House_pass_on) = some R.b_House_pass_on := by kernel_rfl
theorem sc_House_pass_on : FnScope R.n_House_pass_on R.ps_House_pass_on (defScope st_House_pass_on) := ⟨rfl, rfl, rfl, by decide +kernel, rfl, by decide +kernel, by decide +kernel⟩
theorem ca_House_pass_on0 {K : PySem.W.Frag} {mg : Str → Option Value} {f : Addr} {fd : FuncData} (F : FnP K ("pass_on" : Str) ("House.pass_on" : Str) st_House_pass_on [] f fd) : CallOk ⟨K, mg⟩ fd i_House_pass_on.ps 3 [] (asmF i_House_pass_on 3 []) :=
  callOk0 F rfl rfl fun _ _ _ _ _ _ us ws h1 h2 => match us, ws, h1, h2 with | [_, _, _], [], _, _ => rfl
abbrev st_q_apart : Stmt := top 42
noncomputable def i_q_apart : FnI := ⟨("_law_apart" : Str), K10.ps_q_apart, [], false, K10.F_q_apart, [(3, [])]⟩
noncomputable def ct_q_apart : Ct := ⟨K10.n_q_apart, defScope st_q_apart, none, [i_q_whole, i_q_made, i_q_take, i_q_total], [], [("int" : Str), ("range" : Str), ("zip" : Str)], false, [], [], [j_House_pass_on], [], [], []⟩
theorem ev_q_apart : evBody ct_q_apart (defBody st_q_apart) = some K10.b_q_apart := by kernel_rfl
theorem sc_q_apart : FnScope K10.n_q_apart K10.ps_q_apart (defScope st_q_apart) := ⟨rfl, rfl, rfl, by decide +kernel, rfl, by decide +kernel, by decide +kernel⟩
theorem ca_q_apart0 {K : PySem.W.Frag} {mg : Str → Option Value} {f : Addr} {fd : FuncData} (F : FnP K ("_law_apart" : Str) ("_law_apart" : Str) st_q_apart [] f fd) : CallOk ⟨K, mg⟩ fd i_q_apart.ps 3 [] (asmF i_q_apart 3 []) :=
  callOk0 F rfl rfl fun _ _ _ _ _ _ us ws h1 h2 => match us, ws, h1, h2 with | [_, _, _], [], _, _ => rfl
abbrev st_q_sizes : Stmt := top 39
noncomputable def i_q_sizes : FnI := ⟨("_law_sizes" : Str), R.ps_q_sizes, [], true, R.F_q_sizes, [(1, [])]⟩
noncomputable def ct_q_sizes : Ct := ⟨R.n_q_sizes, defScope st_q_sizes, none, [i_q_whole], [], [("int" : Str)], false, [], [], [], [], [], []⟩
theorem ev_q_sizes : evBody ct_q_sizes (defBody st_q_sizes) = some R.b_q_sizes := by kernel_rfl
theorem sc_q_sizes : FnScope R.n_q_sizes R.ps_q_sizes (defScope st_q_sizes) := ⟨rfl, rfl, rfl, by decide +kernel, rfl, by decide +kernel, by decide +kernel⟩
theorem ca_q_sizes0 {K : PySem.W.Frag} {mg : Str → Option Value} {f : Addr} {fd : FuncData} (F : FnP K ("_law_sizes" : Str) ("_law_sizes" : Str) st_q_sizes [] f fd) : CallOk ⟨K, mg⟩ fd i_q_sizes.ps 1 [] (asmF i_q_sizes 1 []) :=
  callOk0 F rfl rfl fun _ _ _ _ _ _ us ws h1 h2 => match us, ws, h1, h2 with | [_], [], _, _ => rfl
abbrev st_q_rests : Stmt := top 40
noncomputable def i_q_rests : FnI := ⟨("_law_rests" : Str), R.ps_q_rests, [], false, R.F_q_rests, [(2, [])]⟩
noncomputable def ct_q_rests : Ct := ⟨R.n_q_rests, defScope st_q_rests, none, [i_q_take, i_q_sizes], [], [("int" : Str), ("len" : Str), ("tuple" : Str)], false, [("_law_found" : Str)], [], [], [], [], []⟩
theorem ev_q_rests : evBody ct_q_rests (defBody st_q_rests) = some R.b_q_rests := by kernel_rfl
theorem sc_q_rests : FnScope R.n_q_rests R.ps_q_rests (defScope st_q_rests) := ⟨rfl, rfl, rfl, by decide +kernel, rfl, by decide +kernel, by decide +kernel⟩
theorem ca_q_rests0 {K : PySem.W.Frag} {mg : Str → Option Value} {f : Addr} {fd : FuncData} (F : FnP K ("_law_rests" : Str) ("_law_rests" : Str) st_q_rests [] f fd) : CallOk ⟨K, mg⟩ fd i_q_rests.ps 2 [] (asmF i_q_rests 2 []) :=
  callOk0 F rfl rfl fun _ _ _ _ _ _ us ws h1 h2 => match us, ws, h1, h2 with | [_, _], [], _, _ => rfl
abbrev st_House_span : Stmt := (clsB (top 28)).getD 7 (.Pass ⟨0, 0, 0, 0⟩)
noncomputable def i_House_span : FnI := ⟨("House.span" : Str), R.ps_House_span, [], true, R.F_House_span, [(1, [])]⟩
noncomputable def j_House_span : MtI := ⟨("House" : Str), ("span" : Str), i_House_span⟩
noncomputable def ct_House_span : Ct := ⟨R.n_House_span, defScope st_House_span, none, [], [], [("len" : Str)], false, [], [(("way" : Str), [("House" : Str)]), (("shares" : Str), [("House" : Str)])], [j_House_sizes], [], [], []⟩
theorem ev_House_span : evBody ct_House_span (defBody st_House_span) = some R.b_House_span := by kernel_rfl
theorem sc_House_span : FnScope R.n_House_span R.ps_House_span (defScope st_House_span) := ⟨rfl, rfl, rfl, by decide +kernel, rfl, by decide +kernel, by decide +kernel⟩
theorem ca_House_span0 {K : PySem.W.Frag} {mg : Str → Option Value} {f : Addr} {fd : FuncData} (F : FnP K ("span" : Str) ("House.span" : Str) st_House_span [] f fd) : CallOk ⟨K, mg⟩ fd i_House_span.ps 1 [] (asmF i_House_span 1 []) :=
  callOk0 F rfl rfl fun _ _ _ _ _ _ us ws h1 h2 => match us, ws, h1, h2 with | [_], [], _, _ => rfl
abbrev st_House_stride : Stmt := (clsB (top 28)).getD 6 (.Pass ⟨0, 0, 0, 0⟩)
noncomputable def i_House_stride : FnI := ⟨("House.stride" : Str), R.ps_House_stride, [], true, R.F_House_stride, [(1, [])]⟩
noncomputable def j_House_stride : MtI := ⟨("House" : Str), ("stride" : Str), i_House_stride⟩
noncomputable def ct_House_stride : Ct := ⟨R.n_House_stride, defScope st_House_stride, none, [], [], [("int" : Str)], false, [], [(("coin" : Str), [("House" : Str)]), (("rule" : Str), [("House" : Str)])], [j_House_whole], [], [], []⟩
theorem ev_House_stride : evBody ct_House_stride (defBody st_House_stride) = some R.b_House_stride := by kernel_rfl
theorem sc_House_stride : FnScope R.n_House_stride R.ps_House_stride (defScope st_House_stride) := ⟨rfl, rfl, rfl, by decide +kernel, rfl, by decide +kernel, by decide +kernel⟩
theorem ca_House_stride0 {K : PySem.W.Frag} {mg : Str → Option Value} {f : Addr} {fd : FuncData} (F : FnP K ("stride" : Str) ("House.stride" : Str) st_House_stride [] f fd) : CallOk ⟨K, mg⟩ fd i_House_stride.ps 1 [] (asmF i_House_stride 1 []) :=
  callOk0 F rfl rfl fun _ _ _ _ _ _ us ws h1 h2 => match us, ws, h1, h2 with | [_], [], _, _ => rfl
abbrev st_the_law : Stmt := top 43
noncomputable def i_the_law : FnI := ⟨("law" : Str), K10.ps_the_law, [], false, K10.F_the_law, []⟩
noncomputable def ct_the_law : Ct := ⟨K10.n_the_law, defScope st_the_law, none, [i_q_bag, i_q_house, i_q_whole, i_q_made, i_q_spanned, i_q_apart, i_q_rests], [], [("int" : Str), ("len" : Str), ("max" : Str), ("min" : Str), ("range" : Str)], false, [], [], [j_House_span, j_House_stride, j_House_first], [], [], []⟩
theorem ev_the_law : evBody ct_the_law (defBody st_the_law) = some K10.b_the_law := by kernel_rfl
theorem sc_the_law : FnScope K10.n_the_law K10.ps_the_law (defScope st_the_law) := ⟨rfl, rfl, rfl, by decide +kernel, rfl, by decide +kernel, by decide +kernel⟩
structure Fns (P : Program) (w : World) (K : PySem.W.Frag) (mg : Str → Option Value) : Prop where
  d_q_bag : ∃ f fd, mg ("_law_bag" : Str) = some (.ref f) ∧ FnP K ("_law_bag" : Str) ("_law_bag" : Str) st_q_bag [] f fd
  d_q_take : ∃ f fd, mg ("_law_take" : Str) = some (.ref f) ∧ FnP K ("_law_take" : Str) ("_law_take" : Str) st_q_take [] f fd
  d_q_gcd : ∃ f fd, mg ("_law_gcd" : Str) = some (.ref f) ∧ FnP K ("_law_gcd" : Str) ("_law_gcd" : Str) st_q_gcd [] f fd
  d_q_shares : ∃ f fd, mg ("_law_shares" : Str) = some (.ref f) ∧ FnP K ("_law_shares" : Str) ("_law_shares" : Str) st_q_shares [] f fd
  d_q_house : ∃ f fd, mg ("_law_house" : Str) = some (.ref f) ∧ FnP K ("_law_house" : Str) ("_law_house" : Str) st_q_house [] f fd
  d_q_whole : ∃ f fd, mg ("_law_whole" : Str) = some (.ref f) ∧ FnP K ("_law_whole" : Str) ("_law_whole" : Str) st_q_whole [] f fd
  d_is_name : ∃ f fd, mg ("is_name" : Str) = some (.ref f) ∧ FnP K ("is_name" : Str) ("is_name" : Str) st_is_name [] f fd
  d_is_whole : ∃ f fd, mg ("is_whole" : Str) = some (.ref f) ∧ FnP K ("is_whole" : Str) ("is_whole" : Str) st_is_whole [] f fd
  d_common : ∃ f fd, mg ("common" : Str) = some (.ref f) ∧ FnP K ("common" : Str) ("common" : Str) st_common [] f fd
  d_is_ratio : ∃ f fd, mg ("is_ratio" : Str) = some (.ref f) ∧ FnP K ("is_ratio" : Str) ("is_ratio" : Str) st_is_ratio [] f fd
  d_is_share : ∃ f fd, mg ("is_share" : Str) = some (.ref f) ∧ FnP K ("is_share" : Str) ("is_share" : Str) st_is_share [] f fd
  d_common_multiple : ∃ f fd, mg ("common_multiple" : Str) = some (.ref f) ∧ FnP K ("common_multiple" : Str) ("common_multiple" : Str) st_common_multiple [] f fd
  d_are_shares : ∃ f fd, mg ("are_shares" : Str) = some (.ref f) ∧ FnP K ("are_shares" : Str) ("are_shares" : Str) st_are_shares [] f fd
  d_q_made : ∃ f fd, mg ("_law_made" : Str) = some (.ref f) ∧ FnP K ("_law_made" : Str) ("_law_made" : Str) st_q_made [] f fd
  d_q_spanned : ∃ f fd, mg ("_law_spanned" : Str) = some (.ref f) ∧ FnP K ("_law_spanned" : Str) ("_law_spanned" : Str) st_q_spanned [] f fd
  d_q_wide : ∃ f fd, mg ("_law_wide" : Str) = some (.ref f) ∧ FnP K ("_law_wide" : Str) ("_law_wide" : Str) st_q_wide [] f fd
  d_q_total : ∃ f fd, mg ("_law_total" : Str) = some (.ref f) ∧ FnP K ("_law_total" : Str) ("_law_total" : Str) st_q_total [] f fd
  d_many_coins : ∃ f fd, mg ("many_coins" : Str) = some (.ref f) ∧ FnP K ("many_coins" : Str) ("many_coins" : Str) st_many_coins [] f fd
  d_by_drop : ∃ f fd, mg ("by_drop" : Str) = some (.ref f) ∧ FnP K ("by_drop" : Str) ("by_drop" : Str) st_by_drop [] f fd
  d_by_keep : ∃ f fd, mg ("by_keep" : Str) = some (.ref f) ∧ FnP K ("by_keep" : Str) ("by_keep" : Str) st_by_keep [] f fd
  d_by_hand : ∃ f fd, mg ("by_hand" : Str) = some (.ref f) ∧ FnP K ("by_hand" : Str) ("by_hand" : Str) st_by_hand [] f fd
  d_by_turn : ∃ f fd, mg ("by_turn" : Str) = some (.ref f) ∧ FnP K ("by_turn" : Str) ("by_turn" : Str) st_by_turn [] f fd
  d_may_be_left : ∃ f fd, mg ("may_be_left" : Str) = some (.ref f) ∧ FnP K ("may_be_left" : Str) ("may_be_left" : Str) st_may_be_left [] f fd
  d_q_apart : ∃ f fd, mg ("_law_apart" : Str) = some (.ref f) ∧ FnP K ("_law_apart" : Str) ("_law_apart" : Str) st_q_apart [] f fd
  d_q_sizes : ∃ f fd, mg ("_law_sizes" : Str) = some (.ref f) ∧ FnP K ("_law_sizes" : Str) ("_law_sizes" : Str) st_q_sizes [] f fd
  d_q_rests : ∃ f fd, mg ("_law_rests" : Str) = some (.ref f) ∧ FnP K ("_law_rests" : Str) ("_law_rests" : Str) st_q_rests [] f fd
  d_the_law : ∃ f fd, mg ("law" : Str) = some (.ref f) ∧ FnP K ("law" : Str) ("law" : Str) st_the_law [] f fd
  g_abs : mg ("abs" : Str) = none
  g_all : mg ("all" : Str) = none
  g_bool : mg ("bool" : Str) = none
  g_divmod : mg ("divmod" : Str) = none
  g_int : mg ("int" : Str) = none
  g_isinstance : mg ("isinstance" : Str) = none
  g_len : mg ("len" : Str) = none
  g_max : mg ("max" : Str) = none
  g_min : mg ("min" : Str) = none
  g_range : mg ("range" : Str) = none
  g_str : mg ("str" : Str) = none
  g_sum : mg ("sum" : Str) = none
  g_tuple : mg ("tuple" : Str) = none
  g_zip : mg ("zip" : Str) = none
  t_DEEDS : TabG w K mg (("DEEDS" : Str), [(("drop" : Str), ("by_drop" : Str)), (("keep" : Str), ("by_keep" : Str)), (("hand" : Str), ("by_hand" : Str)), (("turn" : Str), ("by_turn" : Str))])
  x_NoRests : ExcG K mg ("NoRests" : Str)
  v_LETTERS : ∃ u v, mg ("LETTERS" : Str) = some u ∧ RelV v u ∧ Stat ⟨K, mg⟩ (.str ("abcdefghijklmnopqrstuvwxyz" : Str)) v
  v_MOST_COIN : ∃ u v, mg ("MOST_COIN" : Str) = some u ∧ RelV v u ∧ Stat ⟨K, mg⟩ (.int 12) v
  v_MOST_LETTERS : ∃ u v, mg ("MOST_LETTERS" : Str) = some u ∧ RelV v u ∧ Stat ⟨K, mg⟩ (.int 8) v
  v_MOST_SHARES : ∃ u v, mg ("MOST_SHARES" : Str) = some u ∧ RelV v u ∧ Stat ⟨K, mg⟩ (.int 4) v
  v_MOST_UNDER : ∃ u v, mg ("MOST_UNDER" : Str) = some u ∧ RelV v u ∧ Stat ⟨K, mg⟩ (.int 12) v
  v_RULES : ∃ u v, mg ("RULES" : Str) = some u ∧ RelV v u ∧ Stat ⟨K, mg⟩ (.tup [(.str ("down" : Str)), (.str ("up" : Str)), (.str ("upper" : Str)), (.str ("lower" : Str)), (.str ("even" : Str))]) v
  v_WAYS : ∃ u v, mg ("WAYS" : Str) = some u ∧ RelV v u ∧ Stat ⟨K, mg⟩ (.tup [(.str ("drop" : Str)), (.str ("keep" : Str)), (.str ("hand" : Str)), (.str ("turn" : Str))]) v
  c_House : ∃ C, mg ("House" : Str) = some (.ref C) ∧ Cls K C ∧ NoAttr K C ("coin" : Str) ∧ NoAttr K C ("name" : Str) ∧ NoAttr K C ("rule" : Str) ∧ NoAttr K C ("shares" : Str) ∧ NoAttr K C ("way" : Str) ∧ (∃ f fd, Meth K C ("whole" : Str) f ∧ FnP K ("whole" : Str) ("House.whole" : Str) st_House_whole [] f fd) ∧ (∃ f fd, Meth K C ("sizes" : Str) f ∧ FnP K ("sizes" : Str) ("House.sizes" : Str) st_House_sizes [] f fd) ∧ (∃ f fd, Meth K C ("first" : Str) f ∧ FnP K ("first" : Str) ("House.first" : Str) st_House_first [] f fd) ∧ (∃ f fd, Meth K C ("are_rests" : Str) f ∧ FnP K ("are_rests" : Str) ("House.are_rests" : Str) st_House_are_rests [] f fd) ∧ (∃ f fd, Meth K C ("pass_on" : Str) f ∧ FnP K ("pass_on" : Str) ("House.pass_on" : Str) st_House_pass_on [] f fd) ∧ (∃ f fd, Meth K C ("span" : Str) f ∧ FnP K ("span" : Str) ("House.span" : Str) st_House_span [] f fd) ∧ (∃ f fd, Meth K C ("stride" : Str) f ∧ FnP K ("stride" : Str) ("House.stride" : Str) st_House_stride [] f fd) ∧ (∃ f fd, Mk K C f ∧ FnP K ("__init__" : Str) ("House.__init__" : Str) st_House___init__ [(("coin" : Str), V.int 1), (("rule" : Str), V.str ("down" : Str)), (("way" : Str), V.str ("drop" : Str))] f fd)
section
variable {P : Program} {w : World} {K : PySem.W.Frag} {mg : Str → Option Value} {base : Heap}
theorem fo_House_coin (Z : Fns P w K mg) : FldOk ⟨K, mg⟩ ("House" : Str) ("coin" : Str) := fun C hC => by
  obtain ⟨C2, e, hc, x_coin, x_name, x_rule, x_shares, x_way, m_House_whole, m_House_sizes, m_House_first, m_House_are_rests, m_House_pass_on, m_House_span, m_House_stride, m_House___init__⟩ := Z.c_House
  have e2 : some (Value.ref C) = some (Value.ref C2) := hC.symm.trans e
  cases e2
  exact ⟨hc, x_coin⟩
theorem fo_House_name (Z : Fns P w K mg) : FldOk ⟨K, mg⟩ ("House" : Str) ("name" : Str) := fun C hC => by
  obtain ⟨C2, e, hc, x_coin, x_name, x_rule, x_shares, x_way, m_House_whole, m_House_sizes, m_House_first, m_House_are_rests, m_House_pass_on, m_House_span, m_House_stride, m_House___init__⟩ := Z.c_House
  have e2 : some (Value.ref C) = some (Value.ref C2) := hC.symm.trans e
  cases e2
  exact ⟨hc, x_name⟩
theorem fo_House_rule (Z : Fns P w K mg) : FldOk ⟨K, mg⟩ ("House" : Str) ("rule" : Str) := fun C hC => by
  obtain ⟨C2, e, hc, x_coin, x_name, x_rule, x_shares, x_way, m_House_whole, m_House_sizes, m_House_first, m_House_are_rests, m_House_pass_on, m_House_span, m_House_stride, m_House___init__⟩ := Z.c_House
  have e2 : some (Value.ref C) = some (Value.ref C2) := hC.symm.trans e
  cases e2
  exact ⟨hc, x_rule⟩
theorem fo_House_shares (Z : Fns P w K mg) : FldOk ⟨K, mg⟩ ("House" : Str) ("shares" : Str) := fun C hC => by
  obtain ⟨C2, e, hc, x_coin, x_name, x_rule, x_shares, x_way, m_House_whole, m_House_sizes, m_House_first, m_House_are_rests, m_House_pass_on, m_House_span, m_House_stride, m_House___init__⟩ := Z.c_House
  have e2 : some (Value.ref C) = some (Value.ref C2) := hC.symm.trans e
  cases e2
  exact ⟨hc, x_shares⟩
theorem fo_House_way (Z : Fns P w K mg) : FldOk ⟨K, mg⟩ ("House" : Str) ("way" : Str) := fun C hC => by
  obtain ⟨C2, e, hc, x_coin, x_name, x_rule, x_shares, x_way, m_House_whole, m_House_sizes, m_House_first, m_House_are_rests, m_House_pass_on, m_House_span, m_House_stride, m_House___init__⟩ := Z.c_House
  have e2 : some (Value.ref C) = some (Value.ref C2) := hC.symm.trans e
  cases e2
  exact ⟨hc, x_way⟩
theorem ok_q_bag (Z : Fns P w K mg) : DefsG P w K mg base 1 i_q_bag := by
  obtain ⟨f, fd, hm, F⟩ := Z.d_q_bag
  exact def_ok (ct := ct_q_bag) F sc_q_bag rfl rfl ev_q_bag rfl hm (allC (ca_q_bag0 F) allN) allN allN (allC Z.g_abs (allC Z.g_int (allC Z.g_len allN))) allN allN allN allN allN
theorem ok_q_take (Z : Fns P w K mg) : DefsG P w K mg base 1 i_q_take := by
  obtain ⟨f, fd, hm, F⟩ := Z.d_q_take
  exact def_ok (ct := ct_q_take) F sc_q_take rfl rfl ev_q_take rfl hm (allC (ca_q_take0 F) allN) allN allN allN allN allN allN allN allN
theorem ok_q_gcd (Z : Fns P w K mg) : DefsG P w K mg base 1 i_q_gcd := by
  obtain ⟨f, fd, hm, F⟩ := Z.d_q_gcd
  exact def_ok (ct := ct_q_gcd) F sc_q_gcd rfl rfl ev_q_gcd rfl hm (allC (ca_q_gcd0 F) allN) allN allN allN allN allN allN allN allN
theorem ok_q_shares (Z : Fns P w K mg) : DefsG P w K mg base 2 i_q_shares := by
  obtain ⟨f, fd, hm, F⟩ := Z.d_q_shares
  exact def_ok (ct := ct_q_shares) F sc_q_shares rfl rfl ev_q_shares rfl hm (allC (ca_q_shares0 F) allN) (allC ((ok_q_take Z).mono (by decide)) (allC ((ok_q_gcd Z).mono (by decide)) allN)) allN (allC Z.g_tuple allN) allN allN allN allN allN
theorem ok_q_house (Z : Fns P w K mg) : DefsG P w K mg base 3 i_q_house := by
  obtain ⟨f, fd, hm, F⟩ := Z.d_q_house
  exact def_ok (ct := ct_q_house) F sc_q_house rfl rfl ev_q_house rfl hm (allC (ca_q_house0 F) allN) (allC ((ok_q_shares Z).mono (by decide)) (allC ((ok_q_take Z).mono (by decide)) allN)) allN allN allN allN allN allN allN
theorem ok_q_whole (Z : Fns P w K mg) : DefsG P w K mg base 2 i_q_whole := by
  obtain ⟨f, fd, hm, F⟩ := Z.d_q_whole
  exact def_ok (ct := ct_q_whole) F sc_q_whole rfl rfl ev_q_whole rfl hm (allC (ca_q_whole0 F) allN) (allC ((ok_q_gcd Z).mono (by decide)) allN) allN allN allN allN allN allN allN
theorem ok_is_name (Z : Fns P w K mg) : DefsG P w K mg base 1 i_is_name := by
  obtain ⟨f, fd, hm, F⟩ := Z.d_is_name
  exact def_ok (ct := ct_is_name) F sc_is_name rfl rfl ev_is_name rfl hm (allC (ca_is_name0 F) allN) allN (allC Z.v_MOST_LETTERS (allC Z.v_LETTERS allN)) (allC Z.g_all (allC Z.g_isinstance (allC Z.g_len (allC Z.g_str allN)))) allN allN allN allN allN
theorem ok_is_whole (Z : Fns P w K mg) : DefsG P w K mg base 1 i_is_whole := by
  obtain ⟨f, fd, hm, F⟩ := Z.d_is_whole
  exact def_ok (ct := ct_is_whole) F sc_is_whole rfl rfl ev_is_whole rfl hm (allC (ca_is_whole0 F) allN) allN allN (allC Z.g_bool (allC Z.g_int (allC Z.g_isinstance allN))) allN allN allN allN allN
theorem ok_common (Z : Fns P w K mg) : DefsG P w K mg base 1 i_common := by
  obtain ⟨f, fd, hm, F⟩ := Z.d_common
  exact def_ok (ct := ct_common) F sc_common rfl rfl ev_common rfl hm (allC (ca_common0 F) allN) allN allN allN allN allN allN allN allN
theorem ok_is_ratio (Z : Fns P w K mg) : DefsG P w K mg base 2 i_is_ratio := by
  obtain ⟨f, fd, hm, F⟩ := Z.d_is_ratio
  exact def_ok (ct := ct_is_ratio) F sc_is_ratio rfl rfl ev_is_ratio rfl hm (allC (ca_is_ratio0 F) allN) (allC ((ok_is_whole Z).mono (by decide)) (allC ((ok_common Z).mono (by decide)) allN)) allN (allC Z.g_abs (allC Z.g_all (allC Z.g_isinstance (allC Z.g_len (allC Z.g_tuple allN))))) allN allN allN allN allN
theorem ok_is_share (Z : Fns P w K mg) : DefsG P w K mg base 3 i_is_share := by
  obtain ⟨f, fd, hm, F⟩ := Z.d_is_share
  exact def_ok (ct := ct_is_share) F sc_is_share rfl rfl ev_is_share rfl hm (allC (ca_is_share0 F) allN) (allC ((ok_is_ratio Z).mono (by decide)) (allC ((ok_is_name Z).mono (by decide)) allN)) (allC Z.v_MOST_UNDER allN) (allC Z.g_isinstance (allC Z.g_len (allC Z.g_tuple allN))) allN allN allN allN allN
theorem ok_common_multiple (Z : Fns P w K mg) : DefsG P w K mg base 2 i_common_multiple := by
  obtain ⟨f, fd, hm, F⟩ := Z.d_common_multiple
  exact def_ok (ct := ct_common_multiple) F sc_common_multiple rfl rfl ev_common_multiple rfl hm (allC (ca_common_multiple0 F) allN) (allC ((ok_common Z).mono (by decide)) allN) allN allN allN allN allN allN allN
theorem ok_are_shares (Z : Fns P w K mg) : DefsG P w K mg base 4 i_are_shares := by
  obtain ⟨f, fd, hm, F⟩ := Z.d_are_shares
  exact def_ok (ct := ct_are_shares) F sc_are_shares rfl rfl ev_are_shares rfl hm (allC (ca_are_shares0 F) allN) (allC ((ok_is_share Z).mono (by decide)) (allC ((ok_common_multiple Z).mono (by decide)) allN)) (allC Z.v_MOST_SHARES allN) (allC Z.g_all (allC Z.g_isinstance (allC Z.g_len (allC Z.g_sum (allC Z.g_tuple allN))))) allN allN allN allN allN
theorem ok_House___init__ (Z : Fns P w K mg) : MakeG P w K mg base 6 i_House___init__ := by
  obtain ⟨C, hC, hc, x_coin, x_name, x_rule, x_shares, x_way, m_House_whole, m_House_sizes, m_House_first, m_House_are_rests, m_House_pass_on, m_House_span, m_House_stride, m_House___init__⟩ := Z.c_House
  obtain ⟨f, fd, hM, F⟩ := m_House___init__
  exact make_def (ct := ct_House___init__) F sc_House___init__ rfl rfl ev_House___init__ rfl hC hM (allC (ca_House___init__0 F) allN) (allC ((ok_is_name Z).mono (by decide)) (allC ((ok_are_shares Z).mono (by decide)) (allC ((ok_is_whole Z).mono (by decide)) allN))) (allC Z.v_MOST_COIN (allC Z.v_RULES (allC Z.v_WAYS allN))) (allC Z.g_isinstance (allC Z.g_str allN)) (allC (allC (fo_House_name Z) allN) (allC (allC (fo_House_shares Z) allN) (allC (allC (fo_House_coin Z) allN) (allC (allC (fo_House_rule Z) allN) (allC (allC (fo_House_way Z) allN) allN))))) allN allN allN allN
theorem ok_q_made (Z : Fns P w K mg) : DefsG P w K mg base 7 i_q_made := by
  obtain ⟨f, fd, hm, F⟩ := Z.d_q_made
  exact def_ok (ct := ct_q_made) F sc_q_made rfl rfl ev_q_made rfl hm (allC (ca_q_made0 F) allN) allN allN allN allN allN (allC ((ok_House___init__ Z).mono (by decide)) allN) allN allN
theorem ok_q_spanned (Z : Fns P w K mg) : DefsG P w K mg base 3 i_q_spanned := by
  obtain ⟨f, fd, hm, F⟩ := Z.d_q_spanned
  exact def_ok (ct := ct_q_spanned) F sc_q_spanned rfl rfl ev_q_spanned rfl hm (allC (ca_q_spanned0 F) allN) (allC ((ok_q_whole Z).mono (by decide)) allN) allN (allC Z.g_len allN) allN allN allN allN allN
theorem ok_q_wide (Z : Fns P w K mg) : DefsG P w K mg base 2 i_q_wide := by
  obtain ⟨f, fd, hm, F⟩ := Z.d_q_wide
  exact def_ok (ct := ct_q_wide) F sc_q_wide rfl rfl ev_q_wide rfl hm (allC (ca_q_wide0 F) allN) (allC ((ok_q_take Z).mono (by decide)) allN) allN (allC Z.g_range allN) allN allN allN allN allN
theorem ok_q_total (Z : Fns P w K mg) : DefsG P w K mg base 3 i_q_total := by
  obtain ⟨f, fd, hm, F⟩ := Z.d_q_total
  exact def_ok (ct := ct_q_total) F sc_q_total rfl rfl ev_q_total rfl hm (allC (ca_q_total0 F) allN) (allC ((ok_q_take Z).mono (by decide)) (allC ((ok_q_wide Z).mono (by decide)) allN)) allN allN allN allN allN allN allN
theorem ok_many_coins (Z : Fns P w K mg) : DefsG P w K mg base 1 i_many_coins := by
  obtain ⟨f, fd, hm, F⟩ := Z.d_many_coins
  exact def_ok (ct := ct_many_coins) F sc_many_coins rfl rfl ev_many_coins rfl hm (allC (ca_many_coins0 F) allN) allN allN (allC Z.g_divmod (allC Z.g_int allN)) allN allN allN allN allN
theorem ok_by_drop (Z : Fns P w K mg) : DefsG P w K mg base 2 i_by_drop := by
  obtain ⟨f, fd, hm, F⟩ := Z.d_by_drop
  exact def_ok (ct := ct_by_drop) F sc_by_drop rfl rfl ev_by_drop rfl hm (allC (ca_by_drop0 F) allN) (allC ((ok_many_coins Z).mono (by decide)) allN) allN allN (allC (allC (fo_House_shares Z) allN) (allC (allC (fo_House_rule Z) allN) (allC (allC (fo_House_coin Z) allN) allN))) allN allN allN allN
theorem ok_by_keep (Z : Fns P w K mg) : DefsG P w K mg base 2 i_by_keep := by
  obtain ⟨f, fd, hm, F⟩ := Z.d_by_keep
  exact def_ok (ct := ct_by_keep) F sc_by_keep rfl rfl ev_by_keep rfl hm (allC (ca_by_keep0 F) allN) (allC ((ok_many_coins Z).mono (by decide)) allN) allN (allC Z.g_tuple (allC Z.g_zip allN)) (allC (allC (fo_House_shares Z) allN) (allC (allC (fo_House_coin Z) allN) (allC (allC (fo_House_rule Z) allN) allN))) allN allN allN allN
theorem ok_House_whole (Z : Fns P w K mg) : MethG P w K mg base 3 j_House_whole := by
  obtain ⟨C, hC, hc, x_coin, x_name, x_rule, x_shares, x_way, m_House_whole, m_House_sizes, m_House_first, m_House_are_rests, m_House_pass_on, m_House_span, m_House_stride, m_House___init__⟩ := Z.c_House
  obtain ⟨f, fd, hM, F⟩ := m_House_whole
  exact meth_def (ct := ct_House_whole) (j := j_House_whole) F sc_House_whole rfl rfl ev_House_whole rfl hC hc hM (allC (ca_House_whole0 F) allN) (allC ((ok_common_multiple Z).mono (by decide)) allN) allN allN (allC (allC (fo_House_shares Z) allN) allN) allN allN allN allN
theorem ok_by_hand (Z : Fns P w K mg) : DefsG P w K mg base 4 i_by_hand := by
  obtain ⟨f, fd, hm, F⟩ := Z.d_by_hand
  exact def_ok (ct := ct_by_hand) F sc_by_hand rfl rfl ev_by_hand rfl hm (allC (ca_by_hand0 F) allN) (allC ((ok_many_coins Z).mono (by decide)) allN) allN allN (allC (allC (fo_House_shares Z) allN) (allC (allC (fo_House_coin Z) allN) (allC (allC (fo_House_rule Z) allN) allN))) (allC ((ok_House_whole Z).mono (by decide)) allN) allN allN allN
theorem ok_by_turn (Z : Fns P w K mg) : DefsG P w K mg base 4 i_by_turn := by
  obtain ⟨f, fd, hm, F⟩ := Z.d_by_turn
  exact def_ok (ct := ct_by_turn) F sc_by_turn rfl rfl ev_by_turn rfl hm (allC (ca_by_turn0 F) allN) (allC ((ok_many_coins Z).mono (by decide)) allN) allN (allC Z.g_len (allC Z.g_range (allC Z.g_sum allN))) (allC (allC (fo_House_shares Z) allN) (allC (allC (fo_House_coin Z) allN) (allC (allC (fo_House_rule Z) allN) allN))) (allC ((ok_House_whole Z).mono (by decide)) allN) allN allN allN
theorem ok_may_be_left (Z : Fns P w K mg) : DefsG P w K mg base 1 i_may_be_left := by
  obtain ⟨f, fd, hm, F⟩ := Z.d_may_be_left
  exact def_ok (ct := ct_may_be_left) F sc_may_be_left rfl rfl ev_may_be_left rfl hm (allC (ca_may_be_left0 F) allN) allN allN allN allN allN allN allN allN
theorem ok_House_sizes (Z : Fns P w K mg) : MethG P w K mg base 4 j_House_sizes := by
  obtain ⟨C, hC, hc, x_coin, x_name, x_rule, x_shares, x_way, m_House_whole, m_House_sizes, m_House_first, m_House_are_rests, m_House_pass_on, m_House_span, m_House_stride, m_House___init__⟩ := Z.c_House
  obtain ⟨f, fd, hM, F⟩ := m_House_sizes
  exact meth_def (ct := ct_House_sizes) (j := j_House_sizes) F sc_House_sizes rfl rfl ev_House_sizes rfl hC hc hM (allC (ca_House_sizes0 F) allN) allN allN allN (allC (allC (fo_House_way Z) allN) (allC (allC (fo_House_shares Z) allN) (allC (allC (fo_House_coin Z) allN) allN))) (allC ((ok_House_whole Z).mono (by decide)) allN) allN allN allN
theorem ok_House_first (Z : Fns P w K mg) : MethG P w K mg base 5 j_House_first := by
  obtain ⟨C, hC, hc, x_coin, x_name, x_rule, x_shares, x_way, m_House_whole, m_House_sizes, m_House_first, m_House_are_rests, m_House_pass_on, m_House_span, m_House_stride, m_House___init__⟩ := Z.c_House
  obtain ⟨f, fd, hM, F⟩ := m_House_first
  exact meth_def (ct := ct_House_first) (j := j_House_first) F sc_House_first rfl rfl ev_House_first rfl hC hc hM (allC (ca_House_first0 F) allN) allN allN (allC Z.g_tuple allN) (allC (allC (fo_House_way Z) allN) allN) (allC ((ok_House_sizes Z).mono (by decide)) allN) allN allN allN
theorem ok_House_are_rests (Z : Fns P w K mg) : MethG P w K mg base 6 j_House_are_rests := by
  obtain ⟨C, hC, hc, x_coin, x_name, x_rule, x_shares, x_way, m_House_whole, m_House_sizes, m_House_first, m_House_are_rests, m_House_pass_on, m_House_span, m_House_stride, m_House___init__⟩ := Z.c_House
  obtain ⟨f, fd, hM, F⟩ := m_House_are_rests
  exact meth_def (ct := ct_House_are_rests) (j := j_House_are_rests) F sc_House_are_rests rfl rfl ev_House_are_rests rfl hC hc hM (allC (ca_House_are_rests0 F) allN) (allC ((ok_is_whole Z).mono (by decide)) (allC ((ok_may_be_left Z).mono (by decide)) allN)) allN (allC Z.g_all (allC Z.g_isinstance (allC Z.g_len (allC Z.g_tuple (allC Z.g_zip allN))))) (allC (allC (fo_House_way Z) allN) (allC (allC (fo_House_shares Z) allN) (allC (allC (fo_House_rule Z) allN) allN))) (allC ((ok_House_first Z).mono (by decide)) (allC ((ok_House_sizes Z).mono (by decide)) allN)) allN allN allN
theorem ok_House_pass_on (Z : Fns P w K mg) : MethG P w K mg base 7 j_House_pass_on := by
  obtain ⟨C, hC, hc, x_coin, x_name, x_rule, x_shares, x_way, m_House_whole, m_House_sizes, m_House_first, m_House_are_rests, m_House_pass_on, m_House_span, m_House_stride, m_House___init__⟩ := Z.c_House
  obtain ⟨f, fd, hM, F⟩ := m_House_pass_on
  exact meth_def (ct := ct_House_pass_on) (j := j_House_pass_on) F sc_House_pass_on rfl rfl ev_House_pass_on rfl hC hc hM (allC (ca_House_pass_on0 F) allN) (allC ((ok_by_drop Z).mono (by decide)) (allC ((ok_by_keep Z).mono (by decide)) (allC ((ok_by_hand Z).mono (by decide)) (allC ((ok_by_turn Z).mono (by decide)) allN)))) allN (allC Z.g_tuple allN) (allC (allC (fo_House_way Z) allN) allN) (allC ((ok_House_are_rests Z).mono (by decide)) allN) allN (allC Z.t_DEEDS allN) (allC Z.x_NoRests allN)
theorem ok_q_apart (Z : Fns P w K mg) : DefsG P w K mg base 8 i_q_apart := by
  obtain ⟨f, fd, hm, F⟩ := Z.d_q_apart
  exact def_ok (ct := ct_q_apart) F sc_q_apart rfl rfl ev_q_apart rfl hm (allC (ca_q_apart0 F) allN) (allC ((ok_q_whole Z).mono (by decide)) (allC ((ok_q_made Z).mono (by decide)) (allC ((ok_q_take Z).mono (by decide)) (allC ((ok_q_total Z).mono (by decide)) allN)))) allN (allC Z.g_int (allC Z.g_range (allC Z.g_zip allN))) allN (allC ((ok_House_pass_on Z).mono (by decide)) allN) allN allN allN
theorem ok_q_sizes (Z : Fns P w K mg) : DefsG P w K mg base 3 i_q_sizes := by
  obtain ⟨f, fd, hm, F⟩ := Z.d_q_sizes
  exact def_ok (ct := ct_q_sizes) F sc_q_sizes rfl rfl ev_q_sizes rfl hm (allC (ca_q_sizes0 F) allN) (allC ((ok_q_whole Z).mono (by decide)) allN) allN (allC Z.g_int allN) allN allN allN allN allN
theorem ok_q_rests (Z : Fns P w K mg) : DefsG P w K mg base 4 i_q_rests := by
  obtain ⟨f, fd, hm, F⟩ := Z.d_q_rests
  exact def_ok (ct := ct_q_rests) F sc_q_rests rfl rfl ev_q_rests rfl hm (allC (ca_q_rests0 F) allN) (allC ((ok_q_take Z).mono (by decide)) (allC ((ok_q_sizes Z).mono (by decide)) allN)) allN (allC Z.g_int (allC Z.g_len (allC Z.g_tuple allN))) allN allN allN allN allN
theorem ok_House_span (Z : Fns P w K mg) : MethG P w K mg base 5 j_House_span := by
  obtain ⟨C, hC, hc, x_coin, x_name, x_rule, x_shares, x_way, m_House_whole, m_House_sizes, m_House_first, m_House_are_rests, m_House_pass_on, m_House_span, m_House_stride, m_House___init__⟩ := Z.c_House
  obtain ⟨f, fd, hM, F⟩ := m_House_span
  exact meth_def (ct := ct_House_span) (j := j_House_span) F sc_House_span rfl rfl ev_House_span rfl hC hc hM (allC (ca_House_span0 F) allN) allN allN (allC Z.g_len allN) (allC (allC (fo_House_way Z) allN) (allC (allC (fo_House_shares Z) allN) allN)) (allC ((ok_House_sizes Z).mono (by decide)) allN) allN allN allN
theorem ok_House_stride (Z : Fns P w K mg) : MethG P w K mg base 4 j_House_stride := by
  obtain ⟨C, hC, hc, x_coin, x_name, x_rule, x_shares, x_way, m_House_whole, m_House_sizes, m_House_first, m_House_are_rests, m_House_pass_on, m_House_span, m_House_stride, m_House___init__⟩ := Z.c_House
  obtain ⟨f, fd, hM, F⟩ := m_House_stride
  exact meth_def (ct := ct_House_stride) (j := j_House_stride) F sc_House_stride rfl rfl ev_House_stride rfl hC hc hM (allC (ca_House_stride0 F) allN) allN allN (allC Z.g_int allN) (allC (allC (fo_House_coin Z) allN) (allC (allC (fo_House_rule Z) allN) allN)) (allC ((ok_House_whole Z).mono (by decide)) allN) allN allN allN
theorem ok_law (Z : Fns P w K mg) {f : Addr} {fd : FuncData} (F : FnP K "law" "law" st_the_law [] f fd) : FnG P w K mg base 9 f fd K10.ps_the_law (spF ⟨K, mg⟩ 1 K10.F_the_law) := by
  exact fn_ok (ct := ct_the_law) (ps := K10.ps_the_law) F sc_the_law rfl rfl ev_the_law (allC ((ok_q_bag Z).mono (by decide)) (allC ((ok_q_house Z).mono (by decide)) (allC ((ok_q_whole Z).mono (by decide)) (allC ((ok_q_made Z).mono (by decide)) (allC ((ok_q_spanned Z).mono (by decide)) (allC ((ok_q_apart Z).mono (by decide)) (allC ((ok_q_rests Z).mono (by decide)) allN))))))) allN (allC Z.g_int (allC Z.g_len (allC Z.g_max (allC Z.g_min (allC Z.g_range allN))))) allN (allC ((ok_House_span Z).mono (by decide)) (allC ((ok_House_stride Z).mono (by decide)) (allC ((ok_House_first Z).mono (by decide)) allN))) allN allN allN
end
def dd_q_bag : He.DefD := ⟨(("_law_bag" : Str), none), ("_law_bag" : Str), ("_law_bag" : Str), defArgs st_q_bag, defBody st_q_bag, defScope st_q_bag, [], []⟩
def dd_q_take : He.DefD := ⟨(("_law_take" : Str), none), ("_law_take" : Str), ("_law_take" : Str), defArgs st_q_take, defBody st_q_take, defScope st_q_take, [], []⟩
def dd_q_gcd : He.DefD := ⟨(("_law_gcd" : Str), none), ("_law_gcd" : Str), ("_law_gcd" : Str), defArgs st_q_gcd, defBody st_q_gcd, defScope st_q_gcd, [], []⟩
def dd_q_shares : He.DefD := ⟨(("_law_shares" : Str), none), ("_law_shares" : Str), ("_law_shares" : Str), defArgs st_q_shares, defBody st_q_shares, defScope st_q_shares, [], []⟩
def dd_q_house : He.DefD := ⟨(("_law_house" : Str), none), ("_law_house" : Str), ("_law_house" : Str), defArgs st_q_house, defBody st_q_house, defScope st_q_house, [], []⟩
def dd_q_whole : He.DefD := ⟨(("_law_whole" : Str), none), ("_law_whole" : Str), ("_law_whole" : Str), defArgs st_q_whole, defBody st_q_whole, defScope st_q_whole, [], []⟩
def dd_is_name : He.DefD := ⟨(("is_name" : Str), none), ("is_name" : Str), ("is_name" : Str), defArgs st_is_name, defBody st_is_name, defScope st_is_name, [], []⟩
def dd_is_whole : He.DefD := ⟨(("is_whole" : Str), none), ("is_whole" : Str), ("is_whole" : Str), defArgs st_is_whole, defBody st_is_whole, defScope st_is_whole, [], []⟩
def dd_common : He.DefD := ⟨(("common" : Str), none), ("common" : Str), ("common" : Str), defArgs st_common, defBody st_common, defScope st_common, [], []⟩
def dd_is_ratio : He.DefD := ⟨(("is_ratio" : Str), none), ("is_ratio" : Str), ("is_ratio" : Str), defArgs st_is_ratio, defBody st_is_ratio, defScope st_is_ratio, [], []⟩
def dd_is_share : He.DefD := ⟨(("is_share" : Str), none), ("is_share" : Str), ("is_share" : Str), defArgs st_is_share, defBody st_is_share, defScope st_is_share, [], []⟩
def dd_common_multiple : He.DefD := ⟨(("common_multiple" : Str), none), ("common_multiple" : Str), ("common_multiple" : Str), defArgs st_common_multiple, defBody st_common_multiple, defScope st_common_multiple, [], []⟩
def dd_are_shares : He.DefD := ⟨(("are_shares" : Str), none), ("are_shares" : Str), ("are_shares" : Str), defArgs st_are_shares, defBody st_are_shares, defScope st_are_shares, [], []⟩
def dd_House___init__ : He.DefD := ⟨(("House" : Str), some ("__init__" : Str)), ("__init__" : Str), ("House.__init__" : Str), defArgs st_House___init__, defBody st_House___init__, defScope st_House___init__, [], [(("coin" : Str), .int 1), (("rule" : Str), .str ("down" : Str)), (("way" : Str), .str ("drop" : Str))]⟩
def dd_q_made : He.DefD := ⟨(("_law_made" : Str), none), ("_law_made" : Str), ("_law_made" : Str), defArgs st_q_made, defBody st_q_made, defScope st_q_made, [], []⟩
def dd_q_spanned : He.DefD := ⟨(("_law_spanned" : Str), none), ("_law_spanned" : Str), ("_law_spanned" : Str), defArgs st_q_spanned, defBody st_q_spanned, defScope st_q_spanned, [], []⟩
def dd_q_wide : He.DefD := ⟨(("_law_wide" : Str), none), ("_law_wide" : Str), ("_law_wide" : Str), defArgs st_q_wide, defBody st_q_wide, defScope st_q_wide, [], []⟩
def dd_q_total : He.DefD := ⟨(("_law_total" : Str), none), ("_law_total" : Str), ("_law_total" : Str), defArgs st_q_total, defBody st_q_total, defScope st_q_total, [], []⟩
def dd_many_coins : He.DefD := ⟨(("many_coins" : Str), none), ("many_coins" : Str), ("many_coins" : Str), defArgs st_many_coins, defBody st_many_coins, defScope st_many_coins, [], []⟩
def dd_by_drop : He.DefD := ⟨(("by_drop" : Str), none), ("by_drop" : Str), ("by_drop" : Str), defArgs st_by_drop, defBody st_by_drop, defScope st_by_drop, [], []⟩
def dd_by_keep : He.DefD := ⟨(("by_keep" : Str), none), ("by_keep" : Str), ("by_keep" : Str), defArgs st_by_keep, defBody st_by_keep, defScope st_by_keep, [], []⟩
def dd_House_whole : He.DefD := ⟨(("House" : Str), some ("whole" : Str)), ("whole" : Str), ("House.whole" : Str), defArgs st_House_whole, defBody st_House_whole, defScope st_House_whole, [], []⟩
def dd_by_hand : He.DefD := ⟨(("by_hand" : Str), none), ("by_hand" : Str), ("by_hand" : Str), defArgs st_by_hand, defBody st_by_hand, defScope st_by_hand, [], []⟩
def dd_by_turn : He.DefD := ⟨(("by_turn" : Str), none), ("by_turn" : Str), ("by_turn" : Str), defArgs st_by_turn, defBody st_by_turn, defScope st_by_turn, [], []⟩
def dd_may_be_left : He.DefD := ⟨(("may_be_left" : Str), none), ("may_be_left" : Str), ("may_be_left" : Str), defArgs st_may_be_left, defBody st_may_be_left, defScope st_may_be_left, [], []⟩
def dd_House_sizes : He.DefD := ⟨(("House" : Str), some ("sizes" : Str)), ("sizes" : Str), ("House.sizes" : Str), defArgs st_House_sizes, defBody st_House_sizes, defScope st_House_sizes, [], []⟩
def dd_House_first : He.DefD := ⟨(("House" : Str), some ("first" : Str)), ("first" : Str), ("House.first" : Str), defArgs st_House_first, defBody st_House_first, defScope st_House_first, [], []⟩
def dd_House_are_rests : He.DefD := ⟨(("House" : Str), some ("are_rests" : Str)), ("are_rests" : Str), ("House.are_rests" : Str), defArgs st_House_are_rests, defBody st_House_are_rests, defScope st_House_are_rests, [], []⟩
def dd_House_pass_on : He.DefD := ⟨(("House" : Str), some ("pass_on" : Str)), ("pass_on" : Str), ("House.pass_on" : Str), defArgs st_House_pass_on, defBody st_House_pass_on, defScope st_House_pass_on, [], []⟩
def dd_q_apart : He.DefD := ⟨(("_law_apart" : Str), none), ("_law_apart" : Str), ("_law_apart" : Str), defArgs st_q_apart, defBody st_q_apart, defScope st_q_apart, [], []⟩
def dd_q_sizes : He.DefD := ⟨(("_law_sizes" : Str), none), ("_law_sizes" : Str), ("_law_sizes" : Str), defArgs st_q_sizes, defBody st_q_sizes, defScope st_q_sizes, [], []⟩
def dd_q_rests : He.DefD := ⟨(("_law_rests" : Str), none), ("_law_rests" : Str), ("_law_rests" : Str), defArgs st_q_rests, defBody st_q_rests, defScope st_q_rests, [], []⟩
def dd_House_span : He.DefD := ⟨(("House" : Str), some ("span" : Str)), ("span" : Str), ("House.span" : Str), defArgs st_House_span, defBody st_House_span, defScope st_House_span, [], []⟩
def dd_House_stride : He.DefD := ⟨(("House" : Str), some ("stride" : Str)), ("stride" : Str), ("House.stride" : Str), defArgs st_House_stride, defBody st_House_stride, defScope st_House_stride, [], []⟩
def dd_the_law : He.DefD := ⟨(("law" : Str), none), ("law" : Str), ("law" : Str), defArgs st_the_law, defBody st_the_law, defScope st_the_law, [], []⟩
def fn : List He.DefD := [dd_q_bag, dd_q_take, dd_q_gcd, dd_q_shares, dd_q_house, dd_q_whole, dd_is_name, dd_is_whole, dd_common, dd_is_ratio, dd_is_share, dd_common_multiple, dd_are_shares, dd_House___init__, dd_q_made, dd_q_spanned, dd_q_wide, dd_q_total, dd_many_coins, dd_by_drop, dd_by_keep, dd_House_whole, dd_by_hand, dd_by_turn, dd_may_be_left, dd_House_sizes, dd_House_first, dd_House_are_rests, dd_House_pass_on, dd_q_apart, dd_q_sizes, dd_q_rests, dd_House_span, dd_House_stride, dd_the_law]
def fa : List He.Fa := [.glo ("_law_bag" : Str), .glo ("_law_take" : Str), .glo ("_law_gcd" : Str), .glo ("_law_shares" : Str), .glo ("_law_house" : Str), .glo ("_law_whole" : Str), .glo ("is_name" : Str), .glo ("is_whole" : Str), .glo ("common" : Str), .glo ("is_ratio" : Str), .glo ("is_share" : Str), .glo ("common_multiple" : Str), .glo ("are_shares" : Str), .glo ("_law_made" : Str), .glo ("_law_spanned" : Str), .glo ("_law_wide" : Str), .glo ("_law_total" : Str), .glo ("many_coins" : Str), .glo ("by_drop" : Str), .glo ("by_keep" : Str), .glo ("by_hand" : Str), .glo ("by_turn" : Str), .glo ("may_be_left" : Str), .glo ("_law_apart" : Str), .glo ("_law_sizes" : Str), .glo ("_law_rests" : Str), .glo ("law" : Str), .glo ("House" : Str), .cls ("House" : Str), .noat ("House" : Str) ("coin" : Str), .noat ("House" : Str) ("name" : Str), .noat ("House" : Str) ("rule" : Str), .noat ("House" : Str) ("shares" : Str), .noat ("House" : Str) ("way" : Str), .meth ("House" : Str) ("whole" : Str), .meth ("House" : Str) ("sizes" : Str), .meth ("House" : Str) ("first" : Str), .meth ("House" : Str) ("are_rests" : Str), .meth ("House" : Str) ("pass_on" : Str), .meth ("House" : Str) ("span" : Str), .meth ("House" : Str) ("stride" : Str), .mkr ("House" : Str), .str ("LETTERS" : Str) ("abcdefghijklmnopqrstuvwxyz" : Str), .int ("MOST_COIN" : Str) 12, .int ("MOST_LETTERS" : Str) 8, .int ("MOST_SHARES" : Str) 4, .int ("MOST_UNDER" : Str) 12, .glo ("RULES" : Str), .glo ("WAYS" : Str), .glo ("DEEDS" : Str), .glo ("NoRests" : Str), .free ("abs" : Str), .free ("all" : Str), .free ("bool" : Str), .free ("divmod" : Str), .free ("int" : Str), .free ("isinstance" : Str), .free ("len" : Str), .free ("max" : Str), .free ("min" : Str), .free ("range" : Str), .free ("str" : Str), .free ("sum" : Str), .free ("tuple" : Str), .free ("zip" : Str)]
abbrev R : PySem.W.OpenRow := PySem.W.OpenLaw.row PySem.Challenge.rw_roundledger_k10_whole_strides
def ts : List He.Tab := [((fun K => He.ga K ("DEEDS" : Str)), [("drop" : Str), ("keep" : Str), ("hand" : Str), ("turn" : Str)])]
def xb : List (PySem.W.Frag → Bool) := [(fun K => He.tupB K ("RULES" : Str) (List.map He.Dv.str [("down" : Str), ("up" : Str), ("upper" : Str), ("lower" : Str), ("even" : Str)])), (fun K => He.tupB K ("WAYS" : Str) (List.map He.Dv.str [("drop" : Str), ("keep" : Str), ("hand" : Str), ("turn" : Str)])), (fun K => He.valsB K (He.ga K ("DEEDS" : Str)) [(("drop" : Str), .glo ("by_drop" : Str)), (("keep" : Str), .glo ("by_keep" : Str)), (("hand" : Str), .glo ("by_hand" : Str)), (("turn" : Str), .glo ("by_turn" : Str))]), (fun K => excB K (He.ga K ("NoRests" : Str)))]
abbrev hk : PySem.W.Hook := hookC 4 fa fn ts xb
def ob (s : PySem.W.SharedT) : AlC := obsC 4 fa fn ts xb (HandSHeadRun.getT s)
theorem ob_eq (s : PySem.W.SharedT) : ob s = hk.obs s.abs := obsC_eq (HandSHeadRun.getT_eq s)
abbrev RunAt (w : World) : Prop := HandSHeadRun.RunEq R (PySem.W.view R.prog [43]) hk ob 40000 [("_wall" : Str), ("NoHouse" : Str), ("NoRests" : Str), ("RULES" : Str), ("is_whole" : Str), ("common" : Str), ("common_multiple" : Str), ("is_ratio" : Str), ("many_coins" : Str), ("may_be_left" : Str), ("MOST_LETTERS" : Str), ("MOST_SHARES" : Str), ("MOST_UNDER" : Str), ("COIN" : Str), ("MOST_COIN" : Str), ("WAYS" : Str), ("LETTERS" : Str), ("is_name" : Str), ("is_share" : Str), ("are_shares" : Str), ("by_drop" : Str), ("by_keep" : Str), ("by_hand" : Str), ("by_turn" : Str), ("DEEDS" : Str), ("House" : Str), ("_law_bag" : Str), ("_law_take" : Str), ("_law_wide" : Str), ("_law_gcd" : Str), ("_law_shares" : Str), ("_law_house" : Str), ("_law_total" : Str), ("_law_made" : Str), ("_law_whole" : Str), ("_law_sizes" : Str), ("_law_rests" : Str), ("_law_spanned" : Str), ("_law_apart" : Str)] w
theorem runF (w : World) : RunAt (w.withFollow "special-get-raises" false) := by
  intro os
  kernel_rfl
theorem runT (w : World) : RunAt (w.withFollow "special-get-raises" true) := by
  intro os
  kernel_rfl
theorem run (w : World) : RunAt w := PySem.W.byRow2 "special-get-raises" (P := RunAt) runF runT w
theorem facts {P : Program} {w : World} {K : PySem.W.Frag} {h : Heap} {mg : Str → Option Value} {f : Addr} (X : K.In h) (G : h.Ns mainGlobals mg) (hfa : mg ("law" : Str) = some (.ref f)) (ct : He.SaysT fa fn ts w K) (cx : bxB xb K = true) :
    ∃ fd : FuncData, (∀ (s : Shared) (v : Value), BindsTo s fd ⟨[v], []⟩ [(("_law_script" : Str), v)]) ∧ ∀ base : Heap, K.In base → base.Ns mainGlobals mg → FnG P w K mg base 9 f fd K10.ps_the_law (spF ⟨K, mg⟩ 1 K10.F_the_law) := by
  have c := ct.d
  obtain ⟨fd_q_bag, F_q_bag⟩ := c.def_ 0 (d := dd_q_bag) rfl
  have m_q_bag := He.glo_ok X G (c.fact 0 (f := .glo ("_law_bag" : Str)) rfl)
  obtain ⟨fd_q_take, F_q_take⟩ := c.def_ 1 (d := dd_q_take) rfl
  have m_q_take := He.glo_ok X G (c.fact 1 (f := .glo ("_law_take" : Str)) rfl)
  obtain ⟨fd_q_gcd, F_q_gcd⟩ := c.def_ 2 (d := dd_q_gcd) rfl
  have m_q_gcd := He.glo_ok X G (c.fact 2 (f := .glo ("_law_gcd" : Str)) rfl)
  obtain ⟨fd_q_shares, F_q_shares⟩ := c.def_ 3 (d := dd_q_shares) rfl
  have m_q_shares := He.glo_ok X G (c.fact 3 (f := .glo ("_law_shares" : Str)) rfl)
  obtain ⟨fd_q_house, F_q_house⟩ := c.def_ 4 (d := dd_q_house) rfl
  have m_q_house := He.glo_ok X G (c.fact 4 (f := .glo ("_law_house" : Str)) rfl)
  obtain ⟨fd_q_whole, F_q_whole⟩ := c.def_ 5 (d := dd_q_whole) rfl
  have m_q_whole := He.glo_ok X G (c.fact 5 (f := .glo ("_law_whole" : Str)) rfl)
  obtain ⟨fd_is_name, F_is_name⟩ := c.def_ 6 (d := dd_is_name) rfl
  have m_is_name := He.glo_ok X G (c.fact 6 (f := .glo ("is_name" : Str)) rfl)
  obtain ⟨fd_is_whole, F_is_whole⟩ := c.def_ 7 (d := dd_is_whole) rfl
  have m_is_whole := He.glo_ok X G (c.fact 7 (f := .glo ("is_whole" : Str)) rfl)
  obtain ⟨fd_common, F_common⟩ := c.def_ 8 (d := dd_common) rfl
  have m_common := He.glo_ok X G (c.fact 8 (f := .glo ("common" : Str)) rfl)
  obtain ⟨fd_is_ratio, F_is_ratio⟩ := c.def_ 9 (d := dd_is_ratio) rfl
  have m_is_ratio := He.glo_ok X G (c.fact 9 (f := .glo ("is_ratio" : Str)) rfl)
  obtain ⟨fd_is_share, F_is_share⟩ := c.def_ 10 (d := dd_is_share) rfl
  have m_is_share := He.glo_ok X G (c.fact 10 (f := .glo ("is_share" : Str)) rfl)
  obtain ⟨fd_common_multiple, F_common_multiple⟩ := c.def_ 11 (d := dd_common_multiple) rfl
  have m_common_multiple := He.glo_ok X G (c.fact 11 (f := .glo ("common_multiple" : Str)) rfl)
  obtain ⟨fd_are_shares, F_are_shares⟩ := c.def_ 12 (d := dd_are_shares) rfl
  have m_are_shares := He.glo_ok X G (c.fact 12 (f := .glo ("are_shares" : Str)) rfl)
  obtain ⟨fd_House___init__, F_House___init__⟩ := c.def_ 13 (d := dd_House___init__) rfl
  obtain ⟨fd_q_made, F_q_made⟩ := c.def_ 14 (d := dd_q_made) rfl
  have m_q_made := He.glo_ok X G (c.fact 13 (f := .glo ("_law_made" : Str)) rfl)
  obtain ⟨fd_q_spanned, F_q_spanned⟩ := c.def_ 15 (d := dd_q_spanned) rfl
  have m_q_spanned := He.glo_ok X G (c.fact 14 (f := .glo ("_law_spanned" : Str)) rfl)
  obtain ⟨fd_q_wide, F_q_wide⟩ := c.def_ 16 (d := dd_q_wide) rfl
  have m_q_wide := He.glo_ok X G (c.fact 15 (f := .glo ("_law_wide" : Str)) rfl)
  obtain ⟨fd_q_total, F_q_total⟩ := c.def_ 17 (d := dd_q_total) rfl
  have m_q_total := He.glo_ok X G (c.fact 16 (f := .glo ("_law_total" : Str)) rfl)
  obtain ⟨fd_many_coins, F_many_coins⟩ := c.def_ 18 (d := dd_many_coins) rfl
  have m_many_coins := He.glo_ok X G (c.fact 17 (f := .glo ("many_coins" : Str)) rfl)
  obtain ⟨fd_by_drop, F_by_drop⟩ := c.def_ 19 (d := dd_by_drop) rfl
  have m_by_drop := He.glo_ok X G (c.fact 18 (f := .glo ("by_drop" : Str)) rfl)
  obtain ⟨fd_by_keep, F_by_keep⟩ := c.def_ 20 (d := dd_by_keep) rfl
  have m_by_keep := He.glo_ok X G (c.fact 19 (f := .glo ("by_keep" : Str)) rfl)
  obtain ⟨fd_House_whole, F_House_whole⟩ := c.def_ 21 (d := dd_House_whole) rfl
  obtain ⟨fd_by_hand, F_by_hand⟩ := c.def_ 22 (d := dd_by_hand) rfl
  have m_by_hand := He.glo_ok X G (c.fact 20 (f := .glo ("by_hand" : Str)) rfl)
  obtain ⟨fd_by_turn, F_by_turn⟩ := c.def_ 23 (d := dd_by_turn) rfl
  have m_by_turn := He.glo_ok X G (c.fact 21 (f := .glo ("by_turn" : Str)) rfl)
  obtain ⟨fd_may_be_left, F_may_be_left⟩ := c.def_ 24 (d := dd_may_be_left) rfl
  have m_may_be_left := He.glo_ok X G (c.fact 22 (f := .glo ("may_be_left" : Str)) rfl)
  obtain ⟨fd_House_sizes, F_House_sizes⟩ := c.def_ 25 (d := dd_House_sizes) rfl
  obtain ⟨fd_House_first, F_House_first⟩ := c.def_ 26 (d := dd_House_first) rfl
  obtain ⟨fd_House_are_rests, F_House_are_rests⟩ := c.def_ 27 (d := dd_House_are_rests) rfl
  obtain ⟨fd_House_pass_on, F_House_pass_on⟩ := c.def_ 28 (d := dd_House_pass_on) rfl
  obtain ⟨fd_q_apart, F_q_apart⟩ := c.def_ 29 (d := dd_q_apart) rfl
  have m_q_apart := He.glo_ok X G (c.fact 23 (f := .glo ("_law_apart" : Str)) rfl)
  obtain ⟨fd_q_sizes, F_q_sizes⟩ := c.def_ 30 (d := dd_q_sizes) rfl
  have m_q_sizes := He.glo_ok X G (c.fact 24 (f := .glo ("_law_sizes" : Str)) rfl)
  obtain ⟨fd_q_rests, F_q_rests⟩ := c.def_ 31 (d := dd_q_rests) rfl
  have m_q_rests := He.glo_ok X G (c.fact 25 (f := .glo ("_law_rests" : Str)) rfl)
  obtain ⟨fd_House_span, F_House_span⟩ := c.def_ 32 (d := dd_House_span) rfl
  obtain ⟨fd_House_stride, F_House_stride⟩ := c.def_ 33 (d := dd_House_stride) rfl
  obtain ⟨fd_the_law, F_the_law⟩ := c.def_ 34 (d := dd_the_law) rfl
  have m_the_law := He.glo_ok X G (c.fact 26 (f := .glo ("law" : Str)) rfl)
  have hc_House := He.glo_ok X G (c.fact 27 (f := .glo ("House" : Str)) rfl)
  have kc_House := He.cls_ok (c.fact 28 (f := .cls ("House" : Str)) rfl)
  have na_House_coin := He.noat_ok (c.fact 29 (f := .noat ("House" : Str) ("coin" : Str)) rfl)
  have na_House_name := He.noat_ok (c.fact 30 (f := .noat ("House" : Str) ("name" : Str)) rfl)
  have na_House_rule := He.noat_ok (c.fact 31 (f := .noat ("House" : Str) ("rule" : Str)) rfl)
  have na_House_shares := He.noat_ok (c.fact 32 (f := .noat ("House" : Str) ("shares" : Str)) rfl)
  have na_House_way := He.noat_ok (c.fact 33 (f := .noat ("House" : Str) ("way" : Str)) rfl)
  have me_House_whole := He.meth_ok (c.fact 34 (f := .meth ("House" : Str) ("whole" : Str)) rfl)
  have me_House_sizes := He.meth_ok (c.fact 35 (f := .meth ("House" : Str) ("sizes" : Str)) rfl)
  have me_House_first := He.meth_ok (c.fact 36 (f := .meth ("House" : Str) ("first" : Str)) rfl)
  have me_House_are_rests := He.meth_ok (c.fact 37 (f := .meth ("House" : Str) ("are_rests" : Str)) rfl)
  have me_House_pass_on := He.meth_ok (c.fact 38 (f := .meth ("House" : Str) ("pass_on" : Str)) rfl)
  have me_House_span := He.meth_ok (c.fact 39 (f := .meth ("House" : Str) ("span" : Str)) rfl)
  have me_House_stride := He.meth_ok (c.fact 40 (f := .meth ("House" : Str) ("stride" : Str)) rfl)
  have me_House___init__ := He.mkr_ok (c.fact 41 (f := .mkr ("House" : Str)) rfl)
  obtain ⟨t_LETTERS, mv_LETTERS⟩ := He.str_ok X G (c.fact 42 (f := .str ("LETTERS" : Str) ("abcdefghijklmnopqrstuvwxyz" : Str)) rfl)
  have gv_LETTERS : ∃ u v, mg ("LETTERS" : Str) = some u ∧ RelV v u ∧ Stat ⟨K, mg⟩ (.str ("abcdefghijklmnopqrstuvwxyz" : Str)) v := ⟨_, .str ("abcdefghijklmnopqrstuvwxyz" : Str), mv_LETTERS, ⟨_, rfl⟩, fun _ _ => repP_str.mpr rfl⟩
  obtain ⟨t_MOST_COIN, mv_MOST_COIN⟩ := He.int_ok X G (c.fact 43 (f := .int ("MOST_COIN" : Str) 12) rfl)
  have gv_MOST_COIN : ∃ u v, mg ("MOST_COIN" : Str) = some u ∧ RelV v u ∧ Stat ⟨K, mg⟩ (.int 12) v := ⟨_, .int 12, mv_MOST_COIN, ⟨_, rfl⟩, fun _ _ => repP_int.mpr rfl⟩
  obtain ⟨t_MOST_LETTERS, mv_MOST_LETTERS⟩ := He.int_ok X G (c.fact 44 (f := .int ("MOST_LETTERS" : Str) 8) rfl)
  have gv_MOST_LETTERS : ∃ u v, mg ("MOST_LETTERS" : Str) = some u ∧ RelV v u ∧ Stat ⟨K, mg⟩ (.int 8) v := ⟨_, .int 8, mv_MOST_LETTERS, ⟨_, rfl⟩, fun _ _ => repP_int.mpr rfl⟩
  obtain ⟨t_MOST_SHARES, mv_MOST_SHARES⟩ := He.int_ok X G (c.fact 45 (f := .int ("MOST_SHARES" : Str) 4) rfl)
  have gv_MOST_SHARES : ∃ u v, mg ("MOST_SHARES" : Str) = some u ∧ RelV v u ∧ Stat ⟨K, mg⟩ (.int 4) v := ⟨_, .int 4, mv_MOST_SHARES, ⟨_, rfl⟩, fun _ _ => repP_int.mpr rfl⟩
  obtain ⟨t_MOST_UNDER, mv_MOST_UNDER⟩ := He.int_ok X G (c.fact 46 (f := .int ("MOST_UNDER" : Str) 12) rfl)
  have gv_MOST_UNDER : ∃ u v, mg ("MOST_UNDER" : Str) = some u ∧ RelV v u ∧ Stat ⟨K, mg⟩ (.int 12) v := ⟨_, .int 12, mv_MOST_UNDER, ⟨_, rfl⟩, fun _ _ => repP_int.mpr rfl⟩
  have gm_RULES := He.glo_ok X G (c.fact 47 (f := .glo ("RULES" : Str)) rfl)
  have gv_RULES : ∃ u v, mg ("RULES" : Str) = some u ∧ RelV v u ∧ Stat ⟨K, mg⟩ (.tup [(.str ("down" : Str)), (.str ("up" : Str)), (.str ("upper" : Str)), (.str ("lower" : Str)), (.str ("even" : Str))]) v := tup_stat (ws := [("down" : Str), ("up" : Str), ("upper" : Str), ("lower" : Str), ("even" : Str)]) gm_RULES (bxB_at cx 0 (b := (fun K => He.tupB K ("RULES" : Str) (List.map He.Dv.str [("down" : Str), ("up" : Str), ("upper" : Str), ("lower" : Str), ("even" : Str)]))) rfl)
  have gm_WAYS := He.glo_ok X G (c.fact 48 (f := .glo ("WAYS" : Str)) rfl)
  have gv_WAYS : ∃ u v, mg ("WAYS" : Str) = some u ∧ RelV v u ∧ Stat ⟨K, mg⟩ (.tup [(.str ("drop" : Str)), (.str ("keep" : Str)), (.str ("hand" : Str)), (.str ("turn" : Str))]) v := tup_stat (ws := [("drop" : Str), ("keep" : Str), ("hand" : Str), ("turn" : Str)]) gm_WAYS (bxB_at cx 1 (b := (fun K => He.tupB K ("WAYS" : Str) (List.map He.Dv.str [("drop" : Str), ("keep" : Str), ("hand" : Str), ("turn" : Str)]))) rfl)
  have tm_DEEDS := He.glo_ok X G (c.fact 49 (f := .glo ("DEEDS" : Str)) rfl)
  obtain ⟨es_DEEDS, en_DEEDS, kd_DEEDS⟩ := ct.tab 0 (t := ((fun K => He.ga K ("DEEDS" : Str)), [("drop" : Str), ("keep" : Str), ("hand" : Str), ("turn" : Str)])) rfl
  have vb_DEEDS := (bxB_at cx 2 (b := (fun K => He.valsB K (He.ga K ("DEEDS" : Str)) [(("drop" : Str), .glo ("by_drop" : Str)), (("keep" : Str), .glo ("by_keep" : Str)), (("hand" : Str), .glo ("by_hand" : Str)), (("turn" : Str), .glo ("by_turn" : Str))])) rfl)
  have tb_DEEDS : TabG w K mg (("DEEDS" : Str), [(("drop" : Str), ("by_drop" : Str)), (("keep" : Str), ("by_keep" : Str)), (("hand" : Str), ("by_hand" : Str)), (("turn" : Str), ("by_turn" : Str))]) := ⟨_, tm_DEEDS, (allC (tab_one kd_DEEDS vb_DEEDS (by simp) m_by_drop) (allC (tab_one kd_DEEDS vb_DEEDS (by simp) m_by_keep) (allC (tab_one kd_DEEDS vb_DEEDS (by simp) m_by_hand) (allC (tab_one kd_DEEDS vb_DEEDS (by simp) m_by_turn) allN))))⟩
  have xm_NoRests := He.glo_ok X G (c.fact 50 (f := .glo ("NoRests" : Str)) rfl)
  have xc_NoRests : ExcG K mg ("NoRests" : Str) := ⟨_, xm_NoRests, (bxB_at cx 3 (b := (fun K => excB K (He.ga K ("NoRests" : Str)))) rfl)⟩
  have e := hfa.symm.trans m_the_law
  cases e
  have b := FunD.bindsA (ps := K10.ps_the_law) F_the_law fun _ _ _ _ _ _ us hl => match us, hl with | [_], _ => rfl
  have Z : Fns P w K mg := ⟨⟨_, _, m_q_bag, F_q_bag⟩, ⟨_, _, m_q_take, F_q_take⟩, ⟨_, _, m_q_gcd, F_q_gcd⟩, ⟨_, _, m_q_shares, F_q_shares⟩, ⟨_, _, m_q_house, F_q_house⟩, ⟨_, _, m_q_whole, F_q_whole⟩, ⟨_, _, m_is_name, F_is_name⟩, ⟨_, _, m_is_whole, F_is_whole⟩, ⟨_, _, m_common, F_common⟩, ⟨_, _, m_is_ratio, F_is_ratio⟩, ⟨_, _, m_is_share, F_is_share⟩, ⟨_, _, m_common_multiple, F_common_multiple⟩, ⟨_, _, m_are_shares, F_are_shares⟩, ⟨_, _, m_q_made, F_q_made⟩, ⟨_, _, m_q_spanned, F_q_spanned⟩, ⟨_, _, m_q_wide, F_q_wide⟩, ⟨_, _, m_q_total, F_q_total⟩, ⟨_, _, m_many_coins, F_many_coins⟩, ⟨_, _, m_by_drop, F_by_drop⟩, ⟨_, _, m_by_keep, F_by_keep⟩, ⟨_, _, m_by_hand, F_by_hand⟩, ⟨_, _, m_by_turn, F_by_turn⟩, ⟨_, _, m_may_be_left, F_may_be_left⟩, ⟨_, _, m_q_apart, F_q_apart⟩, ⟨_, _, m_q_sizes, F_q_sizes⟩, ⟨_, _, m_q_rests, F_q_rests⟩, ⟨_, _, m_the_law, F_the_law⟩, He.free_ok X G (c.fact 51 (f := .free ("abs" : Str)) rfl), He.free_ok X G (c.fact 52 (f := .free ("all" : Str)) rfl), He.free_ok X G (c.fact 53 (f := .free ("bool" : Str)) rfl), He.free_ok X G (c.fact 54 (f := .free ("divmod" : Str)) rfl), He.free_ok X G (c.fact 55 (f := .free ("int" : Str)) rfl), He.free_ok X G (c.fact 56 (f := .free ("isinstance" : Str)) rfl), He.free_ok X G (c.fact 57 (f := .free ("len" : Str)) rfl), He.free_ok X G (c.fact 58 (f := .free ("max" : Str)) rfl), He.free_ok X G (c.fact 59 (f := .free ("min" : Str)) rfl), He.free_ok X G (c.fact 60 (f := .free ("range" : Str)) rfl), He.free_ok X G (c.fact 61 (f := .free ("str" : Str)) rfl), He.free_ok X G (c.fact 62 (f := .free ("sum" : Str)) rfl), He.free_ok X G (c.fact 63 (f := .free ("tuple" : Str)) rfl), He.free_ok X G (c.fact 64 (f := .free ("zip" : Str)) rfl), tb_DEEDS, xc_NoRests, gv_LETTERS, gv_MOST_COIN, gv_MOST_LETTERS, gv_MOST_SHARES, gv_MOST_UNDER, gv_RULES, gv_WAYS, ⟨_, hc_House, kc_House, na_House_coin, na_House_name, na_House_rule, na_House_shares, na_House_way, ⟨_, _, me_House_whole, F_House_whole⟩, ⟨_, _, me_House_sizes, F_House_sizes⟩, ⟨_, _, me_House_first, F_House_first⟩, ⟨_, _, me_House_are_rests, F_House_are_rests⟩, ⟨_, _, me_House_pass_on, F_House_pass_on⟩, ⟨_, _, me_House_span, F_House_span⟩, ⟨_, _, me_House_stride, F_House_stride⟩, ⟨_, _, me_House___init__, F_House___init__⟩⟩⟩
  exact ⟨fd_the_law, fun s v => b s [v] rfl, fun base _ _ => ok_law Z F_the_law⟩
end HK10
open PySem PySem.W PySem.Calls PyProof.Rows
theorem PySem.Challenge.cw_roundledger_k10_whole_strides_holds : PySem.Challenge.rw_roundledger_k10_whole_strides.Holds := by
  w_on; o_law
  refine HandSHeadRun.head_any (r := OpenLaw.row PySem.Challenge.rw_roundledger_k10_whole_strides) (q := view (OpenLaw.row PySem.Challenge.rw_roundledger_k10_whole_strides).prog [43]) (H := HK10.hk) (ob := HK10.ob) (M := 40000) (loose := [("_wall" : Str), ("NoHouse" : Str), ("NoRests" : Str), ("RULES" : Str), ("is_whole" : Str), ("common" : Str), ("common_multiple" : Str), ("is_ratio" : Str), ("many_coins" : Str), ("may_be_left" : Str), ("MOST_LETTERS" : Str), ("MOST_SHARES" : Str), ("MOST_UNDER" : Str), ("COIN" : Str), ("MOST_COIN" : Str), ("WAYS" : Str), ("LETTERS" : Str), ("is_name" : Str), ("is_share" : Str), ("are_shares" : Str), ("by_drop" : Str), ("by_keep" : Str), ("by_hand" : Str), ("by_turn" : Str), ("DEEDS" : Str), ("House" : Str), ("_law_bag" : Str), ("_law_take" : Str), ("_law_wide" : Str), ("_law_gcd" : Str), ("_law_shares" : Str), ("_law_house" : Str), ("_law_total" : Str), ("_law_made" : Str), ("_law_whole" : Str), ("_law_sizes" : Str), ("_law_rests" : Str), ("_law_spanned" : Str), ("_law_apart" : Str)]) (d := HandSHeadRun.topDef (OpenLaw.row PySem.Challenge.rw_roundledger_k10_whole_strides).prog 43) (kwd := []) HK10.ob_eq
    (by kernel_rfl) (fun s => by kernel_rfl) HK10.run (by kernel_rfl) (by kernel_rfl) (by kernel_rfl) (by rfl) (by first | assumption | decide +kernel) (by decide +kernel) ⟨rfl, rfl, rfl, rfl, rfl, by decide +kernel⟩ ?hw ?hc
  case hw => w_witness2
  case hc =>
    refine CI.walkG (l := PySem.Challenge.rw_roundledger_k10_whole_strides) (n := 63) (k := 9) (y := ("_law_script" : Str)) (Fl := K10.F_the_law) rfl (by decide) (by kernel_rfl) ⟨rfl, by decide, by decide⟩ ?F K10.law_says
    intro w mg fa h Y G hmg0
    obtain ⟨K, KX, ct, cx⟩ := Y
    have hmg : mg ("law" : PySem.Str) = some (.ref fa) := by
      have e : (HandSHeadRun.topDef (OpenLaw.row PySem.Challenge.rw_roundledger_k10_whole_strides).prog 43).name = ("law" : PySem.Str) := by kernel_rfl
      rw [← e]
      exact hmg0
    obtain ⟨fd, hb, hF⟩ := HK10.facts (P := (PySem.Challenge.rw_roundledger_k10_whole_strides).prog) (w := w) KX G hmg ct cx
    exact ⟨K, fd, KX, hb, hF⟩
